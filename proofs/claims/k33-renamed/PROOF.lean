import PyProof.Rows.All
import Wide.All
import OpenK.AllK
import Wide.FinOn
import KE.KStateDown
import HandS.ForMost
import HandS.Exc
import HandS.More
import HandS.WordsExc
import HandS.Defaults
import HandS.Property
import HandS.IsInst
import HandS.Codes
import HandS.Head0
import HandS.Head1
import HandS.Head2
import HandS.HeadEnd
import HandS.HeadHook1
import HandS.HeadHook2
import PySem.Challenge.RW_turnbalance_k33_whole_backward_and_renam
import HandS.GenList
import HandS.Wide
import HandS.DictComp
import HandS.Star
import HandS.StrMore
import HandS.Style
import HandS.AnyAll
import HandS.Conv
import HandS.RevRange
import HandS.Walk
import KE.GoesMore
import KE.GoesEnum
import KE.KDictList
set_option Elab.async false
set_option linter.all false
set_option maxRecDepth 100000
set_option maxHeartbeats 0
namespace TB
open PySem PySem.Spec PyProof.Rows L2
abbrev PG : Program := PySem.Challenge.pw_turnbalance_k33_whole_backward_and_renam
/-- the text by places -/
def atTop (i : Nat) : Stmt := PG.main.body.getD i (.Pass ⟨0, 0, 0, 0⟩)
/-! a property's getter, found through the class -/
def propAt (K : PySem.W.Frag) (x f : Str) : Addr := match PySem.W.findIn K (.ref (He.ga K x)) f with
  | some (some (.ref p)) => p
  | _ => 0
def getterAt (K : PySem.W.Frag) (x f : Str) : Addr := match PySem.W.recIn K (propAt K x f) "property" with
  | some (.ref g :: _) => g
  | _ => 0
/-- a def at any address: its data as the head sees them -/
def seenFn (K : PySem.W.Frag) (a : Addr) : He.FnW :=
  match K.lookup a with
  | some ⟨_, _, Data.func q, _⟩ => some ⟨q.name, q.qualname, q.params, q.body, q.scope, q.globals, q.closure, q.builtins⟩
  | _ => none
def plainDefaults (v : Value) : Bool := match v with
  | .none => true
  | _ => false
def getterOk (K : PySem.W.Frag) (x f : Str) (qual : Str) : Bool :=
  (He.eqO (PySem.W.findIn K (.ref (He.ga K x)) f) (some (some (.ref (propAt K x f)))) && He.eqO (PySem.W.specialIn K (.ref (propAt K x f)) "__get__") (some (some (.builtin "property.__get__")))) &&
  (decide (PySem.W.takesIn K (.ref (propAt K x f)) = some true) && (match PySem.W.recIn K (propAt K x f) "property" with
    | some (.ref _ :: _) => true
    | _ => false)) &&
  (PySem.W.keepIn K (.ref (getterAt K x f)) && (match K.lookup (getterAt K x f) with
    | some ⟨_, _, Data.func q, _⟩ => PySem.W.codeIn K q.code qual && plainDefaults q.defaults
    | _ => false))
def turnsOk (K : PySem.W.Frag) : Bool :=
  (getterOk K "Turns" "text" "Turns.text" && getterOk K "Turns" "players" "Turns.players") &&
  ((He.eqO (PySem.W.findIn K (.ref (He.ga K "Turns")) "__class__") (some (some (.builtin "object.__class__"))) && He.eqO (PySem.W.specialIn K (.builtin "object.__class__") "__get__") (some (some (.builtin "getset_descriptor.__get__")))) &&
  (decide (PySem.W.takesIn K (.builtin "object.__class__") = some true) && (decide (PySem.W.mroIn K (He.ga K "Turns") (.type "object") = some true) && decide (PySem.W.kitOne K (.ref (He.ga K "Turns")) (.ref (He.ga K "Turns")) = some true)))) &&
  (He.eqO (PySem.W.findIn K (.ref (He.ga K "Turns")) "__len__") (some (some (.ref (He.ma K (He.ga K "Turns") "__len__")))) && PySem.W.isFn K (.ref (He.ma K (He.ga K "Turns") "__len__")))
end TB
set_option maxHeartbeats 0
namespace TB
open PySem PySem.Spec PyProof.Rows L2
abbrev s_is_integer : Stmt := atTop 13
abbrev s_in_range : Stmt := atTop 14
abbrev s_check_number : Stmt := atTop 15
abbrev s_check_length : Stmt := atTop 16
abbrev s_T_init : Stmt := inClass (atTop 17) 1
abbrev s_P_text : Stmt := inClass (atTop 17) 3
abbrev s_P_players : Stmt := inClass (atTop 17) 4
abbrev s_T_check_player : Stmt := inClass (atTop 17) 5
abbrev s_T_positions : Stmt := inClass (atTop 17) 6
abbrev s_T_count : Stmt := inClass (atTop 17) 7
abbrev s_T_backward : Stmt := inClass (atTop 17) 8
abbrev s_T_renamed : Stmt := inClass (atTop 17) 9
abbrev s_T_len : Stmt := inClass (atTop 17) 14
abbrev s_check_turns : Stmt := atTop 18
abbrev s_letters_of : Stmt := atTop 19
abbrev s_next_binomials : Stmt := atTop 22
abbrev s_binomial_rows : Stmt := atTop 23
abbrev s_totals_for : Stmt := atTop 24
abbrev s_binomial_totals : Stmt := atTop 25
abbrev s_first_difference : Stmt := atTop 26
abbrev s_all_pairs : Stmt := atTop 27
abbrev s_certificate : Stmt := atTop 28
abbrev s_order : Stmt := atTop 29
abbrev s_pair_order : Stmt := atTop 30
abbrev s_values_with : Stmt := atTop 32
abbrev s_signs : Stmt := atTop 33
abbrev s_weights : Stmt := atTop 34
abbrev s_check_bound : Stmt := atTop 35
abbrev s_greatest_difference : Stmt := atTop 36
abbrev s_one_drop : Stmt := atTop 38
abbrev s_favoured : Stmt := atTop 39
abbrev s_check_factors : Stmt := atTop 41
abbrev s_raised : Stmt := atTop 42
abbrev s_product_of_two : Stmt := atTop 43
abbrev s_product : Stmt := atTop 44
abbrev s_law_hand : Stmt := atTop 46
abbrev s_law_draw : Stmt := atTop 47
abbrev s_law_text : Stmt := atTop 48
abbrev s_law_product : Stmt := atTop 49
abbrev s_law_fair : Stmt := atTop 50
abbrev s_law_names : Stmt := atTop 51
abbrev s_law_back : Stmt := atTop 52
abbrev s_law_renamed : Stmt := atTop 53
abbrev s_law : Stmt := atTop 54
def d_is_integer : He.DefD := ⟨("is_integer", none), "is_integer", "is_integer", defArgs s_is_integer, defBody s_is_integer, defScope s_is_integer, [], []⟩
def d_in_range : He.DefD := ⟨("in_range", none), "in_range", "in_range", defArgs s_in_range, defBody s_in_range, defScope s_in_range, [], []⟩
def d_check_number : He.DefD := ⟨("check_number", none), "check_number", "check_number", defArgs s_check_number, defBody s_check_number, defScope s_check_number, [], []⟩
def d_check_length : He.DefD := ⟨("check_length", none), "check_length", "check_length", defArgs s_check_length, defBody s_check_length, defScope s_check_length, [], []⟩
def d_T_init : He.DefD := ⟨("Turns", some "__init__"), "__init__", "Turns.__init__", defArgs s_T_init, defBody s_T_init, defScope s_T_init, [], []⟩
def d_T_check_player : He.DefD := ⟨("Turns", some "check_player"), "check_player", "Turns.check_player", defArgs s_T_check_player, defBody s_T_check_player, defScope s_T_check_player, [], []⟩
def d_T_positions : He.DefD := ⟨("Turns", some "positions"), "positions", "Turns.positions", defArgs s_T_positions, defBody s_T_positions, defScope s_T_positions, [], []⟩
def d_T_count : He.DefD := ⟨("Turns", some "count"), "count", "Turns.count", defArgs s_T_count, defBody s_T_count, defScope s_T_count, [], []⟩
def d_T_backward : He.DefD := ⟨("Turns", some "backward"), "backward", "Turns.backward", defArgs s_T_backward, defBody s_T_backward, defScope s_T_backward, [], []⟩
def d_T_renamed : He.DefD := ⟨("Turns", some "renamed"), "renamed", "Turns.renamed", defArgs s_T_renamed, defBody s_T_renamed, defScope s_T_renamed, [], []⟩
def d_T_len : He.DefD := ⟨("Turns", some "__len__"), "__len__", "Turns.__len__", defArgs s_T_len, defBody s_T_len, defScope s_T_len, [], []⟩
def d_check_turns : He.DefD := ⟨("check_turns", none), "check_turns", "check_turns", defArgs s_check_turns, defBody s_check_turns, defScope s_check_turns, [], []⟩
def d_letters_of : He.DefD := ⟨("letters_of", none), "letters_of", "letters_of", defArgs s_letters_of, defBody s_letters_of, defScope s_letters_of, [], []⟩
def d_next_binomials : He.DefD := ⟨("next_binomials", none), "next_binomials", "next_binomials", defArgs s_next_binomials, defBody s_next_binomials, defScope s_next_binomials, [], []⟩
def d_binomial_rows : He.DefD := ⟨("binomial_rows", none), "binomial_rows", "binomial_rows", defArgs s_binomial_rows, defBody s_binomial_rows, defScope s_binomial_rows, [], []⟩
def d_totals_for : He.DefD := ⟨("totals_for", none), "totals_for", "totals_for", defArgs s_totals_for, defBody s_totals_for, defScope s_totals_for, [], []⟩
def d_binomial_totals : He.DefD := ⟨("binomial_totals", none), "binomial_totals", "binomial_totals", defArgs s_binomial_totals, defBody s_binomial_totals, defScope s_binomial_totals, [], []⟩
def d_first_difference : He.DefD := ⟨("first_difference", none), "first_difference", "first_difference", defArgs s_first_difference, defBody s_first_difference, defScope s_first_difference, [], []⟩
def d_all_pairs : He.DefD := ⟨("all_pairs", none), "all_pairs", "all_pairs", defArgs s_all_pairs, defBody s_all_pairs, defScope s_all_pairs, [], []⟩
def d_certificate : He.DefD := ⟨("certificate", none), "certificate", "certificate", defArgs s_certificate, defBody s_certificate, defScope s_certificate, [], []⟩
def d_order : He.DefD := ⟨("order", none), "order", "order", defArgs s_order, defBody s_order, defScope s_order, [], []⟩
def d_pair_order : He.DefD := ⟨("pair_order", none), "pair_order", "pair_order", defArgs s_pair_order, defBody s_pair_order, defScope s_pair_order, [], []⟩
def d_values_with : He.DefD := ⟨("values_with", none), "values_with", "values_with", defArgs s_values_with, defBody s_values_with, defScope s_values_with, [], []⟩
def d_signs : He.DefD := ⟨("signs", none), "signs", "signs", defArgs s_signs, defBody s_signs, defScope s_signs, [], []⟩
def d_weights : He.DefD := ⟨("weights", none), "weights", "weights", defArgs s_weights, defBody s_weights, defScope s_weights, [], []⟩
def d_check_bound : He.DefD := ⟨("check_bound", none), "check_bound", "check_bound", defArgs s_check_bound, defBody s_check_bound, defScope s_check_bound, [], []⟩
def d_greatest_difference : He.DefD := ⟨("greatest_difference", none), "greatest_difference", "greatest_difference", defArgs s_greatest_difference, defBody s_greatest_difference, defScope s_greatest_difference, [], []⟩
def d_one_drop : He.DefD := ⟨("one_drop", none), "one_drop", "one_drop", defArgs s_one_drop, defBody s_one_drop, defScope s_one_drop, [], []⟩
def d_favoured : He.DefD := ⟨("favoured", none), "favoured", "favoured", defArgs s_favoured, defBody s_favoured, defScope s_favoured, [], []⟩
def d_check_factors : He.DefD := ⟨("check_factors", none), "check_factors", "check_factors", defArgs s_check_factors, defBody s_check_factors, defScope s_check_factors, [], []⟩
def d_raised : He.DefD := ⟨("raised", none), "raised", "raised", defArgs s_raised, defBody s_raised, defScope s_raised, [], []⟩
def d_product_of_two : He.DefD := ⟨("product_of_two", none), "product_of_two", "product_of_two", defArgs s_product_of_two, defBody s_product_of_two, defScope s_product_of_two, [], []⟩
def d_product : He.DefD := ⟨("product", none), "product", "product", defArgs s_product, defBody s_product, defScope s_product, [], []⟩
def d_law_hand : He.DefD := ⟨("_law_hand", none), "_law_hand", "_law_hand", defArgs s_law_hand, defBody s_law_hand, defScope s_law_hand, [], []⟩
def d_law_draw : He.DefD := ⟨("_law_draw", none), "_law_draw", "_law_draw", defArgs s_law_draw, defBody s_law_draw, defScope s_law_draw, [], []⟩
def d_law_text : He.DefD := ⟨("_law_text", none), "_law_text", "_law_text", defArgs s_law_text, defBody s_law_text, defScope s_law_text, [], []⟩
def d_law_product : He.DefD := ⟨("_law_product", none), "_law_product", "_law_product", defArgs s_law_product, defBody s_law_product, defScope s_law_product, [], []⟩
def d_law_fair : He.DefD := ⟨("_law_fair", none), "_law_fair", "_law_fair", defArgs s_law_fair, defBody s_law_fair, defScope s_law_fair, [], []⟩
def d_law_names : He.DefD := ⟨("_law_names", none), "_law_names", "_law_names", defArgs s_law_names, defBody s_law_names, defScope s_law_names, [], []⟩
def d_law_back : He.DefD := ⟨("_law_back", none), "_law_back", "_law_back", defArgs s_law_back, defBody s_law_back, defScope s_law_back, [], []⟩
def d_law_renamed : He.DefD := ⟨("_law_renamed", none), "_law_renamed", "_law_renamed", defArgs s_law_renamed, defBody s_law_renamed, defScope s_law_renamed, [], []⟩
def d_law : He.DefD := ⟨("law", none), "law", "law", defArgs s_law, defBody s_law, defScope s_law, [], []⟩
def theDefs : List He.DefD := [d_is_integer, d_in_range, d_check_number, d_check_length, d_T_init, d_T_check_player, d_T_positions, d_T_count, d_T_backward, d_T_renamed, d_T_len, d_check_turns, d_letters_of, d_next_binomials, d_binomial_rows, d_totals_for, d_binomial_totals, d_first_difference, d_all_pairs, d_certificate, d_order, d_pair_order, d_values_with, d_signs, d_weights, d_check_bound, d_greatest_difference, d_one_drop, d_favoured, d_check_factors, d_raised, d_product_of_two, d_product, d_law_hand, d_law_draw, d_law_text, d_law_product, d_law_fair, d_law_names, d_law_back, d_law_renamed, d_law]
def theFacts : List He.Fa := [.glo "is_integer", .glo "in_range", .glo "check_number", .glo "check_length", .glo "check_turns", .glo "letters_of", .glo "next_binomials", .glo "binomial_rows", .glo "totals_for", .glo "binomial_totals", .glo "first_difference", .glo "all_pairs", .glo "certificate", .glo "order", .glo "pair_order", .glo "values_with", .glo "signs", .glo "weights", .glo "check_bound", .glo "greatest_difference", .glo "one_drop", .glo "favoured", .glo "check_factors", .glo "raised", .glo "product_of_two", .glo "product", .glo "_law_hand", .glo "_law_draw", .glo "_law_text", .glo "_law_product", .glo "_law_fair", .glo "_law_names", .glo "_law_back", .glo "_law_renamed", .glo "law", .glo "Turns", .free "isinstance", .free "len", .free "any", .free "max", .free "min", .free "sum", .free "sorted", .free "list", .free "enumerate", .free "range", .free "abs", .free "int", .free "bool", .free "str", .int "MAX_TURNS_turns" 2000, .int "FEWEST_PLAYERS" 2, .int "MAX_DEGREE" 50, .str "LETTERS" "ABCDEF", .cls "Turns", .mkr "Turns", .noat "Turns" "own_text", .noat "Turns" "own_players", .meth "Turns" "check_player", .meth "Turns" "positions", .meth "Turns" "count", .meth "Turns" "backward", .meth "Turns" "renamed"]
def theGets : List (Str × He.DefD) := [("text", ⟨("Turns", none), "text", "Turns.text", defArgs s_P_text, defBody s_P_text, defScope s_P_text, [], []⟩), ("players", ⟨("Turns", none), "players", "Turns.players", defArgs s_P_players, defBody s_P_players, defScope s_P_players, [], []⟩)]
abbrev SeenT : Type := He.AlD × (Bool × List He.FnW)
def seeK (K : PySem.W.Frag) : SeenT := (He.obsD theFacts theDefs K, (turnsOk K, theGets.map fun g => seenFn K (getterAt K "Turns" g.1)))
def seeG (g : Addr → Option Obj) : SeenT := seeK (He.frG g (He.asD g 5))
def wantT : SeenT := (He.valD theDefs, (true, theGets.map fun g => g.2.val))
def Seen (K : PySem.W.Frag) : Prop := seeK K = wantT
def hook : PySem.W.Hook where
  α := SeenT
  obs := fun s => seeG s.heap.get?
  val := fun _ => wantT
  says := fun _ h => ∃ K : PySem.W.Frag, K.In h ∧ Seen K
  of := fun _ _ e => ⟨_, He.frG_in, e⟩
  keeps := fun _ _ _ ⟨K, hK, c⟩ k => ⟨K, hK.keeps k, c⟩
def lookT (s : PySem.W.SharedT) : SeenT := seeG (HandSHeadRun.getT s)
theorem lookT_eq (s : PySem.W.SharedT) : lookT s = hook.obs s.abs := by
  have e : HandSHeadRun.getT s = s.abs.heap.get? := funext (HandSHeadRun.getT_eq s)
  show seeG (HandSHeadRun.getT s) = seeG s.abs.heap.get?
  rw [e]
abbrev ROW : PySem.W.OpenRow := PySem.W.OpenLaw.row PySem.Challenge.rw_turnbalance_k33_whole_backward_and_renam
def otherNames : List Str := (["_wall", "InvalidTurns", "InvalidPlayer", "InvalidNames", "InvalidNumber", "InvalidFactors", "NotFair", "LimitExceeded", "LETTERS", "MAX_TURNS_turns", "FEWEST_PLAYERS", "is_integer", "in_range", "check_number", "check_length", "Turns", "check_turns", "letters_of", "MAX_DEGREE", "next_binomials", "binomial_rows", "totals_for", "binomial_totals"] : List Str) ++ (["first_difference", "all_pairs", "certificate", "order", "pair_order", "values_with", "signs", "weights", "check_bound", "greatest_difference", "one_drop", "favoured", "check_factors", "raised", "product_of_two", "product", "_law_hand", "_law_draw", "_law_text", "_law_product", "_law_fair", "_law_names", "_law_back", "_law_renamed"] : List Str)
theorem theRun (w : World) : HandSHeadRun.RunEq ROW (PySem.W.view PG [54]) hook lookT 4000 otherNames w := by
  intro os
  kernel_rfl
end TB
set_option maxHeartbeats 4000000
/-! A suspended generator that a run never wakes is as it was: the run is made over sleeping twins (alike to every look, not to be woken) and carried over. -/
namespace Gx
open PySem
open Sem (wp)

def asleepK : Resume → Sem PySem.Fin := fun _ => .unsupported "asleep"
def nap : GenState → GenState
  | .suspended _ l c p fs cl => .suspended asleepK l c p fs cl
  | x => x
theorem nap_seen (x : GenState) : (nap x).seen = x.seen := by cases x <;> rfl
theorem nap_bare (x : GenState) : (nap x).bare = x.bare := by cases x <;> rfl
def Susp (x : GenState) : Prop := ∃ k l c p fs cl, x = .suspended k l c p fs cl

theorem no_run0 {M : Model} {Γ : Ctx} {p : Pos} {w : String} {s s' : Shared} {e : End} (h : Runs M Γ p (.unsupported w) [] s e s') : False := by
  cases h
theorem no_run {M : Model} {Γ : Ctx} {p : Pos} {w : String} {fs : List Frame} {s s' : Shared} {e : End} (h : Runs M Γ p (.unsupported w) fs s e s') : False := by
  cases fs with
  | nil => exact no_run0 h
  | cons F fs =>
    cases h with
    | segRet a _ => exact no_run0 a
    | segGen a _ => exact no_run0 a
    | segSuspOut _ a => exact no_run0 a
    | segSuspGen _ a _ _ => exact no_run0 a

structure Twins (S : Nat → Prop) (R : Nat → GenState) (a b : Array GenState) : Prop where
  size : a.size = b.size
  napping : ∀ i, S i → a[i]? = some (nap (R i)) ∧ b[i]? = some (R i)
  same : ∀ i, ¬ S i → a[i]? = b[i]?
  clean : ∀ i k l c p fs cl, ¬ S i → a[i]? = some (.suspended k l c p fs cl) → splitAtGen fs = none

section
variable {S : Nat → Prop} {R : Nat → GenState} {a b : Array GenState}
theorem Twins.put (T : Twins S R a b) {g : Nat} {x : GenState} (hg : ¬ S g) (hx : ∀ k l c p fs cl, x = .suspended k l c p fs cl → splitAtGen fs = none) :
    Twins S R (a.setIfInBounds g x) (b.setIfInBounds g x) where
  size := by rw [Array.size_setIfInBounds, Array.size_setIfInBounds]; exact T.size
  napping := fun i hi => by
    have ne : g ≠ i := fun e => hg (e ▸ hi)
    rw [Array.getElem?_setIfInBounds_ne ne, Array.getElem?_setIfInBounds_ne ne]
    exact T.napping i hi
  same := fun i hi => by
    by_cases e : g = i
    · subst e
      rw [Array.getElem?_setIfInBounds_self, Array.getElem?_setIfInBounds_self, T.size]
    · rw [Array.getElem?_setIfInBounds_ne e, Array.getElem?_setIfInBounds_ne e]
      exact T.same i hi
  clean := fun i k l c p fs cl hi h => by
    by_cases e : g = i
    · subst e
      rw [Array.getElem?_setIfInBounds_self] at h
      split at h
      · exact hx _ _ _ _ _ _ (Option.some.inj h)
      · cases h
    · rw [Array.getElem?_setIfInBounds_ne e] at h
      exact T.clean i k l c p fs cl hi h
theorem Twins.more (T : Twins S R a b) (c : Code) : Twins S R (a.push (.fresh c)) (b.push (.fresh c)) where
  size := by rw [Array.size_push, Array.size_push, T.size]
  napping := fun i hi => by
    obtain ⟨h1, h2⟩ := T.napping i hi
    have l1 := (Array.getElem?_eq_some_iff.mp h1).1
    have l2 := (Array.getElem?_eq_some_iff.mp h2).1
    rw [Array.getElem?_push_lt l1, Array.getElem?_push_lt l2, ← Array.getElem?_eq_getElem l1, ← Array.getElem?_eq_getElem l2]
    exact ⟨h1, h2⟩
  same := fun i hi => by
    rw [Array.getElem?_push, Array.getElem?_push, T.size, T.same i hi]
  clean := fun i k l c' p fs cl hi h => by
    rw [Array.getElem?_push] at h
    split at h
    · cases h
    · exact T.clean i k l c' p fs cl hi h
end

def EndClean : End → Prop
  | .susp _ _ _ _ _ _ fs => splitAtGen fs = none
  | .ret _ => True
theorem EndClean.state {e : End} (h : EndClean e) : ∀ k l c p fs cl, e.genState = .suspended k l c p fs cl → splitAtGen fs = none := by
  intro k l c p fs cl q
  cases e with
  | ret r => cases q
  | susp v g l0 k0 c0 p0 fs0 =>
    have q' : GenState.suspended k0 l0 c0 p0 fs0 (g || fs0.any Frame.guarded) = .suspended k l c p fs cl := q
    injection q' with _ _ _ _ q5 _
    rw [← q5]
    exact h
theorem split_app {x y : List Frame} (hx : splitAtGen x = none) (hy : splitAtGen y = none) : splitAtGen (x ++ y) = none := by
  rw [splitAtGen_append_none y hx, hy]; rfl

section
variable {S : Nat → Prop} {R : Nat → GenState}
theorem sim (hS : ∀ i, S i → Susp (R i)) {M : Model} {Γ : Ctx} {p : Pos} {t : Sem PySem.Fin} {fs : List Frame} {s s' : Shared} {e : End} (h : Runs M Γ p t fs s e s') :
    ∀ b, splitAtGen fs = none → Twins S R s.gens b → ∃ b', Twins S R s'.gens b' ∧ Runs M Γ p t fs { s with gens := b } e { s' with gens := b' } ∧ EndClean e := by
  have nf : ∀ {a b : Array GenState} {g : Nat} {x : GenState}, Twins S R a b → a[g]? = some x → ¬ Susp x → ¬ S g := fun {a b g x} T hx hn hg => by
    obtain ⟨h1, _⟩ := T.napping g hg
    obtain ⟨k, l, c, p, fs, cl, e⟩ := hS g hg
    rw [h1, e] at hx
    exact hn ⟨_, l, c, p, fs, cl, (Option.some.inj hx).symm⟩
  induction h with
  | done => intro b _ T; exact ⟨b, T, .done, trivial⟩
  | raise => intro b _ T; exact ⟨b, T, .raise, trivial⟩
  | again hq _ ih => intro b hf T; obtain ⟨b', T', r, c⟩ := ih b hf T; exact ⟨b', T', .again hq r, c⟩
  | rule _ ih => intro b hf T; obtain ⟨b', T', r, c⟩ := ih b hf T; exact ⟨b', T', .rule r, c⟩
  | «at» _ ih => intro b hf T; obtain ⟨b', T', r, c⟩ := ih b hf T; exact ⟨b', T', .at r, c⟩
  | load ho _ ih => intro b hf T; obtain ⟨b', T', r, c⟩ := ih b hf T; exact ⟨b', T', .load ho r, c⟩
  | update ha _ ih => intro b hf T; obtain ⟨b', T', r, c⟩ := ih b hf T; exact ⟨b', T', .update ha r, c⟩
  | loadIfAlive _ ih => intro b hf T; obtain ⟨b', T', r, c⟩ := ih b hf T; exact ⟨b', T', .loadIfAlive r, c⟩
  | point _ ih => intro b hf T; obtain ⟨b', T', r, c⟩ := ih b hf T; exact ⟨b', T', .point r, c⟩
  | alloc _ ih => intro b hf T; obtain ⟨b', T', r, c⟩ := ih b hf T; exact ⟨b', T', .alloc r, c⟩
  | fresh _ ih => intro b hf T; obtain ⟨b', T', r, c⟩ := ih b hf T; exact ⟨b', T', .fresh r, c⟩
  | ask _ ih => intro b hf T; obtain ⟨b', T', r, c⟩ := ih b hf T; exact ⟨b', T', .ask r, c⟩
  | choose hn _ ih => intro b hf T; obtain ⟨b', T', r, c⟩ := ih b hf T; exact ⟨b', T', .choose hn r, c⟩
  | os _ ih => intro b hf T; obtain ⟨b', T', r, c⟩ := ih b hf T; exact ⟨b', T', .os r, c⟩
  | handled _ ih => intro b hf T; obtain ⟨b', T', r, c⟩ := ih b hf T; exact ⟨b', T', .handled r, c⟩
  | @genState g st Γ0 p0 k0 s0 e0 s0' hg _ ih =>
    intro b hf T
    obtain ⟨b', T', r, c⟩ := ih b hf T
    refine ⟨b', T', ?_, c⟩
    by_cases z : S g
    · obtain ⟨h1, h2⟩ := T.napping g z
      rw [h1] at hg
      have es : st = nap (R g) := (Option.some.inj hg).symm
      refine .genState (st := R g) h2 ?_
      rw [es, nap_seen] at r
      exact r
    · exact .genState (st := st) (by rw [← T.same g z]; exact hg) r
  | stack _ ih => intro b hf T; obtain ⟨b', T', r, c⟩ := ih b hf T; exact ⟨b', T', .stack r, c⟩
  | thread _ ih => intro b hf T; obtain ⟨b', T', r, c⟩ := ih b hf T; exact ⟨b', T', .thread r, c⟩
  | newGen _ ih =>
    intro b hf T
    obtain ⟨b', T', r, c⟩ := ih _ hf (T.more _)
    refine ⟨b', T', .newGen ?_, c⟩
    have ez := T.size
    simp only [ez] at r
    exact r
  | call _ _ ih1 ih2 =>
    intro b hf T
    obtain ⟨b1, T1, r1, c1⟩ := ih1 b rfl T
    obtain ⟨b2, T2, r2, c2⟩ := ih2 b1 hf T1
    exact ⟨b2, T2, .call r1 r2, c2⟩
  | callSusp _ ih =>
    intro b hf T
    obtain ⟨b1, T1, r1, c1⟩ := ih b rfl T
    exact ⟨b1, T1, .callSusp r1, split_app c1 rfl⟩
  | yield => intro b _ T; exact ⟨b, T, .yield, rfl⟩
  | resumeFresh hg _ hq _ ih1 ih2 =>
    intro b hf T
    have ng := nf T hg (fun ⟨_, _, _, _, _, _, q⟩ => by cases q)
    obtain ⟨b1, T1, r1, c1⟩ := ih1 _ rfl (T.put ng fun _ _ _ _ _ _ q => by cases q)
    obtain ⟨b2, T2, r2, c2⟩ := ih2 _ hf (T1.put ng c1.state)
    exact ⟨b2, T2, .resumeFresh (by rw [← T.same _ ng]; exact hg) r1 hq r2, c2⟩
  | @resumeSuspended Γ0 p0 g r l k s0 k₀ l₀ c₀ p₀ fs₀ cl e₁ s₁ e0 s0' hg hr hq _ ih1 ih2 =>
    intro b hf T
    by_cases z : S g
    · obtain ⟨h1, _⟩ := T.napping g z
      obtain ⟨k', l', c', p', fs', cl', e'⟩ := hS g z
      rw [h1, e'] at hg
      have q : GenState.suspended asleepK l' c' p' fs' cl' = .suspended k₀ l₀ c₀ p₀ fs₀ cl := Option.some.inj hg
      injection q with q1 _ _ _ _ _
      rw [← q1] at hr
      exact (no_run (w := "asleep") hr).elim
    · obtain ⟨b1, T1, r1, c1⟩ := ih1 _ (T.clean g _ _ _ _ _ _ z hg) (T.put z fun _ _ _ _ _ _ q => by cases q)
      obtain ⟨b2, T2, r2, c2⟩ := ih2 _ hf (T1.put z c1.state)
      exact ⟨b2, T2, .resumeSuspended (by rw [← T.same _ z]; exact hg) r1 hq r2, c2⟩
  | resumeJustStarted hg hv _ ih =>
    intro b hf T
    have ng := nf T hg (fun ⟨_, _, _, _, _, _, q⟩ => by cases q)
    obtain ⟨b', T', r, c⟩ := ih b hf T
    exact ⟨b', T', .resumeJustStarted (by rw [← T.same _ ng]; exact hg) hv r, c⟩
  | resumeThrowFresh hg _ ih =>
    intro b hf T
    have ng := nf T hg (fun ⟨_, _, _, _, _, _, q⟩ => by cases q)
    obtain ⟨b', T', r, c⟩ := ih _ hf (T.put ng fun _ _ _ _ _ _ q => by cases q)
    exact ⟨b', T', .resumeThrowFresh (by rw [← T.same _ ng]; exact hg) r, c⟩
  | resumeRunning hg _ ih =>
    intro b hf T
    have ng := nf T hg (fun ⟨_, _, _, _, _, _, q⟩ => by cases q)
    obtain ⟨b', T', r, c⟩ := ih b hf T
    exact ⟨b', T', .resumeRunning (by rw [← T.same _ ng]; exact hg) r, c⟩
  | resumeFinished hg _ ih =>
    intro b hf T
    have ng := nf T hg (fun ⟨_, _, _, _, _, _, q⟩ => by cases q)
    obtain ⟨b', T', r, c⟩ := ih b hf T
    exact ⟨b', T', .resumeFinished (by rw [← T.same _ ng]; exact hg) r, c⟩
  | segRet _ _ ih1 ih2 =>
    intro b hf T
    obtain ⟨b1, T1, r1, c1⟩ := ih1 b rfl T
    have hf' : splitAtGen _ = none := hf
    rw [splitAtGen_ret] at hf'
    obtain ⟨b2, T2, r2, c2⟩ := ih2 b1 (by
      revert hf'
      cases splitAtGen _ with
      | none => intro _; rfl
      | some x => intro z; cases z) T1
    exact ⟨b2, T2, .segRet r1 r2, c2⟩
  | segGen _ _ _ _ => intro b hf T; cases hf
  | segSuspOut hs _ ih =>
    intro b hf T
    obtain ⟨b1, T1, r1, c1⟩ := ih b rfl T
    exact ⟨b1, T1, .segSuspOut hs r1, split_app c1 hf⟩
  | segSuspGen hs _ _ _ _ _ => intro b hf T; rw [hf] at hs; cases hs
end
end Gx
set_option maxHeartbeats 4000000
namespace Gx
open PySem
open Sem (wp)
open PyProof.Rows
section
variable {S : Nat → Prop} {R : Nat → GenState}
/-- the same state, with other generators' entries -/
def Twin (S : Nat → Prop) (R : Nat → GenState) (s1 s2 : Shared) : Prop := ∃ b, s2 = { s1 with gens := b } ∧ Twins S R s1.gens b
theorem returns_twin (hS : ∀ i, S i → Susp (R i)) {M : Model} {Γ : Ctx} {p : Pos} {s s' : Shared} {r : Result} {b : Array GenState} (h : Returns M Γ p s r s') (T : Twins S R s.gens b) :
    ∃ b', Twins S R s'.gens b' ∧ Returns M Γ p { s with gens := b } r { s' with gens := b' } := by
  obtain ⟨b', T', r', _⟩ := sim hS h b rfl T
  exact ⟨b', T', r'⟩
theorem wakes_twin (hS : ∀ i, S i → Susp (R i)) {M : Model} {Γ : Ctx} {p : Pos} {g : Nat} {r : Resume} {s s' : Shared} {res : GenResult} {b : Array GenState} (h : Wakes M Γ p g r s res s') (T : Twins S R s.gens b) :
    ∃ b', Twins S R s'.gens b' ∧ Wakes M Γ p g r { s with gens := b } res { s' with gens := b' } := by
  have nf : ∀ {x : GenState}, s.gens[g]? = some x → ¬ Susp x → ¬ S g := fun {x} hx hn hg => by
    obtain ⟨h1, _⟩ := T.napping g hg
    obtain ⟨k, l, c, p, fs, cl, e⟩ := hS g hg
    rw [h1, e] at hx
    exact hn ⟨_, l, c, p, fs, cl, (Option.some.inj hx).symm⟩
  unfold Wakes at h
  cases q : s.gens[g]? with
  | none => rw [q] at h; exact h.elim
  | some x =>
    rw [q] at h
    cases x with
    | fresh c =>
      have ng := nf q (fun ⟨_, _, _, _, _, _, z⟩ => by cases z)
      have qb : b[g]? = some (.fresh c) := by rw [← T.same g ng]; exact q
      cases r with
      | throw x =>
        obtain ⟨h1, h2⟩ := h
        subst h2
        refine ⟨b.setIfInBounds g .finished, T.put ng (fun _ _ _ _ _ _ z => by cases z), ?_⟩
        unfold Wakes
        simp only [qb]
        (first | exact ⟨h1, rfl⟩ | exact ⟨h1, trivial⟩)
      | send v =>
        by_cases hv : v = .none
        · subst hv
          obtain ⟨e₁, s₁, h1, h2, h3, h4⟩ := h
          obtain ⟨b1, T1, r1, c1⟩ := sim hS h1 _ rfl (T.put ng fun _ _ _ _ _ _ z => by cases z)
          subst h4
          refine ⟨b1.setIfInBounds g e₁.genState, T1.put ng c1.state, ?_⟩
          unfold Wakes
          simp only [qb]
          exact ⟨e₁, _, r1, h2, h3, rfl⟩
        · have h' : res = .justStarted ∧ s' = s := by
            cases v <;> first | exact (hv rfl).elim | exact h
          obtain ⟨h1, h2⟩ := h'
          subst h2
          refine ⟨b, T, ?_⟩
          unfold Wakes
          simp only [qb]
          cases v <;> first | exact (hv rfl).elim | (first | exact ⟨h1, rfl⟩ | exact ⟨h1, trivial⟩)
    | suspended k₀ l₀ c₀ p₀ fs cl =>
      by_cases z : S g
      · obtain ⟨h1, _⟩ := T.napping g z
        obtain ⟨k', l', c', p', fs', cl', e'⟩ := hS g z
        rw [h1, e'] at q
        have q' : GenState.suspended asleepK l' c' p' fs' cl' = .suspended k₀ l₀ c₀ p₀ fs cl := Option.some.inj q
        injection q' with q1 _ _ _ _ _
        obtain ⟨e₁, s₁, hr, _⟩ := h
        rw [← q1] at hr
        exact (no_run (w := "asleep") hr).elim
      · have qb : b[g]? = some (.suspended k₀ l₀ c₀ p₀ fs cl) := by rw [← T.same g z]; exact q
        obtain ⟨e₁, s₁, h1, h2, h3, h4⟩ := h
        obtain ⟨b1, T1, r1, c1⟩ := sim hS h1 _ (T.clean g _ _ _ _ _ _ z q) (T.put z fun _ _ _ _ _ _ z => by cases z)
        subst h4
        refine ⟨b1.setIfInBounds g e₁.genState, T1.put z c1.state, ?_⟩
        unfold Wakes
        simp only [qb]
        exact ⟨e₁, _, r1, h2, h3, rfl⟩
    | running =>
      have ng := nf q (fun ⟨_, _, _, _, _, _, z⟩ => by cases z)
      have qb : b[g]? = some .running := by rw [← T.same g ng]; exact q
      obtain ⟨h1, h2⟩ := h
      subst h2
      refine ⟨b, T, ?_⟩
      unfold Wakes
      simp only [qb]
      (first | exact ⟨h1, rfl⟩ | exact ⟨h1, trivial⟩)
    | finished =>
      have ng := nf q (fun ⟨_, _, _, _, _, _, z⟩ => by cases z)
      have qb : b[g]? = some .finished := by rw [← T.same g ng]; exact q
      obtain ⟨h1, h2⟩ := h
      subst h2
      refine ⟨b, T, ?_⟩
      unfold Wakes
      simp only [qb]
      (first | exact ⟨h1, rfl⟩ | exact ⟨h1, trivial⟩)

theorem wp_twin (hS : ∀ i, S i → Susp (R i)) {α : Type} (M : Model) (Γ : Ctx) (t : Sem α) : ∀ (Q : α → Pos → Shared → Prop) (E : Value → Pos → Shared → Prop) (p : Pos) (s : Shared) (b : Array GenState), Twins S R s.gens b → wp M Γ t Q E p s →
    wp M Γ t (fun a p' s' => ∃ s1, Twin S R s1 s' ∧ Q a p' s1) (fun e p' s' => ∃ s1, Twin S R s1 s' ∧ E e p' s1) p { s with gens := b } := by
  induction t with
  | pure a => intro Q E p s b T h; exact ⟨s, ⟨b, rfl, T⟩, h⟩
  | raise e => intro Q E p s b T h; exact ⟨s, ⟨b, rfl, T⟩, h⟩
  | unsupported _ => intro Q E p s _ _ h; exact h
  | finish _ => intro Q E p s _ _ h; exact h
  | rule _ k ih => intro Q E p s b T h; exact ih () Q E p s b T h
  | «at» p' k ih => intro Q E p s b T h; exact ih () Q E p' s b T h
  | load a _ k ih => intro Q E p s b T h; obtain ⟨o, ho, h⟩ := h; exact ⟨o, ho, ih o Q E p s b T h⟩
  | update a _ f k ih => intro Q E p s b T h; exact ⟨h.1, ih () Q E p { s with heap := s.heap.update a f } b T h.2⟩
  | loadIfAlive a k ih => intro Q E p s b T h; exact ih _ Q E p s b T h
  | point _ k ih => intro Q E p s b T h; exact ih () Q E p s b T h
  | register _ _ => intro Q E p s _ _ h; exact h
  | alloc o k ih => intro Q E p s b T h; exact ih s.heap.objs.size Q E p { s with heap := s.heap.push o } b T h
  | fresh k ih => intro Q E p s b T h; exact ih s.toks Q E p { s with toks := s.toks + 1 } b T h
  | ask k ih => intro Q E p s b T h; exact ih _ Q E p s b T h
  | choose src m k ih => intro Q E p s b T h; exact ⟨h.1, ih _ Q E p { s with drawn := s.drawn.bump src } b T h.2⟩
  | os q _ k ih => intro Q E p s b T h; exact ih (Os.step s.os q).2 Q E p { s with os := (Os.step s.os q).1 } b T h
  | call c hd _ _ k ih =>
    intro Q E p s b T h
    obtain ⟨r, s', hr, h⟩ := h
    obtain ⟨b', T', hr'⟩ := returns_twin hS hr T
    exact ⟨r, _, hr', ih r Q E p s' b' T' h⟩
  | handled own k ih => intro Q E p s b T h; exact ih _ Q E p s b T h
  | genState g k ih =>
    intro Q E p s b T h
    obtain ⟨st, hs, h⟩ := h
    by_cases z : S g
    · obtain ⟨h1, h2⟩ := T.napping g z
      rw [h1] at hs
      have es : st = nap (R g) := (Option.some.inj hs).symm
      refine ⟨R g, h2, ?_⟩
      rw [es, nap_seen] at h
      exact ih _ Q E p s b T h
    · exact ⟨st, by rw [← hs]; exact (T.same g z).symm, ih _ Q E p s b T h⟩
  | newGen c k ih =>
    intro Q E p s b T h
    have e := ih s.gens.size Q E p _ _ (T.more c) h
    rw [T.size] at e
    exact e
  | resume g r _ k ih =>
    intro Q E p s b T h
    obtain ⟨res, s', hw, h⟩ := h
    obtain ⟨b', T', hw'⟩ := wakes_twin hS hw T
    exact ⟨res, _, hw', ih res Q E p s' b' T' h⟩
  | yield _ _ _ _ => intro Q E p s _ _ h; exact h
  | stack k ih => intro Q E p s b T h; exact ih _ Q E p s b T h
  | fork _ _ => intro Q E p s _ _ h; exact h
  | thread k ih => intro Q E p s b T h; exact ih _ Q E p s b T h
  | await _ _ _ _ _ => intro Q E p s _ _ h; exact h
end

/-- all suspended ones asleep -/
def doze (s : Shared) : Shared := { s with gens := s.gens.map nap }
theorem nap_idem (x : GenState) : nap (nap x) = nap x := by cases x <;> rfl
def SusAt (s : Shared) (i : Nat) : Prop := ∃ x, s.gens[i]? = some x ∧ Susp x
def wasAt (s : Shared) (i : Nat) : GenState := (s.gens[i]?).getD .finished
theorem susAt (s : Shared) : ∀ i, SusAt s i → Susp (wasAt s i) := fun i ⟨x, e, h⟩ => by
  unfold wasAt; rw [e]; exact h
theorem doze_twins (s : Shared) : Twins (SusAt s) (wasAt s) (doze s).gens s.gens where
  size := by show (s.gens.map nap).size = _; rw [Array.size_map]
  napping := fun i ⟨x, e, h⟩ => by
    have ew : wasAt s i = x := by unfold wasAt; rw [e]; rfl
    show (s.gens.map nap)[i]? = _ ∧ _
    rw [Array.getElem?_map, e, ew]
    exact ⟨rfl, rfl⟩
  same := fun i h => by
    show (s.gens.map nap)[i]? = _
    rw [Array.getElem?_map]
    cases e : s.gens[i]? with
    | none => rfl
    | some x =>
      cases x with
      | suspended k l c p fs cl => exact absurd ⟨_, e, _, _, _, _, _, _, rfl⟩ h
      | _ => rfl
  clean := fun i k l c p fs cl h q => by
    have q' : (s.gens.map nap)[i]? = some (.suspended k l c p fs cl) := q
    rw [Array.getElem?_map] at q'
    cases e : s.gens[i]? with
    | none => rw [e] at q'; cases q'
    | some x =>
      cases x with
      | suspended k l c p fs cl => exact absurd ⟨_, e, _, _, _, _, _, _, rfl⟩ h
      | _ => rw [e] at q'; cases q'
/-- what a run over the sleeping state does, the run over the true one does, and the suspended generators are as they were -/
theorem wpAny_doze {α : Type} {M : Model} {A : Around} {t : Sem α} {Q : α → Shared → Prop} {E : Value → Shared → Prop} {s : Shared}
    (h : wpAny M A t Q E (doze s)) : wpAny M A t (fun a s' => ∃ s1, Twin (SusAt s) (wasAt s) s1 s' ∧ Q a s1) (fun e s' => ∃ s1, Twin (SusAt s) (wasAt s) s1 s' ∧ E e s1) s :=
  fun Γ p hΓ => wp_twin (susAt s) M Γ t _ _ p (doze s) s.gens (doze_twins s) (h Γ p hΓ)
theorem doze_bare {s : Shared} (h : AllBare s.gens) : AllBare (doze s).gens := fun y hy => by
  obtain ⟨x, hx, e⟩ := Array.mem_map.mp hy
  rw [← e, nap_bare]
  exact h x hx
theorem Twin.gen {s s1 s' : Shared} (T : Twin (SusAt s) (wasAt s) s1 s') {g : Nat} {x : GenState} (hg : s.gens[g]? = some x) (hx : Susp x) : s'.gens[g]? = some x := by
  obtain ⟨b, e, T⟩ := T
  have h2 := (T.napping g ⟨x, hg, hx⟩).2
  have ew : wasAt s g = x := by unfold wasAt; rw [hg]; rfl
  rw [e, ← ew]
  exact h2
theorem Twin.bare {s s1 s' : Shared} (T : Twin (SusAt s) (wasAt s) s1 s') (h : AllBare s.gens) (h1 : AllBare s1.gens) : AllBare s'.gens := by
  obtain ⟨b, e, T⟩ := T
  intro y hy
  rw [e] at hy
  obtain ⟨i, hi, ey⟩ := Array.mem_iff_getElem.mp hy
  have eb : b[i]? = some y := by rw [← ey]; exact Array.getElem?_eq_getElem hi
  by_cases z : SusAt s i
  · have h2 := (T.napping i z).2
    rw [eb] at h2
    have e2 : y = wasAt s i := Option.some.inj h2
    obtain ⟨x, ex, _⟩ := z
    have ew : wasAt s i = x := by unfold wasAt; rw [ex]; rfl
    rw [e2, ew]
    exact h x (Array.mem_of_getElem? ex)
  · have h2 := T.same i z
    rw [eb] at h2
    exact h1 y (Array.mem_of_getElem? h2)
end Gx
set_option maxHeartbeats 4000000
namespace Gx
open PySem PySem.Spec PyProof.Rows L2 GenW
open Sem (wp)

/-! ### the heap below an address -/
def below (h : Heap) (L : Addr) : Heap := { h with objs := h.objs.extract 0 L }
theorem below_lt {h : Heap} {L b : Nat} (hb : b < L) : (below h L).get? b = h.get? b := by
  unfold below Heap.get?
  rw [Array.getElem?_extract]
  simp only [Nat.zero_add]
  by_cases q : b < h.objs.size
  · rw [if_pos (by omega)]
  · rw [if_neg (by omega), Array.getElem?_eq_none (by omega)]
theorem below_ge {h : Heap} {L b : Nat} (hb : L ≤ b) : (below h L).get? b = none := by
  unfold below Heap.get?
  rw [Array.getElem?_extract]
  simp only [Nat.zero_add]
  rw [if_neg (by omega)]
theorem below_size {h : Heap} {L : Nat} (hL : L ≤ h.objs.size) : (below h L).objs.size = L := by
  show (h.objs.extract 0 L).size = L
  rw [Array.size_extract]
  omega
theorem below_sub {h : Heap} {L b : Addr} {o : Obj} (e : (below h L).get? b = some o) : h.get? b = some o ∧ b < L := by
  by_cases hb : b < L
  · rw [below_lt hb] at e; exact ⟨e, hb⟩
  · rw [below_ge (Nat.le_of_not_lt hb)] at e; cases e
/-- .. without the object at x -/
def ground (h : Heap) (L x : Addr) : Heap := { h with objs := (h.objs.extract 0 L).setIfInBounds x { cls := .none, data := .freed } }
theorem ground_ne {h : Heap} {L x b : Addr} (hx : b ≠ x) : (ground h L x).get? b = (below h L).get? b := by
  unfold ground below Heap.get?
  rw [Array.getElem?_setIfInBounds_ne (Ne.symm hx)]
theorem ground_at {h : Heap} {L x : Addr} : (ground h L x).get? x = none := by
  unfold ground Heap.get?
  rw [Array.getElem?_setIfInBounds_self]
  by_cases q : x < (h.objs.extract 0 L).size
  · rw [if_pos q]
  · rw [if_neg q]
theorem ground_size {h : Heap} {L x : Addr} (hL : L ≤ h.objs.size) : (ground h L x).objs.size = L := by
  show ((h.objs.extract 0 L).setIfInBounds x _).size = L
  rw [Array.size_setIfInBounds]
  exact below_size hL
theorem ground_sub {h : Heap} {L x b : Addr} {o : Obj} (e : (ground h L x).get? b = some o) : h.get? b = some o ∧ b < L ∧ b ≠ x := by
  by_cases hb : b = x
  · rw [hb, ground_at] at e; cases e
  · rw [ground_ne hb] at e
    obtain ⟨e1, e2⟩ := below_sub e
    exact ⟨e1, e2, hb⟩
theorem ground_in {h : Heap} {L x b : Addr} {o : Obj} (h1 : b < L) (h2 : b ≠ x) (e : h.get? b = some o) : (ground h L x).get? b = some o := by
  rw [ground_ne h2, below_lt h1]; exact e
theorem frames_below {base h : Heap} {L x : Addr} : ∀ {l : List Env}, (∀ b ∈ frs l, b < L ∧ b ≠ x) → h.FunFrames base l → (ground h L x).FunFrames base l
  | [], _, _ => trivial
  | env :: r, hb, hl => by
    obtain ⟨hk, ⟨M, o, hf, hn, ho, hd⟩, hr⟩ := hl
    obtain ⟨hM, hMx⟩ := hb M (by unfold frs; rw [List.filterMap_cons, hf]; exact List.mem_cons_self)
    refine ⟨hk, ⟨M, o, hf, hn, ground_in hM hMx ho, hd⟩, frames_below (fun b hm => hb b ?_) hr⟩
    unfold frs
    rw [List.filterMap_cons, hf]
    exact List.mem_cons_of_mem _ hm
theorem frames_cong {base h h' : Heap} : ∀ {l : List Env}, (∀ b ∈ frs l, ∀ o, h.get? b = some o → ∃ sl, h'.get? b = some { o with slots := sl }) → h.FunFrames base l → h'.FunFrames base l
  | [], _, _ => trivial
  | env :: r, hb, hl => by
    obtain ⟨hk, ⟨M, o, hf, hn, ho, hd⟩, hr⟩ := hl
    obtain ⟨sl, e⟩ := hb M (by unfold frs; rw [List.filterMap_cons, hf]; exact List.mem_cons_self) o ho
    refine ⟨hk, ⟨M, _, hf, hn, e, hd⟩, frames_cong (fun b hm => hb b ?_) hr⟩
    unfold frs
    rw [List.filterMap_cons, hf]
    exact List.mem_cons_of_mem _ hm

/-! ### what surrounds a generator's run -/
structure Sur (base : Heap) (outer : List Env) (L : Addr) (s : Shared) : Prop where
  bs : ∀ b o, base.get? b = some o → s.heap.get? b = some o
  funs : s.heap.FunFrames base outer
  bare : AllBare s.gens
  size : L < s.heap.objs.size
/-- all is kept but the frame at L and one iterator -/
def KeptBut (outer : List Env) (L : Addr) (s₀ s1 : Shared) : Prop :=
  s1.os = s₀.os ∧ AllBare s1.gens ∧ ∃ it, (∀ o, s₀.heap.get? it = some o → L < it ∧ o.cls = .type "range_iterator") ∧
    (∀ b o, b ≠ L → b ≠ it → s₀.heap.get? b = some o → b ∉ frs outer → s1.heap.get? b = some o) ∧
    (∀ b o, b ≠ L → b ≠ it → s₀.heap.get? b = some o → b ∈ frs outer → ∃ sl, s1.heap.get? b = some { o with slots := sl })
/-- what a run hands out: the row of the turn, a new list; the objects fp that it will want again, as they stand -/
def YG (base : Heap) (outer : List Env) (L : Addr) (N : Nat) (row : Nat → List Int) : Protocol := fun n s₀ v s1 kap =>
  ∃ (p : Addr) (its : Array Value) (c : Nat) (fp : List (Addr × Obj)), n + 1 ≤ N ∧ v = .ref p ∧ KeptBut outer L s₀ s1 ∧ s₀.heap.get? p = none ∧ s1.heap.get? p = some (lstObj its c) ∧
    Vals ((row (N - 1 - n)).map V.int) its.toList ∧ (row (N - 1 - n)).length ≤ sizeLine ∧
    (∀ q ∈ fp, s1.heap.get? q.1 = some q.2 ∧ L ≤ q.1 ∧ q.1 ≠ p ∧ (∀ v, q.2.data ≠ .cell v) ∧ (q.1 = L ∨ s₀.heap.get? q.1 = none ∨ ∃ o, s₀.heap.get? q.1 = some o ∧ o.cls = .type "range_iterator")) ∧ (∃ oL, (L, oL) ∈ fp) ∧
    ∀ s2, Sur base outer L s2 → s2.heap.get? p = some (lstObj its c) → (∀ q ∈ fp, s2.heap.get? q.1 = some q.2) → kap (.send .none) s2
def RG (outer : List Env) (L : Addr) : GenEnd := fun n s₀ r s1 => (r = .ok (.ret .none) ∨ r = .ok .next) ∧ n = 0 ∧ KeptBut outer L s₀ s1

/-! ### the context at a resumption -/
def watch (h : Heap) (L it : Addr) : Hp := fun b => if b ≤ L ∨ b = it then none else (h.get? b).map fun o => .frz o (.own 0)
theorem watch_in {h : Heap} {L it b : Addr} {o : Obj} (h1 : L < b) (h2 : b ≠ it) (e : h.get? b = some o) : watch h L it b = some (.frz o (.own 0)) := by
  unfold watch
  rw [if_neg (by intro q; rcases q with q | q; exact absurd h1 (Nat.not_lt_of_le q); exact h2 q), e]
  rfl
theorem watch_lo {h : Heap} {L it b : Addr} (h1 : b ≤ L) : watch h L it b = none := by
  unfold watch
  rw [if_pos (.inl h1)]
theorem watch_it {h : Heap} {L it : Addr} : watch h L it it = none := by
  unfold watch
  rw [if_pos (.inr rfl)]
theorem watch_some {h : Heap} {L it b : Addr} {u : HO} (e : watch h L it b = some u) : L < b ∧ b ≠ it ∧ ∃ o, h.get? b = some o ∧ u = .frz o (.own 0) := by
  unfold watch at e
  split at e
  · cases e
  · rename_i hn
    cases q : h.get? b with
    | none => rw [q] at e; cases e
    | some o =>
      rw [q] at e
      exact ⟨Nat.lt_of_not_le fun z => hn (.inl z), fun z => hn (.inr z), o, rfl, (Option.some.inj e).symm⟩
theorem watch_ok {P : Program} {w : World} {h : Heap} {L it : Addr} : HOk P w (watch h L it) h := fun b u e => by
  obtain ⟨_, _, o, ho, rfl⟩ := watch_some e
  exact ⟨ho, o, ho⟩
section
variable (P : Program) (w : World) (K : PySem.W.Frag) (mg : Str → Option Value) (base : Heap) (N : List Str) (env : Env) (A : Around) (outer : List Env) (L : Addr)
def gx (x : Addr) (s : Shared) (H : Hp) : Cx where
  prog := P
  w := w
  K := K
  mg := mg
  base := base
  A := A.deeper env
  N := N
  s_0 := { s with heap := ground s.heap L x }
  H_0 := H
  env := env
  outer := outer
  stack := env :: outer
  ex := []
  fn := fun _ => true
  calm := true
  pn := []
  xe := fun _ _ => False
/-- what holds of the generator's frame once for all -/
structure Fix : Prop where
  mod : Mod K mg base
  kind : env.scope.kind = .function
  glob : env.globals = mainGlobals
  blt : env.builtins = builtinsNs
  loc : env.locals = L
  cells : env.cells = []
  noc : ∀ x, env.kindOf x ≠ some .cell ∧ env.kindOf x ≠ some .free
  hd : A.handled = none
  frames : A.frames = some outer
  frame : env.frame = some L
  bsz : base.objs.size ≤ L
  frs : ∀ b ∈ frs outer, b < L
end
section
variable {P : Program} {w : World} {K : PySem.W.Frag} {mg : Str → Option Value} {base : Heap} {N : List Str} {env : Env} {A : Around} {outer : List Env} {L xx : Addr}
theorem gx_ok (F : Fix K mg base env A outer L) {s : Shared} {H : Hp} (S : Sur base outer L s) (hxb : base.get? xx = none) (hxf : xx ∉ frs outer) (hH : ∀ b, b ≤ L → b ≠ xx → H b = none) : (gx P w K mg base N env A outer L xx s H).Ok where
  mod := F.mod
  kind := F.kind
  glob := F.glob
  blt := F.blt
  above := by
    show (ground s.heap L xx).objs.size ≤ env.locals
    rw [ground_size (Nat.le_of_lt S.size), F.loc]
    exact Nat.le_refl _
  inj := fun x y c h1 _ => by
    have h1' : env.cells.lookup x = some c := h1
    rw [F.cells] at h1'; cases h1'
  has := fun x h => by
    rcases h with h | h
    · exact ((F.noc x).1 h).elim
    · exact ((F.noc x).2 h).elim
  cab := fun x c _ h => by
    have h1' : env.cells.lookup x = some c := h
    rw [F.cells] at h1'; cases h1'
  hd := fun _ => F.hd
  frames := Around.frames_deeper F.frames
  stk := .inr ⟨rfl, by show env.frame = some env.locals; rw [F.frame, F.loc]⟩
  exf := fun b hb => by cases hb
  bs := fun b o e => by
    have hb : b < L := Nat.lt_of_lt_of_le (Heap.lt_size e) F.bsz
    have hx : b ≠ xx := fun z => by
      have e1 : base.get? b = some o := e
      rw [z, hxb] at e1; cases e1
    exact ⟨ground_in hb hx (S.bs b o e), hH b (Nat.le_of_lt hb) hx⟩
  bsz := by
    show base.objs.size ≤ (ground s.heap L xx).objs.size
    rw [ground_size (Nat.le_of_lt S.size)]
    exact F.bsz
  noex := fun _ _ _ hb => by cases hb
  exfs := fun b hb => by cases hb
  funs := frames_below (fun b hb => ⟨F.frs b hb, fun z => hxf (z ▸ hb)⟩) S.funs
  frf := fun b hb => hH b (Nat.le_of_lt (F.frs b hb)) fun z => hxf (z ▸ hb)
theorem gx_inv (F : Fix K mg base env A outer L) {s : Shared} {H : Hp} {σ : L2.St} {m : Str → Option Value} (S : Sur base outer L s) (hxb : base.get? xx = none) (hxf : xx ∉ frs outer) (hH : ∀ b, b ≤ L → b ≠ xx → H b = none) (hHL : H L = none) (hok : HOk P w H s.heap) (hn : s.heap.Ns L m)
    (hl : ∀ (i : Nat) (x : Str) (v : V), N[i]? = some x → σ[i]? = some (some v) → Vis env.scope x → ∃ u, RelV v u ∧ env.kindOf x = some .local ∧ m x = some u) (hlen : σ.length = N.length) :
    Inv (gx P w K mg base N env A outer L xx s H) [] σ H s where
  ok := gx_ok F S hxb hxf hH
  os := rfl
  bare := S.bare
  base := Un.kept fun b u e => (ground_sub e).1
  loc := ⟨m, by show s.heap.Ns env.locals m; rw [F.loc]; exact hn, fun i x v h1 h2 h3 => by
    obtain ⟨u, r, k, e⟩ := hl i x v h1 h2 h3
    exact ⟨u, r, .inl ⟨k, e⟩⟩⟩
  cell := fun x c h => by
    have h1' : env.cells.lookup x = some c := h
    rw [F.cells] at h1'; cases h1'
  free := by
    show H env.locals = none
    rw [F.loc]; exact hHL
  freeC := fun x c h => by
    have h1' : env.cells.lookup x = some c := h
    rw [F.cells] at h1'; cases h1'
  pin := fun p hp => by cases hp
  hok := hok
  len := hlen
/-- what the frame's names hold, to be carried over -/
theorem gx_names (F : Fix K mg base env A outer L) {s s' : Shared} {H H' : Hp} {σ : L2.St} (I : Inv (gx P w K mg base N env A outer L xx s H) [] σ H' s') :
    ∃ m, s'.heap.Ns L m ∧ ∀ (i : Nat) (x : Str) (v : V), N[i]? = some x → σ[i]? = some (some v) → Vis env.scope x → ∃ u, RelV v u ∧ env.kindOf x = some .local ∧ m x = some u := by
  obtain ⟨m, hn, hl⟩ := I.loc
  have hn' : s'.heap.Ns env.locals m := hn
  rw [F.loc] at hn'
  refine ⟨m, hn', fun i x v h1 h2 h3 => ?_⟩
  obtain ⟨u, r, q⟩ := hl i x v h1 h2 h3
  rcases q with ⟨k, e⟩ | ⟨k, _⟩
  · exact ⟨u, r, k, e⟩
  · rcases k with k | k
    · exact ((F.noc x).1 k).elim
    · exact ((F.noc x).2 k).elim
/-- what a run kept -/
theorem gx_kept (F : Fix K mg base env A outer L) {s s' : Shared} {H H' : Hp} {σ : L2.St} {it : Addr} (I : Inv (gx P w K mg base N env A outer L xx s H) [] σ H' s')
    (hH : ∀ b o, L < b ∨ b = xx → b ≠ it → s.heap.get? b = some o → ∃ u, H b = some (.frz o u)) (hit : ∀ o, s.heap.get? it = some o → L < it ∧ o.cls = .type "range_iterator") (hlo : ∀ b, b ≤ L → b ≠ xx → H b = none) (hxf : xx ∉ frs outer) : KeptBut outer L s s' := by
  have noex : ∀ b : Addr, b ∉ (gx P w K mg base N env A outer L xx s H).ex := fun b hb => by cases hb
  refine ⟨I.os, I.bare, it, hit, fun b o hL hi e nf => ?_, fun b o hL hi e hf => ?_⟩
  · by_cases hb : b < L ∧ b ≠ xx
    · exact I.base.keep b o (ground_in hb.1 hb.2 e) (hlo b (Nat.le_of_lt hb.1) hb.2) nf (noex b)
    · obtain ⟨u, hu⟩ := hH b o (by
        by_cases z : b = xx
        · exact .inr z
        · exact .inl (Nat.lt_of_le_of_ne (Nat.le_of_not_lt fun q => hb ⟨q, z⟩) (Ne.symm hL))) hi e
      exact (I.hok b _ (I.base.frzs b o u hu)).1
  · have hb : b < L := F.frs b hf
    have hx : b ≠ xx := fun z => hxf (z ▸ hf)
    exact I.base.slot b o (ground_in hb hx e) (hlo b (Nat.le_of_lt hb) hx) hf (noex b)
end

/-! ### for, in a generator's code -/
section
variable {prog : Program} {w : World} {A : Around} {R : GenEnd} {Y : Protocol} {n : Nat} {s₀ : Shared} {c : Code} {fs : List Frame} {s : Shared} {env : Env}
  {K : Flow → Sem PySem.Fin} {J : Value → Sem PySem.Fin} {gd : Bool → Bool} {lv : List Value → List Value}
theorem seg_For {target iter : Expr} {body : List Stmt} {pos : Pos}
    (h : wpAny (model prog w) (A.over c fs) (eval iter env) (fun v s1 => wpAny (model prog w) (A.over c fs) (pyIter v) (fun itv s2 => ∀ p, Seg (model prog w) A R Y n s₀ (.forLoop target itv body [] env) ((model prog w).den (.forLoop target itv body [] env))
      (.ret (fun r => ((match r with | .ok f => (.pure f : Sem Flow) | .error e => .raise e).onRaise (cameBack env)).wrap K J gd lv) none (gd false) (lv []) c p [] :: fs) s2) (fun _ _ => False) s1) (fun _ _ => False) s)
    (hs : ∀ x, foldedSetIterable iter env x = pure x := by intro _; rfl) :
    Seg (model prog w) A R Y n s₀ c ((exec (.For target iter body [] pos) env).wrap K J gd lv) fs s := by
  rw [exec_For]
  refine seg_bind_wrap (wpAny_standAt ?_)
  refine seg_bind_wrap (wpAny_mono h (fun v s1 h1 => ?_) fun _ _ z => z.elim)
  rw [hs]
  refine seg_bind_wrap (wpAny_pure ?_)
  refine seg_bind_wrap (wpAny_standAt ?_)
  refine seg_bind_wrap (wpAny_holding (wpAny_mono h1 (fun itv s2 h2 => ?_) fun _ _ z => z.elim))
  exact seg_call h2
theorem seg_forLoop {target : Expr} {itv : Value} {body : List Stmt}
    (h : wpAny (model prog w) (A.over (.forLoop target itv body [] env) fs) (pyNext itv) (fun r s1 => match r with
      | none => Seg (model prog w) A R Y n s₀ (.forLoop target itv body [] env) (.pure (.again (.block [] env))) fs s1
      | some v => wpAny (model prog w) (A.over (.forLoop target itv body [] env) fs) (letOwnedTupleGo target itv v) (fun _ s2 => wpAny (model prog w) (A.over (.forLoop target itv body [] env) fs) (assign target env v) (fun _ s3 =>
          ∀ J : Value → Sem PySem.Fin, Seg (model prog w) A R Y n s₀ (.forLoop target itv body [] env) ((execs body env).wrap (fun f => match f with
            | .next | .cont => .pure (.again (.forLoop target itv body [] env))
            | .brk => .pure (.done .next)
            | .ret v => .pure (.done (.ret v))) J id id) fs s3) (fun _ _ => False) s2) (fun _ _ => False) s1) (fun _ _ => False) s) :
    Seg (model prog w) A R Y n s₀ (.forLoop target itv body [] env) ((model prog w).den (.forLoop target itv body [] env)) fs s := by
  show Seg _ A R Y n s₀ _ ((forTurn target itv body [] env).onRaise (fun x => do noteFrame x env; theTreesLotGoes x)) fs s
  unfold forTurn
  rw [Sem.onRaise_eq_wrap]
  refine seg_bind_wrap (wpAny_standAt ?_)
  refine seg_bind_wrap (wpAny_onRaise (wpAny_mono h (fun r s1 h1 => ?_) fun _ _ z => z.elim))
  cases r with
  | none => exact h1
  | some v =>
    refine seg_bind_wrap (wpAny_mono h1 (fun _ s2 h2 => ?_) fun _ _ z => z.elim)
    refine seg_bind_wrap (wpAny_mono h2 (fun _ s3 h3 => ?_) fun _ _ z => z.elim)
    rw [Sem.bind_eq_wrap', Sem.wrap_wrap]
    rw [Sem.wrap_congr (execs body env) _ _ (K' := fun f => match f with
            | .next | .cont => .pure (.again (.forLoop target itv body [] env))
            | .brk => .pure (.done .next)
            | .ret v => .pure (.done (.ret v))) (fun f => by cases f <;> rfl) (fun _ => rfl)]
    exact h3 _
theorem seg_blockEnd {c' : Code} (h : Seg (model prog w) A R Y n s₀ (.block [] env) (.pure (.done .next)) fs s) : Seg (model prog w) A R Y n s₀ c' (.pure (.again (.block [] env))) fs s := by
  refine seg_again rfl ?_
  show Seg _ A R Y n s₀ _ ((model prog w).den (.block [] env)) fs s
  first
    | exact h
    | (show Seg _ A R Y n s₀ _ (((execs [] env) >>= fun f => pure (.done f)).onRaise (fun x => do noteFrame x env; theTreesLotGoes x)) fs s; exact h)
end
end Gx
set_option maxHeartbeats 4000000
namespace Gx
open PySem PySem.Spec PyProof.Rows L2 GenW
open Sem (wp)
theorem obj_there {P : Program} {w : World} {H : Hp} {h : Heap} {a : Addr} : ∀ {o : HO}, ObjOk P w H h a o → ∃ u, h.get? a = some u
  | .lst _, ⟨_, _, _, _, e⟩ => ⟨_, e⟩
  | .tup _, ⟨_, _, _, o, e, _⟩ => ⟨o, e⟩
  | .dK _, ⟨_, _, _, _, o, _, _, e, _⟩ => ⟨o, e⟩
  | .dT _, ⟨_, _, _, _, o, _, _, e, _⟩ => ⟨o, e⟩
  | .set _ _, ⟨o, _, _, _, e, _⟩ => ⟨o, e⟩
  | .ins _ _ _, ⟨_, _, _, e, _⟩ => ⟨_, e⟩
  | .own _, ⟨o, e⟩ => ⟨o, e⟩
  | .xd _, ⟨_, ⟨o, _, _, e, _⟩, _⟩ => ⟨o, e⟩
  | .rng _ _, ⟨_, _, _, e⟩ => ⟨_, e⟩
  | .frz o _, ⟨e, _⟩ => ⟨o, e⟩
  | .tbl ps, x => ⟨_, (show h.get? a = some _ from x)⟩
  | .met _ _, x => ⟨_, (show h.get? a = some _ from x)⟩
  | .ext _, ⟨_, ⟨o, e⟩, _⟩ => ⟨o, e⟩
theorem H_none {P : Program} {w : World} {H : Hp} {h : Heap} {a : Addr} (ok : HOk P w H h) (e : h.get? a = none) : H a = none := by
  cases q : H a with
  | none => rfl
  | some o =>
    obtain ⟨u, hu⟩ := obj_there (ok a o q)
    rw [hu] at e; cases e

section
variable {P : Program} {w : World} {K : PySem.W.Frag} {mg : Str → Option Value} {base : Heap} {N : List Str} {env : Env} {A : Around} {outer : List Env} {L : Addr}
  {tgt : Expr} {erow : Expr} {py pe : Pos} {stN : Stmt} {tN : TS} {Nn : Nat} {row : Nat → List Int} {fs : List Frame}
/-- the turns of the generator's loop -/
theorem turns (F : Fix K mg base env A outer L) (hN4 : N.length = 4) (hmk : ∀ xx s H, PG (gx P w K mg base N env A outer L xx s H) tgt (gName 3)) (hrow : ∀ xx s H, PE (gx P w K mg base N env A outer L xx s H) erow (tVar 2))
    (hnext : ∀ xx s H, PS (gx P w K mg base N env A outer L xx s H) stN tN)
    (hread : ∀ (i : Nat) (D : Ends) (σ : L2.St) (H : Hp) (r : Addr), i < Nn → σ[2]? = some (some (.ref r)) → σ[3]? = some (some (.int (i : Int))) → SqL K H r ((row i).map V.int) →
      (∀ H' p, Same H H' → H p = none → H' p = some (.lst ((row (i + 1)).map V.int)) → D.nx (σ.set 2 (some (.ref p))) H') → tN D σ H)
    (hov : ∀ it, A.over (.forLoop tgt (.ref it) [.Expr (.Yield (some erow) py) pe, stN] [] env) fs = A.deeper env) (hsp : splitAtGen fs = none) (hgd : fs.any Frame.guarded = false)
    (hco : env.scope.isCoroutine = false) (hint : interactive env = false)
    (hpop : ∀ (c' : Code) (s₀ s' : Shared), KeptBut outer L s₀ s' → Seg (model P w) A (RG outer L) (YG base outer L Nn row) 0 s₀ c' (.pure (.done .next)) fs s') :
    ∀ (m i : Nat), i + m = Nn → ∀ (s₀ s : Shared) (H0 H : Hp) (σ : L2.St) (it r xx : Addr), Inv (gx P w K mg base N env A outer L xx s₀ H0) [] σ H s →
      (∀ b o, L < b ∨ b = xx → b ≠ it → s₀.heap.get? b = some o → ∃ u, H0 b = some (.frz o u)) → (∀ o, s₀.heap.get? it = some o → L < it ∧ o.cls = .type "range_iterator") → (∀ b, b ≤ L → b ≠ xx → H0 b = none) → xx ∉ frs outer →
      IsRangeIter s.heap it (0 + (i : Nat) * 1) ((Nn : Int) - (i : Nat)) 1 → FpOk (gx P w K mg base N env A outer L xx s₀ H0) [] H it → L < it →
      (i < Nn → σ[2]? = some (some (.ref r)) ∧ H r = some (.lst ((row i).map V.int)) ∧ s₀.heap.get? r = none) →
      Seg (model P w) A (RG outer L) (YG base outer L Nn row) m s₀ (.forLoop tgt (.ref it) [.Expr (.Yield (some erow) py) pe, stN] [] env) ((model P w).den (.forLoop tgt (.ref it) [.Expr (.Yield (some erow) py) pe, stN] [] env)) fs s := by
  intro m
  induction m with
  | zero =>
    intro i hi s₀ s H0 H σ it r xx I hw hit hlo hxf hri hfp hLi hr
    have ei : i = Nn := by omega
    subst ei
    refine seg_forLoop ?_
    rw [hov]
    have T := turn_range (P := P) (w := w) (K := K) (tg := tgt) it 0 i
    refine wpAny_mono (T.done (gx P w K mg base N env A outer L xx s₀ H0) rfl rfl rfl rfl i [] s σ H (fun _ _ => False) I (fun b hb => by
      have e : b = it := by simpa using hb
      subst e; exact hfp) hri (Nat.le_refl _)) (fun rr s1 ⟨er, I1⟩ => ?_) fun _ _ z => z.elim
    subst er
    exact seg_blockEnd (hpop _ s₀ s1 (gx_kept F I1 hw hit hlo hxf))
  | succ m ih =>
    intro i hi s₀ s H0 H σ it r xx I hw hit hlo hxf hri hfp hLi hr
    have hiN : i < Nn := by omega
    obtain ⟨hσ2, hHr, hr0⟩ := hr hiN
    refine seg_forLoop ?_
    rw [hov]
    have T := turn_range (P := P) (w := w) (K := K) (tg := tgt) it 0 Nn
    have hfp' : ∀ b ∈ [it], FpOk (gx P w K mg base N env A outer L xx s₀ H0) [] H b := fun b hb => by
      have e : b = it := by simpa using hb
      subst e; exact hfp
    refine wpAny_mono (T.item (gx P w K mg base N env A outer L xx s₀ H0) rfl rfl rfl rfl i [] s σ H (fun _ _ => False) I hfp' hri hiN) (fun rr s1 ⟨u, er, h1⟩ => ?_) fun _ _ z => z.elim
    subst er
    refine wpAny_mono h1 (fun _ s2 ⟨x, H2, I2, rx, ⟨eH, ex⟩, tn2, fr2⟩ => ?_) fun _ _ z => z.elim
    subst eH ex
    have hfp2 : FpOk (gx P w K mg base N env A outer L xx s₀ H0) [] H2 it := hfp
    have I2p := I2.pinned hfp' (T.obj _ _ tn2)
    refine wpAny_mono ((hmk xx s₀ H0).run _ s2 σ H2 _ u (fun σ' H' => σ' = σ.set 3 (some (.int (0 + (i : Int)))) ∧ H' = H2) I2p rx ⟨rfl, rfl⟩) (fun _ s3 ⟨σ3, H3, I3, e3, eH3⟩ => ?_) fun _ _ z => z.elim
    subst e3 eH3
    intro J
    have hlen : σ.length = 4 := by rw [I.len]; exact hN4
    have hσ2' : (σ.set 3 (some (.int (0 + (i : Int)))))[2]? = some (some (.ref r)) := by
      rw [List.getElem?_set_ne (by decide)]; exact hσ2
    have hσ3' : (σ.set 3 (some (V.int (0 + (i : Int)))))[3]? = some (some (.int (i : Int))) := by
      rw [List.getElem?_set_self (by omega), Int.zero_add]
    refine seg_execs_cons ?_
    refine seg_Expr_Yield hsp rfl hgd ?_ hco hint
    rw [hov]
    refine wpAny_mono ((hrow xx s₀ H0).run _ s3 _ H3 (fun v H' => v = .ref r ∧ H' = H3) I3 ⟨_, hσ2', rfl, rfl⟩) (fun v s4 ⟨y, H4, I4, ry, ey, eH4⟩ => ?_) fun _ _ z => z.elim
    subst ey eH4
    cases ry
    have tn4 : IsRangeIter s4.heap it (0 + ((i + 1 : Nat) : Int) * 1) ((Nn : Int) - ((i + 1 : Nat) : Int)) 1 :=
      (I4.pin (it, _) (List.mem_append_right _ (List.mem_append_right _ (mem_pinsAt (by simp) tn2)))).1
    have I4' := I4.unpinned
    intro kap hk
    obtain ⟨hz, its, c, rv, er⟩ := I4'.hok r _ hHr
    obtain ⟨mm, hns, hnm⟩ := gx_names F I4'
    obtain ⟨oL, esL, epL, hoL, hdL, hrL⟩ := id hns
    have hrL' : r ≠ L := fun z => by
      have h1 : H4 env.locals = none := I4'.free
      rw [F.loc, ← z, hHr] at h1
      cases h1
    have hri' : r ≠ it := fun z => by
      have h1 : H4 it = none := hfp.1
      rw [← z, hHr] at h1
      cases h1
    have hrb : base.get? r = none := by
      cases q : base.get? r with
      | none => rfl
      | some o =>
        have h1 := (I4'.bs r o q).2
        rw [hHr] at h1; cases h1
    have hrf : r ∉ frs outer := fun z => by
      have h1 := I4'.stkFree r (by
        show r ∈ frs (env :: outer)
        unfold frs
        rw [List.filterMap_cons, F.frame]
        exact List.mem_cons_of_mem _ z)
      rw [hHr] at h1; cases h1
    obtain ⟨oit, hoit⟩ : ∃ oit : Obj, oit = { cls := .type "range_iterator", dict := none, data := .fields #[rawInt (0 + ((i + 1 : Nat) : Int) * 1), rawInt ((Nn : Int) - ((i + 1 : Nat) : Int)), rawInt 1], slots := #[] } := ⟨_, rfl⟩
    have tn4' : s4.heap.get? it = some oit := by rw [hoit]; exact tn4
    have hoic : ∀ v, oit.data ≠ .cell v := fun v y => by rw [hoit] at y; cases y
    refine ⟨r, its.toArray, c, [(L, oL), (it, oit)], by omega, rfl, gx_kept F I4' hw hit hlo hxf, hr0, er, ?_, ?_, ?_, ⟨oL, by simp⟩, fun z S hzr hzf => ?_⟩
    · have e : Nn - 1 - m = i := by omega
      rw [e]
      simpa using rv
    · have e : Nn - 1 - m = i := by omega
      rw [e]
      simpa using hz
    · intro q hq
      rcases List.mem_cons.mp hq with e | hq
      · subst e
        have hoLc : ∀ v, oL.data ≠ .cell v := fun v y => by rw [hdL] at y; cases y
        exact ⟨hoL, Nat.le_refl _, Ne.symm hrL', hoLc, .inl rfl⟩
      · have e := List.mem_singleton.mp hq
        subst e
        refine ⟨tn4', Nat.le_of_lt hLi, Ne.symm hri', hoic, .inr ?_⟩
        cases q2 : s₀.heap.get? it with
        | none => exact .inl rfl
        | some o => exact .inr ⟨o, rfl, (hit o q2).2⟩
    -- woken again, in the state z
    refine hk .none z ?_
    have hzL : z.heap.get? L = some oL := hzf (L, oL) (by simp)
    have hzi : IsRangeIter z.heap it (0 + ((i + 1 : Nat) : Int) * 1) ((Nn : Int) - ((i + 1 : Nat) : Int)) 1 := by
      have h1 := hzf (it, oit) (by simp)
      rw [hoit] at h1
      exact h1
    let Hz : Hp := upd (watch z.heap L it) r (.frz (lstObj its.toArray c) (.lst ((row i).map V.int)))
    have Hzr : Hz r = some (.frz (lstObj its.toArray c) (.lst ((row i).map V.int))) := upd_same
    have Hzn : ∀ b, b ≠ r → Hz b = watch z.heap L it b := fun b hb => upd_ne hb
    have okz : HOk P w Hz z.heap := fun b u e => by
      by_cases hb : b = r
      · subst hb
        rw [Hzr] at e
        cases e
        exact ⟨hzr, hz, its, c, rv, hzr⟩
      · rw [Hzn b hb] at e
        obtain ⟨_, _, o, ho, rfl⟩ := watch_some e
        exact ⟨ho, o, ho⟩
    have hHz : ∀ b, b ≤ L → b ≠ r → Hz b = none := fun b h1 h2 => by rw [Hzn b h2]; exact watch_lo h1
    have Iz := gx_inv (P := P) (w := w) (N := N) (σ := σ.set 3 (some (.int (0 + (i : Int))))) F S hrb hrf hHz (by rw [Hzn L (Ne.symm hrL')]; exact watch_lo (Nat.le_refl _)) okz (m := mm) ⟨oL, esL, epL, hzL, hdL, hrL⟩ hnm (by rw [List.length_set, hlen, hN4])
    have hfpz : FpOk (gx P w K mg base N env A outer L r z Hz) [] Hz it := by
      refine ⟨by rw [Hzn it (Ne.symm hri')]; exact watch_it, fun q => ?_, fun q => ?_, .inr ?_, fun x c q => ?_, fun p hp => by cases hp⟩
      · have q' : it = env.locals := q
        rw [F.loc] at q'
        exact Nat.lt_irrefl _ (q' ▸ hLi)
      · exact Nat.lt_irrefl _ (Nat.lt_trans hLi (F.frs it q))
      · show (ground z.heap L r).objs.size ≤ it
        rw [ground_size (Nat.le_of_lt S.size)]
        exact Nat.le_of_lt hLi
      · have q' : env.cells.lookup x = some c := q
        rw [F.cells] at q'; cases q'
    have Izp := Iz.pinned (fp := [it]) (fun b hb => by
      have e : b = it := by simpa using hb
      subst e; exact hfpz) (fun b hb => by
      have e : b = it := by simpa using hb
      subst e; exact ⟨_, hzi, fun v y => by cases y⟩)
    refine seg_execs_cons ?_
    refine seg_wrap ?_
    rw [hov]
    refine wpAny_mono ((hnext r z Hz).run _ z _ Hz ⟨fun σ' H' => ∃ p, σ' = (σ.set 3 (some (.int (0 + (i : Int))))).set 2 (some (.ref p)) ∧ Same Hz H' ∧ Hz p = none ∧ H' p = some (.lst ((row (i + 1)).map V.int)), fun _ _ => False, fun _ _ => False, fun _ _ => False⟩ Izp
      (hread i _ _ Hz r hiN hσ2' hσ3' (.inl (.inr ⟨_, Hzr⟩)) fun H' p hs hp hp' => ⟨p, rfl, hs, hp, hp'⟩)) (fun f s5 h5 => ?_) fun _ _ z => z.elim
    cases f with
    | brk => obtain ⟨_, _, _, q⟩ := h5; exact q.elim
    | cont => obtain ⟨_, _, _, q⟩ := h5; exact q.elim
    | ret v => obtain ⟨_, _, _, _, _, q⟩ := h5; exact q.elim
    | next =>
      obtain ⟨σ5, H5, I5, p, e5, hsame, hp0, hp5⟩ := h5
      have tn5 : IsRangeIter s5.heap it (0 + ((i + 1 : Nat) : Int) * 1) ((Nn : Int) - ((i + 1 : Nat) : Int)) 1 :=
        (I5.pin (it, _) (List.mem_append_right _ (List.mem_append_right _ (mem_pinsAt (by simp) hzi)))).1
      have hit5 : H5 it = none := (I5.pin (it, _) (List.mem_append_right _ (List.mem_append_right _ (mem_pinsAt (by simp) hzi)))).2.1
      have hpit : p ≠ it := fun q => by rw [← q, hp5] at hit5; cases hit5
      have hpL : p ≠ L := fun q => by
        have h1 : H5 env.locals = none := I5.free
        rw [F.loc, ← q, hp5] at h1
        cases h1
      have hpr : p ≠ r := fun q => by rw [q, Hzr] at hp0; cases hp0
      have hpz : z.heap.get? p = none := by
        cases q : z.heap.get? p with
        | none => rfl
        | some o =>
          rcases Nat.lt_or_ge p L with y | y
          · have h1 := I5.base.free p o (ground_in y hpr q) hp0 (fun hb => by cases hb)
            rw [hp5] at h1; cases h1
          · have h1 : Hz p = some (.frz o (.own 0)) := by
              rw [Hzn p hpr]
              exact watch_in (Nat.lt_of_le_of_ne y (Ne.symm hpL)) hpit q
            rw [hp0] at h1; cases h1
      refine seg_execs_nil ?_
      refine seg_again rfl ?_
      refine ih (i + 1) (by omega) z s5 Hz H5 σ5 it p r I5.unpinned (fun b o hb hbi e => ?_) (fun o e => ?_) hHz hrf tn5 ?_ hLi (fun _ => ⟨?_, hp5, hpz⟩)
      · by_cases hbr : b = r
        · subst hbr
          rw [hzr] at e
          cases e
          exact ⟨_, Hzr⟩
        · have hbL : L < b := by
            rcases hb with hb | hb
            · exact hb
            · exact absurd hb hbr
          exact ⟨_, by rw [Hzn b hbr]; exact watch_in hbL hbi e⟩
      · have e1 : z.heap.get? it = some _ := hzi
        rw [e1] at e
        cases e
        exact ⟨hLi, rfl⟩
      · exact ⟨hit5, hfpz.2⟩
      · rw [e5, List.getElem?_set_self]
        rw [List.length_set, hlen]
        decide
end
end Gx
set_option maxHeartbeats 4000000
namespace Gx
open PySem PySem.Spec PyProof.Rows L2 GenW
open Sem (wp)

/-- a generator that has not begun: its object at a, its frame at L -/
def Born (P : Program) (w : World) (base : Heap) (outer : List Env) (k Nn : Nat) (row : Nat → List Int) (s : Shared) (u : Value) (s' : Shared) : Prop :=
  ∃ (a : Addr) (g : Nat) (c : Code) (L : Addr) (oL : Obj), u = .ref a ∧ L = s.heap.objs.size ∧ L < a ∧ a < s'.heap.objs.size ∧ s'.heap.IsGen a g ∧ s'.gens[g]? = some (.fresh c) ∧ s'.os = s.os ∧ AllBare s'.gens ∧
    (∀ b o, s.heap.get? b = some o → s'.heap.get? b = some o) ∧ s'.heap.get? L = some oL ∧ (∃ es ep, oL.data = .dict es ep) ∧
    ∀ (A : Around) (s2 : Shared), Room k A → A.frames = some outer → Sur base outer L s2 → s2.heap.get? L = some oL →
      Seg (model P w) A (RG outer L) (YG base outer L Nn row) Nn s2 c ((model P w).den c) [] s2

section
variable {P : Program} {w : World} {K : PySem.W.Frag} {mg : Str → Option Value} {base : Heap}
/-- THE RULE of such a generator def -/
theorem born_of {k : Nat} {f : Addr} {name qual : Str} {params : Arguments} {scope : Scope} {dV kV doc pm cdv ct oc : Value} {an od : Option Addr} {osl : Array (Option Value)} {N ps : List Str}
    {st1 stN : Stmt} {tgt earg erow : Expr} {pf pr py pe pr2 : Pos} {t1 tN : TS} {ta : TA} {n d : Int} {row : Nat → List Int}
    (lk : K.lookup f = some ⟨oc, od, .func (PySem.W.fnOf name qual params [st1, .For tgt (.Call (.Name "range" pr) [earg] [] pr2) [.Expr (.Yield (some erow) py) pe, stN] [] pf] scope dV kV doc pm an cdv ct), osl⟩)
    (hcd : PySem.W.codeIn K cdv qual = true) (S : GScope N ps scope) (hps : ps.length = 2) (hN4 : N.length = 4)
    (hcells : ∀ L : Nat, cellsFrom (L + 1) scope.names [] = []) (hnoc : ∀ x, scope.names.lookup x ≠ some .cell ∧ scope.names.lookup x ≠ some .free) (hd1 : 0 ≤ d) (hd2 : d < 2 ^ 61)
    (hmg : mg "range" = none) (hgl : scope.names.lookup ("range" : Str) = some .globalImplicit)
    (h1 : ∀ (A : Around) (outer : List Env) (L : Addr) xx s H, Room k (A.deeper (envOfC qual scope L f cdv)) → PS (gx P w K mg base N (envOfC qual scope L f cdv) A outer L xx s H) st1 t1)
    (h1r : ∀ (D : Ends) (σ : L2.St) (H : Hp), σ[0]? = some (some (.int n)) → (∀ H' p, Same H H' → H p = none → H' p = some (.lst ((row 0).map V.int)) → D.nx (σ.set 2 (some (.ref p))) H') → t1 D σ H)
    (harg : ∀ (A : Around) (outer : List Env) (L : Addr) xx s H, PA (gx P w K mg base N (envOfC qual scope L f cdv) A outer L xx s H) [earg] ta)
    (hst : ∀ (L : Addr), starEach [earg] (envOfC qual scope L f cdv) = [(false, eval earg (envOfC qual scope L f cdv))])
    (hargr : ∀ (σ : L2.St) (H : Hp) (Q : List V → Hp → Prop), σ[1]? = some (some (.int d)) → Q [.int (d + 1)] H → ta σ H Q)
    (hmk : ∀ (A : Around) (outer : List Env) (L : Addr) xx s H, PG (gx P w K mg base N (envOfC qual scope L f cdv) A outer L xx s H) tgt (gName 3))
    (hrow : ∀ (A : Around) (outer : List Env) (L : Addr) xx s H, PE (gx P w K mg base N (envOfC qual scope L f cdv) A outer L xx s H) erow (tVar 2))
    (hnext : ∀ (A : Around) (outer : List Env) (L : Addr) xx s H, Room k (A.deeper (envOfC qual scope L f cdv)) → PS (gx P w K mg base N (envOfC qual scope L f cdv) A outer L xx s H) stN tN)
    (hread : ∀ (i : Nat) (D : Ends) (σ : L2.St) (H : Hp) (r : Addr), i < (d + 1).toNat → σ[2]? = some (some (.ref r)) → σ[3]? = some (some (.int (i : Int))) → SqL K H r ((row i).map V.int) →
      (∀ H' p, Same H H' → H p = none → H' p = some (.lst ((row (i + 1)).map V.int)) → D.nx (σ.set 2 (some (.ref p))) H') → tN D σ H)
    {A : Around} {outer : List Env} {s : Shared} {H : Hp} {args : Args} {us : List Value} (hr : Room (k + 1) A) (e0 : Env0 P w K mg base A outer s H)
    (hb : BindsTo s (PySem.W.fnOf name qual params [st1, .For tgt (.Call (.Name "range" pr) [earg] [] pr2) [.Expr (.Yield (some erow) py) pe, stN] [] pf] scope dV kV doc pm an cdv ct) args (ps.zip us)) (rv : Vals [.int n, .int d] us) :
    codeAny (model P w) A (.call (.ref f) args) (fun r s' => match r with | .ok (.ret u) => Born P w base outer (k + 1) (d + 1).toNat row s u s' | _ => False) s := by
  have KX : K.In s.heap := e0.mod.kin.keeps fun b o e => (e0.bs b o e).1
  have lim : s.heap.NoLimit := e0.mod.nolimit.keeps fun b o e => (e0.bs b o e).1
  have ul : us.length = 2 := rv.length.symm
  have hkind : ∀ y ∈ ps.zip us, scope.names.lookup y.1 = some .local ∨ (scope.names.lookup y.1 = some .cell ∧ ((cellsFrom (s.heap.objs.size + 1) scope.names []).lookup y.1).isSome = true) := fun y hy => by
    rcases S.par y.1 (List.of_mem_zip (a := y.1) (b := y.2) hy).1 with q | q
    · exact .inl q
    · exact ((hnoc y.1).1 q).elim
  refine codeAny_call_generator hr.depth (KX _ _ lk) rfl S.co S.gen rfl (PySem.W.codeRec_of KX hcd) (hb _ _ _ _ ?_)
  refine wpAny_newFunctionEnv_cells S.kind hkind fun env he s1 x => ?_
  subst he
  refine ⟨lim.keeps x.toInCall.keep, ?_⟩
  obtain ⟨hp1, tk, es1, hk1⟩ := x.done
  have os1 : s1.os = s.os := by rw [es1]
  have gen1 : s1.gens = s.gens := by rw [es1]
  have ns1 := x.toInCall.ns
  obtain ⟨oL, esL, epL, hoL, hdL, hrL⟩ := id ns1
  have lt1 : s.heap.objs.size < s1.heap.objs.size := ns1.lt
  have hoLc : ∀ v, oL.data ≠ .cell v := fun v y => by rw [hdL] at y; cases y
  refine ⟨s1.heap.objs.size, s1.gens.size, .func [st1, .For tgt (.Call (.Name "range" pr) [earg] [] pr2) [.Expr (.Yield (some erow) py) pe, stN] [] pf] (envOfC qual scope s.heap.objs.size f cdv), s.heap.objs.size, oL, rfl, rfl, lt1, ?_, ⟨_, _, _, Heap.get?_push_size _ rfl, rfl, rfl, rfl⟩, Array.getElem?_push_size .., os1, AllBare.push (by rw [gen1]; exact e0.bare) rfl, fun b o e => Heap.get?_push_of_some _ (x.toInCall.keep b o e), Heap.get?_push_of_some _ hoL, ⟨esL, epL, hdL⟩, ?_⟩
  · show _ < (s1.heap.push _).objs.size
    rw [Heap.size_push]; exact Nat.lt_succ_self _
  intro Aw s2 hrw hfr S2 h2L
  have F : Fix K mg base (envOfC qual scope s.heap.objs.size f cdv) Aw outer s.heap.objs.size :=
    { mod := e0.mod, kind := S.kind, glob := rfl, blt := rfl, loc := rfl, cells := hcells _, noc := fun x => hnoc x, hd := hrw.hd, frames := hfr, frame := rfl, bsz := e0.bsz,
      frs := fun b hb => by obtain ⟨_, o, ho, _⟩ := e0.funs.mem hb; exact Heap.lt_size ho }
  have hrd := hrw.deeper (envOfC qual scope s.heap.objs.size f cdv)
  obtain ⟨xx, exx⟩ : ∃ xx : Nat, xx = s2.heap.objs.size := ⟨_, rfl⟩
  have hLxx : s.heap.objs.size < xx := by rw [exx]; exact S2.size
  have hxxn : s2.heap.get? xx = none := Heap.get?_none_of_le (by rw [exx]; exact Nat.le_refl _)
  have hxb : base.get? xx = none := Heap.get?_none_of_le (Nat.le_trans e0.bsz (Nat.le_of_lt hLxx))
  have hxf : xx ∉ frs outer := fun z => Nat.lt_irrefl _ (Nat.lt_trans hLxx (F.frs xx z))
  have ndP : ps.Nodup := by rw [← S.pre]; exact S.nd.sublist (List.take_sublist _ _)
  have hlo : ∀ b, b ≤ s.heap.objs.size → b ≠ xx → watch s2.heap s.heap.objs.size xx b = none := fun b hb _ => watch_lo hb
  have I0 := gx_inv (P := P) (w := w) (N := N) (σ := L2.start N [.int n, .int d]) F S2 hxb hxf hlo (watch_lo (Nat.le_refl _)) watch_ok
    (m := bindL (envOfC qual scope s.heap.objs.size f cdv).kindOf (ps.zip us) fun _ => none) ⟨oL, esL, epL, h2L, hdL, hrL⟩ (fun i y v g1 g2 g3 => by
      have hi : i < 2 := by
        unfold L2.start at g2
        by_cases hi : i < 2
        · exact hi
        · rw [List.getElem?_append_right (by simpa using hi), List.getElem?_replicate] at g2
          split at g2 <;> cases g2
      have ha : ([V.int n, V.int d] : List V)[i]? = some v := by
        unfold L2.start at g2
        rw [List.getElem?_append_left (by simpa using hi), List.getElem?_map] at g2
        cases e : ([V.int n, V.int d] : List V)[i]? with
        | none => rw [e] at g2; cases g2
        | some a => rw [e] at g2; cases g2; rfl
      obtain ⟨u, hu, ru⟩ := rv.get ha
      have hp : ps[i]? = some y := by
        rw [← S.pre, List.getElem?_take_of_lt (by omega)]; exact g1
      refine ⟨u, ru, ?_⟩
      rcases S.par y (List.mem_of_getElem? hp) with q | q
      · exact ⟨q, bindL_get ndP hp hu q⟩
      · exact ((hnoc y).1 q).elim) (by
      unfold L2.start
      rw [List.length_append, List.length_map, List.length_replicate, hN4]; rfl)
  have hov0 : Aw.over (.func [st1, .For tgt (.Call (.Name "range" pr) [earg] [] pr2) [.Expr (.Yield (some erow) py) pe, stN] [] pf] (envOfC qual scope s.heap.objs.size f cdv)) [] = Aw.deeper (envOfC qual scope s.heap.objs.size f cdv) := over_func
  refine seg_func ?_
  refine seg_execs_cons ?_
  refine seg_wrap ?_
  rw [hov0]
  refine wpAny_mono ((h1 Aw outer s.heap.objs.size xx s2 (watch s2.heap s.heap.objs.size xx) hrd).run [] s2 _ _ ⟨fun σ' H' => ∃ p, σ' = (L2.start N [.int n, .int d]).set 2 (some (.ref p)) ∧ Same (watch s2.heap s.heap.objs.size xx) H' ∧ watch s2.heap s.heap.objs.size xx p = none ∧ H' p = some (.lst ((row 0).map V.int)), fun _ _ => False, fun _ _ => False, fun _ _ => False⟩ I0
    (h1r _ _ _ rfl fun H' p hs hp hp' => ⟨p, rfl, hs, hp, hp'⟩)) (fun fl s3 h3 => ?_) fun _ _ z => z.elim
  cases fl with
  | brk => obtain ⟨_, _, _, q⟩ := h3; exact q.elim
  | cont => obtain ⟨_, _, _, q⟩ := h3; exact q.elim
  | ret v => obtain ⟨_, _, _, _, _, q⟩ := h3; exact q.elim
  | next =>
    obtain ⟨σ3, H3, I3, p, e3, hsame, hp0, hp3⟩ := h3
    subst e3
    refine seg_execs_cons ?_
    refine seg_For ?_
    rw [hov0]
    refine Call_ (ld_blt I3 (show (envOfC qual scope s.heap.objs.size f cdv).kindOf "range" = some .globalImplicit from hgl) hmg boot_range (PyProof.Rows.callWith_type1 (wpAny_mono ((harg Aw outer s.heap.objs.size xx s2 _).run pr2 [] s3 _ H3 (fun vs H' => vs = [.int (d + 1)] ∧ H' = H3) I3 (hargr _ _ _ rfl ⟨rfl, rfl⟩)) (fun us4 s4 ⟨vs4, H4, I4, r4, e4, eH4⟩ => ?_) fun _ _ z => z.elim) (hst _) rfl))
    subst e4 eH4
    obtain ⟨t4, hus⟩ : ∃ t, us4 = [.int (d + 1) t] := by
      cases r4 with
      | cons r rr =>
        cases rr
        obtain ⟨t, rfl⟩ := r
        exact ⟨t, rfl⟩
    subst hus
    refine call_range_1 ?_
    have I5 : Inv (gx P w K mg base N (envOfC qual scope s.heap.objs.size f cdv) Aw outer s.heap.objs.size xx s2 (watch s2.heap s.heap.objs.size xx)) [] _ H4 { s4 with heap := s4.heap.push { cls := .type "range", data := .fields #[.int 0 s4.toks, .int (d + 1) t4, .int 1 (s4.toks + 1)] }, toks := s4.toks + 1 + 1 } :=
      I4.kept fun b o e => Heap.get?_push_of_some _ e
    have p62 : (2 : Int) ^ 62 = 4611686018427387904 := by decide
    have p61 : (2 : Int) ^ 61 = 2305843009213693952 := by decide
    refine wpAny_pyIter_range (IsRange.new ..) (small_one (by rw [p62]; omega) (by rw [p62]; omega) (by rw [p62]; omega) (by rw [p62]; rw [p61] at hd2; omega)) ?_
    intro pp
    have hLs : s.heap.objs.size < s4.heap.objs.size := I4.lt
    have I6 : Inv (gx P w K mg base N (envOfC qual scope s.heap.objs.size f cdv) Aw outer s.heap.objs.size xx s2 (watch s2.heap s.heap.objs.size xx)) [] _ H4 { s4 with heap := (s4.heap.push { cls := .type "range", data := .fields #[.int 0 s4.toks, .int (d + 1) t4, .int 1 (s4.toks + 1)] }).push { cls := .type "range_iterator", data := .fields #[rawInt 0, rawInt (Builtin.Range.rangeSize 0 (d + 1) 1), rawInt 1] }, toks := s4.toks + 1 + 1 } :=
      I5.kept (t' := s4.toks + 1 + 1) fun b o e => Heap.get?_push_of_some _ e
    have hfp := I5.fpOk (H' := H4) (b := (s4.heap.push { cls := .type "range", data := .fields #[.int 0 s4.toks, .int (d + 1) t4, .int 1 (s4.toks + 1)] }).objs.size) (Nat.le_refl _) (I5.hok.fresh (Nat.le_refl _))
    have hfresh : ∀ b, H4 b = none → s.heap.objs.size < b → b ≠ xx → s2.heap.get? b = none := fun b hb hlb hbx => by
      cases q : s2.heap.get? b with
      | none => rfl
      | some o =>
        have q2 := hsame b _ (watch_in hlb hbx q)
        rw [hb] at q2; cases q2
    have hLit : s.heap.objs.size < (s4.heap.push { cls := .type "range", data := .fields #[.int 0 s4.toks, .int (d + 1) t4, .int 1 (s4.toks + 1)] }).objs.size := by
      rw [Heap.size_push]; exact Nat.lt_succ_of_lt hLs
    refine turns (Nn := (d + 1).toNat) F hN4 (fun xx s H => hmk Aw outer _ xx s H) (fun xx s H => hrow Aw outer _ xx s H) (fun xx s H => hnext Aw outer _ xx s H hrd) hread (fun it => (over_loop rfl rfl).trans hov0) rfl rfl S.co ?_ (fun c' s₀ s' hkb => ?_) (d + 1).toNat 0 (Nat.zero_add _) s2 _ _ H4 _ _ p xx I6
      (fun b o hb hbi e => ?_) (fun o e => ?_) hlo hxf ?_ hfp hLit (fun _ => ⟨?_, hp3, ?_⟩)
    · show interactive (envOfC qual scope s.heap.objs.size f cdv) = false
      simp [interactive, envOfC, S.kind]
    · refine seg_leaf (.ok .next) ?_
      exact seg_end (.ok (.ret .none)) ⟨.inl rfl, rfl, hkb⟩
    · rcases hb with hb | hb
      · have hbx : b ≠ xx := fun z => by rw [z, hxxn] at e; cases e
        exact ⟨_, watch_in hb hbx e⟩
      · rw [hb, hxxn] at e; cases e
    · have hitx : s2.heap.get? ((s4.heap.push { cls := .type "range", data := .fields #[.int 0 s4.toks, .int (d + 1) t4, .int 1 (s4.toks + 1)] }).objs.size) = none := by
        by_cases z : (s4.heap.push { cls := .type "range", data := .fields #[.int 0 s4.toks, .int (d + 1) t4, .int 1 (s4.toks + 1)] }).objs.size = xx
        · rw [z]; exact hxxn
        · exact hfresh _ hfp.1 hLit z
      rw [hitx] at e; cases e
    · have e2 : (((d + 1).toNat : Nat) : Int) - ((0 : Nat) : Int) = Builtin.Range.rangeSize 0 (d + 1) 1 := by rw [rangeSize_one]; split <;> omega
      show IsRangeIter _ _ (0 + ((0 : Nat) : Int) * 1) ((((d + 1).toNat : Nat) : Int) - ((0 : Nat) : Int)) 1
      rw [e2]
      exact Heap.get?_push_size _ rfl
    · rw [List.getElem?_set_self]
      unfold L2.start
      rw [List.length_append, List.length_map, List.length_replicate, hN4]
      show 2 < 2 + (4 - 2)
      decide
    · cases q : s2.heap.get? p with
      | none => rfl
      | some o =>
        have hpx : p ≠ xx := fun z => by rw [z, hxxn] at q; cases q
        rcases Nat.lt_or_ge p s.heap.objs.size with y | y
        · have q1 := I6.base.free p o (ground_in y hpx q) hp0 (fun hb => by cases hb)
          rw [hp3] at q1; cases q1
        · rcases Nat.lt_or_eq_of_le y with y | y
          · have q1 := watch_in (it := xx) y hpx q
            rw [hp0] at q1; cases q1
          · have q1 : H4 (envOfC qual scope s.heap.objs.size f cdv).locals = none := I6.free
            have q2 : (envOfC qual scope s.heap.objs.size f cdv).locals = p := y
            rw [q2, hp3] at q1; cases q1
end
end Gx
set_option maxHeartbeats 4000000
namespace Gx
open PySem PySem.Spec PyProof.Rows L2 GenW
open Sem (wp)

/-- how it goes on behind n more -/
def nextGoes (M : Model) (A : Around) (R : GenEnd) (Y : Protocol) (x : GenState) : Nat → Resume → Shared → Prop
  | 0 => fun _ _ => False
  | m + 1 => fun r t => x.Goes M A R Y m r t
/-- a generator is woken; what it is when it has handed out is a suspended one -/
theorem resume_susp {M : Model} {A : Around} {R : GenEnd} {Y : Protocol} {n : Nat} {E : Value → Shared → Prop} {s : Shared} {g : Nat} {x : GenState} {r : Resume} {l : List Value} {β : Type} {k : GenResult → Sem β} {Q : β → Shared → Prop}
    (hx : s.gens[g]? = some x) (go : x.Goes M A R Y n r (s.setGen g .running))
    (ends : ∀ y t, R n (s.setGen g .running) y t → wpAny M A (k (End.ret y).result) Q E (t.setGen g .finished))
    (gives : ∀ v t x', x'.bare = true → Susp x' → Y (n - 1) (s.setGen g .running) v t (nextGoes M A R Y x' n) → wpAny M A (k (.yielded v)) Q E (t.setGen g x')) :
    wpAny M A (.resume g r l k) Q E s := by
  intro Γ p hΓ
  rw [Sem.wp_resume]
  have hB : ∀ c, (Γ.wake c p).Woken A := fun c => hΓ.wake c p
  have after : ∀ e t, SegEnd R Y n (Seg.next M A R Y n) (s.setGen g .running) e t → e.quiet = true ∧ wp M Γ (k e.result) (fun b _ t' => Q b t') (fun z _ t' => E z t') p (t.setGen g e.genState) := fun e t he => by
    cases e with
    | ret y => exact ⟨rfl, ends y t he Γ p hΓ⟩
    | susp v g0 l0 k0 c0 p0 fs0 =>
      refine ⟨he.1, gives v t _ (End.bare_of_quiet he.1) ⟨_, _, _, _, _, _, rfl⟩ ?_ Γ p hΓ⟩
      cases n with
      | zero => exact he.2
      | succ m => exact he.2
  cases x with
  | fresh c =>
    obtain ⟨rfl, hs⟩ := go
    obtain ⟨e, t, hr, he⟩ := seg_iff.mp hs (Γ.wake c p) p rfl (hB c)
    refine ⟨_, _, ?_, (after e t he).2⟩
    unfold Wakes
    rw [hx]
    exact ⟨e, t, hr, (after e t he).1, rfl, rfl⟩
  | suspended k0 l0 c0 p0 fs cl =>
    obtain ⟨e, t, hr, he⟩ := seg_iff.mp go (Γ.wake c0 p) p0 rfl (hB c0)
    refine ⟨_, _, ?_, (after e t he).2⟩
    unfold Wakes
    rw [hx]
    exact ⟨e, t, hr, (after e t he).1, rfl, rfl⟩
  | running => exact go.elim
  | finished => exact go.elim
section
variable {prog : Program} {w : World} {A : Around} {E : Value → Shared → Prop} {s : Shared}
/-- g.__next__() -/
theorem special_gen {a : Addr} {g n : Nat} {x : GenState} {R : GenEnd} {Y : Protocol} {Q : Option Value → Shared → Prop} (hh : A.handled = none) (hl : s.heap.NoLimit) (hroom : A.depth < recursionLimit) (hg : s.heap.IsGen a g) (hx : s.gens[g]? = some x)
    (go : x.Goes (model prog w) A.in1 R Y n (.send .none) (s.setGen g .running))
    (gives : ∀ v t x', x'.bare = true → Susp x' → Y (n - 1) (s.setGen g .running) v t (nextGoes (model prog w) A.in1 R Y x' n) → Q (some v) (t.setGen g x'))
    (ends : ∀ y t, R n (s.setGen g .running) y t → (y = .ok (.ret .none) ∨ y = .ok .next) ∧ ∀ h' e, (∀ b o, t.heap.get? b = some o → h'.get? b = some o) → (∃ o, h'.get? e = some o ∧ o.cls = .type "StopIteration") → E (.ref e) { t.setGen g .finished with heap := h' }) :
    wpAny (model prog w) A (callSpecial? (.ref a) (Str.ofString "__next__")) Q E s := by
  refine wpAny_callSpecial?_slot hg.typeIs slot_gen_next (wpAny_call_entry slot_gen_next hg.typeIs entry_gen_next ?_ (args_gen_next _))
  show wpAny _ A.in1 (Builtin.Generator.genWake (.ref a) (.send .none)) _ _ s
  unfold Builtin.Generator.genWake
  refine wpAny_bind (wpAny_holding (wpAny_genNumber hg (wpAny_bind (wpAny_genState hx ?_))))
  have fin : ∀ y t, R n (s.setGen g .running) y t → (End.ret y).result = .returned .none := fun y t hy => by
    rcases (ends y t hy).1 with e | e <;> rw [e] <;> rfl
  cases x with
  | running => exact go.elim
  | finished => exact go.elim
  | _ =>
    refine wpAny_bind (wpAny_roomToWake hl hroom ?_)
    show wpAny _ A.in1 (.resume g (.send .none) [] _) _ _ s
    refine resume_susp hx go (fun y t hy => ?_) (fun v t x' b1 b2 hy => wpAny_pure ⟨v, rfl, gives v t x' b1 b2 hy⟩)
    rw [fin y t hy]
    show wpAny _ A.in1 (newExc (.type "StopIteration") [] >>= _) _ _ _
    refine wpAny_bind ?_
    simp only [newExc, newTuple]
    refine wpAny_bind (wpAny_newObj_type ?_ (by size_fits))
    refine wpAny_bind (m := firstArgMember _ _) (wpAny_of_eq (a := Value.none) (by first | rfl | (simp only [firstArgMember]; rfl)) ?_)
    refine wpAny_newObj_type ?_ (by size_fits)
    simp only [raiseNew]
    refine wpAny_bind (wpAny_bind (wpAny_handled ?_))
    first | rw [show A.in1.handled = none from hh] | rw [hh]
    refine wpAny_throw ?_
    exact (ends y t hy).2 _ _ (fun b o hb => Heap.get?_push_of_some _ (Heap.get?_push_of_some _ hb)) ⟨_, Heap.get?_push_size _ rfl, rfl⟩
/-- next, in a for -/
theorem next_gen {a : Addr} {g n : Nat} {x : GenState} {R : GenEnd} {Y : Protocol} {Q : Option Value → Shared → Prop} (hh : A.handled = none) (hl : s.heap.NoLimit) (hroom : A.depth < recursionLimit) (hg : s.heap.IsGen a g) (hx : s.gens[g]? = some x)
    (go : x.Goes (model prog w) A.in1 R Y n (.send .none) (s.setGen g .running))
    (gives : ∀ v t x', x'.bare = true → Susp x' → Y (n - 1) (s.setGen g .running) v t (nextGoes (model prog w) A.in1 R Y x' n) → Q (some v) (t.setGen g x'))
    (ends : ∀ y t, R n (s.setGen g .running) y t → (y = .ok (.ret .none) ∨ y = .ok .next) ∧ ∀ h', (∀ b o, t.heap.get? b = some o → h'.get? b = some o) → Q none { t.setGen g .finished with heap := h' }) :
    wpAny (model prog w) A (pyNext (.ref a)) Q E s := by
  unfold pyNext
  refine wpAny_bind (wpAny_attempt (special_gen hh hl hroom hg hx go (fun v t x' b1 b2 hy => wpAny_pure (gives v t x' b1 b2 hy)) fun y t hy => ⟨(ends y t hy).1, fun h' e hk he => ?_⟩))
  obtain ⟨o, ho, hc⟩ := he
  refine wpAny_bind (wpAny_isInstance (T := "StopIteration") (b := true) ⟨o, ho, hc⟩ isSubtype_stop ?_)
  exact wpAny_pure ((ends y t hy).2 h' hk)
/-- next, in enumerate -/
theorem nextOf_gen {a : Addr} {g n : Nat} {x : GenState} {R : GenEnd} {Y : Protocol} {Q : Value → Shared → Prop} (hh : A.handled = none) (hl : s.heap.NoLimit) (hroom : A.depth < recursionLimit) (hg : s.heap.IsGen a g) (hx : s.gens[g]? = some x)
    (go : x.Goes (model prog w) A.in1 R Y n (.send .none) (s.setGen g .running))
    (gives : ∀ v t x', x'.bare = true → Susp x' → Y (n - 1) (s.setGen g .running) v t (nextGoes (model prog w) A.in1 R Y x' n) → Q v (t.setGen g x'))
    (ends : ∀ y t, R n (s.setGen g .running) y t → False) :
    wpAny (model prog w) A (Builtin.SmallTypes.nextOf (.ref a)) Q E s := by
  unfold Builtin.SmallTypes.nextOf
  exact wpAny_bind (special_gen hh hl hroom hg hx go (fun v t x' b1 b2 hy => wpAny_pure (gives v t x' b1 b2 hy)) fun y t hy => (ends y t hy).elim)
end
end Gx
set_option maxHeartbeats 4000000
namespace Gx
open PySem PySem.Spec PyProof.Rows L2 GenW
open Sem (wp)

/-! ### forgetting what was tracked since -/
def trim (H1 H : Hp) : Hp := fun b => match H1 b with
  | some _ => H b
  | none => match H b with
    | some (.tup xs) => some (.tup xs)
    | _ => none
def Like (H1 H : Hp) : Prop := ∀ b o, H1 b = some o → H b = some o ∨ ∃ xs ys, o = .lst xs ∧ H b = some (.lst ys)
def Trimmed (H1 H : Hp) : Prop := ∀ b o, H b = some o → H1 b ≠ none ∨ ∃ xs, o = .tup xs
theorem trim_at {H1 H : Hp} {b : Addr} (h : H1 b ≠ none) : trim H1 H b = H b := by
  unfold trim
  cases q : H1 b with
  | none => exact absurd q h
  | some o => rfl
theorem trim_tup {H1 H : Hp} {b : Addr} {xs : List V} (h : H b = some (.tup xs)) : trim H1 H b = some (.tup xs) := by
  unfold trim
  cases q : H1 b with
  | none => simp only [h]
  | some o => exact h
theorem trim_sub {H1 H : Hp} {b : Addr} {o : HO} (h : trim H1 H b = some o) : H b = some o ∧ (H1 b ≠ none ∨ ∃ xs, o = .tup xs) := by
  unfold trim at h
  cases q : H1 b with
  | some u =>
    rw [q] at h
    exact ⟨h, .inl (by simp)⟩
  | none =>
    rw [q] at h
    cases q2 : H b with
    | none => simp only [q2] at h; cases h
    | some u =>
      cases u with
      | tup xs =>
        simp only [q2] at h
        cases h
        exact ⟨rfl, .inr ⟨xs, rfl⟩⟩
      | _ => simp only [q2] at h; cases h
theorem trim_none {H1 H : Hp} {b : Addr} (h : H b = none) : trim H1 H b = none := by
  cases q : trim H1 H b with
  | none => rfl
  | some o => rw [(trim_sub q).1] at h; cases h
theorem trim_trimmed (H1 H : Hp) : Trimmed H1 (trim H1 H) := fun b o e => (trim_sub e).2
theorem Like.trim {H1 H : Hp} (l : Like H1 H) : Like H1 (trim H1 H) := fun b o e => by
  rw [trim_at (by rw [e]; simp)]
  exact l b o e
theorem Same.like {H1 H : Hp} (l : Same H1 H) : Like H1 H := fun b o e => .inl (l b o e)
theorem ok_trim {P : Program} {w : World} {H1 H : Hp} {h1 h : Heap} {b : Addr} : ∀ {o : HO}, ObjOk P w H h b o → ObjOk P w H1 h1 b o → ObjOk P w (trim H1 H) h b o
  | .lst _, x, _ => x
  | .tup _, x, _ => x
  | .dK _, x, _ => x
  | .dT _, x, _ => by
    obtain ⟨z, y, xs, r, c⟩ := x
    exact ⟨z, y, xs, Paired.mapP r fun p q z => ⟨z.1, trim_tup z.2.1, z.2.2⟩, c⟩
  | .set _ _, x, _ => x
  | .ins C dx fs, x, y => by
    obtain ⟨d, z⟩ := x
    obtain ⟨d1, _⟩ := y
    exact ⟨by rw [trim_at (by rw [d1]; simp)]; exact d, z⟩
  | .own _, x, _ => x
  | .xd _, x, _ => x
  | .rng _ _, x, _ => x
  | .frz o u, x, y => ⟨x.1, ok_trim x.2 y.2⟩
  | .tbl _, x, _ => x
  | .met _ _, x, _ => x
  | .ext _, x, _ => x
section
variable {X : Cx} {pins : List (Addr × Obj)} {σ σ1 : L2.St} {H H1 : Hp} {s s1 : Shared}
theorem inv_trim (I1 : Inv X pins σ1 H1 s1) (I : Inv X pins σ H s) (l : Like H1 H) : Inv X pins σ (trim H1 H) s where
  ok := I.ok
  os := I.os
  bare := I.bare
  base := ⟨I.base.keep, I.base.slot, fun b o e n hx => trim_none (I.base.free b o e n hx), I.base.there, fun b xs e => trim_tup (I.base.tups b xs e),
    fun b o u e => by rw [trim_at (by rw [I1.base.frzs b o u e]; simp)]; exact I.base.frzs b o u e,
    fun b ps e => by
      obtain ⟨m1, e1⟩ := I1.base.tbls b ps e
      rw [trim_at (by rw [e1]; simp)]; exact I.base.tbls b ps e⟩
  loc := I.loc
  cell := I.cell
  free := trim_none I.free
  freeC := fun x c e => trim_none (I.freeC x c e)
  pin := fun p hp => let ⟨a, b, c⟩ := I.pin p hp; ⟨a, trim_none b, c⟩
  hok := fun b o e => by
    obtain ⟨e1, e2⟩ := trim_sub e
    rcases e2 with e2 | ⟨xs, rfl⟩
    · cases q : H1 b with
      | none => exact absurd q e2
      | some o1 =>
        rcases l b o1 q with z | ⟨xs, ys, z1, z2⟩
        · rw [e1] at z
          have eo : o = o1 := Option.some.inj z
          subst eo
          exact ok_trim (I.hok b o e1) (I1.hok b o q)
        · rw [e1] at z2
          have eo : o = .lst ys := Option.some.inj z2
          subst eo
          exact I.hok b _ e1
    · exact I.hok b _ e1
  len := I.len
theorem inv_gens {g' : Array GenState} (I : Inv X pins σ H s) (h : AllBare g') : Inv X pins σ H { s with gens := g' } :=
  ⟨I.ok, I.os, h, I.base, I.loc, I.cell, I.free, I.freeC, I.pin, I.hok, I.len⟩
theorem inv_twin {s' : Shared} {S : Nat → Prop} {R : Nat → GenState} (I : Inv X pins σ H s) (T : Twin S R s s') (h : AllBare s'.gens) : Inv X pins σ H s' := by
  obtain ⟨b, rfl, _⟩ := T
  exact inv_gens I h

/-- where the generator's frame lies -/
structure Place (X : Cx) (pins : List (Addr × Obj)) (L : Addr) : Prop where
  s0 : X.s_0.heap.objs.size ≤ L
  loc : X.env.locals < L
  cell : ∀ x c, X.env.cells.lookup x = some c → c < L
  pin : ∀ q ∈ X.pn ++ pins, q.1 < L
  fs : ∀ b ∈ X.fs, b < L
  stk : ∀ b ∈ frs X.stack, b < L
theorem place_of (I : Inv X pins σ H s) : Place X pins s.heap.objs.size where
  s0 := I.sz
  loc := I.lt
  cell := fun x c e => by obtain ⟨v, z⟩ := I.cell x c e; exact z.lt
  pin := fun q hq => Heap.lt_size (I.pin q hq).1
  fs := fun b hb => by obtain ⟨_, o, ho, _⟩ := I.funs.mem hb; exact Heap.lt_size ho
  stk := fun b hb => by
    rcases List.mem_cons.mp (I.stkSub b hb) with e | hb
    · rw [e]; exact I.lt
    · obtain ⟨_, o, ho, _⟩ := I.funs.mem hb; exact Heap.lt_size ho
theorem untracked {L it : Addr} (I : Inv X pins σ H s) (hT : Trimmed H1 H) (hlt : ∀ b, H1 b ≠ none → b < L) (h : ∀ o, s.heap.get? it = some o → L < it ∧ o.cls = .type "range_iterator") : H it = none := by
  cases q : H it with
  | none => rfl
  | some o =>
    obtain ⟨u, hu⟩ := obj_there (I.hok it o q)
    obtain ⟨h1, h2⟩ := h u hu
    rcases hT it o q with z | ⟨xs, z⟩
    · exact absurd (hlt it z) (Nat.not_lt_of_le (Nat.le_of_lt h1))
    · subst z
      obtain ⟨_, its, _, ob, e, c, _⟩ := I.hok it _ q
      rw [hu] at e
      cases e
      rw [h2] at c
      exact absurd c (by decide)
/-- behind a generator's run -/
theorem inv_ran {L : Addr} {s0 : Shared} {H' : Hp} (I : Inv X pins σ H s) (hT : Trimmed H1 H) (hlt : ∀ b, H1 b ≠ none → b < L) (pl : Place X pins L) (hL : H L = none) (K : KeptBut X.stack L s0 s1) (eh : s0.heap = s.heap) (eo : s0.os = s.os)
    (hf : ∀ b o, s.heap.get? b = some o → H b = none → H' b = none) (ht : ∀ b xs, H b = some (.tup xs) → H' b = some (.tup xs)) (hz : ∀ b o u, H b = some (.frz o u) → H' b = some (.frz o u)) (hb : ∀ b ps, H b = some (.tbl ps) → H' b = some (.tbl ps))
    (hok : (∀ b u, H b ≠ none → s.heap.get? b = some u → s1.heap.get? b = some u) → HOk X.prog X.w H' s1.heap) : Inv X pins σ H' s1 := by
  obtain ⟨os, bare, it, hit, keep, slot⟩ := K
  rw [eh] at hit keep slot
  have hHit : H it = none := untracked I hT hlt hit
  have trk : ∀ b u, H b ≠ none → s.heap.get? b = some u → s1.heap.get? b = some u := fun b u n e => by
    refine keep b u (fun z => n (z ▸ hL)) (fun z => n (z ▸ hHit)) e fun z => n ?_
    exact I.stkFree b z
  -- what turned: the frame, and the iterator where it stood
  have main : ∀ ch : List Addr, (∀ b ∈ ch, b = L ∨ (b = it ∧ ∃ o, s.heap.get? it = some o)) → L ∈ ch → (∀ o, s.heap.get? it = some o → it ∈ ch) → Inv X pins σ H' s1 := fun ch h1 h2 h3 => by
    have nit : ∀ b o, b ∉ ch → s.heap.get? b = some o → b ≠ L ∧ b ≠ it := fun b o hb e => ⟨fun z => hb (z ▸ h2), fun z => hb (z ▸ h3 o (z ▸ e))⟩
    refine I.call' (ch := ch) (os.trans eo) ⟨fun b o e n hbf hb => ?_, fun b o e n hbf hb => ?_, fun b o e n _ => hf b o e n, fun b o e hb => ?_, ht, hz, fun b ps e => ⟨#[], by rw [Array.append_empty]; exact hb b ps e⟩⟩ (hok trk) bare fun b hb => ?_
    · obtain ⟨n1, n2⟩ := nit b o hb e
      exact keep b o n1 n2 e hbf
    · obtain ⟨n1, n2⟩ := nit b o hb e
      exact slot b o n1 n2 e hbf
    · obtain ⟨n1, n2⟩ := nit b o hb e
      by_cases z : b ∈ frs X.stack
      · obtain ⟨sl, q⟩ := slot b o n1 n2 e z
        exact ⟨_, q⟩
      · exact ⟨o, keep b o n1 n2 e z⟩
    · have hLb : L ≤ b := by
        rcases h1 b hb with z | ⟨z, o, e⟩
        · rw [z]; exact Nat.le_refl _
        · rw [z]; exact Nat.le_of_lt (hit o e).1
      exact ⟨.inr (Nat.le_trans pl.s0 hLb), Nat.ne_of_gt (Nat.lt_of_lt_of_le pl.loc hLb), fun x c e => Nat.ne_of_lt (Nat.lt_of_lt_of_le (pl.cell x c e) hLb), fun q hq => Nat.ne_of_lt (Nat.lt_of_lt_of_le (pl.pin q hq) hLb)⟩
  cases q : s.heap.get? it with
  | none => exact main [L] (fun b hb => .inl (List.mem_singleton.mp hb)) (by simp) fun o e => by rw [q] at e; cases e
  | some o => exact main [L, it] (fun b hb => by
      rcases List.mem_cons.mp hb with z | z
      · exact .inl z
      · exact .inr ⟨List.mem_singleton.mp z, o, q⟩) (by simp) fun _ _ => by simp
/-- nothing more is tracked -/
theorem inv_ran0 {L : Addr} {s0 : Shared} (I : Inv X pins σ H s) (hT : Trimmed H1 H) (hlt : ∀ b, H1 b ≠ none → b < L) (pl : Place X pins L) (hL : H L = none) (K : KeptBut X.stack L s0 s1) (eh : s0.heap = s.heap) (eo : s0.os = s.os) : Inv X pins σ H s1 :=
  inv_ran I hT hlt pl hL K eh eo (fun _ _ _ n => n) (fun _ _ e => e) (fun _ _ _ e => e) (fun _ _ e => e) fun trk b o e => (I.hok b o e).stay (fun c u hc q => trk c u (by
    rcases hc with z | z
    · rw [z, e]; simp
    · rw [z]; simp) q) (fun _ e => e) fun _ _ e => e
/-- the row that was handed out is tracked as it stands -/
theorem inv_ran1 {L p : Addr} {s0 : Shared} {its : Array Value} {c : Nat} {xs : List V} (I : Inv X pins σ H s) (hT : Trimmed H1 H) (hlt : ∀ b, H1 b ≠ none → b < L) (pl : Place X pins L) (hL : H L = none) (K : KeptBut X.stack L s0 s1) (eh : s0.heap = s.heap) (eo : s0.os = s.os)
    (hp : s.heap.get? p = none) (e1 : s1.heap.get? p = some (lstObj its c)) (rv : Vals xs its.toList) (hl : xs.length ≤ sizeLine) : Inv X pins σ (upd H p (.frz (lstObj its c) (.lst xs))) s1 := by
  have hpn : H p = none := H_none I.hok hp
  refine inv_ran I hT hlt pl hL K eh eo (fun b o e n => ?_) (fun b xs e => by rw [upd_ne (ne_of_none e hpn)]; exact e) (fun b o u e => by rw [upd_ne (ne_of_none e hpn)]; exact e) (fun b ps e => by rw [upd_ne (ne_of_none e hpn)]; exact e) fun trk b o e => ?_
  · rw [upd_ne fun z => by rw [z, hp] at e; cases e]
    exact n
  · by_cases hb : b = p
    · subst hb
      rw [upd_same] at e
      cases e
      refine ⟨e1, hl, its.toList, c, rv, ?_⟩
      rw [e1]
    · rw [upd_ne hb] at e
      refine (I.hok b o e).stay (fun c u hc q => trk c u (by
        rcases hc with z | z
        · rw [z, e]; simp
        · rw [z]; simp) q) (fun d z => by rw [upd_ne (ne_of_none z hpn)]; exact z) fun d ys z => by rw [upd_ne (ne_of_none z hpn)]; exact z
end
end Gx
set_option maxHeartbeats 4000000
namespace Gx
open PySem PySem.Spec PyProof.Rows L2 GenW
open Sem (wp)

/-- an expression whose value is such a generator, not begun: how many rows, which -/
abbrev TRows := L2.St → Hp → (Nat → (Nat → List Int) → Hp → Prop) → Prop
structure PRows (X : Cx) (k : Nat) (e : Expr) (t : TRows) : Prop where
  run : ∀ (pins : List (Addr × Obj)) (s : Shared) (σ : L2.St) (H : Hp) (cont : Nat → (Nat → List Int) → Hp → Prop), Inv X pins σ H s → t σ H cont →
    wpAny (model X.prog X.w) X.A (eval e X.env) (fun u s' => ∃ H1 sc Nn row, Inv X pins σ H1 sc ∧ Born X.prog X.w X.base X.stack k Nn row sc u s' ∧ cont Nn row H1) (fun _ _ => False) s

/-- the generator is ready for its turn i -/
structure Ready (X : Cx) (A : Around) (a L : Addr) (g Nn : Nat) (row : Nat → List Int) (i : Nat) (s : Shared) : Prop where
  gen : s.heap.IsGen a g
  goes : ∃ x, s.gens[g]? = some x ∧ x.Goes (model X.prog X.w) A (RG X.stack L) (YG X.base X.stack L Nn row) (Nn - i) (.send .none) (s.setGen g .running)
section
variable {X : Cx} {pins : List (Addr × Obj)} {σ σ1 : L2.St} {H H1 : Hp} {s s1 : Shared} {A : Around} {a L : Addr} {g Nn i : Nat} {row : Nat → List Int}
theorem setGen_bare {x : GenState} (h : AllBare s.gens) (hx : x.bare = true) : AllBare (s.setGen g x).gens := allBare_setGen h hx
theorem inv_set {x : GenState} (I : Inv X pins σ H s) (hx : x.bare = true) : Inv X pins σ H (s.setGen g x) := inv_gens (g' := (s.setGen g x).gens) I (setGen_bare I.bare hx)
theorem sur_of (I : Inv X pins σ H s) (hL : L < s.heap.objs.size) : Sur X.base X.stack L (s.setGen g .running) :=
  ⟨fun b o e => I.bk b o e, I.stack, setGen_bare I.bare rfl, hL⟩
/-- what stands behind a yield -/
structure Got (X : Cx) (A : Around) (pins : List (Addr × Obj)) (σ : L2.St) (H : Hp) (a L : Addr) (g Nn : Nat) (row : Nat → List Int) (i : Nat) (s : Shared) (u : Value) (s2 : Shared) : Prop where
  kept : ∀ b o, L < b → s.heap.get? b = some o → o.cls ≠ .type "range_iterator" → s2.heap.get? b = some o
  ex : ∃ (p : Addr) (o : Obj) (fp : List (Addr × Obj)) (x : GenState), u = .ref p ∧ i < Nn ∧ H p = none ∧ Inv X (pins ++ fp) σ (upd H p (.frz o (.lst ((row i).map V.int)))) s2 ∧ s2.heap.IsGen a g ∧ (∀ q ∈ fp, q.1 = a ∨ q.1 = L ∨ s.heap.get? q.1 = none ∨ ∃ o, s.heap.get? q.1 = some o ∧ o.cls = .type "range_iterator") ∧ (∃ oa, (a, oa) ∈ fp) ∧ (∃ oL, (L, oL) ∈ fp) ∧
    s2.gens[g]? = some x ∧ Susp x ∧ x.bare = true ∧ (∀ z, Sur X.base X.stack L z → z.heap.get? p = some o → (∀ q ∈ fp, z.heap.get? q.1 = some q.2) → x.Goes (model X.prog X.w) A (RG X.stack L) (YG X.base X.stack L Nn row) (Nn - (i + 1)) (.send .none) z)
theorem setGen_get {t : Shared} {x : GenState} (h : g < t.gens.size) : (t.setGen g x).gens[g]? = some x := setGen_at h
/-- a yield, told -/
theorem got_of (I : Inv X pins σ H s) (hT : Trimmed H1 H) (hlt : ∀ b, H1 b ≠ none → b < L) (pl : Place X pins L) (hL : H L = none) (ha : H a = none) (hLa : L < a) (hg : s.heap.IsGen a g) (hle : i ≤ Nn)
    {v : Value} {t : Shared} {x : GenState} (hb : x.bare = true) (hx : Susp x) (hsz : g < t.gens.size)
    (hy : YG X.base X.stack L Nn row (Nn - i - 1) (s.setGen g .running) v t (nextGoes (model X.prog X.w) A (RG X.stack L) (YG X.base X.stack L Nn row) x (Nn - i))) :
    Got X A pins σ H a L g Nn row i s v (t.setGen g x) := by
  obtain ⟨p, its, c, fp, hn, rfl, K, hp0, hp1, rv, hl, hfp, ⟨oL, hoL⟩, hk⟩ := hy
  have I1 := inv_ran1 I hT hlt pl hL K rfl rfl hp0 hp1 rv (by rw [List.length_map]; exact hl)
  obtain ⟨oa, nm, qn, hoa, hca, hda, hsa⟩ := hg
  have hkept : ∀ b o, L < b → s.heap.get? b = some o → o.cls ≠ .type "range_iterator" → t.heap.get? b = some o := fun b o hb e nc => by
    obtain ⟨_, _, it, hit, keep, _⟩ := K
    exact keep b o (Ne.symm (Nat.ne_of_lt hb)) (fun z => nc (hit o (z ▸ e)).2) e fun z => Nat.lt_irrefl _ (Nat.lt_trans hb (pl.stk b z))
  have hat : t.heap.get? a = some oa := by
    obtain ⟨_, _, it, hit, keep, _⟩ := K
    refine keep a oa (Ne.symm (Nat.ne_of_lt hLa)) (fun z => ?_) hoa fun z => Nat.lt_irrefl _ (Nat.lt_trans hLa (pl.stk a z))
    have h2 := (hit oa (z ▸ hoa)).2
    rw [hca] at h2
    exact absurd h2 (by decide)
  have hpn : H p = none := H_none I.hok hp0
  have hap : a ≠ p := fun z => by
    have e : s.heap.get? a = none := z ▸ hp0
    rw [hoa] at e; cases e
  have hLs : L < t.heap.objs.size := Nat.lt_trans hLa (Heap.lt_size hat)
  have surT : Sur X.base X.stack L t := ⟨fun b o e => I1.bk b o e, I1.stack, I1.bare, hLs⟩
  have hi : i < Nn := by
    rcases Nat.lt_or_eq_of_le hle with z | z
    · exact z
    · have hk0 := hk t surT hp1 fun q hq => (hfp q hq).1
      rw [show Nn - i = 0 by omega] at hk0
      exact hk0.elim
  have ei : Nn - 1 - (Nn - i - 1) = i := by omega
  rw [ei] at I1
  have en : Nn - i = (Nn - (i + 1)) + 1 := by omega
  rw [en] at hk
  have eg : t.setGen g x = { t with gens := (t.setGen g x).gens } := rfl
  have I2 : Inv X pins σ (upd H p (.frz (lstObj its c) (.lst ((row i).map V.int)))) (t.setGen g x) := inv_set I1 hb
  have hwh : ∀ q ∈ (a, oa) :: fp, q.1 = a ∨ q.1 = L ∨ s.heap.get? q.1 = none ∨ ∃ o, s.heap.get? q.1 = some o ∧ o.cls = .type "range_iterator" := fun q hq => by
    rcases List.mem_cons.mp hq with e | hq
    · exact .inl (by rw [e])
    · exact .inr (hfp q hq).2.2.2.2
  refine ⟨hkept, p, lstObj its c, (a, oa) :: fp, x, rfl, hi, hpn, I2.pins_of fun q hq => ?_, ⟨oa, nm, qn, hat, hca, hda, hsa⟩, hwh, ⟨oa, List.mem_cons_self⟩, ⟨oL, List.mem_cons_of_mem _ hoL⟩, setGen_at hsz, hx, hb, fun z S hz hzf => hk z S hz fun q hq => hzf q (List.mem_cons_of_mem _ hq)⟩
  rcases List.mem_append.mp hq with hq | hq
  · exact I2.pin q (List.mem_append_right _ hq)
  · rcases List.mem_cons.mp hq with e | hq
    · subst e
      exact ⟨hat, by rw [upd_ne hap]; exact ha, Nat.ne_of_gt (Nat.lt_trans pl.loc hLa), fun z => Nat.lt_irrefl _ (Nat.lt_trans hLa (pl.fs a z)), fun v z => by rw [hda] at z; cases z⟩
    · obtain ⟨h1, h2, h3, h4, h5⟩ := hfp q hq
      refine ⟨h1, ?_, Nat.ne_of_gt (Nat.lt_of_lt_of_le pl.loc h2), fun z => Nat.lt_irrefl _ (Nat.lt_of_le_of_lt h2 (pl.fs q.1 z)), h4⟩
      rw [upd_ne h3]
      rcases h5 with z | z | ⟨o, z1, z2⟩
      · rw [z]; exact hL
      · exact H_none I.hok z
      · cases w : H q.1 with
        | none => rfl
        | some ob =>
          rcases hT q.1 ob w with y | ⟨xs, y⟩
          · exact absurd (hlt q.1 y) (Nat.not_lt_of_le h2)
          · subst y
            obtain ⟨_, its', _, ob', e', c', _⟩ := I.hok q.1 _ w
            have z1' : s.heap.get? q.1 = some o := z1
            rw [z1'] at e'
            cases e'
            rw [z2] at c'
            exact absurd c' (by decide)
end
end Gx
set_option maxHeartbeats 4000000
namespace Gx
open PySem PySem.Spec PyProof.Rows L2 GenW
open Sem (wp)
section
variable {X : Cx} {pins : List (Addr × Obj)} {σ σ1 : L2.St} {H H1 : Hp} {s s1 : Shared}
/-- a turn's target and body leave the sleeping generator as it is -/
theorem run_body {tgt : Expr} {body : List Stmt} {gT : TG} {tb : TS} {D : Ends} {v : V} {u : Value} {g : Nat} {x : GenState} (hxe : ∀ e t, ¬ X.xe e t) (hg : PG X tgt gT) (hb : PSs X body tb) (I : Inv X pins σ H s) (rv : RelV v u)
    (hgen : s.gens[g]? = some x) (hx : Susp x) (step : gT v σ H fun σ2 H2 => tb D σ2 H2) :
    wpAny (model X.prog X.w) X.A (assign tgt X.env u) (fun _ s3 => wpAny (model X.prog X.w) X.A (execs body X.env) (fun f s4 => s4.gens[g]? = some x ∧ SP X pins D f s4) (fun _ _ => False) s3) (fun _ _ => False) s := by
  refine wpAny_mono (wpAny_doze (hg.run pins (doze s) σ H v u _ (inv_gens I (doze_bare I.bare)) rv step)) (fun _ s3 h3 => ?_) fun e t h => ?_
  · obtain ⟨s', T, σ2, H2, I2, q2⟩ := h3
    have b3 : AllBare s3.gens := T.bare I.bare I2.bare
    have I3 : Inv X pins σ2 H2 s3 := inv_twin I2 T b3
    have g3 : s3.gens[g]? = some x := T.gen hgen hx
    refine wpAny_mono (wpAny_doze (hb.run pins (doze s3) σ2 H2 D (inv_gens I3 (doze_bare I3.bare)) q2)) (fun f s4 h4 => ?_) fun e t h => ?_
    · obtain ⟨s'', T', q⟩ := h4
      refine ⟨T'.gen g3 hx, ?_⟩
      cases f with
      | next => obtain ⟨σ5, H5, I5, q5⟩ := q; exact ⟨σ5, H5, inv_twin I5 T' (T'.bare b3 I5.bare), q5⟩
      | brk => obtain ⟨σ5, H5, I5, q5⟩ := q; exact ⟨σ5, H5, inv_twin I5 T' (T'.bare b3 I5.bare), q5⟩
      | cont => obtain ⟨σ5, H5, I5, q5⟩ := q; exact ⟨σ5, H5, inv_twin I5 T' (T'.bare b3 I5.bare), q5⟩
      | ret w => obtain ⟨z, σ5, H5, I5, r5, q5⟩ := q; exact ⟨z, σ5, H5, inv_twin I5 T' (T'.bare b3 I5.bare), r5, q5⟩
    · obtain ⟨s'', _, q⟩ := h
      exact (hxe _ _ q).elim
  · obtain ⟨s', _, q⟩ := h
    exact (hxe _ _ q).elim
end

/-- behind a turn: the row still stands, W holds of what is kept -/
def Back (H1 : Hp) (row : Nat → List Int) (W : Nat → L2.St → Hp → Prop) (i : Nat) (p : Addr) (o : Obj) (σ : L2.St) (H : Hp) : Prop :=
  H p = some (.frz o (.lst ((row i).map V.int))) ∧ Like H1 H ∧ W (i + 1) σ (trim H1 H)
/-- for row in rows(..): W by the turn, over the heap as far as it is kept -/
def tForRows (t : TRows) (g : TG) (tb : TS) : TS := fun D σ H => t σ H fun Nn row H1 => ∃ W : Nat → L2.St → Hp → Prop, W 0 σ H1 ∧
  (∀ i σ H p o, i < Nn → W i σ H → Like H1 H → H p = none → g (.ref p) σ (upd H p (.frz o (.lst ((row i).map V.int)))) fun σ2 H2 => tb { D with nx := Back H1 row W i p o, ct := Back H1 row W i p o, bk := D.nx } σ2 H2) ∧
  ∀ σ H, W Nn σ H → Like H1 H → D.nx σ H
section
variable {X : Cx} {tgt iter : Expr} {body : List Stmt} {pos : Pos} {k : Nat} {t : TRows} {g : TG} {tb : TS}
theorem Like.rfl' (H : Hp) : Like H H := fun _ _ e => .inl e
theorem notTuple_go {M : Model} {A : Around} {E : Value → Shared → Prop} {s : Shared} {x : Str} {px : Pos} {it u : Value} {Q : Unit → Shared → Prop} (h : Q () s) : wpAny M A (letOwnedTupleGo (.Name x px) it u) Q E s := wpAny_pure h
theorem ps_forRows {x : Str} {px : Pos} (hxe : ∀ e t, ¬ X.xe e t) (hc : X.calm = true) (hr : Room (k + 3) X.A) (hi : PRows X k iter t) (hg : PG X (.Name x px) g) (hb : PSs X body tb)
    (hs : ∀ x, foldedSetIterable iter X.env x = pure x := by intro _; rfl) : PS X (.For (.Name x px) iter body [] pos) (tForRows t g tb) := by
  refine ⟨fun pins s σ H D I h => ?_⟩
  refine wpAny_For (wpAny_mono (hi.run pins s σ H _ I h) (fun v s1 h1 => ?_) fun _ _ z => z.elim) hs
  obtain ⟨H1, sc, Nn, row, Ic, B, W, w0, turn, fin⟩ := h1
  obtain ⟨a, gn, c, L, oL, rfl, eL, hLa, has, hgen, hfresh, hos, hbare, hkeep, hoL, ⟨es, ep, hdL⟩, hseg⟩ := B
  have pl : Place X pins L := by rw [eL]; exact place_of Ic
  have hlt : ∀ b, H1 b ≠ none → b < L := fun b hb => by
    cases q : H1 b with
    | none => exact absurd q hb
    | some o => rw [eL]; exact Ic.hok.lt q
  have hnone : ∀ b, L ≤ b → H1 b = none := fun b hb => by
    cases q : H1 b with
    | none => rfl
    | some o => exact absurd (hlt b (by rw [q]; simp)) (Nat.not_lt_of_le hb)
  have I1 : Inv X pins σ H1 s1 := Ic.call' (ch := []) hos (Un.kept hkeep) (Ic.hok.kept hkeep) hbare fun b hb => by cases hb
  have hh : X.A.handled = none := I1.ok.hd hc
  have hroom : X.A.depth < recursionLimit := hr.depth
  refine wpAny_pyIter_gen hgen ?_
  have hra : Room k X.A.in1 := (hr.mono (by omega : k + 1 ≤ k + 3)).in1
  refine codeAny_forLoop_any (fun n s' => ∃ i σ' H', n = Nn - i ∧ i ≤ Nn ∧ Inv X pins σ' H' s' ∧ Like H1 H' ∧ Trimmed H1 H' ∧ W i σ' H' ∧ H' a = none ∧ H' L = none ∧ L < s'.heap.objs.size ∧ Ready X X.A.in1 a L gn Nn row i s') ?_ Nn
    ⟨0, σ, H1, rfl, Nat.zero_le _, I1, Like.rfl' H1, fun b o e => .inl (by rw [e]; simp), w0, hnone a (Nat.le_of_lt hLa), hnone L (Nat.le_refl _), Heap.lt_size hoL, ⟨hgen, .fresh c, hfresh, rfl, hseg _ _ hra I1.ok.frames (sur_of I1 (Heap.lt_size hoL)) hoL⟩⟩
  rintro n s2 ⟨i, σ2, H2, rfl, hle, I2, lk2, tr2, w2, ha2, hL2, hLs, hg2, xg, hxg, go⟩
  have hgl : gn < s2.gens.size := (Array.getElem?_eq_some_iff.mp hxg).1
  refine wpAny_gsz (n := gn + 1) hgl (next_gen hh I2.nolimit hroom hg2 hxg go (fun v t x' hxb hxs hy => ?_) fun y t hy => ?_)
  · intro hsz
    have hsz' : gn < t.gens.size := by
      have q : (t.setGen gn x').gens.size = t.gens.size := setGen_size _ _ _
      have q2 : gn + 1 ≤ (t.setGen gn x').gens.size := hsz
      omega
    obtain ⟨p, o, fp, x, rfl, hiN, hpn, I3, hg3, _, hafp, ⟨oL3, hL3⟩, hx3, hs3, hb3, kont⟩ := (got_of I2 tr2 hlt pl hL2 ha2 hLa hg2 hle hxb hxs hsz' hy).ex
    refine notTuple_go ?_
    refine wpAny_mono (run_body hxe hg hb I3 (v := .ref p) rfl hx3 hs3 (turn i σ2 H2 p o hiN w2 lk2 hpn)) (fun _ s4 h4 => wpAny_mono h4 (fun f s5 h5 => ?_) fun _ _ z => z.elim) fun _ _ z => z.elim
    obtain ⟨g5, q5⟩ := h5
    have again : ∀ {σ6 : L2.St} {H6 : Hp}, Inv X (pins ++ fp) σ6 H6 s5 → Back H1 row W i p o σ6 H6 → ∃ m, m < Nn - i ∧ ∃ i σ' H', m = Nn - i ∧ i ≤ Nn ∧ Inv X pins σ' H' s5 ∧ Like H1 H' ∧ Trimmed H1 H' ∧ W i σ' H' ∧ H' a = none ∧ H' L = none ∧ L < s5.heap.objs.size ∧ Ready X X.A.in1 a L gn Nn row i s5 := fun {σ6 H6} I6 bk => by
      obtain ⟨b1, b2, b3⟩ := bk
      obtain ⟨oa, hoa⟩ := hafp
      have pin := fun (q : Addr × Obj) (hq : q ∈ fp) => I6.pin q (List.mem_append_right _ (List.mem_append_right _ hq))
      have hLo := Heap.lt_size (pin _ hL3).1
      have I6' := I6.unpinned
      have e3 : s2.heap.IsGen a gn := hg2
      refine ⟨Nn - (i + 1), by omega, i + 1, σ6, trim H1 H6, rfl, hiN, inv_trim I1 I6' b2, b2.trim, trim_trimmed _ _, b3, trim_none (pin _ hoa).2.1, trim_none (pin _ hL3).2.1, hLo, ?_, x, g5, ?_⟩
      · obtain ⟨og, nm, qn, ho, r⟩ := hg3
        have h1 := (I3.pin (a, oa) (List.mem_append_right _ (List.mem_append_right _ hoa))).1
        have e1 : og = oa := by
          have h1' : (t.setGen gn x').heap.get? a = some oa := h1
          rw [ho] at h1'
          exact Option.some.inj h1'
        rw [e1] at r
        exact ⟨oa, nm, qn, (pin _ hoa).1, r⟩
      · exact kont _ (sur_of I6' hLo) (I6'.hok p _ b1).1 fun q hq => (pin q hq).1
    cases f with
    | next => obtain ⟨σ6, H6, I6, n6⟩ := q5; exact again I6 n6
    | cont => obtain ⟨σ6, H6, I6, n6⟩ := q5; exact again I6 n6
    | brk => obtain ⟨σ6, H6, I6, n6⟩ := q5; exact ⟨σ6, H6, I6.unpinned, n6⟩
    | ret w => obtain ⟨z, σ6, H6, I6, r6, n6⟩ := q5; exact ⟨z, σ6, H6, I6.unpinned, r6, n6⟩
  · obtain ⟨h1, h2, h3⟩ := hy
    refine ⟨h1, fun h' hk' _ => ?_⟩
    have ei : i = Nn := by omega
    subst ei
    have I3 := inv_ran0 I2 tr2 hlt pl hL2 h3 rfl rfl
    have I4 : Inv X pins σ2 H2 (t.setGen gn .finished) := inv_set I3 rfl
    have I5 : Inv X pins σ2 H2 { t.setGen gn .finished with heap := h' } := I4.kept (t' := (t.setGen gn .finished).toks) hk'
    exact wpAny_execs_nil ⟨σ2, H2, I5, fin σ2 H2 w2 lk2⟩
end
end Gx
set_option maxHeartbeats 4000000
namespace Gx
open PySem PySem.Spec PyProof.Rows L2 GenW
open Sem (wp)
/-! ### enumerate of a generator -/
theorem meets_enum_gen (a : Addr) (g : Nat) :
    Meets (Builtin.«enumerate.__new__» ⟨[.type "enumerate", .ref a], []⟩) (fun _ R s => s.heap.IsGen a g ∧
      R (.ok (.ret (.ref s.heap.objs.size))) { s with heap := s.heap.push { cls := .type "enumerate", data := .fields #[.none, .bool false, .ref a, rawInt 0, .none, .none] } }) :=
  .of_wp fun prog w A R s h => by
    obtain ⟨hp, gg, dd, tk, os⟩ := s
    obtain ⟨h1, h⟩ := h
    have hsub := sub_enumerate
    have q1 : ∀ {B : Around} {E : Value → Shared → Prop} {Q : Value → Shared → Prop}, Q (.ref a) ⟨hp, gg, dd, tk, os⟩ → wpAny (model prog w) B (pyIter (.ref a)) Q E ⟨hp, gg, dd, tk, os⟩ := fun q => wpAny_pyIter_gen h1 q
    wp_walk using q1
    refine wpAny_stack_any fun st => wpAny_pure ?_
    split
    · rename_i c _ _ _ _ _
      cases (c == Value.type "enumerate")
      · wp_walk using q1
        exact ⟨_, rfl, h⟩
      · wp_walk using q1
        exact ⟨_, rfl, h⟩
    · wp_walk using q1
      exact ⟨_, rfl, h⟩
section
variable {prog : Program} {w : World} {A : Around} {E : Value → Shared → Prop} {s : Shared}
theorem call_enum_gen {a : Addr} {g : Nat} {Q : Value → Shared → Prop} (hg : s.heap.IsGen a g)
    (h : ∀ h', IsEnum h' s.heap.objs.size a 0 .none → (∀ b o, s.heap.get? b = some o → h'.get? b = some o) → h'.objs.size = s.heap.objs.size + 1 → Q (.ref s.heap.objs.size) { s with heap := h' }) : wpAny (model prog w) A (call (.type "enumerate") [.ref a]) Q E s := by
  refine callType_new F.called_enumerate (by decide) (F.typeCall_enumerate_1 _) (F.newCall_enumerate_1 _) (fun obj => F.args_object_init_2 obj _) F.entry_enumerate_new (meets_enum_gen a g) ⟨hg, ?_⟩
  have he : IsEnum (s.heap.push { cls := .type "enumerate", data := .fields #[.none, .bool false, .ref a, rawInt 0, .none, .none] }) s.heap.objs.size a 0 .none := Heap.get?_push_size _ rfl
  exact ⟨⟨_, he, rfl⟩, h _ he (fun b o e => Heap.get?_push_of_some _ e) (by rw [Heap.size_push])⟩
/-- e.__next__(), what comes behind the inner item -/
theorem enum_next {a e : Addr} {c : Int} {old : Value} {Q : Option Value → Shared → Prop} (he : IsEnum s.heap e a c old)
    (inner : wpAny (model prog w) A.in1 (Builtin.SmallTypes.nextOf (.ref a)) (fun x t => IsEnum t.heap e a c old ∧ ∀ h', IsEnumOut h' e a (c + 1) x t.heap.objs.size → h'.get? t.heap.objs.size = some { cls := .type "tuple", data := .seq #[.int c t.toks, x] } →
      (∀ b o, b ≠ e → t.heap.get? b = some o → h'.get? b = some o) → Q (some (.ref t.heap.objs.size)) { t with heap := h', toks := t.toks + 1 }) (fun _ _ => False) s) :
    wpAny (model prog w) A (pyNext (.ref e)) Q E s := by
  have hT : s.TypeIs (.ref e) "enumerate" := ⟨_, he, rfl⟩
  unfold pyNext
  refine wpAny_bind (wpAny_attempt (wpAny_callSpecial?_slot (name := Str.ofString "__next__") hT F.slot_enumerate_next (wpAny_call_entry F.slot_enumerate_next hT F.entry_enumerate_next ?_ (F.args_enumerate_next_1 _))))
  show wpAny _ _ (field (.ref e) 2 >>= _) _ _ _
  refine wpAny_bind (wpAny_field he rfl (x := .ref a) rfl (wpAny_bind (wpAny_mono inner (fun x t ht => ?_) fun _ _ z => z.elim)))
  obtain ⟨h1, done⟩ := ht
  obtain ⟨u0, g0, d0, k0, o0⟩ := t
  show wpAny _ _ (field (.ref e) 3 >>= _) _ _ ⟨u0, g0, d0, k0, o0⟩
  refine wpAny_bind (wpAny_field h1 rfl (x := rawInt c) rfl ?_)
  show wpAny _ _ (field (.ref e) 4 >>= _) _ _ ⟨u0, g0, d0, k0, o0⟩
  refine wpAny_bind (wpAny_field h1 rfl (x := .none) rfl ?_)
  show wpAny _ _ (mkInt c >>= _) _ _ ⟨u0, g0, d0, k0, o0⟩
  refine wpAny_bind (wpAny_mkInt ?_)
  show wpAny _ _ (setField (.ref e) 3 (rawInt (c + 1)) >>= _) _ _ ⟨u0, g0, d0, k0 + 1, o0⟩
  refine wpAny_bind (wpAny_setField_rec h1 (by simp) fun u1 h2 b1 => ?_)
  replace b1 : Heap.SameBut e u0 u1 := b1
  replace h2 : IsEnum u1 e a (c + 1) old := h2
  show wpAny _ _ (setField (.ref e) 4 .none >>= _) _ _ ⟨u1, g0, d0, k0 + 1, o0⟩
  refine wpAny_bind (wpAny_setField_rec h2 (by simp) fun u2 h3 b2 => ?_)
  replace b2 : Heap.SameBut e u1 u2 := b2
  replace h3 : IsEnum u2 e a (c + 1) old := h3
  show wpAny _ _ (newTuple [.int c k0, x] >>= _) _ _ ⟨u2, g0, d0, k0 + 1, o0⟩
  refine wpAny_bind (wpAny_newTuple ?_)
  have z2 : u2.objs.size = u0.objs.size := by rw [b2.1, b1.1]
  have hel : e < u0.objs.size := Heap.lt_size h1
  have h4 : IsEnum (u2.push { cls := .type "tuple", data := .seq #[.int c k0, x] }) e a (c + 1) old := Heap.get?_push_of_some _ h3
  have t4 : (u2.push { cls := .type "tuple", data := .seq #[.int c k0, x] }).get? u0.objs.size = some { cls := .type "tuple", data := .seq #[.int c k0, x] } := by rw [← z2]; exact Heap.get?_push_size _ rfl
  have keep4 : ∀ b o, b ≠ e → u0.get? b = some o → (u2.push { cls := .type "tuple", data := .seq #[.int c k0, x] }).get? b = some o := fun b o hb y => Heap.get?_push_of_some _ (b2.extBut b o hb (b1.extBut b o hb y))
  generalize (u2.push { cls := .type "tuple", data := .seq #[.int c k0, x] }) = u4 at h4 t4 keep4
  show wpAny _ _ (Builtin.SmallTypes.ownedTupleIsFree (.ref e) >>= _) _ _ ⟨u4, g0, d0, k0 + 1, o0⟩
  rw [z2]
  refine wpAny_bind ?_
  unfold Builtin.SmallTypes.ownedTupleIsFree
  refine wpAny_bind (wpAny_field h4 rfl (x := .none) rfl (wpAny_pure ?_))
  simp only [if_true]
  refine wpAny_bind (wpAny_rule (wpAny_bind (wpAny_field h4 rfl (x := old) rfl ?_)))
  refine wpAny_bind (wpAny_setField_rec h4 (by simp) fun u5 h5 b5 => ?_)
  replace b5 : Heap.SameBut e u4 u5 := b5
  replace h5 : IsEnum u5 e a (c + 1) x := h5
  show wpAny _ _ (Builtin.SmallTypes.ownedTupleHandOut (.ref e) (.ref u0.objs.size) >>= _) _ _ ⟨u5, g0, d0, k0 + 1, o0⟩
  refine wpAny_bind ?_
  unfold Builtin.SmallTypes.ownedTupleHandOut
  refine wpAny_bind (wpAny_setField_rec h5 (by simp) fun u6 h6 b6 => ?_)
  replace b6 : Heap.SameBut e u5 u6 := b6
  replace h6 : IsEnumOut u6 e a (c + 1) x u0.objs.size := h6
  refine wpAny_setField_rec h6 (by simp) fun u7 h7 b7 => ?_
  replace b7 : Heap.SameBut e u6 u7 := b7
  replace h7 : IsEnumOut u7 e a (c + 1) x u0.objs.size := h7
  have up : ∀ b o, b ≠ e → u4.get? b = some o → u7.get? b = some o := fun b o hb y => b7.extBut b o hb (b6.extBut b o hb (b5.extBut b o hb y))
  refine wpAny_bind (wpAny_letGo (wpAny_pure ⟨_, rfl, ?_⟩))
  exact wpAny_pure (done u7 h7 (up _ _ (Nat.ne_of_gt hel) t4) fun b o hb y => up b o hb (keep4 b o hb y))
end
end Gx
set_option maxHeartbeats 4000000
namespace Gx
open PySem PySem.Spec PyProof.Rows L2 GenW
open Sem (wp)
/-- for n, row in enumerate(rows(..)), left before its end -/
def tForRowsE (t : TRows) (g : TG) (tb : TS) : TS := fun D σ H => t σ H fun Nn row H1 => ∃ W : Nat → L2.St → Hp → Prop, W 0 σ H1 ∧
  (∀ i σ H p o T, i < Nn → W i σ H → Like H1 H → H p = none → upd H p (.frz o (.lst ((row i).map V.int))) T = none → g (.ref T) σ (upd (upd H p (.frz o (.lst ((row i).map V.int)))) T (.tup [.int (i : Nat), .ref p])) fun σ2 H2 =>
    tb { D with nx := Back H1 row W i p o, ct := Back H1 row W i p o, bk := D.nx } σ2 H2) ∧ ∀ σ H, ¬ W Nn σ H
section
variable {X : Cx} {iter : Expr} {elts : List Expr} {kk : Nat} {tpos : Pos} {body : List Stmt} {pos : Pos} {k : Nat} {t : TRows} {g : TG} {tb : TS} {p0 p1 : Pos}
theorem ps_forRowsE (hxe : ∀ e t, ¬ X.xe e t) (hc : X.calm = true) (hr : Room (k + 3) X.A) (hge : Gl X "enumerate") (hme : X.mg "enumerate" = none) (hi : PRows X k iter t) (hg : PG X (.Tuple elts kk tpos) g) (hb : PSs X body tb)
    (hse : starEach [iter] X.env = (false, eval iter X.env) :: starEach [] X.env := by rfl) (hs : ∀ x, foldedSetIterable (.Call (.Name "enumerate" p0) [iter] [] p1) X.env x = pure x := by intro _; rfl) :
    PS X (.For (.Tuple elts kk tpos) (.Call (.Name "enumerate" p0) [iter] [] p1) body [] pos) (tForRowsE t g tb) := by
  refine ⟨fun pins s σ H D I h => ?_⟩
  refine wpAny_For ?_ hs
  refine Call_ (ld_blt I hge hme boot_enumerate (PyProof.Rows.callWith_type1 ?_ hse rfl))
  rw [hse]
  show wpAny _ _ (spliced ((false, eval iter X.env) :: backTo p1 (starEach [] X.env))) _ _ s
  refine Calls.spliced_cons (wpAny_mono (hi.run pins s σ H _ I h) (fun v s1 h1 => ?_) fun _ _ z => z.elim)
  refine Calls.spliced_nil ?_
  obtain ⟨H1, sc, Nn, row, Ic, B, W, w0, turn, fin⟩ := h1
  obtain ⟨a, gn, c, L, oL, rfl, eL, hLa, has, hgen, hfresh, hos, hbare, hkeep, hoL, ⟨es, ep, hdL⟩, hseg⟩ := B
  have pl : Place X pins L := by rw [eL]; exact place_of Ic
  have hlt : ∀ b, H1 b ≠ none → b < L := fun b hb => by
    cases q : H1 b with
    | none => exact absurd q hb
    | some o => rw [eL]; exact Ic.hok.lt q
  have hnone : ∀ b, L ≤ b → H1 b = none := fun b hb => by
    cases q : H1 b with
    | none => rfl
    | some o => exact absurd (hlt b (by rw [q]; simp)) (Nat.not_lt_of_le hb)
  have I1 : Inv X pins σ H1 s1 := Ic.call' (ch := []) hos (Un.kept hkeep) (Ic.hok.kept hkeep) hbare fun b hb => by cases hb
  have hh : X.A.handled = none := I1.ok.hd hc
  have hroom : X.A.in1.depth < recursionLimit := hr.depth
  refine call_enum_gen hgen fun h2 he2 hk2 hz2 => wpAny_pyIter_enum he2 ?_
  obtain ⟨e, ee⟩ : ∃ e : Nat, e = s1.heap.objs.size := ⟨_, rfl⟩
  rw [← ee] at he2
  show codeAny _ _ (.forLoop _ (.ref s1.heap.objs.size) _ _ _) _ _
  rw [← ee]
  have hLs1 : L < s1.heap.objs.size := Heap.lt_size hoL
  have hLe : L < e := by rw [ee]; exact hLs1
  have hae : a < e := by rw [ee]; exact has
  have I1' : Inv X pins σ H1 { s1 with heap := h2 } := I1.kept (t' := s1.toks) hk2
  have hra : Room k X.A.in1.in1 := ((hr.mono (by omega : k + 2 ≤ k + 3)).in1).in1
  refine codeAny_forLoop_any (fun n s' => ∃ i σ' H', n = Nn - i ∧ i ≤ Nn ∧ Inv X pins σ' H' s' ∧ Like H1 H' ∧ Trimmed H1 H' ∧ W i σ' H' ∧ H' a = none ∧ H' L = none ∧ H' e = none ∧ L < s'.heap.objs.size ∧ (∃ old, IsEnum s'.heap e a (i : Nat) old) ∧ Ready X X.A.in1.in1 a L gn Nn row i s') ?_ Nn
    ⟨0, σ, H1, rfl, Nat.zero_le _, I1', Like.rfl' H1, fun b o e => .inl (by rw [e]; simp), w0, hnone a (Nat.le_of_lt hLa), hnone L (Nat.le_refl _), hnone e (Nat.le_of_lt hLe), by show L < h2.objs.size; rw [hz2]; exact Nat.lt_succ_of_lt hLs1, ⟨_, he2⟩,
      ⟨hgen.keeps hk2, .fresh c, hfresh, rfl, hseg _ _ hra I1.ok.frames (sur_of I1' (by show L < h2.objs.size; rw [hz2]; exact Nat.lt_succ_of_lt hLs1)) (hk2 _ _ hoL)⟩⟩
  rintro n s2 ⟨i, σ2, H2, rfl, hle, I2, lk2, tr2, w2, ha2, hL2, heN, hLs, ⟨old, hen⟩, hg2, xg, hxg, go⟩
  have hiN : i < Nn := by
    rcases Nat.lt_or_eq_of_le hle with z | z
    · exact z
    · exact (fin σ2 H2 (z ▸ w2)).elim
  have hgl : gn < s2.gens.size := (Array.getElem?_eq_some_iff.mp hxg).1
  refine enum_next hen (wpAny_gsz (n := gn + 1) hgl (nextOf_gen hh I2.nolimit hroom hg2 hxg go (fun v t x' hxb hxs hy => ?_) fun y t hy => ?_))
  · intro hsz
    have hsz' : gn < t.gens.size := by
      have q : (t.setGen gn x').gens.size = t.gens.size := setGen_size _ _ _
      have q2 : gn + 1 ≤ (t.setGen gn x').gens.size := hsz
      omega
    obtain ⟨kept, p, o, fp, x, rfl, _, hpn, I3, hg3, hwh, hafp, ⟨oL3, hL3⟩, hx3, hs3, hb3, kont⟩ := got_of I2 tr2 hlt pl hL2 ha2 hLa hg2 hle hxb hxs hsz' hy
    have he3 : IsEnum (t.setGen gn x').heap e a (i : Nat) old := kept e _ hLe hen (by show ¬ Value.type "enumerate" = Value.type "range_iterator"; decide)
    refine ⟨he3, fun h4 ho4 hT4 hk4 => ?_⟩
    obtain ⟨oa, hoa⟩ := hafp
    have hea : a ≠ e := Nat.ne_of_lt hae
    have hfpe : ∀ q ∈ fp, q.1 ≠ e := fun q hq z => by
      rcases hwh q hq with y | y | y | ⟨o', y, y2⟩
      · exact hea (y.symm.trans z)
      · exact Nat.ne_of_lt hLe (y.symm.trans z)
      · rw [z, hen] at y; cases y
      · rw [z, hen] at y
        cases y
        exact absurd y2 (by show ¬ Value.type "enumerate" = Value.type "range_iterator"; decide)
    have hpe : e ≠ p := fun z => by
      have q : s2.heap.get? p = some _ := z ▸ hen
      have q2 : (upd H2 p (.frz o (.lst ((row i).map V.int)))) p = some _ := upd_same
      have q3 := (I3.hok p _ q2).1
      have q4 : (t.setGen gn x').heap.get? p = some _ := z ▸ he3
      rw [q4] at q3
      have hk := (I3.hok p _ q2).2
      obtain ⟨_, its, nn, _, q5⟩ := hk
      rw [q4] at q5
      exact absurd (congrArg (fun z : Option Obj => z.map Obj.cls) q5) (by show ¬ some (Value.type "enumerate") = some (Value.type "list"); decide)
    have FE : FpOk X (pins ++ fp) (upd H2 p (.frz o (.lst ((row i).map V.int)))) e := by
      refine ⟨by rw [upd_ne hpe]; exact heN, Nat.ne_of_gt (Nat.lt_trans pl.loc hLe), fun z => Nat.lt_irrefl _ (Nat.lt_trans hLe (pl.fs e z)), .inr (Nat.le_trans pl.s0 (Nat.le_of_lt hLe)), fun x c z => Nat.ne_of_lt (Nat.lt_trans (pl.cell x c z) hLe), fun q hq => ?_⟩
      rcases List.mem_append.mp hq with hq | hq
      · exact Nat.ne_of_lt (Nat.lt_trans (pl.pin q (List.mem_append_left _ hq)) hLe)
      · rcases List.mem_append.mp hq with hq | hq
        · exact Nat.ne_of_lt (Nat.lt_trans (pl.pin q (List.mem_append_right _ hq)) hLe)
        · exact hfpe q hq
    have heT : e < (t.setGen gn x').heap.objs.size := Heap.lt_size he3
    refine wpAny_letOwnedTupleGo_enum (s := { t.setGen gn x' with heap := h4, toks := (t.setGen gn x').toks + 1 }) ho4 fun h5 he5 sb => ?_
    have hT5 : h5.get? (t.setGen gn x').heap.objs.size = some { cls := .type "tuple", data := .seq #[.int (i : Nat) (t.setGen gn x').toks, .ref p] } := (sb.2 _ (Nat.ne_of_gt heT)).trans hT4
    have new : ObjOk X.prog X.w (upd (upd H2 p (.frz o (.lst ((row i).map V.int)))) (t.setGen gn x').heap.objs.size (.tup [.int (i : Nat), .ref p])) h5 (t.setGen gn x').heap.objs.size (.tup [.int (i : Nat), .ref p]) :=
      ⟨by show 2 ≤ sizeLine; decide, [.int (i : Nat) (t.setGen gn x').toks, .ref p], .cons ⟨_, rfl⟩ (.cons rfl .nil), ⟨_, hT5, rfl, _, rfl⟩⟩
    have I5 : Inv X (pins ++ fp) σ2 (upd (upd H2 p (.frz o (.lst ((row i).map V.int)))) (t.setGen gn x').heap.objs.size (.tup [.int (i : Nat), .ref p])) { t.setGen gn x' with heap := h5, toks := (t.setGen gn x').toks + 1 } :=
      I3.turnedNew (ch := [e]) (fun b ob hb q => (sb.2 b (fun z => hb (by simp [z]))).trans (hk4 b ob (fun z => hb (by simp [z])) q)) (fun b hb => by
        have z : b = e := by simpa using hb
        rw [z]; exact FE) (Nat.le_refl _) new
    have hTn : upd H2 p (.frz o (.lst ((row i).map V.int))) (t.setGen gn x').heap.objs.size = none := I3.hok.fresh (Nat.le_refl _)
    obtain ⟨oe, hoe⟩ : ∃ oe : Obj, oe = { cls := .type "enumerate", dict := none, data := .fields #[.none, .bool false, .ref a, rawInt ((i : Int) + 1), .none, .ref p], slots := #[] } := ⟨_, rfl⟩
    have he5' : h5.get? e = some oe := by rw [hoe]; exact he5
    have hTe : e ≠ (t.setGen gn x').heap.objs.size := Nat.ne_of_lt heT
    have I6 : Inv X (pins ++ (fp ++ [(e, oe)])) σ2 (upd (upd H2 p (.frz o (.lst ((row i).map V.int)))) (t.setGen gn x').heap.objs.size (.tup [.int (i : Nat), .ref p])) { t.setGen gn x' with heap := h5, toks := (t.setGen gn x').toks + 1 } :=
      I5.pins_of fun q hq => by
        rcases List.mem_append.mp hq with hq | hq
        · exact I5.pin q (List.mem_append_right _ (List.mem_append_left _ hq))
        · rcases List.mem_append.mp hq with hq | hq
          · exact I5.pin q (List.mem_append_right _ (List.mem_append_right _ hq))
          · have z : q = (e, oe) := List.mem_singleton.mp hq
            subst z
            exact ⟨he5', by rw [upd_ne hTe]; exact FE.1, FE.2.1, FE.2.2.1, fun v y => by rw [hoe] at y; cases y⟩
    refine wpAny_mono (run_body hxe hg hb I6 (v := .ref _) rfl hx3 hs3 (turn i σ2 H2 p o _ hiN w2 lk2 hpn hTn)) (fun _ s7 h7 => wpAny_mono h7 (fun f s8 h8 => ?_) fun _ _ z => z.elim) fun _ _ z => z.elim
    obtain ⟨g8, q8⟩ := h8
    have again : ∀ {σ6 : L2.St} {H6 : Hp}, Inv X (pins ++ (fp ++ [(e, oe)])) σ6 H6 s8 → Back H1 row W i p o σ6 H6 → ∃ m, m < Nn - i ∧ ∃ i σ' H', m = Nn - i ∧ i ≤ Nn ∧ Inv X pins σ' H' s8 ∧ Like H1 H' ∧ Trimmed H1 H' ∧ W i σ' H' ∧ H' a = none ∧ H' L = none ∧ H' e = none ∧ L < s8.heap.objs.size ∧ (∃ old, IsEnum s8.heap e a (i : Nat) old) ∧ Ready X X.A.in1.in1 a L gn Nn row i s8 := fun {σ6 H6} J bk => by
      obtain ⟨b1, b2, b3⟩ := bk
      have pin := fun (q : Addr × Obj) (hq : q ∈ fp) => J.pin q (List.mem_append_right _ (List.mem_append_right _ (List.mem_append_left _ hq)))
      have pie := J.pin (e, oe) (List.mem_append_right _ (List.mem_append_right _ (List.mem_append_right _ (List.mem_singleton.mpr rfl))))
      have hLo := Heap.lt_size (pin _ hL3).1
      have J' := J.unpinned
      refine ⟨Nn - (i + 1), by omega, i + 1, σ6, trim H1 H6, rfl, hiN, inv_trim I1 J' b2, b2.trim, trim_trimmed _ _, b3, trim_none (pin _ hoa).2.1, trim_none (pin _ hL3).2.1, trim_none pie.2.1, hLo, ⟨.ref p, ?_⟩, ?_, x, g8, ?_⟩
      · have z := pie.1
        rw [hoe] at z
        have e1 : ((i + 1 : Nat) : Int) = (i : Int) + 1 := by omega
        show IsEnum s8.heap e a ((i + 1 : Nat) : Int) (.ref p)
        rw [e1]
        exact z
      · obtain ⟨og, nm, qn, ho, r⟩ := hg3
        have h1 := (I3.pin (a, oa) (List.mem_append_right _ (List.mem_append_right _ hoa))).1
        have e1 : og = oa := by
          have h1' : (t.setGen gn x').heap.get? a = some oa := h1
          rw [ho] at h1'
          exact Option.some.inj h1'
        rw [e1] at r
        exact ⟨oa, nm, qn, (pin _ hoa).1, r⟩
      · exact kont _ (sur_of J' hLo) (J'.hok p _ b1).1 fun q hq => (pin q hq).1
    cases f with
    | next => obtain ⟨σ6, H6, J, n6⟩ := q8; exact again J n6
    | cont => obtain ⟨σ6, H6, J, n6⟩ := q8; exact again J n6
    | brk => obtain ⟨σ6, H6, J, n6⟩ := q8; exact ⟨σ6, H6, J.unpinned, n6⟩
    | ret w => obtain ⟨z, σ6, H6, J, r6, n6⟩ := q8; exact ⟨z, σ6, H6, J.unpinned, r6, n6⟩
  · obtain ⟨_, h2, _⟩ := hy
    omega
end
end Gx
/-! the plain mathematics -/
namespace Tb
/-! ### choices -/
def choose : Nat → Nat → Nat
  | _, 0 => 1
  | 0, _ + 1 => 0
  | n + 1, k + 1 => choose n k + choose n (k + 1)
theorem choose_zero (n : Nat) : choose n 0 = 1 := by cases n <;> rfl
theorem choose_lt : ∀ {n k : Nat}, n < k → choose n k = 0
  | 0, k + 1, _ => rfl
  | n + 1, k + 1, h => by
    show choose n k + choose n (k + 1) = 0
    rw [choose_lt (by omega : n < k), choose_lt (by omega : n < k + 1)]
theorem choose_self : ∀ n : Nat, choose n n = 1
  | 0 => rfl
  | n + 1 => by
    show choose n n + choose n (n + 1) = 1
    rw [choose_self n, choose_lt (by omega : n < n + 1)]
theorem choose_le : ∀ n k : Nat, choose n k ≤ 2 ^ n
  | n, 0 => by rw [choose_zero]; exact Nat.one_le_two_pow
  | 0, k + 1 => Nat.zero_le _
  | n + 1, k + 1 => by
    show choose n k + choose n (k + 1) ≤ _
    have h1 := choose_le n k
    have h2 := choose_le n (k + 1)
    rw [Nat.pow_succ]
    omega
/-- the step of the rows -/
theorem choose_step : ∀ n k : Nat, (choose n (k + 1) : Int) * ((k : Int) + 1) = (choose n k : Int) * ((n : Int) - (k : Int))
  | 0, 0 => by simp [choose]
  | 0, k + 1 => by simp [choose]
  | n + 1, 0 => by
    have h := choose_step n 0
    have e1 : choose (n + 1) 1 = choose n 0 + choose n 1 := rfl
    have z0 : choose n 0 = 1 := choose_zero n
    have z1 : choose (n + 1) 0 = 1 := rfl
    rw [z0] at h
    rw [show (0 : Nat) + 1 = 1 from rfl] at h ⊢
    rw [e1, z0, z1]
    simp only [Int.natCast_add, Int.natCast_one, Int.ofNat_zero] at h ⊢
    omega
  | n + 1, k + 1 => by
    have h1 := choose_step n k
    have h2 := choose_step n (k + 1)
    have e1 : choose (n + 1) (k + 1 + 1) = choose n (k + 1) + choose n (k + 1 + 1) := rfl
    have e2 : choose (n + 1) (k + 1) = choose n k + choose n (k + 1) := rfl
    rw [e1, e2]
    generalize choose n (k + 1 + 1) = a at *
    generalize choose n (k + 1) = b at *
    generalize choose n k = c at *
    simp only [Int.natCast_add, Int.natCast_one] at h1 h2 ⊢
    -- a (k + 2) = b (n - k - 1), b (k + 1) = c (n - k); (b + a)(k + 2) = (c + b)(n - k)
    have g1 : ((b : Int) + a) * ((k : Int) + 1 + 1) = (b : Int) * ((k : Int) + 1) + b + (a : Int) * ((k : Int) + 1 + 1) := by
      rw [Int.add_mul, Int.mul_add (b : Int) ((k : Int) + 1) 1, Int.mul_one]
    have g2 : ((c : Int) + b) * ((n : Int) + 1 - ((k : Int) + 1)) = (c : Int) * ((n : Int) - k) + (b : Int) * ((n : Int) - (k + 1)) + b := by
      have e : (n : Int) + 1 - ((k : Int) + 1) = (n : Int) - k := by omega
      have e' : (b : Int) * ((n : Int) - k) = (b : Int) * ((n : Int) - (k + 1)) + b := by
        have e3 : (n : Int) - k = ((n : Int) - (k + 1)) + 1 := by omega
        rw [e3, Int.mul_add, Int.mul_one]
      rw [e, Int.add_mul, e']
      omega
    rw [g1, g2, h1, h2]
    omega
theorem choose_div (n k : Nat) : ((choose n k : Int) * ((n : Int) - (k : Int))) / ((k : Int) + 1) = (choose n (k + 1) : Int) := by
  rw [← choose_step, Int.mul_ediv_cancel]
  omega
/-- the numbers of choices of j things for all positions -/
def binRow (n j : Nat) : List Int := (List.range n).map fun i => ((choose i j : Nat) : Int)
theorem binRow_len (n j : Nat) : (binRow n j).length = n := by simp [binRow]
theorem binRow_get (n j i : Nat) (h : i < n) : (binRow n j)[i]? = some ((choose i j : Nat) : Int) := by
  simp [binRow, h]
theorem binRow_zero (n : Nat) : binRow n 0 = List.replicate n 1 := by
  apply List.ext_getElem?
  intro i
  by_cases h : i < n
  · rw [binRow_get n 0 i h, choose_zero, List.getElem?_replicate, if_pos h]; rfl
  · rw [List.getElem?_eq_none (by rw [binRow_len]; omega), List.getElem?_eq_none (by rw [List.length_replicate]; omega)]
theorem binRow_le (n j : Nat) : ∀ z ∈ binRow n j, 0 ≤ z ∧ z ≤ 2 ^ n := fun z hz => by
  obtain ⟨i, hi, rfl⟩ := List.mem_map.mp hz
  have hi' := List.mem_range.mp hi
  refine ⟨Int.natCast_nonneg _, ?_⟩
  have h1 := choose_le i j
  have h2 : 2 ^ i ≤ 2 ^ n := Nat.pow_le_pow_right (by decide) (by omega)
  have h3 : ((2 ^ n : Nat) : Int) = (2 : Int) ^ n := by exact_mod_cast Int.natCast_pow 2 n
  rw [← h3]
  exact Int.ofNat_le.mpr (Nat.le_trans h1 h2)

/-! ### sums with the choices -/
/-- the sum of w i * choose (i + a) j -/
def bsum (j : Nat) : Nat → List Int → Int
  | _, [] => 0
  | a, x :: r => x * (choose a j : Int) + bsum j (a + 1) r
theorem bsum_zero : ∀ (a : Nat) (w : List Int), bsum 0 a w = w.sum
  | _, [] => rfl
  | a, x :: r => by
    show x * (choose a 0 : Int) + bsum 0 (a + 1) r = _
    rw [choose_zero, bsum_zero (a + 1) r, List.sum_cons]
    simp
theorem bsum_neg (j : Nat) : ∀ (a : Nat) (w : List Int), bsum j a (w.map fun x => -x) = -bsum j a w
  | _, [] => rfl
  | a, x :: r => by
    show -x * (choose a j : Int) + bsum j (a + 1) (r.map _) = -(x * (choose a j : Int) + bsum j (a + 1) r)
    rw [bsum_neg j (a + 1) r, Int.neg_mul]
    omega
/-- sums from the left, the last one left out -/
def psum : Int → List Int → List Int
  | _, [] => []
  | a, x :: r => (a + x) :: psum (a + x) r
def pre (w : List Int) : List Int := psum 0 w.dropLast
theorem psum_len : ∀ (a : Int) (w : List Int), (psum a w).length = w.length
  | _, [] => rfl
  | a, x :: r => by
    show (psum (a + x) r).length + 1 = _
    rw [psum_len (a + x) r]; rfl
theorem pre_len (w : List Int) : (pre w).length = w.length - 1 := by
  unfold pre
  rw [psum_len, List.length_dropLast]
/-- summed by parts: c is what stands ahead -/
theorem bsum_parts (j : Nat) : ∀ (w : List Int) (a : Nat) (c : Int), c + w.sum = 0 → w ≠ [] → bsum (j + 1) a w + c * (choose a (j + 1) : Int) = -bsum j a (psum c w.dropLast)
  | [], _, _, _, h => absurd rfl h
  | [x], a, c, h, _ => by
    show x * (choose a (j + 1) : Int) + 0 + c * (choose a (j + 1) : Int) = -0
    have e : x = -c := by simp at h; omega
    rw [e, Int.neg_mul]
    omega
  | x :: y :: r, a, c, h, _ => by
    have ih := bsum_parts j (y :: r) (a + 1) (c + x) (by simp only [List.sum_cons] at h ⊢; omega) (by simp)
    have e : (x :: y :: r).dropLast = x :: (y :: r).dropLast := rfl
    rw [e]
    show x * (choose a (j + 1) : Int) + bsum (j + 1) (a + 1) (y :: r) + c * (choose a (j + 1) : Int) = -((c + x) * (choose a j : Int) + bsum j (a + 1) (psum (c + x) (y :: r).dropLast))
    have e2 : (choose (a + 1) (j + 1) : Int) = (choose a j : Int) + (choose a (j + 1) : Int) := by
      show ((choose a j + choose a (j + 1) : Nat) : Int) = _
      simp
    rw [e2, Int.mul_add] at ih
    have e3 : (c + x) * (choose a (j + 1) : Int) = c * (choose a (j + 1) : Int) + x * (choose a (j + 1) : Int) := Int.add_mul _ _ _
    rw [e3] at ih
    omega
theorem bsum_pre (j : Nat) (w : List Int) (h : w.sum = 0) : bsum (j + 1) 0 w = -bsum j 0 (pre w) := by
  cases w with
  | nil => rfl
  | cons x r =>
    have q := bsum_parts j (x :: r) 0 0 (by rw [Int.zero_add]; exact h) (by simp)
    rw [Int.zero_mul, Int.add_zero] at q
    exact q
/-- all sums below degree d are nought -/
def Even (d : Nat) (w : List Int) : Prop := ∀ j, j < d → bsum j 0 w = 0
theorem even_succ {d : Nat} {w : List Int} : Even (d + 1) w ↔ w.sum = 0 ∧ Even d (pre w) := by
  constructor
  · intro h
    have h0 : w.sum = 0 := by rw [← bsum_zero 0 w]; exact h 0 (by omega)
    refine ⟨h0, fun j hj => ?_⟩
    have q := h (j + 1) (by omega)
    rw [bsum_pre j w h0] at q
    omega
  · rintro ⟨h0, h⟩ j hj
    cases j with
    | zero => rw [bsum_zero]; exact h0
    | succ j =>
      rw [bsum_pre j w h0, h j (by omega)]
      rfl
/-- the weights: so many times the sums -/
def wts : Nat → List Int → List Int
  | 0, w => w
  | d + 1, w => wts d (pre w)
theorem psum_neg : ∀ (a : Int) (w : List Int), psum (-a) (w.map fun x => -x) = (psum a w).map fun x => -x
  | _, [] => rfl
  | a, x :: r => by
    show (-a + -x) :: psum (-a + -x) (r.map _) = -(a + x) :: (psum (a + x) r).map _
    have e : -a + -x = -(a + x) := by omega
    rw [e, psum_neg (a + x) r]
theorem pre_neg (w : List Int) : pre (w.map fun x => -x) = (pre w).map fun x => -x := by
  unfold pre
  have e : (w.map fun x => -x).dropLast = w.dropLast.map fun x => -x := by
    rw [List.map_dropLast]
  rw [e]
  exact psum_neg 0 _
theorem wts_neg : ∀ (d : Nat) (w : List Int), wts d (w.map fun x => -x) = (wts d w).map fun x => -x
  | 0, _ => rfl
  | d + 1, w => by
    show wts d (pre (w.map _)) = (wts d (pre w)).map _
    rw [pre_neg, wts_neg d (pre w)]
theorem even_neg {d : Nat} {w : List Int} (h : Even d w) : Even d (w.map fun x => -x) := fun j hj => by
  rw [bsum_neg, h j hj]; rfl
theorem psum_get : ∀ (w : List Int) (a : Int) (i : Nat), i < w.length → (psum a w)[i]? = some (a + (w.take (i + 1)).sum)
  | [], _, _, h => by simp at h
  | x :: r, a, 0, _ => by simp [psum]
  | x :: r, a, i + 1, h => by
    show (psum (a + x) r)[i]? = _
    rw [psum_get r (a + x) i (by simpa using h)]
    simp only [List.take_succ_cons, List.sum_cons]
    congr 1
    omega
theorem pre_get (w : List Int) (i : Nat) (h : i + 1 < w.length) : (pre w)[i]? = some ((w.take (i + 1)).sum) := by
  unfold pre
  rw [psum_get w.dropLast 0 i (by rw [List.length_dropLast]; omega), Int.zero_add, List.dropLast_eq_take, List.take_take, Nat.min_eq_left (by omega)]
theorem sum_take_drop (w : List Int) (k : Nat) : (w.take k).sum + (w.drop k).sum = w.sum := by
  rw [← List.sum_append, List.take_append_drop]
theorem pre_rev (w : List Int) (h : w.sum = 0) : pre w.reverse = (pre w).reverse.map fun x => -x := by
  apply List.ext_getElem?
  intro i
  by_cases hi : i + 1 < w.length
  · rw [pre_get _ _ (by rw [List.length_reverse]; exact hi), List.getElem?_map, List.getElem?_reverse (by rw [pre_len]; omega), pre_len, pre_get _ _ (by omega), List.take_reverse, List.sum_reverse]
    have e := sum_take_drop w (w.length - (i + 1))
    have e2 : w.length - 1 - 1 - i + 1 = w.length - (i + 1) := by omega
    rw [e2]
    show some _ = some (-_)
    congr 1
    omega
  · rw [List.getElem?_eq_none (by rw [pre_len, List.length_reverse]; omega), List.getElem?_eq_none (by rw [List.length_map, List.length_reverse, pre_len]; omega)]
theorem wts_len : ∀ (d : Nat) (w : List Int), (wts d w).length = w.length - d
  | 0, _ => rfl
  | d + 1, w => by
    show (wts d (pre w)).length = _
    rw [wts_len d (pre w), pre_len]
    omega
/-- other sign for odd degrees -/
def sgnd (d : Nat) (w : List Int) : List Int := if d % 2 = 1 then w.map fun x => -x else w
theorem neg_neg_map (w : List Int) : (w.map fun x => -x).map (fun x => -x) = w := by
  rw [List.map_map]
  conv => rhs; rw [← List.map_id w]
  apply List.map_congr_left
  intro x _
  show - -x = x
  omega
theorem sgnd_succ (d : Nat) (w : List Int) : (sgnd d w).map (fun x => -x) = sgnd (d + 1) w := by
  unfold sgnd
  by_cases h : d % 2 = 1
  · rw [if_pos h, if_neg (by omega), neg_neg_map]
  · rw [if_neg h, if_pos (by omega)]
theorem even_rev : ∀ (d : Nat) (w : List Int), Even d w → Even d w.reverse ∧ wts d w.reverse = sgnd d (wts d w).reverse
  | 0, w, _ => ⟨fun j hj => by omega, rfl⟩
  | d + 1, w, h => by
    obtain ⟨h0, h1⟩ := even_succ.mp h
    obtain ⟨g1, g2⟩ := even_rev d (pre w) h1
    have e := pre_rev w h0
    refine ⟨even_succ.mpr ⟨by rw [List.sum_reverse]; exact h0, by rw [e]; exact even_neg g1⟩, ?_⟩
    show wts d (pre w.reverse) = _
    rw [e, wts_neg, g2]
    exact sgnd_succ d _
/-- some sum is not nought -/
theorem bsum_far (j : Nat) : ∀ (w : List Int) (a : Nat), (∀ x ∈ w, x = 0) → bsum j a w = 0
  | [], _, _ => rfl
  | x :: r, a, h => by
    show x * _ + bsum j (a + 1) r = 0
    rw [h x (by simp), bsum_far j r (a + 1) (fun y hy => h y (by simp [hy]))]
    simp
theorem bsum_some : ∀ (w : List Int) (a : Nat), (∃ x ∈ w, x ≠ 0) → ∃ j, j < a + w.length ∧ a ≤ j ∧ (∀ i, i < a → choose i j = 0) ∧ bsum j a w ≠ 0
  | [], _, ⟨_, hx, _⟩ => by simp at hx
  | x :: r, a, h => by
    by_cases hr : ∃ y ∈ r, y ≠ 0
    · obtain ⟨j, h1, h2, h3, h4⟩ := bsum_some r (a + 1) hr
      refine ⟨j, by simp only [List.length_cons]; omega, by omega, fun i hi => choose_lt (by omega), ?_⟩
      show x * (choose a j : Int) + bsum j (a + 1) r ≠ 0
      rw [choose_lt (by omega : a < j)]
      simpa using h4
    · have hz : ∀ y ∈ r, y = 0 := fun y hy => Classical.byContradiction fun q => hr ⟨y, hy, q⟩
      have hx : x ≠ 0 := by
        obtain ⟨y, hy, h0⟩ := h
        rcases List.mem_cons.mp hy with e | hy
        · rw [← e]; exact h0
        · exact absurd (hz y hy) h0
      refine ⟨a, by simp only [List.length_cons]; omega, Nat.le_refl _, fun i hi => choose_lt hi, ?_⟩
      show x * (choose a a : Int) + bsum a (a + 1) r ≠ 0
      rw [choose_self, bsum_far a r (a + 1) hz]
      simpa using hx
theorem bsum_one (w : List Int) (h : ∃ x ∈ w, x ≠ 0) : ∃ j, j < w.length ∧ bsum j 0 w ≠ 0 := by
  obtain ⟨j, h1, _, _, h4⟩ := bsum_some w 0 h
  exact ⟨j, by omega, h4⟩
end Tb
namespace Tb
/-! ### positions and totals -/
def posFrom (c : Nat) : Nat → List Nat → List Nat
  | _, [] => []
  | a, x :: r => if x = c then a :: posFrom c (a + 1) r else posFrom c (a + 1) r
theorem posFrom_snoc (c : Nat) : ∀ (l : List Nat) (a x : Nat), posFrom c a (l ++ [x]) = posFrom c a l ++ (if x = c then [a + l.length] else [])
  | [], a, x => by
    show (if x = c then a :: [] else []) = [] ++ _
    simp
  | y :: l, a, x => by
    show (if y = c then a :: posFrom c (a + 1) (l ++ [x]) else posFrom c (a + 1) (l ++ [x])) = (if y = c then a :: posFrom c (a + 1) l else posFrom c (a + 1) l) ++ _
    rw [posFrom_snoc c l (a + 1) x]
    have e : a + 1 + l.length = a + (y :: l).length := by simp only [List.length_cons]; omega
    rw [e]
    split <;> simp
theorem posFrom_lt (c : Nat) : ∀ (l : List Nat) (a i : Nat), i ∈ posFrom c a l → a ≤ i ∧ i < a + l.length
  | [], _, _, h => by simp [posFrom] at h
  | y :: l, a, i, h => by
    have h' : i ∈ (if y = c then a :: posFrom c (a + 1) l else posFrom c (a + 1) l) := h
    have ih := posFrom_lt c l (a + 1) i
    simp only [List.length_cons]
    split at h'
    · rcases List.mem_cons.mp h' with e | h'
      · omega
      · have := ih h'; omega
    · have := ih h'; omega
theorem posFrom_nil (c : Nat) : ∀ (l : List Nat) (a : Nat), posFrom c a l = [] ↔ c ∉ l
  | [], _ => by simp [posFrom]
  | y :: l, a => by
    show (if y = c then a :: posFrom c (a + 1) l else posFrom c (a + 1) l) = [] ↔ _
    by_cases h : y = c
    · rw [if_pos h]; simp [h]
    · rw [if_neg h, posFrom_nil c l (a + 1)]
      have h' : ¬ c = y := fun e => h e.symm
      simp [h']
theorem posFrom_len (c : Nat) (l : List Nat) (a : Nat) : (posFrom c a l).length ≤ l.length := by
  induction l generalizing a with
  | nil => simp [posFrom]
  | cons y l ih =>
    show (if y = c then a :: posFrom c (a + 1) l else posFrom c (a + 1) l).length ≤ _
    have := ih (a + 1)
    split <;> simp only [List.length_cons] <;> omega
def tot (l : List Nat) (c : Nat) (row : List Int) : Int := ((posFrom c 0 l).map fun i => row.getD i 0).sum
/-- the total for the numbers of choices -/
def bt (l : List Nat) (c j : Nat) : Int := tot l c (binRow l.length j)
theorem bt_eq (l : List Nat) (c j : Nat) : bt l c j = ((posFrom c 0 l).map fun i => (choose i j : Int)).sum := by
  unfold bt tot
  congr 1
  apply List.map_congr_left
  intro i hi
  have h := (posFrom_lt c l 0 i hi).2
  rw [Nat.zero_add] at h
  rw [List.getD_eq_getElem?_getD, binRow_get _ _ _ h]
  rfl
def sgn (l : List Nat) (f s : Nat) : List Int := l.map fun x => (if x = f then 1 else 0) - (if x = s then 1 else 0)
theorem sgn_len (l : List Nat) (f s : Nat) : (sgn l f s).length = l.length := by simp [sgn]
theorem tot_sub (j f s : Nat) : ∀ (l : List Nat) (a : Nat), ((posFrom f a l).map fun i => (choose i j : Int)).sum - ((posFrom s a l).map fun i => (choose i j : Int)).sum = bsum j a (sgn l f s)
  | [], _ => rfl
  | x :: l, a => by
    have ih := tot_sub j f s l (a + 1)
    show ((if x = f then a :: posFrom f (a + 1) l else posFrom f (a + 1) l).map fun i => (choose i j : Int)).sum - ((if x = s then a :: posFrom s (a + 1) l else posFrom s (a + 1) l).map fun i => (choose i j : Int)).sum =
      ((if x = f then 1 else 0) - (if x = s then 1 else 0)) * (choose a j : Int) + bsum j (a + 1) (sgn l f s)
    by_cases h1 : x = f
    · by_cases h2 : x = s
      · rw [if_pos h1, if_pos h2, if_pos h1, if_pos h2]
        simp only [List.map_cons, List.sum_cons]
        omega
      · rw [if_pos h1, if_neg h2, if_pos h1, if_neg h2]
        simp only [List.map_cons, List.sum_cons]
        omega
    · by_cases h2 : x = s
      · rw [if_neg h1, if_pos h2, if_neg h1, if_pos h2]
        simp only [List.map_cons, List.sum_cons]
        omega
      · rw [if_neg h1, if_neg h2, if_neg h1, if_neg h2]
        omega
theorem bt_sub (l : List Nat) (f s j : Nat) : bt l f j - bt l s j = bsum j 0 (sgn l f s) := by
  rw [bt_eq, bt_eq]
  exact tot_sub j f s l 0

/-! ### the least degree at which some pair differs -/
def differ (l : List Nat) (ps : List (Nat × Nat)) (j : Nat) : Bool := ps.any fun q => decide (bt l q.1 j ≠ bt l q.2 j)
def ldeg (l : List Nat) (ps : List (Nat × Nat)) : Nat := ((List.range (l.length + 1)).find? (differ l ps)).getD 0
theorem find_range {p : Nat → Bool} : ∀ {n d : Nat}, d < n → p d = true → (∀ j, j < d → p j = false) → (List.range n).find? p = some d := fun {n d} hd hp hl => by
  rw [List.find?_eq_some_iff_append]
  refine ⟨hp, List.range d, (List.range' (d + 1) (n - d - 1)), ?_, fun j hj => by rw [hl j (List.mem_range.mp hj)]; rfl⟩
  rw [List.range_eq_range', List.range_eq_range']
  have e : n = d + (1 + (n - d - 1)) := by omega
  conv => lhs; rw [e]
  rw [← List.range'_append_1, Nat.zero_add]
  rw [show (1 + (n - d - 1)) = (n - d - 1) + 1 by omega, List.range'_succ]
theorem ldeg_eq {l : List Nat} {ps : List (Nat × Nat)} {d : Nat} (hd : d ≤ l.length) (hp : differ l ps d = true) (hl : ∀ j, j < d → differ l ps j = false) : ldeg l ps = d := by
  unfold ldeg
  rw [find_range (by omega) hp hl]
  rfl
theorem least {p : Nat → Bool} : ∀ {n : Nat}, (∃ j, j < n ∧ p j = true) → ∃ d, d < n ∧ p d = true ∧ ∀ j, j < d → p j = false
  | 0, ⟨_, h, _⟩ => by omega
  | n + 1, h => by
    by_cases q : ∃ j, j < n ∧ p j = true
    · obtain ⟨d, h1, h2, h3⟩ := least q
      exact ⟨d, by omega, h2, h3⟩
    · obtain ⟨j, hj, hp⟩ := h
      have ej : j = n := by
        rcases Nat.lt_or_ge j n with z | z
        · exact absurd ⟨j, z, hp⟩ q
        · omega
      subst ej
      refine ⟨j, by omega, hp, fun i hi => ?_⟩
      cases z : p i with
      | false => rfl
      | true => exact absurd ⟨i, hi, z⟩ q
/-- where some pair differs somewhere, ldeg is the least such degree -/
theorem ldeg_spec {l : List Nat} {ps : List (Nat × Nat)} (h : ∃ j, j < l.length ∧ differ l ps j = true) : ldeg l ps < l.length ∧ differ l ps (ldeg l ps) = true ∧ ∀ j, j < ldeg l ps → differ l ps j = false := by
  obtain ⟨d, h1, h2, h3⟩ := least h
  rw [ldeg_eq (by omega) h2 h3]
  exact ⟨h1, h2, h3⟩
theorem ldeg_congr {l m : List Nat} {ps qs : List (Nat × Nat)} (hl : l.length = m.length) (h : ∀ j, differ l ps j = differ m qs j) : ldeg l ps = ldeg m qs := by
  unfold ldeg
  have e : differ l ps = differ m qs := funext h
  rw [hl, e]
theorem differ_one (l : List Nat) (f s j : Nat) : differ l [(f, s)] j = decide (bsum j 0 (sgn l f s) ≠ 0) := by
  unfold differ
  simp only [List.any_cons, List.any_nil, Bool.or_false]
  have e := bt_sub l f s j
  by_cases h : bt l f j = bt l s j
  · rw [decide_eq_false (by simpa using h), decide_eq_false (by
      intro q; exact q (by omega))]
  · rw [decide_eq_true h, decide_eq_true (by omega)]
/-- neither has a turn, or both are one -/
def Idle (l : List Nat) (f s : Nat) : Prop := f = s ∨ (f ∉ l ∧ s ∉ l)
instance (l : List Nat) (f s : Nat) : Decidable (Idle l f s) := by unfold Idle; infer_instance
theorem idle_sgn {l : List Nat} {f s : Nat} : Idle l f s ↔ ∀ x ∈ sgn l f s, x = 0 := by
  constructor
  · intro h x hx
    obtain ⟨y, hy, rfl⟩ := List.mem_map.mp hx
    rcases h with h | ⟨h1, h2⟩
    · subst h; omega
    · rw [if_neg (fun e : y = f => h1 (e ▸ hy)), if_neg (fun e : y = s => h2 (e ▸ hy))]; rfl
  · intro h
    by_cases e : f = s
    · exact .inl e
    · refine .inr ⟨fun hf => ?_, fun hs => ?_⟩
      · have q := h _ (List.mem_map.mpr ⟨f, hf, rfl⟩)
        rw [if_pos rfl, if_neg e] at q
        omega
      · have q := h _ (List.mem_map.mpr ⟨s, hs, rfl⟩)
        rw [if_pos rfl, if_neg fun z => e z.symm] at q
        omega
theorem pair_some {l : List Nat} {f s : Nat} (h : ¬ Idle l f s) : ∃ j, j < l.length ∧ differ l [(f, s)] j = true := by
  have h1 : ∃ x ∈ sgn l f s, x ≠ 0 := Classical.byContradiction fun q => h (idle_sgn.mpr fun x hx => Classical.byContradiction fun z => q ⟨x, hx, z⟩)
  obtain ⟨j, hj, hb⟩ := bsum_one _ h1
  rw [sgn_len] at hj
  exact ⟨j, hj, by rw [differ_one]; exact decide_eq_true hb⟩
/-- the pair order -/
def pord (l : List Nat) (f s : Nat) : Option Nat := if Idle l f s then none else some (ldeg l [(f, s)])
theorem even_idle {l : List Nat} {f s : Nat} (h : Idle l f s) (d : Nat) : Even d (sgn l f s) := fun j _ => bsum_far j _ 0 (idle_sgn.mp h)
/-- a degree that the pair order allows -/
def Allowed (l : List Nat) (f s d : Nat) : Prop := ∀ k, pord l f s = some k → d ≤ k
theorem allowed_even {l : List Nat} {f s d : Nat} : Allowed l f s d ↔ Even d (sgn l f s) := by
  by_cases h : Idle l f s
  · have e : pord l f s = none := if_pos h
    exact ⟨fun _ => even_idle h d, fun _ k hk => by rw [e] at hk; cases hk⟩
  · have e : pord l f s = some (ldeg l [(f, s)]) := if_neg h
    obtain ⟨h1, h2, h3⟩ := ldeg_spec (pair_some h)
    constructor
    · intro ha j hj
      have q := h3 j (Nat.lt_of_lt_of_le hj (ha _ e))
      rw [differ_one] at q
      exact Classical.byContradiction fun z => by rw [decide_eq_true z] at q; cases q
    · intro he k hk
      rw [e] at hk
      have ek : ldeg l [(f, s)] = k := Option.some.inj hk
      rw [← ek]
      rcases Nat.lt_or_ge (ldeg l [(f, s)]) d with z | z
      · rw [differ_one, he _ z] at h2
        simp at h2
      · exact z
/-- all pairs in order -/
def pairsOf (n : Nat) : List (Nat × Nat) := (List.range n).flatMap fun f => ((List.range n).filter fun s => decide (f < s)).map fun s => (f, s)
theorem mem_pairsOf {n f s : Nat} : (f, s) ∈ pairsOf n ↔ f < s ∧ s < n := by
  unfold pairsOf
  simp only [List.mem_flatMap, List.mem_range, List.mem_map, List.mem_filter, decide_eq_true_eq, Prod.mk.injEq]
  constructor
  · rintro ⟨a, ha, b, ⟨hb, hab⟩, rfl, rfl⟩
    exact ⟨hab, hb⟩
  · rintro ⟨h1, h2⟩
    exact ⟨f, by omega, s, ⟨h2, h1⟩, rfl, rfl⟩
def ord (l : List Nat) (n : Nat) : Nat := ldeg l (pairsOf n)
theorem differ_all (l : List Nat) (n j : Nat) : differ l (pairsOf n) j = true ↔ ∃ f s, f < n ∧ s < n ∧ bt l f j ≠ bt l s j := by
  unfold differ
  rw [List.any_eq_true]
  constructor
  · rintro ⟨⟨f, s⟩, hm, hd⟩
    obtain ⟨h1, h2⟩ := mem_pairsOf.mp hm
    exact ⟨f, s, by omega, h2, of_decide_eq_true hd⟩
  · rintro ⟨f, s, hf, hs, hd⟩
    rcases Nat.lt_trichotomy f s with z | z | z
    · exact ⟨(f, s), mem_pairsOf.mpr ⟨z, hs⟩, decide_eq_true hd⟩
    · exact absurd (by rw [z]) hd
    · exact ⟨(s, f), mem_pairsOf.mpr ⟨z, hf⟩, decide_eq_true (Ne.symm hd)⟩
theorem all_some {l : List Nat} {n : Nat} (hn : 2 ≤ n) (hne : l ≠ []) (hl : ∀ x ∈ l, x < n) : ∃ j, j < l.length ∧ differ l (pairsOf n) j = true := by
  obtain ⟨x, r, rfl⟩ := List.exists_cons_of_ne_nil hne
  have hx := hl x (by simp)
  obtain ⟨y, hy, hxy⟩ : ∃ y, y < n ∧ x ≠ y := by
    by_cases h : x = 0
    · exact ⟨1, by omega, by omega⟩
    · exact ⟨0, by omega, h⟩
  have hi : ¬ Idle (x :: r) x y := fun h => by
    rcases h with h | ⟨h, _⟩
    · exact hxy h
    · exact h (by simp)
  obtain ⟨j, hj, hd⟩ := pair_some hi
  refine ⟨j, hj, (differ_all _ n j).mpr ⟨x, y, hx, hy, ?_⟩⟩
  rw [differ_one] at hd
  have q := of_decide_eq_true hd
  rw [← bt_sub] at q
  intro z
  exact q (by omega)

/-! ### other names -/
def ren (nm l : List Nat) : List Nat := l.map fun x => nm.getD x 0
structure Names (nm : List Nat) (n : Nat) : Prop where
  perm : nm.Perm (List.range n)
section
variable {nm l : List Nat} {n : Nat}
theorem Names.len (h : Names nm n) : nm.length = n := by rw [h.perm.length_eq, List.length_range]
theorem Names.at_ (h : Names nm n) {x : Nat} (hx : x < n) : nm[x]? = some (nm.getD x 0) := by
  rw [List.getD_eq_getElem?_getD, List.getElem?_eq_getElem (by rw [h.len]; exact hx)]
  rfl
theorem Names.lt (h : Names nm n) {x : Nat} (hx : x < n) : nm.getD x 0 < n := by
  have h1 := List.mem_of_getElem? (h.at_ hx)
  exact List.mem_range.mp (h.perm.mem_iff.mp h1)
theorem Names.nodup (h : Names nm n) : nm.Nodup := h.perm.nodup_iff.mpr List.nodup_range
theorem Names.inj (h : Names nm n) {x y : Nat} (hx : x < n) (hy : y < n) (e : nm.getD x 0 = nm.getD y 0) : x = y := by
  have h1 := h.at_ hx
  have h2 := h.at_ hy
  rw [← e] at h2
  obtain ⟨l1, e1⟩ := List.getElem?_eq_some_iff.mp h1
  obtain ⟨l2, e2⟩ := List.getElem?_eq_some_iff.mp h2
  exact (List.getElem_inj h.nodup).mp (e1.trans e2.symm)
theorem Names.onto (h : Names nm n) {y : Nat} (hy : y < n) : ∃ x, x < n ∧ nm.getD x 0 = y := by
  have h1 : y ∈ nm := h.perm.mem_iff.mpr (List.mem_range.mpr hy)
  obtain ⟨i, hi, e⟩ := List.mem_iff_getElem.mp h1
  rw [h.len] at hi
  refine ⟨i, hi, ?_⟩
  have q := h.at_ hi
  rw [List.getElem?_eq_getElem (by rw [h.len]; exact hi), e] at q
  exact (Option.some.inj q).symm
theorem ren_len : (ren nm l).length = l.length := by simp [ren]
theorem ren_lt (h : Names nm n) (hl : ∀ x ∈ l, x < n) : ∀ x ∈ ren nm l, x < n := fun x hx => by
  obtain ⟨y, hy, rfl⟩ := List.mem_map.mp hx
  exact h.lt (hl y hy)
theorem pos_ren (h : Names nm n) {c : Nat} (hc : c < n) : ∀ (l : List Nat) (a : Nat), (∀ x ∈ l, x < n) → posFrom (nm.getD c 0) a (ren nm l) = posFrom c a l
  | [], _, _ => rfl
  | x :: l, a, hl => by
    have hx := hl x (by simp)
    have ih := pos_ren h hc l (a + 1) fun y hy => hl y (by simp [hy])
    show (if nm.getD x 0 = nm.getD c 0 then a :: posFrom (nm.getD c 0) (a + 1) (ren nm l) else posFrom (nm.getD c 0) (a + 1) (ren nm l)) = if x = c then a :: posFrom c (a + 1) l else posFrom c (a + 1) l
    rw [ih]
    by_cases e : x = c
    · rw [if_pos e, if_pos (by rw [e])]
    · rw [if_neg e, if_neg fun z => e (h.inj hx hc z)]
theorem tot_ren (h : Names nm n) (hl : ∀ x ∈ l, x < n) {c : Nat} (hc : c < n) (row : List Int) : tot (ren nm l) (nm.getD c 0) row = tot l c row := by
  unfold tot
  rw [pos_ren h hc l 0 hl]
theorem bt_ren (h : Names nm n) (hl : ∀ x ∈ l, x < n) {c : Nat} (hc : c < n) (j : Nat) : bt (ren nm l) (nm.getD c 0) j = bt l c j := by
  unfold bt
  rw [ren_len, tot_ren h hl hc]
theorem sgn_ren (h : Names nm n) (hl : ∀ x ∈ l, x < n) {f s : Nat} (hf : f < n) (hs : s < n) : sgn (ren nm l) (nm.getD f 0) (nm.getD s 0) = sgn l f s := by
  unfold sgn ren
  rw [List.map_map]
  apply List.map_congr_left
  intro x hx
  have hxn := hl x hx
  have e1 : (nm.getD x 0 = nm.getD f 0) ↔ x = f := ⟨h.inj hxn hf, fun e => by rw [e]⟩
  have e2 : (nm.getD x 0 = nm.getD s 0) ↔ x = s := ⟨h.inj hxn hs, fun e => by rw [e]⟩
  show (if nm.getD x 0 = nm.getD f 0 then (1 : Int) else 0) - (if nm.getD x 0 = nm.getD s 0 then 1 else 0) = _
  simp only [e1, e2]
theorem pord_ren (h : Names nm n) (hl : ∀ x ∈ l, x < n) {f s : Nat} (hf : f < n) (hs : s < n) : pord (ren nm l) (nm.getD f 0) (nm.getD s 0) = pord l f s := by
  have e : sgn (ren nm l) (nm.getD f 0) (nm.getD s 0) = sgn l f s := sgn_ren h hl hf hs
  have ei : Idle (ren nm l) (nm.getD f 0) (nm.getD s 0) ↔ Idle l f s := by rw [idle_sgn, idle_sgn, e]
  unfold pord
  rw [ldeg_congr (l := ren nm l) (m := l) (ps := [(nm.getD f 0, nm.getD s 0)]) (qs := [(f, s)]) ren_len fun j => by rw [differ_one, differ_one, e]]
  by_cases q : Idle l f s
  · rw [if_pos q, if_pos (ei.mpr q)]
  · rw [if_neg q, if_neg fun z => q (ei.mp z)]
theorem ord_ren (h : Names nm n) (hl : ∀ x ∈ l, x < n) : ord (ren nm l) n = ord l n := by
  refine ldeg_congr ren_len fun j => ?_
  have e : differ (ren nm l) (pairsOf n) j = true ↔ differ l (pairsOf n) j = true := by
    rw [differ_all, differ_all]
    constructor
    · rintro ⟨f, s, hf, hs, hd⟩
      obtain ⟨f', hf', rfl⟩ := h.onto hf
      obtain ⟨s', hs', rfl⟩ := h.onto hs
      rw [bt_ren h hl hf', bt_ren h hl hs'] at hd
      exact ⟨f', s', hf', hs', hd⟩
    · rintro ⟨f, s, hf, hs, hd⟩
      refine ⟨nm.getD f 0, nm.getD s 0, h.lt hf, h.lt hs, ?_⟩
      rw [bt_ren h hl hf, bt_ren h hl hs]
      exact hd
  exact Bool.eq_iff_iff.mpr e
end

/-! ### backward -/
theorem sgn_rev (l : List Nat) (f s : Nat) : sgn l.reverse f s = (sgn l f s).reverse := by
  unfold sgn
  rw [List.map_reverse]
theorem sgn_swap (l : List Nat) (f s : Nat) : sgn l s f = (sgn l f s).map fun x => -x := by
  unfold sgn
  rw [List.map_map]
  apply List.map_congr_left
  intro x _
  show _ = -(_ - _)
  omega
theorem allowed_rev {l : List Nat} {f s d : Nat} (h : Allowed l f s d) : Allowed l.reverse f s d := by
  rw [allowed_even, sgn_rev]
  exact (even_rev d _ (allowed_even.mp h)).1
theorem allowed_swap {l : List Nat} {f s d : Nat} (h : Allowed l f s d) : Allowed l s f d := by
  rw [allowed_even, sgn_swap]
  exact even_neg (allowed_even.mp h)
/-- the weights -/
def wt (l : List Nat) (f s d : Nat) : List Int := wts d (sgn l f s)
theorem wt_rev {l : List Nat} {f s d : Nat} (h : Allowed l f s d) : wt l.reverse f s d = (wt l f s d).reverse.map fun x => (if d % 2 = 1 then -1 else 1) * x := by
  unfold wt
  rw [sgn_rev, (even_rev d _ (allowed_even.mp h)).2]
  unfold sgnd
  by_cases q : d % 2 = 1
  · rw [if_pos q, if_pos q]
    apply List.map_congr_left
    intro x _
    omega
  · rw [if_neg q, if_neg q]
    conv => lhs; rw [← List.map_id (wts d (sgn l f s)).reverse]
    apply List.map_congr_left
    intro x _
    show x = 1 * x
    omega
theorem wt_swap (l : List Nat) (f s d : Nat) : wt l s f d = (wt l f s d).map fun x => -x := by
  unfold wt
  rw [sgn_swap, wts_neg]
theorem wt_ren {nm l : List Nat} {n : Nat} (h : Names nm n) (hl : ∀ x ∈ l, x < n) {f s : Nat} (hf : f < n) (hs : s < n) (d : Nat) : wt (ren nm l) (nm.getD f 0) (nm.getD s 0) d = wt l f s d := by
  unfold wt
  rw [sgn_ren h hl hf hs]
def absI (x : Int) : Int := if x < 0 then -x else x
def absSum (w : List Int) : Int := (w.map absI).sum
theorem absSum_neg (w : List Int) : absSum (w.map fun x => -x) = absSum w := by
  unfold absSum
  rw [List.map_map]
  congr 1
  apply List.map_congr_left
  intro x _
  show absI (-x) = absI x
  unfold absI
  split <;> split <;> omega
theorem absSum_rev (w : List Int) : absSum w.reverse = absSum w := by
  unfold absSum
  rw [List.map_reverse, List.sum_reverse]
/-- the greatest differences agree -/
theorem great_rev {l : List Nat} {f s d : Nat} (h : Allowed l f s d) : absSum (wt l.reverse s f d) = absSum (wt l f s d) := by
  have h2 := allowed_rev (allowed_swap h)
  rw [wt_swap l.reverse f s d, absSum_neg, wt_rev h]
  by_cases q : d % 2 = 1
  · simp only [if_pos q]
    have e : ((wt l f s d).reverse.map fun x => -1 * x) = (wt l f s d).reverse.map fun x => -x := by
      apply List.map_congr_left
      intro x _
      omega
    rw [e, absSum_neg, absSum_rev]
  · simp only [if_neg q]
    have e : ((wt l f s d).reverse.map fun x => 1 * x) = (wt l f s d).reverse := by
      conv => rhs; rw [← List.map_id (wt l f s d).reverse]
      apply List.map_congr_left
      intro x _
      show 1 * x = x
      omega
    rw [e, absSum_rev]

/-! ### products -/
def prodT (n : Nat) (l m : List Nat) : List Nat := l.flatMap fun x => m.map fun y => (y + x) % n
def rot (n k : Nat) : List Nat := (List.range n).drop k ++ (List.range n).take k
theorem rot_names {n k : Nat} : Names (rot n k) n := ⟨by
  unfold rot
  exact List.perm_append_comm.trans (by rw [List.take_append_drop])⟩
theorem rot_get {n k x : Nat} (hk : k < n) (hx : x < n) : (rot n k).getD x 0 = (x + k) % n := by
  unfold rot
  rw [List.getD_eq_getElem?_getD]
  rcases Nat.lt_or_ge (x + k) n with h | h
  · rw [List.getElem?_append_left (by rw [List.length_drop, List.length_range]; omega), List.getElem?_drop, List.getElem?_range (by omega)]
    rw [Nat.mod_eq_of_lt h, Nat.add_comm k x]; rfl
  · rw [List.getElem?_append_right (by rw [List.length_drop, List.length_range]; omega), List.length_drop, List.length_range, List.getElem?_take_of_lt (by omega), List.getElem?_range (by omega)]
    have e : (x + k) % n = x + k - n := by
      rw [Nat.mod_eq_sub_mod h, Nat.mod_eq_of_lt (by omega)]
    rw [e]
    show x - (n - k) = _
    omega
theorem prod_lt {n : Nat} (hn : 0 < n) (l m : List Nat) : ∀ x ∈ prodT n l m, x < n := fun x hx => by
  unfold prodT at hx
  simp only [List.mem_flatMap, List.mem_map] at hx
  obtain ⟨_, _, y, _, rfl⟩ := hx
  exact Nat.mod_lt _ hn
theorem prod_len (n : Nat) (l m : List Nat) : (prodT n l m).length = l.length * m.length := by
  unfold prodT
  induction l with
  | nil => simp
  | cons x l ih =>
    rw [List.flatMap_cons, List.length_append, ih, List.length_map, List.length_cons, Nat.add_mul]
    omega
theorem prod_ren {n k : Nat} (hk : k < n) {l m : List Nat} (hm : ∀ x ∈ m, x < n) : prodT n l (ren (rot n k) m) = ren (rot n k) (prodT n l m) := by
  have hn : 0 < n := by omega
  unfold prodT ren
  rw [List.map_flatMap]
  congr 1
  funext x
  rw [List.map_map, List.map_map]
  apply List.map_congr_left
  intro y hy
  show ((rot n k).getD y 0 + x) % n = (rot n k).getD ((y + x) % n) 0
  rw [rot_get hk (hm y hy), rot_get hk (Nat.mod_lt _ hn)]
  rw [Nat.mod_add_mod, Nat.mod_add_mod]
  congr 1
  omega
theorem ord_prod {n k : Nat} (hk : k < n) {l : List Nat} (hl : ∀ x ∈ l, x < n) : ord (prodT n l (ren (rot n k) l)) n = ord (prodT n l l) n := by
  rw [prod_ren hk hl]
  exact ord_ren rot_names (prod_lt (by omega) _ _)
end Tb
set_option maxHeartbeats 4000000
/-! what stands behind the top; texts; turns at an address; calls of own defs by name -/
namespace TB
open PySem PySem.Spec PyProof.Rows L2
structure Tx (K : PySem.W.Frag) (mg : Str → Option Value) (base : Heap) : Prop where
  kin : K.In base
  ns : base.Ns mainGlobals mg
  seen : Seen K
abbrev CT (K : PySem.W.Frag) : Addr := He.ga K "Turns"
section
variable {P : Program} {w : World} {K : PySem.W.Frag} {mg : Str → Option Value} {base : Heap}
namespace Tx
theorem says (T : Tx K mg base) : He.SaysD theFacts theDefs K := congrArg (fun z : SeenT => z.1) T.seen
theorem fact (T : Tx K mg base) (i : Nat) {f : He.Fa} (h : theFacts[i]? = some f := by rfl) : f.ok K = true := He.SaysD.fact T.says i h
theorem glo (T : Tx K mg base) {x : Str} (i : Nat) (h : theFacts[i]? = some (.glo x) := by rfl) : mg x = some (.ref (He.ga K x)) := He.glo_ok T.kin T.ns (T.fact i h)
theorem free (T : Tx K mg base) {x : Str} (i : Nat) (h : theFacts[i]? = some (.free x) := by rfl) : mg x = none := He.free_ok T.kin T.ns (T.fact i h)
theorem isinstance (T : Tx K mg base) : mg "isinstance" = none := T.free 36
theorem len (T : Tx K mg base) : mg "len" = none := T.free 37
theorem any (T : Tx K mg base) : mg "any" = none := T.free 38
theorem max (T : Tx K mg base) : mg "max" = none := T.free 39
theorem min (T : Tx K mg base) : mg "min" = none := T.free 40
theorem sum (T : Tx K mg base) : mg "sum" = none := T.free 41
theorem sorted (T : Tx K mg base) : mg "sorted" = none := T.free 42
theorem list (T : Tx K mg base) : mg "list" = none := T.free 43
theorem enumerate (T : Tx K mg base) : mg "enumerate" = none := T.free 44
theorem range (T : Tx K mg base) : mg "range" = none := T.free 45
theorem abs (T : Tx K mg base) : mg "abs" = none := T.free 46
theorem int (T : Tx K mg base) : mg "int" = none := T.free 47
theorem bool (T : Tx K mg base) : mg "bool" = none := T.free 48
theorem str (T : Tx K mg base) : mg "str" = none := T.free 49
theorem maxTurns (T : Tx K mg base) : ∃ u, mg "MAX_TURNS_turns" = some u ∧ RelV (.int 2000) u := by
  obtain ⟨t, e⟩ := He.int_ok T.kin T.ns (T.fact 50)
  exact ⟨_, e, t, rfl⟩
theorem fewest (T : Tx K mg base) : ∃ u, mg "FEWEST_PLAYERS" = some u ∧ RelV (.int 2) u := by
  obtain ⟨t, e⟩ := He.int_ok T.kin T.ns (T.fact 51)
  exact ⟨_, e, t, rfl⟩
theorem maxDegree (T : Tx K mg base) : ∃ u, mg "MAX_DEGREE" = some u ∧ RelV (.int 50) u := by
  obtain ⟨t, e⟩ := He.int_ok T.kin T.ns (T.fact 52)
  exact ⟨_, e, t, rfl⟩
theorem letters (T : Tx K mg base) : ∃ u, mg "LETTERS" = some u ∧ RelV (.str "ABCDEF") u := by
  obtain ⟨t, e⟩ := He.str_ok T.kin T.ns (T.fact 53)
  exact ⟨_, e, t, rfl⟩
theorem turns (T : Tx K mg base) : mg "Turns" = some (.ref (CT K)) := T.glo 35
theorem cl (T : Tx K mg base) : Cls K (CT K) := He.cls_ok (T.fact 54)
theorem made (T : Tx K mg base) : Mk K (CT K) (He.ma K (CT K) "__init__") := He.mkr_ok (T.fact 55)
theorem nT (T : Tx K mg base) : NoAttr K (CT K) "own_text" := He.noat_ok (T.fact 56)
theorem nP (T : Tx K mg base) : NoAttr K (CT K) "own_players" := He.noat_ok (T.fact 57)
theorem dd (T : Tx K mg base) (i : Nat) {d : He.DefD} (h : theDefs[i]? = some d := by rfl) : ∃ fd, FunD K d.name d.qual d.params d.body d.scope (d.dvs K) (d.kws K) (He.fAd K d.at_) fd := He.SaysD.def_ T.says i h
end Tx
/-- the name x is a def of ours that keeps sp -/
structure Cal (P : Program) (w : World) (K : PySem.W.Frag) (mg : Str → Option Value) (base : Heap) (k : Nat) (x : Str) (ps : List Str) (sp : Sp) : Prop where
  ex : ∃ (f : Addr) (fd : FuncData), mg x = some (.ref f) ∧ PySem.W.keepIn K (.ref f) = true ∧ Binds K fd ps [] ∧ FnOk P w K mg base CX0 k f fd ps sp
/-- the same of a method of Turns -/
structure Mal (P : Program) (w : World) (K : PySem.W.Frag) (mg : Str → Option Value) (base : Heap) (k : Nat) (m : Str) (ps : List Str) (sp : Sp) : Prop where
  ex : ∃ (f : Addr) (fd : FuncData), Meth K (CT K) m f ∧ Binds K fd ps [] ∧ FnOk P w K mg base CX0 k f fd ps sp
abbrev BindsBy (d : He.DefD) (ps : List Str) : Prop := ∀ (kV doc pm : Value) (an : Option Addr) (cdv ct : Value) (us : List Value), us.length = ps.length → bindArgs (PySem.W.fnOf d.name d.qual d.params d.body d.scope .none kV doc pm an cdv ct) ⟨us, []⟩ = pure (ps.zip us)
theorem cal_of {k i j : Nat} {x : Str} {ps : List Str} {sp : Sp} (T : Tx K mg base) (d : He.DefD) (hi : theDefs[i]? = some d) (hx : d.at_ = (x, none)) (h1 : d.dfl = []) (h2 : d.kwd = []) (hj : theFacts[j]? = some (.glo x)) (hb : BindsBy d ps)
    (h : ∀ (f : Addr) (fd : FuncData), FunD K d.name d.qual d.params d.body d.scope [] [] f fd → FnOk P w K mg base CX0 k f fd ps sp) : Cal P w K mg base k x ps sp := by
  obtain ⟨fd, F⟩ := T.dd i hi
  have e1 : d.dvs K = [] := by unfold He.DefD.dvs; rw [h1]; rfl
  have e2 : d.kws K = [] := by unfold He.DefD.kws; rw [h2]; rfl
  rw [e1, e2] at F
  refine ⟨_, fd, ?_, F.kp, F.bindsN hb, h _ _ F⟩
  have e3 : He.fAd K d.at_ = He.ga K x := by rw [hx]; rfl
  rw [e3]
  exact T.glo j hj
theorem mal_of {k i j : Nat} {m : Str} {ps : List Str} {sp : Sp} (T : Tx K mg base) (d : He.DefD) (hi : theDefs[i]? = some d) (hx : d.at_ = (("Turns" : Str), some m)) (h1 : d.dfl = []) (h2 : d.kwd = []) (hj : theFacts[j]? = some (.meth "Turns" m)) (hb : BindsBy d ps)
    (h : ∀ (f : Addr) (fd : FuncData), FunD K d.name d.qual d.params d.body d.scope [] [] f fd → FnOk P w K mg base CX0 k f fd ps sp) : Mal P w K mg base k m ps sp := by
  obtain ⟨fd, F⟩ := T.dd i hi
  have e1 : d.dvs K = [] := by unfold He.DefD.dvs; rw [h1]; rfl
  have e2 : d.kws K = [] := by unfold He.DefD.kws; rw [h2]; rfl
  rw [e1, e2] at F
  refine ⟨_, fd, ?_, F.bindsN hb, h _ _ F⟩
  have e3 : He.fAd K d.at_ = He.ma K (He.ga K "Turns") m := by rw [hx]; rfl
  rw [e3]
  exact He.meth_ok (T.fact j hj)
end
section
variable {X : Cx} {k k' : Nat} {x m : Str} {ps : List Str} {sp : Sp} {p pos apos : Pos} {e o : Expr} {es : List Expr} {t : TA} {ta : TE}
theorem pe_cal (c : Cal X.prog X.w X.K X.mg X.base k x ps sp) (hr : Room k' X.A) (hg : Gl X x) (ha : PA X (e :: es) t) (hk : k ≤ k' := by decide) (hdb : (x == ("__debug__" : Str)) = false := by decide)
    (he : starEach (e :: es) X.env = (false, eval e X.env) :: starEach es X.env := by rfl) (hpl : (backTo pos (starEach es X.env)).any (·.1) = false := by rfl) : PE X (.Call (.Name x p) (e :: es) [] pos) (tCall sp [] E0 t) := by
  obtain ⟨f, fd, h1, h2, h3, h4⟩ := c.ex
  exact pe_call h4 (hr.mono hk) hg h1 h2 h3 .nil pass0 ha hdb he hpl
theorem pe_mal {pl : Sem Bool} (c : Mal X.prog X.w X.K X.mg X.base k m ps sp) (cl : Cls X.K (CT X.K)) (hr : Room k' X.A) (he : PE X o ta) (ha : PA X (e :: es) t) (hk : k ≤ k' := by decide)
    (hst : starEach (e :: es) X.env = (false, eval e X.env) :: starEach es X.env := by rfl) (hpl : (backTo pos (starEach es X.env)).any (·.1) = false := by rfl)
    (ht : eval (.Call (.Attribute o m apos) (e :: es) [] pos) X.env = (do
      let ov ← eval o X.env
      standAt apos.atName
      let (f, first) ← holding [ov] (getMethod ov m pl)
      callWith pos f first (backTo pos (starEach (e :: es) X.env)) (backToKw pos (keywordEach [] X.env))) := by rfl) : PE X (.Call (.Attribute o m apos) (e :: es) [] pos) (tMeth (CT X.K) m sp [] E0 ta t) := by
  obtain ⟨f, fd, h1, h3, h4⟩ := c.ex
  exact pe_meth he cl h1 h4 (hr.mono hk) h3 .nil pass0 ha hst hpl ht
theorem pe_mal0 {pl : Sem Bool} (c : Mal X.prog X.w X.K X.mg X.base k m ps sp) (cl : Cls X.K (CT X.K)) (hr : Room k' X.A) (he : PE X o ta) (hk : k ≤ k' := by decide)
    (ht : eval (.Call (.Attribute o m apos) [] [] pos) X.env = (do
      let ov ← eval o X.env
      standAt apos.atName
      let (f, first) ← holding [ov] (getMethod ov m pl)
      callWith pos f first [] []) := by rfl) : PE X (.Call (.Attribute o m apos) [] [] pos) (tMeth (CT X.K) m sp [] E0 ta tNil) := by
  obtain ⟨f, fd, h1, h3, h4⟩ := c.ex
  exact pe_meth0 he cl h1 h4 (hr.mono hk) h3 .nil pass0 ht
end
/-! ### texts -/
def tx (l : List Nat) : Str := SX.S (l.map (· + 65))
theorem tx_len (l : List Nat) : (tx l).length = l.length := by
  unfold tx
  rw [SX.S_len, List.length_map]
theorem tx_inj {l m : List Nat} (h : tx l = tx m) : l = m := by
  have h1 := SX.S_inj h
  have h2 := congrArg (List.map fun x => x - 65) h1
  have h3 : ∀ z : List Nat, (z.map (· + 65)).map (fun x => x - 65) = z := fun z => by
    rw [List.map_map]
    exact (List.map_congr_left fun x _ => show x + 65 - 65 = id x from Nat.add_sub_cancel x 65).trans (List.map_id z)
  rw [h3, h3] at h2
  exact h2
theorem tx_cat (l m : List Nat) : tx l ++ tx m = tx (l ++ m) := by
  unfold tx
  rw [SX.S_cat, List.map_append]
theorem abc : ("ABCDEF" : Str) = tx (List.range 6) := by decide +kernel
theorem tx_cps (l : List Nat) : (tx l).cps.toList = l.map (· + 65) := by simp [tx, SX.S]
/-! ### turns -/
structure Good (l : List Nat) (n : Nat) : Prop where
  ne : l ≠ []
  len : l.length ≤ 2000
  lt : ∀ x ∈ l, x < n
  two : 2 ≤ n
  six : n ≤ 6
def tf (l : List Nat) (n : Nat) : List (Str × V) := [("own_text", V.str (tx l)), ("own_players", V.int (n : Int))]
def TAt (C : Addr) (H : Hp) (a : Addr) (l : List Nat) (n : Nat) : Prop := ∃ dx, H a = some (.ins C dx (tf l n))
theorem TAt.same {C : Addr} {H H' : Hp} {a : Addr} {l : List Nat} {n : Nat} (h : TAt C H a l n) (s : Same H H') : TAt C H' a l n := by
  obtain ⟨dx, e⟩ := h
  exact ⟨dx, s _ _ e⟩
theorem tf_text (l : List Nat) (n : Nat) : (tf l n).lookup ("own_text" : Str) = some (.str (tx l)) := by
  unfold tf
  rw [List.lookup_cons_self]
theorem tf_players (l : List Nat) (n : Nat) : (tf l n).lookup ("own_players" : Str) = some (.int (n : Int)) := by
  unfold tf
  have h : (("own_players" : Str) == "own_text") = false := by decide +kernel
  rw [List.lookup_cons, h, List.lookup_cons_self]
theorem tf_no (l : List Nat) (n : Nat) {m : Str} (h1 : (m == ("own_text" : Str)) = false := by decide +kernel) (h2 : (m == ("own_players" : Str)) = false := by decide +kernel) : (tf l n).lookup m = none := by
  unfold tf
  rw [List.lookup_cons, h1, List.lookup_cons, h2]
  rfl
/-- only the object at p may have changed -/
def But (p : Addr) (H H' : Hp) : Prop := ∀ b o, b ≠ p → H b = some o → H' b = some o
theorem But.refl (p : Addr) (H : Hp) : But p H H := fun _ _ _ h => h
theorem But.trans {p : Addr} {H H1 H2 : Hp} (a : But p H H1) (b : But p H1 H2) : But p H H2 := fun c o n h => b c o n (a c o n h)
theorem But.upd {p : Addr} {H : Hp} {o : HO} : But p H (upd H p o) := fun b u n h => by
  rw [upd_ne n]
  exact h
theorem same_but {p : Addr} {H H' : Hp} (s : Same H H') : But p H H' := fun b o _ h => s b o h
theorem same_upd {H H' : Hp} {p : Addr} {o : HO} (s : Same H H') (n : H p = none) : Same H (upd H' p o) := fun b u e => by
  rw [upd_ne (ne_of_none e n)]
  exact s b u e
end TB
set_option maxHeartbeats 4000000
/-! enumerate over a text, over a tuple -/
namespace TB
open PySem PySem.Spec PyProof.Rows L2
theorem meets_enum1 {v : Value} {o : Obj} {H : Heap → Prop} (B : Begins v o H) :
    Meets (Builtin.«enumerate.__new__» ⟨[.type "enumerate", v], []⟩) (fun _ R s => H s.heap ∧
      R (.ok (.ret (.ref (s.heap.push o).objs.size))) { s with heap := (s.heap.push o).push { cls := .type "enumerate", data := .fields #[.none, .bool false, .ref s.heap.objs.size, rawInt 0, .none, .none] } }) :=
  .of_wp fun prog w A R s h => by
    obtain ⟨hp, g, d, tk, os⟩ := s; obtain ⟨h1, h⟩ := h
    have hsub := sub_enumerate
    have q1 : ∀ {A' : Around} {E : Value → Shared → Prop} {Q : Value → Shared → Prop}, Q (.ref hp.objs.size) ⟨hp.push o, g, d, tk, os⟩ → wpAny (model prog w) A' (pyIter v) Q E ⟨hp, g, d, tk, os⟩ :=
      fun q => B.iter prog w _ _ ⟨hp, g, d, tk, os⟩ _ h1 q
    wp_walk using q1
    refine wpAny_stack_any fun st => wpAny_pure ?_
    split
    · rename_i c _ _ _ _ _
      cases (c == Value.type "enumerate")
      · wp_walk using q1
        exact ⟨_, rfl, h⟩
      · wp_walk using q1
        exact ⟨_, rfl, h⟩
    · wp_walk using q1
      exact ⟨_, rfl, h⟩
theorem enum1_begins {prog : Program} {w : World} {A : Around} {E : Value → Shared → Prop} {s : Shared} {v : Value} {o : Obj} {H : Heap → Prop} {Q : Value → Shared → Prop} (B : Begins v o H) (h1 : H s.heap)
    (h : ∀ h', IsEnum h' (s.heap.objs.size + 1) s.heap.objs.size 0 .none → h'.get? s.heap.objs.size = some o → h'.objs.size = s.heap.objs.size + 2 →
      (∀ b o, s.heap.get? b = some o → h'.get? b = some o) → Q (.ref (s.heap.objs.size + 1)) { s with heap := h' }) :
    wpAny (model prog w) A (call (.type "enumerate") [v]) Q E s := by
  refine callType_new F.called_enumerate (by decide) (F.typeCall_enumerate_1 _) (F.newCall_enumerate_1 _) (fun obj => F.args_object_init_2 obj _) F.entry_enumerate_new
    (meets_enum1 B) ⟨h1, ?_⟩
  have hz : (s.heap.push o).objs.size = s.heap.objs.size + 1 := Heap.size_push ..
  show _ ∧ _
  rw [hz]
  have he : IsEnum ((s.heap.push o).push { cls := .type "enumerate", data := .fields #[.none, .bool false, .ref s.heap.objs.size, rawInt 0, .none, .none] }) (s.heap.objs.size + 1) s.heap.objs.size 0 .none := by
    have := Heap.get?_push_size (s.heap.push o) (o := { cls := .type "enumerate", data := .fields #[.none, .bool false, .ref s.heap.objs.size, rawInt 0, .none, .none] }) rfl
    rw [hz] at this; exact this
  refine ⟨⟨_, he, rfl⟩, h _ he (Heap.get?_push_of_some _ (Heap.get?_push_size _ B.free)) (by rw [Heap.size_push, hz]) fun b o x => Heap.get?_push_of_some _ (Heap.get?_push_of_some _ x)⟩
section
variable {P : Program} {w : World} {K : PySem.W.Frag} {elts : List Expr} {kk : Nat} {tpos : Pos}
/-- a text, each sign in a new pair -/
def Ies (x : Str) : It := ⟨fun i _ => i < x.cps.size, fun i H v H' => ∃ T c, v = .ref T ∧ H T = none ∧ H' = upd H T (.tup [.int (i : Nat), .str ⟨#[c]⟩]) ∧ x.cps[i]? = some c, fun i _ => i = x.cps.size⟩
theorem turn_enumS (x : Str) (t : Tok) (e it : Addr) :
    Turn P w K (.Tuple elts kk tpos) (Ies x) [e, it] e (fun i h => (∃ old, IsEnum h e it ((i : Nat) : Int) old) ∧ h.IsStrIter it (strIterType x) x t i ∧ e ≠ it) where
  mem := by simp
  obj := fun i h st b hb => by
    obtain ⟨⟨old, he⟩, ⟨o, ho, hc, hd⟩, _⟩ := st
    have e' : b = e ∨ b = it := by simpa using hb
    rcases e' with z | z
    · rw [z]; exact ⟨_, he, fun v q => nomatch q⟩
    · rw [z]; exact ⟨o, ho, fun v q => by rw [hd] at q; cases q⟩
  keep := fun i h h' st k => let ⟨⟨old, he⟩, ⟨o, ho, r⟩, hne⟩ := st; ⟨⟨old, k e (by simp) _ he⟩, ⟨o, k it (by simp) o ho, r⟩, hne⟩
  item := by
    intro X hP hw hK hc i pins s σ H E I hf st hg
    subst hP hw hK
    obtain ⟨⟨old, he⟩, hit, hne⟩ := st
    have hel : e < s.heap.objs.size := Heap.lt_size he
    have hil : it < s.heap.objs.size := by obtain ⟨_, q, _⟩ := hit; exact Heap.lt_size q
    have D : Draws X.prog X.w X.A.in1 it [it] x.cps.size (fun i v => ∃ c u, x.cps[i]? = some c ∧ v = .str ⟨#[c]⟩ u) (fun i h => h.IsStrIter it (strIterType x) x t i) := Draws.text (A := X.A.in1) (I.ok.hd hc) it x t
    refine wpAny_pyNext_enum_itemD D he hit hg hne (fun z => hne (by simpa using z)) fun u h' tk hP ho hit' hT hsz hk => ?_
    obtain ⟨c, ut, hcx, rfl⟩ := hP
    refine ⟨_, rfl, wpAny_letOwnedTupleGo_enum (s := { s with heap := h', toks := tk + 1 }) ho fun h'' he' sb => ?_⟩
    have hT2 : h''.get? s.heap.objs.size = some { cls := .type "tuple", data := .seq #[.int i tk, .str ⟨#[c]⟩ ut] } := (sb.2 _ (Nat.ne_of_gt hel)).trans hT
    have new : ObjOk X.prog X.w (upd H s.heap.objs.size (.tup [.int (i : Nat), .str ⟨#[c]⟩])) h'' s.heap.objs.size (.tup [.int (i : Nat), .str ⟨#[c]⟩]) :=
      ⟨by show 2 ≤ sizeLine; decide, [.int i tk, .str ⟨#[c]⟩ ut], .cons ⟨_, rfl⟩ (.cons ⟨_, rfl⟩ .nil), ⟨_, hT2, rfl, _, rfl⟩⟩
    have I1 : Inv X pins σ (upd H s.heap.objs.size (.tup [.int (i : Nat), .str ⟨#[c]⟩])) { s with heap := h'', toks := tk + 1 } :=
      I.turnedNew (ch := [e, it]) (fun b ob hb q => (sb.2 b (fun z => hb (by simp [z]))).trans (hk b ob (fun z => hb (by simp [z])) (fun z => hb (by simp [z])) q)) hf (Nat.le_refl _) new
    refine ⟨.ref s.heap.objs.size, _, I1, rfl, ⟨_, c, rfl, I.hok.fresh (Nat.le_refl _), rfl, hcx⟩, ⟨⟨.str ⟨#[c]⟩ ut, ?_⟩, ?_, hne⟩, fun b hb => ?_⟩
    · have e1 : ((i + 1 : Nat) : Int) = (i : Int) + 1 := by omega
      rw [e1]; exact he'
    · obtain ⟨o, q, r⟩ := hit'
      exact ⟨o, (sb.2 it (Ne.symm hne)).trans q, r⟩
    · have hb' : b < s.heap.objs.size := by
        have e' : b = e ∨ b = it := by simpa using hb
        rcases e' with z | z
        · rw [z]; exact hel
        · rw [z]; exact hil
      rw [upd_ne (Nat.ne_of_lt hb')]
      exact (hf b hb).1
  done := by
    intro X hP hw hK hc i pins s σ H E I hf st hg
    subst hP hw hK
    obtain ⟨⟨old, he⟩, hit, hne⟩ := st
    have hg' : i = x.cps.size := hg
    subst hg'
    obtain ⟨f0, f1, f2, f3, f4, f5⟩ := hf it (by simp)
    have D : Draws X.prog X.w X.A.in1 it [it] x.cps.size (fun i v => ∃ c u, x.cps[i]? = some c ∧ v = .str ⟨#[c]⟩ u) (fun i h => h.IsStrIter it (strIterType x) x t i) := Draws.text (A := X.A.in1) (I.ok.hd hc) it x t
    exact wpAny_pyNext_enum_endD D he hit fun h' eb => ⟨rfl, I.turned (t' := s.toks) (fun b o hb q => eb b o hb q) f0 f1 f3 f4 f5⟩
  self := fun A i s Q E st h => let ⟨⟨_, he⟩, _⟩ := st; wpAny_pyIter_enum he h
def iEnumS (ta : TA) : TI := fun σ H R => ta σ H fun vs H1 => ∃ x, vs = [.str x] ∧ R (Ies x) H1
theorem pi_enumS {X : Cx} {e : Expr} {ta : TA} {p pos tpos : Pos} {elts : List Expr} {kk : Nat} (hg : Gl X "enumerate") (hm : X.mg "enumerate" = none) (ha : PA X [e] ta) (hs : starEach [e] X.env = [(false, eval e X.env)] := by rfl) :
    PI X (.Tuple elts kk tpos) (.Call (.Name "enumerate" p) [e] [] pos) (iEnumS ta) := by
  refine ⟨fun pins s σ H R I h => ?_⟩
  refine Call_ (ld_blt I hg hm boot_enumerate (PyProof.Rows.callWith_type1 (thn (ha.run pos pins s σ H _ I h) fun us s1 ⟨vs, H1, I1, r1, q1⟩ => ?_) hs rfl))
  obtain ⟨x, ex, q⟩ := q1
  subst ex
  cases r1 with
  | cons r rr =>
    cases rr
    obtain ⟨t, rfl⟩ := r
    refine enum1_begins (begins_text x t) True.intro fun h' he hit hsz hk => wpAny_pyIter_enum he ?_
    have I2 : Inv X pins σ H1 { s1 with heap := h' } := I1.kept (t' := s1.toks) hk
    refine ⟨s1.heap.objs.size + 1, [s1.heap.objs.size + 1, s1.heap.objs.size], _, _, H1, rfl, I2, turn_enumS x t (s1.heap.objs.size + 1) s1.heap.objs.size, ⟨⟨.none, he⟩, ⟨_, hit, rfl, rfl⟩, Nat.succ_ne_self _⟩, fun b hb => ?_, q⟩
    have e' : b = s1.heap.objs.size + 1 ∨ b = s1.heap.objs.size := by simpa using hb
    have hle : s1.heap.objs.size ≤ b := by
      rcases e' with z | z
      · rw [z]; exact Nat.le_add_right _ _
      · rw [z]; exact Nat.le_refl _
    exact I1.fpOk hle (I1.hok.fresh hle)
theorem walk_enumS {x : Str} : Walk (Ies x) x.cps.size (fun _ => True) (YPair (fun i => some (.int (i : Nat))) (fun i => x.cps[i]?.map fun c => .str ⟨#[c]⟩)) := by
  refine ⟨fun i _ hi _ => hi, fun _ _ => rfl, fun i H v H' _ q y => ?_⟩
  obtain ⟨T, c, h1, h2, h3, h4⟩ := y
  exact ⟨T, .int (i : Nat), .str ⟨#[c]⟩, h1, h2, h3, rfl, by simp [h4]⟩
/-- the tuple at a, each item in a new pair -/
def Iet (K : PySem.W.Frag) (a : Addr) : It :=
  ⟨fun i H => ∃ (xs : List V), SqT K H a xs ∧ i < xs.length, fun i H v H' => ∃ T x, v = .ref T ∧ H T = none ∧ H' = upd H T (.tup [.int (i : Nat), x]) ∧ ∀ xs, SqT K H a xs → xs[i]? = some x, fun i H => ∃ xs : List V, SqT K H a xs ∧ xs.length = i⟩
theorem turn_enumT (a e it : Addr) (hai : a ≠ it) (hae : a ≠ e) :
    Turn P w K (.Tuple elts kk tpos) (Iet K a) [e, it] e (fun i h => (∃ old, IsEnum h e it ((i : Nat) : Int) old) ∧ h.IsTupleIter it a i ∧ e ≠ it) where
  mem := by simp
  obj := fun i h st b hb => by
    obtain ⟨⟨old, he⟩, ⟨o, ho, hc, hd⟩, _⟩ := st
    have e' : b = e ∨ b = it := by simpa using hb
    rcases e' with z | z
    · rw [z]; exact ⟨_, he, fun v q => nomatch q⟩
    · rw [z]; exact ⟨o, ho, fun v q => by rw [hd] at q; cases q⟩
  keep := fun i h h' st k => let ⟨⟨old, he⟩, hi, hne⟩ := st; ⟨⟨old, k e (by simp) _ he⟩, hi.at fun o q => k it (by simp) o q, hne⟩
  item := by
    intro X hP hw hK hc i pins s σ H E I hf st hg
    subst hP hw hK
    obtain ⟨⟨old, he⟩, hit, hne⟩ := st
    obtain ⟨xs, hq, hx⟩ := hg
    obtain ⟨its, rv, p, hz⟩ := I.tuple hq
    have hel : e < s.heap.objs.size := Heap.lt_size he
    have hil : it < s.heap.objs.size := by obtain ⟨_, q, _⟩ := hit; exact Heap.lt_size q
    have D : Draws X.prog X.w X.A.in1 it [it, a] its.toArray.size (fun i v => its.toArray[i]? = some v) (fun i h => h.IsTupleIter it a i ∧ h.IsTuple a its.toArray) := Draws.tuple (A := X.A.in1) (I.ok.hd hc) it a hai its.toArray
    have hl := rv.length
    refine wpAny_pyNext_enum_itemD D he ⟨hit, p⟩ (by simp; omega) hne (fun z => (List.mem_cons.mp z).elim hne fun z => hae (List.mem_singleton.mp z).symm) fun u h' tk hP ho hit' hT hsz hk => ?_
    obtain ⟨x, hx1⟩ : ∃ x, xs[i]? = some x := ⟨xs[i], by simp [hx]⟩
    obtain ⟨u', hu', ru'⟩ := rv.get hx1
    have eu : u = u' := by
      have h2 : its[i]? = some u := by simpa using hP
      exact Option.some.inj (h2.symm.trans hu')
    subst eu
    refine ⟨_, rfl, wpAny_letOwnedTupleGo_enum (s := { s with heap := h', toks := tk + 1 }) ho fun h'' he' sb => ?_⟩
    have hT2 : h''.get? s.heap.objs.size = some { cls := .type "tuple", data := .seq #[.int i tk, u] } := (sb.2 _ (Nat.ne_of_gt hel)).trans hT
    have new : ObjOk X.prog X.w (upd H s.heap.objs.size (.tup [.int (i : Nat), x])) h'' s.heap.objs.size (.tup [.int (i : Nat), x]) :=
      ⟨by show 2 ≤ sizeLine; decide, [.int i tk, u], .cons ⟨_, rfl⟩ (.cons ru' .nil), ⟨_, hT2, rfl, _, rfl⟩⟩
    have I1 : Inv X pins σ (upd H s.heap.objs.size (.tup [.int (i : Nat), x])) { s with heap := h'', toks := tk + 1 } :=
      I.turnedNew (ch := [e, it]) (fun b ob hb q => (sb.2 b (fun z => hb (by simp [z]))).trans (hk b ob (fun z => hb (by simp [z])) (fun z => hb (by simp [z])) q)) hf (Nat.le_refl _) new
    refine ⟨.ref s.heap.objs.size, _, I1, rfl, ⟨_, x, rfl, I.hok.fresh (Nat.le_refl _), rfl, fun ys hy => by rw [I.tuple_inj hy hq]; exact hx1⟩, ⟨⟨u, ?_⟩, hit'.1.at fun o q => (sb.2 it (Ne.symm hne)).trans q, hne⟩, fun b hb => ?_⟩
    · have e1 : ((i + 1 : Nat) : Int) = (i : Int) + 1 := by omega
      rw [e1]; exact he'
    · have hb' : b < s.heap.objs.size := by
        have e' : b = e ∨ b = it := by simpa using hb
        rcases e' with z | z
        · rw [z]; exact hel
        · rw [z]; exact hil
      rw [upd_ne (Nat.ne_of_lt hb')]
      exact (hf b hb).1
  done := by
    intro X hP hw hK hc i pins s σ H E I hf st hg
    subst hP hw hK
    obtain ⟨⟨old, he⟩, hit, hne⟩ := st
    obtain ⟨xs, hq, hx⟩ := hg
    obtain ⟨its, rv, p, hz⟩ := I.tuple hq
    have hl := rv.length
    obtain ⟨f0, f1, f2, f3, f4, f5⟩ := hf it (by simp)
    have D : Draws X.prog X.w X.A.in1 it [it, a] its.toArray.size (fun i v => its.toArray[i]? = some v) (fun i h => h.IsTupleIter it a i ∧ h.IsTuple a its.toArray) := Draws.tuple (A := X.A.in1) (I.ok.hd hc) it a hai its.toArray
    have ei : its.toArray.size = i := by simp; omega
    exact wpAny_pyNext_enum_endD D he ⟨by rw [ei]; exact hit, p⟩ fun h' eb => ⟨rfl, I.turned (t' := s.toks) (fun b o hb q => eb b o hb q) f0 f1 f3 f4 f5⟩
  self := fun A i s Q E st h => let ⟨⟨_, he⟩, _⟩ := st; wpAny_pyIter_enum he h
def iEnumT (K : PySem.W.Frag) (ta : TA) : TI := fun σ H R => ta σ H fun vs H1 => ∃ a xs, vs = [.ref a] ∧ SqT K H1 a xs ∧ R (Iet K a) H1
theorem pi_enumT {X : Cx} {e : Expr} {ta : TA} {p pos tpos : Pos} {elts : List Expr} {kk : Nat} (hg : Gl X "enumerate") (hm : X.mg "enumerate" = none) (ha : PA X [e] ta) (hs : starEach [e] X.env = [(false, eval e X.env)] := by rfl) :
    PI X (.Tuple elts kk tpos) (.Call (.Name "enumerate" p) [e] [] pos) (iEnumT X.K ta) := by
  refine ⟨fun pins s σ H R I h => ?_⟩
  refine Call_ (ld_blt I hg hm boot_enumerate (PyProof.Rows.callWith_type1 (thn (ha.run pos pins s σ H _ I h) fun us s1 ⟨vs, H1, I1, r1, q1⟩ => ?_) hs rfl))
  obtain ⟨a, xs, ex, hq, q⟩ := q1
  subst ex
  cases r1 with
  | cons r rr =>
    cases rr
    cases r
    obtain ⟨its, rv, p', hz⟩ := I1.tuple hq
    refine enum1_begins (begins_tuple a its.toArray) p' fun h' he hit hsz hk => wpAny_pyIter_enum he ?_
    have I2 : Inv X pins σ H1 { s1 with heap := h' } := I1.kept (t' := s1.toks) hk
    have hal : a < s1.heap.objs.size := by obtain ⟨o, q, _⟩ := p'; exact Heap.lt_size q
    refine ⟨s1.heap.objs.size + 1, [s1.heap.objs.size + 1, s1.heap.objs.size], _, _, H1, rfl, I2, turn_enumT a (s1.heap.objs.size + 1) s1.heap.objs.size (Nat.ne_of_lt hal) (Nat.ne_of_lt (Nat.lt_succ_of_lt hal)), ⟨⟨.none, he⟩, ⟨_, hit, rfl, rfl⟩, Nat.succ_ne_self _⟩, fun b hb => ?_, q⟩
    have e' : b = s1.heap.objs.size + 1 ∨ b = s1.heap.objs.size := by simpa using hb
    have hle : s1.heap.objs.size ≤ b := by
      rcases e' with z | z
      · rw [z]; exact Nat.le_add_right _ _
      · rw [z]; exact Nat.le_refl _
    exact I1.fpOk hle (I1.hok.fresh hle)
theorem walk_enumT {K : PySem.W.Frag} {a : Addr} {xs : List V} : Walk (Iet K a) xs.length (fun H => SqT K H a xs) (YPair (fun i => some (.int (i : Nat))) (fun i => xs[i]?)) := by
  refine ⟨fun i _ hi q => ⟨xs, q, hi⟩, fun _ q => ⟨xs, q, rfl⟩, fun i H v H' _ q y => ?_⟩
  obtain ⟨T, x, h1, h2, h3, h4⟩ := y
  exact ⟨T, .int (i : Nat), x, h1, h2, h3, rfl, h4 xs q⟩
end
end TB
set_option maxHeartbeats 4000000
namespace TB
open PySem PySem.Spec PyProof.Rows L2
section
variable {P : Program} {w : World} {K : PySem.W.Frag} {mg : Str → Option Value} {base : Heap}
/-! ### is_integer, in_range, check_number, check_length, check_bound -/
def spIsInt : Sp := fun vs H Q _ => ∃ i : Int, vs = [.int i] ∧ Q (.bl true) H
theorem sc_is_integer : FnScope ["value"] ["value"] (defScope s_is_integer) := ⟨rfl, rfl, rfl, by decide +kernel, rfl, by decide +kernel, by decide +kernel⟩
theorem cal_is_integer (T : Tx K mg base) : Cal P w K mg base 1 "is_integer" ["value"] spIsInt := by
  refine cal_of (i := 0) (j := 0) T d_is_integer rfl rfl rfl rfl rfl (fun _ _ _ _ _ _ us hl => match us, hl with | [_], _ => rfl) fun f fd F => ?_
  refine F.ok sc_is_integer (fun vs H Q E h => ?_) (fun cdv A outer s H vs Q E hr h => ?_)
  · obtain ⟨i, rfl, _⟩ := h
    rfl
  · obtain ⟨i, rfl, k⟩ := h
    refine ⟨_, PSs.nox (pss_one (ps_ret (pe_and (pe_callB call_isi (by rfl) T.isinstance (by decide +kernel) (pa_cons (pv 0) (pa_cons (pe_bltn (v := .ty "int") (by rfl) T.int (by decide +kernel) rfl) pa_nil)))
      (pe_one (pe_not (pe_callB call_isi (by rfl) T.isinstance (by decide +kernel) (pa_cons (pv 0) (pa_cons (pe_bltn (v := .ty "bool") (by rfl) T.bool (by decide +kernel) rfl) pa_nil)))))))), ?_⟩
    refine ⟨_, rfl, _, _, _, _, true, rfl, .ty "int", .base (.int i), kit_ty (by decide +kernel), true, rfl, ?_⟩
    exact ⟨_, rfl, _, _, _, _, false, rfl, .ty "bool", .base (.int i), kit_ty (by decide +kernel), false, rfl, k⟩
def spInRange : Sp := fun vs H Q _ => ∃ i lo hi : Int, vs = [.int i, .int lo, .int hi] ∧ lo ≤ i ∧ i ≤ hi ∧ Q (.bl true) H
theorem sc_in_range : FnScope ["value", "least", "most"] ["value", "least", "most"] (defScope s_in_range) := ⟨rfl, rfl, rfl, by decide +kernel, rfl, by decide +kernel, by decide +kernel⟩
theorem cal_in_range (T : Tx K mg base) : Cal P w K mg base 2 "in_range" ["value", "least", "most"] spInRange := by
  refine cal_of (i := 1) (j := 1) T d_in_range rfl rfl rfl rfl rfl (fun _ _ _ _ _ _ us hl => match us, hl with | [_, _, _], _ => rfl) fun f fd F => ?_
  refine F.ok sc_in_range (fun vs H Q E h => ?_) (fun cdv A outer s H vs Q E hr h => ?_)
  · obtain ⟨i, lo, hi, rfl, _⟩ := h
    rfl
  · obtain ⟨i, lo, hi, rfl, h1, h2, k⟩ := h
    refine ⟨_, PSs.nox (pss_one (ps_ret (pe_and (pe_cal (cal_is_integer T) hr (by rfl) (pa_cons (pv 0) pa_nil)) (pe_one (pe_chain op_le op_le (pv 1) (pv 0) (pv 2)))))), ?_⟩
    refine ⟨_, rfl, i, rfl, true, rfl, ?_⟩
    have d1 : decide (lo ≤ i) = true := decide_eq_true h1
    have d2 : decide (i ≤ hi) = true := decide_eq_true h2
    refine ⟨_, rfl, _, rfl, _, _, rfl, rfl, _, rfl, ?_⟩
    rw [d1]
    refine ⟨_, rfl, _, _, rfl, rfl, ?_⟩
    show Q (.bl (decide (i ≤ hi))) H
    rw [d2]
    exact k
def spCheckNumber : Sp := fun vs H Q _ => ∃ i lo hi : Int, vs = [.int i, .int lo, .int hi] ∧ lo ≤ i ∧ i ≤ hi ∧ Q .non H
theorem sc_check_number : FnScope ["value", "least", "most"] ["value", "least", "most"] (defScope s_check_number) := ⟨rfl, rfl, rfl, by decide +kernel, rfl, by decide +kernel, by decide +kernel⟩
theorem cal_check_number (T : Tx K mg base) : Cal P w K mg base 3 "check_number" ["value", "least", "most"] spCheckNumber := by
  refine cal_of (i := 2) (j := 2) T d_check_number rfl rfl rfl rfl rfl (fun _ _ _ _ _ _ us hl => match us, hl with | [_, _, _], _ => rfl) fun f fd F => ?_
  refine F.ok sc_check_number (fun vs H Q E h => ?_) (fun cdv A outer s H vs Q E hr h => ?_)
  · obtain ⟨i, lo, hi, rfl, _⟩ := h
    rfl
  · obtain ⟨i, lo, hi, rfl, h1, h2, k⟩ := h
    refine ⟨_, PSs.nox (pss_one (ps_if (pt_not (pt_val (pe_cal (cal_in_range T) hr (by rfl) (pa_cons (pv 0) (pa_cons (pv 1) (pa_cons (pv 2) pa_nil)))))) (pss_one ps_never) pss_nil)), ?_⟩
    exact ⟨_, rfl, _, rfl, _, rfl, i, lo, hi, rfl, h1, h2, true, rfl, k⟩
def spCheckLength : Sp := fun vs H Q _ => ∃ i : Int, vs = [.int i] ∧ i ≤ 2000 ∧ Q .non H
theorem sc_check_length : FnScope ["length"] ["length"] (defScope s_check_length) := ⟨rfl, rfl, rfl, by decide +kernel, rfl, by decide +kernel, by decide +kernel⟩
theorem cal_check_length (T : Tx K mg base) : Cal P w K mg base 1 "check_length" ["length"] spCheckLength := by
  refine cal_of (i := 3) (j := 3) T d_check_length rfl rfl rfl rfl rfl (fun _ _ _ _ _ _ us hl => match us, hl with | [_], _ => rfl) fun f fd F => ?_
  refine F.ok sc_check_length (fun vs H Q E h => ?_) (fun cdv A outer s H vs Q E hr h => ?_)
  · obtain ⟨i, rfl, _⟩ := h
    rfl
  · obtain ⟨i, rfl, h1, k⟩ := h
    refine ⟨_, PSs.nox (pss_one (ps_if (pt_cmpR op_gt (pv 0) (C8.pe_gc (by rfl) T.maxTurns) (nomark _)) (pss_one ps_never) pss_nil)), ?_⟩
    refine ⟨_, rfl, _, _, rfl, rfl, _, rfl, ?_⟩
    have d1 : decide (i > 2000) = false := decide_eq_false (by omega)
    rw [d1]
    exact k
def spCheckBound : Sp := fun vs H Q _ => ∃ i : Int, vs = [.int i] ∧ 0 ≤ i ∧ Q .non H
theorem sc_check_bound : FnScope ["bound"] ["bound"] (defScope s_check_bound) := ⟨rfl, rfl, rfl, by decide +kernel, rfl, by decide +kernel, by decide +kernel⟩
theorem cal_check_bound (T : Tx K mg base) : Cal P w K mg base 2 "check_bound" ["bound"] spCheckBound := by
  refine cal_of (i := 25) (j := 18) T d_check_bound rfl rfl rfl rfl rfl (fun _ _ _ _ _ _ us hl => match us, hl with | [_], _ => rfl) fun f fd F => ?_
  refine F.ok sc_check_bound (fun vs H Q E h => ?_) (fun cdv A outer s H vs Q E hr h => ?_)
  · obtain ⟨i, rfl, _⟩ := h
    rfl
  · obtain ⟨i, rfl, h1, k⟩ := h
    refine ⟨_, PSs.nox (pss_one (ps_if (PW.pt (pw_or (pt_not (pt_val (pe_cal (cal_is_integer T) hr (by rfl) (pa_cons (pv 0) pa_nil)))) (pw_or1 (pt_cmpR op_lt (pv 0) pe_int (nomark _))))) (pss_one ps_never) pss_nil)), ?_⟩
    refine ⟨_, rfl, i, rfl, true, rfl, ?_⟩
    refine ⟨_, rfl, _, _, rfl, rfl, _, rfl, ?_⟩
    have d1 : decide (i < 0) = false := decide_eq_false (by omega)
    rw [d1]
    exact k
/-! ### check_turns, letters_of, players, text, __len__ -/
end
end TB
set_option maxHeartbeats 4000000
/-! any of numbers, max, sorted, list, [::-1] of a text, len of an own instance -/
namespace TB
open PySem PySem.Spec PyProof.Rows L2
section
variable {X : Cx}
theorem truth_ints {prog : Program} {w : World} {A : Around} {ns : List Int} {its : List Value} (e : IntsAre its ns) :
    TruthOf prog w A (fun i v => its.toArray[i]? = some v) (fun i => ns.getD i 0 != 0) := fun i v s Q E hv hq => by
  obtain ⟨xs, ex⟩ := e.allInts.items
  have hn : numsOf (intItems xs).toList = ns := by rw [← ex]; exact e.numsOf
  rw [nums_intItems] at hn
  rw [ex] at hv
  obtain ⟨p, hp, rfl⟩ : ∃ p, xs[i]? = some p ∧ v = Value.int p.1 p.2 := by
    simp only [intItems, Array.getElem?_map, Option.map_eq_some_iff] at hv
    obtain ⟨p, hp, rfl⟩ := hv
    exact ⟨p, hp, rfl⟩
  have hg : ns.getD i 0 = p.1 := by
    subst hn
    rw [List.getD_eq_getElem?_getD, List.getElem?_map, Array.getElem?_toList, hp]
    rfl
  have hq' : Q (ns.getD i 0 != 0) s := hq
  rw [hg] at hq'
  exact PySem.P.truthy_int hq'
theorem any_rangeI : ∀ ns : List Int, (List.range ns.length).any (fun i => ns.getD i 0 != 0) = ns.any fun x => x != 0
  | [] => rfl
  | b :: bs => by
    rw [List.length_cons, List.range_succ_eq_map, List.any_cons, List.any_map, List.any_cons, ← any_rangeI bs]
    all_goals rfl
theorem cr_anyI (hc : X.calm = true) : CallR X (.builtin "any") (fun xs H Q => ∃ (a : Addr) (ns : List Int), xs = [V.ref a] ∧ SqL X.K H a (ns.map V.int) ∧ Q (.bl (ns.any fun x => x != 0)) H) := by
  intro pins s σ H vs us Q I r h
  obtain ⟨a, ns, rfl, hs, q⟩ := h
  obtain ⟨its, rv, hl, _⟩ := I.list hs
  rw [Vals.ref1 r]
  have hb := rv.ints
  have el : its.length = ns.length := by
    have z := rv.length
    rw [List.length_map] at z
    exact z.symm
  refine call_any_walk (iter_any hl.isList fun s₂ e2 st hne => ?_)
  subst e2
  refine ⟨_, _, _, _, _, _, _, rfl, Walks.list (A := X.A.in1) (I.ok.hd hc) _ a hne its.toArray, st, truth_ints hb, fun h' tk hk => ?_⟩
  refine ⟨.bl _, H, I.kept fun b o eo => hk b o (fun hmem => ?_) (Heap.get?_push_of_some _ eo), ?_, q⟩
  · rcases List.mem_cons.mp hmem with e1 | hmem
    · exact absurd (e1 ▸ Heap.lt_size eo) (Nat.lt_irrefl _)
    · cases hmem
  · show Value.bool _ = Value.bool _
    rw [List.size_toArray, el, any_rangeI]
/-- max(text), not empty: one of its signs -/
theorem cr_maxS (hc : X.calm = true) : CallR X (.builtin "max") (fun xs H Q => ∃ z : Str, xs = [V.str z] ∧ 0 < z.cps.size ∧ ∀ c, c ∈ z.cps.toList → Q (.str ⟨#[c]⟩) H) := by
  intro pins s σ H vs us Q I r h
  obtain ⟨z, rfl, hne, q⟩ := h
  obtain ⟨u, eu, rx⟩ := vals1 r
  subst eu
  obtain ⟨t, rfl⟩ := rx
  have hcmp : CmpOf X.prog X.w X.A.in1 .Gt (SignAt z) (fun i j => decide ((⟨#[z.cps.getD j 0]⟩ : Str).cps.toList < (⟨#[z.cps.getD i 0]⟩ : Str).cps.toList)) := fun i j vi vj s' Q' E' hi hj h' => by
    obtain ⟨c, ti, hci, rfl⟩ := hi
    obtain ⟨d, tj, hdj, rfl⟩ := hj
    have e1 : z.cps.getD i 0 = c := by simp [Array.getD_eq_getD_getElem?, hci]
    have e2 : z.cps.getD j 0 = d := by simp [Array.getD_eq_getD_getElem?, hdj]
    have h2 : Q' (.bool (decide ((⟨#[z.cps.getD j 0]⟩ : Str).cps.toList < (⟨#[z.cps.getD i 0]⟩ : Str).cps.toList))) s' := h'
    rw [e1, e2] at h2
    exact richCompare_gives (op := .Gt) (typeIs_str s' _ ti) (typeIs_str s' _ tj) PySem.F.slot_str_gt PySem.F.entry_str_gt (PySem.F.args_str_gt_2 _ _) (gives_str_gt _ _ ti tj) (fun x => nomatch x) h2
  refine call_max_walk (wpAny_pyIter_str fun o St W hst => ?_)
  refine ⟨_, _, _, _, _, St, _, rfl, W X.A.in1 (I.ok.hd hc), hst, fun b hb => ?_, hne, hcmp, fun v h' tk hP hk => ?_⟩
  · have e : b = s.heap.objs.size := by simpa using hb
    subst e
    show s.heap.objs.size < (s.heap.push o).objs.size
    rw [Heap.size_push]
    exact Nat.lt_succ_self _
  · obtain ⟨c, u, hcx, rfl⟩ := hP
    refine ⟨.str ⟨#[c]⟩, H, I.kept fun b o eo => hk b o (fun hmem => ?_) (Heap.get?_push_of_some _ eo), ⟨u, rfl⟩, q c ?_⟩
    · have e1 : b = s.heap.objs.size := by simpa using hmem
      exact absurd (e1 ▸ Heap.lt_size eo) (Nat.lt_irrefl _)
    · rw [← Array.getElem?_toList] at hcx
      exact List.mem_of_getElem? hcx
/-- the signs of a text, one by one -/
def signsOf (z : Str) : List Str := z.cps.toList.map fun c => ⟨#[c]⟩
theorem strs_signs {z : Str} {acc : Array Value} (h : ItemsOf (SignAt z) acc z.cps.size) : StrsAre acc.toList (signsOf z) := by
  refine strs_at (by rw [Array.length_toList, h.1, signsOf, List.length_map, Array.length_toList]) fun j v e => ?_
  obtain ⟨c, u, hcx, rfl⟩ := h.2 j v (by rw [← Array.getElem?_toList]; exact e)
  refine ⟨⟨#[c]⟩, u, ?_, rfl⟩
  rw [signsOf, List.getElem?_map, Array.getElem?_toList, hcx]
  rfl
theorem cr_listT (hc : X.calm = true) : CallR X (.type "list") (fun xs H Q => ∃ z : Str, xs = [V.str z] ∧ z.length ≤ sizeLine ∧ ∀ p, H p = none → Q (.ref p) (upd H p (.lst ((signsOf z).map V.str)))) := by
  intro pins s σ H vs us Q I r h
  obtain ⟨z, rfl, hz, q⟩ := h
  obtain ⟨u, eu, rx⟩ := vals1 r
  subst eu
  obtain ⟨t, rfl⟩ := rx
  have hz' : z.cps.size ≤ sizeLine := hz
  refine call_list_str (I.ok.hd hc) z t (fun h' tk acc' c' hk hS hacc => ?_) hz'
  refine ⟨.ref s.heap.objs.size, upd H s.heap.objs.size (.lst ((signsOf z).map V.str)), I.laid hk (Nat.le_refl _) (show ObjOk X.prog X.w _ _ _ (.lst ((signsOf z).map V.str)) from ⟨?_, acc'.toList, c', vals_of_strs (strs_signs hacc), ?_⟩), rfl, q _ (I.hok.fresh (Nat.le_refl _))⟩
  · rw [List.length_map, signsOf, List.length_map, Array.length_toList]
    exact hz'
  · exact hS
/-- sorted(text) of fewer than 64 signs -/
theorem cr_sortedT (hcalm : X.calm = true) : CallR X (.builtin "sorted") (fun xs H Q => ∃ z : Str, xs = [V.str z] ∧ z.cps.size < 64 ∧
    ∀ ys p, ys.Perm (signsOf z) → sortedS ys = true → H p = none → Q (.ref p) (upd H p (.lst (ys.map V.str)))) := by
  intro pins s σ H xs us Q I r q
  obtain ⟨z, ex, h64, q⟩ := q
  subst ex
  obtain ⟨u, eu, rx⟩ := vals1 r
  subst eu
  obtain ⟨t, rfl⟩ := rx
  have h16 : z.cps.size ≤ sizeLine := by rw [sizeLine_eq]; omega
  refine Calls.call_function_entry PyProof.Rows.kind_sorted PyProof.Rows.plain_sorted PyProof.Rows.entry_sorted (PyProof.Rows.args_sorted1 _) ?_
  unfold Builtin.«sorted»
  refine wpAny_bind (m := checkCount "sorted" 1 1 _) (wpAny_pure ?_)
  refine wpAny_bind (wpAny_collect_str (A := X.A.in1) (I.ok.hd hcalm) z t (fun s' acc hk e1 e2 e3 hacc => ?_) h16)
  obtain ⟨h', g', d', tk, os'⟩ := s'
  replace hk : ∀ b o, s.heap.get? b = some o → h'.get? b = some o := hk
  obtain rfl : g' = s.gens := e1
  obtain rfl : d' = s.drawn := e2
  obtain rfl : os' = s.os := e3
  have hS := strs_signs hacc
  have hal : acc.toList.length = z.cps.size := by rw [Array.length_toList, hacc.1]
  have I1 : Inv X pins σ H { s with heap := h', toks := tk } := I.kept hk
  refine wpAny_bind (wpAny_newList ?_ (by rw [hal, sizeLine_eq]; omega))
  have hoL : (h'.push (seqObj "list" acc.toList.toArray 0)).get? h'.objs.size = some (seqObj "list" acc.toList.toArray 0) := Heap.get?_push_size _ rfl
  show wpAny _ _ _ _ _ { s with heap := h'.push (seqObj "list" acc.toList.toArray 0), toks := tk }
  refine wpAny_bind (wpAny_holding (wpAny_call_entry PyProof.Rows.slot_list_sort ⟨_, hoL, rfl⟩ PyProof.Rows.entry_list_sort
    (list_sort_treeK strKind_oneLt (s := { s with heap := h'.push (seqObj "list" acc.toList.toArray 0), toks := tk }) hoL hS.keysOf (fun v₁ v₂ rest e => keyKind_strs (by rw [← e]; exact hS)) (by rw [hal]; exact h64) fun st' hp hs => ⟨_, rfl, ?_⟩)
    (PyProof.Rows.args_list_sort _)))
  obtain ⟨ys, g1, g2, g3⟩ := sorted_out_str hS hp hs
  obtain ⟨e', he'⟩ := PyProof.Rows.sortedHeap_at (vs := acc.toList) (out := (arrOf st').map (·.2)) hoL
  have hlen : (ys.map V.str).length ≤ sizeLine := by
    rw [List.length_map, g2.length_eq, signsOf, List.length_map, Array.length_toList]
    exact h16
  refine wpAny_pure ⟨_, rfl, .ref h'.objs.size, upd H h'.objs.size (.lst (ys.map V.str)), I1.laid (t' := tk) (fun b u e => ?_) (Nat.le_refl _)
    (show ObjOk X.prog X.w _ _ _ (.lst (ys.map V.str)) from ⟨hlen, ((arrOf st').map (·.2)).toList, e', vals_of_strs g1, by rw [Array.toArray_toList]; exact he'⟩), rfl, q ys _ g2 g3 (I1.hok.fresh (Nat.le_refl _))⟩
  have hb : b < h'.objs.size := Heap.lt_size e
  rw [PyProof.Rows.sortedHeap_old (Nat.ne_of_lt hb) (by rw [size_push']; exact Nat.lt_succ_of_lt hb)]
  exact Heap.get?_push_of_some _ e
/-! ### text[::-1] -/
theorem picked_rev (z : Str) : (slicePicked z none none (some ((-1 : Int), (0 : Tok)))).filterMap (z.cps[·]?) = z.cps.toList.reverse := by
  have e : slicePicked z none none (some ((-1 : Int), (0 : Tok))) = sliceRange ((z.cps.size : Int) - 1) (-1) (-1) := rfl
  rw [e, PySem.W.krv_sliceRange, PySem.W.krv_range, List.filterMap_reverse, PySem.W.krv_all]
def tRevS (te : TE) : TE := fun σ H Q => te σ H fun x H1 => ∃ z, x = .str z ∧ z.length ≤ sizeLine ∧ Q (.str ⟨z.cps.toList.reverse.toArray⟩) H1
theorem pe_revS {e : Expr} {te : TE} {k : Nat} {p1 p2 p3 pos : Pos} (he : PE X e te) : PE X (.Subscript e (.Slice none none (some (.UnaryOp .USub (.Constant (.int 1) k p1) p2)) p3) pos) (tRevS te) := by
  refine ⟨fun pins s σ H Q I h => ?_⟩
  refine Subscript_ (thn (he.run pins s σ H _ I h) fun v s1 ⟨x, H1, I1, r1, q1⟩ => ?_)
  obtain ⟨z, ex, hz, q⟩ := q1
  subst ex
  obtain ⟨t, rfl⟩ := r1
  have hst : PO X (some (.UnaryOp .USub (.Constant (.int 1) k p1) p2)) (tPart (tUn (rU fun i => .int (-i)) (tC (.int 1)))) := po_some (pe_un un_neg pe_int)
  refine wpAny_Slice (thn (po_none.run pins s1 σ H1 (fun o H2 => o = none ∧ H2 = H1) I1 ⟨rfl, rfl⟩) fun vl s2 ⟨l, H2, I2, pl, el, e2⟩ => ?_)
  subst el e2
  refine thn (po_none.run pins s2 σ H2 (fun o H3 => o = none ∧ H3 = H2) I2 ⟨rfl, rfl⟩) fun vu s3 ⟨u, H3, I3, pu, eu, e3⟩ => ?_
  subst eu e3
  refine thn (hst.run pins s3 σ H3 (fun o H4 => o = some (-1) ∧ H4 = H3) I3 ⟨1, rfl, -1, rfl, rfl, rfl⟩) fun vs s4 ⟨o, H4, I4, ps, eo, e4⟩ => ?_
  subst eo e4
  have I5 : Inv X pins σ H4 { s4 with heap := s4.heap.push { cls := .type "slice", data := .fields #[vl, vu, vs] } } := I4.kept (t' := s4.toks) fun b ob q => Heap.get?_push_of_some _ q
  obtain ⟨l, hl1, hl2⟩ := IsPart.raw pl
  obtain ⟨u, hu1, hu2⟩ := IsPart.raw pu
  obtain ⟨st, hs1, hs2⟩ := IsPart.raw ps
  have el : l = none := by cases l with | none => rfl | some y => cases hl2
  have eu : u = none := by cases u with | none => rfl | some y => cases hu2
  subst el eu
  obtain ⟨tk, est⟩ : ∃ tk : Tok, st = some ((-1 : Int), tk) := by
    cases st with
    | none => cases hs2
    | some y =>
      have e5 : y.1 = (-1 : Int) := Option.some.inj hs2
      exact ⟨y.2, by rw [← e5]⟩
  subst est
  show wpAny (model X.prog X.w) X.A (subscriptTail e (.Slice none none (some (.UnaryOp .USub (.Constant (.int 1) k p1) p2)) p3) (.str z t) (.ref s4.heap.objs.size)) (EP X pins σ Q) X.xe { s4 with heap := s4.heap.push { cls := .type "slice", data := .fields #[vl, vu, vs] } }
  refine tail_any (ops := [.ref s4.heap.objs.size, .str z t]) (typeIs_str _ z t) (PySem.F.slot_str_getitem.lookup) ?_ (by with_unfolding_all rfl)
  refine wpAny_getItem_str_slice (l := none) (u := none) (st := some ((-1 : Int), tk)) ?_ rfl ?_
  · subst hl1 hu1 hs1
    exact ⟨_, Heap.get?_push_size _ rfl, rfl, rfl⟩
  · have hp : (slicePicked z none none (some ((-1 : Int), tk))).filterMap (z.cps[·]?) = z.cps.toList.reverse := picked_rev z
    show Made.post (if ((-1 : Int) == 1 && (slicePicked z none none (some ((-1 : Int), tk))).length == z.length) = true then Made.val (.str z t) else Made.str ⟨((slicePicked z none none (some ((-1 : Int), tk))).filterMap (z.cps[·]?)).toArray⟩) _ _
    rw [if_neg (by simp), hp]
    refine ⟨?_, .str _, H4, I5.tok _, ⟨_, rfl⟩, q⟩
    show z.cps.toList.reverse.toArray.size ≤ sizeLine
    rw [List.size_toArray, List.length_reverse, Array.length_toList]
    exact hz
/-! ### len(o) of an own class with __len__ -/
structure LenOf (K : PySem.W.Frag) (C f : Addr) : Prop where
  at_ : PySem.W.findIn K (.ref C) "__len__" = some (some (.ref f))
  fn : PySem.W.isFn K (.ref f) = true
theorem cr_lenO {k : Nat} {C f : Addr} {fd : FuncData} {ps : List Str} {sp : Sp} (L : LenOf X.K C f) (F : FnOk X.prog X.w X.K X.mg X.base CX0 k f fd ps sp) (hr : Room (k + 1) X.A) (hb : Binds X.K fd ps []) :
    CallR X (.builtin "len") (fun xs H Q => ∃ a dx fs, xs = [V.ref a] ∧ H a = some (.ins C dx fs) ∧ sp [.ref a] H (fun v H' => ∃ n : Int, v = .int n ∧ 0 ≤ n ∧ n < 2 ^ 63 ∧ Q (.int n) H') E0) := by
  intro pins s σ H xs us Q I r h
  obtain ⟨a, dx, fs, rfl, ea, h⟩ := h
  rw [Vals.ref1 r]
  obtain ⟨mA, O, _, _, _, _⟩ := ins_get I.hok ea
  obtain ⟨od, J, _⟩ := O.look
  refine Calls.call_function_entry kind_len plain_len entry_len (args_len1 _) ?_
  unfold Builtin.«len»
  refine wpAny_bind (m := oneArg "len" _) (wpAny_pure ?_)
  refine wpAny_bind (m := callSpecial? (.ref a) (Str.ofString "__len__")) (PySem.W.special_fn I.kIn J L.at_ (beq_iff_eq.mp L.fn) (wpAny_call ?_))
  have hl : ([Value.ref a] : List Value).length = ps.length := by
    rw [← F.len _ _ _ _ h]
    rfl
  have hb' := hb s [.ref a] I.kIn (by simpa using hl)
  refine codeAny_mono (F.run X.A.in1 X.stack s H ⟨[.ref a], []⟩ [.ref a] [.ref a] _ E0 hr.in1 I.env0.in1 (by simpa using hb') (.cons rfl .nil) h) fun r s' hq => ?_
  cases r with
  | error er => exact pass0 pins σ H s er s' I hq
  | ok fl =>
    cases fl with
    | ret u =>
      obtain ⟨v, H', I3, rv, n, ev, h0, h1, q3⟩ := I.after hq
      subst ev
      obtain ⟨t, rfl⟩ := rv
      refine wpAny_bind (wpAny_holding (wpAny_pure ?_))
      refine wpAny_bind (wpAny_letGo ?_)
      show wpAny _ _ (if n < 0 then _ else _) _ _ _
      rw [if_neg (by omega)]
      show wpAny _ _ (if n ≥ 2 ^ 63 then _ else _) _ _ _
      rw [if_neg (by omega)]
      exact wpAny_bind (wpAny_mkInt (wpAny_pure ⟨_, rfl, .int n, H', I3.tok _, ⟨_, rfl⟩, q3⟩))
    | next => exact False.elim hq
    | brk => exact False.elim hq
    | cont => exact False.elim hq
end
end TB
set_option maxHeartbeats 4000000
namespace TB
open PySem PySem.Spec PyProof.Rows L2
section
variable {P : Program} {w : World} {K : PySem.W.Frag} {mg : Str → Option Value} {base : Heap}
theorem Tx.tOk (T : Tx K mg base) : turnsOk K = true := congrArg (fun z : SeenT => z.2.1) T.seen
theorem Tx.gets (T : Tx K mg base) : theGets.map (fun g => seenFn K (getterAt K "Turns" g.1)) = theGets.map fun g => g.2.val := congrArg (fun z : SeenT => z.2.2) T.seen
theorem getter_prop {f qual : Str} (h : getterOk K "Turns" f qual = true) : PropOf K (CT K) f (propAt K "Turns" f) (getterAt K "Turns" f) := by
  unfold getterOk at h
  obtain ⟨h12, h3⟩ := He.ba h
  obtain ⟨h1, h2⟩ := He.ba h12
  obtain ⟨a1, a2⟩ := He.ba h1
  obtain ⟨b1, b2⟩ := He.ba h2
  refine ⟨He.eqO_ok a1, He.eqO_ok a2, of_decide_eq_true b1, ?_⟩
  unfold getterAt
  cases e : PySem.W.recIn K (propAt K "Turns" f) "property" with
  | none =>
    rw [e] at b2
    cases b2
  | some l =>
    rw [e] at b2
    cases l with
    | nil => cases b2
    | cons v r =>
      cases v with
      | ref g => exact ⟨r, rfl⟩
      | _ => cases b2
theorem getter_fun {f qual : Str} {d : He.DefD} (h : getterOk K "Turns" f qual = true) (e : seenFn K (getterAt K "Turns" f) = d.val) (hq : d.qual = qual) : ∃ fd, FunD K d.name d.qual d.params d.body d.scope [] [] (getterAt K "Turns" f) fd := by
  unfold getterOk at h
  obtain ⟨_, h3⟩ := He.ba h
  obtain ⟨kp, c2⟩ := He.ba h3
  unfold seenFn at e
  cases q : K.lookup (getterAt K "Turns" f) with
  | none =>
    rw [q] at c2
    cases c2
  | some o =>
    obtain ⟨oc, od, dt, osl⟩ := o
    rw [q] at c2 e
    cases dt with
    | func fd =>
      obtain ⟨n1, n2, n3, n4, n5, n6, n7, n8, n9, n10, n11, n12, n13, n14, n15⟩ := fd
      have e2 : (some (n1, n2, n3, n4, n5, n6, n7, n15) : He.FnW) = some (d.name, d.qual, d.params, .stmts d.body, d.scope, mainGlobals, [], builtinsNs) := e
      simp only [Option.some.injEq, Prod.mk.injEq] at e2
      obtain ⟨h1, h2, h3, h4, h5, h6, h7, h8⟩ := e2
      subst h1 h2 h3 h4 h5 h6 h7 h8
      have c3 : (PySem.W.codeIn K n13 qual && plainDefaults n8) = true := c2
      obtain ⟨k1, k2⟩ := He.ba c3
      rw [← hq] at k1
      have k4 : n8 = .none := by
        cases n8 with
        | none => rfl
        | _ => cases k2
      exact ⟨_, ⟨oc, od, n8, n9, n10, n11, n12, n13, n14, osl, rfl, q, k1, .inl ⟨rfl, k4⟩, .inl rfl⟩, kp⟩
    | _ => cases c2
theorem Tx.okText (T : Tx K mg base) : getterOk K "Turns" "text" "Turns.text" = true := (He.ba (He.ba (He.ba T.tOk).1).1).1
theorem Tx.okPlayers (T : Tx K mg base) : getterOk K "Turns" "players" "Turns.players" = true := (He.ba (He.ba (He.ba T.tOk).1).1).2
theorem Tx.insC (T : Tx K mg base) : C8.InsC K (CT K) := by
  obtain ⟨h1, h2⟩ := He.ba (He.ba (He.ba T.tOk).1).2
  obtain ⟨h3, h4⟩ := He.ba h1
  obtain ⟨h5, h6⟩ := He.ba h2
  obtain ⟨h7, h8⟩ := He.ba h6
  exact ⟨T.cl, He.eqO_ok h3, He.eqO_ok h4, of_decide_eq_true h5, of_decide_eq_true h7, of_decide_eq_true h8⟩
theorem Tx.lenOf (T : Tx K mg base) : LenOf K (CT K) (He.ma K (CT K) "__len__") := by
  obtain ⟨h1, h2⟩ := He.ba (He.ba T.tOk).2
  exact ⟨He.eqO_ok h1, h2⟩
/-- a property of Turns -/
structure Pal (P : Program) (w : World) (K : PySem.W.Frag) (mg : Str → Option Value) (base : Heap) (k : Nat) (f : Str) (sp : Sp) : Prop where
  ex : ∃ (p g : Addr) (fd : FuncData), PropOf K (CT K) f p g ∧ Binds K fd ["self"] [] ∧ FnOk P w K mg base CX0 k g fd ["self"] sp
theorem pe_pal {X : Cx} {k k' : Nat} {f : Str} {sp : Sp} {e : Expr} {pos : Pos} {ta : TE} (c : Pal X.prog X.w X.K X.mg X.base k f sp) (cl : Cls X.K (CT X.K)) (hr : Room k' X.A) (he : PE X e ta) (hk : k + 1 ≤ k' := by decide)
    (hab : attributeBase e f X.env (eval e X.env) = eval e X.env := by rfl) : PE X (.Attribute e f pos) (tProp (CT X.K) sp [] E0 ta) := by
  obtain ⟨p, g, fd, h1, h2, h3⟩ := c.ex
  exact pe_prop he cl h1 h3 (hr.mono hk) h2 .nil pass0 hab
def spText (C : Addr) : Sp := fun vs H Q _ => ∃ a l n, vs = [.ref a] ∧ TAt C H a l n ∧ Q (.str (tx l)) H
def spPlayers (C : Addr) : Sp := fun vs H Q _ => ∃ a l n, vs = [.ref a] ∧ TAt C H a l n ∧ Q (.int (n : Int)) H
theorem sc_P_text : FnScope ["self"] ["self"] (defScope s_P_text) := ⟨rfl, rfl, rfl, by decide +kernel, rfl, by decide +kernel, by decide +kernel⟩
theorem sc_P_players : FnScope ["self"] ["self"] (defScope s_P_players) := ⟨rfl, rfl, rfl, by decide +kernel, rfl, by decide +kernel, by decide +kernel⟩
theorem pal_text (T : Tx K mg base) : Pal P w K mg base 1 "text" (spText (CT K)) := by
  have e : seenFn K (getterAt K "Turns" "text") = (theGets[0]'(by decide)).2.val := by
    have h := congrArg (fun z => z[0]?) T.gets
    simpa [theGets] using h
  obtain ⟨fd, F⟩ := getter_fun T.okText e rfl
  refine ⟨_, _, fd, getter_prop T.okText, F.bindsN (fun _ _ _ _ _ _ us hl => match us, hl with | [_], _ => rfl), F.ok sc_P_text (fun vs H Q E h => ?_) (fun cdv A outer s H vs Q E hr h => ?_)⟩
  · obtain ⟨a, l, n, rfl, _⟩ := h
    rfl
  · obtain ⟨a, l, n, rfl, ⟨dx, ha⟩, k⟩ := h
    refine ⟨_, PSs.nox (pss_one (ps_ret (pe_fld (pv 0) rfl))), ?_⟩
    exact ⟨_, rfl, a, CT K, dx, _, _, rfl, ha, T.cl, T.nT, tf_text l n, k⟩
theorem pal_players (T : Tx K mg base) : Pal P w K mg base 1 "players" (spPlayers (CT K)) := by
  have e : seenFn K (getterAt K "Turns" "players") = (theGets[1]'(by decide)).2.val := by
    have h := congrArg (fun z => z[1]?) T.gets
    simpa [theGets] using h
  obtain ⟨fd, F⟩ := getter_fun T.okPlayers e rfl
  refine ⟨_, _, fd, getter_prop T.okPlayers, F.bindsN (fun _ _ _ _ _ _ us hl => match us, hl with | [_], _ => rfl), F.ok sc_P_players (fun vs H Q E h => ?_) (fun cdv A outer s H vs Q E hr h => ?_)⟩
  · obtain ⟨a, l, n, rfl, _⟩ := h
    rfl
  · obtain ⟨a, l, n, rfl, ⟨dx, ha⟩, k⟩ := h
    refine ⟨_, PSs.nox (pss_one (ps_ret (pe_fld (pv 0) rfl))), ?_⟩
    exact ⟨_, rfl, a, CT K, dx, _, _, rfl, ha, T.cl, T.nP, tf_players l n, k⟩
/-! ### __len__ -/
def spLen (C : Addr) : Sp := fun vs H Q _ => ∃ a l n, vs = [.ref a] ∧ TAt C H a l n ∧ l.length ≤ 2000 ∧ Q (.int (l.length : Int)) H
theorem sc_T_len : FnScope ["self"] ["self"] (defScope s_T_len) := ⟨rfl, rfl, rfl, by decide +kernel, rfl, by decide +kernel, by decide +kernel⟩
/-- len(turns): by __len__ -/
theorem cr_lenTurns {X : Cx} {k' : Nat} (T : Tx X.K X.mg X.base) (hr : Room k' X.A) (hk : 2 ≤ k' := by decide) :
    CallR X (.builtin "len") (fun xs H Q => ∃ a l n, xs = [V.ref a] ∧ TAt (CT X.K) H a l n ∧ l.length ≤ 2000 ∧ Q (.int (l.length : Int)) H) := by
  obtain ⟨fd, F⟩ := T.dd 10 (d := d_T_len) rfl
  have hF : FnOk X.prog X.w X.K X.mg X.base CX0 1 (He.ma X.K (CT X.K) "__len__") fd ["self"] (spLen (CT X.K)) := by
    refine FunD.ok (N := ["self"]) F sc_T_len (fun vs H Q E h => ?_) (fun cdv A outer s H vs Q E hr h => ?_)
    · obtain ⟨a, l, n, rfl, _⟩ := h
      rfl
    · obtain ⟨a, l, n, rfl, ⟨dx, ha⟩, hl, k⟩ := h
      refine ⟨_, PSs.nox (pss_one (ps_ret (pe_callB call_len_str (by rfl) T.len PySem.boot_len (pa_cons (pe_fld (pv 0) rfl) pa_nil)))), ?_⟩
      refine ⟨_, rfl, a, CT X.K, dx, _, _, rfl, ha, T.cl, T.nT, tf_text l n, _, rfl, (by rw [tx_len, sizeLine_eq]; omega), ?_⟩
      rw [tx_len]
      exact k
  have hb : Binds X.K fd ["self"] [] := FunD.bindsN F (fun _ _ _ _ _ _ us hl => match us, hl with | [_], _ => rfl)
  intro pins s σ H xs us Q I r h
  obtain ⟨a, l, n, rfl, ha, hl, q⟩ := h
  obtain ⟨dx, ea⟩ := id ha
  exact cr_lenO T.lenOf hF (hr.mono hk) hb pins s σ H _ us Q I r ⟨a, dx, _, rfl, ea, a, l, n, rfl, ha, hl, _, rfl, by omega, by omega, q⟩
/-! ### check_turns, letters_of -/
def spCheckTurns (C : Addr) : Sp := fun vs H Q _ => ∃ a l n, vs = [.ref a] ∧ TAt C H a l n ∧ Q .non H
theorem sc_check_turns : FnScope ["value"] ["value"] (defScope s_check_turns) := ⟨rfl, rfl, rfl, by decide +kernel, rfl, by decide +kernel, by decide +kernel⟩
theorem cal_check_turns (T : Tx K mg base) : Cal P w K mg base 1 "check_turns" ["value"] (spCheckTurns (CT K)) := by
  refine cal_of (i := 11) (j := 4) T d_check_turns rfl rfl rfl rfl rfl (fun _ _ _ _ _ _ us hl => match us, hl with | [_], _ => rfl) fun f fd F => ?_
  refine F.ok sc_check_turns (fun vs H Q E h => ?_) (fun cdv A outer s H vs Q E hr h => ?_)
  · obtain ⟨a, l, n, rfl, _⟩ := h
    rfl
  · obtain ⟨a, l, n, rfl, ⟨dx, ha⟩, k⟩ := h
    refine ⟨_, PSs.nox (pss_one (ps_if (pt_not (pt_val (pe_callB (C8.call_isC T.insC) (by rfl) T.isinstance (by decide +kernel) (pa_cons (pv 0) (pa_cons (pe_glob (v := .ref (CT K)) (by rfl) T.turns rfl) pa_nil))))) (pss_one ps_never) pss_nil)), ?_⟩
    exact ⟨_, rfl, a, dx, _, rfl, ha, true, rfl, k⟩
theorem slice_abc {n : Nat} (h : n ≤ 6) : Txt.slice "ABCDEF" none (some (n : Int)) = tx (List.range n) := by
  have h7 : n < 7 := by omega
  revert h7
  have : ∀ m : Nat, m < 7 → Txt.slice "ABCDEF" none (some ((m : Nat) : Int)) = tx (List.range m) := by decide +kernel
  exact this n
theorem abc_size : ("ABCDEF" : Str).length ≤ sizeLine := by decide +kernel
def spLetters (C : Addr) : Sp := fun vs H Q _ => ∃ a l n, vs = [.ref a] ∧ TAt C H a l n ∧ n ≤ 6 ∧ Q (.str (tx (List.range n))) H
theorem sc_letters_of : FnScope ["turns"] ["turns"] (defScope s_letters_of) := ⟨rfl, rfl, rfl, by decide +kernel, rfl, by decide +kernel, by decide +kernel⟩
theorem cal_letters_of (T : Tx K mg base) : Cal P w K mg base 3 "letters_of" ["turns"] (spLetters (CT K)) := by
  refine cal_of (i := 12) (j := 5) T d_letters_of rfl rfl rfl rfl rfl (fun _ _ _ _ _ _ us hl => match us, hl with | [_], _ => rfl) fun f fd F => ?_
  refine F.ok sc_letters_of (fun vs H Q E h => ?_) (fun cdv A outer s H vs Q E hr h => ?_)
  · obtain ⟨a, l, n, rfl, _⟩ := h
    rfl
  · obtain ⟨a, l, n, rfl, ha, hn, k⟩ := h
    refine ⟨_, PSs.nox (pss_one (ps_ret (pe_slice C8.sl_txt (C8.pe_gc (by rfl) T.letters) po_none (po_some (pe_pal (pal_players T) T.cl hr (pv 0)))))), ?_⟩
    obtain ⟨dx, ea⟩ := id ha
    refine ⟨_, rfl, a, dx, _, rfl, ea, a, l, n, rfl, ha, _, rfl, _, rfl, abc_size, ?_⟩
    rw [slice_abc hn]
    exact k
/-! ### check_player, positions, count -/
theorem tx_one (c : Nat) : tx [c] = (⟨#[c + 65]⟩ : Str) := rfl
theorem mem_tx {c : Nat} {l : List Nat} : (c + 65) ∈ (tx l).cps.toList ↔ c ∈ l := by
  rw [tx_cps, List.mem_map]
  constructor
  · rintro ⟨x, hx, e⟩
    have e2 : x = c := by omega
    rw [← e2]
    exact hx
  · exact fun h => ⟨c, h, rfl⟩
def spCheckPlayer (C : Addr) : Sp := fun vs H Q _ => ∃ a l n c, vs = [.ref a, .str (tx [c])] ∧ TAt C H a l n ∧ n ≤ 6 ∧ c < n ∧ Q .non H
theorem sc_T_check_player : FnScope ["self", "value"] ["self", "value"] (defScope s_T_check_player) := ⟨rfl, rfl, rfl, by decide +kernel, rfl, by decide +kernel, by decide +kernel⟩
theorem mal_check_player (T : Tx K mg base) : Mal P w K mg base 1 "check_player" ["self", "value"] (spCheckPlayer (CT K)) := by
  refine mal_of (i := 5) (j := 58) T d_T_check_player rfl rfl rfl rfl rfl (fun _ _ _ _ _ _ us hl => match us, hl with | [_, _], _ => rfl) fun f fd F => ?_
  refine F.ok sc_T_check_player (fun vs H Q E h => ?_) (fun cdv A outer s H vs Q E hr h => ?_)
  · obtain ⟨a, l, n, c, rfl, _⟩ := h
    rfl
  · obtain ⟨a, l, n, c, rfl, ⟨dx, ea⟩, hn, hc, k⟩ := h
    refine ⟨_, PSs.nox (pss_one (ps_if (PW.pt (pw_or (pt_not (pt_val (pe_callB call_isi (by rfl) T.isinstance (by decide +kernel) (pa_cons (pv 1) (pa_cons (pe_bltn (v := .ty "str") (by rfl) T.str (by decide +kernel) rfl) pa_nil)))))
      (pw_or (pt_cmpR op_ne (pe_callB call_len_str (by rfl) T.len PySem.boot_len (pa_cons (pv 1) pa_nil)) pe_int (nomark _))
      (pw_or1 (pt_cmpR op_notIn_sign (pv 1) (pe_slice C8.sl_txt (C8.pe_gc (by rfl) T.letters) po_none (po_some (pe_fld (pv 0) rfl))) rfl))))) (pss_one ps_never) pss_nil)), ?_⟩
    refine ⟨_, rfl, _, _, _, _, true, rfl, .ty "str", .base (.str _), kit_ty (by decide +kernel), true, rfl, ?_⟩
    refine ⟨_, rfl, _, rfl, (by rw [tx_len, sizeLine_eq, List.length_singleton]; omega), rfl, _, rfl, ?_⟩
    refine ⟨_, rfl, _, rfl, a, CT K, dx, _, _, rfl, ea, T.cl, T.nP, tf_players l n, _, rfl, _, rfl, abc_size, ?_⟩
    rw [slice_abc hn]
    refine ⟨c + 65, _, rfl, rfl, _, rfl, ?_⟩
    have d1 : decide (c + 65 ∈ (tx (List.range n)).cps.toList) = true := decide_eq_true (mem_tx.mpr (List.mem_range.mpr hc))
    rw [d1]
    exact k
end
end TB
set_option maxHeartbeats 4000000
namespace TB
open PySem PySem.Spec PyProof.Rows L2
/-- a comprehension whose turns only add to the heap: out i is the list behind i turns -/
theorem lc_pure {J : It} {n : Nat} {G : Hp → Prop} {Y : Nat → Hp → V → Hp → Prop} (w : Walk J n G Y) {g : TG} {tt : TT} {te : TE} {vs : List Nat} {σ : L2.St} {H1 : Hp} {D : Addr} {Qd : Hp → Prop} (out : Nat → List V) (hD : H1 D = none) (h0 : out 0 = [])
    (hlen : ∀ i, i < n → (out i).length < sizeLine) (hG : ∀ H, Same H1 H → G H)
    (hs : ∀ i x H H', i < n → Same H1 H → Y i H x H' → Same H H' ∧ ∀ (Fin : V → Hp → Prop) (FinN : Hp → Prop), (∀ y H4, Same H' H4 → out (i + 1) = out i ++ [y] → Fin y H4) → (∀ H3, Same H' H3 → out (i + 1) = out i → FinN H3) →
      g x (wipe σ vs) H' fun σ2 H2 => wipe σ2 vs = wipe σ vs ∧ tt σ2 H2 fun b H3 => if b = true then te σ2 H3 Fin else FinN H3)
    (hd : ∀ H, Same H1 H → H D = some (.lst (out n)) → Qd H) :
    ∃ W : Nat → Nat → Hp → Prop, (∃ m, W 0 m (upd H1 D (.lst []))) ∧ ∀ i m H, W i m H →
      (J.stop i H ∧ Qd H) ∨ (J.go i H ∧ ∃ Nx : Hp → Prop, (∀ H', Nx H' → ∃ m', m' < m ∧ W (i + 1) m' H') ∧ ∀ x H', J.yld i H x H' → g x (wipe σ vs) H' fun σ2 H2 => wipe σ2 vs = wipe σ vs ∧ tt σ2 H2 fun b H3 =>
        if b = true then te σ2 H3 fun y H4 => ∃ acc, H4 D = some (.lst acc) ∧ acc.length < sizeLine ∧ Nx (upd H4 D (.lst (acc ++ [y]))) else Nx H3) := by
  refine lc_it w (fun i H => Same H1 H ∧ H D = some (.lst (out i))) ⟨same_upd (Same.refl _) hD, by rw [upd_same, h0]⟩ (fun i H _ p => hG H p.1) (fun i x H H' hi p y => ?_) (fun H p => hd H p.1 p.2)
  obtain ⟨s1, r⟩ := hs i x H H' hi p.1 y
  refine r _ _ (fun y H4 s4 e => ⟨out i, s4 _ _ (s1 _ _ p.2), hlen i hi, same_upd ((p.1.trans s1).trans s4) hD, by rw [upd_same, e]⟩) fun H3 s3 e => ⟨(p.1.trans s1).trans s3, by rw [s3 _ _ (s1 _ _ p.2), e]⟩
theorem same_new {H : Hp} {T : Addr} {o : HO} (h : H T = none) : Same H (upd H T o) := same_upd (Same.refl H) h
section
variable {P : Program} {w : World} {K : PySem.W.Frag} {mg : Str → Option Value} {base : Heap}
theorem tx_size (l : List Nat) : (tx l).cps.size = l.length := by simp [tx, SX.S]
theorem tx_at (l : List Nat) (i : Nat) : (tx l).cps[i]? = (l[i]?).map (· + 65) := by
  rw [← Array.getElem?_toList, tx_cps, List.getElem?_map]
def nV (l : List Nat) : List V := l.map fun (i : Nat) => V.int (i : Int)
theorem posOut {l : List Nat} {c i x : Nat} (h : l[i]? = some x) : Tb.posFrom c 0 (l.take (i + 1)) = Tb.posFrom c 0 (l.take i) ++ (if x = c then [i] else []) := by
  have hi : i < l.length := by
    rcases Nat.lt_or_ge i l.length with z | z
    · exact z
    · rw [List.getElem?_eq_none z] at h; cases h
  rw [List.take_add_one, h]
  have e := Tb.posFrom_snoc c (l.take i) 0 x
  rw [List.length_take, Nat.min_eq_left (Nat.le_of_lt hi), Nat.zero_add] at e
  exact e
def spPositions (C : Addr) : Sp := fun vs H Q _ => ∃ a l n c, vs = [.ref a, .str (tx [c])] ∧ TAt C H a l n ∧ Good l n ∧ c < n ∧ ∀ H' p, Same H H' → H' p = some (.lst (nV (Tb.posFrom c 0 l))) → Q (.ref p) H'
theorem sc_T_positions : FnScope ["self", "player", "position", "item"] ["self", "player"] (defScope s_T_positions) := ⟨rfl, rfl, rfl, by decide +kernel, rfl, by decide +kernel, by decide +kernel⟩
theorem mal_positions (T : Tx K mg base) : Mal P w K mg base 2 "positions" ["self", "player"] (spPositions (CT K)) := by
  refine mal_of (i := 6) (j := 59) T d_T_positions rfl rfl rfl rfl rfl (fun _ _ _ _ _ _ us hl => match us, hl with | [_, _], _ => rfl) fun f fd F => ?_
  refine F.ok sc_T_positions (fun vs H Q E h => ?_) (fun cdv A outer s H vs Q E hr h => ?_)
  · obtain ⟨a, l, n, c, rfl, _⟩ := h
    rfl
  · obtain ⟨a, l, n, c, rfl, ha, g, hc, k⟩ := h
    have nd := sc_T_positions.nd
    refine ⟨_, PSs.nox (pss_cons (ps_expr (pe_mal (mal_check_player T) T.cl hr (pv 0) (pa_cons (pv 1) pa_nil)))
      (pss_one (ps_ret (pe_lc (own := [("position", 2), ("item", 3)]) (g := gTup K 2 (gCons (gName 2) (gCons (gName 3) gNil))) (by rfl) nd (pi_enumS (by rfl) T.enumerate (pa_cons (pe_fld (pv 0) rfl) pa_nil)) (blkOk_by (own := [("position", 2), ("item", 3)]) (N := ["self", "player", "position", "item"]) (sc := defScope s_T_positions) (by decide +kernel))
        (fun _ _ _ _ _ => pg_tup (by rfl) (pgs_cons (pg_name (i := 2) nd rfl (Or.inl rfl)) (pgs_cons (pg_name (i := 3) nd rfl (Or.inl rfl)) pgs_nil)))
        (fun _ _ _ _ _ => pts_one (pt_cmpR op_eq (pv 3) (pv 1) (nomark _))) (fun _ _ _ _ _ => pv 2))))), ?_⟩
    obtain ⟨dx, ea⟩ := id ha
    refine ⟨_, rfl, a, dx, _, rfl, ea, tf_no l n, _, rfl, a, l, n, c, rfl, ha, g.six, hc, ?_⟩
    refine ⟨_, rfl, a, CT K, dx, _, _, rfl, ea, T.cl, T.nT, tf_text l n, _, rfl, fun D hD => ?_⟩
    refine lc_pure walk_enumS (fun i => nV (Tb.posFrom c 0 (l.take i))) hD rfl (fun i hi => ?_) (fun _ _ => True.intro) (fun i v H1 H2 hi sm y => ?_) (fun H2 sm e => ?_)
    · have h1 := Tb.posFrom_len c (l.take i) 0
      rw [nV, List.length_map, sizeLine_eq]
      have h2 := g.len
      rw [List.length_take] at h1
      omega
    · rw [tx_size] at hi
      obtain ⟨T1, x1, x2, rfl, hT, rfl, e1, e2⟩ := y
      cases e1
      obtain ⟨x, ex⟩ : ∃ x, l[i]? = some x := ⟨l[i], by simp [hi]⟩
      have e3 : ((tx l).cps[i]?.map fun c => V.str ⟨#[c]⟩) = some x2 := e2
      rw [tx_at, ex] at e3
      cases e3
      refine ⟨same_new hT, fun Fin FinN h1 h2 => ?_⟩
      refine ⟨T1, [_, _], rfl, SqT.of upd_same, rfl, _, _, rfl, _, _, rfl, rfl, rfl, ?_⟩
      refine ⟨_, rfl, _, rfl, rfl, _, rfl, ?_⟩
      have hp := posOut (c := c) ex
      by_cases hx : x = c
      · subst hx
        have d1 : decide (V.str ⟨#[x + 65]⟩ = V.str (tx [x])) = true := decide_eq_true rfl
        rw [d1]
        refine ⟨_, rfl, h1 _ _ (Same.refl _) ?_⟩
        show nV (Tb.posFrom x 0 (l.take (i + 1))) = _
        rw [hp, if_pos rfl, nV, List.map_append]
        rfl
      · have d1 : decide (V.str ⟨#[x + 65]⟩ = V.str (tx [c])) = false := decide_eq_false fun z => by
          have z2 : tx [x] = tx [c] := by injection z
          have z3 := tx_inj z2
          injection z3 with z4 _
          exact hx z4
        rw [d1]
        refine h2 _ (Same.refl _) ?_
        show nV (Tb.posFrom c 0 (l.take (i + 1))) = _
        rw [hp, if_neg hx, List.append_nil]
    · rw [tx_size, List.take_length] at e
      exact k _ _ sm e
def spCount (C : Addr) : Sp := fun vs H Q _ => ∃ a l n c, vs = [.ref a, .str (tx [c])] ∧ TAt C H a l n ∧ Good l n ∧ c < n ∧ ∀ H', Same H H' → Q (.int ((Tb.posFrom c 0 l).length : Int)) H'
theorem sc_T_count : FnScope ["self", "player"] ["self", "player"] (defScope s_T_count) := ⟨rfl, rfl, rfl, by decide +kernel, rfl, by decide +kernel, by decide +kernel⟩
theorem mal_count (T : Tx K mg base) : Mal P w K mg base 3 "count" ["self", "player"] (spCount (CT K)) := by
  refine mal_of (i := 7) (j := 60) T d_T_count rfl rfl rfl rfl rfl (fun _ _ _ _ _ _ us hl => match us, hl with | [_, _], _ => rfl) fun f fd F => ?_
  refine F.ok sc_T_count (fun vs H Q E h => ?_) (fun cdv A outer s H vs Q E hr h => ?_)
  · obtain ⟨a, l, n, c, rfl, _⟩ := h
    rfl
  · obtain ⟨a, l, n, c, rfl, ha, g, hc, k⟩ := h
    refine ⟨_, PSs.nox (pss_one (ps_ret (pe_callB call_len_seq (by rfl) T.len PySem.boot_len (pa_cons (pe_mal (mal_positions T) T.cl hr (pv 0) (pa_cons (pv 1) pa_nil)) pa_nil)))), ?_⟩
    obtain ⟨dx, ea⟩ := id ha
    refine ⟨_, rfl, a, dx, _, rfl, ea, tf_no l n, _, rfl, a, l, n, c, rfl, ha, g, hc, fun H' p sm e => ?_⟩
    refine ⟨p, _, rfl, .inl (SqL.of e), ?_⟩
    have := k H' sm
    rw [nV, List.length_map]
    exact this
end
end TB
set_option maxHeartbeats 4000000
/-! letters: places, order, joins; data compared -/
namespace TB
open PySem PySem.Spec PyProof.Rows L2
/-- s.index(y), y is there -/
def rIndexT : V → List V → Hp → VK → Prop := fun x xs H Q => ∃ (a b : Str) (k : Nat), x = .str a ∧ xs = [.str b] ∧ Txt.index0 a b = some k ∧ Q (.int (k : Nat)) H
theorem mt_indexT {X : Cx} : MtR X "str.index" rIndexT := by
  intro pins s σ H x xs v us Q I rx rs h
  obtain ⟨a, b, k, rfl, rfl, hk, q⟩ := h
  obtain ⟨t, rfl⟩ := rx
  cases rs with
  | cons r1 rs =>
    cases rs
    obtain ⟨u, rfl⟩ := r1
    cases e : Builtin.Str.occurrences a b 0 a.length 1 with
    | nil =>
      unfold Txt.index0 at hk
      rw [e] at hk
      cases hk
    | cons j rest =>
      unfold Txt.index0 at hk
      rw [e] at hk
      cases hk
      exact PySem.SC.index e ⟨.int (k : Nat), H, I.tok _, ⟨_, rfl⟩, q⟩
theorem index_abc {c : Nat} (h : c < 6) : Txt.index0 "ABCDEF" (tx [c]) = some c := by
  have : ∀ m : Nat, m < 6 → Txt.index0 "ABCDEF" (tx [m]) = some m := by decide +kernel
  exact this c h
theorem at_abc {n : Nat} (h : n < 6) : atI ("ABCDEF" : Str).cps.toList (n : Int) = some (n + 65) := by
  have : ∀ m : Nat, m < 6 → atI ("ABCDEF" : Str).cps.toList ((m : Nat) : Int) = some (m + 65) := by decide +kernel
  exact this n h
theorem at_tx {l : List Nat} {i x : Nat} (h : l[i]? = some x) : atI (tx l).cps.toList (i : Int) = some (x + 65) := by
  rw [tx_cps]
  have hi : i < l.length := by
    rcases Nat.lt_or_ge i l.length with z | z
    · exact z
    · rw [List.getElem?_eq_none z] at h; cases h
  refine atI_nat ?_
  rw [List.getElem?_map, h]
  rfl
theorem signs_tx (l : List Nat) : signsOf (tx l) = l.map fun x => tx [x] := by
  unfold signsOf
  rw [tx_cps, List.map_map]
  rfl
theorem tx_rev (l : List Nat) : (⟨(tx l).cps.toList.reverse.toArray⟩ : Str) = tx l.reverse := by
  rw [tx_cps, ← List.map_reverse]
  rfl
theorem joinL_nil : ∀ ls : List (List Nat), TL.joinL [] ls = ls.flatten
  | [] => rfl
  | [p] => by simp [TL.joinL]
  | p :: q :: r => by
    rw [TL.joinL, joinL_nil (q :: r), List.flatten_cons]
    rfl
theorem join_tx (ls : List (List Nat)) : Txt.join "" (ls.map tx) = tx ls.flatten := by
  have e1 : ("" : Str) = SX.S [] := by decide +kernel
  have e2 : ls.map tx = (ls.map (List.map (· + 65))).map SX.S := by rw [List.map_map]; rfl
  rw [e1, e2, SX.join_S, joinL_nil, ← List.map_flatten]
  rfl
theorem join_one (l : List Nat) : Txt.join "" (l.map fun x => tx [x]) = tx l := by
  have e : (l.map fun x => tx [x]) = (l.map fun x => [x]).map tx := by rw [List.map_map]; rfl
  rw [e, join_tx]
  congr 1
  induction l with
  | nil => rfl
  | cons x r ih => rw [List.map_cons, List.flatten_cons, ih (by rw [List.map_map]; rfl)]; rfl
theorem lens_tx (ls : List (List Nat)) : ((ls.map tx).map (·.length)).sum + (ls.map tx).length * ("" : Str).length = ls.flatten.length := by
  have e0 : ("" : Str).length = 0 := by decide +kernel
  rw [e0, Nat.mul_zero, Nat.add_zero, List.map_map]
  induction ls with
  | nil => rfl
  | cons p r ih =>
    rw [List.map_cons, List.sum_cons, List.flatten_cons, List.length_append, ih]
    show (tx p).length + _ = _
    rw [tx_len]
/-! ### sorted letters -/
theorem lt_one (a b : Nat) : ltCps (tx [a]).cps.toList (tx [b]).cps.toList = decide (a < b) := by
  rw [tx_cps, tx_cps]
  show ltCps [a + 65] [b + 65] = _
  unfold ltCps
  by_cases h : a < b
  · simp [h, ltCps]
  · simp [h, ltCps]
theorem rising_le : ∀ (zs : List Nat) (p : Nat), risingS (tx [p]) (zs.map fun x => tx [x]) = true → (∀ z ∈ zs, p ≤ z) ∧ zs.Pairwise (· ≤ ·)
  | [], p, _ => ⟨fun z hz => (nomatch hz), List.Pairwise.nil⟩
  | x :: r, p, h => by
    have h1 : (!ltCps (tx [x]).cps.toList (tx [p]).cps.toList && risingS (tx [x]) (r.map fun x => tx [x])) = true := h
    rw [Bool.and_eq_true, lt_one] at h1
    have hpx : p ≤ x := by
      have h2 := h1.1
      simp at h2
      exact h2
    obtain ⟨h3, h4⟩ := rising_le r x h1.2
    refine ⟨fun z hz => ?_, List.Pairwise.cons h3 h4⟩
    rcases List.mem_cons.mp hz with e | hz
    · rw [e]; exact hpx
    · exact Nat.le_trans hpx (h3 z hz)
theorem sorted_le (zs : List Nat) (h : sortedS (zs.map fun x => tx [x]) = true) : zs.Pairwise (· ≤ ·) := by
  cases zs with
  | nil => exact List.Pairwise.nil
  | cons x r =>
    obtain ⟨h3, h4⟩ := rising_le r x h
    exact List.Pairwise.cons h3 h4
theorem unmap {α β : Type} {f : α → β} : ∀ (ys : List β), (∀ y ∈ ys, ∃ x, f x = y) → ∃ zs : List α, ys = zs.map f
  | [], _ => ⟨[], rfl⟩
  | y :: r, h => by
    obtain ⟨x, e⟩ := h y (List.mem_cons_self ..)
    obtain ⟨zs, e2⟩ := unmap r fun z hz => h z (List.mem_cons_of_mem _ hz)
    exact ⟨x :: zs, by rw [List.map_cons, e, ← e2]⟩
theorem perm_unmap {f : Nat → Str} (hf : ∀ a b, f a = f b → a = b) {zs l : List Nat} (h : (zs.map f).Perm (l.map f)) : zs.Perm l := by
  rw [List.perm_iff_count] at h ⊢
  intro a
  have e := h (f a)
  have c : ∀ l : List Nat, (l.map f).count (f a) = l.count a := fun l => by
    induction l with
    | nil => rfl
    | cons x r ih =>
      rw [List.map_cons, List.count_cons, List.count_cons, ih]
      by_cases hx : x = a
      · subst hx; simp
      · have : ¬ f x = f a := fun z => hx (hf _ _ z)
        simp [hx, this]
  rw [c, c] at e
  exact e
theorem sorted_names {nm : List Nat} {n : Nat} (h : Tb.Names nm n) {ys : List Str} (hp : ys.Perm (signsOf (tx nm))) (hs : sortedS ys = true) : ys = signsOf (tx (List.range n)) := by
  rw [signs_tx] at hp
  obtain ⟨zs, rfl⟩ := unmap (f := fun x => tx [x]) ys fun y hy => by
    obtain ⟨x, _, e⟩ := List.mem_map.mp (hp.subset hy)
    exact ⟨x, e⟩
  have h1 : zs.Perm nm := perm_unmap (fun a b e => by
    have := tx_inj e
    injection this) hp
  have h2 : zs = List.range n := List.Perm.eq_of_pairwise (le := fun a b : Nat => a ≤ b) (fun a b _ _ h1 h2 => Nat.le_antisymm h1 h2) (sorted_le zs hs) (List.pairwise_lt_range.imp fun h => Nat.le_of_lt h) (h1.trans h.perm)
  rw [h2, signs_tx]
/-! ### data -/
theorem dpAll_map {K : PySem.W.Frag} {H : Hp} {α : Type} {f : α → V} {g : α → PyData} : ∀ (xs : List α), (∀ x ∈ xs, Dp K H (f x) (g x)) → DpAll K H (xs.map f) (xs.map g)
  | [], _ => .nil
  | x :: r, h => .cons (h x (List.mem_cons_self ..)) (dpAll_map r fun y hy => h y (List.mem_cons_of_mem _ hy))
theorem canLay_map {α : Type} {g : α → PyData} : ∀ (xs : List α), (∀ x ∈ xs, (g x).canLay0 = true) → PyData.canLayAll0 (xs.map g) = true
  | [], _ => by simp [PyData.canLayAll0]
  | x :: r, h => by
    rw [List.map_cons, PyData.canLayAll0, h x (List.mem_cons_self ..), canLay_map r fun y hy => h y (List.mem_cons_of_mem _ hy)]
    rfl
theorem depth_map {α : Type} {g : α → PyData} {m : Nat} : ∀ (xs : List α), (∀ x ∈ xs, (g x).depth ≤ m) → PyData.depthAll (xs.map g) ≤ m
  | [], _ => by simp [PyData.depthAll]
  | x :: r, h => by
    have h1 := h x (List.mem_cons_self ..)
    have h2 := depth_map r fun y hy => h y (List.mem_cons_of_mem _ hy)
    simp only [List.map_cons, PyData.depthAll]
    omega
theorem shaped_of {d : PyData} (h1 : d.canLay0 = true) (h2 : d.depth ≤ 64) : SeqAt.shaped d = true := by
  unfold SeqAt.shaped
  rw [h1, decide_eq_true h2]
  rfl
theorem shaped_letters {l : List Nat} (h : ∀ x ∈ l, x < 6) : SeqAt.shaped (.list (l.map fun x => PyData.str (tx [x]))) = true := by
  refine shaped_of ?_ ?_
  · simp only [PyData.canLay0]
    refine canLay_map l fun x hx => ?_
    have : ∀ m : Nat, m < 6 → PyData.canLay0 (.str (tx [m])) = true := by decide +kernel
    exact this x (h x hx)
  · have := depth_map (g := fun x => PyData.str (tx [x])) (m := 0) l fun x _ => by simp [PyData.depth]
    simp only [PyData.depth]
    omega
end TB
set_option maxHeartbeats 4000000
namespace TB
open PySem PySem.Spec PyProof.Rows L2
section
variable {P : Program} {w : World} {K : PySem.W.Frag} {mg : Str → Option Value} {base : Heap}
theorem putF_tf (l : List Nat) (n : Nat) : putF "own_players" (.int (n : Int)) (putF "own_text" (.str (tx l)) []) = tf l n := by
  have h : ¬ (("own_text" : Str) = "own_players") := by decide +kernel
  show (if ("own_text" : Str) = "own_players" then _ else (("own_text" : Str), V.str (tx l)) :: putF "own_players" (.int (n : Int)) []) = tf l n
  rw [if_neg h]
  rfl
theorem top_abc {n : Nat} (h : n ≤ 6) (h2 : 2 ≤ n) : atI ("ABCDEF" : Str).cps.toList ((n : Int) - 1) = some (n + 64) := by
  have e : ((n : Int) - 1) = ((n - 1 : Nat) : Int) := by omega
  rw [e, at_abc (by omega)]
  congr 1
  omega
def spInit (C : Addr) : Sp := fun vs H Q _ => ∃ p dx l, ∃ n : Nat, vs = [.ref p, .str (tx l), .int (n : Int)] ∧ Good l n ∧ H p = some (.ins C dx []) ∧ ∀ H', But p H H' → H' p = some (.ins C dx (tf l n)) → Q .non H'
theorem sc_T_init : FnScope ["self", "text", "players", "item"] ["self", "text", "players"] (defScope s_T_init) := ⟨rfl, rfl, rfl, by decide +kernel, rfl, by decide +kernel, by decide +kernel⟩
theorem one_mem {l : List Nat} {x n : Nat} (h : l[x]? = some n) (g : ∀ y ∈ l, y < 6) : decide (n + 65 ∈ ("ABCDEF" : Str).cps.toList) = true := by
  rw [abc]
  exact decide_eq_true (mem_tx.mpr (List.mem_range.mpr (g n (List.mem_of_getElem? h))))
theorem ok_init {f : Addr} {fd : FuncData} (T : Tx K mg base) (F : FunD K d_T_init.name d_T_init.qual d_T_init.params d_T_init.body d_T_init.scope [] [] f fd) : FnOk P w K mg base CX0 3 f fd ["self", "text", "players"] (spInit (CT K)) := by
  refine F.ok sc_T_init (fun vs H Q E h => ?_) (fun cdv A outer s H vs Q E hr h => ?_)
  · obtain ⟨p, dx, l, n, rfl, _⟩ := h
    rfl
  · obtain ⟨p, dx, l, n, rfl, g, hp, k⟩ := h
    have nd := sc_T_init.nd
    have g6 : ∀ y ∈ l, y < 6 := fun y hy => Nat.lt_of_lt_of_le (g.lt y hy) g.six
    refine ⟨_, PSs.nox (pss_cons (ps_if (PW.pt (pw_or (pt_not (pt_val (pe_callB call_isi (by rfl) T.isinstance (by decide +kernel) (pa_cons (pv 1) (pa_cons (pe_bltn (v := .ty "str") (by rfl) T.str (by decide +kernel) rfl) pa_nil)))))
      (pw_or (pt_not (pt_chain op_le op_le pe_int (pe_callB call_len_str (by rfl) T.len PySem.boot_len (pa_cons (pv 1) pa_nil)) (C8.pe_gc (by rfl) T.maxTurns)))
      (pw_or1 (pt_val (pe_callB (cr_any (by rfl)) (by rfl) T.any (by decide +kernel) (pa_cons (pe_lc (own := [("item", 3)]) (g := gName 3) (by rfl) nd (pi_str (pv 1)) (blkOk_by (own := [("item", 3)]) (N := ["self", "text", "players", "item"]) (sc := defScope s_T_init) (by decide +kernel))
        (fun _ _ _ _ _ => pg_name (i := 3) nd rfl (Or.inl rfl)) (fun _ _ _ _ _ => pts_nil) (fun _ _ _ _ _ => pe_cmpR op_notIn_sign (pv 3) (C8.pe_gc (by rfl) T.letters) rfl)) pa_nil))))))) (pss_one ps_never) pss_nil)
      (pss_cons (ps_if (PW.pt (pw_or (pt_not (pt_val (pe_cal (cal_in_range T) hr (by rfl) (pa_cons (pv 2) (pa_cons (C8.pe_gc (by rfl) T.fewest) (pa_cons (pe_callB call_len_str (by rfl) T.len PySem.boot_len (pa_cons (C8.pe_gc (by rfl) T.letters) pa_nil)) pa_nil))))))
        (pw_or1 (pt_cmpR op_gt_str (pe_callB (cr_maxS (by rfl)) (by rfl) T.max (by decide +kernel) (pa_cons (pv 1) pa_nil)) (pe_ix ix_str (C8.pe_gc (by rfl) T.letters) (pe_op op_sub (pv 2) pe_int) (fun _ _ => rfl)) (nomark _))))) (pss_one ps_never) pss_nil)
      (pss_cons (ps_fld (pv 0) (pv 1) rfl) (pss_one (ps_fld (pv 0) (pv 2) rfl))))), ?_⟩
    refine ⟨_, rfl, _, _, _, _, true, rfl, .ty "str", .base (.str _), kit_ty (by decide +kernel), true, rfl, ?_⟩
    have l1 : 1 ≤ l.length := by
      cases l with
      | nil => exact absurd rfl g.ne
      | cons x r => exact Nat.succ_le_succ (Nat.zero_le _)
    have l2 := g.len
    refine ⟨_, rfl, _, rfl, (by rw [tx_len, sizeLine_eq]; omega), ?_⟩
    rw [tx_len]
    refine ⟨_, _, rfl, rfl, _, rfl, ?_⟩
    have d1 : decide ((1 : Int) ≤ (l.length : Int)) = true := decide_eq_true (by omega)
    have d2 : decide ((l.length : Int) ≤ 2000) = true := decide_eq_true (by omega)
    rw [d1]
    refine ⟨_, _, rfl, rfl, _, rfl, ?_⟩
    rw [d2]
    refine ⟨_, rfl, _, rfl, fun D hD => ?_⟩
    refine lc_pure walk_str (fun i => (List.replicate i false).map V.bl) hD rfl (fun i hi => ?_) (fun _ _ => True.intro) (fun i v H1 H2 hi sm y => ?_) (fun H2 sm e => ?_)
    · rw [tx_size] at hi
      rw [List.length_map, List.length_replicate, sizeLine_eq]
      omega
    · obtain ⟨rfl, c, ec, rfl⟩ := y
      rw [tx_at] at ec
      obtain ⟨x, ex, rfl⟩ := Option.map_eq_some_iff.mp ec
      refine ⟨Same.refl _, fun Fin FinN h1 h2 => ?_⟩
      refine ⟨rfl, _, rfl, _, _, rfl, rfl, ?_⟩
      rw [one_mem ex g6]
      refine h1 _ _ (Same.refl _) ?_
      rw [List.replicate_succ', List.map_append]
      rfl
    · refine ⟨D, _, rfl, SqL.of e, false, ?_, ?_⟩
      · congr 1
        rw [List.any_eq_false]
        intro x hx
        rw [List.eq_of_mem_replicate hx]
        decide
      · refine ⟨_, rfl, _, rfl, abc_size, ?_⟩
        refine ⟨(n : Int), 2, 6, rfl, (by have := g.two; omega), (by have := g.six; omega), true, rfl, ?_⟩
        refine ⟨_, rfl, _, rfl, (by rw [tx_size]; omega), fun c hc => ?_⟩
        rw [tx_cps, List.mem_map] at hc
        obtain ⟨x, hx, rfl⟩ := hc
        refine ⟨_, rfl, _, _, rfl, rfl, _, _, _, rfl, rfl, abc_size, top_abc g.six g.two, ?_⟩
        refine ⟨_, _, rfl, rfl, _, rfl, ?_⟩
        have hx2 := g.lt x hx
        have d3 : decide ((⟨#[n + 64]⟩ : Str).cps.toList < (⟨#[x + 65]⟩ : Str).cps.toList) = false := decide_eq_false fun z => by
          have z2 : [n + 64] < [x + 65] := z
          rcases List.cons_lt_cons_iff.mp z2 with z3 | ⟨_, z3⟩
          · omega
          · exact absurd z3 (List.not_lt_nil _)
        rw [d3]
        refine ⟨_, rfl, _, rfl, p, CT K, dx, _, rfl, sm _ _ hp, T.cl, T.nT, (by show 0 < 1000; decide), ?_⟩
        refine ⟨_, rfl, _, rfl, p, CT K, dx, _, rfl, upd_same, T.cl, T.nP, (by show 1 < 1000; decide), ?_⟩
        refine k _ (fun b o nb hb => ?_) ?_
        · rw [upd_ne nb, upd_ne nb]
          exact sm _ _ hb
        · rw [upd_same, putF_tf]
/-- Turns(text, players) -/
theorem pe_newTurns {X : Cx} {k' : Nat} {p pos : Pos} {e : Expr} {es : List Expr} {t : TA} (T : Tx X.K X.mg X.base) (hr : Room k' X.A) (hg : Gl X "Turns") (ha : PA X (e :: es) t) (hk : 4 ≤ k' := by decide)
    (he : starEach (e :: es) X.env = (false, eval e X.env) :: starEach es X.env := by rfl) (hpl : (backTo pos (starEach es X.env)).any (·.1) = false := by rfl) :
    PE X (.Call (.Name "Turns" p) (e :: es) [] pos) (fun σ H Q => t σ H fun vs H1 => ∃ l n, vs = [.str (tx l), .int ((n : Nat) : Int)] ∧ Good l n ∧ ∀ H2 b, Same H1 H2 → H1 b = none → TAt (CT X.K) H2 b l n → Q (.ref b) H2) := by
  obtain ⟨fd, F⟩ := T.dd 4 (d := d_T_init) rfl
  have G : FnOk X.prog X.w X.K X.mg X.base CX0 3 (He.ma X.K (CT X.K) "__init__") fd ["self", "text", "players"] (spInit (CT X.K)) := ok_init T F
  have b : Binds X.K fd ["self", "text", "players"] [] := FunD.bindsN F (fun _ _ _ _ _ _ us hl => match us, hl with | [_, _, _], _ => rfl)
  refine ⟨fun pins s σ H Q I h => ?_⟩
  refine wpAny_Call_Name_kw (ld_glob I hg T.turns ?_ (by decide))
  refine PySem.W.callWith_K (h₀ := X.base) I.ok.mod.kin T.made.kp (thn (ha.run pos pins s σ H _ I h) fun us s1 ⟨vs, H1, I1, r, q⟩ => ⟨I1.kIn, ?_⟩) he hpl
  obtain ⟨l, n, rfl, g, q⟩ := q
  refine run_make T.made G (hr.mono hk) b .nil pass0 I1 r fun x dx nx ndx nex => ?_
  refine ⟨x, dx, l, n, rfl, g, upd_same, fun H2 bt e2 => ⟨rfl, q H2 x (fun b o hb => ?_) nx ⟨dx, e2⟩⟩⟩
  have nb : b ≠ x := ne_of_none hb nx
  refine bt b o nb ?_
  rw [upd_ne nb, upd_ne (ne_of_none hb ndx)]
  exact hb
theorem Good.rev {l : List Nat} {n : Nat} (g : Good l n) : Good l.reverse n := ⟨fun e => g.ne (List.reverse_eq_nil_iff.mp e), by rw [List.length_reverse]; exact g.len, fun x hx => g.lt x (List.mem_reverse.mp hx), g.two, g.six⟩
theorem Good.ren {l nm : List Nat} {n : Nat} (g : Good l n) (h : Tb.Names nm n) : Good (Tb.ren nm l) n := ⟨fun e => g.ne (List.map_eq_nil_iff.mp e), by rw [Tb.ren_len]; exact g.len, Tb.ren_lt h g.lt, g.two, g.six⟩
def spBackward (C : Addr) : Sp := fun vs H Q _ => ∃ a l n, vs = [.ref a] ∧ TAt C H a l n ∧ Good l n ∧ ∀ H' b, Same H H' → TAt C H' b l.reverse n → Q (.ref b) H'
theorem sc_T_backward : FnScope ["self"] ["self"] (defScope s_T_backward) := ⟨rfl, rfl, rfl, by decide +kernel, rfl, by decide +kernel, by decide +kernel⟩
theorem mal_backward (T : Tx K mg base) : Mal P w K mg base 5 "backward" ["self"] (spBackward (CT K)) := by
  refine mal_of (i := 8) (j := 61) T d_T_backward rfl rfl rfl rfl rfl (fun _ _ _ _ _ _ us hl => match us, hl with | [_], _ => rfl) fun f fd F => ?_
  refine F.ok sc_T_backward (fun vs H Q E h => ?_) (fun cdv A outer s H vs Q E hr h => ?_)
  · obtain ⟨a, l, n, rfl, _⟩ := h
    rfl
  · obtain ⟨a, l, n, rfl, ⟨dx, ea⟩, g, k⟩ := h
    refine ⟨_, PSs.nox (pss_one (ps_ret (pe_newTurns T hr (by rfl) (pa_cons (pe_revS (pe_fld (pv 0) rfl)) (pa_cons (pe_fld (pv 0) rfl) pa_nil))))), ?_⟩
    refine ⟨_, rfl, a, CT K, dx, _, _, rfl, ea, T.cl, T.nT, tf_text l n, _, rfl, (by rw [tx_len, sizeLine_eq]; have := g.len; omega), ?_⟩
    rw [tx_rev]
    exact ⟨_, rfl, a, CT K, dx, _, _, rfl, ea, T.cl, T.nP, tf_players l n, _, n, rfl, g.rev, fun H2 b sm _ tb => k H2 b sm tb⟩
def spRenamed (C : Addr) : Sp := fun vs H Q _ => ∃ a l n nm, vs = [.ref a, .str (tx nm)] ∧ TAt C H a l n ∧ Good l n ∧ Tb.Names nm n ∧ ∀ H' b, Same H H' → TAt C H' b (Tb.ren nm l) n → Q (.ref b) H'
theorem sc_T_renamed : FnScope ["self", "names", "letters", "item"] ["self", "names"] (defScope s_T_renamed) := ⟨rfl, rfl, rfl, by decide +kernel, rfl, by decide +kernel, by decide +kernel⟩
theorem mal_renamed (T : Tx K mg base) : Mal P w K mg base 5 "renamed" ["self", "names"] (spRenamed (CT K)) := by
  refine mal_of (i := 9) (j := 62) T d_T_renamed rfl rfl rfl rfl rfl (fun _ _ _ _ _ _ us hl => match us, hl with | [_, _], _ => rfl) fun f fd F => ?_
  refine F.ok sc_T_renamed (fun vs H Q E h => ?_) (fun cdv A outer s H vs Q E hr h => ?_)
  · obtain ⟨a, l, n, nm, rfl, _⟩ := h
    rfl
  · obtain ⟨a, l, n, nm, rfl, ⟨dx, ea⟩, g, hn, k⟩ := h
    have nd := sc_T_renamed.nd
    refine ⟨_, PSs.nox (pss_cons (ps_set (i := 2) nd rfl (Or.inl rfl) (pe_slice C8.sl_txt (C8.pe_gc (by rfl) T.letters) po_none (po_some (pe_fld (pv 0) rfl))))
      (pss_cons (ps_if (PW.pt (pw_or (pt_not (pt_val (pe_callB call_isi (by rfl) T.isinstance (by decide +kernel) (pa_cons (pv 1) (pa_cons (pe_bltn (v := .ty "str") (by rfl) T.str (by decide +kernel) rfl) pa_nil)))))
        (pw_or1 (pt_cmpR (op_neD hr.units) (pe_callB (cr_sortedT (by rfl)) (by rfl) T.sorted (by decide +kernel) (pa_cons (pv 1) pa_nil)) (pe_callTy (cr_listT (by rfl)) (by rfl) T.list (by decide +kernel) (pa_cons (pv 2) pa_nil)) (nomark _))))) (pss_one ps_never) pss_nil)
      (pss_one (ps_ret (pe_newTurns T hr (by rfl) (pa_cons (pe_join pe_str (pe_lc (own := [("item", 3)]) (g := gName 3) (te := tOp rIxS (tVar 1) (tBM K "str" rIndexT (tC (.str "ABCDEF")) (tCons (tVar 3) tNil))) (by rfl) nd (pi_str (pe_fld (pv 0) rfl)) (blkOk_by (own := [("item", 3)]) (N := ["self", "names", "letters", "item"]) (sc := defScope s_T_renamed) (by decide +kernel))
        (fun _ _ _ _ _ => pg_name (i := 3) nd rfl (Or.inl rfl)) (fun _ _ _ _ _ => pts_nil)
        (fun _ _ _ _ _ => pe_ix ix_str (pv 1) (pe_bm PySem.F.plainAttrs_str PySem.F.slot_str_index PySem.F.type_str_index mt_indexT (C8.pe_gc (by rfl) T.letters) (pa_cons (pv 3) pa_nil)) (fun _ _ => rfl)))) (pa_cons (pe_fld (pv 0) rfl) pa_nil))))))), ?_⟩
    refine ⟨_, rfl, a, CT K, dx, _, _, rfl, ea, T.cl, T.nP, tf_players l n, _, rfl, _, rfl, abc_size, ?_⟩
    rw [slice_abc g.six]
    have h6 := g.six
    have hl2 := g.len
    refine ⟨_, rfl, _, _, _, _, true, rfl, .ty "str", .base (.str _), kit_ty (by decide +kernel), true, rfl, ?_⟩
    refine ⟨_, rfl, _, rfl, (by rw [tx_size, hn.len]; omega), fun ys p hp hs np => ?_⟩
    have ey := sorted_names hn hp hs
    subst ey
    refine ⟨_, rfl, _, rfl, (by rw [tx_len, List.length_range, sizeLine_eq]; omega), fun q nq => ?_⟩
    have npq : p ≠ q := fun z => by
      rw [z] at nq
      rw [upd_same] at nq
      cases nq
    have eD : (signsOf (tx (List.range n))).map V.str = (List.range n).map fun x => V.str (tx [x]) := by rw [signs_tx, List.map_map]; rfl
    have sh := shaped_letters (l := List.range n) fun x hx => Nat.lt_of_lt_of_le (List.mem_range.mp hx) h6
    refine ⟨_, _, .lst (SqL.of (by rw [upd_ne npq, upd_same])) ?_, .lst (SqL.of upd_same) ?_, sh, sh, _, rfl, ?_⟩
    · rw [eD]
      exact dpAll_map _ fun x _ => .str _
    · rw [eD]
      exact dpAll_map _ fun x _ => .str _
    · rw [SeqAt.eqv_refl _ (SeqAt.canLay_of_shaped sh)]
      have sm1 : Same H (upd (upd H p (.lst ((signsOf (tx (List.range n))).map V.str))) q (.lst ((signsOf (tx (List.range n))).map V.str))) := (same_new np).trans (same_new nq)
      refine ⟨⟨_, rfl⟩, _, rfl, a, CT K, dx, _, _, rfl, sm1 _ _ ea, T.cl, T.nT, tf_text l n, _, rfl, fun D hD => ?_⟩
      refine lc_pure walk_str (fun i => ((l.take i).map fun x => V.str (tx [nm.getD x 0]))) hD rfl (fun i hi => ?_) (fun _ _ => True.intro) (fun i v H1 H2 hi sm y => ?_) (fun H2 sm e => ?_)
      · rw [tx_size] at hi
        rw [List.length_map, List.length_take, sizeLine_eq]
        omega
      · obtain ⟨rfl, c, ec, rfl⟩ := y
        rw [tx_at] at ec
        obtain ⟨x, ex, rfl⟩ := Option.map_eq_some_iff.mp ec
        have hx := g.lt x (List.mem_of_getElem? ex)
        refine ⟨Same.refl _, fun Fin FinN h1 h2 => ?_⟩
        refine ⟨rfl, _, rfl, rfl, _, rfl, _, _, x, rfl, rfl, index_abc (Nat.lt_of_lt_of_le hx h6), ?_⟩
        refine ⟨_, _, _, rfl, rfl, (by rw [tx_len, hn.len, sizeLine_eq]; omega), at_tx (hn.at_ hx), ?_⟩
        refine h1 _ _ (Same.refl _) ?_
        rw [List.take_add_one, ex, List.map_append]
        rfl
      · rw [tx_size, List.take_length] at e
        have e2 : (l.map fun x => V.str (tx [nm.getD x 0])) = ((Tb.ren nm l).map fun x => tx [x]).map V.str := by
          unfold Tb.ren
          rw [List.map_map, List.map_map]
          rfl
        rw [e2] at e
        refine ⟨_, D, _, rfl, rfl, .inl (SqL.of e), ?_, ?_⟩
        · have e3 : ((Tb.ren nm l).map fun x => tx [x]) = ((Tb.ren nm l).map fun x => [x]).map tx := by rw [List.map_map]; rfl
          rw [e3, lens_tx, List.length_flatten, List.map_map]
          have : ∀ z : List Nat, (z.map (List.length ∘ fun x => [x])).sum = z.length := fun z => by
            induction z with
            | nil => rfl
            | cons x r ih => rw [List.map_cons, List.sum_cons, ih, List.length_cons]; show 1 + _ = _; omega
          rw [this, Tb.ren_len]
          omega
        · rw [join_one]
          exact ⟨_, rfl, a, CT K, dx, _, _, rfl, sm _ _ (sm1 _ _ ea), T.cl, T.nP, tf_players l n, _, n, rfl, g.ren hn, fun H2 b sm2 _ tb => k H2 b ((sm1.trans sm).trans sm2) tb⟩
end
end TB
set_option maxHeartbeats 4000000
namespace TB
open PySem PySem.Spec PyProof.Rows L2
section
variable {P : Program} {w : World} {K : PySem.W.Frag} {mg : Str → Option Value} {base : Heap}
abbrev iV (ns : List Int) : List V := ns.map V.int
def spNext (K : PySem.W.Frag) : Sp := fun vs H Q _ => ∃ (r : Addr) (m d : Nat), vs = [.ref r, .int (d : Int)] ∧ m ≤ 2000 ∧ d ≤ 2000 ∧ SqL K H r (iV (Tb.binRow m d)) ∧ ∀ H' p, Same H H' → H p = none → H' p = some (.lst (iV (Tb.binRow m (d + 1)))) → Q (.ref p) H'
theorem sc_next : FnScope ["row", "degree", "position", "choices"] ["row", "degree"] (defScope s_next_binomials) := ⟨rfl, rfl, rfl, by decide +kernel, rfl, by decide +kernel, by decide +kernel⟩
theorem nat_lt_pow {i : Int} {m : Nat} (h0 : 0 ≤ i) (h : i ≤ 2 ^ m) : i.natAbs < 2 ^ (m + 1) := by
  have h1 : ((i.natAbs : Nat) : Int) ≤ ((2 ^ m : Nat) : Int) := by
    rw [Int.natAbs_of_nonneg h0]
    simpa using h
  have h2 : i.natAbs ≤ 2 ^ m := Int.ofNat_le.mp h1
  have h3 : 2 ^ m < 2 ^ (m + 1) := Nat.pow_lt_pow_right (by decide) (Nat.lt_succ_self _)
  omega
theorem small_lt {i : Int} (h0 : -2001 ≤ i) (h : i ≤ 2001) : i.natAbs < 2 ^ 12 := by
  have : i.natAbs ≤ 2001 := by omega
  have h2 : (2 : Nat) ^ 12 = 4096 := by decide
  omega
theorem binRow_snoc (m j i : Nat) (h : i < m) : (Tb.binRow m j).take (i + 1) = (Tb.binRow m j).take i ++ [((Tb.choose i j : Nat) : Int)] := by
  rw [List.take_add_one, Tb.binRow_get m j i h]
  rfl
theorem cal_next (T : Tx K mg base) : Cal P w K mg base 1 "next_binomials" ["row", "degree"] (spNext K) := by
  refine cal_of (i := 13) (j := 6) T d_next_binomials rfl rfl rfl rfl rfl (fun _ _ _ _ _ _ us hl => match us, hl with | [_, _], _ => rfl) fun f fd F => ?_
  refine F.ok sc_next (fun vs H Q E h => ?_) (fun cdv A outer s H vs Q E hr h => ?_)
  · obtain ⟨r, m, d, rfl, _⟩ := h
    rfl
  · obtain ⟨r, m, d, rfl, hm, hd, hS, k⟩ := h
    have nd := sc_next.nd
    refine ⟨_, PSs.nox (pss_one (ps_ret (pe_lc (own := [("position", 2), ("choices", 3)]) (g := gTup K 2 (gCons (gName 2) (gCons (gName 3) gNil))) (by rfl) nd (pi_enum (by rfl) T.enumerate (pa_cons (pv 0) pa_nil)) (blkOk_by (own := [("position", 2), ("choices", 3)]) (N := ["row", "degree", "position", "choices"]) (sc := defScope s_next_binomials) (by decide +kernel))
        (fun _ _ _ _ _ => pg_tup (by rfl) (pgs_cons (pg_name (i := 2) nd rfl (Or.inl rfl)) (pgs_cons (pg_name (i := 3) nd rfl (Or.inl rfl)) pgs_nil)))
        (fun _ _ _ _ _ => pts_nil) (fun _ _ _ _ _ => pe_op op_fdivW (pe_op op_mulW (pv 3) (pe_op op_sub (pv 2) (pv 1))) (pe_op op_add (pv 1) pe_int))))), ?_⟩
    refine ⟨_, rfl, r, _, rfl, hS, fun D hD => ?_⟩
    refine lc_pure walk_enum (fun i => iV ((Tb.binRow m (d + 1)).take i)) hD rfl (fun i hi => ?_) (fun H2 sm => sm.seq hS) (fun i v H1 H2 hi sm y => ?_) (fun H2 sm e => ?_)
    · rw [List.length_map, Tb.binRow_len] at hi
      rw [List.length_map, List.length_take, sizeLine_eq]
      omega
    · rw [List.length_map, Tb.binRow_len] at hi
      obtain ⟨T1, x1, x2, rfl, hT, rfl, e1, e2⟩ := y
      cases e1
      have e3 : (iV (Tb.binRow m d))[i]? = some x2 := e2
      rw [List.getElem?_map, Tb.binRow_get m d i hi] at e3
      cases e3
      refine ⟨same_new hT, fun Fin FinN h1 h2 => ?_⟩
      refine ⟨T1, [_, _], rfl, SqT.of upd_same, rfl, _, _, rfl, _, _, rfl, rfl, rfl, ?_⟩
      have c0 : (0 : Int) ≤ (Tb.choose i d : Int) := Int.natCast_nonneg _
      have c1 : (Tb.choose i d : Int) ≤ 2 ^ i := by
        have := Tb.choose_le i d
        exact_mod_cast this
      refine ⟨_, rfl, _, rfl, _, rfl, _, _, rfl, rfl, _, _, rfl, rfl, wide_mul (nat_lt_pow c0 c1) (small_lt (by omega) (by omega)) (by omega) (by omega) (by omega), _, rfl, _, _, rfl, rfl, _, _, rfl, rfl, wide_div (by omega) (small_lt (by omega) (by omega)) (by omega) (by omega), ?_⟩
      refine h1 _ _ (Same.refl _) ?_
      show iV ((Tb.binRow m (d + 1)).take (i + 1)) = iV ((Tb.binRow m (d + 1)).take i) ++ [V.int (((Tb.choose i d : Nat) : Int) * ((i : Int) - (d : Int)) / ((d : Int) + 1))]
      rw [binRow_snoc _ _ _ hi, iV, List.map_append, Tb.choose_div]
      rfl
    · rw [List.length_map, Tb.binRow_len] at e
      rw [List.take_of_length_le (by rw [Tb.binRow_len]; exact Nat.le_refl _)] at e
      exact k _ _ sm hD e
theorem sc_rows : GScope ["length", "degree", "row", "number"] ["length", "degree"] (defScope s_binomial_rows) := ⟨rfl, rfl, rfl, by decide +kernel, rfl, by decide +kernel, by decide +kernel⟩
theorem flat_one {α : Type} (x : α) : ∀ n : Nat, (List.replicate n [x]).flatten = List.replicate n x
  | 0 => rfl
  | n + 1 => by rw [List.replicate_succ, List.flatten_cons, flat_one x n, List.replicate_succ]; rfl
theorem norm_rows (x : Str) : (defScope s_binomial_rows).names.lookup x ≠ some .cell ∧ (defScope s_binomial_rows).names.lookup x ≠ some .free := by
  have h : ∀ y ∈ (defScope s_binomial_rows).names, y.2 ≠ .cell ∧ y.2 ≠ .free := by decide +kernel
  have g : ∀ (l : List (Str × NameKind)) (k : NameKind), l.lookup x = some k → ∃ y ∈ l, y.2 = k := fun l k e => by
    induction l with
    | nil => cases e
    | cons z r ih =>
      rw [List.lookup_cons] at e
      cases q : (x == z.1) with
      | true =>
        rw [q] at e
        exact ⟨z, List.mem_cons_self .., Option.some.inj e⟩
      | false =>
        rw [q] at e
        obtain ⟨y, hy, e2⟩ := ih e
        exact ⟨y, List.mem_cons_of_mem _ hy, e2⟩
  refine ⟨fun e => ?_, fun e => ?_⟩
  · obtain ⟨y, hy, e2⟩ := g _ _ e
    exact (h y hy).1 e2
  · obtain ⟨y, hy, e2⟩ := g _ _ e
    exact (h y hy).2 e2
theorem first_row {m : Nat} (hm : m ≤ 2000) {D : Ends} {σ : L2.St} {H : Hp} (e : σ[0]? = some (some (.int (m : Int)))) (k : ∀ H' p, Same H H' → H p = none → H' p = some (.lst (iV (Tb.binRow m 0))) → D.nx (σ.set 2 (some (.ref p))) H') :
    tAsg (tOp rRep (tLst (tCons (tC (.int 1)) tNil)) (tVar 0)) (gName 2) D σ H := by
  refine ⟨by rw [sizeLine_eq]; decide, fun p hp => ⟨_, e, p, _, [.int 1], rfl, rfl, upd_same, by omega, by omega, ?_, fun q hq => ?_⟩⟩
  · rw [sizeLine_eq]
    simp
    omega
  · have hq0 : H q = none := by
      by_cases z : q = p
      · rw [z]; exact hp
      · rw [upd_ne z] at hq; exact hq
    refine k _ q ((same_new hp).trans (same_new hq)) hq0 ?_
    rw [upd_same, flat_one, Tb.binRow_zero, iV, List.map_replicate, Int.toNat_natCast]
end
open Gx in
/-- binomial_rows(length, degree), a generator not begun -/
theorem pr_rows {X : Cx} {k' : Nat} {e1 e2 : Expr} {p pos : Pos} {t : TA} (T : Tx X.K X.mg X.base) (hxe : ∀ e s, ¬ X.xe e s) (hr : Room k' X.A) (hg : Gl X "binomial_rows") (ha : PA X [e1, e2] t) (hk : 2 ≤ k' := by decide)
    (he : starEach [e1, e2] X.env = (false, eval e1 X.env) :: starEach [e2] X.env := by rfl) (hpl : (backTo pos (starEach [e2] X.env)).any (·.1) = false := by rfl) :
    PRows X 2 (.Call (.Name "binomial_rows" p) [e1, e2] [] pos) (fun σ H cont => t σ H fun vs H1 => ∃ m d : Nat, vs = [.int (m : Int), .int (d : Int)] ∧ m ≤ 2000 ∧ d ≤ 2000 ∧ cont (d + 1) (fun i => Tb.binRow m i) H1) := by
  obtain ⟨fd, F⟩ := T.dd 14 (d := d_binomial_rows) rfl
  have hm : X.mg "binomial_rows" = some (.ref (He.fAd X.K d_binomial_rows.at_)) := T.glo 7
  have hb : Binds X.K fd ["length", "degree"] [] := FunD.bindsN F (fun _ _ _ _ _ _ us hl => match us, hl with | [_, _], _ => rfl)
  refine ⟨fun pins s σ H cont I h => ?_⟩
  refine wpAny_Call_Name_kw (ld_glob I hg hm ?_ (by decide))
  refine PySem.W.callWith_K (h₀ := X.base) I.ok.mod.kin F.kp (wpAny_mono (ha.run pos pins s σ H _ I h) (fun us s1 ⟨vs, H1, I1, r, q⟩ => ⟨I1.kIn, ?_⟩) fun e s1 z => (hxe e s1 z).elim) he hpl
  obtain ⟨m, d, rfl, hm2, hd2, q⟩ := q
  have hl : us.length = 2 := r.length.symm
  have hbt := hb s1 us I1.kIn (by rw [List.append_nil]; exact hl)
  rw [List.append_nil] at hbt
  obtain ⟨oc, od, dV, kV, doc, pm, an, cdv, ct, osl, rfl, lk, hcd, _, _⟩ := F.ex
  have edm : (((d : Nat) : Int) + 1).toNat = d + 1 := by omega
  have nd := sc_rows.nd
  have main := born_of (P := X.prog) (w := X.w) (K := X.K) (mg := X.mg) (base := X.base) (k := 1) (n := (m : Int)) (d := (d : Int)) (row := fun i => Tb.binRow m i) (A := X.A) (outer := X.stack) (s := s1) (H := H1)
    (t1 := tAsg (tOp rRep (tLst (tCons (tC (.int 1)) tNil)) (tVar 0)) (gName 2)) (tN := tAsg (tCall (spNext X.K) [] E0 (tCons (tVar 2) (tCons (tVar 3) tNil))) (gName 2)) (ta := tCons (tOp (rI0 fun i j => .int (i + j)) (tVar 1) (tC (.int 1))) tNil)
    lk hcd sc_rows rfl rfl (fun L => rfl) (fun x => norm_rows x) (by omega) (by omega) T.range rfl
    (fun A outer L xx s H hr => ps_set (i := 2) nd rfl (Or.inl rfl) (pe_op op_rep (pe_lst (pa_cons pe_int pa_nil)) (pv 0)))
    (fun D σ H e k => first_row hm2 e k)
    (fun A outer L xx s H => pa_cons (pe_op op_add (pv 1) pe_int) pa_nil)
    (fun L => rfl)
    (fun σ H Q e k => ⟨_, e, _, _, rfl, rfl, k⟩)
    (fun A outer L xx s H => pg_name (i := 3) nd rfl (Or.inl rfl))
    (fun A outer L xx s H => pv 2)
    (fun A outer L xx s H hr => ps_set (i := 2) nd rfl (Or.inl rfl) (pe_cal (cal_next T) hr (by rfl) (pa_cons (pv 2) (pa_cons (pv 3) pa_nil))))
    (fun i D σ H r hi e2 e3 hS k => ⟨_, e2, _, e3, r, m, i, rfl, hm2, by omega, hS, k⟩)
    (hr.mono hk) I1.env0 hbt r
  rw [edm] at main
  refine wpAny_call (codeAny_mono main fun r' s' hq => ?_)
  cases r' with
  | error e => exact hq.elim
  | ok fl =>
    cases fl with
    | ret u => exact ⟨H1, s1, d + 1, _, I1, hq, q⟩
    | next => exact hq.elim
    | brk => exact hq.elim
    | cont => exact hq.elim
end TB
set_option maxHeartbeats 4000000
/-! dict comprehensions whose turns only add; dicts keyed by letters; the scopes of comprehensions -/
namespace TB
open PySem PySem.Spec PyProof.Rows L2
theorem dc_pure {J : It} {n : Nat} {G : Hp → Prop} {Y : Nat → Hp → V → Hp → Prop} (w : Walk J n G Y) {g : TG} {tt : TT} {tk tv : TE} {vs : List Nat} {σ : L2.St} {H1 : Hp} {D : Addr} {Qd : Hp → Prop} (out : Nat → List (Key × V)) (hD : H1 D = none) (h0 : out 0 = [])
    (hlen : ∀ i, i < n → (out i).length < sizeLine) (hG : ∀ H, Same H1 H → G H)
    (hs : ∀ i x H H', i < n → Same H1 H → H D = some (.dK (out i)) → Y i H x H' → Same H H' ∧ ∀ (Fin : V → V → Hp → Prop) (FinN : Hp → Prop), (∀ k z H5, Same H' H5 → out (i + 1) = putK (out i) k z → Fin (kV k) z H5) → (∀ H3, Same H' H3 → out (i + 1) = out i → FinN H3) →
      g x (wipe σ vs) H' fun σ2 H2 => wipe σ2 vs = wipe σ vs ∧ tt σ2 H2 fun b H3 => if b = true then tk σ2 H3 fun y H4 => tv σ2 H4 fun z H5 => Fin y z H5 else FinN H3)
    (hd : ∀ H, Same H1 H → H D = some (.dK (out n)) → Qd H) :
    ∃ W : Nat → Nat → Hp → Prop, (∃ m, W 0 m (upd H1 D (.dK []))) ∧ ∀ i m H, W i m H →
      (J.stop i H ∧ Qd H) ∨ (J.go i H ∧ ∃ Nx : Hp → Prop, (∀ H', Nx H' → ∃ m', m' < m ∧ W (i + 1) m' H') ∧ ∀ x H', J.yld i H x H' → g x (wipe σ vs) H' fun σ2 H2 => wipe σ2 vs = wipe σ vs ∧ tt σ2 H2 fun b H3 =>
        if b = true then tk σ2 H3 fun y H4 => tv σ2 H4 fun z H5 => ∃ kvs k, y = kV k ∧ H5 D = some (.dK kvs) ∧ kvs.length < sizeLine ∧ Nx (upd H5 D (.dK (putK kvs k z))) else Nx H3) := by
  refine ⟨fun i m H => m = n - i ∧ i ≤ n ∧ Same H1 H ∧ H D = some (.dK (out i)), ⟨n, by simp, Nat.zero_le _, same_upd (Same.refl _) hD, by rw [upd_same, h0]⟩, ?_⟩
  rintro i m H ⟨rfl, hi, p1, p2⟩
  have q := hG H p1
  by_cases hlt : i < n
  · refine .inr ⟨w.goes i H hlt q, fun H => Same H1 H ∧ H D = some (.dK (out (i + 1))), fun H' p' => ⟨n - (i + 1), by omega, rfl, hlt, p'⟩, fun x H' y => ?_⟩
    obtain ⟨s1, r⟩ := hs i x H H' hlt p1 p2 (w.yields i H x H' hlt q y)
    exact r (fun y z H5 => ∃ kvs k, y = kV k ∧ H5 D = some (.dK kvs) ∧ kvs.length < sizeLine ∧ Same H1 (upd H5 D (.dK (putK kvs k z))) ∧ upd H5 D (.dK (putK kvs k z)) D = some (.dK (out (i + 1)))) _
      (fun k z H5 s5 e => ⟨out i, k, rfl, s5 _ _ (s1 _ _ p2), hlen i hlt, same_upd ((p1.trans s1).trans s5) hD, by rw [upd_same, e]⟩)
      fun H3 s3 e => ⟨(p1.trans s1).trans s3, by rw [s3 _ _ (s1 _ _ p2), e]⟩
  · have e : i = n := by omega
    subst e
    exact .inl ⟨w.stops H q, hd H p1 p2⟩
/-- the dict of the letters below n -/
def dkv (n : Nat) (f : Nat → V) : List (Key × V) := (List.range n).map fun c => ((Sum.inr (tx [c]) : Key), f c)
theorem key_inj {a b : Nat} (h : (Sum.inr (tx [a]) : Key) = Sum.inr (tx [b])) : a = b := by
  have h1 : tx [a] = tx [b] := by injection h
  have h2 := tx_inj h1
  injection h2
theorem dkv_get {n c : Nat} {f : Nat → V} (h : c < n) : valV (dkv n f) (Sum.inr (tx [c]) : Key) = some (f c) := by
  induction n with
  | zero => omega
  | succ n ih =>
    have e : dkv (n + 1) f = dkv n f ++ [((Sum.inr (tx [n]) : Key), f n)] := by
      unfold dkv
      rw [List.range_succ, List.map_append]
      rfl
    rw [e]
    by_cases hc : c = n
    · subst hc
      have hno : valV (dkv c f) (Sum.inr (tx [c]) : Key) = none := by
        unfold valV
        rw [List.find?_eq_none.mpr]
        · rfl
        · intro x hx
          obtain ⟨a, ha, rfl⟩ := List.mem_map.mp hx
          have := List.mem_range.mp ha
          simp only [decide_eq_true_eq]
          intro z
          have := key_inj z
          omega
      rw [valV_snoc _ _ _ _ hno, if_pos rfl]
    · have hlt : c < n := by omega
      have h1 := ih hlt
      unfold valV at h1 ⊢
      rw [List.find?_append]
      cases q : List.find? (fun kv => decide (kv.1 = (Sum.inr (tx [c]) : Key))) (dkv n f) with
      | none => rw [q] at h1; cases h1
      | some y => rw [q] at h1; exact h1
theorem dkv_no {n c : Nat} {f : Nat → V} (h : n ≤ c) : valV (dkv n f) (Sum.inr (tx [c]) : Key) = none := by
  unfold valV
  rw [List.find?_eq_none.mpr]
  · rfl
  · intro x hx
    obtain ⟨a, ha, rfl⟩ := List.mem_map.mp hx
    have := List.mem_range.mp ha
    simp only [decide_eq_true_eq]
    intro z
    have := key_inj z
    omega
theorem dkv_put (n : Nat) (f : Nat → V) : dkv (n + 1) f = putK (dkv n f) (Sum.inr (tx [n]) : Key) (f n) := by
  rw [putK_new _ (dkv_no (Nat.le_refl n))]
  unfold dkv
  rw [List.range_succ, List.map_append]
  rfl
theorem dkv_len (n : Nat) (f : Nat → V) : (dkv n f).length = n := by
  unfold dkv
  rw [List.length_map, List.length_range]
/-! ### the scopes of comprehensions -/
def compScope : Expr → Scope
  | .ListComp _ _ sc _ => sc
  | .DictComp _ _ _ sc _ => sc
  | _ => { kind := .function, names := [], isGenerator := false, isCoroutine := false }
def exprOf : Stmt → Expr
  | .Return (some e) _ => e
  | .Assign _ e _ => e
  | .Expr e _ => e
  | _ => .Name "" ⟨0, 0, 0, 0⟩
def argOf : Expr → Expr
  | .Call _ (e :: _) _ _ => e
  | _ => .Name "" ⟨0, 0, 0, 0⟩
def valOf : Expr → Expr
  | .DictComp _ v _ _ _ => v
  | .ListComp e _ _ _ => e
  | _ => .Name "" ⟨0, 0, 0, 0⟩
def bodyAt (st : Stmt) (i : Nat) : Expr := exprOf ((defBody st).getD i (.Pass ⟨0, 0, 0, 0⟩))
section
variable {P : Program} {w : World} {K : PySem.W.Frag} {mg : Str → Option Value} {base : Heap}
def spTotals (K : PySem.W.Frag) : Sp := fun vs H Q _ => ∃ (a : Addr) (l : List Nat) (n : Nat) (r : Addr) (row : List Int), vs = [.ref a, .ref r] ∧ TAt (CT K) H a l n ∧ Good l n ∧ SqL K H r (iV row) ∧ row.length = l.length ∧
  ∀ H' p, Same H H' → H p = none → H' p = some (.dK (dkv n fun c => .int (Tb.tot l c row))) → Q (.ref p) H'
abbrev N_tot : List Str := ["turns", "values", "player", "position"]
theorem sc_tot : FnScope N_tot ["turns", "values"] (defScope s_totals_for) := ⟨rfl, rfl, rfl, by decide +kernel, rfl, by decide +kernel, by decide +kernel⟩
theorem iV_at {row : List Int} {j : Nat} (h : j < row.length) : atI (iV row) (j : Int) = some (V.int (row.getD j 0)) := by
  refine atI_nat ?_
  rw [List.getElem?_map, List.getD_eq_getElem?_getD, List.getElem?_eq_getElem h]
  rfl
theorem cal_totals (T : Tx K mg base) : Cal P w K mg base 4 "totals_for" ["turns", "values"] (spTotals K) := by
  refine cal_of (i := 15) (j := 8) T d_totals_for rfl rfl rfl rfl rfl (fun _ _ _ _ _ _ us hl => match us, hl with | [_, _], _ => rfl) fun f fd F => ?_
  refine F.ok sc_tot (fun vs H Q E h => ?_) (fun cdv A outer s H vs Q E hr h => ?_)
  · obtain ⟨a, l, n, r, row, rfl, _⟩ := h
    rfl
  · obtain ⟨a, l, n, r, row, rfl, ha, g, hS, hrl, k⟩ := h
    have nd := sc_tot.nd
    refine ⟨_, PSs.nox (pss_one (ps_ret (pe_dc (own := [("player", 2)]) (g := gName 2) (tk := tVar 2)
      (tv := tCB (rSum K) (tCons (tLc (iList K (tMeth (CT K) "positions" (spPositions (CT K)) [] E0 (tVar 0) (tCons (tVar 2) tNil))) (gName 3) tYes (tOp (rIxL K) (tVar 1) (tVar 3)) [3]) tNil))
      (by rfl) nd (pi_str (pe_cal (cal_letters_of T) hr (by rfl) (pa_cons (pv 0) pa_nil))) (blkOk_by (own := [("player", 2)]) (N := N_tot) (sc := defScope s_totals_for) (by decide +kernel))
      (fun _ _ _ _ _ => pg_name (i := 2) nd rfl (Or.inl rfl)) (fun _ _ _ _ _ => pts_nil) (fun _ _ _ _ _ => pv 2)
      (fun _ _ _ _ _ => pe_callB (cr_sum (by rfl)) (by rfl) T.sum (by decide +kernel) (pa_cons (pe_lc (own := [("position", 3)]) (g := gName 3) (te := tOp (rIxL K) (tVar 1) (tVar 3)) (by rfl) nd (pi_list (pe_mal (mal_positions T) T.cl hr (pv 0) (pa_cons (pv 2) pa_nil)))
        (blkOk_by (own := [("position", 3)]) (N := N_tot) (by rfl))
        (fun _ _ _ _ _ => pg_name (i := 3) nd rfl (Or.inl rfl)) (fun _ _ _ _ _ => pts_nil) (fun _ _ _ _ _ => pe_ix ix_list (pv 1) (pv 3) (fun _ _ => rfl))) pa_nil))))), ?_⟩
    refine ⟨_, rfl, a, l, n, rfl, ha, g.six, _, rfl, fun D hD => ?_⟩
    have g6 := g.six
    have gl := g.len
    refine dc_pure walk_str (fun i => dkv i fun c => .int (Tb.tot l c row)) hD rfl (fun i hi => ?_) (fun _ _ => True.intro) (fun i v H1 H2 hi sm hDi y => ?_) (fun H2 sm e => ?_)
    · rw [tx_size, List.length_range] at hi
      rw [dkv_len, sizeLine_eq]
      omega
    · rw [tx_size, List.length_range] at hi
      obtain ⟨rfl, c, ec, rfl⟩ := y
      rw [tx_at, List.getElem?_range hi] at ec
      cases ec
      refine ⟨Same.refl _, fun Fin FinN h1 h2 => ?_⟩
      refine ⟨rfl, _, rfl, ?_⟩
      obtain ⟨dx, ea⟩ := ha
      have ea1 := sm _ _ ea
      refine ⟨_, rfl, a, dx, _, rfl, ea1, tf_no l n, _, rfl, a, l, n, i, rfl, ⟨dx, ea1⟩, g, hi, fun H3 p3 sm3 e3 => ?_⟩
      refine ⟨p3, rfl, ⟨_, SqL.of e3⟩, fun D2 hD2 => ?_⟩
      refine lc_pure (walk_list (xs := nV (Tb.posFrom i 0 l))) (fun j => iV (((Tb.posFrom i 0 l).take j).map fun q => row.getD q 0)) hD2 rfl (fun j hj => ?_) (fun H4 sm4 => SqL.of (sm4 _ _ e3)) (fun j v H4 H5 hj sm4 y => ?_) (fun H4 sm4 e4 => ?_)
      · have h3 := Tb.posFrom_len i l 0
        rw [List.length_map, List.length_map, List.length_take, sizeLine_eq]
        omega
      · obtain ⟨rfl, ev⟩ := y
        rw [nV, List.getElem?_map] at ev
        obtain ⟨q, eq, rfl⟩ := Option.map_eq_some_iff.mp ev
        refine ⟨Same.refl _, fun Fin2 FinN2 h3 h4 => ?_⟩
        have hq := Tb.posFrom_lt i l 0 q (List.mem_of_getElem? eq)
        refine ⟨rfl, _, rfl, _, rfl, r, _, _, _, rfl, rfl, ((sm.trans sm3).trans sm4).seq hS, iV_at (by omega), ?_⟩
        refine h3 _ _ (Same.refl _) ?_
        show iV (((Tb.posFrom i 0 l).take (j + 1)).map fun q => row.getD q 0) = _
        rw [List.take_add_one, eq, List.map_append, iV, List.map_append]
        rfl
      · rw [nV, List.length_map, List.take_length] at e4
        refine ⟨D2, _, rfl, SqL.of e4, ?_⟩
        exact h1 (Sum.inr (tx [i])) _ _ (sm3.trans sm4) (dkv_put i _)
    · rw [tx_size, List.length_range] at e
      exact k _ _ sm hD e
end
end TB
set_option maxHeartbeats 4000000
namespace TB
open PySem PySem.Spec PyProof.Rows L2
section
variable {P : Program} {w : World} {K : PySem.W.Frag} {mg : Str → Option Value} {base : Heap}
/-- pairs of letters, each a tuple of its own -/
def IsPr (H : Hp) (x : V) (q : Nat × Nat) : Prop := ∃ a, x = .ref a ∧ H a = some (.tup [.str (tx [q.1]), .str (tx [q.2])])
abbrev PP (H : Hp) (xs : List V) (ps : List (Nat × Nat)) : Prop := Paired (IsPr H) xs ps
theorem PP.keep {H H' : Hp} (k : ∀ a xs, H a = some (.tup xs) → H' a = some (.tup xs)) : ∀ {xs : List V} {ps : List (Nat × Nat)}, PP H xs ps → PP H' xs ps
  | _, _, .nil => .nil
  | _, _, .cons ⟨a, e, h⟩ r => .cons ⟨a, e, k a _ h⟩ (PP.keep k r)
theorem PP.len {H : Hp} : ∀ {xs : List V} {ps : List (Nat × Nat)}, PP H xs ps → xs.length = ps.length
  | _, _, .nil => rfl
  | _, _, .cons _ r => congrArg Nat.succ (PP.len r)
theorem PP.snoc {H : Hp} {x : V} {q : Nat × Nat} : ∀ {xs : List V} {ps : List (Nat × Nat)}, PP H xs ps → IsPr H x q → PP H (xs ++ [x]) (ps ++ [q])
  | _, _, .nil, h => .cons h .nil
  | _, _, .cons h1 r, h => .cons h1 (PP.snoc r h)
def prRow (f j : Nat) : List (Nat × Nat) := ((List.range j).filter fun s => decide (f < s)).map fun s => (f, s)
def prTo (n i j : Nat) : List (Nat × Nat) := ((List.range i).flatMap fun f => prRow f n) ++ prRow i j
theorem prRow_succ (f j : Nat) : prRow f (j + 1) = prRow f j ++ (if f < j then [(f, j)] else []) := by
  unfold prRow
  rw [List.range_succ, List.filter_append, List.map_append]
  by_cases h : f < j
  · simp [h]
  · simp [h]
theorem prTo_next (n i : Nat) : prTo n i n = prTo n (i + 1) 0 := by
  unfold prTo
  rw [List.range_succ, List.flatMap_append]
  simp [prRow]
theorem prTo_all (n : Nat) : prTo n n 0 = Tb.pairsOf n := by
  unfold prTo Tb.pairsOf prRow
  simp
theorem prRow_len (f j : Nat) : (prRow f j).length ≤ j := by
  unfold prRow
  rw [List.length_map]
  have := List.length_filter_le (fun s => decide (f < s)) (List.range j)
  rw [List.length_range] at this
  exact this
theorem flat_len (n : Nat) : ∀ i, ((List.range i).flatMap fun f => prRow f n).length ≤ i * n
  | 0 => by simp
  | i + 1 => by
    rw [List.range_succ, List.flatMap_append, List.length_append]
    have h1 := flat_len n i
    have h2 := prRow_len i n
    simp only [List.flatMap_cons, List.flatMap_nil, List.append_nil]
    rw [Nat.succ_mul]
    omega
theorem prTo_len {n i j : Nat} (hn : n ≤ 6) (hi : i ≤ n) (hj : j ≤ n) : (prTo n i j).length ≤ 42 := by
  unfold prTo
  rw [List.length_append]
  have h1 := flat_len n i
  have h2 := prRow_len i j
  have h3 : i * n ≤ 6 * 6 := Nat.mul_le_mul (by omega) hn
  omega
theorem lt_txt (a b : Nat) : decide ((tx [a]).cps.toList < (tx [b]).cps.toList) = decide (a < b) := by
  rw [← PyProof.Rows.ltCps_eq, lt_one]
def spPairs (C : Addr) : Sp := fun vs H Q _ => ∃ (a : Addr) (l : List Nat) (n : Nat), vs = [.ref a] ∧ TAt C H a l n ∧ n ≤ 6 ∧ ∀ H' p xs, Same H H' → H' p = some (.lst xs) → PP H' xs (Tb.pairsOf n) → Q (.ref p) H'
abbrev N_pairs : List Str := ["turns", "letters", "first", "second"]
theorem sc_pairs : FnScope N_pairs ["turns"] (defScope s_all_pairs) := ⟨rfl, rfl, rfl, by decide +kernel, rfl, by decide +kernel, by decide +kernel⟩
theorem cal_pairs (T : Tx K mg base) : Cal P w K mg base 4 "all_pairs" ["turns"] (spPairs (CT K)) := by
  refine cal_of (i := 18) (j := 11) T d_all_pairs rfl rfl rfl rfl rfl (fun _ _ _ _ _ _ us hl => match us, hl with | [_], _ => rfl) fun f fd F => ?_
  refine F.ok sc_pairs (fun vs H Q E h => ?_) (fun cdv A outer s H vs Q E hr h => ?_)
  · obtain ⟨a, l, n, rfl, _⟩ := h
    rfl
  · obtain ⟨a, l, n, rfl, ha, h6, k⟩ := h
    have nd := sc_pairs.nd
    refine ⟨_, PSs.nox (pss_cons (ps_set (i := 1) nd rfl (Or.inr rfl) (pe_cal (cal_letters_of T) hr (by rfl) (pa_cons (pv 0) pa_nil)))
      (pss_one (ps_ret (pe_lc2 (own := [("first", 2), ("second", 3)]) (vs1 := [3]) (g := gName 2) (g1 := gName 3) (wi1 := iStr (tVar 1)) (tt := tYes) (te := tTup (tCons (tVar 2) (tCons (tVar 3) tNil))) (by rfl) nd (pi_str (pv 1))
        (blkOk_by (own := [("first", 2), ("second", 3)]) (N := N_pairs) (sc := defScope s_all_pairs) (by decide +kernel)) (by decide)
        (fun _ _ _ _ _ => pg_name (i := 2) nd rfl (Or.inl rfl)) (fun _ _ _ _ _ => pts_nil) (fun _ _ _ _ _ => pi_str (pv 1)) (fun _ _ _ _ _ => pg_name (i := 3) nd rfl (Or.inl rfl))
        (fun _ _ _ _ _ => pts_one (pt_cmpR op_lt_str (pv 2) (pv 3) (nomark _))) (fun _ _ _ _ _ => pe_tup (pa_cons (pv 2) (pa_cons (pv 3) pa_nil))))))), ?_⟩
    refine ⟨_, rfl, a, l, n, rfl, ha, h6, _, rfl, _, rfl, fun D hD => ?_⟩
    have hsz : (tx (List.range n)).cps.size = n := by rw [tx_size, List.length_range]
    refine ⟨fun i m H' => m = n - i ∧ i ≤ n ∧ Same H H' ∧ ∃ xs, H' D = some (.lst xs) ∧ PP H' xs (prTo n i 0), ⟨n, by simp, Nat.zero_le _, same_upd (Same.refl _) hD, [], upd_same, .nil⟩, ?_⟩
    rintro i m H1 ⟨rfl, hi, sm, xs, e, hp⟩
    by_cases hlt : i < n
    · refine .inr ⟨by show i < (tx (List.range n)).cps.size; rw [hsz]; exact hlt, fun H' => Same H H' ∧ ∃ xs, H' D = some (.lst xs) ∧ PP H' xs (prTo n (i + 1) 0), fun H' p' => ⟨n - (i + 1), by omega, rfl, hlt, p'⟩, fun x H' y => ?_⟩
      obtain ⟨rfl, c, ec, rfl⟩ := y
      rw [tx_at, List.getElem?_range hlt] at ec
      cases ec
      refine ⟨rfl, _, rfl, _, rfl, ?_⟩
      refine ⟨fun j m H' => m = n - j ∧ j ≤ n ∧ Same H H' ∧ ∃ xs, H' D = some (.lst xs) ∧ PP H' xs (prTo n i j), ⟨n, by simp, Nat.zero_le _, sm, xs, e, hp⟩, ?_⟩
      rintro j m H2 ⟨rfl, hj, sm2, xs2, e2, hp2⟩
      by_cases hjlt : j < n
      · refine .inr ⟨by show j < (tx (List.range n)).cps.size; rw [hsz]; exact hjlt, fun H' => Same H H' ∧ ∃ xs, H' D = some (.lst xs) ∧ PP H' xs (prTo n i (j + 1)), fun H' p' => ⟨n - (j + 1), by omega, rfl, hjlt, p'⟩, fun x H' y => ?_⟩
        obtain ⟨rfl, c, ec, rfl⟩ := y
        rw [tx_at, List.getElem?_range hjlt] at ec
        cases ec
        have ej : prTo n i (j + 1) = prTo n i j ++ (if i < j then [(i, j)] else []) := by
          unfold prTo
          rw [prRow_succ, List.append_assoc]
        refine ⟨rfl, _, rfl, _, rfl, _, _, rfl, rfl, ?_⟩
        have d1 : decide ((⟨#[i + 65]⟩ : Str).cps.toList < (⟨#[j + 65]⟩ : Str).cps.toList) = decide (i < j) := lt_txt i j
        by_cases hij : i < j
        · rw [d1, decide_eq_true hij]
          refine ⟨true, rfl, ?_⟩
          refine ⟨_, rfl, _, rfl, (by show 2 ≤ sizeLine; decide), fun p hp0 => ?_⟩
          have nD : D ≠ p := ne_of_none e2 hp0
          refine ⟨xs2, by rw [upd_ne nD]; exact e2, ?_, ?_, _, upd_same, ?_⟩
          · rw [hp2.len]
            have := prTo_len h6 hi hj
            rw [sizeLine_eq]
            omega
          · exact same_upd (same_upd sm2 (sm2.free hp0)) hD
          · rw [ej, if_pos hij]
            refine PP.snoc (PP.keep (fun b ys hb => ?_) hp2) ⟨p, rfl, ?_⟩
            · have n1 : b ≠ p := ne_of_none hb hp0
              have n2 : b ≠ D := ne_of hb e2 (by intro z; cases z)
              rw [upd_ne n2, upd_ne n1]
              exact hb
            · rw [upd_ne nD.symm, upd_same]
              rfl
        · rw [d1, decide_eq_false hij]
          refine ⟨false, rfl, ?_⟩
          show Same H _ ∧ ∃ xs, _ = some (HO.lst xs) ∧ PP _ xs (prTo n i (j + 1))
          rw [ej, if_neg hij, List.append_nil]
          exact ⟨sm2, xs2, e2, hp2⟩
      · have ejn : j = n := by omega
        subst ejn
        refine .inl ⟨by show (tx (List.range j)).cps.size ≤ j; rw [hsz]; exact Nat.le_refl _, sm2, xs2, e2, ?_⟩
        rw [← prTo_next]
        exact hp2
    · have ein : i = n := by omega
      subst ein
      refine .inl ⟨by show (tx (List.range i)).cps.size ≤ i; rw [hsz]; exact Nat.le_refl _, k H1 D xs sm e ?_⟩
      rw [← prTo_all]
      exact hp
end
end TB
set_option maxHeartbeats 4000000
namespace TB
open PySem PySem.Spec PyProof.Rows L2 Gx
section
variable {P : Program} {w : World} {K : PySem.W.Frag} {mg : Str → Option Value} {base : Heap}
theorem Same.trim {H1 H : Hp} (h : Same H1 H) : Same H1 (trim H1 H) := fun b o e => by
  rw [trim_at (by rw [e]; simp)]
  exact h b o e
theorem Same.like {H1 H : Hp} (h : Same H1 H) : Like H1 H := fun b o e => .inl (h b o e)
theorem PP.same {H H' : Hp} (s : Same H H') {xs : List V} {ps : List (Nat × Nat)} (h : PP H xs ps) : PP H' xs ps := PP.keep (fun a ys e => s a _ e) h
theorem PP.at_ {H : Hp} : ∀ {xs : List V} {ps : List (Nat × Nat)} {i : Nat} {x : V}, PP H xs ps → xs[i]? = some x → ∃ q, ps[i]? = some q ∧ IsPr H x q
  | _, _, _, _, .nil, h => by cases h
  | _, _, 0, _, .cons h1 r, h => by
    cases h
    exact ⟨_, rfl, h1⟩
  | _, _, i + 1, _, .cons h1 r, h => PP.at_ (i := i) r (by simpa using h)
def spFD (K : PySem.W.Frag) : Sp := fun vs H Q _ => ∃ (a : Addr) (l : List Nat) (n : Nat) (q : Addr) (xs : List V) (ps : List (Nat × Nat)), vs = [.ref a, .ref q] ∧ TAt (CT K) H a l n ∧ Good l n ∧ H q = some (.lst xs) ∧ PP H xs ps ∧ (∀ pr ∈ ps, pr.1 < n ∧ pr.2 < n) ∧
  (∃ j, j < l.length ∧ Tb.differ l ps j = true) ∧ ∀ H' t x y z, Same H H' → H' t = some (.tup [.int (Tb.ldeg l ps : Nat), x, y, z]) → Q (.ref t) H'
abbrev N_fd : List Str := ["turns", "pairs", "degree", "row", "totals", "first", "second"]
theorem sc_fd : FnScope N_fd ["turns", "pairs"] (defScope s_first_difference) := ⟨rfl, rfl, rfl, by decide +kernel, rfl, by decide +kernel, by decide +kernel⟩
theorem cal_fd (T : Tx K mg base) : Cal P w K mg base 6 "first_difference" ["turns", "pairs"] (spFD K) := by
  refine cal_of (i := 17) (j := 10) T d_first_difference rfl rfl rfl rfl rfl (fun _ _ _ _ _ _ us hl => match us, hl with | [_, _], _ => rfl) fun f fd F => ?_
  refine F.ok sc_fd (fun vs H Q E h => ?_) (fun cdv A outer s H vs Q E hr h => ?_)
  · obtain ⟨a, l, n, q, xs, ps, rfl, _⟩ := h
    rfl
  · obtain ⟨a, l, n, q, xs, ps, rfl, ha, g, hq, hp, hlt, hex, k⟩ := h
    have nd := sc_fd.nd
    refine ⟨_, PSs.nox (pss_cons (ps_forRowsE (g := gTup K 2 (gCons (gName 2) (gCons (gName 3) gNil))) (fun e t z => z) (by rfl) hr (by rfl) T.enumerate
        (pr_rows T (fun e t z => z) hr (by rfl) (pa_cons (pe_callB (cr_lenTurns T hr) (by rfl) T.len PySem.boot_len (pa_cons (pv 0) pa_nil)) (pa_cons (pe_callB (cr_lenTurns T hr) (by rfl) T.len PySem.boot_len (pa_cons (pv 0) pa_nil)) pa_nil)))
        (pg_tup (by rfl) (pgs_cons (pg_name (i := 2) nd rfl (Or.inl rfl)) (pgs_cons (pg_name (i := 3) nd rfl (Or.inl rfl)) pgs_nil)))
        (pss_cons (ps_set (i := 4) nd rfl (Or.inl rfl) (pe_cal (cal_totals T) hr (by rfl) (pa_cons (pv 0) (pa_cons (pv 3) pa_nil))))
        (pss_one (ps_for (g := gTup K 2 (gCons (gName 5) (gCons (gName 6) gNil))) PassesOwn.never rfl (pi_list (pv 1)) (pg_tup (by rfl) (pgs_cons (pg_name (i := 5) nd rfl (Or.inl rfl)) (pgs_cons (pg_name (i := 6) nd rfl (Or.inl rfl)) pgs_nil)))
          (pss_one (ps_if (pt_cmpR op_ne (pe_dget (hu_of hr) (pv 4) (pv 5) (fun _ _ => rfl)) (pe_dget (hu_of hr) (pv 4) (pv 6) (fun _ _ => rfl)) (nomark _))
            (pss_one (ps_ret (pe_tup (pa_cons (pv 2) (pa_cons (pv 5) (pa_cons (pv 6) (pa_cons (pe_op op_sub (pe_dget (hu_of hr) (pv 4) (pv 5) (fun _ _ => rfl)) (pe_dget (hu_of hr) (pv 4) (pv 6) (fun _ _ => rfl))) pa_nil))))))) pss_nil))))))
      (pss_one (ps_ret pe_non))), ?_⟩
    refine ⟨_, rfl, a, l, n, rfl, ha, g.len, _, rfl, a, l, n, rfl, ha, g.len, l.length, l.length, rfl, g.len, g.len, ?_⟩
    refine ⟨fun i σ H' => i ≤ l.length + 1 ∧ Same H H' ∧ (∀ j, j < i → Tb.differ l ps j = false) ∧ ∃ d r t f s, σ = [some (.ref a), some (.ref q), d, r, t, f, s], ⟨Nat.zero_le _, Same.refl _, fun j hj => absurd hj (Nat.not_lt_zero _), none, none, none, none, none, rfl⟩, ?_, ?_⟩
    · rintro i σ H1 p o Tt hi ⟨_, sm, hno, d, r, t, f, s, rfl⟩ lk hp0 hT0
      refine ⟨Tt, [_, _], rfl, SqT.of upd_same, rfl, _, _, rfl, _, _, rfl, rfl, ?_⟩
      have nTp : p ≠ Tt := fun z => by
        rw [z, upd_same] at hT0
        cases hT0
      have smA : Same H1 (upd (upd H1 p (.frz o (.lst (iV (Tb.binRow l.length i))))) Tt (.tup [.int (i : Nat), .ref p])) := (same_new hp0).trans (same_new hT0)
      have hpf : (upd (upd H1 p (.frz o (.lst (iV (Tb.binRow l.length i))))) Tt (.tup [.int (i : Nat), .ref p])) p = some (.frz o (.lst (iV (Tb.binRow l.length i)))) := by rw [upd_ne nTp, upd_same]
      refine ⟨_, rfl, _, rfl, a, l, n, p, Tb.binRow l.length i, rfl, (ha.same sm).same smA, g, (Or.inl (Or.inr ⟨_, hpf⟩)), Tb.binRow_len _ _, fun H2 dd sm2 _ ed => ?_⟩
      have smB : Same H H2 := (sm.trans smA).trans sm2
      refine ⟨_, rfl, q, rfl, ⟨xs, SqL.of (smB _ _ hq)⟩, ?_⟩
      refine for_list (xs := xs) (fun j σ H' => H' = H2 ∧ (∀ m, m < j → ∀ pr, ps[m]? = some pr → Tb.bt l pr.1 i = Tb.bt l pr.2 i) ∧ ∃ f s, σ = [some (.ref a), some (.ref q), some (.int (i : Nat)), some (.ref p), some (.ref dd), f, s]) ⟨rfl, fun m hm => absurd hm (Nat.not_lt_zero _), f, s, rfl⟩ (fun j σ H' hj hv => by rw [hv.1]; exact SqL.of (smB _ _ hq)) ?_ ?_
      · rintro j x σ H' hx ⟨rfl, hall, f, s, rfl⟩
        obtain ⟨pr, epr, b, rfl, hb⟩ := PP.at_ (hp.same smB) hx
        obtain ⟨h1, h2⟩ := hlt pr (List.mem_of_getElem? epr)
        refine ⟨b, [_, _], rfl, SqT.of hb, rfl, _, _, rfl, _, _, rfl, rfl, ?_⟩
        have g1 : DGet H' dd (.str (tx [pr.1])) (some (.int (Tb.bt l pr.1 i))) := by
          have := DGet.k (k := Sum.inr (tx [pr.1])) ed
          rw [dkv_get h1] at this
          exact this
        have g2 : DGet H' dd (.str (tx [pr.2])) (some (.int (Tb.bt l pr.2 i))) := by
          have := DGet.k (k := Sum.inr (tx [pr.2])) ed
          rw [dkv_get h2] at this
          exact this
        refine ⟨_, rfl, _, rfl, dd, _, rfl, g1, _, rfl, _, rfl, dd, _, rfl, g2, rfl, _, rfl, ?_⟩
        by_cases hd : Tb.bt l pr.1 i = Tb.bt l pr.2 i
        · have d1 : (!decide (V.int (Tb.bt l pr.1 i) = V.int (Tb.bt l pr.2 i))) = false := by rw [hd, decide_eq_true rfl]; rfl
          rw [d1]
          refine ⟨rfl, fun m hm pr2 e2 => ?_, _, _, rfl⟩
          rcases Nat.lt_succ_iff_lt_or_eq.mp hm with z | z
          · exact hall m z pr2 e2
          · subst z
            rw [epr] at e2
            cases e2
            exact hd
        · have d1 : (!decide (V.int (Tb.bt l pr.1 i) = V.int (Tb.bt l pr.2 i))) = true := by
            rw [decide_eq_false fun z => hd (by injection z)]
            rfl
          rw [d1]
          have hdi : Tb.differ l ps i = true := List.any_eq_true.mpr ⟨pr, List.mem_of_getElem? epr, decide_eq_true hd⟩
          have hl : Tb.ldeg l ps = i := Tb.ldeg_eq (by omega) hdi hno
          refine ⟨_, rfl, _, rfl, _, rfl, _, rfl, _, rfl, dd, _, rfl, g1, _, rfl, _, rfl, dd, _, rfl, g2, _, _, rfl, rfl, (by show 4 ≤ sizeLine; decide), fun t ht => ?_⟩
          refine k _ t (.str (tx [pr.1])) (.str (tx [pr.2])) (.int (Tb.bt l pr.1 i - Tb.bt l pr.2 i)) (smB.trans (same_new ht)) ?_
          rw [upd_same, hl]
      · rintro σ H' ⟨rfl, hall, f, s, rfl⟩
        refine ⟨sm2 _ _ hpf, Same.like smB, by omega, Same.trim smB, fun j hj => ?_, _, _, _, _, _, rfl⟩
        rcases Nat.lt_succ_iff_lt_or_eq.mp hj with z | z
        · exact hno j z
        · subst z
          refine List.any_eq_false.mpr fun pr hpr => ?_
          obtain ⟨m, hm⟩ := List.getElem?_of_mem hpr
          have hml : m < xs.length := by
            rw [hp.len]
            rcases Nat.lt_or_ge m ps.length with z | z
            · exact z
            · rw [List.getElem?_eq_none z] at hm; cases hm
          rw [decide_eq_false (fun z => z (hall m hml pr hm))]
          exact Bool.false_ne_true
    · rintro σ H1 ⟨_, _, hno, _⟩
      obtain ⟨j, hj, hd⟩ := hex
      rw [hno j (by omega)] at hd
      cases hd
end
end TB
set_option maxHeartbeats 4000000
namespace TB
open PySem PySem.Spec PyProof.Rows L2
section
variable {P : Program} {w : World} {K : PySem.W.Frag} {mg : Str → Option Value} {base : Heap}
def spCert (C : Addr) : Sp := fun vs H Q _ => ∃ (a : Addr) (l : List Nat) (n : Nat), vs = [.ref a] ∧ TAt C H a l n ∧ Good l n ∧ ∀ H' t x y z, Same H H' → H' t = some (.tup [.int (Tb.ord l n : Nat), x, y, z]) → Q (.ref t) H'
theorem sc_cert : FnScope ["turns"] ["turns"] (defScope s_certificate) := ⟨rfl, rfl, rfl, by decide +kernel, rfl, by decide +kernel, by decide +kernel⟩
theorem cal_cert (T : Tx K mg base) : Cal P w K mg base 7 "certificate" ["turns"] (spCert (CT K)) := by
  refine cal_of (i := 19) (j := 12) T d_certificate rfl rfl rfl rfl rfl (fun _ _ _ _ _ _ us hl => match us, hl with | [_], _ => rfl) fun f fd F => ?_
  refine F.ok sc_cert (fun vs H Q E h => ?_) (fun cdv A outer s H vs Q E hr h => ?_)
  · obtain ⟨a, l, n, rfl, _⟩ := h
    rfl
  · obtain ⟨a, l, n, rfl, ha, g, k⟩ := h
    refine ⟨_, PSs.nox (pss_cons (ps_expr (pe_cal (cal_check_turns T) hr (by rfl) (pa_cons (pv 0) pa_nil)))
      (pss_one (ps_ret (pe_cal (cal_fd T) hr (by rfl) (pa_cons (pv 0) (pa_cons (pe_cal (cal_pairs T) hr (by rfl) (pa_cons (pv 0) pa_nil)) pa_nil)))))), ?_⟩
    refine ⟨_, rfl, a, l, n, rfl, ha, _, rfl, _, rfl, a, l, n, rfl, ha, g.six, fun H1 p xs sm e hp => ?_⟩
    refine ⟨a, l, n, p, xs, Tb.pairsOf n, rfl, ha.same sm, g, e, hp, fun pr hpr => ?_, Tb.all_some g.two g.ne g.lt, fun H2 t x y z sm2 e2 => k H2 t x y z (sm.trans sm2) e2⟩
    obtain ⟨p1, p2⟩ := pr
    have := Tb.mem_pairsOf.mp hpr
    exact ⟨by show p1 < n; omega, by show p2 < n; omega⟩
def spOrder (C : Addr) : Sp := fun vs H Q _ => ∃ (a : Addr) (l : List Nat) (n : Nat), vs = [.ref a] ∧ TAt C H a l n ∧ Good l n ∧ ∀ H', Same H H' → Q (.int (Tb.ord l n : Nat)) H'
theorem sc_order : FnScope ["turns"] ["turns"] (defScope s_order) := ⟨rfl, rfl, rfl, by decide +kernel, rfl, by decide +kernel, by decide +kernel⟩
theorem cal_order (T : Tx K mg base) : Cal P w K mg base 8 "order" ["turns"] (spOrder (CT K)) := by
  refine cal_of (i := 20) (j := 13) T d_order rfl rfl rfl rfl rfl (fun _ _ _ _ _ _ us hl => match us, hl with | [_], _ => rfl) fun f fd F => ?_
  refine F.ok sc_order (fun vs H Q E h => ?_) (fun cdv A outer s H vs Q E hr h => ?_)
  · obtain ⟨a, l, n, rfl, _⟩ := h
    rfl
  · obtain ⟨a, l, n, rfl, ha, g, k⟩ := h
    refine ⟨_, PSs.nox (pss_one (ps_ret (pe_ix ix_tup (pe_cal (cal_cert T) hr (by rfl) (pa_cons (pv 0) pa_nil)) pe_int (fun _ _ => rfl)))), ?_⟩
    refine ⟨_, rfl, a, l, n, rfl, ha, g, fun H' t x y z sm e => ?_⟩
    exact ⟨t, _, _, _, rfl, rfl, SqT.of e, rfl, k H' sm⟩
def ov : Option Nat → V
  | none => .non
  | some k => .int (k : Int)
def spPairOrder (C : Addr) : Sp := fun vs H Q _ => ∃ (a : Addr) (l : List Nat) (n f s : Nat), vs = [.ref a, .str (tx [f]), .str (tx [s])] ∧ TAt C H a l n ∧ Good l n ∧ f < n ∧ s < n ∧ ∀ H', Same H H' → Q (ov (Tb.pord l f s)) H'
theorem sc_pord : FnScope ["turns", "first", "second"] ["turns", "first", "second"] (defScope s_pair_order) := ⟨rfl, rfl, rfl, by decide +kernel, rfl, by decide +kernel, by decide +kernel⟩
theorem tx1_eq (f s : Nat) : decide (V.str (tx [f]) = V.str (tx [s])) = decide (f = s) := by
  by_cases h : f = s
  · subst h
    rw [decide_eq_true rfl, decide_eq_true rfl]
  · rw [decide_eq_false h, decide_eq_false]
    intro z
    have z2 : tx [f] = tx [s] := by injection z
    have z3 := tx_inj z2
    injection z3 with z4 _
    exact h z4
theorem cal_pord (T : Tx K mg base) : Cal P w K mg base 7 "pair_order" ["turns", "first", "second"] (spPairOrder (CT K)) := by
  refine cal_of (i := 21) (j := 14) T d_pair_order rfl rfl rfl rfl rfl (fun _ _ _ _ _ _ us hl => match us, hl with | [_, _, _], _ => rfl) fun f fd F => ?_
  refine F.ok sc_pord (fun vs H Q E h => ?_) (fun cdv A outer s H vs Q E hr h => ?_)
  · obtain ⟨a, l, n, f, s, rfl, _⟩ := h
    rfl
  · obtain ⟨a, l, n, f, s, rfl, ha, g, hf, hs, k⟩ := h
    refine ⟨_, PSs.nox (pss_cons (ps_expr (pe_cal (cal_check_turns T) hr (by rfl) (pa_cons (pv 0) pa_nil)))
      (pss_cons (ps_expr (pe_mal (mal_check_player T) T.cl hr (pv 0) (pa_cons (pv 1) pa_nil)))
      (pss_cons (ps_expr (pe_mal (mal_check_player T) T.cl hr (pv 0) (pa_cons (pv 2) pa_nil)))
      (pss_cons (ps_if (PW.pt (pw_or (pt_cmpR op_eq (pv 1) (pv 2) (nomark _)) (pw_or1 (pt_cmpR op_eq (pe_op op_add (pe_mal (mal_count T) T.cl hr (pv 0) (pa_cons (pv 1) pa_nil)) (pe_mal (mal_count T) T.cl hr (pv 0) (pa_cons (pv 2) pa_nil))) pe_int (nomark _))))) (pss_one (ps_ret pe_non)) pss_nil)
      (pss_one (ps_ret (pe_ix ix_tup (pe_cal (cal_fd T) hr (by rfl) (pa_cons (pv 0) (pa_cons (pe_lst (pa_cons (pe_tup (pa_cons (pv 1) (pa_cons (pv 2) pa_nil))) pa_nil)) pa_nil))) pe_int (fun _ _ => rfl)))))))), ?_⟩
    obtain ⟨dx, ea⟩ := id ha
    refine ⟨_, rfl, a, l, n, rfl, ha, _, rfl, a, dx, _, rfl, ea, tf_no l n, _, rfl, a, l, n, f, rfl, ha, g.six, hf, ?_⟩
    refine ⟨_, rfl, a, dx, _, rfl, ea, tf_no l n, _, rfl, a, l, n, s, rfl, ha, g.six, hs, ?_⟩
    refine ⟨_, rfl, _, rfl, rfl, _, rfl, ?_⟩
    rw [tx1_eq]
    by_cases hfs : f = s
    · rw [decide_eq_true hfs]
      have e : Tb.pord l f s = none := if_pos (.inl hfs)
      rw [e] at k
      exact k H (Same.refl _)
    · rw [decide_eq_false hfs]
      refine ⟨_, rfl, a, dx, _, rfl, ea, tf_no l n, _, rfl, a, l, n, f, rfl, ha, g, hf, fun H1 sm1 => ?_⟩
      refine ⟨_, rfl, a, dx, _, rfl, sm1 _ _ ea, tf_no l n, _, rfl, a, l, n, s, rfl, ha.same sm1, g, hs, fun H2 sm2 => ?_⟩
      have sm := sm1.trans sm2
      refine ⟨_, _, rfl, rfl, rfl, _, rfl, ?_⟩
      by_cases hi : f ∉ l ∧ s ∉ l
      · have e1 : Tb.posFrom f 0 l = [] := (Tb.posFrom_nil f l 0).mpr hi.1
        have e2 : Tb.posFrom s 0 l = [] := (Tb.posFrom_nil s l 0).mpr hi.2
        have d1 : decide (V.int (((Tb.posFrom f 0 l).length : Int) + ((Tb.posFrom s 0 l).length : Int)) = V.int 0) = true := by
          rw [e1, e2]
          exact decide_eq_true rfl
        have e : Tb.pord l f s = none := if_pos (.inr hi)
        rw [e] at k
        refine (?_ : (if decide (V.int (((Tb.posFrom f 0 l).length : Int) + ((Tb.posFrom s 0 l).length : Int)) = V.int 0) = true then _ else _))
        rw [d1]
        exact k H2 sm
      · have hne : ¬ (((Tb.posFrom f 0 l).length : Int) + ((Tb.posFrom s 0 l).length : Int) = 0) := fun z => by
          refine hi ⟨(Tb.posFrom_nil f l 0).mp (List.eq_nil_of_length_eq_zero (by omega)), (Tb.posFrom_nil s l 0).mp (List.eq_nil_of_length_eq_zero (by omega))⟩
        have d1 : decide (V.int (((Tb.posFrom f 0 l).length : Int) + ((Tb.posFrom s 0 l).length : Int)) = V.int 0) = false := decide_eq_false fun z => hne (by injection z)
        have hid : ¬ Tb.Idle l f s := fun z => z.elim hfs hi
        have e : Tb.pord l f s = some (Tb.ldeg l [(f, s)]) := if_neg hid
        rw [e] at k
        refine (?_ : (if decide (V.int (((Tb.posFrom f 0 l).length : Int) + ((Tb.posFrom s 0 l).length : Int)) = V.int 0) = true then _ else _))
        rw [d1]
        refine ⟨_, rfl, _, rfl, _, rfl, (by show 2 ≤ sizeLine; decide), fun p hp => ⟨by show 1 ≤ sizeLine; decide, fun q hq => ?_⟩⟩
        have nqp : p ≠ q := fun z => by
          rw [z, upd_same] at hq
          cases hq
        have smq : Same H (upd (upd H2 p (.tup [.str (tx [f]), .str (tx [s])])) q (.lst [.ref p])) := (sm.trans (same_new hp)).trans (same_new hq)
        refine ⟨a, l, n, q, _, [(f, s)], rfl, ha.same smq, g, upd_same, .cons ⟨p, rfl, by rw [upd_ne nqp, upd_same]⟩ .nil, fun pr hpr => ?_, Tb.pair_some hid, fun H3 t x y z sm3 e3 => ?_⟩
        · have ep := List.mem_singleton.mp hpr
          subst ep
          exact ⟨hf, hs⟩
        · exact ⟨t, _, _, _, rfl, rfl, SqT.of e3, rfl, k H3 (smq.trans sm3)⟩
end
end TB
set_option maxHeartbeats 4000000
namespace TB
open PySem PySem.Spec PyProof.Rows L2
theorem wts_step : ∀ (i : Nat) (w : List Int), Tb.wts (i + 1) w = Tb.pre (Tb.wts i w)
  | 0, _ => rfl
  | i + 1, w => wts_step i (Tb.pre w)
theorem psum_snoc : ∀ (xs : List Int) (a y : Int), Tb.psum a (xs ++ [y]) = Tb.psum a xs ++ [a + xs.sum + y]
  | [], a, y => by simp [Tb.psum]
  | x :: r, a, y => by
    rw [List.cons_append, Tb.psum, psum_snoc r (a + x) y, Tb.psum, List.cons_append, List.sum_cons, Int.add_assoc a x]
theorem sl_last (xs : List V) : cutV xs none (some (-1)) = xs.dropLast := by
  unfold cutV
  have e1 : HT.sIx xs.length 0 none = 0 := rfl
  have e2 : HT.sIx xs.length xs.length (some (-1)) = xs.length - 1 := by
    unfold HT.sIx
    simp
    omega
  rw [e1, e2, List.drop_zero, List.dropLast_eq_take]
  simp
theorem iV_app (a b : List Int) : iV (a ++ b) = iV a ++ iV b := List.map_append
theorem iV_dropLast (a : List Int) : (iV a).dropLast = iV a.dropLast := by
  show (a.map V.int).dropLast = a.dropLast.map V.int
  rw [List.dropLast_eq_take, List.dropLast_eq_take, List.length_map, List.map_take]
theorem dp_ints {K : PySem.W.Frag} {H : Hp} {p : Addr} {ns : List Int} (h : SqL K H p (iV ns)) : Dp K H (.ref p) (.list (ns.map PyData.int)) := .lst h (dpAll_map ns fun x _ => .int x)
section
variable {P : Program} {w : World} {K : PySem.W.Frag} {mg : Str → Option Value} {base : Heap}
def spSigns (C : Addr) : Sp := fun vs H Q _ => ∃ (a : Addr) (l : List Nat) (n f s : Nat), vs = [.ref a, .str (tx [f]), .str (tx [s])] ∧ TAt C H a l n ∧ Good l n ∧ ∀ H' p, Same H H' → H' p = some (.lst (iV (Tb.sgn l f s))) → Q (.ref p) H'
abbrev N_signs : List Str := ["turns", "first", "second", "item"]
theorem sc_signs : FnScope N_signs ["turns", "first", "second"] (defScope s_signs) := ⟨rfl, rfl, rfl, by decide +kernel, rfl, by decide +kernel, by decide +kernel⟩
theorem cal_signs (T : Tx K mg base) : Cal P w K mg base 3 "signs" ["turns", "first", "second"] (spSigns (CT K)) := by
  refine cal_of (i := 23) (j := 16) T d_signs rfl rfl rfl rfl rfl (fun _ _ _ _ _ _ us hl => match us, hl with | [_, _, _], _ => rfl) fun f fd F => ?_
  refine F.ok sc_signs (fun vs H Q E h => ?_) (fun cdv A outer s H vs Q E hr h => ?_)
  · obtain ⟨a, l, n, f, s, rfl, _⟩ := h
    rfl
  · obtain ⟨a, l, n, f, s, rfl, ha, g, k⟩ := h
    have nd := sc_signs.nd
    refine ⟨_, PSs.nox (pss_one (ps_ret (pe_lc (own := [("item", 3)]) (g := gName 3) (by rfl) nd (pi_str (pe_pal (pal_text T) T.cl hr (pv 0))) (blkOk_by (own := [("item", 3)]) (N := N_signs) (sc := defScope s_signs) (by decide +kernel))
      (fun _ _ _ _ _ => pg_name (i := 3) nd rfl (Or.inl rfl)) (fun _ _ _ _ _ => pts_nil)
      (fun _ _ _ _ _ => pe_op op_sub (pe_callTy call_int1 (by rfl) T.int (by decide +kernel) (pa_cons (pe_cmpR op_eq (pv 3) (pv 1) (nomark _)) pa_nil)) (pe_callTy call_int1 (by rfl) T.int (by decide +kernel) (pa_cons (pe_cmpR op_eq (pv 3) (pv 2) (nomark _)) pa_nil)))))), ?_⟩
    obtain ⟨dx, ea⟩ := id ha
    refine ⟨_, rfl, a, dx, _, rfl, ea, a, l, n, rfl, ha, _, rfl, fun D hD => ?_⟩
    refine lc_pure walk_str (fun i => iV (Tb.sgn (l.take i) f s)) hD rfl (fun i hi => ?_) (fun _ _ => True.intro) (fun i v H1 H2 hi sm y => ?_) (fun H2 sm e => ?_)
    · rw [tx_size] at hi
      have := g.len
      rw [List.length_map, Tb.sgn_len, List.length_take, sizeLine_eq]
      omega
    · obtain ⟨rfl, c, ec, rfl⟩ := y
      rw [tx_at] at ec
      obtain ⟨x, ex, rfl⟩ := Option.map_eq_some_iff.mp ec
      refine ⟨Same.refl _, fun Fin FinN h1 h2 => ?_⟩
      refine ⟨rfl, _, rfl, _, rfl, rfl, .inr ⟨_, rfl, ?_⟩⟩
      refine ⟨_, rfl, _, rfl, rfl, .inr ⟨_, rfl, ?_⟩⟩
      refine ⟨_, _, rfl, rfl, ?_⟩
      refine h1 _ _ (Same.refl _) ?_
      have e1 : decide (V.str ⟨#[x + 65]⟩ = V.str (tx [f])) = decide (x = f) := tx1_eq x f
      have e2 : decide (V.str ⟨#[x + 65]⟩ = V.str (tx [s])) = decide (x = s) := tx1_eq x s
      rw [List.take_add_one, ex, Tb.sgn, List.map_append, iV, List.map_append]
      show _ ++ [V.int ((if x = f then 1 else 0) - (if x = s then 1 else 0))] = _ ++ [V.int ((if decide (V.str ⟨#[x + 65]⟩ = V.str (tx [f])) = true then 1 else 0) - (if decide (V.str ⟨#[x + 65]⟩ = V.str (tx [s])) = true then 1 else 0))]
      rw [e1, e2]
      by_cases h3 : x = f
      · by_cases h4 : x = s
        · simp [h3, h4, Tb.sgn]
        · simp [h3, h4, Tb.sgn]
      · by_cases h4 : x = s
        · simp [h3, h4, Tb.sgn]
        · simp [h3, h4, Tb.sgn]
    · rw [tx_size, List.take_length] at e
      exact k _ _ sm e
def spWeights (C : Addr) : Sp := fun vs H Q _ => ∃ (a : Addr) (l : List Nat) (n f s d : Nat), vs = [.ref a, .str (tx [f]), .str (tx [s]), .int (d : Int)] ∧ TAt C H a l n ∧ Good l n ∧ f < n ∧ s < n ∧ d ≤ l.length ∧ Tb.Allowed l f s d ∧
  ∀ H' p, Same H H' → H' p = some (.lst (iV (Tb.wt l f s d))) → Q (.ref p) H'
abbrev N_w : List Str := ["turns", "first", "second", "degree", "most", "found", "turn", "sums", "number"]
theorem sc_w : FnScope N_w ["turns", "first", "second", "degree"] (defScope s_weights) := ⟨rfl, rfl, rfl, by decide +kernel, rfl, by decide +kernel, by decide +kernel⟩
theorem cal_weights (T : Tx K mg base) : Cal P w K mg base 8 "weights" ["turns", "first", "second", "degree"] (spWeights (CT K)) := by
  refine cal_of (i := 24) (j := 17) T d_weights rfl rfl rfl rfl rfl (fun _ _ _ _ _ _ us hl => match us, hl with | [_, _, _, _], _ => rfl) fun f fd F => ?_
  refine F.ok sc_w (fun vs H Q E h => ?_) (fun cdv A outer s H vs Q E hr h => ?_)
  · obtain ⟨a, l, n, f, s, d, rfl, _⟩ := h
    rfl
  · obtain ⟨a, l, n, f, s, d, rfl, ha, g, hf, hs, hd, hal, k⟩ := h
    have nd := sc_w.nd
    have gl := g.len
    refine ⟨_, PSs.nox (pss_cons (ps_expr (pe_cal (cal_check_turns T) hr (by rfl) (pa_cons (pv 0) pa_nil)))
      (pss_cons (ps_expr (pe_mal (mal_check_player T) T.cl hr (pv 0) (pa_cons (pv 1) pa_nil)))
      (pss_cons (ps_expr (pe_mal (mal_check_player T) T.cl hr (pv 0) (pa_cons (pv 2) pa_nil)))
      (pss_cons (ps_expr (pe_cal (cal_check_number T) hr (by rfl) (pa_cons (pv 3) (pa_cons pe_int (pa_cons (pe_callB (cr_lenTurns T hr) (by rfl) T.len PySem.boot_len (pa_cons (pv 0) pa_nil)) pa_nil)))))
      (pss_cons (ps_set (i := 4) nd rfl (Or.inl rfl) (pe_cal (cal_pord T) hr (by rfl) (pa_cons (pv 0) (pa_cons (pv 1) (pa_cons (pv 2) pa_nil)))))
      (C8.pss_cut (ps_if (PW.pt (pw_and (pt_cmpR op_notN (pv 4) pe_non (nomark _)) (pw_and1 (pt_cmpR op_lt (pv 4) (pv 3) (nomark _))))) (pss_one ps_never) pss_nil)
      (pss_cons (ps_set (i := 5) nd rfl (Or.inl rfl) (pe_cal (cal_signs T) hr (by rfl) (pa_cons (pv 0) (pa_cons (pv 1) (pa_cons (pv 2) pa_nil)))))
      (pss_cons (ps_for PassesOwn.never rfl (pi_range1 (by rfl) T.range (pa_cons (pv 3) pa_nil)) (pg_name (i := 6) nd rfl (Or.inl rfl))
        (pss_cons (ps_set (i := 7) nd rfl (Or.inl rfl) (pe_lst pa_nil))
        (pss_cons (ps_for PassesOwn.never rfl (pi_list (pe_slice sl_list (pv 5) po_none (po_some (pe_un un_neg pe_int)))) (pg_name (i := 8) nd rfl (Or.inl rfl))
          (pss_one (ps_expr (pe_bm PySem.F.plainAttrs_list PySem.F.slot_list_append PySem.F.type_list_append mt_append (pv 7) (pa_cons (pe_op op_add (pv 8) (pe_ifExp (pt_cmpR (op_neD hr.units) (pv 7) (pe_lst pa_nil) (nomark _)) (pe_ix ix_list (pv 7) (pe_un un_neg pe_int) (fun _ _ => rfl)) pe_int)) pa_nil)))))
        (pss_one (ps_set (i := 5) nd rfl (Or.inl rfl) (pv 7))))))
      (pss_one (ps_ret (pv 5))))))))))), ?_⟩
    obtain ⟨dx, ea⟩ := id ha
    refine ⟨_, rfl, a, l, n, rfl, ha, _, rfl, a, dx, _, rfl, ea, tf_no l n, _, rfl, a, l, n, f, rfl, ha, g.six, hf, ?_⟩
    refine ⟨_, rfl, a, dx, _, rfl, ea, tf_no l n, _, rfl, a, l, n, s, rfl, ha, g.six, hs, ?_⟩
    refine ⟨_, rfl, _, rfl, a, l, n, rfl, ha, gl, (d : Int), 0, (l.length : Int), rfl, by omega, by omega, ?_⟩
    refine ⟨_, rfl, _, rfl, _, rfl, a, l, n, f, s, rfl, ha, g, hf, hs, fun H1 sm1 => ?_⟩
    refine ⟨fun σ' H' => H' = H1 ∧ ∃ mo, σ' = [some (.ref a), some (.str (tx [f])), some (.str (tx [s])), some (.int (d : Int)), some mo, none, none, none, none], ?_, ?_⟩
    · refine ⟨_, rfl, rfl, _, rfl, ?_⟩
      cases e : Tb.pord l f s with
      | none =>
        rw [show (!decide (ov none = V.non)) = false from rfl]
        exact ⟨rfl, _, rfl⟩
      | some m =>
        rw [show (!decide (ov (some m) = V.non)) = true from rfl]
        refine ⟨_, rfl, _, rfl, _, _, rfl, rfl, _, rfl, ?_⟩
        have hdm := hal m e
        rw [decide_eq_false (show ¬ ((m : Int) < (d : Int)) by omega)]
        exact ⟨rfl, _, rfl⟩
    · rintro σ' H' ⟨rfl, mo, rfl⟩
      refine ⟨_, rfl, _, rfl, _, rfl, a, l, n, f, s, rfl, ha.same sm1, g, fun H2 r sm2 er => ?_⟩
      have sm12 := sm1.trans sm2
      have slen := Tb.sgn_len l f s
      refine ⟨_, rfl, (d : Int), rfl, by omega, by omega, ?_⟩
      refine for_range (n := ((d : Int)).toNat) (fun i σ H3 => Same H H3 ∧ ∃ r t u v, σ = [some (.ref a), some (.str (tx [f])), some (.str (tx [s])), some (.int (d : Int)), some mo, some (.ref r), t, u, v] ∧ H3 r = some (.lst (iV (Tb.wts i (Tb.sgn l f s))))) ⟨sm12, r, none, none, none, rfl, er⟩ ?_ ?_
      · rintro i σ H3 hi ⟨sm3, r3, t, u, v, rfl, e3⟩
        have hwl := Tb.wts_len i (Tb.sgn l f s)
        refine ⟨by show 0 ≤ sizeLine; decide, fun D hD => ?_⟩
        have nrD : r3 ≠ D := ne_of_none e3 hD
        refine ⟨_, rfl, 1, rfl, _, rfl, r3, _, rfl, SqL.of (by rw [upd_ne nrD]; exact e3), fun y hy => ?_⟩
        have hy3 : H3 y = none := by
          by_cases z : y = D
          · rw [z]; exact hD
          · rw [upd_ne z] at hy; exact hy
        have nDy : D ≠ y := fun z => by
          rw [← z, upd_same] at hy
          cases hy
        have ecut : cutV (iV (Tb.wts i (Tb.sgn l f s))) none (some (-1)) = iV (Tb.wts i (Tb.sgn l f s)).dropLast := by rw [sl_last, iV_dropLast]
        rw [show cutV (iV (Tb.wts i (Tb.sgn l f s))) none (some (-1 : Int)) = iV (Tb.wts i (Tb.sgn l f s)).dropLast from ecut]
        generalize hws : (Tb.wts i (Tb.sgn l f s)).dropLast = ws
        have hwsl : ws.length ≤ 2000 := by
          rw [← hws, List.length_dropLast]
          omega
        refine ⟨y, rfl, ⟨_, SqL.of upd_same⟩, ?_⟩
        refine for_list (xs := iV ws) (fun j σ H4 => Same H H4 ∧ (∃ v, σ = [some (.ref a), some (.str (tx [f])), some (.str (tx [s])), some (.int (d : Int)), some mo, some (.ref r3), some (.int (0 + (i : Nat))), some (.ref D), v]) ∧ H4 y = some (.lst (iV ws)) ∧ H4 D = some (.lst (iV (Tb.psum 0 (ws.take j))))) ?_ ?_ ?_ ?_
        · exact ⟨same_upd (same_upd sm3 (sm3.free hD)) (sm3.free hy3), ⟨v, rfl⟩, upd_same, by rw [upd_ne nDy, upd_same]; rfl⟩
        · rintro j σ H4 _ ⟨_, _, e4, _⟩
          exact SqL.of e4
        · rintro j x σ H4 hx ⟨sm4, ⟨v, rfl⟩, e4, e5⟩
          rw [iV, List.getElem?_map] at hx
          obtain ⟨z, ez, rfl⟩ := Option.map_eq_some_iff.mp hx
          have hjl : j < ws.length := by
            rcases Nat.lt_or_ge j ws.length with q | q
            · exact q
            · rw [List.getElem?_eq_none q] at ez; cases ez
          have etk : Tb.psum 0 (ws.take (j + 1)) = Tb.psum 0 (ws.take j) ++ [0 + (ws.take j).sum + z] := by
            rw [List.take_add_one, ez]
            exact psum_snoc (ws.take j) 0 z
          have plen : (Tb.psum 0 (ws.take j)).length = j := by
            rw [Tb.psum_len, List.length_take]
            omega
          refine ⟨_, rfl, .inl ⟨rfl, _, SqL.of e5⟩, _, rfl, _, rfl, by show 0 ≤ sizeLine; decide, fun E1 hE1 => ?_⟩
          have nDE : D ≠ E1 := ne_of_none e5 hE1
          have sh1 := PySem.W.shaped_ints (Tb.psum 0 (ws.take j))
          have sh2 := PySem.W.shaped_ints []
          refine ⟨_, _, dp_ints (SqL.of (by rw [upd_ne nDE]; exact e5)), dp_ints (ns := []) (SqL.of upd_same), sh1, sh2, _, rfl, ?_⟩
          have fin : ∀ y' : Int, y' = z + (ws.take j).sum → ∀ H5, Same H4 H5 → (∃ l' xs', V.ref D = .ref l' ∧ [V.int y'] = [xs'] ∧ H5 l' = some (.lst (iV (Tb.psum 0 (ws.take j)))) ∧ (iV (Tb.psum 0 (ws.take j))).length < sizeLine ∧ Same H (upd H5 l' (.lst (iV (Tb.psum 0 (ws.take j)) ++ [xs'])))) := fun y' ey H5 s5 => by
            refine ⟨D, _, rfl, rfl, s5 _ _ e5, ?_, ?_⟩
            · rw [List.length_map, plen, sizeLine_eq]
              omega
            · exact same_upd (sm4.trans s5) (sm3.free hD)
          have smE : Same H4 (upd H4 E1 (.lst [])) := same_new hE1
          by_cases hj0 : j = 0
          · subst hj0
            have d1 : (!PyData.eqv (.list ((Tb.psum 0 (ws.take 0)).map PyData.int)) (.list (([] : List Int).map PyData.int))) = false := by
              rw [show Tb.psum 0 (ws.take 0) = [] from rfl, SeqAt.eqv_refl _ (SeqAt.canLay_of_shaped sh2)]
              rfl
            rw [d1]
            refine ⟨_, _, rfl, rfl, D, _, _, rfl, rfl, smE _ _ e5, ?_, ?_⟩
            · rw [List.length_map, plen, sizeLine_eq]
              omega
            · refine ⟨same_upd (sm4.trans smE) (sm3.free hD), ⟨_, rfl⟩, ?_, ?_⟩
              · rw [upd_ne nDy.symm]
                exact smE _ _ e4
              · rw [upd_same, etk]
                have : (0 + (ws.take 0).sum + z) = z + 0 := by simp
                rw [this, iV_app]
                rfl
          · have d1 : (!PyData.eqv (.list ((Tb.psum 0 (ws.take j)).map PyData.int)) (.list (([] : List Int).map PyData.int))) = true := by
              rw [PyData.eqv, SeqAt.eqvAll_other_length]
              · rfl
              · rw [List.length_map, plen]
                exact hj0
            rw [d1]
            obtain ⟨j', rfl⟩ : ∃ j', j = j' + 1 := ⟨j - 1, by omega⟩
            obtain ⟨z', ez'⟩ : ∃ z', ws[j']? = some z' := ⟨ws[j']'(by omega), by simp⟩
            have elast : Tb.psum 0 (ws.take (j' + 1)) = Tb.psum 0 (ws.take j') ++ [(ws.take (j' + 1)).sum] := by
              have e6 : ws.take (j' + 1) = ws.take j' ++ [z'] := by rw [List.take_add_one, ez']; rfl
              rw [e6, psum_snoc, List.sum_append]
              simp
            have elV : iV (Tb.psum 0 (ws.take (j' + 1))) = iV (Tb.psum 0 (ws.take j')) ++ [V.int (ws.take (j' + 1)).sum] := by
              rw [elast, iV_app]
              rfl
            refine ⟨_, rfl, 1, rfl, D, _, _, V.int (ws.take (j' + 1)).sum, rfl, rfl, SqL.of (smE _ _ e5), (by rw [elV]; exact atI_last _ _), ?_⟩
            refine ⟨_, _, rfl, rfl, D, _, _, rfl, rfl, smE _ _ e5, ?_, ?_⟩
            · rw [List.length_map, plen, sizeLine_eq]
              omega
            · refine ⟨same_upd (sm4.trans smE) (sm3.free hD), ⟨_, rfl⟩, ?_, ?_⟩
              · rw [upd_ne nDy.symm]
                exact smE _ _ e4
              · rw [upd_same, etk]
                have : (0 + (ws.take (j' + 1)).sum + z) = z + (ws.take (j' + 1)).sum := by omega
                rw [this, iV_app]
                rfl
        · rintro σ H4 ⟨sm4, ⟨v, rfl⟩, _, e5⟩
          refine ⟨_, rfl, sm4, D, _, _, _, rfl, ?_⟩
          rw [List.length_map, List.take_length] at e5
          rw [e5, wts_step, Tb.pre, hws]
      · rintro σ H3 ⟨sm3, r3, t, u, v, rfl, e3⟩
        refine ⟨_, rfl, k H3 r3 sm3 ?_⟩
        exact e3
end
end TB
set_option maxHeartbeats 4000000
namespace TB
open PySem PySem.Spec PyProof.Rows L2
section
variable {P : Program} {w : World} {K : PySem.W.Frag} {mg : Str → Option Value} {base : Heap}
def spValues (K : PySem.W.Frag) : Sp := fun vs H Q _ => ∃ (r : Addr) (ns : List Int) (d : Nat), vs = [.ref r, .int (d : Int)] ∧ SqL K H r (iV ns) ∧ ns.length ≤ 2000 ∧ d ≤ 2000 ∧ ∀ H' p ms, Same H H' → H' p = some (.lst (iV ms)) → Q (.ref p) H'
abbrev N_vw : List Str := ["some", "degree", "turn", "found", "drop"]
theorem sc_vw : FnScope N_vw ["some", "degree"] (defScope s_values_with) := ⟨rfl, rfl, rfl, by decide +kernel, rfl, by decide +kernel, by decide +kernel⟩
theorem cal_values (T : Tx K mg base) : Cal P w K mg base 1 "values_with" ["some", "degree"] (spValues K) := by
  refine cal_of (i := 22) (j := 15) T d_values_with rfl rfl rfl rfl rfl (fun _ _ _ _ _ _ us hl => match us, hl with | [_, _], _ => rfl) fun f fd F => ?_
  refine F.ok sc_vw (fun vs H Q E h => ?_) (fun cdv A outer s H vs Q E hr h => ?_)
  · obtain ⟨r, ns, d, rfl, _⟩ := h
    rfl
  · obtain ⟨r, ns, d, rfl, hS, hl, hd, k⟩ := h
    have nd := sc_vw.nd
    refine ⟨_, PSs.nox (pss_cons (ps_for PassesOwn.never rfl (pi_range1 (by rfl) T.range (pa_cons (pv 1) pa_nil)) (pg_name (i := 2) nd rfl (Or.inl rfl))
        (pss_cons (ps_set (i := 3) nd rfl (Or.inl rfl) (pe_lst (pa_cons pe_int pa_nil)))
        (pss_cons (ps_for PassesOwn.never rfl (pi_list (pe_revL (pv 0))) (pg_name (i := 4) nd rfl (Or.inl rfl))
          (pss_one (ps_expr (pe_bm PySem.F.plainAttrs_list PySem.F.slot_list_append PySem.F.type_list_append mt_append (pv 3) (pa_cons (pe_op op_add (pe_ix ix_list (pv 3) (pe_un un_neg pe_int) (fun _ _ => rfl)) (pv 4)) pa_nil)))))
        (pss_one (ps_set (i := 0) nd rfl (Or.inl rfl) (pe_revL (pv 3)))))))
      (pss_one (ps_ret (pe_callTy call_list_of (by rfl) T.list (by decide +kernel) (pa_cons (pv 0) pa_nil))))), ?_⟩
    refine ⟨_, rfl, (d : Int), rfl, by omega, by omega, ?_⟩
    refine for_range (n := ((d : Int)).toNat) (fun i σ H3 => Same H H3 ∧ ∃ r t u v, ∃ ms : List Int, σ = [some (.ref r), some (.int (d : Int)), t, u, v] ∧ SqL K H3 r (iV ms) ∧ ms.length ≤ 2000 + i) ⟨Same.refl _, r, none, none, none, ns, rfl, hS, hl⟩ ?_ ?_
    · rintro i σ H3 hi ⟨sm3, r3, t, u, v, ms, rfl, e3, hml⟩
      have hi2 : i < d := by simpa using hi
      refine ⟨by show 1 ≤ sizeLine; decide, fun D hD => ?_⟩
      refine ⟨_, rfl, r3, _, rfl, (same_new hD).seq e3, fun y hy => ?_⟩
      have nDy : D ≠ y := fun z => by
        rw [← z, upd_same] at hy
        cases hy
      have hy3 : H3 y = none := by
        rw [upd_ne nDy.symm] at hy
        exact hy
      rw [show (iV ms).reverse = iV ms.reverse from List.map_reverse.symm]
      refine ⟨y, rfl, ⟨_, SqL.of upd_same⟩, ?_⟩
      refine for_list (xs := iV ms.reverse) (fun j σ H4 => Same H H4 ∧ (∃ v, σ = [some (.ref r3), some (.int (d : Int)), some (.int (0 + (i : Nat))), some (.ref D), v]) ∧ H4 y = some (.lst (iV ms.reverse)) ∧ ∃ zs z, H4 D = some (.lst (iV (zs ++ [z]))) ∧ zs.length = j) ?_ ?_ ?_ ?_
      · exact ⟨same_upd (same_upd sm3 (sm3.free hD)) (sm3.free hy3), ⟨v, rfl⟩, upd_same, [], 0, by rw [upd_ne nDy, upd_same]; rfl, rfl⟩
      · rintro j σ H4 _ ⟨_, _, e4, _⟩
        exact SqL.of e4
      · rintro j x σ H4 hx ⟨sm4, ⟨v, rfl⟩, e4, zs, z, e5, hz⟩
        rw [List.getElem?_map] at hx
        obtain ⟨x', ez, rfl⟩ := Option.map_eq_some_iff.mp hx
        have hjl : j < ms.length := by
          rcases Nat.lt_or_ge j ms.reverse.length with q | q
          · simpa using q
          · rw [List.getElem?_eq_none q] at ez; cases ez
        refine ⟨_, rfl, .inl ⟨rfl, _, SqL.of e5⟩, _, rfl, 1, rfl, D, _, _, V.int z, rfl, rfl, SqL.of e5, (by rw [iV_app]; exact atI_last _ _), _, rfl, _, _, rfl, rfl, D, _, _, rfl, rfl, e5, ?_, ?_⟩
        · rw [List.length_map, List.length_append, List.length_singleton, sizeLine_eq]
          omega
        · refine ⟨same_upd sm4 (sm3.free hD), ⟨_, rfl⟩, by rw [upd_ne nDy.symm]; exact e4, zs ++ [z], z + x', ?_, by rw [List.length_append, hz]; rfl⟩
          rw [upd_same, iV_app (zs ++ [z])]
          rfl
      · rintro σ H4 ⟨sm4, ⟨v, rfl⟩, _, zs, z, e5, hz⟩
        refine ⟨_, rfl, D, _, rfl, SqL.of e5, fun q hq => ?_⟩
        refine ⟨same_upd sm4 (sm4.free hq), q, _, _, _, (zs ++ [z]).reverse, rfl, ?_, ?_⟩
        · rw [show (iV (zs ++ [z])).reverse = iV (zs ++ [z]).reverse from List.map_reverse.symm]
          exact SqL.of upd_same
        · rw [List.length_map, List.length_reverse] at hz
          rw [List.length_reverse, List.length_append, List.length_singleton]
          omega
    · rintro σ H3 ⟨sm3, r3, t, u, v, ms, rfl, e3, hml⟩
      refine ⟨_, rfl, r3, _, rfl, .inl e3, fun l hl => k _ l ms (sm3.trans (same_new hl)) upd_same⟩
def spGreat (C : Addr) : Sp := fun vs H Q _ => ∃ (a : Addr) (l : List Nat) (n f s d : Nat), vs = [.ref a, .str (tx [f]), .str (tx [s]), .int (d : Int), .int 3] ∧ TAt C H a l n ∧ Good l n ∧ f < n ∧ s < n ∧ d ≤ l.length ∧ Tb.Allowed l f s d ∧
  ∀ H' t x, Same H H' → H' t = some (.tup [.int (3 * Tb.absSum (Tb.wt l f s d)), x]) → Q (.ref t) H'
abbrev N_gd : List Str := ["turns", "first", "second", "degree", "bound", "found", "best", "number"]
theorem sc_gd : FnScope N_gd ["turns", "first", "second", "degree", "bound"] (defScope s_greatest_difference) := ⟨rfl, rfl, rfl, by decide +kernel, rfl, by decide +kernel, by decide +kernel⟩
theorem cal_great (T : Tx K mg base) : Cal P w K mg base 9 "greatest_difference" ["turns", "first", "second", "degree", "bound"] (spGreat (CT K)) := by
  refine cal_of (i := 26) (j := 19) T d_greatest_difference rfl rfl rfl rfl rfl (fun _ _ _ _ _ _ us hl => match us, hl with | [_, _, _, _, _], _ => rfl) fun f fd F => ?_
  refine F.ok sc_gd (fun vs H Q E h => ?_) (fun cdv A outer s H vs Q E hr h => ?_)
  · obtain ⟨a, l, n, f, s, d, rfl, _⟩ := h
    rfl
  · obtain ⟨a, l, n, f, s, d, rfl, ha, g, hf, hs, hd, hal, k⟩ := h
    have nd := sc_gd.nd
    have gl := g.len
    refine ⟨_, PSs.nox (pss_cons (ps_set (i := 5) nd rfl (Or.inl rfl) (pe_cal (cal_weights T) hr (by rfl) (pa_cons (pv 0) (pa_cons (pv 1) (pa_cons (pv 2) (pa_cons (pv 3) pa_nil))))))
      (pss_cons (ps_expr (pe_cal (cal_check_bound T) hr (by rfl) (pa_cons (pv 4) pa_nil)))
      (pss_cons (ps_setLc (i := 6) (own := [("number", 7)]) (g := gName 7) (by rfl) nd rfl rfl (sw_true rfl rfl rfl (by decide +kernel)) (pi_list (pv 5)) (blkOk_by (own := [("number", 7)]) (N := N_gd) (sc := defScope s_greatest_difference) (by decide +kernel))
        (fun _ _ _ _ _ => pg_name (i := 7) nd rfl (Or.inl rfl)) (fun _ _ _ _ _ => pts_nil)
        (fun _ _ _ _ _ => pe_op op_mul (pv 4) (pe_op op_sub (pe_callTy call_int1 (by rfl) T.int (by decide +kernel) (pa_cons (pe_cmpR op_gt (pv 7) pe_int (nomark _)) pa_nil)) (pe_callTy call_int1 (by rfl) T.int (by decide +kernel) (pa_cons (pe_cmpR op_lt (pv 7) pe_int (nomark _)) pa_nil)))))
      (pss_one (ps_ret (pe_tup (pa_cons (pe_op op_mul (pv 4) (pe_callB (cr_sum (by rfl)) (by rfl) T.sum (by decide +kernel) (pa_cons (pe_lc (own := [("number", 7)]) (g := gName 7) (by rfl) nd (pi_list (pv 5)) (blkOk_by (own := [("number", 7)]) (N := N_gd) (sc := defScope s_greatest_difference) (by decide +kernel))
        (fun _ _ _ _ _ => pg_name (i := 7) nd rfl (Or.inl rfl)) (fun _ _ _ _ _ => pts_nil) (fun _ _ _ _ _ => pe_callB call_abs (by rfl) T.abs (by decide +kernel) (pa_cons (pv 7) pa_nil))) pa_nil)))
        (pa_cons (pe_cal (cal_values T) hr (by rfl) (pa_cons (pv 6) (pa_cons (pv 3) pa_nil))) pa_nil)))))))), ?_⟩
    refine ⟨_, rfl, _, rfl, _, rfl, _, rfl, a, l, n, f, s, d, rfl, ha, g, hf, hs, hd, hal, fun H1 r sm1 er => ?_⟩
    have hw : (Tb.wt l f s d).length ≤ 2000 := by
      have := Tb.wts_len d (Tb.sgn l f s)
      rw [Tb.sgn_len] at this
      unfold Tb.wt
      omega
    generalize hW : Tb.wt l f s d = W at *
    refine ⟨_, rfl, 3, rfl, by omega, ?_⟩
    refine ⟨_, rfl, r, rfl, ⟨_, SqL.of er⟩, fun D hD => ?_⟩
    refine lc_pure (walk_list (xs := iV W)) (fun i => iV ((W.take i).map fun x => 3 * ((if decide (x > 0) = true then 1 else 0) - (if decide (x < 0) = true then 1 else 0)))) hD rfl (fun i hi => ?_) (fun H2 sm => SqL.of (sm _ _ er)) (fun i v H2 H3 hi sm y => ?_) (fun H2 sm2 e2 => ?_)
    · rw [List.length_map] at hi
      rw [List.length_map, List.length_map, List.length_take, sizeLine_eq]
      omega
    · obtain ⟨rfl, ev⟩ := y
      rw [List.getElem?_map] at ev
      obtain ⟨x, ex, rfl⟩ := Option.map_eq_some_iff.mp ev
      refine ⟨Same.refl _, fun Fin FinN h1 h2 => ?_⟩
      refine ⟨rfl, _, rfl, _, rfl, _, _, rfl, rfl, .inr ⟨_, rfl, ?_⟩⟩
      refine ⟨_, rfl, _, _, rfl, rfl, .inr ⟨_, rfl, ?_⟩⟩
      refine ⟨_, _, rfl, rfl, _, _, rfl, rfl, .inl ⟨by omega, by omega⟩, ?_⟩
      refine h1 _ _ (Same.refl _) ?_
      show iV ((W.take (i + 1)).map _) = _
      rw [List.take_add_one, ex, List.map_append, iV_app]
      rfl
    · have smA := sm1.trans sm2
      refine ⟨_, rfl, _, rfl, r, rfl, ⟨_, SqL.of (sm2 _ _ er)⟩, fun D2 hD2 => ?_⟩
      refine lc_pure (walk_list (xs := iV W)) (fun i => iV ((W.take i).map Tb.absI)) hD2 rfl (fun i hi => ?_) (fun H3 sm => SqL.of (sm _ _ (sm2 _ _ er))) (fun i v H3 H4 hi sm y => ?_) (fun H3 sm3 e3 => ?_)
      · rw [List.length_map] at hi
        rw [List.length_map, List.length_map, List.length_take, sizeLine_eq]
        omega
      · obtain ⟨rfl, ev⟩ := y
        rw [List.getElem?_map] at ev
        obtain ⟨x, ex, rfl⟩ := Option.map_eq_some_iff.mp ev
        refine ⟨Same.refl _, fun Fin FinN h1 h2 => ?_⟩
        refine ⟨rfl, _, rfl, _, rfl, ?_⟩
        refine h1 _ _ (Same.refl _) ?_
        show iV ((W.take (i + 1)).map _) = _
        rw [List.take_add_one, ex, List.map_append, iV_app]
        rfl
      · rw [List.length_map, List.take_length] at e2 e3
        refine ⟨D2, _, rfl, SqL.of e3, _, _, rfl, rfl, .inl ⟨by omega, by omega⟩, ?_⟩
        refine ⟨_, rfl, _, rfl, D, _, d, rfl, SqL.of (sm3 _ _ e2), (by rw [List.length_map]; omega), by omega, fun H4 p ms sm4 e4 => ⟨by show 2 ≤ sizeLine; decide, fun t ht => ?_⟩⟩
        exact k _ t (.ref p) (((smA.trans sm3).trans sm4).trans (same_new ht)) upd_same
end
end TB
set_option maxHeartbeats 4000000
namespace TB
open PySem PySem.Spec PyProof.Rows L2
section
variable {P : Program} {w : World} {K : PySem.W.Frag} {mg : Str → Option Value} {base : Heap}
def picks (W : List Int) (sg : Int) (i : Nat) : List V := ((List.range i).filter fun j => decide (W.getD j 0 * sg > 0)).map fun (j : Nat) => V.int (j : Int)
theorem picks_succ (W : List Int) (sg : Int) (i : Nat) : picks W sg (i + 1) = picks W sg i ++ (if W.getD i 0 * sg > 0 then [V.int (i : Int)] else []) := by
  unfold picks
  rw [List.range_succ, List.filter_append, List.map_append]
  by_cases h : W.getD i 0 * sg > 0
  · rw [if_pos h, List.filter_cons_of_pos (by exact decide_eq_true h)]
    rfl
  · rw [if_neg h, List.filter_cons_of_neg (by simp only [decide_eq_true_eq]; exact h)]
    rfl
theorem picks_len (W : List Int) (sg : Int) (i : Nat) : (picks W sg i).length ≤ i := by
  unfold picks
  rw [List.length_map]
  have := List.length_filter_le (fun j => decide (W.getD j 0 * sg > 0)) (List.range i)
  rw [List.length_range] at this
  exact this
theorem picks_cons {W : List Int} {sg : Int} (h : ∃ x ∈ W, x * sg > 0) : ∃ (z : Nat) (r : List V), picks W sg W.length = V.int (z : Int) :: r := by
  obtain ⟨x, hx, hp⟩ := h
  obtain ⟨j, hj⟩ := List.getElem?_of_mem hx
  have hlt : j < W.length := by
    rcases Nat.lt_or_ge j W.length with q | q
    · exact q
    · rw [List.getElem?_eq_none q] at hj; cases hj
  have hm : j ∈ (List.range W.length).filter fun j => decide (W.getD j 0 * sg > 0) := by
    rw [List.mem_filter]
    refine ⟨List.mem_range.mpr hlt, decide_eq_true ?_⟩
    rw [List.getD_eq_getElem?_getD, hj]
    exact hp
  unfold picks
  cases e : (List.range W.length).filter fun j => decide (W.getD j 0 * sg > 0) with
  | nil => rw [e] at hm; cases hm
  | cons z r => exact ⟨z, r.map fun (j : Nat) => V.int (j : Int), rfl⟩
def spDrop (K : PySem.W.Frag) : Sp := fun vs H Q _ => ∃ (r : Addr) (W : List Int) (d : Nat) (sg : Int), vs = [.ref r, .int (d : Int), .int sg] ∧ SqL K H r (iV W) ∧ W.length ≤ 2000 ∧ d ≤ 2000 ∧ (sg = 1 ∨ sg = -1) ∧ (∃ x ∈ W, x * sg > 0) ∧ ∀ H' p, Same H H' → Q (.ref p) H'
abbrev N_od : List Str := ["found", "degree", "sign", "place", "position", "number"]
theorem sc_od : FnScope N_od ["found", "degree", "sign"] (defScope s_one_drop) := ⟨rfl, rfl, rfl, by decide +kernel, rfl, by decide +kernel, by decide +kernel⟩
theorem cal_drop (T : Tx K mg base) : Cal P w K mg base 2 "one_drop" ["found", "degree", "sign"] (spDrop K) := by
  refine cal_of (i := 27) (j := 20) T d_one_drop rfl rfl rfl rfl rfl (fun _ _ _ _ _ _ us hl => match us, hl with | [_, _, _], _ => rfl) fun f fd F => ?_
  refine F.ok sc_od (fun vs H Q E h => ?_) (fun cdv A outer s H vs Q E hr h => ?_)
  · obtain ⟨r, W, d, sg, rfl, _⟩ := h
    rfl
  · obtain ⟨r, W, d, sg, rfl, hS, hl, hd, hsg, hex, k⟩ := h
    have nd := sc_od.nd
    refine ⟨_, PSs.nox (pss_cons (ps_set (i := 3) nd rfl (Or.inr rfl) (pe_ix ix_list (pe_lc (own := [("position", 4), ("number", 5)]) (g := gTup K 2 (gCons (gName 4) (gCons (gName 5) gNil))) (by rfl) nd (pi_enum (by rfl) T.enumerate (pa_cons (pv 0) pa_nil)) (blkOk_by (own := [("position", 4), ("number", 5)]) (N := N_od) (sc := defScope s_one_drop) (by decide +kernel))
        (fun _ _ _ _ _ => pg_tup (by rfl) (pgs_cons (pg_name (i := 4) nd rfl (Or.inl rfl)) (pgs_cons (pg_name (i := 5) nd rfl (Or.inl rfl)) pgs_nil)))
        (fun _ _ _ _ _ => pts_one (pt_cmpR op_gt (pe_op op_mul (pv 5) (pv 2)) pe_int (nomark _))) (fun _ _ _ _ _ => pv 4)) pe_int (fun _ _ => rfl)))
      (pss_one (ps_ret (pe_cal (cal_values T) hr (by rfl) (pa_cons (pe_lc (own := [("position", 4)]) (g := gName 4) (by rfl) nd (pi_range1 (by rfl) T.range (pa_cons (pe_callB call_len_seq (by rfl) T.len PySem.boot_len (pa_cons (pv 0) pa_nil)) pa_nil)) (blkOk_by (own := [("position", 4)]) (N := N_od) (sc := defScope s_one_drop) (by decide +kernel))
        (fun _ _ _ _ _ => pg_name (i := 4) nd rfl (Or.inl rfl)) (fun _ _ _ _ _ => pts_nil) (fun _ _ _ _ _ => pe_callTy call_int1 (by rfl) T.int (by decide +kernel) (pa_cons (pe_cmpR op_eq (pv 4) (pv 3) (nomark _)) pa_nil))) (pa_cons (pv 1) pa_nil)))))), ?_⟩
    refine ⟨_, rfl, r, _, rfl, hS, fun D hD => ?_⟩
    refine lc_pure (walk_enum (xs := iV W)) (fun i => picks W sg i) hD rfl (fun i hi => ?_) (fun H2 sm => sm.seq hS) (fun i v H2 H3 hi sm y => ?_) (fun H2 sm e => ?_)
    · rw [List.length_map] at hi
      have := picks_len W sg i
      rw [sizeLine_eq]
      omega
    · rw [List.length_map] at hi
      obtain ⟨T1, x1, x2, rfl, hT, rfl, e1, e2⟩ := y
      cases e1
      have e3 : (iV W)[i]? = some x2 := e2
      rw [List.getElem?_map, List.getElem?_eq_getElem hi] at e3
      cases e3
      have egd : W.getD i 0 = W[i] := by rw [List.getD_eq_getElem?_getD, List.getElem?_eq_getElem hi]; rfl
      refine ⟨same_new hT, fun Fin FinN h1 h2 => ?_⟩
      refine ⟨T1, [_, _], rfl, SqT.of upd_same, rfl, _, _, rfl, _, _, rfl, rfl, rfl, ?_⟩
      refine ⟨_, rfl, _, rfl, _, _, rfl, rfl, .inr ⟨by rcases hsg with z | z <;> omega, by rcases hsg with z | z <;> omega⟩, _, _, rfl, rfl, _, rfl, ?_⟩
      have hp := picks_succ W sg i
      rw [egd] at hp
      by_cases h0 : W[i] * sg > 0
      · rw [decide_eq_true h0]
        rw [if_pos h0] at hp
        exact ⟨_, rfl, h1 _ _ (Same.refl _) hp⟩
      · rw [decide_eq_false h0]
        rw [if_neg h0, List.append_nil] at hp
        exact h2 _ (Same.refl _) hp
    · rw [List.length_map] at e
      obtain ⟨z, rr, ez⟩ := picks_cons hex
      rw [ez] at e
      refine ⟨D, _, _, V.int (z : Int), rfl, rfl, SqL.of e, atI_nat (j := 0) rfl, ?_⟩
      refine ⟨_, rfl, r, _, rfl, .inl (sm.seq hS), ((iV W).length : Nat), rfl, by rw [List.length_map]; omega, by rw [List.length_map]; omega, fun D2 hD2 => ?_⟩
      refine lc_pure (walk_range (lo := 0) (n := (((iV W).length : Nat) : Int).toNat)) (fun i => iV ((List.range i).map fun (j : Nat) => if decide (V.int (0 + (j : Int)) = V.int (z : Int)) = true then 1 else 0)) hD2 rfl (fun i hi => ?_) (fun _ _ => True.intro) (fun i v H3 H4 hi sm3 y => ?_) (fun H3 sm3 e3 => ?_)
      · rw [Int.toNat_natCast, List.length_map] at hi
        rw [List.length_map, List.length_map, List.length_range, sizeLine_eq]
        omega
      · obtain ⟨rfl, rfl⟩ := y
        refine ⟨Same.refl _, fun Fin FinN h1 h2 => ?_⟩
        refine ⟨rfl, _, rfl, _, rfl, rfl, .inr ⟨_, rfl, ?_⟩⟩
        refine h1 _ _ (Same.refl _) ?_
        show iV ((List.range (i + 1)).map _) = _
        rw [List.range_succ, List.map_append, iV_app]
        rfl
      · rw [Int.toNat_natCast, List.length_map] at e3
        refine ⟨_, rfl, D2, _, d, rfl, SqL.of e3, (by rw [List.length_map, List.length_range]; exact hl), hd, fun H4 p ms sm4 _ => k H4 p ((sm.trans sm3).trans sm4)⟩
/-! ### favoured -/
def favK (W : List Int) : Nat := if W.all (fun x => x == 0) = true then 0 else if W.all (fun x => decide (0 ≤ x)) = true then 1 else if W.all (fun x => decide (x ≤ 0)) = true then 2 else 3
def FavIs (k f s : Nat) (xs : List V) : Prop := match k with
  | 0 => xs = [.str "equal"]
  | 1 => xs = [.str "always", .str (tx [f])]
  | 2 => xs = [.str "always", .str (tx [s])]
  | _ => ∃ x y, xs = [.str "depends", x, y]
def spFav (C : Addr) : Sp := fun vs H Q _ => ∃ (a : Addr) (l : List Nat) (n f s d : Nat), vs = [.ref a, .str (tx [f]), .str (tx [s]), .int (d : Int)] ∧ TAt C H a l n ∧ Good l n ∧ f < n ∧ s < n ∧ d ≤ l.length ∧ Tb.Allowed l f s d ∧
  ∀ H' t xs, Same H H' → H' t = some (.tup xs) → FavIs (favK (Tb.wt l f s d)) f s xs → Q (.ref t) H'
abbrev N_fav : List Str := ["turns", "first", "second", "degree", "found"]
theorem sc_fav : FnScope N_fav ["turns", "first", "second", "degree"] (defScope s_favoured) := ⟨rfl, rfl, rfl, by decide +kernel, rfl, by decide +kernel, by decide +kernel⟩
theorem cal_fav (T : Tx K mg base) : Cal P w K mg base 9 "favoured" ["turns", "first", "second", "degree"] (spFav (CT K)) := by
  refine cal_of (i := 28) (j := 21) T d_favoured rfl rfl rfl rfl rfl (fun _ _ _ _ _ _ us hl => match us, hl with | [_, _, _, _], _ => rfl) fun f fd F => ?_
  refine F.ok sc_fav (fun vs H Q E h => ?_) (fun cdv A outer s H vs Q E hr h => ?_)
  · obtain ⟨a, l, n, f, s, d, rfl, _⟩ := h
    rfl
  · obtain ⟨a, l, n, f, s, d, rfl, ha, g, hf, hs, hd, hal, k⟩ := h
    have nd := sc_fav.nd
    have gl := g.len
    refine ⟨_, PSs.nox (pss_cons (ps_set (i := 4) nd rfl (Or.inl rfl) (pe_cal (cal_weights T) hr (by rfl) (pa_cons (pv 0) (pa_cons (pv 1) (pa_cons (pv 2) (pa_cons (pv 3) pa_nil))))))
      (pss_cons (ps_if (pt_not (pt_val (pe_callB (cr_anyI (by rfl)) (by rfl) T.any (by decide +kernel) (pa_cons (pv 4) pa_nil)))) (pss_one (ps_ret (pe_tup (pa_cons pe_str pa_nil)))) pss_nil)
      (pss_cons (ps_if (pt_cmpR op_ge (pe_callB (cr_min (by rfl)) (by rfl) T.min (by decide +kernel) (pa_cons (pv 4) pa_nil)) pe_int (nomark _)) (pss_one (ps_ret (pe_tup (pa_cons pe_str (pa_cons (pv 1) pa_nil))))) pss_nil)
      (pss_cons (ps_if (pt_cmpR op_le (pe_callB (cr_max (by rfl)) (by rfl) T.max (by decide +kernel) (pa_cons (pv 4) pa_nil)) pe_int (nomark _)) (pss_one (ps_ret (pe_tup (pa_cons pe_str (pa_cons (pv 2) pa_nil))))) pss_nil)
      (pss_one (ps_ret (pe_tup (pa_cons pe_str (pa_cons (pe_cal (cal_drop T) hr (by rfl) (pa_cons (pv 4) (pa_cons (pv 3) (pa_cons pe_int pa_nil)))) (pa_cons (pe_cal (cal_drop T) hr (by rfl) (pa_cons (pv 4) (pa_cons (pv 3) (pa_cons (pe_un un_neg pe_int) pa_nil)))) pa_nil)))))))))), ?_⟩
    refine ⟨_, rfl, _, rfl, _, rfl, _, rfl, a, l, n, f, s, d, rfl, ha, g, hf, hs, hd, hal, fun H1 r sm1 er => ?_⟩
    have hw : (Tb.wt l f s d).length ≤ 2000 := by
      have := Tb.wts_len d (Tb.sgn l f s)
      rw [Tb.sgn_len] at this
      unfold Tb.wt
      omega
    generalize hW : Tb.wt l f s d = W at *
    refine ⟨_, rfl, r, W, rfl, SqL.of er, _, rfl, ?_⟩
    by_cases h0 : W.all (fun x => x == 0) = true
    · have d0 : (W.any fun x => x != 0) = false := by
        rw [List.any_eq_false]
        intro x hx
        have := List.all_eq_true.mp h0 x hx
        simp at this
        simp [this]
      rw [d0]
      refine ⟨by show 1 ≤ sizeLine; decide, fun t ht => k _ t _ (sm1.trans (same_new ht)) upd_same ?_⟩
      have e : favK W = 0 := if_pos h0
      rw [e]
      rfl
    · have d0 : (W.any fun x => x != 0) = true := by
        cases q : (W.any fun x => x != 0) with
        | true => rfl
        | false =>
          exfalso
          apply h0
          rw [List.all_eq_true]
          intro x hx
          have := List.any_eq_false.mp q x hx
          simpa using this
      rw [d0]
      have hne : 0 < W.length := by
        cases W with
        | nil => cases d0
        | cons x rr => exact Nat.succ_pos _
      refine ⟨_, rfl, r, W, rfl, SqL.of er, hne, fun m hm hle => ?_⟩
      refine ⟨_, _, rfl, rfl, _, rfl, ?_⟩
      by_cases h1 : W.all (fun x => decide (0 ≤ x)) = true
      · have hm0 : m ≥ 0 := of_decide_eq_true (List.all_eq_true.mp h1 m hm)
        rw [decide_eq_true hm0]
        refine ⟨_, rfl, by show 2 ≤ sizeLine; decide, fun t ht => k _ t _ (sm1.trans (same_new ht)) upd_same ?_⟩
        have e : favK W = 1 := by unfold favK; rw [if_neg h0, if_pos h1]
        rw [e]
        rfl
      · have hm0 : ¬ m ≥ 0 := fun z => h1 (List.all_eq_true.mpr fun x hx => decide_eq_true (Int.le_trans z (hle x hx)))
        rw [decide_eq_false hm0]
        refine ⟨_, rfl, r, W, rfl, SqL.of er, hne, fun m2 hm2 hle2 => ?_⟩
        refine ⟨_, _, rfl, rfl, _, rfl, ?_⟩
        by_cases h2 : W.all (fun x => decide (x ≤ 0)) = true
        · have hm3 : m2 ≤ 0 := of_decide_eq_true (List.all_eq_true.mp h2 m2 hm2)
          rw [decide_eq_true hm3]
          refine ⟨_, rfl, by show 2 ≤ sizeLine; decide, fun t ht => k _ t _ (sm1.trans (same_new ht)) upd_same ?_⟩
          have e : favK W = 2 := by unfold favK; rw [if_neg h0, if_neg h1, if_pos h2]
          rw [e]
          rfl
        · have hm3 : ¬ m2 ≤ 0 := fun z => h2 (List.all_eq_true.mpr fun x hx => decide_eq_true (Int.le_trans (hle2 x hx) z))
          rw [decide_eq_false hm3]
          refine ⟨_, rfl, _, rfl, r, W, d, 1, rfl, SqL.of er, hw, by omega, .inl rfl, ⟨m2, hm2, by omega⟩, fun H2 p2 sm2 => ?_⟩
          refine ⟨_, rfl, _, rfl, 1, rfl, r, W, d, -1, rfl, SqL.of (sm2 _ _ er), hw, by omega, .inr rfl, ⟨m, hm, by omega⟩, fun H3 p3 sm3 => ?_⟩
          refine ⟨by show 3 ≤ sizeLine; decide, fun t ht => k _ t _ (((sm1.trans sm2).trans sm3).trans (same_new ht)) upd_same ?_⟩
          have e : favK W = 3 := by unfold favK; rw [if_neg h0, if_neg h1, if_neg h2]
          rw [e]
          exact ⟨_, _, rfl⟩
end
end TB
set_option maxHeartbeats 4000000
namespace TB
open PySem PySem.Spec PyProof.Rows L2 Gx
/-! ### name = {..} on one line, the name a local -/
section
variable {X : Cx}
theorem ps_setDc {i : Nat} {y : Str} {py : Pos} {kx vx tg iter : Expr} {ifs : List Expr} {scope : Scope} {own : List (Str × Nat)} {pos spos : Pos} {wi : TI} {g : TG} {tt : TT} {tk tv : TE} (hc : X.calm = true) (hN : X.N.Nodup) (hy : X.N[i]? = some y) (hyl : X.env.scope.names.lookup y = some .local)
    (hsw : swapsWith (.DictComp kx vx [⟨tg, iter, ifs, 0⟩] scope pos) (some (.Name y py)) spos.line X.env = pure true) (hi : PI X tg iter wi) (ok : BlkOk X.N X.env.scope scope own)
    (hg : ∀ (s : Shared) (H : Hp) (C : Addr) (cl : List (Str × Addr)) (fp : List Addr), L2.PG (X.blk s H scope (compEnvC scope cl C X.env) fp) tg g) (ht : ∀ (s : Shared) (H : Hp) (C : Addr) (cl : List (Str × Addr)) (fp : List Addr), PTs (X.blk s H scope (compEnvC scope cl C X.env) fp) ifs tt)
    (hk : ∀ (s : Shared) (H : Hp) (C : Addr) (cl : List (Str × Addr)) (fp : List Addr), PE (X.blk s H scope (compEnvC scope cl C X.env) fp) kx tk)
    (he : ∀ (s : Shared) (H : Hp) (C : Addr) (cl : List (Str × Addr)) (fp : List Addr), PE (X.blk s H scope (compEnvC scope cl C X.env) fp) vx tv) (hs : ∀ x, foldedSetIterable iter X.env x = pure x := by intro _; rfl) :
    PS X (.Assign [.Name y py] (.DictComp kx vx [⟨tg, iter, ifs, 0⟩] scope pos) spos) (tAsg (tDc wi g tt tk tv (own.map (·.2))) (gName i)) := by
  refine ⟨fun pins s σ H D I h => ?_⟩
  rw [exec_Assign_Name_used _ _ _ _ hsw]
  refine wpAny_bind (wpAny_standAt (wpAny_bind ?_))
  show wpAny _ X.A (do let _ ← comprehension (.DictComp kx vx [⟨tg, iter, ifs, 0⟩] scope pos) scope X.env (firstIterPos [⟨tg, iter, ifs, 0⟩] pos) newDict false (eval iter X.env) (some (assign (.Name y py) X.env))) _ _ s
  have h : tDc wi g tt tk tv (own.map (·.2)) σ H (fun x H1 => gName i x σ H1 D.nx) := h
  refine wpAny_bind (thn (dc_core (Qf := fun _ s' => SP X pins D .next s') hc hN I hi ok hg ht hk he hs h fun L C s' m H' I' q hn f => ?_) fun _ s' hq => wpAny_pure (wpAny_pure hq))
  show wpAny _ _ (assign (.Name y py) X.env (.ref L)) _ _ _
  refine wpAny_assign_Name (store_ok2 (v := V.ref L) I' hN hy (.inl hyl) rfl (fun s2 I2 ⟨a, sb, ha⟩ => ?_) (.inr hyl))
  obtain ⟨f0, f1, f2, f3, f4, f5⟩ := f
  have haC : C ≠ a := by
    rcases ha with z | z
    · rw [z]; exact f1
    · exact fun e => f4 y a z e.symm
  refine ⟨m, hn.sameBut sb haC, fun h3 sb3 => ?_⟩
  exact ⟨_, H', I2.turned (t' := s2.toks) (fun b o hb e => (sb3.2 b hb).trans e) f0 f1 f3 f4 f5, q⟩
theorem sw_dict {kx vx : Expr} {gs : List Comprehension} {scope : Scope} {pos py : Pos} {y : Str} {l : Nat} {env : Env} (hk : env.scope.kind = .function) (hy : env.scope.names.lookup y = some .local) (hl : (py.line == pos.line) = true)
    (ha : (scope.names.any fun (n, k) => n == y && (k == .local || k == .cell)) = false) : swapsWith (.DictComp kx vx gs scope pos) (some (.Name y py)) l env = pure true := by
  have ky : env.kindOf y = some .local := hy
  have hb : env.blockKind = .function := by unfold Env.blockKind; rw [hk]; rfl
  unfold swapsWith
  simp only [hb, ky, ha, Expr.pos, hl]
  rfl
/-- for k, v in (a dict just made).items(): the dict stays locked, nothing else knows it -/
def iItemsT (td : TE) : TI := fun σ H R => td σ H fun x H1 => ∃ d kvs, x = .ref d ∧ H1 d = some (.dK kvs) ∧ ∀ o, R (Iti d o kvs) (upd H1 d (.frz o (.dK kvs)))
theorem pi_itemsT {e : Expr} {td : TE} {apos cpos : Pos} {elts : List Expr} {kk : Nat} {tpos : Pos} (he : PE X e td) (hbase : attributeBase e "items" X.env (eval e X.env) = eval e X.env := by rfl) (hline : (apos.endLine == cpos.line) = true := by rfl) :
    PI X (.Tuple elts kk tpos) (.Call (.Attribute e "items" apos) [] [] cpos) (iItemsT td) := by
  refine ⟨fun pins s σ H R I h => ?_⟩
  refine wpAny_Call_method (T := "dict") (id := "dict.items") hbase rfl hline PySem.F.plainAttrs_dict PySem.F.slot_dict_items PySem.F.type_dict_items (thn (he.run pins s σ H _ I h) fun u s1 ⟨x, H1, I1, rx, d, kvs, ex, hd, q⟩ => ?_)
  subst ex
  obtain rfl : u = Value.ref d := rx
  obtain ⟨od, IL⟩ := I1.lock hd True.intro
  obtain ⟨hs, hgd, hx, es, ep, vs, hdt, hsz, kv, hm⟩ := IL.frzK upd_same
  have hl : kvs.length = vs.length := Paired.length kv
  refine ⟨hm.dictOf.typeIs, hm.dictOf.mapOf.noDict, ?_⟩
  have I2 : Inv X pins σ (upd H1 d (.frz od (.dK kvs))) { s1 with heap := s1.heap.push { cls := .type "dict_items", data := .fields #[.ref d] } } := IL.kept (t' := s1.toks) fun b ob q => Heap.get?_push_of_some _ q
  have fin : wpAny (model X.prog X.w) X.A (pyIter (.ref s1.heap.objs.size)) (PIE X pins σ (.Tuple elts kk tpos) R) X.xe { s1 with heap := s1.heap.push { cls := .type "dict_items", data := .fields #[.ref d] } } := by
    refine wpAny_pyIter_items (d := d) (knd := mixKind X.prog X.w) ⟨_, Heap.get?_push_size _ rfl, rfl, rfl⟩ (hm.push _) (pi_one (tk := s1.toks) I2 _ (turn_items _ hdt) ⟨.none, .none, ?_⟩ (q od))
    rw [hl]
    exact Heap.get?_push_size _ rfl
  show wpAny _ _ (callWith cpos (.builtin "dict.items") [.ref d] [] []) _ X.xe s1
  exact method_meetsIn PySem.F.slot_dict_items PySem.F.entry_dict_items rfl (PySem.evalArgs_none ⟨rfl, hm.dictOf.typeIs, PySem.F.args_dict_items_1 _, _, meets_dict_items (mixKind X.prog X.w) d hs, ⟨vs, hm.dictOf⟩, fin⟩)
end
theorem dkv_congr {n : Nat} {f g : Nat → V} (h : ∀ c, c < n → f c = g c) : dkv n f = dkv n g := by
  unfold dkv
  refine List.map_congr_left fun c hc => ?_
  rw [h c (List.mem_range.mp hc)]
theorem dkv_at {n c : Nat} {f : Nat → V} (h : c < n) : (dkv n f)[c]? = some ((Sum.inr (tx [c]) : Key), f c) := by
  unfold dkv
  rw [List.getElem?_map, List.getElem?_range h]
  rfl
section
variable {P : Program} {w : World} {K : PySem.W.Frag} {mg : Str → Option Value} {base : Heap}
abbrev btRow (l : List Nat) (c i : Nat) : List Int := (List.range i).map fun j => Tb.bt l c j
def spBT (C : Addr) : Sp := fun vs H Q _ => ∃ (a : Addr) (l : List Nat) (n d : Nat), vs = [.ref a, .int (d : Int)] ∧ TAt C H a l n ∧ Good l n ∧ d ≤ 50 ∧
  ∀ H' D (q : Nat → Addr), Same H H' → H' D = some (.dK (dkv n fun c => .ref (q c))) → (∀ c, c < n → H' (q c) = some (.lst (iV (btRow l c (d + 1))))) → Q (.ref D) H'
abbrev N_bt : List Str := ["turns", "degree", "found", "player", "row", "sum_of_values"]
theorem sc_bt : FnScope N_bt ["turns", "degree"] (defScope s_binomial_totals) := ⟨rfl, rfl, rfl, by decide +kernel, rfl, by decide +kernel, by decide +kernel⟩
theorem cal_bt (T : Tx K mg base) : Cal P w K mg base 6 "binomial_totals" ["turns", "degree"] (spBT (CT K)) := by
  refine cal_of (i := 16) (j := 9) T d_binomial_totals rfl rfl rfl rfl rfl (fun _ _ _ _ _ _ us hl => match us, hl with | [_, _], _ => rfl) fun f fd F => ?_
  refine F.ok sc_bt (fun vs H Q E h => ?_) (fun cdv A outer s H vs Q E hr h => ?_)
  · obtain ⟨a, l, n, d, rfl, _⟩ := h
    rfl
  · obtain ⟨a, l, n, d, rfl, ha, g, hd, k⟩ := h
    have nd := sc_bt.nd
    have gl := g.len
    have g6 := g.six
    refine ⟨_, PSs.nox (pss_cons (ps_expr (pe_cal (cal_check_turns T) hr (by rfl) (pa_cons (pv 0) pa_nil)))
      (pss_cons (ps_expr (pe_cal (cal_check_number T) hr (by rfl) (pa_cons (pv 1) (pa_cons pe_int (pa_cons (C8.pe_gc (by rfl) T.maxDegree) pa_nil)))))
      (pss_cons (ps_setDc (i := 2) (own := [("player", 3)]) (g := gName 3) (tk := tVar 3) (tv := tLst tNil) (by rfl) nd rfl rfl (sw_dict rfl rfl rfl (by decide +kernel)) (pi_str (pe_cal (cal_letters_of T) hr (by rfl) (pa_cons (pv 0) pa_nil))) (blkOk_by (own := [("player", 3)]) (N := N_bt) (sc := defScope s_binomial_totals) (by decide +kernel))
        (fun _ _ _ _ _ => pg_name (i := 3) nd rfl (Or.inl rfl)) (fun _ _ _ _ _ => pts_nil) (fun _ _ _ _ _ => pv 3) (fun _ _ _ _ _ => pe_lst pa_nil))
      (pss_cons (ps_forRows (g := gName 4) (fun e t z => z) (by rfl) hr (pr_rows T (fun e t z => z) hr (by rfl) (pa_cons (pe_callB (cr_lenTurns T hr) (by rfl) T.len PySem.boot_len (pa_cons (pv 0) pa_nil)) (pa_cons (pv 1) pa_nil))) (pg_name (i := 4) nd rfl (Or.inl rfl))
        (pss_one (ps_for (g := gTup K 2 (gCons (gName 3) (gCons (gName 5) gNil))) PassesOwn.never rfl (pi_itemsT (pe_cal (cal_totals T) hr (by rfl) (pa_cons (pv 0) (pa_cons (pv 4) pa_nil)))) (pg_tup (by rfl) (pgs_cons (pg_name (i := 3) nd rfl (Or.inl rfl)) (pgs_cons (pg_name (i := 5) nd rfl (Or.inl rfl)) pgs_nil)))
          (pss_one (ps_expr (pe_bm PySem.F.plainAttrs_list PySem.F.slot_list_append PySem.F.type_list_append mt_append (pe_dget (hu_of hr) (pv 2) (pv 3) (fun _ _ => rfl)) (pa_cons (pv 5) pa_nil)))))))
      (pss_one (ps_ret (pv 2))))))), ?_⟩
    refine ⟨_, rfl, a, l, n, rfl, ha, _, rfl, _, 0, 50, rfl, by omega, by omega, ?_⟩
    refine ⟨_, rfl, a, l, n, rfl, ha, g6, _, rfl, fun D hD => ?_⟩
    refine ⟨fun i m H1 => m = n - i ∧ i ≤ n ∧ Same H H1 ∧ ∃ q : Nat → Addr, H1 D = some (.dK (dkv i fun c => .ref (q c))) ∧ (∀ c, c < i → H1 (q c) = some (.lst []) ∧ H (q c) = none) ∧ ∀ c c', c < i → c' < i → q c = q c' → c = c', ⟨n, by simp, Nat.zero_le _, same_upd (Same.refl _) hD, fun _ => 0, upd_same, fun c hc => absurd hc (Nat.not_lt_zero _), fun c c' hc => absurd hc (Nat.not_lt_zero _)⟩, ?_⟩
    have hsz : (tx (List.range n)).cps.size = n := by rw [tx_size, List.length_range]
    rintro i m H1 ⟨rfl, hi, sm, q, eD, hq, hinj⟩
    by_cases hlt : i < n
    · refine .inr ⟨by show i < (tx (List.range n)).cps.size; rw [hsz]; exact hlt, fun H' => Same H H' ∧ ∃ q : Nat → Addr, H' D = some (.dK (dkv (i + 1) fun c => .ref (q c))) ∧ (∀ c, c < i + 1 → H' (q c) = some (.lst []) ∧ H (q c) = none) ∧ ∀ c c', c < i + 1 → c' < i + 1 → q c = q c' → c = c', fun H' p' => ⟨n - (i + 1), by omega, rfl, hlt, p'⟩, fun x H' y => ?_⟩
      obtain ⟨rfl, c, ec, rfl⟩ := y
      rw [tx_at, List.getElem?_range hlt] at ec
      cases ec
      refine ⟨rfl, _, rfl, by show 0 ≤ sizeLine; decide, fun p hp => ?_⟩
      have nDp : D ≠ p := ne_of_none eD hp
      refine ⟨_, Sum.inr (tx [i]), rfl, by rw [upd_ne nDp]; exact eD, (by rw [dkv_len, sizeLine_eq]; omega), same_upd (same_upd sm (sm.free hp)) hD, fun c => if c = i then p else q c, ?_, fun c hc => ?_, fun c c' hc hc' e => ?_⟩
      · rw [upd_same]
        have e1 : dkv (i + 1) (fun c => V.ref (if c = i then p else q c)) = putK (dkv i fun c => V.ref (if c = i then p else q c)) (Sum.inr (tx [i]) : Key) (V.ref (if i = i then p else q i)) := dkv_put i _
        rw [e1, if_pos rfl, dkv_congr (n := i) (f := fun c => V.ref (if c = i then p else q c)) (g := fun c => V.ref (q c)) fun c hc => by rw [if_neg (Nat.ne_of_lt hc)]]
      · by_cases hci : c = i
        · subst hci
          simp only [if_true]
          exact ⟨by rw [upd_ne nDp.symm, upd_same], sm.free hp⟩
        · simp only [if_neg hci]
          obtain ⟨h1, h2⟩ := hq c (by omega)
          have n1 : q c ≠ p := ne_of_none h1 hp
          have n2 : q c ≠ D := ne_of h1 eD (by intro z; cases z)
          exact ⟨by rw [upd_ne n2, upd_ne n1]; exact h1, h2⟩
      · by_cases hci : c = i
        · by_cases hci' : c' = i
          · rw [hci, hci']
          · simp only [if_pos hci, if_neg hci'] at e
            exact absurd e.symm (ne_of_none (hq c' (by omega)).1 hp)
        · by_cases hci' : c' = i
          · simp only [if_neg hci, if_pos hci'] at e
            exact absurd e (ne_of_none (hq c (by omega)).1 hp)
          · simp only [if_neg hci, if_neg hci'] at e
            exact hinj c c' (by omega) (by omega) e
    · have ein : i = n := by omega
      subst ein
      refine .inl ⟨by show (tx (List.range i)).cps.size ≤ i; rw [hsz]; exact Nat.le_refl _, ?_⟩
      generalize hn : i = n at *
      clear hn hlt hi
      -- the lists are made
      refine ⟨_, rfl, a, l, n, rfl, ha.same sm, gl, _, rfl, l.length, d, rfl, gl, by omega, ?_⟩
      refine ⟨fun i σ H2 => (∃ pl rw sv, σ = [some (.ref a), some (.int (d : Int)), some (.ref D), pl, rw, sv]) ∧ (∀ b o, H1 b = some o → (∀ c, c < n → b ≠ q c) → H2 b = some o) ∧ ∀ c, c < n → H2 (q c) = some (.lst (iV (btRow l c i))), ⟨⟨none, none, none, rfl⟩, fun b o e _ => e, fun c hc => (hq c hc).1⟩, ?_, ?_⟩
      · rintro i σ H2 p o hi ⟨⟨pl, rw, sv, rfl⟩, hkeep, hqs⟩ hlike hp0
        have sm2 : Same H H2 := fun b u e => hkeep b u (sm b u e) fun c hc z => by
          rw [z, (hq c hc).2] at e
          cases e
        have hpf : upd H2 p (.frz o (.lst (iV (Tb.binRow l.length i)))) p = some (.frz o (.lst (iV (Tb.binRow l.length i)))) := upd_same
        have smA : Same H2 (upd H2 p (.frz o (.lst (iV (Tb.binRow l.length i))))) := same_new hp0
        refine ⟨_, rfl, _, rfl, a, l, n, p, Tb.binRow l.length i, rfl, (ha.same sm2).same smA, g, (Or.inl (Or.inr ⟨_, hpf⟩)), Tb.binRow_len _ _, fun H3 dd sm3 hdd0 ed => ?_⟩
        refine ⟨dd, _, rfl, ed, fun o' => ?_⟩
        have npd : p ≠ dd := ne_of_none hpf hdd0
        have smB : Same H2 H3 := smA.trans sm3
        have hDdd : ∀ b u, H2 b = some u → b ≠ dd := fun b u e => ne_of_none (smA _ _ e) hdd0
        refine for_it walk_items (fun j σ H4 => (∃ pl sv, σ = [some (.ref a), some (.int (d : Int)), some (.ref D), pl, some (.ref p), sv]) ∧ H4 dd = some (.frz o' (.dK (dkv n fun c => .int (Tb.tot l c (Tb.binRow l.length i))))) ∧ H4 p = some (.frz o (.lst (iV (Tb.binRow l.length i)))) ∧
          (∀ b u, H1 b = some u → (∀ c, c < n → b ≠ q c) → H4 b = some u) ∧ ∀ c, c < n → H4 (q c) = some (.lst (iV (btRow l c (if c < j then i + 1 else i))))) ?_ ?_ ?_ ?_
        · refine ⟨⟨pl, sv, rfl⟩, upd_same, by rw [upd_ne npd]; exact sm3 _ _ hpf, fun b u e hb => ?_, fun c hc => ?_⟩
          · have e2 := hkeep b u e hb
            rw [upd_ne (hDdd b u e2)]
            exact smB _ _ e2
          · have e2 := hqs c hc
            rw [upd_ne (hDdd _ _ e2), if_neg (Nat.not_lt_zero _)]
            exact smB _ _ e2
        · rintro j σ H4 _ ⟨_, e, _⟩
          exact e
        · rintro j x σ H4 H5 hj ⟨⟨pl, sv, rfl⟩, edd, ep, hk4, hq4⟩ y
          rw [dkv_len] at hj
          obtain ⟨T1, x1, x2, rfl, hT, rfl, e1, e2⟩ := y
          have e3 : ((dkv n fun c => V.int (Tb.tot l c (Tb.binRow l.length i)))[j]?.map fun kv => kV kv.1) = some x1 := e1
          have e4 : ((dkv n fun c => V.int (Tb.tot l c (Tb.binRow l.length i)))[j]?.map Prod.snd) = some x2 := e2
          rw [dkv_at hj] at e3 e4
          cases e3
          cases e4
          refine ⟨T1, [_, _], rfl, SqT.of upd_same, rfl, _, _, rfl, _, _, rfl, rfl, ?_⟩
          have smT : Same H4 (upd H4 T1 (.tup [kV (Sum.inr (tx [j])), V.int (Tb.tot l j (Tb.binRow l.length i))])) := same_new hT
          have hqD : ∀ c, c < n → D ≠ q c := fun c hc z => by
            have h1 := (hq c hc).1
            rw [← z, eD] at h1
            cases h1
          have eD4 := smT _ _ (hk4 D _ eD hqD)
          have gD := DGet.k (k := Sum.inr (tx [j])) eD4
          rw [dkv_get hj] at gD
          have eq4 := smT _ _ (hq4 j hj)
          refine ⟨_, rfl, _, rfl, D, _, rfl, gD, .inl ⟨rfl, _, SqL.of eq4⟩, _, rfl, q j, _, _, rfl, rfl, eq4, ?_, ?_⟩
          · rw [List.length_map, List.length_map, List.length_range, sizeLine_eq, if_neg (Nat.lt_irrefl j)]
            have : i < d + 1 := hi
            omega
          · have nq : ∀ b u, H4 b = some u → (∀ ys, u ≠ .lst ys) → b ≠ q j := fun b u e z => ne_of e (hq4 j hj) (z _)
            refine ⟨⟨_, _, rfl⟩, ?_, ?_, fun b u e hb => ?_, fun c hc => ?_⟩
            · rw [upd_ne (nq _ _ edd (by intro ys z; cases z))]
              exact smT _ _ edd
            · rw [upd_ne (nq _ _ ep (by intro ys z; cases z))]
              exact smT _ _ ep
            · rw [upd_ne (hb j hj)]
              exact smT _ _ (hk4 b u e hb)
            · by_cases hcj : c = j
              · subst hcj
                rw [upd_same, if_pos (Nat.lt_succ_self _), if_neg (Nat.lt_irrefl _)]
                have e5 : btRow l c (i + 1) = btRow l c i ++ [Tb.bt l c i] := by
                  unfold btRow
                  rw [List.range_succ, List.map_append]
                  rfl
                rw [e5, iV_app]
                rfl
              · have nqc : q c ≠ q j := fun z => hcj (hinj c j hc hj z)
                rw [upd_ne nqc]
                have e5 := smT _ _ (hq4 c hc)
                by_cases hlt2 : c < j
                · rw [if_pos hlt2] at e5
                  rw [if_pos (by omega)]
                  exact e5
                · rw [if_neg hlt2] at e5
                  rw [if_neg (by omega)]
                  exact e5
        · rintro σ H4 ⟨⟨pl, sv, rfl⟩, edd, ep, hk4, hq4⟩
          rw [dkv_len] at hq4
          refine ⟨ep, fun b u e => ?_, ⟨_, _, _, rfl⟩, fun b u e hb => ?_, fun c hc => ?_⟩
          · by_cases hb : ∀ c, c < n → b ≠ q c
            · exact .inl (hk4 b u e hb)
            · obtain ⟨c, hb⟩ := Classical.not_forall.mp hb
              obtain ⟨hc, hb⟩ := Classical.not_imp.mp hb
              have hb := Classical.not_not.mp hb
              subst hb
              rw [(hq c hc).1] at e
              exact .inr ⟨_, _, (Option.some.inj e).symm, hq4 c hc⟩
          · rw [trim_at (by rw [e]; simp)]
            exact hk4 b u e hb
          · rw [trim_at (by rw [(hq c hc).1]; simp)]
            have e5 := hq4 c hc
            rw [if_pos hc] at e5
            exact e5
      · rintro σ H2 ⟨⟨pl, rw, sv, rfl⟩, hkeep, hqs⟩ _
        refine ⟨_, rfl, ?_⟩
        refine k H2 D q (fun b u e => hkeep b u (sm b u e) fun c hc z => ?_) (hkeep D _ eD fun c hc z => ?_) hqs
        · rw [z, (hq c hc).2] at e
          cases e
        · have h1 := (hq c hc).1
          rw [← z, eD] at h1
          cases h1
end
end TB
set_option maxHeartbeats 4000000
namespace TB
open PySem PySem.Spec PyProof.Rows L2
section
variable {P : Program} {w : World} {K : PySem.W.Frag} {mg : Str → Option Value} {base : Heap}
theorem modN (y x n : Nat) : ((y : Int) + (x : Int)).fmod (n : Int) = (((y + x) % n : Nat) : Int) := by
  rw [Int.fmod_eq_emod_of_nonneg _ (Int.natCast_nonneg n)]
  rfl
def spRaised : Sp := fun vs H Q _ => ∃ (l : List Nat) (x n : Nat), vs = [.str (tx l), .str (tx [x]), .int (n : Int)] ∧ l.length ≤ 2000 ∧ (∀ y ∈ l, y < 6) ∧ x < 6 ∧ 0 < n ∧ n ≤ 6 ∧ ∀ H', Same H H' → Q (.str (tx (l.map fun y => (y + x) % n))) H'
abbrev N_ra : List Str := ["text", "player", "players", "number", "item"]
theorem sc_ra : FnScope N_ra ["text", "player", "players"] (defScope s_raised) := ⟨rfl, rfl, rfl, by decide +kernel, rfl, by decide +kernel, by decide +kernel⟩
theorem join_map {l : List Nat} {g : Nat → Nat} (hl : l.length ≤ 2000) : ((l.map fun y => tx [g y]).map (·.length)).sum + (l.map fun y => tx [g y]).length * ("" : Str).length ≤ 16777216 := by
  have e3 : (l.map fun y => tx [g y]) = (l.map fun y => [g y]).map tx := by rw [List.map_map]; rfl
  rw [e3, lens_tx, List.length_flatten, List.map_map]
  have : ∀ z : List Nat, (z.map (List.length ∘ fun y => [g y])).sum = z.length := fun z => by
    induction z with
    | nil => rfl
    | cons x r ih => rw [List.map_cons, List.sum_cons, ih, List.length_cons]; show 1 + _ = _; omega
  rw [this]
  omega
theorem cal_raised (T : Tx K mg base) : Cal P w K mg base 1 "raised" ["text", "player", "players"] spRaised := by
  refine cal_of (i := 30) (j := 23) T d_raised rfl rfl rfl rfl rfl (fun _ _ _ _ _ _ us hl => match us, hl with | [_, _, _], _ => rfl) fun f fd F => ?_
  refine F.ok sc_ra (fun vs H Q E h => ?_) (fun cdv A outer s H vs Q E hr h => ?_)
  · obtain ⟨l, x, n, rfl, _⟩ := h
    rfl
  · obtain ⟨l, x, n, rfl, hl, h6, hx, hn0, hn6, k⟩ := h
    have nd := sc_ra.nd
    refine ⟨_, PSs.nox (pss_cons (ps_set (i := 3) nd rfl (Or.inr rfl) (pe_bm PySem.F.plainAttrs_str PySem.F.slot_str_index PySem.F.type_str_index mt_indexT (C8.pe_gc (by rfl) T.letters) (pa_cons (pv 1) pa_nil)))
      (pss_one (ps_ret (pe_join pe_str (pe_lc (own := [("item", 4)]) (g := gName 4) (te := tOp rIxS (tC (.str "ABCDEF")) (tOp (rI (fun _ j => j ≠ 0) fun i j => .int (i.fmod j)) (tOp (rI0 fun i j => .int (i + j)) (tBM K "str" rIndexT (tC (.str "ABCDEF")) (tCons (tVar 4) tNil)) (tVar 3)) (tVar 2)))
        (by rfl) nd (pi_str (pv 0)) (blkOk_by (own := [("item", 4)]) (N := N_ra) (sc := defScope s_raised) (by decide +kernel))
        (fun _ _ _ _ _ => pg_name (i := 4) nd rfl (Or.inl rfl)) (fun _ _ _ _ _ => pts_nil)
        (fun _ _ _ _ _ => pe_ix ix_str (C8.pe_gc (by rfl) T.letters) (pe_op op_modN (pe_op op_add (pe_bm PySem.F.plainAttrs_str PySem.F.slot_str_index PySem.F.type_str_index mt_indexT (C8.pe_gc (by rfl) T.letters) (pa_cons (pv 4) pa_nil)) (pv 3)) (pv 2)) (fun _ _ => rfl))))))), ?_⟩
    refine ⟨rfl, _, rfl, _, _, x, rfl, rfl, index_abc hx, ?_⟩
    refine ⟨⟨_, rfl⟩, _, rfl, _, rfl, fun D hD => ?_⟩
    refine lc_pure walk_str (fun i => ((l.take i).map fun y => V.str (tx [(y + x) % n]))) hD rfl (fun i hi => ?_) (fun _ _ => True.intro) (fun i v H1 H2 hi sm y => ?_) (fun H2 sm e => ?_)
    · rw [tx_size] at hi
      rw [List.length_map, List.length_take, sizeLine_eq]
      omega
    · obtain ⟨rfl, c, ec, rfl⟩ := y
      rw [tx_at] at ec
      obtain ⟨z, ez, rfl⟩ := Option.map_eq_some_iff.mp ec
      have hz := h6 z (List.mem_of_getElem? ez)
      have hm : (z + x) % n < 6 := Nat.lt_of_lt_of_le (Nat.mod_lt _ hn0) hn6
      refine ⟨Same.refl _, fun Fin FinN h1 h2 => ?_⟩
      refine ⟨rfl, rfl, _, rfl, _, _, z, rfl, rfl, index_abc hz, _, rfl, _, _, rfl, rfl, _, rfl, _, _, rfl, rfl, by omega, ?_⟩
      refine ⟨_, _, (z + x) % n + 65, rfl, rfl, abc_size, ?_, ?_⟩
      · rw [modN]
        exact at_abc hm
      · refine h1 _ _ (Same.refl _) ?_
        rw [List.take_add_one, ez, List.map_append]
        rfl
    · rw [tx_size, List.take_length] at e
      have e2 : (l.map fun y => V.str (tx [(y + x) % n])) = (l.map fun y => tx [(y + x) % n]).map V.str := by rw [List.map_map]; rfl
      rw [e2] at e
      refine ⟨_, D, _, rfl, rfl, .inl (SqL.of e), join_map hl, ?_⟩
      have e3 : (l.map fun y => tx [(y + x) % n]) = (l.map fun y => (y + x) % n).map fun z => tx [z] := by rw [List.map_map]; rfl
      rw [e3, join_one]
      exact k H2 sm
def spP2 (C : Addr) : Sp := fun vs H Q _ => ∃ (a b : Addr) (l m : List Nat) (n : Nat), vs = [.ref a, .ref b] ∧ TAt C H a l n ∧ Good l n ∧ TAt C H b m n ∧ Good m n ∧ l.length * m.length ≤ 2000 ∧ ∀ H' c, Same H H' → TAt C H' c (Tb.prodT n l m) n → Q (.ref c) H'
abbrev N_p2 : List Str := ["one", "other", "copies", "player", "item"]
theorem sc_p2 : FnScope N_p2 ["one", "other"] (defScope s_product_of_two) := ⟨rfl, rfl, rfl, by decide +kernel, rfl, by decide +kernel, by decide +kernel⟩
theorem Good.prod {l m : List Nat} {n : Nat} (g : Good l n) (h : Good m n) (hl : l.length * m.length ≤ 2000) : Good (Tb.prodT n l m) n := by
  have l1 : 0 < l.length := List.length_pos_iff.mpr g.ne
  have l2 : 0 < m.length := List.length_pos_iff.mpr h.ne
  have l3 := Tb.prod_len n l m
  refine ⟨fun e => ?_, by rw [l3]; exact hl, Tb.prod_lt (by have := g.two; omega) l m, g.two, g.six⟩
  rw [e] at l3
  have := Nat.mul_pos l1 l2
  simp at l3
  omega
theorem cal_p2 (T : Tx K mg base) : Cal P w K mg base 5 "product_of_two" ["one", "other"] (spP2 (CT K)) := by
  refine cal_of (i := 31) (j := 24) T d_product_of_two rfl rfl rfl rfl rfl (fun _ _ _ _ _ _ us hl => match us, hl with | [_, _], _ => rfl) fun f fd F => ?_
  refine F.ok sc_p2 (fun vs H Q E h => ?_) (fun cdv A outer s H vs Q E hr h => ?_)
  · obtain ⟨a, b, l, m, n, rfl, _⟩ := h
    rfl
  · obtain ⟨a, b, l, m, n, rfl, ha, g, hb, gm, hlm, k⟩ := h
    have nd := sc_p2.nd
    have n2 := g.two
    have n6 := g.six
    refine ⟨_, PSs.nox (pss_cons (ps_set (i := 2) nd rfl (Or.inr rfl) (pe_dc (own := [("player", 3)]) (g := gName 3) (tk := tVar 3)
        (tv := tCall spRaised [] E0 (tCons (tProp (CT K) (spText (CT K)) [] E0 (tVar 1)) (tCons (tVar 3) (tCons (tProp (CT K) (spPlayers (CT K)) [] E0 (tVar 0)) tNil))))
        (by rfl) nd (pi_str (pe_slice C8.sl_txt (C8.pe_gc (by rfl) T.letters) po_none (po_some (pe_pal (pal_players T) T.cl hr (pv 0))))) (blkOk_by (own := [("player", 3)]) (N := N_p2) (sc := defScope s_product_of_two) (by decide +kernel))
        (fun _ _ _ _ _ => pg_name (i := 3) nd rfl (Or.inl rfl)) (fun _ _ _ _ _ => pts_nil) (fun _ _ _ _ _ => pv 3)
        (fun _ _ _ _ _ => pe_cal (cal_raised T) hr (by rfl) (pa_cons (pe_pal (pal_text T) T.cl hr (pv 1)) (pa_cons (pv 3) (pa_cons (pe_pal (pal_players T) T.cl hr (pv 0)) pa_nil))))))
      (pss_one (ps_ret (pe_newTurns T hr (by rfl) (pa_cons (pe_join pe_str (pe_lc (own := [("item", 4)]) (g := gName 4) (te := tDGet (tVar 2) (tVar 4)) (by rfl) nd (pi_str (pe_pal (pal_text T) T.cl hr (pv 0))) (blkOk_by (own := [("item", 4)]) (N := N_p2) (sc := defScope s_product_of_two) (by decide +kernel))
        (fun _ _ _ _ _ => pg_name (i := 4) nd rfl (Or.inl rfl)) (fun _ _ _ _ _ => pts_nil) (fun _ _ _ _ _ => pe_dget (hu_of hr) (pv 2) (pv 4) (fun _ _ => rfl)))) (pa_cons (pe_pal (pal_players T) T.cl hr (pv 0)) pa_nil)))))), ?_⟩
    obtain ⟨dx, ea⟩ := id ha
    obtain ⟨db, eb⟩ := id hb
    refine ⟨_, rfl, a, dx, _, rfl, ea, a, l, n, rfl, ha, _, rfl, _, rfl, abc_size, ?_⟩
    rw [slice_abc n6]
    refine ⟨_, rfl, fun D hD => ?_⟩
    refine dc_pure walk_str (fun i => dkv i fun c => .str (tx (m.map fun y => (y + c) % n))) hD rfl (fun i hi => ?_) (fun _ _ => True.intro) (fun i v H1 H2 hi sm hDi y => ?_) (fun H2 sm e => ?_)
    · rw [tx_size, List.length_range] at hi
      rw [dkv_len, sizeLine_eq]
      omega
    · rw [tx_size, List.length_range] at hi
      obtain ⟨rfl, c, ec, rfl⟩ := y
      rw [tx_at, List.getElem?_range hi] at ec
      cases ec
      refine ⟨Same.refl _, fun Fin FinN h1 h2 => ?_⟩
      refine ⟨rfl, _, rfl, ?_⟩
      refine ⟨_, rfl, b, db, _, rfl, sm _ _ eb, b, m, n, rfl, hb.same sm, _, rfl, _, rfl, a, dx, _, rfl, sm _ _ ea, a, l, n, rfl, ha.same sm, ?_⟩
      exact ⟨m, i, n, rfl, gm.len, fun y hy => Nat.lt_of_lt_of_le (gm.lt y hy) n6, by omega, by omega, n6, fun H3 sm3 => h1 (Sum.inr (tx [i])) _ _ sm3 (dkv_put i _)⟩
    · rw [tx_size, List.length_range] at e
      refine ⟨⟨_, rfl⟩, _, rfl, a, dx, _, rfl, sm _ _ ea, a, l, n, rfl, ha.same sm, _, rfl, fun D2 hD2 => ?_⟩
      refine lc_pure walk_str (fun i => ((l.take i).map fun x => V.str (tx (m.map fun y => (y + x) % n)))) hD2 rfl (fun i hi => ?_) (fun _ _ => True.intro) (fun i v H3 H4 hi sm3 y => ?_) (fun H3 sm3 e3 => ?_)
      · rw [tx_size] at hi
        have := g.len
        rw [List.length_map, List.length_take, sizeLine_eq]
        omega
      · obtain ⟨rfl, c, ec, rfl⟩ := y
        rw [tx_at] at ec
        obtain ⟨x, ex, rfl⟩ := Option.map_eq_some_iff.mp ec
        have hx := g.lt x (List.mem_of_getElem? ex)
        refine ⟨Same.refl _, fun Fin FinN h1 h2 => ?_⟩
        have gD := DGet.k (k := Sum.inr (tx [x])) (sm3 _ _ e)
        rw [dkv_get hx] at gD
        refine ⟨rfl, _, rfl, _, rfl, D, _, rfl, gD, ?_⟩
        refine h1 _ _ (Same.refl _) ?_
        rw [List.take_add_one, ex, List.map_append]
        rfl
      · rw [tx_size, List.take_length] at e3
        have e4 : (l.map fun x => V.str (tx (m.map fun y => (y + x) % n))) = ((l.map fun x => m.map fun y => (y + x) % n).map tx).map V.str := by rw [List.map_map, List.map_map]; rfl
        rw [e4] at e3
        have e5 : (l.map fun x => m.map fun y => (y + x) % n).flatten = Tb.prodT n l m := (List.flatMap_def ..).symm
        refine ⟨_, D2, _, rfl, rfl, .inl (SqL.of e3), ?_, ?_⟩
        · rw [lens_tx, e5, Tb.prod_len]
          omega
        · rw [join_tx, e5]
          have smB := sm.trans sm3
          exact ⟨_, rfl, a, dx, _, rfl, smB _ _ ea, a, l, n, rfl, ha.same smB, _, n, rfl, g.prod gm hlm, fun H5 c sm5 _ tc => k H5 c (smB.trans sm5) tc⟩
end
end TB
set_option maxHeartbeats 4000000
namespace TB
open PySem PySem.Spec PyProof.Rows L2
section
variable {P : Program} {w : World} {K : PySem.W.Frag} {mg : Str → Option Value} {base : Heap}
def spFactors (C : Addr) : Sp := fun vs H Q _ => ∃ (p a b : Addr) (l m : List Nat) (n : Nat), vs = [.ref p] ∧ H p = some (.tup [.ref a, .ref b]) ∧ TAt C H a l n ∧ TAt C H b m n ∧ ∀ H', Same H H' → Q .non H'
abbrev N_cf : List Str := ["factors", "position", "factor"]
theorem sc_cf : FnScope N_cf ["factors"] (defScope s_check_factors) := ⟨rfl, rfl, rfl, by decide +kernel, rfl, by decide +kernel, by decide +kernel⟩
theorem cal_cf (T : Tx K mg base) : Cal P w K mg base 3 "check_factors" ["factors"] (spFactors (CT K)) := by
  refine cal_of (i := 29) (j := 22) T d_check_factors rfl rfl rfl rfl rfl (fun _ _ _ _ _ _ us hl => match us, hl with | [_], _ => rfl) fun f fd F => ?_
  refine F.ok sc_cf (fun vs H Q E h => ?_) (fun cdv A outer s H vs Q E hr h => ?_)
  · obtain ⟨p, a, b, l, m, n, rfl, _⟩ := h
    rfl
  · obtain ⟨p, a, b, l, m, n, rfl, hp, ha, hb, k⟩ := h
    have nd := sc_cf.nd
    refine ⟨_, PSs.nox (pss_cons (ps_if (pt_cmpR op_eq (pe_callB call_len_seq (by rfl) T.len PySem.boot_len (pa_cons (pv 0) pa_nil)) pe_int (nomark _)) (pss_one ps_never) pss_nil)
      (pss_one (ps_for (g := gTup K 2 (gCons (gName 1) (gCons (gName 2) gNil))) PassesOwn.never rfl (pi_enumT (by rfl) T.enumerate (pa_cons (pv 0) pa_nil)) (pg_tup (by rfl) (pgs_cons (pg_name (i := 1) nd rfl (Or.inl rfl)) (pgs_cons (pg_name (i := 2) nd rfl (Or.inl rfl)) pgs_nil)))
        (pss_one (ps_if (PW.pt (pw_or (pt_not (pt_val (pe_callB (C8.call_isC T.insC) (by rfl) T.isinstance (by decide +kernel) (pa_cons (pv 2) (pa_cons (pe_glob (v := .ref (CT K)) (by rfl) T.turns rfl) pa_nil)))))
          (pw_or1 (pt_cmpR op_ne (pe_pal (pal_players T) T.cl hr (pv 2)) (pe_pal (pal_players T) T.cl hr (pe_ix ix_tup (pv 0) pe_int (fun _ _ => rfl))) (nomark _))))) (pss_one ps_never) pss_nil))))), ?_⟩
    refine ⟨_, rfl, p, _, rfl, .inr (SqT.of hp), rfl, _, rfl, ?_⟩
    refine ⟨_, rfl, p, _, rfl, SqT.of hp, ?_⟩
    refine for_it walk_enumT (fun i σ H' => Same H H' ∧ ∃ x y, σ = [some (.ref p), x, y]) ⟨Same.refl _, none, none, rfl⟩ (fun i σ H' _ v => SqT.of (v.1 _ _ hp)) ?_ ?_
    · rintro i v σ H1 H2 hi ⟨sm, x, y, rfl⟩ q
      obtain ⟨T1, x1, x2, rfl, hT, rfl, e1, e2⟩ := q
      cases e1
      have smT : Same H1 (upd H1 T1 (.tup [.int (i : Nat), x2])) := same_new hT
      have smB := sm.trans smT
      refine ⟨T1, [_, _], rfl, SqT.of upd_same, rfl, _, _, rfl, _, _, rfl, rfl, ?_⟩
      have hx2 : ∃ c l', x2 = .ref c ∧ TAt (CT K) H c l' n := by
        have e3 : ([V.ref a, V.ref b] : List V)[i]? = some x2 := e2
        match i, hi, e3 with
        | 0, _, e => cases e; exact ⟨a, l, rfl, ha⟩
        | 1, _, e => cases e; exact ⟨b, m, rfl, hb⟩
      obtain ⟨c, l', rfl, hc⟩ := hx2
      obtain ⟨dc, ec⟩ := id (hc.same smB)
      obtain ⟨da, ea⟩ := id (ha.same smB)
      refine ⟨_, rfl, c, dc, _, rfl, ec, true, rfl, ?_⟩
      refine ⟨_, rfl, c, dc, _, rfl, ec, c, l', n, rfl, hc.same smB, ?_⟩
      refine ⟨_, rfl, p, _, _, V.ref a, rfl, rfl, SqT.of (smB _ _ hp), atI_nat (j := 0) rfl, a, da, _, rfl, ea, a, l, n, rfl, ha.same smB, rfl, _, rfl, ?_⟩
      have d1 : (!decide (V.int (n : Int) = V.int (n : Int))) = false := by rw [decide_eq_true rfl]; rfl
      rw [d1]
      exact ⟨smB, _, _, rfl⟩
    · rintro σ H1 ⟨sm, x, y, rfl⟩
      exact k H1 sm
def spProd (C : Addr) : Sp := fun vs H Q _ => ∃ (a b : Addr) (l m : List Nat) (n : Nat), vs = [.ref a, .ref b] ∧ TAt C H a l n ∧ Good l n ∧ TAt C H b m n ∧ Good m n ∧ l.length * m.length ≤ 2000 ∧ ∀ H' c, Same H H' → TAt C H' c (Tb.prodT n l m) n → Q (.ref c) H'
abbrev N_pr : List Str := ["factors", "length", "factor", "found"]
theorem sc_pr : FnScope N_pr ["factors"] (defScope s_product) := ⟨rfl, rfl, rfl, by decide +kernel, rfl, by decide +kernel, by decide +kernel⟩
theorem prod_bind {kV doc pm cdv ct : Value} {an : Option Addr} : ∀ rest : List Value, bindArgs (PySem.W.fnOf d_product.name d_product.qual d_product.params d_product.body d_product.scope .none kV doc pm an cdv ct) ⟨rest, []⟩ = (newTuple rest >>= fun t => pure [(("factors" : Str), t)])
  | [] => rfl
  | _ :: _ => rfl
theorem fr_prod (T : Tx K mg base) : ∃ f, mg "product" = some (.ref f) ∧ PySem.W.keepIn K (.ref f) = true ∧ FnR P w K mg base CX0 6 f (spProd (CT K)) := by
  obtain ⟨fd, F⟩ := T.dd 32 (d := d_product) rfl
  refine ⟨He.fAd K d_product.at_, T.glo 25, F.kp, ?_⟩
  obtain ⟨oc, od, dV, kV, doc, pm, an, cdv, ct, osl, rfl, lk, hcd, hdv, _⟩ := F.ex
  have edv : dV = .none := by
    rcases hdv with ⟨_, e⟩ | ⟨e, _⟩
    · exact e
    · exact absurd rfl e
  subst edv
  have nd := sc_pr.nd
  have main := StX.fn_star (P := P) (w := w) (mg := mg) (base := base) (CX := CX0) (k := 5) (ps := []) (pv := "factors") (N := N_pr)
    (sp := fun vs H Q _ => ∃ (p a b : Addr) (l m : List Nat) (n : Nat), vs = [.ref p] ∧ H p = some (.tup [.ref a, .ref b]) ∧ TAt (CT K) H a l n ∧ Good l n ∧ TAt (CT K) H b m n ∧ Good m n ∧ l.length * m.length ≤ 2000 ∧ ∀ H' c, Same H H' → TAt (CT K) H' c (Tb.prodT n l m) n → Q (.ref c) H')
    lk hcd sc_pr StX.cxUp_none
    (fun us rest hl => by
      have e : us = [] := List.eq_nil_of_length_eq_zero hl
      subst e
      exact prod_bind rest)
    (fun A outer s H vs Q E hr h => ?_)
  · intro A outer s H us vs Q E hr e0 r hsp
    obtain ⟨a, b, l, m, n, rfl, ha, g, hb, gm, hlm, k⟩ := hsp
    refine main A outer s H us _ Q E hr e0 r ⟨[], [.ref a, .ref b], rfl, rfl, by show 2 ≤ sizeLine; decide, fun p hp => ?_⟩
    have sm : Same H (upd H p (.tup [.ref a, .ref b])) := same_new hp
    exact ⟨p, a, b, l, m, n, rfl, upd_same, ha.same sm, g, hb.same sm, gm, hlm, fun H' c sm2 tc => k H' c (sm.trans sm2) tc⟩
  · obtain ⟨p, a, b, l, m, n, rfl, hp, ha, g, hb, gm, hlm, k⟩ := h
    refine ⟨_, PSs.nox (pss_cons (ps_expr (pe_cal (cal_cf T) hr (by rfl) (pa_cons (pv 0) pa_nil)))
      (pss_cons (ps_set (i := 1) nd rfl (Or.inl rfl) pe_int)
      (pss_cons (ps_for PassesOwn.never rfl (pi_tup (pv 0)) (pg_name (i := 2) nd rfl (Or.inl rfl)) (pss_one (ps_aug (i := 1) nd rfl (.inl rfl) (pe_callB (cr_lenTurns T hr) (by rfl) T.len PySem.boot_len (pa_cons (pv 2) pa_nil)) iop_mul)))
      (pss_cons (ps_expr (pe_cal (cal_check_length T) hr (by rfl) (pa_cons (pv 1) pa_nil)))
      (pss_cons (ps_set (i := 3) nd rfl (Or.inl rfl) (pe_ix ix_tup (pv 0) pe_int (fun _ _ => rfl)))
      (pss_cons (ps_for PassesOwn.never rfl (pi_tup (pe_slice sl_tup (pv 0) (po_some pe_int) po_none)) (pg_name (i := 2) nd rfl (Or.inl rfl)) (pss_one (ps_set (i := 3) nd rfl (Or.inl rfl) (pe_cal (cal_p2 T) hr (by rfl) (pa_cons (pv 3) (pa_cons (pv 2) pa_nil))))))
      (pss_one (ps_ret (pv 3))))))))), ?_⟩
    have g1 := g.len
    have g2 := gm.len
    refine ⟨_, rfl, p, a, b, l, m, n, rfl, hp, ha, hb, fun H1 sm1 => ?_⟩
    refine ⟨_, rfl, p, rfl, ⟨_, SqT.of (sm1 _ _ hp)⟩, ?_⟩
    refine for_tup (xs := [V.ref a, V.ref b]) (fun i σ H' => H' = H1 ∧ ∃ x, σ = [some (.ref p), some (.int ((if i = 0 then 1 else if i = 1 then l.length else l.length * m.length : Nat) : Int)), x, none]) ⟨rfl, none, rfl⟩ (fun i σ H' _ v => by rw [v.1]; exact SqT.of (sm1 _ _ hp)) ?_ ?_
    · rintro i x σ H' hx ⟨rfl, y, rfl⟩
      match i, hx with
      | 0, hx =>
        cases hx
        refine ⟨_, rfl, _, rfl, a, l, n, rfl, ha.same sm1, g1, _, _, rfl, rfl, .inr ⟨by omega, by omega⟩, ?_⟩
        refine ⟨rfl, some (V.ref a), ?_⟩
        exact congrArg (fun z => [some (V.ref p), some (V.int z), some (V.ref a), none]) (show ((1 : Nat) : Int) * (l.length : Int) = ((l.length : Nat) : Int) by omega)
      | 1, hx =>
        cases hx
        refine ⟨_, rfl, _, rfl, b, m, n, rfl, hb.same sm1, g2, _, _, rfl, rfl, .inr ⟨by omega, by omega⟩, ?_⟩
        exact ⟨rfl, _, rfl⟩
    · rintro σ H' ⟨rfl, x, rfl⟩
      refine ⟨_, rfl, _, rfl, ?_, ?_⟩
      · show ((l.length * m.length : Nat) : Int) ≤ 2000
        omega
      refine ⟨_, rfl, p, _, _, V.ref a, rfl, rfl, SqT.of (sm1 _ _ hp), atI_nat (j := 0) rfl, ?_⟩
      refine ⟨_, rfl, _, rfl, p, _, rfl, SqT.of (sm1 _ _ hp), (fun z => absurd (show (1 : Nat) = 0 from z.1) (by decide)), fun t ht => ?_⟩
      have smt : Same H' (upd H' t (.tup (cutV [V.ref a, V.ref b] (some 1) none))) := same_new ht
      have ecut : cutV [V.ref a, V.ref b] (some 1) none = [V.ref b] := rfl
      refine ⟨t, rfl, ⟨_, SqT.of upd_same⟩, ?_⟩
      refine for_tup (xs := [V.ref b]) (fun i σ H2 => Same (upd H' t (.tup (cutV [V.ref a, V.ref b] (some 1) none))) H2 ∧ ∃ y c, σ = [some (.ref p), some (.int ((l.length * m.length : Nat) : Int)), y, some (.ref c)] ∧ (i = 0 → c = a) ∧ (i = 1 → TAt (CT K) H2 c (Tb.prodT n l m) n)) ⟨Same.refl _, x, a, rfl, fun _ => rfl, fun z => by cases z⟩ (fun i σ H2 _ v => SqT.of (by rw [← ecut]; exact v.1 _ _ upd_same)) ?_ ?_
      · rintro i v σ H2 hv ⟨sm2, y, c, rfl, h0, _⟩
        match i, hv with
        | 0, hv =>
          cases hv
          have ec := h0 rfl
          subst ec
          have smB := (sm1.trans smt).trans sm2
          exact ⟨_, rfl, _, rfl, c, b, l, m, n, rfl, ha.same smB, g, hb.same smB, gm, hlm, fun H3 c3 sm3 tc => ⟨sm2.trans sm3, _, c3, rfl, (fun z => by cases z), (fun _ => tc)⟩⟩
      · rintro σ H2 ⟨sm2, y, c, rfl, _, h1⟩
        exact ⟨_, rfl, k H2 c ((sm1.trans smt).trans sm2) (h1 rfl)⟩
/-- product(one, other) -/
theorem pe_prod {X : Cx} {k' : Nat} {p pos : Pos} {e : Expr} {es : List Expr} {t : TA} (T : Tx X.K X.mg X.base) (hr : Room k' X.A) (hg : Gl X "product") (ha : PA X (e :: es) t) (hk : 6 ≤ k' := by decide)
    (he : starEach (e :: es) X.env = (false, eval e X.env) :: starEach es X.env := by rfl) (hpl : (backTo pos (starEach es X.env)).any (·.1) = false := by rfl) :
    PE X (.Call (.Name "product" p) (e :: es) [] pos) (fun σ H Q => t σ H fun vs H1 => spProd (CT X.K) vs H1 Q E0) := by
  obtain ⟨f, hm, kp, F⟩ := fr_prod (P := X.prog) (w := X.w) T
  refine ⟨fun pins s σ H Q I h => ?_⟩
  refine wpAny_Call_Name_kw (ld_glob I hg hm ?_ (by decide))
  refine PySem.W.callWith_K (h₀ := X.base) I.ok.mod.kin kp (thn (ha.run pos pins s σ H _ I h) fun us s1 ⟨vs, H1, I1, r, q⟩ => ⟨I1.kIn, ?_⟩) he hpl
  exact wpAny_call (run_fnR F (hr.mono hk) pass0 I1 r q)
end
end TB
set_option maxHeartbeats 4000000
namespace TB
open PySem PySem.Spec PyProof.Rows L2
section
variable {P : Program} {w : World} {K : PySem.W.Frag} {mg : Str → Option Value} {base : Heap}
/-- a pool of two numbers -/
def PoolAt (H : Hp) (p : Addr) : Prop := ∃ x y : Int, H p = some (.lst [.int x, .int y]) ∧ 0 ≤ x ∧ 0 ≤ y
theorem PoolAt.keep {H H' : Hp} {p : Addr} (h : PoolAt H p) (s : ∀ o, H p = some o → H' p = some o) : PoolAt H' p := by
  obtain ⟨x, y, e, h0, h1⟩ := h
  exact ⟨x, y, s _ e, h0, h1⟩
def spHand (K : PySem.W.Frag) : Sp := fun vs H Q _ => ∃ (a : Addr) (ns : List Int) (k : Nat), vs = [.ref a, .int (k : Int)] ∧ SqL K H a (iV ns) ∧ ns.length ≤ 63 ∧ k ≤ 63 ∧ ∀ H' p, Same H H' → H p = none → PoolAt H' p → Q (.ref p) H'
abbrev N_hand : List Str := ["_law_script", "_law_k", "_law_cell", "_law_seed"]
theorem sc_hand : FnScope N_hand ["_law_script", "_law_k"] (defScope s_law_hand) := ⟨rfl, rfl, rfl, by decide +kernel, rfl, by decide +kernel, by decide +kernel⟩
theorem cut_ints (ns : List Int) (lo hi : Option Int) : ∃ cs : List Int, cutV (iV ns) lo hi = iV cs ∧ cs.length ≤ ns.length := by
  unfold cutV
  refine ⟨(ns.drop (HT.sIx (iV ns).length 0 lo)).take (HT.sIx (iV ns).length (iV ns).length hi - HT.sIx (iV ns).length 0 lo), ?_, ?_⟩
  · show _ = List.map V.int _
    rw [List.map_take, List.map_drop]
  · rw [List.length_take, List.length_drop]
    omega
theorem cal_hand (T : Tx K mg base) : Cal P w K mg base 1 "_law_hand" ["_law_script", "_law_k"] (spHand K) := by
  refine cal_of (i := 33) (j := 26) T d_law_hand rfl rfl rfl rfl rfl (fun _ _ _ _ _ _ us hl => match us, hl with | [_, _], _ => rfl) fun f fd F => ?_
  refine F.ok sc_hand (fun vs H Q E h => ?_) (fun cdv A outer s H vs Q E hr h => ?_)
  · obtain ⟨a, ns, k, rfl, _⟩ := h
    rfl
  · obtain ⟨a, ns, k, rfl, hS, hl, hk, q⟩ := h
    have nd := sc_hand.nd
    refine ⟨_, PSs.nox (pss_cons (ps_set (i := 2) nd rfl (Or.inl rfl) (pe_ix ix_list (pe_op op_cat (pe_slice sl_list (pv 0) (po_some (pv 1)) (po_some (pe_op op_add (pv 1) pe_int))) (pe_lst (pa_cons pe_int pa_nil))) pe_int (fun _ _ => rfl)))
      (pss_cons (ps_set (i := 3) nd rfl (Or.inl rfl) (pe_op op_mod (pe_op op_mul (pe_op op_add (pe_op op_add (pe_op op_mod (pv 2) pe_int) (pe_op op_mul pe_int (pv 1))) pe_int) pe_int) pe_int))
      (pss_one (ps_ret (pe_lst (pa_cons (pe_op op_mul (pe_callTy call_int1 (by rfl) T.int (by decide +kernel) (pa_cons (pe_cmpR op_ge (pv 2) (pe_op op_pow pe_int pe_int) (nomark _)) pa_nil)) (pv 2)) (pa_cons (pv 3) pa_nil))))))), ?_⟩
    obtain ⟨cs, ecut, hcs⟩ := cut_ints ns (some (k : Int)) (some ((k : Int) + 1))
    refine ⟨_, rfl, _, rfl, _, rfl, _, rfl, _, _, rfl, rfl, _, rfl, a, _, rfl, hS, fun p hp => ?_⟩
    rw [show cutV (List.map V.int ns) (some (k : Int)) (some ((k : Int) + 1)) = iV cs from ecut]
    refine ⟨by show 1 ≤ sizeLine; decide, fun l hl => ?_⟩
    have npl : p ≠ l := fun z => by
      rw [← z, upd_same] at hl
      cases hl
    refine ⟨p, l, iV cs, [.int 0], rfl, rfl, by rw [upd_ne npl, upd_same], upd_same, (by rw [List.length_map, sizeLine_eq]; show _ + 1 ≤ _; omega), fun m hm => ?_⟩
    have e0 : iV cs ++ [V.int 0] = iV (cs ++ [0]) := (iV_app cs [0]).symm
    rw [e0]
    have sm : Same H (upd (upd (upd H p (.lst (iV cs))) l (.lst [.int 0])) m (.lst (iV (cs ++ [0])))) := ((same_new hp).trans (same_new hl)).trans (same_new hm)
    obtain ⟨c, r, ec⟩ : ∃ c r, cs ++ [0] = c :: r := by
      cases cs with
      | nil => exact ⟨_, _, rfl⟩
      | cons c r => exact ⟨c, _, rfl⟩
    rw [ec] at sm ⊢
    refine ⟨m, _, _, V.int c, rfl, rfl, SqL.of upd_same, atI_nat (j := 0) rfl, ?_⟩
    refine ⟨_, rfl, _, _, rfl, rfl, by show (0 : Int) < 2147483647; decide, _, rfl, _, _, rfl, rfl, .inl ⟨by decide, by decide⟩, _, _, rfl, rfl, _, _, rfl, rfl, _, _, rfl, rfl, .inr ⟨by decide, by decide⟩, _, _, rfl, rfl, by show (0 : Int) < 2147483629; decide, ?_⟩
    refine ⟨_, rfl, _, _, rfl, rfl, ⟨by decide, by decide, by decide⟩, _, _, rfl, rfl, .inr ⟨_, rfl, ?_⟩⟩
    have hs0 : 0 ≤ (c % 2147483647 + 7919 * (k : Int) + 1) * 48271 % 2147483629 := Int.emod_nonneg _ (by decide)
    by_cases hc : (10 : Int) ^ (18 : Int).toNat ≤ c
    · rw [decide_eq_true hc]
      refine ⟨_, rfl, _, _, rfl, rfl, .inl ⟨by decide, by decide⟩, _, rfl, by show 2 ≤ sizeLine; decide, fun z hz => ?_⟩
      refine q _ z (sm.trans (same_new hz)) (sm.free hz) ⟨_, _, upd_same, ?_, hs0⟩
      have h10 : (0 : Int) ≤ (10 : Int) ^ (18 : Int).toNat := by decide
      show 0 ≤ 1 * c
      omega
    · rw [decide_eq_false hc]
      refine ⟨_, rfl, _, _, rfl, rfl, .inl ⟨by decide, by decide⟩, _, rfl, by show 2 ≤ sizeLine; decide, fun z hz => ?_⟩
      refine q _ z (sm.trans (same_new hz)) (sm.free hz) ⟨_, _, upd_same, ?_, hs0⟩
      show 0 ≤ 0 * c
      omega
def spDraw : Sp := fun vs H Q _ => ∃ (p : Addr) (m : Nat), vs = [.ref p, .int (m : Int)] ∧ 0 < m ∧ m < 2 ^ 20 ∧ PoolAt H p ∧ ∀ H' (k : Nat), But p H H' → PoolAt H' p → k < m → Q (.int (k : Int)) H'
abbrev N_draw : List Str := ["_law_pool", "_law_size", "_law_found"]
theorem sc_draw : FnScope N_draw ["_law_pool", "_law_size"] (defScope s_law_draw) := ⟨rfl, rfl, rfl, by decide +kernel, rfl, by decide +kernel, by decide +kernel⟩
theorem cal_draw (T : Tx K mg base) : Cal P w K mg base 1 "_law_draw" ["_law_pool", "_law_size"] spDraw := by
  refine cal_of (i := 34) (j := 27) T d_law_draw rfl rfl rfl rfl rfl (fun _ _ _ _ _ _ us hl => match us, hl with | [_, _], _ => rfl) fun f fd F => ?_
  refine F.ok sc_draw (fun vs H Q E h => ?_) (fun cdv A outer s H vs Q E hr h => ?_)
  · obtain ⟨p, m, rfl, _⟩ := h
    rfl
  · obtain ⟨p, m, rfl, h0, h1, ⟨x, y, ep, hx, hy⟩, q⟩ := h
    have nd := sc_draw.nd
    refine ⟨_, PSs.nox (pss_cons (ps_if (pt_cmpR op_gt (pe_ix ix_list (pv 0) pe_int (fun _ _ => rfl)) pe_int (nomark _))
        (pss_cons (ps_set (i := 2) nd rfl (Or.inl rfl) (pe_op op_mod (pe_ix ix_list (pv 0) pe_int (fun _ _ => rfl)) (pv 1)))
        (pss_cons (ps_asg (pe_op op_fdivN (pe_ix ix_list (pv 0) pe_int (fun _ _ => rfl)) (pv 1)) (pg_sub (pv 0) pe_int set_list))
        (pss_one (ps_ret (pv 2))))) pss_nil)
      (pss_cons (ps_asg (pe_op op_mod (pe_op op_add (pe_op op_mul (pe_ix ix_list (pv 0) pe_int (fun _ _ => rfl)) pe_int) pe_int) pe_int) (pg_sub (pv 0) pe_int set_list))
      (pss_one (ps_ret (pe_op op_mod (pe_op op_fdivN (pe_op op_mod (pe_op op_mul (pe_ix ix_list (pv 0) pe_int (fun _ _ => rfl)) (pe_ix ix_list (pv 0) pe_int (fun _ _ => rfl))) pe_int) pe_int) (pv 1)))))), ?_⟩
    have a0 : ∀ u v : Int, atI [V.int u, V.int v] 0 = some (V.int u) := fun u v => atI_nat (j := 0) rfl
    have a1 : ∀ u v : Int, atI [V.int u, V.int v] 1 = some (V.int v) := fun u v => atI_nat (j := 1) rfl
    have hm0 : (0 : Int) < (m : Int) := by omega
    refine ⟨_, rfl, p, _, _, _, rfl, rfl, SqL.of ep, a0 x y, _, _, rfl, rfl, _, rfl, ?_⟩
    by_cases hgt : x > 0
    · rw [decide_eq_true hgt]
      have hr0 : 0 ≤ x % (m : Int) := Int.emod_nonneg _ (by omega)
      have hr1 : x % (m : Int) < (m : Int) := Int.emod_lt_of_pos _ hm0
      have en : ((x % (m : Int)).toNat : Int) = x % (m : Int) := Int.toNat_of_nonneg hr0
      refine ⟨_, rfl, p, _, _, _, rfl, rfl, SqL.of ep, a0 x y, _, rfl, _, _, rfl, rfl, hm0, ?_⟩
      refine ⟨_, rfl, p, _, _, _, rfl, rfl, SqL.of ep, a0 x y, _, rfl, _, _, rfl, rfl, ⟨by omega, by rw [Int.natAbs_natCast]; omega⟩, ?_⟩
      refine ⟨_, rfl, p, _, _, 0, rfl, rfl, ep, rfl, ?_⟩
      refine ⟨_, rfl, ?_⟩
      show Q (V.int (x % (m : Int))) _
      rw [← en]
      refine q _ _ But.upd ⟨x.fdiv (m : Int), y, upd_same, ?_, hy⟩ (by omega)
      exact Int.fdiv_nonneg hx (by omega)
    · rw [decide_eq_false hgt]
      refine ⟨_, rfl, p, _, _, _, rfl, rfl, SqL.of ep, a1 x y, _, _, rfl, rfl, .inr ⟨by decide, by decide⟩, _, _, rfl, rfl, _, _, rfl, rfl, by show (0 : Int) < 2147483647; decide, ?_⟩
      refine ⟨_, rfl, p, _, _, 1, rfl, rfl, ep, rfl, ?_⟩
      have hy0 : 0 ≤ (y * 48271 + 11) % 2147483647 := Int.emod_nonneg _ (by decide)
      have hy1 : (y * 48271 + 11) % 2147483647 < 2147483647 := Int.emod_lt_of_pos _ (by decide)
      have e2 : upd H p (.lst (([V.int x, V.int y] : List V).set 1 (V.int ((y * 48271 + 11) % 2147483647)))) p = some (.lst [.int x, .int ((y * 48271 + 11) % 2147483647)]) := upd_same
      refine ⟨_, rfl, p, _, _, _, rfl, rfl, SqL.of e2, a1 x _, _, rfl, p, _, _, _, rfl, rfl, SqL.of e2, a1 x _, _, _, rfl, rfl, .inl ⟨by omega, by omega⟩, _, _, rfl, rfl, by show (0 : Int) < 2147483629; decide, _, _, rfl, rfl, ⟨by decide, by decide⟩, _, rfl, _, _, rfl, rfl, hm0, ?_⟩
      obtain ⟨Z, hZ⟩ : ∃ Z, Z = ((y * 48271 + 11) % 2147483647 * ((y * 48271 + 11) % 2147483647) % 2147483629).fdiv 64 := ⟨_, rfl⟩
      have hr0 : 0 ≤ Z % (m : Int) := Int.emod_nonneg _ (by omega)
      have hr1 : Z % (m : Int) < (m : Int) := Int.emod_lt_of_pos _ hm0
      have en : ((Z % (m : Int)).toNat : Int) = Z % (m : Int) := Int.toNat_of_nonneg hr0
      show Q (V.int (((y * 48271 + 11) % 2147483647 * ((y * 48271 + 11) % 2147483647) % 2147483629).fdiv 64 % (m : Int))) _
      rw [← hZ, ← en]
      exact q _ _ But.upd ⟨x, _, e2, hx, hy0⟩ (by omega)
end
end TB
set_option maxHeartbeats 4000000
namespace TB
open PySem PySem.Spec PyProof.Rows L2
section
variable {P : Program} {w : World} {K : PySem.W.Frag} {mg : Str → Option Value} {base : Heap}
theorem But.pool {p : Addr} {H H' : Hp} {q : Addr} {o : HO} (b : But p H H') (h : H q = some o) (n : q ≠ p) : H' q = some o := b q o n h
def spText2 : Sp := fun vs H Q _ => ∃ (p : Addr) (n m : Nat), vs = [.ref p, .int (n : Int), .int (m : Int)] ∧ 2 ≤ n ∧ n ≤ 6 ∧ 0 < m ∧ m ≤ 2000 ∧ PoolAt H p ∧ ∀ H' l, But p H H' → PoolAt H' p → l ≠ [] → l.length ≤ m → (∀ x ∈ l, x < n) → Q (.str (tx l)) H'
abbrev N_lt : List Str := ["_law_pool", "_law_players", "_law_most", "_law_letters", "_law_turn"]
theorem sc_lt : FnScope N_lt ["_law_pool", "_law_players", "_law_most"] (defScope s_law_text) := ⟨rfl, rfl, rfl, by decide +kernel, rfl, by decide +kernel, by decide +kernel⟩
theorem cal_ltext (T : Tx K mg base) : Cal P w K mg base 2 "_law_text" ["_law_pool", "_law_players", "_law_most"] spText2 := by
  refine cal_of (i := 35) (j := 28) T d_law_text rfl rfl rfl rfl rfl (fun _ _ _ _ _ _ us hl => match us, hl with | [_, _, _], _ => rfl) fun f fd F => ?_
  refine F.ok sc_lt (fun vs H Q E h => ?_) (fun cdv A outer s H vs Q E hr h => ?_)
  · obtain ⟨p, n, m, rfl, _⟩ := h
    rfl
  · obtain ⟨p, n, m, rfl, hn2, hn6, hm0, hm1, hp, k⟩ := h
    have nd := sc_lt.nd
    refine ⟨_, PSs.nox (pss_cons (ps_set (i := 3) nd rfl (Or.inr rfl) (pe_slice C8.sl_txt pe_str po_none (po_some (pv 1))))
      (pss_one (ps_ret (pe_join pe_str (pe_lc (own := [("_law_turn", 4)]) (g := gName 4) (te := tOp rIxS (tVar 3) (tCall spDraw [] E0 (tCons (tVar 0) (tCons (tVar 1) tNil)))) (by rfl) nd
        (pi_range1 (by rfl) T.range (pa_cons (pe_op op_add pe_int (pe_cal (cal_draw T) hr (by rfl) (pa_cons (pv 0) (pa_cons (pv 2) pa_nil)))) pa_nil)) (blkOk_by (own := [("_law_turn", 4)]) (N := N_lt) (sc := defScope s_law_text) (by decide +kernel))
        (fun _ _ _ _ _ => pg_name (i := 4) nd rfl (Or.inl rfl)) (fun _ _ _ _ _ => pts_nil)
        (fun _ _ _ _ _ => pe_ix ix_str (pv 3) (pe_cal (cal_draw T) hr (by rfl) (pa_cons (pv 0) (pa_cons (pv 1) pa_nil))) (fun _ _ => rfl))))))), ?_⟩
    refine ⟨_, rfl, _, rfl, _, rfl, abc_size, ?_⟩
    rw [slice_abc hn6]
    refine ⟨⟨_, rfl⟩, _, rfl, _, rfl, p, m, rfl, hm0, by omega, hp, fun H1 d b1 hp1 hd => ?_⟩
    refine ⟨_, _, rfl, rfl, 1 + (d : Int), rfl, by omega, by omega, fun D hD => ?_⟩
    have hDp : D ≠ p := fun z => by
      obtain ⟨x, y, e, _⟩ := hp1
      rw [← z, hD] at e
      cases e
    have en : (1 + (d : Int)).toNat = d + 1 := by omega
    refine lc_it (walk_range (lo := 0) (n := (1 + (d : Int)).toNat)) (fun i H' => But p H1 H' ∧ PoolAt H' p ∧ ∃ zs : List Nat, H' D = some (.lst (zs.map fun x => V.str (tx [x]))) ∧ zs.length = i ∧ ∀ x ∈ zs, x < n) ?_ (fun _ _ _ _ => True.intro) ?_ ?_
    · refine ⟨same_but (same_new hD), hp1.keep fun o e => ?_, [], upd_same, rfl, fun x hx => nomatch hx⟩
      rw [upd_ne hDp.symm]
      exact e
    · rintro i v H2 H3 hi ⟨b2, hp2, zs, e2, hz, hzn⟩ ⟨rfl, rfl⟩
      refine ⟨rfl, _, rfl, _, rfl, _, rfl, p, n, rfl, by omega, by omega, hp2, fun H4 k2 b3 hp3 hk2 => ?_⟩
      refine ⟨_, _, k2 + 65, rfl, rfl, (by rw [tx_len, List.length_range, sizeLine_eq]; omega), at_tx (List.getElem?_range hk2), ?_⟩
      refine ⟨_, b3 D _ hDp e2, ?_, ?_⟩
      · rw [List.length_map, hz, sizeLine_eq]
        omega
      · refine ⟨fun b o nb hb => ?_, hp3.keep fun o e => by rw [upd_ne hDp.symm]; exact e, zs ++ [k2], ?_, by rw [List.length_append, hz]; rfl, fun x hx => ?_⟩
        · rw [upd_ne (ne_of_none hb hD)]
          exact b3 b o nb (b2 b o nb hb)
        · rw [upd_same, List.map_append]
          rfl
        · rcases List.mem_append.mp hx with h | h
          · exact hzn x h
          · rw [List.mem_singleton.mp h]
            exact hk2
    · rintro H2 ⟨b2, hp2, zs, e2, hz, hzn⟩
      have e3 : (zs.map fun x => V.str (tx [x])) = (zs.map fun x => tx [x]).map V.str := by rw [List.map_map]; rfl
      rw [e3] at e2
      have hzl : zs.length = d + 1 := by rw [hz, en]
      refine ⟨_, D, _, rfl, rfl, .inl (SqL.of e2), join_map (g := fun x => x) (by omega), ?_⟩
      rw [join_one]
      refine k H2 zs (b1.trans b2) hp2 (fun e => ?_) (by omega) hzn
      rw [e] at hzl
      cases hzl
def spLProd : Sp := fun vs H Q _ => ∃ (l m : List Nat) (n : Nat), vs = [.str (tx l), .str (tx m), .int (n : Int)] ∧ 2 ≤ n ∧ n ≤ 6 ∧ l.length ≤ 2000 ∧ m.length ≤ 2000 ∧ (∀ x ∈ l, x < 6) ∧ (∀ x ∈ m, x < 6) ∧ ∀ r : List Nat, r.length = l.length * m.length → (∀ x ∈ r, x < n) → Q (.str (tx r)) H
abbrev N_lp : List Str := ["_law_one", "_law_other", "_law_players", "_law_letters", "_law_found", "_law_item", "_law_player", "_law_number"]
theorem sc_lp : FnScope N_lp ["_law_one", "_law_other", "_law_players"] (defScope s_law_product) := ⟨rfl, rfl, rfl, by decide +kernel, rfl, by decide +kernel, by decide +kernel⟩
theorem cal_lprod (T : Tx K mg base) : Cal P w K mg base 1 "_law_product" ["_law_one", "_law_other", "_law_players"] spLProd := by
  refine cal_of (i := 36) (j := 29) T d_law_product rfl rfl rfl rfl rfl (fun _ _ _ _ _ _ us hl => match us, hl with | [_, _, _], _ => rfl) fun f fd F => ?_
  refine F.ok sc_lp (fun vs H Q E h => ?_) (fun cdv A outer s H vs Q E hr h => ?_)
  · obtain ⟨l, m, n, rfl, _⟩ := h
    rfl
  · obtain ⟨l, m, n, rfl, hn2, hn6, hl, hm, hl6, hm6, k⟩ := h
    have nd := sc_lp.nd
    refine ⟨_, PSs.nox (pss_cons (ps_set (i := 3) nd rfl (Or.inl rfl) pe_str)
      (pss_cons (ps_set (i := 4) nd rfl (Or.inl rfl) pe_str)
      (pss_cons (ps_for PassesOwn.never rfl (pi_str (pv 0)) (pg_name (i := 5) nd rfl (Or.inl rfl))
        (pss_one (ps_for PassesOwn.never rfl (pi_str (pv 1)) (pg_name (i := 6) nd rfl (Or.inl rfl))
          (pss_cons (ps_set (i := 7) nd rfl (Or.inl rfl) (pe_op op_add (pe_bm PySem.F.plainAttrs_str PySem.F.slot_str_index PySem.F.type_str_index mt_indexT (pv 3) (pa_cons (pv 5) pa_nil)) (pe_bm PySem.F.plainAttrs_str PySem.F.slot_str_index PySem.F.type_str_index mt_indexT (pv 3) (pa_cons (pv 6) pa_nil))))
          (pss_one (ps_set (i := 4) nd rfl (Or.inl rfl) (pe_op op_add_str (pv 4) (pe_ix ix_str (pv 3) (pe_op op_modN (pv 7) (pv 2)) (fun _ _ => rfl)))))))))
      (pss_one (ps_ret (pv 4)))))), ?_⟩
    have szl := tx_size l
    have szm := tx_size m
    have hbig : l.length * m.length ≤ 4000000 := by
      have := Nat.mul_le_mul hl hm
      omega
    refine ⟨_, rfl, _, rfl, ?_⟩
    refine for_it walk_str (fun i σ H' => H' = H ∧ ∃ (r : List Nat) (u v z : Option V), σ = [some (.str (tx l)), some (.str (tx m)), some (.int (n : Int)), some (.str "ABCDEF"), some (.str (tx r)), u, v, z] ∧ r.length = i * m.length ∧ ∀ x ∈ r, x < n) ⟨rfl, [], none, none, none, rfl, by simp, fun x hx => nomatch hx⟩ (fun _ _ _ _ _ => True.intro) ?_ ?_
    · rintro i x σ H1 H2 hi ⟨rfl, r, u, v, z, rfl, hr1, hr2⟩ ⟨rfl, c, ec, rfl⟩
      rw [tx_at] at ec
      obtain ⟨x, ex, rfl⟩ := Option.map_eq_some_iff.mp ec
      have hx := hl6 x (List.mem_of_getElem? ex)
      rw [szl] at hi
      refine ⟨_, rfl, _, rfl, ?_⟩
      refine for_it walk_str (fun j σ H' => H' = H2 ∧ ∃ (r : List Nat) (v z : Option V), σ = [some (.str (tx l)), some (.str (tx m)), some (.int (n : Int)), some (.str "ABCDEF"), some (.str (tx r)), some (.str (tx [x])), v, z] ∧ r.length = i * m.length + j ∧ ∀ x ∈ r, x < n) ⟨rfl, r, v, z, rfl, hr1, hr2⟩ (fun _ _ _ _ _ => True.intro) ?_ ?_
      · rintro j y σ H3 H4 hj ⟨rfl, r, v, z, rfl, hr1, hr2⟩ ⟨rfl, c, ec, rfl⟩
        rw [tx_at] at ec
        obtain ⟨y, ey, rfl⟩ := Option.map_eq_some_iff.mp ec
        have hy := hm6 y (List.mem_of_getElem? ey)
        rw [szm] at hj
        have hmod : (x + y) % n < n := Nat.mod_lt _ (by omega)
        have hle : i * m.length + m.length ≤ l.length * m.length := by
          have h2 := Nat.mul_le_mul_right m.length (Nat.succ_le_of_lt hi)
          rw [Nat.succ_mul] at h2
          exact h2
        refine ⟨_, rfl, rfl, _, rfl, _, _, x, rfl, rfl, index_abc hx, _, rfl, rfl, _, rfl, _, _, y, rfl, rfl, index_abc hy, _, _, rfl, rfl, ?_⟩
        refine ⟨_, rfl, _, rfl, _, rfl, _, rfl, _, _, rfl, rfl, by omega, ?_⟩
        refine ⟨_, _, (x + y) % n + 65, rfl, rfl, abc_size, ?_, ?_⟩
        · rw [modN]
          exact at_abc (by omega)
        · refine ⟨_, _, rfl, rfl, ?_, ?_⟩
          · rw [tx_len, hr1, sizeLine_eq]
            show _ + 1 ≤ _
            omega
          · refine ⟨rfl, r ++ [(x + y) % n], some (V.str (tx [y])), some (V.int ((x : Int) + (y : Int))), ?_, by rw [List.length_append, hr1]; rfl, fun w hw => ?_⟩
            · rw [← tx_cat]
              rfl
            · rcases List.mem_append.mp hw with h | h
              · exact hr2 w h
              · rw [List.mem_singleton.mp h]
                exact hmod
      · rintro σ H3 ⟨rfl, r, v, z, rfl, hr1, hr2⟩
        rw [szm] at hr1
        exact ⟨rfl, r, _, _, _, rfl, by rw [hr1, Nat.succ_mul], hr2⟩
    · rintro σ H1 ⟨rfl, r, u, v, z, rfl, hr1, hr2⟩
      rw [szl] at hr1
      exact ⟨_, rfl, k r hr1 hr2⟩
def spFair : Sp := fun vs H Q _ => ∃ (p : Addr) (n : Nat), vs = [.ref p, .int (n : Int), .int 30] ∧ 2 ≤ n ∧ n ≤ 6 ∧ PoolAt H p ∧ ∀ H' l, But p H H' → PoolAt H' p → l ≠ [] → l.length ≤ 30 → (∀ x ∈ l, x < n) → Q (.str (tx l)) H'
abbrev N_lf : List Str := ["_law_pool", "_law_players", "_law_most", "_law_found", "_law_turn", "_law_part"]
theorem sc_lf : FnScope N_lf ["_law_pool", "_law_players", "_law_most"] (defScope s_law_fair) := ⟨rfl, rfl, rfl, by decide +kernel, rfl, by decide +kernel, by decide +kernel⟩
theorem cal_fair (T : Tx K mg base) : Cal P w K mg base 3 "_law_fair" ["_law_pool", "_law_players", "_law_most"] spFair := by
  refine cal_of (i := 37) (j := 30) T d_law_fair rfl rfl rfl rfl rfl (fun _ _ _ _ _ _ us hl => match us, hl with | [_, _, _], _ => rfl) fun f fd F => ?_
  refine F.ok sc_lf (fun vs H Q E h => ?_) (fun cdv A outer s H vs Q E hr h => ?_)
  · obtain ⟨p, n, rfl, _⟩ := h
    rfl
  · obtain ⟨p, n, rfl, hn2, hn6, hp, k⟩ := h
    have nd := sc_lf.nd
    refine ⟨_, PSs.nox (pss_cons (ps_set (i := 3) nd rfl (Or.inl rfl) pe_str)
      (pss_cons (ps_for PassesOwn.never rfl (pi_range1 (by rfl) T.range (pa_cons (pe_op op_add pe_int (pe_cal (cal_draw T) hr (by rfl) (pa_cons (pv 0) (pa_cons pe_int pa_nil)))) pa_nil)) (pg_name (i := 4) nd rfl (Or.inl rfl))
        (pss_cons (ps_set (i := 5) nd rfl (Or.inl rfl) (pe_ix ix_list (pe_lst (pa_cons (pe_slice C8.sl_txt pe_str po_none (po_some (pv 1))) (pa_cons (pe_cal (cal_ltext T) hr (by rfl) (pa_cons (pv 0) (pa_cons (pv 1) (pa_cons pe_int pa_nil)))) (pa_cons (pe_revS (pe_slice C8.sl_txt pe_str po_none (po_some (pv 1)))) pa_nil)))) (pe_cal (cal_draw T) hr (by rfl) (pa_cons (pv 0) (pa_cons pe_int pa_nil))) (fun _ _ => rfl)))
        (pss_one (ps_if (pt_cmpR op_le (pe_op op_mul (pe_callB call_len_str (by rfl) T.len PySem.boot_len (pa_cons (pv 3) pa_nil)) (pe_callB call_len_str (by rfl) T.len PySem.boot_len (pa_cons (pv 5) pa_nil))) (pv 2) (nomark _))
          (pss_one (ps_set (i := 3) nd rfl (Or.inl rfl) (pe_cal (cal_lprod T) hr (by rfl) (pa_cons (pv 3) (pa_cons (pv 5) (pa_cons (pv 1) pa_nil)))))) pss_nil))))
      (pss_one (ps_ret (pv 3))))), ?_⟩
    refine ⟨_, rfl, p, 3, rfl, by decide, by decide, hp, fun H1 d b1 hp1 hd => ?_⟩
    refine ⟨_, _, rfl, rfl, 1 + (d : Int), rfl, by omega, by omega, ?_⟩
    refine for_range (n := (1 + (d : Int)).toNat) (fun i σ H' => But p H H' ∧ PoolAt H' p ∧ ∃ (l : List Nat) (u v : Option V), σ = [some (.ref p), some (.int (n : Int)), some (.int 30), some (.str (tx l)), u, v] ∧ l ≠ [] ∧ l.length ≤ 30 ∧ ∀ x ∈ l, x < n) ⟨b1, hp1, [0], none, none, rfl, by simp, by decide, fun x hx => by rw [List.mem_singleton.mp hx]; omega⟩ ?_ ?_
    · rintro i σ H2 hi ⟨b2, hp2, l, u, v, rfl, hl0, hl30, hln⟩
      have hrl : (List.range n).length = n := List.length_range
      refine ⟨_, rfl, _, rfl, _, rfl, abc_size, ?_⟩
      rw [slice_abc hn6]
      refine ⟨_, rfl, _, rfl, p, n, 5, rfl, hn2, hn6, by decide, by decide, hp2, fun H3 m b3 hp3 hm0 hm5 hmn => ?_⟩
      refine ⟨_, rfl, _, rfl, _, rfl, abc_size, ?_⟩
      rw [slice_abc hn6]
      refine ⟨_, rfl, (by rw [tx_len, hrl, sizeLine_eq]; omega), ?_⟩
      rw [tx_rev]
      refine ⟨by show 3 ≤ sizeLine; decide, fun q hq => ?_⟩
      have hqp : p ≠ q := by
        obtain ⟨x, y, e, _⟩ := hp3
        exact ne_of_none e hq
      have b4 : But p H3 (upd H3 q (.lst [.str (tx (List.range n)), .str (tx m), .str (tx (List.range n).reverse)])) := same_but (same_new hq)
      refine ⟨_, rfl, p, 3, rfl, by decide, by decide, hp3.keep fun o e => by rw [upd_ne hqp]; exact e, fun H4 k4 b5 hp4 hk4 => ?_⟩
      have eq4 := b5 q _ hqp.symm upd_same
      have pick : ∃ m2 : List Nat, ([V.str (tx (List.range n)), V.str (tx m), V.str (tx (List.range n).reverse)] : List V)[k4]? = some (V.str (tx m2)) ∧ m2 ≠ [] ∧ m2.length ≤ 6 ∧ ∀ x ∈ m2, x < n := by
        match k4, hk4 with
        | 0, _ => exact ⟨List.range n, rfl, fun e => by rw [e] at hrl; simp at hrl; omega, by omega, fun x hx => List.mem_range.mp hx⟩
        | 1, _ => exact ⟨m, rfl, hm0, by omega, hmn⟩
        | 2, _ => exact ⟨(List.range n).reverse, rfl, fun e => by rw [List.reverse_eq_nil_iff] at e; rw [e] at hrl; simp at hrl; omega, by rw [List.length_reverse]; omega, fun x hx => List.mem_range.mp (List.mem_reverse.mp hx)⟩
      obtain ⟨m2, em, hm20, hm26, hm2n⟩ := pick
      refine ⟨q, _, _, _, rfl, rfl, SqL.of eq4, atI_nat em, ?_⟩
      have bAll : But p H H4 := ((b2.trans b3).trans b4).trans b5
      refine ⟨_, rfl, _, rfl, (by rw [tx_len, sizeLine_eq]; omega), _, rfl, _, rfl, (by rw [tx_len, sizeLine_eq]; omega), _, _, rfl, rfl, .inl ⟨by omega, by rw [tx_len]; omega⟩, _, rfl, _, _, rfl, rfl, _, rfl, ?_⟩
      rw [tx_len, tx_len]
      by_cases hle : (l.length : Int) * (m2.length : Int) ≤ 30
      · rw [decide_eq_true hle]
        refine ⟨_, rfl, _, rfl, _, rfl, l, m2, n, rfl, hn2, hn6, by omega, by omega, fun x hx => by have := hln x hx; omega, fun x hx => by have := hm2n x hx; omega, fun r hr1 hr2 => ?_⟩
        have hle2 : l.length * m2.length ≤ 30 := by exact_mod_cast hle
        refine ⟨bAll, hp4, r, _, _, rfl, fun e => ?_, by omega, hr2⟩
        rw [e] at hr1
        have h1 : 0 < l.length := List.length_pos_iff.mpr hl0
        have h2 : 0 < m2.length := List.length_pos_iff.mpr hm20
        have := Nat.mul_pos h1 h2
        simp at hr1
        omega
      · rw [decide_eq_false hle]
        exact ⟨bAll, hp4, l, _, _, rfl, hl0, hl30, hln⟩
    · rintro σ H2 ⟨b2, hp2, l, u, v, rfl, hl0, hl30, hln⟩
      exact ⟨_, rfl, k H2 l b2 hp2 hl0 hl30 hln⟩
def spNames : Sp := fun vs H Q _ => ∃ (p : Addr) (n : Nat), vs = [.ref p, .int (n : Int)] ∧ 2 ≤ n ∧ n ≤ 6 ∧ PoolAt H p ∧ ∀ H' nm, But p H H' → PoolAt H' p → Tb.Names nm n → Q (.str (tx nm)) H'
abbrev N_ln : List Str := ["_law_pool", "_law_players", "_law_left", "_law_found", "_law_turn"]
theorem sc_ln : FnScope N_ln ["_law_pool", "_law_players"] (defScope s_law_names) := ⟨rfl, rfl, rfl, by decide +kernel, rfl, by decide +kernel, by decide +kernel⟩
theorem perm_erase : ∀ (zs : List Nat) (k z : Nat), zs[k]? = some z → zs.Perm (z :: zs.eraseIdx k)
  | x :: r, 0, z, h => by
    cases h
    exact List.Perm.refl _
  | x :: r, k + 1, z, h => by
    have h1 : r[k]? = some z := by simpa using h
    exact ((perm_erase r k z h1).cons x).trans (List.Perm.swap z x _)
  | [], _, _, h => by simp at h
theorem map_erase {α β : Type} (f : α → β) : ∀ (zs : List α) (k : Nat), (zs.map f).eraseIdx k = (zs.eraseIdx k).map f
  | [], _ => rfl
  | _ :: _, 0 => rfl
  | x :: r, k + 1 => by
    rw [List.map_cons, List.eraseIdx_cons_succ, map_erase f r k, List.eraseIdx_cons_succ, List.map_cons]
theorem cal_lnames (T : Tx K mg base) : Cal P w K mg base 2 "_law_names" ["_law_pool", "_law_players"] spNames := by
  refine cal_of (i := 38) (j := 31) T d_law_names rfl rfl rfl rfl rfl (fun _ _ _ _ _ _ us hl => match us, hl with | [_, _], _ => rfl) fun f fd F => ?_
  refine F.ok sc_ln (fun vs H Q E h => ?_) (fun cdv A outer s H vs Q E hr h => ?_)
  · obtain ⟨p, n, rfl, _⟩ := h
    rfl
  · obtain ⟨p, n, rfl, hn2, hn6, hp, k⟩ := h
    have nd := sc_ln.nd
    refine ⟨_, PSs.nox (pss_cons (ps_par (i := 2) (j := 3) (by rfl) nd rfl rfl (by decide) rfl rfl (pa_cons (pe_callTy (cr_listT (by rfl)) (by rfl) T.list (by decide +kernel) (pa_cons (pe_slice C8.sl_txt pe_str po_none (po_some (pv 1))) pa_nil)) (pa_cons pe_str pa_nil)) (by rfl))
      (pss_cons (ps_for PassesOwn.never rfl (pi_range1 (by rfl) T.range (pa_cons (pv 1) pa_nil)) (pg_name (i := 4) nd rfl (Or.inl rfl))
        (pss_one (ps_set (i := 3) nd rfl (Or.inl rfl) (pe_op op_add_str (pv 3) (pe_bm PySem.F.plainAttrs_list PySem.F.slot_list_pop PySem.F.type_list_pop mt_popAt (pv 2) (pa_cons (pe_cal (cal_draw T) hr (by rfl) (pa_cons (pv 0) (pa_cons (pe_callB call_len_seq (by rfl) T.len PySem.boot_len (pa_cons (pv 2) pa_nil)) pa_nil))) pa_nil))))))
      (pss_one (ps_ret (pv 3))))), ?_⟩
    refine ⟨_, rfl, _, rfl, _, rfl, abc_size, ?_⟩
    rw [slice_abc hn6]
    refine ⟨_, rfl, (by rw [tx_len, List.length_range, sizeLine_eq]; omega), fun D hD => ?_⟩
    have hDp : D ≠ p := by
      obtain ⟨x, y, e, _⟩ := hp
      exact (ne_of_none e hD).symm
    refine ⟨_, _, rfl, ?_⟩
    refine ⟨_, rfl, (n : Int), rfl, by omega, by omega, ?_⟩
    refine for_range (n := ((n : Int)).toNat) (fun i σ H' => (∀ b o, b ≠ p → b ≠ D → H b = some o → H' b = some o) ∧ PoolAt H' p ∧ ∃ (fs zs : List Nat) (u : Option V), σ = [some (.ref p), some (.int (n : Int)), some (.ref D), some (.str (tx fs)), u] ∧ H' D = some (.lst (zs.map fun x => V.str (tx [x]))) ∧ (fs ++ zs).Perm (List.range n) ∧ fs.length = i) ?_ ?_ ?_
    · refine ⟨fun b o _ nb hb => by rw [upd_ne nb]; exact hb, hp.keep fun o e => by rw [upd_ne hDp.symm]; exact e, [], List.range n, none, rfl, ?_, List.Perm.refl _, rfl⟩
      rw [upd_same, signs_tx, List.map_map]
      rfl
    · rintro i σ H2 hi ⟨hk2, hp2, fs, zs, u, rfl, eD, hpm, hfl⟩
      have hi2 : i < n := by simpa using hi
      have htot : fs.length + zs.length = n := by
        have := hpm.length_eq
        rw [List.length_append, List.length_range] at this
        exact this
      refine ⟨_, rfl, _, rfl, .inl ⟨rfl, _, SqL.of eD⟩, _, rfl, _, rfl, D, _, rfl, .inl (SqL.of eD), ?_⟩
      rw [List.length_map]
      refine ⟨p, zs.length, rfl, by omega, by omega, hp2, fun H3 k3 b3 hp3 hk3 => ?_⟩
      have eD3 := b3 D _ hDp eD
      obtain ⟨z, ez⟩ : ∃ z, zs[k3]? = some z := ⟨zs[k3], by simp [hk3]⟩
      have e1 : (zs.map fun x => V.str (tx [x]))[k3]? = some (V.str (tx [z])) := by rw [List.getElem?_map, ez]; rfl
      have hix : seqIndex? (k3 : Int) (zs.map fun x => V.str (tx [x])).length = some k3 := by
        rw [List.length_map, PySem.seqIndex_of (by omega) (by omega), Int.toNat_natCast]
      refine ⟨D, _, (k3 : Int), k3, _, rfl, rfl, eD3, by omega, by omega, hix, e1, ?_⟩
      refine ⟨_, _, rfl, rfl, (by rw [tx_len, tx_len, sizeLine_eq]; show fs.length + 1 ≤ _; omega), ?_⟩
      refine ⟨fun b o nb nD hb => ?_, hp3.keep fun o e => by rw [upd_ne hDp.symm]; exact e, fs ++ [z], zs.eraseIdx k3, some (V.int (0 + (i : Nat))), ?_, ?_, ?_, by rw [List.length_append, hfl]; rfl⟩
      · rw [upd_ne nD]
        exact b3 b o nb (hk2 b o nb nD hb)
      · rw [← tx_cat]
        rfl
      · rw [upd_same, map_erase]
      · refine List.Perm.trans ?_ hpm
        rw [List.append_assoc]
        exact (perm_erase zs k3 z ez).symm.append_left fs
    · rintro σ H2 ⟨hk2, hp2, fs, zs, u, rfl, eD, hpm, hfl⟩
      have hfl2 : fs.length = n := by simpa using hfl
      have hz : zs = [] := by
        have := hpm.length_eq
        rw [List.length_append, List.length_range] at this
        exact List.eq_nil_of_length_eq_zero (by omega)
      subst hz
      rw [List.append_nil] at hpm
      exact ⟨_, rfl, k H2 fs (fun b o nb hb => hk2 b o nb (ne_of_none hb hD) hb) hp2 ⟨hpm⟩⟩
end
end TB
set_option maxHeartbeats 4000000
namespace TB
open PySem PySem.Spec PyProof.Rows L2
theorem kv_at : ∀ {kvs : List (Key × V)} {vs : List (Key × Value)} {j : Nat} {p : Key × V} {q : Key × Value}, KV kvs vs → kvs[j]? = some p → vs[j]? = some q → RelV p.2 q.2
  | _, _, 0, _, _, .cons h _, e1, e2 => by
    cases e1
    cases e2
    exact h.2
  | _, _, j + 1, _, _, .cons _ r, e1, e2 => kv_at (j := j) r (by simpa using e1) (by simpa using e2)
  | _, _, _, _, _, .nil, e1, _ => by simp at e1
section
variable {X : Cx}
/-- list(e.values()) -/
theorem pe_listVals {e : Expr} {te : TE} {p pos apos cpos : Pos} (hc : X.calm = true) (hg : Gl X "list") (hm : X.mg "list" = none) (he : PE X e te)
    (hs : starEach [.Call (.Attribute e "values" apos) [] [] cpos] X.env = [(false, eval (.Call (.Attribute e "values" apos) [] [] cpos) X.env)] := by rfl)
    (hbase : attributeBase e "values" X.env (eval e X.env) = eval e X.env := by rfl) (hline : (apos.endLine == cpos.line) = true := by rfl) :
    PE X (.Call (.Name "list" p) [.Call (.Attribute e "values" apos) [] [] cpos] [] pos) (fun σ H Q => te σ H fun x H1 => ∃ d kvs, x = .ref d ∧ H1 d = some (.dK kvs) ∧ ∀ q, H1 q = none → Q (.ref q) (upd H1 q (.lst (kvs.map Prod.snd)))) := by
  refine ⟨fun pins s σ H Q I h => ?_⟩
  refine Call_ (ld_blt I hg hm (show bootBuiltins ("list" : Str) = some (.type "list") by decide +kernel) (PyProof.Rows.callWith_type1 ?_ hs rfl))
  rw [hs]
  show wpAny _ _ (spliced ((false, eval (.Call (.Attribute e "values" apos) [] [] cpos) X.env) :: [])) _ _ s
  refine Calls.spliced_cons ?_
  refine wpAny_Call_method (T := "dict") (id := "dict.values") hbase rfl hline PySem.F.plainAttrs_dict PySem.F.slot_dict_values PySem.F.type_dict_values (thn (he.run pins s σ H _ I h) fun u s1 ⟨x, H1, I1, rx, d, kvs, ex, hd, q⟩ => ?_)
  subst ex
  obtain rfl : u = Value.ref d := rx
  obtain ⟨z, lo, vs, rk, hdo⟩ := (show ObjOk X.prog X.w H1 s1.heap d (.dK kvs) from I1.hok d _ hd)
  obtain ⟨ep, hat⟩ := hdo.dictAt
  have hl : kvs.length = vs.length := Paired.length rk
  refine ⟨hdo.typeIs, hdo.mapOf.noDict, ?_⟩
  have I2 : Inv X pins σ H1 { s1 with heap := s1.heap.push { cls := .type "dict_values", data := .fields #[.ref d] } } := I1.kept (t' := s1.toks) fun b ob q => Heap.get?_push_of_some _ q
  show wpAny _ _ (callWith cpos (.builtin "dict.values") [.ref d] [] []) _ X.xe s1
  refine method_meetsIn PySem.F.slot_dict_values PySem.F.entry_dict_values rfl (PySem.evalArgs_none ⟨rfl, hdo.typeIs, PySem.F.args_dict_values_1 _, _, meets_dict_values (mixKind X.prog X.w) d lo, ⟨vs, hdo⟩, ?_⟩)
  show wpAny _ _ _ _ _ _
  refine Calls.spliced_nil ?_
  refine PySem.W.kdl_call (PySem.W.kdl_values (knd := mixKind X.prog X.w) (r := s1.heap.objs.size) (d := d) (kvs := vs) (ep := ep)) (I2.ok.hd hc) ⟨⟨_, Heap.get?_push_size _ rfl, rfl, rfl⟩, hat.push _⟩ (by rw [← hl]; exact z) fun h' tk acc' c' hkeep hS hacc => ?_
  refine ⟨.ref _, upd H1 _ (.lst (kvs.map Prod.snd)), I2.laid (t' := tk) hkeep (Nat.le_refl _) (show ObjOk X.prog X.w _ _ _ (.lst (kvs.map Prod.snd)) from ⟨by rw [List.length_map]; exact z, acc'.toList, c', ?_, by rw [Array.toArray_toList]; exact hS⟩), rfl, q _ (I2.hok.fresh (Nat.le_refl _))⟩
  have el : acc'.toList.length = acc'.size := by simp
  refine vals_of_at (by rw [List.length_map, el, hacc.1, hl]) fun j x w h1 h2 => ?_
  obtain ⟨k, hky⟩ := hacc.2 j w (by rw [← Array.getElem?_toList]; exact h2)
  rw [List.getElem?_map] at h1
  obtain ⟨pp, e1, rfl⟩ := Option.map_eq_some_iff.mp h1
  exact kv_at rk e1 hky
end
end TB
set_option maxHeartbeats 4000000
namespace TB
open PySem PySem.Spec PyProof.Rows L2
section
variable {P : Program} {w : World} {K : PySem.W.Frag} {mg : Str → Option Value} {base : Heap}
def spBack (C : Addr) : Sp := fun vs H Q _ => ∃ (a : Addr) (l : List Nat) (n f s d : Nat), vs = [.ref a, .str (tx [f]), .str (tx [s]), .int (d : Int)] ∧ TAt C H a l n ∧ Good l n ∧ f < n ∧ s < n ∧ d ≤ l.length ∧ Tb.Allowed l f s d ∧ ∀ H', Same H H' → Q (.bl true) H'
abbrev N_bk : List Str := ["_law_turns", "_law_first", "_law_second", "_law_degree", "_law_found", "_law_sign", "_law_one"]
theorem sc_bk : FnScope N_bk ["_law_turns", "_law_first", "_law_second", "_law_degree"] (defScope s_law_back) := ⟨rfl, rfl, rfl, by decide +kernel, rfl, by decide +kernel, by decide +kernel⟩
theorem wt_le (l : List Nat) (f s d : Nat) : (Tb.wt l f s d).length ≤ l.length := by
  have := Tb.wts_len d (Tb.sgn l f s)
  rw [Tb.sgn_len] at this
  unfold Tb.wt
  omega
theorem cal_back (T : Tx K mg base) : Cal P w K mg base 10 "_law_back" ["_law_turns", "_law_first", "_law_second", "_law_degree"] (spBack (CT K)) := by
  refine cal_of (i := 39) (j := 32) T d_law_back rfl rfl rfl rfl rfl (fun _ _ _ _ _ _ us hl => match us, hl with | [_, _, _, _], _ => rfl) fun f fd F => ?_
  refine F.ok sc_bk (fun vs H Q E h => ?_) (fun cdv A outer s H vs Q E hr h => ?_)
  · obtain ⟨a, l, n, f, s, d, rfl, _⟩ := h
    rfl
  · obtain ⟨a, l, n, f, s, d, rfl, ha, g, hf, hs, hd, hal, k⟩ := h
    have nd := sc_bk.nd
    have gl := g.len
    refine ⟨_, PSs.nox (pss_cons (ps_set (i := 4) nd rfl (Or.inl rfl) (pe_cal (cal_weights T) hr (by rfl) (pa_cons (pv 0) (pa_cons (pv 1) (pa_cons (pv 2) (pa_cons (pv 3) pa_nil))))))
      (pss_cons (ps_set (i := 5) nd rfl (Or.inr rfl) (pe_ix ix_list (pe_lst (pa_cons pe_int (pa_cons (pe_un un_neg pe_int) pa_nil))) (pe_op op_mod (pv 3) pe_int) (fun _ _ => rfl)))
      (pss_cons (ps_if (pt_cmpR (op_neD hr.units) (pe_cal (cal_weights T) hr (by rfl) (pa_cons (pe_mal0 (mal_backward T) T.cl hr (pv 0)) (pa_cons (pv 1) (pa_cons (pv 2) (pa_cons (pv 3) pa_nil)))))
          (pe_lc (own := [("_law_one", 6)]) (g := gName 6) (by rfl) nd (pi_list (pe_revL (pv 4))) (blkOk_by (own := [("_law_one", 6)]) (N := N_bk) (sc := defScope s_law_back) (by decide +kernel))
            (fun _ _ _ _ _ => pg_name (i := 6) nd rfl (Or.inl rfl)) (fun _ _ _ _ _ => pts_nil) (fun _ _ _ _ _ => pe_op op_mul (pv 5) (pv 6))) (nomark _)) (pss_one (ps_ret pe_bl)) pss_nil)
      (pss_cons (ps_set (i := 6) nd rfl (Or.inl rfl) (pe_ix ix_tup (pe_cal (cal_great T) hr (by rfl) (pa_cons (pv 0) (pa_cons (pv 1) (pa_cons (pv 2) (pa_cons (pv 3) (pa_cons pe_int pa_nil)))))) pe_int (fun _ _ => rfl)))
      (pss_one (ps_ret (pe_cmpR op_eq (pe_ix ix_tup (pe_cal (cal_great T) hr (by rfl) (pa_cons (pe_mal0 (mal_backward T) T.cl hr (pv 0)) (pa_cons (pv 2) (pa_cons (pv 1) (pa_cons (pv 3) (pa_cons pe_int pa_nil)))))) pe_int (fun _ _ => rfl)) (pv 6) (nomark _)))))))), ?_⟩
    obtain ⟨dx, ea⟩ := id ha
    refine ⟨_, rfl, _, rfl, _, rfl, _, rfl, a, l, n, f, s, d, rfl, ha, g, hf, hs, hd, hal, fun H1 r sm1 er => ?_⟩
    refine ⟨1, rfl, by show 2 ≤ sizeLine; decide, fun p hp => ?_⟩
    have sm2 : Same H (upd H1 p (.lst [.int 1, .int (-1)])) := sm1.trans (same_new hp)
    have esg : atI [V.int 1, V.int (-1)] ((d : Int) % 2) = some (V.int (if d % 2 = 1 then -1 else 1)) := by
      rcases Nat.mod_two_eq_zero_or_one d with z | z
      · have e : ((d : Int) % 2) = ((0 : Nat) : Int) := by omega
        rw [e, z]
        exact atI_nat (j := 0) rfl
      · have e : ((d : Int) % 2) = ((1 : Nat) : Int) := by omega
        rw [e, z]
        exact atI_nat (j := 1) rfl
    refine ⟨_, rfl, _, _, rfl, rfl, by show (0 : Int) < 2; decide, p, _, _, _, rfl, rfl, SqL.of upd_same, esg, ?_⟩
    refine ⟨_, rfl, a, dx, _, rfl, sm2 _ _ ea, tf_no l n, a, l, n, rfl, ha.same sm2, g, fun H2 b sm3 tb => ?_⟩
    have smB := sm2.trans sm3
    refine ⟨_, rfl, _, rfl, _, rfl, b, l.reverse, n, f, s, d, rfl, tb, g.rev, hf, hs, by rw [List.length_reverse]; exact hd, Tb.allowed_rev hal, fun H3 r2 sm4 er2 => ?_⟩
    have smC := smB.trans sm4
    have er3 := sm4 _ _ (sm3 _ _ ((same_new hp) _ _ er))
    refine ⟨_, rfl, r, _, rfl, SqL.of er3, fun y hy => ?_⟩
    rw [show (iV (Tb.wt l f s d)).reverse = iV (Tb.wt l f s d).reverse from List.map_reverse.symm]
    refine ⟨y, rfl, ⟨_, SqL.of upd_same⟩, fun D hD => ?_⟩
    have sm5 : Same H3 (upd H3 y (.lst (iV (Tb.wt l f s d).reverse))) := same_new hy
    have hwl := wt_le l f s d
    refine lc_pure (walk_list (xs := iV (Tb.wt l f s d).reverse)) (fun i => iV (((Tb.wt l f s d).reverse.take i).map fun x => (if d % 2 = 1 then -1 else 1) * x)) hD rfl (fun i hi => ?_) (fun H4 sm => SqL.of (sm _ _ upd_same)) (fun i v H4 H5 hi sm yy => ?_) (fun H4 sm6 e4 => ?_)
    · rw [List.length_map, List.length_reverse] at hi
      rw [List.length_map, List.length_map, List.length_take, sizeLine_eq]
      omega
    · obtain ⟨rfl, ev⟩ := yy
      rw [List.getElem?_map] at ev
      obtain ⟨x, ex, rfl⟩ := Option.map_eq_some_iff.mp ev
      refine ⟨Same.refl _, fun Fin FinN h1 h2 => ?_⟩
      refine ⟨rfl, _, rfl, _, rfl, _, _, rfl, rfl, .inl ⟨by split <;> decide, by split <;> decide⟩, ?_⟩
      refine h1 _ _ (Same.refl _) ?_
      show iV (((Tb.wt l f s d).reverse.take (i + 1)).map _) = _
      rw [List.take_add_one, ex, List.map_append, iV_app]
      rfl
    · rw [List.length_map, List.take_length, ← Tb.wt_rev hal] at e4
      have sh := PySem.W.shaped_ints (Tb.wt l.reverse f s d)
      refine ⟨_, _, dp_ints (SqL.of (sm6 _ _ (sm5 _ _ er2))), dp_ints (SqL.of e4), sh, sh, _, rfl, ?_⟩
      rw [SeqAt.eqv_refl _ (SeqAt.canLay_of_shaped sh)]
      have smD := (smC.trans sm5).trans sm6
      refine ⟨_, rfl, _, rfl, _, rfl, _, rfl, a, l, n, f, s, d, rfl, ha.same smD, g, hf, hs, hd, hal, fun H5 t x sm7 et => ?_⟩
      refine ⟨t, _, _, _, rfl, rfl, SqT.of et, atI_nat (j := 0) rfl, ?_⟩
      have smE := smD.trans sm7
      refine ⟨_, rfl, a, dx, _, rfl, smE _ _ ea, tf_no l n, a, l, n, rfl, ha.same smE, g, fun H6 b2 sm8 tb2 => ?_⟩
      refine ⟨_, rfl, _, rfl, _, rfl, b2, l.reverse, n, s, f, d, rfl, tb2, g.rev, hs, hf, by rw [List.length_reverse]; exact hd, Tb.allowed_swap (Tb.allowed_rev hal), fun H7 t2 x2 sm9 et2 => ?_⟩
      refine ⟨t2, _, _, _, rfl, rfl, SqT.of et2, atI_nat (j := 0) rfl, _, rfl, rfl, ?_⟩
      rw [Tb.great_rev hal]
      rw [decide_eq_true (show V.int (3 * Tb.absSum (Tb.wt l f s d)) = V.int (3 * Tb.absSum (Tb.wt l f s d)) from rfl)]
      exact k H7 ((smE.trans sm8).trans sm9)
end
end TB
set_option maxHeartbeats 4000000
namespace TB
open PySem PySem.Spec PyProof.Rows L2
section
variable {P : Program} {w : World} {K : PySem.W.Frag} {mg : Str → Option Value} {base : Heap}
theorem dkv_vals (n : Nat) (f : Nat → V) : (dkv n f).map Prod.snd = (List.range n).map f := by
  unfold dkv
  rw [List.map_map]
  rfl
theorem shaped_rows {α : Type} (xs : List α) (g : α → List Int) : SeqAt.shaped (.list (xs.map fun x => PyData.list ((g x).map PyData.int))) = true := by
  refine shaped_of ?_ ?_
  · simp only [PyData.canLay0]
    refine canLay_map xs fun x _ => ?_
    exact SeqAt.canLay_of_shaped (PySem.W.shaped_ints (g x))
  · have := depth_map (g := fun x => PyData.list ((g x).map PyData.int)) (m := 2) xs fun x _ => by
      have := PySem.W.depthAll_ints (g x)
      simp only [PyData.depth]
      omega
    simp only [PyData.depth]
    omega
theorem shaped_two {z : Str} {c : Nat} (hz : (PyData.str z).canLay0 = true) (hc : c < 6) : SeqAt.shaped (.tuple [.str z, .str (tx [c])]) = true := by
  have h1 : ∀ m : Nat, m < 6 → PyData.canLay0 (.str (tx [m])) = true := by decide +kernel
  refine shaped_of ?_ ?_
  · simp only [PyData.canLay0, PyData.canLayAll0] at hz ⊢
    have h2 := h1 c hc
    simp only [PyData.canLay0] at h2
    rw [hz, h2]
    rfl
  · simp [PyData.depth, PyData.depthAll]
def spLRen (C : Addr) : Sp := fun vs H Q _ => ∃ (a : Addr) (l nm : List Nat) (n f s d : Nat), vs = [.ref a, .str (tx nm), .str (tx [f]), .str (tx [s]), .int (d : Int)] ∧ TAt C H a l n ∧ Good l n ∧ Tb.Names nm n ∧ f < n ∧ s < n ∧ d ≤ l.length ∧ Tb.Allowed l f s d ∧ ∀ H', Same H H' → Q (.bl true) H'
abbrev N_rn : List Str := ["_law_turns", "_law_names_here", "_law_first", "_law_second", "_law_degree", "_law_other", "_law_one", "_law_last", "_law_sums", "_law_found", "_law_told", "_law_later", "_law_player"]
theorem sc_rn : FnScope N_rn ["_law_turns", "_law_names_here", "_law_first", "_law_second", "_law_degree"] (defScope s_law_renamed) := ⟨rfl, rfl, rfl, by decide +kernel, rfl, by decide +kernel, by decide +kernel⟩
theorem ne_ov (o : Option Nat) : scal (ov o) (ov o) = true ∧ (!decide (ov o = ov o)) = false := by
  cases o with
  | none => exact ⟨rfl, rfl⟩
  | some k =>
    refine ⟨rfl, ?_⟩
    rw [decide_eq_true rfl]
    rfl
theorem cal_lren (T : Tx K mg base) : Cal P w K mg base 10 "_law_renamed" ["_law_turns", "_law_names_here", "_law_first", "_law_second", "_law_degree"] (spLRen (CT K)) := by
  refine cal_of (i := 40) (j := 33) T d_law_renamed rfl rfl rfl rfl rfl (fun _ _ _ _ _ _ us hl => match us, hl with | [_, _, _, _, _], _ => rfl) fun f fd F => ?_
  refine F.ok sc_rn (fun vs H Q E h => ?_) (fun cdv A outer s H vs Q E hr h => ?_)
  · obtain ⟨a, l, nm, n, f, s, d, rfl, _⟩ := h
    rfl
  · obtain ⟨a, l, nm, n, f, s, d, rfl, ha, g, hn, hf, hs, hd, hal, k⟩ := h
    have nd := sc_rn.nd
    have gl := g.len
    have g6 := g.six
    refine ⟨_, PSs.nox (pss_cons (ps_set (i := 5) nd rfl (Or.inl rfl) (pe_mal (mal_renamed T) T.cl hr (pv 0) (pa_cons (pv 1) pa_nil)))
      (pss_cons (ps_par (i := 6) (j := 7) (by rfl) nd rfl rfl (by decide) rfl rfl (pa_cons (pe_ix ix_str (pv 1) (pe_bm PySem.F.plainAttrs_str PySem.F.slot_str_index PySem.F.type_str_index mt_indexT pe_str (pa_cons (pv 2) pa_nil)) (fun _ _ => rfl)) (pa_cons (pe_ix ix_str (pv 1) (pe_bm PySem.F.plainAttrs_str PySem.F.slot_str_index PySem.F.type_str_index mt_indexT pe_str (pa_cons (pv 3) pa_nil)) (fun _ _ => rfl)) pa_nil)) (by rfl))
      (pss_cons (ps_if (PW.pt (pw_or (pt_cmpR op_ne (pe_cal (cal_pord T) hr (by rfl) (pa_cons (pv 5) (pa_cons (pv 6) (pa_cons (pv 7) pa_nil)))) (pe_cal (cal_pord T) hr (by rfl) (pa_cons (pv 0) (pa_cons (pv 2) (pa_cons (pv 3) pa_nil)))) (nomark _))
          (pw_or1 (pt_cmpR op_ne (pe_cal (cal_order T) hr (by rfl) (pa_cons (pv 5) pa_nil)) (pe_cal (cal_order T) hr (by rfl) (pa_cons (pv 0) pa_nil)) (nomark _))))) (pss_one (ps_ret pe_bl)) pss_nil)
      (pss_cons (ps_if (pt_cmpR (op_neD hr.units) (pe_cal (cal_weights T) hr (by rfl) (pa_cons (pv 5) (pa_cons (pv 6) (pa_cons (pv 7) (pa_cons (pv 4) pa_nil))))) (pe_cal (cal_weights T) hr (by rfl) (pa_cons (pv 0) (pa_cons (pv 2) (pa_cons (pv 3) (pa_cons (pv 4) pa_nil))))) (nomark _)) (pss_one (ps_ret pe_bl)) pss_nil)
      (pss_cons (ps_asg (pe_tup (pa_cons (pe_cal (cal_bt T) hr (by rfl) (pa_cons (pv 0) (pa_cons pe_int pa_nil))) (pa_cons (pe_cal (cal_bt T) hr (by rfl) (pa_cons (pv 5) (pa_cons pe_int pa_nil))) pa_nil))) (pg_tup (by rfl) (pgs_cons (pg_name (i := 8) nd rfl (Or.inl rfl)) (pgs_cons (pg_name (i := 9) nd rfl (Or.inr rfl)) pgs_nil))))
      (pss_cons (ps_if (pt_cmpR (op_neD hr.units) (pe_lock (pe_lc (own := [("_law_player", 12)]) (g := gName 12) (te := tDGet (tVar 9) (tOp rIxS (tVar 1) (tBM K "str" rIndexT (tC (.str "ABCDEF")) (tCons (tVar 12) tNil)))) (by rfl) nd (pi_keys (pv 8)) (blkOk_by (own := [("_law_player", 12)]) (N := N_rn) (sc := defScope s_law_renamed) (by decide +kernel))
          (fun _ _ _ _ _ => pg_name (i := 12) nd rfl (Or.inl rfl)) (fun _ _ _ _ _ => pts_nil)
          (fun _ _ _ _ _ => pe_dget (hu_of hr) (pv 9) (pe_ix ix_str (pv 1) (pe_bm PySem.F.plainAttrs_str PySem.F.slot_str_index PySem.F.type_str_index mt_indexT pe_str (pa_cons (pv 12) pa_nil)) (fun _ _ => rfl)) (fun _ _ => rfl)))) (pe_listVals (by rfl) (by rfl) T.list (pv 8)) (nomark _)) (pss_one (ps_ret pe_bl)) pss_nil)
      (pss_cons (ps_par (i := 10) (j := 11) (by rfl) nd rfl rfl (by decide) rfl rfl (pa_cons (pe_cal (cal_fav T) hr (by rfl) (pa_cons (pv 0) (pa_cons (pv 2) (pa_cons (pv 3) (pa_cons (pv 4) pa_nil))))) (pa_cons (pe_cal (cal_fav T) hr (by rfl) (pa_cons (pv 5) (pa_cons (pv 6) (pa_cons (pv 7) (pa_cons (pv 4) pa_nil))))) pa_nil)) (by rfl))
      (pss_cons (ps_if (pt_cmpR op_eq (pe_ix ix_tup (pv 10) pe_int (fun _ _ => rfl)) pe_str (nomark _))
          (pss_one (ps_ret (pe_cmpR (op_eqD hr.units) (pv 11) (pe_tup (pa_cons pe_str (pa_cons (pe_ix ix_str (pv 1) (pe_bm PySem.F.plainAttrs_str PySem.F.slot_str_index PySem.F.type_str_index mt_indexT pe_str (pa_cons (pe_ix ix_tup (pv 10) pe_int (fun _ _ => rfl)) pa_nil)) (fun _ _ => rfl)) pa_nil))) (nomark _)))) pss_nil)
      (pss_one (ps_ret (pe_cmpR op_eq (pe_ix ix_tup (pv 10) pe_int (fun _ _ => rfl)) (pe_ix ix_tup (pv 11) pe_int (fun _ _ => rfl)) (nomark _)))))))))))), ?_⟩
    obtain ⟨dx, ea⟩ := id ha
    have hfn := hn.lt hf
    have hsn := hn.lt hs
    have f6 : f < 6 := Nat.lt_of_lt_of_le hf g6
    have s6 : s < 6 := Nat.lt_of_lt_of_le hs g6
    have nmz : (tx nm).length ≤ sizeLine := by rw [tx_len, hn.len, sizeLine_eq]; omega
    have gr := g.ren hn
    have epr := Tb.pord_ren hn g.lt hf hs
    have halr : Tb.Allowed (Tb.ren nm l) (nm.getD f 0) (nm.getD s 0) d := fun j hj => hal j (by rw [← epr]; exact hj)
    have erl : (Tb.ren nm l).length = l.length := Tb.ren_len
    refine ⟨_, rfl, a, dx, _, rfl, ea, tf_no l n, _, rfl, a, l, n, nm, rfl, ha, g, hn, fun H1 b sm1 tb => ?_⟩
    refine ⟨_, rfl, rfl, _, rfl, _, _, f, rfl, rfl, index_abc f6, _, _, _, rfl, rfl, nmz, at_tx (hn.at_ hf), ?_⟩
    refine ⟨_, rfl, rfl, _, rfl, _, _, s, rfl, rfl, index_abc s6, _, _, _, rfl, rfl, nmz, at_tx (hn.at_ hs), ?_⟩
    refine ⟨_, _, rfl, ?_⟩
    refine ⟨_, rfl, _, rfl, _, rfl, b, Tb.ren nm l, n, nm.getD f 0, nm.getD s 0, rfl, tb, gr, hfn, hsn, fun H2 sm2 => ?_⟩
    refine ⟨_, rfl, _, rfl, _, rfl, a, l, n, f, s, rfl, (ha.same sm1).same sm2, g, hf, hs, fun H3 sm3 => ?_⟩
    rw [epr]
    refine ⟨(ne_ov _).1, _, rfl, ?_⟩
    rw [(ne_ov (Tb.pord l f s)).2]
    have smc := (sm1.trans sm2).trans sm3
    refine ⟨_, rfl, b, Tb.ren nm l, n, rfl, (tb.same sm2).same sm3, gr, fun H4 sm4 => ?_⟩
    refine ⟨_, rfl, a, l, n, rfl, (ha.same smc).same sm4, g, fun H5 sm5 => ?_⟩
    rw [Tb.ord_ren hn g.lt]
    refine ⟨rfl, _, rfl, ?_⟩
    rw [decide_eq_true (show V.int ((Tb.ord l n : Nat) : Int) = V.int ((Tb.ord l n : Nat) : Int) from rfl)]
    have sm15 : Same H1 H5 := ((sm2.trans sm3).trans sm4).trans sm5
    have smd := sm1.trans sm15
    refine ⟨_, rfl, _, rfl, _, rfl, _, rfl, b, Tb.ren nm l, n, nm.getD f 0, nm.getD s 0, d, rfl, tb.same sm15, gr, hfn, hsn, by rw [erl]; exact hd, halr, fun H6 r1 sm6 er1 => ?_⟩
    refine ⟨_, rfl, _, rfl, _, rfl, _, rfl, a, l, n, f, s, d, rfl, (ha.same smd).same sm6, g, hf, hs, hd, hal, fun H7 r2 sm7 er2 => ?_⟩
    rw [Tb.wt_ren hn g.lt hf hs] at er1
    have sh := PySem.W.shaped_ints (Tb.wt l f s d)
    refine ⟨_, _, dp_ints (SqL.of (sm7 _ _ er1)), dp_ints (SqL.of er2), sh, sh, _, rfl, ?_⟩
    rw [SeqAt.eqv_refl _ (SeqAt.canLay_of_shaped sh)]
    have sm17 : Same H1 H7 := (sm15.trans sm6).trans sm7
    have sme := sm1.trans sm17
    refine ⟨_, rfl, a, l, n, 3, rfl, ha.same sme, g, by decide, fun H8 D1 q1 sm8 eD1 eq1 => ?_⟩
    refine ⟨_, rfl, b, Tb.ren nm l, n, 3, rfl, (tb.same sm17).same sm8, gr, by decide, fun H9 D2 q2 sm9 eD2 eq2 => ?_⟩
    refine ⟨by show 2 ≤ sizeLine; decide, fun tp htp => ?_⟩
    refine ⟨tp, [_, _], rfl, SqT.of upd_same, rfl, _, _, rfl, _, _, rfl, rfl, ?_⟩
    have smp : Same H9 (upd H9 tp (.tup [.ref D1, .ref D2])) := same_new htp
    have sm19 := (sm17.trans sm8).trans (sm9.trans smp)
    generalize hHA : upd H9 tp (.tup [.ref D1, .ref D2]) = HA at *
    have eD1A : HA D1 = some (.dK (dkv n fun c => .ref (q1 c))) := smp _ _ (sm9 _ _ eD1)
    have eD2A : HA D2 = some (.dK (dkv n fun c => .ref (q2 c))) := smp _ _ eD2
    have eq1A : ∀ c, c < n → HA (q1 c) = some (.lst (iV (btRow l c 4))) := fun c hc => smp _ _ (sm9 _ _ (eq1 c hc))
    have eq2A : ∀ c, c < n → HA (q2 c) = some (.lst (iV (btRow (Tb.ren nm l) c 4))) := fun c hc => smp _ _ (eq2 c hc)
    have smA := sm1.trans sm19
    have n12 : ∀ b' u, HA b' = some u → (∀ kvs, u ≠ .dK kvs) → b' ≠ D1 := fun b' u e z => ne_of e eD1A (z _)
    refine ⟨D1, _, eD1A, True.intro, fun od => ?_⟩
    refine ⟨_, rfl, D1, od, rfl, .inl ⟨_, upd_same, fun Dl hDl => ?_⟩⟩
    have hDl1 : Dl ≠ D1 := fun z => by
      rw [z, upd_same] at hDl
      cases hDl
    have hDlA : HA Dl = none := by
      rw [upd_ne hDl1] at hDl
      exact hDl
    -- the dict of the other stands while the first is locked: the same dict or another
    have gD2 : ∀ HB, Same (upd HA D1 (.frz od (.dK (dkv n fun c => .ref (q1 c))))) HB → ∀ c, c < n → DGet HB D2 (.str (tx [c])) (some (.ref (q2 c))) := fun HB sB c hc => by
      by_cases z : D2 = D1
      · have e1 : HB D2 = some (.frz od (.dK (dkv n fun c => .ref (q1 c)))) := sB _ _ (by rw [z]; exact upd_same)
        have e2 : dkv n (fun c => V.ref (q2 c)) = dkv n fun c => V.ref (q1 c) := by
          rw [z] at eD2A
          rw [eD1A] at eD2A
          injection eD2A with e3
          injection e3 with e4
          exact e4.symm
        refine .inl ⟨_, Sum.inr (tx [c]), .inr ⟨_, e1⟩, rfl, ?_⟩
        rw [← e2, dkv_get hc]
      · have e1 : HB D2 = some (.dK (dkv n fun c => .ref (q2 c))) := sB _ _ (by rw [upd_ne z]; exact eD2A)
        have e2 := DGet.k (k := Sum.inr (tx [c])) e1
        rw [dkv_get hc] at e2
        exact e2
    refine lc_pure walk_keys (fun i => (List.range i).map fun c => V.ref (q2 (nm.getD c 0))) hDl rfl (fun i hi => ?_) (fun HB sB => sB _ _ upd_same) (fun i v HB HC hi sB y => ?_) (fun HB sB eB => ?_)
    · rw [dkv_len] at hi
      rw [List.length_map, List.length_range, sizeLine_eq]
      omega
    · rw [dkv_len] at hi
      obtain ⟨rfl, kk, vv, ek, rfl⟩ := y
      rw [dkv_at hi] at ek
      cases ek
      refine ⟨Same.refl _, fun Fin FinN h1 h2 => ?_⟩
      refine ⟨rfl, _, rfl, _, rfl, rfl, _, rfl, _, _, i, rfl, rfl, index_abc (by omega), _, _, _, rfl, rfl, nmz, at_tx (hn.at_ hi), D2, _, rfl, gD2 HC sB _ (hn.lt hi), ?_⟩
      refine h1 _ _ (Same.refl _) ?_
      rw [List.range_succ, List.map_append]
      rfl
    · rw [dkv_len] at eB
      refine ⟨sB _ _ upd_same, ?_⟩
      have smU : Same HA (upd HB D1 (.dK (dkv n fun c => .ref (q1 c)))) := fun b' u e => by
        by_cases z : b' = D1
        · rw [z, upd_same]
          rw [z, eD1A] at e
          exact e
        · rw [upd_ne z]
          exact sB _ _ (by rw [upd_ne z]; exact e)
      refine ⟨_, rfl, D1, _, rfl, upd_same, fun Lq hLq => ?_⟩
      rw [dkv_vals]
      have smV := smU.trans (same_new (o := .lst ((List.range n).map fun c => V.ref (q1 c))) hLq)
      have eDl : (upd (upd HB D1 (.dK (dkv n fun c => .ref (q1 c)))) Lq (.lst ((List.range n).map fun c => V.ref (q1 c)))) Dl = some (.lst ((List.range n).map fun c => V.ref (q2 (nm.getD c 0)))) := by
        have e1 : (upd HB D1 (.dK (dkv n fun c => .ref (q1 c)))) Dl = some (.lst ((List.range n).map fun c => V.ref (q2 (nm.getD c 0)))) := by rw [upd_ne hDl1]; exact eB
        rw [upd_ne (ne_of_none e1 hLq)]
        exact e1
      have erow : ∀ c, c < n → btRow (Tb.ren nm l) (nm.getD c 0) 4 = btRow l c 4 := fun c hc => List.map_congr_left fun j _ => Tb.bt_ren hn g.lt hc j
      have sh2 := shaped_rows (List.range n) fun c => btRow l c 4
      refine ⟨.list ((List.range n).map fun c => PyData.list ((btRow l c 4).map PyData.int)), .list ((List.range n).map fun c => PyData.list ((btRow l c 4).map PyData.int)), .lst (SqL.of eDl) (dpAll_map _ fun c hc => ?_), .lst (SqL.of upd_same) (dpAll_map _ fun c hc => ?_), sh2, sh2, _, rfl, ?_⟩
      · have hc2 := List.mem_range.mp hc
        have e2 := smV _ _ (eq2A _ (hn.lt hc2))
        rw [erow c hc2] at e2
        exact dp_ints (SqL.of e2)
      · have hc2 := List.mem_range.mp hc
        exact dp_ints (SqL.of (smV _ _ (eq1A c hc2)))
      · rw [SeqAt.eqv_refl _ (SeqAt.canLay_of_shaped sh2)]
        generalize hHV : upd (upd HB D1 (.dK (dkv n fun c => .ref (q1 c)))) Lq (.lst ((List.range n).map fun c => V.ref (q1 c))) = HV at *
        have smf := smA.trans smV
        have sm1V := sm19.trans smV
        refine ⟨_, rfl, _, rfl, _, rfl, _, rfl, a, l, n, f, s, d, rfl, ha.same smf, g, hf, hs, hd, hal, fun HX t1 xs1 smX et1 fv1 => ?_⟩
        refine ⟨_, rfl, _, rfl, _, rfl, _, rfl, b, Tb.ren nm l, n, nm.getD f 0, nm.getD s 0, d, rfl, (tb.same sm1V).same smX, gr, hfn, hsn, by rw [erl]; exact hd, halr, fun HY t2 xs2 smY et2 fv2 => ?_⟩
        rw [Tb.wt_ren hn g.lt hf hs] at fv2
        have smEnd := (smf.trans smX).trans smY
        have et1Y := smY _ _ et1
        refine ⟨_, _, rfl, ?_⟩
        have dEq : decide (V.str ("equal" : Str) = V.str "always") = false := by decide +kernel
        have dDe : decide (V.str ("depends" : Str) = V.str "always") = false := by decide +kernel
        have cAl : (PyData.str "always").canLay0 = true := by decide +kernel
        have always : ∀ x, x < n → xs1 = [.str "always", .str (tx [x])] → xs2 = [.str "always", .str (tx [nm.getD x 0])] → ∀ (HZ : Hp), HZ = HY → True := fun _ _ _ _ _ _ => True.intro
        generalize hk : favK (Tb.wt l f s d) = kk at fv1 fv2
        match kk, fv1, fv2 with
        | 0, fv1, fv2 =>
          have e1 : xs1 = [.str "equal"] := fv1
          have e2 : xs2 = [.str "equal"] := fv2
          subst e1 e2
          refine ⟨_, rfl, t1, _, _, _, rfl, rfl, SqT.of et1Y, atI_nat (j := 0) rfl, rfl, _, rfl, ?_⟩
          rw [dEq]
          refine ⟨_, rfl, t1, _, _, _, rfl, rfl, SqT.of et1Y, atI_nat (j := 0) rfl, _, rfl, t2, _, _, _, rfl, rfl, SqT.of et2, atI_nat (j := 0) rfl, rfl, ?_⟩
          rw [decide_eq_true (show V.str ("equal" : Str) = V.str "equal" from rfl)]
          exact k HY smEnd
        | 1, fv1, fv2 =>
          have e1 : xs1 = [.str "always", .str (tx [f])] := fv1
          have e2 : xs2 = [.str "always", .str (tx [nm.getD f 0])] := fv2
          subst e1 e2
          refine ⟨_, rfl, t1, _, _, _, rfl, rfl, SqT.of et1Y, atI_nat (j := 0) rfl, rfl, _, rfl, ?_⟩
          rw [decide_eq_true (show V.str ("always" : Str) = V.str "always" from rfl)]
          refine ⟨_, rfl, _, rfl, rfl, _, rfl, t1, _, _, _, rfl, rfl, SqT.of et1Y, atI_nat (j := 1) rfl, _, _, f, rfl, rfl, index_abc f6, _, _, _, rfl, rfl, nmz, at_tx (hn.at_ hf), by show 2 ≤ sizeLine; decide, fun t3 ht3 => ?_⟩
          have sh3 := shaped_two cAl (show nm.getD f 0 < 6 by omega)
          refine ⟨_, _, .tup (SqT.of ((same_new ht3) _ _ et2)) (.cons (.str _) (.cons (.str _) .nil)), .tup (SqT.of upd_same) (.cons (.str _) (.cons (.str _) .nil)), sh3, sh3, ?_⟩
          have eqv1 := SeqAt.eqv_refl _ (SeqAt.canLay_of_shaped sh3)
          refine (?_ : Q (.bl (PyData.eqv (.tuple [.str "always", .str (tx [nm.getD f 0])]) (.tuple [.str "always", .str (tx [nm.getD f 0])]))) _)
          rw [eqv1]
          exact k _ (smEnd.trans (same_new ht3))
        | 2, fv1, fv2 =>
          have e1 : xs1 = [.str "always", .str (tx [s])] := fv1
          have e2 : xs2 = [.str "always", .str (tx [nm.getD s 0])] := fv2
          subst e1 e2
          refine ⟨_, rfl, t1, _, _, _, rfl, rfl, SqT.of et1Y, atI_nat (j := 0) rfl, rfl, _, rfl, ?_⟩
          rw [decide_eq_true (show V.str ("always" : Str) = V.str "always" from rfl)]
          refine ⟨_, rfl, _, rfl, rfl, _, rfl, t1, _, _, _, rfl, rfl, SqT.of et1Y, atI_nat (j := 1) rfl, _, _, s, rfl, rfl, index_abc s6, _, _, _, rfl, rfl, nmz, at_tx (hn.at_ hs), by show 2 ≤ sizeLine; decide, fun t3 ht3 => ?_⟩
          have sh3 := shaped_two cAl (show nm.getD s 0 < 6 by omega)
          refine ⟨_, _, .tup (SqT.of ((same_new ht3) _ _ et2)) (.cons (.str _) (.cons (.str _) .nil)), .tup (SqT.of upd_same) (.cons (.str _) (.cons (.str _) .nil)), sh3, sh3, ?_⟩
          have eqv1 := SeqAt.eqv_refl _ (SeqAt.canLay_of_shaped sh3)
          refine (?_ : Q (.bl (PyData.eqv (.tuple [.str "always", .str (tx [nm.getD s 0])]) (.tuple [.str "always", .str (tx [nm.getD s 0])]))) _)
          rw [eqv1]
          exact k _ (smEnd.trans (same_new ht3))
        | kk + 3, fv1, fv2 =>
          obtain ⟨x1, y1, rfl⟩ := (show ∃ x y, xs1 = [.str "depends", x, y] from fv1)
          obtain ⟨x2, y2, rfl⟩ := (show ∃ x y, xs2 = [.str "depends", x, y] from fv2)
          refine ⟨_, rfl, t1, _, _, _, rfl, rfl, SqT.of et1Y, atI_nat (j := 0) rfl, rfl, _, rfl, ?_⟩
          rw [dDe]
          refine ⟨_, rfl, t1, _, _, _, rfl, rfl, SqT.of et1Y, atI_nat (j := 0) rfl, _, rfl, t2, _, _, _, rfl, rfl, SqT.of et2, atI_nat (j := 0) rfl, rfl, ?_⟩
          rw [decide_eq_true (show V.str ("depends" : Str) = V.str "depends" from rfl)]
          exact k HY smEnd
end
end TB
set_option maxHeartbeats 4000000
namespace TB
open PySem PySem.Spec PyProof.Rows L2
section
variable {P : Program} {w : World} {K : PySem.W.Frag} {mg : Str → Option Value} {base : Heap}
theorem same_of_but {p : Addr} {H H1 H2 : Hp} (s : Same H H1) (b : But p H1 H2) (n : H p = none) : Same H H2 := fun c o e => b c o (ne_of_none e n) (s c o e)
theorem TAt.but {C : Addr} {p a : Addr} {H H' : Hp} {l : List Nat} {n : Nat} (h : TAt C H a l n) (hp : PoolAt H p) (b : But p H H') : TAt C H' a l n := by
  obtain ⟨dx, e⟩ := h
  obtain ⟨x, y, e2, _⟩ := hp
  exact ⟨dx, b a _ (ne_of e e2 (by intro z; cases z)) e⟩
theorem PoolAt.same {p : Addr} {H H' : Hp} (h : PoolAt H p) (s : Same H H') : PoolAt H' p := h.keep fun o e => s _ _ e
theorem slice_fromT {l : List Nat} (k : Nat) : Txt.slice (tx l) (some (k : Int)) none = tx (l.drop k) := by
  unfold tx
  rw [SX.slice_from (Int.natCast_nonneg k), Int.toNat_natCast, List.map_drop]
theorem slice_toT {l : List Nat} (k : Nat) : Txt.slice (tx l) none (some (k : Int)) = tx (l.take k) := by
  unfold tx
  rw [SX.slice_to (Int.natCast_nonneg k), Int.toNat_natCast, List.map_take]
def spLaw (K : PySem.W.Frag) : Sp := fun vs H Q _ => ∃ (a : Addr) (ns : List Int), vs = [.ref a] ∧ SqL K H a (ns.map V.int) ∧ ns.length ≤ 63 ∧ ∀ H', Q (.bl true) H'
abbrev N_law : List Str := ["_law_script", "_law_k", "_law_pool", "_law_players", "_law_letters", "_law_text_here", "_law_turns", "_law_first", "_law_second", "_law_most", "_law_degree", "_law_names_here", "_law_at", "_law_other"]
theorem sc_law : FnScope N_law ["_law_script"] (defScope s_law) := ⟨rfl, rfl, rfl, by decide +kernel, rfl, by decide +kernel, by decide +kernel⟩
theorem ok_law {f : Addr} {fd : FuncData} (T : Tx K mg base) (F : FunD K d_law.name d_law.qual d_law.params d_law.body d_law.scope [] [] f fd) : FnOk P w K mg base CX0 11 f fd ["_law_script"] (spLaw K) := by
  refine F.ok sc_law (fun vs H Q E h => ?_) (fun cdv A outer s H vs Q E hr h => ?_)
  · obtain ⟨a, ns, rfl, _⟩ := h
    rfl
  · obtain ⟨a, ns, rfl, hS, hl, k⟩ := h
    have nd := sc_law.nd
    refine ⟨_, PSs.nox (pss_cons (ps_for PassesOwn.never rfl (pi_range1 (by rfl) T.range (pa_cons (pe_callB (call_max2 (by rfl)) (by rfl) T.max (by decide +kernel) (pa_cons pe_int (pa_cons (pe_callB (call_min2 (by rfl)) (by rfl) T.min (by decide +kernel) (pa_cons (pe_callB call_len_seq (by rfl) T.len PySem.boot_len (pa_cons (pv 0) pa_nil)) (pa_cons pe_int pa_nil))) pa_nil))) pa_nil)) (pg_name (i := 1) nd rfl (Or.inl rfl))
        (pss_cons (ps_set (i := 2) nd rfl (Or.inl rfl) (pe_cal (cal_hand T) hr (by rfl) (pa_cons (pv 0) (pa_cons (pv 1) pa_nil))))
        (pss_cons (ps_set (i := 3) nd rfl (Or.inl rfl) (pe_ix ix_list (pe_lst (pa_cons pe_int (pa_cons pe_int (pa_cons pe_int (pa_cons pe_int (pa_cons pe_int (pa_cons pe_int pa_nil))))))) (pe_cal (cal_draw T) hr (by rfl) (pa_cons (pv 2) (pa_cons pe_int pa_nil))) (fun _ _ => rfl)))
        (pss_cons (ps_set (i := 4) nd rfl (Or.inl rfl) (pe_slice C8.sl_txt pe_str po_none (po_some (pv 3))))
        (pss_one (ps_for PassesOwn.never rfl (pi_list (pe_lst (pa_cons (pe_cal (cal_fair T) hr (by rfl) (pa_cons (pv 2) (pa_cons (pv 3) (pa_cons pe_int pa_nil)))) (pa_cons (pe_cal (cal_ltext T) hr (by rfl) (pa_cons (pv 2) (pa_cons (pv 3) (pa_cons pe_int pa_nil)))) pa_nil)))) (pg_name (i := 5) nd rfl (Or.inl rfl))
          (pss_cons (ps_set (i := 6) nd rfl (Or.inl rfl) (pe_newTurns T hr (by rfl) (pa_cons (pv 5) (pa_cons (pv 3) pa_nil))))
          (pss_cons (ps_par (i := 7) (j := 8) (by rfl) nd rfl rfl (by decide) rfl rfl (pa_cons (pe_ix ix_str (pv 4) (pe_cal (cal_draw T) hr (by rfl) (pa_cons (pv 2) (pa_cons (pv 3) pa_nil))) (fun _ _ => rfl)) (pa_cons (pe_ix ix_str (pv 4) (pe_cal (cal_draw T) hr (by rfl) (pa_cons (pv 2) (pa_cons (pv 3) pa_nil))) (fun _ _ => rfl)) pa_nil)) (by rfl))
          (pss_cons (ps_set (i := 9) nd rfl (Or.inl rfl) (pe_cal (cal_pord T) hr (by rfl) (pa_cons (pv 6) (pa_cons (pv 7) (pa_cons (pv 8) pa_nil)))))
          (C8.pss_cut (ps_set (i := 10) nd rfl (Or.inl rfl) (pe_cal (cal_draw T) hr (by rfl) (pa_cons (pv 2) (pa_cons (pe_op op_add (pe_callB (call_min2 (by rfl)) (by rfl) T.min (by decide +kernel) (pa_cons (pe_ifExp (pt_cmpR op_isN (pv 9) pe_non (nomark _)) (pe_callB call_len_str (by rfl) T.len PySem.boot_len (pa_cons (pv 5) pa_nil)) (pv 9)) (pa_cons pe_int pa_nil))) pe_int) pa_nil))))
          (pss_cons (ps_set (i := 11) nd rfl (Or.inl rfl) (pe_cal (cal_lnames T) hr (by rfl) (pa_cons (pv 2) (pa_cons (pv 3) pa_nil))))
          (pss_cons (ps_if (pt_not (pt_val (pe_cal (cal_back T) hr (by rfl) (pa_cons (pv 6) (pa_cons (pv 7) (pa_cons (pv 8) (pa_cons (pv 10) pa_nil))))))) (pss_one (ps_ret pe_bl)) pss_nil)
          (pss_cons (ps_if (pt_not (pt_val (pe_cal (cal_lren T) hr (by rfl) (pa_cons (pv 6) (pa_cons (pv 11) (pa_cons (pv 7) (pa_cons (pv 8) (pa_cons (pv 10) pa_nil)))))))) (pss_one (ps_ret pe_bl)) pss_nil)
          (pss_cons (ps_set (i := 12) nd rfl (Or.inl rfl) (pe_cal (cal_draw T) hr (by rfl) (pa_cons (pv 2) (pa_cons (pv 3) pa_nil))))
          (pss_cons (ps_set (i := 13) nd rfl (Or.inl rfl) (pe_mal (mal_renamed T) T.cl hr (pv 6) (pa_cons (pe_op op_add_str (pe_slice C8.sl_txt (pv 4) (po_some (pv 12)) po_none) (pe_slice C8.sl_txt (pv 4) po_none (po_some (pv 12)))) pa_nil)))
          (pss_one (ps_if (pt_cmpR op_ne (pe_cal (cal_order T) hr (by rfl) (pa_cons (pe_prod T hr (by rfl) (pa_cons (pv 6) (pa_cons (pv 13) pa_nil))) pa_nil)) (pe_cal (cal_order T) hr (by rfl) (pa_cons (pe_prod T hr (by rfl) (pa_cons (pv 6) (pa_cons (pv 6) pa_nil))) pa_nil)) (nomark _)) (pss_one (ps_ret pe_bl)) pss_nil)))))))))))))))))
      (pss_one (ps_ret pe_bl))), ?_⟩
    refine ⟨_, rfl, a, _, rfl, .inl hS, _, _, rfl, _, _, rfl, _, rfl, by split <;> split <;> omega, by split <;> split <;> omega, ?_⟩
    refine for_range (fun i σ H' => Same H H' ∧ ∃ s1 s2 s3 s4 s5 s6 s7 s8 s9 s10 s11 s12 s13 : Option V, σ = [some (.ref a), s1, s2, s3, s4, s5, s6, s7, s8, s9, s10, s11, s12, s13]) ⟨Same.refl _, none, none, none, none, none, none, none, none, none, none, none, none, none, rfl⟩ ?_ ?_
    · rintro i σ H1 hi ⟨sm1, s1, s2, s3, s4, s5, s6, s7, s8, s9, s10, s11, s12, s13, rfl⟩
      have hi63 : i ≤ 63 := by
        have h1 : i < 11 := by
          refine Nat.lt_of_lt_of_le hi ?_
          split <;> split <;> omega
        omega
      refine ⟨_, rfl, _, rfl, a, ns, i, (by rw [Int.zero_add]; rfl), sm1.seq hS, hl, hi63, fun H2 p sm2 hp0 hp2 => ?_⟩
      refine ⟨by show 6 ≤ sizeLine; decide, fun q hq => ?_⟩
      have hqp : q ≠ p := fun z => by
        obtain ⟨x, y, e, _⟩ := hp2
        rw [← z, hq] at e
        cases e
      refine ⟨_, rfl, p, 6, rfl, by decide, by decide, hp2.same (same_new hq), fun H3 k3 b3 hp3 hk3 => ?_⟩
      have eq3 := b3 q _ hqp upd_same
      have pick : ∃ n : Nat, ([V.int 2, V.int 2, V.int 3, V.int 4, V.int 5, V.int 6] : List V)[k3]? = some (V.int (n : Int)) ∧ 2 ≤ n ∧ n ≤ 6 := by
        match k3, hk3 with
        | 0, _ => exact ⟨2, rfl, by decide, by decide⟩
        | 1, _ => exact ⟨2, rfl, by decide, by decide⟩
        | 2, _ => exact ⟨3, rfl, by decide, by decide⟩
        | 3, _ => exact ⟨4, rfl, by decide, by decide⟩
        | 4, _ => exact ⟨5, rfl, by decide, by decide⟩
        | 5, _ => exact ⟨6, rfl, by decide, by decide⟩
      obtain ⟨n, en, hn2, hn6⟩ := pick
      have sm13 : Same H1 H3 := same_of_but (sm2.trans (same_new hq)) b3 hp0
      have hrz : (tx (List.range n)).length ≤ sizeLine := by rw [tx_len, List.length_range, sizeLine_eq]; omega
      refine ⟨q, _, _, _, rfl, rfl, SqL.of eq3, atI_nat en, ?_⟩
      refine ⟨_, rfl, _, rfl, _, rfl, abc_size, ?_⟩
      rw [slice_abc hn6]
      refine ⟨_, rfl, _, rfl, p, n, rfl, hn2, hn6, hp3, fun H4 l1 b4 hp4 h1a h1b h1c => ?_⟩
      refine ⟨_, rfl, _, rfl, p, n, 9, rfl, hn2, hn6, by decide, by decide, hp4, fun H5 l2 b5 hp5 h2a h2b h2c => ?_⟩
      refine ⟨by show 2 ≤ sizeLine; decide, fun r hr0 => ?_⟩
      have hrp : r ≠ p := fun z => by
        obtain ⟨x, y, e, _⟩ := hp5
        rw [← z, hr0] at e
        cases e
      have sm1L : Same H1 (upd H5 r (.lst [.str (tx l1), .str (tx l2)])) := (same_of_but (same_of_but sm13 b4 hp0) b5 hp0).trans (same_new hr0)
      have hpL : PoolAt (upd H5 r (.lst [.str (tx l1), .str (tx l2)])) p := hp5.same (same_new hr0)
      refine ⟨r, rfl, ⟨_, SqL.of upd_same⟩, ?_⟩
      refine for_list (xs := [.str (tx l1), .str (tx l2)]) (fun j σ H' => But p (upd H5 r (.lst [.str (tx l1), .str (tx l2)])) H' ∧ PoolAt H' p ∧ ∃ s5 s6 s7 s8 s9 s10 s11 s12 s13 : Option V, σ = [some (.ref a), some (.int (0 + (i : Nat))), some (.ref p), some (.int (n : Int)), some (.str (tx (List.range n))), s5, s6, s7, s8, s9, s10, s11, s12, s13])
        ⟨But.refl _ _, hpL, s5, s6, s7, s8, s9, s10, s11, s12, s13, rfl⟩ (fun j σ H' _ v => SqL.of (v.1 r _ hrp upd_same)) ?_ ?_
      · rintro j x σ H6 hx ⟨b6, hp6, s5, s6, s7, s8, s9, s10, s11, s12, s13, rfl⟩
        have good : ∃ l, x = .str (tx l) ∧ Good l n ∧ l.length ≤ 30 := by
          match j, hx with
          | 0, hx =>
            cases hx
            exact ⟨l1, rfl, ⟨h1a, by omega, h1c, hn2, hn6⟩, h1b⟩
          | 1, hx =>
            cases hx
            exact ⟨l2, rfl, ⟨h2a, by omega, h2c, hn2, hn6⟩, by omega⟩
        obtain ⟨l, rfl, g, hl30⟩ := good
        have hlz : (tx l).length ≤ sizeLine := by rw [tx_len, sizeLine_eq]; omega
        refine ⟨_, rfl, _, rfl, l, n, rfl, g, fun H7 b sm7 _ tb7 => ?_⟩
        have hp7 := hp6.same sm7
        refine ⟨_, rfl, _, rfl, _, rfl, p, n, rfl, by omega, by omega, hp7, fun H8 f b8 hp8 hf => ?_⟩
        refine ⟨_, _, f + 65, rfl, rfl, hrz, at_tx (List.getElem?_range hf), ?_⟩
        refine ⟨_, rfl, _, rfl, _, rfl, p, n, rfl, by omega, by omega, hp8, fun H9 s b9 hp9 hs => ?_⟩
        refine ⟨_, _, s + 65, rfl, rfl, hrz, at_tx (List.getElem?_range hs), ?_⟩
        refine ⟨_, _, rfl, ?_⟩
        have tb9 := (tb7.but hp7 b8).but hp8 b9
        refine ⟨_, rfl, _, rfl, _, rfl, b, l, n, f, s, rfl, tb9, g, hf, hs, fun H10 sm10 => ?_⟩
        have hp10 := hp9.same sm10
        have tb10 := tb9.same sm10
        refine ⟨fun σ' H' => But p H10 H' ∧ PoolAt H' p ∧ ∃ d : Nat, d ≤ l.length ∧ Tb.Allowed l f s d ∧ σ' = [some (.ref a), some (.int (0 + (i : Nat))), some (.ref p), some (.int (n : Int)), some (.str (tx (List.range n))), some (.str (tx l)), some (.ref b), some (.str (tx [f])), some (.str (tx [s])), some (ov (Tb.pord l f s)), some (.int (d : Int)), s11, s12, s13], ?_, ?_⟩
        · refine ⟨_, rfl, _, rfl, rfl, _, rfl, ?_⟩
          cases e : Tb.pord l f s with
          | none =>
            refine ⟨_, rfl, _, rfl, hlz, _, _, rfl, ?_⟩
            rw [tx_len]
            refine ⟨_, _, rfl, rfl, p, (if (5 : Int) < (l.length : Int) then 5 else (l.length : Int)).toNat + 1, ?_, by omega, by split <;> omega, hp10, fun H11 d b11 hp11 hd => ?_⟩
            · have e2 : (((if (5 : Int) < (l.length : Int) then 5 else (l.length : Int)).toNat + 1 : Nat) : Int) = (if (5 : Int) < (l.length : Int) then 5 else (l.length : Int)) + 1 := by split <;> omega
              rw [e2]
              rfl
            · refine ⟨b11, hp11, d, ?_, fun k hk => ?_, rfl⟩
              · revert hd
                split <;> omega
              · rw [e] at hk
                cases hk
          | some m =>
            have hid : ¬ Tb.Idle l f s := fun z => by
              have h1 : Tb.pord l f s = none := if_pos z
              rw [h1] at e
              cases e
            have hml : m < l.length := by
              have h1 : Tb.pord l f s = some (Tb.ldeg l [(f, s)]) := if_neg hid
              rw [e] at h1
              cases h1
              exact (Tb.ldeg_spec (Tb.pair_some hid)).1
            refine ⟨_, rfl, _, _, rfl, ?_⟩
            refine ⟨_, _, rfl, rfl, p, (if (5 : Int) < (m : Int) then 5 else (m : Int)).toNat + 1, ?_, by omega, by split <;> omega, hp10, fun H11 d b11 hp11 hd => ?_⟩
            · have e2 : (((if (5 : Int) < (m : Int) then 5 else (m : Int)).toNat + 1 : Nat) : Int) = (if (5 : Int) < (m : Int) then 5 else (m : Int)) + 1 := by split <;> omega
              rw [e2]
              rfl
            · have hdm : d ≤ m := by
                revert hd
                split <;> omega
              refine ⟨b11, hp11, d, by omega, fun k hk => ?_, rfl⟩
              rw [e] at hk
              cases hk
              exact hdm
        · rintro σ' H11 ⟨b11, hp11, d, hd, hal, rfl⟩
          have tb11 := tb10.but hp10 b11
          refine ⟨_, rfl, _, rfl, p, n, rfl, hn2, hn6, hp11, fun H12 nm b12 hp12 hnm => ?_⟩
          have tb12 := tb11.but hp11 b12
          refine ⟨_, rfl, _, rfl, _, rfl, _, rfl, b, l, n, f, s, d, rfl, tb12, g, hf, hs, hd, hal, fun H13 sm13' => ⟨true, rfl, ?_⟩⟩
          have tb13 := tb12.same sm13'
          refine ⟨_, rfl, _, rfl, _, rfl, _, rfl, _, rfl, b, l, nm, n, f, s, d, rfl, tb13, g, hnm, hf, hs, hd, hal, fun H14 sm14 => ⟨true, rfl, ?_⟩⟩
          have tb14 := tb13.same sm14
          have hp14 := (hp12.same sm13').same sm14
          refine ⟨_, rfl, _, rfl, p, n, rfl, by omega, by omega, hp14, fun H15 kk b15 hp15 hkk => ?_⟩
          have tb15 := tb14.but hp14 b15
          obtain ⟨dx, eb15⟩ := id tb15
          refine ⟨_, rfl, b, dx, _, rfl, eb15, tf_no l n, _, rfl, _, rfl, _, rfl, _, rfl, hrz, _, rfl, _, rfl, _, rfl, _, rfl, hrz, _, _, rfl, rfl, ?_, ?_⟩
          · rw [slice_fromT, slice_toT, tx_len, tx_len, List.length_drop, List.length_take, List.length_range, sizeLine_eq]
            omega
          rw [slice_fromT, slice_toT, tx_cat]
          refine ⟨b, l, n, Tb.rot n kk, rfl, tb15, g, Tb.rot_names, fun H16 c sm16 tc => ?_⟩
          have tb16 := tb15.same sm16
          have hll : l.length * l.length ≤ 900 := Nat.mul_le_mul hl30 hl30
          have hll2 : l.length * (Tb.ren (Tb.rot n kk) l).length ≤ 2000 := by rw [Tb.ren_len]; omega
          refine ⟨_, rfl, _, rfl, b, c, l, Tb.ren (Tb.rot n kk) l, n, rfl, tb16, g, tc, g.ren Tb.rot_names, hll2, fun H17 c2 sm17 tc2 => ?_⟩
          refine ⟨c2, _, n, rfl, tc2, g.prod (g.ren Tb.rot_names) hll2, fun H18 sm18 => ?_⟩
          have tb18 := (tb16.same sm17).same sm18
          refine ⟨_, rfl, _, rfl, b, b, l, l, n, rfl, tb18, g, tb18, g, by omega, fun H19 c3 sm19 tc3 => ?_⟩
          refine ⟨c3, _, n, rfl, tc3, g.prod g (by omega), fun H20 sm20 => ?_⟩
          refine ⟨rfl, _, rfl, ?_⟩
          rw [Tb.ord_prod hkk g.lt]
          rw [decide_eq_true (show V.int ((Tb.ord (Tb.prodT n l l) n : Nat) : Int) = V.int ((Tb.ord (Tb.prodT n l l) n : Nat) : Int) from rfl)]
          have smEnd : Same H15 H20 := (((sm16.trans sm17).trans sm18).trans sm19).trans sm20
          have ball : But p (upd H5 r (.lst [.str (tx l1), .str (tx l2)])) H20 :=
            (((((((b6.trans (same_but sm7)).trans b8).trans b9).trans (same_but sm10)).trans b11).trans b12).trans (same_but (sm13'.trans sm14))).trans (b15.trans (same_but smEnd))
          exact ⟨ball, hp15.same smEnd, _, _, _, _, _, _, _, _, _, rfl⟩
      · rintro σ H6 ⟨b6, hp6, s5, s6, s7, s8, s9, s10, s11, s12, s13, rfl⟩
        exact ⟨sm1.trans (same_of_but sm1L b6 hp0), _, _, _, _, _, _, _, _, _, _, _, _, _, rfl⟩
    · rintro σ H1 ⟨_, _⟩
      exact k H1
end
end TB
set_option maxHeartbeats 0
namespace TB
open PySem PySem.Spec PyProof.Rows L2
theorem facts {P : Program} {w : World} {K : PySem.W.Frag} {h : Heap} {mg : Str → Option Value} {f : Addr} (X : K.In h) (G : h.Ns mainGlobals mg) (hfa : mg ("law" : Str) = some (.ref f)) (c : Seen K) :
    ∃ fd : FuncData, (∀ (s : Shared) (v : Value), BindsTo s fd ⟨[v], []⟩ [("_law_script", v)]) ∧ ∀ base : Heap, K.In base → base.Ns mainGlobals mg → FnOk P w K mg base CX0 11 f fd ["_law_script"] (spLaw K) := by
  have T : Tx K mg h := ⟨X, G, c⟩
  obtain ⟨fd, F⟩ := T.dd 41 (d := d_law) rfl
  have e := hfa.symm.trans (T.glo (x := "law") 34)
  cases e
  have b := FunD.bindsA (ps := ["_law_script"]) F fun _ _ _ _ _ _ us hl => match us, hl with | [_], _ => rfl
  exact ⟨fd, fun s v => b s [v] rfl, fun base hb hn => ok_law ⟨hb, hn, c⟩ F⟩
end TB
open PySem PySem.W PySem.Calls PyProof.Rows
theorem PySem.Challenge.cw_turnbalance_k33_whole_backward_and_renam_holds : PySem.Challenge.rw_turnbalance_k33_whole_backward_and_renam.Holds := by
  w_on; o_law
  refine HandSHeadRun.head_any (r := TB.ROW) (q := PySem.W.view TB.PG [54]) (H := TB.hook) (ob := TB.lookT) (M := 4000) (loose := TB.otherNames) (d := HandSHeadRun.topDef TB.ROW.prog 54) (kwd := []) TB.lookT_eq
    (by kernel_rfl) (fun s => by kernel_rfl) TB.theRun (by kernel_rfl) (by kernel_rfl) (by kernel_rfl) (by rfl) (by first | assumption | decide +kernel) (by decide +kernel) ⟨rfl, rfl, rfl, rfl, rfl, by decide +kernel⟩ ?hw ?hc
  case hw => w_witness2
  case hc =>
    refine L2.walk_ofE (l := PySem.Challenge.rw_turnbalance_k33_whole_backward_and_renam) (n := 63) (k := 11) (x := "_law_script") (CX := L2.CX0) rfl (by decide) (by kernel_rfl) ⟨rfl, by decide, by decide⟩ ?F (fun _ _ _ _ z => z)
    intro w mg fa h Y G hmg0
    obtain ⟨K, KX, c⟩ := Y
    have hmg : mg ("law" : PySem.Str) = some (.ref fa) := by
      have e : (HandSHeadRun.topDef TB.ROW.prog 54).name = ("law" : PySem.Str) := by kernel_rfl
      rw [← e]
      exact hmg0
    obtain ⟨fd, hb, hF⟩ := TB.facts (P := (PySem.Challenge.rw_turnbalance_k33_whole_backward_and_renam).prog) (w := w) KX G hmg c
    exact ⟨K, fd, TB.spLaw K, KX, hb, fun H a ns hl _ hS => ⟨a, ns, rfl, hS, hl, fun _ => rfl⟩, hF⟩
