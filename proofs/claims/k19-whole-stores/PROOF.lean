import PyProof.Rows.All
import Wide.All
import OpenK.AllK
import Wide.FinOn
import HandS.Base
import HandS.Call
import HandS.List
import HandS.Comp
import HandS.Ends
import HandS.Words
import HandS.WordsList
import HandS.Exc
import HandS.Defaults
import HandS.HeadHook1
import HandS.HeadHook2
import HandS.HeadHook3
import HandS.HeadHook4
import HandS.ExcIs
import HandS.Codes
import PySem.Challenge.RW_prunemerge_k19_whole_stores_step_by_step
import HandS.HotCalls
import HandS.Iter
import HandS.IsInst
import HandS.Lambda
import HandS.ExcCtx
import HandS.TupAny
import HandS.Style
import HandS.SetFor
import HandS.Strs
import HandS.More
import PyProof.TupleOfSeq
import HandS.SlotsOwn
import HandS.Conv
import HandS.SortRule
import KE.GoesEnum
import KE.GoesMore
import HandS.DictTup
import HandS.ForMost
import HandS.Wide
import HandS.Zip
import HandS.Walk
import HandS.Text
import KE.KStateDown
import Lean
import HandS.Head0
import HandS.Head1
import HandS.Head2
import HandS.HeadWalk
import HandS.EndTab
import HandS.HeadEnd
set_option Elab.async false
set_option linter.all false
set_option maxRecDepth 100000
namespace K19
open PySem PySem.Spec PyProof.Rows L2
def top (i : Nat) : Stmt := PySem.Challenge.pw_prunemerge_k19_whole_stores_step_by_step.main.body.getD i (.Pass ⟨0, 0, 0, 0⟩)
abbrev sIsBetween : Stmt := top 28
abbrev sIsAscending : Stmt := top 29
abbrev sIsShape : Stmt := top 30
abbrev sIsRule : Stmt := top 31
abbrev sIsPolicy : Stmt := top 32
abbrev sCheckPolicy : Stmt := top 33
abbrev sBucket : Stmt := top 35
abbrev sNewestBy : Stmt := top 36
abbrev sPruned : Stmt := top 37
abbrev sUnion : Stmt := top 39
abbrev sWithout : Stmt := top 41
abbrev sLawSource : Stmt := top 44
abbrev sLawDraw : Stmt := top 45
abbrev sLawIsInt : Stmt := top 46
abbrev sLawChoice : Stmt := top 47
abbrev sLawErrorNames : Stmt := top 48
abbrev sLawOutcome : Stmt := top 49
abbrev sLawKind : Stmt := top 50
abbrev sLawEqual : Stmt := top 51
abbrev sLawPolicy : Stmt := top 52
abbrev sLawBucket : Stmt := top 53
abbrev sLawUnion : Stmt := top 54
abbrev sLawFast : Stmt := top 55
abbrev sLawCall : Stmt := top 56
abbrev sLawError : Stmt := top 57
abbrev sLawAfter : Stmt := top 58
abbrev sLawExecute : Stmt := top 59
abbrev sLawCorrect : Stmt := top 60
abbrev sLaw : Stmt := top 61
abbrev sStInit : Stmt := inClass (top 42) 0
abbrev sStLen : Stmt := inClass (top 42) 1
abbrev sStEq : Stmt := inClass (top 42) 2
abbrev sStState : Stmt := inClass (top 42) 3
abbrev sStChange : Stmt := inClass (top 42) 4
abbrev sStCheckTime : Stmt := inClass (top 42) 5
abbrev sStCheckPresent : Stmt := inClass (top 42) 6
abbrev sStAdd : Stmt := inClass (top 42) 7
abbrev sStPrune : Stmt := inClass (top 42) 8
abbrev sStProtect : Stmt := inClass (top 42) 9
abbrev sStRelease : Stmt := inClass (top 42) 10
abbrev sStDelete : Stmt := inClass (top 42) 11
abbrev sStUndo : Stmt := inClass (top 42) 13
abbrev sStSnapshots : Stmt := inClass (top 42) 14
abbrev sStProtected : Stmt := inClass (top 42) 15
abbrev sStMissed : Stmt := inClass (top 42) 16
/-- a def's datum for the head -/
def gDef (x : Str) (s : Stmt) : He.DefD := ⟨(x, none), x, x, defArgs s, defBody s, defScope s, [], []⟩
def mDef (m q : Str) (s : Stmt) : He.DefD := ⟨("Store", some m), m, q, defArgs s, defBody s, defScope s, [], []⟩
def dIsBetween : He.DefD := gDef "is_between" sIsBetween
def dIsAscending : He.DefD := gDef "is_ascending" sIsAscending
def dIsShape : He.DefD := gDef "is_shape" sIsShape
def dIsRule : He.DefD := gDef "is_rule" sIsRule
def dIsPolicy : He.DefD := gDef "is_policy" sIsPolicy
def dCheckPolicy : He.DefD := gDef "check_policy" sCheckPolicy
def dBucket : He.DefD := gDef "bucket" sBucket
def dNewestBy : He.DefD := gDef "newest_by" sNewestBy
def dPruned : He.DefD := gDef "pruned" sPruned
def dUnion : He.DefD := gDef "union" sUnion
def dWithout : He.DefD := gDef "without" sWithout
def dLawSource : He.DefD := gDef "_law_source" sLawSource
def dLawDraw : He.DefD := gDef "_law_draw" sLawDraw
def dLawIsInt : He.DefD := gDef "_law_is_int" sLawIsInt
def dLawChoice : He.DefD := gDef "_law_choice" sLawChoice
def dLawErrorNames : He.DefD := gDef "_law_error_names" sLawErrorNames
def dLawOutcome : He.DefD := gDef "_law_outcome" sLawOutcome
def dLawKind : He.DefD := gDef "_law_kind" sLawKind
def dLawEqual : He.DefD := gDef "_law_equal" sLawEqual
def dLawPolicy : He.DefD := gDef "_law_policy" sLawPolicy
def dLawBucket : He.DefD := gDef "_law_bucket" sLawBucket
def dLawUnion : He.DefD := gDef "_law_union" sLawUnion
def dLawFast : He.DefD := gDef "_law_fast" sLawFast
def dLawCall : He.DefD := gDef "_law_call" sLawCall
def dLawError : He.DefD := gDef "_law_error" sLawError
def dLawAfter : He.DefD := gDef "_law_after" sLawAfter
def dLawExecute : He.DefD := gDef "_law_execute" sLawExecute
def dLawCorrect : He.DefD := gDef "_law_correct" sLawCorrect
def dLaw : He.DefD := gDef "law" sLaw
def dStInit : He.DefD := mDef "__init__" "Store.__init__" sStInit
def dStLen : He.DefD := mDef "__len__" "Store.__len__" sStLen
def dStEq : He.DefD := mDef "__eq__" "Store.__eq__" sStEq
def dStState : He.DefD := mDef "state" "Store.state" sStState
def dStChange : He.DefD := mDef "change" "Store.change" sStChange
def dStCheckTime : He.DefD := mDef "check_time" "Store.check_time" sStCheckTime
def dStCheckPresent : He.DefD := mDef "check_present" "Store.check_present" sStCheckPresent
def dStAdd : He.DefD := mDef "add" "Store.add" sStAdd
def dStPrune : He.DefD := mDef "prune" "Store.prune" sStPrune
def dStProtect : He.DefD := mDef "protect" "Store.protect" sStProtect
def dStRelease : He.DefD := mDef "release" "Store.release" sStRelease
def dStDelete : He.DefD := mDef "delete" "Store.delete" sStDelete
def dStUndo : He.DefD := mDef "undo" "Store.undo" sStUndo
def dStSnapshots : He.DefD := mDef "snapshots" "Store.snapshots" sStSnapshots
def dStProtected : He.DefD := mDef "protected" "Store.protected" sStProtected
def dStMissed : He.DefD := mDef "missed" "Store.missed" sStMissed
def fn1 : List He.DefD := [dIsBetween, dIsAscending, dIsShape, dIsRule, dIsPolicy, dCheckPolicy, dBucket, dNewestBy, dPruned, dUnion, dWithout, dLawSource, dLawDraw, dLawIsInt, dLawChoice, dLawErrorNames, dLawOutcome, dLawKind, dLawEqual, dLawPolicy, dLawBucket, dLawUnion, dLawFast, dLawCall, dLawError, dLawAfter, dLawExecute, dLawCorrect, dLaw]
def fn2 : List He.DefD := [dStInit, dStLen, dStEq, dStState, dStChange, dStCheckTime, dStCheckPresent, dStAdd, dStPrune, dStProtect, dStRelease, dStDelete, dStUndo, dStSnapshots, dStProtected, dStMissed]
def fn : List He.DefD := fn1 ++ fn2
def faG : List He.Fa := [.glo "is_between", .glo "is_ascending", .glo "is_shape", .glo "is_rule", .glo "is_policy", .glo "check_policy", .glo "bucket", .glo "newest_by", .glo "pruned", .glo "union", .glo "without", .glo "_law_source", .glo "_law_draw", .glo "_law_is_int", .glo "_law_choice", .glo "_law_error_names", .glo "_law_outcome", .glo "_law_kind", .glo "_law_equal", .glo "_law_policy", .glo "_law_bucket", .glo "_law_union", .glo "_law_fast", .glo "_law_call", .glo "_law_error", .glo "_law_after", .glo "_law_execute", .glo "_law_correct", .glo "law"]
def faC : List He.Fa := [.glo "RetentionError", .glo "InvalidPolicy", .glo "InvalidSnapshots", .glo "InvalidText", .glo "InvalidIndex", .glo "InvalidTime", .glo "InvalidSites", .glo "InvalidScript", .glo "InvalidSchedule", .glo "InvalidNumber", .glo "InvalidShapes", .glo "InvalidStore", .glo "AlreadyKnown", .glo "NotPresent", .glo "AlreadyProtected", .glo "NotProtected", .glo "ProtectedError", .glo "CapacityError", .glo "NothingToUndo", .glo "TooWide", .glo "Store"]
def faF : List He.Fa := [.free "isinstance", .free "len", .free "all", .free "zip", .free "tuple", .free "sorted", .free "list", .free "set", .free "range", .free "enumerate", .free "str", .free "bool", .free "int", .free "ValueError"]
def faI : List He.Fa := [.int "MAX_TIME" 1000000000000, .int "MAX_SNAPSHOTS" 200, .int "MAX_PERIOD" 1000000, .int "MAX_COUNT" 24, .int "MAX_RULES" 3]
def faS : List He.Fa := [.cls "Store", .mkr "Store", .noat "Store" "policy", .noat "Store" "present", .noat "Store" "fixed", .noat "Store" "known", .noat "Store" "deleted", .noat "Store" "past"]
def faM : List He.Fa := [.meth "Store" "__init__", .meth "Store" "__len__", .meth "Store" "__eq__", .meth "Store" "state", .meth "Store" "change", .meth "Store" "check_time", .meth "Store" "check_present", .meth "Store" "add", .meth "Store" "prune", .meth "Store" "protect", .meth "Store" "release", .meth "Store" "delete", .meth "Store" "undo", .meth "Store" "snapshots", .meth "Store" "protected", .meth "Store" "missed"]
def faX : List He.Fa := [.exc "InvalidTime", .exm "InvalidTime" "TooWide" false, .exm "InvalidTime" "RetentionError" true, .exc "AlreadyKnown", .exm "AlreadyKnown" "TooWide" false, .exm "AlreadyKnown" "RetentionError" true, .exc "NotPresent", .exm "NotPresent" "TooWide" false, .exm "NotPresent" "RetentionError" true, .exc "AlreadyProtected", .exm "AlreadyProtected" "TooWide" false, .exm "AlreadyProtected" "RetentionError" true, .exc "NotProtected", .exm "NotProtected" "TooWide" false, .exm "NotProtected" "RetentionError" true, .exc "ProtectedError", .exm "ProtectedError" "TooWide" false, .exm "ProtectedError" "RetentionError" true, .exc "NothingToUndo", .exm "NothingToUndo" "TooWide" false, .exm "NothingToUndo" "RetentionError" true]
def fa : List He.Fa := faG ++ faC ++ faF ++ faI ++ faS ++ faM ++ faX
def tf : List He.Defn := [("_law_execute", none), ("law", none)]
def raised : List Str := [("InvalidTime" : Str), ("AlreadyKnown" : Str), ("NotPresent" : Str), ("AlreadyProtected" : Str), ("NotProtected" : Str), ("ProtectedError" : Str), ("NothingToUndo" : Str)]
def words : List Str := [("InvalidPolicy" : Str), ("InvalidSnapshots" : Str), ("InvalidText" : Str), ("InvalidIndex" : Str), ("InvalidTime" : Str), ("InvalidSites" : Str), ("InvalidScript" : Str), ("InvalidSchedule" : Str), ("InvalidNumber" : Str), ("InvalidShapes" : Str), ("InvalidStore" : Str), ("AlreadyKnown" : Str), ("NotPresent" : Str), ("AlreadyProtected" : Str), ("NotProtected" : Str), ("ProtectedError" : Str), ("CapacityError" : Str), ("NothingToUndo" : Str), ("TooWide" : Str)]
def loose1 : List Str := [("_wall" : Str), ("RetentionError" : Str), ("InvalidPolicy" : Str), ("InvalidSnapshots" : Str), ("InvalidText" : Str), ("InvalidIndex" : Str), ("InvalidTime" : Str), ("InvalidSites" : Str), ("InvalidScript" : Str), ("InvalidSchedule" : Str), ("InvalidNumber" : Str), ("InvalidShapes" : Str), ("InvalidStore" : Str), ("AlreadyKnown" : Str), ("NotPresent" : Str), ("AlreadyProtected" : Str), ("NotProtected" : Str), ("ProtectedError" : Str), ("CapacityError" : Str), ("NothingToUndo" : Str), ("TooWide" : Str), ("MAX_TIME" : Str), ("MAX_SNAPSHOTS" : Str), ("MAX_PERIOD" : Str), ("MAX_COUNT" : Str), ("MAX_RULES" : Str), ("is_between" : Str), ("is_ascending" : Str), ("is_shape" : Str), ("is_rule" : Str), ("is_policy" : Str), ("check_policy" : Str), ("bucket" : Str), ("newest_by" : Str), ("pruned" : Str)]
def loose2 : List Str := [("union" : Str), ("without" : Str), ("Store" : Str), ("_law_source" : Str), ("_law_draw" : Str), ("_law_is_int" : Str), ("_law_choice" : Str), ("_law_error_names" : Str), ("_law_outcome" : Str), ("_law_kind" : Str), ("_law_equal" : Str), ("_law_policy" : Str), ("_law_bucket" : Str), ("_law_union" : Str), ("_law_fast" : Str), ("_law_call" : Str), ("_law_error" : Str), ("_law_after" : Str), ("_law_execute" : Str), ("_law_correct" : Str)]
def loose : List Str := loose1 ++ loose2
def lawAt : Nat := 61
/-- what isinstance asks of an exception's class -/
def excCB (K : PySem.W.Frag) (D : Addr) : Bool :=
  He.eqO (PySem.W.findIn K (.ref D) "__getattribute__") (some (some (.builtin "BaseException.__getattribute__"))) && (He.eqO (PySem.W.findIn K (.ref D) "__getattr__") (some none) &&
  (decide (PySem.W.subIn K (.ref D) (.type "BaseException") = some true) && (PySem.W.hasDictIn K D && (He.eqO (PySem.W.findIn K (.ref D) "__class__") (some (some (.builtin "object.__class__"))) &&
  (He.eqO (PySem.W.specialIn K (.builtin "object.__class__") "__get__") (some (some (.builtin "getset_descriptor.__get__"))) && (decide (PySem.W.takesIn K (.builtin "object.__class__") = some true) && decide (PySem.W.mroIn K D (.type "object") = some true)))))))
theorem excCB_ok {K : PySem.W.Frag} {D : Addr} (h : excCB K D = true) : ExcC K D := by
  obtain ⟨h1, h⟩ := He.ba h
  obtain ⟨h2, h⟩ := He.ba h
  obtain ⟨h3, h⟩ := He.ba h
  obtain ⟨h4, h⟩ := He.ba h
  obtain ⟨h5, h⟩ := He.ba h
  obtain ⟨h6, h⟩ := He.ba h
  obtain ⟨h7, h8⟩ := He.ba h
  exact ⟨He.eqO_ok h1, He.eqO_ok h2, of_decide_eq_true h3, h4, He.eqO_ok h5, He.eqO_ok h6, of_decide_eq_true h7, of_decide_eq_true h8⟩
/-- what an error of the class named x is, by isinstance -/
def kitsB (K : PySem.W.Frag) (x : Str) : Bool := words.all (fun y => decide (PySem.W.kitOne K (.ref (He.ga K x)) (.ref (He.ga K y)) = some (decide (x = y)))) && decide (PySem.W.kitOne K (.ref (He.ga K x)) (.type "ValueError") = some true)
/-- a store, by isinstance -/
def insB (K : PySem.W.Frag) (C : Addr) : Bool :=
  He.eqO (PySem.W.findIn K (.ref C) "__class__") (some (some (.builtin "object.__class__"))) && (He.eqO (PySem.W.specialIn K (.builtin "object.__class__") "__get__") (some (some (.builtin "getset_descriptor.__get__"))) &&
  (decide (PySem.W.takesIn K (.builtin "object.__class__") = some true) && (decide (PySem.W.mroIn K C (.type "object") = some true) && (decide (PySem.W.kitOne K (.ref C) (.ref C) = some true) && (decide (PySem.W.kitOne K (.type "tuple") (.ref C) = some false) && PySem.W.notFirst K C (.type "tuple"))))))
theorem insB_ok {K : PySem.W.Frag} {C : Addr} (c : Cls K C) (h : insB K C = true) : C8.InsC K C ∧ PySem.W.kitOne K (.type "tuple") (.ref C) = some false ∧ PySem.W.notFirst K C (.type "tuple") = true := by
  obtain ⟨h1, h⟩ := He.ba h
  obtain ⟨h2, h⟩ := He.ba h
  obtain ⟨h3, h⟩ := He.ba h
  obtain ⟨h4, h⟩ := He.ba h
  obtain ⟨h5, h⟩ := He.ba h
  obtain ⟨h6, h7⟩ := He.ba h
  exact ⟨⟨c, He.eqO_ok h1, He.eqO_ok h2, of_decide_eq_true h3, of_decide_eq_true h4, of_decide_eq_true h5⟩, of_decide_eq_true h6, h7⟩
def ex (K : PySem.W.Frag) : Bool := raised.all (fun x => excCB K (He.ga K x) && kitsB K x) && insB K (He.ga K "Store") && !decide ((He.cT K ("_law_execute", none)).2 = (He.cT K ("law", none)).2)
end K19

/-! ascending lists of ints, unions, what a policy keeps: plain Lean -/
namespace K19
/-- strictly ascending -/
def Asc (l : List Int) : Prop := l.Pairwise (· < ·)
theorem asc_nil : Asc [] := List.Pairwise.nil
theorem asc_one (x : Int) : Asc [x] := List.pairwise_singleton _ _
theorem asc_ext : ∀ {a b : List Int}, Asc a → Asc b → (∀ x, x ∈ a ↔ x ∈ b) → a = b
  | [], [], _, _, _ => rfl
  | [], y :: b, _, _, h => by
    have z := (h y).mpr List.mem_cons_self
    cases z
  | x :: a, [], _, _, h => by
    have z := (h x).mp List.mem_cons_self
    cases z
  | x :: a, y :: b, ha, hb, h => by
    obtain ⟨a1, a2⟩ := List.pairwise_cons.mp ha
    obtain ⟨b1, b2⟩ := List.pairwise_cons.mp hb
    have e : x = y := by
      rcases List.mem_cons.mp ((h x).mp List.mem_cons_self) with e | e
      · exact e
      · rcases List.mem_cons.mp ((h y).mpr List.mem_cons_self) with e' | e'
        · exact e'.symm
        · have h1 := b1 x e
          have h2 := a1 y e'
          omega
    subst e
    rw [asc_ext a2 b2 fun z => ?_]
    constructor
    · intro hz
      rcases List.mem_cons.mp ((h z).mp (List.mem_cons_of_mem _ hz)) with e | e
      · have := a1 z hz
        omega
      · exact e
    · intro hz
      rcases List.mem_cons.mp ((h z).mpr (List.mem_cons_of_mem _ hz)) with e | e
      · have := b1 z hz
        omega
      · exact e
theorem asc_of {l : List Int} (h : l.Pairwise (· ≤ ·)) (n : l.Nodup) : Asc l := by
  have h2 : l.Pairwise (fun a b => a ≤ b ∧ a ≠ b) := List.Pairwise.and h n
  exact h2.imp fun {a b} z => by
    obtain ⟨z1, z2⟩ := z
    omega
theorem Asc.nodup {l : List Int} (h : Asc l) : l.Nodup := h.imp fun {a b} z => by omega
theorem Asc.filter {l : List Int} (p : Int → Bool) (h : Asc l) : Asc (l.filter p) := List.Pairwise.filter p h
/-- insertion -/
def ins (x : Int) : List Int → List Int
  | [] => [x]
  | y :: r => if x < y then x :: y :: r else if x = y then y :: r else y :: ins x r
theorem mem_ins {x z : Int} : ∀ {l : List Int}, z ∈ ins x l ↔ z = x ∨ z ∈ l
  | [] => by simp [ins]
  | y :: r => by
    unfold ins
    by_cases h : x < y
    · rw [if_pos h]
      simp
    · rw [if_neg h]
      by_cases e : x = y
      · rw [if_pos e]
        subst e
        simp
      · rw [if_neg e, List.mem_cons, mem_ins (l := r), List.mem_cons]
        constructor
        · rintro (h | h | h) <;> simp [h]
        · rintro (h | h | h) <;> simp [h]
theorem asc_ins {x : Int} : ∀ {l : List Int}, Asc l → Asc (ins x l)
  | [], _ => asc_one x
  | y :: r, h => by
    obtain ⟨h1, h2⟩ := List.pairwise_cons.mp h
    unfold ins
    by_cases c : x < y
    · rw [if_pos c]
      refine List.pairwise_cons.mpr ⟨fun z hz => ?_, h⟩
      rcases List.mem_cons.mp hz with e | e
      · omega
      · have := h1 z e
        omega
    · rw [if_neg c]
      by_cases e : x = y
      · rw [if_pos e]
        exact h
      · rw [if_neg e]
        refine List.pairwise_cons.mpr ⟨fun z hz => ?_, asc_ins h2⟩
        rcases mem_ins.mp hz with e' | e'
        · omega
        · exact h1 z e'
theorem length_ins (x : Int) : ∀ l : List Int, (ins x l).length ≤ l.length + 1
  | [] => by simp [ins]
  | y :: r => by
    unfold ins
    by_cases c : x < y
    · rw [if_pos c]
      simp
    · rw [if_neg c]
      by_cases e : x = y
      · rw [if_pos e]
        simp
      · rw [if_neg e]
        have := length_ins x r
        simp only [List.length_cons]
        omega
/-- the union, ascending -/
def uni (a b : List Int) : List Int := b.foldr ins a
theorem mem_uni {a b : List Int} {x : Int} : x ∈ uni a b ↔ x ∈ a ∨ x ∈ b := by
  unfold uni
  induction b with
  | nil => simp
  | cons y r ih =>
    rw [List.foldr_cons, mem_ins, ih, List.mem_cons]
    constructor
    · rintro (h | h | h) <;> simp [h]
    · rintro (h | h | h) <;> simp [h]
theorem asc_uni {a b : List Int} (h : Asc a) : Asc (uni a b) := by
  unfold uni
  induction b with
  | nil => exact h
  | cons y r ih => exact asc_ins ih
theorem length_uni (a b : List Int) : (uni a b).length ≤ a.length + b.length := by
  unfold uni
  induction b with
  | nil => simp
  | cons y r ih =>
    rw [List.foldr_cons]
    have := length_ins y (r.foldr ins a)
    simp only [List.length_cons]
    omega
/-- a sorted list without repetition that holds just these is the union -/
theorem uni_of {a b l : List Int} (ha : Asc a) (hl : Asc l) (h : ∀ x, x ∈ l ↔ x ∈ a ∨ x ∈ b) : l = uni a b :=
  asc_ext hl (asc_uni ha) fun x => by rw [h x, mem_uni]
/-- first + tuple([.. for .. in second if .. not in first]), sorted -/
theorem uni_cat {a b l : List Int} (ha : Asc a) (hb : Asc b) (hp : l.Perm (a ++ b.filter fun x => !a.contains x)) (hs : l.Pairwise (· ≤ ·)) : l = uni a b := by
  have nd : (a ++ b.filter fun x => !a.contains x).Nodup := by
    refine List.nodup_append.mpr ⟨ha.nodup, hb.nodup.filter _, fun x hx y hy e => ?_⟩
    subst e
    obtain ⟨_, h2⟩ := List.mem_filter.mp hy
    simp [hx] at h2
  refine uni_of ha (asc_of hs (hp.nodup_iff.mpr nd)) fun x => ?_
  rw [hp.mem_iff, List.mem_append, List.mem_filter]
  by_cases c : x ∈ a <;> simp [c]
/-! ### rules -/
/-- period, offset, count -/
abbrev Rule := Int × Int × Int
def bk (r : Rule) (t : Int) : Int := (t + r.2.1) / r.1
theorem bk_mono {r : Rule} (h : 0 < r.1) {t u : Int} (c : t ≤ u) : bk r t ≤ bk r u := Int.ediv_le_ediv h (by omega)
/-- a turn from the newest to the oldest: what is found, the buckets that were seen -/
def nst (r : Rule) (s : List Int × List Int) (t : Int) : List Int × List Int :=
  (if bk r t ∉ s.2 ∧ (s.2.length : Int) < r.2.2 then s.1 ++ [t] else s.1, if bk r t ∈ s.2 then s.2 else s.2 ++ [bk r t])
def nrun (r : Rule) (l : List Int) : List Int × List Int := l.foldl (nst r) ([], [])
theorem nrun_snoc (r : Rule) (l : List Int) (t : Int) : nrun r (l ++ [t]) = nst r (nrun r l) t := by
  unfold nrun
  rw [List.foldl_append]
  rfl
theorem snoc_ind {α : Type} {P : List α → Prop} (h0 : P []) (h1 : ∀ l x, P l → P (l ++ [x])) (l : List α) : P l := by
  have key : ∀ m : List α, P m.reverse := by
    intro m
    induction m with
    | nil => exact h0
    | cons x m ih =>
      rw [List.reverse_cons]
      exact h1 _ x ih
  have := key l.reverse
  rwa [List.reverse_reverse] at this
theorem mem_seen (r : Rule) (l : List Int) : ∀ h, h ∈ (nrun r l).2 ↔ ∃ u ∈ l, bk r u = h := by
  induction l using snoc_ind with
  | h0 => simp [nrun]
  | h1 l x ih =>
    intro h
    rw [nrun_snoc]
    unfold nst
    show h ∈ (if bk r x ∈ (nrun r l).2 then (nrun r l).2 else (nrun r l).2 ++ [bk r x]) ↔ _
    by_cases c : bk r x ∈ (nrun r l).2
    · rw [if_pos c, ih h]
      constructor
      · rintro ⟨u, hu, e⟩
        exact ⟨u, by simp [hu], e⟩
      · rintro ⟨u, hu, e⟩
        rcases List.mem_append.mp hu with hu | hu
        · exact ⟨u, hu, e⟩
        · have e2 : u = x := by simpa using hu
          subst e2
          rw [e] at c
          exact (ih h).mp c
    · rw [if_neg c, List.mem_append, ih h]
      constructor
      · rintro (⟨u, hu, e⟩ | e)
        · exact ⟨u, by simp [hu], e⟩
        · have e2 : h = bk r x := by simpa using e
          exact ⟨x, by simp, e2.symm⟩
      · rintro ⟨u, hu, e⟩
        rcases List.mem_append.mp hu with hu | hu
        · exact .inl ⟨u, hu, e⟩
        · have e2 : u = x := by simpa using hu
          subst e2
          exact .inr (by simp [e])
theorem nodup_seen (r : Rule) (l : List Int) : (nrun r l).2.Nodup := by
  induction l using snoc_ind with
  | h0 => exact List.nodup_nil
  | h1 l x ih =>
    rw [nrun_snoc]
    unfold nst
    show (if bk r x ∈ (nrun r l).2 then (nrun r l).2 else (nrun r l).2 ++ [bk r x]).Nodup
    by_cases c : bk r x ∈ (nrun r l).2
    · rw [if_pos c]
      exact ih
    · rw [if_neg c]
      refine List.nodup_append.mpr ⟨ih, by simp, fun a ha b hb e => ?_⟩
      have e2 : b = bk r x := by simpa using hb
      rw [e, e2] at ha
      exact c ha
theorem len_seen (r : Rule) (l : List Int) : (nrun r l).2.length ≤ l.length := by
  induction l using snoc_ind with
  | h0 => simp [nrun]
  | h1 l x ih =>
    rw [nrun_snoc]
    unfold nst
    show (if bk r x ∈ (nrun r l).2 then (nrun r l).2 else (nrun r l).2 ++ [bk r x]).length ≤ _
    by_cases c : bk r x ∈ (nrun r l).2
    · rw [if_pos c, List.length_append]
      exact Nat.le_trans ih (Nat.le_add_right _ _)
    · rw [if_neg c, List.length_append, List.length_append]
      simp only [List.length_cons, List.length_nil]
      omega
/-- what is found is as many as the buckets seen, at most the count -/
theorem len_found {r : Rule} (hc : 0 ≤ r.2.2) (l : List Int) : (((nrun r l).1.length : Nat) : Int) = min (((nrun r l).2.length : Nat) : Int) r.2.2 := by
  induction l using snoc_ind with
  | h0 =>
    show ((0 : Nat) : Int) = min ((0 : Nat) : Int) r.2.2
    omega
  | h1 l x ih =>
    rw [nrun_snoc]
    unfold nst
    show (((if bk r x ∉ (nrun r l).2 ∧ (((nrun r l).2.length : Nat) : Int) < r.2.2 then (nrun r l).1 ++ [x] else (nrun r l).1).length : Nat) : Int) = min (((if bk r x ∈ (nrun r l).2 then (nrun r l).2 else (nrun r l).2 ++ [bk r x]).length : Nat) : Int) r.2.2
    by_cases c : bk r x ∈ (nrun r l).2
    · rw [if_pos c, if_neg (by simp [c])]
      exact ih
    · rw [if_neg c]
      by_cases c2 : (((nrun r l).2.length : Nat) : Int) < r.2.2
      · rw [if_pos ⟨c, c2⟩, List.length_append, List.length_append]
        simp only [List.length_cons, List.length_nil]
        omega
      · rw [if_neg (by simp [c2]), List.length_append]
        simp only [List.length_cons, List.length_nil]
        omega
theorem found_lt {r : Rule} (hc : 0 ≤ r.2.2) (l : List Int) : ((((nrun r l).1.length : Nat) : Int) < r.2.2) ↔ ((((nrun r l).2.length : Nat) : Int) < r.2.2) := by
  rw [len_found hc l]
  omega
/-- on descending times a bucket was seen if and only if it was the last one -/
theorem seen_last {r : Rule} (hp : 0 < r.1) {l : List Int} {t : Int} (hd : (l ++ [t]).Pairwise (· > ·)) : bk r t ∈ (nrun r l).2 ↔ l.getLast?.map (bk r) = some (bk r t) := by
  obtain ⟨h1, _, h3⟩ := List.pairwise_append.mp hd
  rw [mem_seen]
  constructor
  · rintro ⟨u, hu, e⟩
    rcases List.eq_nil_or_concat l with e0 | ⟨m, v, e0⟩
    · rw [e0] at hu
      cases hu
    · rw [List.concat_eq_append] at e0
      subst e0
      rw [List.getLast?_append]
      show some (bk r v) = some (bk r t)
      have hv : v > t := h3 v (by simp) t (by simp)
      have hvu : v ≤ u := by
        rcases List.mem_append.mp hu with hu | hu
        · have := (List.pairwise_append.mp h1).2.2 u hu v (by simp)
          omega
        · have e2 : u = v := by simpa using hu
          omega
      have a1 := bk_mono hp (Int.le_of_lt hv)
      have a2 := bk_mono hp hvu
      rw [e] at a2
      exact congrArg some (Int.le_antisymm a2 a1)
  · intro h
    obtain ⟨v, hv, e⟩ := Option.map_eq_some_iff.mp h
    exact ⟨v, List.mem_of_getLast? hv, e⟩
theorem found_sub (r : Rule) (l : List Int) : ∀ x, x ∈ (nrun r l).1 → x ∈ l := by
  induction l using snoc_ind with
  | h0 => simp [nrun]
  | h1 l y ih =>
    intro x hx
    rw [nrun_snoc] at hx
    unfold nst at hx
    have hx : x ∈ (if bk r y ∉ (nrun r l).2 ∧ (((nrun r l).2.length : Nat) : Int) < r.2.2 then (nrun r l).1 ++ [y] else (nrun r l).1) := hx
    split at hx
    · rcases List.mem_append.mp hx with h | h
      · exact List.mem_append_left _ (ih x h)
      · exact List.mem_append_right _ h
    · exact List.mem_append_left _ (ih x hx)
/-- what one rule keeps -/
def newest (r : Rule) (s : List Int) : List Int := (nrun r s.reverse).1.reverse
theorem mem_newest {r : Rule} {s : List Int} {x : Int} : x ∈ newest r s ↔ x ∈ (nrun r s.reverse).1 := List.mem_reverse
theorem newest_sub {r : Rule} {s : List Int} {x : Int} (h : x ∈ newest r s) : x ∈ s := List.mem_reverse.mp (found_sub _ _ _ (mem_newest.mp h))
theorem len_newest {r : Rule} (hc : 0 ≤ r.2.2) (s : List Int) : (((newest r s).length : Nat) : Int) ≤ r.2.2 := by
  have := len_found hc s.reverse
  unfold newest
  rw [List.length_reverse]
  omega
/-- what the rules keep -/
def pru (pol : List Rule) (s : List Int) : List Int := uni [] (pol.flatMap fun r => newest r s)
theorem mem_pru {pol : List Rule} {s : List Int} {x : Int} : x ∈ pru pol s ↔ ∃ r ∈ pol, x ∈ newest r s := by
  unfold pru
  rw [mem_uni, List.mem_flatMap]
  simp
theorem asc_pru (pol : List Rule) (s : List Int) : Asc (pru pol s) := asc_uni asc_nil
theorem pru_sub {pol : List Rule} {s : List Int} {x : Int} (h : x ∈ pru pol s) : x ∈ s := by
  obtain ⟨r, _, h2⟩ := mem_pru.mp h
  exact newest_sub h2
theorem pru_of {pol : List Rule} {s l : List Int} (hl : Asc l) (h : ∀ x, x ∈ l ↔ ∃ r ∈ pol, x ∈ newest r s) : l = pru pol s := asc_ext hl (asc_pru _ _) fun x => by rw [h x, mem_pru]
theorem len_sub {a b : List Int} (h : a.Nodup) (hs : ∀ x, x ∈ a → x ∈ b) : a.length ≤ b.length := by
  induction a generalizing b with
  | nil => simp
  | cons x a ih =>
    obtain ⟨h1, h2⟩ := List.nodup_cons.mp h
    have hx := hs x List.mem_cons_self
    have l1 : (b.erase x).length + 1 = b.length := by
      have := List.length_erase_of_mem hx
      have h0 : 0 < b.length := List.length_pos_of_mem hx
      omega
    have l2 : a.length ≤ (b.erase x).length := ih h2 fun y hy => by
      have hne : y ≠ x := fun e => h1 (e ▸ hy)
      exact (List.mem_erase_of_ne hne).mpr (hs y (List.mem_cons_of_mem _ hy))
    simp only [List.length_cons]
    omega
/-! ### policies -/
structure RuleOk (r : Rule) : Prop where
  p1 : 1 ≤ r.1
  p2 : r.1 ≤ 1000000
  o1 : 0 ≤ r.2.1
  o2 : r.2.1 ≤ r.1 - 1
  c1 : 1 ≤ r.2.2
  c2 : r.2.2 ≤ 24
def shLt (a b : Int × Int) : Prop := a.1 < b.1 ∨ (a.1 = b.1 ∧ a.2 < b.2)
structure PolOk (pol : List Rule) : Prop where
  len1 : 1 ≤ pol.length
  len3 : pol.length ≤ 3
  rules : ∀ r ∈ pol, RuleOk r
  asc : (pol.map fun r => (r.1, r.2.1)).Pairwise shLt
/-! ### states -/
structure S4 where
  p : List Int
  f : List Int
  k : List Int
  d : List Int
deriving DecidableEq
def s40 : S4 := ⟨[], [], [], []⟩
/-- good after n calls -/
structure Good (n : Nat) (s : S4) : Prop where
  ap : Asc s.p
  af : Asc s.f
  ak : Asc s.k
  ad : Asc s.d
  fp : ∀ x, x ∈ s.f → x ∈ s.p
  lpf : s.p.length + s.f.length ≤ n
  lk : s.k.length ≤ n
  ld : s.d.length ≤ n
theorem good0 : Good 0 s40 := ⟨asc_nil, asc_nil, asc_nil, asc_nil, fun _ h => h, Nat.le_refl _, Nat.le_refl _, Nat.le_refl _⟩
theorem Good.mono {n m : Nat} {s : S4} (g : Good n s) (h : n ≤ m) : Good m s := ⟨g.ap, g.af, g.ak, g.ad, g.fp, Nat.le_trans g.lpf h, Nat.le_trans g.lk h, Nat.le_trans g.ld h⟩
def out (t : Int) (l : List Int) : List Int := l.filter fun x => !decide (x = t)
def minus (a b : List Int) : List Int := a.filter fun x => !b.contains x
def sAdd (t : Int) (s : S4) : S4 := ⟨uni s.p [t], s.f, uni s.k [t], s.d⟩
def sPrune (pol : List Rule) (s : S4) : S4 := ⟨uni (pru pol s.p) s.f, s.f, s.k, s.d⟩
def sProt (t : Int) (s : S4) : S4 := ⟨s.p, uni s.f [t], s.k, s.d⟩
def sRel (t : Int) (s : S4) : S4 := ⟨s.p, minus s.f [t], s.k, s.d⟩
def sDel (t : Int) (s : S4) : S4 := ⟨minus s.p [t], s.f, s.k, uni s.d [t]⟩
theorem out_minus (t : Int) (l : List Int) : out t l = minus l [t] := by
  unfold out minus
  congr 1
  funext x
  by_cases h : x = t <;> simp [h]
theorem asc_minus {a b : List Int} (h : Asc a) : Asc (minus a b) := h.filter _
theorem mem_minus {a b : List Int} {x : Int} : x ∈ minus a b ↔ x ∈ a ∧ x ∉ b := by
  unfold minus
  rw [List.mem_filter]
  simp
theorem len_minus (a b : List Int) : (minus a b).length ≤ a.length := List.length_filter_le _ _
theorem good_add {n : Nat} {s : S4} (g : Good n s) (t : Int) : Good (n + 1) (sAdd t s) := by
  have l1 := length_uni s.p [t]
  have l2 := length_uni s.k [t]
  simp only [List.length_cons, List.length_nil] at l1 l2
  have h1 := g.lpf
  have h2 := g.lk
  exact ⟨asc_uni g.ap, g.af, asc_uni g.ak, g.ad, fun x hx => mem_uni.mpr (.inl (g.fp x hx)), by show (uni s.p [t]).length + s.f.length ≤ n + 1; omega, by show (uni s.k [t]).length ≤ n + 1; omega, Nat.le_succ_of_le g.ld⟩
theorem good_prune {n : Nat} {s : S4} (pol : List Rule) (g : Good n s) : Good (n + 1) (sPrune pol s) := by
  have l1 : (uni (pru pol s.p) s.f).length ≤ s.p.length := len_sub (asc_uni (asc_pru _ _)).nodup fun x hx => by
    rcases mem_uni.mp hx with h | h
    · exact pru_sub h
    · exact g.fp x h
  have h1 := g.lpf
  exact ⟨asc_uni (asc_pru _ _), g.af, g.ak, g.ad, fun x hx => mem_uni.mpr (.inr hx), by show (uni (pru pol s.p) s.f).length + s.f.length ≤ n + 1; omega, Nat.le_succ_of_le g.lk, Nat.le_succ_of_le g.ld⟩
theorem good_prot {n : Nat} {s : S4} {t : Int} (g : Good n s) (h : t ∈ s.p) : Good (n + 1) (sProt t s) := by
  have l1 := length_uni s.f [t]
  simp only [List.length_cons, List.length_nil] at l1
  have h1 := g.lpf
  refine ⟨g.ap, asc_uni g.af, g.ak, g.ad, fun x hx => ?_, by show s.p.length + (uni s.f [t]).length ≤ n + 1; omega, Nat.le_succ_of_le g.lk, Nat.le_succ_of_le g.ld⟩
  rcases mem_uni.mp hx with hx | hx
  · exact g.fp x hx
  · have e : x = t := by simpa using hx
    rw [e]
    exact h
theorem good_rel {n : Nat} {s : S4} {t : Int} (g : Good n s) : Good (n + 1) (sRel t s) := by
  have l1 := len_minus s.f [t]
  have h1 := g.lpf
  exact ⟨g.ap, asc_minus g.af, g.ak, g.ad, fun x hx => g.fp x (mem_minus.mp hx).1, by show s.p.length + (minus s.f [t]).length ≤ n + 1; omega, Nat.le_succ_of_le g.lk, Nat.le_succ_of_le g.ld⟩
theorem good_del {n : Nat} {s : S4} {t : Int} (g : Good n s) (h : t ∉ s.f) : Good (n + 1) (sDel t s) := by
  have l1 := len_minus s.p [t]
  have l2 := length_uni s.d [t]
  simp only [List.length_cons, List.length_nil] at l2
  have h1 := g.lpf
  have h2 := g.ld
  refine ⟨asc_minus g.ap, g.af, g.ak, asc_uni g.ad, fun x hx => ?_, by show (minus s.p [t]).length + s.f.length ≤ n + 1; omega, Nat.le_succ_of_le g.lk, by show (uni s.d [t]).length ≤ n + 1; omega⟩
  refine mem_minus.mpr ⟨g.fp x hx, fun e => ?_⟩
  have e2 : x = t := by simpa using e
  rw [e2] at hx
  exact h hx
end K19

set_option Elab.async false
set_option linter.all false
set_option maxRecDepth 100000
set_option maxHeartbeats 4000000
/-! where an exception is handled: iterators that end, tuples unpacked, a comprehension over zip, a def called with the handled exception -/
namespace K19
open PySem PySem.Spec PyProof.Rows L2 L2H HotX
section
variable {prog : Program} {w : World} {A : Around} {E : Value → Shared → Prop} {s : Shared}
/-- an iterator's end, told by an exception while another one is handled -/
theorem stop_hot {α : Type} {x1 : Addr} {Q : α → Shared → Prop} (hot : HotAt A x1 s.heap)
    (hE : ∀ h' e, (∀ b o, s.heap.get? b = some o → h'.get? b = some o) → (∃ o, h'.get? e = some o ∧ o.cls = .type "StopIteration") → E (.ref e) { s with heap := h' }) :
    wpAny (model prog w) A ((newExc (.type "StopIteration") [] >>= fun e => raiseNew e) : Sem α) Q E s := by
  obtain ⟨hh, o1, vs1, h1, d1, c1⟩ := hot
  refine wpAny_bind ?_
  simp only [newExc, newTuple]
  refine wpAny_bind (wpAny_newObj_type ?_ (by size_fits))
  refine wpAny_bind (m := firstArgMember _ _) (wpAny_of_eq (a := Value.none) (by first | rfl | (simp only [firstArgMember]; rfl)) ?_)
  refine wpAny_newObj_type ?_ (by size_fits)
  refine raiseNew_hot ⟨hh, o1, vs1, Heap.get?_push_of_some _ (Heap.get?_push_of_some _ h1), d1, c1⟩ (Nat.ne_of_lt (Heap.lt_size (Heap.get?_push_of_some _ h1))) (Heap.get?_push_size _ rfl) rfl (by first | (simp; done) | (simp; omega) | (simp only [Array.size_append]; simp; omega)) ?_
  refine hE _ _ (fun b o e => ?_) ⟨_, Heap.get?_update_self _ (Heap.get?_push_size _ rfl) rfl, rfl⟩
  rw [Heap.get?_update_other _ _ (Nat.ne_of_gt (Heap.lt_size (Heap.get?_push_of_some _ e)))]
  exact Heap.get?_push_of_some _ (Heap.get?_push_of_some _ e)
theorem HotAt.in1 {x1 : Addr} {h : Heap} (c : HotAt A x1 h) : HotAt A.in1 x1 h := c
theorem HotAt.kept {x1 : Addr} {h h' : Heap} (c : HotAt A x1 h) (k : ∀ o, h.get? x1 = some o → h'.get? x1 = some o) : HotAt A x1 h' :=
  let ⟨hh, o, vs, a, b, d⟩ := c
  ⟨hh, o, vs, k o a, b, d⟩
/-- the handled exception is no record of another shape -/
theorem HotAt.ne {x1 b : Addr} {h : Heap} {o : Obj} {vs : Array Value} (c : HotAt A x1 h) (hb : h.get? b = some o) (hd : o.data = .fields vs) (h2 : vs[2]? ≠ some .none) : x1 ≠ b := by
  obtain ⟨_, o1, vs1, e1, d1, c1⟩ := c
  intro z
  rw [z, hb] at e1
  cases e1
  rw [hd] at d1
  cases d1
  exact h2 c1
theorem nextOf_list_end_hot {it l x1 : Addr} {i : Nat} {items} {Q : Value → Shared → Prop} (hot : HotAt A x1 s.heap) (hit : s.heap.IsListIter it l i) (hl : s.heap.IsList l items) (hx : items[i]? = none)
    (hE : ∀ h' e, Heap.ExtBut it s.heap h' → (∃ o, h'.get? e = some o ∧ o.cls = .type "StopIteration") → E (.ref e) { s with heap := h' }) :
    wpAny (model prog w) A (Builtin.SmallTypes.nextOf (.ref it)) Q E s := by
  obtain ⟨o, ho, hc, hd⟩ := id hit
  obtain ⟨ol, hol, _, nl, hdl⟩ := hl
  have hne : x1 ≠ it := HotAt.ne hot ho hd (by simp)
  unfold Builtin.SmallTypes.nextOf
  refine wpAny_bind (wpAny_callSpecial?_slot (name := Str.ofString "__next__") hit.typeIs slot_listiter_next
    (wpAny_call_entry slot_listiter_next hit.typeIs entry_listiter_next ?_ (args_listiter_next _)))
  show wpAny _ _ (field (.ref it) 0 >>= _) _ _ s
  refine wpAny_bind (wpAny_field ho hd (x := .ref l) rfl ?_)
  show wpAny _ _ (if (Value.ref l == Value.none) = true then _ else _) _ _ s
  rw [if_neg (show ¬ ((Value.ref l == Value.none) = true) from Bool.false_ne_true)]
  show wpAny _ _ (field (.ref it) 1 >>= _) _ _ s
  refine wpAny_bind (wpAny_field ho hd (x := .int i 0) rfl ?_)
  show wpAny _ _ (seqItems? (.ref l) >>= _) _ _ s
  refine wpAny_bind (wpAny_seqItems hol hdl ?_)
  simp only [Int.toNat_natCast, hx]
  refine wpAny_bind (wpAny_rule (wpAny_bind (wpAny_setField ho hd (by simp) ?_)))
  refine stop_hot (x1 := x1) (HotAt.kept (HotAt.in1 hot) fun q hq => ?_) fun h' e k he => ?_
  · exact (Heap.get?_update_other _ _ (Ne.symm hne)).trans hq
  · exact hE _ _ (fun b q hb hq => k b q ((Heap.get?_update_other _ _ (Ne.symm hb)).trans hq)) he
theorem pyNext_zip_end_hot {z TI TO i1 i2 l1 l2 x1 : Addr} {k1 k2 : Nat} {xs : Array Value} {a b : Value} {Q : Option Value → Shared → Prop} (hot : HotAt A x1 s.heap) (D : ZipApart z TI TO i1 i2 l1 l2)
    (hz : IsZip s.heap z TI TO .none) (hTI : IsPair s.heap TI (.ref i1) (.ref i2)) (hTO : IsPair s.heap TO a b)
    (h1 : s.heap.IsListIter i1 l1 k1) (h2 : s.heap.IsListIter i2 l2 k2) (hl1 : s.heap.IsList l1 xs) (hx : xs[k1]? = none)
    (hQ : ∀ h', (∀ c o, c ≠ z → c ≠ i1 → s.heap.get? c = some o → h'.get? c = some o) → Q none { s with heap := h' }) : wpAny (model prog w) A (pyNext (.ref z)) Q E s := by
  have hT : s.TypeIs (.ref z) "zip" := ⟨_, hz, rfl⟩
  have hne : x1 ≠ z := HotAt.ne hot hz rfl (by simp)
  unfold pyNext
  refine wpAny_bind (wpAny_attempt (wpAny_callSpecial?_slot (name := Str.ofString "__next__") hT F.slot_zip_next
    (wpAny_call_entry F.slot_zip_next hT F.entry_zip_next ?_ (F.args_zip_next_1 _))))
  show wpAny _ _ (field (.ref z) 2 >>= _) _ _ _
  refine wpAny_bind (wpAny_field hz rfl (x := .bool false) rfl ?_)
  show wpAny _ _ (field (.ref z) 3 >>= _) _ _ _
  refine wpAny_bind (wpAny_field hz rfl (x := .ref TI) rfl ?_)
  refine wpAny_bind (wpAny_seqItems hTI rfl ?_)
  show wpAny _ _ (Builtin.SmallTypes.ownedTupleIsFree (.ref z) >>= _) _ _ _
  refine wpAny_bind ?_
  unfold Builtin.SmallTypes.ownedTupleIsFree
  refine wpAny_bind (wpAny_field hz rfl (x := .none) rfl (wpAny_pure ?_))
  simp only [if_true]
  refine wpAny_bind (wpAny_rule ?_)
  refine wpAny_bind (wpAny_field hz rfl (x := .ref TO) rfl ?_)
  refine wpAny_bind (wpAny_setField_rec hz (by simp) fun h₁ hz₁ hs₁ => ?_)
  replace hz₁ : IsZip h₁ z TI TO .ellipsis := hz₁
  refine wpAny_bind ?_
  simp only [List.zipIdx_cons, List.zipIdx_nil, List.forIn_cons, List.forIn_nil]
  refine wpAny_bind (wpAny_bind (wpAny_onRaise ?_))
  show wpAny _ _ (Builtin.SmallTypes.nextOf (.ref i1) >>= _) _ _ _
  have hot1 : HotAt A.in1 x1 h₁ := HotAt.kept (HotAt.in1 hot) fun q hq => hs₁.extBut _ _ hne hq
  refine wpAny_bind (nextOf_list_end_hot hot1 (h1.extBut hs₁.extBut D.i1z) (hl1.extBut hs₁.extBut D.l1z) hx fun h₂ e hs₂ he => ?_)
  obtain ⟨oe, hoe, hce⟩ := he
  have hz₂ : IsZip h₂ z TI TO .ellipsis := hs₂ _ _ D.i1z.symm hz₁
  have hez : e ≠ z := fun x => by subst x; rw [hz₂] at hoe; cases hoe; simp at hce
  refine wpAny_setField_rec hz₂ (by simp) fun h₃ _ hs₃ => ?_
  refine wpAny_bind (wpAny_isInstance (T := "StopIteration") (b := true) ⟨oe, hs₃.extBut _ _ hez hoe, hce⟩ isSubtype_stop ?_)
  exact wpAny_pure (hQ _ fun c o c1 c3 x => hs₃.extBut _ _ c1 (hs₂ _ _ c3 (hs₁.extBut _ _ c1 x)))
theorem next_tuple_end_hot {it t x1 : Addr} {i : Nat} {items} {Q : Option Value → Shared → Prop} (hot : HotAt A x1 s.heap)
    (hit : IsTupIter s.heap it t i) (ht : IsTup s.heap t items) (hx : items[i]? = none)
    (hQ : ∀ h', Heap.ExtBut it s.heap h' → Q none { s with heap := h' }) : wpAny (model prog w) A (pyNext (.ref it)) Q E s := by
  obtain ⟨o, ho, hc, hd⟩ := id hit
  obtain ⟨ol, hol, _, nl, hdl⟩ := ht
  have hne : x1 ≠ it := HotAt.ne hot ho hd (by simp)
  unfold pyNext
  refine wpAny_bind (wpAny_attempt (wpAny_callSpecial?_slot (name := Str.ofString "__next__") hit.typeIs slot_tupleiter_next
    (wpAny_call_entry slot_tupleiter_next hit.typeIs entry_tupleiter_next ?_ (args_tupleiter_next _))))
  show wpAny _ _ (field (.ref it) 0 >>= _) _ _ s
  refine wpAny_bind (wpAny_field ho hd (x := .ref t) rfl ?_)
  show wpAny _ _ (if (Value.ref t == Value.none) = true then _ else _) _ _ s
  rw [if_neg (show ¬ ((Value.ref t == Value.none) = true) from Bool.false_ne_true)]
  show wpAny _ _ (field (.ref it) 1 >>= _) _ _ s
  refine wpAny_bind (wpAny_field ho hd (x := .int i 0) rfl ?_)
  show wpAny _ _ (seqItems? (.ref t) >>= _) _ _ s
  refine wpAny_bind (wpAny_seqItems hol hdl ?_)
  simp only [Int.toNat_natCast, hx]
  refine wpAny_bind (wpAny_rule (wpAny_bind (wpAny_setField ho hd (by simp) ?_)))
  refine stop_hot (x1 := x1) (HotAt.kept (HotAt.in1 hot) fun q hq => ?_) fun h' e k he => ?_
  · exact (Heap.get?_update_other _ _ (Ne.symm hne)).trans hq
  · obtain ⟨oe, hoe, hce⟩ := he
    refine wpAny_bind (wpAny_isInstance (T := "StopIteration") (b := true) ⟨oe, hoe, hce⟩ isSubtype_stop ?_)
    exact wpAny_pure (hQ _ fun b q hb hq => k b q ((Heap.get?_update_other _ _ (Ne.symm hb)).trans hq))
theorem assign_tuple_hot {env : Env} {elts : List Expr} {x0} {pos : Pos} {t x1 : Addr} {items : Array Value} {Q : Unit → Shared → Prop} (hot : HotAt A x1 s.heap) (ht : IsTup s.heap t items)
    (hn : (assignEach elts env).length = items.size) (hstar : (assignEach elts env).findIdx? (·.1) = none)
    (h : ∀ h', Heap.ExtBut s.heap.objs.size s.heap h' → wpAny (model prog w) A (assignInOrder ((assignEach elts env).map (·.2)) items.toList) Q E { s with heap := h' }) :
    wpAny (model prog w) A (assign (.Tuple elts x0 pos) env (.ref t)) Q E s := by
  have hlt : t ≠ s.heap.objs.size := by obtain ⟨o, ho, _⟩ := ht; exact Nat.ne_of_lt (Heap.lt_size ho)
  have hxl : x1 ≠ s.heap.objs.size := by obtain ⟨_, o, _, ho, _⟩ := hot; exact Nat.ne_of_lt (Heap.lt_size ho)
  rw [assign_Tuple]
  refine wpAny_bind (wpAny_standAt ?_)
  unfold unpack
  rw [hn, hstar]
  refine wpAny_bind (wpAny_holding ?_)
  unfold unpackItems
  refine wpAny_bind ?_
  unfold notIterableAtAll
  refine wpAny_bind (wpAny_specialOf ht.typeIs slot_tuple_iter.lookup ?_)
  refine wpAny_pure ?_
  simp only [Bool.false_eq_true, if_false]
  refine wpAny_bind (wpAny_holding (iter_tuple ht ?_))
  refine wpAny_bind (wpAny_holding (draw_tuple hlt items.size 0 _ _ ⟨_, Heap.get?_push_size _ rfl, rfl, rfl⟩ (ht.push _) (by omega) fun h₁ hit₁ hs₁ => ?_))
  have hall : List.take items.size (List.drop 0 items.toList) = items.toList := by
    rw [List.drop_zero]; exact List.take_of_length_le (by simp)
  rw [hall]
  rw [if_neg (by simp)]
  have ht₁ : IsTup h₁ t items := (ht.push _).extBut hs₁.extBut hlt
  have hot₁ : HotAt A x1 h₁ := HotAt.kept hot fun q hq => hs₁.extBut _ _ hxl (Heap.get?_push_of_some _ hq)
  refine wpAny_bind (wpAny_holding (next_tuple_end_hot hot₁ hit₁ ht₁ (by simp) fun h₂ he₂ => ?_))
  simp only [Option.isSome_none, Bool.false_eq_true, if_false]
  exact wpAny_pure (h h₂ fun b o hb e => he₂ b o hb (hs₁.extBut b o hb (Heap.get?_push_of_some _ e)))
end
/-- (a, b, ..) = a tuple, where an exception is handled -/
theorem pg_tupH {X : Cx} {pos : Pos} {es : List Expr} {k : Nat} {t : TGs} {n : Nat} (hc : HotC X) (h : PGs X es t)
    (hn : (assignEach es X.env).length = n := by rfl) (hst : (assignEach es X.env).findIdx? (·.1) = none := by rfl) : PG X (.Tuple es k pos) (gTup X.K n t) := by
  refine ⟨fun pins s σ H v u Q I r hw => ?_⟩
  obtain ⟨a, xs, e1, hq, hl, hw⟩ := hw
  subst e1
  cases r
  obtain ⟨its, rv, ht, hz⟩ := I.tuple hq
  obtain ⟨x1, hot⟩ := hc.at I
  refine assign_tuple_hot hot ht (by simp [hn, ← hl, rv.length]) hst fun h' hx => ?_
  have I1 : Inv X pins σ H { s with heap := h' } := I.kept (t' := s.toks) fun b o e => hx b o (Nat.ne_of_lt (Heap.lt_size e)) e
  exact h.run pins _ σ H xs _ Q I1 (by simpa using rv) hw
/-- the lists at a and b, the first one ends first -/
def ItzH (K : PySem.W.Frag) (a b : Addr) : It := ⟨(Itz K a b).go, (Itz K a b).yld, fun i H => ∃ xs ys : List V, SqL K H a xs ∧ SqL K H b ys ∧ xs.length ≤ i⟩
theorem turn_zipH {P : Program} {w : World} {K : PySem.W.Frag} {elts : List Expr} {kk : Nat} {tpos : Pos} {a b z TI TO i1 i2 : Addr} (D : ZipApart z TI TO i1 i2 a b) :
    TurnH P w K (.Tuple elts kk tpos) (ItzH K a b) [z, TI, TO, i1, i2] z (fun i h => IsZip h z TI TO .none ∧ IsPair h TI (.ref i1) (.ref i2) ∧ (∃ x y, IsPair h TO x y) ∧ h.IsListIter i1 a i ∧ h.IsListIter i2 b i) where
  mem := (turn_zip (P := P) (w := w) (K := K) (elts := elts) (kk := kk) (tpos := tpos) D).mem
  obj := (turn_zip (P := P) (w := w) (K := K) (elts := elts) (kk := kk) (tpos := tpos) D).obj
  keep := (turn_zip (P := P) (w := w) (K := K) (elts := elts) (kk := kk) (tpos := tpos) D).keep
  item := by
    intro X hP hw hK hc i pins s σ H E I hf st hg
    subst hP hw hK
    obtain ⟨hz, hTI, ⟨x0, y0, hTO⟩, h1, h2⟩ := st
    obtain ⟨xs, ys, x, y, hqx, hqy, hx, hy⟩ := hg
    obtain ⟨its, rv, p, _⟩ := I.list hqx
    obtain ⟨its2, rv2, p2, _⟩ := I.list hqy
    obtain ⟨u, hu, ru⟩ := rv.get hx
    obtain ⟨u2, hu2, ru2⟩ := rv2.get hy
    have hzl : z < s.heap.objs.size := Heap.lt_size hz
    refine wpAny_pyNext_zip_item D hz hTI hTO h1 h2 p.isList p2.isList (x := u) (y := u2) (by simpa using hu) (by simpa using hu2) fun h' z' TO' h1' h2' hT hsz hk => ?_
    refine ⟨_, rfl, wpAny_letOwnedTupleGo_zip (s := { s with heap := h' }) z' fun h'' z'' sb => ?_⟩
    have hT2 : h''.get? s.heap.objs.size = some { cls := .type "tuple", data := .seq #[u, u2] } := (sb.2 _ (Nat.ne_of_gt hzl)).trans hT
    have new : ObjOk X.prog X.w (upd H s.heap.objs.size (.tup [x, y])) h'' s.heap.objs.size (.tup [x, y]) :=
      ⟨by show 2 ≤ sizeLine; decide, [u, u2], .cons ru (.cons ru2 .nil), ⟨_, hT2, rfl, _, rfl⟩⟩
    have I1 : Inv X pins σ (upd H s.heap.objs.size (.tup [x, y])) { s with heap := h'' } :=
      I.turnedNew (t' := s.toks) (ch := [z, TI, TO, i1, i2]) (fun c o hb q => (sb.2 c (fun q' => hb (by simp [q']))).trans (hk c o (fun q' => hb (by simp [q'])) (fun q' => hb (by simp [q'])) (fun q' => hb (by simp [q'])) (fun q' => hb (by simp [q'])) q)) hf (Nat.le_refl _) new
    refine ⟨.ref s.heap.objs.size, _, I1, rfl, ⟨_, x, y, rfl, I.hok.fresh (Nat.le_refl _), rfl, fun l hl => by rw [I.list_inj hl hqx]; exact hx, fun l hl => by rw [I.list_inj hl hqy]; exact hy⟩, ⟨z'', ?_, ⟨u, u2, ?_⟩, ?_, ?_⟩, fun c hcm => ?_⟩
    · exact (sb.2 _ D.TIz).trans (hk _ _ D.TIz D.TITO D.TIi1 D.TIi2 hTI)
    · exact (sb.2 _ D.TOz).trans TO'
    · exact h1'.at fun o q => (sb.2 _ D.i1z).trans q
    · exact h2'.at fun o q => (sb.2 _ D.i2z).trans q
    · have hlt : c < s.heap.objs.size := by
        have e' : c = z ∨ c = TI ∨ c = TO ∨ c = i1 ∨ c = i2 := by simpa using hcm
        rcases e' with q | q | q | q | q
        · rw [q]; exact hzl
        · rw [q]; exact Heap.lt_size hTI
        · rw [q]; exact Heap.lt_size hTO
        · rw [q]; obtain ⟨_, e1, _⟩ := h1; exact Heap.lt_size e1
        · rw [q]; obtain ⟨_, e2, _⟩ := h2; exact Heap.lt_size e2
      rw [upd_ne (Nat.ne_of_lt hlt)]
      exact (hf c hcm).1
  done := by
    intro X hP hw hK hc i pins s σ H E I hf st hg
    subst hP hw hK
    obtain ⟨hz, hTI, ⟨x0, y0, hTO⟩, h1, h2⟩ := st
    obtain ⟨xs, ys, hqx, hqy, hend⟩ := hg
    obtain ⟨its, rv, p, _⟩ := I.list hqx
    have l1 := rv.length
    obtain ⟨x1, hot⟩ := hc.at I
    exact pyNext_zip_end_hot hot D hz hTI hTO h1 h2 p.isList (by simp; omega) fun h' hk => ⟨rfl, I.turnedL (t' := s.toks) (ch := [z, TI, TO, i1, i2]) (fun c o hb q =>
      hk c o (fun q' => hb (by simp [q'])) (fun q' => hb (by simp [q'])) q) hf⟩
  self := (turn_zip (P := P) (w := w) (K := K) (elts := elts) (kk := kk) (tpos := tpos) D).self
def iZipH (K : PySem.W.Frag) (ta : TA) : TI := fun σ H R => ta σ H fun vs H1 => ∃ a b xs ys, vs = [.ref a, .ref b] ∧ SqL K H1 a xs ∧ SqL K H1 b ys ∧ R (ItzH K a b) H1
theorem pi_zipH {X : Cx} {e e2 : Expr} {ta : TA} {p pos tpos : Pos} {elts : List Expr} {kk : Nat} (hg : Gl X "zip") (hm : X.mg "zip" = none) (ha : PA X [e, e2] ta)
    (hs : starEach [e, e2] X.env = (false, eval e X.env) :: starEach [e2] X.env := by rfl) (hpl : (backTo pos (starEach [e2] X.env)).any (·.1) = false := by rfl) :
    PIH X (.Tuple elts kk tpos) (.Call (.Name "zip" p) [e, e2] [] pos) (iZipH X.K ta) := by
  refine ⟨fun pins s σ H R I h => ?_⟩
  refine Call_ (ld_blt I hg hm PyProof.Rows.boot_zip (PyProof.Rows.callWith_type1 (thn (ha.run pos pins s σ H _ I h) fun us s1 ⟨vs, H1, I1, r1, q1⟩ => ?_) hs hpl))
  obtain ⟨a, b, xs, ys, ex, hqx, hqy, q⟩ := q1
  subst ex
  obtain ⟨u1, u2, rfl, ra, rb⟩ := vals2 r1
  cases (show u1 = Value.ref a from ra)
  cases (show u2 = Value.ref b from rb)
  obtain ⟨its, rv, p1, _⟩ := I1.list hqx
  obtain ⟨its2, rv2, p2, _⟩ := I1.list hqy
  refine call_zip_2 p1.isList p2.isList fun h' hz hTI hTO h1 h2 hsz hk => wpAny_pyIter_zip hz ?_
  have I2 : Inv X pins σ H1 { s1 with heap := h' } := I1.kept (t' := s1.toks) hk
  refine ⟨s1.heap.objs.size + 4, [s1.heap.objs.size + 4, s1.heap.objs.size + 2, s1.heap.objs.size + 3, s1.heap.objs.size, s1.heap.objs.size + 1], _, _, H1, rfl, I2, turn_zipH (PySem.W.ktu_apart s1.heap.objs.size a b p1.lt p2.lt), ⟨hz, hTI, ⟨_, _, hTO⟩, h1, h2⟩, fun c hcm => ?_, q⟩
  have e' : c = s1.heap.objs.size + 4 ∨ c = s1.heap.objs.size + 2 ∨ c = s1.heap.objs.size + 3 ∨ c = s1.heap.objs.size ∨ c = s1.heap.objs.size + 1 := by simpa using hcm
  have hle : s1.heap.objs.size ≤ c := by
    rcases e' with z | z | z | z | z
    · rw [z]; exact Nat.le_add_right _ _
    · rw [z]; exact Nat.le_add_right _ _
    · rw [z]; exact Nat.le_add_right _ _
    · rw [z]; exact Nat.le_refl _
    · rw [z]; exact Nat.le_add_right _ _
  exact I1.fpOk hle (I1.hok.fresh hle)
/-! ### a comprehension where an exception is handled -/
/-- the block's context, bearing the handled exception -/
abbrev blkH (X : Cx) (p : Addr × Obj) (s : Shared) (H : Hp) (scope : Scope) (cenv : Env) (fp : List Addr) : Cx := { X.blk s H scope cenv fp with pn := [p] }
theorem inv_pn {X : Cx} {p : Addr × Obj} {pins : List (Addr × Obj)} {σ : L2.St} {H : Hp} {s : Shared} (I : Inv X (p :: pins) σ H s) (e : X.pn = []) : Inv { X with pn := [p] } pins σ H s :=
  ⟨⟨I.ok.mod, I.ok.kind, I.ok.glob, I.ok.blt, I.ok.above, I.ok.inj, I.ok.has, I.ok.cab, I.ok.hd, I.ok.frames, I.ok.stk, I.ok.exf, I.ok.bs, I.ok.bsz, I.ok.noex, I.ok.exfs, I.ok.funs, I.ok.frf⟩, I.os, I.bare, I.base, I.loc, I.cell, I.free, I.freeC, fun q hq => I.pin q (by rw [e]; exact hq), I.hok, I.len⟩
theorem lc_coreH {X : Cx} {p : Addr × Obj} {pins : List (Addr × Obj)} {s : Shared} {σ : L2.St} {H : Hp} {Q : VK} {elt tg iter : Expr} {ifs : List Expr} {scope : Scope} {own : List (Str × Nat)} {pos pos' : Pos} {wi : TI} {g : TG} {tt : TT} {te : TE} {use : Option (Value → Sem Unit)} {Qf : Value → Shared → Prop}
    (hot : Hot1 X.A p) (hp : p ∈ X.pn) (hN : X.N.Nodup) (I : Inv X pins σ H s) (hi : PIH X tg iter wi) (ok : BlkOk X.N X.env.scope scope own)
    (hg : ∀ (s : Shared) (H : Hp) (C : Addr) (cl : List (Str × Addr)) (fp : List Addr), PG (blkH X p s H scope (compEnvC scope cl C X.env) fp) tg g) (ht : ∀ (s : Shared) (H : Hp) (C : Addr) (cl : List (Str × Addr)) (fp : List Addr), PTs (blkH X p s H scope (compEnvC scope cl C X.env) fp) ifs tt)
    (he : ∀ (s : Shared) (H : Hp) (C : Addr) (cl : List (Str × Addr)) (fp : List Addr), PE (blkH X p s H scope (compEnvC scope cl C X.env) fp) elt te) (hs : ∀ x, foldedSetIterable iter X.env x = pure x)
    (h : tLc wi g tt te (own.map (·.2)) σ H Q)
    (hRR : ∀ D C s' m H', Inv X pins σ H' s' → Q (.ref D) H' → s'.heap.Ns C m → FpOk X pins H' C → compPost (model X.prog X.w) X.A X.xe use Qf (.ref D) C (.ok .next) s') :
    wpAny (model X.prog X.w) X.A (comprehension (.ListComp elt [⟨tg, iter, ifs, 0⟩] scope pos) scope X.env pos' (newList []) false (eval iter X.env) use) Qf X.xe s := by
  have hfree : ∀ y ∈ scope.names, y.2 = .free → ∃ c, X.env.cells.lookup y.1 = some c := fun y hy e => by
    rcases ok.free y hy e with k | k
    · exact I.ok.has _ (.inl k)
    · exact I.ok.has _ (.inr k)
  refine wpAny_comprehension_free (use := use) rfl hs (closure_ok hfree) ok.kind (fun y hy e => by rw [ok.uniq y hy, e])
    (thn (hi.run pins s σ H _ I h) fun xv s1 hx => thn hx fun itv s2 h2 => ?_)
  obtain ⟨it, fp, tn, J, H2, e, I2, T, st2, f2, q⟩ := h2
  subst e
  refine wpAny_newObj_type (newEnv_comp ?_) (by show 0 ≤ sizeLine; decide)
  generalize hD : s2.heap.objs.size = D
  have hDn : H2 D = none := I2.hok.fresh (Nat.le_of_eq hD)
  obtain ⟨W, ⟨m0, w0⟩, turn⟩ := q D hDn
  generalize hs3 : ({ s2 with heap := s2.heap.push { cls := .type "list", data := .seq ([] : List Value).toArray } } : Shared) = s3
  have I3 : Inv X pins σ (upd H2 D (.lst [])) s3 := by
    rw [← hs3]
    refine I2.laid (t' := s2.toks) (fun b o e => Heap.get?_push_of_some _ e) (Nat.le_of_eq hD) ⟨Nat.zero_le _, [], 0, .nil, ?_⟩
    rw [← hD]
    exact Heap.get?_push_size _ rfl
  have h3 : s3.heap = s2.heap.push { cls := .type "list", data := .seq ([] : List Value).toArray } := by rw [← hs3]
  have f3 : ∀ b ∈ fp, FpOk X pins (upd H2 D (.lst [])) b ∧ b < s3.heap.objs.size := fun b hb => by
    obtain ⟨o, e, _⟩ := T.obj _ _ st2 b hb
    have hlt := Heap.lt_size e
    refine ⟨⟨?_, (f2 b hb).2⟩, by rw [h3, Heap.size_push]; exact Nat.lt_succ_of_lt hlt⟩
    rw [upd_ne (by rw [← hD]; exact Nat.ne_of_lt hlt)]
    exact (f2 b hb).1
  have st3 : tn 0 s3.heap := T.keep _ _ _ st2 fun b _ o e => by rw [h3]; exact Heap.get?_push_of_some _ e
  have P3 := I3.pin p (List.mem_append_left _ hp)
  have I4 : Inv (blkH X p s3 (upd H2 D (.lst [])) scope (compEnvC scope (cellsFrom (s3.heap.objs.size + 1) scope.names (cloFrom X.env.cells scope.names [])) s3.heap.objs.size X.env) fp) [] (wipe σ (own.map (·.2))) (upd H2 D (.lst [])) { s3 with heap := pushCells (s3.heap.push { cls := .type "dict", data := .dict #[] }) scope.names } := by
    refine inv_pn (X := X.blk s3 (upd H2 D (.lst [])) scope (compEnvC scope (cellsFrom (s3.heap.objs.size + 1) scope.names (cloFrom X.env.cells scope.names [])) s3.heap.objs.size X.env) fp) ((block_start I3 ok hN f3).pins_of fun z hz => ?_) rfl
    have ez : z = p := by simpa using hz
    subst ez
    refine ⟨pushCells_keeps _ _ _ _ (Heap.get?_push_of_some _ P3.1), P3.2.1, Nat.ne_of_lt (Heap.lt_size P3.1), fun hm => ?_, P3.2.2.2.2⟩
    rcases List.mem_cons.mp (I3.stkSub _ hm) with e | e
    · exact P3.2.2.1 e
    · exact P3.2.2.2.1 e
  have pg := hg s3 (upd H2 D (.lst [])) s3.heap.objs.size (cellsFrom (s3.heap.objs.size + 1) scope.names (cloFrom X.env.cells scope.names [])) fp
  have pt := ht s3 (upd H2 D (.lst [])) s3.heap.objs.size (cellsFrom (s3.heap.objs.size + 1) scope.names (cloFrom X.env.cells scope.names [])) fp
  have pe := he s3 (upd H2 D (.lst [])) s3.heap.objs.size (cellsFrom (s3.heap.objs.size + 1) scope.names (cloFrom X.env.cells scope.names [])) fp
  show codeAny _ _ (.compStart (.ListComp elt [⟨tg, iter, ifs, 0⟩] scope pos) 0 (.ref it) (.ref D) (compEnvC scope (cellsFrom (s3.heap.objs.size + 1) scope.names (cloFrom X.env.cells scope.names [])) s3.heap.objs.size X.env)) (compPost (model X.prog X.w) X.A X.xe use Qf (.ref D) s3.heap.objs.size) { s3 with heap := pushCells (s3.heap.push { cls := .type "dict", data := .dict #[] }) scope.names }
  have nfp : ∀ b ∈ fp, (upd H2 D (.lst [])) b = none := fun b hb => (f3 b hb).1.1
  generalize hce : compEnvC scope (cellsFrom (s3.heap.objs.size + 1) scope.names (cloFrom X.env.cells scope.names [])) s3.heap.objs.size X.env = ce at I4 pg pt pe ⊢
  have cL : ce.locals = s3.heap.objs.size := by subst hce; rfl
  generalize hH3 : upd H2 D (.lst []) = H3 at I3 I4 pg pt pe w0 nfp f3 P3
  generalize hs4 : ({ s3 with heap := pushCells (s3.heap.push { cls := .type "dict", data := .dict #[] }) scope.names } : Shared) = s4 at I4 ⊢
  have st4 : tn 0 s4.heap := T.keep _ _ _ st3 fun b _ o e => by rw [← hs4]; exact pushCells_keeps _ _ _ _ (Heap.get?_push_of_some _ e)
  have hcB : HotC (blkH X p s3 H3 scope ce fp) := ⟨p, hot, List.mem_cons_self⟩
  have pfp : ∀ b ∈ fp, p.1 ≠ b := fun b hb => (f3 b hb).1.2.2.2.2.2 p (List.mem_append_left _ hp)
  have stat : ∀ {σ' : L2.St} {H' : Hp} {s' : Shared}, Inv (blkH X p s3 H3 scope ce fp) [] σ' H' s' → (∀ b ∈ fp, H' b = none) → ∀ b ∈ fp, FpOk (blkH X p s3 H3 scope ce fp) [] H' b := fun {σ' H' s'} I' hn b hb =>
    ⟨hn b hb, (I'.ok.exf b hb).1, I'.ok.exfs b hb, .inl hb, fun x c e => (I'.ok.exf b hb).2 x c e, fun q hq => by
      have eq : q = p := by simpa using (show q ∈ [p] ++ ([] : List (Addr × Obj)) from hq)
      rw [eq]
      exact pfp b hb⟩
  have loop : codeAny (model X.prog X.w) X.A (.compLoop (.ListComp elt [⟨tg, iter, ifs, 0⟩] scope pos) 0 (.ref it) (.ref D) ce) (compPost (model X.prog X.w) X.A X.xe use Qf (.ref D) s3.heap.objs.size) s4 := by
    refine compLoop_any (fun n s' => ∃ i H', Inv (blkH X p s3 H3 scope ce fp) [] (wipe σ (own.map (·.2))) H' s' ∧ tn i s'.heap ∧ (∀ b ∈ fp, H' b = none) ∧ W i n H') ?_ m0 ⟨0, H3, I4, st4, nfp, w0⟩
    rintro n s5 ⟨i, H5, I5, st5, n5, w5⟩
    rcases turn i n H5 w5 with ⟨stop, qq⟩ | ⟨go, Nx, hNx, step⟩
    · have td := T.done (blkH X p s3 H3 scope ce fp) rfl rfl rfl hcB i [] s5 _ H5 (fun _ _ => False) I5 (stat I5 n5) st5 stop
      refine thnF td fun r s6 ⟨hr, I6⟩ => ?_
      subst hr
      have I7 : Inv X pins σ H5 s6 := I3.call' (ch := fp) I6.os I6.base I6.hok I6.bare fun b hb => ⟨(f3 b hb).1.2.2.2.1, (f3 b hb).1.2.1, (f3 b hb).1.2.2.2.2.1, (f3 b hb).1.2.2.2.2.2⟩
      have nC : H5 s3.heap.objs.size = none := by
        have z : H5 ce.locals = none := I6.free
        rw [cL] at z
        exact z
      obtain ⟨m, hn, _⟩ := I6.loc
      have hn : s6.heap.Ns ce.locals m := hn
      rw [cL] at hn
      exact hRR D s3.heap.objs.size s6 m H5 I7 qq hn (I3.fpOk (Nat.le_refl _) nC)
    · have ti := T.item (blkH X p s3 H3 scope ce fp) rfl rfl rfl hcB i [] s5 _ H5 (fun _ _ => False) I5 (stat I5 n5) st5 go
      refine thnF ti fun r s6 ⟨u, hr, h6⟩ => ?_
      subst hr
      refine thnF h6 fun _ s7 ⟨x, H7, I7, r7, y7, st7, n7⟩ => ?_
      have I7' := I7.pinned (stat I7 n7) (T.obj _ _ st7)
      refine thnF (pg.run _ s7 _ H7 x u _ I7' r7 (step x H7 y7)) fun _ s8 ⟨σ8, H8, I8, hw8, q8⟩ => ?_
      refine thnF (pt.run _ s8 σ8 H8 _ I8 q8) fun b s9 ⟨H9, I9, q9⟩ => ?_
      have fin : ∀ {s' : Shared} {H' : Hp}, Inv (blkH X p s3 H3 scope ce fp) ([] ++ pinsAt fp s7.heap) σ8 H' s' → Nx H' → ∃ m, m < n ∧ ∃ i H', Inv (blkH X p s3 H3 scope ce fp) [] (wipe σ (own.map (·.2))) H' s' ∧ tn i s'.heap ∧ (∀ b ∈ fp, H' b = none) ∧ W i m H' := fun {s' H'} I' nx => by
        obtain ⟨m', hm, w'⟩ := hNx H' nx
        have pin' : ∀ b ∈ fp, ∀ o, s7.heap.get? b = some o → s'.heap.get? b = some o ∧ H' b = none := fun b hb o e =>
          let z := I'.pin (b, o) (List.mem_append_right _ (List.mem_append_right _ (mem_pinsAt hb e)))
          ⟨z.1, z.2.1⟩
        have hl : (wipe σ (own.map (·.2))).length = σ8.length := by rw [← hw8, wipe_length]
        refine ⟨m', hm, i + 1, H', (I'.unpinned (pins := [])).weak hl (fun j v e => ?_), T.keep _ _ _ st7 fun b hb o e => (pin' b hb o e).1, fun b hb => ?_, w'⟩
        · rw [← hw8] at e
          exact (wipe_some e).1
        · obtain ⟨o, e, _⟩ := T.obj _ _ st7 b hb
          exact (pin' b hb o e).2
      cases b with
      | false =>
        simp only [Bool.false_eq_true, if_false] at q9 ⊢
        exact fin I9 q9
      | true =>
        simp only [if_true] at q9 ⊢
        refine thnF (pe.run _ s9 σ8 H9 _ I9 q9) fun z s10 ⟨yv, H10, I10, r10, acc, hD10, hz10, nx⟩ => ?_
        exact app_ok (X := blkH X p s3 H3 scope ce fp) I10 hD10 hz10 r10 fun s11 I11 => fin I11 nx
  exact codeAny_compStart_list loop (T.self X.A 0 _ _ _ st4 loop)
theorem pe_lcH {X : Cx} {p : Addr × Obj} {elt tg iter : Expr} {ifs : List Expr} {scope : Scope} {own : List (Str × Nat)} {pos : Pos} {wi : TI} {g : TG} {tt : TT} {te : TE} (hot : Hot1 X.A p) (hp : p ∈ X.pn) (hN : X.N.Nodup) (hi : PIH X tg iter wi) (ok : BlkOk X.N X.env.scope scope own)
    (hg : ∀ (s : Shared) (H : Hp) (C : Addr) (cl : List (Str × Addr)) (fp : List Addr), PG (blkH X p s H scope (compEnvC scope cl C X.env) fp) tg g) (ht : ∀ (s : Shared) (H : Hp) (C : Addr) (cl : List (Str × Addr)) (fp : List Addr), PTs (blkH X p s H scope (compEnvC scope cl C X.env) fp) ifs tt)
    (he : ∀ (s : Shared) (H : Hp) (C : Addr) (cl : List (Str × Addr)) (fp : List Addr), PE (blkH X p s H scope (compEnvC scope cl C X.env) fp) elt te) (hs : ∀ x, foldedSetIterable iter X.env x = pure x := by intro _; rfl) :
    PE X (.ListComp elt [⟨tg, iter, ifs, 0⟩] scope pos) (tLc wi g tt te (own.map (·.2))) := by
  refine ⟨fun pins s σ H Q I h => ?_⟩
  rw [eval_ListComp]
  refine lc_coreH hot hp hN I hi ok hg ht he hs h fun D C s' m H' I' q hn f => ⟨m, hn, fun h'' sb => ?_⟩
  obtain ⟨f0, f1, f2, f3, f4, f5⟩ := f
  exact ⟨.ref D, H', I'.turned (t' := s'.toks) (fun b o hb e => (sb.2 b hb).trans e) f0 f1 f3 f4 f5, rfl, q⟩
end K19

set_option Elab.async false
set_option linter.all false
set_option maxRecDepth 100000
set_option maxHeartbeats 4000000
/-! several clauses that name the error; a def called with the handled error; a lambda whose errors have no context -/
namespace K19
open PySem PySem.Spec PyProof.Rows L2
/-! ### clauses that name the error -/
/-- the slot of the error's name is emptied behind a clause -/
def goneE (i : Nat) (D : Ends) : Ends := { nx := fun σ' H' => D.nx (σ'.set i none) H', rt := D.rt, bk := fun σ' H' => D.bk (σ'.set i none) H', ct := fun σ' H' => D.ct (σ'.set i none) H' }
def wManyAs (K : PySem.W.Frag) (i : Nat) (Wout : WX) (D : Ends) : List (Value × (Addr → Value → Option Addr → TS)) → WX
  | [] => Wout
  | (c, ts) :: r => fun cls d σ H => ∃ b, PySem.W.exmOne K cls c = some b ∧ (b = true → ∀ a, H a = none → ts a cls d (goneE i D) (σ.set i (some (.ref a))) H) ∧ (b = false → wManyAs K i Wout D r cls d σ H)
inductive HdsAs (X : Cx) (n : Str) : List ExceptHandler → List (Value × (Addr → Value → Option Addr → TS)) → Prop
  | nil : HdsAs X n [] []
  | cons {x : Str} {c : Value} {ts : Addr → Value → Option Addr → TS} {b₀ : Stmt} {suite : List Stmt} {np pos' : Pos} {hds : List ExceptHandler} {l : List (Value × (Addr → Value → Option Addr → TS))} (hc : Names X x c)
      (hsu : ∀ (a : Addr) (oe : Obj) (cls : Value) (d : Option Addr) (pn : List (Addr × Obj)), L2N.Zn cls d oe → (∃ vs, oe.data = .fields vs) → PSs (X.suite a ((a, oe) :: pn)) (b₀ :: suite) (ts a cls d)) (r : HdsAs X n hds l) :
      HdsAs X n (.ExceptHandler (some (.Name x np)) (some n) (b₀ :: suite) pos' :: hds) ((c, ts) :: l)
theorem ps_try_manyAs {X : Cx} {n : Str} {i : Nat} {body : List Stmt} {h₀ : ExceptHandler} {hds : List ExceptHandler} {l : List (Value × (Addr → Value → Option Addr → TS))} {pos : Pos} {tb : WX → TS} {Wout : WX}
    (hs : X.stack = X.env :: X.outer) (hf : X.env.frame = some X.env.locals) (hN : X.N.Nodup) (hi : X.N[i]? = some n) (hln : X.env.kindOf n = some .local) (tk : L2N.Takes X Wout)
    (hb : ∀ (W : WX) (pn : List (Addr × Obj)) (xe : Value → Shared → Prop), L2N.Takes (X.tr pn xe) W → PassesOwn (model X.prog X.w) X.A X.env xe → PSs (X.tr pn xe) body (tb W))
    (hh : HdsAs X n (h₀ :: hds) l) : PS X (.Try body (h₀ :: hds) [] [] pos) (fun D σ H => tb (wManyAs X.K i Wout D l) D σ H) := by
  refine ⟨fun pins s σ H D I h => ?_⟩
  have ok := I.ok
  have hfr : X.A.frames = some (X.env :: X.outer) := by rw [ok.frames, hs]
  have hloc : Loc X.env.scope n := .inl hln
  refine wpAny_Try_except ?_
  refine wpAny_mono ((hb (wManyAs X.K i Wout D l) (X.pn ++ pins) (fun e s₁ => wpAny (model X.prog X.w) X.A (noteFrame e X.env) (fun _ s₂ => wpAny (model X.prog X.w) X.A (setFlight e none) (fun _ s₃ =>
    wpAny (model X.prog X.w) X.A (handleBy e X.env (h₀ :: hds)) (SP X pins D) X.xe s₃) X.xe s₂) X.xe s₁) (fun u s' xx => ?_) PassesOwn.looking).run [] s σ H D (I.toTry _) h) (fun f s1 hsp => ?_) (fun e s1 he => he)
  · obtain ⟨a, B, sI, pins', σ', H', cls, d, rfl, J', nb, up, sky, na, os, ag, w⟩ := xx
    have J : Inv X pins σ' H' sI := J'.ofTry ok
    have sky' : Sky B (X.env :: X.outer) a (L2N.Zn cls d) X.env.locals s'.heap := by rw [← hs]; exact sky
    show wpAny (model X.prog X.w) X.A (noteFrame (.ref a) X.env) _ _ _
    refine L2N.Sky.land L2N.Zn.steady hfr hf sky' fun h3 fl3 up3 => ?_
    have J3 : Inv X pins σ' H' { s' with heap := h3 } := J.landed nb fl3.1 (up.trans up3) os ag
    obtain ⟨oe3, vs3, he3, hz3, hd3⟩ := fl3.there
    have notFr : ∀ {h : Heap} {o : Obj} {vs : Array Value}, h.FunFrames B (X.env :: X.outer) → h.get? a = some o → o.data = .fields vs → a ∉ frs (X.env :: X.outer) := fun {h o vs} ff e dd hm => by
      obtain ⟨_, o', e', hnf⟩ := ff.mem hm
      rw [e] at e'; cases e'
      exact hnf _ dd
    have nfr := notFr fl3.2.2.1 he3 hd3
    have nL : a ≠ X.env.locals := fun z => nfr (List.mem_filterMap.mpr ⟨X.env, List.mem_cons_self, by rw [hf, z]⟩)
    have nF : a ∉ X.fs := fun hm => by
      obtain ⟨e, he, q⟩ := List.mem_filterMap.mp hm
      exact nfr (List.mem_filterMap.mpr ⟨e, List.mem_cons_of_mem _ he, q⟩)
    have S3 := J3.suite he3 hd3 na nL nF
    have go : ∀ {hds' : List ExceptHandler} {l' : List (Value × (Addr → Value → Option Addr → TS))}, HdsAs X n hds' l' → wManyAs X.K i Wout D l' cls d σ' H' →
        wpAny (model X.prog X.w) X.A (handleBy (.ref a) X.env hds') (SP X pins D) X.xe { s' with heap := h3 } := by
      intro hds' l' hk
      induction hk with
      | nil =>
        intro w
        refine wpAny_handleBy_nil ?_
        obtain ⟨k1, k2, k3, oe, vs, T, oT, ts', he, hz, hd, h1, hr⟩ := id fl3
        unfold PySem.passOn
        refine wpAny_bind (wpAny_field he hd h1 ?_)
        rw [if_neg (show ¬ ((Value.ref T == Value.none) = true) from by simp)]
        have fin : wpAny (model X.prog X.w) X.A (setFlight (.ref a) X.env.frame) (fun _ s4 => wpAny (model X.prog X.w) X.A (throw (.ref a) : Sem Flow) (SP X pins D) X.xe s4) X.xe { s' with heap := h3 } := by
          rw [hf]
          refine HandSPX.setFlight_upZ fl3 fun h4 hh4 up4 => wpAny_throw (tk _ _ ?_)
          exact ⟨a, B, sI, pins, σ', H', cls, d, rfl, J, nb, (up.trans up3).trans up4, .inr (.inr (by rw [hs]; exact hh4)), na, os, ag, w⟩
        first
          | exact wpAny_bind (wpAny_pure (wpAny_bind fin))
          | exact wpAny_bind fin
      | @cons x c ts b₀ suite np pos' hds2 l2 hc hsu r ih =>
        intro w
        obtain ⟨b, hb1, hyes, hno⟩ := w
        refine wpAny_handleBy_cons (codeAny_handlers_test ?_) (by intro q; cases q)
        have LT : PySem.W.Looks (model X.prog X.w) h3 (typeOf (.ref a)) cls := fun A Q E s k q => wpAny_typeOf_ref (k _ _ he3) (by rw [hz3.1]; exact q)
        have LM := PySem.W.exm_one (M := model X.prog X.w) (J3.kIn) LT hb1
        have test : ∀ {Q : Value → Shared → Prop} {E : Value → Shared → Prop}, Q c { s' with heap := h3 } → wpAny (model X.prog X.w) (X.A.mark (some (.ref a))) (eval (.Name x np) X.env) Q E { s' with heap := h3 } := fun {Q E} q => by
          obtain ⟨hg, hdbg, hm | ⟨hm, hv, hnn⟩⟩ := hc
          · exact ld_glob (X := X.suite a ((a, oe3) :: (X.pn ++ pins))) S3 hg hm q hdbg
          · exact ld_blt (X := X.suite a ((a, oe3) :: (X.pn ++ pins))) S3 hg hm hv q hnn hdbg
        refine test (LM.here ?_)
        cases b with
        | true =>
          refine codeAny_handlers_suite_as ?_
          refine HandSPX.lands_againZ fl3 fun h4 fl4 up4 => ?_
          have J4 : Inv X pins σ' H' { s' with heap := h4 } := J.landed nb fl4.1 ((up.trans up3).trans up4) os ag
          obtain ⟨oe4, vs4, he4, hz4, hd4⟩ := fl4.there
          have S4 := J4.suite he4 hd4 na nL nF
          refine store_ok (X := X.suite a ((a, oe4) :: (X.pn ++ pins))) (v := .ref a) S4 hN hi hloc rfl (fun s5 S5 => ?_) (.inr hln)
          refine wpAny_mono ((hsu a oe4 cls d (X.pn ++ pins) hz4 ⟨_, hd4⟩).run [] s5 _ H' _ S5 (hyes rfl a na)) (fun f s6 hsp => ?_) (fun _ _ z => False.elim z)
          have end_ : ∀ {σ6 : L2.St} {H6 : Hp} {Q : Shared → Prop}, Inv (X.suite a ((a, oe4) :: (X.pn ++ pins))) [] σ6 H6 s6 → (∀ s7, Inv X pins (σ6.set i none) H6 s7 → Q s7) →
              wpAny (model X.prog X.w) X.A (do bindName X.env n .none; unbindBehindTheSuite X.env n pos') (fun _ s7 => Q s7) X.xe s6 := fun {σ6 H6 Q} S6 hq => gone_ok (S6.unsuite ok) hN hi hln hq
          cases f with
          | next =>
            obtain ⟨σ6, H6, S6, q6⟩ := hsp
            exact end_ S6 fun s7 J7 => ⟨_, _, J7, q6⟩
          | brk =>
            obtain ⟨σ6, H6, S6, q6⟩ := hsp
            exact end_ S6 fun s7 J7 => ⟨_, _, J7, q6⟩
          | cont =>
            obtain ⟨σ6, H6, S6, q6⟩ := hsp
            exact end_ S6 fun s7 J7 => ⟨_, _, J7, q6⟩
          | ret u =>
            obtain ⟨v6, σ6, H6, S6, r6, q6⟩ := hsp
            exact end_ S6 fun s7 J7 => ⟨_, _, _, J7, r6, q6⟩
        | false =>
          show wpAny _ X.A (handleBy (.ref a) X.env hds2) _ _ _
          exact ih (hno rfl)
    exact go hh w
  · cases f with
    | next =>
      obtain ⟨σ', H', J', q⟩ := hsp
      exact wpAny_execs_nil ⟨σ', H', J'.ofTry ok, q⟩
    | brk =>
      obtain ⟨σ', H', J', q⟩ := hsp
      exact ⟨σ', H', J'.ofTry ok, q⟩
    | cont =>
      obtain ⟨σ', H', J', q⟩ := hsp
      exact ⟨σ', H', J'.ofTry ok, q⟩
    | ret u =>
      obtain ⟨v, σ', H', J', r, q⟩ := hsp
      exact ⟨v, σ', H', J'.ofTry ok, r, q⟩
/-! ### a def called with the handled error -/
abbrev SpE := Addr → Value → Option Addr → Sp
structure FnHp (P : Program) (w : World) (K : PySem.W.Frag) (mg : Str → Option Value) (base : Heap) (CX : CXT) (k : Nat) (f : Addr) (fd : FuncData) (ps : List Str) (sp : SpE) : Prop where
  len : ∀ a c d vs H Q E, sp a c d vs H Q E → vs.length = ps.length
  run : ∀ (A : Around) (outer : List Env) (s : Shared) (H : Hp) (args : Args) (us : List Value) (vs : List V) (Q : VK) (E : XK) (p : Addr × Obj) (cls : Value) (d : Option Addr), L2H.RoomH k A → L2H.Hot1 A p → Zc cls d p.2 → L2H.PinOk outer H s p → Env0 P w K mg base A outer s H → BindsTo s fd args (ps.zip us) → Vals vs us → sp p.1 cls d vs H Q E →
    codeAny (model P w) A (.call (.ref f) args) (CR CX outer P w H s Q E) s
theorem fn_ofHp {CX : CXT} {P : Program} {w : World} {K : PySem.W.Frag} {mg : Str → Option Value} {base : Heap} {k : Nat} {f : Addr} {name qual : Str} {params : Arguments} {body : List Stmt} {scope : Scope} {dV kV doc pm cdv ct oc : Value} {an od : Option Addr}
    {osl : Array (Option Value)} {N ps : List Str} {sp : SpE} (lk : K.lookup f = some ⟨oc, od, .func (PySem.W.fnOf name qual params body scope dV kV doc pm an cdv ct), osl⟩) (hcd : PySem.W.codeIn K cdv qual = true) (S : FnScope N ps scope)
    (len : ∀ a c d vs H Q E, sp a c d vs H Q E → vs.length = ps.length)
    (hbody : ∀ (A : Around) (outer : List Env) (s : Shared) (H : Hp) (vs : List V) (Q : VK) (E : XK) (p : Addr × Obj) (cls : Value) (d : Option Addr), L2H.Hot1 A p → Zc cls d p.2 → L2H.RoomH k (A.deeper (envOfC qual scope s.heap.objs.size f cdv)) → sp p.1 cls d vs H Q E →
      ∃ t, PSs (L2H.cxH CX P w K mg base N qual scope f cdv A outer s H E p) body t ∧ t { nx := fun _ H' => Q .non H', rt := Q } (L2.start N vs) H) :
    FnHp P w K mg base CX (k + 1) f (PySem.W.fnOf name qual params body scope dV kV doc pm an cdv ct) ps sp := by
  refine ⟨len, fun A outer s H args us vs Q E p cls d hr hot hz hpin e0 hb r hsp => ?_⟩
  have hl := len _ _ _ _ _ _ _ hsp
  have KX : K.In s.heap := e0.mod.kin.keeps fun b o e => (e0.bs b o e).1
  have lim : s.heap.NoLimit := e0.mod.nolimit.keeps fun b o e => (e0.bs b o e).1
  have hkind : ∀ y ∈ ps.zip us, scope.names.lookup y.1 = some .local ∨ (scope.names.lookup y.1 = some .cell ∧ ((cellsFrom (s.heap.objs.size + 1) scope.names []).lookup y.1).isSome = true) := fun ⟨n, v⟩ hy => by
    rcases S.par n (List.of_mem_zip hy).1 with q | q
    · exact .inl q
    · exact .inr ⟨q, PySem.W.cellsFrom_some _ _ _ (.inl q)⟩
  refine codeAny_call_function hr.depth (KX _ _ lk) rfl S.co S.gen rfl (PySem.W.codeRec_of KX hcd) (hb _ _ _ _ ?_)
  refine wpAny_newFunctionEnv_cells S.kind hkind fun env he s1 x => ?_
  subst he
  refine ⟨lim.keeps x.toInCall.keep, codeAny_func ?_⟩
  obtain ⟨t, ht, hq⟩ := hbody A outer s H vs Q E p cls d hot hz (hr.deeper _) hsp
  have I : Inv (L2H.cxH CX P w K mg base N qual scope f cdv A outer s H E p) [] (L2.start N vs) H s1 := L2H.inv_startH S hpin e0 hl r x
  refine wpAny_mono (ht.run [] s1 (L2.start N vs) H _ I hq) (fun fl s' hs => ?_) fun e s' hs => hs
  have fin : ∀ {σ' : L2.St} {H' : Hp} {v : V} {u : Value}, Inv (L2H.cxH CX P w K mg base N qual scope f cdv A outer s H E p) [] σ' H' s' → RelV v u → Q v H' → CE outer P w H s Q u s' :=
    fun {σ' H' v u} J rv q => ⟨v, H', J.os, J.bare, J.base, J.hok, rv, q⟩
  cases fl with
  | ret u =>
    obtain ⟨v, σ', H', J, rv, q⟩ := hs
    exact fin J rv q
  | next =>
    obtain ⟨σ', H', J, q⟩ := hs
    exact fin (v := V.non) (u := Value.none) J rfl q
  | brk =>
    obtain ⟨_, _, _, q⟩ := hs
    exact False.elim q
  | cont =>
    obtain ⟨_, _, _, q⟩ := hs
    exact False.elim q
section
variable {X : Cx} {CX : CXT} {k : Nat} {f C : Addr} {fd : FuncData} {ps : List Str} {sp : SpE} {E : L2.St → XK} {x m : Str} {q pos apos : Pos} {e o : Expr} {es : List Expr} {ta : TE} {t : TA}
theorem pe_callHp {p : Addr × Obj} {cls : Value} {d : Option Addr} (F : FnHp X.prog X.w X.K X.mg X.base CX k f fd ps sp) (hr : L2H.RoomH k X.A) (hot : L2H.Hot1 X.A p) (hp : p ∈ X.pn) (hz : Zc cls d p.2) (hg : Gl X x) (hm : X.mg x = some (.ref f)) (hk : PySem.W.keepIn X.K (.ref f) = true) (hb : Binds X.K fd ps []) (hx : ∀ σ, PassesAt CX X σ (E σ))
    (ha : PA X (e :: es) t) (hdb : (x == ("__debug__" : Str)) = false := by decide) (he : starEach (e :: es) X.env = (false, eval e X.env) :: starEach es X.env := by rfl) (hpl : (backTo pos (starEach es X.env)).any (·.1) = false := by rfl) :
    PE X (.Call (.Name x q) (e :: es) [] pos) (tCallS (sp p.1 cls d) E t) := by
  refine ⟨fun pins s σ H Q I h => ?_⟩
  refine wpAny_Call_Name_kw (ld_glob I hg hm ?_ hdb)
  refine PySem.W.callWith_K (h₀ := X.base) I.ok.mod.kin hk (thn (ha.run pos pins s σ H _ I h) fun us s1 ⟨vs, H1, I1, r, q⟩ => ⟨I1.kIn, ?_⟩) he hpl
  have hl : us.length = ps.length := by rw [← r.length]; exact F.len _ _ _ _ _ _ _ q
  have b := hb s1 us I1.kIn (by rw [List.append_nil]; exact hl)
  rw [List.append_nil] at b
  have P1 := I1.pin p (List.mem_append_left _ hp)
  have hpin : L2H.PinOk X.stack H1 s1 p := ⟨P1.1, P1.2.1, fun hm => (List.mem_cons.mp (I1.stkSub p.1 hm)).elim P1.2.2.1 P1.2.2.2.1, P1.2.2.2.2⟩
  refine wpAny_call (codeAny_mono (F.run X.A X.stack s1 H1 ⟨us, []⟩ us vs Q (E σ) p cls d hr hot hz hpin I1.env0 b r q) fun r s' hq => ?_)
  cases r with
  | error e => exact hx σ pins H1 s1 e s' I1 hq
  | ok fl =>
    cases fl with
    | ret u => exact I1.after hq
    | next => exact False.elim hq
    | brk => exact False.elim hq
    | cont => exact False.elim hq
/-- isinstance(e, c), e the handled error -/
theorem call_isEh {D : Addr} {p : Addr × Obj} (C : ExcC X.K D) (hp : p ∈ X.pn) (hz : Zc (.ref D) none p.2) (hf : ∃ vs, p.2.data = .fields vs) : CallR X (.builtin "isinstance") (rIsE X.K D p.1) := by
  intro pins s σ H xs us Q I r h
  obtain ⟨c, cv, b, rfl, hcv, e, q⟩ := h
  cases r with
  | cons rx rr =>
    cases rr with
    | cons rt rr =>
      cases rr
      cases rx
      have ec := hcv _ rt
      subst ec
      obtain ⟨hget, _⟩ := I.pin p (List.mem_append_left _ hp)
      obtain ⟨vs, hv⟩ := hf
      obtain ⟨a, oe⟩ := p
      have J : PySem.W.InstAt s.heap a oe D none := by
        obtain ⟨oc, od, oda, osl⟩ := oe
        obtain ⟨h1, h2⟩ := hz
        dsimp only at h1 h2 hv
        subst h1 h2 hv
        exact ⟨hget, rfl, rfl, trivial⟩
      exact PySem.W.kia_one (PySem.W.handS_kitx_exc C.hg C.hk C.hs C.hd C.ha C.hn C.ht C.hm) I.kIn J e (fun z => nomatch z) fun tk => ⟨.bl b, H, I.kept (t' := tk) fun _ _ z => z, rfl, q⟩
end
/-! ### a lambda whose errors have no context -/
abbrev lamCxN (X : Cx) (A : Around) (outer : List Env) (s : Shared) (H : Hp) (E : XK) (scope : Scope) (f c' : Addr) : Cx :=
  { LamX.lamCx X A outer s H E scope f c' with xe := fun e s' => wpAny (model X.prog X.w) (A.deeper (LamX.lamEnv X scope s.heap.objs.size f c')) (leaving (LamX.lamEnv X scope s.heap.objs.size f c') e) (fun _ s'' => L2N.CX X.prog X.w outer H s E e s'') (fun e' s'' => L2N.CX X.prog X.w outer H s E e' s'') s' }
theorem lamN_takes {X : Cx} {A : Around} {outer : List Env} {s : Shared} {H : Hp} {E : XK} {scope : Scope} {f c' : Addr} : L2N.Takes (lamCxN X A outer s H E scope f c') (fun cls d _ H => E cls d H) := L2N.takes_of rfl rfl rfl rfl
theorem inv_xe {X : Cx} {e : Value → Shared → Prop} {pins : List (Addr × Obj)} {σ : L2.St} {H : Hp} {s : Shared} (I : Inv X pins σ H s) : Inv { X with xe := e } pins σ H s :=
  ⟨⟨I.ok.mod, I.ok.kind, I.ok.glob, I.ok.blt, I.ok.above, I.ok.inj, I.ok.has, I.ok.cab, I.ok.hd, I.ok.frames, I.ok.stk, I.ok.exf, I.ok.bs, I.ok.bsz, I.ok.noex, I.ok.exfs, I.ok.funs, I.ok.frf⟩, I.os, I.bare, I.base, I.loc, I.cell, I.free, I.freeC, I.pin, I.hok, I.len⟩
section
variable {X : Cx} {pins : List (Addr × Obj)} {σ : L2.St} {H HZ : Hp} {s s1 : Shared}
open LamX
theorem pe_actN {CXg : CXT} {Eg : XK} {Ng : List Str} {qg : Str} {sg : Scope} {g f c' : Addr} {cdg pm ctv : Value} {params : Arguments} {body : Expr} {scope : Scope} {k i : Nat} {a : Str} {pn : List (Addr × Obj)} {xe : Value → Shared → Prop} {W : WX} {E : XK} {tb : TE} {p1 p2 : Pos}
    (I : Inv X pins σ H s) (L : LamS X.env.scope scope) (hf : s.heap.get? f = some (PySem.W.kla_obj "<lambda>" (X.env.qual ++ "<lambda>") params body scope (cloFrom X.env.cells scope.names []) pm c' ctv)) (hfn : H f = none) (hfr : f ∉ frs X.stack)
    (hbind : bindArgs (PySem.W.kla_fn "<lambda>" (X.env.qual ++ "<lambda>") params body scope (cloFrom X.env.cells scope.names []) pm (.ref c') ctv) ⟨[], []⟩ = pure [])
    (tk : L2N.Takes ((cxOf CXg X.prog X.w X.K X.mg X.base Ng qg sg g cdg X.A X.stack s H Eg).tr pn xe) W) (hr : Room (k + 1) (X.A.deeper (envOfC qg sg s.heap.objs.size g cdg)))
    (hbody : ∀ (A : Around) (outer : List Env) (s : Shared) (H : Hp), Room k (A.deeper (lamEnv X scope s.heap.objs.size f c')) → PE (lamCxN X A outer s H E scope f c') body tb)
    (hN : Ng[i]? = some a) (hv : Vis sg a) (hd : (a == ("__debug__" : Str)) = false := by decide) (hcd : (a == ("__classdict__" : Str)) = false := by decide) :
    PE ((cxOf CXg X.prog X.w X.K X.mg X.base Ng qg sg g cdg X.A X.stack s H Eg).tr pn xe) (.Call (.Name a p1) [] [] p2)
      (fun σZ HZ Q => σZ[i]? = some (some (.ref f)) ∧ HZ c' = some (CodeO c' (X.env.qual ++ "<lambda>")) ∧ (∀ cls d H', E cls d H' → W cls d σZ H') ∧ tb σ HZ Q) := by
  refine ⟨fun pinsZ sZ σZ HZ Q IZ h => ?_⟩
  obtain ⟨hs, hc, hW, ht⟩ := h
  refine wpAny_Call_Name_kw (thn ((pe_var (pos := p1) (i := i) hN hv hd hcd).run pinsZ sZ σZ HZ (fun v H1 => v = .ref f ∧ H1 = HZ) IZ ⟨.ref f, hs, rfl, rfl⟩) fun u s1 ⟨v, H1, I1, r1, q1⟩ => ?_)
  obtain ⟨ev, eH⟩ := q1
  subst ev
  rw [eH] at I1
  obtain rfl : u = Value.ref f := r1
  have of1 : s1.heap.get? f = some (PySem.W.kla_obj "<lambda>" (X.env.qual ++ "<lambda>") params body scope (cloFrom X.env.cells scope.names []) pm c' ctv) := I1.base.keep f _ hf hfn hfr (fun z => nomatch (show f ∈ ([] : List Addr) from z))
  refine PySem.W.callWith_F0 ⟨_, _, _, _, of1⟩ ?_
  have un : Un (frs X.stack) [] H HZ s.heap s1.heap := I1.base
  obtain ⟨⟨oc, vs, t, hoc, hdc, hvc⟩, _, _⟩ := I1.hok c' _ hc
  have rc : codeAny (model X.prog X.w) (X.A.deeper (envOfC qg sg s.heap.objs.size g cdg)) (.call (.ref f) ⟨[], []⟩) (CR (L2N.CX X.prog X.w) (envOfC qg sg s.heap.objs.size g cdg :: X.stack) X.prog X.w HZ s1 Q E) s1 := by
    refine PySem.W.kla_callFunE hr.depth of1 rfl L.co L.gen rfl ⟨c', oc, vs, t, rfl, hoc, hdc, hvc⟩ ?_
    rw [hbind]
    refine wpAny_pure (wpAny_newFunctionEnv (fun y hy => (L.own y hy).2) (fun y hy => absurd hy (by simp)) (fun h₁ hns hsb => ⟨I1.nolimit.fresh _ hsb, ?_⟩) L.kind)
    show codeAny _ _ (.expr body (lamEnv X scope s1.heap.objs.size f c')) _ _
    have kp : ∀ b o, s1.heap.get? b = some o → h₁.get? b = some o := fun b o e => hsb.extBut b o (Nat.ne_of_lt (Heap.lt_size e)) (Heap.get?_push_of_some _ e)
    have J : Inv (lamCxN X (X.A.deeper (envOfC qg sg s.heap.objs.size g cdg)) (envOfC qg sg s.heap.objs.size g cdg :: X.stack) s1 HZ E scope f c') [] σ HZ { s1 with heap := h₁, toks := s1.toks + ([] : List (Str × Value)).length } :=
      inv_xe (lam_start2 I L I1.env0 hr.hd un hns kp)
    refine PySem.W.kla_codeExpr (wpAny_mono ((hbody _ _ s1 HZ (hr.deeper _)).run [] _ _ HZ Q J ht) (fun v s' hq => ?_) fun e s' hq => hq)
    obtain ⟨w', H', J', rv, q⟩ := hq
    exact ⟨w', H', J'.os, J'.bare, J'.base, J'.hok, rv, q⟩
  refine wpAny_call (codeAny_mono rc fun r s' hq => ?_)
  cases r with
  | error e => exact tk e s' (L2N.XE.of_call I1 hW hq)
  | ok fl =>
    cases fl with
    | ret u => exact I1.after hq
    | next => exact False.elim hq
    | brk => exact False.elim hq
    | cont => exact False.elim hq
/-- the def that calls what it got -/
def GivesToN (X : Cx) (Ng : List Str) (x : Str) (sg : Scope) (g : Addr) (cdg : Value) (bg : List Stmt) (a : Str) (k : Nat) (q : Str) (TT : (XK → Hp → VK → Prop) → Hp → VK → Prop) : Prop :=
  ∀ (f c' : Addr) (s : Shared) (H : Hp) (Q : VK) (tl : XK → Hp → VK → Prop), Room k (X.A.deeper (envOfC x sg s.heap.objs.size g cdg)) →
    (∀ (W : WX) (pn : List (Addr × Obj)) (xe : Value → Shared → Prop) (E : XK) (p1 p2 : Pos), L2N.Takes ((cxOf C8.CX0 X.prog X.w X.K X.mg X.base Ng x sg g cdg X.A X.stack s H C8.E0).tr pn xe) W →
      PE ((cxOf C8.CX0 X.prog X.w X.K X.mg X.base Ng x sg g cdg X.A X.stack s H C8.E0).tr pn xe) (.Call (.Name a p1) [] [] p2) (fun σZ HZ Q => σZ[0]? = some (some (.ref f)) ∧ HZ c' = some (CodeO c' q) ∧ (∀ cls d H', E cls d H' → W cls d σZ H') ∧ tl E HZ Q)) →
    H c' = some (CodeO c' q) → TT tl H Q →
    ∃ t, PSs (cxOf C8.CX0 X.prog X.w X.K X.mg X.base Ng x sg g cdg X.A X.stack s H C8.E0).nox bg t ∧ t { nx := fun _ H' => Q .non H', rt := Q } (L2.start Ng [.ref f]) H
theorem pe_lamcallN {T : List (Addr × Str)} {TT : (XK → Hp → VK → Prop) → Hp → VK → Prop} {x a : Str} {g c P : Addr} {k : Nat} {pg : Arguments} {bg : List Stmt} {sg : Scope} {dV kV doc pm cdv ct oc : Value} {an od : Option Addr} {osl : Array (Option Value)} {Ng : List Str}
    {params : Arguments} {body : Expr} {scope : Scope} {t : XK → TE} {p lpos pos : Pos} (hg : Gl X x) (hm : X.mg x = some (.ref g)) (hk : PySem.W.keepIn X.K (.ref g) = true)
    (lk : X.K.lookup g = some ⟨oc, od, .func (PySem.W.fnOf x x pg bg sg dV kV doc pm an cdv ct), osl⟩) (hcg : PySem.W.codeIn X.K cdv x = true) (hb : L2.Binds X.K (PySem.W.fnOf x x pg bg sg dV kV doc pm an cdv ct) [a] []) (Sg : FnScope Ng [a] sg) (hNg : Ng[0]? = some a) (hva : Vis sg a)
    (hG : GivesToN X Ng x sg g cdv bg a (k + 1) (X.env.qual ++ "<lambda>") TT)
    (TB : TabB X.base X.mg c P) (hcode : X.env.code = .ref c) (hmT : (P, X.env.qual ++ "<lambda>") ∈ T) (hu : ∀ p ∈ T, p.1 = P → p.2 = X.env.qual ++ "<lambda>") (hr : Room (k + 2) X.A) (L : LamS X.env.scope scope) (hdef : defaultsOf params X.env = ([], []))
    (hbind : ∀ (q : Str) (cl : List (Str × Addr)) (pm cv ctv : Value), bindArgs (PySem.W.kla_fn "<lambda>" q params body scope cl pm cv ctv) ⟨[], []⟩ = pure [])
    (hbody : ∀ (A : Around) (outer : List Env) (s : Shared) (H : Hp) (E : XK) (f c' : Addr), Room k (A.deeper (lamEnv X scope s.heap.objs.size f c')) → PE (lamCxN X A outer s H E scope f c') body (t E))
    (hdb : (x == ("__debug__" : Str)) = false := by decide) (hd : (a == ("__debug__" : Str)) = false := by decide) (hcd : (a == ("__classdict__" : Str)) = false := by decide) :
    PE X (.Call (.Name x p) [.Lambda params body scope lpos] [] pos) (tLam T TT t) := by
  refine ⟨fun pins s σ H Q I h => ?_⟩
  obtain ⟨hT, h⟩ := h
  refine wpAny_Call_Name_kw (ld_glob I hg hm ?_ hdb)
  refine PySem.W.callWith_K (h₀ := X.base) I.ok.mod.kin hk ?_ (by rfl) (by rfl)
  show wpAny _ _ (spliced ((false, eval (.Lambda params body scope lpos) X.env) :: backTo pos (starEach [] X.env))) _ _ s
  refine Calls.spliced_cons (lam_make2 I TB hcode hmT hu hT hdef (L.has I.ok) fun f c' pm' ctv H1 s' I1 eN T1 hf hfn hfr hco => ?_)
  refine Calls.spliced_nil ⟨I1.kIn, ?_⟩
  have rc : codeAny (model X.prog X.w) X.A (.call (.ref g) ⟨[.ref f], []⟩) (CR C8.CX0 X.stack X.prog X.w H1 s' Q C8.E0) s' := by
    refine run_ofS (N := Ng) (ps := [a]) (us := [.ref f]) (vs := [.ref f]) lk hcg Sg hr I1.env0 (hb s' [.ref f] I1.kIn rfl) (.cons rfl .nil) rfl fun hr' => ?_
    obtain ⟨t', ht', hq'⟩ := hG f c' s' H1 Q (fun E H' Q' => t E σ H' Q') hr' (fun W pn xe E p1 p2 tk => pe_actN (i := 0) I1 L hf hfn hfr (hbind _ _ _ _ _) tk hr' (fun A outer s H hr2 => hbody A outer s H E f c' hr2) hNg hva hd hcd) hco (h H1 eN T1)
    exact ⟨t', ht'.nox, hq'⟩
  refine wpAny_call (codeAny_mono rc fun r s2 hq => ?_)
  cases r with
  | error e => exact (show False from hq).elim
  | ok fl =>
    cases fl with
    | ret u => exact I1.after hq
    | next => exact False.elim hq
    | brk => exact False.elim hq
    | cont => exact False.elim hq
end
end K19

set_option Elab.async false
set_option linter.all false
set_option maxRecDepth 100000
set_option maxHeartbeats 4000000
/-! own rules, first part: a tuple backwards, sorted of a tuple of ints, a set of a tuple of ints -/
namespace K19
open PySem PySem.Spec PyProof.Rows L2 HT
abbrev St := L2.St
section
variable {prog : Program} {w : World} {A : Around} {E : Value → Shared → Prop} {s : Shared}
theorem filterMap_same {α β : Type} {f g : α → Option β} : ∀ {l : List α}, (∀ x ∈ l, f x = g x) → l.filterMap f = l.filterMap g
  | [], _ => rfl
  | x :: l, h => by
    rw [List.filterMap_cons, List.filterMap_cons, h x List.mem_cons_self, filterMap_same (l := l) fun y hy => h y (List.mem_cons_of_mem _ hy)]
theorem pick_back (xs : Array Value) : ((List.range xs.size).filterMap fun (m : Nat) => xs[((xs.size : Int) - 1 + (m : Int) * (-1)).toNat]?).toArray = xs.toList.reverse.toArray := by
  congr 1
  apply List.ext_getElem?
  intro i
  have e : (List.range xs.size).filterMap (fun (m : Nat) => xs[((xs.size : Int) - 1 + (m : Int) * (-1)).toNat]?) = (List.range xs.size).map (fun m => xs.getD (xs.size - 1 - m) .none) := by
    rw [← List.filterMap_eq_map]
    refine filterMap_same fun m hm => ?_
    have h := List.mem_range.mp hm
    have e2 : ((xs.size : Int) - 1 + (m : Int) * (-1)).toNat = xs.size - 1 - m := by omega
    rw [e2]
    have hlt : xs.size - 1 - m < xs.size := by omega
    show xs[xs.size - 1 - m]? = some (xs.getD (xs.size - 1 - m) .none)
    rw [Array.getElem?_eq_getElem hlt]
    simp [Array.getD, hlt]
  rw [e]
  by_cases hi : i < xs.size
  · have hlt : xs.size - 1 - i < xs.size := by omega
    rw [List.getElem?_map, List.getElem?_range hi, List.getElem?_reverse (by simpa using hi)]
    simp [Array.getD, hlt]
  · rw [List.getElem?_eq_none (by simp; omega), List.getElem?_eq_none (by simp; omega)]
theorem adjust_back (n : Nat) : Builtin.Slice.sliceAdjust none none (-1) (n : Int) = ((n : Int) - 1, -1) := by
  unfold Builtin.Slice.sliceAdjust
  first
    | rfl
    | simp
theorem places_back (n : Nat) : Builtin.Slice.slicePlaces ((n : Int) - 1) (-1) (-1) = n := by
  unfold Builtin.Slice.slicePlaces
  have h1 : ¬ ((-1 : Int) > 0) := by omega
  simp only [h1, if_false]
  by_cases h : (n : Int) - 1 > -1
  · simp only [h, if_true]
    rw [show (- -1 : Int) = 1 by decide, Int.ediv_one]
    omega
  · simp only [h, if_false]
    omega
theorem getItem_tuple_back {t sl : Addr} {items : Array Value} {u : Tok} {Q : Value → Shared → Prop} (ht : IsTup s.heap t items) (hs : s.heap.IsSliceOf sl .none .none (.int (-1) u))
    (h : Q (.ref s.heap.objs.size) { s with heap := s.heap.push { cls := .type "tuple", data := .seq items.toList.reverse.toArray } }) (hsz : items.size ≤ sizeLine) : wpAny (model prog w) A (getItem (.ref t) (.ref sl)) Q E s := by
  have htake : sizeOk (.seq items.toList.reverse.toArray) := by
    show items.toList.reverse.toArray.size ≤ sizeLine
    rw [List.size_toArray, List.length_reverse, Array.length_toList]
    exact hsz
  obtain ⟨os, hos, hcs, hds⟩ := id hs
  have hTs : s.TypeIs (.ref sl) "slice" := ⟨os, hos, hcs⟩
  unfold getItem
  try with_reducible refine wpAny_holding ?_
  first | refine wpAny_bind (wpAny_pure ?_) | skip
  refine wpAny_bind (wpAny_sequenceKey ht.typeIs (by decide) ?_)
  refine wpAny_bind (wpAny_callSpecial?_slot (name := Str.ofString "__getitem__") ht.typeIs PyProof.Rows.slot_tuple_getitem
    (wpAny_call_entry PyProof.Rows.slot_tuple_getitem ht.typeIs entry_tuple_getitem ?_ (args_tuple_getitem _ _)))
  show wpAny _ _ (Builtin.Tuple.tupleItemsOf (.ref t) >>= _) _ _ s
  refine wpAny_bind (tupleItemsOf_ ht ?_)
  refine wpAny_bind (wpAny_typeOf hTs ?_)
  rw [if_pos (by decide)]
  refine wpAny_bind (wpAny_mono (Q := fun (r : Int × Int × Nat) s' => r = ((items.size : Int) - 1, -1, items.size) ∧ s' = s) (E := E) ?_ (fun r s' hr => ?_) fun _ _ e => e)
  · unfold Builtin.Slice.sliceApplied Builtin.Slice.sliceFields
    refine wpAny_bind (wpAny_bind (wpAny_field hos hds (x := .none) rfl (wpAny_bind (wpAny_field hos hds (x := .none) rfl (wpAny_bind (wpAny_field hos hds (x := .int (-1) u) rfl (wpAny_pure ?_)))))))
    refine wpAny_bind (slicePart_int ?_)
    show wpAny _ _ (if ((-1 : Int) == 0) = true then _ else _) _ _ s
    rw [if_neg (by decide)]
    refine wpAny_bind (slicePart_none (wpAny_bind (slicePart_none (wpAny_bind (wpAny_pure ?_)))))
    show wpAny _ _ (match Builtin.Slice.sliceAdjust none none (-1) (items.size : Int) with | (lo, hi) => pure (lo, (-1 : Int), Builtin.Slice.slicePlaces lo hi (-1))) _ _ s
    rw [adjust_back]
    show wpAny _ _ (pure (((items.size : Int) - 1), (-1 : Int), Builtin.Slice.slicePlaces ((items.size : Int) - 1) (-1) (-1))) _ _ s
    rw [places_back]
    exact wpAny_pure ⟨rfl, rfl⟩
  obtain ⟨rfl, rfl⟩ := hr
  have hno : ¬ (((((items.size : Int) - 1) == 0 && (-1 : Int) == 1 && items.size == items.size)) = true) := by
    intro q
    rw [Bool.and_eq_true, Bool.and_eq_true] at q
    exact absurd q.1.2 (by decide)
  show wpAny _ _ (if (((items.size : Int) - 1) == 0 && (-1 : Int) == 1 && items.size == items.size) = true then _ else _) _ _ _
  rw [if_neg hno, pick_back]
  first
    | exact wpAny_bind (m := Builtin.Tuple.tupleExact _) (wpAny_newObj_type (wpAny_pure ⟨_, rfl, wpAny_pure h⟩) htake)
    | exact wpAny_bind (m := Builtin.Tuple.tupleExact _) (wpAny_newObj_type (wpAny_bind (wpAny_pure (wpAny_pure ⟨_, rfl, wpAny_pure h⟩))) htake)
    | exact wpAny_bind (wpAny_bind (m := Builtin.Tuple.tupleExact _) (wpAny_newObj_type (wpAny_pure (wpAny_pure ⟨_, rfl, wpAny_pure h⟩)) htake))
    | exact wpAny_bind (wpAny_bind (m := Builtin.Tuple.tupleExact _) (wpAny_newObj_type (wpAny_pure ⟨_, rfl, wpAny_pure h⟩) htake))
/-- a tuple's items, gathered into a list -/
theorem collect_tup {l : Addr} {vs : List Value} {Q : List Value → Shared → Prop} (hl : s.heap.IsTuple l vs.toArray)
    (h : Q vs { s with heap := (s.heap.push (seqObj "list" #[] 0)).update s.heap.objs.size (Obj.mapSeq (· ++ vs.toArray)) }) (hsz : vs.length ≤ sizeLine) : wpAny (model prog w) A (collect (.ref l)) Q E s := by
  obtain ⟨o, ho, hc, n, hd⟩ := id hl
  unfold collect
  refine wpAny_bind (wpAny_runValue (codeAny_builtin entry_proto_collect' ?_))
  show wpAny _ _ (do again (.builtin "list.__iadd__" ⟨[← newList [], .ref l], []⟩)) _ _ s
  refine wpAny_bind (wpAny_newList (wpAny_pure ⟨Code.quiet_builtin _ (by decide +kernel), codeAny_builtin entry_list_iadd' ?_⟩))
  show wpAny _ _ (Builtin.List.listExtendWith (.ref s.heap.objs.size) (.ref l) (.ref s.heap.objs.size)) _ _ { s with heap := s.heap.push (seqObj "list" #[] 0) }
  unfold Builtin.List.listExtendWith
  have ho' : (s.heap.push (seqObj "list" #[] 0)).get? l = some o := Heap.get?_push_of_some _ ho
  refine wpAny_bind (wpAny_typeOf (T := "tuple") ⟨o, ho', hc⟩ ?_)
  have ht : (Value.type "tuple" == Value.type "tuple") = true := by rfl
  rw [if_pos (by rw [ht]; simp)]
  refine wpAny_bind (listItems_at ho' hd ?_)
  refine wpAny_bind (listItems_at (xs := #[]) (n := 0) (Heap.get?_push_size _ rfl) rfl ?_)
  rw [if_neg (by simp)]
  refine wpAny_bind (listUpdate_at (xs := #[]) (n := 0) (Heap.get?_push_size _ rfl) rfl ?_ (Nat.zero_le _) (by show (#[] ++ vs.toArray).size ≤ sizeLine + 1; simp only [Array.size_append, List.size_toArray, List.length_nil]; omega))
  refine wpAny_pure ?_
  show wpAny (model prog w) A (do
      let o ← load s.heap.objs.size
      match o.data with
      | .seq xs _ => pure xs.toList
      | _ => unsupported "internal:collect") Q E { s with heap := (s.heap.push (seqObj "list" #[] 0)).update s.heap.objs.size (Obj.mapSeq (· ++ vs.toArray)) }
  refine wpAny_bind (wpAny_load (get?_update_seq (Heap.get?_push_size _ rfl) _) ?_)
  show wpAny _ _ (pure ((#[] : Array Value) ++ vs.toArray).toList) Q E _
  rw [show ((#[] : Array Value) ++ vs.toArray).toList = vs by simp]
  exact wpAny_pure h
/-- sorted of a tuple of ints -/
theorem sorted_tupI {t : Addr} {vs : List Value} {ns : List Int} {Q : Value → Shared → Prop} (ht : s.heap.IsTuple t vs.toArray) (hI : IntsAre vs ns) (h64 : ns.length < 64)
    (hQ : ∀ h' p (out : Array Value) (c : Nat) (ns' : List Int), (∀ b o, s.heap.get? b = some o → h'.get? b = some o) → s.heap.objs.size ≤ p → h'.get? p = some (seqObj "list" out c) → IntsAre out.toList ns' → ns'.Perm ns → ns'.Pairwise (· ≤ ·) → Q (.ref p) { s with heap := h' }) :
    wpAny (model prog w) A (call (.builtin "sorted") [.ref t]) Q E s := by
  have hvl : vs.length = ns.length := IntsAre.length hI
  have hsl : vs.length ≤ sizeLine := by rw [hvl, sizeLine_eq]; omega
  refine Calls.call_function_entry kind_sorted plain_sorted entry_sorted (args_sorted1 _) ?_
  unfold Builtin.«sorted»
  refine wpAny_bind (m := checkCount "sorted" 1 1 _) (wpAny_pure ?_)
  refine wpAny_bind (collect_tup ht ?_ hsl)
  refine wpAny_bind (wpAny_newList ?_ hsl)
  generalize hh1 : (s.heap.push (seqObj "list" #[] 0)).update s.heap.objs.size (Obj.mapSeq (· ++ vs.toArray)) = h1
  have hsz : h1.objs.size = s.heap.objs.size + 1 := by
    rw [← hh1, Heap.size_update, size_push']
  have k1 : ∀ b o, s.heap.get? b = some o → h1.get? b = some o := fun b o q => by
    rw [← hh1, Heap.get?_update_ne _ _ _ _ (Nat.ne_of_lt (Heap.lt_size q))]
    exact Heap.get?_push_of_some _ q
  have hoL : (h1.push (seqObj "list" vs.toArray 0)).get? h1.objs.size = some (seqObj "list" vs.toArray 0) := Heap.get?_push_size _ rfl
  refine wpAny_bind (wpAny_holding (wpAny_call_entry slot_list_sort ⟨_, hoL, rfl⟩ entry_list_sort (list_sort_tree hoL hI (by rw [hvl]; exact h64) fun out ns' a1 a2 a3 => ⟨_, rfl, ?_⟩) (args_list_sort _)))
  obtain ⟨c, hc2⟩ := sortedHeap_at (vs := vs) (out := out) hoL
  refine wpAny_pure ⟨_, rfl, hQ _ h1.objs.size out c ns' (fun b u e => ?_) (by rw [hsz]; exact Nat.le_succ _) hc2 a1 a2 a3⟩
  have q := k1 b u e
  have hlt := Heap.lt_size q
  show (sortedHeap (h1.push (seqObj "list" vs.toArray 0)) h1.objs.size vs out).get? b = some u
  rw [sortedHeap_old (Nat.ne_of_lt hlt) (by rw [size_push']; exact Nat.lt_succ_of_lt hlt)]
  exact Heap.get?_push_of_some _ q
end
/-- t[::-1] -/
def tRevT (K : PySem.W.Frag) (te : TE) : TE := fun σ H Q => te σ H fun x H1 => ∃ a xs, x = .ref a ∧ SqT K H1 a xs ∧ ∀ p, H1 p = none → Q (.ref p) (upd H1 p (.tup xs.reverse))
section
variable {X : Cx}
theorem pe_revT {e : Expr} {te : TE} {k : Nat} {p1 p2 p3 pos : Pos} (he : PE X e te) : PE X (.Subscript e (.Slice none none (some (.UnaryOp .USub (.Constant (.int 1) k p1) p2)) p3) pos) (tRevT X.K te) := by
  refine ⟨fun pins s σ H Q I h => ?_⟩
  refine Subscript_ (thn (he.run pins s σ H _ I h) fun v s1 ⟨x, H1, I1, r1, q1⟩ => ?_)
  obtain ⟨a, xs, ex, hx, q⟩ := q1
  subst ex
  cases r1
  have hst : PO X (some (.UnaryOp .USub (.Constant (.int 1) k p1) p2)) (tPart (tUn (rU fun i => .int (-i)) (tC (.int 1)))) := po_some (pe_un un_neg pe_int)
  refine wpAny_Slice (thn (po_none.run pins s1 σ H1 (fun o H2 => o = none ∧ H2 = H1) I1 ⟨rfl, rfl⟩) fun vl s2 ⟨l, H2, I2, pl, el, e2⟩ => ?_)
  subst el e2
  refine thn (po_none.run pins s2 σ H2 (fun o H3 => o = none ∧ H3 = H2) I2 ⟨rfl, rfl⟩) fun vu s3 ⟨u, H3, I3, pu, eu, e3⟩ => ?_
  subst eu e3
  refine thn (hst.run pins s3 σ H3 (fun o H4 => o = some (-1) ∧ H4 = H3) I3 ⟨1, rfl, -1, rfl, rfl, rfl⟩) fun vs s4 ⟨o, H4, I4, ps, eo, e4⟩ => ?_
  subst eo e4
  cases pl
  cases pu
  cases ps with
  | int i t =>
    have I5 : Inv X pins σ H4 { s4 with heap := s4.heap.push { cls := .type "slice", data := .fields #[.none, .none, .int (-1) t] } } := I4.kept (t' := s4.toks) fun b ob q => Heap.get?_push_of_some _ q
    obtain ⟨its, r, ht, hz⟩ := I5.tuple hx
    have hlen := r.length
    show wpAny (model X.prog X.w) X.A (subscriptTail e (.Slice none none (some (.UnaryOp .USub (.Constant (.int 1) k p1) p2)) p3) (.ref a) (.ref s4.heap.objs.size)) (EP X pins σ Q) X.xe { s4 with heap := s4.heap.push { cls := .type "slice", data := .fields #[.none, .none, .int (-1) t] } }
    refine tail_any (ops := [.ref a, .ref s4.heap.objs.size]) ht.typeIs (PyProof.Rows.slot_tuple_getitem.lookup) ?_ (by with_unfolding_all rfl)
    refine getItem_tuple_back ht (Heap.IsSliceOf.new _ .none .none (.int (-1) t)) ?_ (by rw [List.size_toArray]; omega)
    refine ⟨.ref _, _, I5.laid (t' := s4.toks) (o := .tup xs.reverse) (fun b ob q => Heap.get?_push_of_some _ q) (Nat.le_refl _) ?_, rfl, q _ (I5.hok.fresh (Nat.le_refl _))⟩
    exact ⟨by rw [List.length_reverse]; exact hz, _, r.reverse, _, Heap.get?_push_size _ rfl, rfl, _, rfl⟩
/-- sorted(t), t a tuple of fewer than 64 ints -/
def rSortedTI (K : PySem.W.Frag) : List V → Hp → VK → Prop := fun vs H Q => ∃ (a : Addr) (ns : List Int), vs = [V.ref a] ∧ SqT K H a (ns.map V.int) ∧ ns.length < 64 ∧
  ∀ (ns' : List Int) (p : Addr), ns'.Perm ns → ns'.Pairwise (· ≤ ·) → H p = none → Q (.ref p) (upd H p (.lst (ns'.map V.int)))
theorem cr_sortedTI : CallR X (.builtin "sorted") (rSortedTI X.K) := by
  intro pins s σ H vs us Q I r h
  obtain ⟨a, ns, rfl, hs, h64, q⟩ := h
  obtain ⟨its, rv, ht, hz⟩ := I.tuple hs
  rw [Vals.ref1 r]
  refine sorted_tupI (ns := ns) ht rv.ints h64 fun h' p out c ns' k hp hg hi h2 h3 => ?_
  have hlen : (ns'.map V.int).length ≤ sizeLine := by rw [List.length_map, h2.length_eq, sizeLine_eq]; omega
  exact ⟨.ref p, upd H p (.lst (ns'.map V.int)), I.laid (t' := s.toks) k hp ⟨hlen, out.toList, c, vals_of_ints hi, hg⟩, rfl, q ns' p h2 h3 (I.hok.fresh hp)⟩
/-- set(t), t a tuple of ints -/
def rSetTI (K : PySem.W.Frag) (w : World) : List V → Hp → VK → Prop := fun vs H Q => ∃ (a : Addr) (ns : List Int), vs = [V.ref a] ∧ SqT K H a (ns.map V.int) ∧ ns.length ≤ 1000 ∧
  ∀ (p : Addr) (n : Nat), n ≤ ns.length → H p = none → Q (.ref p) (upd H p (SetO w p (fun k => decide (k ∈ ns)) n))
theorem cr_setTI (hc : X.calm = true) : CallR X (.type "set") (rSetTI X.K X.w) := by
  intro pins s σ H vs us Q I r h
  obtain ⟨a, ns, rfl, hs, hl, q⟩ := h
  obtain ⟨its, rv, pt, hz⟩ := I.tuple hs
  rw [Vals.ref1 r]
  refine call_set_tupI ns (I.ok.hd hc) (show s.heap.IsTuple a its.toArray from pt) (by simpa using rv.ints) (by unfold scanBound; omega) fun h' tk c R1 hcn k => ?_
  exact ⟨.ref _, upd H s.heap.objs.size (SetO X.w s.heap.objs.size (fun j => decide (j ∈ ns)) c), I.laid (t' := tk) k (Nat.le_refl _) (setO_new R1), rfl, q _ c hcn (I.hok.fresh (Nat.le_refl _))⟩
end
end K19

set_option Elab.async false
set_option linter.all false
set_option maxRecDepth 100000
set_option maxHeartbeats 4000000
/-! own rules, second part: len and == by own methods, attributes as targets, enumerate of a tuple, sorted of a dict with pairs as keys -/
namespace K19
open PySem PySem.Spec PyProof.Rows L2
section
variable {X : Cx} {CX : CXT} {n : Nat} {f C : Addr} {fd : FuncData} {ps : List Str} {sp : Sp} {E : XK}
theorem run_in1 {pins : List (Addr × Obj)} {σ : St} {H : Hp} {s : Shared} {Q : VK} {us : List Value} {vs : List V} (F : FnOk X.prog X.w X.K X.mg X.base CX n f fd ps sp) (hr : Room (n + 1) X.A) (hb : Binds X.K fd ps []) (hx : Passes CX X E)
    (I : Inv X pins σ H s) (r : Vals vs us) (h : sp vs H Q E) : wpAny (model X.prog X.w) X.A.in1 (call (.ref f) us) (EP X pins σ Q) X.xe s := by
  have hl : us.length = ps.length := by rw [← r.length]; exact F.len _ _ _ _ h
  have b := hb s us I.kIn (by rw [List.append_nil]; exact hl)
  rw [List.append_nil] at b
  refine wpAny_call (codeAny_mono (F.run X.A.in1 X.stack s H ⟨us, []⟩ us vs Q E hr.in1 I.env0.in1 b r h) fun r s' hq => ?_)
  cases r with
  | error e => exact hx pins σ H s e s' I hq
  | ok fl =>
    cases fl with
    | ret u => exact I.after hq
    | next => exact False.elim hq
    | brk => exact False.elim hq
    | cont => exact False.elim hq
/-- len(o), o an instance with an own __len__ -/
def rLenOwn (C : Addr) (sp : Sp) (E : XK) : List V → Hp → VK → Prop := fun xs H Q => ∃ a dx fs, xs = [.ref a] ∧ H a = some (.ins C dx fs) ∧ sp [.ref a] H (fun v H' => ∃ k : Int, v = .int k ∧ (0 ≤ k ∧ k < 2 ^ 63) ∧ Q (.int k) H') E
theorem call_lenOwn (hs : Meth X.K C "__len__" f) (F : FnOk X.prog X.w X.K X.mg X.base CX n f fd ps sp) (hr : Room (n + 1) X.A) (hb : Binds X.K fd ps []) (hx : Passes CX X E) : CallR X (.builtin "len") (rLenOwn C sp E) := by
  intro pins s σ H xs us Q I r h
  obtain ⟨a, dx, fs, rfl, ha, q⟩ := h
  obtain ⟨u, rfl, ru⟩ := vals1 r
  cases (show u = Value.ref a from ru)
  obtain ⟨mA, O, _⟩ := ins_get I.hok ha
  obtain ⟨od, J, _⟩ := O.look
  obtain ⟨m, hF⟩ := I.fr
  refine PySem.W.len_K hF I.ok.mod.kin J hs.at_ hs.fn ?_
  refine wpAny_mono (run_in1 (us := [.ref a]) (vs := [.ref a]) F hr hb hx I (.cons rfl .nil) q) (fun w s' z => ?_) fun _ _ x => x
  obtain ⟨z', H', I', rz, k, ek, hk, qz⟩ := z
  subst ek
  obtain ⟨t, e⟩ := (show ∃ t, w = Value.int k t from rz)
  subst e
  exact ⟨hk, .int k, H', I'.tok _, ⟨_, rfl⟩, qz⟩
/-- x == y, x an instance of the class at C with an own __eq__; y of a type that is not below C -/
def rOwnEq (K : PySem.W.Frag) (C : Addr) (sp : Sp) (E : XK) : R2 := fun x y H Q => ∃ a dx fs tb, x = .ref a ∧ H a = some (.ins C dx fs) ∧ TyX K H y tb ∧ PySem.W.notFirst K C tb = true ∧ sp [x, y] H Q E
theorem op_ownEq (hs : Meth X.K C "__eq__" f) (F : FnOk X.prog X.w X.K X.mg X.base CX n f fd ps sp) (hr : Room n X.A) (hb : Binds X.K fd ps []) (hx : Passes CX X E) : OpR X (compareOp .Eq) (rOwnEq X.K C sp E) := by
  intro pins s σ H x y v u Q I rx ry h
  obtain ⟨a, dx, fs, tb, rfl, ha, ty, hn, q⟩ := h
  cases (show v = Value.ref a from rx)
  obtain ⟨mA, O, _⟩ := ins_get I.hok ha
  obtain ⟨od, J, _⟩ := O.look
  obtain ⟨m, hF⟩ := I.fr
  obtain ⟨Pp, Z, p, _⟩ := kit_of I ry ty
  show wpAny (model X.prog X.w) X.A (richCompare .Eq (.ref a) u) (EP X pins σ Q) X.xe s
  refine PySem.W.cmp_K (op := .Eq) (tb := tb) hr.units0 hF I.ok.mod.kin J (Z.ty _ _ I.kIn p) hn hs.at_ hs.fn ?_
  refine wpAny_mono (run_fn (us := [.ref a, u]) (vs := [.ref a, y]) F hr hb .nil hx I (.cons rfl (.cons ry .nil)) (by rw [List.append_nil]; exact q)) (fun w s' z => ?_) fun _ _ x => x
  obtain ⟨z', H', I', rz, qz⟩ := z
  exact SlX.cmpback rz ⟨z', H', I', rz, qz⟩
end
section
variable {X : Cx}
/-- o.f as a target -/
def gFld (K : PySem.W.Frag) (ta : TE) (f : Str) : TG := fun v σ H Q => ta σ H fun x H1 => ∃ a C dx fs, x = .ref a ∧ H1 a = some (.ins C dx fs) ∧ Cls K C ∧ NoAttr K C f ∧ fs.length < 1000 ∧ Q σ (upd H1 a (.ins C dx (putF f v fs)))
theorem pg_fld {o : Expr} {ta : TE} {f : Str} {pos : Pos} (ha : PE X o ta) : PG X (.Attribute o f pos) (gFld X.K ta f) := by
  refine ⟨fun pins s σ H v u Q I r h => ?_⟩
  rw [PySem.assign_Attribute]
  refine wpAny_bind (wpAny_holding (thn (ha.run pins s σ H _ I h) fun ov s1 ⟨x, H1, I1, rx, a, C, dx, fs, ex, ea, c, n, l, q⟩ => ?_))
  subst ex
  obtain rfl : ov = Value.ref a := rx
  refine wpAny_bind (wpAny_standAt (wpAny_bind (wpAny_holding ?_)))
  exact setattr_ok I1 ea c n l r fun s3 I3 => wpAny_release ⟨σ, _, I3, q⟩
end
/-! ### enumerate of a tuple -/
def IteT (K : PySem.W.Frag) (a : Addr) : It :=
  ⟨fun i H => ∃ (xs : List V) (x : V), SqT K H a xs ∧ xs[i]? = some x, fun i H v H' => ∃ T x, v = .ref T ∧ H T = none ∧ H' = upd H T (.tup [.int (i : Nat), x]) ∧ ∀ xs, SqT K H a xs → xs[i]? = some x, fun i H => ∃ xs : List V, SqT K H a xs ∧ xs.length = i⟩
theorem turn_enumT {P : Program} {w : World} {K : PySem.W.Frag} {elts : List Expr} {kk : Nat} {tpos : Pos} (a e it : Addr) :
    Turn P w K (.Tuple elts kk tpos) (IteT K a) [e, it] e (fun i h => (∃ old, IsEnum h e it ((i : Nat) : Int) old) ∧ h.IsTupleIter it a i ∧ e ≠ it) where
  mem := by simp
  obj := fun i h st b hb => by
    obtain ⟨⟨old, he⟩, ⟨o, ho, hc, hd⟩, _⟩ := st
    have e' : b = e ∨ b = it := by simpa using hb
    rcases e' with z | z
    · rw [z]; exact ⟨_, he, fun v q => nomatch q⟩
    · rw [z]; exact ⟨o, ho, fun v q => by rw [hd] at q; cases q⟩
  keep := fun i h h' st k => let ⟨⟨old, he⟩, hi, hne⟩ := st; ⟨⟨old, k e (by simp) _ he⟩, hi.at fun o q => k it (by simp) o q, hne⟩
  item := by
    intro X hP hw hK hc i pins s σ H E I hf st hg
    subst hP hw hK
    obtain ⟨⟨old, he⟩, hit, hne⟩ := st
    obtain ⟨xs, x, hq, hx⟩ := hg
    obtain ⟨its, rv, p, hz⟩ := I.tuple hq
    obtain ⟨u, hu, ru⟩ := rv.get hx
    have hel : e < s.heap.objs.size := Heap.lt_size he
    have hil : it < s.heap.objs.size := by obtain ⟨_, q, _⟩ := hit; exact Heap.lt_size q
    have hale : a ≠ it := fun z => by
      obtain ⟨o1, q1, c1, _⟩ := hit
      obtain ⟨o2, q2, c2, _⟩ := p
      rw [z, q1] at q2
      cases q2
      rw [c1] at c2
      exact absurd (Value.type.inj c2) (by decide)
    have haee : e ∉ ([it, a] : List Addr) := fun z => by
      have z' : e = it ∨ e = a := by simpa using z
      rcases z' with z' | z'
      · exact hne z'
      · obtain ⟨o2, q2, c2, _⟩ := p
        rw [← z', show s.heap.get? e = _ from he] at q2
        cases q2
        exact absurd (Value.type.inj c2) (by decide)
    have hlt : i < its.toArray.size := by
      rw [List.size_toArray]
      exact (List.getElem?_eq_some_iff.mp hu).1
    refine wpAny_pyNext_enum_itemC (Draws.tuple (show X.A.in1.handled = none from I.ok.hd hc) it a hale its.toArray) he ⟨hit, p⟩ hlt hne haee fun x1 h' tk hx1 ho hst' hT hsz hk => ?_
    obtain ⟨hit', _⟩ := hst'
    have ex1 : x1 = u := by
      have q1 : its.toArray[i]? = some x1 := hx1
      rw [show its.toArray[i]? = its[i]? by simp, hu] at q1
      exact (Option.some.inj q1).symm
    subst ex1
    refine ⟨_, rfl, wpAny_letOwnedTupleGo_enum (s := { s with heap := h', toks := tk + 1 }) ho fun h'' he' sb => ?_⟩
    have hT2 : h''.get? s.heap.objs.size = some { cls := .type "tuple", data := .seq #[.int i tk, x1] } := (sb.2 _ (Nat.ne_of_gt hel)).trans hT
    have new : ObjOk X.prog X.w (upd H s.heap.objs.size (.tup [.int (i : Nat), x])) h'' s.heap.objs.size (.tup [.int (i : Nat), x]) :=
      ⟨by show 2 ≤ sizeLine; decide, [.int i tk, x1], .cons ⟨_, rfl⟩ (.cons ru .nil), ⟨_, hT2, rfl, _, rfl⟩⟩
    have I1 : Inv X pins σ (upd H s.heap.objs.size (.tup [.int (i : Nat), x])) { s with heap := h'', toks := tk + 1 } :=
      I.turnedNew (ch := [e, it]) (fun b ob hb q => (sb.2 b (fun z => hb (by simp [z]))).trans (hk b ob (fun z => hb (by simp [z])) (fun z => hb (by simp [z])) q)) hf (Nat.le_refl _) new
    refine ⟨.ref s.heap.objs.size, _, I1, rfl, ⟨_, x, rfl, I.hok.fresh (Nat.le_refl _), rfl, fun ys hy => by rw [I.tuple_inj hy hq]; exact hx⟩, ⟨⟨x1, ?_⟩, hit'.at fun o q => (sb.2 it (Ne.symm hne)).trans q, hne⟩, fun b hb => ?_⟩
    · have e1 : ((i + 1 : Nat) : Int) = (i : Int) + 1 := by omega
      rw [e1]; exact he'
    · have hb' : b < s.heap.objs.size := by
        have e' : b = e ∨ b = it := by simpa using hb
        rcases e' with z | z
        · rw [z]; exact hel
        · rw [z]; exact hil
      rw [upd_ne (Nat.ne_of_lt hb')]
      exact (hf b hb).1
  done := by
    intro X hP hw hK hc i pins s σ H E I hf st hg
    subst hP hw hK
    obtain ⟨⟨old, he⟩, hit, hne⟩ := st
    obtain ⟨xs, hq, hx⟩ := hg
    obtain ⟨its, rv, p, hz⟩ := I.tuple hq
    obtain ⟨f0, f1, f2, f3, f4, f5⟩ := hf it (by simp)
    have hale : a ≠ it := fun z => by
      obtain ⟨o1, q1, c1, _⟩ := hit
      obtain ⟨o2, q2, c2, _⟩ := p
      rw [z, q1] at q2
      cases q2
      rw [c1] at c2
      exact absurd (Value.type.inj c2) (by decide)
    have hn : its.toArray.size = i := by rw [List.size_toArray, ← rv.length]; exact hx
    refine wpAny_pyNext_enum_endD (Draws.tuple (show X.A.in1.handled = none from I.ok.hd hc) it a hale its.toArray) he ⟨by rw [hn]; exact hit, p⟩ fun h' eb => ⟨rfl, I.turned (t' := s.toks) (fun b o hb q => eb b o hb q) f0 f1 f3 f4 f5⟩
  self := fun A i s Q E st h => let ⟨⟨_, he⟩, _⟩ := st; wpAny_pyIter_enum he h
/-- enumerate(t): the iterator over the tuple, the enumerate object -/
theorem meets_enumerate_newT (l : Addr) (items : Array Value) (n : Nat) (dct : Option Addr) (sl : Array (Option Value)) :
    Meets (Builtin.«enumerate.__new__» ⟨[.type "enumerate", .ref l], []⟩) (fun _ R s => s.heap.get? l = some { cls := .type "tuple", dict := dct, data := .seq items n, slots := sl } ∧
      R (.ok (.ret (.ref (s.heap.push { cls := .type "tuple_iterator", data := .fields #[.ref l, .int 0 0] }).objs.size)))
        { s with heap := (s.heap.push { cls := .type "tuple_iterator", data := .fields #[.ref l, .int 0 0] }).push { cls := .type "enumerate", data := .fields #[.none, .bool false, .ref s.heap.objs.size, rawInt 0, .none, .none] } }) :=
  .of_wp fun prog w A R s h => by
    obtain ⟨hp, g, d, tk, os⟩ := s; obtain ⟨hl, h⟩ := h
    have hsub := sub_enumerate
    have hL : Heap.IsTuple (Shared.heap ⟨hp, g, d, tk, os⟩) l items := ⟨_, hl, rfl, n, rfl⟩
    wp_walk using AutoSeq1.wpAny_loadPart' hl
    refine wpAny_stack_any fun st => wpAny_pure ?_
    split
    · rename_i c _ _ _ _ _
      cases (c == Value.type "enumerate")
      · wp_walk using AutoSeq1.wpAny_loadPart' hl, wpAny_pyIter_tuple hL
        exact ⟨_, rfl, h⟩
      · wp_walk using AutoSeq1.wpAny_loadPart' hl, wpAny_pyIter_tuple hL
        exact ⟨_, rfl, h⟩
    · wp_walk using AutoSeq1.wpAny_loadPart' hl, wpAny_pyIter_tuple hL
      exact ⟨_, rfl, h⟩
theorem call_enumerate_tuple {prog : Program} {w : World} {A : Around} {E : Value → Shared → Prop} {s : Shared} {l : Addr} {items : Array Value} {Q : Value → Shared → Prop} (hL : s.heap.IsTuple l items)
    (h : ∀ h', IsEnum h' (s.heap.objs.size + 1) s.heap.objs.size 0 .none → h'.IsTupleIter s.heap.objs.size l 0 → h'.objs.size = s.heap.objs.size + 2 →
      (∀ b o, s.heap.get? b = some o → h'.get? b = some o) → Q (.ref (s.heap.objs.size + 1)) { s with heap := h' }) :
    wpAny (model prog w) A (call (.type "enumerate") [.ref l]) Q E s := by
  obtain ⟨⟨c, dct, dt, sl⟩, hl, hc, n, hd⟩ := hL
  replace hc : c = .type "tuple" := hc
  replace hd : dt = .seq items n := hd
  subst hc hd
  refine callType_new F.called_enumerate (by decide) (F.typeCall_enumerate_1 _) (F.newCall_enumerate_1 _) (fun obj => F.args_object_init_2 obj _) F.entry_enumerate_new
    (meets_enumerate_newT l items n dct sl) ⟨hl, ?_⟩
  have hz : (s.heap.push { cls := .type "tuple_iterator", data := .fields #[.ref l, .int 0 0] }).objs.size = s.heap.objs.size + 1 := Heap.size_push ..
  show _ ∧ _
  rw [hz]
  have he : IsEnum ((s.heap.push { cls := .type "tuple_iterator", data := .fields #[.ref l, .int 0 0] }).push
      { cls := .type "enumerate", data := .fields #[.none, .bool false, .ref s.heap.objs.size, rawInt 0, .none, .none] }) (s.heap.objs.size + 1) s.heap.objs.size 0 .none := by
    have := Heap.get?_push_size (s.heap.push { cls := .type "tuple_iterator", data := .fields #[.ref l, .int 0 0] })
      (o := { cls := .type "enumerate", data := .fields #[.none, .bool false, .ref s.heap.objs.size, rawInt 0, .none, .none] }) rfl
    rw [hz] at this; exact this
  refine ⟨⟨_, he, rfl⟩, h _ he ⟨_, Heap.get?_push_of_some _ (Heap.get?_push_size _ rfl), rfl, rfl⟩ (by rw [Heap.size_push, hz]) fun b o x => Heap.get?_push_of_some _ (Heap.get?_push_of_some _ x)⟩
/-- enumerate(v), v a list or a tuple -/
def iEnumA (K : PySem.W.Frag) (ta : TA) : TI := fun σ H R => ta σ H fun vs H1 => ∃ a xs, vs = [.ref a] ∧ ((SqL K H1 a xs ∧ R (Ite K a) H1) ∨ (SqT K H1 a xs ∧ R (IteT K a) H1))
theorem pi_enumA {X : Cx} {e : Expr} {ta : TA} {p pos tpos : Pos} {elts : List Expr} {kk : Nat} (hg : Gl X "enumerate") (hm : X.mg "enumerate" = none) (ha : PA X [e] ta) (hs : starEach [e] X.env = [(false, eval e X.env)] := by rfl) :
    PI X (.Tuple elts kk tpos) (.Call (.Name "enumerate" p) [e] [] pos) (iEnumA X.K ta) := by
  refine ⟨fun pins s σ H R I h => ?_⟩
  refine Call_ (ld_blt I hg hm boot_enumerate (PyProof.Rows.callWith_type1 (thn (ha.run pos pins s σ H _ I h) fun us s1 ⟨vs, H1, I1, r1, q1⟩ => ?_) hs rfl))
  obtain ⟨a, xs, ex, hq⟩ := q1
  subst ex
  obtain ⟨u, rfl, ru⟩ := vals1 r1
  cases (show u = Value.ref a from ru)
  have two : ∀ b ∈ ([s1.heap.objs.size + 1, s1.heap.objs.size] : List Addr), s1.heap.objs.size ≤ b := fun b hb => by
    have e' : b = s1.heap.objs.size + 1 ∨ b = s1.heap.objs.size := by simpa using hb
    rcases e' with z | z
    · rw [z]; exact Nat.le_add_right _ _
    · rw [z]; exact Nat.le_refl _
  rcases hq with ⟨hq, q⟩ | ⟨hq, q⟩
  · obtain ⟨its, rv, p', hz⟩ := I1.list hq
    refine call_enumerate_list p'.isList fun h' he hit hsz hk => wpAny_pyIter_enum he ?_
    have I2 : Inv X pins σ H1 { s1 with heap := h' } := I1.kept (t' := s1.toks) hk
    exact ⟨s1.heap.objs.size + 1, [s1.heap.objs.size + 1, s1.heap.objs.size], _, _, H1, rfl, I2, turn_enum a (s1.heap.objs.size + 1) s1.heap.objs.size, ⟨⟨.none, he⟩, hit, Nat.succ_ne_self _⟩, fun b hb => I1.fpOk (two b hb) (I1.hok.fresh (two b hb)), q⟩
  · obtain ⟨its, rv, p', hz⟩ := I1.tuple hq
    refine call_enumerate_tuple p' fun h' he hit hsz hk => wpAny_pyIter_enum he ?_
    have I2 : Inv X pins σ H1 { s1 with heap := h' } := I1.kept (t' := s1.toks) hk
    exact ⟨s1.heap.objs.size + 1, [s1.heap.objs.size + 1, s1.heap.objs.size], _, _, H1, rfl, I2, turn_enumT a (s1.heap.objs.size + 1) s1.heap.objs.size, ⟨⟨.none, he⟩, hit, Nat.succ_ne_self _⟩, fun b hb => I1.fpOk (two b hb) (I1.hok.fresh (two b hb)), q⟩
/-! ### sorted of a dict whose keys are pairs of ints -/
/-- a pair as a key -/
def pairK (p : Int × Int) : List Key := [.inl p.1, .inl p.2]
/-- sorted(d): a new list of the key tuples, by their ints -/
def rSortedTK : List V → Hp → VK → Prop := fun vs H Q => ∃ (a : Addr) (kvs : List ((Int × Int) × V)), vs = [V.ref a] ∧ H a = some (.dT (kvs.map fun e => (pairK e.1, e.2))) ∧ kvs.length < 64 ∧
  ∀ (L : List (Addr × Int × Int)) (p : Addr), (∀ e ∈ L, H e.1 = some (.tup [.int e.2.1, .int e.2.2])) → (L.map (·.2)).Perm (kvs.map (·.1)) → (L.map (·.2)).Pairwise (fun x y => SrtO.lexB y x = false) → H p = none → Q (.ref p) (upd H p (.lst (L.map fun e => V.ref e.1)))
theorem kt_list {H : Hp} : ∀ {kvs : List ((Int × Int) × V)} {ks : List (List Key × Addr × Value)}, KT H (kvs.map fun e => (pairK e.1, e.2)) ks → ∃ L : List (Addr × Int × Int), L.map (·.2) = kvs.map (·.1) ∧ ks.map (fun x => x.2.1) = L.map (·.1) ∧ ∀ e ∈ L, H e.1 = some (.tup [.int e.2.1, .int e.2.2])
  | [], ks, r => by
    cases r
    exact ⟨[], rfl, rfl, fun e he => by cases he⟩
  | e :: kvs, ks, r => by
    cases r with
    | @cons p q ps qs h t =>
      obtain ⟨L, h1, h2, h3⟩ := kt_list (kvs := kvs) t
      refine ⟨(q.2.1, e.1) :: L, by rw [List.map_cons, List.map_cons, h1], by rw [List.map_cons, List.map_cons, h2], fun z hz => ?_⟩
      rcases List.mem_cons.mp hz with hz | hz
      · subst hz
        exact h.2.1
      · exact h3 z hz
section
variable {X : Cx}
theorem cr_sortedTK (hc : X.calm = true) : CallR X (.builtin "sorted") rSortedTK := by
  intro pins s σ H vs us Q I r h
  obtain ⟨d, kvs, rfl, hd, h64, q⟩ := h
  obtain ⟨u, rfl, rx⟩ := vals1 r
  cases (show u = Value.ref d from rx)
  obtain ⟨z, hs, ks, pr, o, es, ep, ho, hx, hdt, he, hn⟩ := (show ObjOk X.prog X.w H s.heap d (.dT (kvs.map fun e => (pairK e.1, e.2))) from I.hok d _ hd)
  have l1 : es.size = ks.length := size_of_entries he
  have l2 : kvs.length = ks.length := by
    have e := Paired.length pr
    rw [List.length_map] at e
    exact e
  obtain ⟨L, hL1, hL2, hL3⟩ := kt_list pr
  have lL : L.length = kvs.length := by
    have e := congrArg List.length hL1
    rw [List.length_map, List.length_map] at e
    exact e
  refine Calls.call_function_entry PyProof.Rows.kind_sorted PyProof.Rows.plain_sorted PyProof.Rows.entry_sorted (PyProof.Rows.args_sorted1 _) ?_
  unfold Builtin.«sorted»
  refine wpAny_bind (m := checkCount "sorted" 1 1 _) (wpAny_pure ?_)
  refine wpAny_bind (PySem.W.kdu_collect (A := X.A.in1) (kdl_raw hs hx hdt) (I.ok.hd hc) ho (by rw [sizeLine_eq]; omega) fun h' tk acc' kp it => ?_)
  have ea : acc'.toList = L.map fun e => Value.ref e.1 := by
    have e0 : (L.map fun e => Value.ref e.1) = ks.map fun x => Value.ref x.2.1 := by
      have e1 := congrArg (List.map Value.ref) hL2
      rw [List.map_map, List.map_map] at e1
      exact e1.symm
    rw [e0]
    have hl : acc'.toList.length = ks.length := by rw [Array.length_toList, it.1]; exact l1
    apply List.ext_getElem?
    intro j
    rw [List.getElem?_map]
    cases hj : acc'.toList[j]? with
    | none =>
      have h1 := List.getElem?_eq_none_iff.mp hj
      rw [List.getElem?_eq_none (by omega)]
      all_goals rfl
    | some v =>
      obtain ⟨en, hen, hv⟩ := it.2 j v (by rw [← Array.getElem?_toList]; exact hj)
      have qe := entry_at he j
      rw [hen] at qe
      cases hb : ks[j]? with
      | none =>
        rw [hb] at qe
        exact nomatch (show some en = none from qe)
      | some b =>
        rw [hb] at qe
        have e2 : en = entryOfKey (tupleKind (mixKind X.prog X.w)) b := Option.some.inj qe
        rw [hv, e2]
        all_goals rfl
  rw [ea]
  have hlen : (L.map fun e => Value.ref e.1).length < 64 := by rw [List.length_map, lL]; exact h64
  refine wpAny_bind (wpAny_newList ?_ (by rw [sizeLine_eq]; omega))
  have hoL : (h'.push (seqObj "list" (L.map fun e => Value.ref e.1).toArray 0)).get? h'.objs.size = some (seqObj "list" (L.map fun e => Value.ref e.1).toArray 0) := Heap.get?_push_size _ rfl
  show wpAny _ _ _ _ _ { s with heap := h'.push (seqObj "list" (L.map fun e => Value.ref e.1).toArray 0), toks := tk }
  -- what the ints of a key are, by its address
  let kf : Value → Int × Int := fun v => match v with
    | .ref b => ((L.find? fun e => decide (e.1 = b)).map (·.2)).getD (0, 0)
    | _ => (0, 0)
  have hkf : ∀ e ∈ L, kf (.ref e.1) = e.2 := fun e hm => by
    show ((L.find? fun z => decide (z.1 = e.1)).map (·.2)).getD (0, 0) = e.2
    cases hf : L.find? fun z => decide (z.1 = e.1) with
    | none =>
      have := List.find?_eq_none.mp hf e hm
      simp at this
    | some z =>
      have h1 := List.mem_of_find?_eq_some hf
      have h2 : z.1 = e.1 := by
        have := List.find?_some hf
        exact of_decide_eq_true this
      have a1 := hL3 z h1
      have a2 := hL3 e hm
      rw [h2, a2] at a1
      simp only [Option.some.injEq, HO.tup.injEq, List.cons.injEq, V.int.injEq] at a1
      show z.2 = e.2
      exact Prod.ext a1.1.symm a1.2.1.symm
  have I1 : Inv X pins σ H { s with heap := h', toks := tk } := I.kept kp
  have hp : ∀ v ∈ (L.map fun e => Value.ref e.1), Srt.IsPair (h'.push (seqObj "list" (L.map fun e => Value.ref e.1).toArray 0)) v (kf v).1 (kf v).2 := fun v hv => by
    obtain ⟨e, hm, ev⟩ := List.mem_map.mp hv
    subst ev
    rw [hkf e hm]
    obtain ⟨_, its2, r2, o2, ho2, hc2, n2, hd2⟩ := I1.hok _ _ (hL3 e hm)
    obtain ⟨u1, u2, rfl, ri, rj⟩ := vals2 r2
    obtain ⟨t1, rfl⟩ := ri
    obtain ⟨t2, rfl⟩ := rj
    exact ⟨e.1, o2, t1, t2, n2, rfl, Heap.get?_push_of_some _ ho2, hc2, hd2⟩
  refine wpAny_bind (wpAny_holding (wpAny_call_entry PyProof.Rows.slot_list_sort ⟨_, hoL, rfl⟩ PyProof.Rows.entry_list_sort
    (SrtO.list_sort_ord (s := { s with heap := h'.push (seqObj "list" (L.map fun e => Value.ref e.1).toArray 0), toks := tk }) (SrtO.swo_lex kf) hoL (by rw [sizeLine_eq]; omega) (fun h2 => SrtO.pairs_sortableO (by omega) hp fun o e => ?_) fun out h1 h2 => ⟨_, rfl, ?_⟩) (PyProof.Rows.args_list_sort _)))
  · have e' : some o = some (seqObj "list" (L.map fun e => Value.ref e.1).toArray 0) := e.symm.trans hoL
    cases e'
    intro c
    exact absurd (Value.type.inj c) (by decide)
  · have hperm : out.Perm (L.map fun e => Value.ref e.1) := h2.perm
    have hex : ∀ v ∈ out, ∃ b, v = Value.ref b ∧ H b = some (.tup [.int (kf v).1, .int (kf v).2]) := fun v hv => by
      obtain ⟨e, hm, ev⟩ := List.mem_map.mp (hperm.mem_iff.mp hv)
      subst ev
      exact ⟨e.1, rfl, by rw [hkf e hm]; exact hL3 e hm⟩
    let adr : Value → Addr := fun v => match v with
      | .ref b => b
      | _ => 0
    have hout : out = (out.map fun v => (adr v, kf v)).map fun e => Value.ref e.1 := by
      rw [List.map_map]
      have : ∀ v ∈ out, ((fun e : Addr × Int × Int => Value.ref e.1) ∘ fun v => (adr v, kf v)) v = v := fun v hv => by
        obtain ⟨b, eb, _⟩ := hex v hv
        subst eb
        rfl
      rw [List.map_congr_left this, List.map_id']
    obtain ⟨e', he'⟩ := PyProof.Rows.sortedHeap_at (vs := (L.map fun e => Value.ref e.1)) (out := out.toArray) hoL
    have rv : Vals ((out.map fun v => (adr v, kf v)).map fun e => V.ref e.1) out := by
      rw [hout]
      have key : ∀ l : List (Addr × Int × Int), Vals (l.map fun e => V.ref e.1) (l.map fun e => Value.ref e.1) := fun l => by
        induction l with
        | nil => exact .nil
        | cons a l ih => exact .cons rfl ih
      have k2 := key (out.map fun v => (adr v, kf v))
      rw [← hout]
      rw [← hout] at k2
      exact k2
    refine wpAny_pure ⟨_, rfl, .ref h'.objs.size, upd H h'.objs.size (.lst ((out.map fun v => (adr v, kf v)).map fun e => V.ref e.1)), I1.laid (t' := tk) (fun b u e => ?_) (Nat.le_refl _)
      (show ObjOk X.prog X.w _ _ _ (.lst ((out.map fun v => (adr v, kf v)).map fun e => V.ref e.1)) from ⟨?_, out, e', rv, he'⟩), rfl, q (out.map fun v => (adr v, kf v)) _ (fun e hm => ?_) ?_ ?_ (I1.hok.fresh (Nat.le_refl _))⟩
    · have hb : b < h'.objs.size := Heap.lt_size e
      rw [PyProof.Rows.sortedHeap_old (Nat.ne_of_lt hb) (by rw [size_push']; exact Nat.lt_succ_of_lt hb)]
      exact Heap.get?_push_of_some _ e
    · rw [List.length_map, List.length_map, hperm.length_eq, sizeLine_eq]
      omega
    · obtain ⟨v, hv, ev⟩ := List.mem_map.mp hm
      subst ev
      obtain ⟨b, eb, hb⟩ := hex v hv
      subst eb
      exact hb
    · rw [List.map_map]
      have e1 : (out.map ((fun e : Addr × Int × Int => e.2) ∘ fun v => (adr v, kf v))).Perm ((L.map fun e => Value.ref e.1).map kf) := hperm.map kf
      have e2 : (L.map fun e => Value.ref e.1).map kf = L.map (·.2) := by
        rw [List.map_map]
        exact List.map_congr_left fun e hm => hkf e hm
      rw [e2, hL1] at e1
      exact e1
    · rw [List.map_map]
      exact List.pairwise_map.mpr (h1.imp fun {x y} hxy => hxy)
end
end K19

set_option Elab.async false
set_option linter.all false
set_option maxRecDepth 100000
set_option maxHeartbeats 4000000
/-! facts of the text, what stands in the heap, pure comprehensions -/
namespace K19
open PySem PySem.Spec PyProof.Rows L2
/-! ### the facts of the text -/
abbrev AG (K : PySem.W.Frag) (x : Str) : Addr := He.ga K x
abbrev SC (K : PySem.W.Frag) : Addr := He.ga K "Store"
abbrev AM (K : PySem.W.Frag) (m : Str) : Addr := He.ma K (SC K) m
def flds : List Str := ["policy", "present", "fixed", "known", "deleted", "past"]
def meths : List Str := ["__init__", "__len__", "__eq__", "state", "change", "check_time", "check_present", "add", "prune", "protect", "release", "delete", "undo", "snapshots", "protected", "missed"]
def glos : List Str := ["is_between", "is_ascending", "is_shape", "is_rule", "is_policy", "check_policy", "bucket", "newest_by", "pruned", "union", "without", "_law_source", "_law_draw", "_law_is_int", "_law_choice", "_law_error_names", "_law_outcome", "_law_kind", "_law_equal", "_law_policy", "_law_bucket", "_law_union", "_law_fast", "_law_call", "_law_error", "_law_after", "_law_execute", "_law_correct", "law"]
def clss : List Str := ["RetentionError", "InvalidPolicy", "InvalidSnapshots", "InvalidText", "InvalidIndex", "InvalidTime", "InvalidSites", "InvalidScript", "InvalidSchedule", "InvalidNumber", "InvalidShapes", "InvalidStore", "AlreadyKnown", "NotPresent", "AlreadyProtected", "NotProtected", "ProtectedError", "CapacityError", "NothingToUndo", "TooWide", "Store"]
def frees : List Str := ["isinstance", "len", "all", "zip", "tuple", "sorted", "list", "set", "range", "enumerate", "str", "bool", "int", "ValueError"]
def numT : List (Str × Int) := [("MAX_TIME", 1000000000000), ("MAX_SNAPSHOTS", 200), ("MAX_PERIOD", 1000000), ("MAX_COUNT", 24), ("MAX_RULES", 3)]
structure Tx (K : PySem.W.Frag) (mg : Str → Option Value) : Prop where
  glo : ∀ x ∈ glos, mg x = some (.ref (AG K x))
  cls : ∀ x ∈ clss, mg x = some (.ref (AG K x))
  free : ∀ x ∈ frees, mg x = none
  num : ∀ e ∈ numT, ∃ t, mg e.1 = some (.int e.2 t)
  cl : Cls K (SC K)
  mkr : Mk K (SC K) (AM K "__init__")
  noat : ∀ f ∈ flds, NoAttr K (SC K) f
  meth : ∀ m ∈ meths, Meth K (SC K) m (AM K m)
  exc : ∀ x ∈ raised, PySem.W.excIn K (AG K x) He.veBase "ValueError.__new__" = true ∧ PySem.W.keepIn K (.ref (AG K x)) = true ∧ PySem.W.subIn K (.ref (AG K x)) (.type "BaseException") = some true ∧ PySem.W.typeIn K (.ref (AG K x)) = some (.type "type")
  exm : ∀ x ∈ raised, PySem.W.exmOne K (.ref (AG K x)) (.ref (AG K "TooWide")) = some false ∧ PySem.W.exmOne K (.ref (AG K x)) (.ref (AG K "RetentionError")) = some true
  excC : ∀ x ∈ raised, ExcC K (AG K x)
  kit : ∀ x ∈ raised, ∀ y ∈ words, PySem.W.kitOne K (.ref (AG K x)) (.ref (AG K y)) = some (decide (x = y))
  kitV : ∀ x ∈ raised, PySem.W.kitOne K (.ref (AG K x)) (.type "ValueError") = some true
  ins : C8.InsC K (SC K) ∧ PySem.W.kitOne K (.type "tuple") (.ref (SC K)) = some false ∧ PySem.W.notFirst K (SC K) (.type "tuple") = true
  def_ : ∀ d ∈ fn, ∃ fd, FunD K d.name d.qual d.params d.body d.scope (d.dvs K) (d.kws K) (He.fAd K d.at_) fd
/-! ### what a def does -/
def Does (P : Program) (w : World) (K : PySem.W.Frag) (mg : Str → Option Value) (base : Heap) (CX : CXT) (n : Nat) (f : Addr) (ps : List Str) (sp : Sp) : Prop :=
  ∃ fd, FnOk P w K mg base CX n f fd ps sp ∧ Binds K fd ps [] ∧ PySem.W.keepIn K (.ref f) = true
abbrev CX0 : CXT := C8.CX0
abbrev E0 : XK := C8.E0
section
variable {X : Cx} {CX : CXT} {k : Nat} {f C : Addr} {ps : List Str} {sp : Sp} {E : XK} {x m : Str} {p pos apos : Pos} {e o : Expr} {es : List Expr} {ta : TE} {t : TA}
/-- x(e, ..): nothing is raised -/
theorem pf (D : Does X.prog X.w X.K X.mg X.base CX0 k f ps sp) (hr : Room k X.A) (hm : X.mg x = some (.ref f)) (ha : PA X (e :: es) t) (hg : Gl X x := by rfl)
    (hdb : (x == ("__debug__" : Str)) = false := by decide) (he : starEach (e :: es) X.env = (false, eval e X.env) :: starEach es X.env := by rfl) (hpl : (backTo pos (starEach es X.env)).any (·.1) = false := by rfl) :
    PE X (.Call (.Name x p) (e :: es) [] pos) (tCall sp [] E0 t) := by
  obtain ⟨fd, F, b, kp⟩ := D
  exact pe_call F hr hg hm kp b .nil C8.pass0 ha hdb he hpl
def plAt (o : Expr) (m : Str) (apos : Pos) : Sem Bool := pure false
end
/-! ### what stands in the heap -/
def Tk (H H' : Hp) : Prop := ∀ b xs, H b = some (.tup xs) → H' b = some (.tup xs)
theorem Tk.refl (H : Hp) : Tk H H := fun _ _ h => h
theorem Tk.trans {H H1 H2 : Hp} (a : Tk H H1) (b : Tk H1 H2) : Tk H H2 := fun c xs h => b c xs (a c xs h)
theorem Tk.of {H H' : Hp} (e : Same H H') : Tk H H' := fun b _ h => e b _ h
theorem Same.upd {H : Hp} {p : Addr} {o : HO} (h : H p = none) : Same H (upd H p o) := fun b u e => by
  rw [upd_ne (ne_of_none e h)]
  exact e
theorem Tk.upd {H : Hp} {p : Addr} {o : HO} (h : ∀ xs, H p ≠ some (.tup xs)) : Tk H (upd H p o) := fun b xs e => by
  rw [upd_ne (fun z => h xs (by rw [← z]; exact e))]
  exact e
def VInts (H : Hp) (v : V) (ns : List Int) : Prop := ∃ a, v = .ref a ∧ H a = some (.tup (ns.map V.int))
def VRule (H : Hp) (v : V) (r : Rule) : Prop := ∃ a, v = .ref a ∧ H a = some (.tup [.int r.1, .int r.2.1, .int r.2.2])
def VPol (H : Hp) (v : V) (pol : List Rule) : Prop := ∃ a vs, v = .ref a ∧ H a = some (.tup vs) ∧ Paired (VRule H) vs pol
def VSt (H : Hp) (v : V) (s : S4) : Prop := ∃ a v1 v2 v3 v4, v = .ref a ∧ H a = some (.tup [v1, v2, v3, v4]) ∧ VInts H v1 s.p ∧ VInts H v2 s.f ∧ VInts H v3 s.k ∧ VInts H v4 s.d
section
variable {H H' : Hp} {v : V}
theorem VInts.mono {ns : List Int} (h : VInts H v ns) (e : Tk H H') : VInts H' v ns := by
  obtain ⟨a, h1, h2⟩ := h
  exact ⟨a, h1, e _ _ h2⟩
theorem VRule.mono {r : Rule} (h : VRule H v r) (e : Tk H H') : VRule H' v r := by
  obtain ⟨a, h1, h2⟩ := h
  exact ⟨a, h1, e _ _ h2⟩
theorem VPol.mono {pol : List Rule} (h : VPol H v pol) (e : Tk H H') : VPol H' v pol := by
  obtain ⟨a, vs, h1, h2, h3⟩ := h
  exact ⟨a, vs, h1, e _ _ h2, L2.Paired.mapP h3 fun _ _ q => q.mono e⟩
theorem VSt.mono {s : S4} (h : VSt H v s) (e : Tk H H') : VSt H' v s := by
  obtain ⟨a, v1, v2, v3, v4, h1, h2, h3, h4, h5, h6⟩ := h
  exact ⟨a, v1, v2, v3, v4, h1, e _ _ h2, h3.mono e, h4.mono e, h5.mono e, h6.mono e⟩
end
/-- kept: all but the objects in S; the tuples always -/
structure Fr (S : List Addr) (H H' : Hp) : Prop where
  keep : ∀ b o, H b = some o → b ∉ S → H' b = some o
  tup : Tk H H'
theorem Fr.refl (S : List Addr) (H : Hp) : Fr S H H := ⟨fun _ _ h _ => h, Tk.refl _⟩
theorem Fr.trans {S : List Addr} {H H1 H2 : Hp} (a : Fr S H H1) (b : Fr S H1 H2) : Fr S H H2 := ⟨fun c o h n => b.keep c o (a.keep c o h n) n, a.tup.trans b.tup⟩
theorem Fr.of {S : List Addr} {H H' : Hp} (e : Same H H') : Fr S H H' := ⟨fun b o h _ => e b o h, Tk.of e⟩
theorem Fr.same {H H' : Hp} (e : Fr [] H H') : Same H H' := fun b o h => e.keep b o h (by simp)
theorem Fr.mono {S S' : List Addr} {H H' : Hp} (e : Fr S H H') (h : ∀ b ∈ S, b ∈ S') : Fr S' H H' := ⟨fun b o z n => e.keep b o z fun hb => n (h b hb), e.tup⟩
/-- the store at x, its past at pa -/
def IsSto (C x pa : Addr) (H : Hp) (pol : List Rule) (hist : List S4) (cur : S4) : Prop :=
  ∃ dx vp v1 v2 v3 v4 pvs, H x = some (.ins C dx [("policy", vp), ("present", v1), ("fixed", v2), ("known", v3), ("deleted", v4), ("past", .ref pa)]) ∧ VPol H vp pol ∧ VInts H v1 cur.p ∧ VInts H v2 cur.f ∧ VInts H v3 cur.k ∧ VInts H v4 cur.d ∧
    H pa = some (.lst pvs) ∧ Paired (VSt H) pvs hist
theorem IsSto.kept {C x pa : Addr} {S : List Addr} {H H' : Hp} {pol : List Rule} {hist : List S4} {cur : S4} (h : IsSto C x pa H pol hist cur) (e : Fr S H H') (hx : x ∉ S) (hp : pa ∉ S) : IsSto C x pa H' pol hist cur := by
  obtain ⟨dx, vp, v1, v2, v3, v4, pvs, h1, h2, h3, h4, h5, h6, h7, h8⟩ := h
  exact ⟨dx, vp, v1, v2, v3, v4, pvs, e.keep _ _ h1 hx, h2.mono e.tup, h3.mono e.tup, h4.mono e.tup, h5.mono e.tup, h6.mono e.tup, e.keep _ _ h7 hp, L2.Paired.mapP h8 fun _ _ q => q.mono e.tup⟩
/-! ### comprehensions whose step only adds -/
section
variable {K : PySem.W.Frag} {a b : Addr} {xs ys : List V} {g : TG} {tt : TT} {te : TE} {vs : List Nat} {σ : L2.St} {H1 : Hp} {Qd : Addr → Hp → Prop}
theorem sz_lt {n : Nat} (h : n ≤ 100000) : n < sizeLine := by rw [sizeLine_eq]; omega
theorem lc_tupG (R : Nat → List V → Hp → Prop) (ha : H1 a = some (.tup xs)) (hz : xs.length ≤ 100000) (hR : ∀ i acc H H', Tk H H' → R i acc H → R i acc H') (h0 : R 0 [] H1)
    (hs : ∀ i x acc H (N : V → Hp → Prop) (N0 : Hp → Prop), xs[i]? = some x → Same H1 H → R i acc H → (∀ y H4, Same H H4 → R (i + 1) (acc ++ [y]) H4 → N y H4) → (∀ H3, Same H H3 → R (i + 1) acc H3 → N0 H3) →
      g x (wipe σ vs) H fun σ2 H2 => wipe σ2 vs = wipe σ vs ∧ tt σ2 H2 fun b H3 => if b = true then te σ2 H3 N else N0 H3)
    (hd : ∀ acc H D, Same H1 H → H1 D = none → H D = some (.lst acc) → R xs.length acc H → Qd D H) :
    ∀ D, H1 D = none → ∃ W : Nat → Nat → Hp → Prop, (∃ m, W 0 m (upd H1 D (.lst []))) ∧ ∀ i m H, W i m H →
      ((Itt K a).stop i H ∧ Qd D H) ∨ ((Itt K a).go i H ∧ ∃ Nx : Hp → Prop, (∀ H', Nx H' → ∃ m', m' < m ∧ W (i + 1) m' H') ∧ ∀ x H', (Itt K a).yld i H x H' → g x (wipe σ vs) H' fun σ2 H2 => wipe σ2 vs = wipe σ vs ∧ tt σ2 H2 fun b H3 =>
        if b = true then te σ2 H3 fun y H4 => ∃ acc, H4 D = some (.lst acc) ∧ acc.length < sizeLine ∧ Nx (upd H4 D (.lst (acc ++ [y]))) else Nx H3) := by
  intro D hD
  refine lc_tup (xs := xs) (Qd := Qd D) (fun i H => i ≤ xs.length ∧ ∃ acc, Same H1 H ∧ H D = some (.lst acc) ∧ acc.length ≤ i ∧ R i acc H) ⟨Nat.zero_le _, [], Same.upd hD, upd_same, Nat.le_refl _, hR _ _ _ _ (Tk.of (Same.upd hD)) h0⟩
    (fun i H _ h => .inl (.inl (h.2.choose_spec.1 _ _ ha))) (fun i x H hx h => ?_) (fun H h => ?_)
  · obtain ⟨hi, acc, sm, hl, hn, r⟩ := h
    have hlt : i < xs.length := (List.getElem?_eq_some_iff.mp hx).1
    refine hs i x acc H _ _ hx sm r (fun y H4 s4 r4 => ?_) (fun H3 s3 r3 => ?_)
    · have hl4 := s4 _ _ hl
      refine ⟨acc, hl4, sz_lt (by omega), hlt, acc ++ [y], fun c o h => ?_, upd_same, by rw [List.length_append]; show acc.length + 1 ≤ _; omega, hR _ _ _ _ (Tk.upd (by rw [hl4]; intro z e; cases e)) r4⟩
      rw [upd_ne (ne_of_none h hD)]
      exact s4 _ _ (sm _ _ h)
    · exact ⟨hlt, acc, sm.trans s3, s3 _ _ hl, by omega, r3⟩
  · obtain ⟨hi, acc, sm, hl, hn, r⟩ := h
    exact hd acc H D sm hD hl r
theorem lc_listG (R : Nat → List V → Hp → Prop) (ha : H1 a = some (.lst xs)) (hz : xs.length ≤ 100000) (hR : ∀ i acc H H', Tk H H' → R i acc H → R i acc H') (h0 : R 0 [] H1)
    (hs : ∀ i x acc H (N : V → Hp → Prop) (N0 : Hp → Prop), xs[i]? = some x → Same H1 H → R i acc H → (∀ y H4, Same H H4 → R (i + 1) (acc ++ [y]) H4 → N y H4) → (∀ H3, Same H H3 → R (i + 1) acc H3 → N0 H3) →
      g x (wipe σ vs) H fun σ2 H2 => wipe σ2 vs = wipe σ vs ∧ tt σ2 H2 fun b H3 => if b = true then te σ2 H3 N else N0 H3)
    (hd : ∀ acc H D, Same H1 H → H1 D = none → H D = some (.lst acc) → R xs.length acc H → Qd D H) :
    ∀ D, H1 D = none → ∃ W : Nat → Nat → Hp → Prop, (∃ m, W 0 m (upd H1 D (.lst []))) ∧ ∀ i m H, W i m H →
      ((Itl K a).stop i H ∧ Qd D H) ∨ ((Itl K a).go i H ∧ ∃ Nx : Hp → Prop, (∀ H', Nx H' → ∃ m', m' < m ∧ W (i + 1) m' H') ∧ ∀ x H', (Itl K a).yld i H x H' → g x (wipe σ vs) H' fun σ2 H2 => wipe σ2 vs = wipe σ vs ∧ tt σ2 H2 fun b H3 =>
        if b = true then te σ2 H3 fun y H4 => ∃ acc, H4 D = some (.lst acc) ∧ acc.length < sizeLine ∧ Nx (upd H4 D (.lst (acc ++ [y]))) else Nx H3) := by
  intro D hD
  refine lc_list (xs := xs) (Qd := Qd D) (fun i H => i ≤ xs.length ∧ ∃ acc, Same H1 H ∧ H D = some (.lst acc) ∧ acc.length ≤ i ∧ R i acc H) ⟨Nat.zero_le _, [], Same.upd hD, upd_same, Nat.le_refl _, hR _ _ _ _ (Tk.of (Same.upd hD)) h0⟩
    (fun i H _ h => .inl (.inl (h.2.choose_spec.1 _ _ ha))) (fun i x H hx h => ?_) (fun H h => ?_)
  · obtain ⟨hi, acc, sm, hl, hn, r⟩ := h
    have hlt : i < xs.length := (List.getElem?_eq_some_iff.mp hx).1
    refine hs i x acc H _ _ hx sm r (fun y H4 s4 r4 => ?_) (fun H3 s3 r3 => ?_)
    · have hl4 := s4 _ _ hl
      refine ⟨acc, hl4, sz_lt (by omega), hlt, acc ++ [y], fun c o h => ?_, upd_same, by rw [List.length_append]; show acc.length + 1 ≤ _; omega, hR _ _ _ _ (Tk.upd (by rw [hl4]; intro z e; cases e)) r4⟩
      rw [upd_ne (ne_of_none h hD)]
      exact s4 _ _ (sm _ _ h)
    · exact ⟨hlt, acc, sm.trans s3, s3 _ _ hl, by omega, r3⟩
  · obtain ⟨hi, acc, sm, hl, hn, r⟩ := h
    exact hd acc H D sm hD hl r
end
end K19

set_option Elab.async false
set_option linter.all false
set_option maxRecDepth 100000
set_option maxHeartbeats 4000000
/-! the program's pure defs -/
namespace K19
open PySem PySem.Spec PyProof.Rows L2
section
variable {P : Program} {w : World} {K : PySem.W.Frag} {mg : Str → Option Value} {base : Heap}
theorem ty_int (H : Hp) (i : Int) : TyX K H (.int i) (.type "int") := .base (.int i)
theorem ty_bl (H : Hp) (b : Bool) : TyX K H (.bl b) (.type "bool") := .base (.bl b)
theorem ty_non (H : Hp) : TyX K H .non (.type "NoneType") := .base .non
theorem ty_tup {H : Hp} {a : Addr} {xs : List V} (e : H a = some (.tup xs)) : TyX K H (.ref a) (.type "tuple") := .base (.tup e)
/-- a time as the law may choose it -/
inductive TimeV : V → Prop
  | int (i : Int) : TimeV (.int i)
  | non : TimeV .non
  | bl (b : Bool) : TimeV (.bl b)
def isIntV (v : V) (lo hi : Int) : Bool := match v with
  | .int i => decide (lo ≤ i) && decide (i ≤ hi)
  | _ => false
def spBetween : Sp := fun vs H Q _ => ∃ v lo hi, vs = [v, .int lo, .int hi] ∧ TimeV v ∧ Q (.bl (isIntV v lo hi)) H
theorem sc_IsBetween : FnScope ["value", "low", "high"] ["value", "low", "high"] (defScope sIsBetween) := ⟨rfl, rfl, rfl, by decide +kernel, rfl, by decide +kernel, by decide +kernel⟩
theorem do_IsBetween (T : Tx K mg) : Does P w K mg base CX0 1 (AG K "is_between") ["value", "low", "high"] spBetween := by
  obtain ⟨fd, F0⟩ := T.def_ dIsBetween (List.mem_of_getElem? (i := 0) rfl)
  have F : FunD K "is_between" "is_between" (defArgs sIsBetween) (defBody sIsBetween) (defScope sIsBetween) [] [] (AG K "is_between") fd := F0
  refine ⟨fd, F.ok sc_IsBetween (fun vs H Q E h => ?len) (fun cdv A outer s H vs Q E hr h => ⟨_, PSs.nox (pss_one (ps_ret ((pe_and (pe_callB call_isi rfl (T.free "isinstance" (by decide +kernel)) (by decide +kernel) (pa_cons (pv 0) (pa_cons (pe_bltn (v := .ty "int") rfl (T.free "int" (by decide +kernel)) (by decide +kernel) rfl) pa_nil))) (pe_and (pe_not (pe_callB call_isi rfl (T.free "isinstance" (by decide +kernel)) (by decide +kernel) (pa_cons (pv 0) (pa_cons (pe_bltn (v := .ty "bool") rfl (T.free "bool" (by decide +kernel)) (by decide +kernel) rfl) pa_nil)))) (pe_one (pe_chain op_le op_le (pv 1) (pv 0) (pv 2)))))))), ?rd⟩), F.bindsN (fun _ _ _ _ _ _ us hl => match us, hl with | [_, _, _], _ => rfl), F.kp⟩
  case len => obtain ⟨v, lo, hi, rfl, _⟩ := h; rfl
  case rd =>
    obtain ⟨v, lo, hi, rfl, tv, hQ⟩ := h
    cases tv with
    | int i =>
      refine ⟨_, rfl, _, _, .type "int", .type "int", true, rfl, .ty _, ty_int _ _, kit_ty (by decide +kernel), true, rfl, ?_⟩
      refine ⟨_, rfl, _, _, .type "int", .type "bool", false, rfl, .ty _, ty_int _ _, kit_ty (by decide +kernel), false, rfl, true, rfl, ?_⟩
      refine ⟨_, rfl, _, rfl, _, _, rfl, rfl, _, rfl, ?_⟩
      by_cases h1 : lo ≤ i
      · rw [if_pos (decide_eq_true h1)]
        refine ⟨_, rfl, _, _, rfl, rfl, ?_⟩
        have e : isIntV (.int i) lo hi = decide (i ≤ hi) := by show (decide (lo ≤ i) && decide (i ≤ hi)) = _; rw [decide_eq_true h1]; rfl
        rw [e] at hQ
        exact hQ
      · rw [if_neg (by rw [decide_eq_false h1]; decide)]
        have e : isIntV (.int i) lo hi = false := by show (decide (lo ≤ i) && decide (i ≤ hi)) = _; rw [decide_eq_false h1]; rfl
        rw [e] at hQ
        exact hQ
    | non => exact ⟨_, rfl, _, _, .type "NoneType", .type "int", false, rfl, .ty _, ty_non _, kit_ty (by decide +kernel), false, rfl, hQ⟩
    | bl b => exact ⟨_, rfl, _, _, .type "bool", .type "int", true, rfl, .ty _, ty_bl _ _, kit_ty (by decide +kernel), true, rfl, _, rfl, _, _, .type "bool", .type "bool", true, rfl, .ty _, ty_bl _ _, kit_ty (by decide +kernel), true, rfl, false, rfl, hQ⟩
/-- a rule read by its places -/
theorem at0 {x y z : V} : atI [x, y, z] 0 = some x := rfl
theorem at1 {x y z : V} : atI [x, y, z] 1 = some y := rfl
theorem at2 {x y z : V} : atI [x, y, z] 2 = some z := rfl
theorem sqT {H : Hp} {a : Addr} {xs : List V} (h : H a = some (.tup xs)) : SqT K H a xs := .inl (.inl h)
theorem sqL {H : Hp} {a : Addr} {xs : List V} (h : H a = some (.lst xs)) : SqL K H a xs := .inl (.inl h)
def spBucket : Sp := fun vs H Q _ => ∃ v r t, vs = [v, .int t] ∧ VRule H v r ∧ RuleOk r ∧ Q (.int (bk r t)) H
theorem sc_Bucket : FnScope ["rule", "time"] ["rule", "time"] (defScope sBucket) := ⟨rfl, rfl, rfl, by decide +kernel, rfl, by decide +kernel, by decide +kernel⟩
theorem do_Bucket (T : Tx K mg) : Does P w K mg base CX0 1 (AG K "bucket") ["rule", "time"] spBucket := by
  obtain ⟨fd, F0⟩ := T.def_ dBucket (List.mem_of_getElem? (i := 6) rfl)
  have F : FunD K "bucket" "bucket" (defArgs sBucket) (defBody sBucket) (defScope sBucket) [] [] (AG K "bucket") fd := F0
  refine ⟨fd, F.ok sc_Bucket (fun vs H Q E h => ?len) (fun cdv A outer s H vs Q E hr h => ⟨_, PSs.nox (pss_one (ps_ret (pe_op op_fdivW (pe_op op_add (pv 1) (pe_ix ix_tup (pv 0) (pe_int) (fun _ _ => rfl))) (pe_ix ix_tup (pv 0) (pe_int) (fun _ _ => rfl))))), ?rd⟩), F.bindsN (fun _ _ _ _ _ _ us hl => match us, hl with | [_, _], _ => rfl), F.kp⟩
  case len => obtain ⟨v, r, t, rfl, _⟩ := h; rfl
  case rd =>
    obtain ⟨v, r, t, rfl, ⟨a, rfl, ha⟩, ok, hQ⟩ := h
    refine ⟨_, rfl, _, rfl, _, _, _, _, rfl, rfl, sqT ha, at1, _, _, rfl, rfl, _, rfl, _, _, _, _, rfl, rfl, sqT ha, at0, _, _, rfl, rfl, ?_, hQ⟩
    exact wide_div (b := 64) ok.p1 (by have := ok.p2; have := ok.p1; omega) (by decide) (by decide)
/-- a new tuple of ints, the rest as it was -/
def NewI (H : Hp) (ns : List Int) (Q : VK) : Prop := ∀ H' v, Same H H' → VInts H' v ns → Q v H'
theorem newI {H H1 : Hp} {ns : List Int} {Q : VK} {p : Addr} (h : NewI H ns Q) (s : Same H H1) (hp : H1 p = none) : Q (.ref p) (upd H1 p (.tup (ns.map V.int))) := h _ _ (s.trans (Same.upd hp)) ⟨p, rfl, upd_same⟩
def lastV (o : Option Int) : V := match o with
  | none => .non
  | some k => .int k
theorem scal_last (k : Int) (o : Option Int) : scal (.int k) (lastV o) = true := by cases o <;> rfl
theorem lastV_eq (k : Int) (o : Option Int) : (V.int k = lastV o) ↔ o = some k := by
  cases o with
  | none =>
    constructor
    · intro h; exact nomatch (show V.int k = V.non from h)
    · intro h; exact nomatch h
  | some j =>
    show V.int k = V.int j ↔ some j = some k
    constructor
    · intro h; cases h; rfl
    · intro h; cases h; rfl
theorem nrun_turn {r : Rule} {l : List Int} {t : Int} (hp : 0 < r.1) (hc : 0 ≤ r.2.2) (hd : (l ++ [t]).Pairwise (· > ·)) :
    (nrun r (l ++ [t])).1 = if ¬ V.int (bk r t) = lastV (l.getLast?.map (bk r)) ∧ (((nrun r l).1.length : Nat) : Int) < r.2.2 then (nrun r l).1 ++ [t] else (nrun r l).1 := by
  rw [nrun_snoc]
  unfold nst
  show (if bk r t ∉ (nrun r l).2 ∧ (((nrun r l).2.length : Nat) : Int) < r.2.2 then (nrun r l).1 ++ [t] else (nrun r l).1) = _
  have e1 := seen_last hp hd
  have e2 := found_lt hc l
  have e3 := lastV_eq (bk r t) (l.getLast?.map (bk r))
  by_cases c1 : bk r t ∈ (nrun r l).2
  · rw [if_neg (fun z => z.1 c1), if_neg (fun z => z.1 (e3.mpr (e1.mp c1)))]
  · by_cases c2 : (((nrun r l).1.length : Nat) : Int) < r.2.2
    · rw [if_pos ⟨c1, e2.mp c2⟩, if_pos ⟨fun z => c1 (e1.mpr (e3.mp z)), c2⟩]
    · rw [if_neg (fun z => c2 (e2.mpr z.2)), if_neg (fun z => c2 z.2)]
theorem take_succ' {α : Type} {l : List α} {i : Nat} {x : α} (h : l[i]? = some x) : l.take (i + 1) = l.take i ++ [x] := by
  rw [List.take_succ, h]
  rfl
theorem map_get {l : List Int} {i : Nat} {x : V} (h : (l.map V.int)[i]? = some x) : ∃ t, l[i]? = some t ∧ x = .int t := by
  rw [List.getElem?_map] at h
  obtain ⟨t, e, q⟩ := Option.map_eq_some_iff.mp h
  exact ⟨t, e, q.symm⟩
theorem sz0 : (0 : Nat) ≤ sizeLine := Nat.zero_le _
theorem sz_le {n : Nat} (h : n ≤ 100000) : n ≤ sizeLine := Nat.le_of_lt (sz_lt h)
/-- tuple(list of ints) -/
theorem rdT {H H1 : Hp} {ns : List Int} {xs : List V} {Q : VK} {q : Addr} (hl : H1 q = some (.lst xs)) (e : xs = ns.map V.int) (s : Same H H1) (hQ : NewI H ns Q) :
    ∃ p ys, [V.ref q] = [.ref p] ∧ ((SqL K H1 p ys ∧ ∀ l, H1 l = none → Q (.ref l) (upd H1 l (.tup ys))) ∨ (SqT K H1 p ys ∧ Q (.ref p) H1)) := by
  refine ⟨q, xs, rfl, .inl ⟨sqL hl, fun l hl => ?_⟩⟩
  rw [e]
  exact newI hQ s hl
def spNewest : Sp := fun vs H Q _ => ∃ v u r ns, vs = [v, u] ∧ VRule H v r ∧ RuleOk r ∧ VInts H u ns ∧ Asc ns ∧ ns.length ≤ 1000 ∧ NewI H (newest r ns) Q
theorem sc_NewestBy : FnScope ["rule", "snapshots", "found", "last", "time", "here"] ["rule", "snapshots"] (defScope sNewestBy) := ⟨rfl, rfl, rfl, by decide +kernel, rfl, by decide +kernel, by decide +kernel⟩
theorem do_NewestBy (T : Tx K mg) : Does P w K mg base CX0 2 (AG K "newest_by") ["rule", "snapshots"] spNewest := by
  obtain ⟨fd, F0⟩ := T.def_ dNewestBy (List.mem_of_getElem? (i := 7) rfl)
  have F : FunD K "newest_by" "newest_by" (defArgs sNewestBy) (defBody sNewestBy) (defScope sNewestBy) [] [] (AG K "newest_by") fd := F0
  have d_bucket := do_Bucket (P := P) (w := w) (base := base) T
  refine ⟨fd, F.ok sc_NewestBy (fun vs H Q E h => ?len) (fun cdv A outer s H vs Q E hr h => ⟨_, PSs.nox (pss_cons (ps_set (i := 2) sc_NewestBy.nd rfl (Or.inl rfl) (pe_lst pa_nil))
      (pss_cons (ps_set (i := 3) sc_NewestBy.nd rfl (Or.inl rfl) (pe_non))
      (pss_cons (ps_for PassesOwn.never rfl (pi_tup (pe_revT (pv 1))) (pg_name (i := 4) sc_NewestBy.nd rfl (Or.inl rfl))
        (pss_cons (ps_set (i := 5) sc_NewestBy.nd rfl (Or.inl rfl) (pf d_bucket (hr.mono (by decide)) (T.glo "bucket" (by decide +kernel)) (pa_cons (pv 0) (pa_cons (pv 4) pa_nil))))
        (pss_cons (ps_if (PW.pt (pw_and (pt_cmpR op_ne (pv 5) (pv 3) (nomark _)) (pw_and1 (pt_cmpR op_lt (pe_callB call_len_seq rfl (T.free "len" (by decide +kernel)) (by decide +kernel) (pa_cons (pv 2) pa_nil)) (pe_ix ix_tup (pv 0) (pe_int) (fun _ _ => rfl)) (nomark _)))))
          (pss_one (ps_expr (pe_bm PySem.F.plainAttrs_list PySem.F.slot_list_append PySem.F.type_list_append mt_append (pv 2) (pa_cons (pv 4) pa_nil))))
          pss_nil)
        (pss_one (ps_set (i := 3) sc_NewestBy.nd rfl (Or.inl rfl) (pv 5))))))
      (pss_one (ps_ret (pe_callTy call_tuple_of rfl (T.free "tuple" (by decide +kernel)) (by decide +kernel) (pa_cons (pe_revL (pv 2)) pa_nil))))))), ?rd⟩), F.bindsN (fun _ _ _ _ _ _ us hl => match us, hl with | [_, _], _ => rfl), F.kp⟩
  case len => obtain ⟨v, u, r, ns, rfl, _⟩ := h; rfl
  case rd =>
    obtain ⟨v, u, r, ns, rfl, ⟨a, rfl, ha⟩, ok, ⟨b, rfl, hb⟩, asc, hlen, hQ⟩ := h
    have hp1 : 0 < r.1 := by have := ok.p1; omega
    have hc1 : 0 ≤ r.2.2 := by have := ok.c1; omega
    refine ⟨sz0, fun D hD => ?_⟩
    have s1 : Same H (upd H D (.lst [])) := Same.upd hD
    refine ⟨_, rfl, _, _, rfl, sqT (s1 _ _ hb), fun p hp => ⟨_, rfl, ⟨_, sqT upd_same⟩, ?_⟩⟩
    have el : (ns.map V.int).reverse = ns.reverse.map V.int := List.map_reverse.symm
    rw [el]
    have hds : ns.reverse.Pairwise (· > ·) := List.pairwise_reverse.mpr asc
    generalize hl : ns.reverse = l at hds
    have hll : l.length ≤ 1000 := by rw [← hl, List.length_reverse]; exact hlen
    have hn : newest r ns = (nrun r l).1.reverse := by rw [← hl]; rfl
    refine for_tup (xs := l.map V.int) (fun i σ H' => Same H H' ∧ H' p = some (.tup (l.map V.int)) ∧ H' D = some (.lst ((nrun r (l.take i)).1.map V.int)) ∧ ∃ x4 x5, σ = [some (.ref a), some (.ref b), some (.ref D), some (lastV ((l.take i).getLast?.map (bk r))), x4, x5])
      ⟨s1.trans (Same.upd hp), upd_same, by rw [upd_ne (fun z => by rw [z] at hp; rw [upd_same] at hp; cases hp)]; exact upd_same, _, _, rfl⟩ (fun i σ H' _ h => sqT h.2.1) ?_ ?_
    · rintro i x σ H' hx ⟨sm, hp', hD', x4, x5, rfl⟩
      obtain ⟨t, ht, rfl⟩ := map_get hx
      have hlt : i < l.length := (List.getElem?_eq_some_iff.mp ht).1
      have et := take_succ' ht
      have hturn := nrun_turn (r := r) (l := l.take i) (t := t) hp1 hc1 (by rw [← et]; exact hds.sublist (List.take_sublist _ _))
      refine ⟨_, rfl, _, rfl, _, r, t, rfl, ⟨a, rfl, sm _ _ ha⟩, ok, ?_⟩
      have hlf : (nrun r (l.take i)).1.length ≤ 1000 := by
        have z1 := len_found hc1 (l.take i)
        have z2 := len_seen r (l.take i)
        rw [List.length_take] at z2
        omega
      refine ⟨_, rfl, _, rfl, scal_last _ _, _, rfl, ?_⟩
      have fin : ∀ (X : List Int) (H2 : Hp), X = (nrun r (l.take (i + 1))).1 → Same H H2 → H2 p = some (.tup (l.map V.int)) → H2 D = some (.lst (X.map V.int)) →
          Same H H2 ∧ H2 p = some (.tup (l.map V.int)) ∧ H2 D = some (.lst ((nrun r (l.take (i + 1))).1.map V.int)) ∧ ∃ x4' x5', [some (V.ref a), some (.ref b), some (.ref D), some (.int (bk r t)), some (.int t), some (.int (bk r t))] = [some (.ref a), some (.ref b), some (.ref D), some (lastV ((l.take (i + 1)).getLast?.map (bk r))), x4', x5'] := fun X H2 e a1 a2 a3 => by
        refine ⟨a1, a2, by rw [← e]; exact a3, some (.int t), some (.int (bk r t)), ?_⟩
        rw [et, List.getLast?_append]
        rfl
      by_cases c1 : V.int (bk r t) = lastV ((l.take i).getLast?.map (bk r))
      · have e1 : (!decide (V.int (bk r t) = lastV ((l.take i).getLast?.map (bk r)))) = false := by rw [decide_eq_true c1]; rfl
        show if (!decide (V.int (bk r t) = lastV ((l.take i).getLast?.map (bk r)))) = true then _ else _
        rw [e1]
        refine iteF (iteF ?_)
        exact ⟨_, rfl, fin _ H' (by rw [et, hturn, if_neg (fun z => z.1 c1)]) sm hp' hD'⟩
      · have e1 : (!decide (V.int (bk r t) = lastV ((l.take i).getLast?.map (bk r)))) = true := by rw [decide_eq_false c1]; rfl
        show if (!decide (V.int (bk r t) = lastV ((l.take i).getLast?.map (bk r)))) = true then _ else _
        rw [e1]
        refine iteT ?_
        refine ⟨_, rfl, _, _, rfl, .inl (sqL hD'), _, rfl, _, _, _, _, rfl, rfl, sqT (sm _ _ ha), at2, _, _, rfl, rfl, _, rfl, ?_⟩
        rw [List.length_map]
        by_cases c2 : (((nrun r (l.take i)).1.length : Nat) : Int) < r.2.2
        · rw [decide_eq_true c2]
          refine iteT ?_
          refine ⟨_, rfl, .inl ⟨rfl, _, sqL hD'⟩, _, rfl, _, _, _, rfl, rfl, hD', by rw [List.length_map]; exact sz_lt (by omega), ?_⟩
          refine ⟨_, rfl, fin ((nrun r (l.take i)).1 ++ [t]) _ (by rw [et, hturn, if_pos ⟨c1, c2⟩]) (fun c o e => ?_) ?_ ?_⟩
          · rw [upd_ne (ne_of_none e hD)]
            exact sm _ _ e
          · rw [upd_ne (ne_of hp' hD' (by intro z; cases z))]
            exact hp'
          · rw [upd_same, List.map_append]
            rfl
        · rw [decide_eq_false c2]
          refine iteF ?_
          exact ⟨_, rfl, fin _ H' (by rw [et, hturn, if_neg (fun z => c2 z.2)]) sm hp' hD'⟩
    · rintro σ H' ⟨sm, hp', hD', x4, x5, rfl⟩
      rw [List.length_map, List.take_length] at hD'
      refine ⟨_, rfl, _, _, rfl, sqL hD', fun q hq => ?_⟩
      exact rdT upd_same (by rw [← List.map_reverse, ← hn]) (sm.trans (Same.upd hq)) hQ
end
end K19

set_option Elab.async false
set_option linter.all false
set_option maxRecDepth 100000
set_option maxHeartbeats 4000000
/-! the program's pure defs, continued -/
namespace K19
open PySem PySem.Spec PyProof.Rows L2
/-! ### the keys of a dict that grows -/
theorem any_inl {t : Int} : ∀ {kvs : List (Key × V)} {ks : List Int}, kvs.map (·.1) = ks.map Sum.inl → ((kvs.any fun kv => decide (kv.1 = (Sum.inl t : Key))) = true ↔ t ∈ ks) := by
  intro kvs ks h
  rw [List.any_eq_true]
  constructor
  · rintro ⟨kv, hkv, e⟩
    have e1 : kv.1 = (Sum.inl t : Key) := of_decide_eq_true e
    have h1 : kv.1 ∈ ks.map (Sum.inl : Int → Key) := by rw [← h]; exact List.mem_map_of_mem hkv
    obtain ⟨j, hj, e2⟩ := List.mem_map.mp h1
    rw [e1] at e2
    cases e2
    exact hj
  · intro ht
    have h1 : (Sum.inl t : Key) ∈ kvs.map (·.1) := by rw [h]; exact List.mem_map_of_mem ht
    obtain ⟨kv, hkv, e⟩ := List.mem_map.mp h1
    exact ⟨kv, hkv, decide_eq_true e⟩
theorem putK_ins {t : Int} {v : V} {kvs : List (Key × V)} {ks : List Int} (h : kvs.map (·.1) = ks.map Sum.inl) : (putK kvs (Sum.inl t) v).map (·.1) = (if t ∈ ks then ks else ks ++ [t]).map Sum.inl := by
  unfold putK
  by_cases c : t ∈ ks
  · rw [if_pos ((any_inl h).mpr c), if_pos c, List.map_map, ← h]
    refine List.map_congr_left fun kv _ => ?_
    show (if kv.1 = _ then (kv.1, v) else kv).1 = kv.1
    split <;> rfl
  · rw [if_neg (fun z => c ((any_inl h).mp z)), if_neg c, List.map_append, List.map_append, h]
    rfl
theorem valV_inl {t : Int} {kvs : List (Key × V)} {ks : List Int} (h : kvs.map (·.1) = ks.map Sum.inl) : (valV kvs (Sum.inl t)).isSome = decide (t ∈ ks) := by
  unfold valV
  rw [Option.isSome_map, Bool.eq_iff_iff, List.find?_isSome, decide_eq_true_iff, ← any_inl (t := t) h, List.any_eq_true]
def insN (t : Int) (ks : List Int) : List Int := if t ∈ ks then ks else ks ++ [t]
theorem mem_insN {t x : Int} {ks : List Int} : x ∈ insN t ks ↔ x ∈ ks ∨ x = t := by
  unfold insN
  by_cases c : t ∈ ks
  · rw [if_pos c]
    constructor
    · exact .inl
    · rintro (h | rfl)
      · exact h
      · exact c
  · rw [if_neg c, List.mem_append, List.mem_singleton]
theorem nodup_insN {t : Int} {ks : List Int} (h : ks.Nodup) : (insN t ks).Nodup := by
  unfold insN
  by_cases c : t ∈ ks
  · rw [if_pos c]; exact h
  · rw [if_neg c]
    refine List.nodup_append.mpr ⟨h, by simp, fun a ha b hb => ?_⟩
    have e : b = t := by simpa using hb
    rw [e]
    rintro rfl
    exact c ha
/-- a dict whose keys are the ints ks -/
def DKeys (H : Hp) (D : Addr) (ks : List Int) : Prop := ∃ kvs : List (Key × V), H D = some (.dK kvs) ∧ kvs.map (·.1) = ks.map Sum.inl
theorem DKeys.put {H : Hp} {D : Addr} {ks : List Int} {t : Int} {v : V} (h : DKeys H D ks) (hl : ks.length ≤ 100000) : ∃ H', DPut H D (.int t) v H' ∧ DKeys H' D (insN t ks) ∧ (∀ b, b ≠ D → H' b = H b) ∧ Tk H H' := by
  obtain ⟨kvs, h1, h2⟩ := h
  have e : kvs.length = ks.length := by
    have := congrArg List.length h2
    rwa [List.length_map, List.length_map] at this
  exact ⟨_, DPut.k (k := Sum.inl t) h1 (sz_lt (by omega)), ⟨_, upd_same, putK_ins h2⟩, fun b hb => upd_ne hb, Tk.upd (by rw [h1]; intro z q; cases q)⟩
theorem DKeys.get {H : Hp} {D : Addr} {ks : List Int} {t : Int} (h : DKeys H D ks) : ∃ o, DGet H D (.int t) o ∧ o.isSome = decide (t ∈ ks) := by
  obtain ⟨kvs, h1, h2⟩ := h
  exact ⟨_, DGet.k (k := Sum.inl t) h1, valV_inl h2⟩
section
variable {P : Program} {w : World} {K : PySem.W.Frag} {mg : Str → Option Value} {base : Heap}
theorem mapR_get {H : Hp} {vs : List V} {pol : List Rule} (h : Paired (VRule H) vs pol) {i : Nat} {x : V} (hx : vs[i]? = some x) : ∃ r, pol[i]? = some r ∧ VRule H x r := by
  induction h generalizing i with
  | nil => simp at hx
  | cons q t ih =>
    cases i with
    | zero =>
      simp at hx
      subst hx
      exact ⟨_, rfl, q⟩
    | succ i => simpa using ih (by simpa using hx)
def spPruned : Sp := fun vs H Q _ => ∃ v u pol ns, vs = [v, u] ∧ VPol H v pol ∧ (∀ r ∈ pol, RuleOk r) ∧ VInts H u ns ∧ Asc ns ∧ ns.length < 64 ∧ NewI H (pru pol ns) Q
theorem sc_Pruned : FnScope ["rules", "snapshots", "kept", "rule", "time"] ["rules", "snapshots"] (defScope sPruned) := ⟨rfl, rfl, rfl, by decide +kernel, rfl, by decide +kernel, by decide +kernel⟩
theorem do_Pruned (T : Tx K mg) : Does P w K mg base CX0 3 (AG K "pruned") ["rules", "snapshots"] spPruned := by
  obtain ⟨fd, F0⟩ := T.def_ dPruned (List.mem_of_getElem? (i := 8) rfl)
  have F : FunD K "pruned" "pruned" (defArgs sPruned) (defBody sPruned) (defScope sPruned) [] [] (AG K "pruned") fd := F0
  have d_newest_by := do_NewestBy (P := P) (w := w) (base := base) T
  refine ⟨fd, F.ok sc_Pruned (fun vs H Q E h => ?len) (fun cdv A outer s H vs Q E hr h => ⟨_, PSs.nox (pss_cons (ps_set (i := 2) sc_Pruned.nd rfl (Or.inl rfl) (pe_dnewK))
      (pss_cons (ps_for PassesOwn.never rfl (pi_tup (pv 0)) (pg_name (i := 3) sc_Pruned.nd rfl (Or.inl rfl))
        (pss_one (ps_for PassesOwn.never rfl (pi_tup (pf d_newest_by (hr.mono (by decide)) (T.glo "newest_by" (by decide +kernel)) (pa_cons (pv 3) (pa_cons (pv 1) pa_nil)))) (pg_name (i := 4) sc_Pruned.nd rfl (Or.inl rfl))
          (pss_one (ps_dput (hu_of hr) (pv 2) (pv 4) (pe_bl) rfl)))))
      (pss_one (ps_ret (pe_callTy call_tuple_of rfl (T.free "tuple" (by decide +kernel)) (by decide +kernel) (pa_cons (pe_callB (call_sortedDI rfl) rfl (T.free "sorted" (by decide +kernel)) (by decide +kernel) (pa_cons (pv 2) pa_nil)) pa_nil)))))), ?rd⟩), F.bindsN (fun _ _ _ _ _ _ us hl => match us, hl with | [_, _], _ => rfl), F.kp⟩
  case len => obtain ⟨v, u, pol, ns, rfl, _⟩ := h; rfl
  case rd =>
    obtain ⟨v, u, pol, ns, rfl, ⟨a, vs, rfl, ha, hvs⟩, ok, ⟨b, rfl, hb⟩, asc, hlen, hQ⟩ := h
    have lvs : vs.length = pol.length := hvs.length
    intro D hD
    have s1 : Same H (upd H D (.dK [])) := Same.upd hD
    refine ⟨_, rfl, a, rfl, ⟨_, sqT (s1 _ _ ha)⟩, ?_⟩
    refine for_tup (xs := vs) (fun i σ H' => Same H H' ∧ (∃ ks, DKeys H' D ks ∧ ks.Nodup ∧ ∀ x, x ∈ ks ↔ ∃ r ∈ pol.take i, x ∈ newest r ns) ∧ ∃ x3 x4, σ = [some (.ref a), some (.ref b), some (.ref D), x3, x4])
      ⟨s1, ⟨[], ⟨[], upd_same, rfl⟩, List.nodup_nil, fun x => by simp⟩, _, _, rfl⟩ (fun i σ H' _ h => sqT (h.1 _ _ ha)) ?_ ?_
    · rintro i x σ H' hx ⟨sm, ⟨ks, hk, nd, hm⟩, x3, x4, rfl⟩
      obtain ⟨r, hr', vr⟩ := mapR_get hvs hx
      have okr := ok r (List.mem_of_getElem? hr')
      refine ⟨_, rfl, _, rfl, _, _, r, ns, rfl, vr.mono (Tk.of sm), okr, ⟨b, rfl, sm _ _ hb⟩, asc, by omega, ?_⟩
      rintro H2 v2 s2 ⟨q, rfl, hq⟩
      have et : pol.take (i + 1) = pol.take i ++ [r] := take_succ' hr'
      refine ⟨q, rfl, ⟨_, sqT hq⟩, ?_⟩
      have hk2 : DKeys H2 D ks := by obtain ⟨kvs, z1, z2⟩ := hk; exact ⟨kvs, s2 _ _ z1, z2⟩
      refine for_tup (xs := (newest r ns).map V.int) (fun j σ H' => Same H H' ∧ H' q = some (.tup ((newest r ns).map V.int)) ∧ (∃ ks, DKeys H' D ks ∧ ks.Nodup ∧ ∀ x, x ∈ ks ↔ (∃ r ∈ pol.take i, x ∈ newest r ns) ∨ x ∈ (newest r ns).take j) ∧ ∃ x4, σ = [some (.ref a), some (.ref b), some (.ref D), some x, x4])
        ⟨sm.trans s2, hq, ⟨ks, hk2, nd, fun x => by rw [hm x]; simp⟩, _, rfl⟩ (fun j σ H' _ h => sqT h.2.1) ?_ ?_
      · rintro j y σ H3 hy ⟨sm3, hq3, ⟨ks3, hk3, nd3, hm3⟩, x4, rfl⟩
        obtain ⟨t, ht, rfl⟩ := map_get hy
        have sub : ∀ x, x ∈ ks3 → x ∈ ns := fun x h => by
          rcases (hm3 x).mp h with ⟨r', _, h⟩ | h
          · exact newest_sub h
          · exact newest_sub (List.mem_of_mem_take h)
        have l3 := len_sub nd3 sub
        obtain ⟨H4, p4, k4, e4, t4⟩ := hk3.put (t := t) (v := .bl true) (by omega)
        have nD : H D = none := hD
        refine ⟨_, rfl, _, rfl, D, H4, rfl, p4, fun c o e => ?_, t4 _ _ hq3, ⟨_, k4, nodup_insN nd3, fun x => ?_⟩, _, rfl⟩
        · rw [e4 c (ne_of_none e nD)]
          exact sm3 _ _ e
        · rw [mem_insN, hm3 x, take_succ' ht, List.mem_append, List.mem_singleton, or_assoc]
      · rintro σ H3 ⟨sm3, hq3, ⟨ks3, hk3, nd3, hm3⟩, x4, rfl⟩
        rw [List.length_map, List.take_length] at hm3
        refine ⟨sm3, ⟨ks3, hk3, nd3, fun x => ?_⟩, _, _, rfl⟩
        rw [hm3 x, et]
        constructor
        · rintro (⟨r', h1, h2⟩ | h)
          · exact ⟨r', List.mem_append_left _ h1, h2⟩
          · exact ⟨r, List.mem_append_right _ (List.mem_singleton.mpr rfl), h⟩
        · rintro ⟨r', h1, h2⟩
          rcases List.mem_append.mp h1 with h1 | h1
          · exact .inl ⟨r', h1, h2⟩
          · rw [List.mem_singleton.mp h1] at h2
            exact .inr h2
    · rintro σ H' ⟨sm, ⟨ks, ⟨kvs, z1, z2⟩, nd, hm⟩, x3, x4, rfl⟩
      rw [lvs, List.take_length] at hm
      have sub : ∀ x, x ∈ ks → x ∈ ns := fun x h => by
        obtain ⟨r', _, h⟩ := (hm x).mp h
        exact newest_sub h
      have l3 := len_sub nd sub
      refine ⟨_, rfl, D, kvs, ks, rfl, .inl z1, z2, by omega, fun ys p hp hs hn => ?_⟩
      have ha : Asc ys := asc_of hs (hp.nodup_iff.mpr nd)
      have ey : ys = pru pol ns := pru_of ha fun x => by rw [hp.mem_iff, hm x]
      exact rdT upd_same (by rw [ey]) (sm.trans (Same.upd hn)) hQ
/-- x in ns -/
theorem inV_int {t : Int} {ns : List Int} : inV (.int t) (ns.map V.int) = ns.contains t := by
  unfold inV
  rw [List.any_map, List.contains_eq_any_beq, Bool.eq_iff_iff, List.any_eq_true, List.any_eq_true]
  constructor
  · rintro ⟨x, hx, e⟩
    have e : (x == t) = true := e
    exact ⟨x, hx, by rw [beq_iff_eq] at e ⊢; exact e.symm⟩
  · rintro ⟨x, hx, e⟩
    refine ⟨x, hx, ?_⟩
    show (x == t) = true
    rw [beq_iff_eq] at e ⊢
    exact e.symm
theorem flat_ints (ns : List Int) : (ns.map V.int).all flatV = true := by
  rw [List.all_map, List.all_eq_true]
  intro _ _
  rfl
def spWithout : Sp := fun vs H Q _ => ∃ v u ns ms, vs = [v, u] ∧ VInts H v ns ∧ VInts H u ms ∧ ns.length ≤ 1000 ∧ NewI H (minus ns ms) Q
theorem take_filter {l : List Int} {f : Int → Bool} {i : Nat} {t : Int} (h : l[i]? = some t) : (l.take (i + 1)).filter f = (l.take i).filter f ++ (if f t = true then [t] else []) := by
  rw [take_succ' h, List.filter_append]
  congr 1
  cases c : f t <;> simp [List.filter, c]
theorem sc_Without : FnScope ["times", "others", "time"] ["times", "others"] (defScope sWithout) := ⟨rfl, rfl, rfl, by decide +kernel, rfl, by decide +kernel, by decide +kernel⟩
theorem do_Without (T : Tx K mg) : Does P w K mg base CX0 1 (AG K "without") ["times", "others"] spWithout := by
  obtain ⟨fd, F0⟩ := T.def_ dWithout (List.mem_of_getElem? (i := 10) rfl)
  have F : FunD K "without" "without" (defArgs sWithout) (defBody sWithout) (defScope sWithout) [] [] (AG K "without") fd := F0
  refine ⟨fd, F.ok sc_Without (fun vs H Q E h => ?len) (fun cdv A outer s H vs Q E hr h => ⟨_, PSs.nox (pss_one (ps_ret (pe_callTy call_tuple_of rfl (T.free "tuple" (by decide +kernel)) (by decide +kernel) (pa_cons (pe_lc (own := [("time", 2)]) rfl sc_Without.nd (pi_tup (pv 0)) (blkOk_by (N := ["times", "others", "time"]) (sc := defScope sWithout) (by decide +kernel)) (fun _ _ _ _ _ => (pg_name (i := 2) sc_Without.nd rfl (Or.inl rfl))) (fun _ _ _ _ _ => (pts_one (pt_cmpR (r := rIn K true) op_notIn_seq (pv 2) (pv 1) rfl))) (fun _ _ _ _ _ => (pv 2))) pa_nil)))), ?rd⟩), F.bindsN (fun _ _ _ _ _ _ us hl => match us, hl with | [_, _], _ => rfl), F.kp⟩
  case len => obtain ⟨v, u, ns, ms, rfl, _⟩ := h; rfl
  case rd =>
    obtain ⟨v, u, ns, ms, rfl, ⟨a, rfl, ha⟩, ⟨b, rfl, hb⟩, hl, hQ⟩ := h
    refine ⟨_, rfl, a, rfl, ⟨_, sqT ha⟩, ?_⟩
    refine lc_tupG (fun i acc _ => acc = ((ns.take i).filter fun x => !ms.contains x).map V.int) ha (by rw [List.length_map]; omega) (fun _ _ _ _ _ h => h) rfl ?_ ?_
    · intro i x acc H2 N N0 hx sm hR hN hN0
      obtain ⟨t, ht, rfl⟩ := map_get hx
      refine ⟨rfl, _, rfl, _, rfl, b, _, rfl, .inr (sqT (sm _ _ hb)), rfl, flat_ints _, _, rfl, ?_⟩
      show (if (!inV (.int t) (ms.map V.int)) = true then _ else _)
      rw [inV_int]
      cases c : (!ms.contains t) with
      | true =>
        exact iteT ⟨_, rfl, hN _ _ (Same.refl _) (by rw [take_filter ht, c, hR]; simp)⟩
      | false => exact iteF (hN0 _ (Same.refl _) (by rw [take_filter ht, c, hR]; simp))
    · intro acc H2 D sm hD hacc hR
      rw [List.length_map, List.take_length] at hR
      exact rdT hacc hR sm hQ
end
end K19

set_option Elab.async false
set_option linter.all false
set_option maxRecDepth 100000
set_option maxHeartbeats 4000000
/-! the program's pure defs: union, the policy's check -/
namespace K19
open PySem PySem.Spec PyProof.Rows L2
section
variable {J : It} {n : Nat} {G : Hp → Prop} {Y : Nat → Hp → V → Hp → Prop} {g : TG} {tt : TT} {te : TE} {vs : List Nat} {σ : L2.St} {H1 : Hp} {Qd : Addr → Hp → Prop}
/-- a comprehension over any walk whose step only adds -/
theorem lc_itG (wk : Walk J n G Y) (R : Nat → List V → Hp → Prop) (hz : n ≤ 100000) (hG : ∀ H, Same H1 H → G H) (hR : ∀ i acc H H', Tk H H' → R i acc H → R i acc H') (h0 : R 0 [] H1)
    (hs : ∀ i x acc H H' (N : V → Hp → Prop) (N0 : Hp → Prop), i < n → Same H1 H → R i acc H → Y i H x H' → (∀ y H4, Same H H4 → R (i + 1) (acc ++ [y]) H4 → N y H4) → (∀ H3, Same H H3 → R (i + 1) acc H3 → N0 H3) →
      g x (wipe σ vs) H' fun σ2 H2 => wipe σ2 vs = wipe σ vs ∧ tt σ2 H2 fun b H3 => if b = true then te σ2 H3 N else N0 H3)
    (hd : ∀ acc H D, Same H1 H → H1 D = none → H D = some (.lst acc) → R n acc H → Qd D H) :
    ∀ D, H1 D = none → ∃ W : Nat → Nat → Hp → Prop, (∃ m, W 0 m (upd H1 D (.lst []))) ∧ ∀ i m H, W i m H →
      (J.stop i H ∧ Qd D H) ∨ (J.go i H ∧ ∃ Nx : Hp → Prop, (∀ H', Nx H' → ∃ m', m' < m ∧ W (i + 1) m' H') ∧ ∀ x H', J.yld i H x H' → g x (wipe σ vs) H' fun σ2 H2 => wipe σ2 vs = wipe σ vs ∧ tt σ2 H2 fun b H3 =>
        if b = true then te σ2 H3 fun y H4 => ∃ acc, H4 D = some (.lst acc) ∧ acc.length < sizeLine ∧ Nx (upd H4 D (.lst (acc ++ [y]))) else Nx H3) := by
  intro D hD
  refine lc_it wk (Qd := Qd D) (fun i H => i ≤ n ∧ ∃ acc, Same H1 H ∧ H D = some (.lst acc) ∧ acc.length ≤ i ∧ R i acc H) ⟨Nat.zero_le _, [], Same.upd hD, upd_same, Nat.le_refl _, hR _ _ _ _ (Tk.of (Same.upd hD)) h0⟩
    (fun i H _ h => hG _ h.2.choose_spec.1) (fun i x H H' hlt h hy => ?_) (fun H h => ?_)
  · obtain ⟨hi, acc, sm, hl, hn, r⟩ := h
    refine hs i x acc H H' _ _ hlt sm r hy (fun y H4 s4 r4 => ?_) (fun H3 s3 r3 => ?_)
    · have hl4 := s4 _ _ hl
      refine ⟨acc, hl4, sz_lt (by omega), hlt, acc ++ [y], fun c o h => ?_, upd_same, by rw [List.length_append]; show acc.length + 1 ≤ _; omega, hR _ _ _ _ (Tk.upd (by rw [hl4]; intro z e; cases e)) r4⟩
      rw [upd_ne (ne_of_none h hD)]
      exact s4 _ _ (sm _ _ h)
    · exact ⟨hlt, acc, sm.trans s3, s3 _ _ hl, by omega, r3⟩
  · obtain ⟨hi, acc, sm, hl, hn, r⟩ := h
    exact hd acc H D sm hD hl r
end
section
variable {P : Program} {w : World} {K : PySem.W.Frag} {mg : Str → Option Value} {base : Heap}
def spUnion : Sp := fun vs H Q _ => ∃ v u ns ms, vs = [v, u] ∧ VInts H v ns ∧ VInts H u ms ∧ Asc ns ∧ Asc ms ∧ ns.length + ms.length < 64 ∧ NewI H (uni ns ms) Q
theorem sc_Union : FnScope ["first", "second", "time"] ["first", "second"] (defScope sUnion) := ⟨rfl, rfl, rfl, by decide +kernel, rfl, by decide +kernel, by decide +kernel⟩
theorem do_Union (T : Tx K mg) : Does P w K mg base CX0 1 (AG K "union") ["first", "second"] spUnion := by
  obtain ⟨fd, F0⟩ := T.def_ dUnion (List.mem_of_getElem? (i := 9) rfl)
  have F : FunD K "union" "union" (defArgs sUnion) (defBody sUnion) (defScope sUnion) [] [] (AG K "union") fd := F0
  refine ⟨fd, F.ok sc_Union (fun vs H Q E h => ?len) (fun cdv A outer s H vs Q E hr h => ⟨_, PSs.nox (pss_one (ps_ret (pe_callTy call_tuple_of rfl (T.free "tuple" (by decide +kernel)) (by decide +kernel) (pa_cons (pe_callB cr_sortedTI rfl (T.free "sorted" (by decide +kernel)) (by decide +kernel) (pa_cons (pe_op op_catA (pv 0) (pe_callTy call_tuple_of rfl (T.free "tuple" (by decide +kernel)) (by decide +kernel) (pa_cons (pe_lc (own := [("time", 2)]) rfl sc_Union.nd (pi_tup (pv 1)) (blkOk_by (N := ["first", "second", "time"]) (sc := defScope sUnion) (by decide +kernel)) (fun _ _ _ _ _ => (pg_name (i := 2) sc_Union.nd rfl (Or.inl rfl))) (fun _ _ _ _ _ => (pts_one (pt_cmpR (r := rIn K true) op_notIn_seq (pv 2) (pv 0) rfl))) (fun _ _ _ _ _ => (pv 2))) pa_nil))) pa_nil)) pa_nil)))), ?rd⟩), F.bindsN (fun _ _ _ _ _ _ us hl => match us, hl with | [_, _], _ => rfl), F.kp⟩
  case len => obtain ⟨v, u, ns, ms, rfl, _⟩ := h; rfl
  case rd =>
    obtain ⟨v, u, ns, ms, rfl, ⟨a, rfl, ha⟩, ⟨b, rfl, hb⟩, aa, ab, hl, hQ⟩ := h
    refine ⟨_, rfl, _, rfl, b, rfl, ⟨_, sqT hb⟩, ?_⟩
    refine lc_tupG (fun i acc _ => acc = ((ms.take i).filter fun x => !ns.contains x).map V.int) hb (by rw [List.length_map]; omega) (fun _ _ _ _ _ h => h) rfl ?_ ?_
    · intro i x acc H2 N N0 hx sm hR hN hN0
      obtain ⟨t, ht, rfl⟩ := map_get hx
      refine ⟨rfl, _, rfl, _, rfl, a, _, rfl, .inr (sqT (sm _ _ ha)), rfl, flat_ints _, _, rfl, ?_⟩
      show (if (!inV (.int t) (ns.map V.int)) = true then _ else _)
      rw [inV_int]
      cases c : (!ns.contains t) with
      | true =>
        exact iteT ⟨_, rfl, hN _ _ (Same.refl _) (by rw [take_filter ht, c, hR]; simp)⟩
      | false => exact iteF (hN0 _ (Same.refl _) (by rw [take_filter ht, c, hR]; simp))
    · intro acc H2 D sm hD hacc hR
      rw [List.length_map, List.take_length] at hR
      have lf : (ms.filter fun x => !ns.contains x).length ≤ ms.length := List.length_filter_le _ _
      have el : (ns.map V.int).length + acc.length ≤ 100000 := by rw [hR, List.length_map, List.length_map]; omega
      refine ⟨D, acc, rfl, .inl ⟨sqL hacc, fun l hl2 => ?_⟩⟩
      have s2 : Same H2 (upd H2 l (.tup acc)) := Same.upd hl2
      have fin : ∀ (p : Addr) (H3 : Hp), Same H H3 → H3 p = some (.tup (ns.map V.int ++ acc)) → rSortedTI K [V.ref p] H3 fun x H1 => ∃ p' ys, [x] = [V.ref p'] ∧ ((SqL K H1 p' ys ∧ ∀ l, H1 l = none → Q (.ref l) (upd H1 l (.tup ys))) ∨ (SqT K H1 p' ys ∧ Q (.ref p') H1)) := fun p H3 s3 hp => by
        have e : ns.map V.int ++ acc = (ns ++ ms.filter fun x => !ns.contains x).map V.int := by rw [hR, List.map_append]
        rw [e] at hp
        refine ⟨p, _, rfl, sqT hp, by rw [List.length_append]; omega, fun ys q hq hs hn => ?_⟩
        exact rdT upd_same (by rw [uni_cat aa ab hq hs]) (s3.trans (Same.upd hn)) hQ
      refine ⟨a, l, ns.map V.int, acc, rfl, rfl, sqT (s2 _ _ (sm _ _ ha)), sqT upd_same, sz_le el, fun h0 => ?_, fun h0 h1 => ?_, fun h0 h1 p hp => ?_⟩
      · refine fin l _ (sm.trans s2) ?_
        rw [h0]
        exact upd_same
      · refine fin a _ (sm.trans s2) ?_
        rw [show ns.map V.int ++ acc = ns.map V.int by rw [h1, List.append_nil]]
        exact s2 _ _ (sm _ _ ha)
      · exact fin p _ ((sm.trans s2).trans (Same.upd hp)) upd_same
def VPair (H : Hp) (v : V) (p : Int × Int) : Prop := ∃ a, v = .ref a ∧ H a = some (.tup [.int p.1, .int p.2])
theorem VPair.mono {H H' : Hp} {v : V} {p : Int × Int} (h : VPair H v p) (e : Tk H H') : VPair H' v p := by
  obtain ⟨a, h1, h2⟩ := h
  exact ⟨a, h1, e _ _ h2⟩
theorem pair_get {α β : Type} {F : α → β → Prop} {vs : List α} {bs : List β} (h : Paired F vs bs) {i : Nat} {x : α} (hx : vs[i]? = some x) : ∃ r, bs[i]? = some r ∧ F x r := by
  induction h generalizing i with
  | nil => simp at hx
  | cons q t ih =>
    cases i with
    | zero =>
      simp at hx
      subst hx
      exact ⟨_, rfl, q⟩
    | succ i => simpa using ih (by simpa using hx)
def spAsc : Sp := fun vs H Q _ => ∃ a xs ps, vs = [.ref a] ∧ H a = some (.lst xs) ∧ Paired (VPair H) xs ps ∧ ps.Pairwise shLt ∧ ps.length ≤ 1000 ∧ ∀ H', Same H H' → Q (.bl true) H'
theorem lex_sh {p q : Int × Int} (h : shLt p q) : HT.lexLt [p.1, p.2] [q.1, q.2] = true := by
  rcases h with h | ⟨h1, h2⟩
  · rw [HT.lexLt_cons, if_neg (by omega)]
    exact decide_eq_true h
  · rw [HT.lexLt_cons, if_pos h1, HT.lexLt_cons, if_neg (by omega)]
    exact decide_eq_true h2
theorem cut1 (xs : List V) : cutV xs (some 1) none = xs.tail := by
  unfold cutV
  rw [show HT.sIx xs.length 0 (some 1) = min 1 xs.length from HT.sIx_nat _ _ 1, HT.sIx_none]
  cases xs with
  | nil => rfl
  | cons x xs =>
    have e : min 1 (x :: xs).length = 1 := by rw [List.length_cons]; omega
    rw [e]
    show List.take _ (List.drop 1 (x :: xs)) = xs
    rw [show List.drop 1 (x :: xs) = xs from rfl, List.length_cons]
    exact List.take_of_length_le (by omega)
theorem sc_IsAscending : FnScope ["items", "first", "second"] ["items"] (defScope sIsAscending) := ⟨rfl, rfl, rfl, by decide +kernel, rfl, by decide +kernel, by decide +kernel⟩
theorem do_IsAscending (T : Tx K mg) : Does P w K mg base CX0 1 (AG K "is_ascending") ["items"] spAsc := by
  obtain ⟨fd, F0⟩ := T.def_ dIsAscending (List.mem_of_getElem? (i := 1) rfl)
  have F : FunD K "is_ascending" "is_ascending" (defArgs sIsAscending) (defBody sIsAscending) (defScope sIsAscending) [] [] (AG K "is_ascending") fd := F0
  refine ⟨fd, F.ok sc_IsAscending (fun vs H Q E h => ?len) (fun cdv A outer s H vs Q E hr h => ⟨_, PSs.nox (pss_one (ps_ret (pe_callB (cr_all rfl) rfl (T.free "all" (by decide +kernel)) (by decide +kernel) (pa_cons (pe_lc (own := [("first", 1), ("second", 2)]) rfl sc_IsAscending.nd (pi_zip rfl (T.free "zip" (by decide +kernel)) (pa_cons (pv 0) (pa_cons (pe_slice sl_list (pv 0) (po_some (pe_int)) po_none) pa_nil))) (blkOk_by (N := ["items", "first", "second"]) (sc := defScope sIsAscending) (by decide +kernel)) (fun _ _ _ _ _ => (show PG _ _ (gTup K 2 _) from pg_tup rfl (pgs_cons (pg_name (i := 1) sc_IsAscending.nd rfl (Or.inl rfl)) (pgs_cons (pg_name (i := 2) sc_IsAscending.nd rfl (Or.inl rfl)) pgs_nil)))) (fun _ _ _ _ _ => pts_nil) (fun _ _ _ _ _ => (pe_cmpR (r := rLtT K) (op_ltT hr.units0) (pv 1) (pv 2) (nomark _)))) pa_nil)))), ?rd⟩), F.bindsN (fun _ _ _ _ _ _ us hl => match us, hl with | [_], _ => rfl), F.kp⟩
  case len => obtain ⟨a, xs, ps, rfl, _⟩ := h; rfl
  case rd =>
    obtain ⟨a, xs, ps, rfl, ha, hp, asc, hl, hQ⟩ := h
    have lxs : xs.length = ps.length := hp.length
    refine ⟨_, rfl, _, rfl, _, rfl, a, xs, rfl, sqL ha, fun p hpn => ?_⟩
    rw [cut1]
    have s1 : Same H (upd H p (.lst xs.tail)) := Same.upd hpn
    refine ⟨a, p, xs, xs.tail, rfl, sqL (s1 _ _ ha), sqL upd_same, ?_⟩
    refine lc_itG (walk_zip rfl) (fun i acc _ => acc = (List.replicate i true).map V.bl) (by omega) (fun H' s => ⟨sqL (s _ _ (s1 _ _ ha)), sqL (s _ _ upd_same)⟩) (fun _ _ _ _ _ h => h) rfl ?_ ?_
    · rintro i x acc H2 H3 N N0 hi sm hR ⟨T, x1, x2, rfl, hT, rfl, e1, e2⟩ hN hN0
      have e2 : xs.tail[i]? = some x2 := e2
      rw [List.getElem?_tail] at e2
      obtain ⟨p1, q1, a1, rfl, v1⟩ := pair_get hp e1
      obtain ⟨p2, q2, a2, rfl, v2⟩ := pair_get hp e2
      have lt : shLt p1 p2 := by
        obtain ⟨b1, c1⟩ := List.getElem?_eq_some_iff.mp q1
        obtain ⟨b2, c2⟩ := List.getElem?_eq_some_iff.mp q2
        rw [← c1, ← c2]
        exact List.pairwise_iff_getElem.mp asc _ _ b1 b2 (Nat.lt_succ_self i)
      have s3 : Same H (upd H2 T (.tup [.ref a1, .ref a2])) := (s1.trans sm).trans (Same.upd hT)
      refine ⟨T, _, rfl, sqT upd_same, rfl, _, _, rfl, _, _, rfl, rfl, rfl, ?_⟩
      refine ⟨_, rfl, _, rfl, a1, a2, [p1.1, p1.2], [p2.1, p2.2], rfl, rfl, sqT (s3 _ _ v1), sqT (s3 _ _ v2), ?_⟩
      rw [lex_sh lt]
      exact hN _ _ (Same.upd hT) (by rw [hR, List.replicate_succ', List.map_append]; rfl)
    · intro acc H2 D sm hD hacc hR
      refine ⟨D, _, rfl, sqL (by rw [hacc, hR]), ?_⟩
      rw [show (List.replicate (min xs.length xs.tail.length) true).all id = true from by rw [List.all_replicate]; simp]
      exact hQ _ (s1.trans sm)
end
end K19

set_option Elab.async false
set_option linter.all false
set_option maxRecDepth 100000
set_option maxHeartbeats 4000000
/-! the policy's check -/
namespace K19
open PySem PySem.Spec PyProof.Rows L2
section
variable {P : Program} {w : World} {K : PySem.W.Frag} {mg : Str → Option Value} {base : Heap}
theorem isIntV_true {i lo hi : Int} (h1 : lo ≤ i) (h2 : i ≤ hi) : isIntV (.int i) lo hi = true := by
  show (decide (lo ≤ i) && decide (i ≤ hi)) = true
  rw [decide_eq_true h1, decide_eq_true h2]
  rfl
def spShape : Sp := fun vs H Q _ => ∃ v p, vs = [v] ∧ VPair H v p ∧ 1 ≤ p.1 ∧ p.1 ≤ 1000000 ∧ 0 ≤ p.2 ∧ p.2 ≤ p.1 - 1 ∧ Q (.bl true) H
theorem sc_IsShape : FnScope ["value"] ["value"] (defScope sIsShape) := ⟨rfl, rfl, rfl, by decide +kernel, rfl, by decide +kernel, by decide +kernel⟩
theorem do_IsShape (T : Tx K mg) : Does P w K mg base CX0 2 (AG K "is_shape") ["value"] spShape := by
  obtain ⟨fd, F0⟩ := T.def_ dIsShape (List.mem_of_getElem? (i := 2) rfl)
  have F : FunD K "is_shape" "is_shape" (defArgs sIsShape) (defBody sIsShape) (defScope sIsShape) [] [] (AG K "is_shape") fd := F0
  obtain ⟨tMAX_PERIOD, hMAX_PERIOD⟩ : ∃ t, mg "MAX_PERIOD" = some (.int 1000000 t) := T.num ("MAX_PERIOD", 1000000) (by decide +kernel)
  have d_is_between := do_IsBetween (P := P) (w := w) (base := base) T
  refine ⟨fd, F.ok sc_IsShape (fun vs H Q E h => ?len) (fun cdv A outer s H vs Q E hr h => ⟨_, PSs.nox (pss_cons (ps_if (PW.pt (pw_or (pt_not (pt_val (pe_callB call_isi rfl (T.free "isinstance" (by decide +kernel)) (by decide +kernel) (pa_cons (pv 0) (pa_cons (pe_bltn (v := .ty "tuple") rfl (T.free "tuple" (by decide +kernel)) (by decide +kernel) rfl) pa_nil))))) (pw_or (pt_cmpR op_ne (pe_callB call_len_seq rfl (T.free "len" (by decide +kernel)) (by decide +kernel) (pa_cons (pv 0) pa_nil)) (pe_int) (nomark _)) (pw_or1 (pt_not (pt_val (pf d_is_between (hr.mono (by decide)) (T.glo "is_between" (by decide +kernel)) (pa_cons (pe_ix ix_tup (pv 0) (pe_int) (fun _ _ => rfl)) (pa_cons (pe_int) (pa_cons (pe_glob (v := .int 1000000) rfl hMAX_PERIOD ⟨_, rfl⟩) pa_nil))))))))))
        (pss_one (ps_ret (pe_bl)))
        pss_nil)
      (pss_one (ps_ret (pf d_is_between (hr.mono (by decide)) (T.glo "is_between" (by decide +kernel)) (pa_cons (pe_ix ix_tup (pv 0) (pe_int) (fun _ _ => rfl)) (pa_cons (pe_int) (pa_cons (pe_op op_sub (pe_ix ix_tup (pv 0) (pe_int) (fun _ _ => rfl)) (pe_int)) pa_nil))))))), ?rd⟩), F.bindsN (fun _ _ _ _ _ _ us hl => match us, hl with | [_], _ => rfl), F.kp⟩
  case len => obtain ⟨v, p, rfl, _⟩ := h; rfl
  case rd =>
    obtain ⟨v, p, rfl, ⟨a, rfl, ha⟩, h1, h2, h3, h4, hQ⟩ := h
    refine ⟨_, rfl, _, _, .type "tuple", .type "tuple", true, rfl, .ty _, ty_tup ha, kit_ty (by decide +kernel), true, rfl, ?_⟩
    refine ⟨_, rfl, _, _, rfl, .inr (sqT ha), rfl, _, rfl, ?_⟩
    refine ⟨_, rfl, _, _, _, _, rfl, rfl, sqT ha, rfl, _, _, _, rfl, .int _, ?_⟩
    rw [isIntV_true h1 h2]
    refine ⟨true, rfl, ?_⟩
    refine ⟨_, rfl, _, _, _, _, rfl, rfl, sqT ha, rfl, _, rfl, _, _, _, _, rfl, rfl, sqT ha, rfl, _, _, rfl, rfl, _, _, _, rfl, .int _, ?_⟩
    rw [isIntV_true h3 h4]
    exact hQ
def spRule : Sp := fun vs H Q _ => ∃ v r, vs = [v] ∧ VRule H v r ∧ RuleOk r ∧ ∀ H', Same H H' → Q (.bl true) H'
theorem notAll : ¬ (HT.sIx 3 0 none = 0 ∧ HT.sIx 3 3 (some 2) = 3) := by decide
theorem cut02 (x y z : V) : cutV [x, y, z] none (some 2) = [x, y] := rfl
theorem sc_IsRule : FnScope ["value"] ["value"] (defScope sIsRule) := ⟨rfl, rfl, rfl, by decide +kernel, rfl, by decide +kernel, by decide +kernel⟩
theorem do_IsRule (T : Tx K mg) : Does P w K mg base CX0 3 (AG K "is_rule") ["value"] spRule := by
  obtain ⟨fd, F0⟩ := T.def_ dIsRule (List.mem_of_getElem? (i := 3) rfl)
  have F : FunD K "is_rule" "is_rule" (defArgs sIsRule) (defBody sIsRule) (defScope sIsRule) [] [] (AG K "is_rule") fd := F0
  obtain ⟨tMAX_COUNT, hMAX_COUNT⟩ : ∃ t, mg "MAX_COUNT" = some (.int 24 t) := T.num ("MAX_COUNT", 24) (by decide +kernel)
  have d_is_between := do_IsBetween (P := P) (w := w) (base := base) T
  have d_is_shape := do_IsShape (P := P) (w := w) (base := base) T
  refine ⟨fd, F.ok sc_IsRule (fun vs H Q E h => ?len) (fun cdv A outer s H vs Q E hr h => ⟨_, PSs.nox (pss_one (ps_ret ((pe_and (pe_callB call_isi rfl (T.free "isinstance" (by decide +kernel)) (by decide +kernel) (pa_cons (pv 0) (pa_cons (pe_bltn (v := .ty "tuple") rfl (T.free "tuple" (by decide +kernel)) (by decide +kernel) rfl) pa_nil))) (pe_and (pe_cmpR op_eq (pe_callB call_len_seq rfl (T.free "len" (by decide +kernel)) (by decide +kernel) (pa_cons (pv 0) pa_nil)) (pe_int) (nomark _)) (pe_and (pf d_is_shape (hr.mono (by decide)) (T.glo "is_shape" (by decide +kernel)) (pa_cons (pe_slice sl_tupA (pv 0) po_none (po_some (pe_int))) pa_nil)) (pe_one (pf d_is_between (hr.mono (by decide)) (T.glo "is_between" (by decide +kernel)) (pa_cons (pe_ix ix_tup (pv 0) (pe_int) (fun _ _ => rfl)) (pa_cons (pe_int) (pa_cons (pe_glob (v := .int 24) rfl hMAX_COUNT ⟨_, rfl⟩) pa_nil))))))))))), ?rd⟩), F.bindsN (fun _ _ _ _ _ _ us hl => match us, hl with | [_], _ => rfl), F.kp⟩
  case len => obtain ⟨v, r, rfl, _⟩ := h; rfl
  case rd =>
    obtain ⟨v, r, rfl, ⟨a, rfl, ha⟩, ok, hQ⟩ := h
    refine ⟨_, rfl, _, _, .type "tuple", .type "tuple", true, rfl, .ty _, ty_tup ha, kit_ty (by decide +kernel), true, rfl, ?_⟩
    refine ⟨_, rfl, _, _, rfl, .inr (sqT ha), rfl, _, rfl, ?_⟩
    refine ⟨_, rfl, _, rfl, a, _, rfl, sqT ha, fun z => absurd z notAll, fun _ p hp => ?_⟩
    rw [cut02]
    refine ⟨_, (r.1, r.2.1), rfl, ⟨p, rfl, upd_same⟩, ok.p1, ok.p2, ok.o1, ok.o2, true, rfl, ?_⟩
    have s1 : Same H (upd H p (.tup [.int r.1, .int r.2.1])) := Same.upd hp
    refine ⟨_, rfl, _, _, _, _, rfl, rfl, sqT (s1 _ _ ha), rfl, _, _, _, rfl, .int _, ?_⟩
    rw [isIntV_true ok.c1 ok.c2]
    exact hQ _ s1
def spPolicy : Sp := fun vs H Q _ => ∃ v pol, vs = [v] ∧ VPol H v pol ∧ PolOk pol ∧ ∀ H', Same H H' → Q (.bl true) H'
theorem paired_snoc {α β : Type} {F : α → β → Prop} {vs : List α} {bs : List β} {x : α} {y : β} (h : Paired F vs bs) (q : F x y) : Paired F (vs ++ [x]) (bs ++ [y]) := by
  induction h with
  | nil => exact .cons q .nil
  | cons q0 t ih => exact .cons q0 ih
theorem pairs_mono {H H' : Hp} {vs : List V} {ps : List (Int × Int)} (h : Paired (VPair H) vs ps) (e : Tk H H') : Paired (VPair H') vs ps := L2.Paired.mapP h fun _ _ q => q.mono e
theorem repl_all (n : Nat) : (List.replicate n true).all id = true := by rw [List.all_replicate]; simp
theorem sc_IsPolicy : FnScope ["value", "rule"] ["value"] (defScope sIsPolicy) := ⟨rfl, rfl, rfl, by decide +kernel, rfl, by decide +kernel, by decide +kernel⟩
theorem do_IsPolicy (T : Tx K mg) : Does P w K mg base CX0 4 (AG K "is_policy") ["value"] spPolicy := by
  obtain ⟨fd, F0⟩ := T.def_ dIsPolicy (List.mem_of_getElem? (i := 4) rfl)
  have F : FunD K "is_policy" "is_policy" (defArgs sIsPolicy) (defBody sIsPolicy) (defScope sIsPolicy) [] [] (AG K "is_policy") fd := F0
  obtain ⟨tMAX_RULES, hMAX_RULES⟩ : ∃ t, mg "MAX_RULES" = some (.int 3 t) := T.num ("MAX_RULES", 3) (by decide +kernel)
  have d_is_ascending := do_IsAscending (P := P) (w := w) (base := base) T
  have d_is_rule := do_IsRule (P := P) (w := w) (base := base) T
  refine ⟨fd, F.ok sc_IsPolicy (fun vs H Q E h => ?len) (fun cdv A outer s H vs Q E hr h => ⟨_, PSs.nox (pss_cons (ps_if (PW.pt (pw_or (pt_not (pt_val (pe_callB call_isi rfl (T.free "isinstance" (by decide +kernel)) (by decide +kernel) (pa_cons (pv 0) (pa_cons (pe_bltn (v := .ty "tuple") rfl (T.free "tuple" (by decide +kernel)) (by decide +kernel) rfl) pa_nil))))) (pw_or (pt_not (pt_chain op_le op_le (pe_int) (pe_callB call_len_seq rfl (T.free "len" (by decide +kernel)) (by decide +kernel) (pa_cons (pv 0) pa_nil)) (pe_glob (v := .int 3) rfl hMAX_RULES ⟨_, rfl⟩))) (pw_or1 (pt_not (pt_val (pe_callB (cr_all rfl) rfl (T.free "all" (by decide +kernel)) (by decide +kernel) (pa_cons (pe_lc (own := [("rule", 1)]) rfl sc_IsPolicy.nd (pi_tup (pv 0)) (blkOk_by (N := ["value", "rule"]) (sc := defScope sIsPolicy) (by decide +kernel)) (fun _ _ _ _ _ => (pg_name (i := 1) sc_IsPolicy.nd rfl (Or.inl rfl))) (fun _ _ _ _ _ => pts_nil) (fun _ _ _ _ _ => (pf d_is_rule (hr.mono (by decide)) (T.glo "is_rule" (by decide +kernel)) (pa_cons (pv 1) pa_nil)))) pa_nil))))))))
        (pss_one (ps_ret (pe_bl)))
        pss_nil)
      (pss_one (ps_ret (pf d_is_ascending (hr.mono (by decide)) (T.glo "is_ascending" (by decide +kernel)) (pa_cons (pe_lc (own := [("rule", 1)]) rfl sc_IsPolicy.nd (pi_tup (pv 0)) (blkOk_by (N := ["value", "rule"]) (sc := defScope sIsPolicy) (by decide +kernel)) (fun _ _ _ _ _ => (pg_name (i := 1) sc_IsPolicy.nd rfl (Or.inl rfl))) (fun _ _ _ _ _ => pts_nil) (fun _ _ _ _ _ => (pe_slice (r := rSlA K) sl_tupA (pv 1) po_none (po_some (pe_int))))) pa_nil))))), ?rd⟩), F.bindsN (fun _ _ _ _ _ _ us hl => match us, hl with | [_], _ => rfl), F.kp⟩
  case len => obtain ⟨v, pol, rfl, _⟩ := h; rfl
  case rd =>
    obtain ⟨v, pol, rfl, ⟨a, vs, rfl, ha, hvs⟩, ok, hQ⟩ := h
    have lvs : vs.length = pol.length := hvs.length
    have l1 := ok.len1
    have l3 := ok.len3
    refine ⟨_, rfl, _, _, .type "tuple", .type "tuple", true, rfl, .ty _, ty_tup ha, kit_ty (by decide +kernel), true, rfl, ?_⟩
    refine ⟨_, rfl, a, _, rfl, .inr (sqT ha), _, _, rfl, rfl, _, rfl, ?_⟩
    rw [decide_eq_true (show (1 : Int) ≤ (vs.length : Nat) by omega)]
    refine ⟨_, _, rfl, rfl, _, rfl, ?_⟩
    rw [decide_eq_true (show ((vs.length : Nat) : Int) ≤ 3 by omega)]
    refine ⟨_, rfl, a, rfl, ⟨_, sqT ha⟩, ?_⟩
    refine lc_tupG (fun i acc _ => acc = (List.replicate i true).map V.bl) ha (by omega) (fun _ _ _ _ _ h => h) rfl ?_ ?_
    · intro i x acc H2 N N0 hx sm hR hN hN0
      obtain ⟨r, hr', vr⟩ := pair_get hvs hx
      exact ⟨rfl, _, rfl, _, r, rfl, vr.mono (Tk.of sm), ok.rules r (List.mem_of_getElem? hr'), fun H4 s4 => hN _ _ s4 (by rw [hR, List.replicate_succ', List.map_append]; rfl)⟩
    · intro acc H2 D sm hD hacc hR
      refine ⟨D, _, rfl, sqL (by rw [hacc, hR]), ?_⟩
      rw [repl_all]
      refine ⟨true, rfl, ?_⟩
      refine ⟨_, rfl, a, rfl, ⟨_, sqT (sm _ _ ha)⟩, ?_⟩
      refine lc_tupG (fun i acc H' => Paired (VPair H') acc ((pol.take i).map fun r => (r.1, r.2.1))) (sm _ _ ha) (by omega) (fun _ _ _ _ e h => pairs_mono h e) .nil ?_ ?_
      · intro i x acc2 H3 N N0 hx sm3 hR3 hN hN0
        obtain ⟨r, hr', b, rfl, hb⟩ := pair_get hvs hx
        have hb3 := sm3 _ _ (sm _ _ hb)
        refine ⟨rfl, _, rfl, _, rfl, b, _, rfl, sqT hb3, fun z => absurd z notAll, fun _ p hp => ?_⟩
        rw [cut02]
        have s4 : Same H3 (upd H3 p (.tup [.int r.1, .int r.2.1])) := Same.upd hp
        refine hN _ _ s4 ?_
        rw [take_succ' hr', List.map_append]
        exact paired_snoc (pairs_mono hR3 (Tk.of s4)) ⟨p, rfl, upd_same⟩
      · intro acc2 H3 D2 sm3 hD2 hacc2 hR3
        rw [lvs, List.take_length] at hR3
        refine ⟨D2, acc2, _, rfl, hacc2, hR3, ok.asc, by rw [List.length_map]; omega, fun H4 s4 => hQ _ ((sm.trans sm3).trans s4)⟩
def spCheck : Sp := fun vs H Q _ => ∃ v pol, vs = [v] ∧ VPol H v pol ∧ PolOk pol ∧ ∀ H', Same H H' → Q .non H'
theorem sc_CheckPolicy : FnScope ["policy"] ["policy"] (defScope sCheckPolicy) := ⟨rfl, rfl, rfl, by decide +kernel, rfl, by decide +kernel, by decide +kernel⟩
theorem do_CheckPolicy (T : Tx K mg) : Does P w K mg base CX0 5 (AG K "check_policy") ["policy"] spCheck := by
  obtain ⟨fd, F0⟩ := T.def_ dCheckPolicy (List.mem_of_getElem? (i := 5) rfl)
  have F : FunD K "check_policy" "check_policy" (defArgs sCheckPolicy) (defBody sCheckPolicy) (defScope sCheckPolicy) [] [] (AG K "check_policy") fd := F0
  have d_is_policy := do_IsPolicy (P := P) (w := w) (base := base) T
  refine ⟨fd, F.ok sc_CheckPolicy (fun vs H Q E h => ?len) (fun cdv A outer s H vs Q E hr h => ⟨_, PSs.nox (pss_one (ps_if (pt_not (pt_val (pf d_is_policy (hr.mono (by decide)) (T.glo "is_policy" (by decide +kernel)) (pa_cons (pv 0) pa_nil))))
        (pss_one ps_never)
        pss_nil)), ?rd⟩), F.bindsN (fun _ _ _ _ _ _ us hl => match us, hl with | [_], _ => rfl), F.kp⟩
  case len => obtain ⟨v, pol, rfl, _⟩ := h; rfl
  case rd =>
    obtain ⟨v, pol, rfl, hv, ok, hQ⟩ := h
    exact ⟨_, rfl, _, _, rfl, hv, ok, fun H' s => ⟨true, rfl, hQ H' s⟩⟩
end
end K19

set_option Elab.async false
set_option linter.all false
set_option maxRecDepth 100000
set_option maxHeartbeats 4000000
/-! the store: what it is, its state, equality -/
namespace K19
open PySem PySem.Spec PyProof.Rows L2
/-! ### data that is compared -/
def DOk (n : Nat) (d : PyData) : Prop := d.canLay0 = true ∧ d.depth ≤ n
theorem dok_all {n : Nat} : ∀ {ds : List PyData}, (∀ d ∈ ds, DOk n d) → PyData.canLayAll0 ds = true ∧ PyData.depthAll ds ≤ n
  | [], _ => ⟨by simp only [PyData.canLayAll0], by simp only [PyData.depthAll]; exact Nat.zero_le _⟩
  | d :: ds, h => by
    obtain ⟨h1, h2⟩ := h d List.mem_cons_self
    obtain ⟨h3, h4⟩ := dok_all (ds := ds) fun e he => h e (List.mem_cons_of_mem _ he)
    refine ⟨?_, ?_⟩
    · simp only [PyData.canLayAll0, h1, h3, Bool.and_self]
    · simp only [PyData.depthAll]
      omega
theorem dok_tup {n : Nat} {ds : List PyData} (h : ∀ d ∈ ds, DOk n d) : DOk (n + 1) (.tuple ds) := by
  obtain ⟨h1, h2⟩ := dok_all h
  refine ⟨?_, ?_⟩
  · simp only [PyData.canLay0]; exact h1
  · simp only [PyData.depth]; omega
theorem dok_lst {n : Nat} {ds : List PyData} (h : ∀ d ∈ ds, DOk n d) : DOk (n + 1) (.list ds) := by
  obtain ⟨h1, h2⟩ := dok_all h
  refine ⟨?_, ?_⟩
  · simp only [PyData.canLay0]; exact h1
  · simp only [PyData.depth]; omega
theorem dok_int (n : Nat) (i : Int) : DOk n (.int i) := ⟨by simp only [PyData.canLay0], by simp only [PyData.depth]; exact Nat.zero_le _⟩
theorem dok_sh {n : Nat} {d : PyData} (h : DOk n d) (hn : n ≤ 64) : SeqAt.shaped d = true := by
  unfold SeqAt.shaped
  rw [h.1, decide_eq_true (Nat.le_trans h.2 hn)]
  rfl
theorem eqv_map {α : Type} [DecidableEq α] {f : α → PyData} (h : ∀ a b, PyData.eqv (f a) (f b) = decide (a = b)) : ∀ xs ys : List α, PyData.eqvAll (xs.map f) (ys.map f) = decide (xs = ys)
  | [], [] => by simp [PyData.eqvAll]
  | [], _ :: _ => by simp [PyData.eqvAll]
  | _ :: _, [] => by simp [PyData.eqvAll]
  | a :: r, b :: t => by
    simp only [List.map_cons, PyData.eqvAll, h, eqv_map h r t]
    by_cases c : a = b <;> by_cases c' : r = t <;> simp [c, c']
def intsD (ns : List Int) : PyData := .tuple (ns.map .int)
def ruleD (r : Rule) : PyData := .tuple [.int r.1, .int r.2.1, .int r.2.2]
def polD (pol : List Rule) : PyData := .tuple (pol.map ruleD)
def stD (s : S4) : PyData := .tuple [intsD s.p, intsD s.f, intsD s.k, intsD s.d]
theorem beq_dec (a b : Int) : (a == b) = decide (a = b) := by
  rw [Bool.eq_iff_iff, beq_iff_eq, decide_eq_true_eq]
theorem eqv_int (a b : Int) : PyData.eqv (.int a) (.int b) = decide (a = b) := by
  simp only [PyData.eqv]
  exact beq_dec a b
theorem eqv_ints (a b : List Int) : PyData.eqv (intsD a) (intsD b) = decide (a = b) := by
  unfold intsD
  simp only [PyData.eqv]
  exact eqv_map eqv_int a b
theorem eqv_rule (a b : Rule) : PyData.eqv (ruleD a) (ruleD b) = decide (a = b) := by
  obtain ⟨a1, a2, a3⟩ := a
  obtain ⟨b1, b2, b3⟩ := b
  unfold ruleD
  simp only [PyData.eqv, PyData.eqvAll, beq_dec]
  by_cases c1 : a1 = b1 <;> by_cases c2 : a2 = b2 <;> by_cases c3 : a3 = b3 <;> simp [c1, c2, c3]
theorem eqv_pol (a b : List Rule) : PyData.eqv (polD a) (polD b) = decide (a = b) := by
  unfold polD
  simp only [PyData.eqv]
  exact eqv_map eqv_rule a b
theorem eqv_st (a b : S4) : PyData.eqv (stD a) (stD b) = decide (a = b) := by
  obtain ⟨a1, a2, a3, a4⟩ := a
  obtain ⟨b1, b2, b3, b4⟩ := b
  unfold stD
  have e : ∀ x y : List PyData, PyData.eqv (.tuple x) (.tuple y) = PyData.eqvAll x y := fun x y => by simp only [PyData.eqv]
  rw [e]
  simp only [PyData.eqvAll, eqv_ints]
  by_cases c1 : a1 = b1 <;> by_cases c2 : a2 = b2 <;> by_cases c3 : a3 = b3 <;> by_cases c4 : a4 = b4 <;> simp [c1, c2, c3, c4]
theorem dok_ints (ns : List Int) : DOk 1 (intsD ns) := dok_tup fun d hd => by
  obtain ⟨i, _, rfl⟩ := List.mem_map.mp hd
  exact dok_int 0 i
theorem dok_pol (pol : List Rule) : DOk 2 (polD pol) := dok_tup fun d hd => by
  obtain ⟨r, _, rfl⟩ := List.mem_map.mp hd
  refine dok_tup fun d hd => ?_
  have e : d = .int r.1 ∨ d = .int r.2.1 ∨ d = .int r.2.2 := by simpa using hd
  rcases e with rfl | rfl | rfl <;> exact dok_int 0 _
theorem dok_st (s : S4) : DOk 2 (stD s) := dok_tup fun d hd => by
  have e : d = intsD s.p ∨ d = intsD s.f ∨ d = intsD s.k ∨ d = intsD s.d := by simpa using hd
  rcases e with rfl | rfl | rfl | rfl <;> exact dok_ints _
section
variable {K : PySem.W.Frag} {H : Hp} {v : V}
theorem dpAll_map {α : Type} {F : V → α → Prop} {f : α → PyData} (h : ∀ v a, F v a → Dp K H v (f a)) : ∀ {vs : List V} {as : List α}, Paired F vs as → DpAll K H vs (as.map f)
  | _, _, .nil => .nil
  | _, _, .cons q t => .cons (h _ _ q) (dpAll_map h t)
theorem dpAll_ints : ∀ ns : List Int, DpAll K H (ns.map V.int) (ns.map .int)
  | [] => .nil
  | n :: ns => .cons (.int n) (dpAll_ints ns)
theorem VInts.dp {ns : List Int} (h : VInts H v ns) : Dp K H v (intsD ns) := by
  obtain ⟨a, rfl, ha⟩ := h
  exact .tup (sqT ha) (dpAll_ints ns)
theorem VRule.dp {r : Rule} (h : VRule H v r) : Dp K H v (ruleD r) := by
  obtain ⟨a, rfl, ha⟩ := h
  exact .tup (sqT ha) (.cons (.int _) (.cons (.int _) (.cons (.int _) .nil)))
theorem VPol.dp {pol : List Rule} (h : VPol H v pol) : Dp K H v (polD pol) := by
  obtain ⟨a, vs, rfl, ha, hvs⟩ := h
  exact .tup (sqT ha) (dpAll_map (fun _ _ q => VRule.dp q) hvs)
theorem VSt.dp {s : S4} (h : VSt H v s) : Dp K H v (stD s) := by
  obtain ⟨a, v1, v2, v3, v4, rfl, ha, h1, h2, h3, h4⟩ := h
  exact .tup (sqT ha) (.cons h1.dp (.cons h2.dp (.cons h3.dp (.cons h4.dp .nil))))
end
/-! ### the store -/
section
variable {P : Program} {w : World} {K : PySem.W.Frag} {mg : Str → Option Value} {base : Heap}
abbrev Sto (K : PySem.W.Frag) (x pa : Addr) (H : Hp) (pol : List Rule) (hist : List S4) (cur : S4) : Prop := IsSto (SC K) x pa H pol hist cur
theorem raise_own {X : Cx} {W : WX} (T : Tx X.K X.mg) {x m : Str} {j : Nat} {p p2 p3 p4 : Pos} (hx : x ∈ raised) (hc : X.calm = true) (tk : L2N.Takes X W) (hg : Gl X x) (hcl : x ∈ clss := by decide +kernel) (hdb : (x == ("__debug__" : Str)) = false := by decide) :
    PS X (.Raise (some (.Call (.Name x p) [.Constant (.str m) j p2] [] p3)) none p4) (fun _ σ H => W (.ref (AG X.K x)) none σ H) := by
  obtain ⟨h1, h2, h3, h4⟩ := T.exc x hx
  exact L2N.ps_raise hc tk (L2N.pmk_own PySem.F.excBase_ValueError h1 (T.cls x hcl) h2 (raises_own h3 h4) hg hdb)
def spLen (K : PySem.W.Frag) : Sp := fun vs H Q _ => ∃ x pa pol hist cur, vs = [.ref x] ∧ Sto K x pa H pol hist cur ∧ Q (.int (cur.p.length : Nat)) H
theorem sc_StLen : FnScope ["self"] ["self"] (defScope sStLen) := ⟨rfl, rfl, rfl, by decide +kernel, rfl, by decide +kernel, by decide +kernel⟩
theorem do_StLen (T : Tx K mg) : Does P w K mg base CX0 1 (AM K "__len__") ["self"] (spLen K) := by
  obtain ⟨fd, F0⟩ := T.def_ dStLen (List.mem_of_getElem? (i := 30) rfl)
  have F : FunD K "__len__" "Store.__len__" (defArgs sStLen) (defBody sStLen) (defScope sStLen) [] [] (AM K "__len__") fd := F0
  refine ⟨fd, F.ok sc_StLen (fun vs H Q E h => ?len) (fun cdv A outer s H vs Q E hr h => ⟨_, PSs.nox (pss_one (ps_ret (pe_callB call_len_seq rfl (T.free "len" (by decide +kernel)) (by decide +kernel) (pa_cons (pe_fld (pv 0) rfl) pa_nil)))), ?rd⟩), F.bindsN (fun _ _ _ _ _ _ us hl => match us, hl with | [_], _ => rfl), F.kp⟩
  case len => obtain ⟨x, pa, pol, hist, cur, rfl, _⟩ := h; rfl
  case rd =>
    obtain ⟨x, pa, pol, hist, cur, rfl, ⟨dx, vp, v1, v2, v3, v4, pvs, hx, h1, ⟨a, rfl, ha⟩, h3, h4, h5, h6, h7⟩, hQ⟩ := h
    refine ⟨_, rfl, x, _, dx, _, _, rfl, hx, T.cl, T.noat "present" (by decide +kernel), rfl, a, _, rfl, .inr (sqT ha), ?_⟩
    rw [List.length_map]
    exact hQ
def spState (K : PySem.W.Frag) : Sp := fun vs H Q _ => ∃ x pa pol hist cur, vs = [.ref x] ∧ Sto K x pa H pol hist cur ∧ ∀ H' v, Same H H' → VSt H' v cur → Q v H'
theorem sc_StState : FnScope ["self"] ["self"] (defScope sStState) := ⟨rfl, rfl, rfl, by decide +kernel, rfl, by decide +kernel, by decide +kernel⟩
theorem do_StState (T : Tx K mg) : Does P w K mg base CX0 1 (AM K "state") ["self"] (spState K) := by
  obtain ⟨fd, F0⟩ := T.def_ dStState (List.mem_of_getElem? (i := 32) rfl)
  have F : FunD K "state" "Store.state" (defArgs sStState) (defBody sStState) (defScope sStState) [] [] (AM K "state") fd := F0
  refine ⟨fd, F.ok sc_StState (fun vs H Q E h => ?len) (fun cdv A outer s H vs Q E hr h => ⟨_, PSs.nox (pss_one (ps_ret (pe_tup (pa_cons (pe_fld (pv 0) rfl) (pa_cons (pe_fld (pv 0) rfl) (pa_cons (pe_fld (pv 0) rfl) (pa_cons (pe_fld (pv 0) rfl) pa_nil))))))), ?rd⟩), F.bindsN (fun _ _ _ _ _ _ us hl => match us, hl with | [_], _ => rfl), F.kp⟩
  case len => obtain ⟨x, pa, pol, hist, cur, rfl, _⟩ := h; rfl
  case rd =>
    obtain ⟨x, pa, pol, hist, cur, rfl, ⟨dx, vp, v1, v2, v3, v4, pvs, hx, h1, h2, h3, h4, h5, h6, h7⟩, hQ⟩ := h
    refine ⟨_, rfl, x, _, dx, _, _, rfl, hx, T.cl, T.noat "present" (by decide +kernel), rfl, ?_⟩
    refine ⟨_, rfl, x, _, dx, _, _, rfl, hx, T.cl, T.noat "fixed" (by decide +kernel), rfl, ?_⟩
    refine ⟨_, rfl, x, _, dx, _, _, rfl, hx, T.cl, T.noat "known" (by decide +kernel), rfl, ?_⟩
    refine ⟨_, rfl, x, _, dx, _, _, rfl, hx, T.cl, T.noat "deleted" (by decide +kernel), rfl, sz_le (n := 4) (by decide), fun p hp => ?_⟩
    have s1 := Same.upd (o := .tup [v1, v2, v3, v4]) hp
    exact hQ _ _ s1 ⟨p, v1, v2, v3, v4, rfl, upd_same, h2.mono (Tk.of s1), h3.mono (Tk.of s1), h4.mono (Tk.of s1), h5.mono (Tk.of s1)⟩
end
end K19

set_option Elab.async false
set_option linter.all false
set_option maxRecDepth 100000
set_option maxHeartbeats 4000000
/-! the store: equality, making, change, checks -/
namespace K19
open PySem PySem.Spec PyProof.Rows L2
section
variable {P : Program} {w : World} {K : PySem.W.Frag} {mg : Str → Option Value} {base : Heap}
def spEq (K : PySem.W.Frag) : Sp := fun vs H Q _ => ∃ x v pa pol hist cur, vs = [.ref x, v] ∧ Sto K x pa H pol hist cur ∧
  ((∃ y pa' pol' hist' cur', v = .ref y ∧ Sto K y pa' H pol' hist' cur' ∧ ∀ H', Same H H' → Q (.bl (decide (pol = pol' ∧ cur = cur'))) H') ∨ (∃ a xs, v = .ref a ∧ H a = some (.tup xs) ∧ Q (.bl false) H))
theorem sc_StEq : FnScope ["self", "other"] ["self", "other"] (defScope sStEq) := ⟨rfl, rfl, rfl, by decide +kernel, rfl, by decide +kernel, by decide +kernel⟩
theorem do_StEq (T : Tx K mg) : Does P w K mg base CX0 2 (AM K "__eq__") ["self", "other"] (spEq K) := by
  obtain ⟨fd, F0⟩ := T.def_ dStEq (List.mem_of_getElem? (i := 31) rfl)
  have F : FunD K "__eq__" "Store.__eq__" (defArgs sStEq) (defBody sStEq) (defScope sStEq) [] [] (AM K "__eq__") fd := F0
  obtain ⟨fd_state, F_state, b_state, k_state⟩ := do_StState (P := P) (w := w) (base := base) T
  refine ⟨fd, F.ok sc_StEq (fun vs H Q E h => ?len) (fun cdv A outer s H vs Q E hr h => ⟨_, PSs.nox (pss_one (ps_ret ((pe_and (pe_callB call_isi rfl (T.free "isinstance" (by decide +kernel)) (by decide +kernel) (pa_cons (pv 1) (pa_cons (pe_glob (v := .ref (AG K "Store")) rfl (T.cls "Store" (by decide +kernel)) rfl) pa_nil))) (pe_and (pe_cmpR (op_eqD hr.units) (pe_fld (pv 0) rfl) (pe_fld (pv 1) rfl) (nomark _)) (pe_one (pe_cmpR (op_eqD hr.units) (pe_meth0 (pv 0) T.cl (T.meth "state" (by decide +kernel)) F_state (hr.mono (by decide)) b_state .nil (C8.pass0 (E := E0))) (pe_meth0 (pv 1) T.cl (T.meth "state" (by decide +kernel)) F_state (hr.mono (by decide)) b_state .nil (C8.pass0 (E := E0))) (nomark _)))))))), ?rd⟩), F.bindsN (fun _ _ _ _ _ _ us hl => match us, hl with | [_, _], _ => rfl), F.kp⟩
  case len => obtain ⟨x, v, pa, pol, hist, cur, rfl, _⟩ := h; rfl
  case rd =>
    obtain ⟨x, v, pa, pol, hist, cur, rfl, sx, h⟩ := h
    have I := T.ins.1
    rcases h with ⟨y, pa', pol', hist', cur', rfl, sy, hQ⟩ | ⟨a, xs, rfl, ha, hQ⟩
    · have sx0 := sx
      have sy0 := sy
      obtain ⟨dx, vp, v1, v2, v3, v4, pvs, hx, h1, h2, h3, h4, h5, h6, h7⟩ := sx
      obtain ⟨dy, vp', v1', v2', v3', v4', pvs', hy, k1, k2, k3, k4, k5, k6, k7⟩ := sy
      refine ⟨_, rfl, _, _, .ref (SC K), .ref (SC K), true, rfl, .own _, .base (.ins hy T.cl I.ha I.hn I.htk I.hm), I.me, true, rfl, ?_⟩
      refine ⟨_, rfl, x, _, dx, _, _, rfl, hx, T.cl, T.noat "policy" (by decide +kernel), rfl, _, rfl, y, _, dy, _, _, rfl, hy, T.cl, T.noat "policy" (by decide +kernel), rfl, polD pol, polD pol', h1.dp, k1.dp, dok_sh (dok_pol _) (by decide), dok_sh (dok_pol _) (by decide), _, rfl, ?_⟩
      rw [eqv_pol]
      by_cases e : pol = pol'
      · rw [decide_eq_true e]
        refine ⟨_, rfl, x, dx, _, rfl, hx, rfl, x, pa, pol, hist, cur, rfl, sx0, fun H2 u s2 vu => ?_⟩
        refine ⟨_, rfl, y, dy, _, rfl, s2 _ _ hy, rfl, y, pa', pol', hist', cur', rfl, sy0.kept (Fr.of (S := []) s2) (by simp) (by simp), fun H3 u' s3 vu' => ?_⟩
        refine ⟨stD cur, stD cur', (vu.mono (Tk.of s3)).dp, vu'.dp, dok_sh (dok_st _) (by decide), dok_sh (dok_st _) (by decide), ?_⟩
        rw [eqv_st]
        have e2 : decide (cur = cur') = decide (pol = pol' ∧ cur = cur') := decide_eq_decide.mpr ⟨fun z => ⟨e, z⟩, fun z => z.2⟩
        rw [e2]
        exact hQ _ (s2.trans s3)
      · rw [decide_eq_false e]
        have e2 : decide (pol = pol' ∧ cur = cur') = false := decide_eq_false fun z => e z.1
        have := hQ H (Same.refl _)
        rw [e2] at this
        exact this
    · exact ⟨_, rfl, _, _, .type "tuple", .ref (SC K), false, rfl, .own _, ty_tup ha, T.ins.2.1, false, rfl, hQ⟩
theorem fr_upd {S : List Addr} {H : Hp} {x C dx : Addr} {fs fs' : List (Str × V)} (hx : H x = some (.ins C dx fs)) : Fr (x :: S) H (upd H x (.ins C dx fs')) :=
  ⟨fun b o e n => by rw [upd_ne (fun z => n (by rw [z]; exact List.mem_cons_self))]; exact e, Tk.upd (by rw [hx]; intro z e; cases e)⟩
theorem init_get {H : Hp} {x p C dx : Addr} {fs : List (Str × V)} {o : HO} (hx : H x = some (.ins C dx fs)) (n : H p = none) : (upd H p o) x = some (.ins C dx fs) := by
  rw [upd_ne (ne_of_none hx n)]
  exact hx
theorem init_step {H0 H : Hp} {x p C dx : Addr} {fs : List (Str × V)} {f : Str} (hx : H x = some (.ins C dx fs)) (fr : Fr [x] H0 H) (n : H p = none) :
    (upd (upd H p (.tup [])) x (.ins C dx (putF f (.ref p) fs))) x = some (.ins C dx (putF f (.ref p) fs)) ∧ Fr [x] H0 (upd (upd H p (.tup [])) x (.ins C dx (putF f (.ref p) fs))) ∧
      VInts (upd (upd H p (.tup [])) x (.ins C dx (putF f (.ref p) fs))) (.ref p) [] ∧ Tk H (upd (upd H p (.tup [])) x (.ins C dx (putF f (.ref p) fs))) := by
  have s1 := Same.upd (o := .tup []) n
  have f1 := fr_upd (S := []) (fs' := putF f (.ref p) fs) (s1 _ _ hx)
  exact ⟨upd_same, (fr.trans (Fr.of s1)).trans f1, ⟨p, rfl, f1.tup _ _ upd_same⟩, (Tk.of s1).trans f1.tup⟩
theorem init_last {H0 H : Hp} {x p C dx : Addr} {fs : List (Str × V)} {f : Str} (hx : H x = some (.ins C dx fs)) (fr : Fr [x] H0 H) (n : H p = none) :
    Fr [x] H0 (upd (upd H p (.lst [])) x (.ins C dx (putF f (.ref p) fs))) ∧ Tk H (upd (upd H p (.lst [])) x (.ins C dx (putF f (.ref p) fs))) ∧ (upd (upd H p (.lst [])) x (.ins C dx (putF f (.ref p) fs))) p = some (.lst []) ∧ H0 p = none := by
  have ne : x ≠ p := ne_of_none hx n
  have s1 := Same.upd (o := .lst []) n
  have f1 := fr_upd (S := []) (fs' := putF f (.ref p) fs) (s1 _ _ hx)
  refine ⟨(fr.trans (Fr.of s1)).trans f1, (Tk.of s1).trans f1.tup, by rw [upd_ne ne.symm]; exact upd_same, ?_⟩
  cases c : H0 p with
  | none => rfl
  | some o =>
    have z := fr.keep _ _ c (by simp; exact fun e => ne e.symm)
    rw [n] at z
    cases z
theorem pl {f : Str} {v : V} {n : Nat} : ∀ {fs : List (Str × V)}, fs.length < n → (putF f v fs).length < n + 1
  | [], _ => by show 1 < n + 1; omega
  | (g, x) :: r, h => by
    have h : r.length + 1 < n := h
    show (if g = f then (g, v) :: r else (g, x) :: putF f v r).length < n + 1
    split
    · show r.length + 1 < n + 1
      omega
    · have := pl (f := f) (v := v) (n := n - 1) (fs := r) (by omega)
      show (putF f v r).length + 1 < n + 1
      omega
def spInit (K : PySem.W.Frag) : Sp := fun vs H Q _ => ∃ x dx v pol, vs = [.ref x, v] ∧ H x = some (.ins (SC K) dx []) ∧ VPol H v pol ∧ PolOk pol ∧ ∀ H' pa, Fr [x] H H' → H pa = none → Sto K x pa H' pol [] s40 → Q .non H'
theorem sc_StInit : FnScope ["self", "policy"] ["self", "policy"] (defScope sStInit) := ⟨rfl, rfl, rfl, by decide +kernel, rfl, by decide +kernel, by decide +kernel⟩
theorem do_StInit (T : Tx K mg) : Does P w K mg base CX0 6 (AM K "__init__") ["self", "policy"] (spInit K) := by
  obtain ⟨fd, F0⟩ := T.def_ dStInit (List.mem_of_getElem? (i := 29) rfl)
  have F : FunD K "__init__" "Store.__init__" (defArgs sStInit) (defBody sStInit) (defScope sStInit) [] [] (AM K "__init__") fd := F0
  have d_check_policy := do_CheckPolicy (P := P) (w := w) (base := base) T
  refine ⟨fd, F.ok sc_StInit (fun vs H Q E h => ?len) (fun cdv A outer s H vs Q E hr h => ⟨_, PSs.nox (pss_cons (ps_expr (pf d_check_policy (hr.mono (by decide)) (T.glo "check_policy" (by decide +kernel)) (pa_cons (pv 1) pa_nil)))
      (pss_cons (ps_fld (pv 0) (pv 1) rfl)
      (pss_cons (ps_fld (pv 0) (pe_tup pa_nil) rfl)
      (pss_cons (ps_fld (pv 0) (pe_tup pa_nil) rfl)
      (pss_cons (ps_fld (pv 0) (pe_tup pa_nil) rfl)
      (pss_cons (ps_fld (pv 0) (pe_tup pa_nil) rfl)
      (pss_one (ps_fld (pv 0) (pe_lst pa_nil) rfl)))))))), ?rd⟩), F.bindsN (fun _ _ _ _ _ _ us hl => match us, hl with | [_, _], _ => rfl), F.kp⟩
  case len => obtain ⟨x, dx, v, pol, rfl, _⟩ := h; rfl
  case rd =>
    obtain ⟨x, dx, v, pol, rfl, hx, hv, ok, hQ⟩ := h
    refine ⟨_, rfl, v, pol, rfl, hv, ok, fun H1 s1 => ?_⟩
    have x1 := s1 _ _ hx
    refine ⟨_, rfl, _, rfl, x, _, dx, _, rfl, x1, T.cl, T.noat "policy" (by decide +kernel), by decide, ?_⟩
    have y0 : (upd H1 x (.ins (SC K) dx (putF "policy" v []))) x = some (.ins (SC K) dx (putF "policy" v [])) := upd_same
    have f0 : Fr [x] H (upd H1 x (.ins (SC K) dx (putF "policy" v []))) := (Fr.of s1).trans (fr_upd x1)
    refine ⟨sz0, fun p1 n1 => ⟨_, rfl, x, _, dx, _, rfl, init_get y0 n1, T.cl, T.noat "present" (by decide +kernel), Nat.lt_of_lt_of_le (pl ((show ([] : List (Str × V)).length < 1 by decide))) (by decide), ?_⟩⟩
    obtain ⟨y1, f1, i1, t1⟩ := init_step (f := "present") y0 f0 n1
    refine ⟨sz0, fun p2 n2 => ⟨_, rfl, x, _, dx, _, rfl, init_get y1 n2, T.cl, T.noat "fixed" (by decide +kernel), Nat.lt_of_lt_of_le (pl (pl ((show ([] : List (Str × V)).length < 1 by decide)))) (by decide), ?_⟩⟩
    obtain ⟨y2, f2, i2, t2⟩ := init_step (f := "fixed") y1 f1 n2
    refine ⟨sz0, fun p3 n3 => ⟨_, rfl, x, _, dx, _, rfl, init_get y2 n3, T.cl, T.noat "known" (by decide +kernel), Nat.lt_of_lt_of_le (pl (pl (pl ((show ([] : List (Str × V)).length < 1 by decide))))) (by decide), ?_⟩⟩
    obtain ⟨y3, f3, i3, t3⟩ := init_step (f := "known") y2 f2 n3
    refine ⟨sz0, fun p4 n4 => ⟨_, rfl, x, _, dx, _, rfl, init_get y3 n4, T.cl, T.noat "deleted" (by decide +kernel), Nat.lt_of_lt_of_le (pl (pl (pl (pl ((show ([] : List (Str × V)).length < 1 by decide)))))) (by decide), ?_⟩⟩
    obtain ⟨y4, f4, i4, t4⟩ := init_step (f := "deleted") y3 f3 n4
    refine ⟨sz0, fun p5 n5 => ⟨_, rfl, x, _, dx, _, rfl, init_get y4 n5, T.cl, T.noat "past" (by decide +kernel), Nat.lt_of_lt_of_le (pl (pl (pl (pl (pl ((show ([] : List (Str × V)).length < 1 by decide))))))) (by decide), ?_⟩⟩
    obtain ⟨f5, t5, l5, n0⟩ := init_last (f := "past") y4 f4 n5
    exact hQ _ p5 f5 n0 ⟨dx, _, _, _, _, _, [], upd_same, hv.mono f5.tup, i1.mono (((t2.trans t3).trans t4).trans t5), i2.mono ((t3.trans t4).trans t5), i3.mono (t4.trans t5), i4.mono t5, l5, .nil⟩
end
end K19

set_option Elab.async false
set_option linter.all false
set_option maxRecDepth 100000
set_option maxHeartbeats 4000000
/-! the store: change, checks, what a call does -/
namespace K19
open PySem PySem.Spec PyProof.Rows L2
/-! ### one call, in plain words -/
inductive Wd
  | add | prune | protect | release | delete | undo
deriving DecidableEq
def Wd.name : Wd → Str
  | .add => "add" | .prune => "prune" | .protect => "protect" | .release => "release" | .delete => "delete" | .undo => "undo"
def tval (v : V) : Option Int := match v with
  | .int i => if 0 ≤ i ∧ i ≤ 1000000000000 then some i else none
  | _ => none
theorem tval_int {v : V} {i : Int} (h : tval v = some i) : v = .int i ∧ 0 ≤ i ∧ i ≤ 1000000000000 := by
  cases v with
  | int j =>
    have h : (if 0 ≤ j ∧ j ≤ 1000000000000 then some j else none) = some i := h
    split at h
    · rename_i c
      cases h
      exact ⟨rfl, c⟩
    · cases h
  | _ => cases h
theorem isIntV_tval (v : V) : isIntV v 0 1000000000000 = (tval v).isSome := by
  cases v with
  | int j =>
    show (decide (0 ≤ j) && decide (j ≤ 1000000000000)) = (if 0 ≤ j ∧ j ≤ 1000000000000 then some j else none).isSome
    by_cases h : 0 ≤ j ∧ j ≤ 1000000000000
    · rw [if_pos h, decide_eq_true h.1, decide_eq_true h.2]
      rfl
    · rw [if_neg h, ← Bool.decide_and, decide_eq_false h]
      rfl
  | _ => rfl
abbrev Out := Except Str (List S4 × S4 × Option (List Int))
def step (pol : List Rule) (hist : List S4) (cur : S4) (wd : Wd) (v : V) : Out := match wd with
  | .prune => .ok (hist ++ [cur], sPrune pol cur, some (minus cur.p (sPrune pol cur).p))
  | .undo => match hist.getLast? with
    | none => .error "NothingToUndo"
    | some s => .ok (hist.dropLast, s, none)
  | .add => match tval v with
    | none => .error "InvalidTime"
    | some i => if i ∈ cur.k then .error "AlreadyKnown" else .ok (hist ++ [cur], sAdd i cur, none)
  | .protect => match tval v with
    | none => .error "InvalidTime"
    | some i => if i ∉ cur.p then .error "NotPresent" else if i ∈ cur.f then .error "AlreadyProtected" else .ok (hist ++ [cur], sProt i cur, none)
  | .release => match tval v with
    | none => .error "InvalidTime"
    | some i => if i ∉ cur.p then .error "NotPresent" else if i ∉ cur.f then .error "NotProtected" else .ok (hist ++ [cur], sRel i cur, none)
  | .delete => match tval v with
    | none => .error "InvalidTime"
    | some i => if i ∉ cur.p then .error "NotPresent" else if i ∈ cur.f then .error "ProtectedError" else .ok (hist ++ [cur], sDel i cur, none)
def VRet (H : Hp) (v : V) (r : Option (List Int)) : Prop := match r with
  | none => v = .non
  | some ns => VInts H v ns
def wargs (wd : Wd) (v : V) : List V := match wd with
  | .prune => []
  | .undo => []
  | _ => [v]
section
variable {P : Program} {w : World} {K : PySem.W.Frag} {mg : Str → Option Value} {base : Heap}
def Outc (K : PySem.W.Frag) (x pa : Addr) (pol : List Rule) (H : Hp) (o : Out) (Q : VK) (E : XK) : Prop := match o with
  | .error e => ∀ H', Same H H' → E (.ref (AG K e)) none H'
  | .ok (h, c, r) => ∀ H' u, Fr [x, pa] H H' → Sto K x pa H' pol h c → VRet H' u r → Q u H'
def spAct (K : PySem.W.Frag) (wd : Wd) : Sp := fun vs H Q E => ∃ x pa pol hist cur v n, vs = .ref x :: wargs wd v ∧ Sto K x pa H pol hist cur ∧ TimeV v ∧ Good n cur ∧ n ≤ 60 ∧ hist.length ≤ 1000 ∧ (∀ r ∈ pol, RuleOk r) ∧ Outc K x pa pol H (step pol hist cur wd v) Q E
def spGet (K : PySem.W.Frag) (f : S4 → List Int) : Sp := fun vs H Q _ => ∃ x pa pol hist cur, vs = [.ref x] ∧ Sto K x pa H pol hist cur ∧ ∀ v, VInts H v (f cur) → Q v H
theorem sc_StSnapshots : FnScope ["self"] ["self"] (defScope sStSnapshots) := ⟨rfl, rfl, rfl, by decide +kernel, rfl, by decide +kernel, by decide +kernel⟩
theorem do_StSnapshots (T : Tx K mg) : Does P w K mg base CX0 1 (AM K "snapshots") ["self"] (spGet K S4.p) := by
  obtain ⟨fd, F0⟩ := T.def_ dStSnapshots (List.mem_of_getElem? (i := 42) rfl)
  have F : FunD K "snapshots" "Store.snapshots" (defArgs sStSnapshots) (defBody sStSnapshots) (defScope sStSnapshots) [] [] (AM K "snapshots") fd := F0
  refine ⟨fd, F.ok sc_StSnapshots (fun vs H Q E h => ?len) (fun cdv A outer s H vs Q E hr h => ⟨_, PSs.nox (pss_one (ps_ret (pe_fld (pv 0) rfl))), ?rd⟩), F.bindsN (fun _ _ _ _ _ _ us hl => match us, hl with | [_], _ => rfl), F.kp⟩
  case len => obtain ⟨x, pa, pol, hist, cur, rfl, _⟩ := h; rfl
  case rd =>
    obtain ⟨x, pa, pol, hist, cur, rfl, ⟨dx, vp, v1, v2, v3, v4, pvs, hx, h1, h2, h3, h4, h5, h6, h7⟩, hQ⟩ := h
    exact ⟨_, rfl, x, _, dx, _, _, rfl, hx, T.cl, T.noat "present" (by decide +kernel), rfl, hQ _ h2⟩
theorem sc_StProtected : FnScope ["self"] ["self"] (defScope sStProtected) := ⟨rfl, rfl, rfl, by decide +kernel, rfl, by decide +kernel, by decide +kernel⟩
theorem do_StProtected (T : Tx K mg) : Does P w K mg base CX0 1 (AM K "protected") ["self"] (spGet K S4.f) := by
  obtain ⟨fd, F0⟩ := T.def_ dStProtected (List.mem_of_getElem? (i := 43) rfl)
  have F : FunD K "protected" "Store.protected" (defArgs sStProtected) (defBody sStProtected) (defScope sStProtected) [] [] (AM K "protected") fd := F0
  refine ⟨fd, F.ok sc_StProtected (fun vs H Q E h => ?len) (fun cdv A outer s H vs Q E hr h => ⟨_, PSs.nox (pss_one (ps_ret (pe_fld (pv 0) rfl))), ?rd⟩), F.bindsN (fun _ _ _ _ _ _ us hl => match us, hl with | [_], _ => rfl), F.kp⟩
  case len => obtain ⟨x, pa, pol, hist, cur, rfl, _⟩ := h; rfl
  case rd =>
    obtain ⟨x, pa, pol, hist, cur, rfl, ⟨dx, vp, v1, v2, v3, v4, pvs, hx, h1, h2, h3, h4, h5, h6, h7⟩, hQ⟩ := h
    exact ⟨_, rfl, x, _, dx, _, _, rfl, hx, T.cl, T.noat "fixed" (by decide +kernel), rfl, hQ _ h3⟩
def spChange (K : PySem.W.Frag) : Sp := fun vs H Q _ => ∃ x pa pol hist cur v1 v2 v3 v4 s, vs = [.ref x, v1, v2, v3, v4] ∧ Sto K x pa H pol hist cur ∧ hist.length ≤ 1000 ∧ VInts H v1 s.p ∧ VInts H v2 s.f ∧ VInts H v3 s.k ∧ VInts H v4 s.d ∧
  ∀ H', Fr [x, pa] H H' → Sto K x pa H' pol (hist ++ [cur]) s → Q .non H'
theorem sc_StChange : FnScope ["self", "present", "fixed", "known", "deleted"] ["self", "present", "fixed", "known", "deleted"] (defScope sStChange) := ⟨rfl, rfl, rfl, by decide +kernel, rfl, by decide +kernel, by decide +kernel⟩
theorem do_StChange (T : Tx K mg) : Does P w K mg base CX0 2 (AM K "change") ["self", "present", "fixed", "known", "deleted"] (spChange K) := by
  obtain ⟨fd, F0⟩ := T.def_ dStChange (List.mem_of_getElem? (i := 33) rfl)
  have F : FunD K "change" "Store.change" (defArgs sStChange) (defBody sStChange) (defScope sStChange) [] [] (AM K "change") fd := F0
  obtain ⟨fd_state, F_state, b_state, k_state⟩ := do_StState (P := P) (w := w) (base := base) T
  refine ⟨fd, F.ok sc_StChange (fun vs H Q E h => ?len) (fun cdv A outer s H vs Q E hr h => ⟨_, PSs.nox (pss_cons (ps_expr (pe_bm PySem.F.plainAttrs_list PySem.F.slot_list_append PySem.F.type_list_append mt_append (pe_fld (pv 0) rfl) (pa_cons (pe_meth0 (pv 0) T.cl (T.meth "state" (by decide +kernel)) F_state (hr.mono (by decide)) b_state .nil (C8.pass0 (E := E0))) pa_nil)))
      (pss_one (ps_asg (pe_tup (pa_cons (pv 1) (pa_cons (pv 2) (pa_cons (pv 3) (pa_cons (pv 4) pa_nil))))) (pg_tup rfl (pgs_cons (pg_fld (pv 0)) (pgs_cons (pg_fld (pv 0)) (pgs_cons (pg_fld (pv 0)) (pgs_cons (pg_fld (pv 0)) pgs_nil)))))))), ?rd⟩), F.bindsN (fun _ _ _ _ _ _ us hl => match us, hl with | [_, _, _, _, _], _ => rfl), F.kp⟩
  case len => obtain ⟨x, pa, pol, hist, cur, v1, v2, v3, v4, s, rfl, _⟩ := h; rfl
  case rd =>
    obtain ⟨x, pa, pol, hist, cur, u1, u2, u3, u4, s, rfl, sx, hlen, g1, g2, g3, g4, hQ⟩ := h
    have sx0 := sx
    obtain ⟨dx, vp, v1, v2, v3, v4, pvs, hx, h1, h2, h3, h4, h5, h6, h7⟩ := sx
    have lp : pvs.length = hist.length := h7.length
    refine ⟨_, rfl, x, _, dx, _, _, rfl, hx, T.cl, T.noat "past" (by decide +kernel), rfl, .inl ⟨rfl, _, sqL h6⟩, ?_⟩
    refine ⟨_, rfl, x, dx, _, rfl, hx, rfl, x, pa, pol, hist, cur, rfl, sx0, fun H2 u s2 vu => ?_⟩
    have a2 := s2 _ _ h6
    have x2 := s2 _ _ hx
    refine ⟨pa, pvs, u, rfl, rfl, a2, sz_lt (by omega), ?_⟩
    have npx : x ≠ pa := ne_of hx h6 (by intro z; cases z)
    have fa : Fr [x, pa] H (upd H2 pa (.lst (pvs ++ [u]))) := ⟨fun b o e n => by
      rw [upd_ne (fun z => n (by rw [z]; simp))]
      exact s2 _ _ e, (Tk.of s2).trans (Tk.upd (by rw [a2]; intro z e; cases e))⟩
    have xa : (upd H2 pa (.lst (pvs ++ [u]))) x = some (.ins (SC K) dx [("policy", vp), ("present", v1), ("fixed", v2), ("known", v3), ("deleted", v4), ("past", .ref pa)]) := by
      rw [upd_ne npx]
      exact x2
    have t2 : Tk H2 (upd H2 pa (.lst (pvs ++ [u]))) := Tk.upd (by rw [a2]; intro z e; cases e)
    refine ⟨_, rfl, _, rfl, _, rfl, _, rfl, sz_le (n := 4) (by decide), fun q nq => ?_⟩
    have sb := Same.upd (o := .tup [u1, u2, u3, u4]) nq
    have xb := sb _ _ xa
    have l6 : ∀ a b c d e f : V, ([("policy", a), ("present", b), ("fixed", c), ("known", d), ("deleted", e), ("past", f)] : List (Str × V)).length < 1000 := fun _ _ _ _ _ _ => by show (6 : Nat) < 1000; decide
    refine ⟨q, _, rfl, sqT upd_same, rfl, ?_⟩
    refine ⟨u1, _, rfl, _, rfl, x, _, dx, _, rfl, xb, T.cl, T.noat "present" (by decide +kernel), l6 _ _ _ _ _ _, ?_⟩
    have f1 := fr_upd (S := [pa]) (fs' := [("policy", vp), ("present", u1), ("fixed", v2), ("known", v3), ("deleted", v4), ("past", .ref pa)]) xb
    refine ⟨u2, _, rfl, _, rfl, x, _, dx, [("policy", vp), ("present", u1), ("fixed", v2), ("known", v3), ("deleted", v4), ("past", .ref pa)], rfl, upd_same, T.cl, T.noat "fixed" (by decide +kernel), l6 _ _ _ _ _ _, ?_⟩
    refine ⟨u3, _, rfl, _, rfl, x, _, dx, [("policy", vp), ("present", u1), ("fixed", u2), ("known", v3), ("deleted", v4), ("past", .ref pa)], rfl, upd_same, T.cl, T.noat "known" (by decide +kernel), l6 _ _ _ _ _ _, ?_⟩
    refine ⟨u4, _, rfl, _, rfl, x, _, dx, [("policy", vp), ("present", u1), ("fixed", u2), ("known", u3), ("deleted", v4), ("past", .ref pa)], rfl, upd_same, T.cl, T.noat "deleted" (by decide +kernel), l6 _ _ _ _ _ _, rfl, ?_⟩
    rw [upd_upd, upd_upd, upd_upd]
    have f4 := fr_upd (S := [pa]) (fs' := [("policy", vp), ("present", u1), ("fixed", u2), ("known", u3), ("deleted", u4), ("past", .ref pa)]) xb
    have ff := (fa.trans (Fr.of sb)).trans f4
    refine hQ _ ff ⟨dx, vp, u1, u2, u3, u4, pvs ++ [u], upd_same, h1.mono ff.tup, g1.mono ff.tup, g2.mono ff.tup, g3.mono ff.tup, g4.mono ff.tup, ?_, ?_⟩
    · rw [upd_ne npx.symm]
      exact sb _ _ upd_same
    · exact paired_snoc (L2.Paired.mapP h7 fun _ _ z => z.mono ff.tup) (vu.mono ((t2.trans (Tk.of sb)).trans f4.tup))
def spCheckT (K : PySem.W.Frag) : Sp := fun vs H Q E => ∃ x v, vs = [x, v] ∧ TimeV v ∧ match tval v with
  | some _ => Q .non H
  | none => E (.ref (AG K "InvalidTime")) none H
theorem sc_StCheckTime : FnScope ["self", "time"] ["self", "time"] (defScope sStCheckTime) := ⟨rfl, rfl, rfl, by decide +kernel, rfl, by decide +kernel, by decide +kernel⟩
theorem do_StCheckTime (T : Tx K mg) : Does P w K mg base (L2N.CX P w) 2 (AM K "check_time") ["self", "time"] (spCheckT K) := by
  obtain ⟨fd, F0⟩ := T.def_ dStCheckTime (List.mem_of_getElem? (i := 34) rfl)
  have F : FunD K "check_time" "Store.check_time" (defArgs sStCheckTime) (defBody sStCheckTime) (defScope sStCheckTime) [] [] (AM K "check_time") fd := F0
  obtain ⟨tMAX_TIME, hMAX_TIME⟩ : ∃ t, mg "MAX_TIME" = some (.int 1000000000000 t) := T.num ("MAX_TIME", 1000000000000) (by decide +kernel)
  have d_is_between := do_IsBetween (P := P) (w := w) (base := base) T
  refine ⟨fd, F.ok sc_StCheckTime (fun vs H Q E h => ?len) (fun cdv A outer s H vs Q E hr h => ⟨_, (pss_one (ps_if (pt_not (pt_val (pf d_is_between (hr.mono (by decide)) (T.glo "is_between" (by decide +kernel)) (pa_cons (pv 1) (pa_cons (pe_int) (pa_cons (pe_glob (v := .int 1000000000000) rfl hMAX_TIME ⟨_, rfl⟩) pa_nil))))))
        (pss_one (raise_own T (x := "InvalidTime") (by decide +kernel) rfl (L2N.takes_of rfl rfl rfl rfl) rfl))
        pss_nil)), ?rd⟩), F.bindsN (fun _ _ _ _ _ _ us hl => match us, hl with | [_, _], _ => rfl), F.kp⟩
  case len => obtain ⟨x, v, rfl, _⟩ := h; rfl
  case rd =>
    obtain ⟨x, v, rfl, tv, h⟩ := h
    refine ⟨_, rfl, v, _, _, rfl, tv, ?_⟩
    rw [isIntV_tval]
    cases c : tval v with
    | none =>
      rw [c] at h
      exact ⟨false, rfl, h⟩
    | some i =>
      rw [c] at h
      exact ⟨true, rfl, h⟩
def spCheckP (K : PySem.W.Frag) : Sp := fun vs H Q E => ∃ x pa pol hist cur v, vs = [.ref x, v] ∧ Sto K x pa H pol hist cur ∧ TimeV v ∧ match tval v with
  | some i => if i ∉ cur.p then E (.ref (AG K "NotPresent")) none H else Q .non H
  | none => E (.ref (AG K "InvalidTime")) none H
theorem sc_StCheckPresent : FnScope ["self", "time"] ["self", "time"] (defScope sStCheckPresent) := ⟨rfl, rfl, rfl, by decide +kernel, rfl, by decide +kernel, by decide +kernel⟩
theorem do_StCheckPresent (T : Tx K mg) : Does P w K mg base (L2N.CX P w) 3 (AM K "check_present") ["self", "time"] (spCheckP K) := by
  obtain ⟨fd, F0⟩ := T.def_ dStCheckPresent (List.mem_of_getElem? (i := 35) rfl)
  have F : FunD K "check_present" "Store.check_present" (defArgs sStCheckPresent) (defBody sStCheckPresent) (defScope sStCheckPresent) [] [] (AM K "check_present") fd := F0
  obtain ⟨fd_check_time, F_check_time, b_check_time, k_check_time⟩ := do_StCheckTime (P := P) (w := w) (base := base) T
  refine ⟨fd, F.ok sc_StCheckPresent (fun vs H Q E h => ?len) (fun cdv A outer s H vs Q E hr h => ⟨_, (pss_cons (ps_expr (pe_meth (pv 0) T.cl (T.meth "check_time" (by decide +kernel)) F_check_time (hr.mono (by decide)) b_check_time .nil (L2N.passes_call (L2N.takes_of rfl rfl rfl rfl) (fun _ _ _ _ h => h)) (pa_cons (pv 1) pa_nil)))
      (pss_one (ps_if (pt_cmpR op_notIn_seq (pv 1) (pe_fld (pv 0) rfl) rfl)
        (pss_one (raise_own T (x := "NotPresent") (by decide +kernel) rfl (L2N.takes_of rfl rfl rfl rfl) rfl))
        pss_nil))), ?rd⟩), F.bindsN (fun _ _ _ _ _ _ us hl => match us, hl with | [_, _], _ => rfl), F.kp⟩
  case len => obtain ⟨x, pa, pol, hist, cur, v, rfl, _⟩ := h; rfl
  case rd =>
    obtain ⟨x, pa, pol, hist, cur, v, rfl, ⟨dx, vp, v1, v2, v3, v4, pvs, hx, h1, ⟨a, rfl, ha⟩, h3, h4, h5, h6, h7⟩, tv, h⟩ := h
    refine ⟨_, rfl, x, dx, _, rfl, hx, rfl, _, rfl, _, v, rfl, tv, ?_⟩
    cases c : tval v with
    | none =>
      rw [c] at h
      exact h
    | some i =>
      rw [c] at h
      obtain ⟨rfl, _⟩ := tval_int c
      refine ⟨_, rfl, _, rfl, x, _, dx, _, _, rfl, hx, T.cl, T.noat "present" (by decide +kernel), rfl, a, _, rfl, .inr (sqT ha), rfl, flat_ints _, _, rfl, ?_⟩
      have h : if i ∉ cur.p then E (.ref (AG K "NotPresent")) none H else Q .non H := h
      show (if (!inV (.int i) (cur.p.map V.int)) = true then _ else _)
      rw [inV_int]
      by_cases m : i ∈ cur.p
      · rw [if_neg (fun z => z m)] at h
        rw [List.contains_iff_mem.mpr m]
        exact h
      · rw [if_pos m] at h
        rw [show cur.p.contains i = false from Bool.eq_false_iff.mpr fun z => m (List.contains_iff_mem.mp z)]
        exact h
end
end K19

set_option Elab.async false
set_option linter.all false
set_option maxRecDepth 100000
set_option maxHeartbeats 4000000
/-! the store: its calls -/
namespace K19
open PySem PySem.Spec PyProof.Rows L2
section
variable {P : Program} {w : World} {K : PySem.W.Frag} {mg : Str → Option Value} {base : Heap}
theorem iteP {c A B : Prop} [Decidable c] (hc : c) (h : A) : if c then A else B := by
  rw [if_pos hc]
  exact h
theorem iteN {c A B : Prop} [Decidable c] (hc : ¬ c) (h : B) : if c then A else B := by
  rw [if_neg hc]
  exact h
theorem cont_t {i : Int} {l : List Int} (h : i ∈ l) : l.contains i = true := List.contains_iff_mem.mpr h
theorem cont_f {i : Int} {l : List Int} (h : i ∉ l) : l.contains i = false := Bool.eq_false_iff.mpr fun z => h (List.contains_iff_mem.mp z)
theorem one_tup {H : Hp} {p : Addr} {i : Int} : VInts (upd H p (.tup [.int i])) (.ref p) [i] := ⟨p, rfl, upd_same⟩
theorem Sto.s {x pa : Addr} {H H' : Hp} {pol : List Rule} {hist : List S4} {cur : S4} (h : Sto K x pa H pol hist cur) (e : Same H H') : Sto K x pa H' pol hist cur := IsSto.kept h (Fr.of (S := []) e) (by simp) (by simp)
theorem sc_StAdd : FnScope ["self", "time"] ["self", "time"] (defScope sStAdd) := ⟨rfl, rfl, rfl, by decide +kernel, rfl, by decide +kernel, by decide +kernel⟩
theorem do_StAdd (T : Tx K mg) : Does P w K mg base (L2N.CX P w) 4 (AM K "add") ["self", "time"] (spAct K .add) := by
  obtain ⟨fd, F0⟩ := T.def_ dStAdd (List.mem_of_getElem? (i := 36) rfl)
  have F : FunD K "add" "Store.add" (defArgs sStAdd) (defBody sStAdd) (defScope sStAdd) [] [] (AM K "add") fd := F0
  obtain ⟨tMAX_SNAPSHOTS, hMAX_SNAPSHOTS⟩ : ∃ t, mg "MAX_SNAPSHOTS" = some (.int 200 t) := T.num ("MAX_SNAPSHOTS", 200) (by decide +kernel)
  have d_union := do_Union (P := P) (w := w) (base := base) T
  obtain ⟨fd_change, F_change, b_change, k_change⟩ := do_StChange (P := P) (w := w) (base := base) T
  obtain ⟨fd_check_time, F_check_time, b_check_time, k_check_time⟩ := do_StCheckTime (P := P) (w := w) (base := base) T
  refine ⟨fd, F.ok sc_StAdd (fun vs H Q E h => ?len) (fun cdv A outer s H vs Q E hr h => ⟨_, (pss_cons (ps_expr (pe_meth (pv 0) T.cl (T.meth "check_time" (by decide +kernel)) F_check_time (hr.mono (by decide)) b_check_time .nil (L2N.passes_call (L2N.takes_of rfl rfl rfl rfl) (fun _ _ _ _ h => h)) (pa_cons (pv 1) pa_nil)))
      (pss_cons (ps_if (pt_cmpR op_in_seq (pv 1) (pe_fld (pv 0) rfl) rfl)
        (pss_one (raise_own T (x := "AlreadyKnown") (by decide +kernel) rfl (L2N.takes_of rfl rfl rfl rfl) rfl))
        pss_nil)
      (pss_cons (ps_if (pt_cmpR op_eq (pe_callB call_len_seq rfl (T.free "len" (by decide +kernel)) (by decide +kernel) (pa_cons (pe_fld (pv 0) rfl) pa_nil)) (pe_glob (v := .int 200) rfl hMAX_SNAPSHOTS ⟨_, rfl⟩) (nomark _))
        (pss_one ps_never)
        pss_nil)
      (pss_one (ps_expr (pe_meth (pv 0) T.cl (T.meth "change" (by decide +kernel)) F_change (hr.mono (by decide)) b_change .nil (C8.pass0 (E := E0)) (pa_cons (pf d_union (hr.mono (by decide)) (T.glo "union" (by decide +kernel)) (pa_cons (pe_fld (pv 0) rfl) (pa_cons (pe_tup (pa_cons (pv 1) pa_nil)) pa_nil))) (pa_cons (pe_fld (pv 0) rfl) (pa_cons (pf d_union (hr.mono (by decide)) (T.glo "union" (by decide +kernel)) (pa_cons (pe_fld (pv 0) rfl) (pa_cons (pe_tup (pa_cons (pv 1) pa_nil)) pa_nil))) (pa_cons (pe_fld (pv 0) rfl) pa_nil)))))))))), ?rd⟩), F.bindsN (fun _ _ _ _ _ _ us hl => match us, hl with | [_, _], _ => rfl), F.kp⟩
  case len => obtain ⟨x, pa, pol, hist, cur, v, n, rfl, _⟩ := h; rfl
  case rd =>
    obtain ⟨x, pa, pol, hist, cur, v, n, rfl, sx, tv, gd, hn, hl, hok, h⟩ := h
    have sx0 := sx
    obtain ⟨dx, vp, v1, v2, v3, v4, pvs, hx, h1, h2, h3, ⟨a3, rfl, ha3⟩, h5, h6, h7⟩ := sx
    refine ⟨_, rfl, x, dx, _, rfl, hx, rfl, _, rfl, _, v, rfl, tv, ?_⟩
    cases c : tval v with
    | none =>
      simp only [step, c] at h
      exact h _ (Same.refl _)
    | some i =>
      obtain ⟨rfl, i0, i1⟩ := tval_int c
      refine ⟨_, rfl, _, rfl, x, _, dx, _, _, rfl, hx, T.cl, T.noat "known" (by decide +kernel), rfl, a3, _, rfl, .inr (sqT ha3), rfl, flat_ints _, _, rfl, ?_⟩
      show (if inV (.int i) (cur.k.map V.int) = true then _ else _)
      rw [inV_int]
      by_cases m : i ∈ cur.k
      · rw [cont_t m]
        simp only [step, c, if_pos m] at h
        exact h _ (Same.refl _)
      · rw [cont_f m]
        simp only [step, c, if_neg m] at h
        have lk := gd.lk
        have lp := gd.lpf
        refine ⟨_, rfl, x, _, dx, _, _, rfl, hx, T.cl, T.noat "known" (by decide +kernel), rfl, a3, _, rfl, .inr (sqT ha3), rfl, _, rfl, ?_⟩
        rw [List.length_map, decide_eq_false (show ¬ V.int (cur.k.length : Nat) = V.int 200 from fun z => by have z := V.int.inj z; omega)]
        refine ⟨_, rfl, x, dx, _, rfl, hx, rfl, _, rfl, x, _, dx, _, _, rfl, hx, T.cl, T.noat "present" (by decide +kernel), rfl, _, rfl, sz_le (n := 1) (by decide), fun p1 n1 => ?_⟩
        have s1 := Same.upd (o := .tup [.int i]) n1
        refine ⟨v1, _, cur.p, [i], rfl, h2.mono (Tk.of s1), one_tup, gd.ap, asc_one i, by show cur.p.length + 1 < 64; omega, fun H2 u1 s2 w1 => ?_⟩
        have s12 := s1.trans s2
        refine ⟨_, rfl, x, _, dx, _, _, rfl, s12 _ _ hx, T.cl, T.noat "fixed" (by decide +kernel), rfl, _, rfl, x, _, dx, _, _, rfl, s12 _ _ hx, T.cl, T.noat "known" (by decide +kernel), rfl, _, rfl, sz_le (n := 1) (by decide), fun p3 n3 => ?_⟩
        have s3 := Same.upd (o := .tup [.int i]) n3
        refine ⟨_, _, cur.k, [i], rfl, ⟨a3, rfl, s3 _ _ (s12 _ _ ha3)⟩, one_tup, gd.ak, asc_one i, by show cur.k.length + 1 < 64; omega, fun H4 u2 s4 w2 => ?_⟩
        have s34 := s3.trans s4
        have sall := s12.trans s34
        refine ⟨_, rfl, x, _, dx, _, _, rfl, sall _ _ hx, T.cl, T.noat "deleted" (by decide +kernel), rfl, x, pa, pol, hist, cur, u1, v2, u2, v4, sAdd i cur, rfl, Sto.s sx0 sall, hl, w1.mono (Tk.of s34), h3.mono (Tk.of sall), w2, h5.mono (Tk.of sall), fun H5 f5 st5 => ?_⟩
        exact h _ _ ((Fr.of sall).trans f5) st5 rfl
theorem sc_StPrune : FnScope ["self", "kept", "dropped"] ["self"] (defScope sStPrune) := ⟨rfl, rfl, rfl, by decide +kernel, rfl, by decide +kernel, by decide +kernel⟩
theorem do_StPrune (T : Tx K mg) : Does P w K mg base CX0 4 (AM K "prune") ["self"] (spAct K .prune) := by
  obtain ⟨fd, F0⟩ := T.def_ dStPrune (List.mem_of_getElem? (i := 37) rfl)
  have F : FunD K "prune" "Store.prune" (defArgs sStPrune) (defBody sStPrune) (defScope sStPrune) [] [] (AM K "prune") fd := F0
  have d_pruned := do_Pruned (P := P) (w := w) (base := base) T
  have d_union := do_Union (P := P) (w := w) (base := base) T
  have d_without := do_Without (P := P) (w := w) (base := base) T
  obtain ⟨fd_change, F_change, b_change, k_change⟩ := do_StChange (P := P) (w := w) (base := base) T
  refine ⟨fd, F.ok sc_StPrune (fun vs H Q E h => ?len) (fun cdv A outer s H vs Q E hr h => ⟨_, PSs.nox (pss_cons (ps_set (i := 1) sc_StPrune.nd rfl (Or.inl rfl) (pf d_union (hr.mono (by decide)) (T.glo "union" (by decide +kernel)) (pa_cons (pf d_pruned (hr.mono (by decide)) (T.glo "pruned" (by decide +kernel)) (pa_cons (pe_fld (pv 0) rfl) (pa_cons (pe_fld (pv 0) rfl) pa_nil))) (pa_cons (pe_fld (pv 0) rfl) pa_nil))))
      (pss_cons (ps_set (i := 2) sc_StPrune.nd rfl (Or.inl rfl) (pf d_without (hr.mono (by decide)) (T.glo "without" (by decide +kernel)) (pa_cons (pe_fld (pv 0) rfl) (pa_cons (pv 1) pa_nil))))
      (pss_cons (ps_expr (pe_meth (pv 0) T.cl (T.meth "change" (by decide +kernel)) F_change (hr.mono (by decide)) b_change .nil (C8.pass0 (E := E0)) (pa_cons (pv 1) (pa_cons (pe_fld (pv 0) rfl) (pa_cons (pe_fld (pv 0) rfl) (pa_cons (pe_fld (pv 0) rfl) pa_nil))))))
      (pss_one (ps_ret (pv 2)))))), ?rd⟩), F.bindsN (fun _ _ _ _ _ _ us hl => match us, hl with | [_], _ => rfl), F.kp⟩
  case len => obtain ⟨x, pa, pol, hist, cur, v, n, rfl, _⟩ := h; rfl
  case rd =>
    obtain ⟨x, pa, pol, hist, cur, v, n, rfl, sx, tv, gd, hn, hl, hok, h⟩ := h
    have sx0 := sx
    obtain ⟨dx, vp, v1, v2, v3, v4, pvs, hx, h1, h2, h3, h4, h5, h6, h7⟩ := sx
    have lk := gd.lk
    have lp := gd.lpf
    have lpr := len_sub (asc_pru pol cur.p).nodup fun y hy => pru_sub hy
    refine ⟨_, rfl, x, _, dx, _, _, rfl, hx, T.cl, T.noat "policy" (by decide +kernel), rfl, _, rfl, x, _, dx, _, _, rfl, hx, T.cl, T.noat "present" (by decide +kernel), rfl, vp, v1, pol, cur.p, rfl, h1, hok, h2, gd.ap, by omega, fun H1 u1 s1 w1 => ?_⟩
    refine ⟨_, rfl, x, _, dx, _, _, rfl, s1 _ _ hx, T.cl, T.noat "fixed" (by decide +kernel), rfl, u1, v2, _, cur.f, rfl, w1, h3.mono (Tk.of s1), asc_pru _ _, gd.af, by omega, fun H2 u2 s2 w2 => ?_⟩
    have s12 := s1.trans s2
    refine ⟨_, rfl, x, _, dx, _, _, rfl, s12 _ _ hx, T.cl, T.noat "present" (by decide +kernel), rfl, _, rfl, v1, u2, cur.p, _, rfl, h2.mono (Tk.of s12), w2, by omega, fun H3 u3 s3 w3 => ?_⟩
    have sall := s12.trans s3
    refine ⟨_, rfl, x, dx, _, rfl, sall _ _ hx, rfl, _, rfl, _, rfl, x, _, dx, _, _, rfl, sall _ _ hx, T.cl, T.noat "fixed" (by decide +kernel), rfl, _, rfl, x, _, dx, _, _, rfl, sall _ _ hx, T.cl, T.noat "known" (by decide +kernel), rfl, _, rfl, x, _, dx, _, _, rfl, sall _ _ hx, T.cl, T.noat "deleted" (by decide +kernel), rfl, x, pa, pol, hist, cur, u2, v2, v3, v4, sPrune pol cur, rfl, Sto.s sx0 sall, hl, w2.mono (Tk.of s3), h3.mono (Tk.of sall), h4.mono (Tk.of sall), h5.mono (Tk.of sall), fun H5 f5 st5 => ?_⟩
    exact ⟨_, rfl, h _ _ ((Fr.of sall).trans f5) st5 (w3.mono f5.tup)⟩
theorem sc_StProtect : FnScope ["self", "time"] ["self", "time"] (defScope sStProtect) := ⟨rfl, rfl, rfl, by decide +kernel, rfl, by decide +kernel, by decide +kernel⟩
theorem do_StProtect (T : Tx K mg) : Does P w K mg base (L2N.CX P w) 4 (AM K "protect") ["self", "time"] (spAct K .protect) := by
  obtain ⟨fd, F0⟩ := T.def_ dStProtect (List.mem_of_getElem? (i := 38) rfl)
  have F : FunD K "protect" "Store.protect" (defArgs sStProtect) (defBody sStProtect) (defScope sStProtect) [] [] (AM K "protect") fd := F0
  have d_union := do_Union (P := P) (w := w) (base := base) T
  obtain ⟨fd_change, F_change, b_change, k_change⟩ := do_StChange (P := P) (w := w) (base := base) T
  obtain ⟨fd_check_present, F_check_present, b_check_present, k_check_present⟩ := do_StCheckPresent (P := P) (w := w) (base := base) T
  refine ⟨fd, F.ok sc_StProtect (fun vs H Q E h => ?len) (fun cdv A outer s H vs Q E hr h => ⟨_, (pss_cons (ps_expr (pe_meth (pv 0) T.cl (T.meth "check_present" (by decide +kernel)) F_check_present (hr.mono (by decide)) b_check_present .nil (L2N.passes_call (L2N.takes_of rfl rfl rfl rfl) (fun _ _ _ _ h => h)) (pa_cons (pv 1) pa_nil)))
      (pss_cons (ps_if (pt_cmpR op_in_seq (pv 1) (pe_fld (pv 0) rfl) rfl)
        (pss_one (raise_own T (x := "AlreadyProtected") (by decide +kernel) rfl (L2N.takes_of rfl rfl rfl rfl) rfl))
        pss_nil)
      (pss_one (ps_expr (pe_meth (pv 0) T.cl (T.meth "change" (by decide +kernel)) F_change (hr.mono (by decide)) b_change .nil (C8.pass0 (E := E0)) (pa_cons (pe_fld (pv 0) rfl) (pa_cons (pf d_union (hr.mono (by decide)) (T.glo "union" (by decide +kernel)) (pa_cons (pe_fld (pv 0) rfl) (pa_cons (pe_tup (pa_cons (pv 1) pa_nil)) pa_nil))) (pa_cons (pe_fld (pv 0) rfl) (pa_cons (pe_fld (pv 0) rfl) pa_nil))))))))), ?rd⟩), F.bindsN (fun _ _ _ _ _ _ us hl => match us, hl with | [_, _], _ => rfl), F.kp⟩
  case len => obtain ⟨x, pa, pol, hist, cur, v, n, rfl, _⟩ := h; rfl
  case rd =>
    obtain ⟨x, pa, pol, hist, cur, v, n, rfl, sx, tv, gd, hn, hl, hok, h⟩ := h
    have sx0 := sx
    obtain ⟨dx, vp, v1, v2, v3, v4, pvs, hx, h1, h2, ⟨a2, rfl, ha2⟩, h4, h5, h6, h7⟩ := sx
    refine ⟨_, rfl, x, dx, _, rfl, hx, rfl, _, rfl, x, pa, pol, hist, cur, v, rfl, sx0, tv, ?_⟩
    cases c : tval v with
    | none =>
      simp only [step, c] at h
      exact h _ (Same.refl _)
    | some i =>
      obtain ⟨rfl, i0, i1⟩ := tval_int c
      by_cases mp : i ∈ cur.p
      · refine iteN (fun z => z mp) ?_
        refine ⟨_, rfl, _, rfl, x, _, dx, _, _, rfl, hx, T.cl, T.noat "fixed" (by decide +kernel), rfl, a2, _, rfl, .inr (sqT ha2), rfl, flat_ints _, _, rfl, ?_⟩
        show (if inV (.int i) (cur.f.map V.int) = true then _ else _)
        rw [inV_int]
        by_cases m : i ∈ cur.f
        · rw [cont_t m]
          simp only [step, c, if_pos m, if_neg (fun z : ¬ i ∈ cur.p => z mp)] at h
          exact h _ (Same.refl _)
        · rw [cont_f m]
          simp only [step, c, if_neg m, if_neg (fun z : ¬ i ∈ cur.p => z mp)] at h
          have lp := gd.lpf
          refine ⟨_, rfl, x, dx, _, rfl, hx, rfl, _, rfl, x, _, dx, _, _, rfl, hx, T.cl, T.noat "present" (by decide +kernel), rfl, _, rfl, x, _, dx, _, _, rfl, hx, T.cl, T.noat "fixed" (by decide +kernel), rfl, _, rfl, sz_le (n := 1) (by decide), fun p1 n1 => ?_⟩
          have s1 := Same.upd (o := .tup [.int i]) n1
          refine ⟨_, _, cur.f, [i], rfl, ⟨a2, rfl, s1 _ _ ha2⟩, one_tup, gd.af, asc_one i, by show cur.f.length + 1 < 64; omega, fun H2 u1 s2 w1 => ?_⟩
          have sall := s1.trans s2
          refine ⟨_, rfl, x, _, dx, _, _, rfl, sall _ _ hx, T.cl, T.noat "known" (by decide +kernel), rfl, _, rfl, x, _, dx, _, _, rfl, sall _ _ hx, T.cl, T.noat "deleted" (by decide +kernel), rfl, x, pa, pol, hist, cur, v1, u1, v3, v4, sProt i cur, rfl, Sto.s sx0 sall, hl, h2.mono (Tk.of sall), w1, h4.mono (Tk.of sall), h5.mono (Tk.of sall), fun H5 f5 st5 => ?_⟩
          exact h _ _ ((Fr.of sall).trans f5) st5 rfl
      · refine iteP mp ?_
        simp only [step, c, if_pos mp] at h
        exact h _ (Same.refl _)
theorem sc_StRelease : FnScope ["self", "time"] ["self", "time"] (defScope sStRelease) := ⟨rfl, rfl, rfl, by decide +kernel, rfl, by decide +kernel, by decide +kernel⟩
theorem do_StRelease (T : Tx K mg) : Does P w K mg base (L2N.CX P w) 4 (AM K "release") ["self", "time"] (spAct K .release) := by
  obtain ⟨fd, F0⟩ := T.def_ dStRelease (List.mem_of_getElem? (i := 39) rfl)
  have F : FunD K "release" "Store.release" (defArgs sStRelease) (defBody sStRelease) (defScope sStRelease) [] [] (AM K "release") fd := F0
  have d_without := do_Without (P := P) (w := w) (base := base) T
  obtain ⟨fd_change, F_change, b_change, k_change⟩ := do_StChange (P := P) (w := w) (base := base) T
  obtain ⟨fd_check_present, F_check_present, b_check_present, k_check_present⟩ := do_StCheckPresent (P := P) (w := w) (base := base) T
  refine ⟨fd, F.ok sc_StRelease (fun vs H Q E h => ?len) (fun cdv A outer s H vs Q E hr h => ⟨_, (pss_cons (ps_expr (pe_meth (pv 0) T.cl (T.meth "check_present" (by decide +kernel)) F_check_present (hr.mono (by decide)) b_check_present .nil (L2N.passes_call (L2N.takes_of rfl rfl rfl rfl) (fun _ _ _ _ h => h)) (pa_cons (pv 1) pa_nil)))
      (pss_cons (ps_if (pt_cmpR op_notIn_seq (pv 1) (pe_fld (pv 0) rfl) rfl)
        (pss_one (raise_own T (x := "NotProtected") (by decide +kernel) rfl (L2N.takes_of rfl rfl rfl rfl) rfl))
        pss_nil)
      (pss_one (ps_expr (pe_meth (pv 0) T.cl (T.meth "change" (by decide +kernel)) F_change (hr.mono (by decide)) b_change .nil (C8.pass0 (E := E0)) (pa_cons (pe_fld (pv 0) rfl) (pa_cons (pf d_without (hr.mono (by decide)) (T.glo "without" (by decide +kernel)) (pa_cons (pe_fld (pv 0) rfl) (pa_cons (pe_tup (pa_cons (pv 1) pa_nil)) pa_nil))) (pa_cons (pe_fld (pv 0) rfl) (pa_cons (pe_fld (pv 0) rfl) pa_nil))))))))), ?rd⟩), F.bindsN (fun _ _ _ _ _ _ us hl => match us, hl with | [_, _], _ => rfl), F.kp⟩
  case len => obtain ⟨x, pa, pol, hist, cur, v, n, rfl, _⟩ := h; rfl
  case rd =>
    obtain ⟨x, pa, pol, hist, cur, v, n, rfl, sx, tv, gd, hn, hl, hok, h⟩ := h
    have sx0 := sx
    obtain ⟨dx, vp, v1, v2, v3, v4, pvs, hx, h1, h2, ⟨a2, rfl, ha2⟩, h4, h5, h6, h7⟩ := sx
    refine ⟨_, rfl, x, dx, _, rfl, hx, rfl, _, rfl, x, pa, pol, hist, cur, v, rfl, sx0, tv, ?_⟩
    cases c : tval v with
    | none =>
      simp only [step, c] at h
      exact h _ (Same.refl _)
    | some i =>
      obtain ⟨rfl, i0, i1⟩ := tval_int c
      by_cases mp : i ∈ cur.p
      · refine iteN (fun z => z mp) ?_
        refine ⟨_, rfl, _, rfl, x, _, dx, _, _, rfl, hx, T.cl, T.noat "fixed" (by decide +kernel), rfl, a2, _, rfl, .inr (sqT ha2), rfl, flat_ints _, _, rfl, ?_⟩
        show (if (!inV (.int i) (cur.f.map V.int)) = true then _ else _)
        rw [inV_int]
        by_cases m : i ∈ cur.f
        · rw [cont_t m]
          simp only [step, c, if_neg (fun z : ¬ i ∈ cur.f => z m), if_neg (fun z : ¬ i ∈ cur.p => z mp)] at h
          have lp := gd.lpf
          refine ⟨_, rfl, x, dx, _, rfl, hx, rfl, _, rfl, x, _, dx, _, _, rfl, hx, T.cl, T.noat "present" (by decide +kernel), rfl, _, rfl, x, _, dx, _, _, rfl, hx, T.cl, T.noat "fixed" (by decide +kernel), rfl, _, rfl, sz_le (n := 1) (by decide), fun p1 n1 => ?_⟩
          have s1 := Same.upd (o := .tup [.int i]) n1
          refine ⟨_, _, cur.f, [i], rfl, ⟨a2, rfl, s1 _ _ ha2⟩, one_tup, by omega, fun H2 u1 s2 w1 => ?_⟩
          have sall := s1.trans s2
          refine ⟨_, rfl, x, _, dx, _, _, rfl, sall _ _ hx, T.cl, T.noat "known" (by decide +kernel), rfl, _, rfl, x, _, dx, _, _, rfl, sall _ _ hx, T.cl, T.noat "deleted" (by decide +kernel), rfl, x, pa, pol, hist, cur, v1, u1, v3, v4, sRel i cur, rfl, Sto.s sx0 sall, hl, h2.mono (Tk.of sall), w1, h4.mono (Tk.of sall), h5.mono (Tk.of sall), fun H5 f5 st5 => ?_⟩
          exact h _ _ ((Fr.of sall).trans f5) st5 rfl
        · rw [cont_f m]
          simp only [step, c, if_pos m, if_neg (fun z : ¬ i ∈ cur.p => z mp)] at h
          exact h _ (Same.refl _)
      · refine iteP mp ?_
        simp only [step, c, if_pos mp] at h
        exact h _ (Same.refl _)
theorem sc_StDelete : FnScope ["self", "time"] ["self", "time"] (defScope sStDelete) := ⟨rfl, rfl, rfl, by decide +kernel, rfl, by decide +kernel, by decide +kernel⟩
theorem do_StDelete (T : Tx K mg) : Does P w K mg base (L2N.CX P w) 4 (AM K "delete") ["self", "time"] (spAct K .delete) := by
  obtain ⟨fd, F0⟩ := T.def_ dStDelete (List.mem_of_getElem? (i := 40) rfl)
  have F : FunD K "delete" "Store.delete" (defArgs sStDelete) (defBody sStDelete) (defScope sStDelete) [] [] (AM K "delete") fd := F0
  have d_union := do_Union (P := P) (w := w) (base := base) T
  have d_without := do_Without (P := P) (w := w) (base := base) T
  obtain ⟨fd_change, F_change, b_change, k_change⟩ := do_StChange (P := P) (w := w) (base := base) T
  obtain ⟨fd_check_present, F_check_present, b_check_present, k_check_present⟩ := do_StCheckPresent (P := P) (w := w) (base := base) T
  refine ⟨fd, F.ok sc_StDelete (fun vs H Q E h => ?len) (fun cdv A outer s H vs Q E hr h => ⟨_, (pss_cons (ps_expr (pe_meth (pv 0) T.cl (T.meth "check_present" (by decide +kernel)) F_check_present (hr.mono (by decide)) b_check_present .nil (L2N.passes_call (L2N.takes_of rfl rfl rfl rfl) (fun _ _ _ _ h => h)) (pa_cons (pv 1) pa_nil)))
      (pss_cons (ps_if (pt_cmpR op_in_seq (pv 1) (pe_fld (pv 0) rfl) rfl)
        (pss_one (raise_own T (x := "ProtectedError") (by decide +kernel) rfl (L2N.takes_of rfl rfl rfl rfl) rfl))
        pss_nil)
      (pss_one (ps_expr (pe_meth (pv 0) T.cl (T.meth "change" (by decide +kernel)) F_change (hr.mono (by decide)) b_change .nil (C8.pass0 (E := E0)) (pa_cons (pf d_without (hr.mono (by decide)) (T.glo "without" (by decide +kernel)) (pa_cons (pe_fld (pv 0) rfl) (pa_cons (pe_tup (pa_cons (pv 1) pa_nil)) pa_nil))) (pa_cons (pe_fld (pv 0) rfl) (pa_cons (pe_fld (pv 0) rfl) (pa_cons (pf d_union (hr.mono (by decide)) (T.glo "union" (by decide +kernel)) (pa_cons (pe_fld (pv 0) rfl) (pa_cons (pe_tup (pa_cons (pv 1) pa_nil)) pa_nil))) pa_nil))))))))), ?rd⟩), F.bindsN (fun _ _ _ _ _ _ us hl => match us, hl with | [_, _], _ => rfl), F.kp⟩
  case len => obtain ⟨x, pa, pol, hist, cur, v, n, rfl, _⟩ := h; rfl
  case rd =>
    obtain ⟨x, pa, pol, hist, cur, v, n, rfl, sx, tv, gd, hn, hl, hok, h⟩ := h
    have sx0 := sx
    obtain ⟨dx, vp, v1, v2, v3, v4, pvs, hx, h1, h2, ⟨a2, rfl, ha2⟩, h4, h5, h6, h7⟩ := sx
    refine ⟨_, rfl, x, dx, _, rfl, hx, rfl, _, rfl, x, pa, pol, hist, cur, v, rfl, sx0, tv, ?_⟩
    cases c : tval v with
    | none =>
      simp only [step, c] at h
      exact h _ (Same.refl _)
    | some i =>
      obtain ⟨rfl, i0, i1⟩ := tval_int c
      by_cases mp : i ∈ cur.p
      · refine iteN (fun z => z mp) ?_
        refine ⟨_, rfl, _, rfl, x, _, dx, _, _, rfl, hx, T.cl, T.noat "fixed" (by decide +kernel), rfl, a2, _, rfl, .inr (sqT ha2), rfl, flat_ints _, _, rfl, ?_⟩
        show (if inV (.int i) (cur.f.map V.int) = true then _ else _)
        rw [inV_int]
        by_cases m : i ∈ cur.f
        · rw [cont_t m]
          simp only [step, c, if_pos m, if_neg (fun z : ¬ i ∈ cur.p => z mp)] at h
          exact h _ (Same.refl _)
        · rw [cont_f m]
          simp only [step, c, if_neg m, if_neg (fun z : ¬ i ∈ cur.p => z mp)] at h
          have lp := gd.lpf
          have ld := gd.ld
          refine ⟨_, rfl, x, dx, _, rfl, hx, rfl, _, rfl, x, _, dx, _, _, rfl, hx, T.cl, T.noat "present" (by decide +kernel), rfl, _, rfl, sz_le (n := 1) (by decide), fun p1 n1 => ?_⟩
          have s1 := Same.upd (o := .tup [.int i]) n1
          refine ⟨v1, _, cur.p, [i], rfl, h2.mono (Tk.of s1), one_tup, by omega, fun H2 u1 s2 w1 => ?_⟩
          have s12 := s1.trans s2
          refine ⟨_, rfl, x, _, dx, _, _, rfl, s12 _ _ hx, T.cl, T.noat "fixed" (by decide +kernel), rfl, _, rfl, x, _, dx, _, _, rfl, s12 _ _ hx, T.cl, T.noat "known" (by decide +kernel), rfl, _, rfl, x, _, dx, _, _, rfl, s12 _ _ hx, T.cl, T.noat "deleted" (by decide +kernel), rfl, _, rfl, sz_le (n := 1) (by decide), fun p3 n3 => ?_⟩
          have s3 := Same.upd (o := .tup [.int i]) n3
          refine ⟨v4, _, cur.d, [i], rfl, h5.mono (Tk.of (s12.trans s3)), one_tup, gd.ad, asc_one i, by show cur.d.length + 1 < 64; omega, fun H4 u2 s4 w2 => ?_⟩
          have s34 := s3.trans s4
          have sall := s12.trans s34
          refine ⟨x, pa, pol, hist, cur, u1, _, v3, u2, sDel i cur, rfl, Sto.s sx0 sall, hl, w1.mono (Tk.of s34), ⟨a2, rfl, sall _ _ ha2⟩, h4.mono (Tk.of sall), w2, fun H5 f5 st5 => ?_⟩
          exact h _ _ ((Fr.of sall).trans f5) st5 rfl
      · refine iteP mp ?_
        simp only [step, c, if_pos mp] at h
        exact h _ (Same.refl _)
theorem paired_concat {α β : Type} {F : α → β → Prop} : ∀ {bs : List β} {b : β} {vs : List α}, Paired F vs (bs ++ [b]) → ∃ vs0 y, vs = vs0 ++ [y] ∧ Paired F vs0 bs ∧ F y b
  | [], b, _, .cons q .nil => ⟨[], _, rfl, .nil, q⟩
  | c :: bs, b, _, .cons q t => by
    obtain ⟨vs0, y, e, h1, h2⟩ := paired_concat (bs := bs) t
    exact ⟨_ :: vs0, y, by rw [e]; rfl, .cons q h1, h2⟩
theorem dok_sts (l : List S4) : DOk 3 (.list (l.map stD)) := dok_lst fun d hd => by
  obtain ⟨s, _, rfl⟩ := List.mem_map.mp hd
  exact dok_st s
theorem sc_StUndo : FnScope ["self"] ["self"] (defScope sStUndo) := ⟨rfl, rfl, rfl, by decide +kernel, rfl, by decide +kernel, by decide +kernel⟩
theorem do_StUndo (T : Tx K mg) : Does P w K mg base (L2N.CX P w) 1 (AM K "undo") ["self"] (spAct K .undo) := by
  obtain ⟨fd, F0⟩ := T.def_ dStUndo (List.mem_of_getElem? (i := 41) rfl)
  have F : FunD K "undo" "Store.undo" (defArgs sStUndo) (defBody sStUndo) (defScope sStUndo) [] [] (AM K "undo") fd := F0
  refine ⟨fd, F.ok sc_StUndo (fun vs H Q E h => ?len) (fun cdv A outer s H vs Q E hr h => ⟨_, (pss_cons (ps_if (pt_cmpR (op_eqD hr.units) (pe_fld (pv 0) rfl) (pe_lst pa_nil) (nomark _))
        (pss_one (raise_own T (x := "NothingToUndo") (by decide +kernel) rfl (L2N.takes_of rfl rfl rfl rfl) rfl))
        pss_nil)
      (pss_one (ps_asg (pe_bm0 PySem.F.plainAttrs_list PySem.F.slot_list_pop PySem.F.type_list_pop mt_pop (pe_fld (pv 0) rfl)) (pg_tup rfl (pgs_cons (pg_fld (pv 0)) (pgs_cons (pg_fld (pv 0)) (pgs_cons (pg_fld (pv 0)) (pgs_cons (pg_fld (pv 0)) pgs_nil)))))))), ?rd⟩), F.bindsN (fun _ _ _ _ _ _ us hl => match us, hl with | [_], _ => rfl), F.kp⟩
  case len => obtain ⟨x, pa, pol, hist, cur, v, n, rfl, _⟩ := h; rfl
  case rd =>
    obtain ⟨x, pa, pol, hist, cur, v, n, rfl, sx, tv, gd, hn, hl, hok, h⟩ := h
    have sx0 := sx
    obtain ⟨dx, vp, v1, v2, v3, v4, pvs, hx, h1, h2, h3, h4, h5, h6, h7⟩ := sx
    refine ⟨_, rfl, x, _, dx, _, _, rfl, hx, T.cl, T.noat "past" (by decide +kernel), rfl, sz0, fun p np => ?_⟩
    have s1 := Same.upd (o := .lst []) np
    refine ⟨.list (hist.map stD), .list [], .lst (sqL (s1 _ _ h6)) (dpAll_map (fun _ _ q => (q.mono (Tk.of s1)).dp) h7), .lst (sqL upd_same) .nil, dok_sh (dok_sts _) (by decide), dok_sh (dok_lst (n := 0) (fun d hd => by cases hd)) (by decide), _, rfl, ?_⟩
    rcases List.eq_nil_or_concat hist with e | ⟨hs, s, e⟩
    · subst e
      simp only [step, List.getLast?_nil] at h
      simp only [List.map_nil, PyData.eqv, PyData.eqvAll]
      exact h _ s1
    · rw [List.concat_eq_append] at e
      subst e
      have e1 : PyData.eqv (.list ((hs ++ [s]).map stD)) (.list []) = false := by
        simp only [PyData.eqv]
        cases hs <;> simp [PyData.eqvAll]
      rw [e1]
      simp only [step, List.getLast?_append, List.getLast?_singleton, Option.some_or, List.dropLast_concat] at h
      obtain ⟨vs0, y, rfl, g1, a, w1, w2, w3, w4, rfl, ha, q1, q2, q3, q4⟩ := paired_concat h7
      refine iteF ?_
      refine ⟨_, rfl, x, _, dx, _, _, rfl, s1 _ _ hx, T.cl, T.noat "past" (by decide +kernel), rfl, .inl ⟨rfl, _, sqL (s1 _ _ h6)⟩, pa, _, _, rfl, rfl, s1 _ _ h6, by rw [List.length_append]; show (vs0 ++ [V.ref a])[vs0.length + 1 - 1]? = some (.ref a); simp, ?_⟩
      rw [List.dropLast_concat]
      have npx : x ≠ pa := ne_of hx h6 (by intro z; cases z)
      have xa : (upd (upd H p (.lst [])) pa (.lst vs0)) x = some (.ins (SC K) dx [("policy", vp), ("present", v1), ("fixed", v2), ("known", v3), ("deleted", v4), ("past", .ref pa)]) := by
        rw [upd_ne npx]
        exact s1 _ _ hx
      have t2 : Tk (upd H p (.lst [])) (upd (upd H p (.lst [])) pa (.lst vs0)) := Tk.upd (by rw [s1 _ _ h6]; intro z e; cases e)
      have fa : Fr [x, pa] H (upd (upd H p (.lst [])) pa (.lst vs0)) := ⟨fun b o e n => by
        rw [upd_ne (fun z => n (by rw [z]; simp))]
        exact s1 _ _ e, (Tk.of s1).trans t2⟩
      have l6 : ∀ a b c d e f : V, ([("policy", a), ("present", b), ("fixed", c), ("known", d), ("deleted", e), ("past", f)] : List (Str × V)).length < 1000 := fun _ _ _ _ _ _ => by show (6 : Nat) < 1000; decide
      refine ⟨a, _, rfl, sqT (fa.tup _ _ ha), rfl, ?_⟩
      refine ⟨w1, _, rfl, _, rfl, x, _, dx, _, rfl, xa, T.cl, T.noat "present" (by decide +kernel), l6 _ _ _ _ _ _, ?_⟩
      refine ⟨w2, _, rfl, _, rfl, x, _, dx, [("policy", vp), ("present", w1), ("fixed", v2), ("known", v3), ("deleted", v4), ("past", .ref pa)], rfl, upd_same, T.cl, T.noat "fixed" (by decide +kernel), l6 _ _ _ _ _ _, ?_⟩
      refine ⟨w3, _, rfl, _, rfl, x, _, dx, [("policy", vp), ("present", w1), ("fixed", w2), ("known", v3), ("deleted", v4), ("past", .ref pa)], rfl, upd_same, T.cl, T.noat "known" (by decide +kernel), l6 _ _ _ _ _ _, ?_⟩
      refine ⟨w4, _, rfl, _, rfl, x, _, dx, [("policy", vp), ("present", w1), ("fixed", w2), ("known", w3), ("deleted", v4), ("past", .ref pa)], rfl, upd_same, T.cl, T.noat "deleted" (by decide +kernel), l6 _ _ _ _ _ _, rfl, ?_⟩
      rw [upd_upd, upd_upd, upd_upd]
      have f4 := fr_upd (S := [pa]) (fs' := [("policy", vp), ("present", w1), ("fixed", w2), ("known", w3), ("deleted", w4), ("past", .ref pa)]) xa
      have ff := fa.trans f4
      refine h _ _ ff ⟨dx, vp, w1, w2, w3, w4, vs0, upd_same, h1.mono ff.tup, q1.mono ff.tup, q2.mono ff.tup, q3.mono ff.tup, q4.mono ff.tup, ?_, L2.Paired.mapP g1 fun _ _ z => z.mono ff.tup⟩ rfl
      rw [upd_ne npx.symm]
      exact upd_same
def spMissed (K : PySem.W.Frag) : Sp := fun vs H Q _ => ∃ x pa pol hist cur n, vs = [.ref x] ∧ Sto K x pa H pol hist cur ∧ Good n cur ∧ n ≤ 60 ∧ (∀ r ∈ pol, RuleOk r) ∧ NewI H (minus (pru pol (minus cur.k cur.d)) cur.p) Q
theorem sc_StMissed : FnScope ["self"] ["self"] (defScope sStMissed) := ⟨rfl, rfl, rfl, by decide +kernel, rfl, by decide +kernel, by decide +kernel⟩
theorem do_StMissed (T : Tx K mg) : Does P w K mg base CX0 4 (AM K "missed") ["self"] (spMissed K) := by
  obtain ⟨fd, F0⟩ := T.def_ dStMissed (List.mem_of_getElem? (i := 44) rfl)
  have F : FunD K "missed" "Store.missed" (defArgs sStMissed) (defBody sStMissed) (defScope sStMissed) [] [] (AM K "missed") fd := F0
  have d_pruned := do_Pruned (P := P) (w := w) (base := base) T
  have d_without := do_Without (P := P) (w := w) (base := base) T
  refine ⟨fd, F.ok sc_StMissed (fun vs H Q E h => ?len) (fun cdv A outer s H vs Q E hr h => ⟨_, PSs.nox (pss_one (ps_ret (pf d_without (hr.mono (by decide)) (T.glo "without" (by decide +kernel)) (pa_cons (pf d_pruned (hr.mono (by decide)) (T.glo "pruned" (by decide +kernel)) (pa_cons (pe_fld (pv 0) rfl) (pa_cons (pf d_without (hr.mono (by decide)) (T.glo "without" (by decide +kernel)) (pa_cons (pe_fld (pv 0) rfl) (pa_cons (pe_fld (pv 0) rfl) pa_nil))) pa_nil))) (pa_cons (pe_fld (pv 0) rfl) pa_nil))))), ?rd⟩), F.bindsN (fun _ _ _ _ _ _ us hl => match us, hl with | [_], _ => rfl), F.kp⟩
  case len => obtain ⟨x, pa, pol, hist, cur, n, rfl, _⟩ := h; rfl
  case rd =>
    obtain ⟨x, pa, pol, hist, cur, n, rfl, sx, gd, hn, hok, hQ⟩ := h
    obtain ⟨dx, vp, v1, v2, v3, v4, pvs, hx, h1, h2, h3, h4, h5, h6, h7⟩ := sx
    have lk := gd.lk
    have lm := len_minus cur.k cur.d
    have lpr := len_sub (asc_pru pol (minus cur.k cur.d)).nodup fun y hy => pru_sub hy
    refine ⟨_, rfl, x, _, dx, _, _, rfl, hx, T.cl, T.noat "policy" (by decide +kernel), rfl, _, rfl, x, _, dx, _, _, rfl, hx, T.cl, T.noat "known" (by decide +kernel), rfl, _, rfl, x, _, dx, _, _, rfl, hx, T.cl, T.noat "deleted" (by decide +kernel), rfl, v3, v4, cur.k, cur.d, rfl, h4, h5, by omega, fun H1 u1 s1 w1 => ?_⟩
    refine ⟨vp, u1, pol, _, rfl, h1.mono (Tk.of s1), hok, w1, asc_minus gd.ak, by omega, fun H2 u2 s2 w2 => ?_⟩
    have s12 := s1.trans s2
    exact ⟨_, rfl, x, _, dx, _, _, rfl, s12 _ _ hx, T.cl, T.noat "present" (by decide +kernel), rfl, u2, v1, _, cur.p, rfl, w2, h2.mono (Tk.of s12), by omega, fun H3 v s3 w3 => hQ _ _ (s12.trans s3) w3⟩
end
end K19

set_option Elab.async false
set_option linter.all false
set_option maxRecDepth 100000
set_option maxHeartbeats 4000000
/-! the law's small defs -/
namespace K19
open PySem PySem.Spec PyProof.Rows L2
section
variable {P : Program} {w : World} {K : PySem.W.Frag} {mg : Str → Option Value} {base : Heap}
/-- the source of numbers at p, drawn from at most k times beyond its start -/
def Src (H : Hp) (p : Addr) (k : Nat) : Prop := ∃ a b c : Int, H p = some (.lst [.int a, .int b, .int c]) ∧ 0 ≤ a ∧ (0 ≤ b ∧ b < 2147483579) ∧ 0 ≤ c ∧ c ≤ k
theorem Src.kept {S : List Addr} {H H' : Hp} {p : Addr} {k : Nat} (h : Src H p k) (e : Fr S H H') (hp : p ∉ S) : Src H' p k := by
  obtain ⟨a, b, c, h1, h2⟩ := h
  exact ⟨a, b, c, e.keep _ _ h1 hp, h2⟩
theorem Src.s {H H' : Hp} {p : Addr} {k : Nat} (h : Src H p k) (e : Same H H') : Src H' p k := h.kept (Fr.of (S := []) e) (by simp)
theorem Src.mono {H : Hp} {p : Addr} {k j : Nat} (h : Src H p k) (l : k ≤ j) : Src H p j := by
  obtain ⟨a, b, c, h1, h2, h3, h4, h5⟩ := h
  exact ⟨a, b, c, h1, h2, h3, h4, by omega⟩
def spSource : Sp := fun vs H Q _ => ∃ c : Int, ∃ n : Nat, vs = [.int c, .int (n : Nat)] ∧ ∀ H' p, Same H H' → H p = none → Src H' p n → Q (.ref p) H'
theorem sc_LawSource : FnScope ["_law_cell", "_law_turn"] ["_law_cell", "_law_turn"] (defScope sLawSource) := ⟨rfl, rfl, rfl, by decide +kernel, rfl, by decide +kernel, by decide +kernel⟩
theorem do_LawSource (T : Tx K mg) : Does P w K mg base CX0 1 (AG K "_law_source") ["_law_cell", "_law_turn"] spSource := by
  obtain ⟨fd, F0⟩ := T.def_ dLawSource (List.mem_of_getElem? (i := 11) rfl)
  have F : FunD K "_law_source" "_law_source" (defArgs sLawSource) (defBody sLawSource) (defScope sLawSource) [] [] (AG K "_law_source") fd := F0
  refine ⟨fd, F.ok sc_LawSource (fun vs H Q E h => ?len) (fun cdv A outer s H vs Q E hr h => ⟨_, PSs.nox (pss_cons (ps_if (pt_cmpR op_ge (pv 0) (pe_op op_pow (pe_int) (pe_int)) (nomark _))
        (pss_one (ps_ret (pe_lst (pa_cons (pe_op op_sub (pv 0) (pe_op op_pow (pe_int) (pe_int))) (pa_cons (pe_op op_mod (pv 0) (pe_int)) (pa_cons (pv 1) pa_nil))))))
        pss_nil)
      (pss_one (ps_ret (pe_lst (pa_cons (pe_int) (pa_cons (pe_op op_mod (pv 0) (pe_int)) (pa_cons (pv 1) pa_nil))))))), ?rd⟩), F.bindsN (fun _ _ _ _ _ _ us hl => match us, hl with | [_, _], _ => rfl), F.kp⟩
  case len => obtain ⟨c, n, rfl, _⟩ := h; rfl
  case rd =>
    obtain ⟨c, n, rfl, hQ⟩ := h
    have e18 : (10 : Int) ^ (18 : Int).toNat = 1000000000000000000 := by decide
    have m1 : 0 ≤ c % 2147483579 ∧ c % 2147483579 < 2147483579 := ⟨Int.emod_nonneg _ (by decide), Int.emod_lt_of_pos _ (by decide)⟩
    refine ⟨_, rfl, _, _, rfl, rfl, ⟨by decide, by decide, by decide⟩, _, _, rfl, rfl, _, rfl, ?_⟩
    rw [e18]
    by_cases h : (1000000000000000000 : Int) ≤ c
    · rw [decide_eq_true h]
      refine iteT ⟨_, rfl, _, _, rfl, rfl, ⟨by decide, by decide, by decide⟩, _, _, rfl, rfl, _, rfl, _, _, rfl, rfl, (show (0 : Int) < 2147483579 by decide), _, rfl, sz_le (n := 3) (by decide), fun p hp => ?_⟩
      rw [e18]
      exact hQ _ p (Same.upd hp) hp ⟨_, _, _, upd_same, by omega, m1, by omega, by omega⟩
    · rw [decide_eq_false h]
      exact iteF ⟨_, rfl, _, _, rfl, rfl, (show (0 : Int) < 2147483579 by decide), _, rfl, sz_le (n := 3) (by decide), fun p hp => hQ _ p (Same.upd hp) hp ⟨_, _, _, upd_same, by decide, m1, by omega, by omega⟩⟩
def spDraw : Sp := fun vs H Q _ => ∃ p : Addr, ∃ m : Int, ∃ k : Nat, vs = [.ref p, .int m] ∧ 1 ≤ m ∧ m < 2 ^ 64 ∧ Src H p k ∧ k ≤ 1000000 ∧ ∀ H' (d : Int), 0 ≤ d → d < m → Fr [p] H H' → Src H' p (k + 1) → Q (.int d) H'
theorem fr_lst {H : Hp} {p : Addr} {xs ys : List V} (h : H p = some (.lst xs)) : Fr [p] H (upd H p (.lst ys)) :=
  ⟨fun b o e n => by rw [upd_ne (fun z => n (by rw [z]; simp))]; exact e, Tk.upd (by rw [h]; intro z e; cases e)⟩
theorem pow3_ok {n c : Int} (n0 : 0 ≤ n) (n1 : n < 2147483647) (c0 : 0 ≤ c) (c1 : c ≤ 1000000) : CPow (n + 7919 * (c + 1)) 3 := ⟨by decide, by decide, by omega⟩
theorem sc_LawDraw : FnScope ["_law_source_here", "_law_size", "_law_number", "_law_drawn"] ["_law_source_here", "_law_size"] (defScope sLawDraw) := ⟨rfl, rfl, rfl, by decide +kernel, rfl, by decide +kernel, by decide +kernel⟩
theorem do_LawDraw (T : Tx K mg) : Does P w K mg base CX0 1 (AG K "_law_draw") ["_law_source_here", "_law_size"] spDraw := by
  obtain ⟨fd, F0⟩ := T.def_ dLawDraw (List.mem_of_getElem? (i := 12) rfl)
  have F : FunD K "_law_draw" "_law_draw" (defArgs sLawDraw) (defBody sLawDraw) (defScope sLawDraw) [] [] (AG K "_law_draw") fd := F0
  refine ⟨fd, F.ok sc_LawDraw (fun vs H Q E h => ?len) (fun cdv A outer s H vs Q E hr h => ⟨_, PSs.nox (pss_cons (ps_if (pt_cmpR op_gt (pe_ix ix_list (pv 0) (pe_int) (fun _ _ => rfl)) (pe_int) (nomark _))
        (pss_cons (ps_set (i := 3) sc_LawDraw.nd rfl (Or.inl rfl) (pe_op op_mod (pe_ix ix_list (pv 0) (pe_int) (fun _ _ => rfl)) (pv 1)))
        (pss_cons (ps_asg (pe_op op_fdivW (pe_ix ix_list (pv 0) (pe_int) (fun _ _ => rfl)) (pv 1)) (pg_sub (pv 0) (pe_int) set_list))
        (pss_one (ps_ret (pv 3)))))
        pss_nil)
      (pss_cons (ps_asg (pe_op op_add (pe_ix ix_list (pv 0) (pe_int) (fun _ _ => rfl)) (pe_int)) (pg_sub (pv 0) (pe_int) set_list))
      (pss_cons (ps_set (i := 2) sc_LawDraw.nd rfl (Or.inl rfl) (pe_op op_mod (pe_op op_pow (pe_op op_add (pe_ix ix_list (pv 0) (pe_int) (fun _ _ => rfl)) (pe_op op_mul (pe_int) (pe_ix ix_list (pv 0) (pe_int) (fun _ _ => rfl)))) (pe_int)) (pe_int)))
      (pss_cons (ps_set (i := 3) sc_LawDraw.nd rfl (Or.inl rfl) (pe_op op_fdivW (pe_op op_mod (pe_op op_pow (pe_op op_add (pv 2) (pe_op op_mul (pe_int) (pe_ix ix_list (pv 0) (pe_int) (fun _ _ => rfl)))) (pe_int)) (pe_int)) (pe_int)))
      (pss_one (ps_ret (pe_op op_mod (pv 3) (pv 1)))))))), ?rd⟩), F.bindsN (fun _ _ _ _ _ _ us hl => match us, hl with | [_, _], _ => rfl), F.kp⟩
  case len => obtain ⟨p, m, k, rfl, _⟩ := h; rfl
  case rd =>
    obtain ⟨p, m, k, rfl, m1, m2, ⟨a, b, c, hp, a0, ⟨b0, b1⟩, c0, c1⟩, hk, hQ⟩ := h
    have pm : 0 < m := by omega
    refine ⟨_, rfl, p, _, _, _, rfl, rfl, sqL hp, rfl, _, _, rfl, rfl, _, rfl, ?_⟩
    by_cases h : (1 : Int) < a
    · rw [decide_eq_true h]
      refine iteT ⟨_, rfl, p, _, _, _, rfl, rfl, sqL hp, rfl, _, rfl, _, _, rfl, rfl, pm, ?_⟩
      refine ⟨_, rfl, p, _, _, _, rfl, rfl, sqL hp, rfl, _, rfl, _, _, rfl, rfl, wide_div (b := 64) pm (by omega) (by decide) (by decide), ?_⟩
      refine ⟨_, rfl, p, _, _, 0, rfl, rfl, hp, rfl, _, rfl, ?_⟩
      have q1 := Int.ediv_nonneg a0 (by omega : 0 ≤ m)
      exact hQ _ _ (Int.emod_nonneg _ (by omega)) (Int.emod_lt_of_pos _ pm) (fr_lst hp) ⟨_, _, _, upd_same, q1, ⟨b0, b1⟩, c0, by omega⟩
    · rw [decide_eq_false h]
      refine iteF ?_
      refine ⟨_, rfl, p, _, _, _, rfl, rfl, sqL hp, rfl, _, _, rfl, rfl, ?_⟩
      refine ⟨_, rfl, p, _, _, 2, rfl, rfl, hp, rfl, ?_⟩
      have hp' : (upd H p (.lst [.int a, .int b, .int (c + 1)])) p = some (.lst [.int a, .int b, .int (c + 1)]) := upd_same
      refine ⟨_, rfl, p, _, _, _, rfl, rfl, sqL hp', rfl, _, rfl, p, _, _, _, rfl, rfl, sqL hp', rfl, _, _, rfl, rfl, .inl ⟨by decide, by decide⟩, _, _, rfl, rfl, _, _, rfl, rfl, ⟨by decide, by decide, by show (b + 15485867 * (c + 1)).natAbs < 2 ^ 64; omega⟩, _, _, rfl, rfl, (show (0 : Int) < 2147483647 by decide), ?_⟩
      have n0 := Int.emod_nonneg ((b + 15485867 * (c + 1)) ^ (5 : Int).toNat) (by decide : (2147483647 : Int) ≠ 0)
      have n1 := Int.emod_lt_of_pos ((b + 15485867 * (c + 1)) ^ (5 : Int).toNat) (by decide : (0 : Int) < 2147483647)
      refine ⟨_, rfl, _, rfl, p, _, _, _, rfl, rfl, sqL hp', rfl, _, _, rfl, rfl, .inl ⟨by decide, by decide⟩, _, _, rfl, rfl, _, _, rfl, rfl, pow3_ok n0 n1 c0 (by omega), _, _, rfl, rfl, (show (0 : Int) < 2147483629 by decide), _, _, rfl, rfl, wide_div (b := 64) (show (0 : Int) < 32 by decide) (by decide) (by decide) (by decide), ?_⟩
      refine ⟨_, rfl, _, rfl, _, _, rfl, rfl, pm, ?_⟩
      exact hQ _ _ (Int.emod_nonneg _ (by omega)) (Int.emod_lt_of_pos _ pm) (fr_lst hp) ⟨_, _, _, upd_same, a0, ⟨b0, b1⟩, by omega, by omega⟩
def isI (v : V) : Bool := match v with
  | .int _ => true
  | _ => false
def spIsInt : Sp := fun vs H Q _ => ∃ v, vs = [v] ∧ TimeV v ∧ Q (.bl (isI v)) H
theorem sc_LawIsInt : FnScope ["_law_value"] ["_law_value"] (defScope sLawIsInt) := ⟨rfl, rfl, rfl, by decide +kernel, rfl, by decide +kernel, by decide +kernel⟩
theorem do_LawIsInt (T : Tx K mg) : Does P w K mg base CX0 1 (AG K "_law_is_int") ["_law_value"] spIsInt := by
  obtain ⟨fd, F0⟩ := T.def_ dLawIsInt (List.mem_of_getElem? (i := 13) rfl)
  have F : FunD K "_law_is_int" "_law_is_int" (defArgs sLawIsInt) (defBody sLawIsInt) (defScope sLawIsInt) [] [] (AG K "_law_is_int") fd := F0
  refine ⟨fd, F.ok sc_LawIsInt (fun vs H Q E h => ?len) (fun cdv A outer s H vs Q E hr h => ⟨_, PSs.nox (pss_one (ps_ret ((pe_and (pe_callB call_isi rfl (T.free "isinstance" (by decide +kernel)) (by decide +kernel) (pa_cons (pv 0) (pa_cons (pe_bltn (v := .ty "int") rfl (T.free "int" (by decide +kernel)) (by decide +kernel) rfl) pa_nil))) (pe_one (pe_not (pe_callB call_isi rfl (T.free "isinstance" (by decide +kernel)) (by decide +kernel) (pa_cons (pv 0) (pa_cons (pe_bltn (v := .ty "bool") rfl (T.free "bool" (by decide +kernel)) (by decide +kernel) rfl) pa_nil))))))))), ?rd⟩), F.bindsN (fun _ _ _ _ _ _ us hl => match us, hl with | [_], _ => rfl), F.kp⟩
  case len => obtain ⟨v, rfl, _⟩ := h; rfl
  case rd =>
    obtain ⟨v, rfl, tv, hQ⟩ := h
    cases tv with
    | int i => exact ⟨_, rfl, _, _, .type "int", .type "int", true, rfl, .ty _, ty_int _ _, kit_ty (by decide +kernel), true, rfl, _, rfl, _, _, .type "int", .type "bool", false, rfl, .ty _, ty_int _ _, kit_ty (by decide +kernel), false, rfl, hQ⟩
    | non => exact ⟨_, rfl, _, _, .type "NoneType", .type "int", false, rfl, .ty _, ty_non _, kit_ty (by decide +kernel), false, rfl, hQ⟩
    | bl b => exact ⟨_, rfl, _, _, .type "bool", .type "int", true, rfl, .ty _, ty_bl _ _, kit_ty (by decide +kernel), true, rfl, _, rfl, _, _, .type "bool", .type "bool", true, rfl, .ty _, ty_bl _ _, kit_ty (by decide +kernel), true, rfl, hQ⟩
def spChoice : Sp := fun vs H Q _ => ∃ (p l : Addr) (xs : List V) (k : Nat), vs = [.ref p, .ref l] ∧ Src H p k ∧ k ≤ 1000000 ∧ H l = some (.lst xs) ∧ p ≠ l ∧ xs ≠ [] ∧ xs.length ≤ 100000 ∧ ∀ H', ∀ x ∈ xs, Fr [p] H H' → Src H' p (k + 1) → Q x H'
theorem sc_LawChoice : FnScope ["_law_source_here", "_law_items"] ["_law_source_here", "_law_items"] (defScope sLawChoice) := ⟨rfl, rfl, rfl, by decide +kernel, rfl, by decide +kernel, by decide +kernel⟩
theorem do_LawChoice (T : Tx K mg) : Does P w K mg base CX0 2 (AG K "_law_choice") ["_law_source_here", "_law_items"] spChoice := by
  obtain ⟨fd, F0⟩ := T.def_ dLawChoice (List.mem_of_getElem? (i := 14) rfl)
  have F : FunD K "_law_choice" "_law_choice" (defArgs sLawChoice) (defBody sLawChoice) (defScope sLawChoice) [] [] (AG K "_law_choice") fd := F0
  have d_law_draw := do_LawDraw (P := P) (w := w) (base := base) T
  refine ⟨fd, F.ok sc_LawChoice (fun vs H Q E h => ?len) (fun cdv A outer s H vs Q E hr h => ⟨_, PSs.nox (pss_one (ps_ret (pe_ix ix_list (pv 1) (pf d_law_draw (hr.mono (by decide)) (T.glo "_law_draw" (by decide +kernel)) (pa_cons (pv 0) (pa_cons (pe_callB call_len_seq rfl (T.free "len" (by decide +kernel)) (by decide +kernel) (pa_cons (pv 1) pa_nil)) pa_nil))) (fun _ _ => rfl)))), ?rd⟩), F.bindsN (fun _ _ _ _ _ _ us hl => match us, hl with | [_, _], _ => rfl), F.kp⟩
  case len => obtain ⟨p, l, xs, k, rfl, _⟩ := h; rfl
  case rd =>
    obtain ⟨p, l, xs, k, rfl, hs, hk, hl, ne, hx, hlen, hQ⟩ := h
    have lpos : 0 < xs.length := List.length_pos_iff.mpr hx
    refine ⟨_, rfl, _, rfl, _, rfl, l, _, rfl, .inl (sqL hl), p, _, k, rfl, by omega, by omega, hs, hk, fun H' d d0 d1 f s => ?_⟩
    obtain ⟨j, rfl⟩ := Int.eq_ofNat_of_zero_le d0
    have hj : j < xs.length := by omega
    have ej : xs[j]? = some xs[j] := List.getElem?_eq_getElem hj
    exact ⟨l, _, _, _, rfl, rfl, sqL (f.keep _ _ hl (by simp; exact fun e => ne e.symm)), atI_nat ej, hQ _ _ (List.getElem_mem hj) f s⟩
end
end K19

set_option Elab.async false
set_option linter.all false
set_option maxRecDepth 100000
set_option maxHeartbeats 4000000
/-! the law's reckoning: unions, the quick pruning, equality of data -/
namespace K19
open PySem PySem.Spec PyProof.Rows L2
section
variable {P : Program} {w : World} {K : PySem.W.Frag} {mg : Str → Option Value} {base : Heap}
/-! ### data -/
theorem Rd.s {H H' : Hp} {a : Addr} {u : HO} (e : Same H H') (h : Rd H a u) : Rd H' a u := by
  rcases h with h | ⟨o, h⟩
  · exact .inl (e _ _ h)
  · exact .inr ⟨o, e _ _ h⟩
theorem sqLs {H H' : Hp} {a : Addr} {xs : List V} (e : Same H H') (h : SqL K H a xs) : SqL K H' a xs := by
  rcases h with h | h
  · exact .inl (Rd.s e h)
  · exact .inr h
theorem sqTs {H H' : Hp} {a : Addr} {xs : List V} (e : Same H H') (h : SqT K H a xs) : SqT K H' a xs := by
  rcases h with h | h
  · exact .inl (Rd.s e h)
  · exact .inr h
mutual
theorem dp_s {H H' : Hp} (e : Same H H') : ∀ (d : PyData) (v : V), Dp K H v d → Dp K H' v d
  | .none, _, h => by cases h; exact .non
  | .bool b, _, h => by cases h; exact .bl b
  | .int i, _, h => by cases h; exact .int i
  | .str x, _, h => by cases h; exact .str x
  | .list ds, _, h => by
    cases h with
    | lst h t => exact .lst (sqLs e h) (dpAll_s e ds _ t)
  | .tuple ds, _, h => by
    cases h with
    | tup h t => exact .tup (sqTs e h) (dpAll_s e ds _ t)
  | .dict _, _, h => by cases h
theorem dpAll_s {H H' : Hp} (e : Same H H') : ∀ (ds : List PyData) (vs : List V), DpAll K H vs ds → DpAll K H' vs ds
  | [], _, h => by cases h; exact .nil
  | d :: ds, _, h => by
    cases h with
    | cons h t => exact .cons (dp_s e d _ h) (dpAll_s e ds _ t)
end
theorem sqL_ty {H : Hp} {a : Addr} {xs : List V} (h : SqL K H a xs) : TyX K H (.ref a) (.type "list") := by
  rcases h with (h | ⟨o, h⟩) | ⟨o, its, n, h1, h2, _⟩
  · exact .base (.lst h)
  · exact .base (.frz h)
  · exact .kList h1 h2
theorem sqT_ty {H : Hp} {a : Addr} {xs : List V} (h : SqT K H a xs) : TyX K H (.ref a) (.type "tuple") := by
  rcases h with (h | ⟨o, h⟩) | ⟨o, its, n, h1, h2, _⟩
  · exact .base (.tup h)
  · exact .fTuple h
  · exact .kTuple h1 h2
theorem dpAll_len {H : Hp} : ∀ {ds : List PyData} {vs : List V}, DpAll K H vs ds → vs.length = ds.length
  | [], _, .nil => rfl
  | _ :: _, _, .cons _ t => by rw [List.length_cons, List.length_cons, dpAll_len t]
theorem dpAll_get {H : Hp} : ∀ {ds : List PyData} {vs : List V} {i : Nat} {v : V}, DpAll K H vs ds → vs[i]? = some v → ∃ d, ds[i]? = some d ∧ Dp K H v d
  | _, _, _, _, .nil, h => by simp at h
  | _, _, 0, _, .cons q _, h => by simp at h; subst h; exact ⟨_, rfl, q⟩
  | _, _, i + 1, _, .cons _ t, h => by simpa using dpAll_get (i := i) t (by simpa using h)
theorem dpAll_get' {H : Hp} : ∀ {ds : List PyData} {vs : List V} {i : Nat} {d : PyData}, DpAll K H vs ds → ds[i]? = some d → ∃ v, vs[i]? = some v ∧ Dp K H v d
  | _, _, _, _, .nil, h => by simp at h
  | _, _, 0, _, .cons q _, h => by simp at h; subst h; exact ⟨_, rfl, q⟩
  | _, _, i + 1, _, .cons _ t, h => by simpa using dpAll_get' (i := i) t (by simpa using h)
def kd : PyData → Int
  | .bool _ => 1
  | .int _ => 2
  | .str _ => 3
  | .list _ => 4
  | .tuple _ => 5
  | _ => 6
def spKind (K : PySem.W.Frag) : Sp := fun vs H Q _ => ∃ v d, vs = [v] ∧ Dp K H v d ∧ Q (.int (kd d)) H
theorem sc_LawKind : FnScope ["_law_value"] ["_law_value"] (defScope sLawKind) := ⟨rfl, rfl, rfl, by decide +kernel, rfl, by decide +kernel, by decide +kernel⟩
theorem do_LawKind (T : Tx K mg) : Does P w K mg base CX0 1 (AG K "_law_kind") ["_law_value"] (spKind K) := by
  obtain ⟨fd, F0⟩ := T.def_ dLawKind (List.mem_of_getElem? (i := 17) rfl)
  have F : FunD K "_law_kind" "_law_kind" (defArgs sLawKind) (defBody sLawKind) (defScope sLawKind) [] [] (AG K "_law_kind") fd := F0
  refine ⟨fd, F.ok sc_LawKind (fun vs H Q E h => ?len) (fun cdv A outer s H vs Q E hr h => ⟨_, PSs.nox (pss_cons (ps_if (pt_val (pe_callB call_isi rfl (T.free "isinstance" (by decide +kernel)) (by decide +kernel) (pa_cons (pv 0) (pa_cons (pe_bltn (v := .ty "bool") rfl (T.free "bool" (by decide +kernel)) (by decide +kernel) rfl) pa_nil))))
        (pss_one (ps_ret (pe_int)))
        pss_nil)
      (pss_cons (ps_if (pt_val (pe_callB call_isi rfl (T.free "isinstance" (by decide +kernel)) (by decide +kernel) (pa_cons (pv 0) (pa_cons (pe_bltn (v := .ty "int") rfl (T.free "int" (by decide +kernel)) (by decide +kernel) rfl) pa_nil))))
        (pss_one (ps_ret (pe_int)))
        pss_nil)
      (pss_cons (ps_if (pt_val (pe_callB call_isi rfl (T.free "isinstance" (by decide +kernel)) (by decide +kernel) (pa_cons (pv 0) (pa_cons (pe_bltn (v := .ty "str") rfl (T.free "str" (by decide +kernel)) (by decide +kernel) rfl) pa_nil))))
        (pss_one (ps_ret (pe_int)))
        pss_nil)
      (pss_cons (ps_if (pt_val (pe_callB call_isi rfl (T.free "isinstance" (by decide +kernel)) (by decide +kernel) (pa_cons (pv 0) (pa_cons (pe_bltn (v := .ty "list") rfl (T.free "list" (by decide +kernel)) (by decide +kernel) rfl) pa_nil))))
        (pss_one (ps_ret (pe_int)))
        pss_nil)
      (pss_one (ps_ret (pe_ifExp (pt_val (pe_callB call_isi rfl (T.free "isinstance" (by decide +kernel)) (by decide +kernel) (pa_cons (pv 0) (pa_cons (pe_bltn (v := .ty "tuple") rfl (T.free "tuple" (by decide +kernel)) (by decide +kernel) rfl) pa_nil)))) (pe_int) (pe_int)))))))), ?rd⟩), F.bindsN (fun _ _ _ _ _ _ us hl => match us, hl with | [_], _ => rfl), F.kp⟩
  case len => obtain ⟨v, d, rfl, _⟩ := h; rfl
  case rd =>
    obtain ⟨v, d, rfl, hd, hQ⟩ := h
    cases hd with
    | non => exact ⟨_, rfl, _, _, .type "NoneType", .type "bool", false, rfl, .ty _, ty_non _, kit_ty (by decide +kernel), false, rfl, _, rfl, _, _, .type "NoneType", .type "int", false, rfl, .ty _, ty_non _, kit_ty (by decide +kernel), false, rfl, _, rfl, _, _, .type "NoneType", .type "str", false, rfl, .ty _, ty_non _, kit_ty (by decide +kernel), false, rfl, _, rfl, _, _, .type "NoneType", .type "list", false, rfl, .ty _, ty_non _, kit_ty (by decide +kernel), false, rfl, _, rfl, _, _, .type "NoneType", .type "tuple", false, rfl, .ty _, ty_non _, kit_ty (by decide +kernel), false, rfl, hQ⟩
    | bl b => exact ⟨_, rfl, _, _, .type "bool", .type "bool", true, rfl, .ty _, ty_bl _ _, kit_ty (by decide +kernel), true, rfl, hQ⟩
    | int i => exact ⟨_, rfl, _, _, .type "int", .type "bool", false, rfl, .ty _, ty_int _ _, kit_ty (by decide +kernel), false, rfl, _, rfl, _, _, .type "int", .type "int", true, rfl, .ty _, ty_int _ _, kit_ty (by decide +kernel), true, rfl, hQ⟩
    | str z =>
      have ts : TyX K H (.str z) (.type "str") := .base (.str z)
      exact ⟨_, rfl, _, _, .type "str", .type "bool", false, rfl, .ty _, ts, kit_ty (by decide +kernel), false, rfl, _, rfl, _, _, .type "str", .type "int", false, rfl, .ty _, ts, kit_ty (by decide +kernel), false, rfl, _, rfl, _, _, .type "str", .type "str", true, rfl, .ty _, ts, kit_ty (by decide +kernel), true, rfl, hQ⟩
    | lst h t =>
      have ts := sqL_ty h
      exact ⟨_, rfl, _, _, .type "list", .type "bool", false, rfl, .ty _, ts, kit_ty (by decide +kernel), false, rfl, _, rfl, _, _, .type "list", .type "int", false, rfl, .ty _, ts, kit_ty (by decide +kernel), false, rfl, _, rfl, _, _, .type "list", .type "str", false, rfl, .ty _, ts, kit_ty (by decide +kernel), false, rfl, _, rfl, _, _, .type "list", .type "list", true, rfl, .ty _, ts, kit_ty (by decide +kernel), true, rfl, hQ⟩
    | tup h t =>
      have ts := sqT_ty h
      exact ⟨_, rfl, _, _, .type "tuple", .type "bool", false, rfl, .ty _, ts, kit_ty (by decide +kernel), false, rfl, _, rfl, _, _, .type "tuple", .type "int", false, rfl, .ty _, ts, kit_ty (by decide +kernel), false, rfl, _, rfl, _, _, .type "tuple", .type "str", false, rfl, .ty _, ts, kit_ty (by decide +kernel), false, rfl, _, rfl, _, _, .type "tuple", .type "list", false, rfl, .ty _, ts, kit_ty (by decide +kernel), false, rfl, _, rfl, _, _, .type "tuple", .type "tuple", true, rfl, .ty _, ts, kit_ty (by decide +kernel), true, rfl, hQ⟩
/-! ### buckets, unions -/
theorem sc_LawBucket : FnScope ["_law_rule", "_law_time"] ["_law_rule", "_law_time"] (defScope sLawBucket) := ⟨rfl, rfl, rfl, by decide +kernel, rfl, by decide +kernel, by decide +kernel⟩
theorem do_LawBucket (T : Tx K mg) : Does P w K mg base CX0 1 (AG K "_law_bucket") ["_law_rule", "_law_time"] spBucket := by
  obtain ⟨fd, F0⟩ := T.def_ dLawBucket (List.mem_of_getElem? (i := 20) rfl)
  have F : FunD K "_law_bucket" "_law_bucket" (defArgs sLawBucket) (defBody sLawBucket) (defScope sLawBucket) [] [] (AG K "_law_bucket") fd := F0
  refine ⟨fd, F.ok sc_LawBucket (fun vs H Q E h => ?len) (fun cdv A outer s H vs Q E hr h => ⟨_, PSs.nox (pss_one (ps_ret (pe_op op_fdivW (pe_op op_add (pv 1) (pe_ix ix_tup (pv 0) (pe_int) (fun _ _ => rfl))) (pe_ix ix_tup (pv 0) (pe_int) (fun _ _ => rfl))))), ?rd⟩), F.bindsN (fun _ _ _ _ _ _ us hl => match us, hl with | [_, _], _ => rfl), F.kp⟩
  case len => obtain ⟨v, r, t, rfl, _⟩ := h; rfl
  case rd =>
    obtain ⟨v, r, t, rfl, ⟨a, rfl, ha⟩, ok, hQ⟩ := h
    refine ⟨_, rfl, _, rfl, _, _, _, _, rfl, rfl, sqT ha, at1, _, _, rfl, rfl, _, rfl, _, _, _, _, rfl, rfl, sqT ha, at0, _, _, rfl, rfl, ?_, hQ⟩
    exact wide_div (b := 64) ok.p1 (by have := ok.p2; have := ok.p1; omega) (by decide) (by decide)
theorem sc_LawUnion : FnScope ["_law_first", "_law_second"] ["_law_first", "_law_second"] (defScope sLawUnion) := ⟨rfl, rfl, rfl, by decide +kernel, rfl, by decide +kernel, by decide +kernel⟩
theorem do_LawUnion (T : Tx K mg) : Does P w K mg base CX0 1 (AG K "_law_union") ["_law_first", "_law_second"] spUnion := by
  obtain ⟨fd, F0⟩ := T.def_ dLawUnion (List.mem_of_getElem? (i := 21) rfl)
  have F : FunD K "_law_union" "_law_union" (defArgs sLawUnion) (defBody sLawUnion) (defScope sLawUnion) [] [] (AG K "_law_union") fd := F0
  refine ⟨fd, F.ok sc_LawUnion (fun vs H Q E h => ?len) (fun cdv A outer s H vs Q E hr h => ⟨_, PSs.nox (pss_one (ps_ret (pe_callTy call_tuple_of rfl (T.free "tuple" (by decide +kernel)) (by decide +kernel) (pa_cons (pe_callB (cr_sortedSet rfl) rfl (T.free "sorted" (by decide +kernel)) (by decide +kernel) (pa_cons (pe_callTy (cr_setTI rfl) rfl (T.free "set" (by decide +kernel)) (by decide +kernel) (pa_cons (pe_op op_catA (pv 0) (pv 1)) pa_nil)) pa_nil)) pa_nil)))), ?rd⟩), F.bindsN (fun _ _ _ _ _ _ us hl => match us, hl with | [_, _], _ => rfl), F.kp⟩
  case len => obtain ⟨v, u, ns, ms, rfl, _⟩ := h; rfl
  case rd =>
    obtain ⟨v, u, ns, ms, rfl, ⟨a, rfl, ha⟩, ⟨b, rfl, hb⟩, aa, ab, hl, hQ⟩ := h
    have el : (ns.map V.int).length + (ms.map V.int).length ≤ 100000 := by rw [List.length_map, List.length_map]; omega
    have fin : ∀ (p : Addr) (H3 : Hp), Same H H3 → H3 p = some (.tup (ns.map V.int ++ ms.map V.int)) → rSetTI K w [V.ref p] H3 fun x H4 => rSortedSet w [x] H4 fun x H1 => ∃ p' ys, [x] = [V.ref p'] ∧ ((SqL K H1 p' ys ∧ ∀ l, H1 l = none → Q (.ref l) (upd H1 l (.tup ys))) ∨ (SqT K H1 p' ys ∧ Q (.ref p') H1)) := fun p H3 s3 hp => by
      rw [← List.map_append] at hp
      refine ⟨p, ns ++ ms, rfl, sqT hp, by rw [List.length_append]; omega, fun q n hn hq => ?_⟩
      rw [List.length_append] at hn
      refine ⟨q, _, n, rfl, upd_same, by omega, fun ys r hs hm hlen hr => ?_⟩
      have ey : ys = uni ns ms := uni_of aa hs fun x => by rw [hm x, decide_eq_true_iff, List.mem_append]
      exact rdT upd_same (by rw [ey]) ((s3.trans (Same.upd hq)).trans (Same.upd hr)) hQ
    refine ⟨_, rfl, _, rfl, a, b, _, _, rfl, rfl, sqT ha, sqT hb, sz_le el, fun h0 => ?_, fun h0 h1 => ?_, fun h0 h1 p hp => ?_⟩
    · exact fin b H (Same.refl _) (by rw [h0]; exact hb)
    · exact fin a H (Same.refl _) (by rw [h1, List.append_nil]; exact ha)
    · exact fin p _ (Same.upd hp) upd_same
theorem nst_seen (r : Rule) (s : List Int × List Int) (t : Int) : (nst r s t).2 = insN (bk r t) s.2 := rfl
theorem DKeys.len {H : Hp} {D : Addr} {ks : List Int} (h : DKeys H D ks) : ∃ kvs : List (Key × V), H D = some (.dK kvs) ∧ kvs.length = ks.length := by
  obtain ⟨kvs, h1, h2⟩ := h
  refine ⟨kvs, h1, ?_⟩
  have := congrArg List.length h2
  rwa [List.length_map, List.length_map] at this
theorem DKeys.s {H H' : Hp} {D : Addr} {ks : List Int} (h : DKeys H D ks) (e : H' D = H D) : DKeys H' D ks := by
  obtain ⟨kvs, h1, h2⟩ := h
  exact ⟨kvs, by rw [e]; exact h1, h2⟩
theorem sc_LawFast : FnScope ["_law_rules", "_law_snapshots", "_law_kept", "_law_rule", "_law_seen", "_law_time", "_law_here"] ["_law_rules", "_law_snapshots"] (defScope sLawFast) := ⟨rfl, rfl, rfl, by decide +kernel, rfl, by decide +kernel, by decide +kernel⟩
theorem do_LawFast (T : Tx K mg) : Does P w K mg base CX0 2 (AG K "_law_fast") ["_law_rules", "_law_snapshots"] spPruned := by
  obtain ⟨fd, F0⟩ := T.def_ dLawFast (List.mem_of_getElem? (i := 22) rfl)
  have F : FunD K "_law_fast" "_law_fast" (defArgs sLawFast) (defBody sLawFast) (defScope sLawFast) [] [] (AG K "_law_fast") fd := F0
  have d_law_bucket := do_LawBucket (P := P) (w := w) (base := base) T
  refine ⟨fd, F.ok sc_LawFast (fun vs H Q E h => ?len) (fun cdv A outer s H vs Q E hr h => ⟨_, PSs.nox (pss_cons (ps_set (i := 2) sc_LawFast.nd rfl (Or.inl rfl) (pe_dnewK))
      (pss_cons (ps_for PassesOwn.never rfl (pi_tup (pv 0)) (pg_name (i := 3) sc_LawFast.nd rfl (Or.inl rfl))
        (pss_cons (ps_set (i := 4) sc_LawFast.nd rfl (Or.inl rfl) (pe_dnewK))
        (pss_one (ps_for PassesOwn.never rfl (pi_tup (pe_revT (pv 1))) (pg_name (i := 5) sc_LawFast.nd rfl (Or.inl rfl))
          (pss_cons (ps_set (i := 6) sc_LawFast.nd rfl (Or.inl rfl) (pf d_law_bucket (hr.mono (by decide)) (T.glo "_law_bucket" (by decide +kernel)) (pa_cons (pv 3) (pa_cons (pv 5) pa_nil))))
          (pss_cons (ps_if (PW.pt (pw_and (pt_cmp (pc_dnotin (hu_of hr) (pv 6) (pv 4))) (pw_and1 (pt_cmpR op_lt (pe_callB call_lenD rfl (T.free "len" (by decide +kernel)) (by decide +kernel) (pa_cons (pv 4) pa_nil)) (pe_ix ix_tup (pv 3) (pe_int) (fun _ _ => rfl)) (nomark _)))))
            (pss_one (ps_dput (hu_of hr) (pv 2) (pv 5) (pe_bl) rfl))
            pss_nil)
          (pss_one (ps_dput (hu_of hr) (pv 4) (pv 6) (pe_bl) rfl))))))))
      (pss_one (ps_ret (pe_callTy call_tuple_of rfl (T.free "tuple" (by decide +kernel)) (by decide +kernel) (pa_cons (pe_callB (call_sortedDI rfl) rfl (T.free "sorted" (by decide +kernel)) (by decide +kernel) (pa_cons (pv 2) pa_nil)) pa_nil)))))), ?rd⟩), F.bindsN (fun _ _ _ _ _ _ us hl => match us, hl with | [_, _], _ => rfl), F.kp⟩
  case len => obtain ⟨v, u, pol, ns, rfl, _⟩ := h; rfl
  case rd =>
    obtain ⟨v, u, pol, ns, rfl, ⟨a, vs, rfl, ha, hvs⟩, ok, ⟨b, rfl, hb⟩, asc, hlen, hQ⟩ := h
    have lvs : vs.length = pol.length := hvs.length
    intro D hD
    have s1 : Same H (upd H D (.dK [])) := Same.upd hD
    refine ⟨_, rfl, a, rfl, ⟨_, sqT (s1 _ _ ha)⟩, ?_⟩
    refine for_tup (xs := vs) (fun i σ H' => Same H H' ∧ (∃ ks, DKeys H' D ks ∧ ks.Nodup ∧ ∀ x, x ∈ ks ↔ ∃ r ∈ pol.take i, x ∈ newest r ns) ∧ ∃ x3 x4 x5 x6, σ = [some (.ref a), some (.ref b), some (.ref D), x3, x4, x5, x6])
      ⟨s1, ⟨[], ⟨[], upd_same, rfl⟩, List.nodup_nil, fun x => by simp⟩, _, _, _, _, rfl⟩ (fun i σ H' _ h => sqT (h.1 _ _ ha)) ?_ ?_
    · rintro i x σ H' hx ⟨sm, ⟨ks, hk, nd, hm⟩, x3, x4, x5, x6, rfl⟩
      obtain ⟨r, hr', vr⟩ := mapR_get hvs hx
      have okr := ok r (List.mem_of_getElem? hr')
      have hp1 : 0 < r.1 := by have := okr.p1; omega
      have hc1 : 0 ≤ r.2.2 := by have := okr.c1; omega
      have et : pol.take (i + 1) = pol.take i ++ [r] := take_succ' hr'
      intro S hS
      have nSD : D ≠ S := by obtain ⟨kvs, z, _⟩ := hk; exact ne_of_none z hS
      have s2 := sm.trans (Same.upd (o := .dK []) hS)
      refine ⟨_, rfl, b, _, rfl, sqT (s2 _ _ hb), fun q hq => ?_⟩
      rw [← List.map_reverse]
      generalize hl : ns.reverse = l
      have hll : l.length < 64 := by rw [← hl, List.length_reverse]; exact hlen
      have hn : ∀ x, x ∈ newest r ns ↔ x ∈ (nrun r l).1 := fun x => by rw [mem_newest, hl]
      have s3 := s2.trans (Same.upd (o := .tup (l.map V.int)) hq)
      have sq : Same (upd H' S (.dK [])) (upd (upd H' S (.dK [])) q (.tup (l.map V.int))) := Same.upd hq
      refine ⟨q, rfl, ⟨_, sqT upd_same⟩, ?_⟩
      have kS : DKeys (upd (upd H' S (.dK [])) q (.tup (l.map V.int))) S [] := ⟨[], sq _ _ upd_same, rfl⟩
      have kD : DKeys (upd (upd H' S (.dK [])) q (.tup (l.map V.int))) D ks := by
        obtain ⟨kvs, z1, z2⟩ := hk
        exact ⟨kvs, sq _ _ (by rw [upd_ne nSD]; exact z1), z2⟩
      refine for_tup (xs := l.map V.int) (fun j σ H' => Same H H' ∧ H' q = some (.tup (l.map V.int)) ∧ DKeys H' S (nrun r (l.take j)).2 ∧ (∃ ks, DKeys H' D ks ∧ ks.Nodup ∧ ∀ x, x ∈ ks ↔ (∃ r ∈ pol.take i, x ∈ newest r ns) ∨ x ∈ (nrun r (l.take j)).1) ∧ ∃ x5 x6, σ = [some (.ref a), some (.ref b), some (.ref D), some x, some (.ref S), x5, x6])
        ⟨s3, upd_same, kS, ⟨ks, kD, nd, fun x => by rw [hm x]; simp [nrun]⟩, _, _, rfl⟩ (fun j σ H' _ h => sqT h.2.1) ?_ ?_
      · rintro j y σ H3 hy ⟨sm3, hq3, hS3, ⟨ks3, hk3, nd3, hm3⟩, x5, x6, rfl⟩
        obtain ⟨t, ht, rfl⟩ := map_get hy
        have nS : H S = none := by
          cases c : H S with
          | none => rfl
          | some o => rw [sm _ _ c] at hS; cases hS
        have hlt : j < l.length := (List.getElem?_eq_some_iff.mp ht).1
        have e2 := take_succ' ht
        have ls := len_seen r (l.take j)
        rw [List.length_take] at ls
        have sub : ∀ x, x ∈ ks3 → x ∈ ns := fun x h => by
          rcases (hm3 x).mp h with ⟨r', _, h⟩ | h
          · exact newest_sub h
          · have := found_sub r _ _ h
            rw [← List.mem_reverse, hl]
            exact List.mem_of_mem_take this
        have l3 := len_sub nd3 sub
        have nD : H D = none := hD
        refine ⟨_, rfl, _, rfl, x, r, t, rfl, vr.mono (Tk.of sm3), okr, ?_⟩
        have fin : ∀ (H4 : Hp) (ks4 : List Int), Same H H4 → H4 q = some (.tup (l.map V.int)) → DKeys H4 S (nrun r (l.take j)).2 → DKeys H4 D ks4 → ks4.Nodup → (∀ x, x ∈ ks4 ↔ (∃ r ∈ pol.take i, x ∈ newest r ns) ∨ x ∈ (nrun r (l.take (j + 1))).1) →
            ∃ v, ([some (V.ref a), some (.ref b), some (.ref D), some x, some (.ref S), some (.int t), some (.int (bk r t))] : L2.St)[4]? = some (some v) ∧ ∃ v', ([some (V.ref a), some (.ref b), some (.ref D), some x, some (.ref S), some (.int t), some (.int (bk r t))] : L2.St)[6]? = some (some v') ∧ ∃ a' H5, v = .ref a' ∧ DPut H4 a' v' (.bl true) H5 ∧
              Same H H5 ∧ H5 q = some (.tup (l.map V.int)) ∧ DKeys H5 S (nrun r (l.take (j + 1))).2 ∧ (∃ ks, DKeys H5 D ks ∧ ks.Nodup ∧ ∀ x, x ∈ ks ↔ (∃ r ∈ pol.take i, x ∈ newest r ns) ∨ x ∈ (nrun r (l.take (j + 1))).1) ∧ ∃ x5 x6, ([some (V.ref a), some (.ref b), some (.ref D), some x, some (.ref S), some (.int t), some (.int (bk r t))] : L2.St) = [some (.ref a), some (.ref b), some (.ref D), some x, some (.ref S), x5, x6] := fun H4 ks4 a1 a2 a3 a4 a5 a6 => by
          obtain ⟨H5, p5, k5, e5, t5⟩ := a3.put (t := bk r t) (v := .bl true) (by omega)
          refine ⟨_, rfl, _, rfl, S, H5, rfl, p5, fun c o e => ?_, t5 _ _ a2, ?_, ⟨ks4, a4.s (e5 D nSD), a5, a6⟩, _, _, rfl⟩
          · rw [e5 c (ne_of_none e nS)]
            exact a1 _ _ e
          · rw [e2, nrun_snoc, nst_seen]
            exact k5
        obtain ⟨o, go, eo⟩ := hS3.get (t := bk r t)
        refine ⟨_, rfl, _, rfl, S, o, rfl, go, _, rfl, ?_⟩
        rw [eo]
        have found : (nrun r (l.take (j + 1))).1 = if bk r t ∉ (nrun r (l.take j)).2 ∧ (((nrun r (l.take j)).2.length : Nat) : Int) < r.2.2 then (nrun r (l.take j)).1 ++ [t] else (nrun r (l.take j)).1 := by
          rw [e2, nrun_snoc]
          rfl
        by_cases c1 : bk r t ∈ (nrun r (l.take j)).2
        · rw [decide_eq_true c1]
          exact fin H3 ks3 sm3 hq3 hS3 hk3 nd3 (by rw [found, if_neg (fun z => z.1 c1)]; exact hm3)
        · rw [decide_eq_false c1]
          obtain ⟨kvS, hkS, hlS⟩ := hS3.len
          obtain ⟨ar, rfl, har⟩ := vr
          refine ⟨_, rfl, S, kvS, rfl, hkS, _, rfl, ar, _, _, _, rfl, rfl, sqT (sm3 _ _ har), at2, _, _, rfl, rfl, _, rfl, ?_⟩
          rw [hlS]
          by_cases c2 : (((nrun r (l.take j)).2.length : Nat) : Int) < r.2.2
          · rw [decide_eq_true c2]
            obtain ⟨H4, p4, k4, e4, t4⟩ := hk3.put (t := t) (v := .bl true) (by omega)
            refine ⟨_, rfl, _, rfl, D, H4, rfl, p4, fin H4 _ (fun c o e => ?_) (t4 _ _ hq3) (hS3.s (e4 S nSD.symm)) k4 (nodup_insN nd3) (fun x => ?_)⟩
            · rw [e4 c (ne_of_none e nD)]
              exact sm3 _ _ e
            · rw [mem_insN, hm3 x, found, if_pos ⟨c1, c2⟩, List.mem_append, List.mem_singleton, or_assoc]
          · rw [decide_eq_false c2]
            exact fin H3 ks3 sm3 hq3 hS3 hk3 nd3 (by rw [found, if_neg (fun z => c2 z.2)]; exact hm3)
      · rintro σ H3 ⟨sm3, hq3, hS3, ⟨ks3, hk3, nd3, hm3⟩, x5, x6, rfl⟩
        rw [List.length_map, List.take_length] at hm3
        refine ⟨sm3, ⟨ks3, hk3, nd3, fun x => ?_⟩, _, _, _, _, rfl⟩
        rw [hm3 x, et]
        constructor
        · rintro (⟨r', h1, h2⟩ | h)
          · exact ⟨r', List.mem_append_left _ h1, h2⟩
          · exact ⟨r, List.mem_append_right _ (List.mem_singleton.mpr rfl), (hn x).mpr h⟩
        · rintro ⟨r', h1, h2⟩
          rcases List.mem_append.mp h1 with h1 | h1
          · exact .inl ⟨r', h1, h2⟩
          · rw [List.mem_singleton.mp h1] at h2
            exact .inr ((hn x).mp h2)
    · rintro σ H' ⟨sm, ⟨ks, ⟨kvs, z1, z2⟩, nd, hm⟩, x3, x4, x5, x6, rfl⟩
      rw [lvs, List.take_length] at hm
      have sub : ∀ x, x ∈ ks → x ∈ ns := fun x h => by
        obtain ⟨r', _, h⟩ := (hm x).mp h
        exact newest_sub h
      have l3 := len_sub nd sub
      refine ⟨_, rfl, D, kvs, ks, rfl, .inl z1, z2, by omega, fun ys p hp hs hn => ?_⟩
      have ha : Asc ys := asc_of hs (hp.nodup_iff.mpr nd)
      have ey : ys = pru pol ns := pru_of ha fun x => by rw [hp.mem_iff, hm x]
      exact rdT upd_same (by rw [ey]) (sm.trans (Same.upd hn)) hQ
end
end K19

set_option Elab.async false
set_option linter.all false
set_option maxRecDepth 100000
set_option maxHeartbeats 4000000
/-! the law's equality of data -/
namespace K19
open PySem PySem.Spec PyProof.Rows L2
section
variable {P : Program} {w : World} {K : PySem.W.Frag} {mg : Str → Option Value} {base : Heap}
/-- data that the law compares: at most n deep -/
def EqOk : Nat → PyData → Prop
  | _, .none => True
  | _, .int _ => True
  | _, .str _ => True
  | n + 1, .list ds => ds.length ≤ 1000 ∧ ∀ d ∈ ds, EqOk n d
  | n + 1, .tuple ds => ds.length ≤ 1000 ∧ ∀ d ∈ ds, EqOk n d
  | _, _ => False
def spEqual (K : PySem.W.Frag) (n : Nat) : Sp := fun vs H Q _ => ∃ v u d, vs = [v, u] ∧ Dp K H v d ∧ Dp K H u d ∧ EqOk n d ∧ ∀ H', Same H H' → Q (.bl true) H'
theorem walk_enumT {a : Addr} {xs : List V} : Walk (IteT K a) xs.length (fun H => SqT K H a xs) (YPair (fun i => some (.int (i : Nat))) (fun i => xs[i]?)) := by
  refine ⟨fun i _ hi q => ⟨xs, xs[i], q, by simp [hi]⟩, fun _ q => ⟨xs, q, rfl⟩, fun i H v H' _ q y => ?_⟩
  obtain ⟨T, x, h1, h2, h3, h4⟩ := y
  exact ⟨T, .int (i : Nat), x, h1, h2, h3, rfl, h4 xs q⟩
theorem sc_LawEqual : FnScope ["_law_value", "_law_expected", "_law_k", "_law_part"] ["_law_value", "_law_expected"] (defScope sLawEqual) := ⟨rfl, rfl, rfl, by decide +kernel, rfl, by decide +kernel, by decide +kernel⟩
theorem step_LawEqual (T : Tx K mg) {n : Nat} {spP : Sp} (d_law_equal : Does P w K mg base CX0 (n + 1) (AG K "_law_equal") ["_law_value", "_law_expected"] spP) (hsp : ∀ m, n = m + 1 → spP = spEqual K m) : Does P w K mg base CX0 (n + 2) (AG K "_law_equal") ["_law_value", "_law_expected"] (spEqual K n) := by
  obtain ⟨fd, F0⟩ := T.def_ dLawEqual (List.mem_of_getElem? (i := 18) rfl)
  have F : FunD K "_law_equal" "_law_equal" (defArgs sLawEqual) (defBody sLawEqual) (defScope sLawEqual) [] [] (AG K "_law_equal") fd := F0
  have d_law_kind := do_LawKind (P := P) (w := w) (base := base) T
  refine ⟨fd, F.ok sc_LawEqual (fun vs H Q E h => ?len) (fun cdv A outer s H vs Q E hr h => ⟨_, PSs.nox (pss_cons (ps_if (pt_cmpR op_ne (pf d_law_kind (hr.mono (by omega)) (T.glo "_law_kind" (by decide +kernel)) (pa_cons (pv 0) pa_nil)) (pf d_law_kind (hr.mono (by omega)) (T.glo "_law_kind" (by decide +kernel)) (pa_cons (pv 1) pa_nil)) (nomark _))
        (pss_one (ps_ret (pe_bl)))
        pss_nil)
      (pss_cons (ps_if (PW.pt (pw_and (pt_cmpR op_gt (pf d_law_kind (hr.mono (by omega)) (T.glo "_law_kind" (by decide +kernel)) (pa_cons (pv 0) pa_nil)) (pe_int) (nomark _)) (pw_and1 (pt_cmpR op_lt (pf d_law_kind (hr.mono (by omega)) (T.glo "_law_kind" (by decide +kernel)) (pa_cons (pv 0) pa_nil)) (pe_int) (nomark _)))))
        (pss_cons (ps_if (pt_cmpR op_ne (pe_callB call_len_seq rfl (T.free "len" (by decide +kernel)) (by decide +kernel) (pa_cons (pv 0) pa_nil)) (pe_callB call_len_seq rfl (T.free "len" (by decide +kernel)) (by decide +kernel) (pa_cons (pv 1) pa_nil)) (nomark _))
          (pss_one (ps_ret (pe_bl)))
          pss_nil)
        (pss_one (ps_ret (pe_cmpR (op_eqD hr.units) (pe_lc (own := [("_law_k", 2), ("_law_part", 3)]) rfl sc_LawEqual.nd (pi_enumA rfl (T.free "enumerate" (by decide +kernel)) (pa_cons (pv 0) pa_nil)) (blkOk_by (N := ["_law_value", "_law_expected", "_law_k", "_law_part"]) (sc := defScope sLawEqual) (by decide +kernel)) (fun _ _ _ _ _ => (show PG _ _ (gTup K 2 _) from pg_tup rfl (pgs_cons (pg_name (i := 2) sc_LawEqual.nd rfl (Or.inl rfl)) (pgs_cons (pg_name (i := 3) sc_LawEqual.nd rfl (Or.inl rfl)) pgs_nil)))) (fun _ _ _ _ _ => (pts_one (pt_not (pt_val (pf d_law_equal (hr.mono (by omega)) (T.glo "_law_equal" (by decide +kernel)) (pa_cons (pv 3) (pa_cons (pe_ix (r := rIx K) ix_seq (pv 1) (pv 2) (fun _ _ => rfl)) pa_nil))))))) (fun _ _ _ _ _ => (pv 2))) (pe_lst pa_nil) (nomark _)))))
        pss_nil)
      (pss_one (ps_ret (pe_cmpR op_eq (pv 0) (pv 1) (nomark _)))))), ?rd⟩), F.bindsN (fun _ _ _ _ _ _ us hl => match us, hl with | [_, _], _ => rfl), F.kp⟩
  case len => obtain ⟨v, u, d, rfl, _⟩ := h; rfl
  case rd =>
    obtain ⟨v, u, d, rfl, hv, hu, ok, hQ⟩ := h
    refine ⟨_, rfl, v, d, rfl, hv, _, rfl, u, d, rfl, hu, rfl, _, rfl, ?_⟩
    rw [decide_eq_true (rfl : V.int (kd d) = V.int (kd d))]
    refine ⟨_, rfl, v, d, rfl, hv, _, _, rfl, rfl, _, rfl, ?_⟩
    cases d with
    | none =>
      cases hv
      cases hu
      exact ⟨_, rfl, .non, .none, rfl, .non, _, _, rfl, rfl, _, rfl, _, rfl, _, rfl, rfl, hQ H (Same.refl _)⟩
    | int i =>
      cases hv
      cases hu
      refine ⟨_, rfl, _, rfl, rfl, ?_⟩
      rw [decide_eq_true rfl]
      exact hQ H (Same.refl _)
    | str z =>
      cases hv
      cases hu
      refine ⟨_, rfl, _, rfl, rfl, ?_⟩
      rw [decide_eq_true rfl]
      exact hQ H (Same.refl _)
    | bool b => cases n <;> exact ok.elim
    | dict kvs => cases n <;> exact ok.elim
    | list ds =>
      cases n with
      | zero => exact ok.elim
      | succ m =>
        cases hv with
        | lst g1 t1 =>
        rename_i a xs
        cases hu with
        | lst g2 t2 =>
        rename_i b ys
        obtain ⟨lds, oks⟩ := ok
        have l1 := dpAll_len t1
        have l2 := dpAll_len t2
        refine ⟨_, rfl, _, _, rfl, .lst g1 t1, _, _, rfl, rfl, _, rfl, ?_⟩
        refine ⟨_, rfl, a, xs, rfl, .inl g1, _, rfl, b, ys, rfl, .inl g2, rfl, _, rfl, ?_⟩
        rw [l1, l2, decide_eq_true (rfl : V.int (ds.length : Nat) = V.int (ds.length : Nat))]
        refine ⟨_, rfl, a, xs, rfl, .inl ⟨g1, ?_⟩⟩
        refine lc_itG walk_enum (fun i acc _ => acc = []) (by omega) (fun H' s => sqLs s g1) (fun _ _ _ _ _ h => h) rfl ?_ ?_
        · rintro i x acc H2 H3 N N0 hi sm hR ⟨T, x1, x2, rfl, hT, rfl, e1, e2⟩ hN hN0
          cases (Option.some.inj (show some (V.int (i : Nat)) = some x1 from e1))
          have e2 : xs[i]? = some x2 := e2
          obtain ⟨di, hdi, dp1⟩ := dpAll_get t1 e2
          obtain ⟨y, hy, dp2⟩ := dpAll_get' t2 hdi
          have s3 : Same H (upd H2 T (.tup [.int (i : Nat), x2])) := sm.trans (Same.upd hT)
          refine ⟨T, _, rfl, sqT upd_same, rfl, _, _, rfl, _, _, rfl, rfl, rfl, ?_⟩
          refine ⟨_, rfl, _, rfl, _, rfl, .inl ⟨b, ys, _, y, rfl, rfl, sqLs s3 g2, atI_nat hy, ?_⟩⟩
          rw [hsp m rfl]
          exact ⟨x2, y, di, rfl, dp_s s3 di _ dp1, dp_s s3 di _ dp2, oks di (List.mem_of_getElem? hdi), fun H4 s4 => ⟨true, rfl, hN0 _ ((Same.upd hT).trans s4) hR⟩⟩
        · intro acc H2 D sm hD hacc hR
          refine ⟨sz0, fun p np => ⟨.list [], .list [], .lst (sqL (Same.upd np _ _ (by rw [hacc, hR]))) .nil, .lst (sqL upd_same) .nil, by decide, by decide, ?_⟩⟩
          exact hQ _ (sm.trans (Same.upd np))
    | tuple ds =>
      cases n with
      | zero => exact ok.elim
      | succ m =>
        cases hv with
        | tup g1 t1 =>
        rename_i a xs
        cases hu with
        | tup g2 t2 =>
        rename_i b ys
        obtain ⟨lds, oks⟩ := ok
        have l1 := dpAll_len t1
        have l2 := dpAll_len t2
        refine ⟨_, rfl, _, _, rfl, .tup g1 t1, _, _, rfl, rfl, _, rfl, ?_⟩
        refine ⟨_, rfl, a, xs, rfl, .inr g1, _, rfl, b, ys, rfl, .inr g2, rfl, _, rfl, ?_⟩
        rw [l1, l2, decide_eq_true (rfl : V.int (ds.length : Nat) = V.int (ds.length : Nat))]
        refine ⟨_, rfl, a, xs, rfl, .inr ⟨g1, ?_⟩⟩
        refine lc_itG walk_enumT (fun i acc _ => acc = []) (by omega) (fun H' s => sqTs s g1) (fun _ _ _ _ _ h => h) rfl ?_ ?_
        · rintro i x acc H2 H3 N N0 hi sm hR ⟨T, x1, x2, rfl, hT, rfl, e1, e2⟩ hN hN0
          cases (Option.some.inj (show some (V.int (i : Nat)) = some x1 from e1))
          have e2 : xs[i]? = some x2 := e2
          obtain ⟨di, hdi, dp1⟩ := dpAll_get t1 e2
          obtain ⟨y, hy, dp2⟩ := dpAll_get' t2 hdi
          have s3 : Same H (upd H2 T (.tup [.int (i : Nat), x2])) := sm.trans (Same.upd hT)
          refine ⟨T, _, rfl, sqT upd_same, rfl, _, _, rfl, _, _, rfl, rfl, rfl, ?_⟩
          refine ⟨_, rfl, _, rfl, _, rfl, .inr (.inl ⟨b, ys, _, y, rfl, rfl, sqTs s3 g2, atI_nat hy, ?_⟩)⟩
          rw [hsp m rfl]
          exact ⟨x2, y, di, rfl, dp_s s3 di _ dp1, dp_s s3 di _ dp2, oks di (List.mem_of_getElem? hdi), fun H4 s4 => ⟨true, rfl, hN0 _ ((Same.upd hT).trans s4) hR⟩⟩
        · intro acc H2 D sm hD hacc hR
          refine ⟨sz0, fun p np => ⟨.list [], .list [], .lst (sqL (Same.upd np _ _ (by rw [hacc, hR]))) .nil, .lst (sqL upd_same) .nil, by decide, by decide, ?_⟩⟩
          exact hQ _ (sm.trans (Same.upd np))
theorem do_LawEqual (T : Tx K mg) : ∀ n, Does P w K mg base CX0 (n + 2) (AG K "_law_equal") ["_law_value", "_law_expected"] (spEqual K n)
  | 0 => step_LawEqual (spP := fun _ _ _ _ => False) T (by
      obtain ⟨fd, F0⟩ := T.def_ dLawEqual (List.mem_of_getElem? (i := 18) rfl)
      have F : FunD K "_law_equal" "_law_equal" (defArgs sLawEqual) (defBody sLawEqual) (defScope sLawEqual) [] [] (AG K "_law_equal") fd := F0
      exact ⟨fd, ⟨fun _ _ _ _ h => h.elim, fun _ _ _ _ _ _ _ _ _ _ _ _ _ h => h.elim⟩, F.bindsN (fun _ _ _ _ _ _ us hl => match us, hl with | [_, _], _ => rfl), F.kp⟩) (fun m h => absurd h (by omega))
  | n + 1 => step_LawEqual (spP := spEqual K n) T (do_LawEqual T n) (fun m h => by rw [show n = m by omega])
end
end K19

set_option Elab.async false
set_option linter.all false
set_option maxRecDepth 100000
set_option maxHeartbeats 4000000
/-! the law's own word on an error -/
namespace K19
open PySem PySem.Spec PyProof.Rows L2
section
variable {P : Program} {w : World} {K : PySem.W.Frag} {mg : Str → Option Value} {base : Heap}
def errS (o : Out) : Str := match o with
  | .error e => e ++ "+"
  | .ok _ => ""
theorem es1 : ("InvalidTime" : Str) ++ "+" = "InvalidTime+" := by decide +kernel
theorem es2 : ("AlreadyKnown" : Str) ++ "+" = "AlreadyKnown+" := by decide +kernel
theorem es3 : ("NotPresent" : Str) ++ "+" = "NotPresent+" := by decide +kernel
theorem es4 : ("AlreadyProtected" : Str) ++ "+" = "AlreadyProtected+" := by decide +kernel
theorem es5 : ("NotProtected" : Str) ++ "+" = "NotProtected+" := by decide +kernel
theorem es6 : ("ProtectedError" : Str) ++ "+" = "ProtectedError+" := by decide +kernel
theorem es7 : ("NothingToUndo" : Str) ++ "+" = "NothingToUndo+" := by decide +kernel
def spError (K : PySem.W.Frag) : Sp := fun vs H Q _ => ∃ (l : Addr) (pol : List Rule) (hist : List S4) (cur : S4) (wd : Wd) (v : V) (vs' : List V), vs = [.ref l, .str wd.name, v] ∧ H l = some (.lst vs') ∧ Paired (VSt H) vs' (hist ++ [cur]) ∧ TimeV v ∧
  ∀ H', Same H H' → Q (.str (errS (step pol hist cur wd v))) H'
theorem pow12 : (10 : Int) ^ (12 : Int).toNat = 1000000000000 := by decide
theorem sc_LawError : FnScope ["_law_states", "_law_word", "_law_time", "_law_present", "_law_fixed", "_law_known", "_law_deleted"] ["_law_states", "_law_word", "_law_time"] (defScope sLawError) := ⟨rfl, rfl, rfl, by decide +kernel, rfl, by decide +kernel, by decide +kernel⟩
theorem do_LawError (T : Tx K mg) : Does P w K mg base CX0 2 (AG K "_law_error") ["_law_states", "_law_word", "_law_time"] (spError K) := by
  obtain ⟨fd, F0⟩ := T.def_ dLawError (List.mem_of_getElem? (i := 24) rfl)
  have F : FunD K "_law_error" "_law_error" (defArgs sLawError) (defBody sLawError) (defScope sLawError) [] [] (AG K "_law_error") fd := F0
  have d_law_is_int := do_LawIsInt (P := P) (w := w) (base := base) T
  refine ⟨fd, F.ok sc_LawError (fun vs H Q E h => ?len) (fun cdv A outer s H vs Q E hr h => ⟨_, PSs.nox (pss_cons (ps_asg (pe_ix ix_list (pv 0) (pe_un un_neg (pe_int)) (fun _ _ => rfl)) (pg_tup rfl (pgs_cons (pg_name (i := 3) sc_LawError.nd rfl (Or.inl rfl)) (pgs_cons (pg_name (i := 4) sc_LawError.nd rfl (Or.inl rfl)) (pgs_cons (pg_name (i := 5) sc_LawError.nd rfl (Or.inl rfl)) (pgs_cons (pg_name (i := 6) sc_LawError.nd rfl (Or.inl rfl)) pgs_nil))))))
      (pss_cons (ps_if (pt_cmpR op_in_seq (pv 1) (pe_tup (pa_cons (pe_str) (pa_cons (pe_str) pa_nil))) (by with_unfolding_all rfl))
        (pss_one (ps_ret (pe_ifExp (PW.pt (pw_and (pt_cmpR op_eq (pv 1) (pe_str) (nomark _)) (pw_and1 (pt_cmpR op_eq (pe_callB call_len_seq rfl (T.free "len" (by decide +kernel)) (by decide +kernel) (pa_cons (pv 0) pa_nil)) (pe_int) (nomark _))))) (pe_str) (pe_str))))
        pss_nil)
      (pss_cons (ps_if (PW.pt (pw_or (pt_not (pt_val (pf d_law_is_int (hr.mono (by decide)) (T.glo "_law_is_int" (by decide +kernel)) (pa_cons (pv 2) pa_nil)))) (pw_or1 (pt_not (pt_chain op_le op_le (pe_int) (pv 2) (pe_op op_pow (pe_int) (pe_int)))))))
        (pss_one (ps_ret (pe_str)))
        pss_nil)
      (pss_cons (ps_if (pt_cmpR op_eq (pv 1) (pe_str) (nomark _))
        (pss_one (ps_ret (pe_ifExp (pt_cmpR op_in_seq (pv 2) (pv 5) rfl) (pe_str) (pe_str))))
        pss_nil)
      (pss_cons (ps_if (pt_cmpR op_notIn_seq (pv 2) (pv 3) rfl)
        (pss_one (ps_ret (pe_str)))
        pss_nil)
      (pss_cons (ps_if (pt_cmpR op_eq (pv 1) (pe_str) (nomark _))
        (pss_one (ps_ret (pe_ifExp (pt_cmpR op_in_seq (pv 2) (pv 4) rfl) (pe_str) (pe_str))))
        pss_nil)
      (pss_cons (ps_if (pt_cmpR op_in_seq (pv 2) (pv 4) rfl)
        (pss_one (ps_ret (pe_ifExp (pt_cmpR op_eq (pv 1) (pe_str) (nomark _)) (pe_str) (pe_str))))
        pss_nil)
      (pss_one (ps_ret (pe_str)))))))))), ?rd⟩), F.bindsN (fun _ _ _ _ _ _ us hl => match us, hl with | [_, _, _], _ => rfl), F.kp⟩
  case len => obtain ⟨l, pol, hist, cur, wd, v, vs', rfl, _⟩ := h; rfl
  case rd =>
    obtain ⟨l, pol, hist, cur, wd, v, vs', rfl, hl, hp, tv, hQ⟩ := h
    obtain ⟨vs0, y, rfl, hp0, a, v1, v2, v3, v4, rfl, ha, ⟨a1, rfl, h1⟩, ⟨a2, rfl, h2⟩, ⟨a3, rfl, h3⟩, h4⟩ := paired_concat hp
    have lp0 : vs0.length = hist.length := hp0.length
    refine ⟨_, rfl, _, rfl, l, _, _, _, rfl, rfl, sqL hl, atI_last _ _, a, _, rfl, sqT ha, rfl, _, _, rfl, _, _, rfl, _, _, rfl, _, _, rfl, rfl, ?_⟩
    refine ⟨_, rfl, sz_le (n := 2) (by decide), fun q hq => ?_⟩
    have sq := Same.upd (o := .tup [.str "prune", .str "undo"]) hq
    refine ⟨q, _, rfl, .inr (sqT upd_same), rfl, rfl, ?_⟩
    generalize hH : upd H q (.tup [.str "prune", .str "undo"]) = G at sq
    have k1 := sq _ _ h1
    have k2 := sq _ _ h2
    have k3 := sq _ _ h3
    have hQ' : Q (.str (errS (step pol hist cur wd v))) G := hQ G sq
    have hl' := sq _ _ hl
    cases wd with
    | prune =>
      show ∃ k, V.bl (inV (.str "prune") [.str "prune", .str "undo"]) = .bl k ∧ _
      rw [show inV (.str "prune") [.str "prune", .str "undo"] = true by decide +kernel]
      refine ⟨true, rfl, _, rfl, rfl, _, rfl, ?_⟩
      rw [show decide (V.str (Wd.name .prune) = V.str "undo") = false by decide +kernel]
      exact hQ'
    | undo =>
      show ∃ k, V.bl (inV (.str "undo") [.str "prune", .str "undo"]) = .bl k ∧ _
      rw [show inV (.str "undo") [.str "prune", .str "undo"] = true by decide +kernel]
      refine ⟨true, rfl, _, rfl, rfl, _, rfl, ?_⟩
      rw [show decide (V.str (Wd.name .undo) = V.str "undo") = true by decide +kernel]
      refine ⟨_, rfl, l, _, rfl, .inl (sqL hl'), rfl, _, rfl, ?_⟩
      rw [List.length_append, lp0]
      rcases List.eq_nil_or_concat hist with e | ⟨hs, s, e⟩
      · subst e
        simp only [step, List.getLast?_nil, errS, es7] at hQ'
        exact hQ'
      · rw [List.concat_eq_append] at e
        subst e
        simp only [step, List.getLast?_append, List.getLast?_singleton, Option.some_or, errS] at hQ'
        rw [show decide (V.int (((hs ++ [s]).length + [V.ref a].length : Nat) : Int) = V.int 1) = false from decide_eq_false fun z => by
          have z := V.int.inj z
          rw [List.length_append] at z
          simp only [List.length_cons, List.length_nil] at z
          omega]
        exact hQ'
    | add =>
      show ∃ k, V.bl (inV (.str "add") [.str "prune", .str "undo"]) = .bl k ∧ _
      rw [show inV (.str "add") [.str "prune", .str "undo"] = false by decide +kernel]
      refine ⟨false, rfl, _, rfl, v, rfl, tv, ?_⟩
      cases tv with
      | non => exact ⟨false, rfl, by simp only [step, tval, errS, es1] at hQ'; exact hQ'⟩
      | bl b => exact ⟨false, rfl, by simp only [step, tval, errS, es1] at hQ'; exact hQ'⟩
      | int i =>
      refine ⟨true, rfl, _, rfl, _, _, rfl, rfl, _, rfl, ?_⟩
      by_cases c0 : (0 : Int) ≤ i
      rotate_left
      · rw [decide_eq_false c0]
        have e : tval (.int i) = none := by show (if 0 ≤ i ∧ i ≤ 1000000000000 then some i else none) = none; rw [if_neg (fun z => c0 z.1)]
        simp only [step, e, errS, es1] at hQ'
        exact ⟨false, rfl, hQ'⟩
      rw [decide_eq_true c0]
      refine ⟨_, _, rfl, rfl, ⟨by decide, by decide, by decide⟩, _, _, rfl, rfl, _, rfl, ?_⟩
      rw [pow12]
      by_cases c1 : i ≤ 1000000000000
      rotate_left
      · rw [decide_eq_false c1]
        have e : tval (.int i) = none := by show (if 0 ≤ i ∧ i ≤ 1000000000000 then some i else none) = none; rw [if_neg (fun z => c1 z.2)]
        simp only [step, e, errS, es1] at hQ'
        exact hQ'
      rw [decide_eq_true c1]
      have e : tval (.int i) = some i := by show (if 0 ≤ i ∧ i ≤ 1000000000000 then some i else none) = some i; rw [if_pos ⟨c0, c1⟩]
      simp only [step, e] at hQ'
      refine ⟨_, rfl, rfl, _, rfl, ?_⟩
      rw [show decide (V.str (Wd.name .add) = V.str "add") = true by decide +kernel]
      refine ⟨_, rfl, _, rfl, a3, _, rfl, .inr (sqT k3), rfl, flat_ints _, _, rfl, ?_⟩
      show if inV (.int i) (cur.k.map V.int) = true then _ else _
      rw [inV_int]
      by_cases m : i ∈ cur.k
      · rw [cont_t m]
        simp only [if_pos m, errS, es2] at hQ'
        exact hQ'
      · rw [cont_f m]
        simp only [if_neg m, errS] at hQ'
        exact hQ'
    | protect =>
      show ∃ k, V.bl (inV (.str "protect") [.str "prune", .str "undo"]) = .bl k ∧ _
      rw [show inV (.str "protect") [.str "prune", .str "undo"] = false by decide +kernel]
      refine ⟨false, rfl, _, rfl, v, rfl, tv, ?_⟩
      cases tv with
      | non => exact ⟨false, rfl, by simp only [step, tval, errS, es1] at hQ'; exact hQ'⟩
      | bl b => exact ⟨false, rfl, by simp only [step, tval, errS, es1] at hQ'; exact hQ'⟩
      | int i =>
      refine ⟨true, rfl, _, rfl, _, _, rfl, rfl, _, rfl, ?_⟩
      by_cases c0 : (0 : Int) ≤ i
      rotate_left
      · rw [decide_eq_false c0]
        have e : tval (.int i) = none := by show (if 0 ≤ i ∧ i ≤ 1000000000000 then some i else none) = none; rw [if_neg (fun z => c0 z.1)]
        simp only [step, e, errS, es1] at hQ'
        exact ⟨false, rfl, hQ'⟩
      rw [decide_eq_true c0]
      refine ⟨_, _, rfl, rfl, ⟨by decide, by decide, by decide⟩, _, _, rfl, rfl, _, rfl, ?_⟩
      rw [pow12]
      by_cases c1 : i ≤ 1000000000000
      rotate_left
      · rw [decide_eq_false c1]
        have e : tval (.int i) = none := by show (if 0 ≤ i ∧ i ≤ 1000000000000 then some i else none) = none; rw [if_neg (fun z => c1 z.2)]
        simp only [step, e, errS, es1] at hQ'
        exact hQ'
      rw [decide_eq_true c1]
      have e : tval (.int i) = some i := by show (if 0 ≤ i ∧ i ≤ 1000000000000 then some i else none) = some i; rw [if_pos ⟨c0, c1⟩]
      simp only [step, e] at hQ'
      refine ⟨_, rfl, rfl, _, rfl, ?_⟩
      rw [show decide (V.str (Wd.name .protect) = V.str "add") = false by decide +kernel]
      refine ⟨_, rfl, _, rfl, a1, _, rfl, .inr (sqT k1), rfl, flat_ints _, _, rfl, ?_⟩
      show if (!inV (.int i) (cur.p.map V.int)) = true then _ else _
      rw [inV_int]
      by_cases mp : i ∈ cur.p
      rotate_left
      · rw [cont_f mp]
        simp only [if_pos mp, errS, es3] at hQ'
        exact hQ'
      rw [cont_t mp]
      simp only [if_neg (fun z : ¬ i ∈ cur.p => z mp)] at hQ'
      refine ⟨_, rfl, rfl, _, rfl, ?_⟩
      rw [show decide (V.str (Wd.name .protect) = V.str "release") = false by decide +kernel]
      refine ⟨_, rfl, _, rfl, a2, _, rfl, .inr (sqT k2), rfl, flat_ints _, _, rfl, ?_⟩
      show if inV (.int i) (cur.f.map V.int) = true then _ else _
      rw [inV_int]
      by_cases m : i ∈ cur.f
      · rw [cont_t m]
        simp only [if_pos m, errS, es4] at hQ'
        refine ⟨_, rfl, rfl, _, rfl, ?_⟩
        rw [show decide (V.str (Wd.name .protect) = V.str "protect") = true by decide +kernel]
        exact hQ'
      · rw [cont_f m]
        simp only [if_neg m, errS] at hQ'
        exact hQ'
    | release =>
      show ∃ k, V.bl (inV (.str "release") [.str "prune", .str "undo"]) = .bl k ∧ _
      rw [show inV (.str "release") [.str "prune", .str "undo"] = false by decide +kernel]
      refine ⟨false, rfl, _, rfl, v, rfl, tv, ?_⟩
      cases tv with
      | non => exact ⟨false, rfl, by simp only [step, tval, errS, es1] at hQ'; exact hQ'⟩
      | bl b => exact ⟨false, rfl, by simp only [step, tval, errS, es1] at hQ'; exact hQ'⟩
      | int i =>
      refine ⟨true, rfl, _, rfl, _, _, rfl, rfl, _, rfl, ?_⟩
      by_cases c0 : (0 : Int) ≤ i
      rotate_left
      · rw [decide_eq_false c0]
        have e : tval (.int i) = none := by show (if 0 ≤ i ∧ i ≤ 1000000000000 then some i else none) = none; rw [if_neg (fun z => c0 z.1)]
        simp only [step, e, errS, es1] at hQ'
        exact ⟨false, rfl, hQ'⟩
      rw [decide_eq_true c0]
      refine ⟨_, _, rfl, rfl, ⟨by decide, by decide, by decide⟩, _, _, rfl, rfl, _, rfl, ?_⟩
      rw [pow12]
      by_cases c1 : i ≤ 1000000000000
      rotate_left
      · rw [decide_eq_false c1]
        have e : tval (.int i) = none := by show (if 0 ≤ i ∧ i ≤ 1000000000000 then some i else none) = none; rw [if_neg (fun z => c1 z.2)]
        simp only [step, e, errS, es1] at hQ'
        exact hQ'
      rw [decide_eq_true c1]
      have e : tval (.int i) = some i := by show (if 0 ≤ i ∧ i ≤ 1000000000000 then some i else none) = some i; rw [if_pos ⟨c0, c1⟩]
      simp only [step, e] at hQ'
      refine ⟨_, rfl, rfl, _, rfl, ?_⟩
      rw [show decide (V.str (Wd.name .release) = V.str "add") = false by decide +kernel]
      refine ⟨_, rfl, _, rfl, a1, _, rfl, .inr (sqT k1), rfl, flat_ints _, _, rfl, ?_⟩
      show if (!inV (.int i) (cur.p.map V.int)) = true then _ else _
      rw [inV_int]
      by_cases mp : i ∈ cur.p
      rotate_left
      · rw [cont_f mp]
        simp only [if_pos mp, errS, es3] at hQ'
        exact hQ'
      rw [cont_t mp]
      simp only [if_neg (fun z : ¬ i ∈ cur.p => z mp)] at hQ'
      refine ⟨_, rfl, rfl, _, rfl, ?_⟩
      rw [show decide (V.str (Wd.name .release) = V.str "release") = true by decide +kernel]
      refine ⟨_, rfl, _, rfl, a2, _, rfl, .inr (sqT k2), rfl, flat_ints _, _, rfl, ?_⟩
      show if inV (.int i) (cur.f.map V.int) = true then _ else _
      rw [inV_int]
      by_cases m : i ∈ cur.f
      · rw [cont_t m]
        simp only [if_neg (fun z : ¬ i ∈ cur.f => z m), errS] at hQ'
        exact hQ'
      · rw [cont_f m]
        simp only [if_pos m, errS, es5] at hQ'
        exact hQ'
    | delete =>
      show ∃ k, V.bl (inV (.str "delete") [.str "prune", .str "undo"]) = .bl k ∧ _
      rw [show inV (.str "delete") [.str "prune", .str "undo"] = false by decide +kernel]
      refine ⟨false, rfl, _, rfl, v, rfl, tv, ?_⟩
      cases tv with
      | non => exact ⟨false, rfl, by simp only [step, tval, errS, es1] at hQ'; exact hQ'⟩
      | bl b => exact ⟨false, rfl, by simp only [step, tval, errS, es1] at hQ'; exact hQ'⟩
      | int i =>
      refine ⟨true, rfl, _, rfl, _, _, rfl, rfl, _, rfl, ?_⟩
      by_cases c0 : (0 : Int) ≤ i
      rotate_left
      · rw [decide_eq_false c0]
        have e : tval (.int i) = none := by show (if 0 ≤ i ∧ i ≤ 1000000000000 then some i else none) = none; rw [if_neg (fun z => c0 z.1)]
        simp only [step, e, errS, es1] at hQ'
        exact ⟨false, rfl, hQ'⟩
      rw [decide_eq_true c0]
      refine ⟨_, _, rfl, rfl, ⟨by decide, by decide, by decide⟩, _, _, rfl, rfl, _, rfl, ?_⟩
      rw [pow12]
      by_cases c1 : i ≤ 1000000000000
      rotate_left
      · rw [decide_eq_false c1]
        have e : tval (.int i) = none := by show (if 0 ≤ i ∧ i ≤ 1000000000000 then some i else none) = none; rw [if_neg (fun z => c1 z.2)]
        simp only [step, e, errS, es1] at hQ'
        exact hQ'
      rw [decide_eq_true c1]
      have e : tval (.int i) = some i := by show (if 0 ≤ i ∧ i ≤ 1000000000000 then some i else none) = some i; rw [if_pos ⟨c0, c1⟩]
      simp only [step, e] at hQ'
      refine ⟨_, rfl, rfl, _, rfl, ?_⟩
      rw [show decide (V.str (Wd.name .delete) = V.str "add") = false by decide +kernel]
      refine ⟨_, rfl, _, rfl, a1, _, rfl, .inr (sqT k1), rfl, flat_ints _, _, rfl, ?_⟩
      show if (!inV (.int i) (cur.p.map V.int)) = true then _ else _
      rw [inV_int]
      by_cases mp : i ∈ cur.p
      rotate_left
      · rw [cont_f mp]
        simp only [if_pos mp, errS, es3] at hQ'
        exact hQ'
      rw [cont_t mp]
      simp only [if_neg (fun z : ¬ i ∈ cur.p => z mp)] at hQ'
      refine ⟨_, rfl, rfl, _, rfl, ?_⟩
      rw [show decide (V.str (Wd.name .delete) = V.str "release") = false by decide +kernel]
      refine ⟨_, rfl, _, rfl, a2, _, rfl, .inr (sqT k2), rfl, flat_ints _, _, rfl, ?_⟩
      show if inV (.int i) (cur.f.map V.int) = true then _ else _
      rw [inV_int]
      by_cases m : i ∈ cur.f
      · rw [cont_t m]
        simp only [if_pos m, errS, es6] at hQ'
        refine ⟨_, rfl, rfl, _, rfl, ?_⟩
        rw [show decide (V.str (Wd.name .delete) = V.str "protect") = false by decide +kernel]
        exact hQ'
      · rw [cont_f m]
        simp only [if_neg m, errS] at hQ'
        exact hQ'
end
end K19

set_option Elab.async false
set_option linter.all false
set_option maxRecDepth 100000
set_option maxHeartbeats 4000000
/-! the law's choice of a policy -/
namespace K19
open PySem PySem.Spec PyProof.Rows L2
/-! ### a dict by pairs of ints -/
theorem pairK_inj {a b : Int × Int} (h : pairK a = pairK b) : a = b := by
  obtain ⟨a1, a2⟩ := a
  obtain ⟨b1, b2⟩ := b
  unfold pairK at h
  injection h with h1 h2
  injection h2 with h2 _
  cases h1
  cases h2
  rfl
abbrev pk (e : (Int × Int) × V) : List Key × V := (pairK e.1, e.2)
theorem pk_eq {a b : Int × Int} : decide (pairK a = pairK b) = decide (a = b) := decide_eq_decide.mpr ⟨pairK_inj, fun h => by rw [h]⟩
theorem putK_pk {kvs : List ((Int × Int) × V)} {k : Int × Int} {v : V} : putK (kvs.map pk) (pairK k) v = (putK kvs k v).map pk := by
  unfold putK
  have e : ((kvs.map pk).any fun kv => decide (kv.1 = pairK k)) = kvs.any fun kv => decide (kv.1 = k) := by
    rw [List.any_map]
    congr 1
    funext x
    exact pk_eq
  rw [e]
  split
  · rw [List.map_map, List.map_map]
    refine List.map_congr_left fun x _ => ?_
    show (if pairK x.1 = pairK k then (pairK x.1, v) else pk x) = pk (if x.1 = k then (x.1, v) else x)
    by_cases c : x.1 = k
    · rw [if_pos c, if_pos (by rw [c])]
    · rw [if_neg c, if_neg (fun z => c (pairK_inj z))]
  · rw [List.map_append]
    rfl
theorem valV_pk {kvs : List ((Int × Int) × V)} {k : Int × Int} : valV (kvs.map pk) (pairK k) = valV kvs k := by
  unfold valV
  rw [List.find?_map, Option.map_map]
  have e : ((fun kv : List Key × V => decide (kv.1 = pairK k)) ∘ pk) = fun kv => decide (kv.1 = k) := by
    funext x
    exact pk_eq
  rw [e]
  rfl
theorem valV_in {kvs : List ((Int × Int) × V)} {k : Int × Int} (h : k ∈ kvs.map (·.1)) : ∃ v, valV kvs k = some v ∧ (k, v) ∈ kvs := by
  unfold valV
  cases c : kvs.find? fun kv => decide (kv.1 = k) with
  | none =>
    obtain ⟨e, he, rfl⟩ := List.mem_map.mp h
    have := List.find?_eq_none.mp c e he
    simp at this
  | some e =>
    have h1 := List.find?_some c
    have h2 := List.mem_of_find?_eq_some c
    have h1 : e.1 = k := by simpa using h1
    subst h1
    exact ⟨e.2, rfl, h2⟩
theorem putK_keys {kvs : List ((Int × Int) × V)} {k : Int × Int} {v : V} : (putK kvs k v).map (·.1) = if k ∈ kvs.map (·.1) then kvs.map (·.1) else kvs.map (·.1) ++ [k] := by
  unfold putK
  have e : (kvs.any fun kv => decide (kv.1 = k)) = true ↔ k ∈ kvs.map (·.1) := by
    rw [List.any_eq_true]
    constructor
    · rintro ⟨x, hx, q⟩
      have q : x.1 = k := of_decide_eq_true q
      rw [← q]
      exact List.mem_map_of_mem hx
    · intro h
      obtain ⟨x, hx, rfl⟩ := List.mem_map.mp h
      exact ⟨x, hx, decide_eq_true rfl⟩
  by_cases c : k ∈ kvs.map (·.1)
  · rw [if_pos (e.mpr c), if_pos c, List.map_map]
    refine List.map_congr_left fun x _ => ?_
    show (if x.1 = k then (x.1, v) else x).1 = x.1
    split <;> rfl
  · rw [if_neg (fun z => c (e.mp z)), if_neg c, List.map_append]
    rfl
theorem putK_ent {kvs : List ((Int × Int) × V)} {k : Int × Int} {v : V} {e : (Int × Int) × V} (h : e ∈ putK kvs k v) : e = (k, v) ∨ e ∈ kvs := by
  unfold putK at h
  split at h
  · obtain ⟨x, hx, q⟩ := List.mem_map.mp h
    by_cases c : x.1 = k
    · rw [if_pos c] at q
      rw [← q, c]
      exact .inl rfl
    · rw [if_neg c] at q
      rw [← q]
      exact .inr hx
  · rcases List.mem_append.mp h with h | h
    · exact .inr h
    · exact .inl (List.mem_singleton.mp h)
theorem putK_l {kvs : List ((Int × Int) × V)} {k : Int × Int} {v : V} : (putK kvs k v).length ≤ kvs.length + 1 ∧ 1 ≤ (putK kvs k v).length := by
  have e := congrArg List.length (putK_keys (kvs := kvs) (k := k) (v := v))
  rw [List.length_map] at e
  rw [e]
  split
  · rename_i h
    rw [List.length_map]
    have := List.length_pos_of_mem h
    rw [List.length_map] at this
    omega
  · rw [List.length_append, List.length_map, List.length_singleton]
    omega
theorem sh_of {x y : Int × Int} (h : SrtO.lexB y x = false) (n : x ≠ y) : shLt x y := by
  have h2 : ¬ (y.1 < x.1 ∨ (y.1 = x.1 ∧ y.2 < x.2)) := fun z => by
    rw [SrtO.lexB_iff.mpr z] at h
    cases h
  unfold shLt
  by_cases c : x.1 = y.1
  · have : x.2 ≠ y.2 := fun z => n (Prod.ext c z)
    right
    exact ⟨c, by omega⟩
  · left
    omega
section
variable {P : Program} {w : World} {K : PySem.W.Frag} {mg : Str → Option Value} {base : Heap}
/-- an entry of the law's table of rules -/
def REnt (H : Hp) (e : (Int × Int) × V) : Prop := ∃ c, VRule H e.2 (e.1.1, e.1.2, c) ∧ RuleOk (e.1.1, e.1.2, c) ∧ c ≤ 4
theorem REnt.mono {H H' : Hp} {e : (Int × Int) × V} (h : REnt H e) (t : Tk H H') : REnt H' e := by
  obtain ⟨c, h1, h2⟩ := h
  exact ⟨c, h1.mono t, h2⟩
def spPolicyL : Sp := fun vs H Q _ => ∃ (s l : Addr) (k : Nat), vs = [.ref s, .ref l, .int 4] ∧ Src H s k ∧ k ≤ 100000 ∧ H l = some (.lst [.int 1, .int 2, .int 5, .int 20]) ∧ s ≠ l ∧
  ∀ H' v pol, Fr [s] H H' → Src H' s (k + 16) → VPol H' v pol → PolOk pol → (∀ r ∈ pol, r.2.2 ≤ 4) → Q v H'
theorem sc_LawPolicy : FnScope ["_law_source_here", "_law_periods", "_law_most", "_law_rules", "_law_turn", "_law_period", "_law_offset", "_law_shape"] ["_law_source_here", "_law_periods", "_law_most"] (defScope sLawPolicy) := ⟨rfl, rfl, rfl, by decide +kernel, rfl, by decide +kernel, by decide +kernel⟩
theorem do_LawPolicy (T : Tx K mg) : Does P w K mg base CX0 3 (AG K "_law_policy") ["_law_source_here", "_law_periods", "_law_most"] spPolicyL := by
  obtain ⟨fd, F0⟩ := T.def_ dLawPolicy (List.mem_of_getElem? (i := 19) rfl)
  have F : FunD K "_law_policy" "_law_policy" (defArgs sLawPolicy) (defBody sLawPolicy) (defScope sLawPolicy) [] [] (AG K "_law_policy") fd := F0
  have d_law_choice := do_LawChoice (P := P) (w := w) (base := base) T
  have d_law_draw := do_LawDraw (P := P) (w := w) (base := base) T
  refine ⟨fd, F.ok sc_LawPolicy (fun vs H Q E h => ?len) (fun cdv A outer s H vs Q E hr h => ⟨_, PSs.nox (pss_cons (ps_set (i := 3) sc_LawPolicy.nd rfl (Or.inr rfl) pe_dnewT)
      (pss_cons (ps_for PassesOwn.never rfl (pi_range1 rfl (T.free "range" (by decide +kernel)) (pa_cons (pe_op op_add (pe_int) (pf d_law_draw (hr.mono (by decide)) (T.glo "_law_draw" (by decide +kernel)) (pa_cons (pv 0) (pa_cons (pe_int) pa_nil)))) pa_nil)) (pg_name (i := 4) sc_LawPolicy.nd rfl (Or.inl rfl))
        (pss_cons (ps_set (i := 5) sc_LawPolicy.nd rfl (Or.inl rfl) (pf d_law_choice (hr.mono (by decide)) (T.glo "_law_choice" (by decide +kernel)) (pa_cons (pv 0) (pa_cons (pe_op op_cat (pv 1) (pe_lst (pa_cons (pe_op op_add (pe_int) (pf d_law_draw (hr.mono (by decide)) (T.glo "_law_draw" (by decide +kernel)) (pa_cons (pv 0) (pa_cons (pe_ix ix_list (pv 1) (pe_un un_neg (pe_int)) (fun _ _ => rfl)) pa_nil)))) pa_nil))) pa_nil))))
        (pss_cons (ps_set (i := 6) sc_LawPolicy.nd rfl (Or.inl rfl) (pf d_law_choice (hr.mono (by decide)) (T.glo "_law_choice" (by decide +kernel)) (pa_cons (pv 0) (pa_cons (pe_lst (pa_cons (pe_int) (pa_cons (pf d_law_draw (hr.mono (by decide)) (T.glo "_law_draw" (by decide +kernel)) (pa_cons (pv 0) (pa_cons (pv 5) pa_nil))) pa_nil))) pa_nil))))
        (pss_one (ps_dput (hu_of hr) (pv 3) (pe_tup (pa_cons (pv 5) (pa_cons (pv 6) pa_nil))) (pe_tup (pa_cons (pv 5) (pa_cons (pv 6) (pa_cons (pe_op op_add (pe_int) (pf d_law_draw (hr.mono (by decide)) (T.glo "_law_draw" (by decide +kernel)) (pa_cons (pv 0) (pa_cons (pv 2) pa_nil)))) pa_nil)))) rfl)))))
      (pss_one (ps_ret (pe_callTy call_tuple_of rfl (T.free "tuple" (by decide +kernel)) (by decide +kernel) (pa_cons (pe_lc (own := [("_law_shape", 7)]) rfl sc_LawPolicy.nd (pi_list (pe_callB (cr_sortedTK rfl) rfl (T.free "sorted" (by decide +kernel)) (by decide +kernel) (pa_cons (pv 3) pa_nil))) (blkOk_by (N := ["_law_source_here", "_law_periods", "_law_most", "_law_rules", "_law_turn", "_law_period", "_law_offset", "_law_shape"]) (sc := defScope sLawPolicy) (by decide +kernel)) (fun _ _ _ _ _ => (pg_name (i := 7) sc_LawPolicy.nd rfl (Or.inl rfl))) (fun _ _ _ _ _ => pts_nil) (fun _ _ _ _ _ => (pe_dget (hu_of hr) (pv 3) (pv 7) (fun _ _ => rfl)))) pa_nil)))))), ?rd⟩), F.bindsN (fun _ _ _ _ _ _ us hl => match us, hl with | [_, _, _], _ => rfl), F.kp⟩
  case len => obtain ⟨s, l, k, rfl, _⟩ := h; rfl
  case rd =>
    obtain ⟨s, l, k, rfl, hs, hk, hl, nsl, hQ⟩ := h
    intro D hD
    have s0 := Same.upd (o := .dT []) hD
    refine ⟨_, rfl, s, 3, k, rfl, by decide, by decide, hs.s s0, by omega, fun H1 d d0 d1 f1 sr1 => ⟨_, _, rfl, rfl, _, rfl, by omega, by omega, ?_⟩⟩
    have nsD : s ≠ D := by obtain ⟨_, _, _, z, _⟩ := hs; exact ne_of_none z hD
    have nlD : l ≠ D := ne_of_none hl hD
    have F1 : Fr [s] H H1 := (Fr.of s0).trans f1
    refine for_range (lo := 0) (n := (1 + d).toNat) (fun i σ H' => Fr [s] H H' ∧ Src H' s (k + 1 + 5 * i) ∧ (∃ kvs : List ((Int × Int) × V), H' D = some (.dT (kvs.map pk)) ∧ (kvs.map (·.1)).Nodup ∧ kvs.length ≤ i ∧ (1 ≤ i → 1 ≤ kvs.length) ∧ ∀ e ∈ kvs, REnt H' e) ∧ ∃ x4 x5 x6 x7, σ = [some (.ref s), some (.ref l), some (.int 4), some (.ref D), x4, x5, x6, x7])
      ⟨F1, sr1, ⟨[], f1.keep _ _ upd_same (by simp; exact fun e => nsD e.symm), List.nodup_nil, Nat.le_refl _, fun h => absurd h (by omega), fun e he => by cases he⟩, _, _, _, _, rfl⟩ ?_ ?_
    · rintro i σ H2 hi ⟨F2, sr2, ⟨kvs, hkv, nd, lkv, l1, ent⟩, x4, x5, x6, x7, rfl⟩
      have hi3 : i < 3 := by omega
      have hl2 := F2.keep _ _ hl (by simp; exact fun e => nsl e.symm)
      refine ⟨_, rfl, _, rfl, _, rfl, _, rfl, _, rfl, l, _, _, _, rfl, rfl, sqL hl2, rfl, s, 20, _, rfl, by decide, by decide, sr2, by omega, fun H3 e e0 e1 f3 sr3 => ⟨_, _, rfl, rfl, sz_le (n := 1) (by decide), fun q hq => ?_⟩⟩
      have sq := Same.upd (o := .lst [.int (1 + e)]) hq
      have hl3 := f3.keep _ _ hl2 (by simp; exact fun e => nsl e.symm)
      refine ⟨l, q, [.int 1, .int 2, .int 5, .int 20], [.int (1 + e)], rfl, rfl, sq _ _ hl3, upd_same, sz_le (n := 5) (by decide), fun r hr => ?_⟩
      have sr := Same.upd (o := .lst ([.int 1, .int 2, .int 5, .int 20] ++ [.int (1 + e)])) hr
      have srcr : Src _ s _ := (sr3.s sq).s sr
      refine ⟨s, r, _, _, rfl, srcr, by omega, upd_same, ?_, by simp, by show 5 ≤ 100000; decide, fun H4 x hx f4 sr4 => ?_⟩
      · obtain ⟨_, _, _, z, _⟩ := sr3.s sq
        exact ne_of_none z hr
      obtain ⟨p, rfl, p1, p2⟩ : ∃ p, x = .int p ∧ 1 ≤ p ∧ p ≤ 20 := by
        have hx : x = .int 1 ∨ x = .int 2 ∨ x = .int 5 ∨ x = .int 20 ∨ x = .int (1 + e) := by simpa using hx
        rcases hx with rfl | rfl | rfl | rfl | rfl
        · exact ⟨_, rfl, by decide, by decide⟩
        · exact ⟨_, rfl, by decide, by decide⟩
        · exact ⟨_, rfl, by decide, by decide⟩
        · exact ⟨_, rfl, by decide, by decide⟩
        · exact ⟨_, rfl, by omega, by omega⟩
      have F4 : Fr [s] H2 H4 := f3.trans (((Fr.of sq).trans (Fr.of sr)).trans f4)
      refine ⟨_, rfl, _, rfl, _, rfl, s, p, _, rfl, p1, by omega, sr4, by omega, fun H5 g g0 g1 f5 sr5 => ⟨sz_le (n := 2) (by decide), fun t ht => ?_⟩⟩
      have st := Same.upd (o := .lst [.int 0, .int g]) ht
      refine ⟨s, t, _, _, rfl, sr5.s st, by omega, upd_same, ?_, by simp, by show 2 ≤ 100000; decide, fun H6 y hy f6 sr6 => ?_⟩
      · obtain ⟨_, _, _, z, _⟩ := sr5
        exact ne_of_none z ht
      obtain ⟨o, rfl, o1, o2⟩ : ∃ o, y = .int o ∧ 0 ≤ o ∧ o ≤ p - 1 := by
        have hy : y = .int 0 ∨ y = .int g := by simpa using hy
        rcases hy with rfl | rfl
        · exact ⟨_, rfl, by decide, by omega⟩
        · exact ⟨_, rfl, by omega, by omega⟩
      have F6 : Fr [s] H2 H6 := F4.trans (f5.trans ((Fr.of st).trans f6))
      refine ⟨_, rfl, _, rfl, _, rfl, _, rfl, s, 4, _, rfl, by decide, by decide, sr6, by omega, fun H7 c c0 c1 f7 sr7 => ⟨_, _, rfl, rfl, sz_le (n := 3) (by decide), fun u hu => ?_⟩⟩
      have su := Same.upd (o := .tup [.int p, .int o, .int (1 + c)]) hu
      refine ⟨_, rfl, _, rfl, _, rfl, sz_le (n := 2) (by decide), fun z hz => ?_⟩
      have sz := Same.upd (o := .tup [.int p, .int o]) hz
      have F7 : Fr [s] H2 _ := F6.trans (f7.trans ((Fr.of su).trans (Fr.of sz)))
      have kD := F7.keep _ _ hkv (by simp; exact fun e => nsD e.symm)
      have src7 : Src _ s _ := (sr7.s su).s sz
      refine ⟨D, _, rfl, DPut.t (k := pairK (p, o)) kD upd_same (by rw [List.length_map]; exact sz_lt (by omega)), ?_⟩
      rw [putK_pk]
      have td := Tk.upd (p := D) (o := .dT ((putK kvs (p, o) (.ref u)).map pk)) (H := upd (upd H7 u (.tup [.int p, .int o, .int (1 + c)])) z (.tup [.int p, .int o])) (by rw [kD]; intro z e; cases e)
      refine ⟨⟨fun b ob hb n => ?_, (F2.trans F7).tup.trans td⟩, ?_, ⟨putK kvs (p, o) (.ref u), upd_same, ?_, ?_, fun _ => putK_l.2, fun en he => ?_⟩, _, _, _, _, rfl⟩
      · rw [upd_ne (ne_of_none hb hD)]
        exact (F2.trans F7).keep _ _ hb n
      · obtain ⟨ga, gb, gc, y1, y2, y3, y4, y5⟩ := src7
        exact ⟨ga, gb, gc, by rw [upd_ne nsD]; exact y1, y2, y3, y4, by omega⟩
      · rw [putK_keys]
        split
        · exact nd
        · rename_i hn
          refine List.nodup_append.mpr ⟨nd, by simp, fun a ha b hb => ?_⟩
          have e : b = (p, o) := by simpa using hb
          rw [e]
          rintro rfl
          exact hn ha
      · have := (putK_l (kvs := kvs) (k := (p, o)) (v := .ref u)).1
        omega
      · rcases putK_ent he with rfl | he
        · refine ⟨1 + c, ⟨u, rfl, td _ _ (sz _ _ upd_same)⟩, ⟨p1, by show p ≤ 1000000; omega, o1, o2, by show 1 ≤ 1 + c; omega, by show 1 + c ≤ 24; omega⟩, by omega⟩
        · exact (ent en he).mono (F7.tup.trans td)
    · rintro σ H2 ⟨F2, sr2, ⟨kvs, hkv, nd, lkv, l1, ent⟩, x4, x5, x6, x7, rfl⟩
      have l1 := l1 (by omega)
      refine ⟨_, rfl, D, kvs, rfl, hkv, by omega, fun L q hL hperm hsort hq => ?_⟩
      have sq := Same.upd (o := .lst (L.map fun e => V.ref e.1)) hq
      have lL : L.length = kvs.length := by have := hperm.length_eq; rwa [List.length_map, List.length_map] at this
      refine ⟨q, rfl, ⟨_, sqL upd_same⟩, ?_⟩
      refine lc_listG (fun i acc H' => ∃ pol : List Rule, pol.map (fun r => (r.1, r.2.1)) = (L.take i).map (·.2) ∧ Paired (VRule H') acc pol ∧ ∀ r ∈ pol, RuleOk r ∧ r.2.2 ≤ 4) upd_same (by rw [List.length_map]; omega)
        (fun i acc H H' e h => by obtain ⟨pol, h1, h2, h3⟩ := h; exact ⟨pol, h1, L2.Paired.mapP h2 fun _ _ z => z.mono e, h3⟩) ⟨[], rfl, .nil, fun r hr => by cases hr⟩ ?_ ?_
      · rintro i x acc H3 N N0 hx sm ⟨pol, e1, e2, e3⟩ hN hN0
        rw [List.getElem?_map] at hx
        obtain ⟨en, hen, rfl⟩ := Option.map_eq_some_iff.mp hx
        have hin : en.2 ∈ kvs.map (·.1) := hperm.mem_iff.mp (List.mem_map_of_mem (List.mem_of_getElem? hen))
        obtain ⟨v, hv, hmem⟩ := valV_in hin
        obtain ⟨c, r1, r2, r3⟩ := ent _ hmem
        have k3 := sm _ _ (sq _ _ hkv)
        have a3 := sm _ _ (sq _ _ (hL en (List.mem_of_getElem? hen)))
        refine ⟨rfl, _, rfl, _, rfl, D, v, rfl, ?_, hN _ _ (Same.refl _) ⟨pol ++ [(en.2.1, en.2.2, c)], ?_, paired_snoc e2 (r1.mono (Tk.of (sq.trans sm))), fun r hr => ?_⟩⟩
        · rw [← hv, ← valV_pk]
          exact DGet.t k3 a3
        · rw [take_succ' hen, List.map_append, List.map_append, e1]
          rfl
        · rcases List.mem_append.mp hr with hr | hr
          · exact e3 r hr
          · rw [List.mem_singleton.mp hr]
            exact ⟨r2, r3⟩
      · rintro acc H3 E' sm hE hacc ⟨pol, e1, e2, e3⟩
        rw [List.length_map, List.take_length] at e1
        have lp : pol.length = L.length := by have := congrArg List.length e1; rwa [List.length_map, List.length_map] at this
        refine ⟨E', acc, rfl, .inl ⟨sqL hacc, fun t ht => ?_⟩⟩
        have st := Same.upd (o := .tup acc) ht
        have sall := (sq.trans sm).trans st
        refine hQ _ _ pol (F2.trans (Fr.of sall)) ((sr2.s sall).mono (by omega)) ⟨t, acc, rfl, upd_same, L2.Paired.mapP e2 fun _ _ z => z.mono (Tk.of st)⟩ ⟨by omega, by omega, fun r hr => (e3 r hr).1, ?_⟩ fun r hr => (e3 r hr).2
        rw [e1]
        have ndL : (L.map (·.2)).Nodup := hperm.nodup_iff.mpr nd
        exact (hsort.and ndL).imp fun ⟨h1, h2⟩ => sh_of h1 h2
end
end K19

set_option Elab.async false
set_option linter.all false
set_option maxRecDepth 100000
set_option maxHeartbeats 4000000
/-! the law's choice of a call -/
namespace K19
open PySem PySem.Spec PyProof.Rows L2
section
variable {P : Program} {w : World} {K : PySem.W.Frag} {mg : Str → Option Value} {base : Heap}
def spCall : Sp := fun vs H Q _ => ∃ (s : Addr) (k : Nat) (u : V) (cur : S4), vs = [.ref s, u] ∧ Src H s k ∧ k ≤ 100000 ∧ VSt H u cur ∧ cur.p.length ≤ 1000 ∧ cur.f.length ≤ 1000 ∧
  ∀ H' a wd v, Fr [s] H H' → Src H' s (k + 6) → H' a = some (.tup [.str (Wd.name wd), v]) → TimeV v → Q (.ref a) H'
theorem Src.ne {H : Hp} {s q : Addr} {k : Nat} (h : Src H s k) (n : H q = none) : s ≠ q := by
  obtain ⟨_, _, _, z, _⟩ := h
  exact ne_of_none z n
theorem fr_new {S : List Addr} {H H' : Hp} {q : Addr} {o : HO} (n : H q = none) (h : Fr S (upd H q o) H') : Fr S H H' := (Fr.of (Same.upd n)).trans h
theorem timeV_ints {ns : List Int} {x : V} (h : x ∈ ns.map V.int) : TimeV x := by
  obtain ⟨i, _, rfl⟩ := List.mem_map.mp h
  exact .int i
theorem sc_LawCall : FnScope ["_law_source_here", "_law_state", "_law_near", "_law_word", "_law_present", "_law_fixed", "_law_known", "_law_deleted"] ["_law_source_here", "_law_state"] (defScope sLawCall) := ⟨rfl, rfl, rfl, by decide +kernel, rfl, by decide +kernel, by decide +kernel⟩
theorem do_LawCall (T : Tx K mg) : Does P w K mg base CX0 3 (AG K "_law_call") ["_law_source_here", "_law_state"] spCall := by
  obtain ⟨fd, F0⟩ := T.def_ dLawCall (List.mem_of_getElem? (i := 23) rfl)
  have F : FunD K "_law_call" "_law_call" (defArgs sLawCall) (defBody sLawCall) (defScope sLawCall) [] [] (AG K "_law_call") fd := F0
  have d_law_choice := do_LawChoice (P := P) (w := w) (base := base) T
  have d_law_draw := do_LawDraw (P := P) (w := w) (base := base) T
  refine ⟨fd, F.ok sc_LawCall (fun vs H Q E h => ?len) (fun cdv A outer s H vs Q E hr h => ⟨_, PSs.nox (pss_cons (ps_asg (pv 1) (pg_tup rfl (pgs_cons (pg_name (i := 4) sc_LawCall.nd rfl (Or.inl rfl)) (pgs_cons (pg_name (i := 5) sc_LawCall.nd rfl (Or.inl rfl)) (pgs_cons (pg_name (i := 6) sc_LawCall.nd rfl (Or.inl rfl)) (pgs_cons (pg_name (i := 7) sc_LawCall.nd rfl (Or.inl rfl)) pgs_nil))))))
      (pss_cons (ps_set (i := 2) sc_LawCall.nd rfl (Or.inl rfl) (pe_op op_cat (pe_callTy call_list_of rfl (T.free "list" (by decide +kernel)) (by decide +kernel) (pa_cons (pv 4) pa_nil)) (pe_lst (pa_cons (pf d_law_draw (hr.mono (by decide)) (T.glo "_law_draw" (by decide +kernel)) (pa_cons (pv 0) (pa_cons (pe_int) pa_nil))) (pa_cons (pf d_law_draw (hr.mono (by decide)) (T.glo "_law_draw" (by decide +kernel)) (pa_cons (pv 0) (pa_cons (pe_int) pa_nil))) (pa_cons (pe_non) (pa_cons (pe_bl) (pa_cons (pe_un un_neg (pe_int)) (pa_cons (pe_op op_add (pe_op op_pow (pe_int) (pe_int)) (pe_int)) pa_nil)))))))))
      (pss_cons (ps_set (i := 3) sc_LawCall.nd rfl (Or.inl rfl) (pf d_law_choice (hr.mono (by decide)) (T.glo "_law_choice" (by decide +kernel)) (pa_cons (pv 0) (pa_cons (pe_lst (pa_cons (pe_str) (pa_cons (pe_str) (pa_cons (pe_str) (pa_cons (pe_str) (pa_cons (pe_str) (pa_cons (pe_str) (pa_cons (pe_str) (pa_cons (pe_str) pa_nil))))))))) pa_nil))))
      (pss_cons (ps_if (pt_cmpR op_eq (pv 3) (pe_str) (nomark _))
        (pss_one (ps_ret (pe_tup (pa_cons (pv 3) (pa_cons (pf d_law_choice (hr.mono (by decide)) (T.glo "_law_choice" (by decide +kernel)) (pa_cons (pv 0) (pa_cons (pe_op op_cat (pe_op op_cat (pe_op op_rep (pe_lst (pa_cons (pf d_law_draw (hr.mono (by decide)) (T.glo "_law_draw" (by decide +kernel)) (pa_cons (pv 0) (pa_cons (pe_int) pa_nil))) pa_nil)) (pe_int)) (pe_lst (pa_cons (pf d_law_draw (hr.mono (by decide)) (T.glo "_law_draw" (by decide +kernel)) (pa_cons (pv 0) (pa_cons (pe_op op_pow (pe_int) (pe_int)) pa_nil))) pa_nil))) (pv 2)) pa_nil))) pa_nil)))))
        pss_nil)
      (pss_cons (ps_if (pt_cmpR op_in_seq (pv 3) (pe_tup (pa_cons (pe_str) (pa_cons (pe_str) pa_nil))) (by with_unfolding_all rfl))
        (pss_one (ps_ret (pe_tup (pa_cons (pv 3) (pa_cons (pe_non) pa_nil)))))
        pss_nil)
      (pss_one (ps_ret (pe_tup (pa_cons (pv 3) (pa_cons (pf d_law_choice (hr.mono (by decide)) (T.glo "_law_choice" (by decide +kernel)) (pa_cons (pv 0) (pa_cons (pe_op op_cat (pv 2) (pe_callTy call_list_of rfl (T.free "list" (by decide +kernel)) (by decide +kernel) (pa_cons (pv 5) pa_nil))) pa_nil))) pa_nil)))))))))), ?rd⟩), F.bindsN (fun _ _ _ _ _ _ us hl => match us, hl with | [_, _], _ => rfl), F.kp⟩
  case len => obtain ⟨s, k, u, cur, rfl, _⟩ := h; rfl
  case rd =>
    obtain ⟨s, k, u, cur, rfl, hs, hk, ⟨a0, v1, v2, v3, v4, rfl, ha0, ⟨a1, rfl, h1⟩, ⟨a2, rfl, h2⟩, h3, h4⟩, lp, lf, hQ⟩ := h
    refine ⟨_, rfl, a0, _, rfl, sqT ha0, rfl, _, _, rfl, _, _, rfl, _, _, rfl, _, _, rfl, rfl, ?_⟩
    -- near
    refine ⟨_, rfl, a1, _, rfl, .inr (sqT h1), fun l1 n1 => ?_⟩
    have s1 := Same.upd (o := .lst (cur.p.map V.int)) n1
    have hs1 := hs.s s1
    refine ⟨_, rfl, s, 80, _, rfl, by decide, by decide, hs1, by omega, fun H2 d d0 d1 f2 hs2 => ?_⟩
    refine ⟨_, rfl, s, 80, _, rfl, by decide, by decide, hs2, by omega, fun H3 e e0 e1 f3 hs3 => ?_⟩
    refine ⟨_, rfl, _, _, rfl, rfl, ⟨by decide, by decide, by decide⟩, _, _, rfl, rfl, sz_le (n := 6) (by decide), fun l2 n2 => ?_⟩
    have f23 := f2.trans f3
    have k1 := f23.keep _ _ (show (upd H l1 (.lst (cur.p.map V.int))) l1 = _ from upd_same) (by simp; exact fun z => hs.ne n1 z.symm)
    have s2 := Same.upd (o := .lst [V.int d, V.int e, V.non, V.bl true, V.int (-1), V.int (10 ^ (12 : Int).toNat + 1)]) n2
    refine ⟨l1, l2, cur.p.map V.int, [V.int d, V.int e, V.non, V.bl true, V.int (-1), V.int (10 ^ (12 : Int).toNat + 1)], rfl, rfl, s2 _ _ k1, upd_same, by rw [List.length_map]; exact sz_le (by show cur.p.length + 6 ≤ 100000; omega), fun l3 n3 => ?_⟩
    have s3 := Same.upd (o := .lst (cur.p.map V.int ++ [V.int d, V.int e, V.non, V.bl true, V.int (-1), V.int (10 ^ (12 : Int).toNat + 1)])) n3
    have hs4 : Src (upd (upd H3 l2 (.lst [V.int d, V.int e, V.non, V.bl true, V.int (-1), V.int (10 ^ (12 : Int).toNat + 1)])) l3 (.lst (cur.p.map V.int ++ [V.int d, V.int e, V.non, V.bl true, V.int (-1), V.int (10 ^ (12 : Int).toNat + 1)]))) s _ := (hs3.s s2).s s3
    have F4 : Fr [s] H (upd (upd H3 l2 (.lst [V.int d, V.int e, V.non, V.bl true, V.int (-1), V.int (10 ^ (12 : Int).toNat + 1)])) l3 (.lst (cur.p.map V.int ++ [V.int d, V.int e, V.non, V.bl true, V.int (-1), V.int (10 ^ (12 : Int).toNat + 1)]))) := (Fr.of s1).trans (f23.trans ((Fr.of s2).trans (Fr.of s3)))
    have near : (upd (upd H3 l2 (.lst [V.int d, V.int e, V.non, V.bl true, V.int (-1), V.int (10 ^ (12 : Int).toNat + 1)])) l3 (.lst (cur.p.map V.int ++ [V.int d, V.int e, V.non, V.bl true, V.int (-1), V.int (10 ^ (12 : Int).toNat + 1)]))) l3 = some (.lst (cur.p.map V.int ++ [V.int d, V.int e, V.non, V.bl true, V.int (-1), V.int (10 ^ (12 : Int).toNat + 1)])) := upd_same
    have tn : ∀ x ∈ cur.p.map V.int ++ [V.int d, V.int e, V.non, V.bl true, V.int (-1), V.int (10 ^ (12 : Int).toNat + 1)], TimeV x := fun x hx => by
      rcases List.mem_append.mp hx with hx | hx
      · exact timeV_ints hx
      · have hx : x = V.int d ∨ x = V.int e ∨ x = V.non ∨ x = V.bl true ∨ x = V.int (-1) ∨ x = V.int (10 ^ (12 : Int).toNat + 1) := by simpa using hx
        rcases hx with rfl | rfl | rfl | rfl | rfl | rfl
        · exact .int _
        · exact .int _
        · exact .non
        · exact .bl _
        · exact .int _
        · exact .int _
    have ln : (cur.p.map V.int ++ [V.int d, V.int e, V.non, V.bl true, V.int (-1), V.int (10 ^ (12 : Int).toNat + 1)]).length ≤ 1006 := by
      rw [List.length_append, List.length_map]
      show cur.p.length + 6 ≤ 1006
      omega
    generalize hN : cur.p.map V.int ++ [V.int d, V.int e, V.non, V.bl true, V.int (-1), V.int (10 ^ (12 : Int).toNat + 1)] = nr at *
    generalize hG : upd (upd H3 l2 (HO.lst [V.int d, V.int e, V.non, V.bl true, V.int (-1), V.int (10 ^ (12 : Int).toNat + 1)])) l3 (HO.lst nr) = G at *
    have hs4 : Src G s (k + 2) := hs4
    have nsl3 : s ≠ l3 := (hs3.s s2).ne n3
    -- the word
    refine ⟨_, rfl, sz_le (n := 8) (by decide), fun q nq => ?_⟩
    have sq := Same.upd (o := .lst [.str "add", .str "add", .str "add", .str "prune", .str "protect", .str "release", .str "delete", .str "undo"]) nq
    refine ⟨s, q, _, _, rfl, hs4.s sq, by omega, upd_same, hs4.ne nq, by simp, by show 8 ≤ 100000; decide, fun H5 x hx f5 hs5 => ?_⟩
    obtain ⟨wd, rfl⟩ : ∃ wd : Wd, x = .str wd.name := by
      have hx : x = .str "add" ∨ x = .str "prune" ∨ x = .str "protect" ∨ x = .str "release" ∨ x = .str "delete" ∨ x = .str "undo" := by simpa using hx
      rcases hx with rfl | rfl | rfl | rfl | rfl | rfl
      · exact ⟨.add, rfl⟩
      · exact ⟨.prune, rfl⟩
      · exact ⟨.protect, rfl⟩
      · exact ⟨.release, rfl⟩
      · exact ⟨.delete, rfl⟩
      · exact ⟨.undo, rfl⟩
    have F5 : Fr [s] H H5 := F4.trans ((Fr.of sq).trans f5)
    have near5 : H5 l3 = some (.lst nr) := f5.keep _ _ (sq _ _ near) (by simp; exact fun z => nsl3 z.symm)
    have k2 : H5 a2 = some (.tup (cur.f.map V.int)) := F5.tup _ _ h2
    refine ⟨_, rfl, rfl, _, rfl, ?_⟩
    have last : ∀ (H6 : Hp) (t : Addr) (v : V) (j : Nat), Fr [s] H5 H6 → Src H6 s j → j ≤ k + 6 → H6 t = none → TimeV v → Q (.ref t) (upd H6 t (.tup [.str wd.name, v])) := fun H6 t v j f6 s6 hj nt tv =>
      hQ _ t wd v (F5.trans (f6.trans (Fr.of (Same.upd nt)))) ((s6.s (Same.upd nt)).mono hj) upd_same tv
    by_cases wa : wd = .add
    · subst wa
      rw [show decide (V.str (Wd.name .add) = V.str "add") = true by decide +kernel]
      refine ⟨_, rfl, _, rfl, _, rfl, s, 80, _, rfl, by decide, by decide, hs5, by omega, fun H6 g g0 g1 f6 hs6 => ⟨sz_le (n := 1) (by decide), fun q1 m1 => ?_⟩⟩
      have t1 := Same.upd (o := .lst [.int g]) m1
      refine ⟨q1, 5, [.int g], rfl, rfl, upd_same, by decide, by decide, sz_le (n := 5) (by decide), fun q2 m2 => ?_⟩
      have t2 := Same.upd (o := .lst (List.replicate (5 : Int).toNat [V.int g]).flatten) m2
      refine ⟨_, rfl, _, _, rfl, rfl, ⟨by decide, by decide, by decide⟩, s, _, _, rfl, by decide, by decide, (hs6.s t1).s t2, by omega, fun H7 y y0 y1 f7 hs7 => ⟨sz_le (n := 1) (by decide), fun q3 m3 => ?_⟩⟩
      have t3 := Same.upd (o := .lst [.int y]) m3
      have b2 := f7.keep _ _ (show (upd (upd H6 q1 (.lst [.int g])) q2 (.lst (List.replicate (5 : Int).toNat [V.int g]).flatten)) q2 = _ from upd_same) (by simp; exact fun z => (hs6.s t1).ne m2 z.symm)
      refine ⟨q2, q3, _, [.int y], rfl, rfl, t3 _ _ b2, upd_same, sz_le (n := 6) (by decide), fun q4 m4 => ?_⟩
      have t4 := Same.upd (o := .lst ((List.replicate (5 : Int).toNat [V.int g]).flatten ++ [V.int y])) m4
      have F7 : Fr [s] H5 _ := f6.trans ((Fr.of (t1.trans t2)).trans (f7.trans (Fr.of (t3.trans t4))))
      have near7 := F7.keep _ _ near5 (by simp; exact fun z => nsl3 z.symm)
      refine ⟨_, rfl, q4, l3, (List.replicate (5 : Int).toNat [V.int g]).flatten ++ [V.int y], nr, rfl, rfl, upd_same, near7, (show 6 + nr.length ≤ sizeLine from sz_le (by omega)), fun q5 m5 => ?_⟩
      have t5 := Same.upd (o := .lst ((List.replicate (5 : Int).toNat [V.int g]).flatten ++ [V.int y] ++ nr)) m5
      have hs8 := ((hs7.s t3).s t4)
      refine ⟨s, q5, _, _, rfl, hs8.s t5, by omega, upd_same, hs8.ne m5, by simp, by rw [List.length_append]; show 6 + nr.length ≤ 100000; omega, fun H8 z hz f8 hs8' => ⟨sz_le (n := 2) (by decide), fun t nt => ?_⟩⟩
      refine last H8 t z _ (F7.trans ((Fr.of t5).trans f8)) hs8' (by omega) nt ?_
      rcases List.mem_append.mp hz with hz | hz
      · have hz : z = .int g ∨ z = .int y := by
          have e : (List.replicate (5 : Int).toNat [V.int g]).flatten ++ [V.int y] = [.int g, .int g, .int g, .int g, .int g, .int y] := rfl
          rw [e] at hz
          simpa using hz
        rcases hz with rfl | rfl <;> exact .int _
      · exact tn z hz
    · rw [show decide (V.str (Wd.name wd) = V.str "add") = false by cases wd <;> first | exact absurd rfl wa | decide +kernel]
      refine ⟨_, rfl, sz_le (n := 2) (by decide), fun q1 m1 => ?_⟩
      have t1 := Same.upd (o := .tup [.str "prune", .str "undo"]) m1
      refine ⟨q1, _, rfl, .inr (sqT upd_same), rfl, rfl, ?_⟩
      show ∃ k, V.bl (inV (.str wd.name) [.str "prune", .str "undo"]) = .bl k ∧ _
      by_cases wu : wd = .prune ∨ wd = .undo
      · rw [show inV (.str wd.name) [.str "prune", .str "undo"] = true by rcases wu with rfl | rfl <;> decide +kernel]
        exact ⟨true, rfl, _, rfl, sz_le (n := 2) (by decide), fun t nt => last _ t .non _ (Fr.of t1) (hs5.s t1) (by omega) nt .non⟩
      · rw [show inV (.str wd.name) [.str "prune", .str "undo"] = false by cases wd <;> first | exact absurd rfl wa | exact absurd (.inl rfl) wu | exact absurd (.inr rfl) wu | decide +kernel]
        refine ⟨false, rfl, _, rfl, _, rfl, _, rfl, _, rfl, a2, _, rfl, .inr (sqT (t1 _ _ k2)), fun q2 m2 => ?_⟩
        have t2 := Same.upd (o := .lst (cur.f.map V.int)) m2
        refine ⟨l3, q2, nr, cur.f.map V.int, rfl, rfl, t2 _ _ (t1 _ _ near5), upd_same, sz_le (n := nr.length + (cur.f.map V.int).length) (by rw [List.length_map]; omega), fun q3 m3 => ?_⟩
        have t3 := Same.upd (o := .lst (nr ++ cur.f.map V.int)) m3
        have hs6 := (hs5.s t1).s t2
        refine ⟨s, q3, _, _, rfl, hs6.s t3, by omega, upd_same, hs6.ne m3, by rw [← hN]; simp, by rw [List.length_append, List.length_map]; omega, fun H8 z hz f8 hs8 => ⟨sz_le (n := 2) (by decide), fun t nt => ?_⟩⟩
        refine last H8 t z _ ((Fr.of ((t1.trans t2).trans t3)).trans f8) hs8 (by omega) nt ?_
        rcases List.mem_append.mp hz with hz | hz
        · exact tn z hz
        · exact timeV_ints hz
end
end K19

set_option Elab.async false
set_option linter.all false
set_option maxRecDepth 100000
set_option maxHeartbeats 4000000
/-! the law's state after a call -/
namespace K19
open PySem PySem.Spec PyProof.Rows L2
section
variable {P : Program} {w : World} {K : PySem.W.Frag} {mg : Str → Option Value} {base : Heap}
/-- the law's states, the last one the present one -/
def IsStates (H : Hp) (l : Addr) (hist : List S4) (cur : S4) : Prop := ∃ vs, H l = some (.lst vs) ∧ Paired (VSt H) vs (hist ++ [cur])
theorem IsStates.kept {S : List Addr} {H H' : Hp} {l : Addr} {hist : List S4} {cur : S4} (h : IsStates H l hist cur) (e : Fr S H H') (hl : l ∉ S) : IsStates H' l hist cur := by
  obtain ⟨vs, h1, h2⟩ := h
  exact ⟨vs, e.keep _ _ h1 hl, L2.Paired.mapP h2 fun _ _ z => z.mono e.tup⟩
def spAfter : Sp := fun vs H Q _ => ∃ (l : Addr) (vp : V) (pol : List Rule) (hist : List S4) (cur : S4) (wd : Wd) (v : V) (n : Nat) (h' : List S4) (c' : S4) (r : Option (List Int)), vs = [.ref l, vp, .str wd.name, v] ∧ IsStates H l hist cur ∧ VPol H vp pol ∧ (∀ r ∈ pol, RuleOk r) ∧ Good n cur ∧ n ≤ 60 ∧ hist.length ≤ 1000 ∧
  step pol hist cur wd v = .ok (h', c', r) ∧ ∀ H' a l' vr, Same H H' → H l' = none → H' a = some (.tup [.ref l', vr]) → IsStates H' l' h' c' → VRet H' vr r → Q (.ref a) H'
theorem cutm1 (xs : List V) (y : V) : cutV (xs ++ [y]) none (some (-1)) = xs := by
  unfold cutV
  have e : HT.sIx (xs ++ [y]).length (xs ++ [y]).length (some (-1)) = xs.length := by
    show (if (-1 : Int) < 0 then ((-1 : Int) + ((xs ++ [y]).length : Nat)).toNat else min ((-1 : Int)).toNat (xs ++ [y]).length) = xs.length
    rw [if_pos (by decide), List.length_append, List.length_singleton]
    omega
  rw [e, HT.sIx_none]
  show List.take (xs.length - 0) (List.drop 0 (xs ++ [y])) = xs
  rw [Nat.sub_zero, List.drop_zero, List.take_left']
  rfl
theorem iteD {c : Prop} [Decidable c] {A B : Prop} (h : decide c = false) (b : B) : if decide c = true then A else B := by
  rw [h]
  exact b
theorem iteE {c : Prop} [Decidable c] {A B : Prop} (h : decide c = true) (a : A) : if decide c = true then A else B := by
  rw [h]
  exact a
theorem same_none {H H' : Hp} {a : Addr} (e : Same H H') (h : H' a = none) : H a = none := e.free h
theorem sc_LawAfter : FnScope ["_law_states", "_law_policy_here", "_law_word", "_law_time", "_law_dropped", "_law_present", "_law_fixed", "_law_known", "_law_deleted", "_law_kept", "_law_one"] ["_law_states", "_law_policy_here", "_law_word", "_law_time"] (defScope sLawAfter) := ⟨rfl, rfl, rfl, by decide +kernel, rfl, by decide +kernel, by decide +kernel⟩
theorem do_LawAfter (T : Tx K mg) : Does P w K mg base CX0 3 (AG K "_law_after") ["_law_states", "_law_policy_here", "_law_word", "_law_time"] spAfter := by
  obtain ⟨fd, F0⟩ := T.def_ dLawAfter (List.mem_of_getElem? (i := 25) rfl)
  have F : FunD K "_law_after" "_law_after" (defArgs sLawAfter) (defBody sLawAfter) (defScope sLawAfter) [] [] (AG K "_law_after") fd := F0
  have d_law_fast := do_LawFast (P := P) (w := w) (base := base) T
  have d_law_union := do_LawUnion (P := P) (w := w) (base := base) T
  refine ⟨fd, F.ok sc_LawAfter (fun vs H Q E h => ?len) (fun cdv A outer s H vs Q E hr h => ⟨_, PSs.nox (pss_cons (ps_asg (pe_ix ix_list (pv 0) (pe_un un_neg (pe_int)) (fun _ _ => rfl)) (pg_tup rfl (pgs_cons (pg_name (i := 5) sc_LawAfter.nd rfl (Or.inl rfl)) (pgs_cons (pg_name (i := 6) sc_LawAfter.nd rfl (Or.inl rfl)) (pgs_cons (pg_name (i := 7) sc_LawAfter.nd rfl (Or.inl rfl)) (pgs_cons (pg_name (i := 8) sc_LawAfter.nd rfl (Or.inl rfl)) pgs_nil))))))
      (pss_cons (ps_set (i := 4) sc_LawAfter.nd rfl (Or.inl rfl) (pe_non))
      (pss_cons (ps_if (pt_cmpR op_eq (pv 2) (pe_str) (nomark _))
        (pss_one (ps_ret (pe_tup (pa_cons (pe_slice sl_list (pv 0) po_none (po_some (pe_un un_neg (pe_int)))) (pa_cons (pe_non) pa_nil)))))
        pss_nil)
      (pss_cons (ps_if (pt_cmpR op_eq (pv 2) (pe_str) (nomark _))
        (pss_one (ps_par (i := 5) (j := 7) rfl sc_LawAfter.nd rfl rfl (by decide) rfl rfl (pa_cons (pf d_law_union (hr.mono (by decide)) (T.glo "_law_union" (by decide +kernel)) (pa_cons (pv 5) (pa_cons (pe_tup (pa_cons (pv 3) pa_nil)) pa_nil))) (pa_cons (pf d_law_union (hr.mono (by decide)) (T.glo "_law_union" (by decide +kernel)) (pa_cons (pv 7) (pa_cons (pe_tup (pa_cons (pv 3) pa_nil)) pa_nil))) pa_nil)) (by rfl)))
        pss_nil)
      (pss_cons (ps_if (pt_cmpR op_eq (pv 2) (pe_str) (nomark _))
        (pss_cons (ps_set (i := 9) sc_LawAfter.nd rfl (Or.inr rfl) (pf d_law_union (hr.mono (by decide)) (T.glo "_law_union" (by decide +kernel)) (pa_cons (pf d_law_fast (hr.mono (by decide)) (T.glo "_law_fast" (by decide +kernel)) (pa_cons (pv 1) (pa_cons (pv 5) pa_nil))) (pa_cons (pv 6) pa_nil))))
        (pss_cons (ps_set (i := 4) sc_LawAfter.nd rfl (Or.inl rfl) (pe_callTy call_tuple_of rfl (T.free "tuple" (by decide +kernel)) (by decide +kernel) (pa_cons (pe_lc (own := [("_law_one", 10)]) rfl sc_LawAfter.nd (pi_tup (pv 5)) (blkOk_by (N := ["_law_states", "_law_policy_here", "_law_word", "_law_time", "_law_dropped", "_law_present", "_law_fixed", "_law_known", "_law_deleted", "_law_kept", "_law_one"]) (sc := defScope sLawAfter) (by decide +kernel)) (fun _ _ _ _ _ => (pg_name (i := 10) sc_LawAfter.nd rfl (Or.inl rfl))) (fun _ _ _ _ _ => (pts_one (pt_cmpR (r := rIn K true) op_notIn_seq (pv 10) (pv 9) rfl))) (fun _ _ _ _ _ => (pv 10))) pa_nil)))
        (pss_one (ps_set (i := 5) sc_LawAfter.nd rfl (Or.inl rfl) (pv 9)))))
        pss_nil)
      (pss_cons (ps_if (pt_cmpR op_eq (pv 2) (pe_str) (nomark _))
        (pss_one (ps_set (i := 6) sc_LawAfter.nd rfl (Or.inl rfl) (pf d_law_union (hr.mono (by decide)) (T.glo "_law_union" (by decide +kernel)) (pa_cons (pv 6) (pa_cons (pe_tup (pa_cons (pv 3) pa_nil)) pa_nil)))))
        pss_nil)
      (pss_cons (ps_if (pt_cmpR op_eq (pv 2) (pe_str) (nomark _))
        (pss_one (ps_set (i := 6) sc_LawAfter.nd rfl (Or.inl rfl) (pe_callTy call_tuple_of rfl (T.free "tuple" (by decide +kernel)) (by decide +kernel) (pa_cons (pe_lc (own := [("_law_one", 10)]) rfl sc_LawAfter.nd (pi_tup (pv 6)) (blkOk_by (N := ["_law_states", "_law_policy_here", "_law_word", "_law_time", "_law_dropped", "_law_present", "_law_fixed", "_law_known", "_law_deleted", "_law_kept", "_law_one"]) (sc := defScope sLawAfter) (by decide +kernel)) (fun _ _ _ _ _ => (pg_name (i := 10) sc_LawAfter.nd rfl (Or.inl rfl))) (fun _ _ _ _ _ => (pts_one (pt_cmpR op_ne (pv 10) (pv 3) (nomark _)))) (fun _ _ _ _ _ => (pv 10))) pa_nil))))
        pss_nil)
      (pss_cons (ps_if (pt_cmpR op_eq (pv 2) (pe_str) (nomark _))
        (pss_one (ps_par (i := 5) (j := 8) rfl sc_LawAfter.nd rfl rfl (by decide) rfl rfl (pa_cons (pe_callTy call_tuple_of rfl (T.free "tuple" (by decide +kernel)) (by decide +kernel) (pa_cons (pe_lc (own := [("_law_one", 10)]) rfl sc_LawAfter.nd (pi_tup (pv 5)) (blkOk_by (N := ["_law_states", "_law_policy_here", "_law_word", "_law_time", "_law_dropped", "_law_present", "_law_fixed", "_law_known", "_law_deleted", "_law_kept", "_law_one"]) (sc := defScope sLawAfter) (by decide +kernel)) (fun _ _ _ _ _ => (pg_name (i := 10) sc_LawAfter.nd rfl (Or.inl rfl))) (fun _ _ _ _ _ => (pts_one (pt_cmpR op_ne (pv 10) (pv 3) (nomark _)))) (fun _ _ _ _ _ => (pv 10))) pa_nil)) (pa_cons (pf d_law_union (hr.mono (by decide)) (T.glo "_law_union" (by decide +kernel)) (pa_cons (pv 8) (pa_cons (pe_tup (pa_cons (pv 3) pa_nil)) pa_nil))) pa_nil)) (by rfl)))
        pss_nil)
      (pss_one (ps_ret (pe_tup (pa_cons (pe_op op_cat (pv 0) (pe_lst (pa_cons (pe_tup (pa_cons (pv 5) (pa_cons (pv 6) (pa_cons (pv 7) (pa_cons (pv 8) pa_nil))))) pa_nil))) (pa_cons (pv 4) pa_nil))))))))))))), ?rd⟩), F.bindsN (fun _ _ _ _ _ _ us hl => match us, hl with | [_, _, _, _], _ => rfl), F.kp⟩
  case len => obtain ⟨l, vp, pol, hist, cur, wd, v, n, h', c', r, rfl, _⟩ := h; rfl
  case rd =>
    obtain ⟨l, vp, pol, hist, cur, wd, v, n, h', c', r, rfl, ⟨vs', hl, hp⟩, hvp, hok, gd, hn, hlen, hst, hQ⟩ := h
    have hp00 := hp
    obtain ⟨vs0, y, rfl, hp0, a, v1, v2, v3, v4, rfl, ha, h1, h2, h3, h4⟩ := paired_concat hp
    have lp0 : vs0.length = hist.length := hp0.length
    have lp := gd.lpf
    have lk := gd.lk
    have ld := gd.ld
    refine ⟨_, rfl, _, rfl, l, _, _, _, rfl, rfl, sqL hl, atI_last _ _, a, _, rfl, sqT ha, rfl, _, _, rfl, _, _, rfl, _, _, rfl, _, _, rfl, rfl, ?_⟩
    refine ⟨_, rfl, rfl, _, rfl, ?_⟩
    -- the end of all ways but undo
    have fin : ∀ (H3 : Hp) (p1 p2 p3 p4 vr : V) (s' : S4), Same H H3 → VInts H3 p1 s'.p → VInts H3 p2 s'.f → VInts H3 p3 s'.k → VInts H3 p4 s'.d → h' = hist ++ [cur] → c' = s' → VRet H3 vr r → ∀ t q x u, H3 t = none →
        (upd H3 t (.tup [p1, p2, p3, p4])) q = none → (upd (upd H3 t (.tup [p1, p2, p3, p4])) q (.lst [.ref t])) x = none → (upd (upd (upd H3 t (.tup [p1, p2, p3, p4])) q (.lst [.ref t])) x (.lst ((vs0 ++ [.ref a]) ++ [.ref t]))) u = none →
        Q (.ref u) (upd (upd (upd (upd H3 t (.tup [p1, p2, p3, p4])) q (.lst [.ref t])) x (.lst ((vs0 ++ [.ref a]) ++ [.ref t]))) u (.tup [.ref x, vr])) := fun H3 p1 p2 p3 p4 vr s' s3 g1 g2 g3 g4 e1 e2 rv t q x u nt nq nx nu => by
      have b1 := Same.upd (o := .tup [p1, p2, p3, p4]) nt
      have b2 := Same.upd (o := .lst [.ref t]) nq
      have b3 := Same.upd (o := .lst ((vs0 ++ [.ref a]) ++ [.ref t])) nx
      have b4 := Same.upd (o := .tup [.ref x, vr]) nu
      have b234 := (b2.trans b3).trans b4
      have ball := b1.trans b234
      refine hQ _ u x vr (s3.trans ball) (same_none (s3.trans (b1.trans b2)) nx) upd_same ?_ ?_
      · rw [e1, e2]
        refine ⟨_, b4 _ _ upd_same, ?_⟩
        refine paired_snoc (L2.Paired.mapP hp00 fun _ _ z => z.mono (Tk.of (s3.trans ball))) ?_
        exact ⟨t, p1, p2, p3, p4, rfl, b234 _ _ upd_same, g1.mono (Tk.of ball), g2.mono (Tk.of ball), g3.mono (Tk.of ball), g4.mono (Tk.of ball)⟩
      · cases r with
        | none => exact rv
        | some ns => exact VInts.mono rv (Tk.of ball)
    have l2 : (vs0 ++ [V.ref a]).length + 1 ≤ sizeLine := by
      rw [List.length_append, List.length_singleton]
      exact sz_le (by omega)
    cases wd with
    | undo =>
      refine iteE (by decide +kernel) ?_
      refine ⟨_, rfl, _, rfl, _, rfl, l, _, rfl, sqL hl, fun q nq => ?_⟩
      rw [cutm1]
      refine ⟨sz_le (n := 2) (by decide), fun u nu => ?_⟩
      have b1 := Same.upd (o := .lst vs0) nq
      have b2 := Same.upd (o := .tup [.ref q, .non]) nu
      rcases List.eq_nil_or_concat hist with e | ⟨hs, s, e⟩
      · subst e
        simp only [step, List.getLast?_nil] at hst
        cases hst
      · rw [List.concat_eq_append] at e
        subst e
        simp only [step, List.getLast?_append, List.getLast?_singleton, Option.some_or, List.dropLast_concat] at hst
        cases hst
        exact hQ _ u q .non (b1.trans b2) nq upd_same ⟨vs0, b2 _ _ upd_same, L2.Paired.mapP hp0 fun _ _ z => z.mono (Tk.of (b1.trans b2))⟩ rfl
    | add =>
      cases c : tval v with
      | none =>
        simp only [step, c] at hst
        cases hst
      | some i =>
      obtain ⟨rfl, i0, i1⟩ := tval_int c
      simp only [step, c] at hst
      by_cases m : i ∈ cur.k
      · rw [if_pos m] at hst
        cases hst
      rw [if_neg m] at hst
      cases hst
      refine iteD (by decide +kernel) ?_
      refine ⟨_, rfl, rfl, _, rfl, ?_⟩
      refine iteE (by decide +kernel) ?_
      refine ⟨_, rfl, _, rfl, sz_le (n := 1) (by decide), fun p1 n1 => ?_⟩
      have s1 := Same.upd (o := .tup [.int i]) n1
      refine ⟨v1, _, cur.p, [i], rfl, h1.mono (Tk.of s1), one_tup, gd.ap, asc_one i, by show cur.p.length + 1 < 64; omega, fun H2 u1 s2 w1 => ?_⟩
      have s12 := s1.trans s2
      refine ⟨_, rfl, _, rfl, sz_le (n := 1) (by decide), fun p3 n3 => ?_⟩
      have s3 := Same.upd (o := .tup [.int i]) n3
      refine ⟨v3, _, cur.k, [i], rfl, h3.mono (Tk.of (s12.trans s3)), one_tup, gd.ak, asc_one i, by show cur.k.length + 1 < 64; omega, fun H4 u2 s4 w2 => ?_⟩
      have s34 := s3.trans s4
      have sall := s12.trans s34
      refine ⟨u1, u2, rfl, ?_⟩
      refine ⟨_, rfl, rfl, _, rfl, ?_⟩
      refine iteD (by decide +kernel) ?_
      refine ⟨_, rfl, rfl, _, rfl, ?_⟩
      refine iteD (by decide +kernel) ?_
      refine ⟨_, rfl, rfl, _, rfl, ?_⟩
      refine iteD (by decide +kernel) ?_
      refine ⟨_, rfl, rfl, _, rfl, ?_⟩
      refine iteD (by decide +kernel) ?_
      refine ⟨_, rfl, _, rfl, _, rfl, _, rfl, _, rfl, sz_le (n := 4) (by decide), fun t nt => ⟨sz_le (n := 1) (by decide), fun q nq => ?_⟩⟩
      have z1 := Same.upd (o := .tup [u1, v2, u2, v4]) nt
      have z2 := Same.upd (o := .lst [.ref t]) nq
      refine ⟨l, q, _, _, rfl, rfl, z2 _ _ (z1 _ _ (sall _ _ hl)), upd_same, l2, fun x nx => ⟨_, rfl, sz_le (n := 2) (by decide), fun u nu => ?_⟩⟩
      exact fin _ u1 v2 u2 v4 _ (sAdd i cur) (sall) (w1.mono (Tk.of s34)) (h2.mono (Tk.of sall)) (w2) (h4.mono (Tk.of sall)) rfl rfl rfl t q x u nt nq nx nu
    | prune =>
      simp only [step] at hst
      cases hst
      refine iteD (by decide +kernel) ?_
      refine ⟨_, rfl, rfl, _, rfl, ?_⟩
      refine iteD (by decide +kernel) ?_
      refine ⟨_, rfl, rfl, _, rfl, ?_⟩
      refine iteE (by decide +kernel) ?_
      have lpr := len_sub (asc_pru pol cur.p).nodup fun y hy => pru_sub hy
      refine ⟨_, rfl, _, rfl, vp, v1, pol, cur.p, rfl, hvp, hok, h1, gd.ap, by omega, fun H1 u1 s1 w1 => ?_⟩
      refine ⟨_, rfl, u1, v2, _, cur.f, rfl, w1, h2.mono (Tk.of s1), asc_pru _ _, gd.af, by omega, fun H2 u2 s2 w2 => ?_⟩
      have s12 := s1.trans s2
      obtain ⟨b2, rfl, hb2⟩ := w2
      obtain ⟨b1, rfl, hb1⟩ := h1.mono (Tk.of s12)
      refine ⟨_, rfl, b1, rfl, ⟨_, sqT hb1⟩, ?_⟩
      refine lc_tupG (fun i acc _ => acc = ((cur.p.take i).filter fun x => !(sPrune pol cur).p.contains x).map V.int) hb1 (by rw [List.length_map]; omega) (fun _ _ _ _ _ h => h) rfl ?_ ?_
      · intro i x acc G N N0 hx sm hR hN hN0
        obtain ⟨t, ht, rfl⟩ := map_get hx
        refine ⟨rfl, _, rfl, _, rfl, b2, _, rfl, .inr (sqT (sm _ _ hb2)), rfl, flat_ints _, _, rfl, ?_⟩
        show (if (!inV (.int t) ((sPrune pol cur).p.map V.int)) = true then _ else _)
        rw [inV_int]
        cases c : (!(sPrune pol cur).p.contains t) with
        | true => exact iteT ⟨_, rfl, hN _ _ (Same.refl _) (by rw [take_filter ht, c, hR]; simp)⟩
        | false => exact iteF (hN0 _ (Same.refl _) (by rw [take_filter ht, c, hR]; simp))
      intro acc H3 D sm hD hacc hR
      rw [List.length_map, List.take_length] at hR
      refine ⟨D, acc, rfl, .inl ⟨sqL hacc, fun qq nqq => ?_⟩⟩
      have s4 := Same.upd (o := .tup acc) nqq
      have w3 : VInts (upd H3 qq (.tup acc)) (.ref qq) (minus cur.p (sPrune pol cur).p) := ⟨qq, rfl, by rw [upd_same, hR]; rfl⟩
      have sall := (s12.trans sm).trans s4
      refine ⟨_, rfl, ?_⟩
      refine ⟨_, rfl, rfl, _, rfl, ?_⟩
      refine iteD (by decide +kernel) ?_
      refine ⟨_, rfl, rfl, _, rfl, ?_⟩
      refine iteD (by decide +kernel) ?_
      refine ⟨_, rfl, rfl, _, rfl, ?_⟩
      refine iteD (by decide +kernel) ?_
      refine ⟨_, rfl, _, rfl, _, rfl, _, rfl, _, rfl, sz_le (n := 4) (by decide), fun t nt => ⟨sz_le (n := 1) (by decide), fun q nq => ?_⟩⟩
      have z1 := Same.upd (o := .tup [.ref b2, v2, v3, v4]) nt
      have z2 := Same.upd (o := .lst [.ref t]) nq
      refine ⟨l, q, _, _, rfl, rfl, z2 _ _ (z1 _ _ (sall _ _ hl)), upd_same, l2, fun x nx => ⟨_, rfl, sz_le (n := 2) (by decide), fun u nu => ?_⟩⟩
      exact fin _ (.ref b2) v2 v3 v4 _ (sPrune pol cur) (sall) (⟨b2, rfl, s4 _ _ (sm _ _ hb2)⟩) (h2.mono (Tk.of sall)) (h3.mono (Tk.of sall)) (h4.mono (Tk.of sall)) rfl rfl w3 t q x u nt nq nx nu
    | protect =>
      cases c : tval v with
      | none =>
        simp only [step, c] at hst
        cases hst
      | some i =>
      obtain ⟨rfl, i0, i1⟩ := tval_int c
      simp only [step, c] at hst
      by_cases mp : i ∈ cur.p
      rotate_left
      · rw [if_pos mp] at hst
        cases hst
      rw [if_neg (fun z => z mp)] at hst
      by_cases m : i ∈ cur.f
      · rw [if_pos m] at hst
        cases hst
      rw [if_neg m] at hst
      cases hst
      refine iteD (by decide +kernel) ?_
      refine ⟨_, rfl, rfl, _, rfl, ?_⟩
      refine iteD (by decide +kernel) ?_
      refine ⟨_, rfl, rfl, _, rfl, ?_⟩
      refine iteD (by decide +kernel) ?_
      refine ⟨_, rfl, rfl, _, rfl, ?_⟩
      refine iteE (by decide +kernel) ?_
      refine ⟨_, rfl, _, rfl, sz_le (n := 1) (by decide), fun p1 n1 => ?_⟩
      have s1 := Same.upd (o := .tup [.int i]) n1
      refine ⟨v2, _, cur.f, [i], rfl, h2.mono (Tk.of s1), one_tup, gd.af, asc_one i, by show cur.f.length + 1 < 64; omega, fun H2 u1 s2 w1 => ?_⟩
      have sall := s1.trans s2
      refine ⟨_, rfl, rfl, _, rfl, ?_⟩
      refine iteD (by decide +kernel) ?_
      refine ⟨_, rfl, rfl, _, rfl, ?_⟩
      refine iteD (by decide +kernel) ?_
      refine ⟨_, rfl, _, rfl, _, rfl, _, rfl, _, rfl, sz_le (n := 4) (by decide), fun t nt => ⟨sz_le (n := 1) (by decide), fun q nq => ?_⟩⟩
      have z1 := Same.upd (o := .tup [v1, u1, v3, v4]) nt
      have z2 := Same.upd (o := .lst [.ref t]) nq
      refine ⟨l, q, _, _, rfl, rfl, z2 _ _ (z1 _ _ (sall _ _ hl)), upd_same, l2, fun x nx => ⟨_, rfl, sz_le (n := 2) (by decide), fun u nu => ?_⟩⟩
      exact fin _ v1 u1 v3 v4 _ (sProt i cur) (sall) (h1.mono (Tk.of sall)) (w1) (h3.mono (Tk.of sall)) (h4.mono (Tk.of sall)) rfl rfl rfl t q x u nt nq nx nu
    | release =>
      cases c : tval v with
      | none =>
        simp only [step, c] at hst
        cases hst
      | some i =>
      obtain ⟨rfl, i0, i1⟩ := tval_int c
      simp only [step, c] at hst
      by_cases mp : i ∈ cur.p
      rotate_left
      · rw [if_pos mp] at hst
        cases hst
      rw [if_neg (fun z => z mp)] at hst
      by_cases m : i ∈ cur.f
      rotate_left
      · rw [if_pos m] at hst
        cases hst
      rw [if_neg (fun z => z m)] at hst
      cases hst
      refine iteD (by decide +kernel) ?_
      refine ⟨_, rfl, rfl, _, rfl, ?_⟩
      refine iteD (by decide +kernel) ?_
      refine ⟨_, rfl, rfl, _, rfl, ?_⟩
      refine iteD (by decide +kernel) ?_
      refine ⟨_, rfl, rfl, _, rfl, ?_⟩
      refine iteD (by decide +kernel) ?_
      refine ⟨_, rfl, rfl, _, rfl, ?_⟩
      refine iteE (by decide +kernel) ?_
      obtain ⟨b2, rfl, hb2⟩ := h2
      refine ⟨_, rfl, b2, rfl, ⟨_, sqT hb2⟩, ?_⟩
      refine lc_tupG (fun j acc _ => acc = ((cur.f.take j).filter fun x => !decide (x = i)).map V.int) hb2 (by rw [List.length_map]; omega) (fun _ _ _ _ _ h => h) rfl ?_ ?_
      · intro j x acc G N N0 hx sm hR hN hN0
        obtain ⟨t, ht, rfl⟩ := map_get hx
        refine ⟨rfl, _, rfl, _, rfl, rfl, _, rfl, ?_⟩
        have e : decide (V.int t = V.int i) = decide (t = i) := decide_eq_decide.mpr ⟨fun z => V.int.inj z, fun z => by rw [z]⟩
        rw [e]
        cases c : (!decide (t = i)) with
        | true => exact iteT ⟨_, rfl, hN _ _ (Same.refl _) (by rw [take_filter ht, c, hR]; simp)⟩
        | false => exact iteF (hN0 _ (Same.refl _) (by rw [take_filter ht, c, hR]; simp))
      intro acc H3 D sm hD hacc hR
      rw [List.length_map, List.take_length, show (cur.f.filter fun x => !decide (x = i)) = minus cur.f [i] from out_minus i cur.f] at hR
      refine ⟨D, acc, rfl, .inl ⟨sqL hacc, fun qq nqq => ?_⟩⟩
      have s4 := Same.upd (o := .tup acc) nqq
      have w1 : VInts (upd H3 qq (.tup acc)) (.ref qq) (minus cur.f [i]) := ⟨qq, rfl, by rw [upd_same, hR]⟩
      have sall := sm.trans s4
      refine ⟨_, rfl, rfl, _, rfl, ?_⟩
      refine iteD (by decide +kernel) ?_
      refine ⟨_, rfl, _, rfl, _, rfl, _, rfl, _, rfl, sz_le (n := 4) (by decide), fun t nt => ⟨sz_le (n := 1) (by decide), fun q nq => ?_⟩⟩
      have z1 := Same.upd (o := .tup [v1, .ref qq, v3, v4]) nt
      have z2 := Same.upd (o := .lst [.ref t]) nq
      refine ⟨l, q, _, _, rfl, rfl, z2 _ _ (z1 _ _ (sall _ _ hl)), upd_same, l2, fun x nx => ⟨_, rfl, sz_le (n := 2) (by decide), fun u nu => ?_⟩⟩
      exact fin _ v1 (.ref qq) v3 v4 _ (sRel i cur) (sall) (h1.mono (Tk.of sall)) (w1) (h3.mono (Tk.of sall)) (h4.mono (Tk.of sall)) rfl rfl rfl t q x u nt nq nx nu
    | delete =>
      cases c : tval v with
      | none =>
        simp only [step, c] at hst
        cases hst
      | some i =>
      obtain ⟨rfl, i0, i1⟩ := tval_int c
      simp only [step, c] at hst
      by_cases mp : i ∈ cur.p
      rotate_left
      · rw [if_pos mp] at hst
        cases hst
      rw [if_neg (fun z => z mp)] at hst
      by_cases m : i ∈ cur.f
      · rw [if_pos m] at hst
        cases hst
      rw [if_neg m] at hst
      cases hst
      refine iteD (by decide +kernel) ?_
      refine ⟨_, rfl, rfl, _, rfl, ?_⟩
      refine iteD (by decide +kernel) ?_
      refine ⟨_, rfl, rfl, _, rfl, ?_⟩
      refine iteD (by decide +kernel) ?_
      refine ⟨_, rfl, rfl, _, rfl, ?_⟩
      refine iteD (by decide +kernel) ?_
      refine ⟨_, rfl, rfl, _, rfl, ?_⟩
      refine iteD (by decide +kernel) ?_
      refine ⟨_, rfl, rfl, _, rfl, ?_⟩
      refine iteE (by decide +kernel) ?_
      obtain ⟨b1, rfl, hb1⟩ := h1
      refine ⟨_, rfl, b1, rfl, ⟨_, sqT hb1⟩, ?_⟩
      refine lc_tupG (fun j acc _ => acc = ((cur.p.take j).filter fun x => !decide (x = i)).map V.int) hb1 (by rw [List.length_map]; omega) (fun _ _ _ _ _ h => h) rfl ?_ ?_
      · intro j x acc G N N0 hx sm hR hN hN0
        obtain ⟨t, ht, rfl⟩ := map_get hx
        refine ⟨rfl, _, rfl, _, rfl, rfl, _, rfl, ?_⟩
        have e : decide (V.int t = V.int i) = decide (t = i) := decide_eq_decide.mpr ⟨fun z => V.int.inj z, fun z => by rw [z]⟩
        rw [e]
        cases c : (!decide (t = i)) with
        | true => exact iteT ⟨_, rfl, hN _ _ (Same.refl _) (by rw [take_filter ht, c, hR]; simp)⟩
        | false => exact iteF (hN0 _ (Same.refl _) (by rw [take_filter ht, c, hR]; simp))
      intro acc H3 D sm hD hacc hR
      rw [List.length_map, List.take_length, show (cur.p.filter fun x => !decide (x = i)) = minus cur.p [i] from out_minus i cur.p] at hR
      refine ⟨D, acc, rfl, .inl ⟨sqL hacc, fun qq nqq => ?_⟩⟩
      have s4 := Same.upd (o := .tup acc) nqq
      have w1 : VInts (upd H3 qq (.tup acc)) (.ref qq) (minus cur.p [i]) := ⟨qq, rfl, by rw [upd_same, hR]⟩
      have s12 := sm.trans s4
      refine ⟨_, rfl, _, rfl, sz_le (n := 1) (by decide), fun p3 n3 => ?_⟩
      have s3 := Same.upd (o := .tup [.int i]) n3
      refine ⟨v4, _, cur.d, [i], rfl, h4.mono (Tk.of (s12.trans s3)), one_tup, gd.ad, asc_one i, by show cur.d.length + 1 < 64; omega, fun H5 u2 s5 w2 => ?_⟩
      have s34 := s3.trans s5
      have sall := s12.trans s34
      refine ⟨.ref qq, u2, rfl, ?_⟩
      refine ⟨_, rfl, _, rfl, _, rfl, _, rfl, _, rfl, sz_le (n := 4) (by decide), fun t nt => ⟨sz_le (n := 1) (by decide), fun q nq => ?_⟩⟩
      have z1 := Same.upd (o := .tup [.ref qq, v2, v3, u2]) nt
      have z2 := Same.upd (o := .lst [.ref t]) nq
      refine ⟨l, q, _, _, rfl, rfl, z2 _ _ (z1 _ _ (sall _ _ hl)), upd_same, l2, fun x nx => ⟨_, rfl, sz_le (n := 2) (by decide), fun u nu => ?_⟩⟩
      exact fin _ (.ref qq) v2 v3 u2 _ (sDel i cur) (sall) (w1.mono (Tk.of s34)) (h2.mono (Tk.of sall)) (h3.mono (Tk.of sall)) (w2) rfl rfl rfl t q x u nt nq nx nu
end
end K19

set_option Elab.async false
set_option linter.all false
set_option maxRecDepth 100000
set_option maxHeartbeats 4000000
/-! the law's look at the store -/
namespace K19
open PySem PySem.Spec PyProof.Rows L2
section
variable {P : Program} {w : World} {K : PySem.W.Frag} {mg : Str → Option Value} {base : Heap}
theorem eqok_ints {n : Nat} {ns : List Int} (h : ns.length ≤ 1000) : EqOk (n + 1) (intsD ns) := ⟨by rw [List.length_map]; exact h, fun d hd => by
  obtain ⟨i, _, rfl⟩ := List.mem_map.mp hd
  cases n <;> exact True.intro⟩
def spCorrect (K : PySem.W.Frag) : Sp := fun vs H Q _ => ∃ (x pa : Addr) (pol : List Rule) (hist : List S4) (cur : S4) (vp u : V) (n : Nat), vs = [.ref x, vp, u] ∧ Sto K x pa H pol hist cur ∧ VPol H vp pol ∧ VSt H u cur ∧ Good n cur ∧ n ≤ 60 ∧ (∀ r ∈ pol, RuleOk r) ∧ ∀ H', Same H H' → Q (.bl true) H'
theorem sc_LawCorrect : FnScope ["_law_store", "_law_policy_here", "_law_state", "_law_rest", "_law_present", "_law_fixed", "_law_known", "_law_deleted", "_law_time"] ["_law_store", "_law_policy_here", "_law_state"] (defScope sLawCorrect) := ⟨rfl, rfl, rfl, by decide +kernel, rfl, by decide +kernel, by decide +kernel⟩
theorem do_LawCorrect (T : Tx K mg) : Does P w K mg base CX0 5 (AG K "_law_correct") ["_law_store", "_law_policy_here", "_law_state"] (spCorrect K) := by
  obtain ⟨fd, F0⟩ := T.def_ dLawCorrect (List.mem_of_getElem? (i := 27) rfl)
  have F : FunD K "_law_correct" "_law_correct" (defArgs sLawCorrect) (defBody sLawCorrect) (defScope sLawCorrect) [] [] (AG K "_law_correct") fd := F0
  have d_law_fast := do_LawFast (P := P) (w := w) (base := base) T
  obtain ⟨fd___len__, F___len__, b___len__, k___len__⟩ := do_StLen (P := P) (w := w) (base := base) T
  obtain ⟨fd_missed, F_missed, b_missed, k_missed⟩ := do_StMissed (P := P) (w := w) (base := base) T
  obtain ⟨fd_protected, F_protected, b_protected, k_protected⟩ := do_StProtected (P := P) (w := w) (base := base) T
  obtain ⟨fd_snapshots, F_snapshots, b_snapshots, k_snapshots⟩ := do_StSnapshots (P := P) (w := w) (base := base) T
  have d_law_equal := do_LawEqual (P := P) (w := w) (base := base) T 2
  refine ⟨fd, F.ok sc_LawCorrect (fun vs H Q E h => ?len) (fun cdv A outer s H vs Q E hr h => ⟨_, PSs.nox (pss_cons (ps_asg (pv 2) (pg_tup rfl (pgs_cons (pg_name (i := 4) sc_LawCorrect.nd rfl (Or.inr rfl)) (pgs_cons (pg_name (i := 5) sc_LawCorrect.nd rfl (Or.inl rfl)) (pgs_cons (pg_name (i := 6) sc_LawCorrect.nd rfl (Or.inl rfl)) (pgs_cons (pg_name (i := 7) sc_LawCorrect.nd rfl (Or.inr rfl)) pgs_nil))))))
      (pss_cons (ps_if (pt_not (pt_val (pf d_law_equal (hr.mono (by omega)) (T.glo "_law_equal" (by decide +kernel)) (pa_cons (pe_lst (pa_cons (pe_meth0 (pv 0) T.cl (T.meth "snapshots" (by decide +kernel)) F_snapshots (hr.mono (by omega)) b_snapshots .nil (C8.pass0 (E := E0))) (pa_cons (pe_meth0 (pv 0) T.cl (T.meth "protected" (by decide +kernel)) F_protected (hr.mono (by omega)) b_protected .nil (C8.pass0 (E := E0))) (pa_cons (pe_callB (call_lenOwn (T.meth "__len__" (by decide +kernel)) F___len__ (hr.mono (by omega)) b___len__ (C8.pass0 (E := E0))) rfl (T.free "len" (by decide +kernel)) (by decide +kernel) (pa_cons (pv 0) pa_nil)) pa_nil)))) (pa_cons (pe_lst (pa_cons (pv 4) (pa_cons (pv 5) (pa_cons (pe_callB call_len_seq rfl (T.free "len" (by decide +kernel)) (by decide +kernel) (pa_cons (pv 4) pa_nil)) pa_nil)))) pa_nil)))))
        (pss_one (ps_ret (pe_bl)))
        pss_nil)
      (pss_cons (ps_set (i := 3) sc_LawCorrect.nd rfl (Or.inl rfl) (pe_callTy call_tuple_of rfl (T.free "tuple" (by decide +kernel)) (by decide +kernel) (pa_cons (pe_lc (own := [("_law_time", 8)]) rfl sc_LawCorrect.nd (pi_tup (pv 6)) (blkOk_by (N := ["_law_store", "_law_policy_here", "_law_state", "_law_rest", "_law_present", "_law_fixed", "_law_known", "_law_deleted", "_law_time"]) (sc := defScope sLawCorrect) (by decide +kernel)) (fun _ _ _ _ _ => (pg_name (i := 8) sc_LawCorrect.nd rfl (Or.inl rfl))) (fun _ _ _ _ _ => (pts_one (pt_cmpR (r := rIn K true) op_notIn_seq (pv 8) (pv 7) rfl))) (fun _ _ _ _ _ => (pv 8))) pa_nil)))
      (pss_one (ps_ret (pf d_law_equal (hr.mono (by omega)) (T.glo "_law_equal" (by decide +kernel)) (pa_cons (pe_meth0 (pv 0) T.cl (T.meth "missed" (by decide +kernel)) F_missed (hr.mono (by omega)) b_missed .nil (C8.pass0 (E := E0))) (pa_cons (pe_callTy call_tuple_of rfl (T.free "tuple" (by decide +kernel)) (by decide +kernel) (pa_cons (pe_lc (own := [("_law_time", 8)]) rfl sc_LawCorrect.nd (pi_tup (pf d_law_fast (hr.mono (by omega)) (T.glo "_law_fast" (by decide +kernel)) (pa_cons (pv 1) (pa_cons (pv 3) pa_nil)))) (blkOk_by (N := ["_law_store", "_law_policy_here", "_law_state", "_law_rest", "_law_present", "_law_fixed", "_law_known", "_law_deleted", "_law_time"]) (sc := defScope sLawCorrect) (by decide +kernel)) (fun _ _ _ _ _ => (pg_name (i := 8) sc_LawCorrect.nd rfl (Or.inl rfl))) (fun _ _ _ _ _ => (pts_one (pt_cmpR (r := rIn K true) op_notIn_seq (pv 8) (pv 4) rfl))) (fun _ _ _ _ _ => (pv 8))) pa_nil)) pa_nil)))))))), ?rd⟩), F.bindsN (fun _ _ _ _ _ _ us hl => match us, hl with | [_, _, _], _ => rfl), F.kp⟩
  case len => obtain ⟨x, pa, pol, hist, cur, vp, u, n, rfl, _⟩ := h; rfl
  case rd =>
    obtain ⟨x, pa, pol, hist, cur, vp, u, n, rfl, sx, hvp, ⟨a0, v1, v2, v3, v4, rfl, ha0, ⟨a1, rfl, h1⟩, h2, ⟨a3, rfl, h3⟩, ⟨a4, rfl, h4⟩⟩, gd, hn, hok, hQ⟩ := h
    have lp := gd.lpf
    have lk := gd.lk
    have sx0 := sx
    obtain ⟨dx, wp, w1, w2, w3, w4, pvs, hx, _⟩ := sx
    refine ⟨_, rfl, a0, _, rfl, sqT ha0, rfl, _, _, rfl, _, _, rfl, _, _, rfl, _, _, rfl, rfl, ?_⟩
    refine ⟨_, rfl, x, dx, _, rfl, hx, rfl, x, pa, pol, hist, cur, rfl, sx0, fun g1 q1 => ?_⟩
    refine ⟨_, rfl, x, dx, _, rfl, hx, rfl, x, pa, pol, hist, cur, rfl, sx0, fun g2 q2 => ?_⟩
    refine ⟨_, rfl, x, dx, _, rfl, hx, x, pa, pol, hist, cur, rfl, sx0, _, rfl, ⟨by omega, by omega⟩, sz_le (n := 3) (by decide), fun p np => ?_⟩
    have s1 := Same.upd (o := .lst [g1, g2, .int (cur.p.length : Nat)]) np
    refine ⟨_, rfl, _, rfl, _, rfl, a1, _, rfl, .inr (sqT (s1 _ _ h1)), sz_le (n := 3) (by decide), fun q nq => ?_⟩
    rw [List.length_map]
    have s2 := Same.upd (o := .lst [.ref a1, v2, .int (cur.p.length : Nat)]) nq
    have s12 := s1.trans s2
    refine ⟨.ref p, .ref q, .list [intsD cur.p, intsD cur.f, .int (cur.p.length : Nat)], rfl, ?_, ?_, ?_, fun H3 s3 => ?_⟩
    · exact .lst (sqL (s2 _ _ upd_same)) (.cons (q1.mono (Tk.of s12)).dp (.cons (q2.mono (Tk.of s12)).dp (.cons (.int _) .nil)))
    · exact .lst (sqL upd_same) (.cons (VInts.dp ⟨a1, rfl, s12 _ _ h1⟩) (.cons (h2.mono (Tk.of s12)).dp (.cons (.int _) .nil)))
    · refine ⟨by show 3 ≤ 1000; decide, fun d hd => ?_⟩
      have hd : d = intsD cur.p ∨ d = intsD cur.f ∨ d = .int (cur.p.length : Nat) := by simpa using hd
      rcases hd with rfl | rfl | rfl
      · exact eqok_ints (by omega)
      · exact eqok_ints (by omega)
      · exact True.intro
    have s13 := s12.trans s3
    refine ⟨true, rfl, ?_⟩
    -- the rest: known, not deleted
    refine ⟨_, rfl, a3, rfl, ⟨_, sqT (s13 _ _ h3)⟩, ?_⟩
    refine lc_tupG (fun i acc _ => acc = ((cur.k.take i).filter fun x => !cur.d.contains x).map V.int) (s13 _ _ h3) (by rw [List.length_map]; omega) (fun _ _ _ _ _ h => h) rfl ?_ ?_
    · intro i x acc G N N0 hx sm hR hN hN0
      obtain ⟨t, ht, rfl⟩ := map_get hx
      refine ⟨rfl, _, rfl, _, rfl, a4, _, rfl, .inr (sqT (sm _ _ (s13 _ _ h4))), rfl, flat_ints _, _, rfl, ?_⟩
      show (if (!inV (.int t) (cur.d.map V.int)) = true then _ else _)
      rw [inV_int]
      cases c : (!cur.d.contains t) with
      | true => exact iteT ⟨_, rfl, hN _ _ (Same.refl _) (by rw [take_filter ht, c, hR]; simp)⟩
      | false => exact iteF (hN0 _ (Same.refl _) (by rw [take_filter ht, c, hR]; simp))
    intro acc H4 D sm hD hacc hR
    rw [List.length_map, List.take_length] at hR
    refine ⟨D, acc, rfl, .inl ⟨sqL hacc, fun r nr => ?_⟩⟩
    have s4 := Same.upd (o := .tup acc) nr
    have s14 := (s13.trans sm).trans s4
    have hr : VInts (upd H4 r (.tup acc)) (.ref r) (minus cur.k cur.d) := ⟨r, rfl, by rw [upd_same, hR]; rfl⟩
    have lm := len_minus cur.k cur.d
    have lpr := len_sub (asc_pru pol (minus cur.k cur.d)).nodup fun y hy => pru_sub hy
    -- missed
    refine ⟨_, rfl, x, dx, _, rfl, s14 _ _ hx, rfl, x, pa, pol, hist, cur, n, rfl, Sto.s sx0 s14, gd, hn, hok, fun H5 g5 s5 q5 => ?_⟩
    have s15 := s14.trans s5
    refine ⟨_, rfl, _, rfl, vp, .ref r, pol, _, rfl, hvp.mono (Tk.of s15), hok, hr.mono (Tk.of s5), asc_minus gd.ak, by omega, fun H6 g6 s6 q6 => ?_⟩
    obtain ⟨b, rfl, hb⟩ := q6
    have s16 := s15.trans s6
    refine ⟨b, rfl, ⟨_, sqT hb⟩, ?_⟩
    refine lc_tupG (fun i acc _ => acc = (((pru pol (minus cur.k cur.d)).take i).filter fun x => !cur.p.contains x).map V.int) hb (by rw [List.length_map]; omega) (fun _ _ _ _ _ h => h) rfl ?_ ?_
    · intro i x acc G N N0 hx sm hR hN hN0
      obtain ⟨t, ht, rfl⟩ := map_get hx
      refine ⟨rfl, _, rfl, _, rfl, a1, _, rfl, .inr (sqT (sm _ _ (s16 _ _ h1))), rfl, flat_ints _, _, rfl, ?_⟩
      show (if (!inV (.int t) (cur.p.map V.int)) = true then _ else _)
      rw [inV_int]
      cases c : (!cur.p.contains t) with
      | true => exact iteT ⟨_, rfl, hN _ _ (Same.refl _) (by rw [take_filter ht, c, hR]; simp)⟩
      | false => exact iteF (hN0 _ (Same.refl _) (by rw [take_filter ht, c, hR]; simp))
    intro acc2 H7 D2 sm7 hD2 hacc2 hR2
    rw [List.length_map, List.take_length] at hR2
    refine ⟨D2, acc2, rfl, .inl ⟨sqL hacc2, fun z nz => ?_⟩⟩
    have s7 := Same.upd (o := .tup acc2) nz
    have s17 := (s16.trans sm7).trans s7
    refine ⟨g5, .ref z, intsD (minus (pru pol (minus cur.k cur.d)) cur.p), rfl, (q5.mono (Tk.of ((s6.trans sm7).trans s7))).dp, VInts.dp ⟨z, rfl, by rw [upd_same, hR2]; rfl⟩, eqok_ints ?_, fun H8 s8 => hQ _ (s17.trans s8)⟩
    have := len_minus (pru pol (minus cur.k cur.d)) cur.p
    omega
end
end K19

set_option Elab.async false
set_option linter.all false
set_option maxRecDepth 100000
set_option maxHeartbeats 1000000
/-! the names of a handled error -/
namespace K19
open PySem PySem.Spec PyProof.Rows L2
open L2H (Hot1 HotC)
theorem walk_zipH {K : PySem.W.Frag} {a b : Addr} {xs ys : List V} (h : xs.length ≤ ys.length) : Walk (ItzH K a b) xs.length (fun H => SqL K H a xs ∧ SqL K H b ys) (YPair (fun i => xs[i]?) (fun i => ys[i]?)) := by
  refine ⟨fun i _ hi q => ?_, fun _ q => ⟨xs, ys, q.1, q.2, Nat.le_refl _⟩, fun i H v H' _ q y => ?_⟩
  · have h1 : i < ys.length := by omega
    exact ⟨xs, ys, xs[i], ys[i], q.1, q.2, by simp [hi], by simp [h1]⟩
  · obtain ⟨T, x, z, h1, h2, h3, h4, h5⟩ := y
    exact ⟨T, x, z, h1, h2, h3, h4 xs q.1, h5 ys q.2⟩
theorem wipe_two (σ : L2.St) (i j : Nat) (a b : Option V) : wipe (((wipe σ [i, j]).set i a).set j b) [i, j] = wipe σ [i, j] := by
  simp only [wipe]
  apply List.ext_getElem?
  intro k
  simp only [List.getElem?_set, List.length_set]
  by_cases h1 : i = k <;> by_cases h2 : j = k <;> simp [h1, h2] <;> (try split) <;> simp_all
theorem canonN {i : Nat} {v : V} {σ σ' : L2.St} {H : Hp} {Q : L2.St → Hp → Prop} (e : σ.set i (some v) = σ') (h : Q σ' H) : gName i v σ H Q := by
  rw [← e] at h
  exact h
def wordsA : List Str := words ++ [("+" : Str)]
def flagsOf (x : Str) : List Bool := words.map (fun y => decide (x = y)) ++ [true]
/-- the words whose flags are set -/
def kept (i : Nat) (x : Str) : List Str := ((wordsA.zip (flagsOf x)).take i).filterMap fun e => if e.2 then some e.1 else none
theorem kept_all : ∀ x ∈ raised, kept 20 x = [x, "+"] := by decide +kernel
theorem join_all : ∀ x ∈ raised, Txt.join "" [x, "+"] = x ++ "+" := by decide +kernel
theorem len_all : ∀ x ∈ raised, ([x, "+"].map (·.length)).sum + [x, "+"].length * ("" : Str).length ≤ 16777216 := by decide +kernel
theorem split_all : Txt.split ((("InvalidPolicy InvalidSnapshots InvalidText InvalidIndex InvalidTime InvalidSites InvalidScript" : Str) ++ " InvalidSchedule InvalidNumber InvalidShapes InvalidStore AlreadyKnown NotPresent") ++ " AlreadyProtected NotProtected ProtectedError CapacityError NothingToUndo TooWide +") " " = wordsA := by decide +kernel
theorem flags_len (x : Str) : (flagsOf x).length = 20 := by
  unfold flagsOf
  rw [List.length_append, List.length_map]
  rfl
theorem kept_succ {i : Nat} {x y : Str} {b : Bool} (h1 : wordsA[i]? = some y) (h2 : (flagsOf x)[i]? = some b) : kept (i + 1) x = kept i x ++ (if b = true then [y] else []) := by
  unfold kept
  have e : (wordsA.zip (flagsOf x))[i]? = some (y, b) := by rw [List.getElem?_zip_eq_some]; exact ⟨h1, h2⟩
  rw [take_succ' e, List.filterMap_append]
  cases b <;> rfl
section
variable {P : Program} {w : World} {K : PySem.W.Frag} {mg : Str → Option Value} {base : Heap}
def DoesE (P : Program) (w : World) (K : PySem.W.Frag) (mg : Str → Option Value) (base : Heap) (CX : CXT) (n : Nat) (f : Addr) (ps : List Str) (sp : SpE) : Prop :=
  ∃ fd, FnHp P w K mg base CX n f fd ps sp ∧ Binds K fd ps [] ∧ PySem.W.keepIn K (.ref f) = true
def spNames (K : PySem.W.Frag) : SpE := fun a cls d vs H Q _ => ∃ x, x ∈ raised ∧ cls = .ref (AG K x) ∧ d = none ∧ vs = [.ref a] ∧ ∀ H', Same H H' → Q (.str (x ++ "+")) H'
theorem sc_LawErrorNames : FnScope ["_law_error_here", "_law_flags", "_law_words", "_law_word", "_law_flag"] ["_law_error_here"] (defScope sLawErrorNames) := ⟨rfl, rfl, rfl, by decide +kernel, rfl, by decide +kernel, by decide +kernel⟩
theorem do_LawErrorNames (T : Tx K mg) : DoesE P w K mg base CX0 1 (AG K "_law_error_names") ["_law_error_here"] (spNames K) := by
  obtain ⟨fd, F0⟩ := T.def_ dLawErrorNames (List.mem_of_getElem? (i := 15) rfl)
  have F : FunD K "_law_error_names" "_law_error_names" (defArgs sLawErrorNames) (defBody sLawErrorNames) (defScope sLawErrorNames) [] [] (AG K "_law_error_names") fd := F0
  refine ⟨fd, ?_, F.bindsN (fun _ _ _ _ _ _ us hl => match us, hl with | [_], _ => rfl), F.kp⟩
  obtain ⟨oc, od, dV, kV, doc, pm, an, cdv, ct, osl, rfl, lk, hcd, _, _⟩ := F.ex
  refine fn_ofHp lk hcd sc_LawErrorNames (fun a c d vs H Q E h => by obtain ⟨x, _, _, _, rfl, _⟩ := h; rfl) fun A outer s H vs Q E p cls d hot hz hr h => ?_
  obtain ⟨x, hx, rfl, rfl, rfl, hQ⟩ := h
  have hdat : ∃ vs, p.2.data = .fields vs := by obtain ⟨_, vs, e, _⟩ := hot; exact ⟨vs, e⟩
  refine ⟨_, (pss_cons (ps_set (i := 1) sc_LawErrorNames.nd rfl (Or.inl rfl) (pe_lst (pa_cons (pe_callB (call_isEh (T.excC x hx) List.mem_cons_self hz hdat) rfl (T.free "isinstance" (by decide +kernel)) (by decide +kernel) (pa_cons (pv 0) (pa_cons (pe_glob (v := .ref (AG K "InvalidPolicy")) rfl (T.cls "InvalidPolicy" (by decide +kernel)) rfl) pa_nil))) (pa_cons (pe_callB (call_isEh (T.excC x hx) List.mem_cons_self hz hdat) rfl (T.free "isinstance" (by decide +kernel)) (by decide +kernel) (pa_cons (pv 0) (pa_cons (pe_glob (v := .ref (AG K "InvalidSnapshots")) rfl (T.cls "InvalidSnapshots" (by decide +kernel)) rfl) pa_nil))) (pa_cons (pe_callB (call_isEh (T.excC x hx) List.mem_cons_self hz hdat) rfl (T.free "isinstance" (by decide +kernel)) (by decide +kernel) (pa_cons (pv 0) (pa_cons (pe_glob (v := .ref (AG K "InvalidText")) rfl (T.cls "InvalidText" (by decide +kernel)) rfl) pa_nil))) pa_nil)))))
      (pss_cons (ps_set (i := 1) sc_LawErrorNames.nd rfl (Or.inl rfl) (pe_op op_cat (pv 1) (pe_lst (pa_cons (pe_callB (call_isEh (T.excC x hx) List.mem_cons_self hz hdat) rfl (T.free "isinstance" (by decide +kernel)) (by decide +kernel) (pa_cons (pv 0) (pa_cons (pe_glob (v := .ref (AG K "InvalidIndex")) rfl (T.cls "InvalidIndex" (by decide +kernel)) rfl) pa_nil))) (pa_cons (pe_callB (call_isEh (T.excC x hx) List.mem_cons_self hz hdat) rfl (T.free "isinstance" (by decide +kernel)) (by decide +kernel) (pa_cons (pv 0) (pa_cons (pe_glob (v := .ref (AG K "InvalidTime")) rfl (T.cls "InvalidTime" (by decide +kernel)) rfl) pa_nil))) pa_nil)))))
      (pss_cons (ps_set (i := 1) sc_LawErrorNames.nd rfl (Or.inl rfl) (pe_op op_cat (pv 1) (pe_lst (pa_cons (pe_callB (call_isEh (T.excC x hx) List.mem_cons_self hz hdat) rfl (T.free "isinstance" (by decide +kernel)) (by decide +kernel) (pa_cons (pv 0) (pa_cons (pe_glob (v := .ref (AG K "InvalidSites")) rfl (T.cls "InvalidSites" (by decide +kernel)) rfl) pa_nil))) (pa_cons (pe_callB (call_isEh (T.excC x hx) List.mem_cons_self hz hdat) rfl (T.free "isinstance" (by decide +kernel)) (by decide +kernel) (pa_cons (pv 0) (pa_cons (pe_glob (v := .ref (AG K "InvalidScript")) rfl (T.cls "InvalidScript" (by decide +kernel)) rfl) pa_nil))) pa_nil)))))
      (pss_cons (ps_set (i := 1) sc_LawErrorNames.nd rfl (Or.inl rfl) (pe_op op_cat (pv 1) (pe_lst (pa_cons (pe_callB (call_isEh (T.excC x hx) List.mem_cons_self hz hdat) rfl (T.free "isinstance" (by decide +kernel)) (by decide +kernel) (pa_cons (pv 0) (pa_cons (pe_glob (v := .ref (AG K "InvalidSchedule")) rfl (T.cls "InvalidSchedule" (by decide +kernel)) rfl) pa_nil))) (pa_cons (pe_callB (call_isEh (T.excC x hx) List.mem_cons_self hz hdat) rfl (T.free "isinstance" (by decide +kernel)) (by decide +kernel) (pa_cons (pv 0) (pa_cons (pe_glob (v := .ref (AG K "InvalidNumber")) rfl (T.cls "InvalidNumber" (by decide +kernel)) rfl) pa_nil))) pa_nil)))))
      (pss_cons (ps_set (i := 1) sc_LawErrorNames.nd rfl (Or.inl rfl) (pe_op op_cat (pv 1) (pe_lst (pa_cons (pe_callB (call_isEh (T.excC x hx) List.mem_cons_self hz hdat) rfl (T.free "isinstance" (by decide +kernel)) (by decide +kernel) (pa_cons (pv 0) (pa_cons (pe_glob (v := .ref (AG K "InvalidShapes")) rfl (T.cls "InvalidShapes" (by decide +kernel)) rfl) pa_nil))) (pa_cons (pe_callB (call_isEh (T.excC x hx) List.mem_cons_self hz hdat) rfl (T.free "isinstance" (by decide +kernel)) (by decide +kernel) (pa_cons (pv 0) (pa_cons (pe_glob (v := .ref (AG K "InvalidStore")) rfl (T.cls "InvalidStore" (by decide +kernel)) rfl) pa_nil))) pa_nil)))))
      (pss_cons (ps_set (i := 1) sc_LawErrorNames.nd rfl (Or.inl rfl) (pe_op op_cat (pv 1) (pe_lst (pa_cons (pe_callB (call_isEh (T.excC x hx) List.mem_cons_self hz hdat) rfl (T.free "isinstance" (by decide +kernel)) (by decide +kernel) (pa_cons (pv 0) (pa_cons (pe_glob (v := .ref (AG K "AlreadyKnown")) rfl (T.cls "AlreadyKnown" (by decide +kernel)) rfl) pa_nil))) (pa_cons (pe_callB (call_isEh (T.excC x hx) List.mem_cons_self hz hdat) rfl (T.free "isinstance" (by decide +kernel)) (by decide +kernel) (pa_cons (pv 0) (pa_cons (pe_glob (v := .ref (AG K "NotPresent")) rfl (T.cls "NotPresent" (by decide +kernel)) rfl) pa_nil))) pa_nil)))))
      (pss_cons (ps_set (i := 1) sc_LawErrorNames.nd rfl (Or.inl rfl) (pe_op op_cat (pv 1) (pe_lst (pa_cons (pe_callB (call_isEh (T.excC x hx) List.mem_cons_self hz hdat) rfl (T.free "isinstance" (by decide +kernel)) (by decide +kernel) (pa_cons (pv 0) (pa_cons (pe_glob (v := .ref (AG K "AlreadyProtected")) rfl (T.cls "AlreadyProtected" (by decide +kernel)) rfl) pa_nil))) (pa_cons (pe_callB (call_isEh (T.excC x hx) List.mem_cons_self hz hdat) rfl (T.free "isinstance" (by decide +kernel)) (by decide +kernel) (pa_cons (pv 0) (pa_cons (pe_glob (v := .ref (AG K "NotProtected")) rfl (T.cls "NotProtected" (by decide +kernel)) rfl) pa_nil))) pa_nil)))))
      (pss_cons (ps_set (i := 1) sc_LawErrorNames.nd rfl (Or.inl rfl) (pe_op op_cat (pv 1) (pe_lst (pa_cons (pe_callB (call_isEh (T.excC x hx) List.mem_cons_self hz hdat) rfl (T.free "isinstance" (by decide +kernel)) (by decide +kernel) (pa_cons (pv 0) (pa_cons (pe_glob (v := .ref (AG K "ProtectedError")) rfl (T.cls "ProtectedError" (by decide +kernel)) rfl) pa_nil))) (pa_cons (pe_callB (call_isEh (T.excC x hx) List.mem_cons_self hz hdat) rfl (T.free "isinstance" (by decide +kernel)) (by decide +kernel) (pa_cons (pv 0) (pa_cons (pe_glob (v := .ref (AG K "CapacityError")) rfl (T.cls "CapacityError" (by decide +kernel)) rfl) pa_nil))) pa_nil)))))
      (pss_cons (ps_set (i := 1) sc_LawErrorNames.nd rfl (Or.inl rfl) (pe_op op_cat (pv 1) (pe_lst (pa_cons (pe_callB (call_isEh (T.excC x hx) List.mem_cons_self hz hdat) rfl (T.free "isinstance" (by decide +kernel)) (by decide +kernel) (pa_cons (pv 0) (pa_cons (pe_glob (v := .ref (AG K "NothingToUndo")) rfl (T.cls "NothingToUndo" (by decide +kernel)) rfl) pa_nil))) (pa_cons (pe_callB (call_isEh (T.excC x hx) List.mem_cons_self hz hdat) rfl (T.free "isinstance" (by decide +kernel)) (by decide +kernel) (pa_cons (pv 0) (pa_cons (pe_glob (v := .ref (AG K "TooWide")) rfl (T.cls "TooWide" (by decide +kernel)) rfl) pa_nil))) (pa_cons (pe_callB (call_isEh (T.excC x hx) List.mem_cons_self hz hdat) rfl (T.free "isinstance" (by decide +kernel)) (by decide +kernel) (pa_cons (pv 0) (pa_cons (pe_bltn (v := .ty "ValueError") rfl (T.free "ValueError" (by decide +kernel)) (by decide +kernel) rfl) pa_nil))) pa_nil))))))
      (pss_cons (ps_set (i := 2) sc_LawErrorNames.nd rfl (Or.inl rfl) (pe_str))
      (pss_cons (ps_set (i := 2) sc_LawErrorNames.nd rfl (Or.inl rfl) (pe_op op_add_str (pv 2) (pe_str)))
      (pss_cons (ps_set (i := 2) sc_LawErrorNames.nd rfl (Or.inl rfl) (pe_op op_add_str (pv 2) (pe_str)))
      (pss_one (ps_ret (pe_join (pe_str) (pe_lcH (own := [("_law_word", 3), ("_law_flag", 4)]) hot List.mem_cons_self sc_LawErrorNames.nd (pi_zipH rfl (T.free "zip" (by decide +kernel)) (pa_cons (pe_split (pv 2) (pe_str)) (pa_cons (pv 1) pa_nil))) (blkOk_by (N := ["_law_error_here", "_law_flags", "_law_words", "_law_word", "_law_flag"]) (sc := defScope sLawErrorNames) (by decide +kernel)) (fun _ _ _ _ _ => (show PG _ _ (gTup K 2 _) from pg_tupH ⟨p, hot, List.mem_cons_self⟩ (pgs_cons (pg_name (i := 3) sc_LawErrorNames.nd rfl (Or.inl rfl)) (pgs_cons (pg_name (i := 4) sc_LawErrorNames.nd rfl (Or.inl rfl)) pgs_nil)))) (fun _ _ _ _ _ => (pts_one (pt_val (pv 4)))) (fun _ _ _ _ _ => (pv 3)))))))))))))))))), ?_⟩
  have kt : ∀ y ∈ words, PySem.W.kitOne K (.ref (AG K x)) (.ref (AG K y)) = some (decide (x = y)) := T.kit x hx
  refine ⟨_, rfl, .ref (AG K "InvalidPolicy"), .ref (AG K "InvalidPolicy"), _, rfl, (fun _ r => r), kt "InvalidPolicy" (by decide +kernel), _, rfl, .ref (AG K "InvalidSnapshots"), .ref (AG K "InvalidSnapshots"), _, rfl, (fun _ r => r), kt "InvalidSnapshots" (by decide +kernel), _, rfl, .ref (AG K "InvalidText"), .ref (AG K "InvalidText"), _, rfl, (fun _ r => r), kt "InvalidText" (by decide +kernel), sz_le (n := 3) (by decide), fun m0 e0 => ?_⟩
  have s0 : Same H (upd H m0 (HO.lst [V.bl (decide (x = ("InvalidPolicy" : Str))), V.bl (decide (x = ("InvalidSnapshots" : Str))), V.bl (decide (x = ("InvalidText" : Str)))])) := Same.upd e0
  have g0 : (upd H m0 (HO.lst [V.bl (decide (x = ("InvalidPolicy" : Str))), V.bl (decide (x = ("InvalidSnapshots" : Str))), V.bl (decide (x = ("InvalidText" : Str)))])) m0 = some (HO.lst [V.bl (decide (x = ("InvalidPolicy" : Str))), V.bl (decide (x = ("InvalidSnapshots" : Str))), V.bl (decide (x = ("InvalidText" : Str)))]) := upd_same
  generalize upd H m0 (HO.lst [V.bl (decide (x = ("InvalidPolicy" : Str))), V.bl (decide (x = ("InvalidSnapshots" : Str))), V.bl (decide (x = ("InvalidText" : Str)))]) = G0 at s0 g0 ⊢
  refine canonN (σ' := [some (V.ref p.1), some (V.ref m0), none, none, none]) (by rfl) ?_
  refine ⟨_, rfl, _, rfl, .ref (AG K "InvalidIndex"), .ref (AG K "InvalidIndex"), _, rfl, (fun _ r => r), kt "InvalidIndex" (by decide +kernel), _, rfl, .ref (AG K "InvalidTime"), .ref (AG K "InvalidTime"), _, rfl, (fun _ r => r), kt "InvalidTime" (by decide +kernel), sz_le (n := 2) (by decide), fun q1 n1 => ⟨m0, q1, [V.bl (decide (x = ("InvalidPolicy" : Str))), V.bl (decide (x = ("InvalidSnapshots" : Str))), V.bl (decide (x = ("InvalidText" : Str)))], [V.bl (decide (x = ("InvalidIndex" : Str))), V.bl (decide (x = ("InvalidTime" : Str)))], rfl, rfl, Same.upd n1 _ _ g0, upd_same, sz_le (n := 5) (by decide), fun m1 e1 => ?_⟩⟩
  have s1 : Same H (upd (upd G0 q1 (HO.lst [V.bl (decide (x = ("InvalidIndex" : Str))), V.bl (decide (x = ("InvalidTime" : Str)))])) m1 (HO.lst ([V.bl (decide (x = ("InvalidPolicy" : Str))), V.bl (decide (x = ("InvalidSnapshots" : Str))), V.bl (decide (x = ("InvalidText" : Str)))] ++ [V.bl (decide (x = ("InvalidIndex" : Str))), V.bl (decide (x = ("InvalidTime" : Str)))]))) := (s0.trans (Same.upd n1)).trans (Same.upd e1)
  have g1 : (upd (upd G0 q1 (HO.lst [V.bl (decide (x = ("InvalidIndex" : Str))), V.bl (decide (x = ("InvalidTime" : Str)))])) m1 (HO.lst ([V.bl (decide (x = ("InvalidPolicy" : Str))), V.bl (decide (x = ("InvalidSnapshots" : Str))), V.bl (decide (x = ("InvalidText" : Str)))] ++ [V.bl (decide (x = ("InvalidIndex" : Str))), V.bl (decide (x = ("InvalidTime" : Str)))]))) m1 = some (HO.lst [V.bl (decide (x = ("InvalidPolicy" : Str))), V.bl (decide (x = ("InvalidSnapshots" : Str))), V.bl (decide (x = ("InvalidText" : Str))), V.bl (decide (x = ("InvalidIndex" : Str))), V.bl (decide (x = ("InvalidTime" : Str)))]) := upd_same
  generalize upd (upd G0 q1 (HO.lst [V.bl (decide (x = ("InvalidIndex" : Str))), V.bl (decide (x = ("InvalidTime" : Str)))])) m1 (HO.lst ([V.bl (decide (x = ("InvalidPolicy" : Str))), V.bl (decide (x = ("InvalidSnapshots" : Str))), V.bl (decide (x = ("InvalidText" : Str)))] ++ [V.bl (decide (x = ("InvalidIndex" : Str))), V.bl (decide (x = ("InvalidTime" : Str)))])) = G1 at s1 g1 ⊢
  refine canonN (σ' := [some (V.ref p.1), some (V.ref m1), none, none, none]) (by rfl) ?_
  refine ⟨_, rfl, _, rfl, .ref (AG K "InvalidSites"), .ref (AG K "InvalidSites"), _, rfl, (fun _ r => r), kt "InvalidSites" (by decide +kernel), _, rfl, .ref (AG K "InvalidScript"), .ref (AG K "InvalidScript"), _, rfl, (fun _ r => r), kt "InvalidScript" (by decide +kernel), sz_le (n := 2) (by decide), fun q2 n2 => ⟨m1, q2, [V.bl (decide (x = ("InvalidPolicy" : Str))), V.bl (decide (x = ("InvalidSnapshots" : Str))), V.bl (decide (x = ("InvalidText" : Str))), V.bl (decide (x = ("InvalidIndex" : Str))), V.bl (decide (x = ("InvalidTime" : Str)))], [V.bl (decide (x = ("InvalidSites" : Str))), V.bl (decide (x = ("InvalidScript" : Str)))], rfl, rfl, Same.upd n2 _ _ g1, upd_same, sz_le (n := 7) (by decide), fun m2 e2 => ?_⟩⟩
  have s2 : Same H (upd (upd G1 q2 (HO.lst [V.bl (decide (x = ("InvalidSites" : Str))), V.bl (decide (x = ("InvalidScript" : Str)))])) m2 (HO.lst ([V.bl (decide (x = ("InvalidPolicy" : Str))), V.bl (decide (x = ("InvalidSnapshots" : Str))), V.bl (decide (x = ("InvalidText" : Str))), V.bl (decide (x = ("InvalidIndex" : Str))), V.bl (decide (x = ("InvalidTime" : Str)))] ++ [V.bl (decide (x = ("InvalidSites" : Str))), V.bl (decide (x = ("InvalidScript" : Str)))]))) := (s1.trans (Same.upd n2)).trans (Same.upd e2)
  have g2 : (upd (upd G1 q2 (HO.lst [V.bl (decide (x = ("InvalidSites" : Str))), V.bl (decide (x = ("InvalidScript" : Str)))])) m2 (HO.lst ([V.bl (decide (x = ("InvalidPolicy" : Str))), V.bl (decide (x = ("InvalidSnapshots" : Str))), V.bl (decide (x = ("InvalidText" : Str))), V.bl (decide (x = ("InvalidIndex" : Str))), V.bl (decide (x = ("InvalidTime" : Str)))] ++ [V.bl (decide (x = ("InvalidSites" : Str))), V.bl (decide (x = ("InvalidScript" : Str)))]))) m2 = some (HO.lst [V.bl (decide (x = ("InvalidPolicy" : Str))), V.bl (decide (x = ("InvalidSnapshots" : Str))), V.bl (decide (x = ("InvalidText" : Str))), V.bl (decide (x = ("InvalidIndex" : Str))), V.bl (decide (x = ("InvalidTime" : Str))), V.bl (decide (x = ("InvalidSites" : Str))), V.bl (decide (x = ("InvalidScript" : Str)))]) := upd_same
  generalize upd (upd G1 q2 (HO.lst [V.bl (decide (x = ("InvalidSites" : Str))), V.bl (decide (x = ("InvalidScript" : Str)))])) m2 (HO.lst ([V.bl (decide (x = ("InvalidPolicy" : Str))), V.bl (decide (x = ("InvalidSnapshots" : Str))), V.bl (decide (x = ("InvalidText" : Str))), V.bl (decide (x = ("InvalidIndex" : Str))), V.bl (decide (x = ("InvalidTime" : Str)))] ++ [V.bl (decide (x = ("InvalidSites" : Str))), V.bl (decide (x = ("InvalidScript" : Str)))])) = G2 at s2 g2 ⊢
  refine canonN (σ' := [some (V.ref p.1), some (V.ref m2), none, none, none]) (by rfl) ?_
  refine ⟨_, rfl, _, rfl, .ref (AG K "InvalidSchedule"), .ref (AG K "InvalidSchedule"), _, rfl, (fun _ r => r), kt "InvalidSchedule" (by decide +kernel), _, rfl, .ref (AG K "InvalidNumber"), .ref (AG K "InvalidNumber"), _, rfl, (fun _ r => r), kt "InvalidNumber" (by decide +kernel), sz_le (n := 2) (by decide), fun q3 n3 => ⟨m2, q3, [V.bl (decide (x = ("InvalidPolicy" : Str))), V.bl (decide (x = ("InvalidSnapshots" : Str))), V.bl (decide (x = ("InvalidText" : Str))), V.bl (decide (x = ("InvalidIndex" : Str))), V.bl (decide (x = ("InvalidTime" : Str))), V.bl (decide (x = ("InvalidSites" : Str))), V.bl (decide (x = ("InvalidScript" : Str)))], [V.bl (decide (x = ("InvalidSchedule" : Str))), V.bl (decide (x = ("InvalidNumber" : Str)))], rfl, rfl, Same.upd n3 _ _ g2, upd_same, sz_le (n := 9) (by decide), fun m3 e3 => ?_⟩⟩
  have s3 : Same H (upd (upd G2 q3 (HO.lst [V.bl (decide (x = ("InvalidSchedule" : Str))), V.bl (decide (x = ("InvalidNumber" : Str)))])) m3 (HO.lst ([V.bl (decide (x = ("InvalidPolicy" : Str))), V.bl (decide (x = ("InvalidSnapshots" : Str))), V.bl (decide (x = ("InvalidText" : Str))), V.bl (decide (x = ("InvalidIndex" : Str))), V.bl (decide (x = ("InvalidTime" : Str))), V.bl (decide (x = ("InvalidSites" : Str))), V.bl (decide (x = ("InvalidScript" : Str)))] ++ [V.bl (decide (x = ("InvalidSchedule" : Str))), V.bl (decide (x = ("InvalidNumber" : Str)))]))) := (s2.trans (Same.upd n3)).trans (Same.upd e3)
  have g3 : (upd (upd G2 q3 (HO.lst [V.bl (decide (x = ("InvalidSchedule" : Str))), V.bl (decide (x = ("InvalidNumber" : Str)))])) m3 (HO.lst ([V.bl (decide (x = ("InvalidPolicy" : Str))), V.bl (decide (x = ("InvalidSnapshots" : Str))), V.bl (decide (x = ("InvalidText" : Str))), V.bl (decide (x = ("InvalidIndex" : Str))), V.bl (decide (x = ("InvalidTime" : Str))), V.bl (decide (x = ("InvalidSites" : Str))), V.bl (decide (x = ("InvalidScript" : Str)))] ++ [V.bl (decide (x = ("InvalidSchedule" : Str))), V.bl (decide (x = ("InvalidNumber" : Str)))]))) m3 = some (HO.lst [V.bl (decide (x = ("InvalidPolicy" : Str))), V.bl (decide (x = ("InvalidSnapshots" : Str))), V.bl (decide (x = ("InvalidText" : Str))), V.bl (decide (x = ("InvalidIndex" : Str))), V.bl (decide (x = ("InvalidTime" : Str))), V.bl (decide (x = ("InvalidSites" : Str))), V.bl (decide (x = ("InvalidScript" : Str))), V.bl (decide (x = ("InvalidSchedule" : Str))), V.bl (decide (x = ("InvalidNumber" : Str)))]) := upd_same
  generalize upd (upd G2 q3 (HO.lst [V.bl (decide (x = ("InvalidSchedule" : Str))), V.bl (decide (x = ("InvalidNumber" : Str)))])) m3 (HO.lst ([V.bl (decide (x = ("InvalidPolicy" : Str))), V.bl (decide (x = ("InvalidSnapshots" : Str))), V.bl (decide (x = ("InvalidText" : Str))), V.bl (decide (x = ("InvalidIndex" : Str))), V.bl (decide (x = ("InvalidTime" : Str))), V.bl (decide (x = ("InvalidSites" : Str))), V.bl (decide (x = ("InvalidScript" : Str)))] ++ [V.bl (decide (x = ("InvalidSchedule" : Str))), V.bl (decide (x = ("InvalidNumber" : Str)))])) = G3 at s3 g3 ⊢
  refine canonN (σ' := [some (V.ref p.1), some (V.ref m3), none, none, none]) (by rfl) ?_
  refine ⟨_, rfl, _, rfl, .ref (AG K "InvalidShapes"), .ref (AG K "InvalidShapes"), _, rfl, (fun _ r => r), kt "InvalidShapes" (by decide +kernel), _, rfl, .ref (AG K "InvalidStore"), .ref (AG K "InvalidStore"), _, rfl, (fun _ r => r), kt "InvalidStore" (by decide +kernel), sz_le (n := 2) (by decide), fun q4 n4 => ⟨m3, q4, [V.bl (decide (x = ("InvalidPolicy" : Str))), V.bl (decide (x = ("InvalidSnapshots" : Str))), V.bl (decide (x = ("InvalidText" : Str))), V.bl (decide (x = ("InvalidIndex" : Str))), V.bl (decide (x = ("InvalidTime" : Str))), V.bl (decide (x = ("InvalidSites" : Str))), V.bl (decide (x = ("InvalidScript" : Str))), V.bl (decide (x = ("InvalidSchedule" : Str))), V.bl (decide (x = ("InvalidNumber" : Str)))], [V.bl (decide (x = ("InvalidShapes" : Str))), V.bl (decide (x = ("InvalidStore" : Str)))], rfl, rfl, Same.upd n4 _ _ g3, upd_same, sz_le (n := 11) (by decide), fun m4 e4 => ?_⟩⟩
  have s4 : Same H (upd (upd G3 q4 (HO.lst [V.bl (decide (x = ("InvalidShapes" : Str))), V.bl (decide (x = ("InvalidStore" : Str)))])) m4 (HO.lst ([V.bl (decide (x = ("InvalidPolicy" : Str))), V.bl (decide (x = ("InvalidSnapshots" : Str))), V.bl (decide (x = ("InvalidText" : Str))), V.bl (decide (x = ("InvalidIndex" : Str))), V.bl (decide (x = ("InvalidTime" : Str))), V.bl (decide (x = ("InvalidSites" : Str))), V.bl (decide (x = ("InvalidScript" : Str))), V.bl (decide (x = ("InvalidSchedule" : Str))), V.bl (decide (x = ("InvalidNumber" : Str)))] ++ [V.bl (decide (x = ("InvalidShapes" : Str))), V.bl (decide (x = ("InvalidStore" : Str)))]))) := (s3.trans (Same.upd n4)).trans (Same.upd e4)
  have g4 : (upd (upd G3 q4 (HO.lst [V.bl (decide (x = ("InvalidShapes" : Str))), V.bl (decide (x = ("InvalidStore" : Str)))])) m4 (HO.lst ([V.bl (decide (x = ("InvalidPolicy" : Str))), V.bl (decide (x = ("InvalidSnapshots" : Str))), V.bl (decide (x = ("InvalidText" : Str))), V.bl (decide (x = ("InvalidIndex" : Str))), V.bl (decide (x = ("InvalidTime" : Str))), V.bl (decide (x = ("InvalidSites" : Str))), V.bl (decide (x = ("InvalidScript" : Str))), V.bl (decide (x = ("InvalidSchedule" : Str))), V.bl (decide (x = ("InvalidNumber" : Str)))] ++ [V.bl (decide (x = ("InvalidShapes" : Str))), V.bl (decide (x = ("InvalidStore" : Str)))]))) m4 = some (HO.lst [V.bl (decide (x = ("InvalidPolicy" : Str))), V.bl (decide (x = ("InvalidSnapshots" : Str))), V.bl (decide (x = ("InvalidText" : Str))), V.bl (decide (x = ("InvalidIndex" : Str))), V.bl (decide (x = ("InvalidTime" : Str))), V.bl (decide (x = ("InvalidSites" : Str))), V.bl (decide (x = ("InvalidScript" : Str))), V.bl (decide (x = ("InvalidSchedule" : Str))), V.bl (decide (x = ("InvalidNumber" : Str))), V.bl (decide (x = ("InvalidShapes" : Str))), V.bl (decide (x = ("InvalidStore" : Str)))]) := upd_same
  generalize upd (upd G3 q4 (HO.lst [V.bl (decide (x = ("InvalidShapes" : Str))), V.bl (decide (x = ("InvalidStore" : Str)))])) m4 (HO.lst ([V.bl (decide (x = ("InvalidPolicy" : Str))), V.bl (decide (x = ("InvalidSnapshots" : Str))), V.bl (decide (x = ("InvalidText" : Str))), V.bl (decide (x = ("InvalidIndex" : Str))), V.bl (decide (x = ("InvalidTime" : Str))), V.bl (decide (x = ("InvalidSites" : Str))), V.bl (decide (x = ("InvalidScript" : Str))), V.bl (decide (x = ("InvalidSchedule" : Str))), V.bl (decide (x = ("InvalidNumber" : Str)))] ++ [V.bl (decide (x = ("InvalidShapes" : Str))), V.bl (decide (x = ("InvalidStore" : Str)))])) = G4 at s4 g4 ⊢
  refine canonN (σ' := [some (V.ref p.1), some (V.ref m4), none, none, none]) (by rfl) ?_
  refine ⟨_, rfl, _, rfl, .ref (AG K "AlreadyKnown"), .ref (AG K "AlreadyKnown"), _, rfl, (fun _ r => r), kt "AlreadyKnown" (by decide +kernel), _, rfl, .ref (AG K "NotPresent"), .ref (AG K "NotPresent"), _, rfl, (fun _ r => r), kt "NotPresent" (by decide +kernel), sz_le (n := 2) (by decide), fun q5 n5 => ⟨m4, q5, [V.bl (decide (x = ("InvalidPolicy" : Str))), V.bl (decide (x = ("InvalidSnapshots" : Str))), V.bl (decide (x = ("InvalidText" : Str))), V.bl (decide (x = ("InvalidIndex" : Str))), V.bl (decide (x = ("InvalidTime" : Str))), V.bl (decide (x = ("InvalidSites" : Str))), V.bl (decide (x = ("InvalidScript" : Str))), V.bl (decide (x = ("InvalidSchedule" : Str))), V.bl (decide (x = ("InvalidNumber" : Str))), V.bl (decide (x = ("InvalidShapes" : Str))), V.bl (decide (x = ("InvalidStore" : Str)))], [V.bl (decide (x = ("AlreadyKnown" : Str))), V.bl (decide (x = ("NotPresent" : Str)))], rfl, rfl, Same.upd n5 _ _ g4, upd_same, sz_le (n := 13) (by decide), fun m5 e5 => ?_⟩⟩
  have s5 : Same H (upd (upd G4 q5 (HO.lst [V.bl (decide (x = ("AlreadyKnown" : Str))), V.bl (decide (x = ("NotPresent" : Str)))])) m5 (HO.lst ([V.bl (decide (x = ("InvalidPolicy" : Str))), V.bl (decide (x = ("InvalidSnapshots" : Str))), V.bl (decide (x = ("InvalidText" : Str))), V.bl (decide (x = ("InvalidIndex" : Str))), V.bl (decide (x = ("InvalidTime" : Str))), V.bl (decide (x = ("InvalidSites" : Str))), V.bl (decide (x = ("InvalidScript" : Str))), V.bl (decide (x = ("InvalidSchedule" : Str))), V.bl (decide (x = ("InvalidNumber" : Str))), V.bl (decide (x = ("InvalidShapes" : Str))), V.bl (decide (x = ("InvalidStore" : Str)))] ++ [V.bl (decide (x = ("AlreadyKnown" : Str))), V.bl (decide (x = ("NotPresent" : Str)))]))) := (s4.trans (Same.upd n5)).trans (Same.upd e5)
  have g5 : (upd (upd G4 q5 (HO.lst [V.bl (decide (x = ("AlreadyKnown" : Str))), V.bl (decide (x = ("NotPresent" : Str)))])) m5 (HO.lst ([V.bl (decide (x = ("InvalidPolicy" : Str))), V.bl (decide (x = ("InvalidSnapshots" : Str))), V.bl (decide (x = ("InvalidText" : Str))), V.bl (decide (x = ("InvalidIndex" : Str))), V.bl (decide (x = ("InvalidTime" : Str))), V.bl (decide (x = ("InvalidSites" : Str))), V.bl (decide (x = ("InvalidScript" : Str))), V.bl (decide (x = ("InvalidSchedule" : Str))), V.bl (decide (x = ("InvalidNumber" : Str))), V.bl (decide (x = ("InvalidShapes" : Str))), V.bl (decide (x = ("InvalidStore" : Str)))] ++ [V.bl (decide (x = ("AlreadyKnown" : Str))), V.bl (decide (x = ("NotPresent" : Str)))]))) m5 = some (HO.lst [V.bl (decide (x = ("InvalidPolicy" : Str))), V.bl (decide (x = ("InvalidSnapshots" : Str))), V.bl (decide (x = ("InvalidText" : Str))), V.bl (decide (x = ("InvalidIndex" : Str))), V.bl (decide (x = ("InvalidTime" : Str))), V.bl (decide (x = ("InvalidSites" : Str))), V.bl (decide (x = ("InvalidScript" : Str))), V.bl (decide (x = ("InvalidSchedule" : Str))), V.bl (decide (x = ("InvalidNumber" : Str))), V.bl (decide (x = ("InvalidShapes" : Str))), V.bl (decide (x = ("InvalidStore" : Str))), V.bl (decide (x = ("AlreadyKnown" : Str))), V.bl (decide (x = ("NotPresent" : Str)))]) := upd_same
  generalize upd (upd G4 q5 (HO.lst [V.bl (decide (x = ("AlreadyKnown" : Str))), V.bl (decide (x = ("NotPresent" : Str)))])) m5 (HO.lst ([V.bl (decide (x = ("InvalidPolicy" : Str))), V.bl (decide (x = ("InvalidSnapshots" : Str))), V.bl (decide (x = ("InvalidText" : Str))), V.bl (decide (x = ("InvalidIndex" : Str))), V.bl (decide (x = ("InvalidTime" : Str))), V.bl (decide (x = ("InvalidSites" : Str))), V.bl (decide (x = ("InvalidScript" : Str))), V.bl (decide (x = ("InvalidSchedule" : Str))), V.bl (decide (x = ("InvalidNumber" : Str))), V.bl (decide (x = ("InvalidShapes" : Str))), V.bl (decide (x = ("InvalidStore" : Str)))] ++ [V.bl (decide (x = ("AlreadyKnown" : Str))), V.bl (decide (x = ("NotPresent" : Str)))])) = G5 at s5 g5 ⊢
  refine canonN (σ' := [some (V.ref p.1), some (V.ref m5), none, none, none]) (by rfl) ?_
  refine ⟨_, rfl, _, rfl, .ref (AG K "AlreadyProtected"), .ref (AG K "AlreadyProtected"), _, rfl, (fun _ r => r), kt "AlreadyProtected" (by decide +kernel), _, rfl, .ref (AG K "NotProtected"), .ref (AG K "NotProtected"), _, rfl, (fun _ r => r), kt "NotProtected" (by decide +kernel), sz_le (n := 2) (by decide), fun q6 n6 => ⟨m5, q6, [V.bl (decide (x = ("InvalidPolicy" : Str))), V.bl (decide (x = ("InvalidSnapshots" : Str))), V.bl (decide (x = ("InvalidText" : Str))), V.bl (decide (x = ("InvalidIndex" : Str))), V.bl (decide (x = ("InvalidTime" : Str))), V.bl (decide (x = ("InvalidSites" : Str))), V.bl (decide (x = ("InvalidScript" : Str))), V.bl (decide (x = ("InvalidSchedule" : Str))), V.bl (decide (x = ("InvalidNumber" : Str))), V.bl (decide (x = ("InvalidShapes" : Str))), V.bl (decide (x = ("InvalidStore" : Str))), V.bl (decide (x = ("AlreadyKnown" : Str))), V.bl (decide (x = ("NotPresent" : Str)))], [V.bl (decide (x = ("AlreadyProtected" : Str))), V.bl (decide (x = ("NotProtected" : Str)))], rfl, rfl, Same.upd n6 _ _ g5, upd_same, sz_le (n := 15) (by decide), fun m6 e6 => ?_⟩⟩
  have s6 : Same H (upd (upd G5 q6 (HO.lst [V.bl (decide (x = ("AlreadyProtected" : Str))), V.bl (decide (x = ("NotProtected" : Str)))])) m6 (HO.lst ([V.bl (decide (x = ("InvalidPolicy" : Str))), V.bl (decide (x = ("InvalidSnapshots" : Str))), V.bl (decide (x = ("InvalidText" : Str))), V.bl (decide (x = ("InvalidIndex" : Str))), V.bl (decide (x = ("InvalidTime" : Str))), V.bl (decide (x = ("InvalidSites" : Str))), V.bl (decide (x = ("InvalidScript" : Str))), V.bl (decide (x = ("InvalidSchedule" : Str))), V.bl (decide (x = ("InvalidNumber" : Str))), V.bl (decide (x = ("InvalidShapes" : Str))), V.bl (decide (x = ("InvalidStore" : Str))), V.bl (decide (x = ("AlreadyKnown" : Str))), V.bl (decide (x = ("NotPresent" : Str)))] ++ [V.bl (decide (x = ("AlreadyProtected" : Str))), V.bl (decide (x = ("NotProtected" : Str)))]))) := (s5.trans (Same.upd n6)).trans (Same.upd e6)
  have g6 : (upd (upd G5 q6 (HO.lst [V.bl (decide (x = ("AlreadyProtected" : Str))), V.bl (decide (x = ("NotProtected" : Str)))])) m6 (HO.lst ([V.bl (decide (x = ("InvalidPolicy" : Str))), V.bl (decide (x = ("InvalidSnapshots" : Str))), V.bl (decide (x = ("InvalidText" : Str))), V.bl (decide (x = ("InvalidIndex" : Str))), V.bl (decide (x = ("InvalidTime" : Str))), V.bl (decide (x = ("InvalidSites" : Str))), V.bl (decide (x = ("InvalidScript" : Str))), V.bl (decide (x = ("InvalidSchedule" : Str))), V.bl (decide (x = ("InvalidNumber" : Str))), V.bl (decide (x = ("InvalidShapes" : Str))), V.bl (decide (x = ("InvalidStore" : Str))), V.bl (decide (x = ("AlreadyKnown" : Str))), V.bl (decide (x = ("NotPresent" : Str)))] ++ [V.bl (decide (x = ("AlreadyProtected" : Str))), V.bl (decide (x = ("NotProtected" : Str)))]))) m6 = some (HO.lst [V.bl (decide (x = ("InvalidPolicy" : Str))), V.bl (decide (x = ("InvalidSnapshots" : Str))), V.bl (decide (x = ("InvalidText" : Str))), V.bl (decide (x = ("InvalidIndex" : Str))), V.bl (decide (x = ("InvalidTime" : Str))), V.bl (decide (x = ("InvalidSites" : Str))), V.bl (decide (x = ("InvalidScript" : Str))), V.bl (decide (x = ("InvalidSchedule" : Str))), V.bl (decide (x = ("InvalidNumber" : Str))), V.bl (decide (x = ("InvalidShapes" : Str))), V.bl (decide (x = ("InvalidStore" : Str))), V.bl (decide (x = ("AlreadyKnown" : Str))), V.bl (decide (x = ("NotPresent" : Str))), V.bl (decide (x = ("AlreadyProtected" : Str))), V.bl (decide (x = ("NotProtected" : Str)))]) := upd_same
  generalize upd (upd G5 q6 (HO.lst [V.bl (decide (x = ("AlreadyProtected" : Str))), V.bl (decide (x = ("NotProtected" : Str)))])) m6 (HO.lst ([V.bl (decide (x = ("InvalidPolicy" : Str))), V.bl (decide (x = ("InvalidSnapshots" : Str))), V.bl (decide (x = ("InvalidText" : Str))), V.bl (decide (x = ("InvalidIndex" : Str))), V.bl (decide (x = ("InvalidTime" : Str))), V.bl (decide (x = ("InvalidSites" : Str))), V.bl (decide (x = ("InvalidScript" : Str))), V.bl (decide (x = ("InvalidSchedule" : Str))), V.bl (decide (x = ("InvalidNumber" : Str))), V.bl (decide (x = ("InvalidShapes" : Str))), V.bl (decide (x = ("InvalidStore" : Str))), V.bl (decide (x = ("AlreadyKnown" : Str))), V.bl (decide (x = ("NotPresent" : Str)))] ++ [V.bl (decide (x = ("AlreadyProtected" : Str))), V.bl (decide (x = ("NotProtected" : Str)))])) = G6 at s6 g6 ⊢
  refine canonN (σ' := [some (V.ref p.1), some (V.ref m6), none, none, none]) (by rfl) ?_
  refine ⟨_, rfl, _, rfl, .ref (AG K "ProtectedError"), .ref (AG K "ProtectedError"), _, rfl, (fun _ r => r), kt "ProtectedError" (by decide +kernel), _, rfl, .ref (AG K "CapacityError"), .ref (AG K "CapacityError"), _, rfl, (fun _ r => r), kt "CapacityError" (by decide +kernel), sz_le (n := 2) (by decide), fun q7 n7 => ⟨m6, q7, [V.bl (decide (x = ("InvalidPolicy" : Str))), V.bl (decide (x = ("InvalidSnapshots" : Str))), V.bl (decide (x = ("InvalidText" : Str))), V.bl (decide (x = ("InvalidIndex" : Str))), V.bl (decide (x = ("InvalidTime" : Str))), V.bl (decide (x = ("InvalidSites" : Str))), V.bl (decide (x = ("InvalidScript" : Str))), V.bl (decide (x = ("InvalidSchedule" : Str))), V.bl (decide (x = ("InvalidNumber" : Str))), V.bl (decide (x = ("InvalidShapes" : Str))), V.bl (decide (x = ("InvalidStore" : Str))), V.bl (decide (x = ("AlreadyKnown" : Str))), V.bl (decide (x = ("NotPresent" : Str))), V.bl (decide (x = ("AlreadyProtected" : Str))), V.bl (decide (x = ("NotProtected" : Str)))], [V.bl (decide (x = ("ProtectedError" : Str))), V.bl (decide (x = ("CapacityError" : Str)))], rfl, rfl, Same.upd n7 _ _ g6, upd_same, sz_le (n := 17) (by decide), fun m7 e7 => ?_⟩⟩
  have s7 : Same H (upd (upd G6 q7 (HO.lst [V.bl (decide (x = ("ProtectedError" : Str))), V.bl (decide (x = ("CapacityError" : Str)))])) m7 (HO.lst ([V.bl (decide (x = ("InvalidPolicy" : Str))), V.bl (decide (x = ("InvalidSnapshots" : Str))), V.bl (decide (x = ("InvalidText" : Str))), V.bl (decide (x = ("InvalidIndex" : Str))), V.bl (decide (x = ("InvalidTime" : Str))), V.bl (decide (x = ("InvalidSites" : Str))), V.bl (decide (x = ("InvalidScript" : Str))), V.bl (decide (x = ("InvalidSchedule" : Str))), V.bl (decide (x = ("InvalidNumber" : Str))), V.bl (decide (x = ("InvalidShapes" : Str))), V.bl (decide (x = ("InvalidStore" : Str))), V.bl (decide (x = ("AlreadyKnown" : Str))), V.bl (decide (x = ("NotPresent" : Str))), V.bl (decide (x = ("AlreadyProtected" : Str))), V.bl (decide (x = ("NotProtected" : Str)))] ++ [V.bl (decide (x = ("ProtectedError" : Str))), V.bl (decide (x = ("CapacityError" : Str)))]))) := (s6.trans (Same.upd n7)).trans (Same.upd e7)
  have g7 : (upd (upd G6 q7 (HO.lst [V.bl (decide (x = ("ProtectedError" : Str))), V.bl (decide (x = ("CapacityError" : Str)))])) m7 (HO.lst ([V.bl (decide (x = ("InvalidPolicy" : Str))), V.bl (decide (x = ("InvalidSnapshots" : Str))), V.bl (decide (x = ("InvalidText" : Str))), V.bl (decide (x = ("InvalidIndex" : Str))), V.bl (decide (x = ("InvalidTime" : Str))), V.bl (decide (x = ("InvalidSites" : Str))), V.bl (decide (x = ("InvalidScript" : Str))), V.bl (decide (x = ("InvalidSchedule" : Str))), V.bl (decide (x = ("InvalidNumber" : Str))), V.bl (decide (x = ("InvalidShapes" : Str))), V.bl (decide (x = ("InvalidStore" : Str))), V.bl (decide (x = ("AlreadyKnown" : Str))), V.bl (decide (x = ("NotPresent" : Str))), V.bl (decide (x = ("AlreadyProtected" : Str))), V.bl (decide (x = ("NotProtected" : Str)))] ++ [V.bl (decide (x = ("ProtectedError" : Str))), V.bl (decide (x = ("CapacityError" : Str)))]))) m7 = some (HO.lst [V.bl (decide (x = ("InvalidPolicy" : Str))), V.bl (decide (x = ("InvalidSnapshots" : Str))), V.bl (decide (x = ("InvalidText" : Str))), V.bl (decide (x = ("InvalidIndex" : Str))), V.bl (decide (x = ("InvalidTime" : Str))), V.bl (decide (x = ("InvalidSites" : Str))), V.bl (decide (x = ("InvalidScript" : Str))), V.bl (decide (x = ("InvalidSchedule" : Str))), V.bl (decide (x = ("InvalidNumber" : Str))), V.bl (decide (x = ("InvalidShapes" : Str))), V.bl (decide (x = ("InvalidStore" : Str))), V.bl (decide (x = ("AlreadyKnown" : Str))), V.bl (decide (x = ("NotPresent" : Str))), V.bl (decide (x = ("AlreadyProtected" : Str))), V.bl (decide (x = ("NotProtected" : Str))), V.bl (decide (x = ("ProtectedError" : Str))), V.bl (decide (x = ("CapacityError" : Str)))]) := upd_same
  generalize upd (upd G6 q7 (HO.lst [V.bl (decide (x = ("ProtectedError" : Str))), V.bl (decide (x = ("CapacityError" : Str)))])) m7 (HO.lst ([V.bl (decide (x = ("InvalidPolicy" : Str))), V.bl (decide (x = ("InvalidSnapshots" : Str))), V.bl (decide (x = ("InvalidText" : Str))), V.bl (decide (x = ("InvalidIndex" : Str))), V.bl (decide (x = ("InvalidTime" : Str))), V.bl (decide (x = ("InvalidSites" : Str))), V.bl (decide (x = ("InvalidScript" : Str))), V.bl (decide (x = ("InvalidSchedule" : Str))), V.bl (decide (x = ("InvalidNumber" : Str))), V.bl (decide (x = ("InvalidShapes" : Str))), V.bl (decide (x = ("InvalidStore" : Str))), V.bl (decide (x = ("AlreadyKnown" : Str))), V.bl (decide (x = ("NotPresent" : Str))), V.bl (decide (x = ("AlreadyProtected" : Str))), V.bl (decide (x = ("NotProtected" : Str)))] ++ [V.bl (decide (x = ("ProtectedError" : Str))), V.bl (decide (x = ("CapacityError" : Str)))])) = G7 at s7 g7 ⊢
  refine canonN (σ' := [some (V.ref p.1), some (V.ref m7), none, none, none]) (by rfl) ?_
  refine ⟨_, rfl, _, rfl, .ref (AG K "NothingToUndo"), .ref (AG K "NothingToUndo"), _, rfl, (fun _ r => r), kt "NothingToUndo" (by decide +kernel), _, rfl, .ref (AG K "TooWide"), .ref (AG K "TooWide"), _, rfl, (fun _ r => r), kt "TooWide" (by decide +kernel), _, rfl, .ty "ValueError", .type "ValueError", true, rfl, (fun _ r => r), T.kitV x hx, sz_le (n := 3) (by decide), fun q8 n8 => ⟨m7, q8, [V.bl (decide (x = ("InvalidPolicy" : Str))), V.bl (decide (x = ("InvalidSnapshots" : Str))), V.bl (decide (x = ("InvalidText" : Str))), V.bl (decide (x = ("InvalidIndex" : Str))), V.bl (decide (x = ("InvalidTime" : Str))), V.bl (decide (x = ("InvalidSites" : Str))), V.bl (decide (x = ("InvalidScript" : Str))), V.bl (decide (x = ("InvalidSchedule" : Str))), V.bl (decide (x = ("InvalidNumber" : Str))), V.bl (decide (x = ("InvalidShapes" : Str))), V.bl (decide (x = ("InvalidStore" : Str))), V.bl (decide (x = ("AlreadyKnown" : Str))), V.bl (decide (x = ("NotPresent" : Str))), V.bl (decide (x = ("AlreadyProtected" : Str))), V.bl (decide (x = ("NotProtected" : Str))), V.bl (decide (x = ("ProtectedError" : Str))), V.bl (decide (x = ("CapacityError" : Str)))], [V.bl (decide (x = ("NothingToUndo" : Str))), V.bl (decide (x = ("TooWide" : Str))), V.bl true], rfl, rfl, Same.upd n8 _ _ g7, upd_same, sz_le (n := 20) (by decide), fun m8 e8 => ?_⟩⟩
  have s8 : Same H (upd (upd G7 q8 (HO.lst [V.bl (decide (x = ("NothingToUndo" : Str))), V.bl (decide (x = ("TooWide" : Str))), V.bl true])) m8 (HO.lst ([V.bl (decide (x = ("InvalidPolicy" : Str))), V.bl (decide (x = ("InvalidSnapshots" : Str))), V.bl (decide (x = ("InvalidText" : Str))), V.bl (decide (x = ("InvalidIndex" : Str))), V.bl (decide (x = ("InvalidTime" : Str))), V.bl (decide (x = ("InvalidSites" : Str))), V.bl (decide (x = ("InvalidScript" : Str))), V.bl (decide (x = ("InvalidSchedule" : Str))), V.bl (decide (x = ("InvalidNumber" : Str))), V.bl (decide (x = ("InvalidShapes" : Str))), V.bl (decide (x = ("InvalidStore" : Str))), V.bl (decide (x = ("AlreadyKnown" : Str))), V.bl (decide (x = ("NotPresent" : Str))), V.bl (decide (x = ("AlreadyProtected" : Str))), V.bl (decide (x = ("NotProtected" : Str))), V.bl (decide (x = ("ProtectedError" : Str))), V.bl (decide (x = ("CapacityError" : Str)))] ++ [V.bl (decide (x = ("NothingToUndo" : Str))), V.bl (decide (x = ("TooWide" : Str))), V.bl true]))) := (s7.trans (Same.upd n8)).trans (Same.upd e8)
  have g8 : (upd (upd G7 q8 (HO.lst [V.bl (decide (x = ("NothingToUndo" : Str))), V.bl (decide (x = ("TooWide" : Str))), V.bl true])) m8 (HO.lst ([V.bl (decide (x = ("InvalidPolicy" : Str))), V.bl (decide (x = ("InvalidSnapshots" : Str))), V.bl (decide (x = ("InvalidText" : Str))), V.bl (decide (x = ("InvalidIndex" : Str))), V.bl (decide (x = ("InvalidTime" : Str))), V.bl (decide (x = ("InvalidSites" : Str))), V.bl (decide (x = ("InvalidScript" : Str))), V.bl (decide (x = ("InvalidSchedule" : Str))), V.bl (decide (x = ("InvalidNumber" : Str))), V.bl (decide (x = ("InvalidShapes" : Str))), V.bl (decide (x = ("InvalidStore" : Str))), V.bl (decide (x = ("AlreadyKnown" : Str))), V.bl (decide (x = ("NotPresent" : Str))), V.bl (decide (x = ("AlreadyProtected" : Str))), V.bl (decide (x = ("NotProtected" : Str))), V.bl (decide (x = ("ProtectedError" : Str))), V.bl (decide (x = ("CapacityError" : Str)))] ++ [V.bl (decide (x = ("NothingToUndo" : Str))), V.bl (decide (x = ("TooWide" : Str))), V.bl true]))) m8 = some (HO.lst [V.bl (decide (x = ("InvalidPolicy" : Str))), V.bl (decide (x = ("InvalidSnapshots" : Str))), V.bl (decide (x = ("InvalidText" : Str))), V.bl (decide (x = ("InvalidIndex" : Str))), V.bl (decide (x = ("InvalidTime" : Str))), V.bl (decide (x = ("InvalidSites" : Str))), V.bl (decide (x = ("InvalidScript" : Str))), V.bl (decide (x = ("InvalidSchedule" : Str))), V.bl (decide (x = ("InvalidNumber" : Str))), V.bl (decide (x = ("InvalidShapes" : Str))), V.bl (decide (x = ("InvalidStore" : Str))), V.bl (decide (x = ("AlreadyKnown" : Str))), V.bl (decide (x = ("NotPresent" : Str))), V.bl (decide (x = ("AlreadyProtected" : Str))), V.bl (decide (x = ("NotProtected" : Str))), V.bl (decide (x = ("ProtectedError" : Str))), V.bl (decide (x = ("CapacityError" : Str))), V.bl (decide (x = ("NothingToUndo" : Str))), V.bl (decide (x = ("TooWide" : Str))), V.bl true]) := upd_same
  generalize upd (upd G7 q8 (HO.lst [V.bl (decide (x = ("NothingToUndo" : Str))), V.bl (decide (x = ("TooWide" : Str))), V.bl true])) m8 (HO.lst ([V.bl (decide (x = ("InvalidPolicy" : Str))), V.bl (decide (x = ("InvalidSnapshots" : Str))), V.bl (decide (x = ("InvalidText" : Str))), V.bl (decide (x = ("InvalidIndex" : Str))), V.bl (decide (x = ("InvalidTime" : Str))), V.bl (decide (x = ("InvalidSites" : Str))), V.bl (decide (x = ("InvalidScript" : Str))), V.bl (decide (x = ("InvalidSchedule" : Str))), V.bl (decide (x = ("InvalidNumber" : Str))), V.bl (decide (x = ("InvalidShapes" : Str))), V.bl (decide (x = ("InvalidStore" : Str))), V.bl (decide (x = ("AlreadyKnown" : Str))), V.bl (decide (x = ("NotPresent" : Str))), V.bl (decide (x = ("AlreadyProtected" : Str))), V.bl (decide (x = ("NotProtected" : Str))), V.bl (decide (x = ("ProtectedError" : Str))), V.bl (decide (x = ("CapacityError" : Str)))] ++ [V.bl (decide (x = ("NothingToUndo" : Str))), V.bl (decide (x = ("TooWide" : Str))), V.bl true])) = G8 at s8 g8 ⊢
  refine canonN (σ' := [some (V.ref p.1), some (V.ref m8), none, none, none]) (by rfl) ?_
  refine ⟨_, rfl, _, _, rfl, rfl, sz_le (by decide +kernel), _, rfl, _, _, rfl, rfl, sz_le (by decide +kernel), ?_⟩
  have hs := split_all
  have hwl : (((("InvalidPolicy InvalidSnapshots InvalidText InvalidIndex InvalidTime InvalidSites InvalidScript" : Str) ++ " InvalidSchedule InvalidNumber InvalidShapes InvalidStore AlreadyKnown NotPresent") ++ " AlreadyProtected NotProtected ProtectedError CapacityError NothingToUndo TooWide +")).length + 2 ≤ sizeLine := sz_le (by decide +kernel)
  generalize ((("InvalidPolicy InvalidSnapshots InvalidText InvalidIndex InvalidTime InvalidSites InvalidScript" : Str) ++ " InvalidSchedule InvalidNumber InvalidShapes InvalidStore AlreadyKnown NotPresent") ++ " AlreadyProtected NotProtected ProtectedError CapacityError NothingToUndo TooWide +") = wt at hs hwl ⊢
  refine canonN (σ' := [some (V.ref p.1), some (V.ref m8), some (V.str wt), none, none]) (by rfl) ?_
  refine ⟨⟨_, rfl⟩, _, rfl, ⟨_, rfl⟩, _, _, rfl, rfl, by decide, hwl, fun d nd => ?_⟩
  have sd := s8.trans (Same.upd (o := .lst ((Txt.split wt " ").map V.str)) nd)
  rw [hs] at sd ⊢
  refine ⟨_, rfl, d, m8, wordsA.map V.str, (flagsOf x).map V.bl, rfl, sqL upd_same, sqL (Same.upd nd _ _ g8), ?_⟩
  refine lc_itG (walk_zipH (xs := wordsA.map V.str) (ys := (flagsOf x).map V.bl) (by rw [List.length_map, List.length_map, flags_len]; exact Nat.le_refl 20)) (fun i acc _ => acc = (kept i x).map V.str) (by rw [List.length_map]; show 20 ≤ 100000; decide)
    (fun H' s => ⟨sqL (s _ _ upd_same), sqL (s _ _ (Same.upd nd _ _ g8))⟩) (fun _ _ _ _ _ h => h) rfl ?_ ?_
  · rintro i y acc H2 H3 N N0 hi sm hR ⟨t, x1, x2, rfl, ht, rfl, e1, e2⟩ hN hN0
    have e1 : (wordsA.map V.str)[i]? = some x1 := e1
    have e2 : ((flagsOf x).map V.bl)[i]? = some x2 := e2
    rw [List.getElem?_map] at e1 e2
    obtain ⟨y1, f1, rfl⟩ := Option.map_eq_some_iff.mp e1
    obtain ⟨b, f2, rfl⟩ := Option.map_eq_some_iff.mp e2
    refine ⟨t, _, rfl, sqT upd_same, rfl, ?_⟩
    refine ⟨_, _, rfl, ?_⟩
    refine ⟨_, _, rfl, ?_⟩
    refine ⟨rfl, ?_⟩
    refine ⟨wipe_two _ 3 4 _ _, ?_⟩
    refine ⟨_, rfl, b, rfl, ?_⟩
    cases b with
    | true => exact iteT ⟨_, rfl, hN _ _ (Same.upd ht) (by rw [kept_succ f1 f2, hR, List.map_append]; rfl)⟩
    | false => exact iteF (hN0 _ (Same.upd ht) (by rw [kept_succ f1 f2, hR]; simp))
  · intro acc H2 D sm hD hacc hR
    rw [List.length_map, show wordsA.length = 20 from rfl, kept_all x hx] at hR
    refine ⟨"", D, [x, "+"], rfl, rfl, .inl (sqL (by rw [hacc, hR])), len_all x hx, ?_⟩
    rw [join_all x hx]
    exact hQ _ (sd.trans sm)
end
end K19

set_option Elab.async false
set_option linter.all false
set_option maxRecDepth 100000
set_option maxHeartbeats 2000000
/-! the law's outcome of a call, by a lambda -/
namespace K19
open PySem PySem.Spec PyProof.Rows L2
open L2H (Hot1 HotC)
/-! ### what an outcome is -/
abbrev oN : List Str := ["_law_call_here", "_law_result", "_law_error_here"]
def Ech (K : PySem.W.Frag) (Q : VK) : XK := fun cls d H' => ∃ x, x ∈ raised ∧ cls = .ref (AG K x) ∧ d = none ∧ ∀ H2, Same H' H2 → Q (.str (x ++ "+")) H2
def TTout (K : PySem.W.Frag) : (XK → Hp → VK → Prop) → Hp → VK → Prop := fun tl H Q =>
  ∀ Q' : VK, (∀ v H', (∀ p, H' p = none → Q (.ref p) (upd H' p (.tup [.str "returned", v]))) → Q' v H') → tl (Ech K Q) H Q'
theorem sc_LawOutcome : FnScope ["_law_call_here", "_law_result", "_law_error_here"] ["_law_call_here"] (defScope sLawOutcome) := ⟨rfl, rfl, rfl, by decide +kernel, rfl, by decide +kernel, by decide +kernel⟩
theorem takes0N {X : Cx} : L2N.Takes X (fun _ _ _ _ => False) := fun _ _ x => by
  obtain ⟨_, _, _, _, _, _, _, _, _, _, _, _, _, _, _, _, z⟩ := x
  exact z.elim
theorem outcome_gives {X : Cx} (T : Tx X.K X.mg) {g : Addr} {cdg : Value} {q : Str} {k : Nat} (hk : 1 ≤ k) :
    GivesToN X oN "_law_outcome" (defScope sLawOutcome) g cdg (defBody sLawOutcome) "_law_call_here" k q (TTout X.K) := by
  intro f c' s H Q tl hr act hc h
  obtain ⟨fdN, FN, bN, kN⟩ := do_LawErrorNames (P := X.prog) (w := X.w) (base := X.base) T
  have hrH : L2H.RoomH 1 (X.A.deeper (envOfC "_law_outcome" (defScope sLawOutcome) s.heap.objs.size g cdg)) := (L2H.roomH_of hr).mono hk
  refine ⟨_, pss_cons (ps_set (i := 1) sc_LawOutcome.nd rfl (Or.inl rfl) pe_non) (pss_cons
    (ps_try_manyAs (X := (cxOf C8.CX0 X.prog X.w X.K X.mg X.base oN "_law_outcome" (defScope sLawOutcome) g cdg X.A X.stack s H C8.E0).nox) (i := 2) (n := "_law_error_here") (Wout := fun _ _ _ _ => False)
      (tb := fun W D σ H => ∃ E : XK, σ[0]? = some (some (.ref f)) ∧ H c' = some (LamX.CodeO c' q) ∧ (∀ cls d H', E cls d H' → W cls d σ H') ∧ tl E H (fun v H' => 2 ≤ sizeLine ∧ ∀ p, H' p = none → D.nx (σ.set 1 (some (.ref p))) (upd H' p (.tup [.str "returned", v]))))
      (l := [(.ref (AG X.K "TooWide"), fun _ _ _ _ _ _ => False), (.ref (AG X.K "RetentionError"), fun a cls d => tAsg (tCallS (spNames X.K a cls d) (fun _ => E0) (tCons (tVar 2) tNil)) (gName 1))])
      rfl rfl sc_LawOutcome.nd rfl rfl takes0N (fun W pn xe tk _ => ?body)
      (HdsAs.cons ⟨rfl, by decide, .inl (T.cls "TooWide" (by decide +kernel))⟩ (fun a oe cls d pn _ _ => ⟨fun _ _ _ _ _ _ h => h.elim⟩)
        (HdsAs.cons ⟨rfl, by decide, .inl (T.cls "RetentionError" (by decide +kernel))⟩ (fun a oe cls d pn hz hf => ?suite) HdsAs.nil)))
    (pss_one (ps_ret (pv 1)))), ?rd⟩
  case body =>
    refine ⟨fun pins s' σ H' D I h' => ?_⟩
    obtain ⟨E, h1, h2, hW, h3⟩ := h'
    exact (pss_one (ps_set (i := 1) sc_LawOutcome.nd rfl (Or.inl rfl) (pe_tup (pa_cons pe_str (pa_cons (act W pn xe E _ _ tk) pa_nil))))).run pins s' σ H' D I ⟨h1, h2, hW, h3⟩
  case suite =>
    refine pss_one (ps_set (i := 1) sc_LawOutcome.nd rfl (Or.inl rfl) (pe_callHp (p := (a, oe)) (E := fun _ => E0) FN ⟨hrH.dp, hrH.un⟩ ⟨rfl, ?_⟩ List.mem_cons_self hz.zc rfl (T.glo "_law_error_names" (by decide +kernel)) kN bN (fun σ pins H s e s' I c => c.elim) (pa_cons (pv 2) pa_nil)))
    obtain ⟨vs, e⟩ := hf
    exact ⟨vs, e, hz.2.2 vs e⟩
  case rd =>
    refine ⟨Ech X.K Q, rfl, hc, fun cls d H' h' => ?_, ?_⟩
    · obtain ⟨x, hx, rfl, rfl, hq⟩ := h'
      exact ⟨false, (T.exm x hx).1, (fun q => nomatch q), fun _ => ⟨true, (T.exm x hx).2, (fun _ a ha => ⟨_, rfl, x, hx, rfl, rfl, rfl, fun H2 s2 => ⟨_, rfl, hq H2 s2⟩⟩), (fun q => nomatch q)⟩⟩
    · exact h _ fun v H' hv => ⟨sz_le (n := 2) (by decide), fun p hp => ⟨_, rfl, hv p hp⟩⟩
/-! ### frames with tables of code objects -/
structure FrT (S : List Addr) (H H' : Hp) : Prop where
  keep : ∀ b o, H b = some o → b ∉ S → (∀ ps, o ≠ .tbl ps) → H' b = some o
  tup : Tk H H'
theorem FrT.refl (S : List Addr) (H : Hp) : FrT S H H := ⟨fun _ _ h _ _ => h, Tk.refl _⟩
theorem FrT.trans {S : List Addr} {H H1 H2 : Hp} (a : FrT S H H1) (b : FrT S H1 H2) : FrT S H H2 := ⟨fun c o h n z => b.keep c o (a.keep c o h n z) n z, a.tup.trans b.tup⟩
theorem FrT.of {S : List Addr} {H H' : Hp} (e : LamX.ExtN H H') : FrT S H H' := ⟨fun b o h _ z => e b o h z, fun b xs h => e b _ h (fun _ z => nomatch z)⟩
theorem FrT.fr {S : List Addr} {H H' : Hp} (e : Fr S H H') : FrT S H H' := ⟨fun b o h n _ => e.keep b o h n, e.tup⟩
theorem FrT.mono {S S' : List Addr} {H H' : Hp} (e : FrT S H H') (h : ∀ b ∈ S, b ∈ S') : FrT S' H H' := ⟨fun b o z n t => e.keep b o z (fun hb => n (h b hb)) t, e.tup⟩
theorem IsSto.keptT {C x pa : Addr} {S : List Addr} {H H' : Hp} {pol : List Rule} {hist : List S4} {cur : S4} (h : IsSto C x pa H pol hist cur) (e : FrT S H H') (hx : x ∉ S) (hp : pa ∉ S) : IsSto C x pa H' pol hist cur := by
  obtain ⟨dx, vp, v1, v2, v3, v4, pvs, h1, h2, h3, h4, h5, h6, h7, h8⟩ := h
  exact ⟨dx, vp, v1, v2, v3, v4, pvs, e.keep _ _ h1 hx (fun _ z => nomatch z), h2.mono e.tup, h3.mono e.tup, h4.mono e.tup, h5.mono e.tup, h6.mono e.tup, e.keep _ _ h7 hp (fun _ z => nomatch z), L2.Paired.mapP h8 fun _ _ q => q.mono e.tup⟩
theorem IsStates.keptT {S : List Addr} {H H' : Hp} {l : Addr} {hist : List S4} {cur : S4} (h : IsStates H l hist cur) (e : FrT S H H') (hl : l ∉ S) : IsStates H' l hist cur := by
  obtain ⟨vs, h1, h2⟩ := h
  exact ⟨vs, e.keep _ _ h1 hl (fun _ z => nomatch z), L2.Paired.mapP h2 fun _ _ z => z.mono e.tup⟩
theorem Src.keptT {S : List Addr} {H H' : Hp} {p : Addr} {k : Nat} (h : Src H p k) (e : FrT S H H') (hp : p ∉ S) : Src H' p k := by
  obtain ⟨a, b, c, h1, h2⟩ := h
  exact ⟨a, b, c, e.keep _ _ h1 hp (fun _ z => nomatch z), h2⟩
/-- the tables of the two defs that make lambdas -/
def q1 : Str := (envOfC "_law_execute" (defScope sLawExecute) 0 0 Value.none).qual ++ "<lambda>"
def q2 : Str := (envOfC "law" (defScope sLaw) 0 0 Value.none).qual ++ "<lambda>"
abbrev c1 (K : PySem.W.Frag) : Addr := (He.cT K ("_law_execute", none)).1
abbrev t1 (K : PySem.W.Frag) : Addr := (He.cT K ("_law_execute", none)).2
abbrev c2 (K : PySem.W.Frag) : Addr := (He.cT K ("law", none)).1
abbrev t2 (K : PySem.W.Frag) : Addr := (He.cT K ("law", none)).2
def tabs (K : PySem.W.Frag) : List (Addr × Str) := [(t1 K, q1), (t2 K, q2)]
/-- tables stay through a change of lists and instances -/
theorem tabs_fr {T : List (Addr × Str)} {S : List Addr} {H H' : Hp} (t : LamX.Tabs T H) (e : Fr S H H') (hS : ∀ b ∈ S, (∃ C dx fs, H b = some (.ins C dx fs)) ∨ ∃ xs, H b = some (.lst xs)) : LamX.Tabs T H' := by
  intro p hp
  obtain ⟨ps, h1, h2, h3⟩ := t p hp
  have nS : ∀ b o, H b = some o → (∀ C dx fs, o ≠ .ins C dx fs) → (∀ xs, o ≠ .lst xs) → b ∉ S := fun b o hb z1 z2 hm => by
    rcases hS b hm with ⟨C, dx, fs, q⟩ | ⟨xs, q⟩
    · rw [hb] at q
      exact z1 _ _ _ (Option.some.inj q)
    · rw [hb] at q
      exact z2 _ (Option.some.inj q)
  refine ⟨ps, e.keep _ _ h1 (nS _ _ h1 (fun _ _ _ z => nomatch z) (fun _ z => nomatch z)), h2, fun pos cv hc => ?_⟩
  obtain ⟨c, e1, e2⟩ := h3 pos cv hc
  exact ⟨c, e1, e.keep _ _ e2 (nS _ _ e2 (fun _ _ _ z => by unfold LamX.CodeO at z; cases z) (fun _ z => by unfold LamX.CodeO at z; cases z))⟩
theorem tabs_s {T : List (Addr × Str)} {H H' : Hp} (t : LamX.Tabs T H) (e : Same H H') : LamX.Tabs T H' := t.ext e
theorem step_err {pol : List Rule} {hist : List S4} {cur : S4} {wd : Wd} {v : V} {e : Str} (h : step pol hist cur wd v = .error e) : e ∈ raised := by
  have m1 : ("InvalidTime" : Str) ∈ raised := by decide +kernel
  have m2 : ("AlreadyKnown" : Str) ∈ raised := by decide +kernel
  have m3 : ("NotPresent" : Str) ∈ raised := by decide +kernel
  have m4 : ("AlreadyProtected" : Str) ∈ raised := by decide +kernel
  have m5 : ("NotProtected" : Str) ∈ raised := by decide +kernel
  have m6 : ("ProtectedError" : Str) ∈ raised := by decide +kernel
  have m7 : ("NothingToUndo" : Str) ∈ raised := by decide +kernel
  cases wd with
  | prune => simp only [step] at h; cases h
  | undo =>
    simp only [step] at h
    cases c : hist.getLast? <;> rw [c] at h <;> cases h
    exact m7
  | add =>
    simp only [step] at h
    cases c : tval v with
    | none => rw [c] at h; cases h; exact m1
    | some i =>
      rw [c] at h
      by_cases m : i ∈ cur.k
      · simp only [if_pos m] at h; cases h; exact m2
      · simp only [if_neg m] at h; cases h
  | protect =>
    simp only [step] at h
    cases c : tval v with
    | none => rw [c] at h; cases h; exact m1
    | some i =>
      rw [c] at h
      by_cases mp : i ∈ cur.p
      · by_cases m : i ∈ cur.f
        · simp only [if_neg (fun z : ¬ i ∈ cur.p => z mp), if_pos m] at h; cases h; exact m4
        · simp only [if_neg (fun z : ¬ i ∈ cur.p => z mp), if_neg m] at h; cases h
      · simp only [if_pos mp] at h; cases h; exact m3
  | release =>
    simp only [step] at h
    cases c : tval v with
    | none => rw [c] at h; cases h; exact m1
    | some i =>
      rw [c] at h
      by_cases mp : i ∈ cur.p
      · by_cases m : i ∈ cur.f
        · simp only [if_neg (fun z : ¬ i ∈ cur.p => z mp), if_neg (fun z : ¬ i ∈ cur.f => z m)] at h; cases h
        · simp only [if_neg (fun z : ¬ i ∈ cur.p => z mp), if_pos m] at h; cases h; exact m5
      · simp only [if_pos mp] at h; cases h; exact m3
  | delete =>
    simp only [step] at h
    cases c : tval v with
    | none => rw [c] at h; cases h; exact m1
    | some i =>
      rw [c] at h
      by_cases mp : i ∈ cur.p
      · by_cases m : i ∈ cur.f
        · simp only [if_neg (fun z : ¬ i ∈ cur.p => z mp), if_pos m] at h; cases h; exact m6
        · simp only [if_neg (fun z : ¬ i ∈ cur.p => z mp), if_neg m] at h; cases h
      · simp only [if_pos mp] at h; cases h; exact m3
/-! ### the call by a lambda -/
theorem pe_outcome {X : Cx} {Tt : List (Addr × Str)} {c P : Addr} {k : Nat} {params : Arguments} {body : Expr} {scope : Scope} {t : XK → TE} {p lpos pos : Pos} (T : Tx X.K X.mg) (TB : LamX.TabB X.base X.mg c P) (hcode : X.env.code = .ref c)
    (hmT : (P, X.env.qual ++ "<lambda>") ∈ Tt) (hu : ∀ p ∈ Tt, p.1 = P → p.2 = X.env.qual ++ "<lambda>") (hr : Room (k + 2) X.A) (L : LamX.LamS X.env.scope scope) (hdef : defaultsOf params X.env = ([], []))
    (hbind : ∀ (q : Str) (cl : List (Str × Addr)) (pm cv ctv : Value), bindArgs (PySem.W.kla_fn "<lambda>" q params body scope cl pm cv ctv) ⟨[], []⟩ = pure [])
    (hbody : ∀ (A : Around) (outer : List Env) (s : Shared) (H : Hp) (E : XK) (f c' : Addr), Room k (A.deeper (LamX.lamEnv X scope s.heap.objs.size f c')) → PE (lamCxN X A outer s H E scope f c') body (t E))
    (hg : Gl X "_law_outcome" := by rfl) : PE X (.Call (.Name "_law_outcome" p) [.Lambda params body scope lpos] [] pos) (LamX.tLam Tt (TTout X.K) t) := by
  obtain ⟨fd, F0⟩ := T.def_ dLawOutcome (List.mem_of_getElem? (i := 16) rfl)
  have F : FunD X.K "_law_outcome" "_law_outcome" (defArgs sLawOutcome) (defBody sLawOutcome) (defScope sLawOutcome) [] [] (AG X.K "_law_outcome") fd := F0
  have hb : L2.Binds X.K fd ["_law_call_here"] [] := F.bindsN (fun _ _ _ _ _ _ us hl => match us, hl with | [_], _ => rfl)
  have hk := F.kp
  obtain ⟨oc, od, dV, kV, doc, pm, an, cdv, ct, osl, rfl, lk, hcd, _, _⟩ := F.ex
  exact pe_lamcallN (k := k) hg (T.glo "_law_outcome" (by decide +kernel)) hk lk hcd hb sc_LawOutcome rfl (.inl rfl) (outcome_gives T (by omega)) TB hcode hmT hu hr L hdef hbind hbody
section
variable {P : Program} {w : World} {K : PySem.W.Frag} {mg : Str → Option Value} {base : Heap}
def ExecQ (K : PySem.W.Frag) (x pa : Addr) (pol : List Rule) (H : Hp) (o : Out) (Q : VK) : Prop := match o with
  | .error e => ∀ H', FrT [] H H' → LamX.Tabs (tabs K) H' → Q (.str (e ++ "+")) H'
  | .ok (h, c, r) => ∀ H' a u, FrT [x, pa] H H' → LamX.Tabs (tabs K) H' → Sto K x pa H' pol h c → VRet H' u r → H' a = some (.tup [.str "returned", u]) → Q (.ref a) H'
def spExec (K : PySem.W.Frag) : Sp := fun vs H Q _ => ∃ (x pa : Addr) (pol : List Rule) (hist : List S4) (cur : S4) (wd : Wd) (v : V) (n : Nat), vs = [.ref x, .str wd.name, v] ∧ Sto K x pa H pol hist cur ∧ TimeV v ∧ Good n cur ∧ n ≤ 60 ∧ hist.length ≤ 1000 ∧ (∀ r ∈ pol, RuleOk r) ∧ LamX.Tabs (tabs K) H ∧
  ExecQ K x pa pol H (step pol hist cur wd v) Q
theorem exec_outc {x pa : Addr} {pol : List Rule} {hist : List S4} {cur : S4} {wd : Wd} {v : V} {H H1 : Hp} {Q Q' : VK} (eN : LamX.ExtN H H1) (T1 : LamX.Tabs (tabs K) H1) (sx : Sto K x pa H pol hist cur)
    (h : ExecQ K x pa pol H (step pol hist cur wd v) Q) (hq : ∀ v H', (∀ p, H' p = none → Q (.ref p) (upd H' p (.tup [.str "returned", v]))) → Q' v H') : Outc K x pa pol H1 (step pol hist cur wd v) Q' (Ech K Q) := by
  have s1 : Sto K x pa H1 pol hist cur := sx.keptT (S := []) (FrT.of eN) (by simp) (by simp)
  cases c : step pol hist cur wd v with
  | error e =>
    rw [c] at h
    exact fun H' s' => ⟨e, step_err c, rfl, rfl, fun H2 s2 => h H2 ((FrT.of eN).trans (FrT.fr (Fr.of (s'.trans s2)))) (tabs_s T1 (s'.trans s2))⟩
  | ok o =>
    obtain ⟨h', c', r⟩ := o
    rw [c] at h
    refine fun H' u f' sx' rv => hq u H' fun p hp => ?_
    have sp := Same.upd (o := .tup [.str "returned", u]) hp
    have ff := f'.trans (Fr.of sp)
    obtain ⟨dx, vp, v1, v2, v3, v4, pvs, g1, g2, g3, g4, g5, g6, g7, g8⟩ := s1
    refine h _ p u ((FrT.of eN).trans (FrT.fr ff)) (tabs_fr T1 ff fun b hb => ?_) (sx'.s sp) ?_ upd_same
    · have hb : b = x ∨ b = pa := by simpa using hb
      rcases hb with rfl | rfl
      · exact .inl ⟨_, _, _, g1⟩
      · exact .inr ⟨_, g7⟩
    · cases r with
      | none => exact rv
      | some ns => exact VInts.mono rv (Tk.of sp)
theorem sc_LawExecute : FnScope ["_law_store", "_law_word", "_law_time"] ["_law_store", "_law_word", "_law_time"] (defScope sLawExecute) := ⟨rfl, rfl, rfl, by decide +kernel, rfl, by decide +kernel, by decide +kernel⟩
theorem do_LawExecute (T : Tx K mg) (TB : LamX.TabB base mg (c1 K) (t1 K)) (ne : t1 K ≠ t2 K) : Does P w K mg base CX0 7 (AG K "_law_execute") ["_law_store", "_law_word", "_law_time"] (spExec K) := by
  obtain ⟨fd, F0⟩ := T.def_ dLawExecute (List.mem_of_getElem? (i := 26) rfl)
  have F : FunD K "_law_execute" "_law_execute" (defArgs sLawExecute) (defBody sLawExecute) (defScope sLawExecute) [] [] (AG K "_law_execute") fd := F0
  have hb : L2.Binds K fd ["_law_store", "_law_word", "_law_time"] [] := F.bindsN (fun _ _ _ _ _ _ us hl => match us, hl with | [_, _, _], _ => rfl)
  have hk := F.kp
  obtain ⟨oc, od, dV, kV, doc, pm, an, cdv, ct, osl, rfl, lk, hcd, _, _⟩ := F.ex
  obtain ⟨c, rfl⟩ := He.codeIn_ref hcd
  have ec : c1 K = c := He.codeOf_eq lk rfl
  rw [ec] at TB
  obtain ⟨fd_add, F_add, b_add, k_add⟩ := do_StAdd (P := P) (w := w) (base := base) T
  obtain ⟨fd_prune, F_prune, b_prune, k_prune⟩ := do_StPrune (P := P) (w := w) (base := base) T
  obtain ⟨fd_protect, F_protect, b_protect, k_protect⟩ := do_StProtect (P := P) (w := w) (base := base) T
  obtain ⟨fd_release, F_release, b_release, k_release⟩ := do_StRelease (P := P) (w := w) (base := base) T
  obtain ⟨fd_delete, F_delete, b_delete, k_delete⟩ := do_StDelete (P := P) (w := w) (base := base) T
  obtain ⟨fd_undo, F_undo, b_undo, k_undo⟩ := do_StUndo (P := P) (w := w) (base := base) T
  have hu : ∀ p ∈ tabs K, p.1 = t1 K → p.2 = q1 := fun p hp e => by
    have hp : p = (t1 K, q1) ∨ p = (t2 K, q2) := by simpa [tabs] using hp
    rcases hp with rfl | rfl
    · rfl
    · exact absurd e.symm ne
  refine ⟨_, fn_of lk hcd sc_LawExecute (fun vs H Q E h => by obtain ⟨x, pa, pol, hist, cur, wd, v, n, rfl, _⟩ := h; rfl) fun A outer s H vs Q E hr h => ⟨_, PSs.nox (pss_cons (ps_if (pt_cmpR op_eq (pv 1) (pe_str) (nomark _))
        (pss_one (ps_ret (pe_outcome (k := 4) (Tt := tabs K) T TB rfl List.mem_cons_self hu hr (LamX.lamS_by (sc := defScope sLawExecute) (by decide +kernel)) rfl (fun _ _ _ _ _ => rfl) (fun A outer s H E f c2 hr2 => pe_meth (pv 0) T.cl (T.meth "add" (by decide +kernel)) F_add hr2 b_add .nil (L2N.passes_call lamN_takes (fun _ _ _ _ h => h)) (pa_cons (pv 2) pa_nil)))))
        pss_nil)
      (pss_cons (ps_if (pt_cmpR op_eq (pv 1) (pe_str) (nomark _))
        (pss_one (ps_ret (pe_outcome (k := 4) (Tt := tabs K) T TB rfl List.mem_cons_self hu hr (LamX.lamS_by (sc := defScope sLawExecute) (by decide +kernel)) rfl (fun _ _ _ _ _ => rfl) (fun A outer s H E f c2 hr2 => pe_meth0 (pv 0) T.cl (T.meth "prune" (by decide +kernel)) F_prune (hr2.mono (by decide)) b_prune .nil (C8.pass0 (E := E))))))
        pss_nil)
      (pss_cons (ps_if (pt_cmpR op_eq (pv 1) (pe_str) (nomark _))
        (pss_one (ps_ret (pe_outcome (k := 4) (Tt := tabs K) T TB rfl List.mem_cons_self hu hr (LamX.lamS_by (sc := defScope sLawExecute) (by decide +kernel)) rfl (fun _ _ _ _ _ => rfl) (fun A outer s H E f c2 hr2 => pe_meth (pv 0) T.cl (T.meth "protect" (by decide +kernel)) F_protect hr2 b_protect .nil (L2N.passes_call lamN_takes (fun _ _ _ _ h => h)) (pa_cons (pv 2) pa_nil)))))
        pss_nil)
      (pss_cons (ps_if (pt_cmpR op_eq (pv 1) (pe_str) (nomark _))
        (pss_one (ps_ret (pe_outcome (k := 4) (Tt := tabs K) T TB rfl List.mem_cons_self hu hr (LamX.lamS_by (sc := defScope sLawExecute) (by decide +kernel)) rfl (fun _ _ _ _ _ => rfl) (fun A outer s H E f c2 hr2 => pe_meth (pv 0) T.cl (T.meth "release" (by decide +kernel)) F_release hr2 b_release .nil (L2N.passes_call lamN_takes (fun _ _ _ _ h => h)) (pa_cons (pv 2) pa_nil)))))
        pss_nil)
      (pss_cons (ps_if (pt_cmpR op_eq (pv 1) (pe_str) (nomark _))
        (pss_one (ps_ret (pe_outcome (k := 4) (Tt := tabs K) T TB rfl List.mem_cons_self hu hr (LamX.lamS_by (sc := defScope sLawExecute) (by decide +kernel)) rfl (fun _ _ _ _ _ => rfl) (fun A outer s H E f c2 hr2 => pe_meth (pv 0) T.cl (T.meth "delete" (by decide +kernel)) F_delete hr2 b_delete .nil (L2N.passes_call lamN_takes (fun _ _ _ _ h => h)) (pa_cons (pv 2) pa_nil)))))
        pss_nil)
      (pss_one (ps_ret (pe_outcome (k := 4) (Tt := tabs K) T TB rfl List.mem_cons_self hu hr (LamX.lamS_by (sc := defScope sLawExecute) (by decide +kernel)) rfl (fun _ _ _ _ _ => rfl) (fun A outer s H E f c2 hr2 => pe_meth0 (pv 0) T.cl (T.meth "undo" (by decide +kernel)) F_undo (hr2.mono (by decide)) b_undo .nil (L2N.passes_call lamN_takes (fun _ _ _ _ h => h))))))))))), ?rd⟩, hb, hk⟩
  case rd =>
    obtain ⟨x, pa, pol, hist, cur, wd, v, n, rfl, sx, tv, gd, hn, hl, hok, ht, h⟩ := h
    have sx0 := sx
    obtain ⟨dx, vp, v1, v2, v3, v4, pvs, hx, _⟩ := sx
    cases wd with
    | add =>
      refine ⟨_, rfl, rfl, _, rfl, ?_⟩
      refine iteE (by decide +kernel) ?_
      exact ⟨ht, fun H1 eN T1 Q' hq => ⟨_, rfl, x, dx, _, rfl, eN _ _ hx (fun _ z => nomatch z), rfl, _, rfl, x, pa, pol, hist, cur, v, n, rfl, sx0.keptT (S := []) (FrT.of eN) (by simp) (by simp), tv, gd, hn, hl, hok, exec_outc eN T1 sx0 h hq⟩⟩
    | prune =>
      refine ⟨_, rfl, rfl, _, rfl, ?_⟩
      refine iteD (by decide +kernel) ?_
      refine ⟨_, rfl, rfl, _, rfl, ?_⟩
      refine iteE (by decide +kernel) ?_
      exact ⟨ht, fun H1 eN T1 Q' hq => ⟨_, rfl, x, dx, _, rfl, eN _ _ hx (fun _ z => nomatch z), rfl, x, pa, pol, hist, cur, v, n, rfl, sx0.keptT (S := []) (FrT.of eN) (by simp) (by simp), tv, gd, hn, hl, hok, exec_outc eN T1 sx0 h hq⟩⟩
    | protect =>
      refine ⟨_, rfl, rfl, _, rfl, ?_⟩
      refine iteD (by decide +kernel) ?_
      refine ⟨_, rfl, rfl, _, rfl, ?_⟩
      refine iteD (by decide +kernel) ?_
      refine ⟨_, rfl, rfl, _, rfl, ?_⟩
      refine iteE (by decide +kernel) ?_
      exact ⟨ht, fun H1 eN T1 Q' hq => ⟨_, rfl, x, dx, _, rfl, eN _ _ hx (fun _ z => nomatch z), rfl, _, rfl, x, pa, pol, hist, cur, v, n, rfl, sx0.keptT (S := []) (FrT.of eN) (by simp) (by simp), tv, gd, hn, hl, hok, exec_outc eN T1 sx0 h hq⟩⟩
    | release =>
      refine ⟨_, rfl, rfl, _, rfl, ?_⟩
      refine iteD (by decide +kernel) ?_
      refine ⟨_, rfl, rfl, _, rfl, ?_⟩
      refine iteD (by decide +kernel) ?_
      refine ⟨_, rfl, rfl, _, rfl, ?_⟩
      refine iteD (by decide +kernel) ?_
      refine ⟨_, rfl, rfl, _, rfl, ?_⟩
      refine iteE (by decide +kernel) ?_
      exact ⟨ht, fun H1 eN T1 Q' hq => ⟨_, rfl, x, dx, _, rfl, eN _ _ hx (fun _ z => nomatch z), rfl, _, rfl, x, pa, pol, hist, cur, v, n, rfl, sx0.keptT (S := []) (FrT.of eN) (by simp) (by simp), tv, gd, hn, hl, hok, exec_outc eN T1 sx0 h hq⟩⟩
    | delete =>
      refine ⟨_, rfl, rfl, _, rfl, ?_⟩
      refine iteD (by decide +kernel) ?_
      refine ⟨_, rfl, rfl, _, rfl, ?_⟩
      refine iteD (by decide +kernel) ?_
      refine ⟨_, rfl, rfl, _, rfl, ?_⟩
      refine iteD (by decide +kernel) ?_
      refine ⟨_, rfl, rfl, _, rfl, ?_⟩
      refine iteD (by decide +kernel) ?_
      refine ⟨_, rfl, rfl, _, rfl, ?_⟩
      refine iteE (by decide +kernel) ?_
      exact ⟨ht, fun H1 eN T1 Q' hq => ⟨_, rfl, x, dx, _, rfl, eN _ _ hx (fun _ z => nomatch z), rfl, _, rfl, x, pa, pol, hist, cur, v, n, rfl, sx0.keptT (S := []) (FrT.of eN) (by simp) (by simp), tv, gd, hn, hl, hok, exec_outc eN T1 sx0 h hq⟩⟩
    | undo =>
      refine ⟨_, rfl, rfl, _, rfl, ?_⟩
      refine iteD (by decide +kernel) ?_
      refine ⟨_, rfl, rfl, _, rfl, ?_⟩
      refine iteD (by decide +kernel) ?_
      refine ⟨_, rfl, rfl, _, rfl, ?_⟩
      refine iteD (by decide +kernel) ?_
      refine ⟨_, rfl, rfl, _, rfl, ?_⟩
      refine iteD (by decide +kernel) ?_
      refine ⟨_, rfl, rfl, _, rfl, ?_⟩
      refine iteD (by decide +kernel) ?_
      exact ⟨ht, fun H1 eN T1 Q' hq => ⟨_, rfl, x, dx, _, rfl, eN _ _ hx (fun _ z => nomatch z), rfl, x, pa, pol, hist, cur, v, n, rfl, sx0.keptT (S := []) (FrT.of eN) (by simp) (by simp), tv, gd, hn, hl, hok, exec_outc eN T1 sx0 h hq⟩⟩
end
end K19

set_option Elab.async false
set_option linter.all false
set_option maxRecDepth 100000
set_option maxHeartbeats 2000000
/-! the law: its state, the look at the end of a turn -/
namespace K19
open PySem PySem.Spec PyProof.Rows L2
/-! ### list + list, read -/
theorem list_addW (l : Addr) (items : Array Value) (n : Nat) (b : Addr) (items2 : Array Value) (n2 : Nat) (sl sl2 : Array (Option Value)) (hc0 : items.size + items2.size ≤ sizeLine) :
    Meets (Builtin.«list.__add__» ⟨[.ref l, .ref b], []⟩) (fun _ R s => s.heap.get? l = some { cls := .type "list", dict := none, data := .seq items n, slots := sl } ∧ s.heap.get? b = some { cls := .type "list", dict := none, data := .seq items2 n2, slots := sl2 } ∧ R (.ok (.ret (Value.ref s.heap.objs.size))) { s with heap := s.heap.push { cls := Value.type "list", data := Data.seq (items ++ items2) }, toks := s.toks }) :=
  .of_wp fun prog w A R s h => by
    obtain ⟨hp, g, d, tk, os⟩ := s
    obtain ⟨hl, hb, h⟩ := h
    have f1 := AutoSeq1.idx_int
    have f2 := AutoSeq1.sub_tuple_tuple
    have f3 := AutoSeq1.sub_list_list
    have f4 := AutoSeq1.sub_tuple_list
    have f5 := AutoSeq1.sub_list_tuple
    wp_walk using AutoSeq1.wpAny_loadPart' hl, AutoSeq1.wpAny_loadPart' hb
    exact ⟨_, rfl, h⟩
def rCatQ (K : PySem.W.Frag) : R2 := fun x y H Q => ∃ l b xs zs, x = .ref l ∧ y = .ref b ∧ SqL K H l xs ∧ SqL K H b zs ∧ xs.length + zs.length ≤ sizeLine ∧ ∀ p, H p = none → Q (.ref p) (upd H p (.lst (xs ++ zs)))
theorem op_catQ {X : Cx} : OpR X (binaryOp .Add) (rCatQ X.K) := by
  intro pins s σ H x y v u Q I rx ry h
  obtain ⟨l, b, xs, zs, rfl, rfl, hH, hB, hz, q⟩ := h
  cases rx
  cases ry
  obtain ⟨its, r, p1, _⟩ := I.list hH
  obtain ⟨its2, r2, p2, _⟩ := I.list hB
  have l1 := r.length
  have l2 := r2.length
  obtain ⟨⟨oc, od, dt, sl⟩, n, e, c1, d1, s1⟩ := p1
  obtain ⟨⟨oc2, od2, dt2, sl2⟩, n2, e2, c2, d2, s2⟩ := p2
  simp only at c1 d1 s1 c2 d2 s2
  subst c1 d1 s1 c2 d2 s2
  refine concat_meets ⟨_, e, rfl⟩ ⟨_, e2, rfl⟩ noFill_list_add seq_list_add PySem.F.slot_list_add PySem.F.entry_list_add (PySem.F.args_list_add_2 _ _) (list_addW l its.toArray n b its2.toArray n2 sl sl2 (by rw [List.size_toArray, List.size_toArray]; omega)) ⟨e, e2, ?_⟩
  have ea : its.toArray ++ its2.toArray = (its ++ its2).toArray := by simp
  rw [ea]
  exact ⟨.ref _, _, I.lnew (t' := s.toks) (r.append r2) (by rw [List.length_append]; omega), rfl, q _ I.fresh⟩
theorem passN0 {X : Cx} : Passes (L2N.CX X.prog X.w) X (fun _ _ _ => False) := fun pins σ H s e s' I c => by
  obtain ⟨_, _, _, _, _, _, _, _, _, _, _, _, z⟩ := c
  exact z.elim
/-! ### the law's statements -/
def bodyOf : Stmt → List Stmt
  | .For _ _ b _ _ => b
  | _ => []
abbrev noS : Stmt := .Pass ⟨0, 0, 0, 0⟩
abbrev sOut : Stmt := (defBody sLaw).getD 0 noS
abbrev sInn : Stmt := (bodyOf sOut).getD 3 noS
abbrev sFin : Stmt := (bodyOf sInn).getD 4 noS
abbrev sUnd : Stmt := (bodyOf sOut).getD 4 noS
abbrev lawN : List Str := ["_law_script", "_law_cell", "_law_source_here", "_law_policy_here", "_law_turn", "_law_store", "_law_other", "_law_states", "_law_word", "_law_time", "_law_expected", "_law_before", "_law_result", "_law_value"]
theorem sc_Law : FnScope ["_law_script", "_law_cell", "_law_source_here", "_law_policy_here", "_law_turn", "_law_store", "_law_other", "_law_states", "_law_word", "_law_time", "_law_expected", "_law_before", "_law_result", "_law_value"] ["_law_script"] (defScope sLaw) := ⟨rfl, rfl, rfl, by decide +kernel, rfl, by decide +kernel, by decide +kernel⟩
abbrev LX (P : Program) (w : World) (K : PySem.W.Frag) (mg : Str → Option Value) (base : Heap) (f : Addr) (cdv : Value) (A : Around) (outer : List Env) (s : Shared) (H : Hp) (E : XK) : Cx := (cxOf CX0 P w K mg base lawN "law" (defScope sLaw) f cdv A outer s H E).nox
/-! ### what stands while the law runs -/
structure Lw (K : PySem.W.Frag) (H : Hp) (q : Addr) (cells : List V) (s x px y py l : Addr) (vp : V) (pol : List Rule) (hist : List S4) (cur : S4) (k n : Nat) : Prop where
  hq : H q = some (.lst cells)
  src : Src H s k
  vpol : VPol H vp pol
  ok : PolOk pol
  c4 : ∀ r ∈ pol, r.2.2 ≤ 4
  sx : Sto K x px H pol hist cur
  sy : Sto K y py H pol hist cur
  st : IsStates H l hist cur
  tb : LamX.Tabs (tabs K) H
  gd : ∀ z ∈ hist ++ [cur], Good n z
  hn : hist.length ≤ n
  h0 : (hist ++ [cur])[0]? = some s40
  dn : [s, px, py, q].Nodup
  nl : l ∉ [s, px, py, q]
  xy : x ≠ y
theorem sto_ins {K : PySem.W.Frag} {x px : Addr} {H : Hp} {pol : List Rule} {hist : List S4} {cur : S4} (h : Sto K x px H pol hist cur) : ∃ dx fs, H x = some (.ins (SC K) dx fs) ∧ (∀ m ∈ meths, fs.lookup m = none) ∧ ∃ pvs, H px = some (.lst pvs) := by
  obtain ⟨dx, vp, v1, v2, v3, v4, pvs, hx, _, _, _, _, _, hp, _⟩ := h
  refine ⟨dx, _, hx, ?_, pvs, hp⟩
  have key : ∀ m ∈ meths, m ≠ "policy" ∧ m ≠ "present" ∧ m ≠ "fixed" ∧ m ≠ "known" ∧ m ≠ "deleted" ∧ m ≠ "past" := by decide +kernel
  intro m hm
  obtain ⟨n1, n2, n3, n4, n5, n6⟩ := key m hm
  simp only [List.lookup, beq_eq_false_iff_ne.mpr n1, beq_eq_false_iff_ne.mpr n2, beq_eq_false_iff_ne.mpr n3, beq_eq_false_iff_ne.mpr n4, beq_eq_false_iff_ne.mpr n5, beq_eq_false_iff_ne.mpr n6]
theorem Lw.s {K : PySem.W.Frag} {H H' : Hp} {q : Addr} {cells : List V} {s x px y py l : Addr} {vp : V} {pol : List Rule} {hist : List S4} {cur : S4} {k n : Nat} (h : Lw K H q cells s x px y py l vp pol hist cur k n) (e : Same H H') : Lw K H' q cells s x px y py l vp pol hist cur k n :=
  ⟨e _ _ h.hq, h.src.s e, h.vpol.mono (Tk.of e), h.ok, h.c4, h.sx.s e, h.sy.s e, h.st.kept (Fr.of (S := []) e) (by simp), tabs_s h.tb e, h.gd, h.hn, h.h0, h.dn, h.nl, h.xy⟩
section
variable {P : Program} {w : World} {K : PySem.W.Frag} {mg : Str → Option Value} {base : Heap}
theorem notFirst_self (C : Addr) : PySem.W.notFirst K C (.ref C) = true := by
  unfold PySem.W.notFirst
  rw [show ((Value.ref C) == Value.ref C) = true from beq_self_eq_true _]
  rfl
def tFin (K : PySem.W.Frag) : TS := fun D σ H => ∃ (q : Addr) (cells : List V) (s x px y py l : Addr) (vp : V) (pol : List Rule) (hist : List S4) (cur : S4) (k n : Nat), Lw K H q cells s x px y py l vp pol hist cur k n ∧ n ≤ 60 ∧
  σ[3]? = some (some vp) ∧ σ[5]? = some (some (.ref x)) ∧ σ[6]? = some (some (.ref y)) ∧ σ[7]? = some (some (.ref l)) ∧ ∀ H', Same H H' → D.nx σ H'
theorem fin_ps (T : Tx K mg) {f : Addr} {cdv : Value} {A : Around} {outer : List Env} {s : Shared} {H : Hp} {E : XK} (hr : Room 7 (A.deeper (envOfC "law" (defScope sLaw) s.heap.objs.size f cdv))) : PS (LX P w K mg base f cdv A outer s H E) sFin (tFin K) := by
  have d_law_correct := do_LawCorrect (P := P) (w := w) (base := base) T
  obtain ⟨fd___eq__, F___eq__, b___eq__, k___eq__⟩ := do_StEq (P := P) (w := w) (base := base) T
  have hps : ∃ t, PS (LX P w K mg base f cdv A outer s H E) sFin t ∧ ∀ D σ H, tFin K D σ H → t D σ H := by
    refine ⟨_, (ps_if (PW.pt (pw_or (pt_not (pt_cmpR (op_ownEq (T.meth "__eq__" (by decide +kernel)) F___eq__ (hr.mono (by decide)) b___eq__ (C8.pass0 (E := E0))) (pv 5) (pv 6) (nomark _))) (pw_or (pt_cmpR (op_ownEq (T.meth "__eq__" (by decide +kernel)) F___eq__ (hr.mono (by decide)) b___eq__ (C8.pass0 (E := E0))) (pv 5) (pe_ix ix_tup (pe_ix ix_list (pv 7) (pe_un un_neg (pe_int)) (fun _ _ => rfl)) (pe_int) (fun _ _ => rfl)) (nomark _)) (pw_or1 (pt_not (pt_val (pf d_law_correct (hr.mono (by decide)) (T.glo "_law_correct" (by decide +kernel)) (pa_cons (pv 5) (pa_cons (pv 3) (pa_cons (pe_ix ix_list (pv 7) (pe_un un_neg (pe_int)) (fun _ _ => rfl)) pa_nil))))))))))
      (pss_one (ps_ret (pe_bl)))
      pss_nil), ?_⟩
    intro D σ H1 h
    obtain ⟨q, cells, s', x, px, y, py, l, vp, pol, hist, cur, k, n, lw, hn, h3, h5, h6, h7, hD⟩ := h
    have I := T.ins.1
    obtain ⟨dx, fx, hx, _⟩ := sto_ins lw.sx
    obtain ⟨dy, fy, hy, _⟩ := sto_ins lw.sy
    obtain ⟨vs, hl, hvs⟩ := lw.st
    obtain ⟨vs0, yv, rfl, hp0, vst⟩ := paired_concat hvs
    refine ⟨_, h5, _, h6, x, dx, _, .ref (SC K), rfl, hx, .base (.ins hy T.cl I.ha I.hn I.htk I.hm), notFirst_self _, x, .ref y, px, pol, hist, cur, rfl, lw.sx, .inl ⟨y, py, pol, hist, cur, rfl, lw.sy, fun H2 s2 => ?_⟩⟩
    rw [decide_eq_true (show pol = pol ∧ cur = cur from ⟨rfl, rfl⟩)]
    have vst2 := vst.mono (Tk.of s2)
    have vst3 := vst2
    obtain ⟨a0, w1, w2, w3, w4, rfl, ha0, ⟨a1, rfl, ha1⟩, _⟩ := vst2
    refine ⟨_, rfl, ?_⟩
    refine ⟨_, h5, _, h7, _, rfl, l, _, _, _, rfl, rfl, sqL (s2 _ _ hl), atI_last _ _, a0, _, _, _, rfl, rfl, sqT ha0, rfl, x, dx, _, .type "tuple", rfl, s2 _ _ hx, ty_tup ha1, T.ins.2.2, x, .ref a1, px, pol, hist, cur, rfl, lw.sx.s s2, .inr ⟨a1, _, rfl, ha1, ?_⟩⟩
    refine ⟨_, rfl, ?_⟩
    exact ⟨_, h5, _, h3, _, h7, _, rfl, l, _, _, _, rfl, rfl, sqL (s2 _ _ hl), atI_last _ _, x, px, pol, hist, cur, vp, .ref a0, n, rfl, lw.sx.s s2, lw.vpol.mono (Tk.of s2), vst3, lw.gd cur (by simp), hn, lw.ok.rules, fun H3 s3 => ⟨true, rfl, hD _ (s2.trans s3)⟩⟩
  obtain ⟨t, h1, h2⟩ := hps
  exact ⟨fun pins s' σ H' D I h => h1.run pins s' σ H' D I (h2 D σ H' h)⟩
end
end K19

set_option Elab.async false
set_option linter.all false
set_option maxRecDepth 100000
set_option maxHeartbeats 2000000
/-! the law: one turn -/
namespace K19
open PySem PySem.Spec PyProof.Rows L2
/-! ### a call keeps the states good -/
theorem get0_app {l : List S4} {x y : S4} (h : (l ++ [x])[0]? = some s40) : (l ++ [x] ++ [y])[0]? = some s40 := by
  rw [List.getElem?_append_left (by rw [List.length_append, List.length_singleton]; omega)]
  exact h
theorem step_new {n : Nat} {hist : List S4} {cur c : S4} (gd : ∀ z ∈ hist ++ [cur], Good n z) (hn : hist.length ≤ n) (h0 : (hist ++ [cur])[0]? = some s40) (g : Good (n + 1) c) :
    (∀ z ∈ (hist ++ [cur]) ++ [c], Good (n + 1) z) ∧ (hist ++ [cur]).length ≤ n + 1 ∧ ((hist ++ [cur]) ++ [c])[0]? = some s40 := by
  refine ⟨fun z hz => ?_, by rw [List.length_append, List.length_singleton]; omega, get0_app h0⟩
  rcases List.mem_append.mp hz with hz | hz
  · exact (gd z hz).mono (by omega)
  · rw [List.mem_singleton.mp hz]
    exact g
theorem step_good {n : Nat} {pol : List Rule} {hist h' : List S4} {cur c' : S4} {wd : Wd} {v : V} {r : Option (List Int)} (gd : ∀ z ∈ hist ++ [cur], Good n z) (hn : hist.length ≤ n) (h0 : (hist ++ [cur])[0]? = some s40)
    (h : step pol hist cur wd v = .ok (h', c', r)) : ((∀ z ∈ h' ++ [c'], Good (n + 1) z) ∧ h'.length ≤ n + 1 ∧ (h' ++ [c'])[0]? = some s40) ∧ ∀ ns, r = some ns → ns.length ≤ cur.p.length := by
  have gc := gd cur (by simp)
  cases wd with
  | prune =>
    simp only [step] at h
    cases h
    refine ⟨step_new gd hn h0 (good_prune pol gc), fun ns e => ?_⟩
    cases e
    exact len_minus _ _
  | undo =>
    simp only [step] at h
    rcases List.eq_nil_or_concat hist with e | ⟨hs, s, e⟩
    · subst e
      simp only [List.getLast?_nil] at h
      cases h
    · rw [List.concat_eq_append] at e
      subst e
      simp only [List.getLast?_append, List.getLast?_singleton, Option.some_or, List.dropLast_concat] at h
      cases h
      rw [List.length_append, List.length_singleton] at hn
      refine ⟨⟨fun z hz => (gd z (List.mem_append_left _ hz)).mono (by omega), by omega, ?_⟩, fun ns e => by cases e⟩
      rw [List.getElem?_append_left (by rw [List.length_append, List.length_singleton]; omega)] at h0
      exact h0
  | add =>
    simp only [step] at h
    cases c : tval v with
    | none => rw [c] at h; cases h
    | some i =>
      rw [c] at h
      by_cases m : i ∈ cur.k
      · simp only [if_pos m] at h; cases h
      · simp only [if_neg m] at h
        cases h
        exact ⟨step_new gd hn h0 (good_add gc i), fun ns e => by cases e⟩
  | protect =>
    simp only [step] at h
    cases c : tval v with
    | none => rw [c] at h; cases h
    | some i =>
      rw [c] at h
      by_cases mp : i ∈ cur.p
      · by_cases m : i ∈ cur.f
        · simp only [if_neg (fun z : ¬ i ∈ cur.p => z mp), if_pos m] at h; cases h
        · simp only [if_neg (fun z : ¬ i ∈ cur.p => z mp), if_neg m] at h
          cases h
          exact ⟨step_new gd hn h0 (good_prot gc mp), fun ns e => by cases e⟩
      · simp only [if_pos mp] at h; cases h
  | release =>
    simp only [step] at h
    cases c : tval v with
    | none => rw [c] at h; cases h
    | some i =>
      rw [c] at h
      by_cases mp : i ∈ cur.p
      · by_cases m : i ∈ cur.f
        · simp only [if_neg (fun z : ¬ i ∈ cur.p => z mp), if_neg (fun z : ¬ i ∈ cur.f => z m)] at h
          cases h
          exact ⟨step_new gd hn h0 (good_rel gc), fun ns e => by cases e⟩
        · simp only [if_neg (fun z : ¬ i ∈ cur.p => z mp), if_pos m] at h; cases h
      · simp only [if_pos mp] at h; cases h
  | delete =>
    simp only [step] at h
    cases c : tval v with
    | none => rw [c] at h; cases h
    | some i =>
      rw [c] at h
      by_cases mp : i ∈ cur.p
      · by_cases m : i ∈ cur.f
        · simp only [if_neg (fun z : ¬ i ∈ cur.p => z mp), if_pos m] at h; cases h
        · simp only [if_neg (fun z : ¬ i ∈ cur.p => z mp), if_neg m] at h
          cases h
          exact ⟨step_new gd hn h0 (good_del gc m), fun ns e => by cases e⟩
      · simp only [if_pos mp] at h; cases h
/-! ### what is returned, as data -/
def retD (r : Option (List Int)) : PyData := match r with
  | none => .none
  | some ns => intsD ns
theorem VRet.dp {K : PySem.W.Frag} {H : Hp} {v : V} {r : Option (List Int)} (h : VRet H v r) : Dp K H v (retD r) := by
  cases r with
  | none =>
    have h : v = .non := h
    rw [h]
    exact .non
  | some ns => exact VInts.dp h
theorem VRet.s {H H' : Hp} {v : V} {r : Option (List Int)} (h : VRet H v r) (e : Tk H H') : VRet H' v r := by
  cases r with
  | none => exact h
  | some ns => exact VInts.mono h e
theorem eqok_ret {r : Option (List Int)} (h : ∀ ns, r = some ns → ns.length ≤ 1000) : EqOk 2 (.tuple [.str "returned", retD r]) := by
  refine ⟨by show 2 ≤ 1000; decide, fun d hd => ?_⟩
  have hd : d = .str "returned" ∨ d = retD r := by simpa using hd
  rcases hd with rfl | rfl
  · exact True.intro
  · cases r with
    | none => exact True.intro
    | some ns => exact eqok_ints (h ns rfl)
theorem err_ne : ∀ e ∈ raised, decide (V.str (e ++ "+") = V.str "") = false := by decide +kernel
/-! ### the state kept -/
section
variable {K : PySem.W.Frag} {H H' : Hp} {q : Addr} {cells : List V} {s x px y py l : Addr} {vp : V} {pol : List Rule} {hist : List S4} {cur : S4} {k n : Nat}
structure LwNe (s x px y py l q : Addr) : Prop where
  sx : s ≠ x
  spx : s ≠ px
  sy : s ≠ y
  spy : s ≠ py
  sl : s ≠ l
  sq : s ≠ q
  xpx : x ≠ px
  xy : x ≠ y
  xpy : x ≠ py
  xl : x ≠ l
  xq : x ≠ q
  pxy : px ≠ y
  pxpy : px ≠ py
  pxl : px ≠ l
  pxq : px ≠ q
  ypy : y ≠ py
  yl : y ≠ l
  yq : y ≠ q
  pyl : py ≠ l
  pyq : py ≠ q
  lq : l ≠ q
theorem Lw.ne (h : Lw K H q cells s x px y py l vp pol hist cur k n) : LwNe s x px y py l q := by
  obtain ⟨dx, fx, hx, _, p1, hpx⟩ := sto_ins h.sx
  obtain ⟨dy, fy, hy, _, p2, hpy⟩ := sto_ins h.sy
  obtain ⟨_, _, _, hs, _⟩ := h.src
  obtain ⟨vs, hl, _⟩ := h.st
  have dn := h.dn
  have nl := h.nl
  simp only [List.nodup_cons, List.mem_cons, List.not_mem_nil, or_false, not_or] at dn nl
  obtain ⟨⟨d1, d2, d3⟩, ⟨d4, d5⟩, d6, _⟩ := dn
  obtain ⟨n1, n2, n3, n4⟩ := nl
  have il : ∀ {a b : Addr} {dx : Addr} {fs : List (Str × V)} {xs : List V}, H a = some (.ins (SC K) dx fs) → H b = some (.lst xs) → a ≠ b := fun ha hb => ne_of ha hb (fun z => nomatch z)
  exact ⟨(il hx hs).symm, d1, (il hy hs).symm, d2, fun e => n1 e.symm, d3, il hx hpx, h.xy, il hx hpy, il hx hl, il hx h.hq, (il hy hpx).symm, d4, fun e => n2 e.symm, d5, il hy hpy, il hy hl, il hy h.hq, fun e => n3 e.symm, d6, n4⟩
/-- a number was drawn -/
theorem Lw.drawn {k' : Nat} (h : Lw K H q cells s x px y py l vp pol hist cur k n) (f : Fr [s] H H') (sr : Src H' s k') : Lw K H' q cells s x px y py l vp pol hist cur k' n := by
  have d := h.ne
  obtain ⟨_, _, _, hs, _⟩ := h.src
  have m : ∀ {a : Addr}, s ≠ a → a ∉ [s] := fun n z => n (List.mem_singleton.mp z).symm
  exact ⟨f.keep _ _ h.hq (m d.sq), sr, h.vpol.mono f.tup, h.ok, h.c4, h.sx.kept f (m d.sx) (m d.spx), h.sy.kept f (m d.sy) (m d.spy), h.st.kept f (m d.sl), tabs_fr h.tb f (fun b hb => by rw [List.mem_singleton.mp hb]; exact .inr ⟨_, hs⟩), h.gd, h.hn, h.h0, h.dn, h.nl, h.xy⟩
/-- tables grew -/
theorem Lw.tabs (h : Lw K H q cells s x px y py l vp pol hist cur k n) (f : FrT [] H H') (t : LamX.Tabs (tabs K) H') : Lw K H' q cells s x px y py l vp pol hist cur k n :=
  ⟨f.keep _ _ h.hq (by simp) (fun _ z => nomatch z), h.src.keptT f (by simp), h.vpol.mono f.tup, h.ok, h.c4, h.sx.keptT f (by simp) (by simp), h.sy.keptT f (by simp) (by simp), h.st.keptT f (by simp), t, h.gd, h.hn, h.h0, h.dn, h.nl, h.xy⟩
end
section
variable {P : Program} {w : World} {K : PySem.W.Frag} {mg : Str → Option Value} {base : Heap}
/-- the law's slots -/
abbrev lwS (a : Addr) (x1 : Option V) (s : Addr) (vp : V) (x4 : Option V) (x y l : Addr) (x8 x9 x10 x11 x12 x13 : Option V) : L2.St := [some (.ref a), x1, some (.ref s), some vp, x4, some (.ref x), some (.ref y), some (.ref l), x8, x9, x10, x11, x12, x13]
def tTurn (K : PySem.W.Frag) : TS := fun D σ H => ∃ (q : Addr) (cells : List V) (s x px y py l : Addr) (vp : V) (pol : List Rule) (hist : List S4) (cur : S4) (k n : Nat) (a : Addr) (x1 x4 x8 x9 x10 x11 x12 x13 : Option V),
  σ = lwS a x1 s vp x4 x y l x8 x9 x10 x11 x12 x13 ∧ Lw K H q cells s x px y py l vp pol hist cur k n ∧ n < 60 ∧ k ≤ 100000 ∧
  ∀ H' l' h' c' x8 x9 x10 x11 x12 x13, Lw K H' q cells s x px y py l' vp pol h' c' (k + 6) (n + 1) → D.nx (lwS a x1 s vp x4 x y l' x8 x9 x10 x11 x12 x13) H'
theorem turn_ps (T : Tx K mg) (TB : LamX.TabB base mg (c1 K) (t1 K)) (ne : t1 K ≠ t2 K) {f : Addr} {cdv : Value} {A : Around} {outer : List Env} {s : Shared} {H : Hp} {E : XK} (hr : Room 7 (A.deeper (envOfC "law" (defScope sLaw) s.heap.objs.size f cdv))) :
    PSs (LX P w K mg base f cdv A outer s H E) (bodyOf sInn) (tTurn K) := by
  have d_law_call := do_LawCall (P := P) (w := w) (base := base) T
  have d_law_error := do_LawError (P := P) (w := w) (base := base) T
  have d_law_execute := do_LawExecute (P := P) (w := w) (base := base) T TB ne
  have d_law_after := do_LawAfter (P := P) (w := w) (base := base) T
  have d_law_equal := do_LawEqual (P := P) (w := w) (base := base) T 2
  obtain ⟨fd___eq__, F___eq__, b___eq__, k___eq__⟩ := do_StEq (P := P) (w := w) (base := base) T
  have hps : ∃ t, PSs (LX P w K mg base f cdv A outer s H E) (bodyOf sInn) t ∧ ∀ D σ H, tTurn K D σ H → t D σ H := by
    refine ⟨_, (pss_cons (ps_asg (pf d_law_call (hr.mono (by decide)) (T.glo "_law_call" (by decide +kernel)) (pa_cons (pv 2) (pa_cons (pe_ix ix_list (pv 7) (pe_un un_neg (pe_int)) (fun _ _ => rfl)) pa_nil))) (pg_tup rfl (pgs_cons (pg_name (i := 8) sc_Law.nd rfl (Or.inl rfl)) (pgs_cons (pg_name (i := 9) sc_Law.nd rfl (Or.inl rfl)) pgs_nil))))
      (pss_cons (ps_par3 (i := 10) (j := 11) (l := 12) rfl sc_Law.nd rfl rfl rfl (by decide) (by decide) (by decide) rfl rfl rfl (pa_cons (pf d_law_error (hr.mono (by decide)) (T.glo "_law_error" (by decide +kernel)) (pa_cons (pv 7) (pa_cons (pv 8) (pa_cons (pv 9) pa_nil)))) (pa_cons (pe_ix ix_list (pv 7) (pe_un un_neg (pe_int)) (fun _ _ => rfl)) (pa_cons (pf d_law_execute (hr.mono (by decide)) (T.glo "_law_execute" (by decide +kernel)) (pa_cons (pv 5) (pa_cons (pv 8) (pa_cons (pv 9) pa_nil)))) pa_nil))) (by rfl))
      (pss_cons (ps_if (PW.pt (pw_and (pt_cmpR op_ne (pv 10) (pe_str) (nomark _)) (pw_and1 (pt_cmpR op_ne (pv 12) (pv 10) (nomark _)))))
        (pss_one (ps_ret (pe_bl)))
        pss_nil)
      (pss_cons (ps_if (pt_cmpR op_eq (pv 10) (pe_str) (nomark _))
        (pss_cons (ps_asg (pf d_law_after (hr.mono (by decide)) (T.glo "_law_after" (by decide +kernel)) (pa_cons (pv 7) (pa_cons (pv 3) (pa_cons (pv 8) (pa_cons (pv 9) pa_nil))))) (pg_tup rfl (pgs_cons (pg_name (i := 7) sc_Law.nd rfl (Or.inl rfl)) (pgs_cons (pg_name (i := 13) sc_Law.nd rfl (Or.inl rfl)) pgs_nil))))
        (pss_cons (ps_if (PW.pt (pw_or (pt_not (pt_val (pf d_law_equal (hr.mono (by decide)) (T.glo "_law_equal" (by decide +kernel)) (pa_cons (pv 12) (pa_cons (pe_tup (pa_cons (pe_str) (pa_cons (pv 13) pa_nil))) pa_nil))))) (pw_or1 (pt_cmpR op_ne (pe_cmpR (op_ownEq (T.meth "__eq__" (by decide +kernel)) F___eq__ (hr.mono (by decide)) b___eq__ (C8.pass0 (E := E0))) (pv 5) (pv 6) (nomark _)) (pe_cmpR (op_eqD hr.units) (pv 11) (pe_ix ix_list (pv 7) (pe_un un_neg (pe_int)) (fun _ _ => rfl)) (nomark _)) (nomark _)))))
          (pss_one (ps_ret (pe_bl)))
          pss_nil)
        (pss_one (ps_expr (pf d_law_execute (hr.mono (by decide)) (T.glo "_law_execute" (by decide +kernel)) (pa_cons (pv 6) (pa_cons (pv 8) (pa_cons (pv 9) pa_nil))))))))
        pss_nil)
      (pss_one (fin_ps T hr)))))), ?_⟩
    intro D σ H0 h
    obtain ⟨q, cells, s', x, px, y, py, l, vp, pol, hist, cur, k, n, a, x1, x4, x8, x9, x10, x11, x12, x13, rfl, lw, hn, hk, hD⟩ := h
    have I := T.ins.1
    have gdc := lw.gd cur (by simp)
    have lpf := gdc.lpf
    have hnn := lw.hn
    obtain ⟨vs, hl, hvs⟩ := lw.st
    obtain ⟨vs0, yv, rfl, hp0, vst⟩ := paired_concat hvs
    -- the call
    refine ⟨_, rfl, _, rfl, _, rfl, l, _, _, _, rfl, rfl, sqL hl, atI_last _ _, s', k, yv, cur, rfl, lw.src, hk, vst, by omega, by omega, fun H1 ta wd v f1 sr1 hta tv => ?_⟩
    refine ⟨ta, _, rfl, sqT hta, rfl, .str wd.name, _, rfl, v, _, rfl, rfl, ?_⟩
    have lw1 := lw.drawn f1 sr1
    have nes := lw.ne
    have hl1 := f1.keep _ _ hl (fun z => nes.sl (List.mem_singleton.mp z).symm)
    have hvs1 := L2.Paired.mapP hvs fun _ _ z => z.mono f1.tup
    have vst1 := vst.mono f1.tup
    -- the three
    refine ⟨_, rfl, _, rfl, _, rfl, l, pol, hist, cur, wd, v, _, rfl, hl1, hvs1, tv, fun H2 s2 => ?_⟩
    have lw2 := lw1.s s2
    refine ⟨_, rfl, _, rfl, l, _, _, _, rfl, rfl, sqL (s2 _ _ hl1), atI_last _ _, ?_⟩
    refine ⟨_, rfl, _, rfl, _, rfl, x, px, pol, hist, cur, wd, v, n, rfl, lw2.sx, tv, gdc, by omega, by omega, lw.ok.rules, lw2.tb, ?_⟩
    cases c : step pol hist cur wd v with
    | error e =>
      intro H3 f3 t3
      have lw3 := lw2.tabs f3 t3
      have er := err_ne e (step_err c)
      refine ⟨_, _, _, rfl, ?_⟩
      refine ⟨_, rfl, rfl, _, rfl, ?_⟩
      show if (!decide (V.str (e ++ "+") = V.str "")) = true then _ else _
      rw [er]
      refine ⟨_, rfl, _, rfl, rfl, _, rfl, ?_⟩
      show if (!decide (V.str (e ++ "+") = V.str (e ++ "+"))) = true then _ else _
      rw [decide_eq_true (rfl : V.str (e ++ "+") = V.str (e ++ "+"))]
      refine ⟨_, rfl, rfl, _, rfl, ?_⟩
      show if decide (V.str (e ++ "+") = V.str "") = true then _ else _
      rw [er]
      exact ⟨q, cells, s', x, px, y, py, l, vp, pol, hist, cur, k + 6, n, lw3, by omega, rfl, rfl, rfl, rfl, fun H4 s4 => hD H4 l hist cur _ _ _ _ _ _ (let z := lw3.s s4; ⟨z.hq, z.src, z.vpol, z.ok, z.c4, z.sx, z.sy, z.st, z.tb, fun w hw => (z.gd w hw).mono (by omega), by omega, z.h0, z.dn, z.nl, z.xy⟩)⟩
    | ok o =>
      obtain ⟨h', c', r⟩ := o
      intro H3 ta2 u f3 t3 sx3 rv3 hta2
      have nx : ∀ {b : Addr}, x ≠ b → px ≠ b → b ∉ [x, px] := fun {b} n1 n2 z => by
        have z : b = x ∨ b = px := by simpa using z
        rcases z with z | z
        · exact n1 z.symm
        · exact n2 z.symm
      have ny : ∀ {b : Addr}, y ≠ b → py ≠ b → b ∉ [y, py] := fun {b} n1 n2 z => by
        have z : b = y ∨ b = py := by simpa using z
        rcases z with z | z
        · exact n1 z.symm
        · exact n2 z.symm
      have st3 := lw2.st.keptT f3 (nx nes.xl nes.pxl)
      have sy3 := lw2.sy.keptT f3 (nx nes.xy nes.pxy) (nx nes.xpy nes.pxpy)
      have src3 := lw2.src.keptT f3 (nx nes.sx.symm nes.spx.symm)
      have hq3 := f3.keep _ _ lw2.hq (nx nes.xq nes.pxq) (fun _ z => nomatch z)
      have vp3 := lw2.vpol.mono f3.tup
      have vb3 := (vst1.mono (Tk.of s2)).mono f3.tup
      refine ⟨_, _, _, rfl, ?_⟩
      refine ⟨_, rfl, rfl, _, rfl, ?_⟩
      show if (!decide (V.str "" = V.str "")) = true then _ else _
      rw [decide_eq_true (rfl : V.str "" = V.str "")]
      refine ⟨_, rfl, rfl, _, rfl, ?_⟩
      show if decide (V.str "" = V.str "") = true then _ else _
      rw [decide_eq_true (rfl : V.str "" = V.str "")]
      -- the state after
      refine ⟨_, rfl, _, rfl, _, rfl, _, rfl, l, vp, pol, hist, cur, wd, v, n, h', c', r, rfl, st3, vp3, lw.ok.rules, gdc, by omega, by omega, c, fun H4 ta3 l' vr s4 nl' hta3 st4 rv4 => ?_⟩
      refine ⟨ta3, _, rfl, sqT hta3, rfl, .ref l', _, rfl, vr, _, rfl, rfl, ?_⟩
      obtain ⟨⟨gd', hn', h0'⟩, lr⟩ := step_good lw.gd lw.hn lw.h0 c
      -- equal
      refine ⟨_, rfl, _, rfl, sz_le (n := 2) (by decide), fun t5 n5 => ?_⟩
      have s5 := Same.upd (o := .tup [.str "returned", vr]) n5
      refine ⟨.ref ta2, .ref t5, .tuple [.str "returned", retD r], rfl, .tup (sqT (s5 _ _ (s4 _ _ hta2))) (.cons (.str _) (.cons ((rv3.s (Tk.of (s4.trans s5))).dp) .nil)), .tup (sqT upd_same) (.cons (.str _) (.cons ((rv4.s (Tk.of s5)).dp) .nil)), eqok_ret (fun ns e => by have := lr ns e; omega), fun H6 s6 => ⟨true, rfl, ?_⟩⟩
      have s46 := (s4.trans s5).trans s6
      have sx6 := Sto.s sx3 s46
      have sy6 := Sto.s sy3 s46
      obtain ⟨dx, fx, hx6, _⟩ := sto_ins sx6
      obtain ⟨dy, fy, hy6, _⟩ := sto_ins sy6
      refine ⟨_, rfl, _, rfl, x, dx, _, .ref (SC K), rfl, hx6, .base (.ins hy6 T.cl I.ha I.hn I.htk I.hm), notFirst_self _, x, .ref y, px, pol, h', c', rfl, sx6, .inl ⟨y, py, pol, hist, cur, rfl, sy6, fun H7 s7 => ?_⟩⟩
      have s57 := (s5.trans s6).trans s7
      have s47 := s4.trans s57
      have st7 := st4.kept (Fr.of (S := []) s57) (by simp)
      have st70 := st7
      obtain ⟨ws, hl7, hws⟩ := st7
      obtain ⟨ws0, zv, rfl, _, vst7⟩ := paired_concat hws
      refine ⟨_, rfl, _, rfl, _, rfl, l', _, _, _, rfl, rfl, sqL hl7, atI_last _ _, stD cur, stD c', (vb3.mono (Tk.of s47)).dp, vst7.dp, dok_sh (dok_st _) (by decide), dok_sh (dok_st _) (by decide), rfl, _, rfl, ?_⟩
      rw [eqv_st, show decide (pol = pol ∧ c' = cur) = decide (cur = c') from decide_eq_decide.mpr ⟨fun z => z.2.symm, fun z => ⟨rfl, z.symm⟩⟩, decide_eq_true (rfl : V.bl (decide (cur = c')) = V.bl (decide (cur = c')))]
      -- the other store
      refine ⟨_, rfl, _, rfl, _, rfl, y, py, pol, hist, cur, wd, v, n, rfl, Sto.s sy3 s47, tv, gdc, by omega, by omega, lw.ok.rules, tabs_s t3 s47, ?_⟩
      rw [c]
      intro H8 ta8 u8 f8 t8 sy8 rv8 hta8
      have d1 := lw.dn
      have nl8 : l' ∉ [s', px, py, q] := fun z => by
        have z : l' = s' ∨ l' = px ∨ l' = py ∨ l' = q := by simpa using z
        rcases z with z | z | z | z
        · obtain ⟨_, _, _, hh, _⟩ := src3
          rw [z, hh] at nl'
          cases nl'
        · obtain ⟨_, _, _, _, _, hh⟩ := sto_ins sx3
          rw [z, hh] at nl'
          cases nl'
        · obtain ⟨_, _, _, _, _, hh⟩ := sto_ins sy3
          rw [z, hh] at nl'
          cases nl'
        · rw [z, hq3] at nl'
          cases nl'
      have nyl : y ≠ l' := fun z => by
        obtain ⟨_, _, hh, _⟩ := sto_ins sy3
        rw [← z, hh] at nl'
        cases nl'
      have npl : py ≠ l' := fun z => by
        obtain ⟨_, _, _, _, _, hh⟩ := sto_ins sy3
        rw [← z, hh] at nl'
        cases nl'
      have lw8 : Lw K H8 q cells s' x px y py l' vp pol h' c' (k + 6) (n + 1) :=
        ⟨f8.keep _ _ (s47 _ _ hq3) (ny nes.yq nes.pyq) (fun _ z => nomatch z), (src3.s s47).keptT f8 (ny nes.sy.symm nes.spy.symm), (vp3.mono (Tk.of s47)).mono f8.tup, lw.ok, lw.c4, IsSto.keptT (Sto.s sx3 s47) f8 (ny nes.xy.symm nes.xpy.symm) (ny nes.pxy.symm nes.pxpy.symm), sy8, st70.keptT f8 (ny nyl npl), t8, gd', hn', h0', d1, nl8, lw.xy⟩
      exact ⟨q, cells, s', x, px, y, py, l', vp, pol, h', c', k + 6, n + 1, lw8, by omega, rfl, rfl, rfl, rfl, fun H9 s9 => hD H9 l' h' c' _ _ _ _ _ _ (lw8.s s9)⟩
  obtain ⟨t, h1, h2⟩ := hps
  exact ⟨fun pins s' σ H' D I h => h1.run pins s' σ H' D I (h2 D σ H' h)⟩
end
end K19

set_option Elab.async false
set_option linter.all false
set_option maxRecDepth 100000
set_option maxHeartbeats 2000000
/-! the law -/
namespace K19
open PySem PySem.Spec PyProof.Rows L2
section
variable {P : Program} {w : World} {K : PySem.W.Frag} {mg : Str → Option Value} {base : Heap}
/-- what stands behind the turns -/
structure Lz (K : PySem.W.Frag) (H : Hp) (q : Addr) (cells : List V) (x px : Addr) (vp : V) (pol : List Rule) (hist : List S4) (cur : S4) : Prop where
  hq : H q = some (.lst cells)
  sx : Sto K x px H pol hist cur
  vpol : VPol H vp pol
  tb : LamX.Tabs (tabs K) H
theorem Lz.s {H H' : Hp} {q : Addr} {cells : List V} {x px : Addr} {vp : V} {pol : List Rule} {hist : List S4} {cur : S4} (h : Lz K H q cells x px vp pol hist cur) (e : Same H H') : Lz K H' q cells x px vp pol hist cur :=
  ⟨e _ _ h.hq, Sto.s h.sx e, h.vpol.mono (Tk.of e), tabs_s h.tb e⟩
theorem Lz.ext {H H' : Hp} {q : Addr} {cells : List V} {x px : Addr} {vp : V} {pol : List Rule} {hist : List S4} {cur : S4} (h : Lz K H q cells x px vp pol hist cur) (f : FrT [] H H') (t : LamX.Tabs (tabs K) H') : Lz K H' q cells x px vp pol hist cur :=
  ⟨f.keep _ _ h.hq (by simp) (fun _ z => nomatch z), IsSto.keptT h.sx f (by simp) (by simp), h.vpol.mono f.tup, t⟩
theorem cells_int {ns : List Int} {x : V} (h : x ∈ cutV ([V.int 0] ++ ns.map V.int) none (some 6)) : ∃ c, x = .int c := by
  unfold cutV at h
  have h := List.mem_of_mem_drop (List.mem_of_mem_take h)
  rcases List.mem_append.mp h with h | h
  · exact ⟨0, List.mem_singleton.mp h⟩
  · obtain ⟨i, _, rfl⟩ := List.mem_map.mp h
    exact ⟨i, rfl⟩
/-- a new instance: the rest as it was -/
theorem inst_same {H : Hp} {x dx C : Addr} (nx : H x = none) (nd : H dx = none) : Same H (upd (upd H dx (.own x)) x (.ins C dx [])) := fun b o e => by
  rw [upd_ne (ne_of_none e nx), upd_ne (ne_of_none e nd)]
  exact e
theorem inst_fr {H H' : Hp} {x dx C : Addr} (nx : H x = none) (nd : H dx = none) (f : Fr [x] (upd (upd H dx (.own x)) x (.ins C dx [])) H') : Same H H' := fun b o e =>
  f.keep _ _ (inst_same nx nd b o e) (fun z => by rw [List.mem_singleton.mp z, nx] at e; cases e)
def pol3 : List Rule := [(1, 0, 24), (3, 0, 24), (7, 0, 24)]
theorem pol3_ok : PolOk pol3 := by
  refine ⟨by decide, by decide, fun r hr => ?_, ?_⟩
  · have hr : r = (1, 0, 24) ∨ r = (3, 0, 24) ∨ r = (7, 0, 24) := by simpa [pol3] using hr
    rcases hr with rfl | rfl | rfl <;> exact ⟨by decide, by decide, by decide, by decide, by decide, by decide⟩
  · unfold pol3 shLt
    simp
theorem vals3 {H : Hp} {r1 r2 r3 p : Addr} {a1 a2 a3 : List V} (n1 : H r1 = none) (n2 : (upd H r1 (.tup a1)) r2 = none) (n3 : (upd (upd H r1 (.tup a1)) r2 (.tup a2)) r3 = none) (n4 : (upd (upd (upd H r1 (.tup a1)) r2 (.tup a2)) r3 (.tup a3)) p = none)
    (e1 : a1 = [.int 1, .int 0, .int 24]) (e2 : a2 = [.int 3, .int 0, .int 24]) (e3 : a3 = [.int 7, .int 0, .int 24]) : VPol (upd (upd (upd (upd H r1 (.tup a1)) r2 (.tup a2)) r3 (.tup a3)) p (.tup [.ref r1, .ref r2, .ref r3])) (.ref p) pol3 := by
  subst e1 e2 e3
  have s4 := Same.upd (o := .tup [.ref r1, .ref r2, .ref r3]) n4
  have s3 := (Same.upd (o := .tup [.int 7, .int 0, .int 24]) n3).trans s4
  have s2 := (Same.upd (o := .tup [.int 3, .int 0, .int 24]) n2).trans s3
  exact ⟨p, _, rfl, upd_same, .cons ⟨r1, rfl, s2 _ _ upd_same⟩ (.cons ⟨r2, rfl, s3 _ _ upd_same⟩ (.cons ⟨r3, rfl, s4 _ _ upd_same⟩ .nil))⟩
def spLaw (K : PySem.W.Frag) : Sp := fun vs H Q _ => ∃ (a : Addr) (ns : List Int), vs = [.ref a] ∧ SqL K H a (ns.map V.int) ∧ ns.length ≤ 1000 ∧ LamX.Tabs (tabs K) H ∧ ∀ H', Q (.bl true) H'
theorem do_Law (T : Tx K mg) (TB : LamX.TabB base mg (c1 K) (t1 K)) (TB2 : LamX.TabB base mg (c2 K) (t2 K)) (ne : t1 K ≠ t2 K) {fd : FuncData} (F : FunD K "law" "law" (defArgs sLaw) (defBody sLaw) (defScope sLaw) [] [] (AG K "law") fd) :
    FnOk P w K mg base CX0 8 (AG K "law") fd ["_law_script"] (spLaw K) := by
  obtain ⟨oc, od, dV, kV, doc, pm, an, cdv, ct, osl, rfl, lk, hcd, _, _⟩ := F.ex
  obtain ⟨c, rfl⟩ := He.codeIn_ref hcd
  have ec : c2 K = c := He.codeOf_eq lk rfl
  rw [ec] at TB2
  have d_law_source := do_LawSource (P := P) (w := w) (base := base) T
  have d_law_policy := do_LawPolicy (P := P) (w := w) (base := base) T
  obtain ⟨fd___init__, F___init__, b___init__, k___init__⟩ := do_StInit (P := P) (w := w) (base := base) T
  obtain ⟨fd___eq__, F___eq__, b___eq__, k___eq__⟩ := do_StEq (P := P) (w := w) (base := base) T
  obtain ⟨fd_undo, F_undo, b_undo, k_undo⟩ := do_StUndo (P := P) (w := w) (base := base) T
  have hu : ∀ p ∈ tabs K, p.1 = t2 K → p.2 = q2 := fun p hp e => by
    have hp : p = (t1 K, q1) ∨ p = (t2 K, q2) := by simpa [tabs] using hp
    rcases hp with rfl | rfl
    · exact absurd e ne
    · rfl
  refine fn_of lk hcd sc_Law (fun vs H Q E h => by obtain ⟨a, ns, rfl, _⟩ := h; rfl) fun A outer s H vs Q E hr h => ⟨_, PSs.nox (pss_cons (ps_for PassesOwn.never rfl (pi_list (pe_slice sl_list (pe_op op_catQ (pe_lst (pa_cons (pe_int) pa_nil)) (pv 0)) po_none (po_some (pe_int)))) (pg_name (i := 1) sc_Law.nd rfl (Or.inl rfl))
      (pss_cons (ps_set (i := 2) sc_Law.nd rfl (Or.inl rfl) (pf d_law_source (hr.mono (by decide)) (T.glo "_law_source" (by decide +kernel)) (pa_cons (pv 1) (pa_cons (pe_int) pa_nil))))
      (pss_cons (ps_set (i := 3) sc_Law.nd rfl (Or.inl rfl) (pf d_law_policy (hr.mono (by decide)) (T.glo "_law_policy" (by decide +kernel)) (pa_cons (pv 2) (pa_cons (pe_lst (pa_cons (pe_int) (pa_cons (pe_int) (pa_cons (pe_int) (pa_cons (pe_int) pa_nil))))) (pa_cons (pe_int) pa_nil)))))
      (pss_cons (ps_asg (pe_tup (pa_cons (pe_make T.mkr F___init__ (hr.mono (by decide)) rfl (T.cls "Store" (by decide +kernel)) b___init__ .nil (C8.pass0 (E := E0)) (pa_cons (pv 3) pa_nil)) (pa_cons (pe_make T.mkr F___init__ (hr.mono (by decide)) rfl (T.cls "Store" (by decide +kernel)) b___init__ .nil (C8.pass0 (E := E0)) (pa_cons (pv 3) pa_nil)) (pa_cons (pe_lst (pa_cons (pe_tup (pa_cons (pe_tup pa_nil) (pa_cons (pe_tup pa_nil) (pa_cons (pe_tup pa_nil) (pa_cons (pe_tup pa_nil) pa_nil))))) pa_nil)) pa_nil)))) (pg_tup rfl (pgs_cons (pg_name (i := 5) sc_Law.nd rfl (Or.inr rfl)) (pgs_cons (pg_name (i := 6) sc_Law.nd rfl (Or.inl rfl)) (pgs_cons (pg_name (i := 7) sc_Law.nd rfl (Or.inl rfl)) pgs_nil)))))
      (pss_cons (ps_for PassesOwn.never rfl (pi_range1 rfl (T.free "range" (by decide +kernel)) (pa_cons pe_int pa_nil)) (pg_name (i := 4) sc_Law.nd rfl (Or.inl rfl)) (turn_ps T TB ne hr))
      (pss_cons (ps_for PassesOwn.never rfl (pi_range1 rfl (T.free "range" (by decide +kernel)) (pa_cons (pe_op op_sub (pe_callB call_len_seq rfl (T.free "len" (by decide +kernel)) (by decide +kernel) (pa_cons (pv 7) pa_nil)) (pe_int)) pa_nil)) (pg_name (i := 4) sc_Law.nd rfl (Or.inl rfl))
        (pss_one (ps_expr (pe_meth0 (E := fun _ _ _ => False) (pv 5) T.cl (T.meth "undo" (by decide +kernel)) F_undo (hr.mono (by decide)) b_undo .nil passN0))))
      (pss_cons (ps_if (PW.pt (pw_or (pt_not (pt_cmpR (op_ownEq (T.meth "__eq__" (by decide +kernel)) F___eq__ (hr.mono (by decide)) b___eq__ (C8.pass0 (E := E0))) (pv 5) (pe_make T.mkr F___init__ (hr.mono (by decide)) rfl (T.cls "Store" (by decide +kernel)) b___init__ .nil (C8.pass0 (E := E0)) (pa_cons (pv 3) pa_nil)) (nomark _))) (pw_or1 (pt_cmpR op_ne (pe_outcome (k := 4) (Tt := tabs K) T TB2 rfl (List.mem_cons_of_mem _ List.mem_cons_self) hu (hr.mono (by decide)) (LamX.lamS_by (sc := defScope sLaw) (by decide +kernel)) rfl (fun _ _ _ _ _ => rfl) (fun A outer s H E f c2 hr2 => pe_meth0 (pv 5) T.cl (T.meth "undo" (by decide +kernel)) F_undo (hr2.mono (by decide)) b_undo .nil (L2N.passes_call lamN_takes (fun _ _ _ _ h => h)))) (pe_str) (nomark _)))))
        (pss_one (ps_ret (pe_bl)))
        pss_nil)
      (pss_one (ps_if (pt_cmpR (op_ownEq (T.meth "__eq__" (by decide +kernel)) F___eq__ (hr.mono (by decide)) b___eq__ (C8.pass0 (E := E0))) (pv 5) (pe_make T.mkr F___init__ (hr.mono (by decide)) rfl (T.cls "Store" (by decide +kernel)) b___init__ .nil (C8.pass0 (E := E0)) (pa_cons (pe_tup (pa_cons (pe_tup (pa_cons (pe_int) (pa_cons (pe_int) (pa_cons (pe_int) pa_nil)))) (pa_cons (pe_tup (pa_cons (pe_int) (pa_cons (pe_int) (pa_cons (pe_int) pa_nil)))) (pa_cons (pe_tup (pa_cons (pe_int) (pa_cons (pe_int) (pa_cons (pe_int) pa_nil)))) pa_nil)))) pa_nil)) (nomark _))
        (pss_one (ps_ret (pe_bl)))
        pss_nil)))))))))
    (pss_one (ps_ret (pe_bl)))), ?rd⟩
  case rd =>
    obtain ⟨a, ns, rfl, hS, hlen, hT, hQ⟩ := h
    refine ⟨sz_le (n := 1) (by decide), fun q0 n0 => ⟨_, rfl, q0, a, [V.int 0], ns.map V.int, rfl, rfl, sqL upd_same, sqLs (Same.upd n0) hS, by rw [List.length_map]; exact sz_le (n := 1 + ns.length) (by omega), fun q1' n1 => ⟨_, rfl, q1', _, rfl, sqL upd_same, fun q n2 => ⟨q, rfl, ⟨_, sqL upd_same⟩, ?_⟩⟩⟩⟩
    have sA := ((Same.upd (o := .lst [V.int 0]) n0).trans (Same.upd (o := .lst ([V.int 0] ++ ns.map V.int)) n1)).trans (Same.upd (o := .lst (cutV ([V.int 0] ++ ns.map V.int) none (some 6))) n2)
    have ci : ∀ x ∈ cutV ([V.int 0] ++ ns.map V.int) none (some 6), ∃ c, x = .int c := fun x hx => cells_int hx
    refine for_list (xs := cutV ([V.int 0] ++ ns.map V.int) none (some 6)) (fun _ σ H' => H' q = some (.lst (cutV ([V.int 0] ++ ns.map V.int) none (some 6))) ∧ LamX.Tabs (tabs K) H' ∧ ∃ x1 x2 x3 x4 x5 x6 x7 x8 x9 x10 x11 x12 x13, σ = [some (.ref a), x1, x2, x3, x4, x5, x6, x7, x8, x9, x10, x11, x12, x13])
      ⟨upd_same, tabs_s hT sA, _, _, _, _, _, _, _, _, _, _, _, _, _, rfl⟩ (fun i σ H' _ h => sqL h.1) ?_ (fun σ H' _ => hQ H')
    generalize cutV ([V.int 0] ++ ns.map V.int) none (some 6) = cells at ci ⊢
    rintro i xc σ H1 hx ⟨hq, tb, x1, x2, x3, x4, x5, x6, x7, x8, x9, x10, x11, x12, x13, rfl⟩
    obtain ⟨cc, rfl⟩ := ci xc (List.mem_of_getElem? hx)
    -- the source, the policy
    refine ⟨_, rfl, cc, 19, rfl, fun H2 s' sa ns' sr => ?_⟩
    refine ⟨_, rfl, sz_le (n := 4) (by decide), fun l0 nl0 => ?_⟩
    have sb := Same.upd (o := .lst [V.int 1, V.int 2, V.int 5, V.int 20]) nl0
    refine ⟨s', l0, 19, rfl, sr.s sb, by decide, upd_same, sr.ne nl0, fun H3 vp pol f3 sr3 hvp hok hc4 => ?_⟩
    have nqs : q ≠ s' := ne_of_none hq ns'
    have hq3 : H3 q = some (.lst cells) := f3.keep _ _ (sb _ _ (sa _ _ hq)) (fun z => nqs (List.mem_singleton.mp z))
    have tb3 : LamX.Tabs (tabs K) H3 := tabs_fr (tabs_s tb (sa.trans sb)) f3 (fun b hb => by rw [List.mem_singleton.mp hb]; obtain ⟨_, _, _, z, _⟩ := sr.s sb; exact .inr ⟨_, z⟩)
    -- the stores, the states
    refine ⟨_, rfl, fun x dx nx ndx nxd => ⟨x, dx, vp, pol, rfl, upd_same, hvp.mono (Tk.of (inst_same nx ndx)), hok, fun H4 px f4 npx sx4 => ⟨rfl, ?_⟩⟩⟩
    have s4 := inst_fr nx ndx f4
    refine ⟨_, rfl, fun y dy ny ndy nyd => ⟨y, dy, vp, pol, rfl, upd_same, hvp.mono (Tk.of (s4.trans (inst_same ny ndy))), hok, fun H5 py f5 npy sy5 => ⟨rfl, ?_⟩⟩⟩
    have s5 := inst_fr ny ndy f5
    refine ⟨sz0, fun e1 m1 => ⟨sz0, fun e2 m2 => ⟨sz0, fun e3 m3 => ⟨sz0, fun e4 m4 => ⟨sz_le (n := 4) (by decide), fun e5 m5 => ⟨sz_le (n := 1) (by decide), fun l m6 => ⟨sz_le (n := 3) (by decide), fun t m7 => ?_⟩⟩⟩⟩⟩⟩⟩
    refine ⟨t, _, rfl, sqT upd_same, rfl, .ref x, _, rfl, .ref y, _, rfl, .ref l, _, rfl, rfl, ?_⟩
    have z1 := Same.upd (o := .tup []) m1
    have z2 := Same.upd (o := .tup []) m2
    have z3 := Same.upd (o := .tup []) m3
    have z4 := Same.upd (o := .tup []) m4
    have z5 := Same.upd (o := .tup [V.ref e1, V.ref e2, V.ref e3, V.ref e4]) m5
    have z6 := Same.upd (o := .lst [V.ref e5]) m6
    have z7 := Same.upd (o := .tup [V.ref x, V.ref y, V.ref l]) m7
    have z67 := z6.trans z7
    have z57 := z5.trans z67
    have z47 := z4.trans z57
    have z37 := z3.trans z47
    have z27 := z2.trans z37
    have z17 := z1.trans z27
    have sx5 := Sto.s sx4 s5
    obtain ⟨dx5, fx5, hx5, _, pvx, hpx5⟩ := sto_ins sx5
    obtain ⟨dx4, fx4, hx4, _, pvx4, hpx4⟩ := sto_ins sx4
    obtain ⟨dy5, fy5, hy5, _, pvy, hpy5⟩ := sto_ins sy5
    have sr5 := (sr3.s s4).s s5
    obtain ⟨_, _, _, hs3, _⟩ := sr3
    have hq5 := s5 _ _ (s4 _ _ hq3)
    have inone : ∀ {b : Addr} {o : HO}, (upd (upd H4 dy (.own y)) y (.ins (SC K) dy [])) b = none → H4 b = some o → False := fun hb ho => by
      have := inst_same (C := SC K) ny ndy _ _ ho
      rw [hb] at this
      cases this
    have inoneX : ∀ {b : Addr} {o : HO}, (upd (upd H3 dx (.own x)) x (.ins (SC K) dx [])) b = none → H3 b = some o → False := fun hb ho => by
      have := inst_same (C := SC K) nx ndx _ _ ho
      rw [hb] at this
      cases this
    have lnone : ∀ {b : Addr} {o : HO}, H5 b = some o → l ≠ b := fun ho z => by
      have := ((((z1.trans z2).trans z3).trans z4).trans z5) _ _ ho
      rw [← z, m6] at this
      cases this
    have lw0 : Lw K (upd (upd (upd (upd (upd (upd (upd H5 e1 (.tup [])) e2 (.tup [])) e3 (.tup [])) e4 (.tup [])) e5 (.tup [V.ref e1, V.ref e2, V.ref e3, V.ref e4])) l (.lst [V.ref e5])) t (.tup [V.ref x, V.ref y, V.ref l])) q cells s' x px y py l vp pol [] s40 35 0 := by
      refine ⟨z17 _ _ hq5, sr5.s z17, hvp.mono (Tk.of ((s4.trans s5).trans z17)), hok, hc4, Sto.s sx5 z17, Sto.s sy5 z17, ?_, tabs_s tb3 ((s4.trans s5).trans z17), ?_, Nat.le_refl _, rfl, ?_, ?_, ?_⟩
      · exact ⟨[V.ref e5], z7 _ _ upd_same, .cons ⟨e5, .ref e1, .ref e2, .ref e3, .ref e4, rfl, z67 _ _ upd_same, ⟨e1, rfl, z27 _ _ upd_same⟩, ⟨e2, rfl, z37 _ _ upd_same⟩, ⟨e3, rfl, z47 _ _ upd_same⟩, ⟨e4, rfl, z57 _ _ upd_same⟩⟩ .nil⟩
      · intro z hz
        have hz : z = s40 := by simpa using hz
        rw [hz]
        exact good0
      · simp only [List.nodup_cons, List.mem_cons, List.not_mem_nil, or_false, not_or]
        refine ⟨⟨fun e => inoneX npx (by rw [← e]; exact hs3), fun e => inone npy (by rw [← e]; exact s4 _ _ hs3), fun e => nqs e.symm⟩, ⟨fun e => inone npy (by rw [← e]; exact hpx4), fun e => inoneX npx (by rw [e]; exact hq3)⟩, fun e => inone npy (by rw [e]; exact s4 _ _ hq3), by simp⟩
      · simp only [List.mem_cons, List.not_mem_nil, or_false, not_or]
        exact ⟨lnone (s5 _ _ (s4 _ _ hs3)), lnone hpx5, lnone hpy5, lnone hq5⟩
      · exact ne_of_none hx4 ny
    -- the turns
    refine ⟨60, rfl, by decide, by decide, ?_⟩
    refine for_range (lo := 0) (n := 60) (fun i σ H' => ∃ l hist cur x4 x8 x9 x10 x11 x12 x13, σ = lwS a (some (.int cc)) s' vp x4 x y l x8 x9 x10 x11 x12 x13 ∧ Lw K H' q cells s' x px y py l vp pol hist cur (35 + 6 * i) i)
      ⟨l, [], s40, _, _, _, _, _, _, _, rfl, lw0⟩ ?_ ?_
    · rintro i σ H6 hi ⟨l, hist, cur, x4, x8, x9, x10, x11, x12, x13, rfl, lw⟩
      refine ⟨q, cells, s', x, px, y, py, l, vp, pol, hist, cur, 35 + 6 * i, i, a, some (.int cc), some (.int (0 + (i : Nat))), x8, x9, x10, x11, x12, x13, rfl, lw, hi, by omega, fun H7 l' h' c' y8 y9 y10 y11 y12 y13 lw' => ⟨l', h', c', _, _, _, _, _, _, _, rfl, ?_⟩⟩
      have e : 35 + 6 * i + 6 = 35 + 6 * (i + 1) := by omega
      rw [← e]
      exact lw'
    rintro σ H6 ⟨l, hist, cur, x4, x8, x9, x10, x11, x12, x13, rfl, lw⟩
    have nes := lw.ne
    obtain ⟨vs, hl, hvs⟩ := lw.st
    have lvs : vs.length = hist.length + 1 := by
      have := hvs.length
      rw [List.length_append, List.length_singleton] at this
      exact this
    have hh := lw.hn
    -- all is undone
    refine ⟨_, rfl, l, _, rfl, .inl (sqL hl), _, _, rfl, rfl, _, rfl, by omega, by omega, ?_⟩
    refine for_range (lo := 0) (n := ((vs.length : Int) - 1).toNat) (fun i σ H' => ∃ h c x4, σ = lwS a (some (.int cc)) s' vp x4 x y l x8 x9 x10 x11 x12 x13 ∧ Lz K H' q cells x px vp pol h c ∧ h.length + i = hist.length ∧ (h ++ [c])[0]? = some s40 ∧ ∀ z ∈ h ++ [c], Good 60 z)
      ⟨hist, cur, _, rfl, ⟨lw.hq, lw.sx, lw.vpol, lw.tb⟩, rfl, lw.h0, lw.gd⟩ ?_ ?_
    · rintro i σ H7 hi ⟨h, c, x4, rfl, lz, hlen', h0, gd⟩
      obtain ⟨dx7, fx7, hx7, look, pv7, hp7⟩ := sto_ins lz.sx
      have hpos : 0 < h.length := by omega
      refine ⟨_, rfl, x, dx7, fx7, rfl, hx7, look "undo" (by decide +kernel), x, px, pol, h, c, .non, 60, rfl, lz.sx, .non, gd c (by simp), Nat.le_refl _, by omega, lw.ok.rules, ?_⟩
      rcases List.eq_nil_or_concat h with e | ⟨hs, z, e⟩
      · rw [e] at hpos
        cases hpos
      · rw [List.concat_eq_append] at e
        subst e
        simp only [step, List.getLast?_append, List.getLast?_singleton, Option.some_or, List.dropLast_concat]
        intro H8 u f8 sx8 rv8
        rw [List.length_append, List.length_singleton] at hlen'
        have nq8 : q ∉ [x, px] := fun z => by
          have z : q = x ∨ q = px := by simpa using z
          rcases z with z | z
          · exact nes.xq z.symm
          · exact nes.pxq z.symm
        refine ⟨hs, z, _, rfl, ⟨f8.keep _ _ lz.hq nq8, sx8, lz.vpol.mono f8.tup, tabs_fr lz.tb f8 (fun b hb => ?_)⟩, by omega, ?_, fun g hg => gd g (List.mem_append_left _ hg)⟩
        · have hb : b = x ∨ b = px := by simpa using hb
          rcases hb with rfl | rfl
          · exact .inl ⟨_, _, _, hx7⟩
          · exact .inr ⟨_, hp7⟩
        · rw [List.getElem?_append_left (by rw [List.length_append, List.length_singleton]; omega)] at h0
          exact h0
    rintro σ H7 ⟨h, c, x4, rfl, lz, hlen', h0, gd⟩
    have eh : h = [] := List.length_eq_zero_iff.mp (by omega)
    subst eh
    have ecs : c = s40 := by simpa using h0
    subst ecs
    have I := T.ins.1
    -- the store is as a new one
    refine ⟨_, rfl, _, rfl, fun z dz nz ndz nzd => ⟨z, dz, vp, pol, rfl, upd_same, lz.vpol.mono (Tk.of (inst_same nz ndz)), lw.ok, fun H8 pz f8 npz sz8 => ⟨rfl, ?_⟩⟩⟩
    have s8 := inst_fr nz ndz f8
    have lz8 := lz.s s8
    obtain ⟨dx8, fx8, hx8, look8, _⟩ := sto_ins lz8.sx
    obtain ⟨dz8, fz8, hz8, _⟩ := sto_ins sz8
    refine ⟨x, dx8, _, .ref (SC K), rfl, hx8, .base (.ins hz8 T.cl I.ha I.hn I.htk I.hm), notFirst_self _, x, .ref z, px, pol, [], s40, rfl, lz8.sx, .inl ⟨z, pz, pol, [], s40, rfl, sz8, fun H9 s9 => ?_⟩⟩
    rw [decide_eq_true (show pol = pol ∧ s40 = s40 from ⟨rfl, rfl⟩)]
    refine ⟨_, rfl, ?_⟩
    have lz9 := lz8.s s9
    -- nothing is left to undo
    refine ⟨lz9.tb, fun H10 eN T10 Q' hq' => ?_⟩
    have lz10 := lz9.ext (FrT.of eN) T10
    obtain ⟨dx10, fx10, hx10, look10, _⟩ := sto_ins lz10.sx
    refine ⟨_, rfl, x, dx10, fx10, rfl, hx10, look10 "undo" (by decide +kernel), x, px, pol, [], s40, .non, 60, rfl, lz10.sx, .non, gd s40 (by simp), Nat.le_refl _, by show 0 ≤ 1000; decide, lw.ok.rules, ?_⟩
    simp only [step, List.getLast?_nil]
    refine fun H11 s11 => ⟨"NothingToUndo", by decide +kernel, rfl, rfl, fun H12 s12 => ⟨rfl, _, rfl, ?_⟩⟩
    rw [show decide (V.str (("NothingToUndo" : Str) ++ "+") = V.str "NothingToUndo+") = true by decide +kernel]
    have lz12 := lz10.s (s11.trans s12)
    -- another policy: another store
    refine ⟨_, rfl, sz_le (n := 3) (by decide), fun r1 k1 => ⟨sz_le (n := 3) (by decide), fun r2 k2 => ⟨sz_le (n := 3) (by decide), fun r3 k3 => ⟨sz_le (n := 3) (by decide), fun rp k4 => fun z' dz' nz' ndz' nzd' => ?_⟩⟩⟩⟩
    have w1 := Same.upd (o := .tup [V.int 1, V.int 0, V.int 24]) k1
    have w2 := Same.upd (o := .tup [V.int 3, V.int 0, V.int 24]) k2
    have w3 := Same.upd (o := .tup [V.int 7, V.int 0, V.int 24]) k3
    have w4 := Same.upd (o := .tup [V.ref r1, V.ref r2, V.ref r3]) k4
    refine ⟨z', dz', .ref rp, pol3, rfl, upd_same, (vals3 k1 k2 k3 k4 rfl rfl rfl).mono (Tk.of (inst_same nz' ndz')), pol3_ok, fun H13 pz' f13 npz' sz13 => ⟨rfl, ?_⟩⟩
    have s13 := inst_fr nz' ndz' f13
    have lz13 := lz12.s ((((w1.trans w2).trans w3).trans w4).trans s13)
    obtain ⟨dx13, fx13, hx13, _⟩ := sto_ins lz13.sx
    obtain ⟨dz13, fz13, hz13, _⟩ := sto_ins sz13
    refine ⟨x, dx13, _, .ref (SC K), rfl, hx13, .base (.ins hz13 T.cl I.ha I.hn I.htk I.hm), notFirst_self _, x, .ref z', px, pol, [], s40, rfl, lz13.sx, .inl ⟨z', pz', pol3, [], s40, rfl, sz13, fun H14 s14 => ?_⟩⟩
    rw [decide_eq_false (show ¬ (pol = pol3 ∧ s40 = s40) from fun e => by
      have := lw.c4 (1, 0, 24) (by rw [e.1]; decide)
      exact absurd this (by decide))]
    have lz14 := lz13.s s14
    exact ⟨_, rfl, lz14.hq, lz14.tb, _, _, _, _, _, _, _, _, _, _, _, _, _, rfl⟩
end
end K19

set_option Elab.async false
set_option linter.all false
set_option maxRecDepth 100000
set_option maxHeartbeats 0
/-! the head: the top run once in the kernel, the facts told by a hook -/
namespace K19
open PySem PySem.Spec PyProof.Rows L2
abbrev R : PySem.W.OpenRow := PySem.W.OpenLaw.row PySem.Challenge.rw_prunemerge_k19_whole_stores_step_by_step
abbrev hk : PySem.W.Hook := He.hookX 5 fa fn [] tf ex
def ob (s : PySem.W.SharedT) : He.AlX := He.obsX 5 fa fn [] tf ex (HandSHeadRun.getT s)
theorem ob_eq (s : PySem.W.SharedT) : ob s = hk.obs s.abs := He.obsX_eq (HandSHeadRun.getT_eq s)
theorem run (w : World) : HandSHeadRun.RunEq R (PySem.W.view R.prog [lawAt]) hk ob 12000 loose w := by
  intro os
  kernel_rfl
end K19

set_option Elab.async false
set_option linter.all false
set_option maxRecDepth 100000
set_option maxHeartbeats 2000000
/-! the facts, the end -/
namespace K19
open PySem PySem.Spec PyProof.Rows L2
theorem fa_G : faG = glos.map He.Fa.glo := rfl
theorem fa_C : faC = clss.map He.Fa.glo := rfl
theorem fa_F : faF = frees.map He.Fa.free := rfl
theorem fa_I : faI = numT.map (fun e => He.Fa.int e.1 e.2) := rfl
theorem fa_S : faS = [He.Fa.cls "Store", He.Fa.mkr "Store"] ++ flds.map (He.Fa.noat "Store") := rfl
theorem fa_M : faM = meths.map (He.Fa.meth "Store") := rfl
theorem fa_X : faX = raised.flatMap (fun x => [He.Fa.exc x, He.Fa.exm x "TooWide" false, He.Fa.exm x "RetentionError" true]) := rfl
theorem fa_mem {f : He.Fa} (h : f ∈ faG ∨ f ∈ faC ∨ f ∈ faF ∨ f ∈ faI ∨ f ∈ faS ∨ f ∈ faM ∨ f ∈ faX) : f ∈ fa := by
  unfold fa
  simp only [List.mem_append]
  rcases h with h | h | h | h | h | h | h
  · exact .inl (.inl (.inl (.inl (.inl (.inl h)))))
  · exact .inl (.inl (.inl (.inl (.inl (.inr h)))))
  · exact .inl (.inl (.inl (.inl (.inr h))))
  · exact .inl (.inl (.inl (.inr h)))
  · exact .inl (.inl (.inr h))
  · exact .inl (.inr h)
  · exact .inr h
theorem tx_of {w : World} {K : PySem.W.Frag} {h : Heap} {mg : Str → Option Value} (X : K.In h) (G : h.Ns mainGlobals mg) (c : He.SaysX fa fn [] tf ex w h K) : Tx K mg ∧ t1 K ≠ t2 K := by
  have D : ∀ {f : He.Fa}, f ∈ faG ∨ f ∈ faC ∨ f ∈ faF ∨ f ∈ faI ∨ f ∈ faS ∨ f ∈ faM ∨ f ∈ faX → f.ok K = true := fun hf => c.t.d.facts (fa_mem hf)
  have m := c.more
  unfold ex at m
  obtain ⟨m1, m3⟩ := He.ba m
  obtain ⟨m1, m2⟩ := He.ba m1
  have mx : ∀ x ∈ raised, excCB K (He.ga K x) = true ∧ kitsB K x = true := fun x hx => He.ba (List.all_eq_true.mp m1 x hx)
  have cl : Cls K (SC K) := He.cls_ok (D (.inr (.inr (.inr (.inr (.inl (by rw [fa_S]; simp)))))))
  refine ⟨⟨fun x hx => He.glo_ok X G (D (.inl (by rw [fa_G]; exact List.mem_map_of_mem hx))), fun x hx => He.glo_ok X G (D (.inr (.inl (by rw [fa_C]; exact List.mem_map_of_mem hx)))), fun x hx => He.free_ok X G (D (.inr (.inr (.inl (by rw [fa_F]; exact List.mem_map_of_mem hx))))),
    fun e he => He.int_ok X G (D (.inr (.inr (.inr (.inl (by rw [fa_I]; exact List.mem_map_of_mem (f := fun e : Str × Int => He.Fa.int e.1 e.2) he)))))), cl, He.mkr_ok (D (.inr (.inr (.inr (.inr (.inl (by rw [fa_S]; simp))))))),
    fun f hf => He.noat_ok (D (.inr (.inr (.inr (.inr (.inl (by rw [fa_S]; exact List.mem_append_right _ (List.mem_map_of_mem hf)))))))), fun m hm => He.meth_ok (D (.inr (.inr (.inr (.inr (.inr (.inl (by rw [fa_M]; exact List.mem_map_of_mem hm)))))))),
    fun x hx => He.exc_ok (D (.inr (.inr (.inr (.inr (.inr (.inr (by rw [fa_X]; exact List.mem_flatMap.mpr ⟨x, hx, by simp⟩)))))))),
    fun x hx => ⟨He.exm_ok (D (.inr (.inr (.inr (.inr (.inr (.inr (by rw [fa_X]; exact List.mem_flatMap.mpr ⟨x, hx, by simp⟩)))))))), He.exm_ok (D (.inr (.inr (.inr (.inr (.inr (.inr (by rw [fa_X]; exact List.mem_flatMap.mpr ⟨x, hx, by simp⟩))))))))⟩,
    fun x hx => excCB_ok (mx x hx).1, fun x hx y hy => ?_, fun x hx => ?_, insB_ok cl m2, fun d hd => c.t.d.defs hd⟩, ?_⟩
  · obtain ⟨h1, h2⟩ := He.ba (mx x hx).2
    exact of_decide_eq_true (List.all_eq_true.mp h1 y hy)
  · obtain ⟨h1, h2⟩ := He.ba (mx x hx).2
    exact of_decide_eq_true h2
  · intro e
    have m3 : (!decide (t1 K = t2 K)) = true := m3
    rw [decide_eq_true e] at m3
    cases m3
theorem law_at {P : Program} {w : World} {K : PySem.W.Frag} {h : Heap} {mg : Str → Option Value} {fa' : Addr} (X : K.In h) (G : h.Ns mainGlobals mg) (hfa : mg ("law" : Str) = some (.ref fa')) (c : He.SaysX fa fn [] tf ex w h K) :
    ∃ (fd : FuncData) (cs : List (Addr × Addr)) (sp : Sp), (∀ p ∈ cs, h.get? p.2 = some { cls := .none, data := .fields #[] }) ∧ (∀ p ∈ cs, K.lookup p.2 = none) ∧ (∀ p ∈ cs, PySem.W.CodeHd h p.1 p.2) ∧ (∀ (s : Shared) (u : Value), BindsTo s fd ⟨[u], []⟩ [("_law_script", u)]) ∧
    (∀ (H : Hp) (a : Addr) (ns : List Int), ns.length ≤ 63 → (∀ z ∈ ns, Builtin.Int.intBits z ≤ 1048576) → (∀ p ∈ cs, H p.2 = some (.tbl #[])) → SqL K H a (ns.map V.int) → sp [.ref a] H (fun v _ => v = .bl true) fun _ _ _ => False) ∧
    ∀ base : Heap, K.In base → base.Ns mainGlobals mg → (∀ p ∈ cs, LamX.TabB base mg p.1 p.2) → FnOk P w K mg base CX0 8 fa' fd ["_law_script"] sp := by
  obtain ⟨T, ne⟩ := tx_of X G c
  have e := hfa.symm.trans (T.glo "law" (by decide +kernel))
  cases e
  obtain ⟨fd, F0⟩ := T.def_ dLaw (List.mem_of_getElem? (i := 28) rfl)
  have F : FunD K "law" "law" (defArgs sLaw) (defBody sLaw) (defScope sLaw) [] [] (AG K "law") fd := F0
  have b := FunD.bindsA (ps := ["_law_script"]) F fun _ _ _ _ _ _ us hl => match us, hl with | [_], _ => rfl
  have mm : ∀ {p : Addr × Addr}, p ∈ tf.map (He.cT K) → ∃ d ∈ tf, He.cT K d = p := fun hp => List.mem_map.mp hp
  refine ⟨fd, tf.map (He.cT K), spLaw K, fun p hp => ?_, fun p hp => ?_, fun p hp => ?_, fun s v => b s [v] rfl, fun H a ns hl _ ht hS => ⟨a, ns, rfl, hS, by omega, ?_, fun _ => rfl⟩, fun base _ _ TB => ?_⟩
  · obtain ⟨d, hd, rfl⟩ := mm hp
    exact c.empty d hd
  · obtain ⟨d, hd, rfl⟩ := mm hp
    exact c.out d hd
  · obtain ⟨d, hd, rfl⟩ := mm hp
    exact PySem.W.codeHd_of_K X (c.hd d hd)
  · intro p hp
    have hp : p = (t1 K, q1) ∨ p = (t2 K, q2) := by simpa [tabs] using hp
    rcases hp with rfl | rfl
    · exact LamX.TabS.nil (ht _ (List.mem_map_of_mem (f := He.cT K) (show (("_law_execute", none) : He.Defn) ∈ tf from List.mem_cons_self)))
    · exact LamX.TabS.nil (ht _ (List.mem_map_of_mem (f := He.cT K) (show (("law", none) : He.Defn) ∈ tf from List.mem_cons_of_mem _ List.mem_cons_self)))
  · exact do_Law (P := P) (w := w) (base := base) T (TB _ (List.mem_map_of_mem (f := He.cT K) (show (("_law_execute", none) : He.Defn) ∈ tf from List.mem_cons_self))) (TB _ (List.mem_map_of_mem (f := He.cT K) (show (("law", none) : He.Defn) ∈ tf from List.mem_cons_of_mem _ List.mem_cons_self))) ne F
end K19
open PySem PySem.W PySem.Calls PyProof.Rows
theorem PySem.Challenge.cw_prunemerge_k19_whole_stores_step_by_step_holds : PySem.Challenge.rw_prunemerge_k19_whole_stores_step_by_step.Holds := by
  w_on; o_law
  refine HandSHeadRun.head_any (r := OpenLaw.row PySem.Challenge.rw_prunemerge_k19_whole_stores_step_by_step) (q := view (OpenLaw.row PySem.Challenge.rw_prunemerge_k19_whole_stores_step_by_step).prog [K19.lawAt]) (H := K19.hk) (ob := K19.ob) (M := 12000) (loose := K19.loose) (d := HandSHeadRun.topDef (OpenLaw.row PySem.Challenge.rw_prunemerge_k19_whole_stores_step_by_step).prog 61) (kwd := []) K19.ob_eq
    (by kernel_rfl) (fun s => by kernel_rfl) K19.run (by kernel_rfl) (by kernel_rfl) (by kernel_rfl) (by rfl) (by first | assumption | decide +kernel) (by decide +kernel) ⟨rfl, rfl, rfl, rfl, rfl, by decide +kernel⟩ ?hw ?hc
  case hw => w_witness2
  case hc =>
    refine LamX.walk_ofTsE (l := PySem.Challenge.rw_prunemerge_k19_whole_stores_step_by_step) (n := 63) (k := 8) (x := "_law_script") (CX := fun _ => K19.CX0) rfl (by decide) (by kernel_rfl) ⟨rfl, by decide, by decide⟩ ?F (fun _ _ _ _ _ z => z)
    intro w mg fa h Y G hmg0
    obtain ⟨K, KX, c⟩ := Y
    have hmg : mg ("law" : PySem.Str) = some (.ref fa) := by
      have e : (HandSHeadRun.topDef (OpenLaw.row PySem.Challenge.rw_prunemerge_k19_whole_stores_step_by_step).prog 61).name = ("law" : PySem.Str) := by kernel_rfl
      rw [← e]
      exact hmg0
    exact ⟨K, KX, K19.law_at KX G hmg c⟩

