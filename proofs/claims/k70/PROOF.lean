import PyProof.Rows.All
import Wide.All
import OpenK.AllK
import Wide.FinOn
import HandS.ForMost
import KE.KStateDown
import Lean
import HandS.Exc
import HandS.Defaults
import HandS.Head0
import HandS.Head1
import HandS.Head2
import HandS.HeadEnd
import HandS.HeadHook1
import HandS.HeadHook2
import HandS.HeadHook4
import HandS.Property
import HandS.EndBits
import KE.KIsAll
import HandS.ForExc
import HandS.Conv
import HandS.DictComp
import HandS.FStr
import HandS.IsInst
import HandS.MakeKwOnly
import HandS.Strs
import HandS.Style
import HandS.TupAny
import HandS.Wide
import HandS.Deep
import HandS.Walk
import KE.GoesEnum
import KE.KDictDisplayH
import KE.KIntText
import KE.GoesComp
import HandS.TupLen
import HandS.SetFor
import HandS.NoneIn
import HandS.CallSlots
import HandS.ExcIs
import HandS.WordsExc
import PySem.Challenge.RW_fewestheld_k70_whole_relations
set_option Elab.async false
set_option linter.all false
set_option maxRecDepth 100000
set_option maxHeartbeats 0
/-! The text by places. -/
namespace Fw
open PySem L2
def top (i : Nat) : Stmt := PySem.Challenge.pw_fewestheld_k70_whole_relations.main.body.getD i (.Pass ⟨0, 0, 0, 0⟩)
abbrev sR_Init : Stmt := inClass (top 8) 0
abbrev sR_Read : Stmt := inClass (top 8) 1
abbrev sR_Says : Stmt := inClass (top 8) 2
abbrev sPairsOf : Stmt := top 9
abbrev sCheckWords : Stmt := top 10
abbrev sKeyOf : Stmt := top 11
abbrev sFirstRow : Stmt := top 12
abbrev sIsWithin : Stmt := top 13
abbrev sRelation : Stmt := top 14
abbrev sFirstRows : Stmt := top 15
abbrev sIsName : Stmt := top 23
abbrev sAreDifferent : Stmt := top 24
abbrev sRequire : Stmt := top 25
abbrev sRequireNames : Stmt := top 26
abbrev sCheckedPlace : Stmt := top 27
abbrev sB_Init : Stmt := inClass (top 28) 0
abbrev sB_Asked : Stmt := inClass (top 28) 1
abbrev sB_CheckedRule : Stmt := inClass (top 28) 2
abbrev sB_CheckWord : Stmt := inClass (top 28) 5
abbrev sB_PlaceOf : Stmt := inClass (top 28) 6
abbrev sB_Slots : Stmt := inClass (top 28) 7
abbrev sB_Says : Stmt := inClass (top 28) 8
abbrev sB_Rule : Stmt := inClass (top 28) 9
abbrev sRow : Stmt := top 30
abbrev sNumbers : Stmt := top 31
abbrev sNames : Stmt := top 32
abbrev sDrawnRule : Stmt := top 33
abbrev sParts : Stmt := top 34
abbrev sPlace : Stmt := top 35
abbrev sAfter : Stmt := top 36
abbrev sLRead : Stmt := top 37
abbrev sLPairs : Stmt := top 38
abbrev sTriples : Stmt := top 40
abbrev sDrawnRow : Stmt := top 41
abbrev sMake : Stmt := top 42
abbrev sPermuted : Stmt := top 43
abbrev sSplit : Stmt := top 44
abbrev sIdle : Stmt := top 45
abbrev sLike : Stmt := top 46
abbrev sOther : Stmt := top 47
abbrev sDue : Stmt := top 48
abbrev sRefused : Stmt := top 49
abbrev sLaw : Stmt := top 50
abbrev sPlaceNames : Stmt := inClass (top 28) 3
end Fw

/-! The head: facts by names, the run. -/
namespace Fw
open PySem PySem.Spec PyProof.Rows L2
def dR_Init : He.DefD := ⟨("Reading", some "__init__"), "__init__", "Reading.__init__", defArgs sR_Init, defBody sR_Init, defScope sR_Init, [], []⟩
def dR_Read : He.DefD := ⟨("Reading", some "read"), "read", "Reading.read", defArgs sR_Read, defBody sR_Read, defScope sR_Read, [], []⟩
def dR_Says : He.DefD := ⟨("Reading", some "says_yes"), "says_yes", "Reading.says_yes", defArgs sR_Says, defBody sR_Says, defScope sR_Says, [], []⟩
def dPairsOf : He.DefD := ⟨("pairs_of", none), "pairs_of", "pairs_of", defArgs sPairsOf, defBody sPairsOf, defScope sPairsOf, [], []⟩
def dCheckWords : He.DefD := ⟨("check_words", none), "check_words", "check_words", defArgs sCheckWords, defBody sCheckWords, defScope sCheckWords, [], []⟩
def dKeyOf : He.DefD := ⟨("key_of", none), "key_of", "key_of", defArgs sKeyOf, defBody sKeyOf, defScope sKeyOf, [], []⟩
def dFirstRow : He.DefD := ⟨("first_row", none), "first_row", "first_row", defArgs sFirstRow, defBody sFirstRow, defScope sFirstRow, [], [("limit", .int 20000)]⟩
def dIsWithin : He.DefD := ⟨("is_within", none), "is_within", "is_within", defArgs sIsWithin, defBody sIsWithin, defScope sIsWithin, [], [("limit", .int 20000)]⟩
def dRelation : He.DefD := ⟨("relation", none), "relation", "relation", defArgs sRelation, defBody sRelation, defScope sRelation, [], [("limit", .int 20000)]⟩
def dFirstRows : He.DefD := ⟨("first_rows", none), "first_rows", "first_rows", defArgs sFirstRows, defBody sFirstRows, defScope sFirstRows, [], [("limit", .int 20000)]⟩
def dIsName : He.DefD := ⟨("is_name", none), "is_name", "is_name", defArgs sIsName, defBody sIsName, defScope sIsName, [], []⟩
def dAreDifferent : He.DefD := ⟨("are_different", none), "are_different", "are_different", defArgs sAreDifferent, defBody sAreDifferent, defScope sAreDifferent, [], []⟩
def dRequire : He.DefD := ⟨("require", none), "require", "require", defArgs sRequire, defBody sRequire, defScope sRequire, [], []⟩
def dRequireNames : He.DefD := ⟨("require_names", none), "require_names", "require_names", defArgs sRequireNames, defBody sRequireNames, defScope sRequireNames, [], []⟩
def dCheckedPlace : He.DefD := ⟨("checked_place", none), "checked_place", "checked_place", defArgs sCheckedPlace, defBody sCheckedPlace, defScope sCheckedPlace, [], []⟩
def dB_Init : He.DefD := ⟨("Book", some "__init__"), "__init__", "Book.__init__", defArgs sB_Init, defBody sB_Init, defScope sB_Init, [], []⟩
def dB_Asked : He.DefD := ⟨("Book", some "asked"), "asked", "Book.asked", defArgs sB_Asked, defBody sB_Asked, defScope sB_Asked, [], []⟩
def dB_CheckedRule : He.DefD := ⟨("Book", some "checked_rule"), "checked_rule", "Book.checked_rule", defArgs sB_CheckedRule, defBody sB_CheckedRule, defScope sB_CheckedRule, [], []⟩
def dB_CheckWord : He.DefD := ⟨("Book", some "check_word"), "check_word", "Book.check_word", defArgs sB_CheckWord, defBody sB_CheckWord, defScope sB_CheckWord, [], []⟩
def dB_PlaceOf : He.DefD := ⟨("Book", some "place"), "place", "Book.place", defArgs sB_PlaceOf, defBody sB_PlaceOf, defScope sB_PlaceOf, [], []⟩
def dB_Slots : He.DefD := ⟨("Book", some "slots"), "slots", "Book.slots", defArgs sB_Slots, defBody sB_Slots, defScope sB_Slots, [], []⟩
def dB_Says : He.DefD := ⟨("Book", some "says_yes"), "says_yes", "Book.says_yes", defArgs sB_Says, defBody sB_Says, defScope sB_Says, [], []⟩
def dB_Rule : He.DefD := ⟨("Book", some "rule"), "rule", "Book.rule", defArgs sB_Rule, defBody sB_Rule, defScope sB_Rule, [], []⟩
def dRow : He.DefD := ⟨("_law_row", none), "_law_row", "_law_row", defArgs sRow, defBody sRow, defScope sRow, [], []⟩
def dNumbers : He.DefD := ⟨("_law_numbers", none), "_law_numbers", "_law_numbers", defArgs sNumbers, defBody sNumbers, defScope sNumbers, [], []⟩
def dNames : He.DefD := ⟨("_law_names", none), "_law_names", "_law_names", defArgs sNames, defBody sNames, defScope sNames, [], []⟩
def dDrawnRule : He.DefD := ⟨("_law_drawn_rule", none), "_law_drawn_rule", "_law_drawn_rule", defArgs sDrawnRule, defBody sDrawnRule, defScope sDrawnRule, [], []⟩
def dParts : He.DefD := ⟨("_law_parts", none), "_law_parts", "_law_parts", defArgs sParts, defBody sParts, defScope sParts, [], []⟩
def dPlace : He.DefD := ⟨("_law_place", none), "_law_place", "_law_place", defArgs sPlace, defBody sPlace, defScope sPlace, [], []⟩
def dAfter : He.DefD := ⟨("_law_after", none), "_law_after", "_law_after", defArgs sAfter, defBody sAfter, defScope sAfter, [], []⟩
def dLRead : He.DefD := ⟨("_law_read", none), "_law_read", "_law_read", defArgs sLRead, defBody sLRead, defScope sLRead, [], []⟩
def dLPairs : He.DefD := ⟨("_law_pairs", none), "_law_pairs", "_law_pairs", defArgs sLPairs, defBody sLPairs, defScope sLPairs, [], []⟩
def dTriples : He.DefD := ⟨("_law_triples", none), "_law_triples", "_law_triples", defArgs sTriples, defBody sTriples, defScope sTriples, [], []⟩
def dDrawnRow : He.DefD := ⟨("_law_drawn_row", none), "_law_drawn_row", "_law_drawn_row", defArgs sDrawnRow, defBody sDrawnRow, defScope sDrawnRow, [], []⟩
def dMake : He.DefD := ⟨("_law_make", none), "_law_make", "_law_make", defArgs sMake, defBody sMake, defScope sMake, [], []⟩
def dPermuted : He.DefD := ⟨("_law_permuted", none), "_law_permuted", "_law_permuted", defArgs sPermuted, defBody sPermuted, defScope sPermuted, [], []⟩
def dSplit : He.DefD := ⟨("_law_split", none), "_law_split", "_law_split", defArgs sSplit, defBody sSplit, defScope sSplit, [], []⟩
def dIdle : He.DefD := ⟨("_law_idle", none), "_law_idle", "_law_idle", defArgs sIdle, defBody sIdle, defScope sIdle, [], []⟩
def dLike : He.DefD := ⟨("_law_like", none), "_law_like", "_law_like", defArgs sLike, defBody sLike, defScope sLike, [], []⟩
def dOther : He.DefD := ⟨("_law_other", none), "_law_other", "_law_other", defArgs sOther, defBody sOther, defScope sOther, [], []⟩
def dDue : He.DefD := ⟨("_law_due", none), "_law_due", "_law_due", defArgs sDue, defBody sDue, defScope sDue, [], []⟩
def dRefused : He.DefD := ⟨("_law_refused", none), "_law_refused", "_law_refused", defArgs sRefused, defBody sRefused, defScope sRefused, [], []⟩
def dLaw : He.DefD := ⟨("law", none), "law", "law", defArgs sLaw, defBody sLaw, defScope sLaw, [], []⟩
def fns : List He.DefD := [dR_Init, dR_Read, dR_Says, dPairsOf, dCheckWords, dKeyOf, dFirstRow, dIsWithin, dRelation, dFirstRows, dIsName, dAreDifferent, dRequire, dRequireNames, dCheckedPlace, dB_Init, dB_Asked, dB_CheckedRule, dB_CheckWord, dB_PlaceOf, dB_Slots, dB_Says, dB_Rule, dRow, dNumbers, dNames, dDrawnRule, dParts, dPlace, dAfter, dLRead, dLPairs, dTriples, dDrawnRow, dMake, dPermuted, dSplit, dIdle, dLike, dOther, dDue, dRefused, dLaw]
def fa0 : List He.Fa := [.glo "FewestheldError", .glo "InvalidBook", .glo "UnknownName", .glo "InvalidQuestion", .glo "TooMany", .glo "Reading", .glo "pairs_of", .glo "check_words", .glo "key_of", .glo "first_row", .glo "is_within", .glo "relation", .glo "first_rows", .glo "is_name", .glo "are_different", .glo "require", .glo "require_names", .glo "checked_place", .glo "Book", .glo "_law_row"]
def fa1 : List He.Fa := [.glo "_law_numbers", .glo "_law_names", .glo "_law_drawn_rule", .glo "_law_parts", .glo "_law_place", .glo "_law_after", .glo "_law_read", .glo "_law_pairs", .glo "_law_triples", .glo "_law_drawn_row", .glo "_law_make", .glo "_law_permuted", .glo "_law_split", .glo "_law_idle", .glo "_law_like", .glo "_law_other", .glo "_law_due", .glo "_law_refused", .glo "law", .free "len"]
def fa2 : List He.Fa := [.free "range", .free "tuple", .free "list", .free "int", .free "max", .free "min", .free "abs", .free "str", .free "enumerate", .free "all", .free "isinstance", .free "set", .free "bool", .str "NAME_CHARS" "abcdefghijklmnopqrstuvwxyz0123456789", .int "MOST_NAME_CHARS" 12, .int "MOST_WORDS" 3, .int "MOST_PLACES" 60, .int "MOST_SLOTS" 6, .int "READ" 0, .cls "Reading"]
def fa3 : List He.Fa := [.cls "Book", .noat "Reading" "book", .noat "Reading" "place", .noat "Reading" "held", .noat "Book" "words", .noat "Book" "places", .noat "Book" "known", .noat "Book" "start", .noat "Book" "table", .meth "Reading" "read", .meth "Reading" "says_yes", .meth "Book" "asked", .meth "Book" "checked_rule", .meth "Book" "check_word", .meth "Book" "place", .meth "Book" "slots", .meth "Book" "says_yes", .meth "Book" "rule", .mkr "Reading", .mkr "Book"]
def fa4 : List He.Fa := [.exc "InvalidQuestion", .exm "InvalidQuestion" "InvalidQuestion" true, .exm "InvalidQuestion" "FewestheldError" true]
def fas : List He.Fa := fa0 ++ fa1 ++ fa2 ++ fa3 ++ fa4
def nm0 : List PySem.Str := ["_wall", "FewestheldError", "InvalidBook", "UnknownName", "InvalidQuestion", "TooMany", "Reading", "pairs_of", "check_words", "key_of", "first_row", "is_within", "relation", "first_rows", "NAME_CHARS", "MOST_NAME_CHARS", "MOST_WORDS", "MOST_PLACES", "MOST_SLOTS", "READ"]
def nm1 : List PySem.Str := ["is_name", "are_different", "require", "require_names", "checked_place", "Book", "_law_row", "_law_numbers", "_law_names", "_law_drawn_rule", "_law_parts", "_law_place", "_law_after", "_law_read", "_law_pairs", "_law_difference", "_law_triples", "_law_drawn_row", "_law_make", "_law_permuted"]
def nm2 : List PySem.Str := ["_law_split", "_law_idle", "_law_like", "_law_other", "_law_due", "_law_refused"]
def nms : List PySem.Str := nm0 ++ nm1 ++ nm2
abbrev R : PySem.W.OpenRow := PySem.W.OpenLaw.row PySem.Challenge.rw_fewestheld_k70_whole_relations
/-! the getter of place_names: the property's object, its getter -/
def pnP (K : PySem.W.Frag) : Addr := He.ma K (He.ga K "Book") "place_names"
def pnG (K : PySem.W.Frag) : Addr := match PySem.W.recIn K (pnP K) "property" with
  | some (.ref g :: _) => g
  | _ => 0
def fnWat (K : PySem.W.Frag) (a : Addr) : He.FnW := match K.lookup a with
  | some ⟨_, _, .func fd, _⟩ => some (fd.name, fd.qualname, fd.params, fd.body, fd.scope, fd.globals, fd.closure, fd.builtins)
  | _ => none
def isNo : Value → Bool
  | .none => true
  | _ => false
def pnB (K : PySem.W.Frag) : Bool := (match PySem.W.findIn K (.ref (He.ga K "Book")) "place_names" with
    | some (some (.ref _)) => true
    | _ => false) && (He.eqO (PySem.W.specialIn K (.ref (pnP K)) "__get__") (some (some (.builtin "property.__get__"))) && (decide (PySem.W.takesIn K (.ref (pnP K)) = some true) && ((match PySem.W.recIn K (pnP K) "property" with
    | some (.ref _ :: _) => true
    | _ => false) && (PySem.W.keepIn K (.ref (pnG K)) && (match K.lookup (pnG K) with
    | some ⟨_, _, .func fd, _⟩ => PySem.W.codeIn K fd.code "Book.place_names" && isNo fd.defaults
    | _ => false)))))
/-! isinstance of a caught InvalidQuestion -/
def ieB (K : PySem.W.Frag) : Bool := He.eqO (PySem.W.findIn K (.ref (He.ga K "InvalidQuestion")) "__getattribute__") (some (some (.builtin "BaseException.__getattribute__"))) && (He.eqO (PySem.W.findIn K (.ref (He.ga K "InvalidQuestion")) "__getattr__") (some none) && (PySem.W.hasDictIn K (He.ga K "InvalidQuestion") && (He.eqO (PySem.W.findIn K (.ref (He.ga K "InvalidQuestion")) "__class__") (some (some (.builtin "object.__class__"))) && (He.eqO (PySem.W.specialIn K (.builtin "object.__class__") "__get__") (some (some (.builtin "getset_descriptor.__get__"))) && (decide (PySem.W.takesIn K (.builtin "object.__class__") = some true) && (decide (PySem.W.mroIn K (He.ga K "InvalidQuestion") (.type "object") = some true) && decide (PySem.W.kitOne K (.ref (He.ga K "InvalidQuestion")) (.ref (He.ga K "FewestheldError")) = some true)))))))
abbrev AlP : Type := He.AlD × (He.FnW × Bool)
def pnV : He.FnW := some ("place_names", "Book.place_names", defArgs sPlaceNames, .stmts (defBody sPlaceNames), defScope sPlaceNames, mainGlobals, [], builtinsNs)
def obsP (K : PySem.W.Frag) : AlP := (He.obsD fas fns K, (fnWat K (pnG K), pnB K && ieB K))
def valP : AlP := (He.valD fns, (pnV, true))
def SaysP (K : PySem.W.Frag) : Prop := obsP K = valP
def obsPG (n : Nat) (g : Addr → Option Obj) : AlP := obsP (He.frG g (He.asD g n))
def hookP (n : Nat) : PySem.W.Hook where
  α := AlP
  obs := fun s => obsPG n s.heap.get?
  val := fun _ => valP
  says := fun _ h => ∃ K : PySem.W.Frag, K.In h ∧ SaysP K
  of := fun _ _ e => ⟨_, He.frG_in, e⟩
  keeps := fun _ _ _ ⟨K, hK, c⟩ k => ⟨K, PySem.W.Frag.In.keeps hK k, c⟩
theorem obsPG_eq {n : Nat} {g : Addr → Option Obj} {s : Shared} (h : ∀ a, g a = s.heap.get? a) : obsPG n g = (hookP n).obs s := by
  have e : g = s.heap.get? := funext h
  rw [e] <;> rfl
abbrev hk : PySem.W.Hook := hookP 6
def ob (s : PySem.W.SharedT) : AlP := obsPG 6 (HandSHeadRun.getT s)
theorem ob_eq (s : PySem.W.SharedT) : ob s = hk.obs s.abs := obsPG_eq (HandSHeadRun.getT_eq s)
theorem run (w : World) : HandSHeadRun.RunEq R (PySem.W.view R.prog [50]) hk ob 4000 nms w := by
  intro os
  kernel_rfl
end Fw

/-! The facts of the text, by names. -/
namespace Fw
open PySem PySem.Spec PyProof.Rows L2
structure Tx (K : PySem.W.Frag) (mg : Str → Option Value) : Prop where
  says : SaysP K
  at_ : ∃ h : Heap, K.In h ∧ h.Ns mainGlobals mg
theorem Tx.d {K : PySem.W.Frag} {mg : Str → Option Value} (T : Tx K mg) : He.SaysD fas fns K := congrArg (fun z : AlP => z.1) T.says
theorem Tx.pw {K : PySem.W.Frag} {mg : Str → Option Value} (T : Tx K mg) : fnWat K (pnG K) = pnV ∧ pnB K = true := ⟨congrArg (fun z : AlP => z.2.1) T.says, (He.ba (show (pnB K && ieB K) = true from congrArg (fun z : AlP => z.2.2) T.says)).1⟩
theorem Tx.ie {K : PySem.W.Frag} {mg : Str → Option Value} (T : Tx K mg) : ieB K = true := (He.ba (show (pnB K && ieB K) = true from congrArg (fun z : AlP => z.2.2) T.says)).2
section
variable {K : PySem.W.Frag} {mg : Str → Option Value}
theorem Tx.g_FewestheldError (T : Tx K mg) : mg "FewestheldError" = some (.ref (He.ga K "FewestheldError")) := let ⟨_, X, G⟩ := T.at_; He.glo_ok X G (T.d.fact 0 (f := .glo "FewestheldError") rfl)
theorem Tx.g_InvalidBook (T : Tx K mg) : mg "InvalidBook" = some (.ref (He.ga K "InvalidBook")) := let ⟨_, X, G⟩ := T.at_; He.glo_ok X G (T.d.fact 1 (f := .glo "InvalidBook") rfl)
theorem Tx.g_UnknownName (T : Tx K mg) : mg "UnknownName" = some (.ref (He.ga K "UnknownName")) := let ⟨_, X, G⟩ := T.at_; He.glo_ok X G (T.d.fact 2 (f := .glo "UnknownName") rfl)
theorem Tx.g_InvalidQuestion (T : Tx K mg) : mg "InvalidQuestion" = some (.ref (He.ga K "InvalidQuestion")) := let ⟨_, X, G⟩ := T.at_; He.glo_ok X G (T.d.fact 3 (f := .glo "InvalidQuestion") rfl)
theorem Tx.g_TooMany (T : Tx K mg) : mg "TooMany" = some (.ref (He.ga K "TooMany")) := let ⟨_, X, G⟩ := T.at_; He.glo_ok X G (T.d.fact 4 (f := .glo "TooMany") rfl)
theorem Tx.g_Reading (T : Tx K mg) : mg "Reading" = some (.ref (He.ga K "Reading")) := let ⟨_, X, G⟩ := T.at_; He.glo_ok X G (T.d.fact 5 (f := .glo "Reading") rfl)
theorem Tx.g_pairs_of (T : Tx K mg) : mg "pairs_of" = some (.ref (He.ga K "pairs_of")) := let ⟨_, X, G⟩ := T.at_; He.glo_ok X G (T.d.fact 6 (f := .glo "pairs_of") rfl)
theorem Tx.g_check_words (T : Tx K mg) : mg "check_words" = some (.ref (He.ga K "check_words")) := let ⟨_, X, G⟩ := T.at_; He.glo_ok X G (T.d.fact 7 (f := .glo "check_words") rfl)
theorem Tx.g_key_of (T : Tx K mg) : mg "key_of" = some (.ref (He.ga K "key_of")) := let ⟨_, X, G⟩ := T.at_; He.glo_ok X G (T.d.fact 8 (f := .glo "key_of") rfl)
theorem Tx.g_first_row (T : Tx K mg) : mg "first_row" = some (.ref (He.ga K "first_row")) := let ⟨_, X, G⟩ := T.at_; He.glo_ok X G (T.d.fact 9 (f := .glo "first_row") rfl)
theorem Tx.g_is_within (T : Tx K mg) : mg "is_within" = some (.ref (He.ga K "is_within")) := let ⟨_, X, G⟩ := T.at_; He.glo_ok X G (T.d.fact 10 (f := .glo "is_within") rfl)
theorem Tx.g_relation (T : Tx K mg) : mg "relation" = some (.ref (He.ga K "relation")) := let ⟨_, X, G⟩ := T.at_; He.glo_ok X G (T.d.fact 11 (f := .glo "relation") rfl)
theorem Tx.g_first_rows (T : Tx K mg) : mg "first_rows" = some (.ref (He.ga K "first_rows")) := let ⟨_, X, G⟩ := T.at_; He.glo_ok X G (T.d.fact 12 (f := .glo "first_rows") rfl)
theorem Tx.g_is_name (T : Tx K mg) : mg "is_name" = some (.ref (He.ga K "is_name")) := let ⟨_, X, G⟩ := T.at_; He.glo_ok X G (T.d.fact 13 (f := .glo "is_name") rfl)
theorem Tx.g_are_different (T : Tx K mg) : mg "are_different" = some (.ref (He.ga K "are_different")) := let ⟨_, X, G⟩ := T.at_; He.glo_ok X G (T.d.fact 14 (f := .glo "are_different") rfl)
theorem Tx.g_require (T : Tx K mg) : mg "require" = some (.ref (He.ga K "require")) := let ⟨_, X, G⟩ := T.at_; He.glo_ok X G (T.d.fact 15 (f := .glo "require") rfl)
theorem Tx.g_require_names (T : Tx K mg) : mg "require_names" = some (.ref (He.ga K "require_names")) := let ⟨_, X, G⟩ := T.at_; He.glo_ok X G (T.d.fact 16 (f := .glo "require_names") rfl)
theorem Tx.g_checked_place (T : Tx K mg) : mg "checked_place" = some (.ref (He.ga K "checked_place")) := let ⟨_, X, G⟩ := T.at_; He.glo_ok X G (T.d.fact 17 (f := .glo "checked_place") rfl)
theorem Tx.g_Book (T : Tx K mg) : mg "Book" = some (.ref (He.ga K "Book")) := let ⟨_, X, G⟩ := T.at_; He.glo_ok X G (T.d.fact 18 (f := .glo "Book") rfl)
theorem Tx.g__law_row (T : Tx K mg) : mg "_law_row" = some (.ref (He.ga K "_law_row")) := let ⟨_, X, G⟩ := T.at_; He.glo_ok X G (T.d.fact 19 (f := .glo "_law_row") rfl)
theorem Tx.g__law_numbers (T : Tx K mg) : mg "_law_numbers" = some (.ref (He.ga K "_law_numbers")) := let ⟨_, X, G⟩ := T.at_; He.glo_ok X G (T.d.fact 20 (f := .glo "_law_numbers") rfl)
theorem Tx.g__law_names (T : Tx K mg) : mg "_law_names" = some (.ref (He.ga K "_law_names")) := let ⟨_, X, G⟩ := T.at_; He.glo_ok X G (T.d.fact 21 (f := .glo "_law_names") rfl)
theorem Tx.g__law_drawn_rule (T : Tx K mg) : mg "_law_drawn_rule" = some (.ref (He.ga K "_law_drawn_rule")) := let ⟨_, X, G⟩ := T.at_; He.glo_ok X G (T.d.fact 22 (f := .glo "_law_drawn_rule") rfl)
theorem Tx.g__law_parts (T : Tx K mg) : mg "_law_parts" = some (.ref (He.ga K "_law_parts")) := let ⟨_, X, G⟩ := T.at_; He.glo_ok X G (T.d.fact 23 (f := .glo "_law_parts") rfl)
theorem Tx.g__law_place (T : Tx K mg) : mg "_law_place" = some (.ref (He.ga K "_law_place")) := let ⟨_, X, G⟩ := T.at_; He.glo_ok X G (T.d.fact 24 (f := .glo "_law_place") rfl)
theorem Tx.g__law_after (T : Tx K mg) : mg "_law_after" = some (.ref (He.ga K "_law_after")) := let ⟨_, X, G⟩ := T.at_; He.glo_ok X G (T.d.fact 25 (f := .glo "_law_after") rfl)
theorem Tx.g__law_read (T : Tx K mg) : mg "_law_read" = some (.ref (He.ga K "_law_read")) := let ⟨_, X, G⟩ := T.at_; He.glo_ok X G (T.d.fact 26 (f := .glo "_law_read") rfl)
theorem Tx.g__law_pairs (T : Tx K mg) : mg "_law_pairs" = some (.ref (He.ga K "_law_pairs")) := let ⟨_, X, G⟩ := T.at_; He.glo_ok X G (T.d.fact 27 (f := .glo "_law_pairs") rfl)
theorem Tx.g__law_triples (T : Tx K mg) : mg "_law_triples" = some (.ref (He.ga K "_law_triples")) := let ⟨_, X, G⟩ := T.at_; He.glo_ok X G (T.d.fact 28 (f := .glo "_law_triples") rfl)
theorem Tx.g__law_drawn_row (T : Tx K mg) : mg "_law_drawn_row" = some (.ref (He.ga K "_law_drawn_row")) := let ⟨_, X, G⟩ := T.at_; He.glo_ok X G (T.d.fact 29 (f := .glo "_law_drawn_row") rfl)
theorem Tx.g__law_make (T : Tx K mg) : mg "_law_make" = some (.ref (He.ga K "_law_make")) := let ⟨_, X, G⟩ := T.at_; He.glo_ok X G (T.d.fact 30 (f := .glo "_law_make") rfl)
theorem Tx.g__law_permuted (T : Tx K mg) : mg "_law_permuted" = some (.ref (He.ga K "_law_permuted")) := let ⟨_, X, G⟩ := T.at_; He.glo_ok X G (T.d.fact 31 (f := .glo "_law_permuted") rfl)
theorem Tx.g__law_split (T : Tx K mg) : mg "_law_split" = some (.ref (He.ga K "_law_split")) := let ⟨_, X, G⟩ := T.at_; He.glo_ok X G (T.d.fact 32 (f := .glo "_law_split") rfl)
theorem Tx.g__law_idle (T : Tx K mg) : mg "_law_idle" = some (.ref (He.ga K "_law_idle")) := let ⟨_, X, G⟩ := T.at_; He.glo_ok X G (T.d.fact 33 (f := .glo "_law_idle") rfl)
theorem Tx.g__law_like (T : Tx K mg) : mg "_law_like" = some (.ref (He.ga K "_law_like")) := let ⟨_, X, G⟩ := T.at_; He.glo_ok X G (T.d.fact 34 (f := .glo "_law_like") rfl)
theorem Tx.g__law_other (T : Tx K mg) : mg "_law_other" = some (.ref (He.ga K "_law_other")) := let ⟨_, X, G⟩ := T.at_; He.glo_ok X G (T.d.fact 35 (f := .glo "_law_other") rfl)
theorem Tx.g__law_due (T : Tx K mg) : mg "_law_due" = some (.ref (He.ga K "_law_due")) := let ⟨_, X, G⟩ := T.at_; He.glo_ok X G (T.d.fact 36 (f := .glo "_law_due") rfl)
theorem Tx.g__law_refused (T : Tx K mg) : mg "_law_refused" = some (.ref (He.ga K "_law_refused")) := let ⟨_, X, G⟩ := T.at_; He.glo_ok X G (T.d.fact 37 (f := .glo "_law_refused") rfl)
theorem Tx.g_law (T : Tx K mg) : mg "law" = some (.ref (He.ga K "law")) := let ⟨_, X, G⟩ := T.at_; He.glo_ok X G (T.d.fact 38 (f := .glo "law") rfl)
theorem Tx.n_len (T : Tx K mg) : mg "len" = none := let ⟨_, X, G⟩ := T.at_; He.free_ok X G (T.d.fact 39 (f := .free "len") rfl)
theorem Tx.n_range (T : Tx K mg) : mg "range" = none := let ⟨_, X, G⟩ := T.at_; He.free_ok X G (T.d.fact 40 (f := .free "range") rfl)
theorem Tx.n_tuple (T : Tx K mg) : mg "tuple" = none := let ⟨_, X, G⟩ := T.at_; He.free_ok X G (T.d.fact 41 (f := .free "tuple") rfl)
theorem Tx.n_list (T : Tx K mg) : mg "list" = none := let ⟨_, X, G⟩ := T.at_; He.free_ok X G (T.d.fact 42 (f := .free "list") rfl)
theorem Tx.n_int (T : Tx K mg) : mg "int" = none := let ⟨_, X, G⟩ := T.at_; He.free_ok X G (T.d.fact 43 (f := .free "int") rfl)
theorem Tx.n_max (T : Tx K mg) : mg "max" = none := let ⟨_, X, G⟩ := T.at_; He.free_ok X G (T.d.fact 44 (f := .free "max") rfl)
theorem Tx.n_min (T : Tx K mg) : mg "min" = none := let ⟨_, X, G⟩ := T.at_; He.free_ok X G (T.d.fact 45 (f := .free "min") rfl)
theorem Tx.n_abs (T : Tx K mg) : mg "abs" = none := let ⟨_, X, G⟩ := T.at_; He.free_ok X G (T.d.fact 46 (f := .free "abs") rfl)
theorem Tx.n_str (T : Tx K mg) : mg "str" = none := let ⟨_, X, G⟩ := T.at_; He.free_ok X G (T.d.fact 47 (f := .free "str") rfl)
theorem Tx.n_enumerate (T : Tx K mg) : mg "enumerate" = none := let ⟨_, X, G⟩ := T.at_; He.free_ok X G (T.d.fact 48 (f := .free "enumerate") rfl)
theorem Tx.n_all (T : Tx K mg) : mg "all" = none := let ⟨_, X, G⟩ := T.at_; He.free_ok X G (T.d.fact 49 (f := .free "all") rfl)
theorem Tx.n_isinstance (T : Tx K mg) : mg "isinstance" = none := let ⟨_, X, G⟩ := T.at_; He.free_ok X G (T.d.fact 50 (f := .free "isinstance") rfl)
theorem Tx.n_set (T : Tx K mg) : mg "set" = none := let ⟨_, X, G⟩ := T.at_; He.free_ok X G (T.d.fact 51 (f := .free "set") rfl)
theorem Tx.n_bool (T : Tx K mg) : mg "bool" = none := let ⟨_, X, G⟩ := T.at_; He.free_ok X G (T.d.fact 52 (f := .free "bool") rfl)
theorem Tx.c_NAME_CHARS (T : Tx K mg) : ∃ t, mg "NAME_CHARS" = some (.str "abcdefghijklmnopqrstuvwxyz0123456789" t) := let ⟨_, X, G⟩ := T.at_; He.str_ok X G (T.d.fact 53 (f := .str "NAME_CHARS" "abcdefghijklmnopqrstuvwxyz0123456789") rfl)
theorem Tx.c_MOST_NAME_CHARS (T : Tx K mg) : ∃ t, mg "MOST_NAME_CHARS" = some (.int 12 t) := let ⟨_, X, G⟩ := T.at_; He.int_ok X G (T.d.fact 54 (f := .int "MOST_NAME_CHARS" 12) rfl)
theorem Tx.c_MOST_WORDS (T : Tx K mg) : ∃ t, mg "MOST_WORDS" = some (.int 3 t) := let ⟨_, X, G⟩ := T.at_; He.int_ok X G (T.d.fact 55 (f := .int "MOST_WORDS" 3) rfl)
theorem Tx.c_MOST_PLACES (T : Tx K mg) : ∃ t, mg "MOST_PLACES" = some (.int 60 t) := let ⟨_, X, G⟩ := T.at_; He.int_ok X G (T.d.fact 56 (f := .int "MOST_PLACES" 60) rfl)
theorem Tx.c_MOST_SLOTS (T : Tx K mg) : ∃ t, mg "MOST_SLOTS" = some (.int 6 t) := let ⟨_, X, G⟩ := T.at_; He.int_ok X G (T.d.fact 57 (f := .int "MOST_SLOTS" 6) rfl)
theorem Tx.c_READ (T : Tx K mg) : ∃ t, mg "READ" = some (.int 0 t) := let ⟨_, X, G⟩ := T.at_; He.int_ok X G (T.d.fact 58 (f := .int "READ" 0) rfl)
theorem Tx.cls_Reading (T : Tx K mg) : Cls K (He.ga K "Reading") := He.cls_ok (T.d.fact 59 (f := .cls "Reading") rfl)
theorem Tx.cls_Book (T : Tx K mg) : Cls K (He.ga K "Book") := He.cls_ok (T.d.fact 60 (f := .cls "Book") rfl)
theorem Tx.a_Reading_book (T : Tx K mg) : NoAttr K (He.ga K "Reading") "book" := He.noat_ok (T.d.fact 61 (f := .noat "Reading" "book") rfl)
theorem Tx.a_Reading_place (T : Tx K mg) : NoAttr K (He.ga K "Reading") "place" := He.noat_ok (T.d.fact 62 (f := .noat "Reading" "place") rfl)
theorem Tx.a_Reading_held (T : Tx K mg) : NoAttr K (He.ga K "Reading") "held" := He.noat_ok (T.d.fact 63 (f := .noat "Reading" "held") rfl)
theorem Tx.a_Book_words (T : Tx K mg) : NoAttr K (He.ga K "Book") "words" := He.noat_ok (T.d.fact 64 (f := .noat "Book" "words") rfl)
theorem Tx.a_Book_places (T : Tx K mg) : NoAttr K (He.ga K "Book") "places" := He.noat_ok (T.d.fact 65 (f := .noat "Book" "places") rfl)
theorem Tx.a_Book_known (T : Tx K mg) : NoAttr K (He.ga K "Book") "known" := He.noat_ok (T.d.fact 66 (f := .noat "Book" "known") rfl)
theorem Tx.a_Book_start (T : Tx K mg) : NoAttr K (He.ga K "Book") "start" := He.noat_ok (T.d.fact 67 (f := .noat "Book" "start") rfl)
theorem Tx.a_Book_table (T : Tx K mg) : NoAttr K (He.ga K "Book") "table" := He.noat_ok (T.d.fact 68 (f := .noat "Book" "table") rfl)
theorem Tx.m_Reading_read (T : Tx K mg) : Meth K (He.ga K "Reading") "read" (He.ma K (He.ga K "Reading") "read") := He.meth_ok (T.d.fact 69 (f := .meth "Reading" "read") rfl)
theorem Tx.m_Reading_says_yes (T : Tx K mg) : Meth K (He.ga K "Reading") "says_yes" (He.ma K (He.ga K "Reading") "says_yes") := He.meth_ok (T.d.fact 70 (f := .meth "Reading" "says_yes") rfl)
theorem Tx.m_Book_asked (T : Tx K mg) : Meth K (He.ga K "Book") "asked" (He.ma K (He.ga K "Book") "asked") := He.meth_ok (T.d.fact 71 (f := .meth "Book" "asked") rfl)
theorem Tx.m_Book_checked_rule (T : Tx K mg) : Meth K (He.ga K "Book") "checked_rule" (He.ma K (He.ga K "Book") "checked_rule") := He.meth_ok (T.d.fact 72 (f := .meth "Book" "checked_rule") rfl)
theorem Tx.m_Book_check_word (T : Tx K mg) : Meth K (He.ga K "Book") "check_word" (He.ma K (He.ga K "Book") "check_word") := He.meth_ok (T.d.fact 73 (f := .meth "Book" "check_word") rfl)
theorem Tx.m_Book_place (T : Tx K mg) : Meth K (He.ga K "Book") "place" (He.ma K (He.ga K "Book") "place") := He.meth_ok (T.d.fact 74 (f := .meth "Book" "place") rfl)
theorem Tx.m_Book_slots (T : Tx K mg) : Meth K (He.ga K "Book") "slots" (He.ma K (He.ga K "Book") "slots") := He.meth_ok (T.d.fact 75 (f := .meth "Book" "slots") rfl)
theorem Tx.m_Book_says_yes (T : Tx K mg) : Meth K (He.ga K "Book") "says_yes" (He.ma K (He.ga K "Book") "says_yes") := He.meth_ok (T.d.fact 76 (f := .meth "Book" "says_yes") rfl)
theorem Tx.m_Book_rule (T : Tx K mg) : Meth K (He.ga K "Book") "rule" (He.ma K (He.ga K "Book") "rule") := He.meth_ok (T.d.fact 77 (f := .meth "Book" "rule") rfl)
theorem Tx.k_Reading (T : Tx K mg) : Mk K (He.ga K "Reading") (He.ma K (He.ga K "Reading") "__init__") := He.mkr_ok (T.d.fact 78 (f := .mkr "Reading") rfl)
theorem Tx.k_Book (T : Tx K mg) : Mk K (He.ga K "Book") (He.ma K (He.ga K "Book") "__init__") := He.mkr_ok (T.d.fact 79 (f := .mkr "Book") rfl)
theorem Tx.e_InvalidQuestion (T : Tx K mg) : PySem.W.excIn K (He.ga K "InvalidQuestion") He.veBase "ValueError.__new__" = true ∧ PySem.W.keepIn K (.ref (He.ga K "InvalidQuestion")) = true ∧ PySem.W.subIn K (.ref (He.ga K "InvalidQuestion")) (.type "BaseException") = some true ∧ PySem.W.typeIn K (.ref (He.ga K "InvalidQuestion")) = some (.type "type") := He.exc_ok (T.d.fact 80 (f := .exc "InvalidQuestion") rfl)
theorem Tx.x_InvalidQuestion_InvalidQuestion (T : Tx K mg) : PySem.W.exmOne K (.ref (He.ga K "InvalidQuestion")) (.ref (He.ga K "InvalidQuestion")) = some true := He.exm_ok (T.d.fact 81 (f := .exm "InvalidQuestion" "InvalidQuestion" true) rfl)
theorem Tx.x_InvalidQuestion_FewestheldError (T : Tx K mg) : PySem.W.exmOne K (.ref (He.ga K "InvalidQuestion")) (.ref (He.ga K "FewestheldError")) = some true := He.exm_ok (T.d.fact 82 (f := .exm "InvalidQuestion" "FewestheldError" true) rfl)
theorem Tx.f_R_Init (T : Tx K mg) : ∃ fd, FunD K "__init__" "Reading.__init__" (defArgs sR_Init) (defBody sR_Init) (defScope sR_Init) [] [] (He.ma K (He.ga K "Reading") "__init__") fd := T.d.def_ 0 (d := dR_Init) rfl
theorem Tx.f_R_Read (T : Tx K mg) : ∃ fd, FunD K "read" "Reading.read" (defArgs sR_Read) (defBody sR_Read) (defScope sR_Read) [] [] (He.ma K (He.ga K "Reading") "read") fd := T.d.def_ 1 (d := dR_Read) rfl
theorem Tx.f_R_Says (T : Tx K mg) : ∃ fd, FunD K "says_yes" "Reading.says_yes" (defArgs sR_Says) (defBody sR_Says) (defScope sR_Says) [] [] (He.ma K (He.ga K "Reading") "says_yes") fd := T.d.def_ 2 (d := dR_Says) rfl
theorem Tx.f_PairsOf (T : Tx K mg) : ∃ fd, FunD K "pairs_of" "pairs_of" (defArgs sPairsOf) (defBody sPairsOf) (defScope sPairsOf) [] [] (He.ga K "pairs_of") fd := T.d.def_ 3 (d := dPairsOf) rfl
theorem Tx.f_CheckWords (T : Tx K mg) : ∃ fd, FunD K "check_words" "check_words" (defArgs sCheckWords) (defBody sCheckWords) (defScope sCheckWords) [] [] (He.ga K "check_words") fd := T.d.def_ 4 (d := dCheckWords) rfl
theorem Tx.f_KeyOf (T : Tx K mg) : ∃ fd, FunD K "key_of" "key_of" (defArgs sKeyOf) (defBody sKeyOf) (defScope sKeyOf) [] [] (He.ga K "key_of") fd := T.d.def_ 5 (d := dKeyOf) rfl
theorem Tx.f_FirstRow (T : Tx K mg) : ∃ fd, FunD K "first_row" "first_row" (defArgs sFirstRow) (defBody sFirstRow) (defScope sFirstRow) [] [("limit", .int 20000)] (He.ga K "first_row") fd := T.d.def_ 6 (d := dFirstRow) rfl
theorem Tx.f_IsWithin (T : Tx K mg) : ∃ fd, FunD K "is_within" "is_within" (defArgs sIsWithin) (defBody sIsWithin) (defScope sIsWithin) [] [("limit", .int 20000)] (He.ga K "is_within") fd := T.d.def_ 7 (d := dIsWithin) rfl
theorem Tx.f_Relation (T : Tx K mg) : ∃ fd, FunD K "relation" "relation" (defArgs sRelation) (defBody sRelation) (defScope sRelation) [] [("limit", .int 20000)] (He.ga K "relation") fd := T.d.def_ 8 (d := dRelation) rfl
theorem Tx.f_FirstRows (T : Tx K mg) : ∃ fd, FunD K "first_rows" "first_rows" (defArgs sFirstRows) (defBody sFirstRows) (defScope sFirstRows) [] [("limit", .int 20000)] (He.ga K "first_rows") fd := T.d.def_ 9 (d := dFirstRows) rfl
theorem Tx.f_IsName (T : Tx K mg) : ∃ fd, FunD K "is_name" "is_name" (defArgs sIsName) (defBody sIsName) (defScope sIsName) [] [] (He.ga K "is_name") fd := T.d.def_ 10 (d := dIsName) rfl
theorem Tx.f_AreDifferent (T : Tx K mg) : ∃ fd, FunD K "are_different" "are_different" (defArgs sAreDifferent) (defBody sAreDifferent) (defScope sAreDifferent) [] [] (He.ga K "are_different") fd := T.d.def_ 11 (d := dAreDifferent) rfl
theorem Tx.f_Require (T : Tx K mg) : ∃ fd, FunD K "require" "require" (defArgs sRequire) (defBody sRequire) (defScope sRequire) [] [] (He.ga K "require") fd := T.d.def_ 12 (d := dRequire) rfl
theorem Tx.f_RequireNames (T : Tx K mg) : ∃ fd, FunD K "require_names" "require_names" (defArgs sRequireNames) (defBody sRequireNames) (defScope sRequireNames) [] [] (He.ga K "require_names") fd := T.d.def_ 13 (d := dRequireNames) rfl
theorem Tx.f_CheckedPlace (T : Tx K mg) : ∃ fd, FunD K "checked_place" "checked_place" (defArgs sCheckedPlace) (defBody sCheckedPlace) (defScope sCheckedPlace) [] [] (He.ga K "checked_place") fd := T.d.def_ 14 (d := dCheckedPlace) rfl
theorem Tx.f_B_Init (T : Tx K mg) : ∃ fd, FunD K "__init__" "Book.__init__" (defArgs sB_Init) (defBody sB_Init) (defScope sB_Init) [] [] (He.ma K (He.ga K "Book") "__init__") fd := T.d.def_ 15 (d := dB_Init) rfl
theorem Tx.f_B_Asked (T : Tx K mg) : ∃ fd, FunD K "asked" "Book.asked" (defArgs sB_Asked) (defBody sB_Asked) (defScope sB_Asked) [] [] (He.ma K (He.ga K "Book") "asked") fd := T.d.def_ 16 (d := dB_Asked) rfl
theorem Tx.f_B_CheckedRule (T : Tx K mg) : ∃ fd, FunD K "checked_rule" "Book.checked_rule" (defArgs sB_CheckedRule) (defBody sB_CheckedRule) (defScope sB_CheckedRule) [] [] (He.ma K (He.ga K "Book") "checked_rule") fd := T.d.def_ 17 (d := dB_CheckedRule) rfl
theorem Tx.f_B_CheckWord (T : Tx K mg) : ∃ fd, FunD K "check_word" "Book.check_word" (defArgs sB_CheckWord) (defBody sB_CheckWord) (defScope sB_CheckWord) [] [] (He.ma K (He.ga K "Book") "check_word") fd := T.d.def_ 18 (d := dB_CheckWord) rfl
theorem Tx.f_B_PlaceOf (T : Tx K mg) : ∃ fd, FunD K "place" "Book.place" (defArgs sB_PlaceOf) (defBody sB_PlaceOf) (defScope sB_PlaceOf) [] [] (He.ma K (He.ga K "Book") "place") fd := T.d.def_ 19 (d := dB_PlaceOf) rfl
theorem Tx.f_B_Slots (T : Tx K mg) : ∃ fd, FunD K "slots" "Book.slots" (defArgs sB_Slots) (defBody sB_Slots) (defScope sB_Slots) [] [] (He.ma K (He.ga K "Book") "slots") fd := T.d.def_ 20 (d := dB_Slots) rfl
theorem Tx.f_B_Says (T : Tx K mg) : ∃ fd, FunD K "says_yes" "Book.says_yes" (defArgs sB_Says) (defBody sB_Says) (defScope sB_Says) [] [] (He.ma K (He.ga K "Book") "says_yes") fd := T.d.def_ 21 (d := dB_Says) rfl
theorem Tx.f_B_Rule (T : Tx K mg) : ∃ fd, FunD K "rule" "Book.rule" (defArgs sB_Rule) (defBody sB_Rule) (defScope sB_Rule) [] [] (He.ma K (He.ga K "Book") "rule") fd := T.d.def_ 22 (d := dB_Rule) rfl
theorem Tx.f_Row (T : Tx K mg) : ∃ fd, FunD K "_law_row" "_law_row" (defArgs sRow) (defBody sRow) (defScope sRow) [] [] (He.ga K "_law_row") fd := T.d.def_ 23 (d := dRow) rfl
theorem Tx.f_Numbers (T : Tx K mg) : ∃ fd, FunD K "_law_numbers" "_law_numbers" (defArgs sNumbers) (defBody sNumbers) (defScope sNumbers) [] [] (He.ga K "_law_numbers") fd := T.d.def_ 24 (d := dNumbers) rfl
theorem Tx.f_Names (T : Tx K mg) : ∃ fd, FunD K "_law_names" "_law_names" (defArgs sNames) (defBody sNames) (defScope sNames) [] [] (He.ga K "_law_names") fd := T.d.def_ 25 (d := dNames) rfl
theorem Tx.f_DrawnRule (T : Tx K mg) : ∃ fd, FunD K "_law_drawn_rule" "_law_drawn_rule" (defArgs sDrawnRule) (defBody sDrawnRule) (defScope sDrawnRule) [] [] (He.ga K "_law_drawn_rule") fd := T.d.def_ 26 (d := dDrawnRule) rfl
theorem Tx.f_Parts (T : Tx K mg) : ∃ fd, FunD K "_law_parts" "_law_parts" (defArgs sParts) (defBody sParts) (defScope sParts) [] [] (He.ga K "_law_parts") fd := T.d.def_ 27 (d := dParts) rfl
theorem Tx.f_Place (T : Tx K mg) : ∃ fd, FunD K "_law_place" "_law_place" (defArgs sPlace) (defBody sPlace) (defScope sPlace) [] [] (He.ga K "_law_place") fd := T.d.def_ 28 (d := dPlace) rfl
theorem Tx.f_After (T : Tx K mg) : ∃ fd, FunD K "_law_after" "_law_after" (defArgs sAfter) (defBody sAfter) (defScope sAfter) [] [] (He.ga K "_law_after") fd := T.d.def_ 29 (d := dAfter) rfl
theorem Tx.f_LRead (T : Tx K mg) : ∃ fd, FunD K "_law_read" "_law_read" (defArgs sLRead) (defBody sLRead) (defScope sLRead) [] [] (He.ga K "_law_read") fd := T.d.def_ 30 (d := dLRead) rfl
theorem Tx.f_LPairs (T : Tx K mg) : ∃ fd, FunD K "_law_pairs" "_law_pairs" (defArgs sLPairs) (defBody sLPairs) (defScope sLPairs) [] [] (He.ga K "_law_pairs") fd := T.d.def_ 31 (d := dLPairs) rfl
theorem Tx.f_Triples (T : Tx K mg) : ∃ fd, FunD K "_law_triples" "_law_triples" (defArgs sTriples) (defBody sTriples) (defScope sTriples) [] [] (He.ga K "_law_triples") fd := T.d.def_ 32 (d := dTriples) rfl
theorem Tx.f_DrawnRow (T : Tx K mg) : ∃ fd, FunD K "_law_drawn_row" "_law_drawn_row" (defArgs sDrawnRow) (defBody sDrawnRow) (defScope sDrawnRow) [] [] (He.ga K "_law_drawn_row") fd := T.d.def_ 33 (d := dDrawnRow) rfl
theorem Tx.f_Make (T : Tx K mg) : ∃ fd, FunD K "_law_make" "_law_make" (defArgs sMake) (defBody sMake) (defScope sMake) [] [] (He.ga K "_law_make") fd := T.d.def_ 34 (d := dMake) rfl
theorem Tx.f_Permuted (T : Tx K mg) : ∃ fd, FunD K "_law_permuted" "_law_permuted" (defArgs sPermuted) (defBody sPermuted) (defScope sPermuted) [] [] (He.ga K "_law_permuted") fd := T.d.def_ 35 (d := dPermuted) rfl
theorem Tx.f_Split (T : Tx K mg) : ∃ fd, FunD K "_law_split" "_law_split" (defArgs sSplit) (defBody sSplit) (defScope sSplit) [] [] (He.ga K "_law_split") fd := T.d.def_ 36 (d := dSplit) rfl
theorem Tx.f_Idle (T : Tx K mg) : ∃ fd, FunD K "_law_idle" "_law_idle" (defArgs sIdle) (defBody sIdle) (defScope sIdle) [] [] (He.ga K "_law_idle") fd := T.d.def_ 37 (d := dIdle) rfl
theorem Tx.f_Like (T : Tx K mg) : ∃ fd, FunD K "_law_like" "_law_like" (defArgs sLike) (defBody sLike) (defScope sLike) [] [] (He.ga K "_law_like") fd := T.d.def_ 38 (d := dLike) rfl
theorem Tx.f_Other (T : Tx K mg) : ∃ fd, FunD K "_law_other" "_law_other" (defArgs sOther) (defBody sOther) (defScope sOther) [] [] (He.ga K "_law_other") fd := T.d.def_ 39 (d := dOther) rfl
theorem Tx.f_Due (T : Tx K mg) : ∃ fd, FunD K "_law_due" "_law_due" (defArgs sDue) (defBody sDue) (defScope sDue) [] [] (He.ga K "_law_due") fd := T.d.def_ 40 (d := dDue) rfl
theorem Tx.f_Refused (T : Tx K mg) : ∃ fd, FunD K "_law_refused" "_law_refused" (defArgs sRefused) (defBody sRefused) (defScope sRefused) [] [] (He.ga K "_law_refused") fd := T.d.def_ 41 (d := dRefused) rfl
theorem Tx.f_Law (T : Tx K mg) : ∃ fd, FunD K "law" "law" (defArgs sLaw) (defBody sLaw) (defScope sLaw) [] [] (He.ga K "law") fd := T.d.def_ 42 (d := dLaw) rfl
theorem Tx.f_PlaceNames (T : Tx K mg) : ∃ fd, FunD K "place_names" "Book.place_names" (defArgs sPlaceNames) (defBody sPlaceNames) (defScope sPlaceNames) [] [] (pnG K) fd := by
  obtain ⟨e, c⟩ := T.pw
  obtain ⟨_, c⟩ := He.ba c
  obtain ⟨_, c⟩ := He.ba c
  obtain ⟨_, c⟩ := He.ba c
  obtain ⟨_, c⟩ := He.ba c
  obtain ⟨kp, c2⟩ := He.ba c
  unfold fnWat at e
  cases q : K.lookup (pnG K) with
  | none =>
    rw [q] at c2
    cases c2
  | some o =>
    obtain ⟨oc, od, dt, osl⟩ := o
    rw [q] at c2 e
    cases dt with
    | func fd =>
      obtain ⟨n1, n2, n3, n4, n5, n6, n7, n8, n9, n10, n11, n12, n13, n14, n15⟩ := fd
      have e2 : (some (n1, n2, n3, n4, n5, n6, n7, n15) : He.FnW) = (some ("place_names", "Book.place_names", defArgs sPlaceNames, .stmts (defBody sPlaceNames), defScope sPlaceNames, mainGlobals, [], builtinsNs) : He.FnW) := e
      simp only [Option.some.injEq, Prod.mk.injEq] at e2
      obtain ⟨h1, h2, h3, h4, h5, h6, h7, h8⟩ := e2
      subst h1 h2 h3 h4 h5 h6 h7 h8
      have c3 : (PySem.W.codeIn K n13 "Book.place_names" && isNo n8) = true := c2
      obtain ⟨k1, k2⟩ := He.ba c3
      have e8 : n8 = .none := by
        cases n8 with
        | none => rfl
        | _ => cases k2
      subst e8
      exact ⟨_, ⟨oc, od, .none, n9, n10, n11, n12, n13, n14, osl, rfl, q, k1, .inl ⟨rfl, rfl⟩, .inl rfl⟩, kp⟩
    | _ => cases c2
theorem Tx.p_place_names (T : Tx K mg) : PropOf K (He.ga K "Book") "place_names" (pnP K) (pnG K) := by
  obtain ⟨e, c⟩ := T.pw
  obtain ⟨c1, c⟩ := He.ba c
  obtain ⟨c2, c⟩ := He.ba c
  obtain ⟨c3, c⟩ := He.ba c
  obtain ⟨c4, _⟩ := He.ba c
  refine ⟨?_, He.eqO_ok c2, of_decide_eq_true c3, ?_⟩
  · unfold pnP He.ma
    cases q : PySem.W.findIn K (.ref (He.ga K "Book")) "place_names" with
    | none =>
      rw [q] at c1
      cases c1
    | some r =>
      rw [q] at c1
      cases r with
      | none => cases c1
      | some v =>
        cases v with
        | ref a => rfl
        | _ => cases c1
  · unfold pnG
    cases q : PySem.W.recIn K (pnP K) "property" with
    | none =>
      rw [q] at c4
      cases c4
    | some l =>
      rw [q] at c4
      cases l with
      | nil => cases c4
      | cons v r =>
        cases v with
        | ref a => exact ⟨r, rfl⟩
        | _ => cases c4
end
end Fw

/-! The plain law: two books read rows; the triples that rows lead to. No program in sight. -/
namespace Fw
section
variable {N : Type} [DecidableEq N]
/-- the number of the slot that holds n, 0 if none does -/
def caseOf : List N → N → Nat
  | [], _ => 0
  | x :: r, n => if x = n then 1 else if caseOf r n = 0 then 0 else caseOf r n + 1
theorem caseOf_get : ∀ {h : List N} {n : N} {j : Nat}, caseOf h n = j + 1 → h[j]? = some n
  | [], n, j, e => by simp [caseOf] at e
  | x :: r, n, j, e => by
    unfold caseOf at e
    by_cases h : x = n
    · rw [if_pos h] at e
      have : j = 0 := by omega
      subst this
      simp [h]
    · rw [if_neg h] at e
      by_cases h2 : caseOf r n = 0
      · rw [if_pos h2] at e
        omega
      · rw [if_neg h2] at e
        obtain ⟨i, hi⟩ : ∃ i, j = i + 1 := ⟨j - 1, by omega⟩
        subst hi
        have := caseOf_get (h := r) (n := n) (j := i) (by omega)
        simpa using this
theorem caseOf_first : ∀ {h : List N} {n : N} {j : Nat}, caseOf h n = j + 1 → ∀ m, m < j → h[m]? ≠ some n
  | [], n, j, e => by simp [caseOf] at e
  | x :: r, n, j, e => by
    unfold caseOf at e
    by_cases h : x = n
    · rw [if_pos h] at e
      intro m hm
      omega
    · rw [if_neg h] at e
      by_cases h2 : caseOf r n = 0
      · rw [if_pos h2] at e
        omega
      · rw [if_neg h2] at e
        intro m hm
        cases m with
        | zero => simpa using h
        | succ m =>
          have := caseOf_first (h := r) (n := n) (j := j - 1) (by omega) m (by omega)
          simpa using this
theorem caseOf_zero : ∀ {h : List N} {n : N}, caseOf h n = 0 ↔ n ∉ h
  | [], n => by simp [caseOf]
  | x :: r, n => by
    have ih := caseOf_zero (h := r) (n := n)
    unfold caseOf
    by_cases h : x = n
    · rw [if_pos h]
      simp [h]
    · rw [if_neg h]
      by_cases h2 : caseOf r n = 0
      · rw [if_pos h2]
        simp [ih.mp h2, Ne.symm h]
      · rw [if_neg h2]
        have : n ∈ r := by
          apply Classical.byContradiction
          intro q
          exact h2 (ih.mpr q)
        simp [this]
theorem caseOf_at : ∀ {h : List N} {n : N} {j : Nat}, h[j]? = some n → (∀ m, m < j → h[m]? ≠ some n) → caseOf h n = j + 1
  | [], n, j, e, _ => by simp at e
  | x :: r, n, 0, e, _ => by
    have : x = n := by simpa using e
    unfold caseOf
    rw [if_pos this]
  | x :: r, n, j + 1, e, f => by
    have h0 : ¬ x = n := by simpa using f 0 (by omega)
    have ih := caseOf_at (h := r) (n := n) (j := j) (by simpa using e) fun m hm => by simpa using f (m + 1) (by omega)
    unfold caseOf
    rw [if_neg h0, if_neg (by omega), ih]
theorem caseOf_le : ∀ (h : List N) (n : N), caseOf h n ≤ h.length
  | [], n => by simp [caseOf]
  | x :: r, n => by
    have ih := caseOf_le r n
    unfold caseOf
    rw [List.length_cons]
    split
    · omega
    · split <;> omega
theorem caseOf_nd {h : List N} {n : N} {j : Nat} (nd : h.Nodup) (e : h[j]? = some n) : caseOf h n = j + 1 := by
  refine caseOf_at e fun m hm q => ?_
  obtain ⟨h1, e1⟩ := List.getElem?_eq_some_iff.mp e
  obtain ⟨h2, e2⟩ := List.getElem?_eq_some_iff.mp q
  have := (List.getElem_inj nd).mp (e1.trans e2.symm)
  omega
theorem nd_inj {α : Type} {h : List α} {n : α} {i j : Nat} (nd : h.Nodup) (a : h[i]? = some n) (b : h[j]? = some n) : i = j := by
  obtain ⟨h1, e1⟩ := List.getElem?_eq_some_iff.mp a
  obtain ⟨h2, e2⟩ := List.getElem?_eq_some_iff.mp b
  exact (List.getElem_inj nd).mp (e1.trans e2.symm)
theorem caseOf_corr {h h' : List N} {n n' : N} (c : ∀ a : Nat, h[a]? = some n ↔ h'[a]? = some n') : caseOf h n = caseOf h' n' := by
  cases e : caseOf h n with
  | zero =>
    have h1 := caseOf_zero.mp e
    refine (caseOf_zero.mpr fun hm => h1 ?_).symm
    obtain ⟨a, ha⟩ := List.mem_iff_getElem?.mp hm
    exact List.mem_iff_getElem?.mpr ⟨a, (c a).mpr ha⟩
  | succ j =>
    have h1 := caseOf_get e
    have h2 := caseOf_first e
    exact (caseOf_at ((c j).mp h1) fun m hm q => h2 m hm ((c m).mpr q)).symm
/-- the names behind a read -/
def moved (h : List N) (n : N) (ms : List Nat) : List N := ms.map fun m => if m = 0 then n else h.getD (m - 1) n
/-- the slots that hold the same name -/
def rowOf (h k : List N) (a n : Nat) : List (Nat × Nat) := ((List.range n).filter fun b => decide (h[a]? = k[b]?)).map fun b => (a + 1, b + 1)
def pairsTo (h k : List N) (m : Nat) : List (Nat × Nat) := (List.range m).flatMap fun a => rowOf h k a k.length
def pairsOf (h k : List N) : List (Nat × Nat) := pairsTo h k h.length
theorem flatMap_eq {α β : Type} {f g : α → List β} : ∀ {l : List α}, (∀ a ∈ l, f a = g a) → l.flatMap f = l.flatMap g
  | [], _ => rfl
  | x :: r, h => by
    rw [List.flatMap_cons, List.flatMap_cons, h x (by simp), flatMap_eq fun a ha => h a (by simp [ha])]
theorem pairsTo_succ (h k : List N) (m : Nat) : pairsTo h k (m + 1) = pairsTo h k m ++ rowOf h k m k.length := by
  unfold pairsTo
  rw [List.range_succ, List.flatMap_append, List.flatMap_cons, List.flatMap_nil, List.append_nil]
theorem rowOf_yes {h k : List N} {a b : Nat} (e : h[a]? = k[b]?) : rowOf h k a (b + 1) = rowOf h k a b ++ [(a + 1, b + 1)] := by
  unfold rowOf
  rw [List.range_succ, List.filter_append, List.map_append, List.filter_cons, if_pos (decide_eq_true e)]
  rfl
theorem rowOf_no {h k : List N} {a b : Nat} (e : ¬ h[a]? = k[b]?) : rowOf h k a (b + 1) = rowOf h k a b := by
  unfold rowOf
  rw [List.range_succ, List.filter_append, List.map_append, List.filter_cons, if_neg (by simpa using e)]
  simp
theorem rowOf_zero (h k : List N) (a : Nat) : rowOf h k a 0 = [] := rfl
theorem pairsTo_zero (h k : List N) : pairsTo h k 0 = [] := rfl
theorem rowOf_len (h k : List N) (a n : Nat) : (rowOf h k a n).length ≤ n := by
  unfold rowOf
  rw [List.length_map]
  have := List.length_filter_le (fun b => decide (h[a]? = k[b]?)) (List.range n)
  rw [List.length_range] at this
  exact this
theorem pairsTo_len (h k : List N) (m : Nat) : (pairsTo h k m).length ≤ m * k.length := by
  induction m with
  | zero => simp [pairsTo_zero]
  | succ m ih =>
    rw [pairsTo_succ, List.length_append, Nat.succ_mul]
    have := rowOf_len h k m k.length
    omega
theorem mem_pairs {h k : List N} {i j : Nat} : (i, j) ∈ pairsOf h k ↔ ∃ a b, a < h.length ∧ b < k.length ∧ h[a]? = k[b]? ∧ i = a + 1 ∧ j = b + 1 := by
  unfold pairsOf pairsTo rowOf
  constructor
  · intro m
    obtain ⟨a, ha, m⟩ := List.mem_flatMap.mp m
    obtain ⟨b, hb, e⟩ := List.mem_map.mp m
    obtain ⟨h1, h2⟩ := List.mem_filter.mp hb
    injection e with e1 e2
    exact ⟨a, b, List.mem_range.mp ha, List.mem_range.mp h1, of_decide_eq_true h2, e1.symm, e2.symm⟩
  · rintro ⟨a, b, ha, hb, e, rfl, rfl⟩
    exact List.mem_flatMap.mpr ⟨a, List.mem_range.mpr ha, List.mem_map.mpr ⟨b, List.mem_filter.mpr ⟨List.mem_range.mpr hb, decide_eq_true e⟩, rfl⟩⟩
theorem pairs_congr {h h' k k' : List N} (l1 : h.length = h'.length) (l2 : k.length = k'.length) (c : ∀ a b : Nat, a < h.length → b < k.length → (h[a]? = k[b]? ↔ h'[a]? = k'[b]?)) : pairsOf h k = pairsOf h' k' := by
  unfold pairsOf pairsTo rowOf
  rw [← l1, ← l2]
  refine flatMap_eq fun a ha => ?_
  have ha := List.mem_range.mp ha
  congr 1
  refine List.filter_congr fun b hb => ?_
  have hb := List.mem_range.mp hb
  rw [decide_eq_decide]
  exact c a b ha hb
theorem pairs_iff {h h' k k' : List N} (e : pairsOf h k = pairsOf h' k') (l1 : h.length = h'.length) (l2 : k.length = k'.length) {a b : Nat} (ha : a < h.length) (hb : b < k.length) : h[a]? = k[b]? ↔ h'[a]? = k'[b]? := by
  have m1 := mem_pairs (h := h) (k := k) (i := a + 1) (j := b + 1)
  have m2 := mem_pairs (h := h') (k := k') (i := a + 1) (j := b + 1)
  constructor
  · intro q
    have := m1.mpr ⟨a, b, ha, hb, q, rfl, rfl⟩
    rw [e] at this
    obtain ⟨a', b', _, _, q', e1, e2⟩ := m2.mp this
    have e1 : a = a' := by omega
    have e2 : b = b' := by omega
    subst e1 e2
    exact q'
  · intro q
    have := m2.mpr ⟨a, b, by omega, by omega, q, rfl, rfl⟩
    rw [← e] at this
    obtain ⟨a', b', _, _, q', e1, e2⟩ := m1.mp this
    have e1 : a = a' := by omega
    have e2 : b = b' := by omega
    subst e1 e2
    exact q'
theorem moved_get {h : List N} {n : N} {ms : List Nat} {i m : Nat} (e : ms[i]? = some m) : (moved h n ms)[i]? = some (if m = 0 then n else h.getD (m - 1) n) := by
  unfold moved
  rw [List.getElem?_map, e] <;> rfl
theorem moved_len {h : List N} {n : N} {ms : List Nat} : (moved h n ms).length = ms.length := by
  unfold moved
  rw [List.length_map]
theorem getD_of {h : List N} {n x : N} {m : Nat} (hm : m < h.length) : h.getD m n = x ↔ h[m]? = some x := by
  rw [List.getD_eq_getElem?_getD, List.getElem?_eq_getElem hm]
  simp
end

/-! ### books as automata -/
structure Au (P W : Type) where
  ok : P → Prop
  slots : P → Nat
  yes : P → Bool
  start : P
  words : List W
  rule : P → W → Nat → P × List Nat
structure Au.Good {P W : Type} (A : Au P W) : Prop where
  st : A.ok A.start
  s0 : A.slots A.start = 0
  sm : ∀ p, A.ok p → A.slots p ≤ 6
  rl : ∀ p w c, A.ok p → w ∈ A.words → c ≤ A.slots p → A.ok (A.rule p w c).1 ∧ (A.rule p w c).2.length = A.slots (A.rule p w c).1 ∧ (A.rule p w c).2.Nodup ∧ (∀ m ∈ (A.rule p w c).2, m ≤ A.slots p) ∧ (c ≠ 0 → 0 ∉ (A.rule p w c).2)
section
variable {P Q W N : Type} [DecidableEq N]
structure Au.Val (A : Au P W) (s : P × List N) : Prop where
  ok : A.ok s.1
  len : s.2.length = A.slots s.1
  nd : s.2.Nodup
def Au.step (A : Au P W) (s : P × List N) (w : W) (n : N) : P × List N := ((A.rule s.1 w (caseOf s.2 n)).1, moved s.2 n (A.rule s.1 w (caseOf s.2 n)).2)
def Au.init (A : Au P W) : P × List N := (A.start, [])
theorem Au.Good.init {A : Au P W} (G : A.Good) : A.Val (A.init (N := N)) := ⟨G.st, by
  show ([] : List N).length = A.slots A.start
  rw [G.s0]
  rfl, List.nodup_nil⟩
theorem moved_nd {h : List N} {n : N} {ms : List Nat} (nd : h.Nodup) (nm : ms.Nodup) (le : ∀ m ∈ ms, m ≤ h.length) (c : n ∈ h → 0 ∉ ms) : (moved h n ms).Nodup := by
  unfold moved
  rw [List.Nodup, List.pairwise_map]
  refine List.Pairwise.imp_of_mem (fun {a b} ha hb hab q => ?_) nm
  have ia := le a ha
  have ib := le b hb
  by_cases a0 : a = 0
  · by_cases b0 : b = 0
    · exact hab (a0.trans b0.symm)
    · rw [if_pos a0, if_neg b0] at q
      have := (getD_of (n := n) (x := n) (show b - 1 < h.length by omega)).mp q.symm
      exact c (List.mem_of_getElem? this) (a0 ▸ ha)
  · by_cases b0 : b = 0
    · rw [if_neg a0, if_pos b0] at q
      have := (getD_of (n := n) (x := n) (show a - 1 < h.length by omega)).mp q
      exact c (List.mem_of_getElem? this) (b0 ▸ hb)
    · rw [if_neg a0, if_neg b0] at q
      have h1 := (getD_of (n := n) (show a - 1 < h.length by omega)).mp q
      have h2 := (getD_of (n := n) (show b - 1 < h.length by omega)).mp (rfl : h.getD (b - 1) n = h.getD (b - 1) n)
      have := nd_inj nd h1 h2
      exact hab (by omega)
theorem Au.Val.step {A : Au P W} (G : A.Good) {s : P × List N} (v : A.Val s) {w : W} (hw : w ∈ A.words) (n : N) : A.Val (A.step s w n) := by
  have hc := caseOf_le s.2 n
  rw [v.len] at hc
  obtain ⟨h1, h2, h3, h4, h5⟩ := G.rl s.1 w (caseOf s.2 n) v.ok hw hc
  refine ⟨h1, moved_len.trans h2, moved_nd v.nd h3 (fun m hm => by rw [v.len]; exact h4 m hm) fun hn => h5 fun q => caseOf_zero.mp q hn⟩
def keyOf (s : P × List N) (t : Q × List N) : P × Q × List (Nat × Nat) := (s.1, t.1, pairsOf s.2 t.2)
/-- n and n' stand in the same slots -/
abbrev Corr (h h' : List N) (n n' : N) : Prop := ∀ a : Nat, h[a]? = some n ↔ h'[a]? = some n'
theorem moved_eq {h k h' k' : List N} {n n' : N} {ms ns : List Nat} (l1 : h.length = h'.length) (l2 : k.length = k'.length) (e : ∀ a b : Nat, a < h.length → b < k.length → (h[a]? = k[b]? ↔ h'[a]? = k'[b]?)) (c1 : Corr h h' n n') (c2 : Corr k k' n n')
    (m1 : ∀ m ∈ ms, m ≤ h.length) (m2 : ∀ m ∈ ns, m ≤ k.length) : pairsOf (moved h n ms) (moved k n ns) = pairsOf (moved h' n' ms) (moved k' n' ns) := by
  refine pairs_congr (by rw [moved_len, moved_len]) (by rw [moved_len, moved_len]) fun a b ha hb => ?_
  rw [moved_len] at ha hb
  have ea := List.getElem?_eq_getElem ha
  have eb := List.getElem?_eq_getElem hb
  have la := m1 _ (List.getElem_mem ha)
  have lb := m2 _ (List.getElem_mem hb)
  rw [moved_get ea, moved_get eb, moved_get ea, moved_get eb, Option.some_inj, Option.some_inj]
  generalize ms[a] = m at la
  generalize ns[b] = r at lb
  by_cases m0 : m = 0
  · by_cases r0 : r = 0
    · rw [if_pos m0, if_pos r0, if_pos m0, if_pos r0]
      simp
    · rw [if_pos m0, if_neg r0, if_pos m0, if_neg r0]
      have q1 := getD_of (h := k) (n := n) (x := n) (show r - 1 < k.length by omega)
      have q2 := getD_of (h := k') (n := n') (x := n') (show r - 1 < k'.length by omega)
      have q3 := c2 (r - 1)
      rw [eq_comm, q1, q3, ← q2, eq_comm]
  · by_cases r0 : r = 0
    · rw [if_neg m0, if_pos r0, if_neg m0, if_pos r0]
      have q1 := getD_of (h := h) (n := n) (x := n) (show m - 1 < h.length by omega)
      have q2 := getD_of (h := h') (n := n') (x := n') (show m - 1 < h'.length by omega)
      rw [q1, c1 (m - 1), ← q2]
    · rw [if_neg m0, if_neg r0, if_neg m0, if_neg r0]
      have q := e (m - 1) (r - 1) (by omega) (by omega)
      have a1 : h[m - 1]? = some (h.getD (m - 1) n) := (getD_of (by omega)).mp rfl
      have a2 : k[r - 1]? = some (k.getD (r - 1) n) := (getD_of (by omega)).mp rfl
      have a3 : h'[m - 1]? = some (h'.getD (m - 1) n') := (getD_of (by omega)).mp rfl
      have a4 : k'[r - 1]? = some (k'.getD (r - 1) n') := (getD_of (by omega)).mp rfl
      rw [a1, a2, a3, a4, Option.some_inj, Option.some_inj] at q
      exact q
theorem key_step {A : Au P W} {B : Au Q W} (GA : A.Good) (GB : B.Good) (hw : B.words = A.words) {s s' : P × List N} {t t' : Q × List N} (vs : A.Val s) (vs' : A.Val s') (vt : B.Val t) (vt' : B.Val t') (e : keyOf s t = keyOf s' t') {w : W} (ww : w ∈ A.words) {n n' : N}
    (c1 : Corr s.2 s'.2 n n') (c2 : Corr t.2 t'.2 n n') : keyOf (A.step s w n) (B.step t w n) = keyOf (A.step s' w n') (B.step t' w n') := by
  obtain ⟨e1, e⟩ := Prod.mk.inj e
  obtain ⟨e2, e3⟩ := Prod.mk.inj e
  have l1 : s.2.length = s'.2.length := by rw [vs.len, vs'.len, e1]
  have l2 : t.2.length = t'.2.length := by rw [vt.len, vt'.len, e2]
  have k1 := caseOf_corr c1
  have k2 := caseOf_corr c2
  have b1 := caseOf_le s.2 n
  have b2 := caseOf_le t.2 n
  rw [vs.len] at b1
  rw [vt.len] at b2
  obtain ⟨_, _, _, h4, _⟩ := GA.rl s.1 w _ vs.ok ww b1
  obtain ⟨_, _, _, g4, _⟩ := GB.rl t.1 w _ vt.ok (hw ▸ ww) b2
  have q := moved_eq (n := n) (n' := n') (ms := (A.rule s.1 w (caseOf s.2 n)).2) (ns := (B.rule t.1 w (caseOf t.2 n)).2) l1 l2 (fun a b ha hb => pairs_iff e3 l1 l2 ha hb) c1 c2 (fun m hm => by rw [vs.len]; exact h4 m hm) fun m hm => by rw [vt.len]; exact g4 m hm
  unfold keyOf Au.step
  dsimp only
  rw [q, k1, k2, e1, e2]
/-- candidates for a read at names h and k -/
structure Covers (C : N → Prop) (h k : List N) : Prop where
  l : ∀ x ∈ h, C x
  r : ∀ x ∈ k, C x
  z : ∃ z, C z ∧ z ∉ h ∧ z ∉ k
theorem choose {C : N → Prop} {h k h' k' : List N} (nh : h.Nodup) (nk : k.Nodup) (nh' : h'.Nodup) (nk' : k'.Nodup) (l1 : h.length = h'.length) (l2 : k.length = k'.length)
    (e : ∀ a b : Nat, a < h.length → b < k.length → (h[a]? = k[b]? ↔ h'[a]? = k'[b]?)) (c : Covers C h' k') (n : N) : ∃ n', C n' ∧ Corr h h' n n' ∧ Corr k k' n n' := by
  by_cases m1 : n ∈ h
  · obtain ⟨a, ha⟩ := List.mem_iff_getElem?.mp m1
    have la := (List.getElem?_eq_some_iff.mp ha).1
    have ea : h'[a]? = some h'[a] := List.getElem?_eq_getElem (by omega)
    refine ⟨h'[a], c.l _ (List.getElem_mem _), fun i => ?_, fun b => ?_⟩
    · constructor
      · intro q
        rw [nd_inj nh q ha]
        exact ea
      · intro q
        rw [nd_inj nh' q ea]
        exact ha
    · by_cases lb : b < k.length
      · have := e a b la lb
        rw [ha, ea] at this
        rw [eq_comm, this, eq_comm]
      · rw [List.getElem?_eq_none (by omega), List.getElem?_eq_none (by omega)]
        simp
  · by_cases m2 : n ∈ k
    · obtain ⟨b, hb⟩ := List.mem_iff_getElem?.mp m2
      have lb := (List.getElem?_eq_some_iff.mp hb).1
      have eb : k'[b]? = some k'[b] := List.getElem?_eq_getElem (by omega)
      refine ⟨k'[b], c.r _ (List.getElem_mem _), fun a => ?_, fun i => ?_⟩
      · by_cases la : a < h.length
        · have := e a b la lb
          rw [hb, eb] at this
          exact this
        · rw [List.getElem?_eq_none (by omega), List.getElem?_eq_none (by omega)]
          simp
      · constructor
        · intro q
          rw [nd_inj nk q hb]
          exact eb
        · intro q
          rw [nd_inj nk' q eb]
          exact hb
    · obtain ⟨z, cz, z1, z2⟩ := c.z
      refine ⟨z, cz, fun a => ?_, fun a => ?_⟩
      · exact ⟨fun q => absurd (List.mem_of_getElem? q) m1, fun q => absurd (List.mem_of_getElem? q) z1⟩
      · exact ⟨fun q => absurd (List.mem_of_getElem? q) m2, fun q => absurd (List.mem_of_getElem? q) z2⟩
/-- what rows lead to -/
inductive Reach (A : Au P W) (B : Au Q W) : P × List N → Q × List N → Prop
  | init : Reach A B A.init B.init
  | step {s : P × List N} {t : Q × List N} (w : W) (n : N) : Reach A B s t → w ∈ A.words → Reach A B (A.step s w n) (B.step t w n)
theorem Reach.val {A : Au P W} {B : Au Q W} (GA : A.Good) (GB : B.Good) (hw : B.words = A.words) {s : P × List N} {t : Q × List N} (r : Reach A B s t) : A.Val s ∧ B.Val t := by
  induction r with
  | init => exact ⟨GA.init, GB.init⟩
  | step w n r ww ih => exact ⟨ih.1.step GA ww n, ih.2.step GB (hw ▸ ww) n⟩
theorem Reach.closed {A : Au P W} {B : Au Q W} (GA : A.Good) (GB : B.Good) (hw : B.words = A.words) (K : P × Q × List (Nat × Nat) → Prop) (h0 : K (keyOf (A.init (N := N)) (B.init (N := N))))
    (hc : ∀ k, K k → ∃ (s : P × List N) (t : Q × List N) (C : N → Prop), A.Val s ∧ B.Val t ∧ keyOf s t = k ∧ Covers C s.2 t.2 ∧ ∀ w ∈ A.words, ∀ n, C n → K (keyOf (A.step s w n) (B.step t w n))) {s : P × List N} {t : Q × List N} (r : Reach A B s t) : K (keyOf s t) := by
  induction r with
  | init => exact h0
  | @step s t w n r ww ih =>
    obtain ⟨vs, vt⟩ := r.val GA GB hw
    obtain ⟨s', t', C, vs', vt', e, cov, go⟩ := hc _ ih
    have e' : keyOf s t = keyOf s' t' := e.symm
    obtain ⟨e1, ee⟩ := Prod.mk.inj e'
    obtain ⟨e2, e3⟩ := Prod.mk.inj ee
    have l1 : s.2.length = s'.2.length := by rw [vs.len, vs'.len, e1]
    have l2 : t.2.length = t'.2.length := by rw [vt.len, vt'.len, e2]
    obtain ⟨n', cn, c1, c2⟩ := choose vs.nd vt.nd vs'.nd vt'.nd l1 l2 (fun a b ha hb => pairs_iff e3 l1 l2 ha hb) cov n
    rw [key_step GA GB hw vs vs' vt vt' e' ww c1 c2]
    exact go w ww n' cn
theorem Reach.lift {A : Au P W} {B : Au Q W} (GA : A.Good) (GB : B.Good) (hw : B.words = A.words) (fresh : ∀ l : List N, ∃ z, z ∉ l) {s s' : P × List N} {t t' : Q × List N} (r : Reach A B s t) (vs' : A.Val s') (vt' : B.Val t') (e : keyOf s' t' = keyOf s t)
    {w : W} (ww : w ∈ A.words) (n' : N) : ∃ (s2 : P × List N) (t2 : Q × List N), Reach A B s2 t2 ∧ keyOf s2 t2 = keyOf (A.step s' w n') (B.step t' w n') := by
  obtain ⟨vs, vt⟩ := r.val GA GB hw
  obtain ⟨e1, ee⟩ := Prod.mk.inj e
  obtain ⟨e2, e3⟩ := Prod.mk.inj ee
  have l1 : s'.2.length = s.2.length := by rw [vs.len, vs'.len, e1]
  have l2 : t'.2.length = t.2.length := by rw [vt.len, vt'.len, e2]
  obtain ⟨z, hz⟩ := fresh (s.2 ++ t.2)
  obtain ⟨n, _, c1, c2⟩ := choose (C := fun _ => True) vs'.nd vt'.nd vs.nd vt.nd l1 l2 (fun a b ha hb => pairs_iff e3 l1 l2 ha hb) ⟨fun _ _ => trivial, fun _ _ => trivial, z, trivial, fun q => hz (by simp [q]), fun q => hz (by simp [q])⟩ n'
  exact ⟨_, _, r.step w n ww, (key_step GA GB hw vs' vs vt' vt e ww c1 c2).symm⟩
theorem Reach.swap {A : Au P W} {B : Au Q W} (hw : B.words = A.words) {s : P × List N} {t : Q × List N} (r : Reach A B s t) : Reach B A t s := by
  induction r with
  | init => exact .init
  | step w n r ww ih => exact .step w n ih (hw ▸ ww)
theorem Reach.same {A : Au P W} {s t : P × List N} (r : Reach A A s t) : s = t := by
  induction r with
  | init => rfl
  | step w n r ww ih => rw [ih]
end

/-! ### how many triples there are -/
section
variable {N : Type} [DecidableEq N]
def decode (f : List Nat) : List (Nat × Nat) := (List.range f.length).flatMap fun a => if f.getD a 0 = 0 then [] else [(a + 1, f.getD a 0)]
theorem range_one {n j : Nat} (h : j < n) : ∀ p : Nat → Bool, (∀ b, b < n → (p b = true ↔ b = j)) → (List.range n).filter p = [j] := by
  induction n with
  | zero => omega
  | succ n ih =>
    intro p hp
    rw [List.range_succ, List.filter_append]
    by_cases e : j = n
    · subst e
      have h1 : (List.range j).filter p = [] := List.filter_eq_nil_iff.mpr fun b hb q => by
        have hb := List.mem_range.mp hb
        have := (hp b (by omega)).mp q
        omega
      rw [h1, List.filter_cons, if_pos ((hp j (by omega)).mpr rfl)]
      rfl
    · have h2 : List.filter p [n] = [] := List.filter_eq_nil_iff.mpr fun b hb q => by
        have hb := List.mem_singleton.mp hb
        have := (hp b (by omega)).mp q
        omega
      rw [ih (by omega) p fun b hb => hp b (by omega), h2]
      rfl
theorem pairs_decode {h k : List N} (nk : k.Nodup) : pairsOf h k = decode (h.map (caseOf k)) := by
  unfold pairsOf pairsTo rowOf decode
  rw [List.length_map]
  refine flatMap_eq fun a ha => ?_
  have ha := List.mem_range.mp ha
  have e1 : h[a]? = some h[a] := List.getElem?_eq_getElem ha
  have e2 : (h.map (caseOf (N := N) k)).getD a 0 = caseOf k h[a] := by
    rw [List.getD_eq_getElem?_getD, List.getElem?_map, e1]
    rfl
  rw [e2, e1]
  cases e : caseOf k h[a] with
  | zero =>
    rw [if_pos rfl]
    have : (List.range k.length).filter (fun b => decide (some h[a] = k[b]?)) = [] := List.filter_eq_nil_iff.mpr fun b hb q => by
      have q := of_decide_eq_true q
      exact caseOf_zero.mp e (List.mem_of_getElem? q.symm)
    rw [this]
    rfl
  | succ j =>
    rw [if_neg (by omega)]
    have g := caseOf_get e
    have lj := (List.getElem?_eq_some_iff.mp g).1
    have := range_one lj (fun b => decide (some h[a] = k[b]?)) fun b hb => by
      rw [decide_eq_true_iff]
      constructor
      · intro q
        exact nd_inj nk q.symm g
      · rintro rfl
        exact g.symm
    rw [this]
    rfl
theorem decode_pad (f : List Nat) : ∀ n, decode (f ++ List.replicate n 0) = decode f := by
  intro n
  unfold decode
  rw [List.length_append, List.length_replicate, List.range_add, List.flatMap_append]
  have h1 : ((List.range n).map fun x => f.length + x).flatMap (fun a => if (f ++ List.replicate n 0).getD a 0 = 0 then ([] : List (Nat × Nat)) else [(a + 1, (f ++ List.replicate n 0).getD a 0)]) = [] := by
    rw [List.flatMap_eq_nil_iff]
    intro a ha
    obtain ⟨x, hx, rfl⟩ := List.mem_map.mp ha
    have hx := List.mem_range.mp hx
    rw [if_pos]
    rw [List.getD_eq_getElem?_getD, List.getElem?_append_right (by omega), List.getElem?_replicate]
    split <;> rfl
  rw [h1, List.append_nil]
  refine flatMap_eq fun a ha => ?_
  have ha := List.mem_range.mp ha
  have : (f ++ List.replicate n 0).getD a 0 = f.getD a 0 := by
    rw [List.getD_eq_getElem?_getD, List.getD_eq_getElem?_getD, List.getElem?_append_left ha]
  rw [this]
def allF : Nat → Nat → List (List Nat)
  | 0, _ => [[]]
  | n + 1, m => (List.range (m + 1)).flatMap fun x => (allF n m).map (x :: ·)
theorem len_flat {α β : Type} {f : α → List β} {c : Nat} : ∀ {l : List α}, (∀ x ∈ l, (f x).length = c) → (l.flatMap f).length = l.length * c
  | [], _ => by simp
  | x :: r, h => by
    rw [List.flatMap_cons, List.length_append, h x (by simp), len_flat fun y hy => h y (by simp [hy]), List.length_cons, Nat.succ_mul]
    omega
theorem allF_len (n m : Nat) : (allF n m).length = (m + 1) ^ n := by
  induction n with
  | zero => rfl
  | succ n ih =>
    show ((List.range (m + 1)).flatMap fun x => (allF n m).map (x :: ·)).length = _
    rw [len_flat (c := (m + 1) ^ n) fun x _ => by rw [List.length_map, ih], List.length_range, Nat.pow_succ, Nat.mul_comm]
theorem allF_mem : ∀ {n m : Nat} {f : List Nat}, f.length = n → (∀ x ∈ f, x ≤ m) → f ∈ allF n m
  | 0, m, f, h, _ => by
    have : f = [] := List.length_eq_zero_iff.mp h
    simp [allF, this]
  | n + 1, m, [], h, _ => by simp at h
  | n + 1, m, x :: r, h, b => by
    show x :: r ∈ (List.range (m + 1)).flatMap fun x => (allF n m).map (x :: ·)
    refine List.mem_flatMap.mpr ⟨x, List.mem_range.mpr (by have := b x (by simp); omega), List.mem_map.mpr ⟨r, allF_mem (by simpa using h) fun y hy => b y (by simp [hy]), rfl⟩⟩
theorem nodup_le {α : Type} : ∀ {l m : List α}, l.Nodup → (∀ x ∈ l, x ∈ m) → l.length ≤ m.length
  | [], m, _, _ => by simp
  | x :: r, m, nd, h => by
    obtain ⟨h1, h2⟩ := List.nodup_cons.mp nd
    obtain ⟨a, b, rfl⟩ := List.append_of_mem (h x (by simp))
    have := nodup_le (l := r) (m := a ++ b) h2 fun y hy => by
      have := h y (by simp [hy])
      have ne : y ≠ x := fun e => h1 (e ▸ hy)
      simpa [ne] using this
    rw [List.length_append] at this
    rw [List.length_cons, List.length_append, List.length_cons]
    omega
variable {P Q W : Type}
theorem keys_le {A : Au P W} {B : Au Q W} {PA : List P} {QB : List Q} {a b : Nat} (hA : ∀ p, A.ok p → p ∈ PA ∧ A.slots p ≤ a) (hB : ∀ q, B.ok q → q ∈ QB ∧ B.slots q ≤ b) {L : List (P × Q × List (Nat × Nat))} (nd : L.Nodup)
    (hL : ∀ k ∈ L, ∃ (s : P × List N) (t : Q × List N), A.Val s ∧ B.Val t ∧ keyOf s t = k) : L.length ≤ PA.length * (QB.length * (b + 1) ^ a) := by
  have e : (PA.flatMap fun p => QB.flatMap fun q => (allF a b).map fun f => (p, q, decode f)).length = PA.length * (QB.length * (b + 1) ^ a) := by
    refine len_flat fun p _ => ?_
    refine len_flat fun q _ => ?_
    rw [List.length_map, allF_len]
  rw [← e]
  refine nodup_le nd fun k hk => ?_
  obtain ⟨s, t, vs, vt, rfl⟩ := hL k hk
  obtain ⟨p1, p2⟩ := hA _ vs.ok
  obtain ⟨q1, q2⟩ := hB _ vt.ok
  refine List.mem_flatMap.mpr ⟨s.1, p1, List.mem_flatMap.mpr ⟨t.1, q1, List.mem_map.mpr ⟨s.2.map (caseOf t.2) ++ List.replicate (a - s.2.length) 0, allF_mem ?_ fun x hx => ?_, ?_⟩⟩⟩
  · rw [List.length_append, List.length_map, List.length_replicate, vs.len]
    omega
  · rcases List.mem_append.mp hx with hx | hx
    · obtain ⟨y, _, rfl⟩ := List.mem_map.mp hx
      have := caseOf_le t.2 y
      rw [vt.len] at this
      omega
    · rw [List.eq_of_mem_replicate hx]
      omega
  · unfold keyOf
    rw [decode_pad, pairs_decode vt.nd]
end
end Fw

/-! Heaps that grow, what stands in them; calls by their promises. -/
namespace Fw
open PySem PySem.Spec PyProof.Rows L2
/-! ### heaps -/
theorem same_new {H : Hp} {p : Addr} {o : HO} (h : H p = none) : Same H (upd H p o) := fun b u e => by
  rw [upd_ne (ne_of_none e h)]
  exact e
theorem same_mut {H H' : Hp} {p : Addr} {o : HO} (s : Same H H') (h : H p = none) : Same H (upd H' p o) := fun b u e => by
  rw [upd_ne (ne_of_none e h)]
  exact s b u e
def NF : HO → Prop
  | .frz _ _ => False
  | _ => True
/-- what may be read may be read -/
def Rle (H H' : Hp) : Prop := ∀ b o, NF o → Rd H b o → Rd H' b o
theorem Rle.refl (H : Hp) : Rle H H := fun _ _ _ h => h
theorem Rle.trans {H H1 H2 : Hp} (a : Rle H H1) (b : Rle H1 H2) : Rle H H2 := fun c o n h => b c o n (a c o n h)
theorem Rle.same {H H' : Hp} (s : Same H H') : Rle H H' := fun b o n h => by
  rcases h with h | ⟨u, h⟩
  · exact .inl (s b o h)
  · exact .inr ⟨u, s b _ h⟩
theorem Rle.lock {H : Hp} {d : Addr} {od : Obj} {u : HO} (h : H d = some u) (nu : NF u) : Rle H (upd H d (.frz od u)) := fun b o n q => by
  by_cases e : b = d
  · subst e
    rcases q with q | ⟨u', q⟩
    · rw [h] at q
      cases q
      exact .inr ⟨od, upd_same⟩
    · rw [h] at q
      cases q
      exact nu.elim
  · rcases q with q | ⟨u', q⟩
    · exact .inl (by rw [upd_ne e]; exact q)
    · exact .inr ⟨u', by rw [upd_ne e]; exact q⟩
theorem Rle.unlock {H : Hp} {d : Addr} {od : Obj} {u : HO} (h : H d = some (.frz od u)) : Rle H (upd H d u) := fun b o n q => by
  by_cases e : b = d
  · subst e
    rcases q with q | ⟨u', q⟩
    · rw [h] at q
      cases q
      exact n.elim
    · rw [h] at q
      cases q
      exact .inl upd_same
  · rcases q with q | ⟨u', q⟩
    · exact .inl (by rw [upd_ne e]; exact q)
    · exact .inr ⟨u', by rw [upd_ne e]; exact q⟩
/-- locked, and unlocked again -/
theorem same_lock {H H' : Hp} {d : Addr} {od : Obj} {u : HO} (h : H d = some u) (s : Same (upd H d (.frz od u)) H') : Same H (upd H' d u) := fun b o e => by
  by_cases q : b = d
  · subst q
    rw [h] at e
    cases e
    exact upd_same
  · rw [upd_ne q]
    exact s b o (by rw [upd_ne q]; exact e)
section
variable {K : PySem.W.Frag} {H H' : Hp} {a : Addr} {xs : List V}
theorem rleL (r : Rle H H') (h : SqL K H a xs) : SqL K H' a xs := by
  rcases h with h | h
  · exact .inl (r _ _ trivial h)
  · exact .inr h
theorem rleT (r : Rle H H') (h : SqT K H a xs) : SqT K H' a xs := by
  rcases h with h | h
  · exact .inl (r _ _ trivial h)
  · exact .inr h
theorem sameL (s : Same H H') (h : SqL K H a xs) : SqL K H' a xs := rleL (.same s) h
theorem sameT (s : Same H H') (h : SqT K H a xs) : SqT K H' a xs := rleT (.same s) h
end
/-- a list at l is written: tuples stand, other lists stand -/
theorem sqT_upd {K : PySem.W.Frag} {H : Hp} {l r : Addr} {o : HO} {zs xs : List V} (h : H l = some (.lst zs)) (t : SqT K H r xs) : SqT K (upd H l o) r xs := by
  rcases t with t | t
  · refine .inl ?_
    have ne : r ≠ l := by
      rintro rfl
      rcases t with t | ⟨u, t⟩ <;> (rw [h] at t; cases t)
    rcases t with t | ⟨u, t⟩
    · exact .inl (by rw [upd_ne ne]; exact t)
    · exact .inr ⟨u, by rw [upd_ne ne]; exact t⟩
  · exact .inr t
theorem sqT_updD {K : PySem.W.Frag} {H : Hp} {l r : Addr} {o : HO} {zs : List (List Key × V)} {xs : List V} (h : H l = some (.dT zs)) (t : SqT K H r xs) : SqT K (upd H l o) r xs := by
  rcases t with t | t
  · refine .inl ?_
    have ne : r ≠ l := by
      rintro rfl
      rcases t with t | ⟨u, t⟩ <;> (rw [h] at t; cases t)
    rcases t with t | ⟨u, t⟩
    · exact .inl (by rw [upd_ne ne]; exact t)
    · exact .inr ⟨u, by rw [upd_ne ne]; exact t⟩
  · exact .inr t
theorem sqL_upd {K : PySem.W.Frag} {H : Hp} {l r : Addr} {o : HO} {xs : List V} (ne : r ≠ l) (t : SqL K H r xs) : SqL K (upd H l o) r xs := by
  rcases t with t | t
  · refine .inl ?_
    rcases t with t | ⟨u, t⟩
    · exact .inl (by rw [upd_ne ne]; exact t)
    · exact .inr ⟨u, by rw [upd_ne ne]; exact t⟩
  · exact .inr t
/-- pairs, item by item -/
theorem paired_imp {α β : Type} {F G : α → β → Prop} {l : List α} {m : List β} (h : Paired F l m) (f : ∀ a b, F a b → G a b) : Paired G l m := Paired.mapP h f
theorem paired_snoc {α β : Type} {F : α → β → Prop} : ∀ {l : List α} {m : List β} {a : α} {b : β}, Paired F l m → F a b → Paired F (l ++ [a]) (m ++ [b])
  | _, _, _, _, .nil, h => .cons h .nil
  | _, _, _, _, .cons r t, h => .cons r (paired_snoc t h)
/-! ### values -/
/-- a tuple of texts; a list or tuple of texts; a tuple of numbers -/
def StrT (K : PySem.W.Frag) (H : Hp) (v : V) (l : List Str) : Prop := ∃ a, v = .ref a ∧ SqT K H a (l.map V.str)
def StrS (K : PySem.W.Frag) (H : Hp) (v : V) (l : List Str) : Prop := ∃ a, v = .ref a ∧ (SqL K H a (l.map V.str) ∨ SqT K H a (l.map V.str))
def natV (n : Nat) : V := .int (n : Int)
def NatT (K : PySem.W.Frag) (H : Hp) (v : V) (l : List Nat) : Prop := ∃ a, v = .ref a ∧ SqT K H a (l.map natV)
section
variable {K : PySem.W.Frag} {H H' : Hp} {v : V} {l : List Str} {ns : List Nat}
theorem StrT.rle (r : Rle H H') (h : StrT K H v l) : StrT K H' v l := let ⟨a, e, t⟩ := h; ⟨a, e, rleT r t⟩
theorem StrS.rle (r : Rle H H') (h : StrS K H v l) : StrS K H' v l := let ⟨a, e, t⟩ := h; ⟨a, e, t.imp (rleL r) (rleT r)⟩
theorem NatT.rle (r : Rle H H') (h : NatT K H v ns) : NatT K H' v ns := let ⟨a, e, t⟩ := h; ⟨a, e, rleT r t⟩
theorem StrT.s (h : StrT K H v l) : StrS K H v l := let ⟨a, e, t⟩ := h; ⟨a, e, .inr t⟩
end
/-- a tuple of pairs of numbers -/
def PairT (K : PySem.W.Frag) (H : Hp) (r : Addr) (p : Nat × Nat) : Prop := SqT K H r [natV p.1, natV p.2]
def PairsT (K : PySem.W.Frag) (H : Hp) (v : V) (l : List (Nat × Nat)) : Prop := ∃ a rs, v = .ref a ∧ SqT K H a (rs.map V.ref) ∧ Paired (PairT K H) rs l
/-- a triple: two places, the slots that hold the same name -/
def KeyT (K : PySem.W.Frag) (H : Hp) (v : V) (k : Str × Str × List (Nat × Nat)) : Prop := ∃ a v3, v = .ref a ∧ SqT K H a [.str k.1, .str k.2.1, v3] ∧ PairsT K H v3 k.2.2
theorem PairsT.rle {K : PySem.W.Frag} {H H' : Hp} {v : V} {l : List (Nat × Nat)} (r : Rle H H') (h : PairsT K H v l) : PairsT K H' v l := let ⟨a, rs, e, t, p⟩ := h; ⟨a, rs, e, rleT r t, paired_imp p fun _ _ q => rleT r q⟩
theorem KeyT.rle {K : PySem.W.Frag} {H H' : Hp} {v : V} {k : Str × Str × List (Nat × Nat)} (r : Rle H H') (h : KeyT K H v k) : KeyT K H' v k := let ⟨a, v3, e, t, p⟩ := h; ⟨a, v3, e, rleT r t, p.rle r⟩
/-- turns of a comprehension, of a loop: the walk's word -/
theorem turns {J : It} {n : Nat} {G : Hp → Prop} {Y : Nat → Hp → V → Hp → Prop} (w : Walk J n G Y) {B : (Hp → Prop) → V → Hp → Prop} {Qd : Hp → Prop} {H0 : Hp} (Pv : Nat → Hp → Prop) (h0 : Pv 0 H0) (hG : ∀ i H, i ≤ n → Pv i H → G H)
    (hs : ∀ i x H H', i < n → Pv i H → Y i H x H' → B (Pv (i + 1)) x H') (hd : ∀ H, Pv n H → Qd H) :
    ∃ W : Nat → Nat → Hp → Prop, (∃ m, W 0 m H0) ∧ ∀ i m H, W i m H → (J.stop i H ∧ Qd H) ∨ (J.go i H ∧ ∃ Nx : Hp → Prop, (∀ H', Nx H' → ∃ m', m' < m ∧ W (i + 1) m' H') ∧ ∀ x H', J.yld i H x H' → B Nx x H') := by
  refine ⟨fun i m H => m = n - i ∧ i ≤ n ∧ Pv i H, ⟨n, by simp, Nat.zero_le _, h0⟩, ?_⟩
  rintro i m H ⟨rfl, hi, p⟩
  have q := hG i H hi p
  by_cases hlt : i < n
  · exact .inr ⟨w.goes i H hlt q, Pv (i + 1), fun H' p' => ⟨n - (i + 1), by omega, rfl, hlt, p'⟩, fun x H' y => hs i x H H' hlt p (w.yields i H x H' hlt q y)⟩
  · have e : i = n := by omega
    subst e
    exact .inl ⟨w.stops H q, hd H p⟩
/-! ### calls by their promises -/
section
variable (P : Program) (w : World) (K : PySem.W.Frag) (mg : Str → Option Value) (base : Heap) (CX : CXT)
/-- a def at f keeps a promise; dvs: its defaults, where it is called without them -/
structure Fc (k : Nat) (f : Addr) (ps : List Str) (dvs : List V) (sp : Sp) : Prop where
  ex : ∃ fd ds, FnOk P w K mg base CX k f fd ps sp ∧ Binds K fd ps ds ∧ Vals dvs ds
  kp : PySem.W.keepIn K (.ref f) = true
end
section
variable {P : Program} {w : World} {K : PySem.W.Frag} {mg : Str → Option Value} {base : Heap} {CX : CXT} {k : Nat} {f : Addr} {ps : List Str} {dvs : List V} {sp sp' : Sp}
theorem Fc.imp (F : Fc P w K mg base CX k f ps dvs sp) (h : ∀ vs H Q E, sp' vs H Q E → sp vs H Q E) : Fc P w K mg base CX k f ps dvs sp' := by
  obtain ⟨fd, ds, G, b, d⟩ := F.ex
  exact ⟨⟨fd, ds, G.imp h, b, d⟩, F.kp⟩
theorem Fc.mono {j : Nat} (F : Fc P w K mg base CX j f ps dvs sp) (h : j ≤ k) : Fc P w K mg base CX k f ps dvs sp := by
  obtain ⟨fd, ds, G, b, d⟩ := F.ex
  exact ⟨⟨fd, ds, G.mono h, b, d⟩, F.kp⟩
/-- a def without defaults, its body walked -/
theorem fc_mk {N : List Str} {x qual : Str} {params : Arguments} {body : List Stmt} {scope : Scope} (F : ∃ fd, FunD K x qual params body scope [] [] f fd) (S : FnScope N ps scope)
    (b : ∀ (kV doc pm : Value) (an : Option Addr) (cdv ct : Value) (us : List Value), us.length = ps.length → bindArgs (PySem.W.fnOf x qual params body scope .none kV doc pm an cdv ct) ⟨us, []⟩ = pure (ps.zip us))
    (len : ∀ vs H Q E, sp vs H Q E → vs.length = ps.length)
    (hbody : ∀ (cdv : Value) (A : Around) (outer : List Env) (s : Shared) (H : Hp) (vs : List V) (Q : VK) (E : XK), Room k (A.deeper (envOfC qual scope s.heap.objs.size f cdv)) → sp vs H Q E →
      ∃ t, PSs (cxOf CX0 P w K mg base N qual scope f cdv A outer s H E).nox body t ∧ t { nx := fun _ H' => Q .non H', rt := Q } (start N vs) H) : Fc P w K mg base CX0 (k + 1) f ps [] sp := by
  obtain ⟨fd, F⟩ := F
  refine ⟨⟨fd, [], F.ok S len fun cdv A outer s H vs Q E hr h => ?_, F.bindsN b, .nil⟩, F.kp⟩
  obtain ⟨t, h1, h2⟩ := hbody cdv A outer s H vs Q E hr h
  exact ⟨t, h1.nox, h2⟩
/-- the same for a def that may raise -/
theorem fc_mkX {N : List Str} {x qual : Str} {params : Arguments} {body : List Stmt} {scope : Scope} (F : ∃ fd, FunD K x qual params body scope [] [] f fd) (S : FnScope N ps scope)
    (b : ∀ (kV doc pm : Value) (an : Option Addr) (cdv ct : Value) (us : List Value), us.length = ps.length → bindArgs (PySem.W.fnOf x qual params body scope .none kV doc pm an cdv ct) ⟨us, []⟩ = pure (ps.zip us))
    (len : ∀ vs H Q E, sp vs H Q E → vs.length = ps.length)
    (hbody : ∀ (cdv : Value) (A : Around) (outer : List Env) (s : Shared) (H : Hp) (vs : List V) (Q : VK) (E : XK), Room k (A.deeper (envOfC qual scope s.heap.objs.size f cdv)) → sp vs H Q E →
      ∃ t, PSs (cxOf (L2.CX P w) P w K mg base N qual scope f cdv A outer s H E) body t ∧ t { nx := fun _ H' => Q .non H', rt := Q } (start N vs) H) : Fc P w K mg base (L2.CX P w) (k + 1) f ps [] sp := by
  obtain ⟨fd, F⟩ := F
  exact ⟨⟨fd, [], F.ok S len hbody, F.bindsN b, .nil⟩, F.kp⟩
end
section
variable {X : Cx} {k : Nat} {f C : Addr} {ps : List Str} {dvs : List V} {sp : Sp} {x m : Str} {p pos apos : Pos} {e o : Expr} {es : List Expr} {ta : TE} {t : TA} {E : XK}
/-- f(e, ..) -/
theorem e_f (F : Fc X.prog X.w X.K X.mg X.base CX0 k f ps dvs sp) (hr : Room k X.A) (hm : X.mg x = some (.ref f)) (ha : PA X (e :: es) t) (hg : Gl X x := by rfl) (hdb : (x == ("__debug__" : Str)) = false := by decide)
    (he : starEach (e :: es) X.env = (false, eval e X.env) :: starEach es X.env := by rfl) (hpl : (backTo pos (starEach es X.env)).any (·.1) = false := by rfl) : PE X (.Call (.Name x p) (e :: es) [] pos) (tCall sp dvs E0 t) := by
  obtain ⟨fd, ds, G, b, d⟩ := F.ex
  exact pe_call G hr hg hm F.kp b d pass0 ha hdb he hpl
/-- the same of a def that may raise; here it does not -/
theorem e_fL (F : Fc X.prog X.w X.K X.mg X.base (L2.CX X.prog X.w) k f ps dvs sp) (hr : Room k X.A) (hm : X.mg x = some (.ref f)) (ha : PA X (e :: es) t) (hg : Gl X x := by rfl) (hdb : (x == ("__debug__" : Str)) = false := by decide)
    (he : starEach (e :: es) X.env = (false, eval e X.env) :: starEach es X.env := by rfl) (hpl : (backTo pos (starEach es X.env)).any (·.1) = false := by rfl) : PE X (.Call (.Name x p) (e :: es) [] pos) (tCall sp dvs E0 t) := by
  obtain ⟨fd, ds, G, b, d⟩ := F.ex
  exact pe_call G hr hg hm F.kp b d passL ha hdb he hpl
/-- o.m(e, ..) -/
theorem e_m {pl : Sem Bool} (he : PE X o ta) (c : Cls X.K C) (hm : Meth X.K C m f) (F : Fc X.prog X.w X.K X.mg X.base CX0 k f ps dvs sp) (hr : Room k X.A) (ha : PA X (e :: es) t)
    (hst : starEach (e :: es) X.env = (false, eval e X.env) :: starEach es X.env := by rfl) (hpl : (backTo pos (starEach es X.env)).any (·.1) = false := by rfl)
    (ht : eval (.Call (.Attribute o m apos) (e :: es) [] pos) X.env = (do
      let ov ← eval o X.env
      standAt apos.atName
      let (f, first) ← holding [ov] (getMethod ov m pl)
      callWith pos f first (backTo pos (starEach (e :: es) X.env)) (backToKw pos (keywordEach [] X.env))) := by rfl) : PE X (.Call (.Attribute o m apos) (e :: es) [] pos) (tMeth C m sp dvs E0 ta t) := by
  obtain ⟨fd, ds, G, b, d⟩ := F.ex
  exact pe_meth he c hm G hr b d pass0 ha hst hpl ht
theorem e_m0 {pl : Sem Bool} (he : PE X o ta) (c : Cls X.K C) (hm : Meth X.K C m f) (F : Fc X.prog X.w X.K X.mg X.base CX0 k f ps dvs sp) (hr : Room k X.A)
    (ht : eval (.Call (.Attribute o m apos) [] [] pos) X.env = (do
      let ov ← eval o X.env
      standAt apos.atName
      let (f, first) ← holding [ov] (getMethod ov m pl)
      callWith pos f first (backTo pos (starEach [] X.env)) (backToKw pos (keywordEach [] X.env))) := by rfl) : PE X (.Call (.Attribute o m apos) [] [] pos) (tMeth C m sp dvs E0 ta tNil) := by
  obtain ⟨fd, ds, G, b, d⟩ := F.ex
  exact pe_meth0 he c hm G hr b d pass0 ht
/-- C(e, ..) -/
theorem e_make (M : Mk X.K C f) (F : Fc X.prog X.w X.K X.mg X.base CX0 k f ps dvs sp) (hr : Room (k + 1) X.A) (hm : X.mg x = some (.ref C)) (ha : PA X (e :: es) t) (hg : Gl X x := by rfl) (hdb : (x == ("__debug__" : Str)) = false := by decide)
    (he : starEach (e :: es) X.env = (false, eval e X.env) :: starEach es X.env := by rfl) (hpl : (backTo pos (starEach es X.env)).any (·.1) = false := by rfl) : PE X (.Call (.Name x p) (e :: es) [] pos) (tMake C sp dvs E0 t) := by
  obtain ⟨fd, ds, G, b, d⟩ := F.ex
  exact pe_make M G hr hg hm b d pass0 ha hdb he hpl
end
/-! ### short words: the side conditions last -/
section
variable {X : Cx} {pos pos' : Pos} {a b e i o value : Expr} {ta tb te td ti ty tv : TE} {f : Str} {r : R2}
theorem e_fld {K : PySem.W.Frag} (he : PE X e ta) (hb : attributeBase e f X.env (eval e X.env) = eval e X.env := by rfl) (hK : X.K = K := by rfl) : PE X (.Attribute e f pos) (tFld K ta f) := hK ▸ pe_fld he hb
theorem s_fld (ha : PE X o ta) (hv : PE X value tv) (hs : swapsWith value (some (.Attribute o f pos')) pos.line X.env = pure false := by rfl) : PS X (.Assign [.Attribute o f pos'] value pos) (sFld X.K ta tv f) := ps_fld ha hv hs
theorem e_ixT {K : PySem.W.Frag} (ha : PE X a ta) (hb : PE X b tb) (hs : PlainIx b := by exact fun _ _ => rfl) (hK : X.K = K := by rfl) : PE X (.Subscript a b pos) (tOp (rIxT K) ta tb) := hK ▸ pe_ix ix_tup ha hb hs
theorem e_ixL {K : PySem.W.Frag} (ha : PE X a ta) (hb : PE X b tb) (hs : PlainIx b := by exact fun _ _ => rfl) (hK : X.K = K := by rfl) : PE X (.Subscript a b pos) (tOp (rIxL K) ta tb) := hK ▸ pe_ix ix_list ha hb hs
theorem e_ixS (ha : PE X a ta) (hb : PE X b tb) (hs : PlainIx b := by exact fun _ _ => rfl) : PE X (.Subscript a b pos) (tOp rIxS ta tb) := pe_ix ix_str ha hb hs
theorem e_ix {K : PySem.W.Frag} (ha : PE X a ta) (hb : PE X b tb) (hs : PlainIx b := by exact fun _ _ => rfl) (hK : X.K = K := by rfl) : PE X (.Subscript a b pos) (tOp (rIx K) ta tb) := hK ▸ pe_ix ix_seq ha hb hs
theorem e_dget (hu : X.A.units + 1 < cLine) (ho : PE X o td) (hi : PE X i ty) (hs : NoSl i := by exact fun _ _ => rfl) : PE X (.Subscript o i pos) (tDGet td ty) := pe_dget hu ho hi hs
theorem s_dput (hu : X.A.units + 1 < cLine) (ho : PE X o td) (hi : PE X i ty) (hv : PE X value tv) (hs : swapsWith value (some (.Subscript o i pos')) pos.line X.env = pure false := by rfl) : PS X (.Assign [.Subscript o i pos'] value pos) (sDPut td ty tv) := ps_dput hu ho hi hv hs
theorem e_op {op : Operator} (ho : OpR X (binaryOp op) r) (ha : PE X a ta) (hb : PE X b tb) : PE X (.BinOp a op b pos) (tOp r ta tb) := pe_op ho ha hb
/-- a test, a value by a comparison's rule -/
theorem t_c {op : CmpOp} (ho : OpR X (compareOp op) r) (ha : PE X a ta) (hb : PE X b tb) (hm : behindInMarks op b = false := by first | exact nomark _ | rfl) : PT X (.Compare a [op] [b] pos) (tTest (tOp r ta tb)) := pt_cmpR ho ha hb hm
theorem e_c {op : CmpOp} (ho : OpR X (compareOp op) r) (ha : PE X a ta) (hb : PE X b tb) (hm : behindInMarks op b = false := by first | exact nomark _ | rfl) : PE X (.Compare a [op] [b] pos) (tOp r ta tb) := pe_cmpR ho ha hb hm
theorem t_din (hu : X.A.units + 1 < cLine) (hi : PE X i ty) (ho : PE X o td) (hm : behindInMarks .In o = false := by rfl) : PT X (.Compare i [.In] [o] pos) (tB (tDIn ty td)) := pt_cmp (pc_din hu hi ho) hm
theorem t_dnotin (hu : X.A.units + 1 < cLine) (hi : PE X i ty) (ho : PE X o td) (hm : behindInMarks .NotIn o = false := by rfl) : PT X (.Compare i [.NotIn] [o] pos) (tB (tDNotIn ty td)) := pt_cmp (pc_dnotin hu hi ho) hm
theorem e_din (hu : X.A.units + 1 < cLine) (hi : PE X i ty) (ho : PE X o td) (hm : behindInMarks .In o = false := by rfl) : PE X (.Compare i [.In] [o] pos) (tDIn ty td) := pe_cmp (pc_din hu hi ho) hm
theorem e_dnotin (hu : X.A.units + 1 < cLine) (hi : PE X i ty) (ho : PE X o td) (hm : behindInMarks .NotIn o = false := by rfl) : PE X (.Compare i [.NotIn] [o] pos) (tDNotIn ty td) := pe_cmp (pc_dnotin hu hi ho) hm
/-- xs.append(e) -/
theorem s_app {apos : Pos} {p2 : Pos} (ha : PE X a ta) (he : PE X e te) (hbase : attributeBase a "append" X.env (eval a X.env) = eval a X.env := by rfl)
    (hfew : ((backTo pos (starEach [e] X.env)).all (fun x => !x.1) && (backToKw pos (keywordEach [] X.env)).all (fun x => x.1.isSome)
      && decide (([e] : List Expr).length + ([] : List Keyword).length + (if ([] : List Keyword).isEmpty then 0 else 1) < 30)) = true := by rfl)
    (hline : (apos.endLine == pos.line) = true := by rfl) (hs : starEach [e] X.env = (false, eval e X.env) :: starEach [] X.env := by rfl) (hplain : (backTo pos (starEach [] X.env)).any (·.1) = false := by rfl)
    (hsw : swapsWith (.Call (.Attribute a "append" apos) [e] [] pos) none p2.line X.env = pure false := by rfl) :
    PS X (.Expr (.Call (.Attribute a "append" apos) [e] [] pos) p2) (tDrop (tBM X.K "list" rAppend ta (tCons te tNil))) :=
  ps_expr (pe_bm PySem.F.plainAttrs_list PySem.F.slot_list_append PySem.F.type_list_append mt_append ha (pa_cons he pa_nil hs) hbase hfew hline hs hplain) hsw
/-- x = e; a target; the i-th name -/
theorem s_set (i : Nat) {x : Str} (hN : X.N.Nodup) (he : PE X e te) (hi : X.N[i]? = some x := by rfl) (hx : Loc X.env.scope x := by first | exact Or.inl rfl | exact Or.inr rfl) (hs : swapsWith e (some (.Name x pos')) pos.line X.env = pure false := by rfl)
    (hf : X.fn x = true ∨ X.env.scope.names.lookup x = some .local := by first | exact .inl rfl | exact .inr rfl | assumption) : PS X (.Assign [.Name x pos'] e pos) (tAsg te (gName i)) := ps_set hN hi hx he hs hf
theorem g_n (i : Nat) {x : Str} (hN : X.N.Nodup) (hi : X.N[i]? = some x := by rfl) (hx : Loc X.env.scope x := by first | exact Or.inl rfl | exact Or.inr rfl)
    (hf : X.fn x = true ∨ X.env.scope.names.lookup x = some .local := by first | exact .inl rfl | exact .inr rfl | assumption) : PG X (.Name x pos) (gName i) := pg_name hN hi hx hf
theorem g_2 {K : PySem.W.Frag} {e1 e2 : Expr} {t1 t2 : TG} {k : Nat} (h1 : PG X e1 t1) (h2 : PG X e2 t2) (hc : X.calm = true := by rfl) (hs1 : (assignEach [e1, e2] X.env).map (·.2) = assign e1 X.env :: (assignEach [e2] X.env).map (·.2) := by rfl) (hs2 : (assignEach [e2] X.env).map (·.2) = assign e2 X.env :: (assignEach [] X.env).map (·.2) := by rfl)
    (hn : (assignEach [e1, e2] X.env).length = 2 := by rfl) (hst : (assignEach [e1, e2] X.env).findIdx? (·.1) = none := by rfl) (hK : X.K = K := by rfl) : PG X (.Tuple [e1, e2] k pos) (gTup K 2 (gCons t1 (gCons t2 gNil))) := hK ▸ pg_tup hc (pgs_cons h1 (pgs_cons h2 pgs_nil hs2) hs1) hn hst
theorem g_3 {K : PySem.W.Frag} {e1 e2 e3 : Expr} {t1 t2 t3 : TG} {k : Nat} (h1 : PG X e1 t1) (h2 : PG X e2 t2) (h3 : PG X e3 t3) (hc : X.calm = true := by rfl) (hs1 : (assignEach [e1, e2, e3] X.env).map (·.2) = assign e1 X.env :: (assignEach [e2, e3] X.env).map (·.2) := by rfl) (hs2 : (assignEach [e2, e3] X.env).map (·.2) = assign e2 X.env :: (assignEach [e3] X.env).map (·.2) := by rfl)
    (hs3 : (assignEach [e3] X.env).map (·.2) = assign e3 X.env :: (assignEach [] X.env).map (·.2) := by rfl) (hn : (assignEach [e1, e2, e3] X.env).length = 3 := by rfl) (hst : (assignEach [e1, e2, e3] X.env).findIdx? (·.1) = none := by rfl) (hK : X.K = K := by rfl) : PG X (.Tuple [e1, e2, e3] k pos) (gTup K 3 (gCons t1 (gCons t2 (gCons t3 gNil)))) := hK ▸ pg_tup hc (pgs_cons h1 (pgs_cons h2 (pgs_cons h3 pgs_nil hs3) hs2) hs1) hn hst
/-- a built-in class called with one argument -/
theorem e_ty {T : String} {x : Str} {p : Pos} {r : List V → Hp → VK → Prop} (hc : CallR X (.type T) r) (hm : X.mg x = none) (hv : bootBuiltins x = some (.type T)) (ha : PE X a ta) (hg : Gl X x := by rfl) (hn : x ≠ "__name__" := by decide) (hdb : (x == ("__debug__" : Str)) = false := by decide)
    (he : starEach [a] X.env = (false, eval a X.env) :: starEach [] X.env := by rfl) (hpl : (backTo pos (starEach [] X.env)).any (·.1) = false := by rfl) : PE X (.Call (.Name x p) [a] [] pos) (tCB r (tCons ta tNil)) := pe_callTy hc hg hm hv (pa_cons ha pa_nil he) hn hdb he hpl
theorem e_bi {T : String} {x : Str} {p : Pos} {r : List V → Hp → VK → Prop} (hc : CallR X (.builtin T) r) (hm : X.mg x = none) (hv : bootBuiltins x = some (.builtin T)) (ha : PE X a ta) (hg : Gl X x := by rfl) (hn : x ≠ "__name__" := by decide) (hdb : (x == ("__debug__" : Str)) = false := by decide)
    (he : starEach [a] X.env = (false, eval a X.env) :: starEach [] X.env := by rfl) (hpl : (backTo pos (starEach [] X.env)).any (·.1) = false := by rfl) : PE X (.Call (.Name x p) [a] [] pos) (tCB r (tCons ta tNil)) := pe_callB hc hg hm hv (pa_cons ha pa_nil he) hn hdb he hpl
/-- len(x) -/
theorem e_len {K : PySem.W.Frag} {p : Pos} (hm : X.mg "len" = none) (ha : PE X a ta) (hg : Gl X "len" := by rfl) (he : starEach [a] X.env = (false, eval a X.env) :: starEach [] X.env := by rfl) (hpl : (backTo pos (starEach [] X.env)).any (·.1) = false := by rfl) (hK : X.K = K := by rfl) :
    PE X (.Call (.Name "len" p) [a] [] pos) (tCB (fun xs H Q => ∃ x n, xs = [x] ∧ LenV K x H n ∧ Q (.int n) H) (tCons ta tNil)) := hK ▸ pe_callB call_len hg hm PySem.boot_len (pa_cons ha pa_nil he) (he := he) (hpl := hpl)
end
/-- te gives z, the heap as it is -/
def Vl (te : TE) (σ : L2.St) (H : Hp) (z : V) : Prop := ∀ Q : VK, Q z H → te σ H Q
theorem if_val {c : Bool} {ta tb : TE} {σ : L2.St} {H : Hp} {Q : VK} {z : V} (h1 : c = true → Vl ta σ H z) (h2 : c = false → Vl tb σ H z) (q : Q z H) : if c = true then ta σ H Q else tb σ H Q := by
  cases c with
  | true => exact iteT (h1 rfl Q q)
  | false => exact iteF (h2 rfl Q q)
theorem take_succ_map {α β : Type} {f : α → β} {l : List α} {i : Nat} {x : α} (h : l[i]? = some x) : (l.take (i + 1)).map f = (l.take i).map f ++ [f x] := by
  rw [List.take_add_one, h, List.map_append]
  rfl
theorem natV_zero {m : Nat} : decide (natV m = V.int 0) = decide (m = 0) := by
  rw [decide_eq_decide]
  unfold natV
  constructor
  · intro h
    have := V.int.inj h
    omega
  · intro h
    rw [h]
    rfl
theorem lt_line {n : Nat} (h : n ≤ 100000) : n < sizeLine := Nat.lt_of_le_of_lt h (by decide)
theorem le_line {n : Nat} (h : n ≤ 100000) : n ≤ sizeLine := Nat.le_of_lt (lt_line h)
/-- the data of a promise: pre, post -/
def Pr {D : Type} (pre : D → List V → Hp → Prop) (post : D → V → Hp → Prop) : Sp := fun vs H Q _ => ∃ d, pre d vs H ∧ ∀ v H', Same H H' → post d v H' → Q v H'
theorem Pr.len {D : Type} {pre : D → List V → Hp → Prop} {post : D → V → Hp → Prop} {n : Nat} (h : ∀ d vs H, pre d vs H → vs.length = n) : ∀ vs H Q E, Pr pre post vs H Q E → vs.length = n := fun _ _ _ _ ⟨d, p, _⟩ => h d _ _ p
/-! ### books -/
def bookFs (tw tp dk dt : Addr) (st : Str) : List (Str × V) := [("words", .ref tw), ("places", .ref tp), ("known", .ref dk), ("start", .str st), ("table", .ref dt)]
def rkey (p wd : Str) (c : Nat) : List Key := [.inr p, .inr wd, .inl (c : Int)]
/-- a place's own tuple -/
def PlT (K : PySem.W.Frag) (H : Hp) (v : V) (p : Str) (n : Nat) (y : Bool) : Prop := ∃ a, v = .ref a ∧ SqT K H a [.str p, natV n, .bl y]
/-- a rule's goal and moves -/
def RuT (K : PySem.W.Frag) (H : Hp) (v : V) (g : Str) (ms : List Nat) : Prop := ∃ a m, v = .ref a ∧ SqT K H a [.str g, m] ∧ NatT K H m ms
theorem PlT.rle {K : PySem.W.Frag} {H H' : Hp} {v : V} {p : Str} {n : Nat} {y : Bool} (r : Rle H H') (h : PlT K H v p n y) : PlT K H' v p n y := let ⟨a, e, t⟩ := h; ⟨a, e, rleT r t⟩
theorem RuT.rle {K : PySem.W.Frag} {H H' : Hp} {v : V} {g : Str} {ms : List Nat} (r : Rle H H') (h : RuT K H v g ms) : RuT K H' v g ms := let ⟨a, m, e, t, q⟩ := h; ⟨a, m, e, rleT r t, q.rle r⟩
/-- a Book at b that is the automaton A -/
structure BookAt (K : PySem.W.Frag) (H : Hp) (b : Addr) (A : Au Str Str) : Prop where
  ex : ∃ dx tw tp dk dt kk tt, H b = some (.ins (He.ga K "Book") dx (bookFs tw tp dk dt A.start)) ∧ SqT K H tw (A.words.map V.str) ∧ H dk = some (.dK kk) ∧ H dt = some (.dT tt) ∧
    (∀ p, A.ok p → ∃ v, valV kk (.inr p) = some v ∧ PlT K H v p (A.slots p) (A.yes p)) ∧
    ∀ p wd c, A.ok p → wd ∈ A.words → c ≤ A.slots p → ∃ v, valV tt (rkey p wd c) = some v ∧ RuT K H v (A.rule p wd c).1 (A.rule p wd c).2
theorem BookAt.same {K : PySem.W.Frag} {H H' : Hp} {b : Addr} {A : Au Str Str} (s : Same H H') (h : BookAt K H b A) : BookAt K H' b A := by
  obtain ⟨dx, tw, tp, dk, dt, kk, tt, h1, h2, h3, h4, h5, h6⟩ := h.ex
  refine ⟨dx, tw, tp, dk, dt, kk, tt, s _ _ h1, sameT s h2, s _ _ h3, s _ _ h4, fun p hp => ?_, fun p wd c h a1 a2 => ?_⟩
  · obtain ⟨v, e, t⟩ := h5 p hp
    exact ⟨v, e, t.rle (.same s)⟩
  · obtain ⟨v, e, t⟩ := h6 p wd c h a1 a2
    exact ⟨v, e, t.rle (.same s)⟩
/-- a Reading at r: the book at b, the state s -/
structure ReadAt (K : PySem.W.Frag) (H : Hp) (r b : Addr) (s : Str × List Str) : Prop where
  ex : ∃ dx t, H r = some (.ins (He.ga K "Reading") dx [("book", .ref b), ("place", .str s.1), ("held", .ref t)]) ∧ SqT K H t (s.2.map V.str)
theorem ReadAt.same {K : PySem.W.Frag} {H H' : Hp} {r b : Addr} {s : Str × List Str} (q : Same H H') (h : ReadAt K H r b s) : ReadAt K H' r b s := by
  obtain ⟨dx, t, h1, h2⟩ := h.ex
  exact ⟨dx, t, q _ _ h1, sameT q h2⟩
end Fw

/-! A Book's look-ups. -/
namespace Fw
open PySem PySem.Spec PyProof.Rows L2
section
variable {P : Program} {w : World} {K : PySem.W.Frag} {mg : Str → Option Value} {base : Heap}
theorem bookFs_words {tw tp dk dt : Addr} {st : Str} : (bookFs tw tp dk dt st).lookup ("words" : Str) = some (.ref tw) := by
  simp [bookFs, List.lookup, show (("words" : Str) == "words") = true from by decide]
theorem bookFs_known {tw tp dk dt : Addr} {st : Str} : (bookFs tw tp dk dt st).lookup ("known" : Str) = some (.ref dk) := by
  simp [bookFs, List.lookup, show (("known" : Str) == "known") = true from by decide, show (("known" : Str) == "words") = false from by decide, show (("known" : Str) == "places") = false from by decide]
theorem bookFs_places {tw tp dk dt : Addr} {st : Str} : (bookFs tw tp dk dt st).lookup ("places" : Str) = some (.ref tp) := by
  simp [bookFs, List.lookup, show (("places" : Str) == "words") = false from by decide, show (("places" : Str) == "places") = true from by decide]
theorem bookFs_start {tw tp dk dt : Addr} {st : Str} : (bookFs tw tp dk dt st).lookup ("start" : Str) = some (.str st) := by
  simp [bookFs, List.lookup, show (("start" : Str) == "words") = false from by decide, show (("start" : Str) == "places") = false from by decide, show (("start" : Str) == "known") = false from by decide, show (("start" : Str) == "start") = true from by decide]
theorem bookFs_table {tw tp dk dt : Addr} {st : Str} : (bookFs tw tp dk dt st).lookup ("table" : Str) = some (.ref dt) := by
  simp [bookFs, List.lookup, show (("table" : Str) == "words") = false from by decide, show (("table" : Str) == "places") = false from by decide, show (("table" : Str) == "known") = false from by decide, show (("table" : Str) == "start") = false from by decide, show (("table" : Str) == "table") = true from by decide]
theorem bookFs_no {tw tp dk dt : Addr} {st m : Str} (h : (["words", "places", "known", "start", "table"] : List Str).all (fun x => !(m == x)) = true) : (bookFs tw tp dk dt st).lookup m = none := by
  simp only [List.all_cons, List.all_nil, Bool.and_eq_true, Bool.not_eq_true', Bool.and_true] at h
  obtain ⟨h1, h2, h3, h4, h5⟩ := h
  simp [bookFs, List.lookup, h1, h2, h3, h4, h5]
/-! check_word -/
def spCheckWord (K : PySem.W.Frag) : Sp := fun vs H Q _ => ∃ b A wd, vs = [.ref b, .str wd] ∧ BookAt K H b A ∧ wd ∈ A.words ∧ Q .non H
theorem scCheckWord : FnScope ["self", "word"] ["self", "word"] (defScope sB_CheckWord) := ⟨rfl, rfl, rfl, by decide +kernel, rfl, by decide +kernel, by decide +kernel⟩
theorem inV_str {x : Str} : ∀ {l : List Str}, inV (.str x) (l.map V.str) = decide (x ∈ l)
  | [] => rfl
  | y :: r => by
    have ih := inV_str (x := x) (l := r)
    unfold inV at ih ⊢
    rw [List.map_cons, List.any_cons, ih]
    have : eqV (.str y) (.str x) = decide (y = x) := by
      first
        | rfl
        | (unfold eqV; rfl)
        | simp [eqV]
    rw [this]
    by_cases h : y = x
    · simp [h]
    · simp [h, Ne.symm h]
theorem ok_CheckWord (T : Tx K mg) : Fc P w K mg base CX0 1 (He.ma K (He.ga K "Book") "check_word") ["self", "word"] [] (spCheckWord K) := by
  refine fc_mk T.f_B_CheckWord scCheckWord (fun _ _ _ _ _ _ us hl => match us, hl with | [_, _], _ => rfl) (fun vs H Q E h => ?_) (fun cdv A outer s H vs Q E hr h => ?_)
  · obtain ⟨_, _, _, rfl, _⟩ := h
    rfl
  · obtain ⟨b, A, wd, rfl, B, hw, k⟩ := h
    obtain ⟨dx, tw, tp, dk, dt, kk, tt, h1, h2, h3, h4, h5, h6⟩ := B.ex
    refine ⟨_, pss_one (ps_if (pt_cmpR op_notIn_seq (pv 1) (pe_fld (pv 0) rfl) (by rfl)) pss_never pss_nil), ?_⟩
    refine ⟨_, rfl, _, rfl, b, _, dx, _, _, rfl, h1, T.cls_Book, T.a_Book_words, bookFs_words, tw, _, rfl, .inr h2, rfl, flat_strs _, _, rfl, ?_⟩
    rw [inV_str, decide_eq_true hw]
    exact iteF k
/-! place, slots, says_yes -/
def spPlaceOf (K : PySem.W.Frag) : Sp := fun vs H Q _ => ∃ b A p, vs = [.ref b, .str p] ∧ BookAt K H b A ∧ A.ok p ∧ ∀ v, PlT K H v p (A.slots p) (A.yes p) → Q v H
theorem scPlaceOf : FnScope ["self", "name"] ["self", "name"] (defScope sB_PlaceOf) := ⟨rfl, rfl, rfl, by decide +kernel, rfl, by decide +kernel, by decide +kernel⟩
theorem ok_PlaceOf (T : Tx K mg) : Fc P w K mg base CX0 1 (He.ma K (He.ga K "Book") "place") ["self", "name"] [] (spPlaceOf K) := by
  refine fc_mk T.f_B_PlaceOf scPlaceOf (fun _ _ _ _ _ _ us hl => match us, hl with | [_, _], _ => rfl) (fun vs H Q E h => ?_) (fun cdv A outer s H vs Q E hr h => ?_)
  · obtain ⟨_, _, _, rfl, _⟩ := h
    rfl
  · obtain ⟨b, A, p, rfl, B, hp, k⟩ := h
    have hu := hu_of hr
    obtain ⟨dx, tw, tp, dk, dt, kk, tt, h1, h2, h3, h4, h5, h6⟩ := B.ex
    obtain ⟨v, e, t⟩ := h5 p hp
    refine ⟨_, pss_cons (ps_if (pt_cmp (pc_dnotin hu (pv 1) (pe_fld (pv 0) rfl))) pss_never pss_nil) (pss_one (ps_ret (pe_dget hu (pe_fld (pv 0) rfl) (pv 1) (fun _ _ => rfl)))), ?_⟩
    refine ⟨_, rfl, _, rfl, b, _, dx, _, _, rfl, h1, T.cls_Book, T.a_Book_known, bookFs_known, dk, _, rfl, DGet.k (k := .inr p) h3, _, rfl, ?_⟩
    rw [e]
    refine iteF ?_
    exact ⟨_, rfl, b, _, dx, _, _, rfl, h1, T.cls_Book, T.a_Book_known, bookFs_known, _, rfl, dk, v, rfl, e ▸ DGet.k (k := .inr p) h3, k v t⟩
def spSlots (K : PySem.W.Frag) : Sp := fun vs H Q _ => ∃ b A p, vs = [.ref b, .str p] ∧ BookAt K H b A ∧ A.ok p ∧ Q (natV (A.slots p)) H
theorem scSlots : FnScope ["self", "name"] ["self", "name"] (defScope sB_Slots) := ⟨rfl, rfl, rfl, by decide +kernel, rfl, by decide +kernel, by decide +kernel⟩
theorem ok_Slots (T : Tx K mg) : Fc P w K mg base CX0 2 (He.ma K (He.ga K "Book") "slots") ["self", "name"] [] (spSlots K) := by
  refine fc_mk T.f_B_Slots scSlots (fun _ _ _ _ _ _ us hl => match us, hl with | [_, _], _ => rfl) (fun vs H Q E h => ?_) (fun cdv A outer s H vs Q E hr h => ?_)
  · obtain ⟨_, _, _, rfl, _⟩ := h
    rfl
  · obtain ⟨b, A, p, rfl, B, hp, k⟩ := h
    obtain ⟨dx, tw, tp, dk, dt, kk, tt, h1, h2, h3, h4, h5, h6⟩ := id B.ex
    refine ⟨_, pss_one (ps_ret (pe_ix ix_tup (e_m (pv 0) T.cls_Book T.m_Book_place (ok_PlaceOf T) hr (pa_cons (pv 1) pa_nil)) pe_int (fun _ _ => rfl))), ?_⟩
    refine ⟨_, rfl, b, dx, _, rfl, h1, bookFs_no (by decide +kernel), _, rfl, b, A, p, rfl, B, hp, fun v ⟨a, e, t⟩ => ?_⟩
    subst e
    exact ⟨a, _, _, _, rfl, rfl, t, atI_nat (j := 1) rfl, k⟩
def spSays (K : PySem.W.Frag) : Sp := fun vs H Q _ => ∃ b A p, vs = [.ref b, .str p] ∧ BookAt K H b A ∧ A.ok p ∧ Q (.bl (A.yes p)) H
theorem scSays : FnScope ["self", "name"] ["self", "name"] (defScope sB_Says) := ⟨rfl, rfl, rfl, by decide +kernel, rfl, by decide +kernel, by decide +kernel⟩
theorem ok_BSays (T : Tx K mg) : Fc P w K mg base CX0 2 (He.ma K (He.ga K "Book") "says_yes") ["self", "name"] [] (spSays K) := by
  refine fc_mk T.f_B_Says scSays (fun _ _ _ _ _ _ us hl => match us, hl with | [_, _], _ => rfl) (fun vs H Q E h => ?_) (fun cdv A outer s H vs Q E hr h => ?_)
  · obtain ⟨_, _, _, rfl, _⟩ := h
    rfl
  · obtain ⟨b, A, p, rfl, B, hp, k⟩ := h
    obtain ⟨dx, tw, tp, dk, dt, kk, tt, h1, h2, h3, h4, h5, h6⟩ := id B.ex
    refine ⟨_, pss_one (ps_ret (pe_ix ix_tup (e_m (pv 0) T.cls_Book T.m_Book_place (ok_PlaceOf T) hr (pa_cons (pv 1) pa_nil)) pe_int (fun _ _ => rfl))), ?_⟩
    refine ⟨_, rfl, b, dx, _, rfl, h1, bookFs_no (by decide +kernel), _, rfl, b, A, p, rfl, B, hp, fun v ⟨a, e, t⟩ => ?_⟩
    subst e
    exact ⟨a, _, _, _, rfl, rfl, t, atI_nat (j := 2) rfl, k⟩
/-! rule -/
def spRule (K : PySem.W.Frag) : Sp := fun vs H Q _ => ∃ b A p wd c, vs = [.ref b, .str p, .str wd, natV c] ∧ BookAt K H b A ∧ A.ok p ∧ wd ∈ A.words ∧ c ≤ A.slots p ∧
  ∀ v H', Same H H' → RuT K H' v (A.rule p wd c).1 (A.rule p wd c).2 → Q v H'
theorem scRule : FnScope ["self", "name", "word", "case", "slots"] ["self", "name", "word", "case"] (defScope sB_Rule) := ⟨rfl, rfl, rfl, by decide +kernel, rfl, by decide +kernel, by decide +kernel⟩
theorem ok_Rule (T : Tx K mg) : Fc P w K mg base CX0 3 (He.ma K (He.ga K "Book") "rule") ["self", "name", "word", "case"] [] (spRule K) := by
  refine fc_mk T.f_B_Rule scRule (fun _ _ _ _ _ _ us hl => match us, hl with | [_, _, _, _], _ => rfl) (fun vs H Q E h => ?_) (fun cdv A outer s H vs Q E hr h => ?_)
  · obtain ⟨_, _, _, _, _, rfl, _⟩ := h
    rfl
  · obtain ⟨b, A, p, wd, c, rfl, B, hp, hw, hc, k⟩ := h
    have hu := hu_of hr
    obtain ⟨dx, tw, tp, dk, dt, kk, tt, h1, h2, h3, h4, h5, h6⟩ := id B.ex
    refine ⟨_, pss_cons (ps_set (i := 4) scRule.nd rfl (.inl rfl) (e_m (pv 0) T.cls_Book T.m_Book_slots (ok_Slots T) hr (pa_cons (pv 1) pa_nil)))
      (pss_cons (ps_expr (e_m (pv 0) T.cls_Book T.m_Book_check_word (ok_CheckWord T) (hr.mono (by decide)) (pa_cons (pv 2) pa_nil)))
      (pss_cons (ps_if (pt_not (pt_chain op_le op_le pe_int (pv 3) (pv 4))) pss_never pss_nil)
      (pss_one (ps_ret (pe_dget hu (pe_fld (pv 0) rfl) (pe_tup (pa_cons (pv 1) (pa_cons (pv 2) (pa_cons (pv 3) pa_nil)))) (fun _ _ => rfl)))))), ?_⟩
    refine ⟨_, rfl, b, dx, _, rfl, h1, bookFs_no (by decide +kernel), _, rfl, b, A, p, rfl, B, hp, ?_⟩
    refine ⟨_, rfl, b, dx, _, rfl, h1, bookFs_no (by decide +kernel), _, rfl, b, A, wd, rfl, B, hw, ?_⟩
    have e1 : decide ((0 : Int) ≤ (c : Int)) = true := decide_eq_true (by omega)
    have e2 : decide ((c : Int) ≤ (A.slots p : Int)) = true := decide_eq_true (by omega)
    refine ⟨_, rfl, _, _, rfl, rfl, true, congrArg V.bl e1, ?_⟩
    refine iteT ?_
    refine ⟨_, rfl, _, _, rfl, rfl, true, congrArg V.bl e2, ?_⟩
    refine iteF ?_
    refine ⟨_, rfl, b, _, dx, _, _, rfl, h1, T.cls_Book, T.a_Book_table, bookFs_table, _, rfl, _, rfl, _, rfl, by show 3 ≤ sizeLine; decide, fun q hq => ?_⟩
    obtain ⟨v, e, t⟩ := h6 p wd c hp hw hc
    have s1 : Same H (upd H q (.tup [.str p, .str wd, natV c])) := same_new hq
    exact ⟨dt, v, rfl, e ▸ DGet.t (k := rkey p wd c) (s1 _ _ h4) upd_same, k v _ s1 (t.rle (.same s1))⟩
end
end Fw

/-! Rules that the layer lacks: enumerate(tuple, k); tuple.index of a made tuple. -/
namespace Fw
open PySem PySem.Spec PyProof.Rows L2
/-! ### tuple(list), the tuple's object told -/
section
variable {X : Cx}
theorem call_tuple_frz : CallR X (.type "tuple") (fun xs H Q => ∃ p ys, xs = [.ref p] ∧ SqL X.K H p ys ∧ ∀ l o, H l = none → o.dict = none → Q (.ref l) (upd H l (.frz o (.tup ys)))) := by
  intro pins s σ H xs us Q I r h
  obtain ⟨p, ys, rfl, hq, q⟩ := h
  obtain ⟨u, rfl, rx⟩ := vals1 r
  cases rx
  obtain ⟨its, r', pl, hz⟩ := I.list hq
  have hlen := r'.length
  refine call_tuple_list pl.isList (fun h' kp => ?_) (by simp only [List.size_toArray] <;> omega)
  have I1 : Inv X pins σ H { s with heap := h' } := I.kept (t' := s.toks) kp
  have I2 : Inv X pins σ (upd H h'.objs.size (.frz { cls := .type "tuple", data := .seq its.toArray } (.tup ys))) { s with heap := h'.push { cls := .type "tuple", data := .seq its.toArray } } :=
    I1.laid (t' := s.toks) (fun b o e => Heap.get?_push_of_some _ e) (Nat.le_refl _) (show ObjOk X.prog X.w _ _ _ (.frz _ (.tup ys)) from ⟨Heap.get?_push_size _ rfl, hz, its, r', IsTup.new _ _⟩)
  exact ⟨.ref h'.objs.size, _, I2, rfl, q _ _ (I1.hok.fresh (Nat.le_refl _)) rfl⟩
end
/-- a made tuple of texts (its object told, if it is not empty) -/
def HeldT (K : PySem.W.Frag) (H : Hp) (v : V) (l : List Str) : Prop := ∃ a, v = .ref a ∧ SqT K H a (l.map V.str) ∧ (l ≠ [] → ∃ o, H a = some (.frz o (.tup (l.map V.str))) ∧ o.dict = none)
theorem HeldT.same {K : PySem.W.Frag} {H H' : Hp} {v : V} {l : List Str} (s : Same H H') (h : HeldT K H v l) : HeldT K H' v l := let ⟨a, e, t, q⟩ := h; ⟨a, e, sameT s t, fun n => let ⟨o, h1, h2⟩ := q n; ⟨o, s _ _ h1, h2⟩⟩
theorem HeldT.s {K : PySem.W.Frag} {H : Hp} {v : V} {l : List Str} (h : HeldT K H v l) : StrS K H v l := let ⟨a, e, t, _⟩ := h; ⟨a, e, .inr t⟩
theorem HeldT.new {K : PySem.W.Frag} {H : Hp} {l : List Str} {p : Addr} {o : Obj} (d : o.dict = none) : HeldT K (upd H p (.frz o (.tup (l.map V.str)))) (.ref p) l := ⟨p, rfl, .inl (.inr ⟨o, upd_same⟩), fun _ => ⟨o, upd_same, d⟩⟩
/-- held names: such a tuple, or a list -/
def HeldS (K : PySem.W.Frag) (H : Hp) (v : V) (l : List Str) : Prop := HeldT K H v l ∨ ∃ a, v = .ref a ∧ SqL K H a (l.map V.str)
theorem HeldS.s {K : PySem.W.Frag} {H : Hp} {v : V} {l : List Str} (h : HeldS K H v l) : StrS K H v l := h.elim (fun h => h.s) fun ⟨a, e, t⟩ => ⟨a, e, .inl t⟩
theorem HeldS.same {K : PySem.W.Frag} {H H' : Hp} {v : V} {l : List Str} (s : Same H H') (h : HeldS K H v l) : HeldS K H' v l := h.imp (fun h => h.same s) fun ⟨a, e, t⟩ => ⟨a, e, sameL s t⟩
/-- what has an index -/
def HeldN (K : PySem.W.Frag) (H : Hp) (a : Addr) (l : List Str) : Prop := SqL K H a (l.map V.str) ∨ ∃ o, H a = some (.frz o (.tup (l.map V.str))) ∧ o.dict = none
theorem HeldS.n {K : PySem.W.Frag} {H : Hp} {v : V} {l : List Str} (h : HeldS K H v l) (ne : l ≠ []) : ∃ a, v = .ref a ∧ HeldN K H a l := by
  rcases h with ⟨a, e, t, q⟩ | ⟨a, e, t⟩
  · exact ⟨a, e, .inr (q ne)⟩
  · exact ⟨a, e, .inl t⟩
/-! ### held.index(name) -/
section
variable {X : Cx} {o e : Expr} {to te : TE} {apos cpos : Pos}
def tIndexS (K : PySem.W.Frag) (to te : TE) : TE := fun σ H Q => to σ H fun x H1 => ∃ (a : Addr) (ys : List Str) (z : Str) (j : Nat), x = .ref a ∧ HeldN K H1 a ys ∧ te σ H1 fun y H2 => H2 = H1 ∧ y = .str z ∧ ys[j]? = some z ∧ (∀ m, m < j → ys[m]? ≠ some z) ∧ Q (.int (j : Nat)) H1
theorem held_ty {pins : List (Addr × Obj)} {σ : L2.St} {H : Hp} {s : Shared} {a : Addr} {xs : List V} {ob : Obj} (I : Inv X pins σ H s) (h : H a = some (.frz ob (.tup xs))) (hd : ob.dict = none) :
    s.TypeIs (.ref a) "tuple" ∧ ∀ b, Value.ref a = .ref b → ∃ ob, s.heap.get? b = some ob ∧ ob.dict = none := by
  obtain ⟨e, z, its, r, ⟨o2, e2, hc, n, hdat⟩⟩ := I.hok a _ h
  refine ⟨⟨o2, e2, hc⟩, fun b eb => ?_⟩
  cases eb
  exact ⟨ob, e, hd⟩
theorem eqV_str {x y : Str} : eqV (.str x) (.str y) = decide (x = y) := by
  first
    | rfl
    | (unfold eqV; rfl)
    | simp [eqV]
theorem e_index (ho : PE X o to) (he : PE X e te) (hbase : attributeBase o "index" X.env (eval o X.env) = eval o X.env := by rfl)
    (hfew : ((backTo cpos (starEach [e] X.env)).all (fun x => !x.1) && (backToKw cpos (keywordEach [] X.env)).all (fun x => x.1.isSome)
      && decide (([e] : List Expr).length + ([] : List Keyword).length + (if ([] : List Keyword).isEmpty then 0 else 1) < 30)) = true := by rfl)
    (hline : (apos.endLine == cpos.line) = true := by rfl) (hs : starEach [e] X.env = (false, eval e X.env) :: starEach [] X.env := by rfl) (hplain : (backTo cpos (starEach [] X.env)).any (·.1) = false := by rfl) :
    PE X (.Call (.Attribute o "index" apos) [e] [] cpos) (tIndexS X.K to te) := by
  refine ⟨fun pins s σ H Q I h => ?_⟩
  have ha : PA X [e] (tCons te tNil) := pa_cons he pa_nil hs
  refine wpAny_Call_method_late hbase hfew hline rfl (thn (ho.run pins s σ H _ I h) fun v s1 hh => ?_)
  obtain ⟨x, H1, I1, r1, a, ys, z, j, ex, hx, q1⟩ := hh
  subst ex
  obtain rfl : v = Value.ref a := r1
  have hA := ha.run cpos pins s1 σ H1 (fun vs H2 => H2 = H1 ∧ vs = [.str z] ∧ ys[j]? = some z ∧ (∀ m, m < j → ys[m]? ≠ some z) ∧ Q (.int (j : Nat)) H1) I1 (by
    have cong : (fun y H2 => H2 = H1 ∧ y = V.str z ∧ ys[j]? = some z ∧ (∀ m, m < j → ys[m]? ≠ some z) ∧ Q (.int (j : Nat)) H1) = (fun y H2 => tNil σ H2 fun xs H3 => H3 = H1 ∧ y :: xs = [V.str z] ∧ ys[j]? = some z ∧ (∀ m, m < j → ys[m]? ≠ some z) ∧ Q (.int (j : Nat)) H1) := by
      funext y H2
      apply propext
      constructor
      · rintro ⟨e1, e2, r⟩
        exact ⟨e1, by rw [e2], r⟩
      · rintro ⟨e1, e2, r⟩
        exact ⟨e1, (List.cons.inj e2).1, r⟩
    rw [cong] at q1
    exact q1)
  rcases hx with hl | ⟨ob, hob, hd⟩
  · obtain ⟨h1, h2⟩ := tyV_is (T := "list") (x := .ref a) (v := .ref a) I1 rfl (.inl ⟨rfl, _, hl⟩)
    refine ⟨"list", "list.index", PySem.F.plainAttrs_list, PySem.F.slot_list_index, PySem.F.type_list_index, h1, h2, ?_⟩
    rw [hs] at hA ⊢
    refine Calls.callWith_builtin (by show (false || (backTo cpos (starEach [] X.env)).any (·.1)) = false; rw [hplain] <;> rfl) (Calls.evalArgs_plain ?_)
    refine thn hA fun us s2 hh => ?_
    obtain ⟨vs, H2, I2, r2, e1, e2, h3, h4, h5⟩ := hh
    subst e1 e2
    refine mt_index pins s2 σ H2 (.ref a) [.str z] (.ref a) us Q I2 rfl r2 ⟨a, ys.map V.str, .str z, j, .str z, rfl, rfl, hl, rfl, flat_strs ys, by rw [List.getElem?_map, h3] <;> rfl, by rw [eqV_str]; exact decide_eq_true rfl, fun m z' hm hz => ?_, h5⟩
    rw [List.getElem?_map] at hz
    cases e : ys[m]? with
    | none =>
      rw [e] at hz
      cases hz
    | some y =>
      rw [e] at hz
      cases hz
      rw [eqV_str]
      exact decide_eq_false fun q => h4 m hm (e.trans (congrArg some q))
  · obtain ⟨h1, h2⟩ := held_ty I1 hob hd
    refine ⟨"tuple", "tuple.index", PySem.F.plainAttrs_tuple, PySem.F.slot_tuple_index, PySem.F.type_tuple_index, h1, h2, ?_⟩
    rw [hs] at hA ⊢
    refine Calls.callWith_builtin (by show (false || (backTo cpos (starEach [] X.env)).any (·.1)) = false; rw [hplain] <;> rfl) (Calls.evalArgs_plain ?_)
    refine thn hA fun us s2 hh => ?_
    obtain ⟨vs, H2, I2, r2, e1, e2, h3, h4, h5⟩ := hh
    subst e1 e2
    exact mt_tup_index pins s2 σ H2 (.ref a) [.str z] (.ref a) us Q I2 rfl r2 ⟨a, ys, z, j, rfl, rfl, .inl (.inr ⟨ob, hob⟩), h3, h4, h5⟩
end
/-! ### enumerate(tuple, k) -/
/-- the tuple at a, each item with its number from k on in a new pair -/
def IteT (K : PySem.W.Frag) (k : Int) (a : Addr) : It :=
  ⟨fun i H => ∃ (xs : List V) (x : V), SqT K H a xs ∧ xs[i]? = some x, fun i H v H' => ∃ T x, v = .ref T ∧ H T = none ∧ H' = upd H T (.tup [.int (k + (i : Nat)), x]) ∧ ∀ xs, SqT K H a xs → xs[i]? = some x, fun i H => ∃ xs : List V, SqT K H a xs ∧ xs.length ≤ i⟩
theorem turn_enumT {P : Program} {w : World} {K : PySem.W.Frag} {elts : List Expr} {kk : Nat} {tpos : Pos} (k : Int) (a e it : Addr) :
    Turn P w K (.Tuple elts kk tpos) (IteT K k a) [e, it] e (fun i h => (∃ old, IsEnum h e it (k + ((i : Nat) : Int)) old) ∧ h.IsTupleIter it a i ∧ e ≠ it) where
  mem := by simp
  obj := fun i h st b hb => by
    obtain ⟨⟨old, he⟩, ⟨o, ho, hc, hd⟩, _⟩ := st
    have e' : b = e ∨ b = it := by simpa using hb
    rcases e' with z | z
    · rw [z]; exact ⟨_, he, fun v q => nomatch q⟩
    · rw [z]; exact ⟨o, ho, fun v q => by rw [hd] at q; cases q⟩
  keep := fun i h h' st kp => let ⟨⟨old, he⟩, hi, hne⟩ := st; ⟨⟨old, kp e (by simp) _ he⟩, hi.at fun o q => kp it (by simp) o q, hne⟩
  item := by
    intro X hP hw hK hc i pins s σ H E I hf st hg
    subst hP hw hK
    obtain ⟨⟨old, he⟩, hit, hne⟩ := st
    obtain ⟨xs, x, hq, hx⟩ := hg
    obtain ⟨its, rv, p, hz⟩ := I.tuple hq
    obtain ⟨u, hu, ru⟩ := rv.get hx
    have hel : e < s.heap.objs.size := Heap.lt_size he
    have hil : it < s.heap.objs.size := by obtain ⟨_, q, _⟩ := hit; exact Heap.lt_size q
    have hai : a ≠ it := by
      rintro rfl
      obtain ⟨o1, h1, c1, _⟩ := p
      obtain ⟨o2, h2, c2, _⟩ := hit
      rw [h1] at h2
      cases h2
      rw [c1] at c2
      exact absurd c2 (by decide)
    have D := Draws.tuple (prog := X.prog) (w := X.w) (A := X.A.in1) (I.ok.hd hc) it a hai its.toArray
    have hae : e ≠ a := by
      rintro rfl
      obtain ⟨o1, h1, c1, _⟩ := p
      have h2 : s.heap.get? e = some _ := he
      rw [h1] at h2
      cases h2
      have c3 : (Value.type "enumerate") = Value.type "tuple" := c1
      exact absurd c3 (by decide)
    have ilt : i < its.toArray.size := by
      have := (List.getElem?_eq_some_iff.mp hu).1
      simpa using this
    refine wpAny_pyNext_enum_itemC D he ⟨hit, p⟩ ilt hne (by simp [hne, hae]) fun y h' tk hy ho hst hT hsz hk => ?_
    have ey : y = u := by
      have q : its[i]? = some y := by simpa using hy
      rw [hu] at q
      exact (Option.some.inj q).symm
    subst ey
    refine ⟨_, rfl, wpAny_letOwnedTupleGo_enum (s := { s with heap := h', toks := tk + 1 }) ho fun h'' he' sb => ?_⟩
    have hT2 : h''.get? s.heap.objs.size = some { cls := .type "tuple", data := .seq #[.int (k + (i : Nat)) tk, y] } := (sb.2 _ (Nat.ne_of_gt hel)).trans hT
    have new : ObjOk X.prog X.w (upd H s.heap.objs.size (.tup [.int (k + (i : Nat)), x])) h'' s.heap.objs.size (.tup [.int (k + (i : Nat)), x]) :=
      ⟨by show 2 ≤ sizeLine; decide, [.int (k + (i : Nat)) tk, y], .cons ⟨_, rfl⟩ (.cons ru .nil), ⟨_, hT2, rfl, _, rfl⟩⟩
    have I1 : Inv X pins σ (upd H s.heap.objs.size (.tup [.int (k + (i : Nat)), x])) { s with heap := h'', toks := tk + 1 } :=
      I.turnedNew (ch := [e, it]) (fun b ob hb q => (sb.2 b (fun z => hb (by simp [z]))).trans (hk b ob (fun z => hb (by simp [z])) (fun z => hb (by simp [z])) q)) hf (Nat.le_refl _) new
    refine ⟨.ref s.heap.objs.size, _, I1, rfl, ⟨_, x, rfl, I.hok.fresh (Nat.le_refl _), rfl, fun ys hy => by rw [I.tuple_inj hy hq]; exact hx⟩, ⟨⟨y, ?_⟩, hst.1.at fun o q => (sb.2 it (Ne.symm hne)).trans q, hne⟩, fun b hb => ?_⟩
    · have e1 : k + ((i + 1 : Nat) : Int) = k + (i : Int) + 1 := by omega
      rw [e1]; exact he'
    · have hb' : b < s.heap.objs.size := by
        have e' : b = e ∨ b = it := by simpa using hb
        rcases e' with z | z
        · rw [z]; exact hel
        · rw [z]; exact hil
      rw [upd_ne (Nat.ne_of_lt hb')]
      exact (hf b hb).1
  done := by
    intro X hP hw hK hc i pins s σ H E I hf st hg
    subst hP hw hK
    obtain ⟨⟨old, he⟩, hit, hne⟩ := st
    obtain ⟨xs, hq, hx⟩ := hg
    obtain ⟨its, rv, p, hz⟩ := I.tuple hq
    obtain ⟨f0, f1, f2, f3, f4, f5⟩ := hf it (by simp)
    have hl := rv.length
    have hai : a ≠ it := by
      rintro rfl
      obtain ⟨o1, h1, c1, _⟩ := p
      obtain ⟨o2, h2, c2, _⟩ := hit
      rw [h1] at h2
      cases h2
      rw [c1] at c2
      exact absurd c2 (by decide)
    have D : Draws X.prog X.w X.A.in1 it [it, a] i (fun _ _ => True) (fun j h => j = i ∧ h.IsTupleIter it a i ∧ h.IsTuple a its.toArray) :=
      ⟨fun _ _ st => let ⟨o, ho, _⟩ := st.2.1; ⟨o, ho⟩, fun _ _ _ st hk => ⟨st.1, st.2.1.at fun o e => hk it (by simp) o e, st.2.2.at fun o e => hk a (by simp) o e⟩,
        fun j s Q E hj st _ => absurd hj (by rw [st.1]; exact Nat.lt_irrefl _), fun s Q E st hE => wpAny_nextOf_tuple_end (I.ok.hd hc) st.2.1 st.2.2 (by simp; omega) hE⟩
    exact wpAny_pyNext_enum_endD D he ⟨rfl, hit, p⟩ fun h' eb => ⟨rfl, I.turned (t' := s.toks) (fun b o hb q => eb b o hb q) f0 f1 f3 f4 f5⟩
  self := fun A i s Q E st h => let ⟨⟨_, he⟩, _⟩ := st; wpAny_pyIter_enum he h
def iEnumT (K : PySem.W.Frag) (ta : TA) : TI := fun σ H R => ta σ H fun vs H1 => ∃ a k xs, vs = [.ref a, .int k] ∧ -(2 ^ 63) ≤ k ∧ k < 2 ^ 63 ∧ SqT K H1 a xs ∧ R (IteT K k a) H1
theorem pi_enumT {K : PySem.W.Frag} {X : Cx} {e e2 : Expr} {ta : TA} {p pos tpos : Pos} {elts : List Expr} {kk : Nat} (hg : Gl X "enumerate") (hm : X.mg "enumerate" = none) (ha : PA X [e, e2] ta) (hs : starEach [e, e2] X.env = (false, eval e X.env) :: starEach [e2] X.env := by rfl) (hpl : (backTo pos (starEach [e2] X.env)).any (·.1) = false := by rfl) (hK : X.K = K := by rfl) :
    PI X (.Tuple elts kk tpos) (.Call (.Name "enumerate" p) [e, e2] [] pos) (iEnumT K ta) := by
  subst hK
  refine ⟨fun pins s σ H R I h => ?_⟩
  refine Call_ (ld_blt I hg hm boot_enumerate (PyProof.Rows.callWith_type1 (thn (ha.run pos pins s σ H _ I h) fun us s1 hh => ?_) hs hpl))
  obtain ⟨vs, H1, I1, r1, a, k, xs, ex, k0, k1, hq, q⟩ := hh
  subst ex
  obtain ⟨u1, u2, rfl, ra, rk⟩ := vals2 r1
  cases ra
  obtain ⟨t, rfl⟩ := rk
  obtain ⟨its, rv, p', hz⟩ := I1.tuple hq
  refine enum_begins (begins_tuple a its.toArray) p' k0 k1 fun h' he hit hsz hk => wpAny_pyIter_enum he ?_
  have I2 : Inv X pins σ H1 { s1 with heap := h' } := I1.kept (t' := s1.toks) hk
  refine ⟨s1.heap.objs.size + 1, [s1.heap.objs.size + 1, s1.heap.objs.size], _, _, H1, rfl, I2, turn_enumT k a (s1.heap.objs.size + 1) s1.heap.objs.size, ⟨⟨.none, ?_⟩, ⟨_, hit, rfl, rfl⟩, Nat.succ_ne_self _⟩, fun b hb => ?_, q⟩
  · rw [show k + ((0 : Nat) : Int) = k by omega]
    exact he
  · have e' : b = s1.heap.objs.size + 1 ∨ b = s1.heap.objs.size := by simpa using hb
    have hle : s1.heap.objs.size ≤ b := by
      rcases e' with z | z
      · rw [z]; exact Nat.le_add_right _ _
      · rw [z]; exact Nat.le_refl _
    exact I1.fpOk hle (I1.hok.fresh hle)
theorem walk_enumT {K : PySem.W.Frag} {k : Int} {a : Addr} {xs : List V} : Walk (IteT K k a) xs.length (fun H => SqT K H a xs) (YPair (fun i => some (.int (k + (i : Nat)))) (fun i => xs[i]?)) := by
  refine ⟨fun i _ hi q => ⟨xs, xs[i], q, by simp [hi]⟩, fun _ q => ⟨xs, q, Nat.le_refl _⟩, fun i H v H' _ q y => ?_⟩
  obtain ⟨T, x, h1, h2, h3, h4⟩ := y
  exact ⟨T, .int (k + (i : Nat)), x, h1, h2, h3, rfl, h4 xs q⟩
end Fw

/-! Readings. -/
namespace Fw
open PySem PySem.Spec PyProof.Rows L2
/-- a Reading at r: the book at b, the state s -/
structure RdAt (K : PySem.W.Frag) (H : Hp) (r b : Addr) (s : Str × List Str) : Prop where
  ex : ∃ dx v, H r = some (.ins (He.ga K "Reading") dx [("book", .ref b), ("place", .str s.1), ("held", v)]) ∧ HeldT K H v s.2
theorem RdAt.same {K : PySem.W.Frag} {H H' : Hp} {r b : Addr} {s : Str × List Str} (q : Same H H') (h : RdAt K H r b s) : RdAt K H' r b s := by
  obtain ⟨dx, t, h1, h2⟩ := h.ex
  exact ⟨dx, t, q _ _ h1, h2.same q⟩
section
variable {P : Program} {w : World} {K : PySem.W.Frag} {mg : Str → Option Value} {base : Heap}
theorem fs_book {a b c : V} : List.lookup ("book" : Str) [(("book" : Str), a), ("place", b), ("held", c)] = some a := by
  simp [List.lookup, show (("book" : Str) == "book") = true from by decide]
theorem fs_place {a b c : V} : List.lookup ("place" : Str) [(("book" : Str), a), ("place", b), ("held", c)] = some b := by
  simp [List.lookup, show (("place" : Str) == "book") = false from by decide, show (("place" : Str) == "place") = true from by decide]
theorem fs_held {a b c : V} : List.lookup ("held" : Str) [(("book" : Str), a), ("place", b), ("held", c)] = some c := by
  simp [List.lookup, show (("held" : Str) == "book") = false from by decide, show (("held" : Str) == "place") = false from by decide, show (("held" : Str) == "held") = true from by decide]
theorem fs_no {a b c : V} {m : Str} (h : (["book", "place", "held"] : List Str).all (fun x => !(m == x)) = true) : List.lookup m [(("book" : Str), a), ("place", b), ("held", c)] = none := by
  simp only [List.all_cons, List.all_nil, Bool.and_eq_true, Bool.not_eq_true', Bool.and_true] at h
  obtain ⟨h1, h2, h3⟩ := h
  simp [List.lookup, h1, h2, h3]
theorem fs_put {a b c : V} : putF "held" c (putF "place" b (putF "book" a [])) = [(("book" : Str), a), ("place", b), ("held", c)] := by
  show putF "held" c (putF "place" b [(("book" : Str), a)]) = _
  have e1 : putF "place" b [(("book" : Str), a)] = [(("book" : Str), a), ("place", b)] := by
    show (if ("book" : Str) = "place" then _ else _) = _
    rw [if_neg (by decide +kernel)]
    rfl
  rw [e1]
  show (if ("book" : Str) = "held" then _ else _) = _
  rw [if_neg (by decide +kernel)]
  show (("book" : Str), a) :: (if ("place" : Str) = "held" then _ else _) = _
  rw [if_neg (by decide +kernel)]
  rfl
/-! __init__ -/
def spRInit (K : PySem.W.Frag) : Sp := fun vs H Q _ => ∃ x dx b p v, vs = [.ref x, b, p, v] ∧ H x = some (.ins (He.ga K "Reading") dx []) ∧ Q .non (upd H x (.ins (He.ga K "Reading") dx [("book", b), ("place", p), ("held", v)]))
theorem scRInit : FnScope ["self", "book", "place", "held"] ["self", "book", "place", "held"] (defScope sR_Init) := ⟨rfl, rfl, rfl, by decide +kernel, rfl, by decide +kernel, by decide +kernel⟩
theorem ok_RInit (T : Tx K mg) : Fc P w K mg base CX0 1 (He.ma K (He.ga K "Reading") "__init__") ["self", "book", "place", "held"] [] (spRInit K) := by
  refine fc_mk T.f_R_Init scRInit (fun _ _ _ _ _ _ us hl => match us, hl with | [_, _, _, _], _ => rfl) (fun vs H Q E h => ?_) (fun cdv A outer s H vs Q E hr h => ?_)
  · obtain ⟨_, _, _, _, _, rfl, _⟩ := h
    rfl
  · obtain ⟨x, dx, b, p, v, rfl, hx, k⟩ := h
    refine ⟨_, pss_cons (ps_fld (pv 0) (pv 1) rfl) (pss_cons (ps_fld (pv 0) (pv 2) rfl) (pss_one (ps_fld (pv 0) (pv 3) rfl))), ?_⟩
    refine ⟨_, rfl, _, rfl, x, _, dx, _, rfl, hx, T.cls_Reading, T.a_Reading_book, by show 0 < 1000; decide, ?_⟩
    refine ⟨_, rfl, _, rfl, x, _, dx, _, rfl, upd_same, T.cls_Reading, T.a_Reading_place, by show 1 < 1000; decide, ?_⟩
    refine ⟨_, rfl, _, rfl, x, _, dx, _, rfl, upd_same, T.cls_Reading, T.a_Reading_held, ?_, ?_⟩
    · have := length_putF "place" p (putF "book" b [])
      have h2 := length_putF "book" b []
      have h3 : ([] : List (Str × V)).length = 0 := rfl
      omega
    · rw [upd_upd, upd_upd, fs_put]
      exact k
/-! says_yes -/
def spRSays (K : PySem.W.Frag) : Sp := fun vs H Q _ => ∃ r b A s, vs = [.ref r] ∧ RdAt K H r b s ∧ BookAt K H b A ∧ A.ok s.1 ∧ Q (.bl (A.yes s.1)) H
theorem scRSays : FnScope ["self"] ["self"] (defScope sR_Says) := ⟨rfl, rfl, rfl, by decide +kernel, rfl, by decide +kernel, by decide +kernel⟩
theorem ok_RSays (T : Tx K mg) : Fc P w K mg base CX0 3 (He.ma K (He.ga K "Reading") "says_yes") ["self"] [] (spRSays K) := by
  refine fc_mk T.f_R_Says scRSays (fun _ _ _ _ _ _ us hl => match us, hl with | [_], _ => rfl) (fun vs H Q E h => ?_) (fun cdv A outer s H vs Q E hr h => ?_)
  · obtain ⟨_, _, _, _, rfl, _⟩ := h
    rfl
  · obtain ⟨r, b, A, s, rfl, hr1, B, hp, k⟩ := h
    obtain ⟨dx, v, h1, h2⟩ := hr1.ex
    obtain ⟨dx', tw, tp, dk, dt, kk, tt, b1, _⟩ := id B.ex
    refine ⟨_, pss_one (ps_ret (e_m (pe_fld (pv 0) rfl) T.cls_Book T.m_Book_says_yes (ok_BSays T) hr (pa_cons (pe_fld (pv 0) rfl) pa_nil))), ?_⟩
    refine ⟨_, rfl, r, _, dx, _, _, rfl, h1, T.cls_Reading, T.a_Reading_book, fs_book, b, dx', _, rfl, b1, bookFs_no (by decide +kernel), ?_⟩
    exact ⟨_, rfl, r, _, dx, _, _, rfl, h1, T.cls_Reading, T.a_Reading_place, fs_place, b, A, s.1, rfl, B, hp, k⟩
/-! read -/
def spRead (K : PySem.W.Frag) : Sp := fun vs H Q _ => ∃ r b A s wd n, vs = [.ref r, .str wd, .str n] ∧ RdAt K H r b s ∧ BookAt K H b A ∧ A.Good ∧ A.Val s ∧ wd ∈ A.words ∧
  ∀ r' H', Same H H' → RdAt K H' r' b (A.step s wd n) → Q (.ref r') H'
theorem scRead : FnScope ["self", "word", "name", "case", "goal", "moves", "behind", "source"] ["self", "word", "name"] (defScope sR_Read) := ⟨rfl, rfl, rfl, by decide +kernel, rfl, by decide +kernel, by decide +kernel⟩
theorem caseOf_some {h : List Str} {n : Str} (m : n ∈ h) : ∃ j, caseOf h n = j + 1 ∧ h[j]? = some n ∧ ∀ i, i < j → h[i]? ≠ some n := by
  cases e : caseOf h n with
  | zero => exact absurd m (caseOf_zero.mp e)
  | succ j => exact ⟨j, rfl, caseOf_get e, caseOf_first e⟩
theorem ok_Read (T : Tx K mg) : Fc P w K mg base CX0 4 (He.ma K (He.ga K "Reading") "read") ["self", "word", "name"] [] (spRead K) := by
  refine fc_mk T.f_R_Read scRead (fun _ _ _ _ _ _ us hl => match us, hl with | [_, _, _], _ => rfl) (fun vs H Q E h => ?_) (fun cdv A0 outer s0 H vs Q E hr h => ?_)
  · obtain ⟨_, _, _, _, _, _, rfl, _⟩ := h
    rfl
  · obtain ⟨r, b, A, s, wd, n, rfl, hr1, B, G, vs, hw, k⟩ := h
    obtain ⟨dx, v, h1, h2⟩ := hr1.ex
    obtain ⟨dx', tw, tp, dk, dt, kk, tt, b1, _⟩ := id B.ex
    refine ⟨_, pss_cons (s_set 3 scRead.nd (pe_ifExp (t_c op_in_seq (pv 2) (e_fld (pv 0))) (e_op op_add (e_index (e_fld (pv 0)) (pv 2)) pe_int) pe_int))
      (pss_cons (ps_asg (e_m (e_fld (pv 0)) T.cls_Book T.m_Book_rule (ok_Rule T) hr (pa_cons (e_fld (pv 0)) (pa_cons (pv 1) (pa_cons (pv 3) pa_nil)))) (g_2 (g_n 4 scRead.nd) (g_n 5 scRead.nd)))
      (pss_cons (s_set 6 scRead.nd (e_ty call_tuple_frz T.n_tuple PyProof.Rows.boot_tuple (pe_lc (own := [("source", 7)]) (g := gName 7) (tt := tYes) rfl scRead.nd (pi_tup (pv 5)) (blkOk_by (N := ["self", "word", "name", "case", "goal", "moves", "behind", "source"]) (sc := defScope sR_Read) (by decide +kernel))
          (fun _ _ _ _ _ => pg_name (i := 7) scRead.nd rfl (Or.inl rfl)) (fun _ _ _ _ _ => pts_nil)
          (fun _ _ _ _ _ => pe_ifExp (t_c op_eq (pv 7) pe_int) (pv 2) (e_ixT (K := K) (e_fld (K := K) (pv 0)) (e_op op_sub (pv 7) pe_int))))))
      (pss_one (ps_ret (e_make T.k_Reading (ok_RInit T) (hr.mono (by decide)) T.g_Reading (pa_cons (e_fld (pv 0)) (pa_cons (pv 4) (pa_cons (pv 6) pa_nil)))))))), ?_⟩
    obtain ⟨a, rfl, ht, hf⟩ := h2
    refine ⟨_, rfl, _, rfl, r, _, dx, _, _, rfl, h1, T.cls_Reading, T.a_Reading_held, fs_held, a, _, rfl, .inr ht, rfl, flat_strs _, _, rfl, ?_⟩
    rw [inV_str]
    refine if_val (z := natV (caseOf s.2 n)) (fun c Q q => ?_) (fun c Q q => ?_) ?_
    · obtain ⟨j, e1, e2, e3⟩ := caseOf_some (of_decide_eq_true c)
      obtain ⟨o, ho, hd⟩ := hf fun z => by rw [z] at e2; cases e2
      refine ⟨_, rfl, r, _, dx, _, _, rfl, h1, T.cls_Reading, T.a_Reading_held, fs_held, a, s.2, n, j, rfl, .inr ⟨o, ho, hd⟩, _, rfl, rfl, rfl, e2, e3, _, _, rfl, rfl, ?_⟩
      rw [e1] at q
      exact q
    · have e1 : caseOf s.2 n = 0 := caseOf_zero.mpr (of_decide_eq_false c)
      rw [e1] at q
      exact q
    have hc := caseOf_le s.2 n
    rw [vs.len] at hc
    obtain ⟨g1, g2, g3, g4, g5⟩ := G.rl s.1 wd (caseOf s.2 n) vs.ok hw hc
    refine ⟨_, rfl, r, _, dx, _, _, rfl, h1, T.cls_Reading, T.a_Reading_book, fs_book, b, dx', _, rfl, b1, bookFs_no (by decide +kernel), ?_⟩
    refine ⟨_, rfl, r, _, dx, _, _, rfl, h1, T.cls_Reading, T.a_Reading_place, fs_place, _, rfl, _, rfl, b, A, s.1, wd, caseOf s.2 n, rfl, B, vs.ok, hw, hc, fun v1 H1 s1 ru => ?_⟩
    obtain ⟨a1, m1, rfl, t1, m, rfl, t2⟩ := ru
    refine ⟨a1, _, rfl, t1, rfl, _, _, rfl, _, _, rfl, rfl, ?_⟩
    have h1' := s1 _ _ h1
    have ht' := sameT s1 ht
    generalize hms : (A.rule s.1 wd (caseOf s.2 n)).2 = ms at g2 g3 g4 g5 t2
    -- the comprehension
    refine ⟨_, rfl, m, rfl, ⟨_, t2⟩, fun D hD => lc_tup (K := K) (a := m) (xs := ms.map natV) (fun i H2 => Same H1 H2 ∧ H2 D = some (.lst ((ms.take i).map fun k => V.str (if k = 0 then n else s.2.getD (k - 1) n)))) ⟨same_new hD, upd_same⟩ (fun i H2 _ q => sameT q.1 t2) ?_ ?_⟩
    · rintro i x H2 hx ⟨s2, hd2⟩
      rw [List.getElem?_map] at hx
      obtain ⟨k0, hk, rfl⟩ := Option.map_eq_some_iff.mp hx
      have hkm : k0 ≤ s.2.length := by rw [vs.len]; exact g4 k0 (List.mem_of_getElem? hk)
      refine ⟨rfl, _, rfl, rfl, _, rfl, ?_⟩
      refine if_val (z := .str (if k0 = 0 then n else s.2.getD (k0 - 1) n)) (fun c Q q => ?_) (fun c Q q => ?_) ?_
      · rw [natV_zero] at c
        rw [if_pos (of_decide_eq_true c)] at q
        exact ⟨_, rfl, q⟩
      · rw [natV_zero] at c
        have c0 := of_decide_eq_false c
        rw [if_neg c0] at q
        refine ⟨_, rfl, r, _, dx, _, _, rfl, s2 _ _ h1', T.cls_Reading, T.a_Reading_held, fs_held, _, rfl, _, _, rfl, rfl, a, _, _, _, rfl, rfl, sameT s2 ht', ?_, q⟩
        refine at_of (j := k0 - 1) (by omega) ?_
        rw [List.getElem?_map, (getD_of (n := n) (by omega)).mp rfl]
        rfl
      · refine ⟨_, hd2, ?_, same_mut s2 hD, ?_⟩
        · have : ((ms.take i).map fun k => V.str (if k = 0 then n else s.2.getD (k - 1) n)).length ≤ 100000 := by
            have b1 := nodup_le (m := List.range (A.slots s.1 + 1)) g3 fun z hz => List.mem_range.mpr (by have := g4 z hz; omega)
            rw [List.length_range] at b1
            have b2 := G.sm s.1 vs.ok
            rw [List.length_map, List.length_take]
            omega
          exact lt_line this
        · rw [upd_same, take_succ_map hk]
    · rintro H2 ⟨s2, hd2⟩
      rw [List.length_map, List.take_length] at hd2
      refine ⟨D, _, rfl, .of hd2, fun l o hl ho => ?_⟩
      have e : (ms.map fun k => V.str (if k = 0 then n else s.2.getD (k - 1) n)) = (moved s.2 n ms).map V.str := by
        unfold moved
        rw [List.map_map]
        rfl
      rw [e]
      have s3 : Same H1 (upd H2 l (.frz o (.tup ((moved s.2 n ms).map V.str)))) := s2.trans (same_new hl)
      refine ⟨_, rfl, r, _, dx, _, _, rfl, s3 _ _ h1', T.cls_Reading, T.a_Reading_book, fs_book, _, rfl, _, rfl, ?_⟩
      intro x dx2 nx ndx nex
      refine ⟨x, dx2, _, _, _, rfl, upd_same, ⟨rfl, ?_⟩⟩
      refine k x _ ?_ ⟨dx2, .ref l, upd_same, ?_⟩
      · exact same_mut (same_mut (same_mut ((s1.trans s3).trans (.refl _)) ((s1.trans s3).free ndx)) ((s1.trans s3).free nx)) ((s1.trans s3).free nx)
      · have hh : HeldT K (upd H2 l (.frz o (.tup ((moved s.2 n ms).map V.str)))) (.ref l) (A.step s wd n).2 := by
          have : (A.step s wd n).2 = moved s.2 n ms := by
            unfold Au.step
            rw [hms]
          rw [this]
          exact HeldT.new ho
        exact hh.same (same_mut (same_mut (same_new ndx) nx) nx)
end
end Fw

/-! pairs_of, key_of. -/
namespace Fw
open PySem PySem.Spec PyProof.Rows L2
section
variable {P : Program} {w : World} {K : PySem.W.Frag} {mg : Str → Option Value} {base : Heap}
def spPairsOf (K : PySem.W.Frag) : Sp := fun vs H Q _ => ∃ v1 v2 h k, vs = [v1, v2] ∧ StrT K H v1 h ∧ StrT K H v2 k ∧ h.length ≤ 6 ∧ k.length ≤ 6 ∧ ∀ v H', Same H H' → PairsT K H' v (pairsOf h k) → Q v H'
theorem scPairsOf : FnScope ["held", "kept", "a", "name", "b", "known"] ["held", "kept"] (defScope sPairsOf) := ⟨rfl, rfl, rfl, by decide +kernel, rfl, by decide +kernel, by decide +kernel⟩
theorem ok_PairsOf (T : Tx K mg) : Fc P w K mg base CX0 1 (He.ga K "pairs_of") ["held", "kept"] [] (spPairsOf K) := by
  refine fc_mk T.f_PairsOf scPairsOf (fun _ _ _ _ _ _ us hl => match us, hl with | [_, _], _ => rfl) (fun vs H Q E h => ?_) (fun cdv A0 outer s0 H vs Q E hr h => ?_)
  · obtain ⟨_, _, _, _, rfl, _⟩ := h
    rfl
  · obtain ⟨v1, v2, h, k, rfl, ⟨a1, rfl, t1⟩, ⟨a2, rfl, t2⟩, l1, l2, go⟩ := h
    refine ⟨_, pss_one (ps_ret (e_ty call_tuple_of T.n_tuple PyProof.Rows.boot_tuple (pe_lc2 (own := [("a", 2), ("name", 3), ("b", 4), ("known", 5)]) (vs1 := [4, 5]) (g := gTup K 2 (gCons (gName 2) (gCons (gName 3) gNil))) (tt := tYes) (g1 := gTup K 2 (gCons (gName 4) (gCons (gName 5) gNil)))
      (wi1 := iEnumT K (tCons (tVar 1) (tCons (tC (.int 1)) tNil))) rfl scPairsOf.nd (pi_enumT (by rfl) T.n_enumerate (pa_cons (pv 0) (pa_cons pe_int pa_nil)))
      (blkOk_by (N := ["held", "kept", "a", "name", "b", "known"]) (sc := defScope sPairsOf) (by decide +kernel)) (by decide)
      (fun _ _ _ _ _ => g_2 (K := K) (pg_name (i := 2) scPairsOf.nd rfl (Or.inl rfl)) (pg_name (i := 3) scPairsOf.nd rfl (Or.inl rfl))) (fun _ _ _ _ _ => pts_nil)
      (fun _ _ _ _ _ => pi_enumT (K := K) (by rfl) T.n_enumerate (pa_cons (pv 1) (pa_cons pe_int pa_nil)))
      (fun _ _ _ _ _ => g_2 (K := K) (pg_name (i := 4) scPairsOf.nd rfl (Or.inl rfl)) (pg_name (i := 5) scPairsOf.nd rfl (Or.inl rfl)))
      (fun _ _ _ _ _ => pts_one (t_c op_eq (pv 3) (pv 5))) (fun _ _ _ _ _ => pe_tup (pa_cons (pv 2) (pa_cons (pv 4) pa_nil)))))), ?_⟩
    refine ⟨_, rfl, a1, 1, _, rfl, by decide, by decide, t1, fun D hD => ?_⟩
    have inner : ∀ (i : Nat) (H2 H3 : Hp), True := fun _ _ _ => trivial
    refine turns (walk_enumT (K := K) (k := 1) (a := a1) (xs := h.map V.str)) (fun i H2 => Same H H2 ∧ ∃ rs : List Addr, H2 D = some (.lst (rs.map V.ref)) ∧ Paired (PairT K H2) rs (pairsTo h k i)) ⟨same_new hD, [], upd_same, .nil⟩ (fun i H2 _ q => sameT q.1 t1) ?_ ?_
    · rintro i x H2 H3 hi ⟨s2, rs, hd2, pr⟩ ⟨p, x1, x2, rfl, hp, rfl, e1, e2⟩
      cases e1
      rw [List.length_map] at hi
      have e2 : (h.map V.str)[i]? = some x2 := e2
      rw [List.getElem?_map, List.getElem?_eq_getElem hi] at e2
      cases e2
      have hDp : D ≠ p := ne_of_none hd2 hp
      have s3 : Same H2 (upd H2 p (.tup [.int (1 + (i : Nat)), .str h[i]])) := same_new hp
      refine ⟨p, _, rfl, .of upd_same, rfl, _, _, rfl, _, _, rfl, rfl, rfl, ?_⟩
      refine ⟨_, rfl, a2, 1, _, rfl, by decide, by decide, sameT (s2.trans s3) t2, ?_⟩
      refine turns (walk_enumT (K := K) (k := 1) (a := a2) (xs := k.map V.str)) (fun j H4 => Same H H4 ∧ ∃ rs : List Addr, H4 D = some (.lst (rs.map V.ref)) ∧ Paired (PairT K H4) rs (pairsTo h k i ++ rowOf h k i j)) ?_ (fun i H2 _ q => sameT q.1 t2) ?_ ?_
      · exact ⟨s2.trans s3, rs, s3 _ _ hd2, by rw [rowOf_zero, List.append_nil]; exact paired_imp pr fun _ _ q => sameT s3 q⟩
      · rintro j x H4 H5 hj ⟨s4, rs4, hd4, pr4⟩ ⟨p2, y1, y2, rfl, hp2, rfl, f1, f2⟩
        cases f1
        rw [List.length_map] at hj
        have f2 : (k.map V.str)[j]? = some y2 := f2
        rw [List.getElem?_map, List.getElem?_eq_getElem hj] at f2
        cases f2
        have s5 : Same H4 (upd H4 p2 (.tup [.int (1 + (j : Nat)), .str k[j]])) := same_new hp2
        refine ⟨p2, _, rfl, .of upd_same, rfl, _, _, rfl, _, _, rfl, rfl, rfl, ?_⟩
        refine ⟨_, rfl, _, rfl, rfl, _, rfl, ?_⟩
        have dec : decide (V.str h[i] = V.str k[j]) = decide (h[i]? = k[j]?) := by
          rw [decide_eq_decide, List.getElem?_eq_getElem hi, List.getElem?_eq_getElem hj, Option.some_inj]
          exact ⟨fun z => V.str.inj z, fun z => congrArg V.str z⟩
        rw [dec]
        refine ite2 (fun c => ?_) (fun c => ?_)
        · have c := of_decide_eq_true c
          refine ⟨_, rfl, _, rfl, by show 2 ≤ sizeLine; decide, fun q hq => ?_⟩
          have s6 : Same (upd H4 p2 (.tup [.int (1 + (j : Nat)), .str k[j]])) (upd (upd H4 p2 (.tup [.int (1 + (j : Nat)), .str k[j]])) q (.tup [.int (1 + (i : Nat)), .int (1 + (j : Nat))])) := same_new hq
          have s7 := s5.trans s6
          have hd6 := s7 _ _ hd4
          refine ⟨_, hd6, ?_, same_mut (s4.trans s7) hD, rs4 ++ [q], by rw [upd_same, List.map_append] <;> rfl, ?_⟩
          · rw [List.length_map, pr4.length, List.length_append]
            have b1 := pairsTo_len h k i
            have b2 := rowOf_len h k i j
            have b3 : i * k.length ≤ 6 * 6 := Nat.mul_le_mul (by omega) l2
            exact lt_line (by omega)
          · rw [rowOf_yes c, ← List.append_assoc]
            refine paired_snoc (paired_imp pr4 fun _ _ z => sqT_upd hd6 (sameT s7 z)) (sqT_upd hd6 (.of ?_))
            rw [upd_same]
            show some (HO.tup [V.int (1 + (i : Int)), V.int (1 + (j : Int))]) = some (HO.tup [V.int ((i + 1 : Nat) : Int), V.int ((j + 1 : Nat) : Int)])
            rw [show (1 : Int) + (i : Int) = ((i + 1 : Nat) : Int) by omega, show (1 : Int) + (j : Int) = ((j + 1 : Nat) : Int) by omega]
        · have c : ¬ h[i]? = k[j]? := fun z => c (decide_eq_true z)
          refine ⟨s4.trans s5, rs4, s5 _ _ hd4, ?_⟩
          rw [rowOf_no c]
          exact paired_imp pr4 fun _ _ z => sameT s5 z
      · rintro H4 ⟨s4, rs4, hd4, pr4⟩
        refine ⟨s4, rs4, hd4, ?_⟩
        rw [pairsTo_succ]
        rw [List.length_map] at pr4
        exact pr4
    · rintro H2 ⟨s2, rs, hd2, pr⟩
      refine ⟨D, _, rfl, .inl ⟨.of hd2, fun l hl => ?_⟩⟩
      have s3 : Same H2 (upd H2 l (.tup (rs.map V.ref))) := same_new hl
      refine go _ _ (s2.trans s3) ⟨l, rs, rfl, .of upd_same, ?_⟩
      rw [List.length_map] at pr
      exact paired_imp pr fun _ _ z => sameT s3 z
/-! key_of -/
def spKeyOf (K : PySem.W.Frag) : Sp := fun vs H Q _ => ∃ r1 r2 b1 b2 s t, vs = [.ref r1, .ref r2] ∧ RdAt K H r1 b1 s ∧ RdAt K H r2 b2 t ∧ s.2.length ≤ 6 ∧ t.2.length ≤ 6 ∧ ∀ v H', Same H H' → KeyT K H' v (keyOf s t) → Q v H'
theorem scKeyOf : FnScope ["first", "second"] ["first", "second"] (defScope sKeyOf) := ⟨rfl, rfl, rfl, by decide +kernel, rfl, by decide +kernel, by decide +kernel⟩
theorem ok_KeyOf (T : Tx K mg) : Fc P w K mg base CX0 2 (He.ga K "key_of") ["first", "second"] [] (spKeyOf K) := by
  refine fc_mk T.f_KeyOf scKeyOf (fun _ _ _ _ _ _ us hl => match us, hl with | [_, _], _ => rfl) (fun vs H Q E h => ?_) (fun cdv A0 outer s0 H vs Q E hr h => ?_)
  · obtain ⟨_, _, _, _, _, _, rfl, _⟩ := h
    rfl
  · obtain ⟨r1, r2, b1, b2, s, t, rfl, R1, R2, l1, l2, go⟩ := h
    obtain ⟨dx, v, h1, a, rfl, h2, _⟩ := R1.ex
    obtain ⟨dy, u, g1, c, rfl, g2, _⟩ := R2.ex
    refine ⟨_, pss_one (ps_ret (pe_tup (pa_cons (e_fld (pv 0)) (pa_cons (e_fld (pv 1)) (pa_cons (e_f (ok_PairsOf T) hr T.g_pairs_of (pa_cons (e_fld (pv 0)) (pa_cons (e_fld (pv 1)) pa_nil))) pa_nil))))), ?_⟩
    refine ⟨_, rfl, r1, _, dx, _, _, rfl, h1, T.cls_Reading, T.a_Reading_place, fs_place, ?_⟩
    refine ⟨_, rfl, r2, _, dy, _, _, rfl, g1, T.cls_Reading, T.a_Reading_place, fs_place, ?_⟩
    refine ⟨_, rfl, r1, _, dx, _, _, rfl, h1, T.cls_Reading, T.a_Reading_held, fs_held, ?_⟩
    refine ⟨_, rfl, r2, _, dy, _, _, rfl, g1, T.cls_Reading, T.a_Reading_held, fs_held, ?_⟩
    refine ⟨_, _, s.2, t.2, rfl, ⟨a, rfl, h2⟩, ⟨c, rfl, g2⟩, l1, l2, fun v3 H' s1 pt => ⟨by show 3 ≤ sizeLine; decide, fun p hp => ?_⟩⟩
    have s2 : Same H' (upd H' p (.tup [.str s.1, .str t.1, v3])) := same_new hp
    exact go _ _ (s1.trans s2) ⟨p, v3, rfl, .of upd_same, pt.rle (.same s2)⟩
end
end Fw

/-! A dict whose keys are triples. -/
namespace Fw
open PySem PySem.Spec PyProof.Rows L2
abbrev TKey : Type := Str × Str × List (Nat × Nat)
def pairN (p : Nat × Nat) : NestedKey := .tup [.num (p.1 : Int), .num (p.2 : Int)]
def keyN (k : TKey) : NestedKey := .tup [.text k.1, .text k.2.1, .tup (k.2.2.map pairN)]
theorem pairN_inj {p q : Nat × Nat} (h : pairN p = pairN q) : p = q := by
  unfold pairN at h
  injection h with h
  injection h with h1 h
  injection h with h2 h
  injection h1 with h1
  injection h2 with h2
  exact Prod.ext (by omega) (by omega)
theorem map_inj {α β : Type} {f : α → β} (h : ∀ a b, f a = f b → a = b) : ∀ {l m : List α}, l.map f = m.map f → l = m
  | [], [], _ => rfl
  | [], _ :: _, e => by simp at e
  | _ :: _, [], e => by simp at e
  | a :: l, b :: m, e => by
    rw [List.map_cons, List.map_cons] at e
    injection e with e1 e2
    rw [h a b e1, map_inj h e2]
theorem keyN_inj {k l : TKey} (h : keyN k = keyN l) : k = l := by
  unfold keyN at h
  injection h with h
  injection h with h1 h
  injection h with h2 h
  injection h with h3 h
  injection h1 with h1
  injection h2 with h2
  injection h3 with h3
  exact Prod.ext h1 (Prod.ext h2 (map_inj (fun _ _ e => pairN_inj e) h3))
theorem depth_pairs : ∀ l : List (Nat × Nat), NestedKey.depthAll (l.map pairN) ≤ 1
  | [] => by simp [NestedKey.depthAll]
  | p :: r => by
    have := depth_pairs r
    have e : NestedKey.depth (pairN p) = 1 := by simp [pairN, NestedKey.depth, NestedKey.depthAll]
    simp only [List.map_cons, NestedKey.depthAll]
    omega
theorem depth_key (k : TKey) : (keyN k).depth ≤ 8 := by
  have := depth_pairs k.2.2
  simp only [keyN, NestedKey.depth, NestedKey.depthAll]
  omega
/-- the dict's own object, its entries told -/
def KnO (P : Program) (w : World) (d : Addr) (xs : List (NestedKey × Addr × Value)) : HO := .ext fun h => ∃ o es ep, h.get? d = some o ∧ o.ExactDict ∧ o.data = .dict es ep ∧ es.toList = xs.map (entryOfKey (nestedKind P w))
theorem knO_new {P : Program} {w : World} {H : Hp} {h : Heap} {d : Addr} {xs : List (NestedKey × Addr × Value)} (R : h.DictOfH (nestedKind P w) d xs) : ObjOk P w H h d (KnO P w d xs) := by
  obtain ⟨o, es, ep, h1, h2, h3, h4, _⟩ := R
  refine ⟨⟨o, es, ep, h1, h2, h3, h4⟩, ⟨o, h1⟩, fun g1 g2 ⟨o, es, ep, k1, k2, k3, k4⟩ k => ⟨o, es, ep, k o k1, k2, k3, k4⟩⟩
structure KnAt (P : Program) (w : World) (K : PySem.W.Frag) (H : Hp) (d : Addr) (ks : List TKey) : Prop where
  ex : ∃ xs : List (NestedKey × Addr × Value), H d = some (KnO P w d xs) ∧ (d == sysModules) = false ∧ Paired (fun (x : NestedKey × Addr × Value) (k : TKey) => x.1 = keyN k ∧ KeyT K H (.ref x.2.1) k) xs ks
  nd : ks.Nodup
theorem KnAt.same {P : Program} {w : World} {K : PySem.W.Frag} {H H' : Hp} {d : Addr} {ks : List TKey} (s : Same H H') (h : KnAt P w K H d ks) : KnAt P w K H' d ks := by
  obtain ⟨xs, h1, h2, h3⟩ := h.ex
  exact ⟨⟨xs, s _ _ h1, h2, paired_imp h3 fun _ _ q => ⟨q.1, q.2.rle (.same s)⟩⟩, h.nd⟩
section
variable {X : Cx} {pins : List (Addr × Obj)} {σ : L2.St} {H : Hp} {s : Shared} {a d : Addr} {k : TKey} {ks : List TKey}
theorem pairs_nested (I : Inv X pins σ H s) : ∀ {rs : List Addr} {l : List (Nat × Nat)} {us : List Value}, Paired (PairT X.K H) rs l → Vals (rs.map V.ref) us → NestedAll s.heap (l.map pairN) us
  | [], _, _, .nil, .nil => .nil
  | r :: rs, p :: l, _, .cons h t, .cons e q => by
    cases e
    refine .cons ?_ (pairs_nested I t q)
    obtain ⟨its, rv, ⟨o, ho, hc, n, hd⟩, _⟩ := I.tuple h
    cases rv with
    | cons r1 rv =>
      cases rv with
      | cons r2 rv =>
        cases rv
        obtain ⟨t1, rfl⟩ := r1
        obtain ⟨t2, rfl⟩ := r2
        exact .tup ho hc hd (.cons (.int _ _) (.cons (.int _ _) .nil))
theorem key_is (I : Inv X pins σ H s) (h : KeyT X.K H (.ref a) k) : (nestedKind X.prog X.w).is s.heap (keyN k) a := by
  refine ⟨?_, depth_key k⟩
  obtain ⟨b, v3, e, t, c, rs, rfl, t3, pr⟩ := h
  cases e
  obtain ⟨its, rv, ⟨o, ho, hc, n, hd⟩, _⟩ := I.tuple t
  obtain ⟨its3, rv3, ⟨o3, ho3, hc3, n3, hd3⟩, _⟩ := I.tuple t3
  cases rv with
  | cons r1 rv =>
    cases rv with
    | cons r2 rv =>
      cases rv with
      | cons r3 rv =>
        cases rv
        obtain ⟨t1, rfl⟩ := r1
        obtain ⟨t2, rfl⟩ := r2
        cases r3
        exact .tup ho hc hd (.cons (.text _ _) (.cons (.text _ _) (.cons (.tup ho3 hc3 hd3 (pairs_nested I pr rv3)) .nil)))
theorem kn_keys {F : NestedKey × Addr × Value → TKey → Prop} {xs : List (NestedKey × Addr × Value)} (h : Paired (fun x k => x.1 = keyN k ∧ F x k) xs ks) : xs.map (·.1) = ks.map keyN := by
  induction h with
  | nil => rfl
  | cons h t ih => rw [List.map_cons, List.map_cons, h.1, ih]
theorem nodup_keyN : ∀ {l : List TKey}, l.Nodup → (l.map keyN).Nodup
  | [], _ => List.nodup_nil
  | k :: r, h => by
    obtain ⟨h1, h2⟩ := List.nodup_cons.mp h
    rw [List.map_cons]
    refine List.nodup_cons.mpr ⟨fun m => ?_, nodup_keyN h2⟩
    obtain ⟨l, hl, e⟩ := List.mem_map.mp m
    exact h1 (keyN_inj e ▸ hl)
theorem kn_of (I : Inv X pins σ H s) (h : KnAt X.prog X.w X.K H d ks) : ∃ xs, H d = some (KnO X.prog X.w d xs) ∧ (d == sysModules) = false ∧ s.heap.DictOfH (nestedKind X.prog X.w) d xs ∧ Paired (fun (x : NestedKey × Addr × Value) (k : TKey) => x.1 = keyN k ∧ KeyT X.K H (.ref x.2.1) k) xs ks := by
  obtain ⟨xs, h1, h2, h3⟩ := h.ex
  obtain ⟨⟨o, es, ep, g1, g2, g3, g4⟩, _, _⟩ := I.hok d _ h1
  refine ⟨xs, h1, h2, ⟨o, es, ep, g1, g2, g3, g4, fun x hx => ?_, by rw [kn_keys h3]; exact nodup_keyN h.nd⟩, h3⟩
  have go : ∀ {xs : List (NestedKey × Addr × Value)} {ks : List TKey}, Paired (fun (x : NestedKey × Addr × Value) (k : TKey) => x.1 = keyN k ∧ KeyT X.K H (.ref x.2.1) k) xs ks → ∀ x ∈ xs, (nestedKind X.prog X.w).is s.heap x.1 x.2.1 := by
    intro xs ks p
    induction p with
    | nil => intro x hx; cases hx
    | cons h t ih =>
      intro x hx
      rcases List.mem_cons.mp hx with e | hx
      · rw [e, h.1]
        exact key_is I h.2
      · exact ih x hx
  exact go h3 x hx
theorem atKey_mem : ∀ {xs : List (NestedKey × Addr × Value)} {k : NestedKey}, (atKey xs k).isSome = decide (k ∈ xs.map (·.1))
  | [], k => rfl
  | x :: r, k => by
    have ih := atKey_mem (xs := r) (k := k)
    unfold atKey at ih ⊢
    rw [List.find?_cons]
    by_cases e : x.1 = k
    · rw [decide_eq_true e]
      simp [e]
    · rw [decide_eq_false e]
      show (Option.map _ (List.find? _ r)).isSome = _
      rw [ih]
      simp [Ne.symm e]
theorem kn_mem {xs : List (NestedKey × Addr × Value)} (h : xs.map (·.1) = ks.map keyN) : (atKey xs (keyN k)).isSome = decide (k ∈ ks) := by
  rw [atKey_mem, h, decide_eq_decide]
  constructor
  · intro m
    obtain ⟨l, hl, e⟩ := List.mem_map.mp m
    exact keyN_inj e ▸ hl
  · intro m
    exact List.mem_map.mpr ⟨k, m, rfl⟩
/-- k not in d -/
def rKnNot (P : Program) (w : World) (K : PySem.W.Frag) : R2 := fun y x H Q => ∃ d ks a k, x = .ref d ∧ y = .ref a ∧ KnAt P w K H d ks ∧ KeyT K H (.ref a) k ∧ Q (.bl (!decide (k ∈ ks))) H
theorem op_knNot (hu : X.A.units + 64 < cLine) : OpR X (compareOp .NotIn) (rKnNot X.prog X.w X.K) := by
  intro pins s σ H y x u v Q I ry rx h
  obtain ⟨d, ks, a, k, rfl, rfl, hd, hk, q⟩ := h
  cases ry
  cases rx
  obtain ⟨xs, h1, h2, h3, h4⟩ := kn_of I hd
  refine notIn_keyed (knd := nestedKind X.prog X.w) (by show X.A.units + 1 + 8 < cLine; omega) (key_is I hk) h2 ⟨xs, h3, rfl⟩ ?_
  refine ⟨.bl (!decide (k ∈ ks)), H, I.tok _, ?_, q⟩
  rw [valueAt_pairsH, Option.isSome_map, kn_mem (kn_keys h4)]
  rfl
/-- d[k] = v, k new -/
def rKnPut (P : Program) (w : World) (K : PySem.W.Frag) : V → V → V → Hp → (Hp → Prop) → Prop := fun o i v H Q => ∃ d ks a k, o = .ref d ∧ i = .ref a ∧ KnAt P w K H d ks ∧ KeyT K H (.ref a) k ∧ k ∉ ks ∧ ks.length ≤ 100000 ∧
  ∀ o', KnAt P w K (upd H d o') d (ks ++ [k]) → Q (upd H d o')
theorem rd_upd {K : PySem.W.Frag} {H : Hp} {P : Program} {w : World} {d r : Addr} {o : HO} {zs : List (NestedKey × Addr × Value)} {xs : List V} (h : H d = some (KnO P w d zs)) (t : SqT K H r xs) : SqT K (upd H d o) r xs := by
  rcases t with t | t
  · refine .inl ?_
    have ne : r ≠ d := by
      rintro rfl
      rcases t with t | ⟨u, t⟩ <;> (rw [h] at t; cases t)
    rcases t with t | ⟨u, t⟩
    · exact .inl (by rw [upd_ne ne]; exact t)
    · exact .inr ⟨u, by rw [upd_ne ne]; exact t⟩
  · exact .inr t
theorem key_upd {K : PySem.W.Frag} {H : Hp} {P : Program} {w : World} {d : Addr} {o : HO} {zs : List (NestedKey × Addr × Value)} {v : V} {k : TKey} (h : H d = some (KnO P w d zs)) (t : KeyT K H v k) : KeyT K (upd H d o) v k := by
  obtain ⟨a, v3, e, t, c, rs, e3, t3, pr⟩ := t
  exact ⟨a, v3, e, rd_upd h t, c, rs, e3, rd_upd h t3, paired_imp pr fun _ _ q => rd_upd h q⟩
theorem set_kn (hu : X.A.units + 64 < cLine) : PSet X (rKnPut X.prog X.w X.K) := by
  intro pins s σ H o i v ov iv u Q I ro ri rv h
  obtain ⟨d, ks, a, k, rfl, rfl, hd, hk, hnew, hl, q⟩ := h
  cases ro
  cases ri
  obtain ⟨xs, h1, h2, h3, h4⟩ := kn_of I hd
  have hz : xs.length ≤ sizeLine := by
    rw [h4.length]
    exact le_line hl
  have hat : atKey xs (keyN k) = none := by
    have := kn_mem (k := k) (kn_keys h4)
    rw [decide_eq_false hnew] at this
    exact Option.not_isSome_iff_eq_none.mp (by rw [this]; decide)
  refine wpAny_setItem_heap (knd := nestedKind X.prog X.w) (hsz := hz) (by show X.A.units + 1 + 8 < cLine; omega) (key_is I hk) h3 fun h' hm' hs => ?_
  rw [storedH_new hat] at hm'
  have he : ∃ z, h'.get? d = some z := let ⟨z, _, _, hz, _⟩ := hm'; ⟨z, hz⟩
  have mu : Mut (H d) := by rw [h1]; exact True.intro
  have I2 : Inv X pins σ (upd H d (KnO X.prog X.w d (xs ++ [(keyN k, a, u)]))) { s with heap := h', toks := s.toks + (keyN k).draws } :=
    I.write (t' := s.toks + (keyN k).draws) mu (.inl rfl) (fun b ob hb e => (hs.2 b hb).trans e) he (knO_new hm')
  refine ⟨_, I2, q _ ⟨⟨_, upd_same, h2, ?_⟩, ?_⟩⟩
  · refine paired_snoc (paired_imp h4 fun _ _ z => ⟨z.1, key_upd h1 z.2⟩) ⟨rfl, key_upd h1 hk⟩
  · rw [List.nodup_append]
    refine ⟨hd.nd, by simp, fun x hx y hy => ?_⟩
    rw [List.mem_singleton] at hy
    rintro rfl
    exact hnew (hy ▸ hx)
/-- {k: v} -/
def tKnDisp (P : Program) (w : World) (K : PySem.W.Frag) (tk tv : TE) : TE := fun σ H Q => ∀ d, H d = none → ∀ o0, tk σ (upd H d o0) fun y H1 => tv σ H1 fun z H2 => H2 d = some o0 ∧ ∃ a k, y = .ref a ∧ KeyT K H2 (.ref a) k ∧ ∀ o', KnAt P w K (upd H2 d o') d [k] → Q (.ref d) (upd H2 d o')
theorem e_kndisp {ke ve : Expr} {tk tv : TE} {pos : Pos} (hu : X.A.units + 64 < cLine) (hk : PE X ke tk) (hv : PE X ve tv) : PE X (.Dict [some ke] [ve] pos) (tKnDisp X.prog X.w X.K tk tv) := by
  refine ⟨fun pins s σ H Q I q => ?_⟩
  have hn := I.hok.fresh (Nat.le_refl s.heap.objs.size)
  have R0 : (s.heap.push { cls := .type "dict", data := .dict #[] }).DictOfH (nestedKind X.prog X.w) s.heap.objs.size [] := Heap.DictOfH.new s.heap
  have I1 := I.laid (a := s.heap.objs.size) (o := KnO X.prog X.w s.heap.objs.size []) (h' := s.heap.push { cls := .type "dict", data := .dict #[] }) (t' := s.toks) (fun _ _ q => Heap.get?_push_of_some _ q) (Nat.le_refl _) (knO_new R0)
  rw [arm_eval_Dict, zip_pairTrees [some ke] [ve] X.env pos rfl rfl, dictDisplay_pairs (pairTrees [some ke] [ve] X.env pos) (by simp [pairTrees]) (by simp [pairTrees])]
  refine wpAny_bind (wpAny_standAt (wpAny_bind (wpAny_subDictH (knd := nestedKind X.prog X.w) (Q := fun d s' => wpAny (model X.prog X.w) X.A (pure (Value.ref d)) (EP X pins σ Q) X.xe s') (by show X.A.units + 8 < cLine; omega) (by simp [pairTrees]) ?_)))
  refine pairTrees_cons_walk (thn (hk.run pins _ σ _ _ I1 (q _ hn _)) fun u s1 hh => ?_)
  obtain ⟨y, H1, I2, r1, q1⟩ := hh
  refine thn (hv.run pins s1 σ H1 _ I2 q1) fun z s2 hh => pairTrees_nil_walk ?_
  obtain ⟨zv, H2, I3, r2, hd0, a, k, ey, hkey, q3⟩ := hh
  subst ey
  cases r1
  obtain ⟨⟨o, es, ep, g1, g2, g3, g4⟩, _, _⟩ := I3.hok _ _ hd0
  have R2 : s2.heap.DictOfH (nestedKind X.prog X.w) s.heap.objs.size [] := ⟨o, es, ep, g1, g2, g3, g4, by simp, by simp⟩
  refine ⟨[(keyN k, a, z)], ⟨rfl, rfl, key_is I3 hkey, trivial⟩, R2, fun h' tk hm' hs => wpAny_pure ?_⟩
  have hm2 : h'.DictOfH (nestedKind X.prog X.w) s.heap.objs.size [(keyN k, a, z)] := by
    first
      | exact hm'
      | (have e : storedAllH ([] : List (NestedKey × Addr × Value)) [(keyN k, a, z)] = [(keyN k, a, z)] := by
           first | rfl | simp [storedAllH, storedH, atKey]
         rw [e] at hm'
         exact hm')
  have he : ∃ z, h'.get? s.heap.objs.size = some z := let ⟨z, _, _, hz, _⟩ := hm2; ⟨z, hz⟩
  have mu : Mut (H2 s.heap.objs.size) := by rw [hd0]; exact True.intro
  have hsys : (s.heap.objs.size == sysModules) = false := by
    have := I.big
    exact beq_eq_false_iff_ne.mpr (Nat.ne_of_gt this)
  refine ⟨.ref s.heap.objs.size, _, I3.write (t' := tk) mu (.inl rfl) (fun b ob hb e => (hs.2 b hb).trans e) he (knO_new hm2), rfl, q3 _ ⟨⟨_, upd_same, hsys, .cons ⟨rfl, key_upd hd0 hkey⟩ .nil⟩, by simp⟩⟩
end
end Fw

/-! Heaps whose lasting things last; calls that may raise; data of any depth. -/
namespace Fw
open PySem PySem.Spec PyProof.Rows L2
/-- what is never written -/
def Stb : HO → Prop
  | .tup _ => True
  | .frz _ _ => True
  | .ins _ _ _ => True
  | .own _ => True
  | _ => False
def Keep (H H' : Hp) : Prop := ∀ b o, Stb o → H b = some o → H' b = some o
theorem Keep.refl (H : Hp) : Keep H H := fun _ _ _ h => h
theorem Keep.trans {H H1 H2 : Hp} (a : Keep H H1) (b : Keep H1 H2) : Keep H H2 := fun c o n h => b c o n (a c o n h)
theorem Keep.same {H H' : Hp} (s : Same H H') : Keep H H' := fun b o _ h => s b o h
theorem Keep.upd {H : Hp} {d : Addr} {o u : HO} (h : H d = some u) (n : ¬ Stb u) : Keep H (upd H d o) := fun b v sv q => by
  by_cases e : b = d
  · subst e
    rw [h] at q
    cases q
    exact absurd sv n
  · rw [upd_ne e]
    exact q
section
variable {K : PySem.W.Frag} {H H' : Hp} {a : Addr} {xs : List V} {v : V}
theorem keepT (k : Keep H H') (h : SqT K H a xs) : SqT K H' a xs := by
  rcases h with (h | ⟨o, h⟩) | h
  · exact .inl (.inl (k _ _ trivial h))
  · exact .inl (.inr ⟨o, k _ _ trivial h⟩)
  · exact .inr h
theorem StrT.keep {l : List Str} (k : Keep H H') (h : StrT K H v l) : StrT K H' v l := let ⟨a, e, t⟩ := h; ⟨a, e, keepT k t⟩
theorem NatT.keep {l : List Nat} (k : Keep H H') (h : NatT K H v l) : NatT K H' v l := let ⟨a, e, t⟩ := h; ⟨a, e, keepT k t⟩
theorem PairsT.keep {l : List (Nat × Nat)} (k : Keep H H') (h : PairsT K H v l) : PairsT K H' v l := let ⟨a, rs, e, t, p⟩ := h; ⟨a, rs, e, keepT k t, paired_imp p fun _ _ q => keepT k q⟩
theorem KeyT.keep {x : Str × Str × List (Nat × Nat)} (k : Keep H H') (h : KeyT K H v x) : KeyT K H' v x := let ⟨a, v3, e, t, p⟩ := h; ⟨a, v3, e, keepT k t, p.keep k⟩
theorem HeldT.keep {l : List Str} (k : Keep H H') (h : HeldT K H v l) : HeldT K H' v l := let ⟨a, e, t, q⟩ := h; ⟨a, e, keepT k t, fun n => let ⟨o, h1, h2⟩ := q n; ⟨o, k _ _ trivial h1, h2⟩⟩
theorem RdAt.keep {r b : Addr} {s : Str × List Str} (k : Keep H H') (h : RdAt K H r b s) : RdAt K H' r b s := by
  obtain ⟨dx, t, h1, h2⟩ := h.ex
  exact ⟨dx, t, k _ _ trivial h1, h2.keep k⟩
theorem PlT.keep {p : Str} {n : Nat} {y : Bool} (k : Keep H H') (h : PlT K H v p n y) : PlT K H' v p n y := let ⟨a, e, t⟩ := h; ⟨a, e, keepT k t⟩
theorem RuT.keep {g : Str} {ms : List Nat} (k : Keep H H') (h : RuT K H v g ms) : RuT K H' v g ms := let ⟨a, m, e, t, q⟩ := h; ⟨a, m, e, keepT k t, q.keep k⟩
end
/-! ### a tuple of four -/
section
variable {X : Cx} {pos : Pos}
theorem g_4 {K : PySem.W.Frag} {e1 e2 e3 e4 : Expr} {t1 t2 t3 t4 : TG} {k : Nat} (h1 : PG X e1 t1) (h2 : PG X e2 t2) (h3 : PG X e3 t3) (h4 : PG X e4 t4) (hc : X.calm = true := by rfl) (hs1 : (assignEach [e1, e2, e3, e4] X.env).map (·.2) = assign e1 X.env :: (assignEach [e2, e3, e4] X.env).map (·.2) := by rfl)
    (hs2 : (assignEach [e2, e3, e4] X.env).map (·.2) = assign e2 X.env :: (assignEach [e3, e4] X.env).map (·.2) := by rfl) (hs3 : (assignEach [e3, e4] X.env).map (·.2) = assign e3 X.env :: (assignEach [e4] X.env).map (·.2) := by rfl) (hs4 : (assignEach [e4] X.env).map (·.2) = assign e4 X.env :: (assignEach [] X.env).map (·.2) := by rfl)
    (hn : (assignEach [e1, e2, e3, e4] X.env).length = 4 := by rfl) (hst : (assignEach [e1, e2, e3, e4] X.env).findIdx? (·.1) = none := by rfl) (hK : X.K = K := by rfl) : PG X (.Tuple [e1, e2, e3, e4] k pos) (gTup K 4 (gCons t1 (gCons t2 (gCons t3 (gCons t4 gNil))))) := hK ▸ pg_tup hc (pgs_cons h1 (pgs_cons h2 (pgs_cons h3 (pgs_cons h4 pgs_nil hs4) hs3) hs2) hs1) hn hst
end
/-! ### calls of what may raise -/
section
variable {X : Cx} {k : Nat} {f C : Addr} {ps ks : List Str} {dvs : List V} {sp : Sp} {E : XK} {x m : Str} {p pos apos : Pos} {e o : Expr} {es : List Expr} {kws : List Keyword} {ta : TE} {t tk : TA} {n : Nat} {gV : List V → List V → List V}
theorem e_fX (F : Fc X.prog X.w X.K X.mg X.base (L2.CX X.prog X.w) k f ps dvs sp) (hr : Room k X.A) (hm : X.mg x = some (.ref f)) (hx : Passes (L2.CX X.prog X.w) X E) (ha : PA X (e :: es) t) (hg : Gl X x := by rfl) (hdb : (x == ("__debug__" : Str)) = false := by decide)
    (he : starEach (e :: es) X.env = (false, eval e X.env) :: starEach es X.env := by rfl) (hpl : (backTo pos (starEach es X.env)).any (·.1) = false := by rfl) : PE X (.Call (.Name x p) (e :: es) [] pos) (tCall sp dvs E t) := by
  obtain ⟨fd, ds, G, b, d⟩ := F.ex
  exact pe_call G hr hg hm F.kp b d hx ha hdb he hpl
end
section
variable (P : Program) (w : World) (K : PySem.W.Frag) (mg : Str → Option Value) (base : Heap) (CX : CXT)
/-- a def at f keeps a promise; called with n values and the keywords ks -/
structure Fk (k : Nat) (f : Addr) (ps : List Str) (n : Nat) (ks : List Str) (gV : List V → List V → List V) (sp : Sp) : Prop where
  ex : ∃ fd g, FnOk P w K mg base CX k f fd ps sp ∧ KBn K fd ps n ks g gV
  kp : PySem.W.keepIn K (.ref f) = true
end
section
variable {P : Program} {w : World} {K : PySem.W.Frag} {mg : Str → Option Value} {base : Heap} {CX : CXT} {k : Nat} {f : Addr} {ps : List Str} {sp sp' : Sp}
theorem Fk.mono {j n : Nat} {ks : List Str} {gV : List V → List V → List V} (F : Fk P w K mg base CX j f ps n ks gV sp) (h : j ≤ k) : Fk P w K mg base CX k f ps n ks gV sp := by
  obtain ⟨fd, g, G, b⟩ := F.ex
  exact ⟨⟨fd, g, G.mono h, b⟩, F.kp⟩
/-- every parameter is given, some by keywords -/
theorem kbindsN {x qual : Str} {params : Arguments} {body : List Stmt} {scope : Scope} {kws : List (Str × V)} {fd : FuncData} (F : FunD K x qual params body scope [] kws f fd) (n : Nat) (ks : List Str) (g : {α : Type} → List α → List α → List α)
    (hrel : ∀ {vs zs : List V} {us ws : List Value}, Vals vs us → Vals zs ws → Vals (g vs zs) (g us ws))
    (h : ∀ (kV doc pm : Value) (an : Option Addr) (cdv ct : Value) (us ws : List Value), us.length = n → ws.length = ks.length → bindArgs (PySem.W.fnOf x qual params body scope .none kV doc pm an cdv ct) ⟨us, ks.zip ws⟩ = pure (ps.zip (g us ws))) :
    KBn K fd ps n ks (fun us ws => g us ws) (fun vs zs => g vs zs) := by
  obtain ⟨oc, od, dV, kV, doc, pm, an, cdv, ct, osl, rfl, lk, hcd, hD, hK⟩ := F.ex
  rcases hD with ⟨_, rfl⟩ | ⟨e, _⟩
  · exact ⟨fun s us ws X l1 l2 => .of_eq (h kV doc pm an cdv ct us ws l1 l2), fun r1 r2 => hrel r1 r2⟩
  · exact absurd rfl e
end
section
variable {X : Cx} {k : Nat} {f C : Addr} {ps ks : List Str} {sp : Sp} {E : XK} {x m : Str} {p pos apos : Pos} {e o : Expr} {es : List Expr} {kws : List Keyword} {ta : TE} {t tk : TA} {n : Nat} {gV : List V → List V → List V}
/-- f(e, .., k = v, ..) of a def that may raise -/
theorem e_kX (F : Fk X.prog X.w X.K X.mg X.base (L2.CX X.prog X.w) k f ps n ks gV sp) (hr : Room k X.A) (hm : X.mg x = some (.ref f)) (hx : Passes (L2.CX X.prog X.w) X E) (ha : PA X (e :: es) t) (hkw : PK X kws tk) (hg : Gl X x := by rfl)
    (hall : (backToKw pos (keywordEach kws X.env)).all (·.1.isSome) = true := by rfl) (hks : (backToKw pos (keywordEach kws X.env)).filterMap (·.1) = ks := by rfl)
    (hdb : (x == ("__debug__" : Str)) = false := by decide) (he : starEach (e :: es) X.env = (false, eval e X.env) :: starEach es X.env := by rfl)
    (hpl : ((backTo pos (starEach (e :: es) X.env)).any (·.1) || (backToKw pos (keywordEach kws X.env)).any (·.1.isNone)) = false := by rfl) : PE X (.Call (.Name x p) (e :: es) kws pos) (tCallN n ks.length sp gV E t tk) := by
  obtain ⟨fd, g, G, b⟩ := F.ex
  exact pe_callN G hr hg hm F.kp b hx ha hkw hall hks hdb he hpl
end
/-! ### texts and tuples of texts as data -/
def WOk (l : List Str) : Prop := ∀ x ∈ l, PyData.strOk x = true
theorem dp_strs {K : PySem.W.Frag} {H : Hp} : ∀ l : List Str, DpAll K H (l.map V.str) (l.map PyData.str)
  | [] => .nil
  | x :: r => .cons (.str x) (dp_strs r)
theorem lay_strs : ∀ {l : List Str}, WOk l → PyData.canLayAll0 (l.map PyData.str) = true
  | [], _ => by simp [PyData.canLayAll0]
  | x :: r, h => by
    have h1 := h x (by simp)
    have h2 := lay_strs (l := r) fun y hy => h y (by simp [hy])
    simp [PyData.canLayAll0, PyData.canLay0, h1, h2]
theorem depth_strs : ∀ l : List Str, PyData.depthAll (l.map PyData.str) ≤ 0
  | [] => by simp [PyData.depthAll]
  | x :: r => by
    have := depth_strs r
    simp only [List.map_cons, PyData.depthAll, PyData.depth]
    omega
theorem shaped_strs {l : List Str} (h : WOk l) : SeqAt.shaped (.tuple (l.map PyData.str)) = true := by
  have h1 := depth_strs l
  have h2 : PyData.depth (.tuple (l.map PyData.str)) ≤ 64 := by
    simp only [PyData.depth]
    omega
  show (PyData.canLay0 (.tuple (l.map PyData.str)) && decide (PyData.depth (.tuple (l.map PyData.str)) ≤ 64)) = true
  rw [Bool.and_eq_true]
  exact ⟨by simp only [PyData.canLay0]; exact lay_strs h, decide_eq_true h2⟩
theorem eqv_strs : ∀ l m : List Str, PyData.eqvAll (l.map PyData.str) (m.map PyData.str) = decide (l = m)
  | [], [] => by simp [PyData.eqvAll]
  | [], _ :: _ => by simp [PyData.eqvAll]
  | _ :: _, [] => by simp [PyData.eqvAll]
  | x :: r, y :: t => by
    have ih := eqv_strs r t
    simp only [List.map_cons, PyData.eqvAll, PyData.eqv, ih]
    by_cases h : x = y
    · subst h
      simp
    · have : (x == y) = false := by simpa using h
      simp [this, h]
theorem dp_strT {K : PySem.W.Frag} {H : Hp} {a : Addr} {l : List Str} (h : SqT K H a (l.map V.str)) : Dp K H (.ref a) (.tuple (l.map PyData.str)) := .tup h (dp_strs l)
theorem dp_two {K : PySem.W.Frag} {H : Hp} {a : Addr} {x y : Bool} (h : SqT K H a [.bl x, .bl y]) : Dp K H (.ref a) (.tuple [.bool x, .bool y]) := .tup h (.cons (.bl x) (.cons (.bl y) .nil))
theorem shaped_two (x y : Bool) : SeqAt.shaped (.tuple [.bool x, .bool y]) = true := by cases x <;> cases y <;> decide +kernel
theorem eqv_two (x y u v : Bool) : PyData.eqv (.tuple [.bool x, .bool y]) (.tuple [.bool u, .bool v]) = decide (x = u ∧ y = v) := by cases x <;> cases y <;> cases u <;> cases v <;> decide +kernel
end Fw

/-! check_words; what a search keeps. -/
namespace Fw
open PySem PySem.Spec PyProof.Rows L2
section
variable {P : Program} {w : World} {K : PySem.W.Frag} {mg : Str → Option Value} {base : Heap}
abbrev IQ (K : PySem.W.Frag) : Value := .ref (He.ga K "InvalidQuestion")
def spCheckWords (K : PySem.W.Frag) : Sp := fun vs H Q E => ∃ a b A B, vs = [.ref a, .ref b] ∧ BookAt K H a A ∧ BookAt K H b B ∧ WOk A.words ∧ WOk B.words ∧ ((A.words = B.words ∧ Q .non H) ∨ (A.words ≠ B.words ∧ E (IQ K) none H))
theorem scCheckWords : FnScope ["one", "other"] ["one", "other"] (defScope sCheckWords) := ⟨rfl, rfl, rfl, by decide +kernel, rfl, by decide +kernel, by decide +kernel⟩
theorem ok_CheckWords (T : Tx K mg) : Fc P w K mg base (L2.CX P w) 1 (He.ga K "check_words") ["one", "other"] [] (spCheckWords K) := by
  refine fc_mkX T.f_CheckWords scCheckWords (fun _ _ _ _ _ _ us hl => match us, hl with | [_, _], _ => rfl) (fun vs H Q E h => ?_) (fun cdv A0 outer s0 H vs Q E hr h => ?_)
  · obtain ⟨_, _, _, _, rfl, _⟩ := h
    rfl
  · obtain ⟨a, b, A, B, rfl, BA, BB, WA, WB, go⟩ := h
    obtain ⟨dx, tw, tp, dk, dt, kk, tt, h1, h2, h3, h4, h5, h6⟩ := BA.ex
    obtain ⟨dx', tw', tp', dk', dt', kk', tt', g1, g2, g3, g4, g5, g6⟩ := BB.ex
    refine ⟨_, pss_one (ps_if (t_c (op_neD hr.units) (e_fld (pv 0)) (e_fld (pv 1))) (pss_one (ps_raise rfl (takes_of rfl rfl rfl rfl) (pmk_own PySem.F.excBase_ValueError T.e_InvalidQuestion.1 T.g_InvalidQuestion T.e_InvalidQuestion.2.1 (raises_own T.e_InvalidQuestion.2.2.1 T.e_InvalidQuestion.2.2.2) rfl))) pss_nil), ?_⟩
    refine ⟨_, rfl, a, _, dx, _, _, rfl, h1, T.cls_Book, T.a_Book_words, bookFs_words, _, rfl, b, _, dx', _, _, rfl, g1, T.cls_Book, T.a_Book_words, bookFs_words, _, _, dp_strT h2, dp_strT g2, shaped_strs WA, shaped_strs WB, _, rfl, ?_⟩
    have e : PyData.eqv (.tuple (A.words.map PyData.str)) (.tuple (B.words.map PyData.str)) = decide (A.words = B.words) := by
      simp only [PyData.eqv]
      exact eqv_strs _ _
    rw [e]
    rcases go with ⟨e1, k⟩ | ⟨e1, k⟩
    · rw [decide_eq_true e1]
      exact iteF k
    · rw [decide_eq_false e1]
      exact iteT k
end
/-! ### names -/
def nm (i : Nat) : Str := Str.empty ++ "a" ++ Str.ofString (toString (i : Int))
theorem app_inj {x y z : Str} (h : x ++ y = x ++ z) : y = z := by
  have h1 : (x ++ y).cps = (x ++ z).cps := congrArg Str.cps h
  have h2 : x.cps ++ y.cps = x.cps ++ z.cps := h1
  have h3 : y.cps = z.cps := (Array.append_right_inj x.cps).mp h2
  cases y
  cases z
  cases h3
  rfl
theorem num_inj {i j : Nat} (hi : i < 100000) (hj : j < 100000) (h : Str.ofString (toString (i : Int)) = Str.ofString (toString (j : Int))) : i = j := by
  have h1 := PySem.W.KIN.num_reads (n := (i : Int)) (by omega) (by omega)
  have h2 := PySem.W.KIN.num_reads (n := (j : Int)) (by omega) (by omega)
  rw [h, h2] at h1
  injection h1 with h1
  omega
theorem nm_inj {i j : Nat} (hi : i < 100000) (hj : j < 100000) (h : nm i = nm j) : i = j := num_inj hi hj (app_inj h)
/-! ### what is reachable -/
def Way (A B : Au Str Str) (x y : Bool) : Prop := ∃ s t : Str × List Str, Reach A B s t ∧ A.yes s.1 = x ∧ B.yes t.1 = y
def Few (A B : Au Str Str) : Prop := ∀ L : List TKey, L.Nodup → (∀ k ∈ L, ∃ s t : Str × List Str, A.Val s ∧ B.Val t ∧ keyOf s t = k) → L.length ≤ 19000
structure Nd where
  p : Addr
  r : Addr
  r1 : Addr
  r2 : Addr
  m : Nat
  s : Str × List Str
  t : Str × List Str
def Nd.key (n : Nd) : TKey := keyOf n.s n.t
/-- the names a1 .. am -/
def Nms (m : Nat) (l : List Str) : Prop := ∀ x ∈ l, ∃ i, 1 ≤ i ∧ i ≤ m ∧ x = nm i
theorem Nms.mono {m m' : Nat} {l : List Str} (h : Nms m l) (le : m ≤ m') : Nms m' l := fun x hx => let ⟨i, a, b, c⟩ := h x hx; ⟨i, a, Nat.le_trans b le, c⟩
theorem moved_mem {N : Type} [DecidableEq N] {h : List N} {n x : N} {ms : List Nat} (hx : x ∈ moved h n ms) : x = n ∨ x ∈ h := by
  unfold moved at hx
  obtain ⟨m, _, e⟩ := List.mem_map.mp hx
  by_cases m0 : m = 0
  · rw [if_pos m0] at e
    exact .inl e.symm
  · rw [if_neg m0] at e
    by_cases hm : m - 1 < h.length
    · exact .inr (List.mem_of_getElem? ((getD_of hm).mp e))
    · rw [List.getD_eq_getElem?_getD, List.getElem?_eq_none (by omega)] at e
      exact .inl e.symm
theorem Nms.step {A : Au Str Str} {m i : Nat} {s : Str × List Str} {wd : Str} (h : Nms m s.2) (h1 : 1 ≤ i) : Nms (max m i) (A.step s wd (nm i)).2 := fun x hx => by
  rcases moved_mem (show x ∈ moved s.2 (nm i) _ from hx) with e | hm
  · exact ⟨i, h1, Nat.le_max_right _ _, e⟩
  · obtain ⟨j, a, b, c⟩ := h x hm
    exact ⟨j, a, Nat.le_trans b (Nat.le_max_left _ _), c⟩
structure NdOk (K : PySem.W.Frag) (H : Hp) (a b : Addr) (A B : Au Str Str) (wt j : Nat) (n : Nd) : Prop where
  tp : SqT K H n.p [.ref n.r, natV n.m, .ref n.r1, .ref n.r2]
  r1 : RdAt K H n.r1 a n.s
  r2 : RdAt K H n.r2 b n.t
  row : ∃ xs, H n.r = some (.lst xs) ∧ xs.length ≤ j
  rw : n.r ≠ wt
  m : n.m ≤ j
  re : Reach A B n.s n.t
  n1 : Nms n.m n.s.2
  n2 : Nms n.m n.t.2
/-- lists but the one at wt last, too -/
structure KeepR (wt : Addr) (H H' : Hp) : Prop where
  k : Keep H H'
  l : ∀ r xs, r ≠ wt → H r = some (.lst xs) → H' r = some (.lst xs)
theorem KeepR.same {wt : Addr} {H H' : Hp} (s : Same H H') : KeepR wt H H' := ⟨.same s, fun r xs _ h => s r _ h⟩
theorem KeepR.trans {wt : Addr} {H H1 H2 : Hp} (a : KeepR wt H H1) (b : KeepR wt H1 H2) : KeepR wt H H2 := ⟨a.k.trans b.k, fun r xs n h => b.l r xs n (a.l r xs n h)⟩
theorem KeepR.wt {wt : Addr} {H : Hp} {xs : List V} {o : HO} (h : H wt = some (.lst xs)) : KeepR wt H (upd H wt o) := ⟨.upd h (fun z => z), fun r ys n q => by rw [upd_ne n]; exact q⟩
theorem KeepR.ext {wt d : Addr} {H : Hp} {φ : Heap → Prop} {o : HO} (h : H d = some (.ext φ)) : KeepR wt H (upd H d o) := ⟨.upd h (fun z => z), fun r ys n q => by
  have ne : r ≠ d := by
    rintro rfl
    rw [h] at q
    cases q
  rw [upd_ne ne]
  exact q⟩
theorem NdOk.keep {K : PySem.W.Frag} {H H' : Hp} {a b wt j : Nat} {A B : Au Str Str} {n : Nd} (k : KeepR wt H H') (h : NdOk K H a b A B wt j n) : NdOk K H' a b A B wt j n :=
  ⟨keepT k.k h.tp, h.r1.keep k.k, h.r2.keep k.k, let ⟨xs, e, l⟩ := h.row; ⟨xs, k.l _ _ h.rw e, l⟩, h.rw, h.m, h.re, h.n1, h.n2⟩
/-- the search's lists -/
structure Srch (P : Program) (w : World) (K : PySem.W.Frag) (H : Hp) (a b : Addr) (A B : Au Str Str) (d wt : Addr) (S : List Nd) : Prop where
  wl : H wt = some (.lst (S.map fun n => V.ref n.p))
  kn : KnAt P w K H d (S.map Nd.key)
  ok : ∀ j n, S[j]? = some n → NdOk K H a b A B wt j n
theorem Srch.same {P : Program} {w : World} {K : PySem.W.Frag} {H H' : Hp} {a b d wt : Addr} {A B : Au Str Str} {S : List Nd} (s : Same H H') (h : Srch P w K H a b A B d wt S) : Srch P w K H' a b A B d wt S :=
  ⟨s _ _ h.wl, h.kn.same s, fun j n e => (h.ok j n e).keep (.same s)⟩
theorem Srch.few {P : Program} {w : World} {K : PySem.W.Frag} {H : Hp} {a b d wt : Addr} {A B : Au Str Str} {S : List Nd} (h : Srch P w K H a b A B d wt S) (GA : A.Good) (GB : B.Good) (hw : B.words = A.words) (F : Few A B) : S.length ≤ 19000 := by
  have := F (S.map Nd.key) h.kn.nd fun k hk => by
    obtain ⟨n, hn, rfl⟩ := List.mem_map.mp hk
    obtain ⟨j, hj⟩ := List.mem_iff_getElem?.mp hn
    obtain ⟨v1, v2⟩ := (h.ok j n hj).re.val GA GB hw
    exact ⟨n.s, n.t, v1, v2, rfl⟩
  rwa [List.length_map] at this
/-- one step's triple is there -/
def Cov (A B : Au Str Str) (S : List Nd) (n : Nd) (wd : Str) (i : Nat) : Prop := keyOf (A.step n.s wd (nm i)) (B.step n.t wd (nm i)) ∈ S.map Nd.key
theorem Cov.app {A B : Au Str Str} {S : List Nd} {n m : Nd} {wd : Str} {i : Nat} (h : Cov A B S n wd i) : Cov A B (S ++ [m]) n wd i := by
  unfold Cov at h ⊢
  rw [List.map_append]
  exact List.mem_append_left _ h
/-- the first k are done -/
def Done (A B : Au Str Str) (x y : Bool) (S : List Nd) (k : Nat) : Prop := ∀ j n, j < k → S[j]? = some n → ¬ (A.yes n.s.1 = x ∧ B.yes n.t.1 = y) ∧ ∀ wd ∈ A.words, ∀ i, 1 ≤ i → i ≤ n.m + 1 → Cov A B S n wd i
theorem Done.app {A B : Au Str Str} {x y : Bool} {S : List Nd} {k : Nat} {m : Nd} (hk : k ≤ S.length) (h : Done A B x y S k) : Done A B x y (S ++ [m]) k := fun j n hj e => by
  have e' : S[j]? = some n := by
    rw [List.getElem?_append_left (by omega)] at e
    exact e
  obtain ⟨h1, h2⟩ := h j n hj e'
  exact ⟨h1, fun wd hw i a b => (h2 wd hw i a b).app⟩
/-- all done: no way -/
theorem Done.noway {P : Program} {w : World} {K : PySem.W.Frag} {H : Hp} {a b d wt : Addr} {A B : Au Str Str} {S : List Nd} {x y : Bool} (h : Srch P w K H a b A B d wt S) (GA : A.Good) (GB : B.Good) (hw : B.words = A.words) (F : Few A B)
    (h0 : keyOf (A.init (N := Str)) (B.init (N := Str)) ∈ S.map Nd.key) (D : Done A B x y S S.length) : ¬ Way A B x y := by
  rintro ⟨s, t, r, e1, e2⟩
  have lS := h.few GA GB hw F
  have c := Reach.closed GA GB hw (fun k => k ∈ S.map Nd.key) h0 (fun k hk => by
    obtain ⟨n, hn, e⟩ := List.mem_map.mp hk
    obtain ⟨j, hj⟩ := List.mem_iff_getElem?.mp hn
    have lj := (List.getElem?_eq_some_iff.mp hj).1
    have o := h.ok j n hj
    obtain ⟨v1, v2⟩ := o.re.val GA GB hw
    have hm := o.m
    refine ⟨n.s, n.t, fun z => ∃ i, 1 ≤ i ∧ i ≤ n.m + 1 ∧ z = nm i, v1, v2, e, ⟨fun z hz => (o.n1.mono (Nat.le_succ _)) z hz, fun z hz => (o.n2.mono (Nat.le_succ _)) z hz, nm (n.m + 1), ⟨n.m + 1, by omega, by omega, rfl⟩, ?_, ?_⟩, ?_⟩
    · intro q
      obtain ⟨i, i1, i2, i3⟩ := o.n1 _ q
      have := nm_inj (by omega) (by omega) i3
      omega
    · intro q
      obtain ⟨i, i1, i2, i3⟩ := o.n2 _ q
      have := nm_inj (by omega) (by omega) i3
      omega
    · rintro wd hwd z ⟨i, i1, i2, rfl⟩
      exact (D j n lj hj).2 wd hwd i i1 i2) r
  obtain ⟨n, hn, e⟩ := List.mem_map.mp c
  obtain ⟨j, hj⟩ := List.mem_iff_getElem?.mp hn
  have lj := (List.getElem?_eq_some_iff.mp hj).1
  refine (D j n lj hj).1 ?_
  obtain ⟨q1, q⟩ := Prod.mk.inj (show keyOf n.s n.t = keyOf s t from e)
  obtain ⟨q2, _⟩ := Prod.mk.inj q
  rw [q1, q2]
  exact ⟨e1, e2⟩
end Fw

/-! first_row. -/
namespace Fw
open PySem PySem.Spec PyProof.Rows L2
section
variable {P : Program} {w : World} {K : PySem.W.Frag} {mg : Str → Option Value} {base : Heap}
abbrev nFirstRow : List Str := ["one", "other", "answers", "limit", "first", "second", "known", "waiting", "at", "row", "many", "word", "number", "name", "left", "right"]
abbrev pFirstRow : List Str := ["one", "other", "answers", "limit"]
theorem scFirstRow : FnScope nFirstRow pFirstRow (defScope sFirstRow) := ⟨rfl, rfl, rfl, by decide +kernel, rfl, by decide +kernel, by decide +kernel⟩
def spFirstRow (K : PySem.W.Frag) : Sp := fun vs H Q E => ∃ a b c A B x y, vs = [.ref a, .ref b, .ref c, .int 20000] ∧ BookAt K H a A ∧ BookAt K H b B ∧ SqT K H c [.bl x, .bl y] ∧ WOk A.words ∧ WOk B.words ∧
  ((A.words = B.words ∧ A.Good ∧ B.Good ∧ Few A B ∧ (¬ Way A B x y → ∀ H', Same H H' → Q .non H') ∧ (Way A B x y → ∀ H' p, Same H H' → Q (.ref p) H')) ∨ (A.words ≠ B.words ∧ E (IQ K) none H))
theorem by_eq {G : Hp → Prop} {H H1 : Hp} (e : H = H1) (h : G H1) : G H := e ▸ h
theorem made_rd {H : Hp} {p x dx b : Addr} {st : Str} (hp : H p = none) (nx : (upd H p (.tup [])) x = none) (ndx : (upd H p (.tup [])) dx = none) :
    ∃ H1, upd (upd (upd (upd H p (.tup [])) dx (.own x)) x (.ins (He.ga K "Reading") dx [])) x (.ins (He.ga K "Reading") dx [("book", .ref b), ("place", .str st), ("held", .ref p)]) = H1 ∧ Same H H1 ∧ RdAt K H1 x b (st, []) := by
  have s0 : Same H (upd H p (.tup [])) := same_new hp
  refine ⟨_, rfl, ?_, ⟨dx, .ref p, upd_same, ?_⟩⟩
  · exact same_mut (same_mut (same_mut s0 (s0.free ndx)) (s0.free nx)) (s0.free nx)
  · have h0 : HeldT K (upd H p (.tup [])) (.ref p) [] := ⟨p, rfl, .of upd_same, fun z => absurd rfl z⟩
    exact h0.same (same_mut (same_mut (same_new ndx) nx) nx)
theorem num_log {n : Nat} (h : n < 100000) : ((n : Int)).natAbs.log2 < 1920 := by
  by_cases h0 : n = 0
  · subst h0
    decide
  · rw [Int.natAbs_natCast]
    exact (Nat.log2_lt h0).mpr (Nat.lt_of_lt_of_le (show n < 2 ^ 17 by omega) (Nat.pow_le_pow_right (by decide) (by decide)))
theorem nm_len {n : Nat} (h : n < 100000) : (nm n).length ≤ sizeLine := by
  have h1 := PySem.W.KT.len_num (n := (n : Int)) (by omega) (by omega)
  unfold nm
  rw [PySem.Str.length_append, PySem.Str.length_append, show (Str.empty).length = 0 from rfl, show ("a" : Str).length = 1 from rfl]
  exact le_line (by omega)
/-- midway in one turn -/
structure Mid (P : Program) (w : World) (K : PySem.W.Frag) (H0 H : Hp) (a b : Addr) (A B : Au Str Str) (x y : Bool) (d wt : Addr) (k kd : Nat) (n : Nd) (S : List Nd) : Prop where
  s : Same H0 H
  sr : Srch P w K H a b A B d wt S
  at_ : S[k]? = some n
  k0 : keyOf (A.init (N := Str)) (B.init (N := Str)) ∈ S.map Nd.key
  dn : Done A B x y S kd
theorem Mid.same {P : Program} {w : World} {K : PySem.W.Frag} {H0 H H' : Hp} {a b d wt : Addr} {k kd : Nat} {A B : Au Str Str} {x y : Bool} {n : Nd} {S : List Nd} (h : Mid P w K H0 H a b A B x y d wt k kd n S) (q : Same H H') : Mid P w K H0 H' a b A B x y d wt k kd n S := ⟨h.s.trans q, h.sr.same q, h.at_, h.k0, h.dn⟩
theorem fn_FirstRow (T : Tx K mg) {fd : FuncData} (F : FunD K "first_row" "first_row" (defArgs sFirstRow) (defBody sFirstRow) (defScope sFirstRow) [] [("limit", .int 20000)] (He.ga K "first_row") fd) :
    FnOk P w K mg base (L2.CX P w) 5 (He.ga K "first_row") fd pFirstRow (spFirstRow K) := by
  refine F.ok scFirstRow (fun vs H Q E h => ?_) (fun cdv A0 outer s0 H vs Q E hr h => ?_)
  · obtain ⟨_, _, _, _, _, _, _, rfl, _⟩ := h
    rfl
  · obtain ⟨a, b, c, A, B, x, y, rfl, BA, BB, tc, WA, WB, go⟩ := h
    refine ⟨_, pss_cons (ps_expr (e_fX (ok_CheckWords T) (hr.mono (by decide)) T.g_check_words (passes_call (takes_of rfl rfl rfl rfl) fun _ _ _ _ h => h) (pa_cons (pv 0) (pa_cons (pv 1) pa_nil))))
      (pss_cons (s_set 4 scFirstRow.nd (e_make T.k_Reading (ok_RInit T) (hr.mono (by decide)) T.g_Reading (pa_cons (pv 0) (pa_cons (e_fld (pv 0)) (pa_cons (pe_tup pa_nil) pa_nil)))))
      (pss_cons (s_set 5 scFirstRow.nd (e_make T.k_Reading (ok_RInit T) (hr.mono (by decide)) T.g_Reading (pa_cons (pv 1) (pa_cons (e_fld (pv 1)) (pa_cons (pe_tup pa_nil) pa_nil)))))
      (pss_cons (s_set 6 scFirstRow.nd (e_kndisp hr.units (e_f (ok_KeyOf T) (hr.mono (by decide)) T.g_key_of (pa_cons (pv 4) (pa_cons (pv 5) pa_nil))) pe_bl))
      (pss_cons (s_set 7 scFirstRow.nd (pe_lst (pa_cons (pe_tup (pa_cons (pe_lst pa_nil) (pa_cons pe_int (pa_cons (pv 4) (pa_cons (pv 5) pa_nil))))) pa_nil)))
      (pss_cons (s_set 8 scFirstRow.nd pe_int)
      (pss_cons (ps_while (passes_of rfl) (t_c op_lt (pv 8) (e_len T.n_len (pv 7)))
        (pss_cons (ps_asg (e_ixL (pv 7) (pv 8)) (g_4 (g_n 9 scFirstRow.nd) (g_n 10 scFirstRow.nd) (g_n 4 scFirstRow.nd) (g_n 5 scFirstRow.nd)))
        (pss_cons (ps_aug (i := 8) scFirstRow.nd rfl (.inl rfl) pe_int ip_add)
        (pss_cons (ps_if (t_c (op_eqD hr.units) (pe_tup (pa_cons (e_m0 (pv 4) T.cls_Reading T.m_Reading_says_yes (ok_RSays T) (hr.mono (by decide))) (pa_cons (e_m0 (pv 5) T.cls_Reading T.m_Reading_says_yes (ok_RSays T) (hr.mono (by decide))) pa_nil))) (e_ty call_tuple_of T.n_tuple PyProof.Rows.boot_tuple (pv 2))) (pss_one (ps_ret (pv 9))) pss_nil)
        (pss_cons (ps_if (t_c op_gt (pv 8) (pv 3)) pss_never pss_nil)
        (pss_one (ps_for (passes_of rfl) rfl (pi_tup (e_fld (pv 0))) (g_n 11 scFirstRow.nd) (pss_one (ps_for (passes_of rfl) rfl (pi_range2 (by rfl) T.n_range (pa_cons pe_int (pa_cons (e_op op_add (pv 10) pe_int) pa_nil))) (g_n 12 scFirstRow.nd)
          (pss_cons (s_set 13 scFirstRow.nd (pe_joined (.cons pe_str (.cons (pe_fmt (pv 12)) .nil))))
          (pss_cons (s_set 14 scFirstRow.nd (e_m (pv 4) T.cls_Reading T.m_Reading_read (ok_Read T) hr (pa_cons (pv 11) (pa_cons (pv 13) pa_nil))))
          (pss_cons (s_set 15 scFirstRow.nd (e_m (pv 5) T.cls_Reading T.m_Reading_read (ok_Read T) hr (pa_cons (pv 11) (pa_cons (pv 13) pa_nil))))
          (pss_one (ps_if (t_c (op_knNot hr.units) (e_f (ok_KeyOf T) (hr.mono (by decide)) T.g_key_of (pa_cons (pv 14) (pa_cons (pv 15) pa_nil))) (pv 6))
            (pss_cons (ps_asg pe_bl (pg_sub (pv 6) (e_f (ok_KeyOf T) (hr.mono (by decide)) T.g_key_of (pa_cons (pv 14) (pa_cons (pv 15) pa_nil))) (set_kn hr.units)))
            (pss_one (s_app (pv 7) (pe_tup (pa_cons (e_op op_cat (pv 9) (pe_lst (pa_cons (pe_tup (pa_cons (pv 11) (pa_cons (pv 13) pa_nil))) pa_nil))) (pa_cons (pe_callB (call_max2 rfl) (by rfl) T.n_max PyProof.Rows.boot_max (pa_cons (pv 10) (pa_cons (pv 12) pa_nil))) (pa_cons (pv 14) (pa_cons (pv 15) pa_nil)))))))) pss_nil))))))))))))))
      (pss_one (ps_ret pe_non)))))))), ?_⟩
    obtain ⟨dx, tw, tp, dk, dt, kk, tt, h1, h2, _⟩ := id BA.ex
    obtain ⟨dx', tw', tp', dk', dt', kk', tt', g1, g2, _⟩ := id BB.ex
    refine ⟨_, rfl, _, rfl, a, b, A, B, rfl, BA, BB, WA, WB, ?_⟩
    rcases go with ⟨hw, GA, GB, FW, noK, yesK⟩ | go
    rotate_left
    · exact .inr go
    refine .inl ⟨hw, ?_⟩
    refine ⟨_, rfl, _, rfl, a, _, dx, _, _, rfl, h1, T.cls_Book, T.a_Book_start, bookFs_start, by show 0 ≤ sizeLine; decide, fun p1 np1 => ?_⟩
    intro x1 dx1 nx1 ndx1 nex1
    refine ⟨x1, dx1, _, _, _, rfl, upd_same, rfl, ?_⟩
    obtain ⟨H1, e1, s1, R1⟩ := made_rd (K := K) (b := a) (st := A.start) np1 nx1 ndx1
    refine by_eq (G := fun Hx => gName _ _ _ Hx _) e1 ?_
    refine ⟨_, rfl, _, rfl, b, _, dx', _, _, rfl, s1 _ _ g1, T.cls_Book, T.a_Book_start, bookFs_start, by show 0 ≤ sizeLine; decide, fun p2 np2 => ?_⟩
    intro x2 dx2 nx2 ndx2 nex2
    refine ⟨x2, dx2, _, _, _, rfl, upd_same, rfl, ?_⟩
    obtain ⟨H2, e2, s2, R2⟩ := made_rd (K := K) (b := b) (st := B.start) np2 nx2 ndx2
    refine by_eq (G := fun Hx => gName _ _ _ Hx _) e2 ?_
    have R1 := R1.same s2
    have s2 := s1.trans s2
    clear e1 e2
    intro d nd o0
    have s3 : Same H2 (upd H2 d o0) := same_new nd
    refine ⟨_, rfl, _, rfl, x1, x2, a, b, _, _, rfl, R1.same s3, R2.same s3, by show 0 ≤ 6; decide, by show 0 ≤ 6; decide, fun v H4 s4 kT => ?_⟩
    obtain ⟨ka, kv3, rfl, kt1, kt2⟩ := id kT
    refine ⟨s4 _ _ upd_same, ka, _, rfl, kT, fun o' KN => ?_⟩
    have nd0 : H d = none := s2.free nd
    have s5 : Same H (upd H4 d o') := same_mut (s2.trans (s3.trans s4)) nd0
    have R1 : RdAt K (upd H4 d o') x1 a (A.start, []) := R1.same (same_mut (s3.trans s4) nd)
    have R2 : RdAt K (upd H4 d o') x2 b (B.start, []) := R2.same (same_mut (s3.trans s4) nd)
    revert KN R1 R2 s5
    generalize upd H4 d o' = H5
    intro KN s5 R1 R2
    refine ⟨by show 0 ≤ sizeLine; decide, fun r0 nr0 => ?_⟩
    refine ⟨_, rfl, _, rfl, by show 4 ≤ sizeLine; decide, fun q0 nq0 => ?_⟩
    refine ⟨by show 1 ≤ sizeLine; decide, fun wt nwt => ?_⟩
    have s6 : Same H5 (upd H5 r0 (.lst [])) := same_new nr0
    have s7 : Same (upd H5 r0 (.lst [])) (upd (upd H5 r0 (.lst [])) q0 (.tup [V.ref r0, .int 0, .ref x1, .ref x2])) := same_new nq0
    have s8 : Same (upd (upd H5 r0 (.lst [])) q0 (.tup [V.ref r0, .int 0, .ref x1, .ref x2])) (upd (upd (upd H5 r0 (.lst [])) q0 (.tup [V.ref r0, .int 0, .ref x1, .ref x2])) wt (.lst [V.ref q0])) := same_new nwt
    have hwt0 : H wt = none := (s5.trans (s6.trans s7)).free nwt
    have hwq : wt ≠ r0 := fun z => by
      subst z
      rw [s7 _ _ upd_same] at nwt
      cases nwt
    have SR : Srch P w K (upd (upd (upd H5 r0 (.lst [])) q0 (.tup [V.ref r0, .int 0, .ref x1, .ref x2])) wt (.lst [V.ref q0])) a b A B d wt [⟨q0, r0, x1, x2, 0, A.init, B.init⟩] := by
      refine ⟨upd_same, KN.same (s6.trans (s7.trans s8)), fun j n e => ?_⟩
      cases j with
      | succ j => simp at e
      | zero =>
        have e : (⟨q0, r0, x1, x2, 0, A.init, B.init⟩ : Nd) = n := by simpa using e
        subst e
        refine ⟨.of (s8 _ _ upd_same), R1.same (s6.trans (s7.trans s8)), R2.same (s6.trans (s7.trans s8)), ⟨[], (s7.trans s8) _ _ upd_same, Nat.le_refl _⟩, hwq.symm, Nat.le_refl _, .init, fun z hz => ?_, fun z hz => ?_⟩
        · cases hz
        · cases hz
    have s9 : Same H (upd (upd (upd H5 r0 (.lst [])) q0 (.tup [V.ref r0, .int 0, .ref x1, .ref x2])) wt (.lst [V.ref q0])) := s5.trans (s6.trans (s7.trans s8))
    revert SR s9
    generalize upd (upd (upd H5 r0 (.lst [])) q0 (.tup [V.ref r0, .int 0, .ref x1, .ref x2])) wt (.lst [V.ref q0]) = H6
    intro SR s9
    have hd0 := nd0
    clear KN R1 R2 s5 s6 s7 s8 h1 h2 g1 g2
    -- the loop
    refine ⟨fun m σ H' => ∃ k S o4 o5 o9 o10 o11 o12 o13 o14 o15, m = 19001 - k ∧ σ = [some (.ref a), some (.ref b), some (.ref c), some (.int 20000), o4, o5, some (.ref d), some (.ref wt), some (natV k), o9, o10, o11, o12, o13, o14, o15] ∧
      Same H H' ∧ Srch P w K H' a b A B d wt S ∧ k ≤ S.length ∧ keyOf (A.init (N := Str)) (B.init (N := Str)) ∈ S.map Nd.key ∧ Done A B x y S k, ⟨_, 0, _, _, _, _, _, _, _, _, _, _, rfl, rfl, s9, SR, Nat.zero_le _, by simp [Nd.key], fun j n hj => absurd hj (Nat.not_lt_zero _)⟩, ?_⟩
    clear SR s9 H6
    rintro m σ H7 ⟨k, S, o4, o5, o9, o10, o11, o12, o13, o14, o15, rfl, rfl, s7, SR, kS, k0, DN⟩
    have lS := SR.few GA GB hw.symm FW
    refine ⟨_, rfl, _, rfl, _, _, rfl, .inl ⟨_, .inl (.of SR.wl), rfl⟩, _, _, rfl, rfl, _, rfl, ?_⟩
    rw [List.length_map]
    refine ite2 (fun lt => ?_) (fun ge => ?_)
    rotate_left
    · have ge : S.length = k := by
        have := of_decide_eq_false (by simpa using ge : decide ((k : Int) < (S.length : Int)) = false)
        omega
      exact noK (Done.noway SR GA GB hw.symm FW k0 (by rw [ge]; exact DN)) _ s7
    have lt : k < S.length := by
      have := of_decide_eq_true lt
      omega
    obtain ⟨n, hn⟩ : ∃ n, S[k]? = some n := ⟨_, List.getElem?_eq_getElem lt⟩
    have o := SR.ok k n hn
    refine ⟨fun σ' H' => ∃ S o11 o12 o13 o14 o15, σ' = [some (.ref a), some (.ref b), some (.ref c), some (.int 20000), some (.ref n.r1), some (.ref n.r2), some (.ref d), some (.ref wt), some (natV (k + 1)), some (.ref n.r), some (natV n.m), o11, o12, o13, o14, o15] ∧
      Mid P w K H H' a b A B x y d wt k (k + 1) n S, fun σ' H' ⟨S', _, _, _, _, _, e, M⟩ => ⟨19001 - (k + 1), by omega, k + 1, S', _, _, _, _, _, _, _, _, _, rfl, e, M.s, M.sr, (List.getElem?_eq_some_iff.mp M.at_).1, M.k0, M.dn⟩, ?_⟩
    refine ⟨_, rfl, _, rfl, wt, _, (k : Int), V.ref n.p, rfl, rfl, .of SR.wl, atI_nat (by rw [List.getElem?_map, hn] <;> rfl), ?_⟩
    refine ⟨n.p, _, rfl, o.tp, rfl, _, _, rfl, _, _, rfl, _, _, rfl, _, _, rfl, rfl, ?_⟩
    refine ⟨_, rfl, _, _, rfl, rfl, ?_⟩
    obtain ⟨dx1, v1, i1, _⟩ := o.r1.ex
    obtain ⟨dx2, v2, i2, _⟩ := o.r2.ex
    obtain ⟨va, vb⟩ := o.re.val GA GB hw.symm
    refine ⟨_, rfl, n.r1, dx1, _, rfl, i1, fs_no (by decide +kernel), n.r1, a, A, n.s, rfl, o.r1, BA.same s7, va.ok, ?_⟩
    refine ⟨_, rfl, n.r2, dx2, _, rfl, i2, fs_no (by decide +kernel), n.r2, b, B, n.t, rfl, o.r2, BB.same s7, vb.ok, by show 2 ≤ sizeLine; decide, fun q nq => ?_⟩
    have s8 : Same H7 (upd H7 q (.tup [V.bl (A.yes n.s.1), .bl (B.yes n.t.1)])) := same_new nq
    refine ⟨_, rfl, c, _, rfl, .inr ⟨sameT (s7.trans s8) tc, ?_⟩⟩
    refine ⟨_, _, dp_two (.of upd_same), dp_two (sameT (s7.trans s8) tc), shaped_two _ _, shaped_two _ _, _, rfl, ?_⟩
    rw [eqv_two]
    refine ite2 (fun yes => ?_) (fun no => ?_)
    · exact ⟨_, rfl, yesK ⟨_, _, o.re, (of_decide_eq_true yes).1, (of_decide_eq_true yes).2⟩ _ _ (s7.trans s8)⟩
    have no : ¬ (A.yes n.s.1 = x ∧ B.yes n.t.1 = y) := fun z => no (decide_eq_true z)
    have e1 : decide ((20000 : Int) < (k : Int) + 1) = false := decide_eq_false (by omega)
    refine ⟨_, rfl, _, rfl, _, _, rfl, rfl, false, congrArg V.bl e1, iteF ?_⟩
    have M0 : Mid P w K H (upd H7 q (.tup [V.bl (A.yes n.s.1), .bl (B.yes n.t.1)])) a b A B x y d wt k k n S := ⟨s7.trans s8, SR.same s8, hn, k0, DN⟩
    revert M0
    generalize upd H7 q (.tup [V.bl (A.yes n.s.1), .bl (B.yes n.t.1)]) = H8
    intro M0
    clear s8 nq i1 i2 o SR s7 DN k0
    obtain ⟨dx, tw, tp, dk, dt, kk, tt, h1, h2, h3, h4, h5, h6⟩ := id (BA.same M0.s).ex
    obtain ⟨dxa, twa, tpa, dka, dta, kka, tta, ha1, ha2, _⟩ := id BA.ex
    refine ⟨_, rfl, a, _, dxa, _, _, rfl, M0.s _ _ ha1, T.cls_Book, T.a_Book_words, bookFs_words, twa, rfl, ⟨_, sameT M0.s ha2⟩, ?_⟩
    refine for_tup (K := K) (a := twa) (xs := A.words.map V.str) (fun i σ' H' => ∃ S o11 o12 o13 o14 o15, σ' = [some (.ref a), some (.ref b), some (.ref c), some (.int 20000), some (.ref n.r1), some (.ref n.r2), some (.ref d), some (.ref wt), some (natV (k + 1)), some (.ref n.r), some (natV n.m), o11, o12, o13, o14, o15] ∧
      Mid P w K H H' a b A B x y d wt k k n S ∧ ∀ i', i' < i → ∀ wd, A.words[i']? = some wd → ∀ j, 1 ≤ j → j ≤ n.m + 1 → Cov A B S n wd j) ⟨S, _, _, _, _, _, rfl, M0, fun i' h => absurd h (Nat.not_lt_zero _)⟩ (fun i σ' H' _ ⟨_, _, _, _, _, _, _, M, _⟩ => sameT M.s ha2) ?_ ?_
    rotate_left
    · rintro σ' H9 ⟨S9, p1, p2, p3, p4, p5, e, M9, cov⟩
      refine ⟨S9, p1, p2, p3, p4, p5, e, M9.s, M9.sr, M9.at_, M9.k0, fun j m hj ej => ?_⟩
      by_cases hjk : j < k
      · exact M9.dn j m hjk ej
      · have : j = k := by omega
        subst this
        rw [M9.at_] at ej
        cases ej
        refine ⟨no, fun wd hwd i a1 a2 => ?_⟩
        obtain ⟨i', hi'⟩ := List.mem_iff_getElem?.mp hwd
        refine cov i' ?_ wd hi' i a1 a2
        rw [List.length_map]
        exact (List.getElem?_eq_some_iff.mp hi').1
    rintro i xw σ' H9 hx ⟨S9, p1, p2, p3, p4, p5, rfl, M9, cov⟩
    rw [List.getElem?_map] at hx
    obtain ⟨wd, hwd, rfl⟩ := Option.map_eq_some_iff.mp hx
    have wdm : wd ∈ A.words := List.mem_of_getElem? hwd
    clear M0 hx
    have mk : n.m ≤ 19000 := by
      have := (M9.sr.ok k n M9.at_).m
      have := M9.sr.few GA GB hw.symm FW
      have := (List.getElem?_eq_some_iff.mp M9.at_).1
      omega
    refine ⟨_, rfl, _, _, rfl, rfl, 1, (n.m : Int) + 2, rfl, ⟨by decide, by decide, by omega, by omega⟩, ?_⟩
    have e2 : ((n.m : Int) + 2 - 1).toNat = n.m + 1 := by omega
    rw [e2]
    refine for_range (fun j σ' H' => ∃ S o12 o13 o14 o15, σ' = [some (.ref a), some (.ref b), some (.ref c), some (.int 20000), some (.ref n.r1), some (.ref n.r2), some (.ref d), some (.ref wt), some (natV (k + 1)), some (.ref n.r), some (natV n.m), some (.str wd), o12, o13, o14, o15] ∧
      Mid P w K H H' a b A B x y d wt k k n S ∧ (∀ i', i' < i → ∀ wd, A.words[i']? = some wd → ∀ j, 1 ≤ j → j ≤ n.m + 1 → Cov A B S n wd j) ∧ ∀ j', 1 ≤ j' → j' ≤ j → Cov A B S n wd j') ⟨S9, _, _, _, _, rfl, M9, cov, fun j' a b => by omega⟩ ?_ ?_
    rotate_left
    · rintro σ' H10 ⟨S10, q2, q3, q4, q5, e, M10, c1, c2⟩
      refine ⟨S10, _, q2, q3, q4, q5, e, M10, fun i' hi' wd' hwd' j a1 a2 => ?_⟩
      by_cases hii : i' < i
      · exact c1 i' hii wd' hwd' j a1 a2
      · have : i' = i := by omega
        subst this
        rw [hwd] at hwd'
        cases hwd'
        exact c2 j a1 a2
    clear cov M9
    rintro j σ' H10 hj ⟨S10, q2, q3, q4, q5, rfl, M10, c1, c2⟩
    have o := M10.sr.ok k n M10.at_
    obtain ⟨va, vb⟩ := o.re.val GA GB hw.symm
    obtain ⟨dx1, v1, i1, _⟩ := o.r1.ex
    obtain ⟨dx2, v2, i2, _⟩ := o.r2.ex
    have l10 := M10.sr.few GA GB hw.symm FW
    have e3 : (1 : Int) + ((j : Nat) : Int) = ((j + 1 : Nat) : Int) := by omega
    rw [e3]
    refine ⟨_, rfl, by show 1 ≤ sizeLine; decide, _, rfl, .inr ⟨_, rfl, num_log (by omega), _, rfl, nm_len (by omega), ?_⟩⟩
    rw [show (Str.empty ++ ("a" : Str) ++ Str.ofString (toString ((j + 1 : Nat) : Int))) = nm (j + 1) from rfl]
    refine ⟨_, rfl, n.r1, dx1, _, rfl, i1, fs_no (by decide +kernel), _, rfl, _, rfl, n.r1, a, A, n.s, wd, nm (j + 1), rfl, o.r1, BA.same M10.s, GA, va, wdm, fun l1 H11 s11 L1 => ?_⟩
    refine ⟨_, rfl, n.r2, dx2, _, rfl, s11 _ _ i2, fs_no (by decide +kernel), _, rfl, _, rfl, n.r2, b, B, n.t, wd, nm (j + 1), rfl, o.r2.same s11, BB.same (M10.s.trans s11), GB, vb, hw ▸ wdm, fun l2 H12 s12 L2 => ?_⟩
    have M12 := M10.same (s11.trans s12)
    have L1 := L1.same s12
    clear o i1 i2 M10 s11 s12
    have v1' := va.step GA wdm (nm (j + 1))
    have v2' := vb.step GB (hw ▸ wdm) (nm (j + 1))
    have b1 : (A.step n.s wd (nm (j + 1))).2.length ≤ 6 := by
      rw [v1'.len]
      exact GA.sm _ v1'.ok
    have b2 : (B.step n.t wd (nm (j + 1))).2.length ≤ 6 := by
      rw [v2'.len]
      exact GB.sm _ v2'.ok
    refine ⟨_, rfl, _, rfl, l1, l2, a, b, _, _, rfl, L1, L2, b1, b2, fun v H13 s13 kT => ?_⟩
    obtain ⟨ka, kv3, rfl, kt1, kt2⟩ := id kT
    have M13 := M12.same s13
    have L1 := L1.same s13
    have L2 := L2.same s13
    clear M12 s13
    refine ⟨_, rfl, d, _, ka, _, rfl, rfl, M13.sr.kn, kT, _, rfl, ?_⟩
    refine ite2 (fun new => ?_) (fun old => ?_)
    rotate_left
    · refine ⟨S10, _, _, _, _, rfl, M13, c1, fun j' a1 a2 => ?_⟩
      by_cases hjj : j' ≤ j
      · exact c2 j' a1 hjj
      · have : j' = j + 1 := by omega
        subst this
        unfold Cov
        exact Classical.byContradiction fun z => old (by rw [decide_eq_false z]; rfl)
    have new : keyOf (A.step n.s wd (nm (j + 1))) (B.step n.t wd (nm (j + 1))) ∉ S10.map Nd.key := fun z => by
      rw [decide_eq_true z] at new
      cases new
    have l13 := M13.sr.few GA GB hw.symm FW
    have hd0' : H d = none := hd0
    refine ⟨_, rfl, _, rfl, _, rfl, l1, l2, a, b, _, _, rfl, L1, L2, b1, b2, fun v H14 s14 kT => ?_⟩
    obtain ⟨kb, kv4, rfl, _, _⟩ := id kT
    have M14 := M13.same s14
    have L1 := L1.same s14
    have L2 := L2.same s14
    obtain ⟨xs0, hx0, _⟩ := M14.sr.kn.ex
    refine ⟨d, _, kb, _, rfl, rfl, M14.sr.kn, kT, new, by rw [List.length_map]; omega, fun o' KN => ?_⟩
    have kr : KeepR wt H14 (upd H14 d o') := .ext hx0
    have s15 : Same H (upd H14 d o') := same_mut M14.s hd0'
    have nwd : wt ≠ d := by
      rintro rfl
      rw [M14.sr.wl] at hx0
      cases hx0
    have wl : (upd H14 d o') wt = some (.lst (S10.map fun n => V.ref n.p)) := by
      rw [upd_ne nwd]
      exact M14.sr.wl
    have ok : ∀ j n, S10[j]? = some n → NdOk K (upd H14 d o') a b A B wt j n := fun j n e => (M14.sr.ok j n e).keep kr
    have L1 := L1.keep kr.k
    have L2 := L2.keep kr.k
    obtain ⟨at14, k014, dn14⟩ := (⟨M14.at_, M14.k0, M14.dn⟩ : _ ∧ _ ∧ _)
    revert KN s15 wl ok L1 L2
    generalize upd H14 d o' = H15
    intro KN s15 wl ok L1 L2
    have on := ok k n at14
    obtain ⟨rx, hrx, lrx⟩ := on.row
    have lk := (List.getElem?_eq_some_iff.mp at14).1
    -- the new entry
    refine ⟨_, rfl, .inl ⟨rfl, _, .of wl⟩, ?_⟩
    refine ⟨_, rfl, _, rfl, _, rfl, by show 2 ≤ sizeLine; decide, fun t1 nt1 => ⟨by show 1 ≤ sizeLine; decide, fun l0 nl0 => ?_⟩⟩
    have s16 : Same H15 (upd H15 t1 (.tup [V.str wd, .str (nm (j + 1))])) := same_new nt1
    have s17 : Same (upd H15 t1 (.tup [V.str wd, .str (nm (j + 1))])) (upd (upd H15 t1 (.tup [V.str wd, .str (nm (j + 1))])) l0 (.lst [.ref t1])) := same_new nl0
    have s18 := s16.trans s17
    refine ⟨n.r, l0, rx, [.ref t1], rfl, rfl, s18 _ _ hrx, upd_same, le_line (by show rx.length + 1 ≤ 100000; omega), fun r' nr' => ?_⟩
    have s19 : Same H15 (upd (upd (upd H15 t1 (.tup [V.str wd, .str (nm (j + 1))])) l0 (.lst [.ref t1])) r' (.lst (rx ++ [.ref t1]))) := s18.trans (same_new nr')
    have hr' : (upd (upd (upd H15 t1 (.tup [V.str wd, .str (nm (j + 1))])) l0 (.lst [.ref t1])) r' (.lst (rx ++ [.ref t1]))) r' = some (.lst (rx ++ [.ref t1])) := upd_same
    have rwt : r' ≠ wt := fun z => by
      subst z
      rw [s18 _ _ wl] at nr'
      cases nr'
    revert s19 hr'
    generalize upd (upd (upd H15 t1 (.tup [V.str wd, .str (nm (j + 1))])) l0 (.lst [.ref t1])) r' (.lst (rx ++ [.ref t1])) = H16
    intro s19 hr'
    refine ⟨_, rfl, _, rfl, _, _, rfl, ?_⟩
    have emx : (if (((j + 1 : Nat) : Int)) > ((n.m : Nat) : Int) then (((j + 1 : Nat) : Int)) else ((n.m : Nat) : Int)) = ((max n.m (j + 1) : Nat) : Int) := by
      split <;> omega
    rw [emx]
    refine ⟨_, rfl, _, rfl, by show 4 ≤ sizeLine; decide, fun p' np' => ?_⟩
    have s20 : Same H16 (upd H16 p' (.tup [V.ref r', natV (max n.m (j + 1)), .ref l1, .ref l2])) := same_new np'
    have s21 := s19.trans s20
    refine ⟨wt, _, _, rfl, rfl, s21 _ _ wl, lt_line (by rw [List.length_map]; omega), ?_⟩
    have wl' := s21 _ _ wl
    have k22 : KeepR wt (upd H16 p' (.tup [V.ref r', natV (max n.m (j + 1)), .ref l1, .ref l2])) (upd (upd H16 p' (.tup [V.ref r', natV (max n.m (j + 1)), .ref l1, .ref l2])) wt (.lst (S10.map (fun n => V.ref n.p) ++ [.ref p']))) := .wt wl'
    have k23 := (KeepR.same (wt := wt) s21).trans k22
    have hwt : H wt = none := hwt0
    refine ⟨S10 ++ [⟨p', r', l1, l2, max n.m (j + 1), A.step n.s wd (nm (j + 1)), B.step n.t wd (nm (j + 1))⟩], _, _, _, _, rfl, ⟨same_mut (s15.trans s21) hwt, ⟨?_, ?_, ?_⟩, ?_, ?_, ?_⟩, ?_, ?_⟩
    · rw [upd_same, List.map_append]
      rfl
    · rw [List.map_append]
      obtain ⟨ys, z1, z2, z3⟩ := KN.ex
      have ned : d ≠ wt := by
        rintro rfl
        rw [wl] at z1
        cases z1
      exact ⟨⟨ys, by rw [upd_ne ned]; exact s21 _ _ z1, z2, paired_imp z3 fun _ _ q => ⟨q.1, q.2.keep k23.k⟩⟩, KN.nd⟩
    · intro j2 m2 e2
      rcases Nat.lt_or_ge j2 S10.length with hlt | hge
      · rw [List.getElem?_append_left hlt] at e2
        exact (ok j2 m2 e2).keep k23
      · rw [List.getElem?_append_right hge] at e2
        have hz : j2 - S10.length = 0 := by
          have := (List.getElem?_eq_some_iff.mp e2).1
          simp at this
          omega
        rw [hz] at e2
        have e2 : (⟨p', r', l1, l2, max n.m (j + 1), A.step n.s wd (nm (j + 1)), B.step n.t wd (nm (j + 1))⟩ : Nd) = m2 := by simpa using e2
        subst e2
        have hj2 : j2 = S10.length := by omega
        subst hj2
        have onm := on.m
        refine ⟨keepT k22.k (.of upd_same), L1.keep k23.k, L2.keep k23.k, ⟨_, ((KeepR.same (wt := wt) s20).trans k22).l _ _ rwt hr', ?_⟩, rwt, ?_, on.re.step wd _ wdm, on.n1.step (by omega), on.n2.step (by omega)⟩
        · rw [List.length_append]
          show rx.length + 1 ≤ _
          omega
        · show max n.m (j + 1) ≤ _
          omega
    · rw [List.getElem?_append_left lk]
      exact at14
    · rw [List.map_append]
      exact List.mem_append_left _ k014
    · exact dn14.app (Nat.le_of_lt lk)
    · exact fun i' hi' wd' hwd' j a1 a2 => (c1 i' hi' wd' hwd' j a1 a2).app
    · intro j' a1 a2
      by_cases hjj : j' ≤ j
      · exact (c2 j' a1 hjj).app
      · have : j' = j + 1 := by omega
        subst this
        unfold Cov
        rw [List.map_append]
        exact List.mem_append_right _ (by simp [Nd.key])
end
end Fw

/-! A list comprehension whose element calls what may raise. -/
namespace Fw
open PySem PySem.Spec PyProof.Rows L2
/-- the block of a comprehension, with its own way of raises -/
abbrev blkX (X : Cx) (s : Shared) (H : Hp) (scope : Scope) (cenv : Env) (fp : List Addr) (xe : Value → Shared → Prop) : Cx := { X with s_0 := s, H_0 := H, env := cenv, outer := X.stack, ex := fp, fn := fun x => scope.names.lookup x == some .cell, pn := [], xe := xe }
section
variable {X : Cx} {pins pins' : List (Addr × Obj)} {σ σ' : L2.St} {H H3 : Hp} {s s3 s' : Shared} {E : XK} {scope : Scope} {ce : Env} {fp : List Addr} {xe : Value → Shared → Prop}
theorem inv_blkX (I : Inv (X.blk s3 H3 scope ce fp) pins σ H s) : Inv (blkX X s3 H3 scope ce fp xe) pins σ H s :=
  ⟨⟨I.ok.mod, I.ok.kind, I.ok.glob, I.ok.blt, I.ok.above, I.ok.inj, I.ok.has, I.ok.cab, I.ok.hd, I.ok.frames, I.ok.stk, I.ok.exf, I.ok.bs, I.ok.bsz, I.ok.noex, I.ok.exfs, I.ok.funs, I.ok.frf⟩, I.os, I.bare, I.base, I.loc, I.cell, I.free, I.freeC, I.pin, I.hok, I.len⟩
theorem noteFrame_envF (e : Value) {cenv env : Env} (h : cenv.frame = env.frame) : noteFrame e cenv = noteFrame e env := by
  unfold noteFrame PySem.frameOf
  rw [h]
theorem stay_ns {h h' : Heap} {L : Addr} {m : Str → Option Value} (hn : h.Ns L m) (e : h'.get? L = h.get? L) : h'.Ns L m := by
  obtain ⟨o, es, ep, ho, r⟩ := hn
  exact ⟨o, es, ep, e.trans ho, r⟩
theorem fun_less {B B' : Heap} (hB : ∀ b, B.get? b = none → B'.get? b = none) : ∀ {l : List Env} {h h' : Heap}, (∀ b o, h.get? b = some o → B.get? b = none → (∀ vs, o.data ≠ .fields vs) → h'.get? b = some o) → h.FunFrames B l → h'.FunFrames B' l
  | [], _, _, _, _ => trivial
  | env :: l, h, h', k, ⟨a, ⟨L, o, hf, hn, ho, hd⟩, r⟩ => ⟨a, ⟨L, o, hf, hB L hn, k L o ho hn hd, hd⟩, fun_less hB k r⟩
/-- an exception out of the block reaches the def -/
theorem comp_passes {C : Addr} (I3 : Inv X pins σ H3 s3) (tk : Takes X (fun cls d _ H => E cls d H)) (hst : X.stack = X.env :: X.outer) (hf : X.env.frame = some X.env.locals) (hC : C = s3.heap.objs.size) (cL : ce.locals = C) (cF : ce.frame = X.env.frame)
    (hch : ∀ b ∈ fp, (b ∈ X.ex ∨ X.s_0.heap.objs.size ≤ b) ∧ b ≠ X.env.locals ∧ (∀ x c, X.env.cells.lookup x = some c → c ≠ b) ∧ ∀ p ∈ X.pn ++ pins, p.1 ≠ b) (hfp : ∀ b ∈ fp, b < s3.heap.objs.size) :
    Passes (L2.CX X.prog X.w) (blkX X s3 H3 scope ce fp (notedBy (model X.prog X.w) X.A ce (CompFails (model X.prog X.w) X.A X.xe ce))) E := by
  intro pins' σ' H' s e s' I c
  obtain ⟨a, B, H2, cls, d, rfl, fl, hok, ub, na, os, ag, hE⟩ := c
  have hfr : X.A.frames = some (X.env :: X.outer) := by rw [I3.ok.frames, hst]
  have hce : ce.frame = some X.env.locals := cF.trans hf
  obtain ⟨m, hn, _⟩ := id I.loc
  have hn : s.heap.Ns ce.locals m := hn
  rw [cL] at hn
  have hHC : H' C = none := by
    have z : H' ce.locals = none := I.free
    rw [cL] at z
    exact z
  have hCf : C ∉ frs X.stack := fun hb => by
    obtain ⟨_, o', e', _⟩ := I3.stack.mem hb
    have := Heap.lt_size e'
    rw [hC] at this
    exact absurd this (Nat.lt_irrefl _)
  obtain ⟨oC, hoC⟩ : ∃ o, s.heap.get? C = some o := let ⟨o, _, _, ho, _⟩ := hn; ⟨o, ho⟩
  have hBC : B.get? C = some oC := ub.keep C oC hoC hHC hCf
  have hBn : B.Ns C m := stay_ns hn (hBC.trans hoC.symm)
  have hH2C : H2 C = none := ub.free C oC hoC hHC
  -- the ground of the def: without the block
  obtain ⟨B', b1, b2⟩ := restrict B fun b => decide (b ≠ C)
  have bB : ∀ b o, B'.get? b = some o → B.get? b = some o ∧ b ≠ C := fun b o q => by
    by_cases hb : b = C
    · rw [b2 b (by simp [hb])] at q
      cases q
    · rw [b1 b (by simp [hb])] at q
      exact ⟨q, hb⟩
  have bB' : ∀ b o, b ≠ C → B.get? b = some o → B'.get? b = some o := fun b o hb q => by
    rw [b1 b (by simp [hb])]
    exact q
  have bN : ∀ b, B.get? b = none → B'.get? b = none := fun b q => by
    cases z : B'.get? b with
    | none => rfl
    | some o =>
      rw [(bB b o z).1] at q
      cases q
  obtain ⟨G, g1, g2⟩ := restrict s'.heap fun b => decide (b ≠ C) && ((B.get? b).isSome || decide (b ∈ frs X.stack))
  have st : B.StaysIn s'.heap := fl.1
  have gB : ∀ b o, b ≠ C → B.get? b = some o → G.get? b = some o := fun b o hb q => by
    rw [g1 b (by simp [q, hb])]
    exact st b o q
  have gF : ∀ b, b ∈ frs X.stack → G.get? b = s'.heap.get? b := fun b hb => g1 b (by
    have : b ≠ C := fun z => hCf (z ▸ hb)
    simp [hb, this])
  have og : ∀ b o, G.get? b = some o → s'.heap.get? b = some o ∧ b ≠ C ∧ ((B.get? b).isSome = true ∨ b ∈ frs X.stack) := fun b o q => by
    cases z : (decide (b ≠ C) && ((B.get? b).isSome || decide (b ∈ frs X.stack))) with
    | false =>
      rw [g2 b z] at q
      cases q
    | true =>
      rw [g1 b z] at q
      rw [Bool.and_eq_true] at z
      exact ⟨q, of_decide_eq_true z.1, by simpa [Bool.or_eq_true] using z.2⟩
  have ne3 : ∀ b o, s3.heap.get? b = some o → b ≠ C := fun b o q z => by
    have := Heap.lt_size q
    rw [z, hC] at this
    exact absurd this (Nat.lt_irrefl _)
  have ib : Un (frs X.stack) fp H3 H' s3.heap s.heap := I.base
  have u : Un (frs X.stack) fp H3 H2 s3.heap G := by
    refine ⟨fun b o q n hb hx => gB b o (ne3 b o q) (ub.keep b o (ib.keep b o q n hb hx) (ib.free b o q n hx) hb), fun b o q n hb hx => ?_, fun b o q n hx => ?_, fun b o q hx => ?_, fun b xs q => ub.tups b xs (ib.tups b xs q), fun b o v q => ub.frzs b o v (ib.frzs b o v q), fun b ps q => ?_⟩
    · obtain ⟨sl, q1⟩ := ib.slot b o q n hb hx
      obtain ⟨sl2, q2⟩ := ub.slot b _ q1 hb
      exact ⟨sl2, by rw [gF b hb]; exact q2⟩
    · obtain ⟨sl, q1⟩ := ib.any q n hx
      exact ub.free b _ q1 (ib.free b o q n hx)
    · obtain ⟨o1, q1⟩ := ib.there b o q hx
      by_cases hb : b ∈ frs X.stack
      · obtain ⟨sl2, q2⟩ := ub.slot b _ q1 hb
        exact ⟨_, by rw [gF b hb]; exact q2⟩
      · obtain ⟨o2, q2⟩ := ub.there b o1 q1 hb
        exact ⟨o2, gB b o2 (ne3 b o q) q2⟩
    · obtain ⟨more, q1⟩ := ib.tbls b ps q
      obtain ⟨more2, q2⟩ := ub.tbls b _ q1
      exact ⟨more ++ more2, by rw [q2, Array.append_assoc]⟩
  have hokG : HOk X.prog X.w H2 G := fun b o q => (hok b o q).stay (fun c v hc r => gB c v (fun z => by
    subst z
    rcases hc with hc | hc
    · rw [← hc, hH2C] at q
      cases q
    · rw [hH2C] at hc
      cases hc) r) (fun _ r => r) fun _ _ r => r
  have J : Inv X pins σ H2 { s3 with heap := G, gens := s'.gens, drawn := s'.drawn, toks := s'.toks } := I3.call (ch := fp) u hokG ag hch
  -- noted
  show wpAny _ _ (noteFrame (.ref a) ce) _ _ _
  have fl' : HandSPX.FlyingZ B (X.env :: X.outer) a (Zc cls d) s'.heap := by
    have z : HandSPX.FlyingZ B X.stack a (Zc cls d) s'.heap := fl
    rw [hst] at z
    exact z
  rw [noteFrame_envF (.ref a) cF]
  refine HandSPX.looks_onZ Zc.steady hfr hf fl' fun h1 hd1 up1 => ?_
  obtain ⟨k1, k2, k3, oe, vs, T, oT, ts, he, hz, hd, hv1, hnT, hTe, hT, hdT, h3⟩ := hd1
  have n1 : h1.Ns C m := stay_ns hBn ((k1 C oC hBC).trans hBC.symm)
  refine ⟨m, by rw [cL]; exact n1, fun h2 m' hn' sb => ?_⟩
  rw [cL] at sb
  have sb2 := sb.2
  have aC : a ≠ C := fun z => by
    rw [z, hBC] at k2
    cases k2
  have TC : T ≠ C := fun z => by
    rw [z, hBC] at hnT
    cases hnT
  have x1 : B'.StaysIn h2 := fun b o q => by
    obtain ⟨q1, q2⟩ := bB b o q
    exact (sb2 b q2).trans (k1 b o q1)
  have x2 : h2.FunFrames B' (X.env :: X.outer) := fun_less bN (fun b o q n _ => (sb2 b (fun z => by
    rw [z, hBC] at n
    cases n)).trans q) k3
  have x3 : HandSPX.TracedZ h2 B' a (Zc cls d) (rawInt X.env.locals) := ⟨oe, vs, T, oT, ts, (sb2 a aC).trans he, hz, hd, hv1, bN T hnT, hTe, (sb2 T TC).trans hT, hdT, h3⟩
  unfold PySem.passOn
  refine wpAny_bind (wpAny_field ((sb2 a aC).trans he) hd hv1 ?_)
  rw [if_neg (show ¬ ((Value.ref T == Value.none) = true) from by simp)]
  rw [hce]
  refine wpAny_bind (HandSPX.setFlight_anyZ (l := X.env :: X.outer) x1 x2 x3 fun h4 y1 y2 y3 y4 => ?_)
  refine wpAny_throw (tk _ _ ?_)
  have y3 : HandSPX.TracedZ h4 B' a (Zc cls d) (rawInt X.env.locals) := y3
  refine ⟨a, B', _, pins, σ, H2, cls, d, rfl, J, fun b o q hb => ?_, fun b o q hnf => ?_, .inr (.inr ⟨y1, bN a k2, by rw [hst]; exact y2, y3⟩), na, ?_, ag, hE⟩
  · obtain ⟨q1, q2, q3⟩ := og b o q
    rcases q3 with q3 | q3
    · obtain ⟨o', q4⟩ := Option.isSome_iff_exists.mp q3
      have z := st b o' q4
      rw [q1] at z
      cases z
      exact bB' b o q2 q4
    · exact absurd q3 hb
  · obtain ⟨q1, q2, q3⟩ := og b o q
    obtain ⟨sl1, r1⟩ := up1 b o q1 hnf
    obtain ⟨sl2, r2⟩ := y4 b _ ((sb2 b q2).trans r1) hnf
    exact ⟨sl2, r2⟩
  · show s'.os = s3.os
    have := I.os
    exact os.trans this
end
/-- [elt for target in iter], the first element's own call raises -/
def tLcR (wi : TI) (g : TG) (te : TE) (vs : List Nat) : TE := fun σ H _ => wi σ H fun J H1 => ∀ D, H1 D = none → J.go 0 (upd H1 D (.lst [])) ∧ ∀ x H', J.yld 0 (upd H1 D (.lst [])) x H' → g x (wipe σ vs) H' fun σ2 H2 => te σ2 H2 fun _ _ => False
section
variable {X : Cx} {E : XK}
theorem pe_lcR {elt tg iter : Expr} {scope : Scope} {own : List (Str × Nat)} {pos : Pos} {wi : TI} {g : TG} {te : TE} (hc : X.calm = true) (hN : X.N.Nodup) (hi : PI X tg iter wi) (ok : BlkOk X.N X.env.scope scope own)
    (tk : Takes X (fun cls d _ H => E cls d H)) (hst : X.stack = X.env :: X.outer) (hf : X.env.frame = some X.env.locals)
    (hg : ∀ (s : Shared) (H : Hp) (C : Addr) (cl : List (Str × Addr)) (fp : List Addr) (xe : Value → Shared → Prop), PG (blkX X s H scope (compEnvC scope cl C X.env) fp xe) tg g)
    (he : ∀ (s : Shared) (H : Hp) (C : Addr) (cl : List (Str × Addr)) (fp : List Addr) (xe : Value → Shared → Prop), Passes (L2.CX X.prog X.w) (blkX X s H scope (compEnvC scope cl C X.env) fp xe) E → PE (blkX X s H scope (compEnvC scope cl C X.env) fp xe) elt te)
    (hs : ∀ x, foldedSetIterable iter X.env x = pure x := by intro _; rfl) : PE X (.ListComp elt [⟨tg, iter, [], 0⟩] scope pos) (tLcR wi g te (own.map (·.2))) := by
  refine ⟨fun pins s σ H Q I h => ?_⟩
  rw [eval_ListComp]
  have hfree : ∀ y ∈ scope.names, y.2 = .free → ∃ c, X.env.cells.lookup y.1 = some c := fun y hy e => (ok.free y hy e).elim (fun k => I.ok.has _ (.inl k)) fun k => I.ok.has _ (.inr k)
  refine comprehension_at (use := none) rfl hs (closure_ok hfree) ok.kind (fun y hy e => by rw [ok.uniq y hy, e]) (thn (hi.run pins s σ H _ I h) fun xv s1 hx => thn hx fun itv s2 h2 => ?_)
  obtain ⟨it, fp, tn, J, H2, e, I2, T, st2, f2, q⟩ := h2
  subst e
  refine wpAny_newObj_type (newEnv_comp ?_) (by show 0 ≤ sizeLine; decide)
  generalize hD : s2.heap.objs.size = D
  obtain ⟨go, step⟩ := q D (I2.hok.fresh (Nat.le_of_eq hD))
  generalize hs3 : ({ s2 with heap := s2.heap.push { cls := .type "list", data := .seq ([] : List Value).toArray } } : Shared) = s3
  have h3 : s3.heap = s2.heap.push { cls := .type "list", data := .seq ([] : List Value).toArray } := by rw [← hs3]
  have I3 : Inv X pins σ (upd H2 D (.lst [])) s3 := by
    rw [← hs3]
    exact I2.laid (t' := s2.toks) (fun b o e => Heap.get?_push_of_some _ e) (Nat.le_of_eq hD) ⟨Nat.zero_le _, [], 0, .nil, by rw [← hD]; exact Heap.get?_push_size _ rfl⟩
  have f3 : ∀ b ∈ fp, FpOk X pins (upd H2 D (.lst [])) b ∧ b < s3.heap.objs.size := fun b hb => by
    obtain ⟨o, e, _⟩ := T.obj _ _ st2 b hb
    have hlt := Heap.lt_size e
    exact ⟨⟨by rw [upd_ne (by rw [← hD]; exact Nat.ne_of_lt hlt)]; exact (f2 b hb).1, (f2 b hb).2⟩, by rw [h3, Heap.size_push]; exact Nat.lt_succ_of_lt hlt⟩
  have st3 : tn 0 s3.heap := T.keep _ _ _ st2 fun b _ o e => by rw [h3]; exact Heap.get?_push_of_some _ e
  have I4 := block_start I3 ok hN f3
  have nfp : ∀ b ∈ fp, (upd H2 D (.lst [])) b = none := fun b hb => (f3 b hb).1.1
  show codeAny _ _ (.compStart (.ListComp elt [⟨tg, iter, [], 0⟩] scope pos) 0 (.ref it) (.ref D) (compEnvC scope (cellsFrom (s3.heap.objs.size + 1) scope.names (cloFrom X.env.cells scope.names [])) s3.heap.objs.size X.env))
    (compEnds (model X.prog X.w) X.A X.xe none _ (.ref D) (compEnvC scope (cellsFrom (s3.heap.objs.size + 1) scope.names (cloFrom X.env.cells scope.names [])) s3.heap.objs.size X.env)) { s3 with heap := pushCells (s3.heap.push { cls := .type "dict", data := .dict #[] }) scope.names }
  have pg := hg s3 (upd H2 D (.lst [])) s3.heap.objs.size (cellsFrom (s3.heap.objs.size + 1) scope.names (cloFrom X.env.cells scope.names [])) fp
  have pe := he s3 (upd H2 D (.lst [])) s3.heap.objs.size (cellsFrom (s3.heap.objs.size + 1) scope.names (cloFrom X.env.cells scope.names [])) fp _
    (comp_passes (C := s3.heap.objs.size) I3 tk hst hf rfl rfl rfl (fun b hb => ⟨(f3 b hb).1.2.2.2.1, (f3 b hb).1.2.1, (f3 b hb).1.2.2.2.2.1, (f3 b hb).1.2.2.2.2.2⟩) fun b hb => (f3 b hb).2)
  generalize hce : compEnvC scope (cellsFrom (s3.heap.objs.size + 1) scope.names (cloFrom X.env.cells scope.names [])) s3.heap.objs.size X.env = ce at I4 pg pe ⊢
  generalize hH3 : upd H2 D (.lst []) = H3 at I3 I4 pg pe nfp f3 go step
  generalize hs4 : ({ s3 with heap := pushCells (s3.heap.push { cls := .type "dict", data := .dict #[] }) scope.names } : Shared) = s4 at I4 ⊢
  have st4 : tn 0 s4.heap := T.keep _ _ _ st3 fun b _ o e => by rw [← hs4]; exact pushCells_keeps _ _ _ _ (Heap.get?_push_of_some _ e)
  have I5 : Inv (blkX X s3 H3 scope ce fp (notedBy (model X.prog X.w) X.A ce (CompFails (model X.prog X.w) X.A X.xe ce))) [] (wipe σ (own.map (·.2))) H3 s4 := inv_blkX I4
  have stat : ∀ {σ' : L2.St} {H' : Hp} {s' : Shared}, Inv (blkX X s3 H3 scope ce fp (notedBy (model X.prog X.w) X.A ce (CompFails (model X.prog X.w) X.A X.xe ce))) [] σ' H' s' → (∀ b ∈ fp, H' b = none) →
      ∀ b ∈ fp, FpOk (blkX X s3 H3 scope ce fp (notedBy (model X.prog X.w) X.A ce (CompFails (model X.prog X.w) X.A X.xe ce))) [] H' b := fun {σ' H' s'} I' hn b hb =>
    ⟨hn b hb, (I'.ok.exf b hb).1, I'.ok.exfs b hb, .inl hb, fun x c e => (I'.ok.exf b hb).2 x c e, fun p hp => absurd (show p ∈ ([] : List (Addr × Obj)) ++ [] from hp) (by simp)⟩
  have loop : codeAny (model X.prog X.w) X.A (.compLoop (.ListComp elt [⟨tg, iter, [], 0⟩] scope pos) 0 (.ref it) (.ref D) ce) (compEnds (model X.prog X.w) X.A X.xe none (EP X pins σ Q) (.ref D) ce) s4 := by
    refine compLoop_any (fun n s' => s' = s4) (fun n s5 e5 => ?_) 0 rfl
    rw [e5]
    refine thn (T.item (blkX X s3 H3 scope ce fp (notedBy (model X.prog X.w) X.A ce (CompFails (model X.prog X.w) X.A X.xe ce))) rfl rfl rfl hc 0 [] s4 _ H3 _ I5 (stat I5 nfp) st4 go) fun r s6 ⟨u, hr, h6⟩ => ?_
    subst hr
    refine thn h6 fun _ s7 ⟨x, H7, I7, r7, y7, st7, n7⟩ => ?_
    refine thn ((pg _).run _ s7 _ H7 x u _ I7 r7 (step x H7 y7)) fun _ s8 ⟨σ8, H8, I8, q8⟩ => ?_
    refine wpAny_tests_nil ?_
    rw [if_pos rfl]
    refine thn (pe.run _ s8 σ8 H8 _ I8 q8) fun z s10 ⟨yv, H10, I10, r10, f⟩ => f.elim
  exact codeAny_compStart_list loop (T.self X.A 0 _ _ _ st4 loop)
end
end Fw

/-! is_within, relation, first_rows. -/
namespace Fw
open PySem PySem.Spec PyProof.Rows L2
noncomputable def wayB (A B : Au Str Str) (x y : Bool) : Bool := @decide (Way A B x y) (Classical.propDecidable _)
theorem wayB_t {A B : Au Str Str} {x y : Bool} : wayB A B x y = true ↔ Way A B x y := by
  unfold wayB
  exact @decide_eq_true_iff _ (Classical.propDecidable _)
theorem wayB_f {A B : Au Str Str} {x y : Bool} : wayB A B x y = false ↔ ¬ Way A B x y := by
  unfold wayB
  exact @decide_eq_false_iff_not _ (Classical.propDecidable _)
noncomputable def relS (A B : Au Str Str) : Str :=
  if (!wayB A B true false) = true then (if (!wayB B A true false) = true then "alike" else "within") else if (!wayB B A true false) = true then "around" else if (!wayB A B true true) = true then "apart" else "across"
section
variable {P : Program} {w : World} {K : PySem.W.Frag} {mg : Str → Option Value} {base : Heap}
abbrev gApp : List V → List V → List V := fun vs zs => vs ++ zs
theorem fk_FirstRow (T : Tx K mg) : Fk P w K mg base (L2.CX P w) 5 (He.ga K "first_row") pFirstRow 3 ["limit"] gApp (spFirstRow K) := by
  obtain ⟨fd, F⟩ := T.f_FirstRow
  exact ⟨⟨fd, _, fn_FirstRow T F, kbindsN F 3 ["limit"] (fun vs zs => vs ++ zs) (fun r1 r2 => r1.append r2) (fun _ _ _ _ _ _ us ws h1 h2 => match us, h1, ws, h2 with | [_, _, _], _, [_], _ => rfl)⟩, F.kp⟩
theorem fc_FirstRow (T : Tx K mg) : Fc P w K mg base (L2.CX P w) 5 (He.ga K "first_row") pFirstRow [.int 20000] (spFirstRow K) := by
  obtain ⟨fd, F⟩ := T.f_FirstRow
  obtain ⟨ds, h1, h2⟩ := F.binds0 (ps := pFirstRow) 3 (by simp) rfl (fun _ _ _ _ _ _ us ks h1 h2 => match us, h1, ks, h2 with | [_, _, _], _, [_], _ => ⟨_, _, _, _, _, _, rfl, rfl, rfl⟩)
  exact ⟨⟨fd, ds, fn_FirstRow T F, h2, h1⟩, F.kp⟩
/-! is_within -/
abbrev pTwo : List Str := ["one", "other", "limit"]
def spIsWithin (K : PySem.W.Frag) : Sp := fun vs H Q E => ∃ a b A B, vs = [.ref a, .ref b, .int 20000] ∧ BookAt K H a A ∧ BookAt K H b B ∧ WOk A.words ∧ WOk B.words ∧
  ((A.words = B.words ∧ A.Good ∧ B.Good ∧ Few A B ∧ ∀ H', Same H H' → Q (.bl (!wayB A B true false)) H') ∨ (A.words ≠ B.words ∧ ∀ H', Same H H' → E (IQ K) none H'))
theorem scIsWithin : FnScope pTwo pTwo (defScope sIsWithin) := ⟨rfl, rfl, rfl, by decide +kernel, rfl, by decide +kernel, by decide +kernel⟩
theorem fn_IsWithin (T : Tx K mg) {fd : FuncData} (F : FunD K "is_within" "is_within" (defArgs sIsWithin) (defBody sIsWithin) (defScope sIsWithin) [] [("limit", .int 20000)] (He.ga K "is_within") fd) :
    FnOk P w K mg base (L2.CX P w) 6 (He.ga K "is_within") fd pTwo (spIsWithin K) := by
  refine F.ok scIsWithin (fun vs H Q E h => ?_) (fun cdv A0 outer s0 H vs Q E hr h => ?_)
  · obtain ⟨_, _, _, _, rfl, _⟩ := h
    rfl
  · obtain ⟨a, b, A, B, rfl, BA, BB, WA, WB, go⟩ := h
    refine ⟨_, pss_one (ps_ret (e_c op_isN (e_kX (fk_FirstRow T) hr T.g_first_row (passes_call (takes_of rfl rfl rfl rfl) fun _ _ _ _ h => h) (pa_cons (pv 0) (pa_cons (pv 1) (pa_cons (pe_tup (pa_cons pe_bl (pa_cons pe_bl pa_nil))) pa_nil))) (pk_cons (pv 2) pk_nil)) pe_non)), ?_⟩
    refine ⟨_, rfl, _, rfl, by show 2 ≤ sizeLine; decide, fun q nq => ?_⟩
    have s1 : Same H (upd H q (.tup [.bl true, .bl false])) := same_new nq
    refine ⟨_, rfl, rfl, rfl, a, b, q, A, B, true, false, rfl, BA.same s1, BB.same s1, .of upd_same, WA, WB, ?_⟩
    rcases go with ⟨hw, GA, GB, FW, k⟩ | ⟨ne, k⟩
    · refine .inl ⟨hw, GA, GB, FW, fun no H' s2 => ⟨rfl, ?_⟩, fun yes H' p s2 => ⟨rfl, ?_⟩⟩
      · have := k H' (s1.trans s2)
        rw [wayB_f.mpr no] at this
        exact this
      · have := k H' (s1.trans s2)
        rw [wayB_t.mpr yes] at this
        exact this
    · exact .inr ⟨ne, k _ s1⟩
theorem fk_IsWithin (T : Tx K mg) : Fk P w K mg base (L2.CX P w) 6 (He.ga K "is_within") pTwo 2 ["limit"] gApp (spIsWithin K) := by
  obtain ⟨fd, F⟩ := T.f_IsWithin
  exact ⟨⟨fd, _, fn_IsWithin T F, kbindsN F 2 ["limit"] (fun vs zs => vs ++ zs) (fun r1 r2 => r1.append r2) (fun _ _ _ _ _ _ us ws h1 h2 => match us, h1, ws, h2 with | [_, _], _, [_], _ => rfl)⟩, F.kp⟩
theorem fc_IsWithin (T : Tx K mg) : Fc P w K mg base (L2.CX P w) 6 (He.ga K "is_within") pTwo [.int 20000] (spIsWithin K) := by
  obtain ⟨fd, F⟩ := T.f_IsWithin
  obtain ⟨ds, h1, h2⟩ := F.binds0 (ps := pTwo) 2 (by simp) rfl (fun _ _ _ _ _ _ us ks h1 h2 => match us, h1, ks, h2 with | [_, _], _, [_], _ => ⟨_, _, _, _, _, _, rfl, rfl, rfl⟩)
  exact ⟨⟨fd, ds, fn_IsWithin T F, h2, h1⟩, F.kp⟩
/-! relation -/
abbrev nRelation : List Str := ["one", "other", "limit", "inside", "around"]
def spRelation (K : PySem.W.Frag) : Sp := fun vs H Q E => ∃ a b A B, vs = [.ref a, .ref b, .int 20000] ∧ BookAt K H a A ∧ BookAt K H b B ∧ WOk A.words ∧ WOk B.words ∧
  ((A.words = B.words ∧ A.Good ∧ B.Good ∧ Few A B ∧ Few B A ∧ ∀ H', Same H H' → Q (.str (relS A B)) H') ∨ (A.words ≠ B.words ∧ ∀ H', Same H H' → E (IQ K) none H'))
theorem scRelation : FnScope nRelation pTwo (defScope sRelation) := ⟨rfl, rfl, rfl, by decide +kernel, rfl, by decide +kernel, by decide +kernel⟩
theorem fn_Relation (T : Tx K mg) {fd : FuncData} (F : FunD K "relation" "relation" (defArgs sRelation) (defBody sRelation) (defScope sRelation) [] [("limit", .int 20000)] (He.ga K "relation") fd) :
    FnOk P w K mg base (L2.CX P w) 7 (He.ga K "relation") fd pTwo (spRelation K) := by
  refine F.ok scRelation (fun vs H Q E h => ?_) (fun cdv A0 outer s0 H vs Q E hr h => ?_)
  · obtain ⟨_, _, _, _, rfl, _⟩ := h
    rfl
  · obtain ⟨a, b, A, B, rfl, BA, BB, WA, WB, go⟩ := h
    refine ⟨_, pss_cons (s_set 3 scRelation.nd (e_kX (fk_IsWithin T) hr T.g_is_within (passes_call (takes_of rfl rfl rfl rfl) fun _ _ _ _ h => h) (pa_cons (pv 0) (pa_cons (pv 1) pa_nil)) (pk_cons (pv 2) pk_nil)))
      (pss_cons (s_set 4 scRelation.nd (e_kX (fk_IsWithin T) hr T.g_is_within (passes_call (takes_of rfl rfl rfl rfl) fun _ _ _ _ h => h) (pa_cons (pv 1) (pa_cons (pv 0) pa_nil)) (pk_cons (pv 2) pk_nil)))
      (pss_cons (ps_if (pw_and (pt_val (pv 3)) (pw_and1 (pt_val (pv 4)))).pt (pss_one (ps_ret pe_str)) pss_nil)
      (pss_cons (ps_if (pt_val (pv 3)) (pss_one (ps_ret pe_str)) pss_nil)
      (pss_cons (ps_if (pt_val (pv 4)) (pss_one (ps_ret pe_str)) pss_nil)
      (pss_cons (ps_if (t_c op_isN (e_kX ((fk_FirstRow T).mono (by decide)) hr T.g_first_row (passes_call (takes_of rfl rfl rfl rfl) fun _ _ _ _ h => h) (pa_cons (pv 0) (pa_cons (pv 1) (pa_cons (pe_tup (pa_cons pe_bl (pa_cons pe_bl pa_nil))) pa_nil))) (pk_cons (pv 2) pk_nil)) pe_non) (pss_one (ps_ret pe_str)) pss_nil)
      (pss_one (ps_ret pe_str))))))), ?_⟩
    refine ⟨_, rfl, _, rfl, _, rfl, rfl, rfl, a, b, A, B, rfl, BA, BB, WA, WB, ?_⟩
    rcases go with ⟨hw, GA, GB, FW, FB, k⟩ | ⟨ne, k⟩
    rotate_left
    · exact .inr ⟨ne, fun H' s => k H' s⟩
    refine .inl ⟨hw, GA, GB, FW, fun H1 s1 => ?_⟩
    refine ⟨_, rfl, _, rfl, _, rfl, rfl, rfl, b, a, B, A, rfl, BB.same s1, BA.same s1, WB, WA, .inl ⟨hw.symm, GB, GA, FB, fun H2 s2 => ?_⟩⟩
    have s2 := s1.trans s2
    unfold relS at k
    refine ⟨_, rfl, _, rfl, ?_⟩
    generalize (!wayB A B true false) = u at k ⊢
    generalize (!wayB B A true false) = v at k ⊢
    cases u with
    | true =>
      refine iteT ⟨_, rfl, _, rfl, ?_⟩
      cases v with
      | true => exact iteT (k H2 s2)
      | false =>
        refine iteF ⟨_, rfl, _, rfl, iteT ?_⟩
        exact k H2 s2
    | false =>
      refine iteF (iteF ⟨_, rfl, _, rfl, iteF ⟨_, rfl, _, rfl, ?_⟩⟩)
      cases v with
      | true => exact iteT (k H2 s2)
      | false =>
        refine iteF ⟨_, rfl, _, rfl, by show 2 ≤ sizeLine; decide, fun q nq => ?_⟩
        have s3 : Same H2 (upd H2 q (.tup [.bl true, .bl true])) := same_new nq
        have s4 := s2.trans s3
        refine ⟨_, rfl, rfl, rfl, a, b, q, A, B, true, true, rfl, BA.same s4, BB.same s4, .of upd_same, WA, WB, .inl ⟨hw, GA, GB, FW, fun no H' s5 => ⟨rfl, _, rfl, ?_⟩, fun yes H' p s5 => ⟨rfl, _, rfl, ?_⟩⟩⟩
        · refine iteT ?_
          rw [wayB_f.mpr no] at k
          exact k H' (s4.trans s5)
        · refine iteF ?_
          rw [wayB_t.mpr yes] at k
          exact k H' (s4.trans s5)
theorem fc_Relation (T : Tx K mg) : Fc P w K mg base (L2.CX P w) 7 (He.ga K "relation") pTwo [.int 20000] (spRelation K) := by
  obtain ⟨fd, F⟩ := T.f_Relation
  obtain ⟨ds, h1, h2⟩ := F.binds0 (ps := pTwo) 2 (by simp) rfl (fun _ _ _ _ _ _ us ks h1 h2 => match us, h1, ks, h2 with | [_, _], _, [_], _ => ⟨_, _, _, _, _, _, rfl, rfl, rfl⟩)
  exact ⟨⟨fd, ds, fn_Relation T F, h2, h1⟩, F.kp⟩
/-! first_rows, of books of other words -/
abbrev nFirstRows : List Str := ["one", "other", "limit", "ways", "way"]
def spFirstRows (K : PySem.W.Frag) : Sp := fun vs H Q E => ∃ a b A B, vs = [.ref a, .ref b, .int 20000] ∧ BookAt K H a A ∧ BookAt K H b B ∧ WOk A.words ∧ WOk B.words ∧ A.words ≠ B.words ∧ ∀ H', Same H H' → E (IQ K) none H'
theorem scFirstRows : FnScope nFirstRows pTwo (defScope sFirstRows) := ⟨rfl, rfl, rfl, by decide +kernel, rfl, by decide +kernel, by decide +kernel⟩
theorem fn_FirstRows (T : Tx K mg) {fd : FuncData} (F : FunD K "first_rows" "first_rows" (defArgs sFirstRows) (defBody sFirstRows) (defScope sFirstRows) [] [("limit", .int 20000)] (He.ga K "first_rows") fd) :
    FnOk P w K mg base (L2.CX P w) 6 (He.ga K "first_rows") fd pTwo (spFirstRows K) := by
  refine F.ok scFirstRows (fun vs H Q E h => ?_) (fun cdv A0 outer s0 H vs Q E hr h => ?_)
  · obtain ⟨_, _, _, _, rfl, _⟩ := h
    rfl
  · obtain ⟨a, b, A, B, rfl, BA, BB, WA, WB, ne, k⟩ := h
    refine ⟨_, pss_cons (s_set 3 scFirstRows.nd (pe_lst (pa_cons (pe_tup (pa_cons pe_bl (pa_cons pe_bl pa_nil))) (pa_cons (pe_tup (pa_cons pe_bl (pa_cons pe_bl pa_nil))) (pa_cons (pe_tup (pa_cons pe_bl (pa_cons pe_bl pa_nil))) (pa_cons (pe_tup (pa_cons pe_bl (pa_cons pe_bl pa_nil))) pa_nil))))))
      (pss_one (ps_ret (pe_lcR (own := [("way", 4)]) (g := gName 4) rfl scFirstRows.nd (pi_list (pv 3)) (blkOk_by (N := nFirstRows) (sc := defScope sFirstRows) (by decide +kernel)) (takes_of rfl rfl rfl rfl) rfl rfl
        (fun _ _ _ _ _ _ => pg_name (i := 4) scFirstRows.nd rfl (Or.inl rfl))
        (fun _ _ _ _ _ _ hx => pe_tup (pa_cons (pv 4) (pa_cons (e_kX (fk_FirstRow T) hr T.g_first_row hx (pa_cons (pv 0) (pa_cons (pv 1) (pa_cons (pv 4) pa_nil))) (pk_cons (pv 2) pk_nil)) pa_nil)))))), ?_⟩
    refine ⟨by show 2 ≤ sizeLine; decide, fun q1 n1 => ?_⟩
    have s1 : Same H (upd H q1 (.tup [.bl false, .bl false])) := same_new n1
    refine ⟨by show 2 ≤ sizeLine; decide, fun q2 n2 => ?_⟩
    have s2 := s1.trans (same_new (o := .tup [.bl false, .bl true]) n2)
    refine ⟨by show 2 ≤ sizeLine; decide, fun q3 n3 => ?_⟩
    have s3 := s2.trans (same_new (o := .tup [.bl true, .bl false]) n3)
    refine ⟨by show 2 ≤ sizeLine; decide, fun q4 n4 => ?_⟩
    have s4 := s3.trans (same_new (o := .tup [.bl true, .bl true]) n4)
    refine ⟨by show 4 ≤ sizeLine; decide, fun ws nw => ?_⟩
    have s5 := s4.trans (same_new (o := .lst [.ref q1, .ref q2, .ref q3, .ref q4]) nw)
    refine ⟨_, rfl, ws, rfl, ⟨_, .of upd_same⟩, fun D nD => ?_⟩
    have s6 := s5.trans (same_new (o := .lst []) nD)
    have nDw : ws ≠ D := ne_of_none upd_same nD
    have lw : (upd (upd (upd (upd (upd (upd H q1 (.tup [.bl false, .bl false])) q2 (.tup [.bl false, .bl true])) q3 (.tup [.bl true, .bl false])) q4 (.tup [.bl true, .bl true])) ws (.lst [.ref q1, .ref q2, .ref q3, .ref q4])) D (.lst [])) ws = some (.lst [.ref q1, .ref q2, .ref q3, .ref q4]) := by
      rw [upd_ne nDw]
      exact upd_same
    have s7 : Same (upd H q1 (.tup [V.bl false, .bl false])) (upd (upd (upd (upd (upd (upd H q1 (.tup [.bl false, .bl false])) q2 (.tup [.bl false, .bl true])) q3 (.tup [.bl true, .bl false])) q4 (.tup [.bl true, .bl true])) ws (.lst [.ref q1, .ref q2, .ref q3, .ref q4])) D (.lst [])) :=
      (((same_new n2).trans (same_new n3)).trans (same_new n4)).trans ((same_new nw).trans (same_new nD))
    refine ⟨⟨_, _, .of lw, rfl⟩, fun x H' y => ?_⟩
    obtain ⟨rfl, y⟩ := y
    have y : some (V.ref q1) = some x := y _ (.of lw)
    cases y
    refine ⟨_, rfl, _, rfl, _, rfl, _, rfl, _, rfl, rfl, rfl, a, b, q1, A, B, false, false, rfl, BA.same s6, BB.same s6, .of (s7 _ _ upd_same), WA, WB, .inr ⟨ne, k _ s6⟩⟩
theorem fc_FirstRows (T : Tx K mg) : Fc P w K mg base (L2.CX P w) 6 (He.ga K "first_rows") pTwo [.int 20000] (spFirstRows K) := by
  obtain ⟨fd, F⟩ := T.f_FirstRows
  obtain ⟨ds, h1, h2⟩ := F.binds0 (ps := pTwo) 2 (by simp) rfl (fun _ _ _ _ _ _ us ks h1 h2 => match us, h1, ks, h2 with | [_, _], _, [_], _ => ⟨_, _, _, _, _, _, rfl, rfl, rfl⟩)
  exact ⟨⟨fd, ds, fn_FirstRows T F, h2, h1⟩, F.kp⟩
end
end Fw

/-! A book's parts as data. -/
namespace Fw
open PySem PySem.Spec PyProof.Rows L2
/-! ### lists as tables -/
section
variable {κ α : Type} [DecidableEq κ]
def find1 : List (κ × α) → κ → Option α
  | [], _ => none
  | p :: r, k => if p.1 = k then some p.2 else find1 r k
theorem find1_mem : ∀ {l : List (κ × α)} {k : κ} {v : α}, find1 l k = some v → (k, v) ∈ l
  | [], k, v, h => by cases h
  | p :: r, k, v, h => by
    unfold find1 at h
    by_cases e : p.1 = k
    · rw [if_pos e] at h
      cases h
      rw [← e]
      exact List.mem_cons_self
    · rw [if_neg e] at h
      exact List.mem_cons_of_mem _ (find1_mem h)
theorem find1_none : ∀ {l : List (κ × α)} {k : κ}, find1 l k = none ↔ k ∉ l.map (·.1)
  | [], k => by simp [find1]
  | p :: r, k => by
    have ih := find1_none (l := r) (k := k)
    unfold find1
    by_cases e : p.1 = k
    · rw [if_pos e]
      simp [e]
    · rw [if_neg e, ih]
      simp [Ne.symm e]
theorem find1_of : ∀ {l : List (κ × α)} {k : κ} {v : α}, (l.map (·.1)).Nodup → (k, v) ∈ l → find1 l k = some v
  | [], k, v, _, h => by cases h
  | p :: r, k, v, nd, h => by
    obtain ⟨h1, h2⟩ := List.nodup_cons.mp nd
    unfold find1
    rcases List.mem_cons.mp h with e | h
    · rw [← e, if_pos rfl]
    · rw [if_neg fun e => h1 (List.mem_map.mpr ⟨_, h, e.symm⟩)]
      exact find1_of h2 h
theorem find1_is {l : List (κ × α)} {k : κ} (h : k ∈ l.map (·.1)) : ∃ v, find1 l k = some v := by
  cases e : find1 l k with
  | none => exact absurd h (find1_none.mp e)
  | some v => exact ⟨v, rfl⟩
theorem find1_app : ∀ {l m : List (κ × α)} {k : κ}, find1 (l ++ m) k = (find1 l k).or (find1 m k)
  | [], m, k => by simp [find1]
  | p :: r, m, k => by
    have ih := find1_app (l := r) (m := m) (k := k)
    have e1 : ∀ t : List (κ × α), find1 (p :: t) k = if p.1 = k then some p.2 else find1 t k := fun _ => rfl
    rw [List.cons_append, e1, e1]
    by_cases e : p.1 = k
    · rw [if_pos e, if_pos e]
      rfl
    · rw [if_neg e, if_neg e, ih]
end
/-! ### names -/
def nameChars : Str := "abcdefghijklmnopqrstuvwxyz0123456789"
def digChars : Str := "0123456789"
/-- a name -/
def NameOk (x : Str) : Prop := 1 ≤ x.length ∧ x.length ≤ 12 ∧ (∀ c, x.cps.toList.head? = some c → c ∉ digChars.cps.toList) ∧ ∀ c ∈ x.cps.toList, c ∈ nameChars.cps.toList
theorem name_lt : ∀ c ∈ nameChars.cps.toList, c < 1114112 := by decide +kernel
theorem NameOk.ok {x : Str} (h : NameOk x) : PyData.strOk x = true := by
  unfold PyData.strOk
  rw [Array.all_eq_true']
  intro c hc
  exact decide_eq_true (name_lt c (h.2.2.2 c (by simpa using hc)))
/-! ### parts -/
abbrev Pl : Type := Str × Nat × Bool
abbrev Rk : Type := Str × Str × Nat
abbrev Rv : Type := Str × List Nat
structure Bk where
  words : List Str
  places : List Pl
  start : Str
  rules : List (Rk × Rv)
def Bk.names (b : Bk) : List Str := b.places.map (·.1)
def slotsIn (ps : List Pl) (p : Str) : Nat := ((find1 ps p).getD (0, false)).1
def yesIn (ps : List Pl) (p : Str) : Bool := ((find1 ps p).getD (0, false)).2
def Bk.au (b : Bk) : Au Str Str := { ok := fun p => p ∈ b.names, slots := slotsIn b.places, yes := yesIn b.places, start := b.start, words := b.words, rule := fun p w c => (find1 b.rules (p, w, c)).getD ("", []) }
/-- a rule that may stand -/
structure RuOk (ps : List Pl) (ws : List Str) (k : Rk) (v : Rv) : Prop where
  p : k.1 ∈ ps.map (·.1)
  w : k.2.1 ∈ ws
  c : k.2.2 ≤ slotsIn ps k.1
  g : v.1 ∈ ps.map (·.1)
  l : v.2.length = slotsIn ps v.1
  nd : v.2.Nodup
  le : ∀ m ∈ v.2, m ≤ slotsIn ps k.1
  nz : k.2.2 ≠ 0 → 0 ∉ v.2
structure PlsOk (ps : List Pl) (st : Str) : Prop where
  p1 : 1 ≤ ps.length
  p60 : ps.length ≤ 60
  pn : ∀ p ∈ ps, NameOk p.1
  pd : (ps.map (·.1)).Nodup
  sl : ∀ p ∈ ps, p.2.1 ≤ 6
  st : ∃ y, (st, 0, y) ∈ ps
structure WdsOk (ws : List Str) : Prop where
  w1 : 1 ≤ ws.length
  w3 : ws.length ≤ 3
  wn : ∀ x ∈ ws, NameOk x
  wd : ws.Nodup
structure Bk.Ok (b : Bk) : Prop where
  ws : WdsOk b.words
  ps : PlsOk b.places b.start
  rd : (b.rules.map (·.1)).Nodup
  rv : ∀ r ∈ b.rules, RuOk b.places b.words r.1 r.2
  all : ∀ p w c, p ∈ b.names → w ∈ b.words → c ≤ slotsIn b.places p → (p, w, c) ∈ b.rules.map (·.1)
theorem WdsOk.ok {ws : List Str} (h : WdsOk ws) : WOk ws := fun x hx => (h.wn x hx).ok
theorem PlsOk.at_ {ps : List Pl} {st : Str} (h : PlsOk ps st) {p : Pl} (hp : p ∈ ps) : slotsIn ps p.1 = p.2.1 ∧ yesIn ps p.1 = p.2.2 := by
  obtain ⟨n, s, y⟩ := p
  have := find1_of h.pd hp
  unfold slotsIn yesIn
  rw [this]
  exact ⟨rfl, rfl⟩
theorem PlsOk.mem {ps : List Pl} {st : Str} (h : PlsOk ps st) {n : Str} (hn : n ∈ ps.map (·.1)) : (n, slotsIn ps n, yesIn ps n) ∈ ps := by
  obtain ⟨p, hp, rfl⟩ := List.mem_map.mp hn
  obtain ⟨e1, e2⟩ := h.at_ hp
  rw [e1, e2]
  exact hp
theorem Bk.Ok.good {b : Bk} (h : b.Ok) : b.au.Good := by
  obtain ⟨y, hy⟩ := h.ps.st
  refine ⟨List.mem_map.mpr ⟨_, hy, rfl⟩, (h.ps.at_ hy).1, fun p hp => ?_, fun p w c hp hw hc => ?_⟩
  · exact h.ps.sl _ (h.ps.mem hp)
  · obtain ⟨v, hv⟩ := find1_is (h.all p w c hp hw hc)
    have r := h.rv _ (find1_mem hv)
    have e : b.au.rule p w c = v := by
      show (find1 b.rules (p, w, c)).getD _ = _
      rw [hv]
      rfl
    rw [e]
    exact ⟨r.g, r.l, r.nd, r.le, r.nz⟩
/-- the triples that are asked for -/
def askedOf (ps : List Pl) (ws : List Str) : List Rk := ps.flatMap fun p => ws.flatMap fun w => (List.range (p.2.1 + 1)).map fun c => (p.1, w, c)
theorem asked_nd {ps : List Pl} {ws : List Str} (hp : (ps.map (·.1)).Nodup) (hw : ws.Nodup) : (askedOf ps ws).Nodup := by
  unfold askedOf List.Nodup
  rw [List.pairwise_flatMap]
  refine ⟨fun p _ => ?_, ?_⟩
  · rw [List.pairwise_flatMap]
    refine ⟨fun x _ => ?_, ?_⟩
    · rw [List.pairwise_map]
      exact List.Pairwise.imp (fun {a b} h e => h (Prod.mk.inj (Prod.mk.inj e).2).2) (List.nodup_range (n := p.2.1 + 1))
    · refine List.Pairwise.imp (fun {a b} h x hx y hy e => ?_) hw
      obtain ⟨c, _, rfl⟩ := List.mem_map.mp hx
      obtain ⟨d, _, rfl⟩ := List.mem_map.mp hy
      exact h (Prod.mk.inj (Prod.mk.inj e).2).1
  · have hp' : ps.Pairwise (fun a b => a.1 ≠ b.1) := List.pairwise_map.mp hp
    refine List.Pairwise.imp (fun {a b} h x hx y hy e => ?_) hp'
    obtain ⟨w1, _, hx⟩ := List.mem_flatMap.mp hx
    obtain ⟨w2, _, hy⟩ := List.mem_flatMap.mp hy
    obtain ⟨c, _, rfl⟩ := List.mem_map.mp hx
    obtain ⟨d, _, rfl⟩ := List.mem_map.mp hy
    exact h (Prod.mk.inj e).1
theorem Bk.Ok.len {b : Bk} (h : b.Ok) : b.rules.length = (askedOf b.places b.words).length := by
  have e : b.rules.length = (b.rules.map (·.1)).length := by rw [List.length_map]
  rw [e]
  refine Nat.le_antisymm (nodup_le h.rd fun k hk => ?_) (nodup_le (asked_nd h.ps.pd h.ws.wd) fun k hk => ?_)
  · obtain ⟨r, hr, rfl⟩ := List.mem_map.mp hk
    have o := h.rv r hr
    refine List.mem_flatMap.mpr ⟨_, h.ps.mem o.p, List.mem_flatMap.mpr ⟨_, o.w, List.mem_map.mpr ⟨r.1.2.2, List.mem_range.mpr (Nat.lt_succ_of_le o.c), rfl⟩⟩⟩
  · obtain ⟨p, hp, hk⟩ := List.mem_flatMap.mp hk
    obtain ⟨x, hx, hk⟩ := List.mem_flatMap.mp hk
    obtain ⟨c, hc, rfl⟩ := List.mem_map.mp hk
    have hc := List.mem_range.mp hc
    exact h.all _ _ _ (List.mem_map.mpr ⟨p, hp, rfl⟩) hx (by rw [(h.ps.at_ hp).1]; omega)
theorem asked_le {ps : List Pl} {ws : List Str} {st : Str} (hp : PlsOk ps st) (hw : WdsOk ws) : (askedOf ps ws).length ≤ 1260 := by
  have key : ∀ l : List Pl, (∀ p ∈ l, p.2.1 ≤ 6) → (askedOf l ws).length ≤ l.length * 21 := by
    intro l
    induction l with
    | nil => intro _; exact Nat.zero_le _
    | cons p r ih =>
      intro hl
      have h1 := ih fun q hq => hl q (by simp [hq])
      have h2 := hl p (by simp)
      have h3 : (ws.flatMap fun w => (List.range (p.2.1 + 1)).map fun c => ((p.1, w, c) : Rk)).length = ws.length * (p.2.1 + 1) := len_flat fun x _ => by rw [List.length_map, List.length_range]
      have h4 : ws.length * (p.2.1 + 1) ≤ 3 * 7 := Nat.mul_le_mul hw.w3 (by omega)
      unfold askedOf at h1 ⊢
      rw [List.flatMap_cons, List.length_append, h3, List.length_cons, Nat.succ_mul]
      omega
  have := key ps hp.sl
  have := hp.p60
  omega
theorem few_of {A B : Bk} {n m a c : Nat} (hA : A.Ok) (hB : B.Ok) (ha : ∀ p ∈ A.places, p.2.1 ≤ a) (hb : ∀ p ∈ B.places, p.2.1 ≤ c) (la : A.places.length ≤ n) (lb : B.places.length ≤ m) (h : n * (m * (c + 1) ^ a) ≤ 19000) : Few A.au B.au := fun L nd hL => by
  have := keys_le (PA := A.names) (QB := B.names) (a := a) (b := c) (A := A.au) (B := B.au) (fun p hp => ⟨hp, ha _ (hA.ps.mem hp)⟩) (fun p hp => ⟨hp, hb _ (hB.ps.mem hp)⟩) nd hL
  have e1 : A.names.length = A.places.length := by
    unfold Bk.names
    rw [List.length_map]
  have e2 : B.names.length = B.places.length := by
    unfold Bk.names
    rw [List.length_map]
  rw [e1, e2] at this
  exact Nat.le_trans this (Nat.le_trans (Nat.mul_le_mul la (Nat.mul_le_mul_right _ lb)) h)
end Fw

/-! is_name, are_different, require, require_names, checked_place. -/
namespace Fw
open PySem PySem.Spec PyProof.Rows L2
section
variable {P : Program} {w : World} {K : PySem.W.Frag} {mg : Str → Option Value} {base : Heap}
/-! is_name -/
def spIsName (K : PySem.W.Frag) : Sp := fun vs H Q _ => ∃ x, vs = [.str x] ∧ NameOk x ∧ ∀ H', Same H H' → Q (.bl true) H'
theorem scIsName : FnScope ["text", "char"] ["text"] (defScope sIsName) := ⟨rfl, rfl, rfl, by decide +kernel, rfl, by decide +kernel, by decide +kernel⟩
theorem ok_IsName (T : Tx K mg) : Fc P w K mg base CX0 1 (He.ga K "is_name") ["text"] [] (spIsName K) := by
  obtain ⟨t1, c1⟩ := T.c_MOST_NAME_CHARS
  obtain ⟨t2, c2⟩ := T.c_NAME_CHARS
  refine fc_mk T.f_IsName scIsName (fun _ _ _ _ _ _ us hl => match us, hl with | [_], _ => rfl) (fun vs H Q E h => ?_) (fun cdv A0 outer s0 H vs Q E hr h => ?_)
  · obtain ⟨_, rfl, _⟩ := h
    rfl
  · obtain ⟨x, rfl, ok, go⟩ := h
    refine ⟨_, pss_cons (ps_if (pw_or (pt_not (pt_chain op_le op_le pe_int (e_len T.n_len (pv 0)) (pe_glob (v := .int 12) (by rfl) c1 ⟨_, rfl⟩))) (pw_or1 (t_c op_in_sign (e_ixS (pv 0) pe_int) pe_str))).pt pss_never pss_nil)
      (pss_one (ps_ret (e_bi (cr_all rfl) T.n_all PyProof.Rows.boot_all (pe_lc (own := [("char", 1)]) (g := gName 1) (tt := tYes) rfl scIsName.nd (pi_str (pv 0)) (blkOk_by (N := ["text", "char"]) (sc := defScope sIsName) (by decide +kernel))
        (fun _ _ _ _ _ => pg_name (i := 1) scIsName.nd rfl (Or.inl rfl)) (fun _ _ _ _ _ => pts_nil) (fun _ _ _ _ _ => e_c op_in_sign (pv 1) (pe_glob (v := .str "abcdefghijklmnopqrstuvwxyz0123456789") (by rfl) c2 ⟨_, rfl⟩)))))), ?_⟩
    obtain ⟨n1, n12, nd, nc⟩ := ok
    have hlen : x.length = x.cps.toList.length := by
      show x.cps.size = _
      simp
    refine ⟨_, rfl, _, _, rfl, ⟨by show x.length ≤ sizeLine; exact le_line (by omega), rfl⟩, _, _, rfl, rfl, true, congrArg V.bl (decide_eq_true (by omega)), iteT ⟨_, _, rfl, rfl, true, congrArg V.bl (decide_eq_true (by omega)), ?_⟩⟩
    obtain ⟨c, r, hc⟩ : ∃ c r, x.cps.toList = c :: r := by
      cases e : x.cps.toList with
      | nil =>
        rw [e] at hlen
        simp at hlen
        omega
      | cons c r => exact ⟨c, r, rfl⟩
    refine iteF ⟨_, rfl, x, 0, c, rfl, rfl, le_line (by omega), atI_nat (xs := x.cps.toList) (j := 0) (by rw [hc] <;> rfl), c, _, rfl, rfl, false, congrArg V.bl (decide_eq_false (nd c (by rw [hc] <;> rfl))), iteF ?_⟩
    refine ⟨_, rfl, x, rfl, fun D hD => ?_⟩
    refine turns (walk_str (z := x)) (fun i H2 => Same H H2 ∧ H2 D = some (.lst (List.replicate i (.bl true)))) ⟨same_new hD, upd_same⟩ (fun _ _ _ _ => trivial) ?_ ?_
    · rintro i y H2 H3 hi ⟨s2, d2⟩ ⟨rfl, c, hc, rfl⟩
      refine ⟨rfl, _, rfl, c, _, rfl, rfl, ?_⟩
      have : c ∈ x.cps.toList := by
        have := (Array.getElem?_eq_some_iff.mp hc)
        obtain ⟨h1, h2⟩ := this
        rw [← h2]
        simp
      have e : decide (c ∈ ("abcdefghijklmnopqrstuvwxyz0123456789" : Str).cps.toList) = true := decide_eq_true (nc c this)
      rw [e]
      refine ⟨_, d2, lt_line ?_, same_mut s2 hD, ?_⟩
      · rw [List.length_replicate]
        have : x.cps.size = x.length := rfl
        omega
      · rw [upd_same, List.replicate_succ']
    · rintro H2 ⟨s2, d2⟩
      refine ⟨D, List.replicate x.cps.size true, rfl, .of (by rw [d2, List.map_replicate]), ?_⟩
      have e : (List.replicate x.cps.size true).all id = true := by
        rw [List.all_eq_true]
        intro z hz
        rw [(List.mem_replicate.mp hz).2]
        rfl
      rw [e]
      exact go _ s2
/-! are_different -/
/-- a list or a tuple -/
def SqS (K : PySem.W.Frag) (H : Hp) (a : Addr) (xs : List V) : Prop := SqL K H a xs ∨ SqT K H a xs
theorem SqS.same {H H' : Hp} {a : Addr} {xs : List V} (s : Same H H') (h : SqS K H a xs) : SqS K H' a xs := h.imp (sameL s) (sameT s)
theorem SqS.len {H : Hp} {a : Addr} {xs : List V} (h : SqS K H a xs) : LenV K (.ref a) H xs.length := h.elim (fun h => .inl ⟨_, h, rfl⟩) fun h => .inr ⟨_, h, rfl⟩
/-- over a list or a tuple -/
def iSeq (K : PySem.W.Frag) (te : TE) : TI := fun σ H R => te σ H fun x H1 => ∃ a xs, x = .ref a ∧ SqS K H1 a xs ∧ ∀ J G, Walk J xs.length G (YAt xs) → (∀ H', Same H1 H' → G H') → R J H1
theorem pi_seq {X : Cx} {K : PySem.W.Frag} {tg l : Expr} {tl : TE} (hl : PE X l tl) (hK : X.K = K := by rfl) : PI X tg l (iSeq K tl) := by
  subst hK
  refine ⟨fun pins s σ H R I h => ?_⟩
  refine thn (hl.run pins s σ H _ I h) fun v s1 ⟨x, H1, I1, r1, q1⟩ => ?_
  obtain ⟨a, xs, e, hq, q⟩ := q1
  subst e
  cases r1
  have fp : ∀ b ∈ [s1.heap.objs.size], FpOk X pins H1 b := fun b hb => by
    have e : b = s1.heap.objs.size := by simpa using hb
    subst e
    exact I1.fpOk (Nat.le_refl _) (I1.hok.fresh (Nat.le_refl _))
  rcases hq with hq | hq
  · obtain ⟨its, rv, p, hz⟩ := I1.list hq
    refine wpAny_pyIter_list p.isList ?_
    exact ⟨s1.heap.objs.size, [s1.heap.objs.size], _, _, H1, rfl, I1.kept (t' := s1.toks) fun b o e => Heap.get?_push_of_some _ e, turn_list a _, ⟨_, Heap.get?_push_size _ rfl, rfl, rfl⟩, fp, q _ _ (walk_list (K := X.K) (a := a) (xs := xs)) fun H' s => sameL s hq⟩
  · obtain ⟨its, rv, p, hz⟩ := I1.tuple hq
    refine wpAny_pyIter_tuple (show s1.heap.IsTuple a its.toArray from p) ?_
    exact ⟨s1.heap.objs.size, [s1.heap.objs.size], _, _, H1, rfl, I1.kept (t' := s1.toks) fun b o e => Heap.get?_push_of_some _ e, turn_tuple a _, ⟨_, Heap.get?_push_size _ rfl, rfl, rfl⟩, fp, q _ _ (walk_tup (K := X.K) (a := a) (xs := xs)) fun H' s => sameT s hq⟩
theorem keyV_inj : ∀ {a b : Key}, kV a = kV b → a = b
  | .inl a, .inl b, h => by
    injection h with h
    rw [h]
  | .inr a, .inr b, h => by
    injection h with h
    rw [h]
  | .inl a, .inr b, h => by injection h
  | .inr a, .inl b, h => by injection h
def spAreDifferent (K : PySem.W.Frag) : Sp := fun vs H Q _ => ∃ a, ∃ ks : List Key, vs = [.ref a] ∧ SqS K H a (ks.map kV) ∧ ks.Nodup ∧ ks.length ≤ 100000 ∧ ∀ H', Same H H' → Q (.bl true) H'
theorem scAreDifferent : FnScope ["parts", "part"] ["parts"] (defScope sAreDifferent) := ⟨rfl, rfl, rfl, by decide +kernel, rfl, by decide +kernel, by decide +kernel⟩
/-- the dict so far -/
def dif (ks : List Key) (i : Nat) : List (Key × V) := (ks.take i).map fun k => (k, .bl true)
theorem dif_keys (ks : List Key) (i : Nat) : (dif ks i).map (·.1) = ks.take i := by
  unfold dif
  rw [List.map_map]
  exact List.map_id _
theorem dif_put {ks : List Key} {i : Nat} {k : Key} (nd : ks.Nodup) (e : ks[i]? = some k) : putK (dif ks i) k (.bl true) = dif ks (i + 1) := by
  have h : valV (dif ks i) k = none := by
    cases q : valV (dif ks i) k with
    | none => rfl
    | some v =>
      have m := valV_in q
      rw [dif_keys] at m
      obtain ⟨j, hj⟩ := List.mem_iff_getElem?.mp m
      rw [List.getElem?_take] at hj
      split at hj
      · have := nd_inj nd hj e
        omega
      · cases hj
  rw [putK_new _ h]
  unfold dif
  rw [take_succ_map e]
theorem ok_AreDifferent (T : Tx K mg) : Fc P w K mg base CX0 1 (He.ga K "are_different") ["parts"] [] (spAreDifferent K) := by
  refine fc_mk T.f_AreDifferent scAreDifferent (fun _ _ _ _ _ _ us hl => match us, hl with | [_], _ => rfl) (fun vs H Q E h => ?_) (fun cdv A0 outer s0 H vs Q E hr h => ?_)
  · obtain ⟨_, _, rfl, _⟩ := h
    rfl
  · obtain ⟨a, ks, rfl, sq, nd, hl, go⟩ := h
    refine ⟨_, pss_one (ps_ret (e_c op_eq (e_bi call_lenD T.n_len PySem.boot_len (pe_dc (own := [("part", 1)]) (g := gName 1) (tt := tYes) rfl scAreDifferent.nd (pi_seq (K := K) (pv 0)) (blkOk_by (N := ["parts", "part"]) (sc := defScope sAreDifferent) (by decide +kernel))
        (fun _ _ _ _ _ => pg_name (i := 1) scAreDifferent.nd rfl (Or.inl rfl)) (fun _ _ _ _ _ => pts_nil) (fun _ _ _ _ _ => pv 1) (fun _ _ _ _ _ => pe_bl))) (e_len T.n_len (pv 0)))), ?_⟩
    refine ⟨_, rfl, a, _, rfl, sq, fun J G wk hG D hD => ?_⟩
    refine turns wk (fun i H2 => Same H H2 ∧ H2 D = some (.dK (dif ks i))) ⟨same_new hD, upd_same⟩ (fun i H2 _ q => hG _ q.1) ?_ ?_
    · rintro i x H2 H3 hi ⟨s2, d2⟩ ⟨rfl, e⟩
      rw [List.getElem?_map] at e
      obtain ⟨k, hk, rfl⟩ := Option.map_eq_some_iff.mp e
      refine ⟨rfl, _, rfl, _, k, rfl, d2, lt_line ?_, same_mut s2 hD, by rw [upd_same, dif_put nd hk]⟩
      unfold dif
      rw [List.length_map, List.length_take]
      omega
    · rintro H2 ⟨s2, d2⟩
      refine ⟨D, _, rfl, d2, _, rfl, _, _, rfl, (sq.same s2).len, ?_⟩
      have e : (dif ks (ks.map kV).length).length = (ks.map kV).length := by
        unfold dif
        rw [List.length_map, List.length_map, List.length_take]
        omega
      refine ⟨rfl, ?_⟩
      rw [e, decide_eq_true rfl]
      exact go H2 s2
/-! require -/
def spRequire : Sp := fun vs H Q _ => vs = [.bl true] ∧ Q .non H
theorem scRequire : FnScope ["holds"] ["holds"] (defScope sRequire) := ⟨rfl, rfl, rfl, by decide +kernel, rfl, by decide +kernel, by decide +kernel⟩
theorem ok_Require (T : Tx K mg) : Fc P w K mg base CX0 1 (He.ga K "require") ["holds"] [] spRequire := by
  refine fc_mk T.f_Require scRequire (fun _ _ _ _ _ _ us hl => match us, hl with | [_], _ => rfl) (fun vs H Q E h => ?_) (fun cdv A0 outer s0 H vs Q E hr h => ?_)
  · obtain ⟨rfl, _⟩ := h
    rfl
  · obtain ⟨rfl, go⟩ := h
    refine ⟨_, pss_one (ps_if (pt_not (pt_val (pv 0))) pss_never pss_nil), ?_⟩
    exact ⟨_, rfl, _, rfl, iteF go⟩
/-! require_names -/
def spRequireNames (K : PySem.W.Frag) : Sp := fun vs H Q _ => ∃ (a : Addr) (l : List Str) (m : Nat), vs = [.ref a, .int m] ∧ SqS K H a (l.map V.str) ∧ 1 ≤ l.length ∧ l.length ≤ m ∧ m ≤ 60 ∧ (∀ x ∈ l, NameOk x) ∧ l.Nodup ∧ ∀ H', Same H H' → Q .non H'
theorem scRequireNames : FnScope ["names", "most", "name"] ["names", "most"] (defScope sRequireNames) := ⟨rfl, rfl, rfl, by decide +kernel, rfl, by decide +kernel, by decide +kernel⟩
theorem strs_kV (l : List Str) : l.map V.str = (l.map (Sum.inr : Str → Key)).map kV := by
  rw [List.map_map]
  rfl
theorem nodup_inr {l : List Str} (h : l.Nodup) : (l.map (Sum.inr : Str → Key)).Nodup := by
  unfold List.Nodup at h ⊢
  rw [List.pairwise_map]
  exact List.Pairwise.imp (fun {a b} n e => n (Sum.inr.inj e)) h
theorem nodup_inl {l : List Nat} (h : l.Nodup) : (l.map fun (n : Nat) => (Sum.inl (n : Int) : Key)).Nodup := by
  unfold List.Nodup at h ⊢
  rw [List.pairwise_map]
  refine List.Pairwise.imp (fun {a b} n e => n ?_) h
  have := Sum.inl.inj e
  omega
theorem ok_RequireNames (T : Tx K mg) : Fc P w K mg base CX0 2 (He.ga K "require_names") ["names", "most"] [] (spRequireNames K) := by
  refine fc_mk T.f_RequireNames scRequireNames (fun _ _ _ _ _ _ us hl => match us, hl with | [_, _], _ => rfl) (fun vs H Q E h => ?_) (fun cdv A0 outer s0 H vs Q E hr h => ?_)
  · obtain ⟨_, _, _, rfl, _⟩ := h
    rfl
  · obtain ⟨a, l, m, rfl, sq, l1, lm, m60, nk, nd, go⟩ := h
    refine ⟨_, pss_one (ps_expr (e_f (ok_Require T) hr T.g_require (pa_cons (pe_and (pe_chain op_le op_le pe_int (e_len T.n_len (pv 0)) (pv 1)) (pe_and (e_bi (cr_all rfl) T.n_all PyProof.Rows.boot_all
        (pe_lc (own := [("name", 2)]) (g := gName 2) (tt := tYes) rfl scRequireNames.nd (pi_seq (K := K) (pv 0)) (blkOk_by (N := ["names", "most", "name"]) (sc := defScope sRequireNames) (by decide +kernel))
          (fun _ _ _ _ _ => pg_name (i := 2) scRequireNames.nd rfl (Or.inl rfl)) (fun _ _ _ _ _ => pts_nil) (fun _ _ _ _ _ => e_f (ok_IsName T) hr T.g_is_name (pa_cons (pv 2) pa_nil))))
        (pe_one (e_f (ok_AreDifferent T) hr T.g_are_different (pa_cons (pv 0) pa_nil))))) pa_nil))), ?_⟩
    refine ⟨_, rfl, _, _, rfl, sq.len, _, _, rfl, rfl, true, congrArg V.bl (decide_eq_true (by rw [List.length_map]; omega)), iteT ⟨_, rfl, _, _, rfl, rfl, true, congrArg V.bl (decide_eq_true (by rw [List.length_map]; omega)), iteT ?_⟩⟩
    refine ⟨_, rfl, a, _, rfl, sq, fun J G wk hG D hD => ?_⟩
    refine turns wk (fun i H2 => Same H H2 ∧ H2 D = some (.lst (List.replicate i (.bl true)))) ⟨same_new hD, upd_same⟩ (fun i H2 _ q => hG _ q.1) ?_ ?_
    · rintro i x H2 H3 hi ⟨s2, d2⟩ ⟨rfl, e⟩
      rw [List.getElem?_map] at e
      obtain ⟨z, hz, rfl⟩ := Option.map_eq_some_iff.mp e
      refine ⟨rfl, _, rfl, z, rfl, nk z (List.mem_of_getElem? hz), fun H4 s4 => ⟨_, s4 _ _ d2, lt_line ?_, same_mut (s2.trans s4) hD, by rw [upd_same, List.replicate_succ']⟩⟩
      rw [List.length_map] at hi
      rw [List.length_replicate]
      omega
    · rintro H2 ⟨s2, d2⟩
      refine ⟨D, List.replicate (l.map V.str).length true, rfl, .of (by rw [d2, List.map_replicate]), true, ?_, ?_⟩
      · rw [show (List.replicate (l.map V.str).length true).all id = true from List.all_eq_true.mpr fun z hz => by rw [(List.mem_replicate.mp hz).2] <;> rfl]
      · refine iteT ⟨_, rfl, a, l.map Sum.inr, rfl, ?_, nodup_inr nd, by rw [List.length_map]; omega, fun H3 s3 => ⟨rfl, go H3 (s2.trans s3)⟩⟩
        rw [← strs_kV]
        exact sq.same s2
/-! checked_place -/
def PlA (K : PySem.W.Frag) (H : Hp) (r : Addr) (p : Pl) : Prop := SqT K H r [.str p.1, natV p.2.1, .bl p.2.2]
def spCheckedPlace (K : PySem.W.Frag) : Sp := fun vs H Q _ => ∃ a p, vs = [.ref a] ∧ PlA K H a p ∧ p.2.1 ≤ 6 ∧ ∀ H' q, Same H H' → PlA K H' q p → Q (.ref q) H'
theorem scCheckedPlace : FnScope ["place", "name", "slots", "yes"] ["place"] (defScope sCheckedPlace) := ⟨rfl, rfl, rfl, by decide +kernel, rfl, by decide +kernel, by decide +kernel⟩
theorem ok_CheckedPlace (T : Tx K mg) : Fc P w K mg base CX0 2 (He.ga K "checked_place") ["place"] [] (spCheckedPlace K) := by
  obtain ⟨t1, c1⟩ := T.c_MOST_SLOTS
  refine fc_mk T.f_CheckedPlace scCheckedPlace (fun _ _ _ _ _ _ us hl => match us, hl with | [_], _ => rfl) (fun vs H Q E h => ?_) (fun cdv A0 outer s0 H vs Q E hr h => ?_)
  · obtain ⟨_, _, rfl, _⟩ := h
    rfl
  · obtain ⟨a, p, rfl, sq, p6, go⟩ := h
    refine ⟨_, pss_cons (ps_expr (e_f (ok_Require T) hr T.g_require (pa_cons (e_c op_eq (e_len T.n_len (pv 0)) pe_int) pa_nil)))
      (pss_cons (ps_asg (pv 0) (g_3 (g_n 1 scCheckedPlace.nd) (g_n 2 scCheckedPlace.nd) (g_n 3 scCheckedPlace.nd)))
      (pss_cons (ps_expr (e_f (ok_Require T) hr T.g_require (pa_cons (pe_and (pe_chain op_le op_le pe_int (pv 2) (pe_glob (v := .int 6) (by rfl) c1 ⟨_, rfl⟩)) (pe_one (e_c op_in_seq (pv 3) (pe_tup (pa_cons pe_bl (pa_cons pe_bl pa_nil)))))) pa_nil)))
      (pss_one (ps_ret (pe_tup (pa_cons (pv 1) (pa_cons (pv 2) (pa_cons (pv 3) pa_nil)))))))), ?_⟩
    refine ⟨_, rfl, _, _, rfl, .inr ⟨_, sq, rfl⟩, rfl, congrArg (fun z => [V.bl z]) (decide_eq_true rfl), ?_⟩
    refine ⟨_, rfl, a, _, rfl, sq, rfl, _, _, rfl, _, _, rfl, _, _, rfl, rfl, ?_⟩
    refine ⟨_, rfl, _, _, rfl, rfl, true, congrArg V.bl (decide_eq_true (by omega)), iteT ⟨_, _, rfl, rfl, true, congrArg V.bl (decide_eq_true (by omega)), iteT ?_⟩⟩
    refine ⟨_, rfl, by show 2 ≤ sizeLine; decide, fun q nq => ?_⟩
    have s1 : Same H (upd H q (.tup [.bl false, .bl true])) := same_new nq
    refine ⟨q, _, rfl, .inr (.of upd_same), rfl, rfl, ?_, ?_⟩
    · cases p.2.2 <;> rfl
    refine ⟨_, rfl, _, rfl, _, rfl, by show 3 ≤ sizeLine; decide, fun r nr => ?_⟩
    exact go _ r (s1.trans (same_new nr)) (.of upd_same)
end
end Fw

/-! place_names, asked, checked_rule, Book.__init__. -/
namespace Fw
open PySem PySem.Spec PyProof.Rows L2
theorem passN {X : Cx} : PassesOwn (model X.nox.prog X.nox.w) X.nox.A X.nox.env X.nox.xe := fun _ _ h => h.elim
theorem bl_eq {Q : VK} {b c : Bool} {H : Hp} (h : b = c) (q : Q (.bl c) H) : Q (.bl b) H := h ▸ q
/-! ### tables on the heap -/
theorem tab_get {κ κ' α : Type} [DecidableEq κ] [DecidableEq κ'] {G : V → α → Prop} (f : κ' → κ) (inj : ∀ a b, f a = f b → a = b) {tt : List (κ × V)} {rl : List (κ' × α)} (pr : Paired (fun (kv : κ × V) (r : κ' × α) => kv.1 = f r.1 ∧ G kv.2 r.2) tt rl) (k : κ') :
    (∀ r, find1 rl k = some r → ∃ v, valV tt (f k) = some v ∧ G v r) ∧ (find1 rl k = none → valV tt (f k) = none) := by
  revert k
  induction pr with
  | nil => exact fun k => ⟨fun r h => (by cases h), fun _ => rfl⟩
  | @cons kv r tt rl h t ih =>
    obtain ⟨h1, h2⟩ := h
    intro k
    have e1 : find1 (r :: rl) k = if r.1 = k then some r.2 else find1 rl k := rfl
    rw [e1]
    by_cases e : r.1 = k
    · rw [if_pos e, valV_pos (h1.trans (congrArg f e))]
      exact ⟨fun z hz => ⟨_, rfl, by cases hz; exact h2⟩, fun hz => by cases hz⟩
    · rw [if_neg e, valV_neg (fun q => e (inj _ _ (h1.symm.trans q)))]
      exact ih k
def rkeyOf (k : Rk) : List Key := rkey k.1 k.2.1 k.2.2
theorem rkeyOf_inj (a b : Rk) (h : rkeyOf a = rkeyOf b) : a = b := by
  obtain ⟨p, w, c⟩ := a
  obtain ⟨q, x, d⟩ := b
  unfold rkeyOf rkey at h
  injection h with h1 h
  injection h with h2 h
  injection h with h3 h
  have h1 : p = q := Sum.inr.inj h1
  have h2 : w = x := Sum.inr.inj h2
  have h3 : (c : Int) = (d : Int) := Sum.inl.inj h3
  rw [h1, h2, show c = d by omega]
section
variable {P : Program} {w : World} {K : PySem.W.Frag} {mg : Str → Option Value} {base : Heap}
/-! place_names -/
def spPlaceNames (K : PySem.W.Frag) : Sp := fun vs H Q _ => ∃ x dx fs tp rs ps, vs = [.ref x] ∧ H x = some (.ins (He.ga K "Book") dx fs) ∧ fs.lookup ("places" : Str) = some (.ref tp) ∧ SqT K H tp (rs.map V.ref) ∧ Paired (PlA K H) rs ps ∧ rs.length ≤ 60 ∧
  ∀ H' q, Same H H' → SqT K H' q (ps.map fun (p : Pl) => V.str p.1) → Q (.ref q) H'
theorem scPlaceNames : FnScope ["self", "place"] ["self"] (defScope sPlaceNames) := ⟨rfl, rfl, rfl, by decide +kernel, rfl, by decide +kernel, by decide +kernel⟩
theorem paired_at {α β : Type} {F : α → β → Prop} : ∀ {l : List α} {m : List β} {i : Nat} {a : α}, Paired F l m → l[i]? = some a → ∃ b, m[i]? = some b ∧ F a b
  | _, _, _, _, .nil, e => by simp at e
  | _, _, 0, _, .cons r _, e => by
    simp at e
    subst e
    exact ⟨_, rfl, r⟩
  | _, _, i + 1, a, .cons _ t, e => by
    obtain ⟨b, h1, h2⟩ := paired_at (i := i) (a := a) t (by simpa using e)
    exact ⟨b, by simpa using h1, h2⟩
theorem PlA.same {H H' : Hp} {r : Addr} {p : Pl} (s : Same H H') (h : PlA K H r p) : PlA K H' r p := sameT s h
theorem ok_PlaceNames (T : Tx K mg) : Fc P w K mg base CX0 1 (pnG K) ["self"] [] (spPlaceNames K) := by
  refine fc_mk T.f_PlaceNames scPlaceNames (fun _ _ _ _ _ _ us hl => match us, hl with | [_], _ => rfl) (fun vs H Q E h => ?_) (fun cdv A0 outer s0 H vs Q E hr h => ?_)
  · obtain ⟨_, _, _, _, _, _, rfl, _⟩ := h
    rfl
  · obtain ⟨x, dx, fs, tp, rs, ps, rfl, hx, lp, sq, pr, l60, go⟩ := h
    refine ⟨_, pss_one (ps_ret (e_ty call_tuple_of T.n_tuple PyProof.Rows.boot_tuple (pe_lc (own := [("place", 1)]) (g := gName 1) (tt := tYes) rfl scPlaceNames.nd (pi_tup (e_fld (pv 0))) (blkOk_by (N := ["self", "place"]) (sc := defScope sPlaceNames) (by decide +kernel))
      (fun _ _ _ _ _ => pg_name (i := 1) scPlaceNames.nd rfl (Or.inl rfl)) (fun _ _ _ _ _ => pts_nil) (fun _ _ _ _ _ => e_ixT (K := K) (pv 1) pe_int)))), ?_⟩
    refine ⟨_, rfl, x, _, dx, _, _, rfl, hx, T.cls_Book, T.a_Book_places, lp, tp, rfl, ⟨_, sq⟩, fun D hD => ?_⟩
    refine lc_tup (K := K) (a := tp) (xs := rs.map V.ref) (fun i H2 => Same H H2 ∧ H2 D = some (.lst ((ps.take i).map fun p => V.str p.1))) ⟨same_new hD, upd_same⟩ (fun i H2 _ q => sameT q.1 sq) ?_ ?_
    · rintro i v H2 e ⟨s2, d2⟩
      rw [List.getElem?_map] at e
      obtain ⟨r, hr, rfl⟩ := Option.map_eq_some_iff.mp e
      obtain ⟨p, hp, hpl⟩ := paired_at pr hr
      refine ⟨rfl, _, rfl, r, _, 0, _, rfl, rfl, hpl.same s2, atI_nat (j := 0) rfl, _, d2, lt_line ?_, same_mut s2 hD, ?_⟩
      · have := pr.length
        rw [List.length_map, List.length_take]
        omega
      · rw [upd_same, take_succ_map hp]
    · rintro H2 ⟨s2, d2⟩
      refine ⟨D, _, rfl, .inl ⟨.of d2, fun l hl => ?_⟩⟩
      refine go _ l (s2.trans (same_new hl)) (.of ?_)
      rw [upd_same, List.length_map, pr.length, List.take_length]
/-! asked -/
def spAsked (K : PySem.W.Frag) : Sp := fun vs H Q _ => ∃ x dx fs tp rs ps tw ws, vs = [.ref x] ∧ H x = some (.ins (He.ga K "Book") dx fs) ∧ fs.lookup ("places" : Str) = some (.ref tp) ∧ SqT K H tp (rs.map V.ref) ∧ Paired (PlA K H) rs ps ∧
  fs.lookup ("words" : Str) = some (.ref tw) ∧ SqT K H tw (ws.map V.str) ∧ (askedOf ps ws).length ≤ 1260 ∧ (∀ p ∈ ps, p.2.1 ≤ 6) ∧
  ∀ H' q zs, Same H H' → H' q = some (.lst zs) → zs.length = (askedOf ps ws).length → Q (.ref q) H'
abbrev nAsked : List Str := ["self", "found", "name", "slots", "_", "word", "case"]
theorem scAsked : FnScope nAsked ["self"] (defScope sB_Asked) := ⟨rfl, rfl, rfl, by decide +kernel, rfl, by decide +kernel, by decide +kernel⟩
theorem ok_Asked (T : Tx K mg) : Fc P w K mg base CX0 1 (He.ma K (He.ga K "Book") "asked") ["self"] [] (spAsked K) := by
  refine fc_mk T.f_B_Asked scAsked (fun _ _ _ _ _ _ us hl => match us, hl with | [_], _ => rfl) (fun vs H Q E h => ?_) (fun cdv A0 outer s0 H vs Q E hr h => ?_)
  · obtain ⟨_, _, _, _, _, _, _, _, rfl, _⟩ := h
    rfl
  · obtain ⟨x, dx, fs, tp, rs, ps, tw, ws, rfl, hx, lp, sq, pr, lw, sw, la, l6, go⟩ := h
    refine ⟨_, pss_cons (s_set 1 scAsked.nd (pe_lst pa_nil))
      (pss_cons (ps_for passN rfl (pi_tup (e_fld (pv 0))) (g_3 (g_n 2 scAsked.nd) (g_n 3 scAsked.nd) (g_n 4 scAsked.nd))
        (pss_one (ps_for passN rfl (pi_tup (e_fld (pv 0))) (g_n 5 scAsked.nd)
          (pss_one (ps_aug (i := 1) scAsked.nd rfl (.inl rfl) (pe_lc (own := [("case", 6)]) (g := gName 6) (tt := tYes) rfl scAsked.nd (pi_range1 (by rfl) T.n_range (pa_cons (e_op op_add (pv 3) pe_int) pa_nil)) (blkOk_by (N := nAsked) (sc := defScope sB_Asked) (by decide +kernel))
            (fun _ _ _ _ _ => pg_name (i := 6) scAsked.nd rfl (Or.inl rfl)) (fun _ _ _ _ _ => pts_nil) (fun _ _ _ _ _ => pe_tup (pa_cons (pv 2) (pa_cons (pv 5) (pa_cons (pv 6) pa_nil))))) iop_ext)))))
      (pss_one (ps_ret (pv 1)))), ?_⟩
    refine ⟨by show 0 ≤ sizeLine; decide, fun L nL => ?_⟩
    have s1 : Same H (upd H L (.lst [])) := same_new nL
    refine ⟨_, rfl, x, _, dx, _, _, rfl, s1 _ _ hx, T.cls_Book, T.a_Book_places, lp, tp, rfl, ⟨_, sameT s1 sq⟩, ?_⟩
    refine for_tup (K := K) (a := tp) (xs := rs.map V.ref) (fun i σ' H' => ∃ o2 o3 o4 o5 o6 zs, σ' = [some (.ref x), some (.ref L), o2, o3, o4, o5, o6] ∧ Same H H' ∧ H' L = some (.lst zs) ∧ zs.length = (askedOf (ps.take i) ws).length)
      ⟨_, _, _, _, _, [], rfl, s1, upd_same, rfl⟩ (fun i σ' H' _ ⟨_, _, _, _, _, _, _, s, _⟩ => sameT s sq) ?_ ?_
    · rintro i v σ' H2 e ⟨o2, o3, o4, o5, o6, zs, rfl, s2, d2, lz⟩
      rw [List.getElem?_map] at e
      obtain ⟨r, hr, rfl⟩ := Option.map_eq_some_iff.mp e
      obtain ⟨p, hp, hpl⟩ := paired_at pr hr
      have p6 := l6 p (List.mem_of_getElem? hp)
      refine ⟨r, _, rfl, hpl.same s2, rfl, _, _, rfl, _, _, rfl, _, _, rfl, rfl, ?_⟩
      refine ⟨_, rfl, x, _, dx, _, _, rfl, s2 _ _ hx, T.cls_Book, T.a_Book_words, lw, tw, rfl, ⟨_, sameT s2 sw⟩, ?_⟩
      have hstep : (askedOf (ps.take (i + 1)) ws).length = (askedOf (ps.take i) ws).length + ws.length * (p.2.1 + 1) := by
        have h3 : (ws.flatMap fun w => (List.range (p.2.1 + 1)).map fun c => ((p.1, w, c) : Rk)).length = ws.length * (p.2.1 + 1) := len_flat fun x _ => by rw [List.length_map, List.length_range]
        unfold askedOf
        rw [List.take_add_one, hp, List.flatMap_append, List.length_append]
        show _ + (List.flatMap _ [p]).length = _
        rw [List.flatMap_cons, List.flatMap_nil, List.append_nil, h3]
      have hle : (askedOf (ps.take (i + 1)) ws).length ≤ 1260 := by
        refine Nat.le_trans ?_ la
        have h4 : askedOf ps ws = askedOf (ps.take (i + 1)) ws ++ askedOf (ps.drop (i + 1)) ws := by
          unfold askedOf
          rw [← List.flatMap_append, List.take_append_drop]
        rw [h4, List.length_append]
        omega
      refine for_tup (K := K) (a := tw) (xs := ws.map V.str) (fun j σ' H' => ∃ o5 o6 zs, σ' = [some (.ref x), some (.ref L), some (.str p.1), some (natV p.2.1), some (.bl p.2.2), o5, o6] ∧ Same H H' ∧ H' L = some (.lst zs) ∧ zs.length = (askedOf (ps.take i) ws).length + j * (p.2.1 + 1))
        ⟨_, _, zs, rfl, s2, d2, by rw [lz]; omega⟩ (fun i σ' H' _ ⟨_, _, _, _, s, _⟩ => sameT s sw) ?_ ?_
      · rintro j v σ' H3 e ⟨o5, o6, zs, rfl, s3, d3, lz⟩
        rw [List.getElem?_map] at e
        obtain ⟨wd, hwd, rfl⟩ := Option.map_eq_some_iff.mp e
        have hj := (List.getElem?_eq_some_iff.mp hwd).1
        have hjm : (j + 1) * (p.2.1 + 1) ≤ ws.length * (p.2.1 + 1) := Nat.mul_le_mul_right _ hj
        rw [Nat.succ_mul] at hjm
        refine ⟨_, rfl, _, rfl, _, _, rfl, rfl, _, rfl, by omega, by omega, fun D hD => ?_⟩
        have e5 : ((p.2.1 : Int) + 1).toNat = p.2.1 + 1 := by omega
        rw [e5]
        have nLD : L ≠ D := ne_of_none d3 hD
        refine lc_range (fun m H' => Same H H' ∧ H' L = some (.lst zs) ∧ ∃ ys, H' D = some (.lst ys) ∧ ys.length = m) ⟨s3.trans (same_new hD), by rw [upd_ne nLD]; exact d3, [], upd_same, rfl⟩ ?_ ?_
        · rintro m H4 hm ⟨s4, d4, ys, d5, ly⟩
          refine ⟨rfl, _, rfl, _, rfl, _, rfl, by show 3 ≤ sizeLine; decide, fun q nq => ?_⟩
          have s6 : Same H4 (upd H4 q (.tup [V.str p.1, .str wd, .int (0 + (m : Nat))])) := same_new nq
          refine ⟨ys, s6 _ _ d5, lt_line (by omega), same_mut (s4.trans s6) (s3.free hD), by rw [upd_ne nLD]; exact s6 _ _ d4, _, upd_same, by rw [List.length_append, ly]; rfl⟩
        · rintro H4 ⟨s4, d4, ys, d5, ly⟩
          refine ⟨L, D, zs, ys, rfl, rfl, d4, d5, le_line (by omega), ?_⟩
          refine ⟨_, _, _, rfl, same_mut s4 nL, upd_same, ?_⟩
          rw [List.length_append, ly, lz, Nat.succ_mul]
          omega
      · rintro σ' H3 ⟨o5, o6, zs, rfl, s3, d3, lz⟩
        refine ⟨_, _, _, _, _, zs, rfl, s3, d3, ?_⟩
        rw [List.length_map] at lz
        rw [lz, hstep]
    · rintro σ' H2 ⟨o2, o3, o4, o5, o6, zs, rfl, s2, d2, lz⟩
      refine ⟨_, rfl, go _ L zs s2 d2 ?_⟩
      rw [lz, List.length_map, pr.length, List.take_length]
/-! checked_rule -/
/-- a rule of five parts -/
def RuA (K : PySem.W.Frag) (H : Hp) (u : Addr) (r : Rk × Rv) : Prop := ∃ ma, SqT K H u [.str r.1.1, .str r.1.2.1, natV r.1.2.2, .str r.2.1, .ref ma] ∧ SqT K H ma (r.2.2.map natV)
theorem RuA.same {H H' : Hp} {u : Addr} {r : Rk × Rv} (s : Same H H') (h : RuA K H u r) : RuA K H' u r := let ⟨ma, h1, h2⟩ := h; ⟨ma, sameT s h1, sameT s h2⟩
def KnownAt (K : PySem.W.Frag) (H : Hp) (kk : List (Key × V)) (ps : List Pl) : Prop := ∀ p ∈ ps.map (·.1), ∃ v, valV kk (.inr p) = some v ∧ PlT K H v p (slotsIn ps p) (yesIn ps p)
def spCheckedRule (K : PySem.W.Frag) : Sp := fun vs H Q _ => ∃ x a dx fs tw dk kk ps ws r, vs = [.ref x, .ref a] ∧ H x = some (.ins (He.ga K "Book") dx fs) ∧ fs.lookup ("checked_rule" : Str) = none ∧ fs.lookup ("words" : Str) = some (.ref tw) ∧ SqT K H tw (ws.map V.str) ∧
  fs.lookup ("known" : Str) = some (.ref dk) ∧ H dk = some (.dK kk) ∧ KnownAt K H kk ps ∧ RuA K H a r ∧ RuOk ps ws r.1 r.2 ∧ (∀ p, slotsIn ps p ≤ 6) ∧
  ∀ H' q k v, Same H H' → SqT K H' q [.ref k, v] → H' k = some (.tup ((rkeyOf r.1).map kV)) → RuT K H' v r.2.1 r.2.2 → Q (.ref q) H'
abbrev nCheckedRule : List Str := ["self", "rule", "name", "word", "case", "goal", "moves", "slots", "least", "source"]
theorem scCheckedRule : FnScope nCheckedRule ["self", "rule"] (defScope sB_CheckedRule) := ⟨rfl, rfl, rfl, by decide +kernel, rfl, by decide +kernel, by decide +kernel⟩
theorem g_5 {X : Cx} {pos : Pos} {e1 e2 e3 e4 e5 : Expr} {t1 t2 t3 t4 t5 : TG} {k : Nat} (h1 : PG X e1 t1) (h2 : PG X e2 t2) (h3 : PG X e3 t3) (h4 : PG X e4 t4) (h5 : PG X e5 t5) (hc : X.calm = true := by rfl) (hs1 : (assignEach [e1, e2, e3, e4, e5] X.env).map (·.2) = assign e1 X.env :: (assignEach [e2, e3, e4, e5] X.env).map (·.2) := by rfl)
    (hs2 : (assignEach [e2, e3, e4, e5] X.env).map (·.2) = assign e2 X.env :: (assignEach [e3, e4, e5] X.env).map (·.2) := by rfl) (hs3 : (assignEach [e3, e4, e5] X.env).map (·.2) = assign e3 X.env :: (assignEach [e4, e5] X.env).map (·.2) := by rfl) (hs4 : (assignEach [e4, e5] X.env).map (·.2) = assign e4 X.env :: (assignEach [e5] X.env).map (·.2) := by rfl)
    (hs5 : (assignEach [e5] X.env).map (·.2) = assign e5 X.env :: (assignEach [] X.env).map (·.2) := by rfl)
    (hn : (assignEach [e1, e2, e3, e4, e5] X.env).length = 5 := by rfl) (hst : (assignEach [e1, e2, e3, e4, e5] X.env).findIdx? (·.1) = none := by rfl) : PG X (.Tuple [e1, e2, e3, e4, e5] k pos) (gTup X.K 5 (gCons t1 (gCons t2 (gCons t3 (gCons t4 (gCons t5 gNil)))))) := pg_tup hc (pgs_cons h1 (pgs_cons h2 (pgs_cons h3 (pgs_cons h4 (pgs_cons h5 pgs_nil hs5) hs4) hs3) hs2) hs1) hn hst
theorem nats_kV (l : List Nat) : l.map natV = (l.map fun (n : Nat) => (Sum.inl (n : Int) : Key)).map kV := by
  rw [List.map_map]
  rfl
theorem ok_CheckedRule (T : Tx K mg) : Fc P w K mg base CX0 2 (He.ma K (He.ga K "Book") "checked_rule") ["self", "rule"] [] (spCheckedRule K) := by
  obtain ⟨t1, c1⟩ := T.c_READ
  refine fc_mk T.f_B_CheckedRule scCheckedRule (fun _ _ _ _ _ _ us hl => match us, hl with | [_, _], _ => rfl) (fun vs H Q E h => ?_) (fun cdv A0 outer s0 H vs Q E hr h => ?_)
  · obtain ⟨_, _, _, _, _, _, _, _, _, _, rfl, _⟩ := h
    rfl
  · obtain ⟨x, a, dx, fs, tw, dk, kk, ps, ws, ⟨⟨p, wd, c⟩, g, ms⟩, rfl, hx, _, lw, sw, lk, hk, kn, ⟨ma, sa, sm⟩, ok, s6, go⟩ := h
    have hu := hu_of hr
    obtain ⟨va, ea, pa, rfl, ta⟩ := kn p ok.p
    obtain ⟨vg, eg, pg, rfl, tg⟩ := kn g ok.g
    have kp : DGet H dk (V.str p) (some (.ref pa)) := ea ▸ DGet.k (k := .inr p) hk
    have kg : DGet H dk (V.str g) (some (.ref pg)) := eg ▸ DGet.k (k := .inr g) hk
    refine ⟨_, pss_cons (ps_expr (e_f (ok_Require T) hr T.g_require (pa_cons (e_c op_eq (e_len T.n_len (pv 1)) pe_int) pa_nil)))
      (pss_cons (ps_asg (pv 1) (g_5 (g_n 2 scCheckedRule.nd) (g_n 3 scCheckedRule.nd) (g_n 4 scCheckedRule.nd) (g_n 5 scCheckedRule.nd) (g_n 6 scCheckedRule.nd)))
      (pss_cons (ps_expr (e_f (ok_Require T) hr T.g_require (pa_cons (pe_and (e_din hu (pv 2) (e_fld (pv 0))) (pe_and (e_c op_in_seq (pv 3) (e_fld (pv 0))) (pe_one (e_din hu (pv 5) (e_fld (pv 0)))))) pa_nil)))
      (pss_cons (s_set 7 scCheckedRule.nd (e_ixT (e_dget hu (e_fld (pv 0)) (pv 2)) pe_int))
      (pss_cons (ps_expr (e_f (ok_Require T) hr T.g_require (pa_cons (pe_and (pe_chain op_le op_le pe_int (pv 4) (pv 7)) (pe_and (e_c op_eq (e_len T.n_len (pv 6)) (e_ixT (e_dget hu (e_fld (pv 0)) (pv 5)) pe_int)) (pe_one (e_f (ok_AreDifferent T) hr T.g_are_different (pa_cons (pv 6) pa_nil))))) pa_nil)))
      (pss_cons (s_set 8 scCheckedRule.nd (pe_ifExp (t_c op_eq (pv 4) pe_int) (pe_glob (v := .int 0) (by rfl) c1 ⟨_, rfl⟩) pe_int))
      (pss_cons (ps_expr (e_f (ok_Require T) hr T.g_require (pa_cons (e_bi (cr_all rfl) T.n_all PyProof.Rows.boot_all (pe_lc (own := [("source", 9)]) (g := gName 9) (tt := tYes) rfl scCheckedRule.nd (pi_tup (pv 6)) (blkOk_by (N := nCheckedRule) (sc := defScope sB_CheckedRule) (by decide +kernel))
          (fun _ _ _ _ _ => pg_name (i := 9) scCheckedRule.nd rfl (Or.inl rfl)) (fun _ _ _ _ _ => pts_nil) (fun _ _ _ _ _ => pe_chain op_le op_le (pv 8) (pv 9) (pv 7)))) pa_nil)))
      (pss_one (ps_ret (pe_tup (pa_cons (pe_tup (pa_cons (pv 2) (pa_cons (pv 3) (pa_cons (pv 4) pa_nil)))) (pa_cons (pe_tup (pa_cons (pv 5) (pa_cons (e_ty call_tuple_of T.n_tuple PyProof.Rows.boot_tuple (pv 6)) pa_nil))) pa_nil))))))))))), ?_⟩
    refine ⟨_, rfl, _, _, rfl, .inr ⟨_, sa, rfl⟩, rfl, congrArg (fun z => [V.bl z]) (decide_eq_true rfl), ?_⟩
    refine ⟨_, rfl, a, _, rfl, sa, rfl, _, _, rfl, _, _, rfl, _, _, rfl, _, _, rfl, _, _, rfl, rfl, ?_⟩
    refine ⟨_, rfl, _, rfl, x, _, dx, _, _, rfl, hx, T.cls_Book, T.a_Book_known, lk, dk, _, rfl, kp, true, rfl, iteT ?_⟩
    refine ⟨_, rfl, _, rfl, x, _, dx, _, _, rfl, hx, T.cls_Book, T.a_Book_words, lw, tw, _, rfl, .inr sw, rfl, flat_strs _, true, congrArg V.bl (by rw [inV_str]; exact decide_eq_true ok.w), iteT ?_⟩
    refine ⟨_, rfl, _, rfl, x, _, dx, _, _, rfl, hx, T.cls_Book, T.a_Book_known, lk, dk, _, rfl, kg, rfl, ?_⟩
    refine ⟨_, rfl, x, _, dx, _, _, rfl, hx, T.cls_Book, T.a_Book_known, lk, _, rfl, dk, _, rfl, kp, pa, _, _, _, rfl, rfl, ta, atI_nat (j := 1) rfl, ?_⟩
    have hc : c ≤ slotsIn ps p := ok.c
    have hcs := s6 p
    refine ⟨_, rfl, _, _, rfl, rfl, true, congrArg V.bl (decide_eq_true (by show (0 : Int) ≤ ((c : Nat) : Int); omega)), iteT ⟨_, rfl, _, _, rfl, rfl, true, congrArg V.bl (decide_eq_true (by show ((c : Nat) : Int) ≤ ((slotsIn ps p : Nat) : Int); omega)), iteT ?_⟩⟩
    refine ⟨_, rfl, _, _, rfl, .inr ⟨_, sm, rfl⟩, _, rfl, x, _, dx, _, _, rfl, hx, T.cls_Book, T.a_Book_known, lk, _, rfl, dk, _, rfl, kg, pg, _, _, _, rfl, rfl, tg, atI_nat (j := 1) rfl, rfl, true, congrArg V.bl (decide_eq_true ?_), iteT ?_⟩
    · show V.int (((ms.map natV).length : Nat) : Int) = V.int ((slotsIn ps g : Nat) : Int)
      have h1 : ms.length = slotsIn ps g := ok.l
      rw [List.length_map, h1]
    have lms : ms.length ≤ 6 := by
      have h1 : ms.length = slotsIn ps g := ok.l
      have := s6 g
      omega
    refine ⟨_, rfl, ma, ms.map fun (n : Nat) => (Sum.inl (n : Int) : Key), rfl, .inr (by rw [← nats_kV]; exact sm), nodup_inl ok.nd, by rw [List.length_map]; omega, fun H1 s1 => ⟨rfl, ?_⟩⟩
    refine ⟨_, rfl, rfl, _, rfl, ?_⟩
    have hx := s1 _ _ hx
    have sm := sameT s1 sm
    have least : ∀ m ∈ ms, (if c = 0 then 0 else 1) ≤ m := fun m hm => by
      by_cases h0 : c = 0
      · rw [if_pos h0]
        omega
      · rw [if_neg h0]
        have h1 : m ≠ 0 := fun z => ok.nz h0 (z ▸ hm)
        omega
    refine if_val (z := natV (if c = 0 then 0 else 1)) (fun h Q q => ?_) (fun h Q q => ?_) ?_
    · rw [natV_zero] at h
      rw [if_pos (of_decide_eq_true h)] at q
      exact q
    · rw [natV_zero] at h
      rw [if_neg (of_decide_eq_false h)] at q
      exact q
    generalize (if c = 0 then 0 else 1) = l at least ⊢
    refine ⟨_, rfl, ma, rfl, ⟨_, sm⟩, fun D hD => ?_⟩
    refine lc_tup (K := K) (a := ma) (xs := ms.map natV) (fun i H2 => Same H1 H2 ∧ H2 D = some (.lst (List.replicate i (.bl true)))) ⟨same_new hD, upd_same⟩ (fun i H2 _ q => sameT q.1 sm) ?_ ?_
    · rintro i v H2 e ⟨s2, d2⟩
      rw [List.getElem?_map] at e
      obtain ⟨m, hm, rfl⟩ := Option.map_eq_some_iff.mp e
      have m1 := least m (List.mem_of_getElem? hm)
      have m2 := ok.le m (List.mem_of_getElem? hm)
      have hi := (List.getElem?_eq_some_iff.mp hm).1
      refine ⟨rfl, _, rfl, _, rfl, _, _, rfl, rfl, true, congrArg V.bl (decide_eq_true (by omega)), iteT ⟨_, rfl, _, _, rfl, rfl, ?_⟩⟩
      have e2 : decide ((m : Int) ≤ ((slotsIn ps p : Nat) : Int)) = true := decide_eq_true (by have m2 : m ≤ slotsIn ps p := m2; omega)
      dsimp only
      rw [e2]
      refine ⟨_, d2, lt_line ?_, same_mut s2 hD, by rw [upd_same, List.replicate_succ']⟩
      rw [List.length_replicate]
      omega
    · rintro H2 ⟨s2, d2⟩
      have s3 := s1.trans s2
      refine ⟨D, List.replicate (ms.map natV).length true, rfl, .of (by rw [d2, List.map_replicate]), congrArg (fun z => [V.bl z]) (List.all_eq_true.mpr fun z hz => by rw [(List.mem_replicate.mp hz).2] <;> rfl), ?_⟩
      refine ⟨_, rfl, _, rfl, _, rfl, by show 3 ≤ sizeLine; decide, fun k hk => ?_⟩
      have s4 : Same H2 (upd H2 k (.tup [V.str p, .str wd, natV c])) := same_new hk
      refine ⟨_, rfl, _, rfl, ma, _, rfl, .inr ⟨sameT (s2.trans s4) sm, by show 2 ≤ sizeLine; decide, fun v hv => ?_⟩⟩
      have s5 : Same (upd H2 k (.tup [V.str p, .str wd, natV c])) (upd (upd H2 k (.tup [V.str p, .str wd, natV c])) v (.tup [V.str g, .ref ma])) := same_new hv
      refine ⟨by show 2 ≤ sizeLine; decide, fun q hq => ?_⟩
      have s6 : Same (upd (upd H2 k (.tup [V.str p, .str wd, natV c])) v (.tup [V.str g, .ref ma])) (upd (upd (upd H2 k (.tup [V.str p, .str wd, natV c])) v (.tup [V.str g, .ref ma])) q (.tup [V.ref k, .ref v])) := same_new hq
      exact go _ q k (.ref v) (s3.trans (s4.trans (s5.trans s6))) (.of upd_same) ((s5.trans s6) _ _ upd_same) ⟨v, _, rfl, .of (s6 _ _ upd_same), ma, rfl, sameT (s2.trans (s4.trans (s5.trans s6))) sm⟩
end
end Fw

/-! Book.__init__. -/
namespace Fw
open PySem PySem.Spec PyProof.Rows L2
/-- all but d stay -/
def SameX (d : Addr) (H H' : Hp) : Prop := ∀ b o, b ≠ d → H b = some o → H' b = some o
theorem SameX.refl (d : Addr) (H : Hp) : SameX d H H := fun _ _ _ h => h
theorem SameX.same {d : Addr} {H H1 H2 : Hp} (a : SameX d H H1) (s : Same H1 H2) : SameX d H H2 := fun b o n h => s b o (a b o n h)
theorem SameX.upd {d : Addr} {H H1 : Hp} {o : HO} (a : SameX d H H1) : SameX d H (upd H1 d o) := fun b u n h => by
  rw [upd_ne n]
  exact a b u n h
theorem SameX.of {d : Addr} {H H1 : Hp} (s : Same H H1) : SameX d H H1 := fun b o _ h => s b o h
def NoT : HO → Prop
  | .tup _ => False
  | .frz _ _ => False
  | _ => True
def NoL : HO → Prop
  | .lst _ => False
  | .frz _ _ => False
  | _ => True
section
variable {K : PySem.W.Frag} {H H' : Hp} {d r : Addr} {u : HO} {xs : List V}
theorem sqT_X (s : SameX d H H') (h : H d = some u) (n : NoT u) (t : SqT K H r xs) : SqT K H' r xs := by
  rcases t with t | t
  · refine .inl ?_
    have ne : r ≠ d := by
      rintro rfl
      rcases t with t | ⟨_, t⟩ <;> (rw [h] at t; cases t; exact n)
    rcases t with t | ⟨_, t⟩
    · exact .inl (s _ _ ne t)
    · exact .inr ⟨_, s _ _ ne t⟩
  · exact .inr t
theorem sqL_X (s : SameX d H H') (h : H d = some u) (n : NoL u) (t : SqL K H r xs) : SqL K H' r xs := by
  rcases t with t | t
  · refine .inl ?_
    have ne : r ≠ d := by
      rintro rfl
      rcases t with t | ⟨_, t⟩ <;> (rw [h] at t; cases t; exact n)
    rcases t with t | ⟨_, t⟩
    · exact .inl (s _ _ ne t)
    · exact .inr ⟨_, s _ _ ne t⟩
  · exact .inr t
theorem RuT_X {v : V} {g : Str} {ms : List Nat} (s : SameX d H H') (h : H d = some u) (n : NoT u) (t : RuT K H v g ms) : RuT K H' v g ms := by
  obtain ⟨a, m, e, t1, m2, e2, t2⟩ := t
  exact ⟨a, m, e, sqT_X s h n t1, m2, e2, sqT_X s h n t2⟩
theorem PlT_X {v : V} {p : Str} {k : Nat} {y : Bool} (s : SameX d H H') (h : H d = some u) (n : NoT u) (t : PlT K H v p k y) : PlT K H' v p k y := by
  obtain ⟨a, e, t1⟩ := t
  exact ⟨a, e, sqT_X s h n t1⟩
theorem RuA_X {a : Addr} {q : Rk × Rv} (s : SameX d H H') (h : H d = some u) (n : NoT u) (t : RuA K H a q) : RuA K H' a q := by
  obtain ⟨m, t1, t2⟩ := t
  exact ⟨m, sqT_X s h n t1, sqT_X s h n t2⟩
end
theorem take_snoc {α : Type} {l : List α} {i : Nat} {x : α} (h : l[i]? = some x) : l.take (i + 1) = l.take i ++ [x] := by
  rw [List.take_add_one, h]
  rfl
theorem not_taken {α : Type} {l : List α} {i : Nat} {x : α} (nd : l.Nodup) (h : l[i]? = some x) : x ∉ l.take i := fun m => by
  obtain ⟨j, hj⟩ := List.mem_iff_getElem?.mp m
  rw [List.getElem?_take] at hj
  split at hj
  · have := nd_inj nd hj h
    omega
  · cases hj
theorem paired_at2 {α β : Type} {F : α → β → Prop} : ∀ {l : List α} {m : List β} {i : Nat} {b : β}, Paired F l m → m[i]? = some b → ∃ a, l[i]? = some a ∧ F a b
  | _, _, _, _, .nil, e => by simp at e
  | _, _, 0, _, .cons r _, e => by
    simp at e
    subst e
    exact ⟨_, rfl, r⟩
  | _, _, i + 1, a, .cons _ t, e => by
    obtain ⟨b, h1, h2⟩ := paired_at2 (i := i) t (by simpa using e)
    exact ⟨b, by simpa using h1, h2⟩
theorem fld_step {H : Hp} {x C dx : Addr} {fs fs' : List (Str × V)} {f : Str} {v : V} (h : H x = some (.ins C dx fs)) (e : putF f v fs = fs') : ∃ H', upd H x (.ins C dx (putF f v fs)) = H' ∧ H' x = some (.ins C dx fs') ∧ SameX x H H' :=
  ⟨_, rfl, by rw [upd_same, e], (SameX.refl x H).upd⟩
theorem SameX.trans {d : Addr} {H H1 H2 : Hp} (a : SameX d H H1) (b : SameX d H1 H2) : SameX d H H2 := fun c o n h => b c o n (a c o n h)
theorem pls_X {K : PySem.W.Frag} {H H' : Hp} {d : Addr} {u : HO} {rs : List Addr} {ps : List Pl} (s : SameX d H H') (h : H d = some u) (n : NoT u) (t : Paired (PlA K H) rs ps) : Paired (PlA K H') rs ps := paired_imp t fun _ _ q => sqT_X s h n q
/-- known places -/
def KnPr (K : PySem.W.Frag) (H : Hp) (kk : List (Key × V)) (ps : List Pl) : Prop := Paired (fun (kv : Key × V) (p : Pl) => kv.1 = Sum.inr p.1 ∧ PlT K H kv.2 p.1 p.2.1 p.2.2) kk ps
theorem KnPr.imp {K : PySem.W.Frag} {H H' : Hp} {kk : List (Key × V)} {ps : List Pl} (h : KnPr K H kk ps) (f : ∀ v p n y, PlT K H v p n y → PlT K H' v p n y) : KnPr K H' kk ps := paired_imp h fun _ _ q => ⟨q.1, f _ _ _ _ q.2⟩
theorem KnPr.get {K : PySem.W.Frag} {H : Hp} {kk : List (Key × V)} {ps : List Pl} (h : KnPr K H kk ps) (p : Str) : (∀ n y, find1 ps p = some (n, y) → ∃ v, valV kk (.inr p) = some v ∧ PlT K H v p n y) ∧ (find1 ps p = none → valV kk (.inr p) = none) := by
  unfold KnPr at h
  induction h with
  | nil => exact ⟨fun n y h => (by cases h), fun _ => rfl⟩
  | @cons kv r tt rl h t ih =>
    obtain ⟨h1, h2⟩ := h
    have e1 : find1 (r :: rl) p = if r.1 = p then some r.2 else find1 rl p := rfl
    rw [e1]
    by_cases e : r.1 = p
    · rw [if_pos e, valV_pos (h1.trans (congrArg Sum.inr e))]
      refine ⟨fun n y hz => ⟨_, rfl, ?_⟩, fun hz => by cases hz⟩
      have q := Option.some.inj hz
      rw [← e]
      rw [q] at h2
      exact h2
    · rw [if_neg e, valV_neg (fun q => e (Sum.inr.inj (h1.symm.trans q)))]
      exact ih
theorem KnPr.known {K : PySem.W.Frag} {H : Hp} {kk : List (Key × V)} {ps : List Pl} {st : Str} (h : KnPr K H kk ps) (ok : PlsOk ps st) : KnownAt K H kk ps := fun p hp => by
  have m := find1_of ok.pd (ok.mem hp)
  exact (h.get p).1 _ _ m
/-- the table -/
def TbPr (K : PySem.W.Frag) (H : Hp) (tt : List (List Key × V)) (rl : List (Rk × Rv)) : Prop := Paired (fun (kv : List Key × V) (r : Rk × Rv) => kv.1 = rkeyOf r.1 ∧ RuT K H kv.2 r.2.1 r.2.2) tt rl
theorem TbPr.imp {K : PySem.W.Frag} {H H' : Hp} {tt : List (List Key × V)} {rl : List (Rk × Rv)} (h : TbPr K H tt rl) (f : ∀ v g ms, RuT K H v g ms → RuT K H' v g ms) : TbPr K H' tt rl := paired_imp h fun _ _ q => ⟨q.1, f _ _ _ q.2⟩
theorem TbPr.get {K : PySem.W.Frag} {H : Hp} {tt : List (List Key × V)} {rl : List (Rk × Rv)} (h : TbPr K H tt rl) (k : Rk) : (∀ r, find1 rl k = some r → ∃ v, valV tt (rkeyOf k) = some v ∧ RuT K H v r.1 r.2) ∧ (find1 rl k = none → valV tt (rkeyOf k) = none) :=
  tab_get (G := fun v (r : Rv) => RuT K H v r.1 r.2) rkeyOf rkeyOf_inj h k
theorem lk_hit {k : Str} {v : V} {r : List (Str × V)} : List.lookup k ((k, v) :: r) = some v := by simp [List.lookup]
theorem lk_miss {k j : Str} {v : V} {r : List (Str × V)} (h : (k == j) = false) : List.lookup k ((j, v) :: r) = List.lookup k r := by simp [List.lookup, h]
theorem pf_miss {f j : Str} {v w : V} {r : List (Str × V)} (h : ¬ j = f) : putF f v ((j, w) :: r) = (j, w) :: putF f v r := by
  show (if j = f then _ else _) = _
  rw [if_neg h]
section
variable {a b c d e : V}
theorem bf2 : putF "places" b [(("words" : Str), a)] = [(("words" : Str), a), ("places", b)] := pf_miss (by decide +kernel)
theorem bf3 : putF "known" c [(("words" : Str), a), ("places", b)] = [(("words" : Str), a), ("places", b), ("known", c)] := by rw [pf_miss (by decide +kernel), pf_miss (by decide +kernel)] <;> rfl
theorem bf4 : putF "start" d [(("words" : Str), a), ("places", b), ("known", c)] = [(("words" : Str), a), ("places", b), ("known", c), ("start", d)] := by rw [pf_miss (by decide +kernel), pf_miss (by decide +kernel), pf_miss (by decide +kernel)] <;> rfl
theorem bf5 : putF "table" e [(("words" : Str), a), ("places", b), ("known", c), ("start", d)] = [(("words" : Str), a), ("places", b), ("known", c), ("start", d), ("table", e)] := by rw [pf_miss (by decide +kernel), pf_miss (by decide +kernel), pf_miss (by decide +kernel), pf_miss (by decide +kernel)] <;> rfl
end
section
variable {X : Cx} {k : Nat} {C p g : Addr} {ps : List Str} {dvs : List V} {sp : Sp} {f : Str} {pos : Pos} {e : Expr} {ta : TE}
theorem e_prop (he : PE X e ta) (c : Cls X.K C) (hp : PropOf X.K C f p g) (F : Fc X.prog X.w X.K X.mg X.base CX0 k g ps dvs sp) (hr : Room (k + 1) X.A) (hab : attributeBase e f X.env (eval e X.env) = eval e X.env := by rfl) : PE X (.Attribute e f pos) (tProp C sp dvs E0 ta) := by
  obtain ⟨fd, ds, G, b, d⟩ := F.ex
  exact pe_prop he c hp G hr b d pass0 hab
end
section
variable {P : Program} {w : World} {K : PySem.W.Frag} {mg : Str → Option Value} {base : Heap}
theorem fn_mk0 {N : List Str} {ps : List Str} {x qual : Str} {params : Arguments} {body : List Stmt} {scope : Scope} {dvs : List V} {kws : List (Str × V)} {f : Addr} {fd : FuncData} {k : Nat} {sp : Sp} (F : FunD K x qual params body scope dvs kws f fd) (S : FnScope N ps scope)
    (len : ∀ vs H Q E, sp vs H Q E → vs.length = ps.length)
    (hbody : ∀ (cdv : Value) (A : Around) (outer : List Env) (s : Shared) (H : Hp) (vs : List V) (Q : VK) (E : XK), Room k (A.deeper (envOfC qual scope s.heap.objs.size f cdv)) → sp vs H Q E →
      ∃ t, PSs (cxOf CX0 P w K mg base N qual scope f cdv A outer s H E).nox body t ∧ t { nx := fun _ H' => Q .non H', rt := Q } (start N vs) H) : FnOk P w K mg base CX0 (k + 1) f fd ps sp :=
  F.ok S len fun cdv A outer s H vs Q E hr h => let ⟨t, h1, h2⟩ := hbody cdv A outer s H vs Q E hr h; ⟨t, h1.nox, h2⟩
abbrev nBInit : List Str := ["self", "words", "places", "start", "rules", "rule", "key", "value", "place"]
abbrev pBInit : List Str := ["self", "words", "places", "start", "rules"]
theorem scBInit : FnScope nBInit pBInit (defScope sB_Init) := ⟨rfl, rfl, rfl, by decide +kernel, rfl, by decide +kernel, by decide +kernel⟩
def spBInit (K : PySem.W.Frag) : Sp := fun vs H Q _ => ∃ x dx lw lp lr rs us, ∃ bk : Bk, vs = [.ref x, .ref lw, .ref lp, .str bk.start, .ref lr] ∧ H x = some (.ins (He.ga K "Book") dx []) ∧ bk.Ok ∧ SqL K H lw (bk.words.map V.str) ∧ SqL K H lp (rs.map V.ref) ∧ Paired (PlA K H) rs bk.places ∧
  SqL K H lr (us.map V.ref) ∧ Paired (RuA K H) us bk.rules ∧ ∀ H', SameX x H H' → BookAt K H' x bk.au → Q .non H'
theorem fn_BInit (T : Tx K mg) {fd : FuncData} (F : FunD K "__init__" "Book.__init__" (defArgs sB_Init) (defBody sB_Init) (defScope sB_Init) [] [] (He.ma K (He.ga K "Book") "__init__") fd) :
    FnOk P w K mg base CX0 4 (He.ma K (He.ga K "Book") "__init__") fd pBInit (spBInit K) := by
  obtain ⟨t1, c1⟩ := T.c_MOST_WORDS
  obtain ⟨t2, c2⟩ := T.c_MOST_PLACES
  refine fn_mk0 F scBInit (fun vs H Q E h => ?_) (fun cdv A0 outer s0 H vs Q E hr h => ?_)
  · obtain ⟨_, _, _, _, _, _, _, _, rfl, _⟩ := h
    rfl
  · obtain ⟨x, dx, lw, lp, lr, rs, us, bk, rfl, hx, ok, sw, sp, pr, sr, ur, go⟩ := h
    have hu := hu_of hr
    refine ⟨_, pss_cons (ps_expr (e_f (ok_RequireNames T) (hr.mono (by decide)) T.g_require_names (pa_cons (pv 1) (pa_cons (pe_glob (v := .int 3) (by rfl) c1 ⟨_, rfl⟩) pa_nil))))
      (pss_cons (s_fld (pv 0) (e_ty call_tuple_of T.n_tuple PyProof.Rows.boot_tuple (pv 1)))
      (pss_cons (s_fld (pv 0) (e_ty call_tuple_of T.n_tuple PyProof.Rows.boot_tuple (pe_lc (own := [("place", 8)]) (g := gName 8) (tt := tYes) rfl scBInit.nd (pi_list (pv 2)) (blkOk_by (N := nBInit) (sc := defScope sB_Init) (by decide +kernel))
          (fun _ _ _ _ _ => pg_name (i := 8) scBInit.nd rfl (Or.inl rfl)) (fun _ _ _ _ _ => pts_nil) (fun _ _ _ _ _ => e_f (ok_CheckedPlace T) (hr.mono (by decide)) T.g_checked_place (pa_cons (pv 8) pa_nil)))))
      (pss_cons (ps_expr (e_f (ok_RequireNames T) (hr.mono (by decide)) T.g_require_names (pa_cons (e_prop (pv 0) T.cls_Book T.p_place_names (ok_PlaceNames T) (hr.mono (by decide))) (pa_cons (pe_glob (v := .int 60) (by rfl) c2 ⟨_, rfl⟩) pa_nil))))
      (pss_cons (s_fld (pv 0) (pe_dc (own := [("place", 8)]) (g := gName 8) (tt := tYes) rfl scBInit.nd (pi_tup (e_fld (pv 0))) (blkOk_by (N := nBInit) (sc := defScope sB_Init) (by decide +kernel))
          (fun _ _ _ _ _ => pg_name (i := 8) scBInit.nd rfl (Or.inl rfl)) (fun _ _ _ _ _ => pts_nil) (fun _ _ _ _ _ => e_ixT (K := K) (pv 8) pe_int) (fun _ _ _ _ _ => pv 8)))
      (pss_cons (ps_expr (e_f (ok_Require T) (hr.mono (by decide)) T.g_require (pa_cons (pe_and (e_din hu (pv 3) (e_fld (pv 0))) (pe_one (e_c op_eq (e_ixT (e_dget hu (e_fld (pv 0)) (pv 3)) pe_int) pe_int))) pa_nil)))
      (pss_cons (s_fld (pv 0) (pv 3))
      (pss_cons (s_fld (pv 0) pe_dnewT)
      (pss_cons (ps_for passN rfl (pi_list (pv 4)) (g_n 5 scBInit.nd)
        (pss_cons (ps_asg (e_m (pv 0) T.cls_Book T.m_Book_checked_rule (ok_CheckedRule T) (hr.mono (by decide)) (pa_cons (pv 5) pa_nil)) (g_2 (g_n 6 scBInit.nd) (g_n 7 scBInit.nd)))
        (pss_cons (ps_expr (e_f (ok_Require T) (hr.mono (by decide)) T.g_require (pa_cons (e_dnotin hu (pv 6) (e_fld (pv 0))) pa_nil)))
        (pss_one (s_dput hu (e_fld (pv 0)) (pv 6) (pv 7))))))
      (pss_one (ps_expr (e_f (ok_Require T) (hr.mono (by decide)) T.g_require (pa_cons (e_c op_eq (e_bi call_len_dT T.n_len PySem.boot_len (e_fld (pv 0))) (e_len T.n_len (e_m0 (pv 0) T.cls_Book T.m_Book_asked (ok_Asked T) (hr.mono (by decide))))) pa_nil)))))))))))), ?_⟩
    -- the words
    refine ⟨_, rfl, lw, bk.words, 3, rfl, .inl sw, ok.ws.w1, ok.ws.w3, by decide, ok.ws.wn, ok.ws.wd, fun H1 s1 => ?_⟩
    refine ⟨_, rfl, lw, _, rfl, .inl ⟨sameL s1 sw, fun tw ntw => ?_⟩⟩
    have s2 : Same H1 (upd H1 tw (.tup (bk.words.map V.str))) := same_new ntw
    have h1 := s2 _ _ (s1 _ _ hx)
    refine ⟨_, rfl, x, _, dx, _, rfl, h1, T.cls_Book, T.a_Book_words, by show 0 < 1000; decide, ?_⟩
    obtain ⟨H2, e2, hx2, y2⟩ := fld_step (f := "words") (v := .ref tw) h1 rfl
    refine by_eq (G := fun Hx => Ends.nx _ _ Hx) e2 ?_
    have x2 : SameX x H H2 := (SameX.of (s1.trans s2)).trans y2
    have sw2 : SqT K H2 tw (bk.words.map V.str) := sqT_X y2 h1 trivial (.of upd_same)
    have hx2 : H2 x = some (.ins (He.ga K "Book") dx [("words", V.ref tw)]) := hx2
    clear e2 y2 h1 s2 s1 ntw
    -- the places
    refine ⟨_, rfl, lp, rfl, ⟨_, sqL_X x2 hx trivial sp⟩, fun D hD => ?_⟩
    refine lc_list (K := K) (a := lp) (xs := rs.map V.ref) (fun i H' => Same H2 H' ∧ ∃ qs : List Addr, H' D = some (.lst (qs.map V.ref)) ∧ Paired (PlA K H') qs (bk.places.take i)) ⟨same_new hD, [], upd_same, .nil⟩ (fun i H' _ q => sameL q.1 (sqL_X x2 hx trivial sp)) ?_ ?_
    · rintro i v H3 e ⟨s3, qs, d3, q3⟩
      rw [List.getElem?_map] at e
      obtain ⟨r, hr, rfl⟩ := Option.map_eq_some_iff.mp e
      obtain ⟨p, hp, hpl⟩ := paired_at pr hr
      have p6 := ok.ps.sl p (List.mem_of_getElem? hp)
      have l60 := ok.ps.p60
      refine ⟨rfl, _, rfl, r, p, rfl, sameT s3 (sqT_X x2 hx trivial hpl), p6, fun H4 q s4 pq => ?_⟩
      have d4 := s4 _ _ d3
      refine ⟨_, d4, lt_line ?_, same_mut (s3.trans s4) hD, qs ++ [q], by rw [upd_same, List.map_append] <;> rfl, ?_⟩
      · have := q3.length
        rw [List.length_take] at this
        rw [List.length_map]
        omega
      · rw [take_snoc hp]
        exact paired_snoc (paired_imp q3 fun _ _ z => sqT_upd d4 (sameT s4 z)) (sqT_upd d4 pq)
    rintro H3 ⟨s3, qs, d3, q3⟩
    refine ⟨D, _, rfl, .inl ⟨.of d3, fun tp ntp => ?_⟩⟩
    rw [List.length_map, pr.length, List.take_length] at q3
    have s4 : Same H3 (upd H3 tp (.tup (qs.map V.ref))) := same_new ntp
    have h3 := s4 _ _ (s3 _ _ hx2)
    refine ⟨_, rfl, x, _, dx, _, rfl, h3, T.cls_Book, T.a_Book_places, by show 1 < 1000; decide, ?_⟩
    obtain ⟨H4, e4, hx4, y4⟩ := fld_step (f := "places") (v := .ref tp) h3 bf2
    refine by_eq (G := fun Hx => Ends.nx _ _ Hx) e4 ?_
    have x4 : SameX x H H4 := (x2.same (s3.trans s4)).trans y4
    have sw4 : SqT K H4 tw (bk.words.map V.str) := sqT_X y4 h3 trivial (sameT (s3.trans s4) sw2)
    have sp4 : SqT K H4 tp (qs.map V.ref) := sqT_X y4 h3 trivial (.of upd_same)
    have pr4 : Paired (PlA K H4) qs bk.places := pls_X y4 h3 trivial (paired_imp q3 fun _ _ z => sameT s4 z)
    clear e4 y4 h3 s3 s4 q3 d3 hD ntp sw2 x2
    -- their names
    have l60 : qs.length ≤ 60 := by
      rw [pr4.length]
      exact ok.ps.p60
    refine ⟨_, rfl, x, dx, _, rfl, hx4, x, dx, _, tp, qs, bk.places, rfl, hx4, (lk_miss (by decide +kernel)).trans lk_hit, sp4, pr4, l60, fun H5 q s5 sq5 => ?_⟩
    refine ⟨q, bk.places.map (·.1), 60, rfl, .inr (by rw [List.map_map]; exact sq5), by rw [List.length_map]; exact ok.ps.p1, by rw [List.length_map]; exact ok.ps.p60, by decide, fun z hz => ?_, ok.ps.pd, fun H6 s6 => ?_⟩
    · obtain ⟨p, hp, rfl⟩ := List.mem_map.mp hz
      exact ok.ps.pn p hp
    have s6 := s5.trans s6
    have x6 := x4.same s6
    have hx6 := s6 _ _ hx4
    have sw6 := sameT s6 sw4
    have sp6 := sameT s6 sp4
    have pr6 : Paired (PlA K H6) qs bk.places := paired_imp pr4 fun _ _ z => sameT s6 z
    clear s5 sq5 pr4 sp4 sw4 hx4 x4
    -- known
    refine ⟨_, rfl, x, _, dx, _, _, rfl, hx6, T.cls_Book, T.a_Book_places, (lk_miss (by decide +kernel)).trans lk_hit, tp, rfl, ⟨_, sp6⟩, fun D hD => ?_⟩
    refine dc_tup (K := K) (a := tp) (xs := qs.map V.ref) (fun i H' => Same H6 H' ∧ ∃ kk, H' D = some (.dK kk) ∧ KnPr K H' kk (bk.places.take i)) ⟨same_new hD, [], upd_same, .nil⟩ (fun i H' _ q => sameT q.1 sp6) ?_ ?_
    · rintro i v H7 e ⟨s7, kk, d7, k7⟩
      rw [List.getElem?_map] at e
      obtain ⟨r, hr, rfl⟩ := Option.map_eq_some_iff.mp e
      obtain ⟨p, hp, hpl⟩ := paired_at pr6 hr
      have hpl := sameT s7 hpl
      have hn : valV kk (.inr p.1) = none := (k7.get p.1).2 (find1_none.mpr fun m => by
        rw [List.map_take] at m
        exact not_taken ok.ps.pd (by rw [List.getElem?_map, hp] <;> rfl) m)
      refine ⟨rfl, _, rfl, r, _, 0, _, rfl, rfl, hpl, atI_nat (j := 0) rfl, _, rfl, kk, .inr p.1, rfl, d7, lt_line ?_, same_mut s7 hD, _, upd_same, ?_⟩
      · have := k7.length
        rw [List.length_take] at this
        have := ok.ps.p60
        omega
      · rw [putK_new _ hn, take_snoc hp]
        have y : SameX D H7 (upd H7 D (.dK (kk ++ [(Sum.inr p.1, V.ref r)]))) := (SameX.refl D H7).upd
        exact paired_snoc (k7.imp fun _ _ _ _ z => PlT_X y d7 trivial z) ⟨rfl, r, rfl, sqT_X y d7 trivial hpl⟩
    rintro H7 ⟨s7, kk, d7, k7⟩
    rw [List.length_map, pr6.length, List.take_length] at k7
    have h7 := s7 _ _ hx6
    refine ⟨_, rfl, x, _, dx, _, rfl, h7, T.cls_Book, T.a_Book_known, by show 2 < 1000; decide, ?_⟩
    obtain ⟨H8, e8, hx8, y8⟩ := fld_step (f := "known") (v := .ref D) h7 bf3
    refine by_eq (G := fun Hx => Ends.nx _ _ Hx) e8 ?_
    have x8 : SameX x H H8 := (x6.same s7).trans y8
    have sw8 := sqT_X y8 h7 trivial (sameT s7 sw6)
    have sp8 := sqT_X y8 h7 trivial (sameT s7 sp6)
    have pr8 : Paired (PlA K H8) qs bk.places := pls_X y8 h7 trivial (paired_imp pr6 fun _ _ z => sameT s7 z)
    have xD : D ≠ x := fun z => by
      rw [z, hx6] at hD
      cases hD
    have d8 := y8 _ _ xD d7
    have k8 : KnPr K H8 kk bk.places := k7.imp fun _ _ _ _ z => PlT_X y8 h7 trivial z
    clear e8 y8 h7 k7 d7 s7 hD hx6 pr6 sp6 sw6 x6
    -- the start
    obtain ⟨y, hy⟩ := ok.ps.st
    obtain ⟨v8, ev8, a8, rfl, t8⟩ := (k8.get bk.start).1 0 y (find1_of ok.ps.pd hy)
    have g8 : DGet H8 D (V.str bk.start) (some (.ref a8)) := ev8 ▸ DGet.k (k := .inr bk.start) d8
    refine ⟨_, rfl, _, rfl, x, _, dx, _, _, rfl, hx8, T.cls_Book, T.a_Book_known, (lk_miss (by decide +kernel)).trans ((lk_miss (by decide +kernel)).trans lk_hit), D, _, rfl, g8, true, rfl, iteT ?_⟩
    refine ⟨_, rfl, x, _, dx, _, _, rfl, hx8, T.cls_Book, T.a_Book_known, (lk_miss (by decide +kernel)).trans ((lk_miss (by decide +kernel)).trans lk_hit), _, rfl, D, _, rfl, g8, a8, _, _, _, rfl, rfl, t8, atI_nat (j := 1) rfl, rfl, congrArg (fun z => [V.bl z]) (decide_eq_true rfl), ?_⟩
    refine ⟨_, rfl, _, rfl, x, _, dx, _, rfl, hx8, T.cls_Book, T.a_Book_start, by show 3 < 1000; decide, ?_⟩
    obtain ⟨H9, e9, hx9, y9⟩ := fld_step (f := "start") (v := .str bk.start) hx8 bf4
    refine by_eq (G := fun Hx => Ends.nx _ _ Hx) e9 ?_
    have x9 : SameX x H H9 := x8.trans y9
    have sw9 := sqT_X y9 hx8 trivial sw8
    have sp9 := sqT_X y9 hx8 trivial sp8
    have pr9 : Paired (PlA K H9) qs bk.places := pls_X y9 hx8 trivial pr8
    have d9 := y9 _ _ xD d8
    have k9 : KnPr K H9 kk bk.places := k8.imp fun _ _ _ _ z => PlT_X y9 hx8 trivial z
    clear e9 y9 g8 t8 ev8 k8 d8 pr8 sp8 sw8 x8 hx8
    -- the table
    intro dt ndt
    have s10 : Same H9 (upd H9 dt (.dT [])) := same_new ndt
    have h10 := s10 _ _ hx9
    refine ⟨_, rfl, x, _, dx, _, rfl, h10, T.cls_Book, T.a_Book_table, by show 4 < 1000; decide, ?_⟩
    obtain ⟨H10, e10, hx10, y10⟩ := fld_step (f := "table") (v := .ref dt) h10 bf5
    refine by_eq (G := fun Hx => Ends.nx _ _ Hx) e10 ?_
    have x10 : SameX x H H10 := (x9.same s10).trans y10
    have sw10 := sqT_X y10 h10 trivial (sameT s10 sw9)
    have sp10 := sqT_X y10 h10 trivial (sameT s10 sp9)
    have pr10 : Paired (PlA K H10) qs bk.places := pls_X y10 h10 trivial (paired_imp pr9 fun _ _ z => sameT s10 z)
    have d10 := y10 _ _ xD (s10 _ _ d9)
    have k10 : KnPr K H10 kk bk.places := k9.imp fun _ _ _ _ z => PlT_X y10 h10 trivial (z.rle (.same s10))
    have xt : dt ≠ x := fun z => by
      rw [z, hx9] at ndt
      cases ndt
    have t10 : H10 dt = some (.dT []) := y10 _ _ xt upd_same
    have nt0 : ∀ b o, b ≠ x → H b = some o → b ≠ dt := fun b o nx h z => by
      rw [z] at h nx
      rw [x9 _ _ nx h] at ndt
      cases ndt
    clear e10 y10 h10 s10 k9 d9 pr9 sp9 sw9 x9 hx9
    have hx10 : H10 x = some (.ins (He.ga K "Book") dx (bookFs tw tp D dt bk.start)) := hx10
    have s6 : ∀ p, slotsIn bk.places p ≤ 6 := fun p => by
      unfold slotsIn
      cases e : find1 bk.places p with
      | none => exact Nat.zero_le _
      | some z => exact ok.ps.sl _ (find1_mem e)
    have hXx : ∀ {H' : Hp}, SameX dt H10 H' → H' x = some (.ins (He.ga K "Book") dx (bookFs tw tp D dt bk.start)) := fun {H'} z => z _ _ (Ne.symm xt) hx10
    have hXD : ∀ {H' : Hp}, SameX dt H10 H' → H' D = some (.dK kk) := fun {H'} z => z _ _ (fun q => by rw [q, t10] at d10; cases d10) d10
    refine ⟨_, rfl, lr, rfl, ⟨_, sqL_X x10 hx trivial sr⟩, ?_⟩
    refine for_list (K := K) (a := lr) (xs := us.map V.ref) (fun i σ' H' => ∃ o5 o6 o7 o8 tbl, σ' = [some (.ref x), some (.ref lw), some (.ref lp), some (.str bk.start), some (.ref lr), o5, o6, o7, o8] ∧ SameX dt H10 H' ∧ H' dt = some (.dT tbl) ∧ TbPr K H' tbl (bk.rules.take i))
      ⟨_, _, _, _, [], rfl, SameX.refl _ _, t10, .nil⟩ (fun i σ' H' _ ⟨_, _, _, _, _, _, z, _⟩ => sqL_X z t10 trivial (sqL_X x10 hx trivial sr)) ?_ ?_
    · rintro i v σ' H1 e ⟨o5, o6, o7, o8, tbl, rfl, z1, t1, p1⟩
      rw [List.getElem?_map] at e
      obtain ⟨u, hu', rfl⟩ := Option.map_eq_some_iff.mp e
      obtain ⟨r, hr', hru⟩ := paired_at ur hu'
      have rok := ok.rv r (List.mem_of_getElem? hr')
      have hru := RuA_X z1 t10 trivial (RuA_X x10 hx trivial hru)
      have k1 : KnPr K H1 kk bk.places := k10.imp fun _ _ _ _ z => PlT_X z1 t10 trivial z
      refine ⟨_, rfl, x, dx, _, rfl, hXx z1, bookFs_no (by decide +kernel), _, rfl, x, u, dx, _, tw, D, kk, bk.places, bk.words, r, rfl, hXx z1, bookFs_no (by decide +kernel), bookFs_words, sqT_X z1 t10 trivial sw10, bookFs_known, hXD z1, k1.known ok.ps, hru, rok, s6, fun H2 q k v s2 sq hk rv => ?_⟩
      have z2 := z1.same s2
      refine ⟨q, _, rfl, sq, rfl, _, _, rfl, _, _, rfl, rfl, ?_⟩
      have hn : valV tbl (rkeyOf r.1) = none := (p1.get r.1).2 (find1_none.mpr fun m => by
        rw [List.map_take] at m
        exact not_taken ok.rd (by rw [List.getElem?_map, hr'] <;> rfl) m)
      have t2 := s2 _ _ t1
      have g2 : DGet H2 dt (.ref k) (valV tbl (rkeyOf r.1)) := DGet.t t2 hk
      rw [hn] at g2
      refine ⟨_, rfl, _, rfl, x, _, dx, _, _, rfl, hXx z2, T.cls_Book, T.a_Book_table, bookFs_table, dt, none, rfl, g2, rfl, ?_⟩
      have ltbl : tbl.length < sizeLine := by
        have h1 := p1.length
        have h2 := ok.len
        have h3 := asked_le ok.ps ok.ws
        rw [List.length_take] at h1
        exact lt_line (by omega)
      refine ⟨_, rfl, _, rfl, x, _, dx, _, _, rfl, hXx z2, T.cls_Book, T.a_Book_table, bookFs_table, _, rfl, dt, _, rfl, DPut.t t2 hk ltbl, ?_⟩
      have y3 : SameX dt H2 (upd H2 dt (.dT (putK tbl (rkeyOf r.1) v))) := (SameX.refl dt H2).upd
      refine ⟨_, _, _, _, _, rfl, z2.trans y3, upd_same, ?_⟩
      rw [putK_new _ hn, take_snoc hr']
      have y3 : SameX dt H2 (upd H2 dt (.dT (tbl ++ [(rkeyOf r.1, v)]))) := (SameX.refl dt H2).upd
      exact paired_snoc (p1.imp fun _ _ _ z => RuT_X y3 t2 trivial (z.rle (.same s2))) ⟨rfl, RuT_X y3 t2 trivial rv⟩
    · rintro σ' H1 ⟨o5, o6, o7, o8, tbl, rfl, z1, t1, p1⟩
      rw [List.length_map, ur.length, List.take_length] at p1
      refine ⟨_, rfl, x, _, dx, _, _, rfl, hXx z1, T.cls_Book, T.a_Book_table, bookFs_table, dt, tbl, rfl, t1, ?_⟩
      refine ⟨_, rfl, x, dx, _, rfl, hXx z1, bookFs_no (by decide +kernel), x, dx, _, tp, qs, bk.places, tw, bk.words, rfl, hXx z1, bookFs_places, sqT_X z1 t10 trivial sp10, pls_X z1 t10 trivial pr10, bookFs_words, sqT_X z1 t10 trivial sw10, asked_le ok.ps ok.ws, ok.ps.sl, fun H2 q zs s2 hz lz => ?_⟩
      refine ⟨_, _, rfl, .inl ⟨_, .of hz, rfl⟩, rfl, congrArg (fun z => [V.bl z]) (decide_eq_true ?_), ?_⟩
      · rw [lz, p1.length, ok.len]
      · have z2 := z1.same s2
        refine go _ (fun b o nb hb => z2 b o (nt0 b o nb hb) (x10 b o nb hb)) ?_
        refine ⟨dx, tw, tp, D, dt, kk, tbl, hXx z2, sqT_X z2 t10 trivial sw10, hXD z2, s2 _ _ t1, fun p hp => ?_, fun p wd c hp hw hc => ?_⟩
        · have k2 : KnPr K H2 kk bk.places := k10.imp fun _ _ _ _ z => PlT_X z2 t10 trivial z
          exact (k2.known ok.ps) p hp
        · obtain ⟨r, hr2⟩ := find1_is (ok.all p wd c hp hw hc)
          obtain ⟨v, e1, e2⟩ := (p1.get (p, wd, c)).1 r hr2
          have e3 : bk.au.rule p wd c = r := by
            show (find1 bk.rules (p, wd, c)).getD _ = _
            rw [hr2]
            rfl
          rw [e3]
          exact ⟨v, e1, e2.rle (.same s2)⟩
end
end Fw

/-! The law's parts: place, after, read, pairs. -/
namespace Fw
open PySem PySem.Spec PyProof.Rows L2
/-- parts on the heap -/
structure PaAt (K : PySem.W.Frag) (H : Hp) (a t1 t2 dt : Addr) (rs : List Addr) (kvs : List (List Key × V)) (b : Bk) : Prop where
  l : SqL K H a [.ref t1, .ref t2, .str b.start, .ref dt]
  w : SqT K H t1 (b.words.map V.str)
  p : SqT K H t2 (rs.map V.ref)
  pr : Paired (PlA K H) rs b.places
  d : Rd H dt (.dT kvs)
  r : TbPr K H kvs b.rules
theorem PaAt.rle {K : PySem.W.Frag} {H H' : Hp} {a t1 t2 dt : Addr} {rs : List Addr} {kvs : List (List Key × V)} {b : Bk} (s : Rle H H') (h : PaAt K H a t1 t2 dt rs kvs b) : PaAt K H' a t1 t2 dt rs kvs b :=
  ⟨rleL s h.l, rleT s h.w, rleT s h.p, paired_imp h.pr fun _ _ q => rleT s q, s _ _ trivial h.d, h.r.imp fun _ _ _ q => q.rle s⟩
def PartsAt (K : PySem.W.Frag) (H : Hp) (v : V) (b : Bk) : Prop := ∃ a t1 t2 dt rs kvs, v = .ref a ∧ PaAt K H a t1 t2 dt rs kvs b
theorem PartsAt.rle {K : PySem.W.Frag} {H H' : Hp} {v : V} {b : Bk} (s : Rle H H') (h : PartsAt K H v b) : PartsAt K H' v b := let ⟨a, t1, t2, dt, rs, kvs, e, p⟩ := h; ⟨a, t1, t2, dt, rs, kvs, e, p.rle s⟩
/-- .. whose dict is not locked -/
def PartsM (K : PySem.W.Frag) (H : Hp) (v : V) (b : Bk) : Prop := ∃ a t1 t2 dt rs kvs, v = .ref a ∧ PaAt K H a t1 t2 dt rs kvs b ∧ H dt = some (.dT kvs)
theorem PartsM.at_ {K : PySem.W.Frag} {H : Hp} {v : V} {b : Bk} (h : PartsM K H v b) : PartsAt K H v b := let ⟨a, t1, t2, dt, rs, kvs, e, p, _⟩ := h; ⟨a, t1, t2, dt, rs, kvs, e, p⟩
theorem PartsM.same {K : PySem.W.Frag} {H H' : Hp} {v : V} {b : Bk} (s : Same H H') (h : PartsM K H v b) : PartsM K H' v b := let ⟨a, t1, t2, dt, rs, kvs, e, p, d⟩ := h; ⟨a, t1, t2, dt, rs, kvs, e, p.rle (.same s), s _ _ d⟩
section
variable {P : Program} {w : World} {K : PySem.W.Frag} {mg : Str → Option Value} {base : Heap}
/-! _law_place -/
def PlsAt (K : PySem.W.Frag) (H : Hp) (v : V) (ps : List Pl) : Prop := ∃ a t2 x0 x2 x3 rs, v = .ref a ∧ SqL K H a [x0, .ref t2, x2, x3] ∧ SqT K H t2 (rs.map V.ref) ∧ Paired (PlA K H) rs ps
theorem PlsAt.rle {H H' : Hp} {v : V} {ps : List Pl} (s : Rle H H') (h : PlsAt K H v ps) : PlsAt K H' v ps := let ⟨a, t2, x0, x2, x3, rs, e, l, t, p⟩ := h; ⟨a, t2, x0, x2, x3, rs, e, rleL s l, rleT s t, paired_imp p fun _ _ q => rleT s q⟩
theorem PartsAt.pls {H : Hp} {v : V} {b : Bk} (h : PartsAt K H v b) : PlsAt K H v b.places := let ⟨a, t1, t2, dt, rs, kvs, e, p⟩ := h; ⟨a, t2, _, _, _, rs, e, p.l, p.p, p.pr⟩
def spPlace (K : PySem.W.Frag) : Sp := fun vs H Q _ => ∃ v n, ∃ ps : List Pl, vs = [v, .str n] ∧ PlsAt K H v ps ∧ (ps.map (·.1)).Nodup ∧ n ∈ ps.map (·.1) ∧ ps.length ≤ 60 ∧ ∀ H' r, Same H H' → PlA K H' r (n, slotsIn ps n, yesIn ps n) → Q (.ref r) H'
abbrev nPlace : List Str := ["_law_parts_here", "_law_name", "_law_place_here"]
theorem scPlace : FnScope nPlace ["_law_parts_here", "_law_name"] (defScope sPlace) := ⟨rfl, rfl, rfl, by decide +kernel, rfl, by decide +kernel, by decide +kernel⟩
theorem ok_Place (T : Tx K mg) : Fc P w K mg base CX0 1 (He.ga K "_law_place") ["_law_parts_here", "_law_name"] [] (spPlace K) := by
  refine fc_mk T.f_Place scPlace (fun _ _ _ _ _ _ us hl => match us, hl with | [_, _], _ => rfl) (fun vs H Q E h => ?_) (fun cdv A0 outer s0 H vs Q E hr h => ?_)
  · obtain ⟨_, _, _, rfl, _⟩ := h
    rfl
  · obtain ⟨v, n, ps, rfl, ⟨a, t2, x0, x2, x3, rs, rfl, sl, st, pr⟩, nd, hn, l60, go⟩ := h
    refine ⟨_, pss_one (ps_ret (e_ixL (pe_lc (own := [("_law_place_here", 2)]) (g := gName 2) rfl scPlace.nd (pi_tup (e_ixL (pv 0) pe_int)) (blkOk_by (N := nPlace) (sc := defScope sPlace) (by decide +kernel))
      (fun _ _ _ _ _ => pg_name (i := 2) scPlace.nd rfl (Or.inl rfl)) (fun _ _ _ _ _ => pts_one (t_c op_eq (e_ixT (K := K) (pv 2) pe_int) (pv 1))) (fun _ _ _ _ _ => pv 2)) pe_int)), ?_⟩
    refine ⟨_, rfl, a, _, 1, _, rfl, rfl, sl, atI_nat (j := 1) rfl, t2, rfl, ⟨_, st⟩, fun D hD => ?_⟩
    have at_ : ∀ p ∈ ps, p.1 = n → p = (n, slotsIn ps n, yesIn ps n) := fun p hp e => by
      obtain ⟨m, s, y⟩ := p
      have e : m = n := e
      subst e
      have := find1_of nd hp
      unfold slotsIn yesIn
      rw [this]
      rfl
    refine lc_tup (K := K) (a := t2) (xs := rs.map V.ref) (fun i H2 => Same H H2 ∧ ∃ zs : List Addr, H2 D = some (.lst (zs.map V.ref)) ∧ zs.length ≤ i ∧ (∀ z ∈ zs, PlA K H2 z (n, slotsIn ps n, yesIn ps n)) ∧ (n ∈ (ps.take i).map (·.1) → zs ≠ []))
      ⟨same_new hD, [], upd_same, Nat.le_refl _, (fun z hz => by cases hz), fun h => by simp at h⟩ (fun i H2 _ q => sameT q.1 st) ?_ ?_
    · rintro i x H2 e ⟨s2, zs, d2, lz, az, nz⟩
      rw [List.getElem?_map] at e
      obtain ⟨r, hr, rfl⟩ := Option.map_eq_some_iff.mp e
      obtain ⟨p, hp, hpl⟩ := paired_at pr hr
      have hi := (List.getElem?_eq_some_iff.mp hp).1
      have hpl := sameT s2 hpl
      refine ⟨rfl, _, rfl, r, _, 0, _, rfl, rfl, hpl, atI_nat (j := 0) rfl, _, rfl, rfl, _, rfl, ?_⟩
      refine ite2 (fun c => ?_) (fun c => ?_)
      · have c : p.1 = n := V.str.inj (of_decide_eq_true c)
        have hq := at_ p (List.mem_of_getElem? hp) c
        refine ⟨_, rfl, _, d2, lt_line (by rw [List.length_map]; omega), same_mut s2 hD, zs ++ [r], by rw [upd_same, List.map_append] <;> rfl, by rw [List.length_append]; simp; omega, fun z hz => ?_, fun _ => by simp⟩
        rcases List.mem_append.mp hz with hz | hz
        · exact sqT_upd d2 (az z hz)
        · rw [List.mem_singleton.mp hz, ← hq]
          exact sqT_upd d2 hpl
      · have c : ¬ p.1 = n := fun q => c (decide_eq_true (congrArg V.str q))
        refine ⟨s2, zs, d2, by omega, az, fun h => nz ?_⟩
        rw [take_snoc hp, List.map_append] at h
        rcases List.mem_append.mp h with h | h
        · exact h
        · exact absurd (List.mem_singleton.mp h).symm c
    · rintro H2 ⟨s2, zs, d2, lz, az, nz⟩
      rw [List.length_map, pr.length, List.take_length] at nz
      cases zs with
      | nil => exact absurd rfl (nz hn)
      | cons z zs => exact ⟨D, _, 0, _, rfl, rfl, .of d2, atI_nat (j := 0) rfl, go _ z s2 (az z (by simp))⟩
/-! _law_pairs -/
def spLPairs (K : PySem.W.Frag) : Sp := fun vs H Q _ => ∃ v1 v2 h k, vs = [v1, v2] ∧ StrT K H v1 h ∧ StrT K H v2 k ∧ h.length ≤ 6 ∧ k.length ≤ 6 ∧ ∀ v H', Same H H' → PairsT K H' v (pairsOf h k) → Q v H'
abbrev nLPairs : List Str := ["_law_held", "_law_other_here", "_law_found", "_law_a", "_law_b"]
theorem scLPairs : FnScope nLPairs ["_law_held", "_law_other_here"] (defScope sLPairs) := ⟨rfl, rfl, rfl, by decide +kernel, rfl, by decide +kernel, by decide +kernel⟩
theorem ok_LPairs (T : Tx K mg) : Fc P w K mg base CX0 1 (He.ga K "_law_pairs") ["_law_held", "_law_other_here"] [] (spLPairs K) := by
  refine fc_mk T.f_LPairs scLPairs (fun _ _ _ _ _ _ us hl => match us, hl with | [_, _], _ => rfl) (fun vs H Q E h => ?_) (fun cdv A0 outer s0 H vs Q E hr h => ?_)
  · obtain ⟨_, _, _, _, rfl, _⟩ := h
    rfl
  · obtain ⟨v1, v2, h, k, rfl, ⟨a1, rfl, t1⟩, ⟨a2, rfl, t2⟩, l1, l2, go⟩ := h
    refine ⟨_, pss_cons (s_set 2 scLPairs.nd (pe_lst pa_nil))
      (pss_cons (ps_for passN rfl (pi_range1 (by rfl) T.n_range (pa_cons (e_len T.n_len (pv 0)) pa_nil)) (g_n 3 scLPairs.nd)
        (pss_one (ps_for passN rfl (pi_range1 (by rfl) T.n_range (pa_cons (e_len T.n_len (pv 1)) pa_nil)) (g_n 4 scLPairs.nd)
          (pss_one (ps_if (t_c op_eq (e_ixT (pv 0) (pv 3)) (e_ixT (pv 1) (pv 4))) (pss_one (s_app (pv 2) (pe_tup (pa_cons (e_op op_add (pv 3) pe_int) (pa_cons (e_op op_add (pv 4) pe_int) pa_nil))))) pss_nil)))))
      (pss_one (ps_ret (e_ty call_tuple_of T.n_tuple PyProof.Rows.boot_tuple (pv 2))))), ?_⟩
    refine ⟨by show 0 ≤ sizeLine; decide, fun L nL => ?_⟩
    have s1 : Same H (upd H L (.lst [])) := same_new nL
    have len1 : (((h.map V.str).length : Nat) : Int).toNat = h.length := by rw [List.length_map]; omega
    have len2 : (((k.map V.str).length : Nat) : Int).toNat = k.length := by rw [List.length_map]; omega
    refine ⟨_, rfl, _, _, rfl, .inr ⟨_, sameT s1 t1, rfl⟩, _, rfl, by rw [List.length_map]; omega, by rw [List.length_map]; omega, ?_⟩
    rw [len1]
    refine for_range (fun i σ' H' => ∃ o3 o4, ∃ rs : List Addr, σ' = [some (.ref a1), some (.ref a2), some (.ref L), o3, o4] ∧ Same H H' ∧ H' L = some (.lst (rs.map V.ref)) ∧ Paired (PairT K H') rs (pairsTo h k i)) ⟨_, _, [], rfl, s1, upd_same, .nil⟩ ?_ ?_
    · rintro i σ' H2 hi ⟨o3, o4, rs, rfl, s2, d2, p2⟩
      refine ⟨_, rfl, _, _, rfl, .inr ⟨_, sameT s2 t2, rfl⟩, _, rfl, by rw [List.length_map]; omega, by rw [List.length_map]; omega, ?_⟩
      rw [len2]
      refine for_range (fun j σ' H' => ∃ o4, ∃ rs : List Addr, σ' = [some (.ref a1), some (.ref a2), some (.ref L), some (.int (0 + (i : Nat))), o4] ∧ Same H H' ∧ H' L = some (.lst (rs.map V.ref)) ∧ Paired (PairT K H') rs (pairsTo h k i ++ rowOf h k i j)) ⟨_, rs, rfl, s2, d2, by rw [rowOf_zero, List.append_nil]; exact p2⟩ ?_ ?_
      · rintro j σ' H3 hj ⟨o4, rs, rfl, s3, d3, p3⟩
        have ei : (0 : Int) + (i : Nat) = (i : Nat) := by omega
        have ej : (0 : Int) + (j : Nat) = (j : Nat) := by omega
        refine ⟨_, rfl, _, rfl, a1, _, _, .str h[i], rfl, rfl, sameT s3 t1, at_of ei (by rw [List.getElem?_map, List.getElem?_eq_getElem hi] <;> rfl), ?_⟩
        refine ⟨_, rfl, _, rfl, a2, _, _, .str k[j], rfl, rfl, sameT s3 t2, at_of ej (by rw [List.getElem?_map, List.getElem?_eq_getElem hj] <;> rfl), rfl, _, rfl, ?_⟩
        have dec : decide (V.str h[i] = V.str k[j]) = decide (h[i]? = k[j]?) := by
          rw [decide_eq_decide, List.getElem?_eq_getElem hi, List.getElem?_eq_getElem hj, Option.some_inj]
          exact ⟨fun z => V.str.inj z, fun z => congrArg V.str z⟩
        rw [dec]
        refine ite2 (fun c => ?_) (fun c => ?_)
        · have c := of_decide_eq_true c
          refine ⟨_, rfl, .inl ⟨rfl, _, .of d3⟩, _, rfl, _, _, rfl, rfl, _, rfl, _, _, rfl, rfl, by show 2 ≤ sizeLine; decide, fun q hq => ?_⟩
          have s4 : Same H3 (upd H3 q (.tup [.int (0 + (i : Nat) + 1), .int (0 + (j : Nat) + 1)])) := same_new hq
          have d4 := s4 _ _ d3
          refine ⟨L, _, _, rfl, rfl, d4, ?_, ?_⟩
          · rw [List.length_map, p3.length, List.length_append]
            have b1 := pairsTo_len h k i
            have b2 := rowOf_len h k i j
            have b3 : i * k.length ≤ 6 * 6 := Nat.mul_le_mul (by omega) l2
            exact lt_line (by omega)
          · refine ⟨_, rs ++ [q], rfl, same_mut (s3.trans s4) nL, by rw [upd_same, List.map_append] <;> rfl, ?_⟩
            rw [rowOf_yes c, ← List.append_assoc]
            refine paired_snoc (paired_imp p3 fun _ _ z => sqT_upd d4 (sameT s4 z)) (sqT_upd d4 (.of ?_))
            rw [upd_same, ei, ej]
            rfl
        · have c : ¬ h[i]? = k[j]? := fun z => c (decide_eq_true z)
          refine ⟨_, rs, rfl, s3, d3, ?_⟩
          rw [rowOf_no c]
          exact p3
      · rintro σ' H3 ⟨o4, rs, rfl, s3, d3, p3⟩
        exact ⟨_, _, rs, rfl, s3, d3, by rw [pairsTo_succ]; exact p3⟩
    · rintro σ' H2 ⟨o3, o4, rs, rfl, s2, d2, p2⟩
      refine ⟨_, rfl, L, _, rfl, .inl ⟨.of d2, fun l hl => ?_⟩⟩
      have s3 : Same H2 (upd H2 l (.tup (rs.map V.ref))) := same_new hl
      exact go _ _ (s2.trans s3) ⟨l, rs, rfl, .of upd_same, paired_imp p2 fun _ _ z => sameT s3 z⟩
end
end Fw

/-! after, read. -/
namespace Fw
open PySem PySem.Spec PyProof.Rows L2
theorem ifs_set {c : Bool} {D : Ends} {ta tb : TS} {σ : L2.St} {H : Hp} (σ' : L2.St) (h1 : c = true → ∀ D' : Ends, D'.nx σ' H → ta D' σ H) (h2 : c = false → ∀ D' : Ends, D'.nx σ' H → tb D' σ H) (q : D.nx σ' H) : if c = true then ta D σ H else tb D σ H := by
  cases c with
  | true => exact iteT (h1 rfl D q)
  | false => exact iteF (h2 rfl D q)
section
variable {P : Program} {w : World} {K : PySem.W.Frag} {mg : Str → Option Value} {base : Heap}
theorem HeldS.rle {H H' : Hp} {v : V} {l : List Str} (s : Same H H') (h : HeldS K H v l) : HeldS K H' v l := h.same s
theorem HeldS.sq {H : Hp} {v : V} {l : List Str} (h : HeldS K H v l) : ∃ a, v = .ref a ∧ (SqL K H a (l.map V.str) ∨ SqT K H a (l.map V.str)) := h.s
def spAfter (K : PySem.W.Frag) : Sp := fun vs H Q _ => ∃ v, ∃ b : Bk, ∃ p hv h wd n, vs = [v, .str p, hv, .str wd, .str n] ∧ PartsAt K H v b ∧ b.Ok ∧ p ∈ b.names ∧ wd ∈ b.words ∧ HeldS K H hv h ∧ h.length = slotsIn b.places p ∧
  ∀ H' q t, Same H H' → SqT K H' q [.str (b.au.step (p, h) wd n).1, t] → HeldT K H' t (b.au.step (p, h) wd n).2 → Q (.ref q) H'
abbrev nAfter : List Str := ["_law_parts_here", "_law_place_here", "_law_held", "_law_word", "_law_name", "_law_case", "_law_goal", "_law_moves", "_law_behind", "_law_source"]
abbrev pAfter : List Str := ["_law_parts_here", "_law_place_here", "_law_held", "_law_word", "_law_name"]
theorem scAfter : FnScope nAfter pAfter (defScope sAfter) := ⟨rfl, rfl, rfl, by decide +kernel, rfl, by decide +kernel, by decide +kernel⟩
theorem ok_After (T : Tx K mg) : Fc P w K mg base CX0 1 (He.ga K "_law_after") pAfter [] (spAfter K) := by
  refine fc_mk T.f_After scAfter (fun _ _ _ _ _ _ us hl => match us, hl with | [_, _, _, _, _], _ => rfl) (fun vs H Q E h => ?_) (fun cdv A0 outer s0 H vs Q E hr h => ?_)
  · obtain ⟨_, _, _, _, _, _, _, rfl, _⟩ := h
    rfl
  · obtain ⟨v, b, p, hv, h, wd, n, rfl, ⟨a, t1, t2, dt, rs, kvs, rfl, pa⟩, ok, hp, hw, hh, hl, go⟩ := h
    have hu := hu_of hr
    refine ⟨_, pss_cons (s_set 5 scAfter.nd pe_int)
      (pss_cons (ps_if (t_c op_in_seq (pv 4) (pv 2)) (pss_one (s_set 5 scAfter.nd (e_op op_add (e_index (pv 2) (pv 4)) pe_int))) pss_nil)
      (pss_cons (ps_asg (e_dget hu (e_ixL (pv 0) pe_int) (pe_tup (pa_cons (pv 1) (pa_cons (pv 3) (pa_cons (pv 5) pa_nil))))) (g_2 (g_n 6 scAfter.nd) (g_n 7 scAfter.nd)))
      (pss_cons (s_set 8 scAfter.nd (pe_lst pa_nil))
      (pss_cons (ps_for passN rfl (pi_tup (pv 7)) (g_n 9 scAfter.nd) (pss_one (ps_if (t_c op_eq (pv 9) pe_int) (pss_one (s_app (pv 8) (pv 4))) (pss_one (s_app (pv 8) (e_ix (K := K) (pv 2) (e_op op_sub (pv 9) pe_int)))))))
      (pss_one (ps_ret (pe_tup (pa_cons (pv 6) (pa_cons (e_ty call_tuple_frz T.n_tuple PyProof.Rows.boot_tuple (pv 8)) pa_nil))))))))), ?_⟩
    obtain ⟨ha, rfl, hsq⟩ := hh.sq
    refine ⟨_, rfl, _, rfl, ha, _, rfl, hsq, rfl, flat_strs _, _, rfl, ?_⟩
    rw [inV_str]
    refine ifs_set [some (.ref a), some (.str p), some (.ref ha), some (.str wd), some (.str n), some (natV (caseOf h n)), none, none, none, none] (fun c D' q => ?_) (fun c D' q => ?_) ?_
    · obtain ⟨j, e1, e2, e3⟩ := caseOf_some (of_decide_eq_true c)
      obtain ⟨a', ea, hn⟩ := hh.n (fun z => by rw [z] at e2; cases e2)
      cases ea
      rw [e1] at q
      exact ⟨_, rfl, ha, h, n, j, rfl, hn, _, rfl, rfl, rfl, e2, e3, _, _, rfl, rfl, q⟩
    · have e1 : caseOf h n = 0 := caseOf_zero.mpr (of_decide_eq_false c)
      rw [e1] at q
      exact q
    have hc := caseOf_le h n
    rw [hl] at hc
    obtain ⟨r, hr1⟩ := find1_is (ok.all p wd (caseOf h n) hp hw hc)
    obtain ⟨v1, ev, a1, m1, rfl, ta1, m2, rfl, ta2⟩ := (pa.r.get (p, wd, caseOf h n)).1 r hr1
    have erule : b.au.rule p wd (caseOf h n) = r := by
      show (find1 b.rules (p, wd, caseOf h n)).getD _ = _
      rw [hr1]
      rfl
    have rok := ok.rv _ (find1_mem hr1)
    have estep : b.au.step (p, h) wd n = (r.1, moved h n r.2) := by
      unfold Au.step
      rw [erule]
    rw [estep] at go
    refine ⟨_, rfl, a, _, 3, _, rfl, rfl, pa.l, atI_nat (j := 3) rfl, _, rfl, _, rfl, _, rfl, by show 3 ≤ sizeLine; decide, fun k hk => ?_⟩
    have s1 : Same H (upd H k (.tup [V.str p, .str wd, natV (caseOf h n)])) := same_new hk
    refine ⟨dt, _, rfl, .inr ⟨kvs, rkeyOf (p, wd, caseOf h n), k, Rle.same s1 _ _ trivial pa.d, rfl, upd_same, ev.symm⟩, ?_⟩
    refine ⟨a1, _, rfl, sameT s1 ta1, rfl, _, _, rfl, _, _, rfl, rfl, ?_⟩
    refine ⟨by show 0 ≤ sizeLine; decide, fun L nL => ?_⟩
    have s2 : Same (upd H k (.tup [V.str p, .str wd, natV (caseOf h n)])) (upd (upd H k (.tup [V.str p, .str wd, natV (caseOf h n)])) L (.lst [])) := same_new nL
    have nL0 : H L = none := s1.free nL
    have s3 := s1.trans s2
    have hlen : r.2.length ≤ 6 := by
      rw [rok.l]
      have := ok.good.sm r.1 rok.g
      exact this
    refine ⟨_, rfl, m2, rfl, ⟨_, sameT s3 ta2⟩, ?_⟩
    refine for_tup (K := K) (a := m2) (xs := r.2.map natV) (fun i σ' H' => ∃ o9, σ' = [some (.ref a), some (.str p), some (.ref ha), some (.str wd), some (.str n), some (natV (caseOf h n)), some (.str r.1), some (.ref m2), some (.ref L), o9] ∧ Same H H' ∧
      H' L = some (.lst ((r.2.take i).map fun k => V.str (if k = 0 then n else h.getD (k - 1) n)))) ⟨_, rfl, s3, upd_same⟩ (fun i σ' H' _ ⟨_, _, s, _⟩ => sameT s ta2) ?_ ?_
    · rintro i x σ' H2 e ⟨o9, rfl, s4, d4⟩
      rw [List.getElem?_map] at e
      obtain ⟨m, hm, rfl⟩ := Option.map_eq_some_iff.mp e
      have hmle : m ≤ h.length := by
        rw [hl]
        exact rok.le m (List.mem_of_getElem? hm)
      have hi := (List.getElem?_eq_some_iff.mp hm).1
      have ll : ((r.2.take i).map fun k => V.str (if k = 0 then n else h.getD (k - 1) n)).length < sizeLine := lt_line (by rw [List.length_map, List.length_take]; omega)
      have e2 := take_succ_map (f := fun k => V.str (if k = 0 then n else h.getD (k - 1) n)) hm
      refine ⟨_, rfl, rfl, _, rfl, ?_⟩
      refine ite2 (fun c => ?_) (fun c => ?_)
      · have c : m = 0 := by
          rw [natV_zero] at c
          exact of_decide_eq_true c
        refine ⟨_, rfl, .inl ⟨rfl, _, .of d4⟩, _, rfl, L, _, _, rfl, rfl, d4, ll, ?_⟩
        refine ⟨_, rfl, same_mut s4 nL0, ?_⟩
        rw [upd_same, e2]
        simp [c]
      · have c : ¬ m = 0 := by
          rw [natV_zero] at c
          exact fun z => c (decide_eq_true z)
        refine ⟨_, rfl, .inl ⟨rfl, _, .of d4⟩, _, rfl, _, rfl, _, _, rfl, rfl, ?_⟩
        have hget : h[m - 1]? = some (h.getD (m - 1) n) := (getD_of (by omega)).mp rfl
        have hi' : (h.map V.str)[m - 1]? = some (V.str (h.getD (m - 1) n)) := by rw [List.getElem?_map, hget] <;> rfl
        have hz : (m : Int) - 1 = ((m - 1 : Nat) : Int) := by omega
        have fin : ∃ o9, ([some (V.ref a), some (.str p), some (.ref ha), some (.str wd), some (.str n), some (natV (caseOf h n)), some (.str r.1), some (.ref m2), some (.ref L), some (natV m)] : L2.St) = [some (.ref a), some (.str p), some (.ref ha), some (.str wd), some (.str n), some (natV (caseOf h n)), some (.str r.1), some (.ref m2), some (.ref L), o9] ∧
            Same H (upd H2 L (.lst (((r.2.take i).map fun k => V.str (if k = 0 then n else h.getD (k - 1) n)) ++ [V.str (h.getD (m - 1) n)]))) ∧
            (upd H2 L (.lst (((r.2.take i).map fun k => V.str (if k = 0 then n else h.getD (k - 1) n)) ++ [V.str (h.getD (m - 1) n)]))) L = some (.lst ((r.2.take (i + 1)).map fun k => V.str (if k = 0 then n else h.getD (k - 1) n))) := ⟨_, rfl, same_mut s4 nL0, by rw [upd_same, e2, if_neg c]⟩
        rcases hsq with hsq | hsq
        · exact .inl ⟨ha, _, _, _, rfl, rfl, sameL s4 hsq, at_of hz hi', L, _, _, rfl, rfl, d4, ll, fin⟩
        · exact .inr (.inl ⟨ha, _, _, _, rfl, rfl, sameT s4 hsq, at_of hz hi', L, _, _, rfl, rfl, d4, ll, fin⟩)
    · rintro σ' H2 ⟨o9, rfl, s4, d4⟩
      rw [List.length_map, List.take_length] at d4
      have e : (r.2.map fun k => V.str (if k = 0 then n else h.getD (k - 1) n)) = (moved h n r.2).map V.str := by
        unfold moved
        rw [List.map_map]
        rfl
      rw [e] at d4
      refine ⟨_, rfl, _, rfl, L, _, rfl, .of d4, fun l o hl ho => ?_⟩
      have s5 : Same H2 (upd H2 l (.frz o (.tup ((moved h n r.2).map V.str)))) := same_new hl
      refine ⟨by show 2 ≤ sizeLine; decide, fun q hq => ?_⟩
      have s6 : Same (upd H2 l (.frz o (.tup ((moved h n r.2).map V.str)))) (upd (upd H2 l (.frz o (.tup ((moved h n r.2).map V.str)))) q (.tup [V.str r.1, .ref l])) := same_new hq
      exact go _ q (.ref l) (s4.trans (s5.trans s6)) (.of upd_same) ((HeldT.new ho).same s6)
end
end Fw

/-! read, make. -/
namespace Fw
open PySem PySem.Spec PyProof.Rows L2
def runs {P W N : Type} [DecidableEq N] (A : Au P W) (row : List (W × N)) : P × List N := row.foldl (fun s r => A.step s r.1 r.2) A.init
theorem runs_snoc {P W N : Type} [DecidableEq N] {A : Au P W} {row : List (W × N)} {r : W × N} : runs A (row ++ [r]) = A.step (runs A row) r.1 r.2 := by
  unfold runs
  rw [List.foldl_append]
  rfl
theorem runs_reach {P Q W N : Type} [DecidableEq N] {A : Au P W} {B : Au Q W} : ∀ {row : List (W × N)}, (∀ r ∈ row, r.1 ∈ A.words) → Reach A B (runs A row) (runs B row) := by
  intro row
  suffices h : ∀ (s : P × List N) (t : Q × List N), Reach A B s t → (∀ r ∈ row, r.1 ∈ A.words) → Reach A B (row.foldl (fun s r => A.step s r.1 r.2) s) (row.foldl (fun s r => B.step s r.1 r.2) t) from fun hw => h _ _ .init hw
  induction row with
  | nil => exact fun s t r _ => r
  | cons x l ih =>
    intro s t r hw
    exact ih _ _ (r.step x.1 x.2 (hw x (by simp))) fun y hy => hw y (by simp [hy])
section
variable {P : Program} {w : World} {K : PySem.W.Frag} {mg : Str → Option Value} {base : Heap}
/-- a row on the heap -/
def RowAt (K : PySem.W.Frag) (H : Hp) (ra : Addr) (row : List (Str × Str)) : Prop := ∃ qs : List Addr, SqL K H ra (qs.map V.ref) ∧ Paired (fun q (r : Str × Str) => SqT K H q [.str r.1, .str r.2]) qs row
theorem RowAt.same {H H' : Hp} {ra : Addr} {row : List (Str × Str)} (s : Same H H') (h : RowAt K H ra row) : RowAt K H' ra row := let ⟨qs, a, b⟩ := h; ⟨qs, sameL s a, paired_imp b fun _ _ q => sameT s q⟩
def spLRead (K : PySem.W.Frag) : Sp := fun vs H Q _ => ∃ v, ∃ b : Bk, ∃ ra, ∃ row : List (Str × Str), vs = [v, .ref ra] ∧ PartsAt K H v b ∧ b.Ok ∧ RowAt K H ra row ∧ (∀ r ∈ row, r.1 ∈ b.words) ∧
  ∀ H' q t, Same H H' → SqT K H' q [.str (runs b.au row).1, t] → Q (.ref q) H'
abbrev nLRead : List Str := ["_law_parts_here", "_law_row_here", "_law_place_here", "_law_held", "_law_word", "_law_name"]
theorem scLRead : FnScope nLRead ["_law_parts_here", "_law_row_here"] (defScope sLRead) := ⟨rfl, rfl, rfl, by decide +kernel, rfl, by decide +kernel, by decide +kernel⟩
theorem ok_LRead (T : Tx K mg) : Fc P w K mg base CX0 2 (He.ga K "_law_read") ["_law_parts_here", "_law_row_here"] [] (spLRead K) := by
  refine fc_mk T.f_LRead scLRead (fun _ _ _ _ _ _ us hl => match us, hl with | [_, _], _ => rfl) (fun vs H Q E h => ?_) (fun cdv A0 outer s0 H vs Q E hr h => ?_)
  · obtain ⟨_, _, _, _, rfl, _⟩ := h
    rfl
  · obtain ⟨v, b, ra, row, rfl, pa, ok, ⟨qs, sr, pr⟩, hw, go⟩ := h
    refine ⟨_, pss_cons (s_set 2 scLRead.nd (e_ixL (pv 0) pe_int))
      (pss_cons (s_set 3 scLRead.nd (pe_tup pa_nil))
      (pss_cons (ps_for passN rfl (pi_list (pv 1)) (g_2 (g_n 4 scLRead.nd) (g_n 5 scLRead.nd))
        (pss_one (ps_asg (e_f (ok_After T) hr T.g__law_after (pa_cons (pv 0) (pa_cons (pv 2) (pa_cons (pv 3) (pa_cons (pv 4) (pa_cons (pv 5) pa_nil)))))) (g_2 (g_n 2 scLRead.nd) (g_n 3 scLRead.nd)))))
      (pss_one (ps_ret (pe_tup (pa_cons (pv 2) (pa_cons (pv 3) pa_nil))))))), ?_⟩
    obtain ⟨a, t1, t2, dt, rs, kvs, rfl, pp⟩ := id pa
    refine ⟨_, rfl, a, _, 2, _, rfl, rfl, pp.l, atI_nat (j := 2) rfl, ?_⟩
    refine ⟨by show 0 ≤ sizeLine; decide, fun p1 np1 => ?_⟩
    have s1 : Same H (upd H p1 (.tup [])) := same_new np1
    have h0 : HeldT K (upd H p1 (.tup [])) (.ref p1) [] := ⟨p1, rfl, .of upd_same, fun z => absurd rfl z⟩
    refine ⟨_, rfl, ra, rfl, ⟨_, sameL s1 sr⟩, ?_⟩
    have vals : ∀ i, b.au.Val (runs b.au (row.take i)) := fun i => ((runs_reach (A := b.au) (B := b.au) (row := row.take i) fun r hr => hw r (List.mem_of_mem_take hr)).val ok.good ok.good rfl).1
    refine for_list (K := K) (a := ra) (xs := qs.map V.ref) (fun i σ' H' => ∃ hv o4 o5, σ' = [some (.ref a), some (.ref ra), some (.str (runs b.au (row.take i)).1), some hv, o4, o5] ∧ Same H H' ∧ HeldT K H' hv (runs b.au (row.take i)).2) ⟨_, _, _, rfl, s1, h0⟩ (fun i σ' H' _ ⟨_, _, _, _, s, _⟩ => sameL s sr) ?_ ?_
    · rintro i x σ' H2 e ⟨hv, o4, o5, rfl, s2, hh⟩
      rw [List.getElem?_map] at e
      obtain ⟨q, hq, rfl⟩ := Option.map_eq_some_iff.mp e
      obtain ⟨r, hr1, hrt⟩ := paired_at pr hq
      have vl := vals i
      refine ⟨q, _, rfl, sameT s2 hrt, rfl, _, _, rfl, _, _, rfl, rfl, ?_⟩
      refine ⟨_, rfl, _, rfl, _, rfl, _, rfl, _, rfl, .ref a, b, _, hv, _, r.1, r.2, rfl, pa.rle (.same s2), ok, vl.ok, hw r (List.mem_of_getElem? hr1), .inl hh, vl.len, fun H3 q3 t s3 sq ht => ?_⟩
      refine ⟨q3, _, rfl, sq, rfl, _, _, rfl, _, _, rfl, rfl, ?_⟩
      refine ⟨t, some (.str r.1), some (.str r.2), ?_, s2.trans s3, ?_⟩
      · rw [take_snoc hr1, runs_snoc]
        rfl
      · rw [take_snoc hr1, runs_snoc]
        exact ht
    · rintro σ' H2 ⟨hv, o4, o5, rfl, s2, hh⟩
      rw [List.length_map, pr.length, List.take_length] at hh ⊢
      refine ⟨_, rfl, _, rfl, by show 2 ≤ sizeLine; decide, fun q hq => ?_⟩
      exact go _ q hv (s2.trans (same_new hq)) (.of upd_same)
/-! make -/
theorem fk_BInit (T : Tx K mg) : Fk P w K mg base CX0 4 (He.ma K (He.ga K "Book") "__init__") pBInit 1 ["words", "places", "start", "rules"] gApp (spBInit K) := by
  obtain ⟨fd, F⟩ := T.f_B_Init
  exact ⟨⟨fd, _, fn_BInit T F, kbindsN F 1 ["words", "places", "start", "rules"] (fun vs zs => vs ++ zs) (fun r1 r2 => r1.append r2) (fun _ _ _ _ _ _ us ws h1 h2 => match us, h1, ws, h2 with | [_], _, [_, _, _, _], _ => rfl)⟩, F.kp⟩
end
section
variable {X : Cx}
/-- name = [..], the name a local -/
theorem s_lc (i : Nat) {y : Str} {py : Pos} {elt tg iter : Expr} {ifs : List Expr} {scope : Scope} {own : List (Str × Nat)} {pos spos : Pos} {wi : TI} {g : TG} {tt : TT} {te : TE} (hN : X.N.Nodup) (hi : PI X tg iter wi) (ok : BlkOk X.N X.env.scope scope own)
    (hg : ∀ (s : Shared) (H : Hp) (C : Addr) (cl : List (Str × Addr)) (fp : List Addr), PG (X.blk s H scope (compEnvC scope cl C X.env) fp) tg g) (ht : ∀ (s : Shared) (H : Hp) (C : Addr) (cl : List (Str × Addr)) (fp : List Addr), PTs (X.blk s H scope (compEnvC scope cl C X.env) fp) ifs tt)
    (he : ∀ (s : Shared) (H : Hp) (C : Addr) (cl : List (Str × Addr)) (fp : List Addr), PE (X.blk s H scope (compEnvC scope cl C X.env) fp) elt te) (hy : X.N[i]? = some y := by rfl) (hyl : X.env.scope.names.lookup y = some .local := by rfl)
    (hk : X.env.scope.kind = .function := by rfl) (hl : (py.line == pos.line) = true := by rfl) (ha : (scope.names.any fun (n, k) => n == y && (k == .local || k == .cell)) = false := by rfl)
    (hc : X.calm = true := by rfl) (hs : ∀ x, foldedSetIterable iter X.env x = pure x := by intro _; rfl) : PS X (.Assign [.Name y py] (.ListComp elt [⟨tg, iter, ifs, 0⟩] scope pos) spos) (tAsg (tLc wi g tt te (own.map (·.2))) (gName i)) :=
  ps_setLc hc hN hy hyl (sw_true hk hyl hl ha) hi ok hg ht he hs
end
section
variable {X : Cx} {k : Nat} {f C : Addr} {ps ks : List Str} {sp : Sp} {x : Str} {p pos : Pos} {kws : List Keyword} {tk : TA} {gV : List V → List V → List V}
theorem e_mkK (M : Mk X.K C f) (F : Fk X.prog X.w X.K X.mg X.base CX0 k f ps 1 ks gV sp) (hr : Room (k + 1) X.A) (hm : X.mg x = some (.ref C)) (hkw : PK X kws tk) (hg : Gl X x := by rfl)
    (hall : (backToKw pos (keywordEach kws X.env)).all (·.1.isSome) = true := by rfl) (hks : (backToKw pos (keywordEach kws X.env)).filterMap (·.1) = ks := by rfl) (hdb : (x == ("__debug__" : Str)) = false := by decide)
    (hpl : ((backTo pos (starEach [] X.env)).any (·.1) || (backToKw pos (keywordEach kws X.env)).any (·.1.isNone)) = false := by rfl) : PE X (.Call (.Name x p) [] kws pos) (tMakeK C 0 ks.length sp gV E0 tNil tk) := by
  obtain ⟨fd, g, G, b⟩ := F.ex
  exact pe_makeK0 M G hr hg hm b pass0 hkw hall hks hdb hpl
end
section
variable {P : Program} {w : World} {K : PySem.W.Frag} {mg : Str → Option Value} {base : Heap}
def spMake (K : PySem.W.Frag) : Sp := fun vs H Q _ => ∃ v, ∃ b : Bk, vs = [v] ∧ PartsM K H v b ∧ b.Ok ∧ ∀ H' x, Same H H' → BookAt K H' x b.au → Q (.ref x) H'
abbrev nMake : List Str := ["_law_parts_here", "_law_rules", "_law_key"]
theorem scMake : FnScope nMake ["_law_parts_here"] (defScope sMake) := ⟨rfl, rfl, rfl, by decide +kernel, rfl, by decide +kernel, by decide +kernel⟩
theorem ok_Make (T : Tx K mg) : Fc P w K mg base CX0 6 (He.ga K "_law_make") ["_law_parts_here"] [] (spMake K) := by
  refine fc_mk T.f_Make scMake (fun _ _ _ _ _ _ us hl => match us, hl with | [_], _ => rfl) (fun vs H Q E h => ?_) (fun cdv A0 outer s0 H vs Q E hr h => ?_)
  · obtain ⟨_, _, rfl, _⟩ := h
    rfl
  · obtain ⟨v, b, rfl, ⟨a, t1, t2, dt, rs, kvs, rfl, pa, hd⟩, ok, go⟩ := h
    have hu := hu_of hr
    refine ⟨_, pss_cons (ps_lock (s_lc 1 (own := [("_law_key", 2)]) (g := gName 2) (tt := tYes) scMake.nd (pi_keys (e_ixL (K := K) (pv 0) pe_int)) (blkOk_by (N := nMake) (sc := defScope sMake) (by decide +kernel))
        (fun _ _ _ _ _ => pg_name (i := 2) scMake.nd rfl (Or.inl rfl)) (fun _ _ _ _ _ => pts_nil)
        (fun _ _ _ _ _ => pe_tup (pa_cons (e_ixT (K := K) (pv 2) pe_int) (pa_cons (e_ixT (K := K) (pv 2) pe_int) (pa_cons (e_ixT (K := K) (pv 2) pe_int) (pa_cons (e_ixT (K := K) (e_dget hu (e_ixL (K := K) (pv 0) pe_int) (pv 2)) pe_int) (pa_cons (e_ixT (K := K) (e_dget hu (e_ixL (K := K) (pv 0) pe_int) (pv 2)) pe_int) pa_nil))))))))
      (pss_one (ps_ret (e_mkK T.k_Book (fk_BInit T) hr T.g_Book (pk_cons (e_ty call_list_of T.n_list PyProof.Rows.boot_list (e_ixL (pv 0) pe_int)) (pk_cons (e_ty call_list_of T.n_list PyProof.Rows.boot_list (e_ixL (pv 0) pe_int)) (pk_cons (e_ixL (pv 0) pe_int) (pk_cons (pv 1) pk_nil))))))), ?_⟩
    refine ⟨dt, _, hd, trivial, fun od => ?_⟩
    have rl : Rle H (upd H dt (.frz od (.dT kvs))) := .lock hd trivial
    have pl := pa.rle rl
    have hdl : (upd H dt (.frz od (.dT kvs))) dt = some (.frz od (.dT kvs)) := upd_same
    refine ⟨_, rfl, a, _, 3, _, rfl, rfl, pl.l, atI_nat (j := 3) rfl, dt, od, rfl, .inr ⟨kvs, hdl, fun D hD => ?_⟩⟩
    refine turns (walk_keysT (d := dt) (o := od) (kvs := kvs)) (fun i H' => Same (upd H dt (.frz od (.dT kvs))) H' ∧ ∃ us : List Addr, H' D = some (.lst (us.map V.ref)) ∧ Paired (RuA K H') us (b.rules.take i)) ⟨same_new hD, [], upd_same, .nil⟩ (fun i H' _ q => q.1 _ _ hdl) ?_ ?_
    · rintro i x H2 H3 hi ⟨s2, us, d2, p2⟩ ⟨rfl, k, kv, q, ek, rfl, hq⟩
      obtain ⟨r, er, hk, _⟩ := paired_at pa.r ek
      have hk : k = rkeyOf r.1 := hk
      subst hk
      have p3 := pl.rle (.same s2)
      obtain ⟨v1, ev, a1, m1, rfl, ta1, m2, rfl, ta2⟩ := (p3.r.get r.1).1 r.2 (find1_of ok.rd (List.mem_of_getElem? er))
      have tq : SqT K H3 q [V.str r.1.1, .str r.1.2.1, natV r.1.2.2] := .of hq
      have g3 : DGet H3 dt (.ref q) (some (.ref a1)) := .inr ⟨kvs, rkeyOf r.1, q, .inr ⟨od, s2 _ _ hdl⟩, rfl, hq, ev.symm⟩
      refine ⟨rfl, _, rfl, q, _, 0, _, rfl, rfl, tq, atI_nat (j := 0) rfl, ?_⟩
      refine ⟨_, rfl, q, _, 1, _, rfl, rfl, tq, atI_nat (j := 1) rfl, ?_⟩
      refine ⟨_, rfl, q, _, 2, _, rfl, rfl, tq, atI_nat (j := 2) rfl, ?_⟩
      refine ⟨_, rfl, a, _, 3, _, rfl, rfl, p3.l, atI_nat (j := 3) rfl, _, rfl, dt, _, rfl, g3, a1, _, 0, _, rfl, rfl, ta1, atI_nat (j := 0) rfl, ?_⟩
      refine ⟨_, rfl, a, _, 3, _, rfl, rfl, p3.l, atI_nat (j := 3) rfl, _, rfl, dt, _, rfl, g3, a1, _, 1, _, rfl, rfl, ta1, atI_nat (j := 1) rfl, ?_⟩
      refine ⟨by show 5 ≤ sizeLine; decide, fun u hu1 => ?_⟩
      have s4 : Same H3 (upd H3 u (.tup [V.str r.1.1, .str r.1.2.1, natV r.1.2.2, .str r.2.1, .ref m2])) := same_new hu1
      have d4 := s4 _ _ d2
      have li := p2.length
      rw [List.length_take] at li
      have lb := ok.len
      have lc := asked_le ok.ps ok.ws
      refine ⟨_, d4, lt_line (by rw [List.length_map]; omega), same_mut (s2.trans s4) hD, us ++ [u], by rw [upd_same, List.map_append] <;> rfl, ?_⟩
      rw [take_snoc er]
      have y4 : SameX D (upd H3 u (.tup [V.str r.1.1, .str r.1.2.1, natV r.1.2.2, .str r.2.1, .ref m2])) (upd (upd H3 u (.tup [V.str r.1.1, .str r.1.2.1, natV r.1.2.2, .str r.2.1, .ref m2])) D (.lst (us.map V.ref ++ [.ref u]))) := (SameX.refl D _).upd
      exact paired_snoc (paired_imp p2 fun _ _ z => RuA_X y4 d4 trivial (z.same s4)) (RuA_X y4 d4 trivial ⟨m2, .of upd_same, sameT s4 ta2⟩)
    · rintro H2 ⟨s2, us, d2, p2⟩
      rw [pa.r.length, List.take_length] at p2
      have h2 := s2 _ _ hdl
      refine ⟨h2, ?_⟩
      have s3 : Same H (upd H2 dt (.dT kvs)) := same_lock hd s2
      have rl2 : Rle H2 (upd H2 dt (.dT kvs)) := .unlock h2
      have d3 : SqL K (upd H2 dt (.dT kvs)) D (us.map V.ref) := rleL rl2 (.of d2)
      have p3 : Paired (RuA K (upd H2 dt (.dT kvs))) us b.rules := paired_imp p2 fun _ _ ⟨m, x1, x2⟩ => ⟨m, rleT rl2 x1, rleT rl2 x2⟩
      revert s3 d3 p3
      generalize upd H2 dt (.dT kvs) = H3
      intro s3 d3 p3
      have pa3 := pa.rle (.same s3)
      refine ⟨_, rfl, a, _, 0, _, rfl, rfl, pa3.l, atI_nat (j := 0) rfl, t1, _, rfl, .inr pa3.w, fun lw nlw => ?_⟩
      have s4 : Same H3 (upd H3 lw (.lst (b.words.map V.str))) := same_new nlw
      have pa4 := pa3.rle (.same s4)
      refine ⟨_, rfl, a, _, 1, _, rfl, rfl, pa4.l, atI_nat (j := 1) rfl, t2, _, rfl, .inr pa4.p, fun lp nlp => ?_⟩
      have s5 : Same (upd H3 lw (.lst (b.words.map V.str))) (upd (upd H3 lw (.lst (b.words.map V.str))) lp (.lst (rs.map V.ref))) := same_new nlp
      have pa5 := pa4.rle (.same s5)
      refine ⟨_, rfl, a, _, 2, _, rfl, rfl, pa5.l, atI_nat (j := 2) rfl, _, rfl, rfl, rfl, ?_⟩
      intro x dx nx ndx nex
      have s6 := s4.trans s5
      have s7 : Same (upd (upd H3 lw (.lst (b.words.map V.str))) lp (.lst (rs.map V.ref))) (upd (upd (upd (upd H3 lw (.lst (b.words.map V.str))) lp (.lst (rs.map V.ref))) dx (.own x)) x (.ins (He.ga K "Book") dx [])) := same_mut (same_new ndx) nx
      refine ⟨x, dx, lw, lp, D, rs, us, b, rfl, upd_same, ok, .of (s7 _ _ (s5 _ _ upd_same)), .of (s7 _ _ upd_same), paired_imp pa5.pr fun _ _ q => sameT s7 q, sameL (s6.trans s7) d3, paired_imp p3 fun _ _ q => q.same (s6.trans s7), fun H' sx B => ⟨rfl, ?_⟩⟩
      refine go _ x (fun c o hc => sx c o (fun z => ?_) (s7 _ _ ((s3.trans s6) _ _ hc))) B
      rw [z] at hc
      rw [(s3.trans s6) _ _ hc] at nx
      cases nx
end
end Fw

/-! The law's triples: names for a triple's slots. No program. -/
namespace Fw
open PySem PySem.Spec PyProof.Rows L2
def xn (i : Nat) : Str := "x" ++ Str.ofString (toString (i : Int))
def yn (i : Nat) : Str := "y" ++ Str.ofString (toString (i : Int))
theorem xn_inj {i j : Nat} (hi : i < 100000) (hj : j < 100000) (h : xn i = xn j) : i = j := num_inj hi hj (app_inj h)
theorem yn_inj {i j : Nat} (hi : i < 100000) (hj : j < 100000) (h : yn i = yn j) : i = j := num_inj hi hj (app_inj h)
theorem head_app (c : Nat) (x : Str) : ((⟨#[c]⟩ : Str) ++ x).cps[0]? = some c := by
  show (#[c] ++ x.cps)[0]? = some c
  rw [Array.getElem?_append_left (by show 0 < 1; decide)]
  rfl
theorem xy_ne (i j : Nat) : xn i ≠ yn j := fun h => by
  have h1 : (xn i).cps[0]? = (yn j).cps[0]? := congrArg (fun s : Str => s.cps[0]?) h
  have h2 : (xn i).cps[0]? = some 120 := head_app 120 _
  have h3 : (yn j).cps[0]? = some 121 := head_app 121 _
  rw [h2, h3] at h1
  cases h1
theorem xz_ne (i : Nat) : xn i ≠ "z" := fun h => by
  have h1 : (xn i).cps[0]? = ("z" : Str).cps[0]? := congrArg (fun s : Str => s.cps[0]?) h
  have h2 : (xn i).cps[0]? = some 120 := head_app 120 _
  rw [h2] at h1
  cases h1
theorem yz_ne (i : Nat) : yn i ≠ "z" := fun h => by
  have h1 : (yn i).cps[0]? = ("z" : Str).cps[0]? := congrArg (fun s : Str => s.cps[0]?) h
  have h2 : (yn i).cps[0]? = some 121 := head_app 121 _
  rw [h2] at h1
  cases h1
def hx (n : Nat) : List Str := (List.range n).map fun i => xn (i + 1)
def ky (n : Nat) : List Str := (List.range n).map fun i => yn (i + 1)
theorem hx_len (n : Nat) : (hx n).length = n := by
  unfold hx
  rw [List.length_map, List.length_range]
theorem hx_get {n i : Nat} (h : i < n) : (hx n)[i]? = some (xn (i + 1)) := by
  unfold hx
  rw [List.getElem?_map, List.getElem?_range h]
  rfl
theorem ky_len (n : Nat) : (ky n).length = n := by
  unfold ky
  rw [List.length_map, List.length_range]
theorem ky_get {n i : Nat} (h : i < n) : (ky n)[i]? = some (yn (i + 1)) := by
  unfold ky
  rw [List.getElem?_map, List.getElem?_range h]
  rfl
/-- the names that the pairs give -/
def kset (ys : List Str) (l : List (Nat × Nat)) : List Str := l.foldl (fun k p => k.set (p.2 - 1) (xn p.1)) ys
theorem kset_snoc {ys : List Str} {l : List (Nat × Nat)} {p : Nat × Nat} : kset ys (l ++ [p]) = (kset ys l).set (p.2 - 1) (xn p.1) := by
  unfold kset
  rw [List.foldl_append]
  rfl
theorem kset_len : ∀ (l : List (Nat × Nat)) (ys : List Str), (kset ys l).length = ys.length
  | [], ys => rfl
  | p :: l, ys => by
    show (kset (ys.set (p.2 - 1) (xn p.1)) l).length = _
    rw [kset_len l, List.length_set]
theorem kset_no : ∀ (l : List (Nat × Nat)) (ys : List Str) (j : Nat), (∀ p ∈ l, p.2 - 1 ≠ j) → (kset ys l)[j]? = ys[j]?
  | [], ys, j, _ => rfl
  | p :: l, ys, j, h => by
    show (kset (ys.set (p.2 - 1) (xn p.1)) l)[j]? = _
    rw [kset_no l _ j fun q hq => h q (by simp [hq]), List.getElem?_set_ne (h p (by simp))]
theorem kset_yes : ∀ (l : List (Nat × Nat)) (ys : List Str) (j c : Nat), j < ys.length → (∃ p ∈ l, p.2 - 1 = j) → (∀ p ∈ l, p.2 - 1 = j → p.1 = c) → (kset ys l)[j]? = some (xn c)
  | [], ys, j, c, _, h, _ => by
    obtain ⟨p, hp, _⟩ := h
    cases hp
  | p :: l, ys, j, c, hj, h, u => by
    show (kset (ys.set (p.2 - 1) (xn p.1)) l)[j]? = _
    by_cases e : ∃ q ∈ l, q.2 - 1 = j
    · exact kset_yes l _ j c (by rw [List.length_set]; exact hj) e fun q hq => u q (by simp [hq])
    · rw [kset_no l _ j fun q hq z => e ⟨q, hq, z⟩]
      obtain ⟨q, hq, z⟩ := h
      rcases List.mem_cons.mp hq with e2 | hq
      · rw [← e2, z, List.getElem?_set_self hj, u q (by rw [e2]; simp) z]
      · exact absurd ⟨q, hq, z⟩ e
section
variable {h k : List Str}
/-- the value at j -/
theorem kset_at (nh : h.Nodup) {j : Nat} (hj : j < k.length) : (∀ a, a < h.length → h[a]? = k[j]? → (kset (ky k.length) (pairsOf h k))[j]? = some (xn (a + 1))) ∧ ((∀ a, a < h.length → h[a]? ≠ k[j]?) → (kset (ky k.length) (pairsOf h k))[j]? = some (yn (j + 1))) := by
  constructor
  · intro a ha e
    refine kset_yes _ _ j (a + 1) (by rw [ky_len]; exact hj) ⟨(a + 1, j + 1), mem_pairs.mpr ⟨a, j, ha, hj, e, rfl, rfl⟩, rfl⟩ fun p hp z => ?_
    obtain ⟨p1, p2⟩ := p
    obtain ⟨a', b', ha', hb', e', rfl, rfl⟩ := mem_pairs.mp hp
    have z : b' + 1 - 1 = j := z
    have : b' = j := by omega
    subst this
    have e2 := e'.trans e.symm
    rw [List.getElem?_eq_getElem ha'] at e2
    have := nd_inj nh (List.getElem?_eq_getElem ha') e2.symm
    omega
  · intro no
    rw [kset_no _ _ j fun p hp z => ?_, ky_get hj]
    obtain ⟨p1, p2⟩ := p
    obtain ⟨a', b', ha', hb', e', rfl, rfl⟩ := mem_pairs.mp hp
    have z : b' + 1 - 1 = j := z
    have : b' = j := by omega
    subst this
    exact no a' ha' e'
theorem kset_pairs (nh : h.Nodup) (nk : k.Nodup) (l1 : h.length < 90000) (l2 : k.length < 90000) : (kset (ky k.length) (pairsOf h k)).Nodup ∧ (hx h.length).Nodup ∧ pairsOf (hx h.length) (kset (ky k.length) (pairsOf h k)) = pairsOf h k := by
  have lk : (kset (ky k.length) (pairsOf h k)).length = k.length := by rw [kset_len, ky_len]
  have cases_ : ∀ j, j < k.length → (∃ a, a < h.length ∧ h[a]? = k[j]?) ∨ (∀ a, a < h.length → h[a]? ≠ k[j]?) := fun j _ => by
    by_cases e : ∃ a, a < h.length ∧ h[a]? = k[j]?
    · exact .inl e
    · exact .inr fun a ha q => e ⟨a, ha, q⟩
  have key : ∀ a b, a < h.length → b < k.length → ((hx h.length)[a]? = (kset (ky k.length) (pairsOf h k))[b]? ↔ h[a]? = k[b]?) := fun a b ha hb => by
    obtain ⟨h1, h2⟩ := kset_at (h := h) (k := k) nh hb
    rw [hx_get ha]
    rcases cases_ b hb with ⟨a', ha', e⟩ | no
    · rw [h1 a' ha' e, Option.some_inj]
      constructor
      · intro q
        have := xn_inj (by omega) (by omega) q
        have : a = a' := by omega
        rw [this]
        exact e
      · intro q
        have e2 := q.trans e.symm
        rw [List.getElem?_eq_getElem ha] at e2
        have := nd_inj nh (List.getElem?_eq_getElem ha) e2.symm
        rw [this]
    · rw [h2 no, Option.some_inj]
      exact ⟨fun q => absurd q (xy_ne _ _), fun q => absurd q (no a ha)⟩
  refine ⟨?_, ?_, ?_⟩
  · rw [List.Nodup, List.pairwise_iff_getElem]
    intro i j hi hj hij q
    rw [lk] at hi hj
    have q : (kset (ky k.length) (pairsOf h k))[i]? = (kset (ky k.length) (pairsOf h k))[j]? := by
      rw [List.getElem?_eq_getElem (by rw [lk]; exact hi), List.getElem?_eq_getElem (by rw [lk]; exact hj), q]
    obtain ⟨i1, i2⟩ := kset_at (h := h) (k := k) nh hi
    obtain ⟨j1, j2⟩ := kset_at (h := h) (k := k) nh hj
    rcases cases_ i hi with ⟨a, ha, e⟩ | no
    · rcases cases_ j hj with ⟨a', ha', e'⟩ | no'
      · rw [i1 a ha e, j1 a' ha' e', Option.some_inj] at q
        have := xn_inj (by omega) (by omega) q
        have : a = a' := by omega
        subst this
        have e2 := e.symm.trans e'
        rw [List.getElem?_eq_getElem hi] at e2
        have := nd_inj nk (List.getElem?_eq_getElem hi) e2.symm
        omega
      · rw [i1 a ha e, j2 no', Option.some_inj] at q
        exact xy_ne _ _ q
    · rcases cases_ j hj with ⟨a', ha', e'⟩ | no'
      · rw [i2 no, j1 a' ha' e', Option.some_inj] at q
        exact xy_ne _ _ q.symm
      · rw [i2 no, j2 no', Option.some_inj] at q
        have := yn_inj (by omega) (by omega) q
        omega
  · unfold hx List.Nodup
    rw [List.pairwise_map]
    refine List.Pairwise.imp_of_mem (fun {a b} ha hb n q => n ?_) List.nodup_range
    have ha := List.mem_range.mp ha
    have hb := List.mem_range.mp hb
    have := xn_inj (by omega) (by omega) q
    omega
  · exact pairs_congr (by rw [hx_len]) lk fun a b ha hb => key a b (by rw [hx_len] at ha; exact ha) (by rw [lk] at hb; exact hb)
theorem kset_nz (nh : h.Nodup) : ("z" : Str) ∉ hx h.length ∧ ("z" : Str) ∉ kset (ky k.length) (pairsOf h k) := by
  constructor
  · intro m
    unfold hx at m
    obtain ⟨i, _, e⟩ := List.mem_map.mp m
    exact xz_ne _ e
  · intro m
    obtain ⟨j, hj⟩ := List.mem_iff_getElem?.mp m
    have lj := (List.getElem?_eq_some_iff.mp hj).1
    rw [kset_len, ky_len] at lj
    obtain ⟨j1, j2⟩ := kset_at (h := h) (k := k) nh lj
    by_cases e : ∃ a, a < h.length ∧ h[a]? = k[j]?
    · obtain ⟨a, ha, e⟩ := e
      rw [j1 a ha e] at hj
      exact xz_ne _ (Option.some.inj hj)
    · rw [j2 fun a ha q => e ⟨a, ha, q⟩] at hj
      exact yz_ne _ (Option.some.inj hj)
end
theorem fresh_str (l : List Str) : ∃ z, z ∉ l := by
  have : ∃ n, ∀ x ∈ l, x.length < n := by
    induction l with
    | nil => exact ⟨0, fun x h => by cases h⟩
    | cons y r ih =>
      obtain ⟨n, hn⟩ := ih
      refine ⟨max n (y.length + 1), fun x hx => ?_⟩
      rcases List.mem_cons.mp hx with e | hx
      · rw [e]
        omega
      · have := hn x hx
        omega
  obtain ⟨n, hn⟩ := this
  refine ⟨⟨Array.replicate n 97⟩, fun m => ?_⟩
  have := hn _ m
  have e : (⟨Array.replicate n 97⟩ : Str).length = n := by
    show (Array.replicate n 97).size = n
    simp
  omega
/-- a triple's own states -/
structure Rep (A B : Au Str Str) (k : TKey) (s t : Str × List Str) : Prop where
  vs : A.Val s
  vt : B.Val t
  e : keyOf s t = k
theorem rep_of {A B : Au Str Str} (GA : A.Good) (GB : B.Good) {s t : Str × List Str} (vs : A.Val s) (vt : B.Val t) : Rep A B (keyOf s t) (s.1, hx (A.slots s.1)) (t.1, kset (ky (B.slots t.1)) (pairsOf s.2 t.2)) ∧ ("z" : Str) ∉ hx (A.slots s.1) ∧ ("z" : Str) ∉ kset (ky (B.slots t.1)) (pairsOf s.2 t.2) := by
  have h1 := GA.sm _ vs.ok
  have h2 := GB.sm _ vt.ok
  have e1 := vs.len
  have e2 := vt.len
  obtain ⟨p1, p2, p3⟩ := kset_pairs vs.nd vt.nd (by omega) (by omega)
  obtain ⟨z1, z2⟩ := kset_nz (k := t.2) vs.nd
  rw [e2] at p1 p3
  rw [e1] at p2 p3 z1
  rw [e2] at z2
  refine ⟨⟨⟨vs.ok, hx_len _, p2⟩, ⟨vt.ok, by show (kset _ _).length = _; rw [kset_len, ky_len], p1⟩, ?_⟩, z1, z2⟩
  unfold keyOf
  dsimp only
  rw [p3]
end Fw

/-! _law_triples. -/
namespace Fw
open PySem PySem.Spec PyProof.Rows L2
theorem o_notIn {X : Cx} {K : PySem.W.Frag} (hK : X.K = K := by rfl) : OpR X (compareOp .NotIn) (rIn K true) := hK ▸ op_notIn_seq
theorem o_in {X : Cx} {K : PySem.W.Frag} (hK : X.K = K := by rfl) : OpR X (compareOp .In) (rIn K false) := hK ▸ op_in_seq
/-! ### triples as data -/
def prD2 (p : Nat × Nat) : PyData := .tuple [.int p.1, .int p.2]
def keyD (k : TKey) : PyData := .tuple [.str k.1, .str k.2.1, .tuple (k.2.2.map prD2)]
theorem lay_prs : ∀ l : List (Nat × Nat), PyData.canLayAll0 (l.map prD2) = true
  | [] => by simp [PyData.canLayAll0]
  | p :: r => by
    have := lay_prs r
    simp [PyData.canLayAll0, PyData.canLay0, prD2, this]
theorem dep_prs : ∀ l : List (Nat × Nat), PyData.depthAll (l.map prD2) ≤ 1
  | [] => by simp [PyData.depthAll]
  | p :: r => by
    have := dep_prs r
    have e : PyData.depth (prD2 p) = 1 := by simp [prD2, PyData.depth, PyData.depthAll]
    simp only [List.map_cons, PyData.depthAll]
    omega
theorem eqv_prs : ∀ l m : List (Nat × Nat), PyData.eqvAll (l.map prD2) (m.map prD2) = decide (l = m)
  | [], [] => by simp [PyData.eqvAll]
  | [], _ :: _ => by simp [PyData.eqvAll]
  | _ :: _, [] => by simp [PyData.eqvAll]
  | (a, b) :: r, (c, d) :: t => by
    have ih := eqv_prs r t
    simp only [List.map_cons, PyData.eqvAll, PyData.eqv, prD2, ih]
    by_cases h1 : a = c
    · by_cases h2 : b = d
      · subst h1 h2
        simp
      · have : ((b : Int) == (d : Int)) = false := beq_eq_false_iff_ne.mpr (by omega)
        simp [this, h2]
    · have : ((a : Int) == (c : Int)) = false := beq_eq_false_iff_ne.mpr (by omega)
      simp [this, h1]
theorem keyD_eqv (k l : TKey) : PyData.eqv (keyD k) (keyD l) = decide (k = l) := by
  obtain ⟨p, q, r⟩ := k
  obtain ⟨p', q', r'⟩ := l
  simp only [keyD, PyData.eqv, PyData.eqvAll, eqv_prs]
  by_cases h1 : p = p'
  · by_cases h2 : q = q'
    · subst h1 h2
      simp
    · have : (q == q') = false := by simpa using h2
      simp [this, h2]
  · have : (p == p') = false := by simpa using h1
    simp [this, h1]
def KOk (k : TKey) : Prop := PyData.strOk k.1 = true ∧ PyData.strOk k.2.1 = true
theorem keyD_lay {k : TKey} (h : KOk k) : (keyD k).canLay0 = true := by
  simp [keyD, PyData.canLay0, PyData.canLayAll0, h.1, h.2, lay_prs]
theorem keyD_dep (k : TKey) : (keyD k).depth ≤ 3 := by
  have := dep_prs k.2.2
  simp only [keyD, PyData.depth, PyData.depthAll]
  omega
theorem keyD_shaped {k : TKey} (h : KOk k) : SeqAt.shaped (keyD k) = true := by
  have := keyD_dep k
  show ((keyD k).canLay0 && decide ((keyD k).depth ≤ 64)) = true
  rw [Bool.and_eq_true]
  exact ⟨keyD_lay h, decide_eq_true (by omega)⟩
theorem keyDs_lay : ∀ {l : List TKey}, (∀ k ∈ l, KOk k) → PyData.canLayAll0 (l.map keyD) = true
  | [], _ => by simp [PyData.canLayAll0]
  | k :: r, h => by
    have := keyDs_lay (l := r) fun x hx => h x (by simp [hx])
    simp [PyData.canLayAll0, keyD_lay (h k (by simp)), this]
theorem keyDs_dep : ∀ l : List TKey, PyData.depthAll (l.map keyD) ≤ 3
  | [] => by simp [PyData.depthAll]
  | k :: r => by
    have h1 := keyDs_dep r
    have h2 := keyD_dep k
    simp only [List.map_cons, PyData.depthAll]
    omega
theorem keyDs_shaped {l : List TKey} (h : ∀ k ∈ l, KOk k) : SeqAt.shaped (.list (l.map keyD)) = true := by
  have h1 := keyDs_dep l
  have h2 : PyData.depth (.list (l.map keyD)) ≤ 64 := by
    simp only [PyData.depth]
    omega
  show (PyData.canLay0 (.list (l.map keyD)) && decide (PyData.depth (.list (l.map keyD)) ≤ 64)) = true
  rw [Bool.and_eq_true]
  exact ⟨by simp only [PyData.canLay0]; exact keyDs_lay h, decide_eq_true h2⟩
theorem keyDs_any (k : TKey) : ∀ l : List TKey, ((l.map keyD).any fun z => PyData.eqv z (keyD k)) = decide (k ∈ l)
  | [] => by simp
  | x :: r => by
    rw [List.map_cons, List.any_cons, keyDs_any k r, keyD_eqv]
    by_cases h : x = k
    · simp [h]
    · simp [h, Ne.symm h]
section
variable {K : PySem.W.Frag} {H H' : Hp}
theorem dp_prs : ∀ {rs : List Addr} {l : List (Nat × Nat)}, Paired (PairT K H) rs l → DpAll K H (rs.map V.ref) (l.map prD2)
  | [], _, .nil => .nil
  | _ :: _, _ :: _, .cons h t => .cons (.tup h (.cons (.int _) (.cons (.int _) .nil))) (dp_prs t)
theorem dp_key {v : V} {k : TKey} (h : KeyT K H v k) : Dp K H v (keyD k) := by
  obtain ⟨a, v3, rfl, t, c, rs, rfl, t3, pr⟩ := h
  exact .tup t (.cons (.str _) (.cons (.str _) (.cons (.tup t3 (dp_prs pr)) .nil)))
theorem dp_keys : ∀ {rs : List Addr} {l : List TKey}, Paired (fun r k => KeyT K H (.ref r) k) rs l → DpAll K H (rs.map V.ref) (l.map keyD)
  | [], _, .nil => .nil
  | _ :: _, _ :: _, .cons h t => .cons (dp_key h) (dp_keys t)
/-! ### what the search has -/
structure TriI (K : PySem.W.Frag) (H0 H : Hp) (A B : Au Str Str) (L : Addr) (S : List TKey) : Prop where
  s : Same H0 H
  l : ∃ rs : List Addr, H L = some (.lst (rs.map V.ref)) ∧ Paired (fun r k => KeyT K H (.ref r) k) rs S
  nd : S.Nodup
  re : ∀ k ∈ S, ∃ s t : Str × List Str, Reach A B s t ∧ keyOf s t = k
  z : keyOf (A.init (N := Str)) (B.init (N := Str)) ∈ S
theorem TriI.same {H0 : Hp} {A B : Au Str Str} {L : Addr} {S : List TKey} (h : TriI K H0 H A B L S) (q : Same H H') : TriI K H0 H' A B L S := ⟨h.s.trans q, let ⟨rs, a, b⟩ := h.l; ⟨rs, q _ _ a, paired_imp b fun _ _ z => z.rle (.same q)⟩, h.nd, h.re, h.z⟩
theorem TriI.other {H0 : Hp} {A B : Au Str Str} {L M : Addr} {S : List TKey} {o : HO} {xs : List V} (h : TriI K H0 H A B L S) (hM : H M = some (.lst xs)) (hM0 : H0 M = none) (ne : L ≠ M) : TriI K H0 (upd H M o) A B L S :=
  ⟨same_mut h.s hM0, let ⟨rs, a, b⟩ := h.l; ⟨rs, by rw [upd_ne ne]; exact a, paired_imp b fun _ _ z => z.keep (.upd hM fun q => q)⟩, h.nd, h.re, h.z⟩
end
theorem TriI.few {K : PySem.W.Frag} {H0 H : Hp} {A B : Au Str Str} {L : Addr} {S : List TKey} (h : TriI K H0 H A B L S) (GA : A.Good) (GB : B.Good) (hw : B.words = A.words) (F : Few A B) : S.length ≤ 19000 := F S h.nd fun k hk => by
  obtain ⟨s, t, r, e⟩ := h.re k hk
  obtain ⟨v1, v2⟩ := r.val GA GB hw
  exact ⟨s, t, v1, v2, e⟩
theorem ixN_nat {n j : Nat} (h : j < n) : ixN n (j : Int) = some j := by
  unfold ixN
  first
    | (rw [if_pos (by omega)]; simp; done)
    | (simp; omega)
theorem TriI.x {K : PySem.W.Frag} {H0 H H' : Hp} {A B : Au Str Str} {L M : Addr} {S : List TKey} {xs : List V} (h : TriI K H0 H A B L S) (s : SameX M H H') (hM : H M = some (.lst xs)) (hM0 : H0 M = none) (ne : L ≠ M) : TriI K H0 H' A B L S := by
  refine ⟨fun b o q => s b o (fun z => by rw [z, hM0] at q; cases q) (h.s b o q), ?_, h.nd, h.re, h.z⟩
  obtain ⟨rs, a, b⟩ := h.l
  refine ⟨rs, s _ _ ne a, paired_imp b fun _ _ ⟨c, v3, e, t, c3, rs3, e3, t3, p3⟩ => ⟨c, v3, e, sqT_X s hM trivial t, c3, rs3, e3, sqT_X s hM trivial t3, paired_imp p3 fun _ _ q => sqT_X s hM trivial q⟩⟩
theorem bk_names {b : Bk} (ok : b.Ok) {p : Str} (h : p ∈ b.names) : PyData.strOk p = true := by
  obtain ⟨q, hq, rfl⟩ := List.mem_map.mp h
  exact (ok.ps.pn q hq).ok
theorem TriI.kok {K : PySem.W.Frag} {H0 H : Hp} {b1 b2 : Bk} {L : Addr} {S : List TKey} (h : TriI K H0 H b1.au b2.au L S) (ok1 : b1.Ok) (ok2 : b2.Ok) (hw : b2.words = b1.words) : ∀ k ∈ S, KOk k := fun k hk => by
  obtain ⟨s, t, r, e⟩ := h.re k hk
  obtain ⟨v1, v2⟩ := r.val ok1.good ok2.good hw
  rw [← e]
  exact ⟨bk_names ok1 v1.ok, bk_names ok2 v2.ok⟩
/-- the first k are closed -/
def Cl (A B : Au Str Str) (S : List TKey) (k : Nat) : Prop := ∀ j key, j < k → S[j]? = some key → ∃ (s t : Str × List Str) (C : Str → Prop), A.Val s ∧ B.Val t ∧ keyOf s t = key ∧ Covers C s.2 t.2 ∧ ∀ w ∈ A.words, ∀ n, C n → keyOf (A.step s w n) (B.step t w n) ∈ S
theorem Cl.app {A B : Au Str Str} {S : List TKey} {k : Nat} {x : TKey} (hk : k ≤ S.length) (h : Cl A B S k) : Cl A B (S ++ [x]) k := fun j key hj e => by
  rw [List.getElem?_append_left (by omega)] at e
  obtain ⟨s, t, C, a, b, c, d, f⟩ := h j key hj e
  exact ⟨s, t, C, a, b, c, d, fun w hw n hn => List.mem_append_left _ (f w hw n hn)⟩
theorem Cl.all {A B : Au Str Str} {S : List TKey} (GA : A.Good) (GB : B.Good) (hw : B.words = A.words) (h : Cl A B S S.length) (z : keyOf (A.init (N := Str)) (B.init (N := Str)) ∈ S) {s t : Str × List Str} (r : Reach A B s t) : keyOf s t ∈ S :=
  Reach.closed GA GB hw (fun k => k ∈ S) z (fun k hk => by
    obtain ⟨j, hj⟩ := List.mem_iff_getElem?.mp hk
    exact h j k (List.getElem?_eq_some_iff.mp hj).1 hj) r
section
variable {P : Program} {w : World} {K : PySem.W.Frag} {mg : Str → Option Value} {base : Heap}
def spTriples (K : PySem.W.Frag) : Sp := fun vs H Q _ => ∃ v1 v2, ∃ b1 b2 : Bk, vs = [v1, v2] ∧ PartsAt K H v1 b1 ∧ PartsAt K H v2 b2 ∧ b1.Ok ∧ b2.Ok ∧ b2.words = b1.words ∧ Few b1.au b2.au ∧
  ∀ H' L S, H L = none → TriI K H H' b1.au b2.au L S → (∀ s t : Str × List Str, Reach b1.au b2.au s t → keyOf s t ∈ S) → Q (.ref L) H'
abbrev nTriples : List Str := ["_law_first", "_law_second", "_law_found", "_law_k", "_law_turn", "_law_place_here", "_law_other_here", "_law_pairs_here", "_law_a", "_law_held", "_law_b", "_law_kept", "_law_word", "_law_name", "_law_goal", "_law_behind", "_law_far", "_law_rest", "_law_triple", "_law_one"]
theorem scTriples : FnScope nTriples ["_law_first", "_law_second"] (defScope sTriples) := ⟨rfl, rfl, rfl, by decide +kernel, rfl, by decide +kernel, by decide +kernel⟩
theorem ok_Triples (T : Tx K mg) : Fc P w K mg base CX0 2 (He.ga K "_law_triples") ["_law_first", "_law_second"] [] (spTriples K) := by
  refine fc_mk T.f_Triples scTriples (fun _ _ _ _ _ _ us hl => match us, hl with | [_, _], _ => rfl) (fun vs H Q E h => ?_) (fun cdv A0 outer s0 H vs Q E hr h => ?_)
  · obtain ⟨_, _, _, _, rfl, _⟩ := h
    rfl
  · obtain ⟨v1, v2, b1, b2, rfl, pa1, pa2, ok1, ok2, hw, FW, go⟩ := h
    have hu65 : (A0.deeper (envOfC "_law_triples" (defScope sTriples) s0.heap.objs.size (He.ga K "_law_triples") cdv)).units + 65 < cLine := by
      have := hr.un
      omega
    refine ⟨_, pss_cons (s_set 2 scTriples.nd (pe_lst (pa_cons (pe_tup (pa_cons (e_ixL (pv 0) pe_int) (pa_cons (e_ixL (pv 1) pe_int) (pa_cons (pe_tup pa_nil) pa_nil)))) pa_nil)))
      (pss_cons (s_set 3 scTriples.nd pe_int)
      (pss_cons (ps_for passN rfl (pi_range1 (by rfl) T.n_range (pa_cons pe_int pa_nil)) (g_n 4 scTriples.nd) (pss_one (ps_if (t_c op_lt (pv 3) (e_len T.n_len (pv 2)))
        (pss_cons (ps_asg (e_ixL (pv 2) (pv 3)) (g_3 (g_n 5 scTriples.nd) (g_n 6 scTriples.nd) (g_n 7 scTriples.nd)))
        (pss_cons (s_set 9 scTriples.nd (pe_lc (own := [("_law_a", 8)]) (g := gName 8) (tt := tYes) rfl scTriples.nd (pi_range1 (by rfl) T.n_range (pa_cons (e_ixT (e_f (ok_Place T) hr T.g__law_place (pa_cons (pv 0) (pa_cons (pv 5) pa_nil))) pe_int) pa_nil)) (blkOk_by (N := nTriples) (sc := defScope sTriples) (by decide +kernel))
          (fun _ _ _ _ _ => pg_name (i := 8) scTriples.nd rfl (Or.inl rfl)) (fun _ _ _ _ _ => pts_nil) (fun _ _ _ _ _ => e_op op_add_str pe_str (e_ty call_str_int T.n_str PyProof.Rows.boot_str (e_op op_add (pv 8) pe_int)))))
        (pss_cons (s_lc 11 (own := [("_law_b", 10)]) (g := gName 10) (tt := tYes) scTriples.nd (pi_range1 (by rfl) T.n_range (pa_cons (e_ixT (e_f (ok_Place T) hr T.g__law_place (pa_cons (pv 1) (pa_cons (pv 6) pa_nil))) pe_int) pa_nil)) (blkOk_by (N := nTriples) (sc := defScope sTriples) (by decide +kernel))
          (fun _ _ _ _ _ => pg_name (i := 10) scTriples.nd rfl (Or.inl rfl)) (fun _ _ _ _ _ => pts_nil) (fun _ _ _ _ _ => e_op op_add_str pe_str (e_ty call_str_int T.n_str PyProof.Rows.boot_str (e_op op_add (pv 10) pe_int))))
        (pss_cons (ps_for passN rfl (pi_tup (pv 7)) (g_2 (g_n 8 scTriples.nd) (g_n 10 scTriples.nd)) (pss_one (ps_asg (e_ixL (pv 9) (e_op op_sub (pv 8) pe_int)) (pg_sub (pv 11) (e_op op_sub (pv 10) pe_int) set_list))))
        (pss_cons (ps_for passN rfl (pi_tup (e_ixL (pv 0) pe_int)) (g_n 12 scTriples.nd) (pss_one (ps_for passN rfl (pi_list (e_op op_cat (e_op op_cat (pv 9)
            (pe_lc (own := [("_law_one", 19)]) (g := gName 19) rfl scTriples.nd (pi_list (pv 11)) (blkOk_by (N := nTriples) (sc := defScope sTriples) (by decide +kernel)) (fun _ _ _ _ _ => pg_name (i := 19) scTriples.nd rfl (Or.inl rfl)) (fun _ _ _ _ _ => pts_one (t_c (o_notIn (K := K)) (pv 19) (pv 9))) (fun _ _ _ _ _ => pv 19))) (pe_lst (pa_cons pe_str pa_nil)))) (g_n 13 scTriples.nd)
          (pss_cons (ps_asg (e_f (ok_After T) hr T.g__law_after (pa_cons (pv 0) (pa_cons (pv 5) (pa_cons (pv 9) (pa_cons (pv 12) (pa_cons (pv 13) pa_nil)))))) (g_2 (g_n 14 scTriples.nd) (g_n 15 scTriples.nd)))
          (pss_cons (ps_asg (e_f (ok_After T) hr T.g__law_after (pa_cons (pv 1) (pa_cons (pv 6) (pa_cons (pv 11) (pa_cons (pv 12) (pa_cons (pv 13) pa_nil)))))) (g_2 (g_n 16 scTriples.nd) (g_n 17 scTriples.nd)))
          (pss_cons (s_set 18 scTriples.nd (pe_tup (pa_cons (pv 14) (pa_cons (pv 16) (pa_cons (e_f (ok_LPairs T) hr T.g__law_pairs (pa_cons (pv 15) (pa_cons (pv 17) pa_nil))) pa_nil)))))
          (pss_one (ps_if (t_c (op_notInD hu65) (pv 18) (pv 2)) (pss_one (s_app (pv 2) (pv 18))) pss_nil))))))))
        (pss_one (s_set 3 scTriples.nd (e_op op_add (pv 3) pe_int)))))))) pss_nil)))
      (pss_one (ps_ret (pv 2))))), ?_⟩
    obtain ⟨a1, t1, t1', dt1, rs1, kvs1, rfl, pp1⟩ := id pa1
    obtain ⟨a2, t2, t2', dt2, rs2, kvs2, rfl, pp2⟩ := id pa2
    refine ⟨_, rfl, a1, _, 2, _, rfl, rfl, pp1.l, atI_nat (j := 2) rfl, ?_⟩
    refine ⟨_, rfl, a2, _, 2, _, rfl, rfl, pp2.l, atI_nat (j := 2) rfl, ?_⟩
    refine ⟨by show 0 ≤ sizeLine; decide, fun e0 ne0 => ⟨by show 3 ≤ sizeLine; decide, fun q0 nq0 => ⟨by show 1 ≤ sizeLine; decide, fun L nL => ?_⟩⟩⟩
    have s1 : Same H (upd H e0 (.tup [])) := same_new ne0
    have s2 : Same (upd H e0 (.tup [])) (upd (upd H e0 (.tup [])) q0 (.tup [V.str b1.start, .str b2.start, .ref e0])) := same_new nq0
    have s3 : Same (upd (upd H e0 (.tup [])) q0 (.tup [V.str b1.start, .str b2.start, .ref e0])) (upd (upd (upd H e0 (.tup [])) q0 (.tup [V.str b1.start, .str b2.start, .ref e0])) L (.lst [.ref q0])) := same_new nL
    have hL0 : H L = none := (s1.trans s2).free nL
    have I0 : TriI K H (upd (upd (upd H e0 (.tup [])) q0 (.tup [V.str b1.start, .str b2.start, .ref e0])) L (.lst [.ref q0])) b1.au b2.au L [keyOf (b1.au.init (N := Str)) (b2.au.init (N := Str))] := by
      refine ⟨s1.trans (s2.trans s3), ⟨[q0], upd_same, .cons ⟨q0, _, rfl, .of (s3 _ _ upd_same), e0, [], rfl, .of ((s2.trans s3) _ _ upd_same), .nil⟩ .nil⟩, by simp, fun k hk => ?_, by simp⟩
      rw [List.mem_singleton.mp hk]
      exact ⟨_, _, .init, rfl⟩
    revert I0
    generalize upd (upd (upd H e0 (.tup [])) q0 (.tup [V.str b1.start, .str b2.start, .ref e0])) L (.lst [.ref q0]) = H1
    intro I0
    clear s1 s2 s3
    refine ⟨20000, rfl, by decide, by decide, ?_⟩
    refine for_range (fun i σ' H' => ∃ k S o4 o5 o6 o7 o8 o9 o10 o11 o12 o13 o14 o15 o16 o17 o18 o19, σ' = [some (.ref a1), some (.ref a2), some (.ref L), some (natV k), o4, o5, o6, o7, o8, o9, o10, o11, o12, o13, o14, o15, o16, o17, o18, o19] ∧ TriI K H H' b1.au b2.au L S ∧ k ≤ S.length ∧ (k < S.length → k = i) ∧ Cl b1.au b2.au S k)
      ⟨0, _, _, _, _, _, _, _, _, _, _, _, _, _, _, _, _, _, rfl, I0, Nat.zero_le _, fun _ => rfl, fun j key h => absurd h (Nat.not_lt_zero _)⟩ ?_ ?_
    rotate_left
    · rintro σ' H2 ⟨k, S, o4, o5, o6, o7, o8, o9, o10, o11, o12, o13, o14, o15, o16, o17, o18, o19, rfl, I, kS, kt, cl⟩
      refine ⟨_, rfl, go H2 L S hL0 I fun s t r => ?_⟩
      have hk : k = S.length := by
        by_cases q : k < S.length
        · have h1 := kt q
          have h2 := I.few ok1.good ok2.good hw FW
          have h3 : (20000 : Int).toNat = 20000 := rfl
          omega
        · omega
      exact Cl.all ok1.good ok2.good hw (hk ▸ cl) I.z r
    rintro i σ' H2 hi ⟨k, S, o4, o5, o6, o7, o8, o9, o10, o11, o12, o13, o14, o15, o16, o17, o18, o19, rfl, I, kS, kt, cl⟩
    obtain ⟨rs, hL, pr⟩ := I.l
    refine ⟨_, rfl, _, rfl, _, _, rfl, .inl ⟨_, .inl (.of hL), rfl⟩, _, _, rfl, rfl, _, rfl, ?_⟩
    rw [List.length_map, pr.length]
    refine ite2 (fun lt => ?_) (fun ge => ?_)
    rotate_left
    · have ge : ¬ k < S.length := fun z => ge (decide_eq_true (by omega))
      exact ⟨k, S, _, _, _, _, _, _, _, _, _, _, _, _, _, _, _, _, rfl, I, kS, fun z => absurd z ge, cl⟩
    have lt : k < S.length := by
      have := of_decide_eq_true lt
      omega
    have ki := kt lt
    subst ki
    obtain ⟨key, hkey⟩ : ∃ x, S[k]? = some x := ⟨_, List.getElem?_eq_getElem lt⟩
    obtain ⟨r, hr1, hkt⟩ := paired_at2 pr hkey
    obtain ⟨s, t, hre, rfl⟩ := I.re key (List.mem_of_getElem? hkey)
    obtain ⟨vs, vt⟩ := hre.val ok1.good ok2.good hw
    obtain ⟨rp, z1, z2⟩ := rep_of ok1.good ok2.good vs vt
    obtain ⟨_, v3, e', tq, c3, rs3, rfl, tq3, pr3⟩ := hkt
    cases e'
    refine ⟨_, rfl, _, rfl, L, _, (k : Int), V.ref r, rfl, rfl, .of hL, atI_nat (by rw [List.getElem?_map, hr1] <;> rfl), ?_⟩
    refine ⟨r, _, rfl, tq, rfl, _, _, rfl, _, _, rfl, _, _, rfl, rfl, ?_⟩
    -- held
    refine ⟨_, rfl, _, rfl, .ref a1, s.1, b1.places, rfl, (pa1.rle (.same I.s)).pls, ok1.ps.pd, vs.ok, ok1.ps.p60, fun H3 r3 s3 pl3 => ⟨r3, _, 1, _, rfl, rfl, pl3, atI_nat (j := 1) rfl, _, rfl, ?_, ?_, fun Lh nLh => ?_⟩⟩
    · show -(2 ^ 62) ≤ ((slotsIn b1.places s.1 : Nat) : Int)
      omega
    · have := ok1.good.sm _ vs.ok
      show ((slotsIn b1.places s.1 : Nat) : Int) < 2 ^ 62
      have : slotsIn b1.places s.1 ≤ 6 := this
      omega
    have n1 := ok1.good.sm _ vs.ok
    have n2 := ok2.good.sm _ vt.ok
    have n1 : slotsIn b1.places s.1 ≤ 6 := n1
    have n2 : slotsIn b2.places t.1 ≤ 6 := n2
    have numl : ∀ m : Nat, m < 7 → ((1 + (Str.ofString (toString (((m + 1 : Nat)) : Int))).length) ≤ sizeLine) := fun m hm => by
      have := PySem.W.KT.len_num (n := ((m + 1 : Nat) : Int)) (by omega) (by omega)
      exact le_line (by omega)
    have tn : (((slotsIn b1.places s.1 : Nat) : Int)).toNat = slotsIn b1.places s.1 := by omega
    show ∃ W : Nat → Nat → Hp → Prop, _
    refine lc_range (fun m H' => Same H3 H' ∧ H' Lh = some (.lst ((hx m).map V.str))) ⟨same_new nLh, upd_same⟩ ?_ ?_
    · rintro m H4 hm ⟨s4, d4⟩
      have hm : m < (((slotsIn b1.places s.1 : Nat) : Int)).toNat := hm
      rw [Int.zero_add]
      refine ⟨rfl, _, rfl, _, _, rfl, rfl, _, rfl, num_log (n := m + 1) (by omega), _, _, rfl, rfl, numl m (by omega), _, d4, lt_line (by rw [List.length_map, hx_len]; omega), same_mut s4 nLh, ?_⟩
      rw [upd_same]
      unfold hx
      rw [List.range_succ, List.map_append, List.map_append]
      rfl
    rintro H4 ⟨s4, d4⟩
    rw [tn] at d4
    have I4 := I.same (s3.trans s4)
    have nLh0 : H Lh = none := (I.s.trans s3).free nLh
    -- kept
    refine ⟨_, rfl, _, rfl, .ref a2, t.1, b2.places, rfl, (pa2.rle (.same I4.s)).pls, ok2.ps.pd, vt.ok, ok2.ps.p60, fun H5 r5 s5 pl5 => ⟨r5, _, 1, _, rfl, rfl, pl5, atI_nat (j := 1) rfl, _, rfl, ?_, ?_, fun Lk nLk => ?_⟩⟩
    · show -(2 ^ 62) ≤ ((slotsIn b2.places t.1 : Nat) : Int)
      omega
    · show ((slotsIn b2.places t.1 : Nat) : Int) < 2 ^ 62
      omega
    have tn2 : (((slotsIn b2.places t.1 : Nat) : Int)).toNat = slotsIn b2.places t.1 := by omega
    refine lc_range (fun m H' => Same H5 H' ∧ H' Lk = some (.lst ((ky m).map V.str))) ⟨same_new nLk, upd_same⟩ ?_ ?_
    · rintro m H6 hm ⟨s6, d6⟩
      have hm : m < (((slotsIn b2.places t.1 : Nat) : Int)).toNat := hm
      rw [Int.zero_add]
      refine ⟨rfl, _, rfl, _, _, rfl, rfl, _, rfl, num_log (n := m + 1) (by omega), _, _, rfl, rfl, numl m (by omega), _, d6, lt_line (by rw [List.length_map, ky_len]; omega), same_mut s6 nLk, ?_⟩
      rw [upd_same]
      unfold ky
      rw [List.range_succ, List.map_append, List.map_append]
      rfl
    rintro H6 ⟨s6, d6⟩
    rw [tn2] at d6
    have I6 := I4.same (s5.trans s6)
    have nLk0 : H Lk = none := (I4.s.trans s5).free nLk
    have dh6 := (s5.trans s6) _ _ d4
    have ne1 : Lh ≠ Lk := ne_of_none ((s5) _ _ d4) nLk
    have ne2 : L ≠ Lk := ne_of_none ((s3.trans (s4.trans s5)) _ _ hL) nLk
    have ne3 : L ≠ Lh := ne_of_none (s3 _ _ hL) nLh
    have tq6 := sameT (s3.trans (s4.trans (s5.trans s6))) tq3
    have pr6 : Paired (PairT K H6) rs3 (pairsOf s.2 t.2) := paired_imp pr3 fun _ _ q => sameT (s3.trans (s4.trans (s5.trans s6))) q
    clear pl5 pl3 tq tq3 pr3 hr1 pr hL d4 I4 I s3 s4 s5 s6 nLk nLh
    -- the pairs
    have ls : s.2.length = slotsIn b1.places s.1 := vs.len
    have lt2 : t.2.length = slotsIn b2.places t.1 := vt.len
    refine ⟨_, rfl, c3, rfl, ⟨_, tq6⟩, ?_⟩
    refine for_tup (K := K) (a := c3) (xs := rs3.map V.ref) (fun i σ' H' => ∃ o8 o10, σ' = [some (.ref a1), some (.ref a2), some (.ref L), some (natV k), some (.int (0 + (k : Nat))), some (.str s.1), some (.str t.1), some (.ref c3), o8, some (.ref Lh), o10, some (.ref Lk), o12, o13, o14, o15, o16, o17, o18, o19] ∧ SameX Lk H6 H' ∧ H' Lk = some (.lst ((kset (ky (slotsIn b2.places t.1)) ((pairsOf s.2 t.2).take i)).map V.str)))
      ⟨_, _, rfl, SameX.refl _ _, d6⟩ (fun i σ' H' _ ⟨_, _, _, z, _⟩ => sqT_X z d6 trivial tq6) ?_ ?_
    · rintro i x σ' H7 e ⟨o8, o10, rfl, z7, d7⟩
      rw [List.getElem?_map] at e
      obtain ⟨r7, hr7, rfl⟩ := Option.map_eq_some_iff.mp e
      obtain ⟨⟨a, b⟩, hp7, ht7⟩ := paired_at pr6 hr7
      obtain ⟨a', b', ha', hb', _, rfl, rfl⟩ := mem_pairs.mp (List.mem_of_getElem? hp7)
      have ht7 := sqT_X z7 d6 trivial ht7
      refine ⟨r7, _, rfl, ht7, rfl, _, _, rfl, _, _, rfl, rfl, ?_⟩
      have hza : ((a' + 1 : Nat) : Int) - 1 = ((a' : Nat) : Int) := by omega
      have hzb : ((b' + 1 : Nat) : Int) - 1 = ((b' : Nat) : Int) := by omega
      have lk7 : (kset (ky (slotsIn b2.places t.1)) ((pairsOf s.2 t.2).take i)).length = slotsIn b2.places t.1 := by rw [kset_len, ky_len]
      refine ⟨_, rfl, _, rfl, _, _, rfl, rfl, Lh, _, _, .str (xn (a' + 1)), rfl, rfl, .of (z7 _ _ ne1 dh6), at_of hza (by rw [List.getElem?_map, hx_get (by omega)] <;> rfl), ?_⟩
      refine ⟨_, rfl, _, rfl, _, _, rfl, rfl, Lk, _, _, b', rfl, rfl, d7, ?_, ?_⟩
      · show ixN _ (((b' + 1 : Nat) : Int) - 1) = _
        rw [hzb, List.length_map, lk7]
        exact ixN_nat (by omega)
      · refine ⟨_, _, rfl, z7.upd, ?_⟩
        rw [upd_same, take_snoc hp7, kset_snoc]
        show some (HO.lst _) = some (HO.lst (List.map V.str ((kset _ _).set (b' + 1 - 1) (xn (a' + 1)))))
        rw [List.map_set]
        rfl
    rintro σ' H7 ⟨o8, o10, rfl, z7, d7⟩
    rw [List.length_map, pr6.length, List.take_length] at d7
    have I7 := I6.x z7 d6 nLk0 ne2
    have dh7 := z7 _ _ ne1 dh6
    clear tq6 pr6 d6 I6 dh6 z7
    generalize hks : kset (ky (slotsIn b2.places t.1)) (pairsOf s.2 t.2) = ks at d7
    generalize hhs : hx (slotsIn b1.places s.1) = hs at dh7
    have rp : Rep b1.au b2.au (keyOf s t) (s.1, hs) (t.1, ks) := by
      rw [← hhs, ← hks]
      exact rp
    have z1 : ("z" : Str) ∉ hs := by
      rw [← hhs]
      exact z1
    have z2 : ("z" : Str) ∉ ks := by
      rw [← hks]
      exact z2
    have lhs : hs.length ≤ 6 := by
      rw [← hhs, hx_len]
      exact n1
    have lks : ks.length ≤ 6 := by
      rw [← hks, kset_len, ky_len]
      exact n2
    -- the words
    have pp7 := (pp1.rle (.same I7.s))
    refine ⟨_, rfl, a1, _, 0, _, rfl, rfl, pp7.l, atI_nat (j := 0) rfl, t1, rfl, ⟨_, pp7.w⟩, ?_⟩
    have cov0 : ∀ (S' : List TKey) (x : TKey), (∀ y ∈ S', y ∈ S' ++ [x]) := fun S' x y hy => List.mem_append_left _ hy
    obtain ⟨hL7, _⟩ : (∃ rs : List Addr, H7 L = some (.lst (rs.map V.ref))) ∧ True := let ⟨rs, a, _⟩ := I7.l; ⟨⟨rs, a⟩, trivial⟩
    obtain ⟨rs7, hL7⟩ := hL7
    have cl7 := cl
    refine for_tup (K := K) (a := t1) (xs := b1.words.map V.str) (fun i σ' H' => ∃ S' o12 o13 o14 o15 o16 o17 o18 o19, σ' = [some (.ref a1), some (.ref a2), some (.ref L), some (natV k), some (.int (0 + (k : Nat))), some (.str s.1), some (.str t.1), some (.ref c3), o8, some (.ref Lh), o10, some (.ref Lk), o12, o13, o14, o15, o16, o17, o18, o19] ∧ SameX L H7 H' ∧ TriI K H H' b1.au b2.au L S' ∧ S'[k]? = some (keyOf s t) ∧ Cl b1.au b2.au S' k ∧
        ∀ i', i' < i → ∀ wd, b1.words[i']? = some wd → ∀ n, (n ∈ hs ∨ n ∈ ks ∨ n = "z") → keyOf (b1.au.step (s.1, hs) wd n) (b2.au.step (t.1, ks) wd n) ∈ S')
      ⟨S, _, _, _, _, _, _, _, _, rfl, SameX.refl _ _, I7, hkey, cl, fun i' h => absurd h (Nat.not_lt_zero _)⟩ (fun i σ' H' _ ⟨_, _, _, _, _, _, _, _, _, _, z, _⟩ => sqT_X z hL7 trivial pp7.w) ?_ ?_
    rotate_left
    · rintro σ' H8 ⟨S8, o12, o13, o14, o15, o16, o17, o18, o19, rfl, z8, I8, h8, c8, cov⟩
      refine ⟨_, rfl, _, _, rfl, rfl, k + 1, S8, _, _, _, _, _, _, _, _, _, _, _, _, _, _, _, _, rfl, I8, (List.getElem?_eq_some_iff.mp h8).1, fun _ => rfl, fun j key hj e => ?_⟩
      by_cases hjk : j < k
      · exact c8 j key hjk e
      · have : j = k := by omega
        subst this
        rw [h8] at e
        cases e
        refine ⟨_, _, fun n => n ∈ hs ∨ n ∈ ks ∨ n = "z", rp.vs, rp.vt, rp.e, ⟨fun x hx => .inl hx, fun x hx => .inr (.inl hx), "z", .inr (.inr rfl), z1, z2⟩, fun wd hwd n hn => ?_⟩
        obtain ⟨i', hi'⟩ := List.mem_iff_getElem?.mp hwd
        refine cov i' ?_ wd hi' n hn
        rw [List.length_map]
        exact (List.getElem?_eq_some_iff.mp hi').1
    rintro i x σ' H8 e ⟨S8, o12, o13, o14, o15, o16, o17, o18, o19, rfl, z8, I8, h8, c8, cov⟩
    rw [List.getElem?_map] at e
    obtain ⟨wd, hwd, rfl⟩ := Option.map_eq_some_iff.mp e
    have wdm : wd ∈ b1.words := List.mem_of_getElem? hwd
    -- the names
    have dh8 := z8 _ _ (Ne.symm ne3) dh7
    have dk8 := z8 _ _ (Ne.symm ne2) d7
    refine ⟨_, rfl, _, rfl, Lk, rfl, ⟨_, .of dk8⟩, fun Lf nLf => ?_⟩
    refine lc_list (K := K) (a := Lk) (xs := ks.map V.str) (fun i H' => Same H8 H' ∧ H' Lf = some (.lst (((ks.take i).filter fun z => !decide (z ∈ hs)).map V.str))) ⟨same_new nLf, upd_same⟩ (fun i H' _ q => .of (q.1 _ _ dk8)) ?_ ?_
    · rintro i x H9 e ⟨s9, d9⟩
      rw [List.getElem?_map] at e
      obtain ⟨z, hz, rfl⟩ := Option.map_eq_some_iff.mp e
      have hi := (List.getElem?_eq_some_iff.mp hz).1
      refine ⟨rfl, _, rfl, _, rfl, Lh, _, rfl, .inl (.of (s9 _ _ dh8)), rfl, flat_strs _, _, rfl, ?_⟩
      rw [inV_str]
      have hll : ((ks.take i).filter fun z => !decide (z ∈ hs)).length ≤ i := by
        have := List.length_filter_le (fun z => !decide (z ∈ hs)) (ks.take i)
        rw [List.length_take] at this
        omega
      refine ite2 (fun c => ?_) (fun c => ?_)
      · refine ⟨_, rfl, _, d9, lt_line (by rw [List.length_map]; omega), same_mut s9 nLf, ?_⟩
        rw [upd_same, take_snoc hz, List.filter_append, List.map_append, List.filter_cons, if_pos (show (!decide (z ∈ hs)) = true from c)]
        rfl
      · refine ⟨s9, ?_⟩
        rw [d9, take_snoc hz, List.filter_append, List.filter_cons, if_neg (show ¬ (!decide (z ∈ hs)) = true from c)]
        simp
    rintro H9 ⟨s9, d9⟩
    rw [List.length_map, List.take_length] at d9
    have lfl : (ks.filter fun z => !decide (z ∈ hs)).length ≤ 6 := Nat.le_trans (List.length_filter_le _ _) lks
    refine ⟨Lh, Lf, _, _, rfl, rfl, s9 _ _ dh8, d9, le_line (by rw [List.length_map, List.length_map]; omega), fun La nLa => ?_⟩
    have s10 : Same H9 (upd H9 La (.lst (hs.map V.str ++ (ks.filter fun z => !decide (z ∈ hs)).map V.str))) := same_new nLa
    refine ⟨by show 1 ≤ sizeLine; decide, fun Lz nLz => ?_⟩
    have s11 : Same (upd H9 La (.lst (hs.map V.str ++ (ks.filter fun z => !decide (z ∈ hs)).map V.str))) (upd (upd H9 La (.lst (hs.map V.str ++ (ks.filter fun z => !decide (z ∈ hs)).map V.str))) Lz (.lst [.str "z"])) := same_new nLz
    refine ⟨La, Lz, _, _, rfl, rfl, s11 _ _ upd_same, upd_same, le_line (by rw [List.length_append, List.length_map, List.length_map]; show _ + _ + 1 ≤ 100000; omega), fun Lc nLc => ?_⟩
    have ecand : (hs.map V.str ++ (ks.filter fun z => !decide (z ∈ hs)).map V.str) ++ [V.str "z"] = (hs ++ (ks.filter fun z => !decide (z ∈ hs)) ++ [("z" : Str)]).map V.str := by
      rw [List.map_append, List.map_append]
      rfl
    have mcand : ∀ n, (n ∈ hs ∨ n ∈ ks ∨ n = "z") → n ∈ hs ++ (ks.filter fun z => !decide (z ∈ hs)) ++ [("z" : Str)] := fun n hn => by
      rw [List.mem_append, List.mem_append, List.mem_filter, List.mem_singleton]
      rcases hn with hn | hn | hn
      · exact .inl (.inl hn)
      · by_cases h : n ∈ hs
        · exact .inl (.inl h)
        · exact .inl (.inr ⟨hn, by simp [h]⟩)
      · exact .inr hn
    rw [ecand]
    generalize hs ++ (ks.filter fun z => !decide (z ∈ hs)) ++ [("z" : Str)] = cand at mcand
    have s12 : Same H8 (upd (upd (upd H9 La (.lst (hs.map V.str ++ (ks.filter fun z => !decide (z ∈ hs)).map V.str))) Lz (.lst [.str "z"])) Lc (.lst (cand.map V.str))) := s9.trans (s10.trans (s11.trans (same_new nLc)))
    have dc12 : (upd (upd (upd H9 La (.lst (hs.map V.str ++ (ks.filter fun z => !decide (z ∈ hs)).map V.str))) Lz (.lst [.str "z"])) Lc (.lst (cand.map V.str))) Lc = some (.lst (cand.map V.str)) := upd_same
    have neLc : Lc ≠ L := by
      obtain ⟨rs8, hL8, _⟩ := I8.l
      rintro rfl
      rw [(s9.trans (s10.trans s11)) _ _ hL8] at nLc
      cases nLc
    revert s12 dc12
    generalize upd (upd (upd H9 La (.lst (hs.map V.str ++ (ks.filter fun z => !decide (z ∈ hs)).map V.str))) Lz (.lst [.str "z"])) Lc (.lst (cand.map V.str)) = H12
    intro s12 dc12
    clear s9 s10 s11 d9
    have z12 := z8.same s12
    have I12 := I8.same s12
    obtain ⟨rs12, hL12, _⟩ := I12.l
    refine ⟨Lc, rfl, ⟨_, .of dc12⟩, ?_⟩
    refine for_list (K := K) (a := Lc) (xs := cand.map V.str) (fun j σ' H' => ∃ S' o13 o14 o15 o16 o17 o18 o19, σ' = [some (.ref a1), some (.ref a2), some (.ref L), some (natV k), some (.int (0 + (k : Nat))), some (.str s.1), some (.str t.1), some (.ref c3), o8, some (.ref Lh), o10, some (.ref Lk), some (.str wd), o13, o14, o15, o16, o17, o18, o19] ∧ SameX L H12 H' ∧ TriI K H H' b1.au b2.au L S' ∧ S'[k]? = some (keyOf s t) ∧ Cl b1.au b2.au S' k ∧
        (∀ i', i' < i → ∀ wd, b1.words[i']? = some wd → ∀ n, (n ∈ hs ∨ n ∈ ks ∨ n = "z") → keyOf (b1.au.step (s.1, hs) wd n) (b2.au.step (t.1, ks) wd n) ∈ S') ∧ ∀ j', j' < j → ∀ n, cand[j']? = some n → keyOf (b1.au.step (s.1, hs) wd n) (b2.au.step (t.1, ks) wd n) ∈ S')
      ⟨S8, _, _, _, _, _, _, _, rfl, SameX.refl _ _, I12, h8, c8, cov, fun j' h => absurd h (Nat.not_lt_zero _)⟩ (fun i σ' H' _ ⟨_, _, _, _, _, _, _, _, _, z, _⟩ => .of (z _ _ neLc dc12)) ?_ ?_
    rotate_left
    · rintro σ' H13 ⟨S13, o13, o14, o15, o16, o17, o18, o19, rfl, z13, I13, h13, c13, cv1, cv2⟩
      refine ⟨S13, _, _, _, _, _, _, _, _, rfl, fun b o nb hb => z13 b o nb (z12 b o nb hb), I13, h13, c13, fun i' hi' wd' hwd' n hn => ?_⟩
      by_cases hii : i' < i
      · exact cv1 i' hii wd' hwd' n hn
      · have : i' = i := by omega
        subst this
        rw [hwd] at hwd'
        cases hwd'
        obtain ⟨j', hj'⟩ := List.mem_iff_getElem?.mp (mcand n hn)
        refine cv2 j' ?_ n hj'
        rw [List.length_map]
        exact (List.getElem?_eq_some_iff.mp hj').1
    rintro j x σ' H13 e ⟨S13, o13, o14, o15, o16, o17, o18, o19, rfl, z13, I13, h13, c13, cv1, cv2⟩
    rw [List.getElem?_map] at e
    obtain ⟨n, hn, rfl⟩ := Option.map_eq_some_iff.mp e
    have dh13 : H13 Lh = some (.lst (hs.map V.str)) := z13 _ _ (Ne.symm ne3) (z12 _ _ (Ne.symm ne3) dh7)
    have dk13 : H13 Lk = some (.lst (ks.map V.str)) := z13 _ _ (Ne.symm ne2) (z12 _ _ (Ne.symm ne2) d7)
    refine ⟨_, rfl, _, rfl, _, rfl, _, rfl, _, rfl, .ref a1, b1, s.1, .ref Lh, hs, wd, n, rfl, pa1.rle (.same I13.s), ok1, vs.ok, wdm, .inr ⟨Lh, rfl, .of dh13⟩, rp.vs.len, fun H14 q14 t14 s14 sq14 ht14 => ⟨q14, _, rfl, sq14, rfl, _, _, rfl, _, _, rfl, rfl, ?_⟩⟩
    have I14 := I13.same s14
    refine ⟨_, rfl, _, rfl, _, rfl, _, rfl, _, rfl, .ref a2, b2, t.1, .ref Lk, ks, wd, n, rfl, pa2.rle (.same I14.s), ok2, vt.ok, hw ▸ wdm, .inr ⟨Lk, rfl, .of (s14 _ _ dk13)⟩, rp.vt.len, fun H15 q15 t15 s15 sq15 ht15 => ⟨q15, _, rfl, sq15, rfl, _, _, rfl, _, _, rfl, rfl, ?_⟩⟩
    have I15 := I14.same s15
    have ht14 := ht14.same s15
    have v1' := rp.vs.step ok1.good wdm n
    have v2' := rp.vt.step ok2.good (hw ▸ wdm) n
    have w1 : (b1.au.step (s.1, hs) wd n).2.length ≤ 6 := by
      rw [v1'.len]
      exact ok1.good.sm _ v1'.ok
    have w2 : (b2.au.step (t.1, ks) wd n).2.length ≤ 6 := by
      rw [v2'.len]
      exact ok2.good.sm _ v2'.ok
    obtain ⟨u14, rfl, tu14, _⟩ := ht14
    obtain ⟨u15, rfl, tu15, _⟩ := ht15
    refine ⟨_, rfl, _, rfl, _, rfl, _, rfl, _, _, _, _, rfl, ⟨u14, rfl, tu14⟩, ⟨u15, rfl, tu15⟩, w1, w2, fun v16 H16 s16 p16 => ⟨by show 3 ≤ sizeLine; decide, fun q17 nq17 => ?_⟩⟩
    have s17 : Same H16 (upd H16 q17 (.tup [V.str (b1.au.step (s.1, hs) wd n).1, .str (b2.au.step (t.1, ks) wd n).1, v16])) := same_new nq17
    have s18 := s14.trans (s15.trans (s16.trans s17))
    have I17 := I15.same (s16.trans s17)
    have kt17 : KeyT K (upd H16 q17 (.tup [V.str (b1.au.step (s.1, hs) wd n).1, .str (b2.au.step (t.1, ks) wd n).1, v16])) (.ref q17) (keyOf (b1.au.step (s.1, hs) wd n) (b2.au.step (t.1, ks) wd n)) := ⟨q17, v16, rfl, .of upd_same, p16.rle (.same s17)⟩
    revert s18 I17 kt17
    generalize upd H16 q17 (.tup [V.str (b1.au.step (s.1, hs) wd n).1, .str (b2.au.step (t.1, ks) wd n).1, v16]) = H17
    intro s18 I17 kt17
    clear s14 s15 s16 s17 I14 I15 sq14 sq15 tu14 tu15 p16
    obtain ⟨sr, tr, hre', hke⟩ := Reach.lift ok1.good ok2.good hw fresh_str hre rp.vs rp.vt rp.e wdm n
    have kok : KOk (keyOf (b1.au.step (s.1, hs) wd n) (b2.au.step (t.1, ks) wd n)) := ⟨bk_names ok1 v1'.ok, bk_names ok2 v2'.ok⟩
    obtain ⟨rs17, hL17, pr17⟩ := I17.l
    have z17 := z13.same s18
    refine ⟨_, rfl, _, rfl, keyD (keyOf (b1.au.step (s.1, hs) wd n) (b2.au.step (t.1, ks) wd n)), S13.map keyD, dp_key kt17, .lst (.of hL17) (dp_keys pr17), keyD_shaped kok, keyDs_shaped (I17.kok ok1 ok2 hw), _, rfl, ?_⟩
    rw [keyDs_any]
    generalize hkey' : keyOf (b1.au.step (s.1, hs) wd n) (b2.au.step (t.1, ks) wd n) = key' at kt17 kok hke ⊢
    refine ite2 (fun new => ?_) (fun old => ?_)
    rotate_left
    · have old : key' ∈ S13 := Classical.byContradiction fun z => old (by rw [decide_eq_false z]; rfl)
      refine ⟨S13, _, _, _, _, _, _, _, rfl, z17, I17, h13, c13, cv1, fun j' hj' m hm => ?_⟩
      by_cases hjj : j' < j
      · exact cv2 j' hjj m hm
      · have : j' = j := by omega
        subst this
        rw [hn] at hm
        cases hm
        rw [hkey']
        exact old
    have new : key' ∉ S13 := fun z => by
      rw [decide_eq_true z] at new
      cases new
    have few := I17.few ok1.good ok2.good hw FW
    refine ⟨_, rfl, .inl ⟨rfl, _, .of hL17⟩, _, rfl, L, _, _, rfl, rfl, hL17, lt_line (by rw [List.length_map, pr17.length]; omega), ?_⟩
    have y18 : SameX L H17 (upd H17 L (.lst (rs17.map V.ref ++ [.ref q17]))) := (SameX.refl L H17).upd
    have k18 : Keep H17 (upd H17 L (.lst (rs17.map V.ref ++ [.ref q17]))) := .upd hL17 fun q => q
    have lk := (List.getElem?_eq_some_iff.mp h13).1
    refine ⟨S13 ++ [key'], _, _, _, _, _, _, _, rfl, fun b o nb hb => y18 b o nb (z17 b o nb hb), ⟨same_mut I17.s hL0, ⟨rs17 ++ [q17], by rw [upd_same, List.map_append] <;> rfl, paired_snoc (paired_imp pr17 fun _ _ q => q.keep k18) (kt17.keep k18)⟩, ?_, fun x hx => ?_, List.mem_append_left _ I17.z⟩, ?_, c13.app (Nat.le_of_lt lk), fun i' hi' wd' hwd' m hm => List.mem_append_left _ (cv1 i' hi' wd' hwd' m hm), fun j' hj' m hm => ?_⟩
    · rw [List.nodup_append]
      refine ⟨I17.nd, by simp, fun x hx y hy q => ?_⟩
      rw [List.mem_singleton.mp hy] at q
      exact new (q ▸ hx)
    · rcases List.mem_append.mp hx with hx | hx
      · exact I17.re x hx
      · rw [List.mem_singleton.mp hx]
        exact ⟨sr, tr, hre', hke⟩
    · rw [List.getElem?_append_left lk]
      exact h13
    · by_cases hjj : j' < j
      · exact List.mem_append_left _ (cv2 j' hjj m hm)
      · have : j' = j := by omega
        subst this
        rw [hn] at hm
        cases hm
        rw [hkey']
        exact List.mem_append_right _ (by simp)
end
end Fw

/-! _law_due. -/
namespace Fw
open PySem PySem.Spec PyProof.Rows L2
def blD (p : Bool × Bool) : PyData := .tuple [.bool p.1, .bool p.2]
theorem blD_lay : ∀ l : List (Bool × Bool), PyData.canLayAll0 (l.map blD) = true
  | [] => by simp [PyData.canLayAll0]
  | p :: r => by
    have := blD_lay r
    simp [PyData.canLayAll0, PyData.canLay0, blD, this]
theorem blD_dep : ∀ l : List (Bool × Bool), PyData.depthAll (l.map blD) ≤ 1
  | [] => by simp [PyData.depthAll]
  | p :: r => by
    have := blD_dep r
    have e : PyData.depth (blD p) = 1 := by simp [blD, PyData.depth, PyData.depthAll]
    simp only [List.map_cons, PyData.depthAll]
    omega
theorem blDs_shaped (l : List (Bool × Bool)) : SeqAt.shaped (.list (l.map blD)) = true := by
  have h1 := blD_dep l
  have h2 : PyData.depth (.list (l.map blD)) ≤ 64 := by
    simp only [PyData.depth]
    omega
  show (PyData.canLay0 (.list (l.map blD)) && decide (PyData.depth (.list (l.map blD)) ≤ 64)) = true
  rw [Bool.and_eq_true]
  exact ⟨by simp only [PyData.canLay0]; exact blD_lay l, decide_eq_true h2⟩
theorem blDs_any (x y : Bool) : ∀ l : List (Bool × Bool), ((l.map blD).any fun z => PyData.eqv z (.tuple [.bool x, .bool y])) = decide ((x, y) ∈ l)
  | [] => by simp
  | (a, b) :: r => by
    rw [List.map_cons, List.any_cons, blDs_any x y r]
    have e : PyData.eqv (blD (a, b)) (.tuple [.bool x, .bool y]) = decide (a = x ∧ b = y) := eqv_two a b x y
    rw [e]
    by_cases h : a = x ∧ b = y
    · obtain ⟨h1, h2⟩ := h
      subst h1 h2
      simp
    · have : ¬ ((x, y) = (a, b)) := fun q => h ⟨(Prod.mk.inj q).1.symm, (Prod.mk.inj q).2.symm⟩
      rw [decide_eq_false h]
      simp [this]
theorem dp_bls {K : PySem.W.Frag} {H : Hp} : ∀ {rs : List Addr} {l : List (Bool × Bool)}, Paired (fun r (p : Bool × Bool) => SqT K H r [.bl p.1, .bl p.2]) rs l → DpAll K H (rs.map V.ref) (l.map blD)
  | [], _, .nil => .nil
  | _ :: _, _ :: _, .cons h t => .cons (dp_two h) (dp_bls t)
section
variable {P : Program} {w : World} {K : PySem.W.Frag} {mg : Str → Option Value} {base : Heap}
def spDue (K : PySem.W.Frag) : Sp := fun vs H Q _ => ∃ v1 v2, ∃ b1 b2 : Bk, vs = [v1, v2] ∧ PartsAt K H v1 b1 ∧ PartsAt K H v2 b2 ∧ b1.Ok ∧ b2.Ok ∧ b2.words = b1.words ∧ Few b1.au b2.au ∧ ∀ H', Same H H' → Q (.str (relS b1.au b2.au)) H'
abbrev nDue : List Str := ["_law_first", "_law_second", "_law_ways", "_law_place_here", "_law_other_here", "_law_pairs_here", "_law_inside", "_law_around"]
theorem scDue : FnScope nDue ["_law_first", "_law_second"] (defScope sDue) := ⟨rfl, rfl, rfl, by decide +kernel, rfl, by decide +kernel, by decide +kernel⟩
theorem ok_Due (T : Tx K mg) : Fc P w K mg base CX0 3 (He.ga K "_law_due") ["_law_first", "_law_second"] [] (spDue K) := by
  refine fc_mk T.f_Due scDue (fun _ _ _ _ _ _ us hl => match us, hl with | [_, _], _ => rfl) (fun vs H Q E h => ?_) (fun cdv A0 outer s0 H vs Q E hr h => ?_)
  · obtain ⟨_, _, _, _, rfl, _⟩ := h
    rfl
  · obtain ⟨v1, v2, b1, b2, rfl, pa1, pa2, ok1, ok2, hw, FW, go⟩ := h
    have hu65 : (A0.deeper (envOfC "_law_due" (defScope sDue) s0.heap.objs.size (He.ga K "_law_due") cdv)).units + 65 < cLine := by
      have := hr.un
      omega
    refine ⟨_, pss_cons (s_set 2 scDue.nd (pe_lst pa_nil))
      (pss_cons (ps_for passN rfl (pi_list (e_f (ok_Triples T) hr T.g__law_triples (pa_cons (pv 0) (pa_cons (pv 1) pa_nil)))) (g_3 (g_n 3 scDue.nd) (g_n 4 scDue.nd) (g_n 5 scDue.nd))
        (pss_one (s_app (pv 2) (pe_tup (pa_cons (e_ixT (e_f (ok_Place T) (hr.mono (by decide)) T.g__law_place (pa_cons (pv 0) (pa_cons (pv 3) pa_nil))) pe_int) (pa_cons (e_ixT (e_f (ok_Place T) (hr.mono (by decide)) T.g__law_place (pa_cons (pv 1) (pa_cons (pv 4) pa_nil))) pe_int) pa_nil))))))
      (pss_cons (s_set 6 scDue.nd (e_c (op_notInD hu65) (pe_tup (pa_cons pe_bl (pa_cons pe_bl pa_nil))) (pv 2)))
      (pss_cons (s_set 7 scDue.nd (e_c (op_notInD hu65) (pe_tup (pa_cons pe_bl (pa_cons pe_bl pa_nil))) (pv 2)))
      (pss_cons (ps_if (pw_and (pt_val (pv 6)) (pw_and1 (pt_val (pv 7)))).pt (pss_one (ps_ret pe_str)) pss_nil)
      (pss_cons (ps_if (pw_or (pt_val (pv 6)) (pw_or1 (pt_val (pv 7)))).pt (pss_one (ps_ret (e_ixL (pe_lst (pa_cons pe_str (pa_cons pe_str pa_nil))) (e_ty call_int1 T.n_int PyProof.Rows.boot_int (pv 6))))) pss_nil)
      (pss_one (ps_ret (e_ixL (pe_lst (pa_cons pe_str (pa_cons pe_str pa_nil))) (e_ty call_int1 T.n_int PyProof.Rows.boot_int (e_c (op_inD hu65) (pe_tup (pa_cons pe_bl (pa_cons pe_bl pa_nil))) (pv 2))))))))))), ?_⟩
    refine ⟨by show 0 ≤ sizeLine; decide, fun W nW => ?_⟩
    have s1 : Same H (upd H W (.lst [])) := same_new nW
    obtain ⟨a1, t1, t1', dt1, rs1, kvs1, rfl, pp1⟩ := id pa1
    obtain ⟨a2, t2, t2', dt2, rs2, kvs2, rfl, pp2⟩ := id pa2
    refine ⟨_, rfl, _, rfl, .ref a1, .ref a2, b1, b2, rfl, pa1.rle (.same s1), pa2.rle (.same s1), ok1, ok2, hw, FW, fun H2 L S nL I full => ?_⟩
    obtain ⟨rs, hL, pr⟩ := I.l
    have few := I.few ok1.good ok2.good hw FW
    have hW2 := I.s _ _ upd_same
    have neLW : L ≠ W := by
      rintro rfl
      rw [upd_same] at nL
      cases nL
    have s2 : Same H H2 := s1.trans I.s
    refine ⟨L, rfl, ⟨_, .of hL⟩, ?_⟩
    refine for_list (K := K) (a := L) (xs := rs.map V.ref) (fun i σ' H' => ∃ o3 o4 o5, ∃ ws : List Addr, σ' = [some (.ref a1), some (.ref a2), some (.ref W), o3, o4, o5, none, none] ∧ SameX W H2 H' ∧ Same H H' ∧ H' W = some (.lst (ws.map V.ref)) ∧
        Paired (fun r (p : Bool × Bool) => SqT K H' r [.bl p.1, .bl p.2]) ws ((S.take i).map fun k => (yesIn b1.places k.1, yesIn b2.places k.2.1)))
      ⟨_, _, _, [], rfl, SameX.refl _ _, s2, hW2, .nil⟩ (fun i σ' H' _ ⟨_, _, _, _, _, z, _⟩ => .of (z _ _ neLW hL)) ?_ ?_
    · rintro i x σ' H3 e ⟨o3, o4, o5, ws, rfl, z3, s3, d3, p3⟩
      rw [List.getElem?_map] at e
      obtain ⟨r, hr1, rfl⟩ := Option.map_eq_some_iff.mp e
      obtain ⟨k, hk, a, v3, ea, t3, _⟩ := paired_at pr hr1
      cases ea
      obtain ⟨s, t, hre, ek⟩ := I.re k (List.mem_of_getElem? hk)
      obtain ⟨vs, vt⟩ := hre.val ok1.good ok2.good hw
      have m1 : k.1 ∈ b1.names := by
        rw [← ek]
        exact vs.ok
      have m2 : k.2.1 ∈ b2.names := by
        rw [← ek]
        exact vt.ok
      have hi := (List.getElem?_eq_some_iff.mp hk).1
      refine ⟨r, _, rfl, sqT_X z3 hW2 trivial t3, rfl, _, _, rfl, _, _, rfl, _, _, rfl, rfl, ?_⟩
      refine ⟨_, rfl, .inl ⟨rfl, _, .of d3⟩, ?_⟩
      refine ⟨_, rfl, _, rfl, .ref a1, k.1, b1.places, rfl, (pa1.rle (.same s3)).pls, ok1.ps.pd, m1, ok1.ps.p60, fun H4 r4 s4 pl4 => ⟨r4, _, 2, _, rfl, rfl, pl4, atI_nat (j := 2) rfl, ?_⟩⟩
      refine ⟨_, rfl, _, rfl, .ref a2, k.2.1, b2.places, rfl, (pa2.rle (.same (s3.trans s4))).pls, ok2.ps.pd, m2, ok2.ps.p60, fun H5 r5 s5 pl5 => ⟨r5, _, 2, _, rfl, rfl, pl5, atI_nat (j := 2) rfl, by show 2 ≤ sizeLine; decide, fun q nq => ?_⟩⟩
      have s6 : Same H5 (upd H5 q (.tup [.bl (yesIn b1.places k.1), .bl (yesIn b2.places k.2.1)])) := same_new nq
      have s7 := s4.trans (s5.trans s6)
      have d7 := s7 _ _ d3
      have nW0 : H W = none := nW
      have lw := p3.length
      rw [List.length_map, List.length_take] at lw
      refine ⟨W, _, _, rfl, rfl, d7, lt_line (by rw [List.length_map]; omega), ?_⟩
      refine ⟨_, _, _, ws ++ [q], rfl, (z3.same s7).upd, same_mut (s3.trans s7) nW0, by rw [upd_same, List.map_append] <;> rfl, ?_⟩
      rw [take_snoc hk, List.map_append]
      exact paired_snoc (paired_imp p3 fun _ _ z => sqT_upd d7 (sameT s7 z)) (sqT_upd d7 (.of upd_same))
    · rintro σ' H3 ⟨o3, o4, o5, ws, rfl, z3, s3, d3, p3⟩
      rw [List.length_map, pr.length, List.take_length] at p3
      have way : ∀ x y, decide ((x, y) ∈ S.map fun k => (yesIn b1.places k.1, yesIn b2.places k.2.1)) = wayB b1.au b2.au x y := fun x y => by
        have e : (x, y) ∈ (S.map fun k => (yesIn b1.places k.1, yesIn b2.places k.2.1)) ↔ Way b1.au b2.au x y := by
          constructor
          · intro m
            obtain ⟨k, hk, e⟩ := List.mem_map.mp m
            obtain ⟨s, t, hre, ek⟩ := I.re k hk
            obtain ⟨e1, e2⟩ := Prod.mk.inj e
            rw [← ek] at e1 e2
            exact ⟨s, t, hre, e1, e2⟩
          · rintro ⟨s, t, hre, e1, e2⟩
            refine List.mem_map.mpr ⟨keyOf s t, full s t hre, ?_⟩
            rw [← e1, ← e2]
            rfl
        cases h : wayB b1.au b2.au x y with
        | true => exact decide_eq_true (e.mpr (wayB_t.mp h))
        | false => exact decide_eq_false fun m => wayB_f.mp h (e.mp m)
      have swap : wayB b1.au b2.au false true = wayB b2.au b1.au true false := by
        have e : Way b1.au b2.au false true ↔ Way b2.au b1.au true false := ⟨fun ⟨s, t, r, e1, e2⟩ => ⟨t, s, r.swap hw, e2, e1⟩, fun ⟨s, t, r, e1, e2⟩ => ⟨t, s, r.swap hw.symm, e2, e1⟩⟩
        cases h : wayB b2.au b1.au true false with
        | true => exact wayB_t.mpr (e.mpr (wayB_t.mp h))
        | false => exact wayB_f.mpr fun m => wayB_f.mp h (e.mp m)
      have dW := dp_bls p3
      refine ⟨by show 2 ≤ sizeLine; decide, fun q1 n1 => ?_⟩
      have s4 : Same H3 (upd H3 q1 (.tup [.bl true, .bl false])) := same_new n1
      refine ⟨_, rfl, _, _, dp_two (.of upd_same), .lst (.of (s4 _ _ d3)) (dp_bls (paired_imp p3 fun _ _ z => sameT s4 z)), shaped_two _ _, blDs_shaped _, ?_⟩
      rw [blDs_any, way]
      refine ⟨by show 2 ≤ sizeLine; decide, fun q2 n2 => ?_⟩
      have s5 := s4.trans (same_new (o := .tup [.bl false, .bl true]) n2)
      refine ⟨_, rfl, _, _, dp_two (.of upd_same), .lst (.of (s5 _ _ d3)) (dp_bls (paired_imp p3 fun _ _ z => sameT s5 z)), shaped_two _ _, blDs_shaped _, ?_⟩
      rw [blDs_any, way, swap]
      have s6 := s3.trans s5
      revert s5 s6
      generalize upd (upd H3 q1 (.tup [.bl true, .bl false])) q2 (.tup [.bl false, .bl true]) = H5
      intro s5 s6
      refine ⟨_, rfl, _, rfl, ?_⟩
      unfold relS at go
      generalize (!wayB b1.au b2.au true false) = u at go ⊢
      generalize (!wayB b2.au b1.au true false) = v at go ⊢
      cases u with
      | true =>
        refine iteT ⟨_, rfl, _, rfl, ?_⟩
        cases v with
        | true => exact iteT (go _ s6)
        | false =>
          refine iteF ⟨_, rfl, _, rfl, iteT (iteT ⟨by show 2 ≤ sizeLine; decide, fun q3 n3 => ?_⟩)⟩
          refine ⟨_, rfl, .inr ⟨true, rfl, q3, _, 1, _, rfl, rfl, .of upd_same, atI_nat (j := 1) rfl, ?_⟩⟩
          exact go _ (s6.trans (same_new n3))
      | false =>
        refine iteF (iteF ⟨_, rfl, _, rfl, iteF ⟨_, rfl, _, rfl, ?_⟩⟩)
        cases v with
        | true =>
          refine iteT ⟨by show 2 ≤ sizeLine; decide, fun q3 n3 => ?_⟩
          refine ⟨_, rfl, .inr ⟨false, rfl, q3, _, 0, _, rfl, rfl, .of upd_same, atI_nat (j := 0) rfl, ?_⟩⟩
          exact go _ (s6.trans (same_new n3))
        | false =>
          refine iteF ⟨by show 2 ≤ sizeLine; decide, fun q3 n3 => ?_⟩
          have s7 := s5.trans (same_new (o := .lst [.str "apart", .str "across"]) n3)
          have g7 : upd H5 q3 (.lst [.str "apart", .str "across"]) q3 = some (.lst [.str "apart", .str "across"]) := upd_same
          refine ⟨by show 2 ≤ sizeLine; decide, fun q4 n4 => ?_⟩
          have s8 := s7.trans (same_new (o := .tup [.bl true, .bl true]) n4)
          have g8 := (same_new (o := .tup [.bl true, .bl true]) n4) _ _ g7
          refine ⟨_, rfl, _, _, dp_two (.of upd_same), .lst (.of (s8 _ _ d3)) (dp_bls (paired_imp p3 fun _ _ z => sameT s8 z)), shaped_two _ _, blDs_shaped _, ?_⟩
          rw [blDs_any, way]
          have go := go _ (s3.trans s8)
          cases h : wayB b1.au b2.au true true with
          | true =>
            rw [h] at go
            exact .inr ⟨true, rfl, q3, _, 1, _, rfl, rfl, .of g8, atI_nat (j := 1) rfl, go⟩
          | false =>
            rw [h] at go
            exact .inr ⟨false, rfl, q3, _, 0, _, rfl, rfl, .of g8, atI_nat (j := 0) rfl, go⟩
end
end Fw

/-! The law's numbers: row, numbers. -/
namespace Fw
open PySem PySem.Spec PyProof.Rows L2
section
variable {P : Program} {w : World} {K : PySem.W.Frag} {mg : Str → Option Value} {base : Heap}
def spLRow (K : PySem.W.Frag) : Sp := fun vs H Q _ => ∃ (c : Int) (m : Nat), vs = [.int c, .int m] ∧ m ≤ 1000 ∧ ∀ H' L (ns : List Nat), Same H H' → H L = none → H' L = some (.lst (ns.map natV)) → ns.length = m → (∀ n ∈ ns, n ≤ 1008) → Q (.ref L) H'
abbrev nLRow : List Str := ["_law_cell", "_law_many", "_law_row_here", "_law_rest", "_law_mixed", "_law_k"]
theorem scLRow : FnScope nLRow ["_law_cell", "_law_many"] (defScope sRow) := ⟨rfl, rfl, rfl, by decide +kernel, rfl, by decide +kernel, by decide +kernel⟩
theorem ok_LRow (T : Tx K mg) : Fc P w K mg base CX0 1 (He.ga K "_law_row") ["_law_cell", "_law_many"] [] (spLRow K) := by
  refine fc_mk T.f_Row scLRow (fun _ _ _ _ _ _ us hl => match us, hl with | [_, _], _ => rfl) (fun vs H Q E h => ?_) (fun cdv A0 outer s0 H vs Q E hr h => ?_)
  · obtain ⟨_, _, rfl, _⟩ := h
    rfl
  · obtain ⟨c, m, rfl, m1, go⟩ := h
    refine ⟨_, pss_cons (s_set 2 scLRow.nd (pe_lst pa_nil))
      (pss_cons (s_set 3 scLRow.nd (e_bi call_abs T.n_abs PyProof.Rows.boot_abs (pv 0)))
      (pss_cons (s_set 4 scLRow.nd (e_op op_mod (e_ty call_int1 T.n_int PyProof.Rows.boot_int (e_op op_add (e_op op_mul (pv 3) pe_int) pe_int)) pe_int))
      (pss_cons (ps_for passN rfl (pi_range1 (by rfl) T.n_range (pa_cons (pv 1) pa_nil)) (g_n 5 scLRow.nd)
        (pss_cons (s_set 4 scLRow.nd (e_op op_mod (e_ty call_int1 T.n_int PyProof.Rows.boot_int (e_op op_add (e_op op_mul (pv 4) pe_int) (e_op op_mul pe_int (e_op op_add (pv 5) pe_int)))) pe_int))
        (pss_one (ps_if (t_c op_ge (e_bi call_abs T.n_abs PyProof.Rows.boot_abs (pv 0)) (e_op op_pow pe_int pe_int))
          (pss_cons (s_app (pv 2) (e_op op_mod (e_ty call_int1 T.n_int PyProof.Rows.boot_int (pv 3)) pe_int)) (pss_one (s_set 3 scLRow.nd (e_op op_fdiv (pv 3) pe_int))))
          (pss_one (s_app (pv 2) (e_op op_mod (e_ty call_int1 T.n_int PyProof.Rows.boot_int (e_op op_fdiv (pv 4) pe_int)) pe_int)))))))
      (pss_one (ps_ret (pv 2)))))), ?_⟩
    refine ⟨by show 0 ≤ sizeLine; decide, fun L nL => ?_⟩
    have s1 : Same H (upd H L (.lst [])) := same_new nL
    refine ⟨_, rfl, c, rfl, ?_⟩
    have hab : (0 : Int) ≤ (if c < 0 then -c else c) := by split <;> omega
    generalize (if c < 0 then -c else c) = r0 at hab
    refine ⟨_, rfl, r0, 48271, rfl, rfl, .inr ⟨by decide, by decide⟩, _, _, rfl, rfl, .inl ⟨_, rfl, _, 2147483647, rfl, rfl, (show (0 : Int) < 2147483647 by decide), ?_⟩⟩
    have hm0 : (0 : Int) ≤ (r0 * 48271 + 69621) % 2147483647 := Int.emod_nonneg _ (by decide)
    refine ⟨_, rfl, (m : Int), rfl, by omega, by omega, ?_⟩
    refine for_range (fun i σ' H' => ∃ (r x : Int) (ns : List Nat) (o5 : Option V), σ' = [some (.int c), some (.int m), some (.ref L), some (.int r), some (.int x), o5] ∧ 0 ≤ r ∧ 0 ≤ x ∧ Same H H' ∧ H' L = some (.lst (ns.map natV)) ∧ ns.length = i ∧ ∀ n ∈ ns, n ≤ 1008)
      ⟨r0, (r0 * 48271 + 69621) % 2147483647, [], _, rfl, hab, hm0, s1, upd_same, rfl, fun n h => by cases h⟩ ?_ ?_
    · rintro i σ' H2 hi ⟨r, x, ns, o5, rfl, hr0, hx0, s2, d2, ln, bn⟩
      have hi : i < ((m : Nat) : Int).toNat := hi
      refine ⟨_, rfl, x, 16807, rfl, rfl, .inr ⟨by decide, by decide⟩, _, rfl, _, _, rfl, rfl, 271, _, rfl, rfl, .inl ⟨by decide, by decide⟩, _, _, rfl, rfl, .inl ⟨_, rfl, _, 2147483629, rfl, rfl, (show (0 : Int) < 2147483629 by decide), ?_⟩⟩
      have hm1 : (0 : Int) ≤ (x * 16807 + 271 * (0 + (i : Nat) + 3)) % 2147483629 := Int.emod_nonneg _ (by decide)
      refine ⟨_, rfl, c, rfl, 10, 18, rfl, rfl, (show CPow 10 18 from ⟨by decide, by decide, by decide⟩), _, _, rfl, rfl, _, rfl, ?_⟩
      have num : ∀ z : Int, ∃ n : Nat, z % 1009 = (n : Int) ∧ n ≤ 1008 := fun z => by
        have h1 := Int.emod_nonneg z (show (1009 : Int) ≠ 0 by decide)
        have h2 := Int.emod_lt_of_pos z (show (0 : Int) < 1009 by decide)
        exact ⟨(z % 1009).toNat, by omega, by omega⟩
      refine ite2 (fun _ => ?_) (fun _ => ?_)
      · obtain ⟨n, en, hn⟩ := num r
        refine ⟨_, rfl, .inl ⟨rfl, _, .of d2⟩, _, rfl, .inl ⟨r, rfl, r, 1009, rfl, rfl, (show (0 : Int) < 1009 by decide), L, _, _, rfl, rfl, d2, lt_line (by rw [List.length_map]; omega), ?_⟩⟩
        refine ⟨_, rfl, r, 1009, rfl, rfl, (show CDiv r 1009 from ⟨by decide, by decide⟩), ?_⟩
        refine ⟨r / 1009, ((x * 16807 + 271 * (0 + (i : Nat) + 3)) % 2147483629), ns ++ [n], _, rfl, Int.ediv_nonneg hr0 (by decide), hm1, same_mut s2 nL, ?_, by rw [List.length_append, ln]; rfl, fun z hz => ?_⟩
        · rw [upd_same, List.map_append]
          show some (HO.lst (List.map natV ns ++ [V.int (r % 1009)])) = _
          rw [en]
          rfl
        · rcases List.mem_append.mp hz with hz | hz
          · exact bn z hz
          · rw [List.mem_singleton.mp hz]
            exact hn
      · obtain ⟨n, en, hn⟩ := num (((x * 16807 + 271 * (0 + (i : Nat) + 3)) % 2147483629) / 7)
        refine ⟨_, rfl, .inl ⟨rfl, _, .of d2⟩, _, rfl, ((x * 16807 + 271 * (0 + (i : Nat) + 3)) % 2147483629), 7, rfl, rfl, (show CDiv ((x * 16807 + 271 * (0 + (i : Nat) + 3)) % 2147483629) 7 from ⟨by decide, by decide⟩), .inl ⟨((x * 16807 + 271 * (0 + (i : Nat) + 3)) % 2147483629) / 7, rfl, ((x * 16807 + 271 * (0 + (i : Nat) + 3)) % 2147483629) / 7, 1009, rfl, rfl, (show (0 : Int) < 1009 by decide), L, _, _, rfl, rfl, d2, lt_line (by rw [List.length_map]; omega), ?_⟩⟩
        refine ⟨r, ((x * 16807 + 271 * (0 + (i : Nat) + 3)) % 2147483629), ns ++ [n], _, rfl, hr0, hm1, same_mut s2 nL, ?_, by rw [List.length_append, ln]; rfl, fun z hz => ?_⟩
        · rw [upd_same, List.map_append]
          show some (HO.lst (List.map natV ns ++ [V.int (((x * 16807 + 271 * (0 + (i : Nat) + 3)) % 2147483629) / 7 % 1009)])) = _
          rw [en]
          rfl
        · rcases List.mem_append.mp hz with hz | hz
          · exact bn z hz
          · rw [List.mem_singleton.mp hz]
            exact hn
    · rintro σ' H2 ⟨r, x, ns, o5, rfl, hr0, hx0, s2, d2, ln, bn⟩
      exact ⟨_, rfl, go H2 L ns s2 nL d2 (by omega) bn⟩
/-! numbers -/
def NumsAt (K : PySem.W.Frag) (H : Hp) (v : V) (ns : List Nat) : Prop := ∃ a, v = .ref a ∧ SqL K H a (ns.map natV)
def spNumbers (K : PySem.W.Frag) : Sp := fun vs H Q _ => ∃ (a : Addr) (cs : List Int), vs = [.ref a, .int 260] ∧ SqL K H a (cs.map V.int) ∧ ∀ H' L (ns : List Nat), Same H H' → H' L = some (.lst (ns.map natV)) → ns.length = 260 → (∀ n ∈ ns, n ≤ 1008) → Q (.ref L) H'
abbrev nNumbers : List Str := ["_law_script", "_law_many", "_law_cells", "_law_each", "_law_numbers_here", "_law_cell", "_law_number"]
theorem scNumbers : FnScope nNumbers ["_law_script", "_law_many"] (defScope sNumbers) := ⟨rfl, rfl, rfl, by decide +kernel, rfl, by decide +kernel, by decide +kernel⟩
theorem sIx_ge {n k : Nat} (d : Nat) (h : k ≤ n) : HT.sIx n d (some (k : Int)) = k := by
  rw [HT.sIx_nat]
  omega
theorem ok_Numbers (T : Tx K mg) : Fc P w K mg base CX0 2 (He.ga K "_law_numbers") ["_law_script", "_law_many"] [] (spNumbers K) := by
  refine fc_mk T.f_Numbers scNumbers (fun _ _ _ _ _ _ us hl => match us, hl with | [_, _], _ => rfl) (fun vs H Q E h => ?_) (fun cdv A0 outer s0 H vs Q E hr h => ?_)
  · obtain ⟨_, _, rfl, _⟩ := h
    rfl
  · obtain ⟨a, cs, rfl, sa, go⟩ := h
    refine ⟨_, pss_cons (s_set 2 scNumbers.nd (pe_slice sl_list (pv 0) po_none (po_some pe_int)))
      (pss_cons (s_set 3 scNumbers.nd (e_op op_add pe_int (e_op op_fdiv (pv 1) (pe_callB (call_max2 rfl) (by rfl) T.n_max PyProof.Rows.boot_max (pa_cons pe_int (pa_cons (e_len T.n_len (pv 2)) pa_nil))))))
      (pss_cons (s_set 4 scNumbers.nd (pe_lst pa_nil))
      (pss_cons (ps_for passN rfl (pi_list (pv 2)) (g_n 5 scNumbers.nd) (pss_one (ps_for passN rfl (pi_list (e_f (ok_LRow T) hr T.g__law_row (pa_cons (pv 5) (pa_cons (pv 3) pa_nil)))) (g_n 6 scNumbers.nd) (pss_one (s_app (pv 4) (pv 6))))))
      (pss_cons (ps_while passN (t_c op_lt (e_len T.n_len (pv 4)) (pv 1)) (pss_one (s_app (pv 4) pe_int)))
      (pss_one (ps_ret (pe_slice sl_list (pv 4) po_none (po_some (pv 1))))))))), ?_⟩
    refine ⟨_, rfl, 63, rfl, a, _, rfl, sa, fun C nC => ?_⟩
    obtain ⟨ds, eds, lds⟩ : ∃ ds : List Int, cutV (cs.map V.int) none (some 63) = ds.map V.int ∧ ds.length ≤ 63 := by
      refine ⟨(cs.drop 0).take (min 63 cs.length), ?_, ?_⟩
      · unfold cutV
        rw [HT.sIx_none, show (some (63 : Int)) = some (((63 : Nat)) : Int) from rfl, HT.sIx_nat, List.length_map, ← List.map_drop, ← List.map_take]
        rfl
      · rw [List.length_take]
        omega
    rw [eds]
    have s1 : Same H (upd H C (.lst (ds.map V.int))) := same_new nC
    have c1 : (upd H C (.lst (ds.map V.int))) C = some (.lst (ds.map V.int)) := upd_same
    revert s1 c1
    generalize upd H C (.lst (ds.map V.int)) = H1
    intro s1 c1
    have hj : (0 : Int) < (if ((ds.map V.int).length : Int) > 1 then ((ds.map V.int).length : Int) else 1) ∧ (if ((ds.map V.int).length : Int) > 1 then ((ds.map V.int).length : Int) else 1) < 1073741824 := by
      rw [List.length_map]
      split <;> omega
    refine ⟨_, rfl, _, rfl, _, _, rfl, .inl ⟨_, .of c1, rfl⟩, 1, _, rfl, 260, _, rfl, rfl, hj, 1, _, rfl, rfl, ?_⟩
    obtain ⟨e, he, e1⟩ : ∃ e : Nat, (1 : Int) + 260 / (if ((ds.map V.int).length : Int) > 1 then ((ds.map V.int).length : Int) else 1) = (e : Int) ∧ e ≤ 261 := by
      obtain ⟨j0, _⟩ := hj
      generalize (if ((ds.map V.int).length : Int) > 1 then ((ds.map V.int).length : Int) else 1) = z at j0
      have h1 : (0 : Int) ≤ 260 / z := Int.ediv_nonneg (by decide) (by omega)
      have h2 : (260 : Int) / z ≤ 260 := Int.ediv_le_self _ (by decide)
      exact ⟨(1 + 260 / z).toNat, by omega, by omega⟩
    show gName 3 (.int (1 + 260 / (if ((ds.map V.int).length : Int) > 1 then ((ds.map V.int).length : Int) else 1))) _ _ _
    rw [he]
    refine ⟨by show 0 ≤ sizeLine; decide, fun L nL => ?_⟩
    have s2 : Same H1 (upd H1 L (.lst [])) := same_new nL
    have nL0 : H L = none := s1.free nL
    have neCL : C ≠ L := ne_of_none c1 nL
    refine ⟨_, rfl, C, rfl, ⟨_, .of (s2 _ _ c1)⟩, ?_⟩
    refine for_list (K := K) (a := C) (xs := ds.map V.int) (fun i σ' H' => ∃ (ns : List Nat) (o5 o6 : Option V), σ' = [some (.ref a), some (.int 260), some (.ref C), some (.int e), some (.ref L), o5, o6] ∧ Same H H' ∧ H' C = some (.lst (ds.map V.int)) ∧ H' L = some (.lst (ns.map natV)) ∧ ns.length = i * e ∧ ∀ n ∈ ns, n ≤ 1008)
      ⟨[], _, _, rfl, s1.trans s2, s2 _ _ c1, upd_same, by simp, fun n h => by cases h⟩ (fun i σ' H' _ ⟨_, _, _, _, _, h, _⟩ => .of h) ?_ ?_
    · rintro i x σ' H2 ex ⟨ns, o5, o6, rfl, s3, c3, d3, ln, bn⟩
      rw [List.getElem?_map] at ex
      obtain ⟨cell, hcell, rfl⟩ := Option.map_eq_some_iff.mp ex
      have hi := (List.getElem?_eq_some_iff.mp hcell).1
      refine ⟨_, rfl, _, rfl, cell, e, rfl, by omega, fun H3 R rn s4 nR dR lR bR => ?_⟩
      have neR : R ≠ L := fun z => by
        rw [z, d3] at nR
        cases nR
      have neC : C ≠ R := ne_of_none c3 nR
      refine ⟨R, rfl, ⟨_, .of dR⟩, ?_⟩
      have tot : (i + 1) * e ≤ 63 * 261 := Nat.mul_le_mul (by omega) e1
      rw [Nat.succ_mul] at tot
      refine for_list (K := K) (a := R) (xs := rn.map natV) (fun j σ' H' => ∃ (ns : List Nat) (o6 : Option V), σ' = [some (.ref a), some (.int 260), some (.ref C), some (.int e), some (.ref L), some (.int cell), o6] ∧ Same H H' ∧ H' C = some (.lst (ds.map V.int)) ∧ H' R = some (.lst (rn.map natV)) ∧ H' L = some (.lst (ns.map natV)) ∧ ns.length = i * e + j ∧ ∀ n ∈ ns, n ≤ 1008)
        ⟨ns, _, rfl, s3.trans s4, s4 _ _ c3, dR, s4 _ _ d3, by omega, bn⟩ (fun i σ' H' _ ⟨_, _, _, _, _, h, _⟩ => .of h) ?_ ?_
      · rintro j x σ' H4 ex ⟨ns, o6, rfl, s5, c5, r5, d5, ln, bn⟩
        rw [List.getElem?_map] at ex
        obtain ⟨z, hz, rfl⟩ := Option.map_eq_some_iff.mp ex
        have hjl := (List.getElem?_eq_some_iff.mp hz).1
        refine ⟨_, rfl, .inl ⟨rfl, _, .of d5⟩, _, rfl, L, _, _, rfl, rfl, d5, lt_line (by rw [List.length_map]; omega), ?_⟩
        refine ⟨ns ++ [z], _, rfl, same_mut s5 nL0, by rw [upd_ne neCL]; exact c5, by rw [upd_ne neR]; exact r5, by rw [upd_same, List.map_append] <;> rfl, by rw [List.length_append, ln]; simp; omega, fun y hy => ?_⟩
        rcases List.mem_append.mp hy with hy | hy
        · exact bn y hy
        · rw [List.mem_singleton.mp hy]
          exact bR z (List.mem_of_getElem? hz)
      · rintro σ' H4 ⟨ns, o6, rfl, s5, c5, r5, d5, ln, bn⟩
        refine ⟨ns, _, _, rfl, s5, c5, d5, ?_, bn⟩
        rw [List.length_map, lR] at ln
        rw [Nat.succ_mul]
        exact ln
    · rintro σ' H2 ⟨ns, o5, o6, rfl, s3, c3, d3, ln, bn⟩
      have lt1 : ns.length ≤ 20000 := by
        rw [ln, List.length_map]
        have := Nat.mul_le_mul lds e1
        omega
      refine ⟨fun m σ H' => ∃ ns : List Nat, m = 20000 - ns.length ∧ σ = [some (.ref a), some (.int 260), some (.ref C), some (.int e), some (.ref L), o5, o6] ∧ Same H H' ∧ H' L = some (.lst (ns.map natV)) ∧ ns.length ≤ 20000 ∧ ∀ n ∈ ns, n ≤ 1008, ⟨_, ns, rfl, rfl, s3, d3, lt1, bn⟩, ?_⟩
      rintro m σ H3 ⟨ns, rfl, rfl, s4, d4, l4, bn⟩
      refine ⟨_, rfl, _, _, rfl, .inl ⟨_, .of d4, rfl⟩, _, rfl, _, _, rfl, rfl, _, rfl, ?_⟩
      refine ite2 (fun lt => ?_) (fun ge => ?_)
      · have lt : ns.length < 260 := by
          have := of_decide_eq_true lt
          rw [List.length_map] at this
          omega
        refine ⟨fun σ' H' => ∃ ns2 : List Nat, ns.length < ns2.length ∧ σ' = [some (.ref a), some (.int 260), some (.ref C), some (.int e), some (.ref L), o5, o6] ∧ Same H H' ∧ H' L = some (.lst (ns2.map natV)) ∧ ns2.length ≤ 20000 ∧ ∀ n ∈ ns2, n ≤ 1008, fun σ' H' ⟨ns2, q1, q2, q3, q4, q5, q6⟩ => ⟨20000 - ns2.length, by omega, ns2, rfl, q2, q3, q4, q5, q6⟩, ?_⟩
        refine ⟨_, rfl, .inl ⟨rfl, _, .of d4⟩, L, _, _, rfl, rfl, d4, lt_line (by rw [List.length_map]; omega), ?_⟩
        refine ⟨ns ++ [0], by simp, rfl, same_mut s4 nL0, by rw [upd_same, List.map_append] <;> rfl, by simp; omega, fun y hy => ?_⟩
        rcases List.mem_append.mp hy with hy | hy
        · exact bn y hy
        · rw [List.mem_singleton.mp hy]
          exact Nat.zero_le _
      · have ge : 260 ≤ ns.length := by
          have h1 : ¬ (((ns.map natV).length : Int) < 260) := fun z => ge (decide_eq_true z)
          rw [List.length_map] at h1
          omega
        refine ⟨_, rfl, _, rfl, 260, rfl, L, _, rfl, .of d4, fun R nR => ?_⟩
        have ecut : cutV (ns.map natV) none (some 260) = (ns.take 260).map natV := by
          unfold cutV
          rw [HT.sIx_none, show (some (260 : Int)) = some (((260 : Nat)) : Int) from rfl, HT.sIx_nat, List.length_map, List.drop_zero, List.map_take]
          rw [show min 260 ns.length - 0 = 260 by omega]
        rw [ecut]
        exact go _ R (ns.take 260) (s4.trans (same_new nR)) upd_same (by rw [List.length_take]; omega) fun n hn => bn n (List.mem_of_mem_take hn)
end
end Fw

/-! The law's names. -/
namespace Fw
open PySem PySem.Spec PyProof.Rows L2
def LT : List Nat := nameChars.cps.toList
def nmRest (n : Nat) : List Nat := (List.range (n % 11)).map fun k => LT.getD ((n + 7 * k * k) % 36) 0
def nmOwn (n k : Nat) : List Nat := if (n / 121 + k) % 3 = 0 then (nmRest n).drop 1 else nmRest n
def nmSpot (n k : Nat) : Nat := min (n / 11 % (n % 11 + 1)) (nmOwn n k).length
def nmStep (n : Nat) : Nat := if n / 363 % 2 = 1 then 31 else 5
def nameOf (n k : Nat) : List Nat := [LT.getD ((n + 3 * k) % 26) 0] ++ (nmOwn n k).take (nmSpot n k) ++ [LT.getD ((n + nmStep n * k) % 36) 0] ++ (nmOwn n k).drop (nmSpot n k)
def nameS (n k : Nat) : Str := ⟨(nameOf n k).toArray⟩
theorem LT_get {i : Nat} (h : i < 36) : LT[i]? = some (LT.getD i 0) := by
  have e : LT.length = 36 := by decide +kernel
  rw [List.getD_eq_getElem?_getD, List.getElem?_eq_getElem (by omega)]
  rfl
def nameGood (n k : Nat) : Bool := decide (1 ≤ (nameOf n k).length) && decide ((nameOf n k).length ≤ 12) && !(digChars.cps.toList.contains ((nameOf n k).headD 48)) && (nameOf n k).all (fun c => LT.contains c) && !((nameOf n k).take 4 == [108, 105, 107, 101])
theorem names_good : ((List.range 1009).all fun n => (List.range 4).all fun k => nameGood n k) = true := by decide +kernel
theorem names_diff : ((List.range 1009).all fun n => decide ((List.range 4).map (nameOf n)).Nodup) = true := by decide +kernel
theorem good_of {n k : Nat} (hn : n ≤ 1008) (hk : k < 4) : nameGood n k = true := by
  have h := List.all_eq_true.mp names_good n (List.mem_range.mpr (by omega))
  exact List.all_eq_true.mp h k (List.mem_range.mpr hk)
theorem nameS_ok {n k : Nat} (hn : n ≤ 1008) (hk : k < 4) : NameOk (nameS n k) := by
  have h := good_of hn hk
  unfold nameGood at h
  simp only [Bool.and_eq_true, decide_eq_true_eq, Bool.not_eq_true'] at h
  obtain ⟨⟨⟨⟨h1, h2⟩, h3⟩, h4⟩, h5⟩ := h
  have e : (nameS n k).cps.toList = nameOf n k := rfl
  refine ⟨?_, ?_, fun c hc => ?_, fun c hc => ?_⟩
  · show 1 ≤ (nameOf n k).toArray.size
    rw [List.size_toArray]
    exact h1
  · show (nameOf n k).toArray.size ≤ 12
    rw [List.size_toArray]
    exact h2
  · rw [e] at hc
    intro m
    have : (nameOf n k).headD 48 = c := by
      cases q : nameOf n k with
      | nil =>
        rw [q] at hc
        cases hc
      | cons a r =>
        rw [q] at hc
        exact Option.some.inj hc
    rw [this] at h3
    have := List.contains_iff_mem.mpr m
    rw [h3] at this
    cases this
  · rw [e] at hc
    have := List.all_eq_true.mp h4 c hc
    exact List.contains_iff_mem.mp this
theorem nameS_like {n k : Nat} (hn : n ≤ 1008) (hk : k < 4) (j : Nat) : nameS n k ≠ ("like" : Str) ++ Str.ofString (toString (j : Int)) := fun q => by
  have h := good_of hn hk
  unfold nameGood at h
  simp only [Bool.and_eq_true, decide_eq_true_eq, Bool.not_eq_true'] at h
  obtain ⟨⟨⟨⟨h1, h2⟩, h3⟩, h4⟩, h5⟩ := h
  have e : nameOf n k = [108, 105, 107, 101] ++ (Str.ofString (toString (j : Int))).cps.toList := by
    have h6 : (nameS n k).cps.toList = (("like" : Str) ++ Str.ofString (toString (j : Int))).cps.toList := by rw [q]
    have h7 : (("like" : Str) ++ Str.ofString (toString (j : Int))).cps = ("like" : Str).cps ++ (Str.ofString (toString (j : Int))).cps := rfl
    have h8 : (nameS n k).cps.toList = nameOf n k := rfl
    rw [h8, h7, Array.toList_append] at h6
    exact h6
  rw [e] at h5
  have : List.take 4 ([108, 105, 107, 101] ++ (Str.ofString (toString (j : Int))).cps.toList) = [108, 105, 107, 101] := rfl
  rw [this] at h5
  cases h5
def namesL (n m : Nat) : List Str := (List.range m).map (nameS n)
theorem namesL_nd {n m : Nat} (hn : n ≤ 1008) (hm : m ≤ 4) : (namesL n m).Nodup := by
  have h := List.all_eq_true.mp names_diff n (List.mem_range.mpr (by omega))
  have h := of_decide_eq_true h
  rw [List.Nodup, List.pairwise_map] at h
  unfold namesL List.Nodup
  rw [List.pairwise_map]
  have h2 : (List.range m).Sublist (List.range 4) := List.range_sublist.mpr hm
  refine List.Pairwise.imp (fun {a b} q z => q ?_) (h.sublist h2)
  have : (nameS n a).cps.toList = (nameS n b).cps.toList := by rw [z]
  exact this
theorem namesL_mem {n m : Nat} {x : Str} (h : x ∈ namesL n m) : ∃ k, k < m ∧ x = nameS n k := by
  obtain ⟨k, hk, e⟩ := List.mem_map.mp h
  exact ⟨k, List.mem_range.mp hk, e.symm⟩
theorem namesL_get {n m k : Nat} (h : k < m) : (namesL n m)[k]? = some (nameS n k) := by
  unfold namesL
  rw [List.getElem?_map, List.getElem?_range h]
  rfl
theorem namesL_len (n m : Nat) : (namesL n m).length = m := by
  unfold namesL
  rw [List.length_map, List.length_range]
end Fw

/-! names. -/
namespace Fw
open PySem PySem.Spec PyProof.Rows L2
theorem joinL_one : ∀ l : List Nat, TL.joinL [] (l.map fun c => [c]) = l
  | [] => rfl
  | [a] => rfl
  | a :: b :: r => by
    have ih := joinL_one (b :: r)
    show [a] ++ ([] ++ TL.joinL [] ((b :: r).map fun c => [c])) = _
    rw [ih]
    rfl
/-- the text of single signs -/
theorem join_one (l : List Nat) : Txt.join "" (l.map fun c => (⟨#[c]⟩ : Str)) = ⟨l.toArray⟩ := by
  rw [TL.join_eq]
  have h := TL.tl_join "" (l.map fun c => (⟨#[c]⟩ : Str))
  rw [List.map_map] at h
  have e : (l.map (TL.tl ∘ fun c => (⟨#[c]⟩ : Str))) = l.map fun c => [c] := rfl
  rw [e] at h
  have h2 : TL.tl ("" : Str) = [] := rfl
  rw [h2, joinL_one] at h
  have h3 := TL.mk_tl (Str.join "" (l.map fun c => (⟨#[c]⟩ : Str)))
  rw [h] at h3
  exact h3.symm
theorem str_app (l m : List Nat) : (⟨l.toArray⟩ : Str) ++ (⟨m.toArray⟩ : Str) = ⟨(l ++ m).toArray⟩ := by
  show (⟨l.toArray ++ m.toArray⟩ : Str) = _
  rw [List.append_toArray]
theorem str_len (l : List Nat) : (⟨l.toArray⟩ : Str).length = l.length := by
  show l.toArray.size = _
  rw [List.size_toArray]
theorem cut_hi (l : List Nat) (k : Nat) : cutS ⟨l.toArray⟩ none (some (k : Int)) = ⟨(l.take k).toArray⟩ := by
  unfold cutS
  rw [HT.sIx_none, HT.sIx_nat, str_len]
  show (⟨((l.drop 0).take (min k l.length - 0)).toArray⟩ : Str) = _
  rw [List.drop_zero, Nat.sub_zero]
  congr 2
  rw [List.take_eq_take_iff]
  omega
theorem cut_lo (l : List Nat) (k : Nat) : cutS ⟨l.toArray⟩ (some (k : Int)) none = ⟨(l.drop k).toArray⟩ := by
  unfold cutS
  rw [HT.sIx_none, HT.sIx_nat, str_len]
  show (⟨((l.drop (min k l.length)).take (l.length - min k l.length)).toArray⟩ : Str) = _
  congr 2
  by_cases h : k ≤ l.length
  · rw [show min k l.length = k by omega, List.take_of_length_le (by rw [List.length_drop]; omega)]
  · rw [show min k l.length = l.length by omega, List.drop_eq_nil_of_le (Nat.le_refl _), List.drop_eq_nil_of_le (by omega), List.take_nil]
theorem atN {xs : List Nat} {z : Int} {j v : Nat} (e : z = (j : Int)) (h : xs[j]? = some v) : atI xs z = some v := by
  rw [e]
  exact atI_nat h
theorem sum_one : ∀ l : List Nat, ((l.map fun c => (⟨#[c]⟩ : Str)).map (·.length)).sum = l.length
  | [] => rfl
  | a :: r => by
    have := sum_one r
    simp only [List.map_cons, List.sum_cons, List.length_cons, this]
    show 1 + r.length = _
    omega
theorem nmRest_len (n : Nat) : (nmRest n).length = n % 11 := by
  unfold nmRest
  rw [List.length_map, List.length_range]
theorem nmOwn_len (n k : Nat) : (nmOwn n k).length ≤ 10 := by
  have h := nmRest_len n
  unfold nmOwn
  split
  · rw [List.length_drop]
    omega
  · omega
section
variable {P : Program} {w : World} {K : PySem.W.Frag} {mg : Str → Option Value} {base : Heap}
def spNames (K : PySem.W.Frag) : Sp := fun vs H Q _ => ∃ n m : Nat, vs = [natV n, natV m] ∧ n ≤ 1008 ∧ m ≤ 4 ∧ ∀ H' L, Same H H' → H' L = some (.lst ((namesL n m).map V.str)) → Q (.ref L) H'
abbrev nNames : List Str := ["_law_number", "_law_many", "_law_letters", "_law_size", "_law_k", "_law_rest", "_law_place_here", "_law_names_here", "_law_own", "_law_spot", "_law_step"]
theorem scNames : FnScope nNames ["_law_number", "_law_many"] (defScope sNames) := ⟨rfl, rfl, rfl, by decide +kernel, rfl, by decide +kernel, by decide +kernel⟩
theorem ok_Names (T : Tx K mg) : Fc P w K mg base CX0 1 (He.ga K "_law_names") ["_law_number", "_law_many"] [] (spNames K) := by
  refine fc_mk T.f_Names scNames (fun _ _ _ _ _ _ us hl => match us, hl with | [_, _], _ => rfl) (fun vs H Q E h => ?_) (fun cdv A0 outer s0 H vs Q E hr h => ?_)
  · obtain ⟨_, _, rfl, _⟩ := h
    rfl
  · obtain ⟨n, m, rfl, hn, hm, go⟩ := h
    refine ⟨_, pss_cons (s_set 2 scNames.nd pe_str)
      (pss_cons (s_set 3 scNames.nd (e_op op_mod (e_ty call_int1 T.n_int PyProof.Rows.boot_int (pv 0)) pe_int))
      (pss_cons (s_set 5 scNames.nd (pe_join pe_str (pe_lc (own := [("_law_k", 4)]) (g := gName 4) (tt := tYes) rfl scNames.nd (pi_range1 (by rfl) T.n_range (pa_cons (pv 3) pa_nil)) (blkOk_by (N := nNames) (sc := defScope sNames) (by decide +kernel))
          (fun _ _ _ _ _ => pg_name (i := 4) scNames.nd rfl (Or.inl rfl)) (fun _ _ _ _ _ => pts_nil)
          (fun _ _ _ _ _ => e_ixS (pv 2) (e_op op_mod (e_ty call_int1 T.n_int PyProof.Rows.boot_int (e_op op_add (pv 0) (e_op op_mul (e_op op_mul pe_int (pv 4)) (pv 4)))) pe_int)))))
      (pss_cons (s_set 6 scNames.nd (e_op op_mod (e_op op_fdiv (pv 0) pe_int) (e_op op_add (pv 3) pe_int)))
      (pss_cons (s_set 7 scNames.nd (pe_lst pa_nil))
      (pss_cons (ps_for passN rfl (pi_range1 (by rfl) T.n_range (pa_cons (pv 1) pa_nil)) (g_n 4 scNames.nd)
        (pss_cons (s_set 8 scNames.nd (pv 5))
        (pss_cons (ps_if (t_c op_eq (e_op op_mod (e_ty call_int1 T.n_int PyProof.Rows.boot_int (e_op op_add (e_op op_fdiv (pv 0) pe_int) (pv 4))) pe_int) pe_int) (pss_one (s_set 8 scNames.nd (pe_slice sl_str (pv 5) (po_some pe_int) po_none))) pss_nil)
        (pss_cons (s_set 9 scNames.nd (pe_callB (call_min2 rfl) (by rfl) T.n_min PyProof.Rows.boot_min (pa_cons (pv 6) (pa_cons (e_len T.n_len (pv 8)) pa_nil))))
        (pss_cons (s_set 10 scNames.nd pe_int)
        (pss_cons (ps_if (t_c op_eq (e_op op_mod (e_op op_fdiv (pv 0) pe_int) pe_int) pe_int) (pss_one (s_set 10 scNames.nd pe_int)) pss_nil)
        (pss_one (s_app (pv 7) (e_op op_add_str (e_op op_add_str (e_op op_add_str (e_ixS (pv 2) (e_op op_mod (e_ty call_int1 T.n_int PyProof.Rows.boot_int (e_op op_add (pv 0) (e_op op_mul pe_int (pv 4)))) pe_int))
            (pe_slice sl_str (pv 8) po_none (po_some (pv 9)))) (e_ixS (pv 2) (e_op op_mod (e_ty call_int1 T.n_int PyProof.Rows.boot_int (e_op op_add (pv 0) (e_op op_mul (pv 10) (pv 4)))) pe_int))) (pe_slice sl_str (pv 8) (po_some (pv 9)) po_none))))))))))
      (pss_one (ps_ret (pv 7)))))))), ?_⟩
    have hr11 : n % 11 < 11 := Nat.mod_lt _ (by decide)
    have l36 : nameChars.length ≤ sizeLine := by decide +kernel
    refine ⟨_, rfl, .inl ⟨(n : Int), rfl, _, 11, rfl, rfl, (show (0 : Int) < 11 by decide), ?_⟩⟩
    refine ⟨⟨_, rfl⟩, _, rfl, ((n % 11 : Nat) : Int), rfl, by omega, by omega, fun D hD => ?_⟩
    have tn : (((n % 11 : Nat) : Int)).toNat = n % 11 := by omega
    refine lc_range (fun k H' => Same H H' ∧ H' D = some (.lst ((((nmRest n).take k).map fun c => (⟨#[c]⟩ : Str)).map V.str))) ⟨same_new hD, upd_same⟩ ?_ ?_
    · rintro k H2 hk ⟨s2, d2⟩
      have hk : k < (((n % 11 : Nat) : Int)).toNat := hk
      rw [Int.zero_add]
      have hk2 : k < n % 11 := by omega
      have hget : (nmRest n)[k]? = some (LT.getD ((n + 7 * k * k) % 36) 0) := by
        unfold nmRest
        rw [List.getElem?_map, List.getElem?_range hk2]
        rfl
      refine ⟨rfl, _, rfl, _, rfl, _, rfl, 7, (k : Int), rfl, rfl, .inl ⟨by decide, by decide⟩, _, rfl, 7 * (k : Int), (k : Int), rfl, rfl, .inl ⟨by omega, by omega⟩, (n : Int), _, rfl, rfl, .inl ⟨_, rfl, _, 36, rfl, rfl, (show (0 : Int) < 36 by decide), nameChars, _, LT.getD ((n + 7 * k * k) % 36) 0, rfl, rfl, l36, atN (j := (n + 7 * k * k) % 36) rfl (LT_get (Nat.mod_lt _ (by decide))), ?_⟩⟩
      refine ⟨_, d2, lt_line (by rw [List.length_map, List.length_map, List.length_take, nmRest_len]; omega), same_mut s2 hD, ?_⟩
      rw [upd_same, take_snoc hget, List.map_append, List.map_append]
      rfl
    rintro H1 ⟨s1, d1⟩
    rw [tn, List.take_of_length_le (by rw [nmRest_len]; exact Nat.le_refl _)] at d1
    refine ⟨("" : Str), D, _, rfl, rfl, .inl (.of d1), ?_, ?_⟩
    · rw [sum_one, List.length_map, nmRest_len]
      show n % 11 + n % 11 * 0 ≤ 16777216
      omega
    rw [join_one]
    refine ⟨_, rfl, (n : Int), 11, rfl, rfl, (show CDiv n 11 from ⟨by decide, by decide⟩), _, rfl, _, _, rfl, rfl, _, _, rfl, rfl, (show (0 : Int) < ((n % 11 : Nat) : Int) + 1 by omega), ?_⟩
    refine ⟨by show 0 ≤ sizeLine; decide, fun L nL => ?_⟩
    have nL0 : H L = none := s1.free nL
    refine ⟨_, rfl, (m : Int), rfl, by omega, by omega, ?_⟩
    refine for_range (fun i σ' H' => ∃ (o4 o8 o9 o10 : Option V), σ' = [some (natV n), some (natV m), some (.str nameChars), some (natV (n % 11)), o4, some (.str ⟨(nmRest n).toArray⟩), some (natV (n / 11 % (n % 11 + 1))), some (.ref L), o8, o9, o10] ∧ Same H H' ∧ H' L = some (.lst ((namesL n i).map V.str)))
      ⟨_, _, _, _, rfl, s1.trans (same_new nL), upd_same⟩ ?_ ?_
    · rintro i σ' H2 hi ⟨o4, o8, o9, o10, rfl, s2, d2⟩
      have hi : i < ((m : Nat) : Int).toNat := hi
      have hi4 : i < 4 := by omega
      rw [Int.zero_add]
      refine ⟨_, rfl, ?_⟩
      refine ⟨_, rfl, (n : Int), 121, rfl, rfl, (show CDiv n 121 from ⟨by decide, by decide⟩), _, rfl, _, _, rfl, rfl, .inl ⟨_, rfl, _, 3, rfl, rfl, (show (0 : Int) < 3 by decide), rfl, _, rfl, ?_⟩⟩
      have lr := nmRest_len n
      have lo := nmOwn_len n i
      have e1 : decide (V.int (((n : Int) / 121 + (i : Int)) % 3) = V.int 0) = decide ((n / 121 + i) % 3 = 0) := by
        rw [decide_eq_decide]
        constructor
        · intro z
          have := V.int.inj z
          omega
        · intro z
          have : ((n : Int) / 121 + (i : Int)) % 3 = 0 := by omega
          rw [this]
      refine ifs_set [some (natV n), some (natV m), some (.str nameChars), some (natV (n % 11)), some (natV i), some (.str ⟨(nmRest n).toArray⟩), some (natV (n / 11 % (n % 11 + 1))), some (.ref L), some (.str ⟨(nmOwn n i).toArray⟩), o9, o10] (fun c D' q => ?_) (fun c D' q => ?_) ?_
      · have c : (n / 121 + i) % 3 = 0 := of_decide_eq_true (e1 ▸ c)
        refine ⟨_, rfl, 1, rfl, _, rfl, by rw [str_len]; exact le_line (by omega), ?_⟩
        rw [show (some (1 : Int)) = some ((1 : Nat) : Int) from rfl, cut_lo]
        unfold nmOwn at q
        rw [if_pos c] at q
        exact q
      · have c : ¬ (n / 121 + i) % 3 = 0 := of_decide_eq_false (e1 ▸ c)
        unfold nmOwn at q
        rw [if_neg c] at q
        exact q
      refine ⟨_, rfl, _, rfl, _, _, rfl, ⟨by rw [str_len]; exact le_line (by omega), rfl⟩, _, _, rfl, ?_⟩
      have e2 : (if (((⟨(nmOwn n i).toArray⟩ : Str).length : Nat) : Int) < ((n / 11 % (n % 11 + 1) : Nat) : Int) then (((⟨(nmOwn n i).toArray⟩ : Str).length : Nat) : Int) else ((n / 11 % (n % 11 + 1) : Nat) : Int)) = ((nmSpot n i : Nat) : Int) := by
        unfold nmSpot
        rw [str_len]
        split <;> omega
      rw [e2]
      refine ⟨_, rfl, (n : Int), 363, rfl, rfl, (show CDiv n 363 from ⟨by decide, by decide⟩), _, 2, rfl, rfl, (show (0 : Int) < 2 by decide), rfl, _, rfl, ?_⟩
      have e3 : decide (V.int ((n : Int) / 363 % 2) = V.int 1) = decide (n / 363 % 2 = 1) := by
        rw [decide_eq_decide]
        constructor
        · intro z
          have := V.int.inj z
          omega
        · intro z
          have : (n : Int) / 363 % 2 = 1 := by omega
          rw [this]
      refine ifs_set [some (natV n), some (natV m), some (.str nameChars), some (natV (n % 11)), some (natV i), some (.str ⟨(nmRest n).toArray⟩), some (natV (n / 11 % (n % 11 + 1))), some (.ref L), some (.str ⟨(nmOwn n i).toArray⟩), some (natV (nmSpot n i)), some (natV (nmStep n))] (fun c D' q => ?_) (fun c D' q => ?_) ?_
      · have c : n / 363 % 2 = 1 := of_decide_eq_true (e3 ▸ c)
        unfold nmStep at q
        rw [if_pos c] at q
        exact q
      · have c : ¬ n / 363 % 2 = 1 := of_decide_eq_false (e3 ▸ c)
        unfold nmStep at q
        rw [if_neg c] at q
        exact q
      have hst : nmStep n ≤ 31 := by
        unfold nmStep
        split <;> omega
      refine ⟨_, rfl, .inl ⟨rfl, _, .of d2⟩, ?_⟩
      refine ⟨_, rfl, _, rfl, _, rfl, 3, (i : Int), rfl, rfl, .inl ⟨by decide, by decide⟩, (n : Int), _, rfl, rfl, .inl ⟨_, rfl, _, 26, rfl, rfl, (show (0 : Int) < 26 by decide), nameChars, _, LT.getD ((n + 3 * i) % 26) 0, rfl, rfl, l36, atN (j := (n + 3 * i) % 26) rfl (LT_get (Nat.lt_trans (Nat.mod_lt _ (by decide)) (by decide))), ?_⟩⟩
      refine ⟨_, rfl, _, rfl, _, rfl, _, rfl, by rw [str_len]; exact le_line (by omega), ?_⟩
      rw [cut_hi]
      refine ⟨_, _, rfl, rfl, ?_, ?_⟩
      · rw [str_len, str_len]
        exact le_line (by rw [List.length_take]; show 1 + _ ≤ _; omega)
      refine ⟨_, rfl, _, rfl, _, rfl, _, rfl, (nmStep n : Int), (i : Int), rfl, rfl, .inl ⟨by omega, by omega⟩, (n : Int), _, rfl, rfl, .inl ⟨_, rfl, _, 36, rfl, rfl, (show (0 : Int) < 36 by decide), nameChars, _, LT.getD ((n + nmStep n * i) % 36) 0, rfl, rfl, l36, atN (j := (n + nmStep n * i) % 36) rfl (LT_get (Nat.mod_lt _ (by decide))), ?_⟩⟩
      have lt1 : ((nmOwn n i).take (nmSpot n i)).length ≤ 10 := by
        rw [List.length_take]
        omega
      refine ⟨_, _, rfl, rfl, ?_, ?_⟩
      · rw [str_app [LT.getD ((n + 3 * i) % 26) 0] _, str_len]
        exact le_line (by show (_ ++ _ : List Nat).length + 1 ≤ _; rw [List.length_append]; show 1 + _ + 1 ≤ _; omega)
      refine ⟨_, rfl, _, rfl, _, rfl, _, rfl, by rw [str_len]; exact le_line (by omega), ?_⟩
      rw [cut_lo]
      have ename : (⟨#[LT.getD ((n + 3 * i) % 26) 0]⟩ : Str) ++ (⟨((nmOwn n i).take (nmSpot n i)).toArray⟩ : Str) ++ (⟨#[LT.getD ((n + nmStep n * i) % 36) 0]⟩ : Str) = ⟨([LT.getD ((n + 3 * i) % 26) 0] ++ (nmOwn n i).take (nmSpot n i) ++ [LT.getD ((n + nmStep n * i) % 36) 0]).toArray⟩ := by
        show ((⟨[LT.getD ((n + 3 * i) % 26) 0].toArray⟩ : Str) ++ (⟨((nmOwn n i).take (nmSpot n i)).toArray⟩ : Str)) ++ (⟨[LT.getD ((n + nmStep n * i) % 36) 0].toArray⟩ : Str) = _
        rw [str_app, str_app]
      rw [ename]
      refine ⟨_, _, rfl, rfl, ?_, ?_⟩
      · rw [str_len, str_len, List.length_append, List.length_append, List.length_drop]
        exact le_line (by show 1 + _ + 1 + _ ≤ _; omega)
      rw [str_app]
      refine ⟨L, _, _, rfl, rfl, d2, lt_line (by rw [List.length_map, namesL_len]; omega), ?_⟩
      refine ⟨_, _, _, _, rfl, same_mut s2 nL0, ?_⟩
      rw [upd_same]
      unfold namesL
      rw [List.range_succ, List.map_append, List.map_append]
      rfl
    · rintro σ' H2 ⟨o4, o8, o9, o10, rfl, s2, d2⟩
      exact ⟨_, rfl, go H2 L s2 (by
        have : ((m : Nat) : Int).toNat = m := by omega
        rw [this] at d2
        exact d2)⟩
end
end Fw

/-! drawn_rule. -/
namespace Fw
open PySem PySem.Spec PyProof.Rows L2
theorem ifs_any {c : Bool} {D : Ends} {ta tb : TS} {σ : L2.St} {H : Hp} (R : L2.St → Hp → Prop) (h1 : c = true → ∀ D' : Ends, (∀ σ' H', R σ' H' → D'.nx σ' H') → ta D' σ H) (h2 : c = false → ∀ D' : Ends, (∀ σ' H', R σ' H' → D'.nx σ' H') → tb D' σ H) (q : ∀ σ' H', R σ' H' → D.nx σ' H') : if c = true then ta D σ H else tb D σ H := by
  cases c with
  | true => exact iteT (h1 rfl D q)
  | false => exact iteF (h2 rfl D q)
theorem cutV_hi (xs : List V) (k : Nat) : cutV xs none (some (k : Int)) = xs.take k := by
  unfold cutV
  rw [HT.sIx_none, HT.sIx_nat, List.drop_zero, Nat.sub_zero, List.take_eq_take_iff]
  omega
theorem cutV_lo (xs : List V) (k : Nat) : cutV xs (some (k : Int)) none = xs.drop k := by
  unfold cutV
  rw [HT.sIx_none, HT.sIx_nat]
  by_cases h : k ≤ xs.length
  · rw [show min k xs.length = k by omega, List.take_of_length_le (by rw [List.length_drop]; omega)]
  · rw [show min k xs.length = xs.length by omega, List.drop_eq_nil_of_le (Nat.le_refl _), List.drop_eq_nil_of_le (by omega), List.take_nil]
/-- moves that may be drawn -/
structure Opt (sl c : Nat) (l : List Nat) : Prop where
  nd : l.Nodup
  le : ∀ m ∈ l, m ≤ sl
  nz : c ≠ 0 → 0 ∉ l
theorem Opt.perm {sl c : Nat} {l m : List Nat} (h : Opt sl c l) (p : m.Perm l) : Opt sl c m := ⟨p.nodup_iff.mpr h.nd, fun x hx => h.le x (p.mem_iff.mp hx), fun hc q => h.nz hc (p.mem_iff.mp q)⟩
def optBase (sl c : Nat) : List Nat := if c = 0 then 0 :: (List.range sl).map (· + 1) else (List.range sl).map (· + 1)
theorem opt_range (sl : Nat) : ((List.range sl).map (· + 1)).Nodup := by
  unfold List.Nodup
  rw [List.pairwise_map]
  exact List.Pairwise.imp (fun {a b} h q => h (by omega)) List.nodup_range
theorem opt_base (sl c : Nat) : Opt sl c (optBase sl c) := by
  unfold optBase
  by_cases h : c = 0
  · rw [if_pos h]
    refine ⟨List.nodup_cons.mpr ⟨fun m => ?_, opt_range sl⟩, fun m hm => ?_, fun q => absurd h q⟩
    · obtain ⟨x, _, e⟩ := List.mem_map.mp m
      omega
    · rcases List.mem_cons.mp hm with e | hm
      · omega
      · obtain ⟨x, hx, e⟩ := List.mem_map.mp hm
        have := List.mem_range.mp hx
        omega
  · rw [if_neg h]
    refine ⟨opt_range sl, fun m hm => ?_, fun _ hm => ?_⟩
    · obtain ⟨x, hx, e⟩ := List.mem_map.mp hm
      have := List.mem_range.mp hx
      omega
    · obtain ⟨x, hx, e⟩ := List.mem_map.mp hm
      omega
theorem optBase_len (sl c : Nat) : (optBase sl c).length ≤ sl + 1 := by
  unfold optBase
  split
  · rw [List.length_cons, List.length_map, List.length_range]
    exact Nat.le_refl _
  · rw [List.length_map, List.length_range]
    omega
theorem rgV_one (sl : Nat) : rgV 1 ((sl : Int) + 1) = ((List.range sl).map (· + 1)).map natV := by
  unfold rgV
  rw [show ((sl : Int) + 1 - 1).toNat = sl by omega, List.map_map]
  refine List.map_congr_left fun i _ => ?_
  show V.int (1 + (i : Nat)) = V.int ((i + 1 : Nat) : Int)
  rw [show (1 : Int) + (i : Nat) = ((i + 1 : Nat) : Int) by omega]
section
variable {P : Program} {w : World} {K : PySem.W.Frag} {mg : Str → Option Value} {base : Heap}
def spDrawnRule (K : PySem.W.Frag) : Sp := fun vs H Q _ => ∃ (f s sl c : Nat) (a : Addr) (rs : List Addr) (ps : List Pl), vs = [natV f, natV s, .ref a, natV sl, natV c] ∧ f ≤ 1008 ∧ s ≤ 1008 ∧ sl ≤ 6 ∧ SqS K H a (rs.map V.ref) ∧ Paired (PlA K H) rs ps ∧ (∃ p ∈ ps, p.2.1 = 0) ∧ ps.length ≤ 60 ∧
  ∀ H' q g ms, Same H H' → RuT K H' (.ref q) g ms → (∃ p ∈ ps, p.1 = g ∧ p.2.1 = ms.length) → Opt sl c ms → Q (.ref q) H'
abbrev nDrawnRule : List Str := ["_law_first", "_law_second", "_law_places", "_law_slots", "_law_case", "_law_options", "_law_goals", "_law_goal", "_law_turn", "_law_place_here"]
abbrev pDrawnRule : List Str := ["_law_first", "_law_second", "_law_places", "_law_slots", "_law_case"]
theorem scDrawnRule : FnScope nDrawnRule pDrawnRule (defScope sDrawnRule) := ⟨rfl, rfl, rfl, by decide +kernel, rfl, by decide +kernel, by decide +kernel⟩
theorem ok_DrawnRule (T : Tx K mg) : Fc P w K mg base CX0 1 (He.ga K "_law_drawn_rule") pDrawnRule [] (spDrawnRule K) := by
  refine fc_mk T.f_DrawnRule scDrawnRule (fun _ _ _ _ _ _ us hl => match us, hl with | [_, _, _, _, _], _ => rfl) (fun vs H Q E h => ?_) (fun cdv A0 outer s0 H vs Q E hr h => ?_)
  · obtain ⟨_, _, _, _, _, _, _, rfl, _⟩ := h
    rfl
  · obtain ⟨f, s, sl, c, a, rs, ps, rfl, hf, hs, h6, sq, pr, ⟨p0, hp0, hz⟩, l60, go⟩ := h
    refine ⟨_, pss_cons (s_set 5 scDrawnRule.nd (pe_listRg rfl (by rfl) T.n_list (prg_2 (by rfl) T.n_range pe_int (e_op op_add (pv 3) pe_int))))
      (pss_cons (ps_if (t_c op_eq (pv 4) pe_int) (pss_one (s_set 5 scDrawnRule.nd (e_op op_cat (pe_lst (pa_cons pe_int pa_nil)) (pv 5)))) pss_nil)
      (pss_cons (s_lc 6 (own := [("_law_place_here", 9)]) (g := gName 9) scDrawnRule.nd (pi_seq (K := K) (pv 2)) (blkOk_by (N := nDrawnRule) (sc := defScope sDrawnRule) (by decide +kernel))
          (fun _ _ _ _ _ => pg_name (i := 9) scDrawnRule.nd rfl (Or.inl rfl)) (fun _ _ _ _ _ => pts_one (t_c op_le (e_ixT (K := K) (pv 9) pe_int) (e_len (K := K) T.n_len (pv 5)))) (fun _ _ _ _ _ => pv 9))
      (pss_cons (s_set 7 scDrawnRule.nd (e_ixL (pv 6) (e_op op_mod (e_ty call_int1 T.n_int PyProof.Rows.boot_int (pv 0)) (e_len T.n_len (pv 6)))))
      (pss_cons (s_set 8 scDrawnRule.nd (e_op op_mod (e_ty call_int1 T.n_int PyProof.Rows.boot_int (pv 1)) (pe_callB (call_max2 rfl) (by rfl) T.n_max PyProof.Rows.boot_max (pa_cons pe_int (pa_cons (e_len T.n_len (pv 5)) pa_nil)))))
      (pss_cons (s_set 5 scDrawnRule.nd (e_op op_cat (pe_slice sl_list (pv 5) (po_some (pv 8)) po_none) (pe_slice sl_list (pv 5) po_none (po_some (pv 8)))))
      (pss_cons (ps_if (t_c op_eq (e_op op_mod (e_op op_fdiv (e_ty call_int1 T.n_int PyProof.Rows.boot_int (pv 1)) pe_int) pe_int) pe_int) (pss_one (s_set 5 scDrawnRule.nd (pe_revL (pv 5)))) pss_nil)
      (pss_one (ps_ret (pe_tup (pa_cons (e_ixT (pv 7) pe_int) (pa_cons (e_ty call_tuple_of T.n_tuple PyProof.Rows.boot_tuple (pe_slice sl_list (pv 5) po_none (po_some (e_ixT (pv 7) pe_int)))) pa_nil))))))))))), ?_⟩
    refine ⟨_, rfl, _, _, rfl, rfl, 1, (sl : Int) + 1, rfl, rfl, ⟨by decide, by decide, by omega, by omega, by omega⟩, fun L0 nL0 => ?_⟩
    rw [rgV_one]
    have s0 : Same H (upd H L0 (.lst (((List.range sl).map (· + 1)).map natV))) := same_new nL0
    have d0 : (upd H L0 (.lst (((List.range sl).map (· + 1)).map natV))) L0 = some (.lst (((List.range sl).map (· + 1)).map natV)) := upd_same
    revert s0 d0
    generalize upd H L0 (.lst (((List.range sl).map (· + 1)).map natV)) = H0
    intro s0 d0
    refine ⟨_, rfl, rfl, _, rfl, ?_⟩
    rw [natV_zero]
    have lb := optBase_len sl c
    refine ifs_any (fun σ' H' => ∃ Lo, σ' = [some (natV f), some (natV s), some (.ref a), some (natV sl), some (natV c), some (.ref Lo), none, none, none, none] ∧ Same H H' ∧ H' Lo = some (.lst ((optBase sl c).map natV))) (fun hc D' q => ?_) (fun hc D' q => ?_) ?_
    · have hc : c = 0 := of_decide_eq_true hc
      refine ⟨by show 1 ≤ sizeLine; decide, fun L1 nL1 => ?_⟩
      have s1 : Same H0 (upd H0 L1 (.lst [V.int 0])) := same_new nL1
      refine ⟨_, rfl, L1, L0, _, _, rfl, rfl, upd_same, s1 _ _ d0, le_line (by rw [List.length_map, List.length_map, List.length_range]; show 1 + sl ≤ _; omega), fun Lo nLo => ?_⟩
      refine q _ _ ⟨Lo, rfl, s0.trans (s1.trans (same_new nLo)), ?_⟩
      rw [upd_same]
      unfold optBase
      rw [if_pos hc]
      rfl
    · have hc : ¬ c = 0 := of_decide_eq_false hc
      refine q _ _ ⟨L0, rfl, s0, ?_⟩
      rw [d0]
      unfold optBase
      rw [if_neg hc]
    rintro σ' H1 ⟨Lo, rfl, s1, d1⟩
    have op1 := opt_base sl c
    generalize optBase sl c = l at lb d1 op1
    -- the goals
    refine ⟨_, rfl, a, _, rfl, sq.same s1, fun J G wk hG D hD => ?_⟩
    refine turns wk (fun i H' => Same H1 H' ∧ ∃ zs : List Addr, H' D = some (.lst (zs.map V.ref)) ∧ zs.length ≤ i ∧ (∀ z ∈ zs, ∃ p ∈ ps, PlA K H' z p ∧ p.2.1 ≤ l.length) ∧ ((∃ p ∈ ps.take i, p.2.1 = 0) → zs ≠ []))
      ⟨same_new hD, [], upd_same, Nat.le_refl _, (fun z hz => by cases hz), fun ⟨p, hp, _⟩ => by simp at hp⟩ (fun i H' _ q => hG _ q.1) ?_ ?_
    · rintro i x H2 H3 hi ⟨s2, zs, d2, lz, az, nz⟩ ⟨rfl, e⟩
      rw [List.getElem?_map] at e
      obtain ⟨r, hr1, rfl⟩ := Option.map_eq_some_iff.mp e
      obtain ⟨p, hp, hpl⟩ := paired_at pr hr1
      have hpl := sameT (s1.trans s2) hpl
      have hil := (List.getElem?_eq_some_iff.mp hp).1
      refine ⟨rfl, _, rfl, r, _, 1, _, rfl, rfl, hpl, atI_nat (j := 1) rfl, _, rfl, _, _, rfl, .inl ⟨_, .of (s2 _ _ d1), rfl⟩, _, _, rfl, rfl, _, rfl, ?_⟩
      rw [List.length_map]
      refine ite2 (fun c1 => ?_) (fun c1 => ?_)
      · have c1 : p.2.1 ≤ l.length := by
          have := of_decide_eq_true c1
          omega
        refine ⟨_, rfl, _, d2, lt_line (by rw [List.length_map]; omega), same_mut s2 hD, zs ++ [r], by rw [upd_same, List.map_append] <;> rfl, by rw [List.length_append]; simp; omega, fun z hz' => ?_, fun _ => by simp⟩
        rcases List.mem_append.mp hz' with hz' | hz'
        · obtain ⟨p', h1, h2, h3⟩ := az z hz'
          exact ⟨p', h1, sqT_upd d2 h2, h3⟩
        · rw [List.mem_singleton.mp hz']
          exact ⟨p, List.mem_of_getElem? hp, sqT_upd d2 hpl, c1⟩
      · have c1 : ¬ p.2.1 ≤ l.length := fun z => c1 (decide_eq_true (by omega))
        refine ⟨s2, zs, d2, by omega, az, fun ⟨p', h1, h2⟩ => nz ?_⟩
        rw [take_snoc hp] at h1
        rcases List.mem_append.mp h1 with h1 | h1
        · exact ⟨p', h1, h2⟩
        · rw [List.mem_singleton.mp h1] at h2
          omega
    rintro H2 ⟨s2, zs, d2, lz, az, nz⟩
    rw [List.length_map, pr.length] at lz nz
    rw [List.take_length] at nz
    have nz : zs ≠ [] := nz ⟨p0, hp0, hz⟩
    have zl : 0 < zs.length := List.length_pos_iff.mpr nz
    have d1 := s2 _ _ d1
    have s2 := s1.trans s2
    obtain ⟨z, hz1⟩ : ∃ z, zs[f % zs.length]? = some z := ⟨_, List.getElem?_eq_getElem (Nat.mod_lt _ zl)⟩
    obtain ⟨p, hpm, hpl, hple⟩ := az z (List.mem_of_getElem? hz1)
    have hml : ((f : Int) % (((zs.map V.ref).length : Nat) : Int)) = ((f % zs.length : Nat) : Int) := by
      rw [List.length_map]
      rfl
    refine ⟨_, rfl, _, rfl, .inl ⟨(f : Int), rfl, _, rfl, _, _, rfl, .inl ⟨_, .of d2, rfl⟩, _, _, rfl, rfl, ?_, D, _, _, V.ref z, rfl, rfl, .of d2, at_of hml (by rw [List.getElem?_map, hz1] <;> rfl), ?_⟩⟩
    · show (0 : Int) < (((zs.map V.ref).length : Nat) : Int)
      rw [List.length_map]
      omega
    -- the turn
    have hj : (0 : Int) < (if (((l.map natV).length : Nat) : Int) > 1 then (((l.map natV).length : Nat) : Int) else 1) := by split <;> omega
    obtain ⟨t, ht⟩ : ∃ t : Nat, (s : Int) % (if (((l.map natV).length : Nat) : Int) > 1 then (((l.map natV).length : Nat) : Int) else 1) = (t : Int) := by
      have := Int.emod_nonneg (s : Int) (show (if (((l.map natV).length : Nat) : Int) > 1 then (((l.map natV).length : Nat) : Int) else 1) ≠ 0 by omega)
      exact ⟨((s : Int) % (if (((l.map natV).length : Nat) : Int) > 1 then (((l.map natV).length : Nat) : Int) else 1)).toNat, by omega⟩
    refine ⟨_, rfl, .inl ⟨(s : Int), rfl, _, rfl, _, _, rfl, .inl ⟨_, .of d1, rfl⟩, 1, _, rfl, _, _, rfl, rfl, hj, ?_⟩⟩
    show gName 8 (.int ((s : Int) % (if (((l.map natV).length : Nat) : Int) > 1 then (((l.map natV).length : Nat) : Int) else 1))) _ _ _
    rw [ht]
    -- turned
    refine ⟨_, rfl, _, rfl, (t : Int), rfl, Lo, _, rfl, .of d1, fun L3 nL3 => ?_⟩
    rw [cutV_lo]
    have s3 : Same H2 (upd H2 L3 (.lst ((l.map natV).drop t))) := same_new nL3
    refine ⟨_, rfl, _, rfl, (t : Int), rfl, Lo, _, rfl, .of (s3 _ _ d1), fun L4 nL4 => ?_⟩
    rw [cutV_hi]
    have s4 : Same (upd H2 L3 (.lst ((l.map natV).drop t))) (upd (upd H2 L3 (.lst ((l.map natV).drop t))) L4 (.lst ((l.map natV).take t))) := same_new nL4
    refine ⟨L3, L4, _, _, rfl, rfl, s4 _ _ upd_same, upd_same, le_line (by rw [List.length_drop, List.length_take, List.length_map]; omega), fun L5 nL5 => ?_⟩
    have e5 : (l.map natV).drop t ++ (l.map natV).take t = (l.drop t ++ l.take t).map natV := by rw [List.map_append, List.map_drop, List.map_take]
    rw [e5]
    have perm5 : (l.drop t ++ l.take t).Perm l := by
      have := List.perm_append_comm (l₁ := l.drop t) (l₂ := l.take t)
      rw [List.take_append_drop] at this
      exact this
    have op5 := op1.perm perm5
    have len5 := perm5.length_eq
    have s5 : Same H2 (upd (upd (upd H2 L3 (.lst ((l.map natV).drop t))) L4 (.lst ((l.map natV).take t))) L5 (.lst ((l.drop t ++ l.take t).map natV))) := s3.trans (s4.trans (same_new nL5))
    have d5 : (upd (upd (upd H2 L3 (.lst ((l.map natV).drop t))) L4 (.lst ((l.map natV).take t))) L5 (.lst ((l.drop t ++ l.take t).map natV))) L5 = some (.lst ((l.drop t ++ l.take t).map natV)) := upd_same
    revert s5 d5
    generalize upd (upd (upd H2 L3 (.lst ((l.map natV).drop t))) L4 (.lst ((l.map natV).take t))) L5 (.lst ((l.drop t ++ l.take t).map natV)) = H5
    generalize l.drop t ++ l.take t = l5 at op5 len5
    intro s5 d5
    refine ⟨_, rfl, .inl ⟨(s : Int), rfl, _, 7, rfl, rfl, (show CDiv s 7 from ⟨by decide, by decide⟩), _, 2, rfl, rfl, (show (0 : Int) < 2 by decide), rfl, _, rfl, ?_⟩⟩
    refine ifs_any (fun σ' H' => ∃ L6 l6, σ' = [some (natV f), some (natV s), some (.ref a), some (natV sl), some (natV c), some (.ref L6), some (.ref D), some (.ref z), some (natV t), none] ∧ Same H2 H' ∧ H' L6 = some (.lst (l6.map natV)) ∧ Opt sl c l6 ∧ l6.length = l.length) (fun hc D' q => ?_) (fun hc D' q => ?_) ?_
    · refine ⟨_, rfl, L5, _, rfl, .of d5, fun L6 nL6 => ?_⟩
      refine q _ _ ⟨L6, l5.reverse, rfl, s5.trans (same_new nL6), ?_, op5.perm (List.reverse_perm l5), by rw [List.length_reverse, len5]⟩
      rw [upd_same, List.map_reverse]
    · exact q _ _ ⟨L5, l5, rfl, s5, d5, op5, len5⟩
    rintro σ' H6 ⟨L6, l6, rfl, s6, d6, op6, len6⟩
    have hpl := sameT s6 hpl
    refine ⟨_, rfl, z, _, 0, _, rfl, rfl, hpl, atI_nat (j := 0) rfl, ?_⟩
    refine ⟨_, rfl, _, rfl, z, _, 1, _, rfl, rfl, hpl, atI_nat (j := 1) rfl, (p.2.1 : Int), rfl, L6, _, rfl, .of d6, fun L7 nL7 => ?_⟩
    rw [cutV_hi]
    have s7 : Same H6 (upd H6 L7 (.lst ((l6.map natV).take p.2.1))) := same_new nL7
    refine ⟨L7, _, rfl, .inl ⟨.of upd_same, fun t7 nt7 => ⟨by show 2 ≤ sizeLine; decide, fun q nq => ?_⟩⟩⟩
    have s8 : Same (upd H6 L7 (.lst ((l6.map natV).take p.2.1))) (upd (upd H6 L7 (.lst ((l6.map natV).take p.2.1))) t7 (.tup ((l6.map natV).take p.2.1))) := same_new nt7
    have s9 : Same (upd (upd H6 L7 (.lst ((l6.map natV).take p.2.1))) t7 (.tup ((l6.map natV).take p.2.1))) (upd (upd (upd H6 L7 (.lst ((l6.map natV).take p.2.1))) t7 (.tup ((l6.map natV).take p.2.1))) q (.tup [V.str p.1, .ref t7])) := same_new nq
    refine go _ q p.1 (l6.take p.2.1) (s2.trans (s6.trans (s7.trans (s8.trans s9)))) ⟨q, .ref t7, rfl, .of upd_same, t7, rfl, .of ?_⟩ ⟨p, hpm, rfl, by rw [List.length_take]; omega⟩ ⟨op6.nd.sublist (List.take_sublist _ _), fun m hm => op6.le m (List.mem_of_mem_take hm), fun h hm => op6.nz h (List.mem_of_mem_take hm)⟩
    rw [s9 _ _ upd_same, List.map_take]
end
end Fw

/-! _law_parts. -/
namespace Fw
open PySem PySem.Spec PyProof.Rows L2
def askB (p : Pl) (ws : List Str) : List Rk := ws.flatMap fun w => (List.range (p.2.1 + 1)).map fun c => (p.1, w, c)
def askC (p : Pl) (w : Str) (n : Nat) : List Rk := (List.range n).map fun c => (p.1, w, c)
theorem ask_take {ps : List Pl} {ws : List Str} {i : Nat} {p : Pl} (h : ps[i]? = some p) : askedOf (ps.take (i + 1)) ws = askedOf (ps.take i) ws ++ askB p ws := by
  unfold askedOf
  rw [take_snoc h, List.flatMap_append, List.flatMap_cons, List.flatMap_nil, List.append_nil]
  rfl
theorem askB_take {p : Pl} {ws : List Str} {j : Nat} {w : Str} (h : ws[j]? = some w) : askB p (ws.take (j + 1)) = askB p (ws.take j) ++ askC p w (p.2.1 + 1) := by
  unfold askB
  rw [take_snoc h, List.flatMap_append, List.flatMap_cons, List.flatMap_nil, List.append_nil]
  rfl
theorem askC_succ {p : Pl} {w : Str} {n : Nat} : askC p w (n + 1) = askC p w n ++ [(p.1, w, n)] := by
  unfold askC
  rw [List.range_succ, List.map_append]
  rfl
theorem mem_asked {ps : List Pl} {ws : List Str} {k : Rk} : k ∈ askedOf ps ws ↔ ∃ p ∈ ps, k.1 = p.1 ∧ k.2.1 ∈ ws ∧ k.2.2 ≤ p.2.1 := by
  unfold askedOf
  constructor
  · intro m
    obtain ⟨p, hp, m⟩ := List.mem_flatMap.mp m
    obtain ⟨w, hw, m⟩ := List.mem_flatMap.mp m
    obtain ⟨c, hc, rfl⟩ := List.mem_map.mp m
    have := List.mem_range.mp hc
    exact ⟨p, hp, rfl, hw, by show c ≤ _; omega⟩
  · rintro ⟨p, hp, e, hw, hc⟩
    obtain ⟨a, b, c⟩ := k
    have e : a = p.1 := e
    subst e
    exact List.mem_flatMap.mpr ⟨p, hp, List.mem_flatMap.mpr ⟨b, hw, List.mem_map.mpr ⟨c, List.mem_range.mpr (Nat.lt_succ_of_le hc), rfl⟩⟩⟩
theorem mem_askB {p : Pl} {ws : List Str} {k : Rk} (m : k ∈ askB p ws) : k.1 = p.1 ∧ k.2.1 ∈ ws ∧ k.2.2 ≤ p.2.1 := by
  obtain ⟨w, hw, m⟩ := List.mem_flatMap.mp m
  obtain ⟨c, hc, rfl⟩ := List.mem_map.mp m
  have := List.mem_range.mp hc
  exact ⟨rfl, hw, by show c ≤ _; omega⟩
theorem mem_askC {p : Pl} {w : Str} {n : Nat} {k : Rk} (m : k ∈ askC p w n) : k.1 = p.1 ∧ k.2.1 = w ∧ k.2.2 < n := by
  obtain ⟨c, hc, rfl⟩ := List.mem_map.mp m
  exact ⟨rfl, rfl, List.mem_range.mp hc⟩
theorem askB_len (p : Pl) (ws : List Str) : (askB p ws).length = ws.length * (p.2.1 + 1) := len_flat fun x _ => by rw [List.length_map, List.length_range]
theorem askC_len (p : Pl) (w : Str) (n : Nat) : (askC p w n).length = n := by
  unfold askC
  rw [List.length_map, List.length_range]
theorem asked_le4 {ws : List Str} (hw : ws.length ≤ 2) : ∀ l : List Pl, (∀ p ∈ l, p.2.1 ≤ 3) → (askedOf l ws).length ≤ l.length * 8
  | [], _ => Nat.zero_le _
  | p :: r, h => by
    have h1 := asked_le4 hw r fun q hq => h q (by simp [hq])
    have h2 := h p (by simp)
    have h3 := askB_len p ws
    have h4 : ws.length * (p.2.1 + 1) ≤ 2 * 4 := Nat.mul_le_mul hw (by omega)
    have e : askedOf (p :: r) ws = askB p ws ++ askedOf r ws := by
      unfold askedOf
      rw [List.flatMap_cons]
      rfl
    rw [e, List.length_append, List.length_cons, Nat.succ_mul]
    omega
/-- a book of drawn rules -/
theorem ok_of_asked {ps : List Pl} {ws : List Str} {st : Str} {rl : List (Rk × Rv)} (hp : PlsOk ps st) (hw : WdsOk ws) (he : rl.map (·.1) = askedOf ps ws) (hv : ∀ r ∈ rl, RuOk ps ws r.1 r.2) : (⟨ws, ps, st, rl⟩ : Bk).Ok :=
  ⟨hw, hp, by show (rl.map (·.1)).Nodup; rw [he]; exact asked_nd hp.pd hw.wd, hv, fun p w c h1 h2 h3 => by
    show (p, w, c) ∈ rl.map (·.1)
    rw [he]
    exact mem_asked.mpr ⟨_, hp.mem h1, rfl, h2, h3⟩⟩
theorem ru_of {ps : List Pl} {ws : List Str} {st : Str} (hp : PlsOk ps st) {p : Pl} (hpm : p ∈ ps) {w : Str} (hw : w ∈ ws) {c : Nat} (hc : c ≤ p.2.1) {g : Str} {ms : List Nat} (hg : ∃ q ∈ ps, q.1 = g ∧ q.2.1 = ms.length) (o : Opt p.2.1 c ms) : RuOk ps ws (p.1, w, c) (g, ms) := by
  obtain ⟨q, hq, rfl, hl⟩ := hg
  have e := (hp.at_ hpm).1
  refine ⟨List.mem_map.mpr ⟨p, hpm, rfl⟩, hw, by show c ≤ slotsIn ps p.1; rw [e]; exact hc, List.mem_map.mpr ⟨q, hq, rfl⟩, by show ms.length = slotsIn ps q.1; rw [(hp.at_ hq).1, hl], o.nd, fun m hm => by show m ≤ slotsIn ps p.1; rw [e]; exact o.le m hm, o.nz⟩
theorem call_tuple_S {X : Cx} : CallR X (.type "tuple") (fun xs H Q => ∃ p ys, xs = [.ref p] ∧ SqS X.K H p ys ∧ ∀ H' t, Same H H' → SqT X.K H' t ys → Q (.ref t) H') := by
  intro pins s σ H xs us Q I r h
  obtain ⟨p, ys, rfl, hq, q⟩ := h
  rcases hq with hq | hq
  · exact call_tuple_of pins s σ H _ us Q I r ⟨p, ys, rfl, .inl ⟨hq, fun l hl => q _ l (same_new hl) (.of upd_same)⟩⟩
  · exact call_tuple_of pins s σ H _ us Q I r ⟨p, ys, rfl, .inr ⟨hq, q _ p (.refl _) hq⟩⟩
theorem eight (j : Nat) (hj : j < 8) : ∃ sl, sl ≤ 3 ∧ atI [V.int 1, .int 2, .int 1, .int 0, .int 2, .int 1, .int 2, .int 3] ((j : Nat) : Int) = some (natV sl) := by
  rcases (show j = 0 ∨ j = 1 ∨ j = 2 ∨ j = 3 ∨ j = 4 ∨ j = 5 ∨ j = 6 ∨ j = 7 by omega) with e | e | e | e | e | e | e | e <;> subst e
  · exact ⟨1, by decide, atI_nat rfl⟩
  · exact ⟨2, by decide, atI_nat rfl⟩
  · exact ⟨1, by decide, atI_nat rfl⟩
  · exact ⟨0, by decide, atI_nat rfl⟩
  · exact ⟨2, by decide, atI_nat rfl⟩
  · exact ⟨1, by decide, atI_nat rfl⟩
  · exact ⟨2, by decide, atI_nat rfl⟩
  · exact ⟨3, by decide, atI_nat rfl⟩
theorem SqS.X {K : PySem.W.Frag} {H H' : Hp} {d a : Addr} {u : HO} {xs : List V} (s : SameX d H H') (h : H d = some u) (n1 : NoT u) (n2 : NoL u) (q : SqS K H a xs) : SqS K H' a xs := q.imp (sqL_X s h n2) (sqT_X s h n1)
/-- over a list or a tuple, whatever keeps it -/
def iSeq2 (K : PySem.W.Frag) (te : TE) : TI := fun σ H R => te σ H fun x H1 => ∃ a xs, x = .ref a ∧ SqS K H1 a xs ∧ ∀ J G, Walk J xs.length G (YAt xs) → (∀ H', (SqL K H1 a xs → SqL K H' a xs) → (SqT K H1 a xs → SqT K H' a xs) → G H') → R J H1
theorem pi_seq2 {X : Cx} {K : PySem.W.Frag} {tg l : Expr} {tl : TE} (hl : PE X l tl) (hK : X.K = K := by rfl) : PI X tg l (iSeq2 K tl) := by
  subst hK
  refine ⟨fun pins s σ H R I h => ?_⟩
  refine thn (hl.run pins s σ H _ I h) fun v s1 ⟨x, H1, I1, r1, q1⟩ => ?_
  obtain ⟨a, xs, e, hq, q⟩ := q1
  subst e
  cases r1
  have fp : ∀ b ∈ [s1.heap.objs.size], FpOk X pins H1 b := fun b hb => by
    have e : b = s1.heap.objs.size := by simpa using hb
    subst e
    exact I1.fpOk (Nat.le_refl _) (I1.hok.fresh (Nat.le_refl _))
  rcases hq with hq | hq
  · obtain ⟨its, rv, p, hz⟩ := I1.list hq
    refine wpAny_pyIter_list p.isList ?_
    exact ⟨s1.heap.objs.size, [s1.heap.objs.size], _, _, H1, rfl, I1.kept (t' := s1.toks) fun b o e => Heap.get?_push_of_some _ e, turn_list a _, ⟨_, Heap.get?_push_size _ rfl, rfl, rfl⟩, fp, q _ _ (walk_list (K := X.K) (a := a) (xs := xs)) fun H' s _ => s hq⟩
  · obtain ⟨its, rv, p, hz⟩ := I1.tuple hq
    refine wpAny_pyIter_tuple (show s1.heap.IsTuple a its.toArray from p) ?_
    exact ⟨s1.heap.objs.size, [s1.heap.objs.size], _, _, H1, rfl, I1.kept (t' := s1.toks) fun b o e => Heap.get?_push_of_some _ e, turn_tuple a _, ⟨_, Heap.get?_push_size _ rfl, rfl, rfl⟩, fp, q _ _ (walk_tup (K := X.K) (a := a) (xs := xs)) fun H' _ s => s hq⟩
section
variable {P : Program} {w : World} {K : PySem.W.Frag} {mg : Str → Option Value} {base : Heap}
/-- numbers drawn -/
structure Nums (K : PySem.W.Frag) (H : Hp) (na : Addr) (ns : List Nat) : Prop where
  l : SqL K H na (ns.map natV)
  n : ns.length = 260
  b : ∀ n ∈ ns, n ≤ 1008
theorem Nums.same {H H' : Hp} {na : Addr} {ns : List Nat} (s : Same H H') (h : Nums K H na ns) : Nums K H' na ns := ⟨sameL s h.l, h.n, h.b⟩
theorem Nums.get {H : Hp} {na : Addr} {ns : List Nat} (h : Nums K H na ns) {i : Nat} (hi : i < 260) : ∃ n, atI (ns.map natV) ((i : Nat) : Int) = some (natV n) ∧ n ≤ 1008 := by
  obtain ⟨n, hn⟩ : ∃ n, ns[i]? = some n := ⟨_, List.getElem?_eq_getElem (by rw [h.n]; exact hi)⟩
  exact ⟨n, atI_nat (by rw [List.getElem?_map, hn] <;> rfl), h.b n (List.mem_of_getElem? hn)⟩
def NoLike (ps : List Pl) : Prop := ∀ p ∈ ps, ∀ j : Nat, p.1 ≠ ("like" : Str) ++ Str.ofString (toString (j : Int))
def spParts (K : PySem.W.Frag) : Sp := fun vs H Q _ => ∃ (na : Addr) (ns : List Nat) (at_ : Nat) (wa : Addr) (ws : List Str), vs = [.ref na, natV at_, .ref wa] ∧ Nums K H na ns ∧ at_ ≤ 110 ∧ SqS K H wa (ws.map V.str) ∧ WdsOk ws ∧ ws.length ≤ 2 ∧
  ∀ H' q (b : Bk), Same H H' → PartsM K H' (.ref q) b → b.Ok → b.words = ws → b.places.length ≤ 4 → (∀ p ∈ b.places, p.2.1 ≤ 3) → NoLike b.places → Q (.ref q) H'
abbrev nParts : List Str := ["_law_numbers_here", "_law_at", "_law_words", "_law_names_here", "_law_places", "_law_k", "_law_slots", "_law_rules", "_law_spot", "_law_name", "_law_yes", "_law_word", "_law_case"]
abbrev pParts : List Str := ["_law_numbers_here", "_law_at", "_law_words"]
theorem scParts : FnScope nParts pParts (defScope sParts) := ⟨rfl, rfl, rfl, by decide +kernel, rfl, by decide +kernel, by decide +kernel⟩
theorem ok_Parts (T : Tx K mg) : Fc P w K mg base CX0 2 (He.ga K "_law_parts") pParts [] (spParts K) := by
  refine fc_mk T.f_Parts scParts (fun _ _ _ _ _ _ us hl => match us, hl with | [_, _, _], _ => rfl) (fun vs H Q E h => ?_) (fun cdv A0 outer s0 H vs Q E hr h => ?_)
  · obtain ⟨_, _, _, _, _, rfl, _⟩ := h
    rfl
  · obtain ⟨na, ns, at_, wa, ws, rfl, hn, hat, sw, okw, w2, go⟩ := h
    have hu := hu_of hr
    refine ⟨_, pss_cons (s_set 3 scParts.nd (e_f (ok_Names T) hr T.g__law_names (pa_cons (e_ixL (pv 0) (pv 1)) (pa_cons pe_int pa_nil))))
      (pss_cons (s_set 4 scParts.nd (pe_lst (pa_cons (pe_tup (pa_cons (e_ixL (pv 3) pe_int) (pa_cons pe_int (pa_cons (e_c op_eq (e_op op_mod (e_ty call_int1 T.n_int PyProof.Rows.boot_int (e_ixL (pv 0) (e_op op_add (pv 1) pe_int))) pe_int) pe_int) pa_nil)))) pa_nil)))
      (pss_cons (ps_for passN rfl (pi_range2 (by rfl) T.n_range (pa_cons pe_int (pa_cons (e_op op_add pe_int (e_op op_mod (e_ty call_int1 T.n_int PyProof.Rows.boot_int (e_ixL (pv 0) (e_op op_add (pv 1) pe_int))) pe_int)) pa_nil))) (g_n 5 scParts.nd)
        (pss_cons (s_set 6 scParts.nd (e_ixT (pe_tup (pa_cons pe_int (pa_cons pe_int (pa_cons pe_int (pa_cons pe_int (pa_cons pe_int (pa_cons pe_int (pa_cons pe_int (pa_cons pe_int pa_nil))))))))) (e_op op_mod (e_ty call_int1 T.n_int PyProof.Rows.boot_int (e_ixL (pv 0) (e_op op_add (e_op op_add (pv 1) pe_int) (pv 5)))) pe_int)))
        (pss_one (s_app (pv 4) (pe_tup (pa_cons (e_ixL (pv 3) (pv 5)) (pa_cons (pv 6) (pa_cons (e_c op_eq (e_op op_mod (e_op op_fdiv (e_ty call_int1 T.n_int PyProof.Rows.boot_int (e_ixL (pv 0) (e_op op_add (e_op op_add (pv 1) pe_int) (pv 5)))) pe_int) pe_int) pe_int) pa_nil))))))))
      (pss_cons (s_set 7 scParts.nd pe_dnewT)
      (pss_cons (s_set 8 scParts.nd (e_op op_add (pv 1) pe_int))
      (pss_cons (ps_for passN rfl (pi_list (pv 4)) (g_3 (g_n 9 scParts.nd) (g_n 6 scParts.nd) (g_n 10 scParts.nd)) (pss_one (ps_for passN rfl (pi_seq2 (K := K) (pv 2)) (g_n 11 scParts.nd) (pss_one (ps_for passN rfl (pi_range1 (by rfl) T.n_range (pa_cons (e_op op_add (pv 6) pe_int) pa_nil)) (g_n 12 scParts.nd)
        (pss_cons (s_dput hu (pv 7) (pe_tup (pa_cons (pv 9) (pa_cons (pv 11) (pa_cons (pv 12) pa_nil)))) (e_f (ok_DrawnRule T) hr T.g__law_drawn_rule (pa_cons (e_ixL (pv 0) (pv 8)) (pa_cons (e_ixL (pv 0) (e_op op_add (pv 8) pe_int)) (pa_cons (pv 4) (pa_cons (pv 6) (pa_cons (pv 12) pa_nil)))))))
        (pss_one (s_set 8 scParts.nd (e_op op_add (pv 8) pe_int)))))))))
      (pss_one (ps_ret (pe_lst (pa_cons (e_ty call_tuple_S T.n_tuple PyProof.Rows.boot_tuple (pv 2)) (pa_cons (e_ty call_tuple_S T.n_tuple PyProof.Rows.boot_tuple (pv 4)) (pa_cons (e_ixL (pv 3) pe_int) (pa_cons (pv 7) pa_nil)))))))))))), ?_⟩
    obtain ⟨n0, e0, hn0⟩ := hn.get (i := at_) (by omega)
    obtain ⟨n1, e1, hn1⟩ := hn.get (i := at_ + 1) (by omega)
    obtain ⟨n2, e2, hn2⟩ := hn.get (i := at_ + 2) (by omega)
    refine ⟨_, rfl, _, rfl, na, _, _, _, rfl, rfl, hn.l, e0, n0, 4, rfl, hn0, Nat.le_refl _, fun H1 N s1 d1 => ?_⟩
    have hN1 := hn.same s1
    refine ⟨_, rfl, N, _, 0, _, rfl, rfl, .of d1, atI_nat (j := 0) (by rw [List.getElem?_map, namesL_get (by decide)] <;> rfl), ?_⟩
    refine ⟨_, rfl, _, rfl, _, _, rfl, rfl, na, _, _, _, rfl, rfl, hN1.l, e1, .inl ⟨_, rfl, _, 2, rfl, rfl, (show (0 : Int) < 2 by decide), rfl, by show 3 ≤ sizeLine; decide, fun q0 nq0 => ⟨by show 1 ≤ sizeLine; decide, fun Lp nLp => ?_⟩⟩⟩
    have s2 : Same H1 (upd H1 q0 (.tup [V.str (nameS n0 0), .int 0, .bl (decide (V.int ((n1 : Int) % 2) = V.int 1))])) := same_new nq0
    have s3 : Same (upd H1 q0 (.tup [V.str (nameS n0 0), .int 0, .bl (decide (V.int ((n1 : Int) % 2) = V.int 1))])) (upd (upd H1 q0 (.tup [V.str (nameS n0 0), .int 0, .bl (decide (V.int ((n1 : Int) % 2) = V.int 1))])) Lp (.lst [.ref q0])) := same_new nLp
    have nLp0 : H Lp = none := (s1.trans s2).free nLp
    have neN : N ≠ Lp := ne_of_none (s2 _ _ d1) nLp
    have p3 : PlA K (upd (upd H1 q0 (.tup [V.str (nameS n0 0), .int 0, .bl (decide (V.int ((n1 : Int) % 2) = V.int 1))])) Lp (.lst [.ref q0])) q0 (nameS n0 0, 0, decide (V.int ((n1 : Int) % 2) = V.int 1)) := .of (s3 _ _ upd_same)
    have d3 : (upd (upd H1 q0 (.tup [V.str (nameS n0 0), .int 0, .bl (decide (V.int ((n1 : Int) % 2) = V.int 1))])) Lp (.lst [.ref q0])) Lp = some (.lst [.ref q0]) := upd_same
    have s4 := s1.trans (s2.trans s3)
    have dN := (s2.trans s3) _ _ d1
    revert p3 d3 s4 dN
    generalize decide (V.int ((n1 : Int) % 2) = V.int 1) = y0
    generalize upd (upd H1 q0 (.tup [V.str (nameS n0 0), .int 0, .bl y0])) Lp (.lst [.ref q0]) = H3
    intro p3 d3 s4 dN
    clear s2 s3
    refine ⟨_, rfl, _, rfl, _, _, rfl, rfl, na, _, _, _, rfl, rfl, (hn.same s4).l, e2, .inl ⟨_, rfl, _, 3, rfl, rfl, (show (0 : Int) < 3 by decide), 2, _, rfl, rfl, 1, _, rfl, ?_⟩⟩
    have em : (2 : Int) + ((n2 : Nat) : Int) % 3 = ((2 + n2 % 3 : Nat) : Int) := by omega
    show (-(2 ^ 62) ≤ (1 : Int) ∧ (1 : Int) < 2 ^ 62 ∧ -(2 ^ 62) ≤ (2 : Int) + ((n2 : Nat) : Int) % 3 ∧ (2 : Int) + ((n2 : Nat) : Int) % 3 < 2 ^ 62) ∧ _
    rw [em]
    refine ⟨⟨by decide, by decide, by omega, by omega⟩, ?_⟩
    have et : (((2 + n2 % 3 : Nat) : Int) - 1).toNat = 1 + n2 % 3 := by omega
    rw [et]
    have hm3 : n2 % 3 < 3 := Nat.mod_lt _ (by decide)
    refine for_range (fun i σ' H' => ∃ (o5 o6 : Option V) (qs : List Addr) (ps : List Pl), σ' = [some (.ref na), some (natV at_), some (.ref wa), some (.ref N), some (.ref Lp), o5, o6, none, none, none, none, none, none] ∧ Same H H' ∧ H' N = some (.lst ((namesL n0 4).map V.str)) ∧ H' Lp = some (.lst (qs.map V.ref)) ∧
        Paired (PlA K H') qs ps ∧ ps.map (·.1) = namesL n0 (i + 1) ∧ (∀ p ∈ ps, p.2.1 ≤ 3) ∧ (nameS n0 0, 0, y0) ∈ ps)
      ⟨_, _, [q0], [(nameS n0 0, 0, y0)], rfl, s4, dN, d3, .cons p3 .nil, rfl, fun p hp => by rw [List.mem_singleton.mp hp]; exact Nat.zero_le _, by simp⟩ ?_ ?_
    · rintro i σ' H4 hi ⟨o5, o6, qs, ps, rfl, s5, dN, dL, pr, en, le3, st⟩
      have eik : (1 : Int) + ((i : Nat) : Int) = ((1 + i : Nat) : Int) := by omega
      rw [eik]
      obtain ⟨nk, ek, hnk⟩ := hn.get (i := at_ + 2 + (1 + i)) (by omega)
      obtain ⟨sl, hsl, esl⟩ := eight (nk % 8) (Nat.mod_lt _ (by decide))
      have ek' : atI (ns.map natV) (((at_ : Nat) : Int) + 2 + ((1 + i : Nat) : Int)) = some (natV nk) := by
        rw [show ((at_ : Nat) : Int) + 2 + ((1 + i : Nat) : Int) = ((at_ + 2 + (1 + i) : Nat) : Int) by omega]
        exact ek
      refine ⟨by show 8 ≤ sizeLine; decide, fun t8 nt8 => ?_⟩
      have s6 : Same H4 (upd H4 t8 (.tup [V.int 1, .int 2, .int 1, .int 0, .int 2, .int 1, .int 2, .int 3])) := same_new nt8
      refine ⟨_, rfl, _, rfl, _, _, rfl, rfl, _, rfl, _, _, rfl, rfl, na, _, _, _, rfl, rfl, (hn.same (s5.trans s6)).l, ek', .inl ⟨_, rfl, _, 8, rfl, rfl, (show (0 : Int) < 8 by decide), t8, _, _, natV sl, rfl, rfl, .of upd_same, esl, ?_⟩⟩
      have dN6 := s6 _ _ dN
      have dL6 := s6 _ _ dL
      have pr6 : Paired (PlA K (upd H4 t8 (.tup [V.int 1, .int 2, .int 1, .int 0, .int 2, .int 1, .int 2, .int 3]))) qs ps := paired_imp pr fun _ _ z => sameT s6 z
      have s7 := s5.trans s6
      revert dN6 dL6 pr6 s7
      generalize upd H4 t8 (.tup [V.int 1, .int 2, .int 1, .int 0, .int 2, .int 1, .int 2, .int 3]) = H5
      intro dN6 dL6 pr6 s7
      refine ⟨_, rfl, .inl ⟨rfl, _, .of dL6⟩, ?_⟩
      refine ⟨_, rfl, _, rfl, N, _, _, _, rfl, rfl, .of dN6, atI_nat (j := 1 + i) (by rw [List.getElem?_map, namesL_get (by omega)] <;> rfl), ?_⟩
      refine ⟨_, rfl, ?_⟩
      refine ⟨_, rfl, _, rfl, _, _, rfl, rfl, _, rfl, _, _, rfl, rfl, na, _, _, _, rfl, rfl, (hn.same s7).l, ek', .inl ⟨_, rfl, _, 8, rfl, rfl, (show CDiv nk 8 from ⟨by decide, by decide⟩), _, 2, rfl, rfl, (show (0 : Int) < 2 by decide), rfl, by show 3 ≤ sizeLine; decide, fun q nq => ?_⟩⟩
      have s8 : Same H5 (upd H5 q (.tup [V.str (nameS n0 (1 + i)), natV sl, .bl (decide (V.int ((nk : Int) / 8 % 2) = V.int 1))])) := same_new nq
      have pq : PlA K (upd H5 q (.tup [V.str (nameS n0 (1 + i)), natV sl, .bl (decide (V.int ((nk : Int) / 8 % 2) = V.int 1))])) q (nameS n0 (1 + i), sl, decide (V.int ((nk : Int) / 8 % 2) = V.int 1)) := .of upd_same
      have s9 := s7.trans s8
      have dL8 := s8 _ _ dL6
      have dN8 := s8 _ _ dN6
      have pr8 : Paired (PlA K (upd H5 q (.tup [V.str (nameS n0 (1 + i)), natV sl, .bl (decide (V.int ((nk : Int) / 8 % 2) = V.int 1))]))) qs ps := paired_imp pr6 fun _ _ z => sameT s8 z
      revert pq s9 dL8 dN8 pr8
      generalize decide (V.int ((nk : Int) / 8 % 2) = V.int 1) = yk
      generalize upd H5 q (.tup [V.str (nameS n0 (1 + i)), natV sl, .bl yk]) = H6
      intro pq s9 dL8 dN8 pr8
      have lps : ps.length = i + 1 := by
        have := congrArg List.length en
        rw [List.length_map, namesL_len] at this
        exact this
      refine ⟨Lp, _, _, rfl, rfl, dL8, lt_line (by rw [List.length_map, pr8.length]; omega), ?_⟩
      refine ⟨_, _, qs ++ [q], ps ++ [(nameS n0 (1 + i), sl, yk)], rfl, same_mut s9 nLp0, by rw [upd_ne neN]; exact dN8, by rw [upd_same, List.map_append] <;> rfl, paired_snoc (paired_imp pr8 fun _ _ z => sqT_upd dL8 z) (sqT_upd dL8 pq), ?_, fun p hp => ?_, List.mem_append_left _ st⟩
      · rw [List.map_append, en]
        unfold namesL
        rw [List.range_succ (n := i + 1), List.map_append, show 1 + i = i + 1 by omega]
        rfl
      · rcases List.mem_append.mp hp with hp | hp
        · exact le3 p hp
        · rw [List.mem_singleton.mp hp]
          exact hsl
    rintro σ' H4 ⟨o5, o6, qs, ps, rfl, s5, dN5, dL5, pr5, en, le3, st⟩
    clear dN d3 p3
    have en : ps.map (·.1) = namesL n0 (1 + n2 % 3 + 1) := en
    have lps : ps.length ≤ 4 := by
      have := congrArg List.length en
      rw [List.length_map, namesL_len] at this
      omega
    have okp : PlsOk ps (nameS n0 0) := by
      refine ⟨?_, by omega, fun p hp => ?_, by rw [en]; exact namesL_nd hn0 (by omega), fun p hp => Nat.le_trans (le3 p hp) (by decide), ⟨y0, st⟩⟩
      · have := List.length_pos_of_mem st
        omega
      · have : p.1 ∈ namesL n0 (1 + n2 % 3 + 1) := by
          rw [← en]
          exact List.mem_map.mpr ⟨p, hp, rfl⟩
        obtain ⟨k, hk, e⟩ := namesL_mem this
        rw [e]
        exact nameS_ok hn0 (by omega)
    have nol : NoLike ps := fun p hp j => by
      have : p.1 ∈ namesL n0 (1 + n2 % 3 + 1) := by
        rw [← en]
        exact List.mem_map.mpr ⟨p, hp, rfl⟩
      obtain ⟨k, hk, e⟩ := namesL_mem this
      rw [e]
      exact nameS_like hn0 (by omega) j
    -- the rules
    intro dt ndt
    have s6 : Same H4 (upd H4 dt (.dT [])) := same_new ndt
    have ndt0 : H dt = none := s5.free ndt
    have t5 : (upd H4 dt (.dT [])) dt = some (.dT []) := upd_same
    have dN5 := s6 _ _ dN5
    have dL5 := s6 _ _ dL5
    have pr5 : Paired (PlA K (upd H4 dt (.dT []))) qs ps := paired_imp pr5 fun _ _ z => sameT s6 z
    have s5 := s5.trans s6
    clear s6
    revert t5 dN5 dL5 pr5 s5
    generalize upd H4 dt (.dT []) = H5
    intro t5 dN5 dL5 pr5 s5
    have hn5 := hn.same s5
    have sw5 := sw.same s5
    have nedL : Lp ≠ dt := fun z => by
      rw [z, t5] at dL5
      cases dL5
    have nedN : N ≠ dt := fun z => by
      rw [z, t5] at dN5
      cases dN5
    refine ⟨_, rfl, _, _, rfl, rfl, ?_⟩
    refine ⟨_, rfl, Lp, rfl, ⟨_, .of dL5⟩, ?_⟩
    have tot := asked_le4 w2 ps le3
    refine for_list (K := K) (a := Lp) (xs := qs.map V.ref) (fun i σ' H' => ∃ (o5 o6 o9 o10 o11 o12 : Option V) (tbl : List (List Key × V)) (rl : List (Rk × Rv)), σ' = [some (.ref na), some (natV at_), some (.ref wa), some (.ref N), some (.ref Lp), o5, o6, some (.ref dt), some (natV (at_ + 8 + 2 * rl.length)), o9, o10, o11, o12] ∧ SameX dt H5 H' ∧ H' dt = some (.dT tbl) ∧ TbPr K H' tbl rl ∧
        rl.map (·.1) = askedOf (ps.take i) ws ∧ ∀ r ∈ rl, RuOk ps ws r.1 r.2)
      ⟨_, _, _, _, _, _, [], [], rfl, SameX.refl _ _, t5, .nil, rfl, fun r hr => by cases hr⟩ (fun i σ' H' _ ⟨_, _, _, _, _, _, _, _, _, z, _⟩ => .of (z _ _ nedL dL5)) ?_ ?_
    · rintro i x σ' H6 e ⟨o5, o6, o9, o10, o11, o12, tbl, rl, rfl, z6, t6, p6, ek6, v6⟩
      rw [List.getElem?_map] at e
      obtain ⟨r, hr1, rfl⟩ := Option.map_eq_some_iff.mp e
      obtain ⟨p, hp, hpl⟩ := paired_at pr5 hr1
      have hpm := List.mem_of_getElem? hp
      have hp3 := le3 p hpm
      have hil := (List.getElem?_eq_some_iff.mp hp).1
      have hpl := sqT_X z6 t5 trivial hpl
      refine ⟨r, _, rfl, hpl, rfl, _, _, rfl, _, _, rfl, _, _, rfl, rfl, ?_⟩
      refine ⟨_, rfl, wa, _, rfl, sw5.X z6 t5 trivial trivial, fun J G wk hG => ?_⟩
      have base_ : rl.length = (askedOf (ps.take i) ws).length := by rw [← ek6, List.length_map]
      have bnd : (askedOf (ps.take i) ws).length ≤ i * 8 := Nat.le_trans (asked_le4 w2 (ps.take i) fun p hp => le3 p (List.mem_of_mem_take hp)) (Nat.mul_le_mul_right _ (by rw [List.length_take]; omega))
      refine for_it wk (fun j σ' H' => ∃ (o11 o12 : Option V) (tbl : List (List Key × V)) (rl : List (Rk × Rv)), σ' = [some (.ref na), some (natV at_), some (.ref wa), some (.ref N), some (.ref Lp), o5, some (natV p.2.1), some (.ref dt), some (natV (at_ + 8 + 2 * rl.length)), some (.str p.1), some (.bl p.2.2), o11, o12] ∧ SameX dt H6 H' ∧ H' dt = some (.dT tbl) ∧ TbPr K H' tbl rl ∧
          rl.map (·.1) = askedOf (ps.take i) ws ++ askB p (ws.take j) ∧ ∀ r ∈ rl, RuOk ps ws r.1 r.2)
        ⟨_, _, tbl, rl, rfl, SameX.refl _ _, t6, p6, by rw [ek6]; show _ = _ ++ askB p []; simp [askB], v6⟩ (fun j σ' H' _ ⟨_, _, _, _, _, z, _⟩ => hG H' (sqL_X z t6 trivial) (sqT_X z t6 trivial)) ?_ ?_
      · rintro j x σ' H7 H8 hj ⟨o11, o12, tbl, rl, rfl, z7, t7, p7, ek7, v7⟩ ⟨rfl, e⟩
        rw [List.getElem?_map] at e
        obtain ⟨wd, hwd, rfl⟩ := Option.map_eq_some_iff.mp e
        have wdm := List.mem_of_getElem? hwd
        have hjl := (List.getElem?_eq_some_iff.mp hwd).1
        refine ⟨_, rfl, _, _, rfl, rfl, _, rfl, by omega, by omega, ?_⟩
        have esl : ((p.2.1 : Int) + 1).toNat = p.2.1 + 1 := by omega
        rw [esl]
        have bB : (askB p (ws.take j)).length ≤ 1 * 4 := by
          rw [askB_len]
          exact Nat.mul_le_mul (by rw [List.length_take]; omega) (by omega)
        refine for_range (fun c σ' H' => ∃ (o12 : Option V) (tbl : List (List Key × V)) (rl : List (Rk × Rv)), σ' = [some (.ref na), some (natV at_), some (.ref wa), some (.ref N), some (.ref Lp), o5, some (natV p.2.1), some (.ref dt), some (natV (at_ + 8 + 2 * rl.length)), some (.str p.1), some (.bl p.2.2), some (.str wd), o12] ∧ SameX dt H6 H' ∧ H' dt = some (.dT tbl) ∧ TbPr K H' tbl rl ∧
            rl.map (·.1) = askedOf (ps.take i) ws ++ askB p (ws.take j) ++ askC p wd c ∧ ∀ r ∈ rl, RuOk ps ws r.1 r.2)
          ⟨_, tbl, rl, rfl, z7, t7, p7, by rw [ek7]; show _ = _ ++ []; simp, v7⟩ ?_ ?_
        · rintro c σ' H9 hc ⟨o12, tbl, rl, rfl, y9, t9, p9, ek9, v9⟩
          have z9 := z6.trans y9
          rw [Int.zero_add]
          have lrl : rl.length ≤ i * 8 + 4 + 3 := by
            have := congrArg List.length ek9
            rw [List.length_map, List.length_append, List.length_append, askC_len] at this
            omega
          have hn9 : Nums K H9 na ns := ⟨sqL_X z9 t5 trivial hn5.l, hn.n, hn.b⟩
          obtain ⟨f, ef, hf⟩ := hn9.get (i := at_ + 8 + 2 * rl.length) (by omega)
          obtain ⟨g, eg, hg⟩ := hn9.get (i := at_ + 8 + 2 * rl.length + 1) (by omega)
          refine ⟨_, rfl, _, rfl, na, _, _, _, rfl, rfl, hn9.l, ef, ?_⟩
          refine ⟨_, rfl, _, rfl, _, _, rfl, rfl, na, _, _, _, rfl, rfl, hn9.l, eg, ?_⟩
          refine ⟨_, rfl, _, rfl, _, rfl, f, g, p.2.1, c, Lp, qs, ps, rfl, hf, hg, by omega, .inl (.of (z9 _ _ nedL dL5)), paired_imp pr5 fun _ _ z => sqT_X z9 t5 trivial z, ⟨_, st, rfl⟩, by omega, fun H10 q gg ms s10 ru hgg op => ?_⟩
          refine ⟨_, rfl, _, rfl, _, rfl, _, rfl, by show 3 ≤ sizeLine; decide, fun k nk => ?_⟩
          have s11 : Same H10 (upd H10 k (.tup [V.str p.1, .str wd, natV c])) := same_new nk
          have t11 := (s10.trans s11) _ _ t9
          have hk11 : (upd H10 k (.tup [V.str p.1, .str wd, natV c])) k = some (.tup ((rkeyOf (p.1, wd, c)).map kV)) := upd_same
          have ltbl : tbl.length < sizeLine := lt_line (by rw [p9.length]; omega)
          refine ⟨dt, _, rfl, DPut.t t11 hk11 ltbl, ?_⟩
          have fresh : (p.1, wd, c) ∉ rl.map (·.1) := fun m => by
            rw [ek9] at m
            rcases List.mem_append.mp m with m | m
            · rcases List.mem_append.mp m with m | m
              · obtain ⟨p', hp', e1, _⟩ := mem_asked.mp m
                have : p.1 ∈ (ps.take i).map (·.1) := List.mem_map.mpr ⟨p', hp', e1.symm⟩
                rw [List.map_take] at this
                exact not_taken okp.pd (by rw [List.getElem?_map, hp] <;> rfl) this
              · exact not_taken okw.wd hwd (mem_askB m).2.1
            · exact absurd (mem_askC m).2.2 (Nat.lt_irrefl _)
          have hnv : valV tbl (rkeyOf (p.1, wd, c)) = none := (p9.get (p.1, wd, c)).2 (find1_none.mpr fresh)
          rw [putK_new _ hnv]
          have y12 : SameX dt (upd H10 k (.tup [V.str p.1, .str wd, natV c])) (upd (upd H10 k (.tup [V.str p.1, .str wd, natV c])) dt (.dT (tbl ++ [(rkeyOf (p.1, wd, c), V.ref q)]))) := (SameX.refl dt _).upd
          have z12 := (y9.same (s10.trans s11)).trans y12
          refine ⟨_, rfl, _, _, rfl, rfl, ?_⟩
          refine ⟨some (natV c), tbl ++ [(rkeyOf (p.1, wd, c), V.ref q)], rl ++ [((p.1, wd, c), (gg, ms))], ?_, z12, upd_same, paired_snoc (p9.imp fun _ _ _ z => RuT_X y12 t11 trivial (z.rle (.same (s10.trans s11)))) ⟨rfl, RuT_X y12 t11 trivial (ru.rle (.same s11))⟩, ?_, fun r hr => ?_⟩
          · have e8 : ((at_ + 8 + 2 * rl.length : Nat) : Int) + 2 = ((at_ + 8 + 2 * (rl ++ [(((p.1, wd, c) : Rk), ((gg, ms) : Rv))]).length : Nat) : Int) := by
              rw [List.length_append]
              show _ = ((at_ + 8 + 2 * (rl.length + 1) : Nat) : Int)
              omega
            show [some (.ref na), some (natV at_), some (.ref wa), some (.ref N), some (.ref Lp), o5, some (natV p.2.1), some (.ref dt), some (V.int (((at_ + 8 + 2 * rl.length : Nat) : Int) + 2)), some (.str p.1), some (.bl p.2.2), some (.str wd), some (natV c)] = _
            rw [e8]
            rfl
          · rw [List.map_append, ek9, askC_succ, List.append_assoc]
            rfl
          · rcases List.mem_append.mp hr with hr | hr
            · exact v9 r hr
            · rw [List.mem_singleton.mp hr]
              exact ru_of okp hpm wdm (by omega) hgg op
        · rintro σ' H9 ⟨o12, tbl, rl, rfl, z9, t9, p9, ek9, v9⟩
          refine ⟨_, _, tbl, rl, rfl, z9, t9, p9, ?_, v9⟩
          rw [ek9, askB_take hwd, List.append_assoc]
      · rintro σ' H7 ⟨o11, o12, tbl, rl, rfl, z7, t7, p7, ek7, v7⟩
        refine ⟨_, _, _, _, _, _, tbl, rl, rfl, z6.trans z7, t7, p7, ?_, v7⟩
        rw [ek7, List.length_map, List.take_length, ask_take hp]
    · rintro σ' H6 ⟨o5, o6, o9, o10, o11, o12, tbl, rl, rfl, z6, t6, p6, ek6, v6⟩
      rw [List.length_map, pr5.length, List.take_length] at ek6
      have s6 : Same H H6 := fun b o hb => z6 b o (fun z => by rw [z, ndt0] at hb; cases hb) (s5 b o hb)
      refine ⟨_, rfl, wa, _, rfl, sw.same s6, fun H7 t1 s7 w7 => ?_⟩
      refine ⟨_, rfl, Lp, _, rfl, .inl (.of (s7 _ _ (z6 _ _ nedL dL5))), fun H8 t2 s8 w8 => ?_⟩
      refine ⟨_, rfl, N, _, 0, _, rfl, rfl, .of ((s7.trans s8) _ _ (z6 _ _ nedN dN5)), atI_nat (j := 0) (by rw [List.getElem?_map, namesL_get (by decide)] <;> rfl), _, rfl, by show 4 ≤ sizeLine; decide, fun q nq => ?_⟩
      have s9 : Same H8 (upd H8 q (.lst [V.ref t1, .ref t2, .str (nameS n0 0), .ref dt])) := same_new nq
      have s78 := s7.trans s8
      refine go _ q ⟨ws, ps, nameS n0 0, rl⟩ (s6.trans (s78.trans s9)) ⟨q, t1, t2, dt, qs, tbl, rfl, ⟨.of upd_same, sameT (s8.trans s9) w7, sameT s9 w8, paired_imp pr5 fun _ _ z => sameT (s78.trans s9) (sqT_X z6 t5 trivial z), .inl ((s78.trans s9) _ _ t6), p6.imp fun _ _ _ z => z.rle (.same (s78.trans s9))⟩, (s78.trans s9) _ _ t6⟩ (ok_of_asked okp okw ek6 v6) rfl lps le3 nol
end
end Fw

/-! Rules rewritten, one by one. -/
namespace Fw
open PySem PySem.Spec PyProof.Rows L2
def put1 (l : List (Rk × Rv)) (k : Rk) (v : Rv) : List (Rk × Rv) := if (l.any fun r => decide (r.1 = k)) = true then l.map (fun r => if r.1 = k then (r.1, v) else r) else l ++ [(k, v)]
theorem any_key (l : List (Rk × Rv)) (k : Rk) : (l.any fun r => decide (r.1 = k)) = decide (k ∈ l.map (·.1)) := by
  induction l with
  | nil => rfl
  | cons x r ih =>
    rw [List.any_cons, ih]
    by_cases h : x.1 = k
    · simp [h]
    · simp [h, Ne.symm h]
theorem put1_old {l : List (Rk × Rv)} {k : Rk} (v : Rv) (h : k ∈ l.map (·.1)) : put1 l k v = l.map (fun r => if r.1 = k then (r.1, v) else r) := by
  unfold put1
  rw [any_key, decide_eq_true h]
  rfl
theorem put1_new {l : List (Rk × Rv)} {k : Rk} (v : Rv) (h : k ∉ l.map (·.1)) : put1 l k v = l ++ [(k, v)] := by
  unfold put1
  rw [any_key, decide_eq_false h]
  rfl
theorem put1_keys (l : List (Rk × Rv)) (k : Rk) (v : Rv) : (put1 l k v).map (·.1) = if k ∈ l.map (·.1) then l.map (·.1) else l.map (·.1) ++ [k] := by
  by_cases h : k ∈ l.map (·.1)
  · rw [put1_old v h, if_pos h, List.map_map]
    refine List.map_congr_left fun r _ => ?_
    show (if r.1 = k then (r.1, v) else r).1 = r.1
    split <;> rfl
  · rw [put1_new v h, if_neg h, List.map_append]
    rfl
theorem put1_mem {l : List (Rk × Rv)} {k : Rk} {v : Rv} {r : Rk × Rv} (h : r ∈ put1 l k v) : r = (k, v) ∨ r ∈ l := by
  by_cases hk : k ∈ l.map (·.1)
  · rw [put1_old v hk] at h
    obtain ⟨x, hx, e⟩ := List.mem_map.mp h
    by_cases q : x.1 = k
    · rw [if_pos q, q] at e
      exact .inl e.symm
    · rw [if_neg q] at e
      exact .inr (e ▸ hx)
  · rw [put1_new v hk] at h
    rcases List.mem_append.mp h with h | h
    · exact .inr h
    · exact .inl (List.mem_singleton.mp h)
theorem put1_find (l : List (Rk × Rv)) (k j : Rk) (v : Rv) : find1 (put1 l k v) j = if j = k then some v else find1 l j := by
  by_cases hk : k ∈ l.map (·.1)
  · rw [put1_old v hk]
    have key : ∀ l : List (Rk × Rv), find1 (l.map fun r => if r.1 = k then (r.1, v) else r) j = if j = k then (find1 l j).map (fun _ => v) else find1 l j := by
      intro l
      induction l with
      | nil => simp [find1]
      | cons x r ih =>
        have e1 : ∀ t : List (Rk × Rv), ∀ y, find1 (y :: t) j = if y.1 = j then some y.2 else find1 t j := fun _ _ => rfl
        rw [List.map_cons, e1, e1, ih]
        by_cases h1 : x.1 = k
        · rw [if_pos h1]
          by_cases h2 : j = k
          · rw [if_pos (h1.trans h2.symm), if_pos h2, if_pos (h1.trans h2.symm)]
            rfl
          · have h3 : ¬ x.1 = j := fun z => h2 (z.symm.trans h1)
            rw [if_neg h3, if_neg h2, if_neg h2, if_neg h3]
        · rw [if_neg h1]
          by_cases h2 : x.1 = j
          · have h3 : ¬ j = k := fun z => h1 (h2.trans z)
            rw [if_pos h2, if_neg h3, if_pos h2]
          · rw [if_neg h2, if_neg h2]
    rw [key]
    by_cases e : j = k
    · rw [if_pos e, if_pos e]
      obtain ⟨z, hz⟩ := find1_is hk
      rw [e, hz]
      rfl
    · rw [if_neg e, if_neg e]
  · rw [put1_new v hk, find1_app]
    by_cases e : j = k
    · rw [if_pos e, e, find1_none.mpr hk]
      show Option.or none (if k = k then some v else none) = some v
      rw [if_pos rfl]
      rfl
    · rw [if_neg e]
      have : find1 [(k, v)] j = none := find1_none.mpr (by simp [e])
      rw [this]
      cases find1 l j <;> rfl
theorem TbPr.put {K : PySem.W.Frag} {H : Hp} {tt : List (List Key × V)} {rl : List (Rk × Rv)} {k : Rk} {v : V} {r : Rv} (h : TbPr K H tt rl) (hv : RuT K H v r.1 r.2) : TbPr K H (putK tt (rkeyOf k) v) (put1 rl k r) := by
  have any_ : ∀ {tt : List (List Key × V)} {rl : List (Rk × Rv)}, TbPr K H tt rl → (tt.any fun kv => decide (kv.1 = rkeyOf k)) = (rl.any fun r => decide (r.1 = k)) := by
    intro tt rl h
    unfold TbPr at h
    induction h with
    | nil => rfl
    | @cons a b l1 l2 h1 t ih =>
      rw [List.any_cons, List.any_cons, ih, h1.1]
      congr 1
      rw [decide_eq_decide]
      exact ⟨fun e => rkeyOf_inj _ _ e, fun e => by rw [e]⟩
  unfold putK put1
  rw [any_ h]
  by_cases q : (rl.any fun r => decide (r.1 = k)) = true
  · rw [if_pos q, if_pos q]
    clear any_ q
    unfold TbPr at h ⊢
    induction h with
    | nil => exact .nil
    | @cons a b l1 l2 h1 t ih =>
      refine .cons ?_ ih
      dsimp only
      by_cases e : b.1 = k
      · rw [if_pos (h1.1.trans (congrArg rkeyOf e)), if_pos e]
        exact ⟨h1.1, hv⟩
      · rw [if_neg (fun z => e (rkeyOf_inj _ _ (h1.1.symm.trans z))), if_neg e]
        exact h1
  · rw [if_neg q, if_neg q]
    exact paired_snoc h ⟨rfl, hv⟩
/-- a table under way: its keys -/
structure Tab (ps : List Pl) (ws : List Str) (S : Rk → Prop) (rl : List (Rk × Rv)) : Prop where
  nd : (rl.map (·.1)).Nodup
  v : ∀ r ∈ rl, RuOk ps ws r.1 r.2
  m : ∀ k, k ∈ rl.map (·.1) ↔ S k
theorem Tab.nil (ps : List Pl) (ws : List Str) : Tab ps ws (fun _ => False) [] := ⟨List.nodup_nil, fun r h => (by cases h), fun k => by simp⟩
theorem Tab.iff {ps : List Pl} {ws : List Str} {S S' : Rk → Prop} {rl : List (Rk × Rv)} (h : Tab ps ws S rl) (e : ∀ k, S k ↔ S' k) : Tab ps ws S' rl := ⟨h.nd, h.v, fun k => (h.m k).trans (e k)⟩
theorem Tab.put {ps : List Pl} {ws : List Str} {S : Rk → Prop} {rl : List (Rk × Rv)} (h : Tab ps ws S rl) {k : Rk} {v : Rv} (hv : RuOk ps ws k v) : Tab ps ws (fun j => S j ∨ j = k) (put1 rl k v) := by
  refine ⟨?_, fun r hr => ?_, fun j => ?_⟩
  · rw [put1_keys]
    split
    · exact h.nd
    · rename_i q
      rw [List.nodup_append]
      exact ⟨h.nd, by simp, fun a ha b hb e => q (by rw [← List.mem_singleton.mp hb, ← e]; exact ha)⟩
  · rcases put1_mem hr with e | hr
    · rw [e]
      exact hv
    · exact h.v r hr
  · rw [put1_keys]
    split
    · rename_i q
      rw [h.m j]
      exact ⟨fun z => .inl z, fun z => z.elim id fun e => by rw [e]; exact (h.m k).mp q⟩
    · rw [List.mem_append, h.m j, List.mem_singleton]
/-- .. at its end -/
theorem Tab.ok {ps : List Pl} {ws : List Str} {st : Str} {S : Rk → Prop} {rl : List (Rk × Rv)} (h : Tab ps ws S rl) (hp : PlsOk ps st) (hw : WdsOk ws) (all : ∀ p ∈ ps, ∀ w ∈ ws, ∀ c, c ≤ p.2.1 → S (p.1, w, c)) : (⟨ws, ps, st, rl⟩ : Bk).Ok :=
  ⟨hw, hp, h.nd, h.v, fun p w c h1 h2 h3 => by
    show (p, w, c) ∈ rl.map (·.1)
    exact (h.m _).mpr (all _ (hp.mem h1) w h2 c h3)⟩
theorem Tab.len {ps : List Pl} {ws : List Str} {st : Str} {S : Rk → Prop} {rl : List (Rk × Rv)} (h : Tab ps ws S rl) (hp : PlsOk ps st) (hw : WdsOk ws) : rl.length ≤ 1260 := by
  have e : rl.length = (rl.map (·.1)).length := by rw [List.length_map]
  rw [e]
  refine Nat.le_trans (nodup_le h.nd fun k hk => ?_) (asked_le hp hw)
  obtain ⟨r, hr, rfl⟩ := List.mem_map.mp hk
  have o := h.v r hr
  exact mem_asked.mpr ⟨_, hp.mem o.p, rfl, o.w, o.c⟩
end Fw

/-! _law_permuted. -/
namespace Fw
open PySem PySem.Spec PyProof.Rows L2
section
variable {X : Cx}
/-- xs.index(e) of a list -/
theorem e_lidx {K : PySem.W.Frag} {a e : Expr} {ta te : TE} {apos cpos : Pos} (ha : PE X a ta) (he : PE X e te) (hbase : attributeBase a "index" X.env (eval a X.env) = eval a X.env := by rfl)
    (hfew : ((backTo cpos (starEach [e] X.env)).all (fun x => !x.1) && (backToKw cpos (keywordEach [] X.env)).all (fun x => x.1.isSome)
      && decide (([e] : List Expr).length + ([] : List Keyword).length + (if ([] : List Keyword).isEmpty then 0 else 1) < 30)) = true := by rfl)
    (hline : (apos.endLine == cpos.line) = true := by rfl) (hs : starEach [e] X.env = (false, eval e X.env) :: starEach [] X.env := by rfl) (hplain : (backTo cpos (starEach [] X.env)).any (·.1) = false := by rfl) (hK : X.K = K := by rfl) :
    PE X (.Call (.Attribute a "index" apos) [e] [] cpos) (tBM K "list" (rIndex K) ta (tCons te tNil)) := hK ▸ pe_bm PySem.F.plainAttrs_list PySem.F.slot_list_index PySem.F.type_list_index mt_index ha (pa_cons he pa_nil hs) hbase hfew hline hs hplain
end
theorem flat_nats : ∀ l : List Nat, (l.map natV).all flatV = true
  | [] => rfl
  | x :: r => by
    rw [List.map_cons, List.all_cons, flat_nats r]
    rfl
theorem eqV_nat (a b : Nat) : eqV (natV a) (natV b) = decide (a = b) := by
  show ((a : Int) == (b : Int)) = _
  by_cases h : a = b
  · simp [h]
  · rw [decide_eq_false h]
    exact beq_eq_false_iff_ne.mpr (by omega)
/-- one entry of a locked dict -/
theorem dget_lock {K : PySem.W.Frag} {H : Hp} {dt q : Addr} {od : Obj} {kvs : List (List Key × V)} {rl : List (Rk × Rv)} {r : Rk × Rv} (h : TbPr K H kvs rl) (hd : Rd H dt (.dT kvs)) (nd : (rl.map (·.1)).Nodup) (hr : r ∈ rl) (hq : H q = some (.tup ((rkeyOf r.1).map kV))) :
    ∃ a1 m, DGet H dt (.ref q) (some (.ref a1)) ∧ SqT K H a1 [.str r.2.1, .ref m] ∧ SqT K H m (r.2.2.map natV) := by
  obtain ⟨v1, ev, a1, m1, rfl, ta1, m2, rfl, ta2⟩ := (h.get r.1).1 r.2 (find1_of nd hr)
  exact ⟨a1, m2, .inr ⟨kvs, rkeyOf r.1, q, hd, rfl, hq, ev.symm⟩, ta1, ta2⟩
/-! ### the order -/
structure Ord (s : Nat) (od : List Nat) : Prop where
  nd : od.Nodup
  b : ∀ m ∈ od, 1 ≤ m ∧ m ≤ s
  l : od.length = s
theorem Ord.all {s : Nat} {od : List Nat} (h : Ord s od) {m : Nat} (h1 : 1 ≤ m) (h2 : m ≤ s) : m ∈ od := Classical.byContradiction fun q => by
  have := nodup_le (l := m :: od) (m := (List.range s).map (· + 1)) (List.nodup_cons.mpr ⟨q, h.nd⟩) fun x hx => by
    rcases List.mem_cons.mp hx with e | hx
    · exact List.mem_map.mpr ⟨m - 1, List.mem_range.mpr (by omega), by omega⟩
    · obtain ⟨b1, b2⟩ := h.b x hx
      exact List.mem_map.mpr ⟨x - 1, List.mem_range.mpr (by omega), by omega⟩
  rw [List.length_cons, List.length_map, List.length_range, h.l] at this
  omega
def pi_ (od : List Nat) (c : Nat) : Nat := if c = 0 then 0 else caseOf od c
theorem pi_le {s : Nat} {od : List Nat} (h : Ord s od) (c : Nat) : pi_ od c ≤ s := by
  unfold pi_
  split
  · omega
  · have := caseOf_le od c
    rw [h.l] at this
    exact this
theorem pi_zero {s : Nat} {od : List Nat} (h : Ord s od) {c : Nat} (hc : c ≤ s) : pi_ od c = 0 ↔ c = 0 := by
  unfold pi_
  by_cases e : c = 0
  · rw [if_pos e]
    simp [e]
  · rw [if_neg e, caseOf_zero]
    exact ⟨fun q => absurd (h.all (by omega) hc) q, fun q => absurd q e⟩
theorem pi_inj {s : Nat} {od : List Nat} (h : Ord s od) {c d : Nat} (hc : c ≤ s) (hd : d ≤ s) (e : pi_ od c = pi_ od d) : c = d := by
  by_cases c0 : c = 0
  · have := (pi_zero h hc).mpr c0
    rw [this] at e
    have := (pi_zero h hd).mp e.symm
    omega
  · by_cases d0 : d = 0
    · have := (pi_zero h hd).mpr d0
      rw [this] at e
      have := (pi_zero h hc).mp e
      omega
    · unfold pi_ at e
      rw [if_neg c0, if_neg d0] at e
      cases q : caseOf od c with
      | zero => exact absurd (h.all (by omega) hc) (caseOf_zero.mp q)
      | succ j =>
        have g1 := caseOf_get q
        have g2 := caseOf_get (e.symm.trans q)
        rw [g1] at g2
        exact Option.some.inj g2
theorem pi_sur {s : Nat} {od : List Nat} (h : Ord s od) {c : Nat} (hc : c ≤ s) : ∃ d, d ≤ s ∧ pi_ od d = c := by
  by_cases c0 : c = 0
  · exact ⟨0, Nat.zero_le _, by rw [c0]; rfl⟩
  · obtain ⟨m, hm⟩ : ∃ m, od[c - 1]? = some m := ⟨_, List.getElem?_eq_getElem (by rw [h.l]; omega)⟩
    obtain ⟨b1, b2⟩ := h.b m (List.mem_of_getElem? hm)
    refine ⟨m, b2, ?_⟩
    unfold pi_
    rw [if_neg (by omega), caseOf_nd h.nd hm]
    omega
def phL (od : List Nat) (s : Nat) : List Nat := 0 :: (List.range s).map fun k => caseOf od (k + 1)
theorem ph_get {od : List Nat} {s c : Nat} (hc : c ≤ s) : (phL od s)[c]? = some (pi_ od c) := by
  unfold phL pi_
  cases c with
  | zero => rfl
  | succ c =>
    rw [List.getElem?_cons_succ, List.getElem?_map, List.getElem?_range (by omega), if_neg (by omega)]
    rfl
/-- the moves, turned by the order -/
theorem opt_map {s sl c : Nat} {od ms : List Nat} (h : Ord s od) (o : Opt s c ms) (hc : c ≤ s) : Opt s (pi_ od c) (ms.map (pi_ od)) := by
  refine ⟨?_, fun m hm => ?_, fun h0 hm => ?_⟩
  · unfold List.Nodup
    rw [List.pairwise_map]
    exact List.Pairwise.imp_of_mem (fun {a b} ha hb n q => n (pi_inj h (o.le a ha) (o.le b hb) q)) o.nd
  · obtain ⟨x, _, e⟩ := List.mem_map.mp hm
    rw [← e]
    exact pi_le h x
  · obtain ⟨x, hx, e⟩ := List.mem_map.mp hm
    have := (pi_zero h (o.le x hx)).mp e
    rw [this] at hx
    exact o.nz (fun q => h0 ((pi_zero h hc).mpr q)) hx
theorem opt_turn {s sl c : Nat} {od ms : List Nat} (h : Ord s od) (o : Opt sl c ms) (hl : ms.length = s) : Opt sl c (od.map fun k => ms.getD (k - 1) 0) ∧ (od.map fun k => ms.getD (k - 1) 0).length = s := by
  have get : ∀ k ∈ od, ms[k - 1]? = some (ms.getD (k - 1) 0) := fun k hk => by
    obtain ⟨b1, b2⟩ := h.b k hk
    exact (getD_of (by omega)).mp rfl
  refine ⟨⟨?_, fun m hm => ?_, fun h0 hm => ?_⟩, by rw [List.length_map, h.l]⟩
  · unfold List.Nodup
    rw [List.pairwise_map]
    refine List.Pairwise.imp_of_mem (fun {a b} ha hb n q => n ?_) h.nd
    have h1 := get a ha
    have h2 := get b hb
    rw [q] at h1
    have := nd_inj o.nd h1 h2
    obtain ⟨a1, _⟩ := h.b a ha
    obtain ⟨b1, _⟩ := h.b b hb
    omega
  · obtain ⟨x, hx, e⟩ := List.mem_map.mp hm
    rw [← e]
    exact o.le _ (List.mem_of_getElem? (get x hx))
  · obtain ⟨x, hx, e⟩ := List.mem_map.mp hm
    have := List.mem_of_getElem? (get x hx)
    rw [e] at this
    exact o.nz h0 this
section
variable {P : Program} {w : World} {K : PySem.W.Frag} {mg : Str → Option Value} {base : Heap}
def spPermuted (K : PySem.W.Frag) : Sp := fun vs H Q _ => ∃ v, ∃ b : Bk, ∃ name oa, ∃ od : List Nat, vs = [v, .str name, .ref oa] ∧ PartsM K H v b ∧ b.Ok ∧ name ∈ b.names ∧ SqL K H oa (od.map natV) ∧ Ord (slotsIn b.places name) od ∧
  ∀ H' q (b' : Bk), Same H H' → PartsM K H' (.ref q) b' → b'.Ok → b'.words = b.words → b'.places = b.places → b'.start = b.start → Q (.ref q) H'
abbrev nPermuted : List Str := ["_law_parts_here", "_law_name", "_law_order", "_law_place_here", "_law_rules", "_law_key", "_law_goal", "_law_moves", "_law_source", "_law_word", "_law_case", "_law_k", "_law_one"]
abbrev pPermuted : List Str := ["_law_parts_here", "_law_name", "_law_order"]
theorem scPermuted : FnScope nPermuted pPermuted (defScope sPermuted) := ⟨rfl, rfl, rfl, by decide +kernel, rfl, by decide +kernel, by decide +kernel⟩
theorem ok_Permuted (T : Tx K mg) : Fc P w K mg base CX0 1 (He.ga K "_law_permuted") pPermuted [] (spPermuted K) := by
  refine fc_mk T.f_Permuted scPermuted (fun _ _ _ _ _ _ us hl => match us, hl with | [_, _, _], _ => rfl) (fun vs H Q E h => ?_) (fun cdv A0 outer s0 H vs Q E hr h => ?_)
  · obtain ⟨_, _, _, _, _, rfl, _⟩ := h
    rfl
  · obtain ⟨v, b, name, oa, od, rfl, ⟨a, t1, t2, dt, rs, kvs, rfl, pa, hd⟩, ok, hnm, so, ord, go⟩ := h
    have hu := hu_of hr
    refine ⟨_, pss_cons (s_set 3 scPermuted.nd (e_op op_cat (pe_lst (pa_cons pe_int pa_nil)) (pe_lc (own := [("_law_k", 11)]) (g := gName 11) (tt := tYes) rfl scPermuted.nd (pi_range1 (by rfl) T.n_range (pa_cons (e_len T.n_len (pv 2)) pa_nil)) (blkOk_by (N := nPermuted) (sc := defScope sPermuted) (by decide +kernel))
          (fun _ _ _ _ _ => pg_name (i := 11) scPermuted.nd rfl (Or.inl rfl)) (fun _ _ _ _ _ => pts_nil) (fun _ _ _ _ _ => e_op op_add (e_lidx (K := K) (pv 2) (e_op op_add (pv 11) pe_int)) pe_int))))
      (pss_cons (s_set 4 scPermuted.nd pe_dnewT)
      (pss_cons (ps_lock (ps_for passN rfl (pi_keys (e_ixL (pv 0) pe_int)) (g_n 5 scPermuted.nd)
        (pss_cons (ps_asg (e_dget hu (e_ixL (pv 0) pe_int) (pv 5)) (g_2 (g_n 6 scPermuted.nd) (g_n 7 scPermuted.nd)))
        (pss_cons (ps_asg (pv 5) (g_3 (g_n 8 scPermuted.nd) (g_n 9 scPermuted.nd) (g_n 10 scPermuted.nd)))
        (pss_cons (ps_if (t_c op_eq (pv 8) (pv 1)) (pss_cons (s_set 10 scPermuted.nd (e_ixL (pv 3) (pv 10))) (pss_one (s_set 7 scPermuted.nd (e_ty call_tuple_of T.n_tuple PyProof.Rows.boot_tuple
            (pe_lc (own := [("_law_one", 12)]) (g := gName 12) (tt := tYes) rfl scPermuted.nd (pi_tup (pv 7)) (blkOk_by (N := nPermuted) (sc := defScope sPermuted) (by decide +kernel)) (fun _ _ _ _ _ => pg_name (i := 12) scPermuted.nd rfl (Or.inl rfl)) (fun _ _ _ _ _ => pts_nil) (fun _ _ _ _ _ => e_ixL (K := K) (pv 3) (pv 12))))))) pss_nil)
        (pss_cons (ps_if (t_c op_eq (pv 6) (pv 1)) (pss_one (s_set 7 scPermuted.nd (e_ty call_tuple_of T.n_tuple PyProof.Rows.boot_tuple
            (pe_lc (own := [("_law_k", 11)]) (g := gName 11) (tt := tYes) rfl scPermuted.nd (pi_list (pv 2)) (blkOk_by (N := nPermuted) (sc := defScope sPermuted) (by decide +kernel)) (fun _ _ _ _ _ => pg_name (i := 11) scPermuted.nd rfl (Or.inl rfl)) (fun _ _ _ _ _ => pts_nil) (fun _ _ _ _ _ => e_ixT (K := K) (pv 7) (e_op op_sub (pv 11) pe_int)))))) pss_nil)
        (pss_one (s_dput hu (pv 4) (pe_tup (pa_cons (pv 8) (pa_cons (pv 9) (pa_cons (pv 10) pa_nil)))) (pe_tup (pa_cons (pv 6) (pa_cons (pv 7) pa_nil)))))))))))
      (pss_one (ps_ret (pe_lst (pa_cons (e_ixL (pv 0) pe_int) (pa_cons (e_ixL (pv 0) pe_int) (pa_cons (e_ixL (pv 0) pe_int) (pa_cons (pv 4) pa_nil))))))))), ?_⟩
    have hs6 : slotsIn b.places name ≤ 6 := ok.good.sm name hnm
    obtain ⟨s, hs⟩ : ∃ s, slotsIn b.places name = s := ⟨_, rfl⟩
    rw [hs] at ord hs6
    -- the new cases
    refine ⟨by show 1 ≤ sizeLine; decide, fun L0 nL0 => ?_⟩
    have s0 : Same H (upd H L0 (.lst [V.int 0])) := same_new nL0
    have so0 := sameL s0 so
    refine ⟨_, rfl, _, _, rfl, .inl ⟨_, so0, rfl⟩, _, rfl, by rw [List.length_map, ord.l]; omega, by rw [List.length_map, ord.l]; omega, fun D hD => ?_⟩
    have tn : ((((od.map natV).length : Nat) : Int)).toNat = s := by
      rw [List.length_map, ord.l]
      omega
    rw [tn]
    refine lc_range (fun k H' => Same (upd H L0 (.lst [V.int 0])) H' ∧ H' D = some (.lst (((List.range k).map fun k => caseOf od (k + 1)).map natV))) ⟨same_new hD, upd_same⟩ ?_ ?_
    · rintro k H2 hk ⟨s2, d2⟩
      rw [Int.zero_add]
      have mem := ord.all (m := k + 1) (by omega) (by omega)
      cases ec : caseOf od (k + 1) with
      | zero => exact absurd mem (caseOf_zero.mp ec)
      | succ j =>
        have g1 := caseOf_get ec
        have g2 := caseOf_first ec
        refine ⟨rfl, _, rfl, .inl ⟨rfl, _, sameL s2 so0⟩, _, rfl, _, _, rfl, rfl, oa, _, _, j, natV (k + 1), rfl, rfl, sameL s2 so0, rfl, flat_nats od, by rw [List.getElem?_map, g1] <;> rfl, ?_, fun m z' hm hz => ?_, _, _, rfl, rfl, ?_⟩
        · show eqV (natV (k + 1)) (natV (k + 1)) = true
          rw [eqV_nat]
          exact decide_eq_true rfl
        · rw [List.getElem?_map] at hz
          obtain ⟨x, hx, rfl⟩ := Option.map_eq_some_iff.mp hz
          show eqV (natV x) (natV (k + 1)) = false
          rw [eqV_nat]
          exact decide_eq_false fun q => g2 m hm (by rw [hx, q])
        · refine ⟨_, d2, lt_line (by rw [List.length_map, List.length_map, List.length_range]; omega), same_mut s2 hD, ?_⟩
          rw [upd_same, List.range_succ, List.map_append, List.map_append]
          show some (HO.lst (_ ++ [natV (j + 1)])) = some (HO.lst (_ ++ [natV (caseOf od (k + 1))]))
          rw [ec]
    rintro H1 ⟨s1, d1⟩
    refine ⟨L0, D, _, _, rfl, rfl, s1 _ _ upd_same, d1, le_line (by rw [List.length_map, List.length_map, List.length_range]; show 1 + s ≤ _; omega), fun Lh nLh => ?_⟩
    have s2 : Same H (upd H1 Lh (.lst ([V.int 0] ++ ((List.range s).map fun k => caseOf od (k + 1)).map natV))) := s0.trans (s1.trans (same_new nLh))
    have dh2 : (upd H1 Lh (.lst ([V.int 0] ++ ((List.range s).map fun k => caseOf od (k + 1)).map natV))) Lh = some (.lst ((phL od s).map natV)) := upd_same
    revert s2 dh2
    generalize upd H1 Lh (.lst ([V.int 0] ++ ((List.range s).map fun k => caseOf od (k + 1)).map natV)) = H2
    intro s2 dh2
    clear s0 s1 d1 so0
    -- the new rules
    intro D2 nD2
    have s3 : Same H2 (upd H2 D2 (.dT [])) := same_new nD2
    have nD20 : H D2 = none := s2.free nD2
    have d3 : (upd H2 D2 (.dT [])) D2 = some (.dT []) := upd_same
    have dh3 := s3 _ _ dh2
    have s3 := s2.trans s3
    revert d3 dh3 s3
    generalize upd H2 D2 (.dT []) = H3
    intro d3 dh3 s3
    have pa3 := pa.rle (.same s3)
    have hd3 := s3 _ _ hd
    have so3 := sameL s3 so
    have nedt : dt ≠ D2 := fun z => by
      rw [z, nD20] at hd
      cases hd
    refine ⟨dt, _, hd3, trivial, fun odk => ?_⟩
    have rl : Rle H3 (upd H3 dt (.frz odk (.dT kvs))) := .lock hd3 trivial
    have pl := pa3.rle rl
    have hdl : (upd H3 dt (.frz odk (.dT kvs))) dt = some (.frz odk (.dT kvs)) := upd_same
    have d4 : (upd H3 dt (.frz odk (.dT kvs))) D2 = some (.dT []) := by rw [upd_ne (Ne.symm nedt)]; exact d3
    have dhl : SqL K (upd H3 dt (.frz odk (.dT kvs))) Lh ((phL od s).map natV) := rleL rl (.of dh3)
    have sol := rleL rl so3
    have unl : ∀ H' : Hp, SameX D2 (upd H3 dt (.frz odk (.dT kvs))) H' → Same H (upd H' dt (.dT kvs)) := fun H' z b o hb => by
      by_cases e : b = dt
      · subst e
        rw [hd] at hb
        cases hb
        exact upd_same
      · rw [upd_ne e]
        refine z b o (fun q => ?_) (by rw [upd_ne e]; exact s3 b o hb)
        rw [q, nD20] at hb
        cases hb
    generalize upd H3 dt (.frz odk (.dT kvs)) = H4 at pl hdl d4 dhl sol unl
    refine ⟨_, rfl, a, _, 3, _, rfl, rfl, pl.l, atI_nat (j := 3) rfl, dt, odk, rfl, .inr ⟨kvs, hdl, ?_⟩⟩
    have sig : ∀ r ∈ b.rules, RuOk b.places b.words (r.1.1, r.1.2.1, if r.1.1 = name then pi_ od r.1.2.2 else r.1.2.2)
        (r.2.1, if r.2.1 = name then od.map (fun k => (if r.1.1 = name then r.2.2.map (pi_ od) else r.2.2).getD (k - 1) 0) else if r.1.1 = name then r.2.2.map (pi_ od) else r.2.2) := fun r hr => by
      have o := ok.rv r hr
      have o1 : Opt (slotsIn b.places r.1.1) (if r.1.1 = name then pi_ od r.1.2.2 else r.1.2.2) (if r.1.1 = name then r.2.2.map (pi_ od) else r.2.2) := by
        by_cases e : r.1.1 = name
        · rw [if_pos e, if_pos e, e, hs]
          have o2 : Opt s r.1.2.2 r.2.2 := by
            rw [← hs, ← e]
            exact ⟨o.nd, o.le, o.nz⟩
          have hc := o.c
          rw [e, hs] at hc
          exact opt_map (sl := s) ord o2 hc
        · rw [if_neg e, if_neg e]
          exact ⟨o.nd, o.le, o.nz⟩
      have l1 : (if r.1.1 = name then r.2.2.map (pi_ od) else r.2.2).length = slotsIn b.places r.2.1 := by
        rw [← o.l]
        split
        · rw [List.length_map]
        · rfl
      have hc : (if r.1.1 = name then pi_ od r.1.2.2 else r.1.2.2) ≤ slotsIn b.places r.1.1 := by
        by_cases e : r.1.1 = name
        · rw [if_pos e, e, hs]
          exact pi_le ord _
        · rw [if_neg e]
          exact o.c
      generalize (if r.1.1 = name then r.2.2.map (pi_ od) else r.2.2) = ms1 at o1 l1
      by_cases g : r.2.1 = name
      · rw [if_pos g]
        rw [g, hs] at l1
        obtain ⟨o3, l3⟩ := opt_turn (s := s) ord o1 l1
        exact ⟨o.p, o.w, hc, o.g, by show (List.map _ od).length = slotsIn b.places r.2.1; rw [g, hs]; exact l3, o3.nd, o3.le, o3.nz⟩
      · rw [if_neg g]
        exact ⟨o.p, o.w, hc, o.g, l1, o1.nd, o1.le, o1.nz⟩
    refine for_it (walk_keysT (d := dt) (o := odk) (kvs := kvs)) (fun i σ' H' => ∃ (o5 o6 o7 o8 o9 o10 : Option V) (tbl : List (List Key × V)) (rl : List (Rk × Rv)), σ' = [some (.ref a), some (.str name), some (.ref oa), some (.ref Lh), some (.ref D2), o5, o6, o7, o8, o9, o10, none, none] ∧ SameX D2 H4 H' ∧ H' D2 = some (.dT tbl) ∧ TbPr K H' tbl rl ∧
        Tab b.places b.words (fun j => ∃ r ∈ b.rules.take i, j = (r.1.1, r.1.2.1, if r.1.1 = name then pi_ od r.1.2.2 else r.1.2.2)) rl)
      ⟨_, _, _, _, _, _, [], [], rfl, SameX.refl _ _, d4, .nil, (Tab.nil _ _).iff fun k => ⟨fun z => z.elim, fun ⟨r, hr, _⟩ => by simp at hr⟩⟩ (fun i σ' H' _ ⟨_, _, _, _, _, _, _, _, _, z, _⟩ => z _ _ nedt hdl) ?_ ?_
    · rintro i x σ' H5 H6 hi ⟨o5, o6, o7, o8, o9, o10, tbl, rl, rfl, z5, t5, p5, tb5⟩ ⟨rfl, k, kv, q, ek, rfl, hq⟩
      obtain ⟨r, er, hk, _⟩ := paired_at pa.r ek
      have hk : k = rkeyOf r.1 := hk
      subst hk
      have hrm := List.mem_of_getElem? er
      have o := ok.rv r hrm
      have kvX : TbPr K H6 kvs b.rules := pl.r.imp fun _ _ _ z => RuT_X z5 d4 trivial z
      obtain ⟨a1, m1, g1, ta1, tm1⟩ := dget_lock (od := odk) kvX (.inr ⟨odk, z5 _ _ nedt hdl⟩) ok.rd hrm hq
      have plX := sqL_X z5 d4 trivial pl.l
      have tq : SqT K H6 q [V.str r.1.1, .str r.1.2.1, natV r.1.2.2] := .of hq
      refine ⟨_, rfl, a, _, 3, _, rfl, rfl, plX, atI_nat (j := 3) rfl, _, rfl, dt, _, rfl, g1, a1, _, rfl, ta1, rfl, _, _, rfl, _, _, rfl, rfl, ?_⟩
      refine ⟨_, rfl, q, _, rfl, tq, rfl, _, _, rfl, _, _, rfl, _, _, rfl, rfl, ?_⟩
      refine ⟨_, rfl, _, rfl, rfl, _, rfl, ?_⟩
      have dhX := sqL_X z5 d4 trivial dhl
      have soX := sqL_X z5 d4 trivial sol
      have ml : r.2.2.length ≤ 6 := by
        rw [o.l]
        exact ok.good.sm _ o.g
      refine ifs_any (fun σ' H' => ∃ m2, σ' = [some (.ref a), some (.str name), some (.ref oa), some (.ref Lh), some (.ref D2), some (.ref q), some (.str r.2.1), some (.ref m2), some (.str r.1.1), some (.str r.1.2.1), some (natV (if r.1.1 = name then pi_ od r.1.2.2 else r.1.2.2)), none, none] ∧ Same H6 H' ∧ SqT K H' m2 ((if r.1.1 = name then r.2.2.map (pi_ od) else r.2.2).map natV)) (fun c D' k => ?_) (fun c D' k => ?_) ?_
      · have c : r.1.1 = name := V.str.inj (of_decide_eq_true c)
        have oc := o.c
        rw [c, hs] at oc
        rw [if_pos c, if_pos c] at k
        refine ⟨_, rfl, _, rfl, Lh, _, _, _, rfl, rfl, dhX, atI_nat (j := r.1.2.2) (by rw [List.getElem?_map, ph_get oc] <;> rfl), ?_⟩
        refine ⟨_, rfl, m1, rfl, ⟨_, tm1⟩, fun E1 hE1 => ?_⟩
        refine lc_tup (K := K) (a := m1) (xs := r.2.2.map natV) (fun i H' => Same H6 H' ∧ H' E1 = some (.lst (((r.2.2.take i).map (pi_ od)).map natV))) ⟨same_new hE1, upd_same⟩ (fun i H' _ z => sameT z.1 tm1) ?_ ?_
        · rintro i x H7 e ⟨s7, d7⟩
          rw [List.getElem?_map] at e
          obtain ⟨m, hm, rfl⟩ := Option.map_eq_some_iff.mp e
          have mle := o.le m (List.mem_of_getElem? hm)
          rw [c, hs] at mle
          refine ⟨rfl, _, rfl, _, rfl, Lh, _, _, natV (pi_ od m), rfl, rfl, sameL s7 dhX, atI_nat (j := m) (by rw [List.getElem?_map, ph_get mle] <;> rfl), ?_⟩
          refine ⟨_, d7, lt_line (by rw [List.length_map, List.length_map, List.length_take]; omega), same_mut s7 hE1, ?_⟩
          rw [upd_same, take_snoc hm, List.map_append, List.map_append]
          rfl
        · rintro H7 ⟨s7, d7⟩
          rw [List.length_map, List.take_length] at d7
          refine ⟨E1, _, rfl, .inl ⟨.of d7, fun m2 nm2 => ?_⟩⟩
          exact k _ _ ⟨m2, rfl, s7.trans (same_new nm2), .of upd_same⟩
      · have c : ¬ r.1.1 = name := fun z => by
          have c := of_decide_eq_false c
          exact c (congrArg V.str z)
        rw [if_neg c, if_neg c] at k
        exact k _ _ ⟨m1, rfl, .refl _, tm1⟩
      rintro σ' H7 ⟨m2, rfl, s7, tm2⟩
      have hsg := sig r hrm
      have hc1 : (if r.1.1 = name then pi_ od r.1.2.2 else r.1.2.2) ≤ 6 := Nat.le_trans hsg.c (ok.good.sm _ o.p)
      generalize hms1 : (if r.1.1 = name then r.2.2.map (pi_ od) else r.2.2) = ms1 at tm2 hsg
      have l1 : ms1.length = slotsIn b.places r.2.1 := by
        rw [← hms1, ← o.l]
        split
        · rw [List.length_map]
        · rfl
      refine ⟨_, rfl, _, rfl, rfl, _, rfl, ?_⟩
      refine ifs_any (fun σ' H' => ∃ m3, σ' = [some (.ref a), some (.str name), some (.ref oa), some (.ref Lh), some (.ref D2), some (.ref q), some (.str r.2.1), some (.ref m3), some (.str r.1.1), some (.str r.1.2.1), some (natV (if r.1.1 = name then pi_ od r.1.2.2 else r.1.2.2)), none, none] ∧ Same H7 H' ∧ SqT K H' m3 ((if r.2.1 = name then od.map (fun k => ms1.getD (k - 1) 0) else ms1).map natV)) (fun c D' k => ?_) (fun c D' k => ?_) ?_
      · have c : r.2.1 = name := V.str.inj (of_decide_eq_true c)
        rw [if_pos c] at k
        rw [c, hs] at l1
        refine ⟨_, rfl, oa, rfl, ⟨_, sameL s7 soX⟩, fun E1 hE1 => ?_⟩
        refine lc_list (K := K) (a := oa) (xs := od.map natV) (fun i H' => Same H7 H' ∧ H' E1 = some (.lst (((od.take i).map fun k => ms1.getD (k - 1) 0).map natV))) ⟨same_new hE1, upd_same⟩ (fun i H' _ z => sameL (s7.trans z.1) soX) ?_ ?_
        · rintro i x H8 e ⟨s8, d8⟩
          rw [List.getElem?_map] at e
          obtain ⟨m, hm, rfl⟩ := Option.map_eq_some_iff.mp e
          obtain ⟨b1, b2⟩ := ord.b m (List.mem_of_getElem? hm)
          have hz : (m : Int) - 1 = ((m - 1 : Nat) : Int) := by omega
          have hg : ms1[m - 1]? = some (ms1.getD (m - 1) 0) := (getD_of (by omega)).mp rfl
          refine ⟨rfl, _, rfl, _, rfl, _, _, rfl, rfl, m2, _, _, natV (ms1.getD (m - 1) 0), rfl, rfl, sameT s8 tm2, at_of hz (by rw [List.getElem?_map, hg] <;> rfl), ?_⟩
          refine ⟨_, d8, lt_line (by rw [List.length_map, List.length_map, List.length_take, ord.l]; omega), same_mut s8 hE1, ?_⟩
          rw [upd_same, take_snoc hm, List.map_append, List.map_append]
          rfl
        · rintro H8 ⟨s8, d8⟩
          rw [List.length_map, List.take_length] at d8
          refine ⟨E1, _, rfl, .inl ⟨.of d8, fun m3 nm3 => ?_⟩⟩
          exact k _ _ ⟨m3, rfl, s8.trans (same_new nm3), .of upd_same⟩
      · have c : ¬ r.2.1 = name := fun z => by
          have c := of_decide_eq_false c
          exact c (congrArg V.str z)
        rw [if_neg c] at k
        exact k _ _ ⟨m2, rfl, .refl _, tm2⟩
      rintro σ' H8 ⟨m3, rfl, s8, tm3⟩
      refine ⟨_, rfl, _, rfl, by show 2 ≤ sizeLine; decide, fun v1 nv1 => ?_⟩
      have s9 : Same H8 (upd H8 v1 (.tup [V.str r.2.1, .ref m3])) := same_new nv1
      refine ⟨_, rfl, _, rfl, _, rfl, _, rfl, by show 3 ≤ sizeLine; decide, fun k1 nk1 => ?_⟩
      have s10 : Same (upd H8 v1 (.tup [V.str r.2.1, .ref m3])) (upd (upd H8 v1 (.tup [V.str r.2.1, .ref m3])) k1 (.tup [V.str r.1.1, .str r.1.2.1, natV (if r.1.1 = name then pi_ od r.1.2.2 else r.1.2.2)])) := same_new nk1
      have hk1 : (upd (upd H8 v1 (.tup [V.str r.2.1, .ref m3])) k1 (.tup [V.str r.1.1, .str r.1.2.1, natV (if r.1.1 = name then pi_ od r.1.2.2 else r.1.2.2)])) k1 = some (.tup ((rkeyOf (r.1.1, r.1.2.1, if r.1.1 = name then pi_ od r.1.2.2 else r.1.2.2)).map kV)) := upd_same
      have s11 := s7.trans (s8.trans (s9.trans s10))
      have ru11 : RuT K (upd (upd H8 v1 (.tup [V.str r.2.1, .ref m3])) k1 (.tup [V.str r.1.1, .str r.1.2.1, natV (if r.1.1 = name then pi_ od r.1.2.2 else r.1.2.2)])) (.ref v1) r.2.1 (if r.2.1 = name then od.map (fun k => ms1.getD (k - 1) 0) else ms1) := ⟨v1, .ref m3, rfl, .of (s10 _ _ upd_same), m3, rfl, sameT (s9.trans s10) tm3⟩
      have t11 := s11 _ _ t5
      have ltbl : tbl.length < sizeLine := lt_line (by rw [p5.length]; have := tb5.len ok.ps ok.ws; omega)
      refine ⟨D2, _, rfl, DPut.t t11 hk1 ltbl, ?_⟩
      have y12 : SameX D2 (upd (upd H8 v1 (.tup [V.str r.2.1, .ref m3])) k1 (.tup [V.str r.1.1, .str r.1.2.1, natV (if r.1.1 = name then pi_ od r.1.2.2 else r.1.2.2)])) (upd (upd (upd H8 v1 (.tup [V.str r.2.1, .ref m3])) k1 (.tup [V.str r.1.1, .str r.1.2.1, natV (if r.1.1 = name then pi_ od r.1.2.2 else r.1.2.2)])) D2 (.dT (putK tbl (rkeyOf (r.1.1, r.1.2.1, if r.1.1 = name then pi_ od r.1.2.2 else r.1.2.2)) (.ref v1)))) := (SameX.refl D2 _).upd
      refine ⟨_, _, _, _, _, _, _, put1 rl (r.1.1, r.1.2.1, if r.1.1 = name then pi_ od r.1.2.2 else r.1.2.2) (r.2.1, if r.2.1 = name then od.map (fun k => ms1.getD (k - 1) 0) else ms1), rfl, (z5.same s11).trans y12, upd_same, ?_, ?_⟩
      · exact TbPr.put (p5.imp fun _ _ _ z => RuT_X y12 t11 trivial (z.rle (.same s11))) (RuT_X y12 t11 trivial ru11)
      · refine (tb5.put hsg).iff fun j => ⟨fun z => ?_, fun ⟨r', hr', e⟩ => ?_⟩
        · rcases z with ⟨r', hr', e⟩ | e
          · exact ⟨r', by rw [take_snoc er]; exact List.mem_append_left _ hr', e⟩
          · exact ⟨r, by rw [take_snoc er]; simp, e⟩
        · rw [take_snoc er] at hr'
          rcases List.mem_append.mp hr' with hr' | hr'
          · exact .inl ⟨r', hr', e⟩
          · rw [List.mem_singleton.mp hr'] at e
            exact .inr e
    · rintro σ' H5 ⟨o5, o6, o7, o8, o9, o10, tbl, rl, rfl, z5, t5, p5, tb5⟩
      rw [pa.r.length, List.take_length] at tb5
      have h5 := z5 _ _ nedt hdl
      refine ⟨h5, ?_⟩
      have s6 := unl H5 z5
      have rl6 : Rle H5 (upd H5 dt (.dT kvs)) := .unlock h5
      have t6 : (upd H5 dt (.dT kvs)) D2 = some (.dT tbl) := by rw [upd_ne (Ne.symm nedt)]; exact t5
      have p6 := p5.imp fun _ _ _ z => z.rle rl6
      revert s6 t6 p6
      generalize upd H5 dt (.dT kvs) = H6
      intro s6 t6 p6
      have pa6 := pa.rle (.same s6)
      refine ⟨_, rfl, a, _, 0, _, rfl, rfl, pa6.l, atI_nat (j := 0) rfl, _, rfl, a, _, 1, _, rfl, rfl, pa6.l, atI_nat (j := 1) rfl, _, rfl, a, _, 2, _, rfl, rfl, pa6.l, atI_nat (j := 2) rfl, _, rfl, by show 4 ≤ sizeLine; decide, fun q nq => ?_⟩
      have s7 : Same H6 (upd H6 q (.lst [V.ref t1, .ref t2, .str b.start, .ref D2])) := same_new nq
      have pa7 := pa6.rle (.same s7)
      refine go _ q ⟨b.words, b.places, b.start, rl⟩ (s6.trans s7) ⟨q, t1, t2, D2, rs, tbl, rfl, ⟨.of upd_same, pa7.w, pa7.p, pa7.pr, .inl (s7 _ _ t6), p6.imp fun _ _ _ z => z.rle (.same s7)⟩, s7 _ _ t6⟩ (tb5.ok ok.ps ok.ws fun p hp w hw c hc => ?_) rfl rfl rfl
      by_cases e : p.1 = name
      · have hc : c ≤ s := by
          rw [← hs, ← e, (ok.ps.at_ hp).1]
          exact hc
        obtain ⟨d, hd1, hd2⟩ := pi_sur ord hc
        have m := ok.all p.1 w d (List.mem_map.mpr ⟨p, hp, rfl⟩) hw (by rw [e, hs]; exact hd1)
        obtain ⟨r, hr, er⟩ := List.mem_map.mp m
        refine ⟨r, hr, ?_⟩
        rw [er]
        show (p.1, w, c) = (p.1, w, if p.1 = name then pi_ od d else d)
        rw [if_pos e, hd2]
      · have m := ok.all p.1 w c (List.mem_map.mpr ⟨p, hp, rfl⟩) hw (by rw [(ok.ps.at_ hp).1]; exact hc)
        obtain ⟨r, hr, er⟩ := List.mem_map.mp m
        refine ⟨r, hr, ?_⟩
        rw [er]
        show (p.1, w, c) = (p.1, w, if p.1 = name then pi_ od c else c)
        rw [if_neg e]
end
end Fw

/-! _law_split. -/
namespace Fw
open PySem PySem.Spec PyProof.Rows L2
theorem slots_app {ps qs : List Pl} {p : Str} (h : p ∈ ps.map (·.1)) : slotsIn (ps ++ qs) p = slotsIn ps p ∧ yesIn (ps ++ qs) p = yesIn ps p := by
  obtain ⟨v, hv⟩ := find1_is h
  unfold slotsIn yesIn
  rw [find1_app, hv]
  exact ⟨rfl, rfl⟩
theorem slots_new {ps : List Pl} {p : Pl} (h : p.1 ∉ ps.map (·.1)) : slotsIn (ps ++ [p]) p.1 = p.2.1 ∧ yesIn (ps ++ [p]) p.1 = p.2.2 := by
  unfold slotsIn yesIn
  rw [find1_app, find1_none.mpr h]
  have : find1 [p] p.1 = some p.2 := by
    show (if p.1 = p.1 then some p.2 else none) = _
    rw [if_pos rfl]
  rw [this]
  exact ⟨rfl, rfl⟩
theorem RuOk.app {ps qs : List Pl} {ws : List Str} {k : Rk} {v : Rv} (h : RuOk ps ws k v) : RuOk (ps ++ qs) ws k v := by
  have e1 := (slots_app (qs := qs) h.p).1
  have e2 := (slots_app (qs := qs) h.g).1
  refine ⟨?_, h.w, by rw [e1]; exact h.c, ?_, by rw [e2]; exact h.l, h.nd, by rw [e1]; exact h.le, h.nz⟩
  · rw [List.map_append]
    exact List.mem_append_left _ h.p
  · rw [List.map_append]
    exact List.mem_append_left _ h.g
theorem PlsOk.app {ps : List Pl} {st : Str} {p : Pl} (h : PlsOk ps st) (hl : ps.length < 60) (hn : NameOk p.1) (hf : p.1 ∉ ps.map (·.1)) (h6 : p.2.1 ≤ 6) : PlsOk (ps ++ [p]) st := by
  obtain ⟨y, hy⟩ := h.st
  refine ⟨by rw [List.length_append]; simp, by rw [List.length_append]; show _ + 1 ≤ 60; omega, fun q hq => ?_, ?_, fun q hq => ?_, ⟨y, List.mem_append_left _ hy⟩⟩
  · rcases List.mem_append.mp hq with hq | hq
    · exact h.pn q hq
    · rw [List.mem_singleton.mp hq]
      exact hn
  · rw [List.map_append, List.nodup_append]
    refine ⟨h.pd, by simp, fun a ha c hc e => hf ?_⟩
    have : c = p.1 := by simpa using hc
    rw [← this, ← e]
    exact ha
  · rcases List.mem_append.mp hq with hq | hq
    · exact h.sl q hq
    · rw [List.mem_singleton.mp hq]
      exact h6
theorem SameX.out {D : Addr} {H0 H H' : Hp} (s : Same H0 H) (z : SameX D H H') (n : H0 D = none) : Same H0 H' := fun b o hb => z b o (fun q => by rw [q, n] at hb; cases hb) (s b o hb)
theorem if_cases {c : Bool} {A B : Prop} (h1 : c = true → A) (h2 : c = false → B) : if c = true then A else B := by
  cases c with
  | true => exact iteT (h1 rfl)
  | false => exact iteF (h2 rfl)
section
variable {P : Program} {w : World} {K : PySem.W.Frag} {mg : Str → Option Value} {base : Heap}
def spSplit (K : PySem.W.Frag) : Sp := fun vs H Q _ => ∃ v, ∃ b : Bk, ∃ name fresh, ∃ num : Nat, vs = [v, .str name, .str fresh, natV num] ∧ PartsM K H v b ∧ b.Ok ∧ name ∈ b.names ∧ NameOk fresh ∧ fresh ∉ b.names ∧ b.places.length < 60 ∧
  ∀ H' q (b' : Bk), Same H H' → PartsM K H' (.ref q) b' → b'.Ok → b'.words = b.words → b'.places = b.places ++ [(fresh, slotsIn b.places name, yesIn b.places name)] → b'.start = b.start → Q (.ref q) H'
abbrev nSplit : List Str := ["_law_parts_here", "_law_name", "_law_fresh", "_law_number", "_law_old", "_law_rules", "_law_k", "_law_key", "_law_goal", "_law_moves"]
abbrev pSplit : List Str := ["_law_parts_here", "_law_name", "_law_fresh", "_law_number"]
theorem scSplit : FnScope nSplit pSplit (defScope sSplit) := ⟨rfl, rfl, rfl, by decide +kernel, rfl, by decide +kernel, by decide +kernel⟩
theorem ok_Split (T : Tx K mg) : Fc P w K mg base CX0 2 (He.ga K "_law_split") pSplit [] (spSplit K) := by
  refine fc_mk T.f_Split scSplit (fun _ _ _ _ _ _ us hl => match us, hl with | [_, _, _, _], _ => rfl) (fun vs H Q E h => ?_) (fun cdv A0 outer s0 H vs Q E hr h => ?_)
  · obtain ⟨_, _, _, _, _, rfl, _⟩ := h
    rfl
  · obtain ⟨v, b, name, fresh, num, rfl, ⟨a, t1, t2, dt, rs, kvs, rfl, pa, hd⟩, ok, hnm, nfr, hfr, l60, go⟩ := h
    have hu := hu_of hr
    refine ⟨_, pss_cons (s_set 4 scSplit.nd (e_f (ok_Place T) hr T.g__law_place (pa_cons (pv 0) (pa_cons (pv 1) pa_nil))))
      (pss_cons (s_set 5 scSplit.nd pe_dnewT)
      (pss_cons (s_set 6 scSplit.nd pe_int)
      (pss_cons (ps_lock (ps_for passN rfl (pi_keys (e_ixL (pv 0) pe_int)) (g_n 7 scSplit.nd)
        (pss_cons (ps_asg (e_dget hu (e_ixL (pv 0) pe_int) (pv 7)) (g_2 (g_n 8 scSplit.nd) (g_n 9 scSplit.nd)))
        (pss_cons (s_set 6 scSplit.nd (e_op op_add (pv 6) pe_int))
        (pss_cons (ps_if (pw_and (t_c op_eq (pv 8) (pv 1)) (pw_and1 (t_c op_eq (e_op op_mod (e_op op_fdiv (e_ty call_int1 T.n_int PyProof.Rows.boot_int (pv 3)) (pv 6)) pe_int) pe_int))).pt (pss_one (s_set 8 scSplit.nd (pv 2))) pss_nil)
        (pss_one (s_dput hu (pv 5) (pv 7) (pe_tup (pa_cons (pv 8) (pa_cons (pv 9) pa_nil))))))))))
      (pss_cons (ps_for passN rfl (pi_list (e_ty (call_list_dT rfl) T.n_list PyProof.Rows.boot_list (pv 5))) (g_n 7 scSplit.nd)
        (pss_one (ps_if (t_c op_eq (e_ixT (pv 7) pe_int) (pv 1)) (pss_one (s_dput hu (pv 5) (pe_tup (pa_cons (pv 2) (pa_cons (e_ixT (pv 7) pe_int) (pa_cons (e_ixT (pv 7) pe_int) pa_nil)))) (e_dget hu (pv 5) (pv 7)))) pss_nil)))
      (pss_one (ps_ret (pe_lst (pa_cons (e_ixL (pv 0) pe_int) (pa_cons (e_op op_catA (e_ixL (pv 0) pe_int) (pe_tup (pa_cons (pe_tup (pa_cons (pv 2) (pa_cons (e_ixT (pv 4) pe_int) (pa_cons (e_ixT (pv 4) pe_int) pa_nil)))) pa_nil))) (pa_cons (e_ixL (pv 0) pe_int) (pa_cons (pv 5) pa_nil))))))))))), ?_⟩
    have hfr : fresh ∉ b.places.map (·.1) := hfr
    have hnm : name ∈ b.places.map (·.1) := hnm
    refine ⟨_, rfl, _, rfl, .ref a, name, b.places, rfl, PartsAt.pls (b := b) ⟨a, t1, t2, dt, rs, kvs, rfl, pa⟩, ok.ps.pd, hnm, ok.ps.p60, fun H1 o4 s1 po => ?_⟩
    have hs6 : slotsIn b.places name ≤ 6 := ok.good.sm name hnm
    have okp := ok.ps.app (p := (fresh, slotsIn b.places name, yesIn b.places name)) l60 nfr hfr hs6
    have sfr := (slots_new (ps := b.places) (p := (fresh, slotsIn b.places name, yesIn b.places name)) hfr).1
    have snm := (slots_app (qs := [(fresh, slotsIn b.places name, yesIn b.places name)]) hnm).1
    generalize hps : b.places ++ [(fresh, slotsIn b.places name, yesIn b.places name)] = ps' at okp sfr snm
    have sfr : slotsIn ps' fresh = slotsIn b.places name := sfr
    have frm : fresh ∈ ps'.map (·.1) := by
      rw [← hps, List.map_append]
      exact List.mem_append_right _ (by simp)
    have lift : ∀ {k : Rk} {v : Rv}, RuOk b.places b.words k v → RuOk ps' b.words k v := fun {k v} h => by
      rw [← hps]
      exact h.app
    intro D2 nD2
    have s3 : Same H1 (upd H1 D2 (.dT [])) := same_new nD2
    have nD20 : H D2 = none := s1.free nD2
    have d3 : (upd H1 D2 (.dT [])) D2 = some (.dT []) := upd_same
    have po3 := sameT s3 po
    have s13 := s3
    have s3 := s1.trans s3
    revert d3 po3 s13 s3
    generalize upd H1 D2 (.dT []) = H3
    intro d3 po3 s13 s3
    have pa3 := pa.rle (.same s3)
    have hd3 := s3 _ _ hd
    have nedt : dt ≠ D2 := fun z => by
      rw [z, nD20] at hd
      cases hd
    refine ⟨dt, _, hd3, trivial, fun odk => ?_⟩
    have rl : Rle H3 (upd H3 dt (.frz odk (.dT kvs))) := .lock hd3 trivial
    have pl := pa3.rle rl
    have hdl : (upd H3 dt (.frz odk (.dT kvs))) dt = some (.frz odk (.dT kvs)) := upd_same
    have d4 : (upd H3 dt (.frz odk (.dT kvs))) D2 = some (.dT []) := by rw [upd_ne (Ne.symm nedt)]; exact d3
    have po4 := rleT rl po3
    have unl : ∀ H' : Hp, SameX D2 (upd H3 dt (.frz odk (.dT kvs))) H' → Same H1 (upd H' dt (.dT kvs)) := fun H' z b o hb => by
      by_cases e : b = dt
      · subst e
        rw [s1 _ _ hd] at hb
        cases hb
        exact upd_same
      · rw [upd_ne e]
        refine z b o (fun q => ?_) (by rw [upd_ne e]; exact s13 b o hb)
        rw [q, nD2] at hb
        cases hb
    generalize upd H3 dt (.frz odk (.dT kvs)) = H4 at pl hdl d4 po4 unl
    refine ⟨_, rfl, a, _, 3, _, rfl, rfl, pl.l, atI_nat (j := 3) rfl, dt, odk, rfl, .inr ⟨kvs, hdl, ?_⟩⟩
    have lkv : kvs.length ≤ 1260 := by
      rw [pa.r.length, ok.len]
      exact asked_le ok.ps ok.ws
    refine for_it (walk_keysT (d := dt) (o := odk) (kvs := kvs)) (fun i σ' H' => ∃ (o7 o8 o9 : Option V) (tbl : List (List Key × V)) (rl : List (Rk × Rv)), σ' = [some (.ref a), some (.str name), some (.str fresh), some (natV num), some (.ref o4), some (.ref D2), some (natV i), o7, o8, o9] ∧ SameX D2 H4 H' ∧ H' D2 = some (.dT tbl) ∧ TbPr K H' tbl rl ∧ Tab ps' b.words (fun j => ∃ r ∈ b.rules.take i, j = r.1) rl)
      ⟨_, _, _, [], [], rfl, SameX.refl _ _, d4, .nil, (Tab.nil _ _).iff fun k => ⟨fun z => z.elim, fun ⟨r, hr, _⟩ => by simp at hr⟩⟩ (fun i σ' H' _ ⟨_, _, _, _, _, _, z, _⟩ => z _ _ nedt hdl) ?_ ?_
    · rintro i x σ' H5 H6 hi ⟨o7, o8, o9, tbl, rl, rfl, z5, t5, p5, tb5⟩ ⟨rfl, k, kv, q, ek, rfl, hq⟩
      obtain ⟨r, er, hk, _⟩ := paired_at pa.r ek
      have hk : k = rkeyOf r.1 := hk
      subst hk
      have hrm := List.mem_of_getElem? er
      have o := ok.rv r hrm
      have kvX : TbPr K H6 kvs b.rules := pl.r.imp fun _ _ _ z => RuT_X z5 d4 trivial z
      obtain ⟨a1, m1, g1, ta1, tm1⟩ := dget_lock (od := odk) kvX (.inr ⟨odk, z5 _ _ nedt hdl⟩) ok.rd hrm hq
      have plX := sqL_X z5 d4 trivial pl.l
      refine ⟨_, rfl, a, _, 3, _, rfl, rfl, plX, atI_nat (j := 3) rfl, _, rfl, dt, _, rfl, g1, a1, _, rfl, ta1, rfl, _, _, rfl, _, _, rfl, rfl, ?_⟩
      refine ⟨_, rfl, _, _, rfl, rfl, ?_⟩
      refine ⟨_, rfl, _, rfl, rfl, _, rfl, ?_⟩
      have fin : ∀ g', (g' = r.2.1 ∨ (r.2.1 = name ∧ g' = fresh)) → RuOk ps' b.words r.1 (g', r.2.2) := fun g' hg => by
        rcases hg with rfl | ⟨e, rfl⟩
        · exact lift o
        · have o' := lift o
          refine ⟨o'.p, o'.w, o'.c, frm, ?_, o'.nd, o'.le, o'.nz⟩
          show r.2.2.length = slotsIn ps' g'
          rw [sfr, ← e]
          exact o.l
      have ml : r.2.2.length ≤ 6 := by
        rw [o.l]
        exact ok.good.sm _ o.g
      have ltbl : tbl.length < sizeLine := lt_line (by rw [p5.length]; have := tb5.len okp ok.ws; omega)
      have last : ∀ g', (g' = r.2.1 ∨ (r.2.1 = name ∧ g' = fresh)) → ∀ D : Ends, (∀ σ' H', (∃ (o7 o8 o9 : Option V) (tbl : List (List Key × V)) (rl : List (Rk × Rv)), σ' = [some (.ref a), some (.str name), some (.str fresh), some (natV num), some (.ref o4), some (.ref D2), some (natV (i + 1)), o7, o8, o9] ∧ SameX D2 H4 H' ∧ H' D2 = some (.dT tbl) ∧ TbPr K H' tbl rl ∧ Tab ps' b.words (fun j => ∃ r ∈ b.rules.take (i + 1), j = r.1) rl) → D.nx σ' H') → sDPut (tVar 5) (tVar 7) (tTup (tCons (tVar 8) (tCons (tVar 9) tNil))) D [some (.ref a), some (.str name), some (.str fresh), some (natV num), some (.ref o4), some (.ref D2), some (natV (i + 1)), some (.ref q), some (.str g'), some (.ref m1)] H6 := fun g' hg D go => by
        refine ⟨_, rfl, _, rfl, by show 2 ≤ sizeLine; decide, fun v1 nv1 => ?_⟩
        have s9 : Same H6 (upd H6 v1 (.tup [V.str g', .ref m1])) := same_new nv1
        have ru9 : RuT K (upd H6 v1 (.tup [V.str g', .ref m1])) (.ref v1) g' r.2.2 := ⟨v1, .ref m1, rfl, .of upd_same, m1, rfl, sameT s9 tm1⟩
        have t9 := s9 _ _ t5
        have hq9 := s9 _ _ hq
        have y9 : SameX D2 H4 (upd H6 v1 (.tup [V.str g', .ref m1])) := z5.same s9
        have p9 : TbPr K (upd H6 v1 (.tup [V.str g', .ref m1])) tbl rl := p5.imp fun _ _ _ z => z.rle (.same s9)
        generalize upd H6 v1 (.tup [V.str g', .ref m1]) = H9 at s9 ru9 t9 hq9 y9 p9
        refine ⟨_, rfl, _, rfl, D2, _, rfl, DPut.t t9 hq9 ltbl, ?_⟩
        have y12 : SameX D2 H9 (upd H9 D2 (.dT (putK tbl (rkeyOf r.1) (.ref v1)))) := (SameX.refl D2 _).upd
        refine go _ _ ⟨_, _, _, _, put1 rl r.1 (g', r.2.2), rfl, y9.trans y12, upd_same, ?_, ?_⟩
        · exact TbPr.put (p9.imp fun _ _ _ z => RuT_X y12 t9 trivial z) (RuT_X y12 t9 trivial ru9)
        · refine (tb5.put (fin g' hg)).iff fun j => ⟨fun z => ?_, fun ⟨r', hr', e⟩ => ?_⟩
          · rcases z with ⟨r', hr', e⟩ | e
            · exact ⟨r', by rw [take_snoc er]; exact List.mem_append_left _ hr', e⟩
            · exact ⟨r, by rw [take_snoc er]; simp, e⟩
          · rw [take_snoc er] at hr'
            rcases List.mem_append.mp hr' with hr' | hr'
            · exact .inl ⟨r', hr', e⟩
            · rw [List.mem_singleton.mp hr'] at e
              exact .inr e
      have hi1 : V.int ((i : Int) + 1) = natV (i + 1) := rfl
      refine if_cases (fun c => ?_) (fun c => ?_)
      · have c : r.2.1 = name := V.str.inj (of_decide_eq_true c)
        refine ⟨_, rfl, .inl ⟨num, rfl, ?_⟩⟩
        refine ⟨_, rfl, _, _, rfl, rfl, ⟨by omega, by omega⟩, ?_⟩
        refine ⟨_, _, rfl, rfl, by omega, ?_⟩
        refine ⟨rfl, _, rfl, ?_⟩
        refine if_cases (fun c2 => ?_) (fun c2 => ?_)
        · exact ⟨_, rfl, last fresh (.inr ⟨c, rfl⟩) _ fun _ _ z => z⟩
        · exact last r.2.1 (.inl rfl) _ fun _ _ z => z
      · exact last r.2.1 (.inl rfl) _ fun _ _ z => z
    · rintro σ' H5 ⟨o7, o8, o9, tbl, rl, rfl, z5, t5, p5, tb5⟩
      rw [pa.r.length, List.take_length] at tb5
      have h5 := z5 _ _ nedt hdl
      refine ⟨h5, ?_⟩
      have s6 := unl H5 z5
      have rl6 : Rle H5 (upd H5 dt (.dT kvs)) := .unlock h5
      have t6 : (upd H5 dt (.dT kvs)) D2 = some (.dT tbl) := by rw [upd_ne (Ne.symm nedt)]; exact t5
      have p6 := p5.imp fun _ _ _ z => z.rle rl6
      revert s6 t6 p6
      generalize upd H5 dt (.dT kvs) = H6
      intro s6 t6 p6
      refine ⟨_, rfl, D2, tbl, rfl, .inl t6, fun L bs nL ik => ?_⟩
      have s7 : Same H6 (upd H6 L (.lst (bs.map V.ref))) := same_new nL
      have d7 : (upd H6 L (.lst (bs.map V.ref))) L = some (.lst (bs.map V.ref)) := upd_same
      have t7 := s7 _ _ t6
      have p7 : TbPr K (upd H6 L (.lst (bs.map V.ref))) tbl rl := p6.imp fun _ _ _ z => z.rle (.same s7)
      have ik7 : IsKeys (upd H6 L (.lst (bs.map V.ref))) tbl bs := paired_imp ik fun _ _ z => s7 _ _ z
      have neL : L ≠ D2 := fun z => by
        rw [z, t6] at nL
        cases nL
      have s17 := s6.trans s7
      revert d7 t7 p7 ik7 s17
      generalize upd H6 L (.lst (bs.map V.ref)) = H7
      intro d7 t7 p7 ik7 s17
      clear s7 ik p6 t6 s6 t5 p5 z5 h5 rl6
      have lrl := tb5.len okp ok.ws
      refine ⟨L, rfl, ⟨_, .of d7⟩, ?_⟩
      refine for_list (K := K) (a := L) (xs := bs.map V.ref) (fun i σ' H' => ∃ (o6 o7 o8 o9 : Option V) (tb2 : List (List Key × V)) (rl2 : List (Rk × Rv)), σ' = [some (.ref a), some (.str name), some (.str fresh), some (natV num), some (.ref o4), some (.ref D2), o6, o7, o8, o9] ∧ SameX D2 H7 H' ∧ H' D2 = some (.dT tb2) ∧ TbPr K H' tb2 rl2 ∧
          Tab ps' b.words (fun j => j ∈ rl.map (·.1) ∨ ∃ r ∈ rl.take i, r.1.1 = name ∧ j = (fresh, r.1.2.1, r.1.2.2)) rl2)
        ⟨_, _, _, _, tbl, rl, rfl, SameX.refl _ _, t7, p7, ⟨tb5.nd, tb5.v, fun k => ⟨fun z => .inl z, fun z => z.elim id fun ⟨r, hr, _⟩ => by simp at hr⟩⟩⟩ (fun i σ' H' _ ⟨_, _, _, _, _, _, _, z, _⟩ => .of (z _ _ neL d7)) ?_ ?_
      · rintro i x σ' H8 e ⟨o6, o7, o8, o9, tb2, rl2, rfl, z8, t8, p8, tb8⟩
        rw [List.getElem?_map] at e
        obtain ⟨q, hq, rfl⟩ := Option.map_eq_some_iff.mp e
        obtain ⟨kv, ekv, hkq⟩ := paired_at2 ik7 hq
        obtain ⟨r, er, hk, _⟩ := paired_at p7 ekv
        have hk : kv.1 = rkeyOf r.1 := hk
        rw [hk] at hkq
        have hrm := List.mem_of_getElem? er
        have neq : q ≠ D2 := fun z => by
          rw [z, t7] at hkq
          cases hkq
        have hq8 := z8 _ _ neq hkq
        have tq8 : SqT K H8 q [V.str r.1.1, .str r.1.2.1, natV r.1.2.2] := .of hq8
        refine ⟨_, rfl, q, _, 0, _, rfl, rfl, tq8, rfl, _, rfl, rfl, _, rfl, ?_⟩
        refine if_cases (fun c => ?_) (fun c => ?_)
        · have c : r.1.1 = name := V.str.inj (of_decide_eq_true c)
          have kin : r.1 ∈ rl2.map (·.1) := (tb8.m _).mpr (.inl (List.mem_map.mpr ⟨r, hrm, rfl⟩))
          obtain ⟨r2, hr2, er2⟩ := List.mem_map.mp kin
          have o2 := tb8.v r2 hr2
          have hq8' : H8 q = some (.tup ((rkeyOf r2.1).map kV)) := by rw [er2]; exact hq8
          obtain ⟨a1, m1, g1, ta1, tm1⟩ := dget_lock (od := odk) p8 (.inl t8) tb8.nd hr2 hq8'
          have ltbl : tb2.length < sizeLine := lt_line (by rw [p8.length]; have := tb8.len okp ok.ws; omega)
          refine ⟨_, rfl, _, rfl, D2, _, rfl, g1, ?_⟩
          refine ⟨_, rfl, _, rfl, _, rfl, q, _, 1, _, rfl, rfl, tq8, rfl, _, rfl, q, _, 2, _, rfl, rfl, tq8, rfl, by show 3 ≤ sizeLine; decide, fun k1 nk1 => ?_⟩
          have hk9 : (upd H8 k1 (.tup [V.str fresh, .str r.1.2.1, natV r.1.2.2])) k1 = some (.tup ((rkeyOf (fresh, r.1.2.1, r.1.2.2)).map kV)) := upd_same
          have s9 : Same H8 (upd H8 k1 (.tup [V.str fresh, .str r.1.2.1, natV r.1.2.2])) := same_new nk1
          have ru9 : RuT K (upd H8 k1 (.tup [V.str fresh, .str r.1.2.1, natV r.1.2.2])) (.ref a1) r2.2.1 r2.2.2 := ⟨a1, .ref m1, rfl, sameT s9 ta1, m1, rfl, sameT s9 tm1⟩
          generalize hH9 : upd H8 k1 (.tup [V.str fresh, .str r.1.2.1, natV r.1.2.2]) = H9 at hk9 s9 ru9
          have t9 := s9 _ _ t8
          have p9 : TbPr K H9 tb2 rl2 := p8.imp fun _ _ _ z => z.rle (.same s9)
          have y12 : SameX D2 H9 (upd H9 D2 (.dT (putK tb2 (rkeyOf (fresh, r.1.2.1, r.1.2.2)) (.ref a1)))) := (SameX.refl D2 _).upd
          have o3 : RuOk ps' b.words (fresh, r.1.2.1, r.1.2.2) r2.2 := by
            have e1 : slotsIn ps' fresh = slotsIn ps' r2.1.1 := by rw [er2, c, sfr, snm]
            have c2 := o2.c
            have w2 := o2.w
            have n2 := o2.nz
            have l2 := o2.le
            rw [er2] at c2 w2 n2
            refine ⟨frm, w2, ?_, o2.g, o2.l, o2.nd, ?_, n2⟩
            · show r.1.2.2 ≤ slotsIn ps' fresh
              rw [e1, er2]
              exact c2
            · show ∀ m ∈ r2.2.2, m ≤ slotsIn ps' fresh
              rw [e1]
              exact l2
          refine ⟨D2, _, rfl, DPut.t t9 hk9 ltbl, ?_⟩
          refine ⟨_, _, _, _, _, put1 rl2 (fresh, r.1.2.1, r.1.2.2) r2.2, rfl, (z8.same s9).trans y12, upd_same, ?_, ?_⟩
          · exact TbPr.put (p9.imp fun _ _ _ z => RuT_X y12 t9 trivial z) (RuT_X y12 t9 trivial ru9)
          · refine (tb8.put o3).iff fun j => ⟨fun z => ?_, fun z => ?_⟩
            · rcases z with (z | ⟨r', hr', e⟩) | e
              · exact .inl z
              · exact .inr ⟨r', by rw [take_snoc er]; exact List.mem_append_left _ hr', e⟩
              · exact .inr ⟨r, by rw [take_snoc er]; simp, c, e⟩
            · rcases z with z | ⟨r', hr', e⟩
              · exact .inl (.inl z)
              · rw [take_snoc er] at hr'
                rcases List.mem_append.mp hr' with hr' | hr'
                · exact .inl (.inr ⟨r', hr', e⟩)
                · rw [List.mem_singleton.mp hr'] at e
                  exact .inr e.2
        · have c : ¬ r.1.1 = name := fun z => of_decide_eq_false c (congrArg V.str z)
          refine ⟨_, _, _, _, tb2, rl2, rfl, z8, t8, p8, tb8.iff fun j => ⟨fun z => ?_, fun z => ?_⟩⟩
          · rcases z with z | ⟨r', hr', e⟩
            · exact .inl z
            · exact .inr ⟨r', by rw [take_snoc er]; exact List.mem_append_left _ hr', e⟩
          · rcases z with z | ⟨r', hr', e⟩
            · exact .inl z
            · rw [take_snoc er] at hr'
              rcases List.mem_append.mp hr' with hr' | hr'
              · exact .inr ⟨r', hr', e⟩
              · rw [List.mem_singleton.mp hr'] at e
                exact absurd e.1 c
      · rintro σ' H8 ⟨o6, o7, o8, o9, tb2, rl2, rfl, z8, t8, p8, tb8⟩
        have ebs : bs.length = rl.length := by rw [← ik7.length, p7.length]
        rw [List.length_map, ebs, List.take_length] at tb8
        have s18 : Same H1 H8 := SameX.out s17 z8 nD2
        have po8 := sameT s18 po
        have s8 := s1.trans s18
        have pa8 := pa.rle (.same s8)
        refine ⟨_, rfl, a, _, 0, _, rfl, rfl, pa8.l, atI_nat (j := 0) rfl, ?_⟩
        refine ⟨_, rfl, a, _, 1, _, rfl, rfl, pa8.l, atI_nat (j := 1) rfl, ?_⟩
        refine ⟨_, rfl, _, rfl, o4, _, 1, _, rfl, rfl, po8, rfl, _, rfl, o4, _, 2, _, rfl, rfl, po8, rfl, by show 3 ≤ sizeLine; decide, fun n1 nn1 => ?_⟩
        have s9 : Same H8 (upd H8 n1 (.tup [V.str fresh, natV (slotsIn b.places name), .bl (yesIn b.places name)])) := same_new nn1
        have pn9 : PlA K (upd H8 n1 (.tup [V.str fresh, natV (slotsIn b.places name), .bl (yesIn b.places name)])) n1 (fresh, slotsIn b.places name, yesIn b.places name) := .of upd_same
        generalize upd H8 n1 (.tup [V.str fresh, natV (slotsIn b.places name), .bl (yesIn b.places name)]) = H9 at s9 pn9
        refine ⟨by show 1 ≤ sizeLine; decide, fun n2 nn2 => ?_⟩
        have s10 : Same H9 (upd H9 n2 (.tup [V.ref n1])) := same_new nn2
        have d10 : (upd H9 n2 (.tup [V.ref n1])) n2 = some (.tup [V.ref n1]) := upd_same
        generalize upd H9 n2 (.tup [V.ref n1]) = H10 at s10 d10
        have s910 := s9.trans s10
        have pa10 := pa8.rle (.same s910)
        have lrs : rs.length = b.places.length := pa.pr.length
        have ers : rs.map V.ref ≠ [] := fun z => by
          have l := congrArg List.length z
          rw [List.length_map, lrs] at l
          have p := ok.ps.p1
          rw [l] at p
          exact absurd p (by show ¬ 1 ≤ 0; decide)
        refine ⟨t2, n2, rs.map V.ref, [V.ref n1], rfl, rfl, pa10.p, .of d10, le_line (by rw [List.length_map, lrs]; show _ + 1 ≤ _; omega), fun z => absurd z ers, fun _ z => (by cases z), fun _ _ t9 nt9 => ?_⟩
        have s11 : Same H10 (upd H10 t9 (.tup (rs.map V.ref ++ [V.ref n1]))) := same_new nt9
        have d11 : (upd H10 t9 (.tup (rs.map V.ref ++ [V.ref n1]))) t9 = some (.tup ((rs ++ [n1]).map V.ref)) := by
          rw [upd_same, List.map_append]
          rfl
        generalize upd H10 t9 (.tup (rs.map V.ref ++ [V.ref n1])) = H11 at s11 d11
        have s811 := s910.trans s11
        have pa11 := pa8.rle (.same s811)
        refine ⟨_, rfl, a, _, 2, _, rfl, rfl, pa11.l, atI_nat (j := 2) rfl, _, rfl, by show 4 ≤ sizeLine; decide, fun q nq => ?_⟩
        have s12 : Same H11 (upd H11 q (.lst [V.ref t1, .ref t9, .str b.start, .ref D2])) := same_new nq
        have d12 : (upd H11 q (.lst [V.ref t1, .ref t9, .str b.start, .ref D2])) q = some (.lst [V.ref t1, .ref t9, .str b.start, .ref D2]) := upd_same
        generalize upd H11 q (.lst [V.ref t1, .ref t9, .str b.start, .ref D2]) = H12 at s12 d12
        have s8z := s811.trans s12
        have pa12 := pa8.rle (.same s8z)
        have pr12 : Paired (PlA K H12) (rs ++ [n1]) ps' := by
          rw [← hps]
          exact paired_snoc pa12.pr (sameT (s10.trans (s11.trans s12)) pn9)
        refine go _ q ⟨b.words, ps', b.start, rl2⟩ (s8.trans s8z) ⟨q, t1, t9, D2, rs ++ [n1], tb2, rfl, ⟨.of d12, pa12.w, .of (s12 _ _ d11), pr12, .inl (s8z _ _ t8), p8.imp fun _ _ _ z => z.rle (.same s8z)⟩, s8z _ _ t8⟩ (tb8.ok okp ok.ws fun p hp w hw c hc => ?_) rfl hps.symm rfl
        have old : ∀ p ∈ b.places, ∀ c, c ≤ p.2.1 → (p.1, w, c) ∈ rl.map (·.1) := fun p hp c hc => by
          have m := ok.all p.1 w c (List.mem_map.mpr ⟨p, hp, rfl⟩) hw (by rw [(ok.ps.at_ hp).1]; exact hc)
          obtain ⟨r, hr, er⟩ := List.mem_map.mp m
          exact (tb5.m _).mpr ⟨r, hr, er.symm⟩
        rw [← hps] at hp
        rcases List.mem_append.mp hp with hp | hp
        · exact .inl (old p hp c hc)
        · have e := List.mem_singleton.mp hp
          obtain ⟨pn, hpn, epn⟩ := List.mem_map.mp hnm
          rw [e] at hc
          have hc : c ≤ slotsIn b.places name := hc
          have m := old pn hpn c (by rw [← (ok.ps.at_ hpn).1, epn]; exact hc)
          obtain ⟨r, hr, er⟩ := List.mem_map.mp m
          refine .inr ⟨r, hr, ?_, ?_⟩
          · rw [er]
            exact epn
          · rw [er, e]
end
end Fw

/-! _law_idle: one slot more. -/
namespace Fw
open PySem PySem.Spec PyProof.Rows L2
/-- as many as they are -/
theorem nd_of_keys : ∀ {ns ks : List Int}, ks.Nodup → (∀ k ∈ ks, k ∈ ns) → ks.length = ns.length → ns.Nodup
  | [], _, _, _, _ => List.nodup_nil
  | x :: r, ks, nd, sub, hl => by
    have nx : x ∉ r := fun hx => by
      have := nodup_le (m := r) nd fun k hk => by
        rcases List.mem_cons.mp (sub k hk) with e | h
        · rw [e]
          exact hx
        · exact h
      rw [hl, List.length_cons] at this
      omega
    have sub2 : ∀ k ∈ ks.erase x, k ∈ r := fun k hk => by
      obtain ⟨h1, h2⟩ := nd.mem_erase_iff.mp hk
      exact (List.mem_cons.mp (sub k h2)).resolve_left h1
    have nd2 := nd.erase x
    have l1 := nodup_le nd2 sub2
    rw [List.length_erase, hl, List.length_cons] at l1
    refine List.nodup_cons.mpr ⟨nx, nd_of_keys nd2 sub2 ?_⟩
    rw [List.length_erase, hl, List.length_cons]
    split at l1
    · rename_i h
      rw [if_pos h]
      rfl
    · omega
def tLenSetU (K : PySem.W.Frag) (ta : TE) : TE := fun σ H Q => ta σ H fun x H1 => ∃ (l : Addr) (ns : List Int), x = V.ref l ∧ SqT K H1 l (ns.map V.int) ∧ ns.length ≤ 60 ∧ ∀ c : Nat, c ≤ ns.length → (c = ns.length → ns.Nodup) → Q (.int c) H1
section
variable {X : Cx}
theorem e_lenSetU {a : Expr} {ta : TE} {p p2 q pos : Pos} (hm : X.mg "len" = none) (hm2 : X.mg "set" = none) (ha : PE X a ta) (hg : Gl X "len" := by rfl) (hg2 : Gl X "set" := by rfl) (hc : X.calm = true := by rfl)
    (na : starEach [a] X.env = (false, eval a X.env) :: starEach [] X.env := by rfl) : PE X (.Call (.Name "len" p) [.Call (.Name "set" p2) [a] [] q] [] pos) (tLenSetU X.K ta) := by
  refine ⟨fun pins s σ H Q I h => ?_⟩
  refine Call_ (ld_blt I hg hm PySem.boot_len ?_)
  refine PyProof.Rows.callWith_builtin1 (PyProof.Rows.args_cons ?_ rfl) rfl rfl
  refine Call_ (ld_blt I hg2 hm2 PyProof.Rows.boot_set ?_)
  refine PyProof.Rows.callWith_type1 (PyProof.Rows.args_cons (thn (ha.run pins s σ H _ I h) fun v s1 ⟨x, H1, I1, r1, q1⟩ => PyProof.Rows.args_nil ?_) na) na rfl
  obtain ⟨l, ns, rfl, hq, h1, q1⟩ := q1
  cases r1
  obtain ⟨its, r, pl, hz⟩ := I1.tuple hq
  have hi : IntsAre its.toArray.toList ns := ints_of_vals r
  refine call_set_tupI ns (I1.ok.hd hc) (show s1.heap.IsTuple l its.toArray from pl) hi (by unfold scanBound; omega) fun h' tk c hS hcn hk => ?_
  refine PyProof.Rows.args_nil ?_
  obtain ⟨o, es, ep, t, ho, hex, hd, _, nd, mem, _, hf, hn, _⟩ := hS
  have I2 : Inv X pins σ H1 { s1 with heap := h', toks := tk } := I1.kept hk
  refine call_len_set ho hex hd hf (by rw [hn] <;> omega) ⟨.int c, H1, I2.tok _, ⟨_, by rw [hn]⟩, q1 c hcn fun e => ?_⟩
  refine nd_of_keys nd (fun k hk => ?_) ?_
  · have := (mem k).mpr hk
    exact of_decide_eq_true this
  · rw [List.length_map, Array.length_toList, hn, e]
end
theorem inV_nat {x : Nat} : ∀ {l : List Nat}, inV (natV x) (l.map natV) = decide (x ∈ l)
  | [] => by simp [inV]
  | y :: r => by
    have ih := inV_nat (x := x) (l := r)
    unfold inV at ih ⊢
    rw [List.map_cons, List.any_cons, ih, eqV_nat]
    by_cases h : y = x
    · subst h
      simp
    · rw [decide_eq_false h, Bool.false_or]
      rw [decide_eq_decide]
      exact ⟨fun z => List.mem_cons_of_mem _ z, fun z => (List.mem_cons.mp z).resolve_left (Ne.symm h)⟩
theorem ifs_ret {c : Bool} {D : Ends} {ta tb : TS} {σ : L2.St} {H : Hp} (R : L2.St → Hp → Prop) (Rr : V → Hp → Prop) (h1 : c = true → ∀ D' : Ends, (∀ σ' H', R σ' H' → D'.nx σ' H') → (∀ v H', Rr v H' → D'.rt v H') → ta D' σ H)
    (h2 : c = false → ∀ D' : Ends, (∀ σ' H', R σ' H' → D'.nx σ' H') → (∀ v H', Rr v H' → D'.rt v H') → tb D' σ H) (q : ∀ σ' H', R σ' H' → D.nx σ' H') (q2 : ∀ v H', Rr v H' → D.rt v H') : if c = true then ta D σ H else tb D σ H := by
  cases c with
  | true => exact iteT (h1 rfl D q q2)
  | false => exact iteF (h2 rfl D q q2)
theorem ifs_and {c : Bool} {D : Ends} {t2 : TT} {ta tb : TS} {σ : L2.St} {H : Hp} (R : L2.St → Hp → Prop)
    (h1 : c = true → ∀ D' : Ends, (∀ σ' H', R σ' H' → D'.nx σ' H') → t2 σ H (fun k H1 => if k = true then ta D' σ H1 else tb D' σ H1))
    (h2 : c = false → ∀ D' : Ends, (∀ σ' H', R σ' H' → D'.nx σ' H') → tb D' σ H) (q : ∀ σ' H', R σ' H' → D.nx σ' H') :
    if c = true then t2 σ H (fun k H1 => if k = true then ta D σ H1 else tb D σ H1) else (if false = true then ta D σ H else tb D σ H) := by
  cases c with
  | true => exact iteT (h1 rfl D q)
  | false => exact iteF (iteF (h2 rfl D q))
def wider (name : Str) (p : Pl) : Pl := (p.1, p.2.1 + (if p.1 = name then 1 else 0), p.2.2)
def mv0 (s m : Nat) : Nat := if m = 0 then s + 1 else m
theorem PlsOk.at_le {ps : List Pl} {st q : Str} (h : PlsOk ps st) (hq : q ∈ ps.map (·.1)) : slotsIn ps q ≤ 7 := by
  obtain ⟨p, hp, e⟩ := List.mem_map.mp hq
  have := h.sl p hp
  have e2 := (h.at_ hp).1
  rw [← e]
  show slotsIn ps p.1 ≤ 7
  omega
theorem find1_wider {name q : Str} : ∀ {ps : List Pl}, find1 (ps.map (wider name)) q = (find1 ps q).map fun v => (v.1 + (if q = name then 1 else 0), v.2)
  | [] => rfl
  | p :: r => by
    have e1 : ∀ (t : List Pl) (y : Pl), find1 (y :: t) q = if y.1 = q then some y.2 else find1 t q := fun _ _ => rfl
    rw [List.map_cons, e1, e1, find1_wider]
    by_cases h : p.1 = q
    · rw [if_pos (show (wider name p).1 = q from h), if_pos h]
      unfold wider
      rw [h]
      rfl
    · rw [if_neg (show ¬ (wider name p).1 = q from h), if_neg h]
theorem slots_wider {name q : Str} {ps : List Pl} (h : q ∈ ps.map (·.1)) : slotsIn (ps.map (wider name)) q = slotsIn ps q + (if q = name then 1 else 0) := by
  obtain ⟨v, hv⟩ := find1_is h
  unfold slotsIn
  rw [find1_wider, hv]
  rfl
theorem names_wider (name : Str) (ps : List Pl) : (ps.map (wider name)).map (·.1) = ps.map (·.1) := by
  rw [List.map_map]
  rfl
theorem PlsOk.wider {ps : List Pl} {st name : Str} (h : PlsOk ps st) (hn : name ≠ st) (h4 : slotsIn ps name < 6) : PlsOk (ps.map (wider name)) st := by
  obtain ⟨y, hy⟩ := h.st
  refine ⟨by rw [List.length_map]; exact h.p1, by rw [List.length_map]; exact h.p60, fun q hq => ?_, by rw [names_wider]; exact h.pd, fun q hq => ?_, ⟨y, List.mem_map.mpr ⟨_, hy, ?_⟩⟩⟩
  · obtain ⟨p, hp, rfl⟩ := List.mem_map.mp hq
    exact h.pn p hp
  · obtain ⟨p, hp, rfl⟩ := List.mem_map.mp hq
    show p.2.1 + _ ≤ 6
    by_cases e : p.1 = name
    · rw [if_pos e]
      rw [← e, (h.at_ hp).1] at h4
      omega
    · rw [if_neg e]
      exact h.sl p hp
  · unfold Fw.wider
    rw [if_neg (Ne.symm hn)]
theorem PaAt.X {K : PySem.W.Frag} {H H' : Hp} {D a t1 t2 dt : Addr} {rs : List Addr} {kvs : List (List Key × V)} {b : Bk} {u : HO} (p : PaAt K H a t1 t2 dt rs kvs b) (z : SameX D H H') (hD : H D = some u) (nt : NoT u) (nl : NoL u) (ne : dt ≠ D) : PaAt K H' a t1 t2 dt rs kvs b :=
  ⟨sqL_X z hD nl p.l, sqT_X z hD nt p.w, sqT_X z hD nt p.p, paired_imp p.pr fun _ _ q => sqT_X z hD nt q, by
    rcases p.d with d | ⟨o, d⟩
    · exact .inl (z _ _ ne d)
    · exact .inr ⟨o, z _ _ ne d⟩, p.r.imp fun _ _ _ q => RuT_X z hD nt q⟩
section
variable {P : Program} {w : World} {K : PySem.W.Frag} {mg : Str → Option Value} {base : Heap}
def spIdle (K : PySem.W.Frag) : Sp := fun vs H Q _ => ∃ v, ∃ b : Bk, ∃ name, ∃ num : Nat, vs = [v, .str name, natV num] ∧ PartsM K H v b ∧ b.Ok ∧ name ∈ b.names ∧ name ≠ b.start ∧ slotsIn b.places name < 4 ∧
  (∀ H', Same H H' → Q .non H') ∧
  ∀ H' q (b' : Bk), Same H H' → PartsM K H' (.ref q) b' → b'.Ok → b'.words = b.words → b'.places = b.places.map (wider name) → b'.start = b.start → Q (.ref q) H'
abbrev nIdle : List Str := ["_law_parts_here", "_law_name", "_law_number", "_law_old", "_law_rules", "_law_key", "_law_goal", "_law_moves", "_law_slots", "_law_options", "_law_word", "_law_places", "_law_place_here", "_law_one"]
abbrev pIdle : List Str := ["_law_parts_here", "_law_name", "_law_number"]
theorem scIdle : FnScope nIdle pIdle (defScope sIdle) := ⟨rfl, rfl, rfl, by decide +kernel, rfl, by decide +kernel, by decide +kernel⟩
theorem ok_Idle (T : Tx K mg) : Fc P w K mg base CX0 2 (He.ga K "_law_idle") pIdle [] (spIdle K) := by
  refine fc_mk T.f_Idle scIdle (fun _ _ _ _ _ _ us hl => match us, hl with | [_, _, _], _ => rfl) (fun vs H Q E h => ?_) (fun cdv A0 outer s0 H vs Q E hr h => ?_)
  · obtain ⟨_, _, _, _, rfl, _⟩ := h
    rfl
  · obtain ⟨v, b, name, num, rfl, ⟨a, t1, t2, dt, rs, kvs, rfl, pa, hd⟩, ok, hnm, nst, s4, gon, go⟩ := h
    have hu := hu_of hr
    refine ⟨_, pss_cons (s_set 3 scIdle.nd (e_f (ok_Place T) hr T.g__law_place (pa_cons (pv 0) (pa_cons (pv 1) pa_nil))))
      (pss_cons (s_set 4 scIdle.nd pe_dnewT)
      (pss_cons (ps_lock (ps_for passN rfl (pi_keys (e_ixL (pv 0) pe_int)) (g_n 5 scIdle.nd)
        (pss_cons (ps_asg (e_dget hu (e_ixL (pv 0) pe_int) (pv 5)) (g_2 (g_n 6 scIdle.nd) (g_n 7 scIdle.nd)))
        (pss_cons (ps_if (t_c op_eq (pv 6) (pv 1)) (pss_cons (s_set 8 scIdle.nd (e_ixT (e_f (ok_Place T) hr T.g__law_place (pa_cons (pv 0) (pa_cons (e_ixT (pv 5) pe_int) pa_nil))) pe_int))
          (pss_cons (s_lc 9 (own := [("_law_one", 13)]) (g := gName 13) scIdle.nd (pi_range2 (by rfl) T.n_range (pa_cons (e_ty call_int1 T.n_int PyProof.Rows.boot_int (e_c op_gt (e_ixT (pv 5) pe_int) pe_int)) (pa_cons (e_op op_add (pv 8) pe_int) pa_nil))) (blkOk_by (N := nIdle) (sc := defScope sIdle) (by decide +kernel))
              (fun _ _ _ _ _ => pg_name (i := 13) scIdle.nd rfl (Or.inl rfl)) (fun _ _ _ _ _ => pts_one (t_c (o_notIn (K := K)) (pv 13) (pv 7))) (fun _ _ _ _ _ => pv 13))
          (pss_cons (ps_if (pw_and (t_c op_eq (e_ixT (pv 5) pe_int) (pv 1)) (pw_and1 (t_c op_eq (e_ixT (pv 5) pe_int) pe_int))).pt (pss_one (s_set 9 scIdle.nd (e_op op_cat (pv 9) (pe_lst (pa_cons (e_op op_add (e_ixT (pv 3) pe_int) pe_int) pa_nil))))) pss_nil)
          (pss_cons (ps_if (t_c op_eq (e_len T.n_len (pv 9)) pe_int) (pss_one (ps_ret pe_non)) pss_nil)
          (pss_one (s_set 7 scIdle.nd (e_op op_catA (pv 7) (pe_tup (pa_cons (e_ixL (pv 9) (e_op op_mod (e_ty call_int1 T.n_int PyProof.Rows.boot_int (pv 2)) (e_len T.n_len (pv 9)))) pa_nil))))))))) pss_nil)
        (pss_one (s_dput hu (pv 4) (pv 5) (pe_tup (pa_cons (pv 6) (pa_cons (pv 7) pa_nil)))))))))
      (pss_cons (ps_for passN rfl (pi_tup (e_ixL (pv 0) pe_int)) (g_n 10 scIdle.nd)
        (pss_cons (ps_asg (e_dget hu (pv 4) (pe_tup (pa_cons (pv 1) (pa_cons (pv 10) (pa_cons pe_int pa_nil))))) (g_2 (g_n 6 scIdle.nd) (g_n 7 scIdle.nd)))
        (pss_cons (s_dput hu (pv 4) (pe_tup (pa_cons (pv 1) (pa_cons (pv 10) (pa_cons (e_op op_add (e_ixT (pv 3) pe_int) pe_int) pa_nil)))) (pe_tup (pa_cons (pv 6) (pa_cons (e_ty call_tuple_of T.n_tuple PyProof.Rows.boot_tuple
            (pe_lc (own := [("_law_one", 13)]) (g := gName 13) (tt := tYes) rfl scIdle.nd (pi_tup (pv 7)) (blkOk_by (N := nIdle) (sc := defScope sIdle) (by decide +kernel)) (fun _ _ _ _ _ => pg_name (i := 13) scIdle.nd rfl (Or.inl rfl)) (fun _ _ _ _ _ => pts_nil) (fun _ _ _ _ _ => pe_ifExp (t_c op_gt (pv 13) pe_int) (pv 13) (e_op op_add (e_ixT (K := K) (pv 3) pe_int) pe_int)))) pa_nil))))
        (pss_one (ps_if (t_c op_lt (e_lenSetU T.n_len T.n_set (e_ixT (e_dget hu (pv 4) (pe_tup (pa_cons (pv 1) (pa_cons (pv 10) (pa_cons (e_op op_add (e_ixT (pv 3) pe_int) pe_int) pa_nil))))) pe_int)) (e_len T.n_len (pv 7))) (pss_one (ps_ret pe_non)) pss_nil)))))
      (pss_cons (s_set 11 scIdle.nd (e_ty call_tuple_of T.n_tuple PyProof.Rows.boot_tuple
            (pe_lc (own := [("_law_place_here", 12)]) (g := gName 12) (tt := tYes) rfl scIdle.nd (pi_tup (e_ixL (pv 0) pe_int)) (blkOk_by (N := nIdle) (sc := defScope sIdle) (by decide +kernel)) (fun _ _ _ _ _ => pg_name (i := 12) scIdle.nd rfl (Or.inl rfl)) (fun _ _ _ _ _ => pts_nil) (fun _ _ _ _ _ => pe_tup (pa_cons (e_ixT (K := K) (pv 12) pe_int) (pa_cons (e_op op_add (e_ixT (K := K) (pv 12) pe_int) (e_ty call_int1 T.n_int PyProof.Rows.boot_int (e_c op_eq (e_ixT (K := K) (pv 12) pe_int) (pv 1)))) (pa_cons (e_ixT (K := K) (pv 12) pe_int) pa_nil)))))))
      (pss_one (ps_ret (pe_lst (pa_cons (e_ixL (pv 0) pe_int) (pa_cons (pv 11) (pa_cons (e_ixL (pv 0) pe_int) (pa_cons (pv 4) pa_nil))))))))))), ?_⟩
    have hnm : name ∈ b.places.map (·.1) := hnm
    refine ⟨_, rfl, _, rfl, .ref a, name, b.places, rfl, PartsAt.pls (b := b) ⟨a, t1, t2, dt, rs, kvs, rfl, pa⟩, ok.ps.pd, hnm, ok.ps.p60, fun H1 o3 s1 po => ?_⟩
    have okp := ok.ps.wider nst (by omega)
    have slw : ∀ q, q ∈ b.places.map (·.1) → slotsIn (b.places.map (wider name)) q = slotsIn b.places q + (if q = name then 1 else 0) := fun q hq => slots_wider hq
    have nmw := names_wider name b.places
    generalize hps : b.places.map (wider name) = psW at okp slw nmw
    obtain ⟨s, hs⟩ : ∃ s, slotsIn b.places name = s := ⟨_, rfl⟩
    have sln : slotsIn psW name = s + 1 := by rw [slw name hnm, if_pos rfl, hs]
    have slle : ∀ q, q ∈ b.places.map (·.1) → slotsIn b.places q ≤ slotsIn psW q := fun q hq => by rw [slw q hq]; omega
    intro D2 nD2
    have s3 : Same H1 (upd H1 D2 (.dT [])) := same_new nD2
    have nD20 : H D2 = none := s1.free nD2
    have d3 : (upd H1 D2 (.dT [])) D2 = some (.dT []) := upd_same
    have po3 := sameT s3 po
    have s13 := s3
    have s3 := s1.trans s3
    revert d3 po3 s13 s3
    generalize upd H1 D2 (.dT []) = H3
    intro d3 po3 s13 s3
    have pa3 := pa.rle (.same s3)
    have hd3 := s3 _ _ hd
    have nedt : dt ≠ D2 := fun z => by
      rw [z, nD20] at hd
      cases hd
    refine ⟨dt, _, hd3, trivial, fun odk => ?_⟩
    have rl : Rle H3 (upd H3 dt (.frz odk (.dT kvs))) := .lock hd3 trivial
    have pl := pa3.rle rl
    have hdl : (upd H3 dt (.frz odk (.dT kvs))) dt = some (.frz odk (.dT kvs)) := upd_same
    have d4 : (upd H3 dt (.frz odk (.dT kvs))) D2 = some (.dT []) := by rw [upd_ne (Ne.symm nedt)]; exact d3
    have po4 := rleT rl po3
    have unl : ∀ H' : Hp, SameX D2 (upd H3 dt (.frz odk (.dT kvs))) H' → Same H1 (upd H' dt (.dT kvs)) := fun H' z b o hb => by
      by_cases e : b = dt
      · subst e
        rw [s1 _ _ hd] at hb
        cases hb
        exact upd_same
      · rw [upd_ne e]
        refine z b o (fun q => ?_) (by rw [upd_ne e]; exact s13 b o hb)
        rw [q, nD2] at hb
        cases hb
    generalize upd H3 dt (.frz odk (.dT kvs)) = H4 at pl hdl d4 po4 unl
    refine ⟨_, rfl, a, _, 3, _, rfl, rfl, pl.l, atI_nat (j := 3) rfl, dt, odk, rfl, .inr ⟨kvs, hdl, ?_⟩⟩
    have lkv : kvs.length ≤ 1260 := by
      rw [pa.r.length, ok.len]
      exact asked_le ok.ps ok.ws
    refine for_it (walk_keysT (d := dt) (o := odk) (kvs := kvs)) (fun i σ' H' => ∃ (o5 o6 o7 o8 o9 : Option V) (tbl : List (List Key × V)) (rl : List (Rk × Rv)), σ' = [some (.ref a), some (.str name), some (natV num), some (.ref o3), some (.ref D2), o5, o6, o7, o8, o9, none, none, none, none] ∧ SameX D2 H4 H' ∧ H' D2 = some (.dT tbl) ∧ TbPr K H' tbl rl ∧ Tab psW b.words (fun j => ∃ r ∈ b.rules.take i, j = r.1) rl)
      ⟨_, _, _, _, _, [], [], rfl, SameX.refl _ _, d4, .nil, (Tab.nil _ _).iff fun k => ⟨fun z => z.elim, fun ⟨r, hr, _⟩ => by simp at hr⟩⟩ (fun i σ' H' _ ⟨_, _, _, _, _, _, _, _, z, _⟩ => z _ _ nedt hdl) ?_ ?_
    · rintro i x σ' H5 H6 hi ⟨o5, o6, o7, o8, o9, tbl, rl, rfl, z5, t5, p5, tb5⟩ ⟨rfl, k, kv, q, ek, rfl, hq⟩
      obtain ⟨r, er, hk, _⟩ := paired_at pa.r ek
      have hk : k = rkeyOf r.1 := hk
      subst hk
      have hrm := List.mem_of_getElem? er
      have o := ok.rv r hrm
      have plX := pl.X z5 d4 trivial trivial nedt
      have hdX := z5 _ _ nedt hdl
      obtain ⟨a1, m1, g1, ta1, tm1⟩ := dget_lock (od := odk) plX.r plX.d ok.rd hrm hq
      have tq : SqT K H6 q [V.str r.1.1, .str r.1.2.1, natV r.1.2.2] := .of hq
      have poX := sqT_X z5 d4 trivial po4
      refine ⟨_, rfl, a, _, 3, _, rfl, rfl, plX.l, atI_nat (j := 3) rfl, _, rfl, dt, _, rfl, g1, a1, _, rfl, ta1, rfl, _, _, rfl, _, _, rfl, rfl, ?_⟩
      refine ⟨_, rfl, _, rfl, rfl, _, rfl, ?_⟩
      refine ifs_ret (fun σ' H' => ∃ (m2 : Addr) (ms2 : List Nat) (o8 o9 : Option V), σ' = [some (.ref a), some (.str name), some (natV num), some (.ref o3), some (.ref D2), some (.ref q), some (.str r.2.1), some (.ref m2), o8, o9, none, none, none, none] ∧ Same H6 H' ∧ SqT K H' m2 (ms2.map natV) ∧ RuOk psW b.words r.1 (r.2.1, ms2)) (fun v H' => v = .non ∧ Same H6 H') (fun c D' k kr => ?_) (fun c D' k kr => ?_) ?_ ?_
      · have c : r.2.1 = name := V.str.inj (of_decide_eq_true c)
        refine ⟨_, rfl, _, rfl, q, _, 0, _, rfl, rfl, tq, rfl, .ref a, r.1.1, b.places, rfl, PartsAt.pls (b := b) ⟨a, t1, t2, dt, rs, kvs, rfl, plX⟩, ok.ps.pd, o.p, ok.ps.p60, fun H7 o8 s7 po8 => ?_⟩
        obtain ⟨sl, hsl⟩ : ∃ sl, slotsIn b.places r.1.1 = sl := ⟨_, rfl⟩
        have po8 : SqT K H7 o8 [V.str r.1.1, natV sl, .bl (yesIn b.places r.1.1)] := hsl ▸ po8
        refine ⟨o8, _, 1, _, rfl, rfl, po8, rfl, ?_⟩
        have sl6 : sl ≤ 6 := by
          rw [← hsl]
          exact ok.good.sm _ o.p
        have tq7 := sameT s7 tq
        refine ⟨_, rfl, q, _, 2, _, rfl, rfl, tq7, rfl, _, _, rfl, rfl, ?_⟩
        refine .inr ⟨_, rfl, ?_⟩
        generalize hlo : (if decide ((0 : Int) < ((r.1.2.2 : Nat) : Int)) = true then (1 : Int) else 0) = lo
        have lo1 : lo = if r.1.2.2 = 0 then 0 else 1 := by
          rw [← hlo]
          by_cases h : r.1.2.2 = 0
          · rw [h]
            rfl
          · rw [if_neg h, decide_eq_true (by omega), if_pos rfl]
        have lo2 : lo = 0 ∨ lo = 1 := by
          rw [lo1]
          split <;> omega
        refine ⟨_, rfl, _, _, rfl, rfl, _, _, rfl, ⟨by omega, by omega, by omega, by omega⟩, fun L9 nL9 => ?_⟩
        refine lc_range (fun i H' => Same H7 H' ∧ ∃ l : List Nat, H' L9 = some (.lst (l.map natV)) ∧ l.length ≤ i ∧ ∀ m ∈ l, m ≤ sl ∧ m ∉ r.2.2 ∧ (r.1.2.2 ≠ 0 → m ≠ 0)) ⟨same_new nL9, [], upd_same, Nat.le_refl _, fun m hm => by cases hm⟩ ?_ ?_
        · rintro i H8 hi8 ⟨s8, l, d8, ll, lp⟩
          have tm8 := sameT (s7.trans s8) tm1
          have im : ∃ m : Nat, lo + (i : Int) = (m : Int) ∧ m ≤ sl ∧ (r.1.2.2 ≠ 0 → m ≠ 0) := by
            rcases lo2 with e | e
            · refine ⟨i, by omega, by omega, fun hc => ?_⟩
              rw [lo1, if_neg hc] at e
              cases e
            · exact ⟨i + 1, by omega, by omega, fun _ => by omega⟩
          obtain ⟨m, em, hm1, hm2⟩ := im
          rw [em]
          refine ⟨rfl, _, rfl, _, rfl, m1, _, rfl, .inr tm8, rfl, flat_nats _, _, rfl, ?_⟩
          refine if_cases (c := !inV (natV m) (r.2.2.map natV)) (fun c2 => ?_) (fun c2 => ?_)
          · rw [inV_nat] at c2
            have c2 : m ∉ r.2.2 := fun z => by
              rw [decide_eq_true z] at c2
              cases c2
            refine ⟨_, rfl, _, d8, lt_line (by rw [List.length_map]; omega), same_mut s8 nL9, l ++ [m], ?_, by rw [List.length_append]; show _ + 1 ≤ _; omega, fun x hx => ?_⟩
            · rw [upd_same, List.map_append]
              rfl
            · rcases List.mem_append.mp hx with hx | hx
              · exact lp x hx
              · rw [List.mem_singleton.mp hx]
                exact ⟨hm1, c2, hm2⟩
          · exact ⟨s8, l, d8, by omega, lp⟩
        · rintro H8 ⟨s8, l, d8, ll, lp⟩
          have tq8 := sameT s8 tq7
          have poX8 := sameT (s7.trans s8) poX
          refine ⟨_, rfl, q, _, 0, _, rfl, rfl, tq8, rfl, _, rfl, rfl, _, rfl, ?_⟩
          refine ifs_and (fun σ' H' => ∃ (L : Addr) (l : List Nat), σ' = [some (.ref a), some (.str name), some (natV num), some (.ref o3), some (.ref D2), some (.ref q), some (.str r.2.1), some (.ref m1), some (natV sl), some (.ref L), none, none, none, none] ∧ Same H7 H' ∧ H' L = some (.lst (l.map natV)) ∧ l.length ≤ 8 ∧ ∀ m ∈ l, m ≤ slotsIn psW r.1.1 ∧ m ∉ r.2.2 ∧ (r.1.2.2 ≠ 0 → m ≠ 0)) (fun c2 D' k => ?_) (fun c2 D' k => ?_) ?_
          · have c2 : r.1.1 = name := V.str.inj (of_decide_eq_true c2)
            refine ⟨_, rfl, q, _, 2, _, rfl, rfl, tq8, rfl, rfl, _, rfl, ?_⟩
            have keep : ∀ m ∈ l, m ≤ slotsIn psW r.1.1 ∧ m ∉ r.2.2 ∧ (r.1.2.2 ≠ 0 → m ≠ 0) := fun m hm => ⟨Nat.le_trans (lp m hm).1 (by rw [← hsl]; exact slle _ o.p), (lp m hm).2⟩
            refine if_cases (fun c3 => ?_) (fun c3 => ?_)
            · have c3 : r.1.2.2 = 0 := by
                have := V.int.inj (of_decide_eq_true c3)
                omega
              refine ⟨_, rfl, _, rfl, o3, _, 1, _, rfl, rfl, poX8, rfl, _, _, rfl, rfl, by show 1 ≤ sizeLine; decide, fun L1 nL1 => ?_⟩
              have s10 : Same H8 (upd H8 L1 (.lst [V.int (((slotsIn b.places name : Nat) : Int) + 1)])) := same_new nL1
              refine ⟨L9, L1, _, _, rfl, rfl, s10 _ _ d8, upd_same, le_line (by rw [List.length_map]; show _ + 1 ≤ _; omega), fun L2 nL2 => ?_⟩
              refine k _ _ ⟨L2, l ++ [s + 1], rfl, s8.trans (s10.trans (same_new nL2)), ?_, by rw [List.length_append]; show _ + 1 ≤ _; omega, fun m hm => ?_⟩
              · rw [upd_same, List.map_append, ← hs]
                rfl
              · rcases List.mem_append.mp hm with hm | hm
                · exact keep m hm
                · rw [List.mem_singleton.mp hm]
                  refine ⟨by rw [c2, sln]; exact Nat.le_refl _, fun z => ?_, fun z => absurd c3 z⟩
                  have := o.le _ z
                  rw [c2, hs] at this
                  omega
            · exact k _ _ ⟨L9, l, rfl, s8, d8, by omega, keep⟩
          · exact k _ _ ⟨L9, l, rfl, s8, d8, by omega, fun m hm => ⟨Nat.le_trans (lp m hm).1 (by rw [← hsl]; exact slle _ o.p), (lp m hm).2⟩⟩
          rintro σ' H9 ⟨L, l, rfl, s9, d9, ll, lp⟩
          have s79 := s7.trans s9
          refine ⟨_, rfl, _, _, rfl, .inl ⟨_, .of d9, rfl⟩, rfl, _, rfl, ?_⟩
          refine if_cases (fun c2 => kr _ _ ⟨rfl, s79⟩) (fun c2 => ?_)
          have l0 : 0 < l.length := Nat.pos_of_ne_zero fun z => of_decide_eq_false c2 (by rw [List.length_map, z]; rfl)
          obtain ⟨m, hm⟩ : ∃ m, l[num % l.length]? = some m := ⟨_, List.getElem?_eq_getElem (Nat.mod_lt _ l0)⟩
          obtain ⟨p1, p2, p3⟩ := lp m (List.mem_of_getElem? hm)
          have hml : ((num : Int) % (((l.map natV).length : Nat) : Int)) = ((num % l.length : Nat) : Int) := by
            rw [List.length_map]
            rfl
          have tm9 := sameT s79 tm1
          refine ⟨_, rfl, _, rfl, _, rfl, .inl ⟨(num : Int), rfl, _, rfl, _, _, rfl, .inl ⟨_, .of d9, rfl⟩, _, _, rfl, rfl, ?_, L, _, _, natV m, rfl, rfl, .of d9, at_of hml (by rw [List.getElem?_map, hm] <;> rfl), ?_⟩⟩
          · show (0 : Int) < (((l.map natV).length : Nat) : Int)
            rw [List.length_map]
            omega
          refine ⟨by show 1 ≤ sizeLine; decide, fun t6 nt6 => ?_⟩
          have s10 : Same H9 (upd H9 t6 (.tup [natV m])) := same_new nt6
          have d10 : (upd H9 t6 (.tup [natV m])) t6 = some (.tup [natV m]) := upd_same
          have o' : RuOk psW b.words r.1 (r.2.1, r.2.2 ++ [m]) := by
            refine ⟨by rw [nmw]; exact o.p, o.w, Nat.le_trans o.c (slle _ o.p), by rw [nmw]; exact o.g, ?_, ?_, fun x hx => ?_, fun h0 hx => ?_⟩
            · show (r.2.2 ++ [m]).length = slotsIn psW r.2.1
              rw [List.length_append, o.l, c, hs, sln]
              rfl
            · rw [List.nodup_append]
              refine ⟨o.nd, by simp, fun x hx y hy e => p2 ?_⟩
              rw [← List.mem_singleton.mp hy, ← e]
              exact hx
            · rcases List.mem_append.mp hx with hx | hx
              · exact Nat.le_trans (o.le x hx) (slle _ o.p)
              · rw [List.mem_singleton.mp hx]
                exact p1
            · rcases List.mem_append.mp hx with hx | hx
              · exact o.nz h0 hx
              · exact p3 h0 (List.mem_singleton.mp hx).symm
          have ml : r.2.2.length ≤ 6 := by
            rw [o.l]
            exact ok.good.sm _ o.g
          have fin : ∀ H' m2, Same H9 H' → SqT K H' m2 ((r.2.2 ++ [m]).map natV) → D'.nx [some (.ref a), some (.str name), some (natV num), some (.ref o3), some (.ref D2), some (.ref q), some (.str r.2.1), some (.ref m2), some (natV sl), some (.ref L), none, none, none, none] H' := fun H' m2 s' t' => k _ _ ⟨m2, _, _, _, rfl, s79.trans s', t', o'⟩
          refine ⟨m1, t6, r.2.2.map natV, [natV m], rfl, rfl, sameT s10 tm9, .of d10, le_line (by rw [List.length_map]; show _ + 1 ≤ _; omega), fun z => ?_, fun _ z => (by cases z), fun _ _ m2 nm2 => ?_⟩
          · have e : r.2.2 = [] := List.map_eq_nil_iff.mp z
            refine fin _ _ s10 ?_
            rw [e]
            exact .of d10
          · refine fin _ _ (s10.trans (same_new nm2)) (.of ?_)
            rw [upd_same, List.map_append]
            rfl
      · have c : ¬ r.2.1 = name := fun z => of_decide_eq_false c (congrArg V.str z)
        refine k _ _ ⟨m1, r.2.2, _, _, rfl, .refl _, tm1, ⟨by rw [nmw]; exact o.p, o.w, Nat.le_trans o.c (slle _ o.p), by rw [nmw]; exact o.g, ?_, o.nd, fun m hm => Nat.le_trans (o.le m hm) (slle _ o.p), o.nz⟩⟩
        show r.2.2.length = slotsIn psW r.2.1
        rw [slw _ o.g, if_neg c, o.l]
        rfl
      · rintro σ' H7 ⟨m2, ms2, o8, o9, rfl, s7, tm2, o2⟩
        have ltbl : tbl.length < sizeLine := lt_line (by rw [p5.length]; have := tb5.len okp ok.ws; omega)
        refine ⟨_, rfl, _, rfl, by show 2 ≤ sizeLine; decide, fun v1 nv1 => ?_⟩
        have s9 : Same H7 (upd H7 v1 (.tup [V.str r.2.1, .ref m2])) := same_new nv1
        have ru9 : RuT K (upd H7 v1 (.tup [V.str r.2.1, .ref m2])) (.ref v1) r.2.1 ms2 := ⟨v1, .ref m2, rfl, .of upd_same, m2, rfl, sameT s9 tm2⟩
        have s79 := s7.trans s9
        have t9 := s79 _ _ t5
        have hq9 := s79 _ _ hq
        have y9 : SameX D2 H4 (upd H7 v1 (.tup [V.str r.2.1, .ref m2])) := z5.same s79
        have p9 : TbPr K (upd H7 v1 (.tup [V.str r.2.1, .ref m2])) tbl rl := p5.imp fun _ _ _ z => z.rle (.same s79)
        generalize upd H7 v1 (.tup [V.str r.2.1, .ref m2]) = H9 at s9 ru9 s79 t9 hq9 y9 p9
        refine ⟨_, rfl, _, rfl, D2, _, rfl, DPut.t t9 hq9 ltbl, ?_⟩
        have y12 : SameX D2 H9 (upd H9 D2 (.dT (putK tbl (rkeyOf r.1) (.ref v1)))) := (SameX.refl D2 _).upd
        refine ⟨_, _, _, _, _, _, put1 rl r.1 (r.2.1, ms2), rfl, y9.trans y12, upd_same, ?_, ?_⟩
        · exact TbPr.put (p9.imp fun _ _ _ z => RuT_X y12 t9 trivial z) (RuT_X y12 t9 trivial ru9)
        · refine (tb5.put o2).iff fun j => ⟨fun z => ?_, fun ⟨r', hr', e⟩ => ?_⟩
          · rcases z with ⟨r', hr', e⟩ | e
            · exact ⟨r', by rw [take_snoc er]; exact List.mem_append_left _ hr', e⟩
            · exact ⟨r, by rw [take_snoc er]; simp, e⟩
          · rw [take_snoc er] at hr'
            rcases List.mem_append.mp hr' with hr' | hr'
            · exact .inl ⟨r', hr', e⟩
            · rw [List.mem_singleton.mp hr'] at e
              exact .inr e
      · rintro v H' ⟨rfl, s7⟩
        exact ⟨s7 _ _ hdX, gon _ (s1.trans (unl _ (z5.same s7)))⟩
    · rintro σ' H5 ⟨o5, o6, o7, o8, o9, tbl, rl, rfl, z5, t5, p5, tb5⟩
      rw [pa.r.length, List.take_length] at tb5
      have h5 := z5 _ _ nedt hdl
      refine ⟨h5, ?_⟩
      have s6 := unl H5 z5
      have rl6 : Rle H5 (upd H5 dt (.dT kvs)) := .unlock h5
      have t6 : (upd H5 dt (.dT kvs)) D2 = some (.dT tbl) := by rw [upd_ne (Ne.symm nedt)]; exact t5
      have p6 := p5.imp fun _ _ _ z => z.rle rl6
      revert s6 t6 p6
      generalize upd H5 dt (.dT kvs) = H6
      intro s6 t6 p6
      have po6 : SqT K H6 o3 [V.str name, natV s, .bl (yesIn b.places name)] := hs ▸ sameT s6 po
      have pa6 := pa.rle (.same (s1.trans s6))
      refine ⟨_, rfl, a, _, 0, _, rfl, rfl, pa6.l, atI_nat (j := 0) rfl, t1, rfl, ⟨_, pa6.w⟩, ?_⟩
      refine for_tup (K := K) (a := t1) (xs := b.words.map V.str) (fun i σ' H' => ∃ (o5 o6 o7 o8 o9 o10 : Option V) (tb2 : List (List Key × V)) (rl2 : List (Rk × Rv)), σ' = [some (.ref a), some (.str name), some (natV num), some (.ref o3), some (.ref D2), o5, o6, o7, o8, o9, o10, none, none, none] ∧ SameX D2 H6 H' ∧ H' D2 = some (.dT tb2) ∧ TbPr K H' tb2 rl2 ∧
          Tab psW b.words (fun j => j ∈ b.rules.map (·.1) ∨ ∃ w ∈ b.words.take i, j = (name, w, s + 1)) rl2)
        ⟨_, _, _, _, _, _, tbl, rl, rfl, SameX.refl _ _, t6, p6, tb5.iff fun k => ⟨fun ⟨r, hr, e⟩ => .inl (List.mem_map.mpr ⟨r, hr, e.symm⟩), fun z => ?_⟩⟩ (fun i σ' H' _ ⟨_, _, _, _, _, _, _, _, _, z, _⟩ => sqT_X z t6 trivial pa6.w) ?_ ?_
      · rcases z with z | ⟨w, hw, _⟩
        · obtain ⟨r, hr, e⟩ := List.mem_map.mp z
          exact ⟨r, hr, e.symm⟩
        · simp at hw
      · rintro i x σ' H8 e ⟨o5, o6, o7, o8, o9, o10, tb2, rl2, rfl, z8, t8, p8, tb8⟩
        rw [List.getElem?_map] at e
        obtain ⟨wd, hw, rfl⟩ := Option.map_eq_some_iff.mp e
        have hwm := List.mem_of_getElem? hw
        have kin : (name, wd, 0) ∈ rl2.map (·.1) := (tb8.m _).mpr (.inl (ok.all name wd 0 hnm hwm (Nat.zero_le _)))
        obtain ⟨r2, hr2, er2⟩ := List.mem_map.mp kin
        have o2 := tb8.v r2 hr2
        refine ⟨_, rfl, _, rfl, _, rfl, by show 3 ≤ sizeLine; decide, fun p1 np1 => ?_⟩
        have s9 : Same H8 (upd H8 p1 (.tup [V.str name, .str wd, .int 0])) := same_new np1
        have d9 : (upd H8 p1 (.tup [V.str name, .str wd, .int 0])) p1 = some (.tup ((rkeyOf r2.1).map kV)) := by
          rw [upd_same, er2]
          rfl
        generalize upd H8 p1 (.tup [V.str name, .str wd, .int 0]) = H9 at s9 d9
        have t9 := s9 _ _ t8
        have p9 : TbPr K H9 tb2 rl2 := p8.imp fun _ _ _ z => z.rle (.same s9)
        have z9 := z8.same s9
        have po9 := sqT_X z9 t6 trivial po6
        obtain ⟨a1, m1, g1, ta1, tm1⟩ := dget_lock (od := odk) p9 (.inl t9) tb8.nd hr2 d9
        refine ⟨D2, _, rfl, g1, a1, _, rfl, ta1, rfl, _, _, rfl, _, _, rfl, rfl, ?_⟩
        refine ⟨_, rfl, _, rfl, m1, rfl, ⟨_, tm1⟩, fun E1 hE1 => ?_⟩
        have ml : r2.2.2.length ≤ 7 := by
          rw [o2.l]
          exact (okp.at_le o2.g)
        refine lc_tup (K := K) (a := m1) (xs := r2.2.2.map natV) (fun i H' => Same H9 H' ∧ H' E1 = some (.lst (((r2.2.2.take i).map (mv0 s)).map natV))) ⟨same_new hE1, upd_same⟩ (fun i H' _ z => sameT z.1 tm1) ?_ ?_
        · rintro j x H10 e ⟨s10, d10⟩
          rw [List.getElem?_map] at e
          obtain ⟨m, hm, rfl⟩ := Option.map_eq_some_iff.mp e
          refine ⟨rfl, _, rfl, _, _, rfl, rfl, _, rfl, ?_⟩
          have po10 := sameT s10 po9
          refine if_val (z := natV (mv0 s m)) (fun c Q q => ?_) (fun c Q q => ?_) ?_
          · have c := of_decide_eq_true c
            have e : mv0 s m = m := if_neg (by omega)
            rw [e] at q
            exact ⟨_, rfl, q⟩
          · have c := of_decide_eq_false c
            have e : mv0 s m = s + 1 := if_pos (by omega)
            rw [e] at q
            exact ⟨_, rfl, o3, _, 1, _, rfl, rfl, po10, rfl, _, _, rfl, rfl, q⟩
          · refine ⟨_, d10, lt_line (by rw [List.length_map, List.length_map, List.length_take]; omega), same_mut s10 hE1, ?_⟩
            rw [upd_same, take_snoc hm, List.map_append, List.map_append]
            rfl
        · rintro H10 ⟨s10, d10⟩
          rw [List.length_map, List.take_length] at d10
          refine ⟨E1, _, rfl, .inl ⟨.of d10, fun m2 nm2 => ?_⟩⟩
          have s11 : Same H10 (upd H10 m2 (.tup ((r2.2.2.map (mv0 s)).map natV))) := same_new nm2
          have tm11 : SqT K (upd H10 m2 (.tup ((r2.2.2.map (mv0 s)).map natV))) m2 ((r2.2.2.map (mv0 s)).map natV) := .of upd_same
          generalize upd H10 m2 (.tup ((r2.2.2.map (mv0 s)).map natV)) = H11 at s11 tm11
          refine ⟨by show 2 ≤ sizeLine; decide, fun v1 nv1 => ?_⟩
          have s12 : Same H11 (upd H11 v1 (.tup [V.str r2.2.1, .ref m2])) := same_new nv1
          have ru12 : RuT K (upd H11 v1 (.tup [V.str r2.2.1, .ref m2])) (.ref v1) r2.2.1 (r2.2.2.map (mv0 s)) := ⟨v1, .ref m2, rfl, .of upd_same, m2, rfl, sameT s12 tm11⟩
          generalize upd H11 v1 (.tup [V.str r2.2.1, .ref m2]) = H12 at s12 ru12
          have s912 := s10.trans (s11.trans s12)
          have po12 := sameT s912 po9
          refine ⟨_, rfl, _, rfl, _, rfl, _, rfl, o3, _, 1, _, rfl, rfl, po12, rfl, _, _, rfl, rfl, by show 3 ≤ sizeLine; decide, fun k1 nk1 => ?_⟩
          have s13 : Same H12 (upd H12 k1 (.tup [V.str name, .str wd, .int ((s : Int) + 1)])) := same_new nk1
          have d13 : (upd H12 k1 (.tup [V.str name, .str wd, .int ((s : Int) + 1)])) k1 = some (.tup ((rkeyOf (name, wd, s + 1)).map kV)) := upd_same
          generalize upd H12 k1 (.tup [V.str name, .str wd, .int ((s : Int) + 1)]) = H13 at s13 d13
          have s913 := s912.trans s13
          have t13 := s913 _ _ t9
          have ltbl : tb2.length < sizeLine := lt_line (by rw [p9.length]; have := tb8.len okp ok.ws; omega)
          refine ⟨D2, _, rfl, DPut.t t13 d13 ltbl, ?_⟩
          have y14 : SameX D2 H13 (upd H13 D2 (.dT (putK tb2 (rkeyOf (name, wd, s + 1)) (.ref v1)))) := (SameX.refl D2 _).upd
          have d14 : (upd H13 D2 (.dT (putK tb2 (rkeyOf (name, wd, s + 1)) (.ref v1)))) D2 = some (.dT (putK tb2 (rkeyOf (name, wd, s + 1)) (.ref v1))) := upd_same
          generalize upd H13 D2 (.dT (putK tb2 (rkeyOf (name, wd, s + 1)) (.ref v1))) = H14 at y14 d14
          have p14 : TbPr K H14 (putK tb2 (rkeyOf (name, wd, s + 1)) (.ref v1)) (put1 rl2 (name, wd, s + 1) (r2.2.1, r2.2.2.map (mv0 s))) :=
            TbPr.put (p9.imp fun _ _ _ z => RuT_X y14 t13 trivial (z.rle (.same s913))) (RuT_X y14 t13 trivial (ru12.rle (.same s13)))
          have z14 := (z9.same s913).trans y14
          have po14 := sqT_X z14 t6 trivial po6
          have tm14 := sqT_X y14 t13 trivial (sameT s913 tm1)
          refine ⟨_, rfl, _, rfl, _, rfl, _, rfl, o3, _, 1, _, rfl, rfl, po14, rfl, _, _, rfl, rfl, by show 3 ≤ sizeLine; decide, fun k2 nk2 => ?_⟩
          have s15 : Same H14 (upd H14 k2 (.tup [V.str name, .str wd, .int ((s : Int) + 1)])) := same_new nk2
          have d15 : (upd H14 k2 (.tup [V.str name, .str wd, .int ((s : Int) + 1)])) k2 = some (.tup ((rkeyOf (name, wd, s + 1)).map kV)) := upd_same
          generalize upd H14 k2 (.tup [V.str name, .str wd, .int ((s : Int) + 1)]) = H15 at s15 d15
          have t15 := s15 _ _ d14
          have p15 := p14.imp fun _ _ _ z => z.rle (.same s15)
          obtain ⟨v5, ev5, a5, x5, rfl, ta5, m5, rfl, tm5⟩ := (TbPr.get p15 (name, wd, s + 1)).1 (r2.2.1, r2.2.2.map (mv0 s)) (by rw [put1_find, if_pos rfl])
          have tm5 : SqT K H15 m5 (((r2.2.2.map (mv0 s)).map fun n : Nat => (n : Int)).map V.int) := by
            rw [List.map_map]
            exact tm5
          have tm15 := sameT s15 tm14
          have z15 := z14.same s15
          refine ⟨D2, _, rfl, .inr ⟨_, rkeyOf (name, wd, s + 1), k2, .inl t15, rfl, d15, ev5.symm⟩, a5, _, 1, _, rfl, rfl, ta5, rfl, m5, _, rfl, tm5, by rw [List.length_map, List.length_map]; omega, fun cc hcc hnd => ?_⟩
          refine ⟨_, rfl, _, _, rfl, .inr ⟨_, tm15, rfl⟩, _, _, rfl, rfl, _, rfl, ?_⟩
          refine if_cases (fun c2 => ?_) (fun c2 => ?_)
          · exact gon _ (s1.trans (SameX.out s6 z15 nD2))
          · have c2 := of_decide_eq_false c2
            rw [List.length_map] at c2
            rw [List.length_map, List.length_map] at hcc
            have hn : ((r2.2.2.map (mv0 s)).map fun n : Nat => (n : Int)).Nodup := hnd (by rw [List.length_map, List.length_map]; omega)
            have hn : (r2.2.2.map (mv0 s)).Nodup := by
              unfold List.Nodup at hn ⊢
              rw [List.pairwise_map] at hn
              exact hn.imp fun {a b} h e => h (by rw [e])
            have nle : ∀ x ∈ r2.2.2, x ≤ s + 1 := fun x hx => by
              have := o2.le x hx
              rw [er2] at this
              have this : x ≤ slotsIn psW name := this
              rw [sln] at this
              exact this
            have on : RuOk psW b.words (name, wd, s + 1) (r2.2.1, r2.2.2.map (mv0 s)) := by
              refine ⟨by rw [nmw]; exact hnm, hwm, by show s + 1 ≤ slotsIn psW name; rw [sln]; exact Nat.le_refl _, o2.g, by show (r2.2.2.map (mv0 s)).length = _; rw [List.length_map]; exact o2.l, hn, fun x hx => ?_, fun _ hx => ?_⟩
              · show x ≤ slotsIn psW name
                rw [sln]
                obtain ⟨m, hm, rfl⟩ := List.mem_map.mp hx
                unfold mv0
                split
                · exact Nat.le_refl _
                · exact nle m hm
              · obtain ⟨m, hm, e⟩ := List.mem_map.mp hx
                unfold mv0 at e
                split at e <;> omega
            refine ⟨_, _, _, _, _, _, _, put1 rl2 (name, wd, s + 1) (r2.2.1, r2.2.2.map (mv0 s)), rfl, z15, t15, p15, (tb8.put on).iff fun j => ⟨fun z => ?_, fun z => ?_⟩⟩
            · rcases z with (z | ⟨w', hw', e⟩) | e
              · exact .inl z
              · exact .inr ⟨w', by rw [take_snoc hw]; exact List.mem_append_left _ hw', e⟩
              · exact .inr ⟨wd, by rw [take_snoc hw]; simp, e⟩
            · rcases z with z | ⟨w', hw', e⟩
              · exact .inl (.inl z)
              · rw [take_snoc hw] at hw'
                rcases List.mem_append.mp hw' with hw' | hw'
                · exact .inl (.inr ⟨w', hw', e⟩)
                · rw [List.mem_singleton.mp hw'] at e
                  exact .inr e
      · rintro σ' H8 ⟨o5, o6, o7, o8, o9, o10, tb2, rl2, rfl, z8, t8, p8, tb8⟩
        rw [List.length_map, List.take_length] at tb8
        have s18 : Same H1 H8 := SameX.out s6 z8 nD2
        have s8 := s1.trans s18
        have pa8 := pa.rle (.same s8)
        refine ⟨_, rfl, a, _, 1, _, rfl, rfl, pa8.l, atI_nat (j := 1) rfl, t2, rfl, ⟨_, pa8.p⟩, fun E1 hE1 => ?_⟩
        refine lc_tup (K := K) (a := t2) (xs := rs.map V.ref) (fun i H' => Same H8 H' ∧ ∃ qs : List Addr, H' E1 = some (.lst (qs.map V.ref)) ∧ Paired (PlA K H') qs ((b.places.take i).map (wider name))) ⟨same_new hE1, [], upd_same, .nil⟩ (fun i H' _ z => sameT z.1 pa8.p) ?_ ?_
        · rintro j x H10 e ⟨s10, qs, d10, pr10⟩
          rw [List.getElem?_map] at e
          obtain ⟨r, hr, rfl⟩ := Option.map_eq_some_iff.mp e
          obtain ⟨p, hp, hpl⟩ := paired_at pa8.pr hr
          have hpl := sameT s10 hpl
          refine ⟨rfl, _, rfl, r, _, 0, _, rfl, rfl, hpl, rfl, _, rfl, r, _, 1, _, rfl, rfl, hpl, rfl, _, rfl, r, _, 0, _, rfl, rfl, hpl, rfl, _, rfl, rfl, ?_⟩
          refine .inr ⟨_, rfl, _, _, rfl, rfl, _, rfl, r, _, 2, _, rfl, rfl, hpl, rfl, by show 3 ≤ sizeLine; decide, fun n1 nn1 => ?_⟩
          have ew : V.int (((p.2.1 : Nat) : Int) + (if decide (V.str p.1 = V.str name) = true then 1 else 0)) = natV (p.2.1 + (if p.1 = name then 1 else 0)) := by
            by_cases h : p.1 = name
            · rw [if_pos h, decide_eq_true (congrArg V.str h), if_pos rfl]
              rfl
            · rw [if_neg h, decide_eq_false (fun z => h (V.str.inj z))]
              rfl
          dsimp only
          rw [ew]
          have s11 : Same H10 (upd H10 n1 (.tup [V.str p.1, natV (p.2.1 + (if p.1 = name then 1 else 0)), .bl p.2.2])) := same_new nn1
          have pn : PlA K (upd H10 n1 (.tup [V.str p.1, natV (p.2.1 + (if p.1 = name then 1 else 0)), .bl p.2.2])) n1 (wider name p) := .of upd_same
          have d11 := s11 _ _ d10
          refine ⟨_, d11, lt_line ?_, same_mut (s10.trans s11) hE1, qs ++ [n1], ?_, ?_⟩
          · rw [List.length_map, pr10.length, List.length_map, List.length_take]
            have := ok.ps.p60
            omega
          · rw [upd_same, List.map_append]
            rfl
          · rw [take_snoc hp, List.map_append]
            exact paired_snoc (paired_imp pr10 fun _ _ z => sqT_upd d11 (sameT s11 z)) (sqT_upd d11 pn)
        · rintro H10 ⟨s10, qs, d10, pr10⟩
          rw [List.length_map, pa.pr.length, List.take_length, hps] at pr10
          refine ⟨E1, _, rfl, .inl ⟨.of d10, fun q2 nq2 => ?_⟩⟩
          have s11 : Same H10 (upd H10 q2 (.tup (qs.map V.ref))) := same_new nq2
          have d11 : (upd H10 q2 (.tup (qs.map V.ref))) q2 = some (.tup (qs.map V.ref)) := upd_same
          generalize upd H10 q2 (.tup (qs.map V.ref)) = H11 at s11 d11
          have s811 := s10.trans s11
          have pa11 := pa8.rle (.same s811)
          refine ⟨_, rfl, a, _, 0, _, rfl, rfl, pa11.l, atI_nat (j := 0) rfl, _, rfl, _, rfl, a, _, 2, _, rfl, rfl, pa11.l, atI_nat (j := 2) rfl, _, rfl, by show 4 ≤ sizeLine; decide, fun q nq => ?_⟩
          have s12 : Same H11 (upd H11 q (.lst [V.ref t1, .ref q2, .str b.start, .ref D2])) := same_new nq
          have d12 : (upd H11 q (.lst [V.ref t1, .ref q2, .str b.start, .ref D2])) q = some (.lst [V.ref t1, .ref q2, .str b.start, .ref D2]) := upd_same
          generalize upd H11 q (.lst [V.ref t1, .ref q2, .str b.start, .ref D2]) = H12 at s12 d12
          have s812 := s811.trans s12
          have pa12 := pa8.rle (.same s812)
          have pr12 : Paired (PlA K H12) qs psW := paired_imp pr10 fun _ _ z => sameT (s11.trans s12) z
          refine go _ q ⟨b.words, psW, b.start, rl2⟩ (s8.trans s812) ⟨q, t1, q2, D2, qs, tb2, rfl, ⟨.of d12, pa12.w, .of (s12 _ _ d11), pr12, .inl (s812 _ _ t8), p8.imp fun _ _ _ z => z.rle (.same s812)⟩, s812 _ _ t8⟩ (tb8.ok okp ok.ws fun p hp wd hw c hc => ?_) rfl hps.symm rfl
          rw [← hps] at hp
          obtain ⟨p0, hp0, rfl⟩ := List.mem_map.mp hp
          have hc : c ≤ p0.2.1 + (if p0.1 = name then 1 else 0) := hc
          have old : c ≤ p0.2.1 → (p0.1, wd, c) ∈ b.rules.map (·.1) := fun h => ok.all p0.1 wd c (List.mem_map.mpr ⟨p0, hp0, rfl⟩) hw (by rw [(ok.ps.at_ hp0).1]; exact h)
          by_cases e : p0.1 = name
          · rw [if_pos e] at hc
            have e2 : p0.2.1 = s := by rw [← hs, ← e, (ok.ps.at_ hp0).1]
            by_cases e3 : c = s + 1
            · refine .inr ⟨wd, hw, ?_⟩
              show (p0.1, wd, c) = _
              rw [e, e3]
            · exact .inl (old (by omega))
          · rw [if_neg e] at hc
            exact .inl (old hc)
end
end Fw

/-! _law_like: a book alike. -/
namespace Fw
open PySem PySem.Spec PyProof.Rows L2
section
variable {P : Program} {w : World} {K : PySem.W.Frag} {mg : Str → Option Value} {base : Heap}
def likeS (j : Nat) : Str := ("like" : Str) ++ Str.ofString (toString (j : Int))
theorem likeS_ok {j : Nat} (h : j < 3) : NameOk (likeS j) := by
  unfold NameOk
  rcases j with _ | _ | _ | j
  · decide +kernel
  · decide +kernel
  · decide +kernel
  · omega
theorem like_len {k : Nat} (h : k < 3) : (("like" : Str).length : Nat) + (Str.ofString (toString (k : Int))).length ≤ sizeLine := by
  rcases k with _ | _ | _ | k
  · exact le_line (by decide +kernel)
  · exact le_line (by decide +kernel)
  · exact le_line (by decide +kernel)
  · omega
theorem likeS_ne {i j : Nat} (hi : i < 3) (hj : j < 3) (h : i ≠ j) : likeS i ≠ likeS j := by
  rcases i with _ | _ | _ | i <;> rcases j with _ | _ | _ | j <;> first | omega | exact absurd rfl h | decide +kernel
def rot (t n : Nat) : List Nat := ((List.range n).map (· + 1)).drop t ++ ((List.range n).map (· + 1)).take t
theorem rot_ord (t n : Nat) : Ord n (rot t n) := by
  have p : (rot t n).Perm ((List.range n).map (· + 1)) := by
    unfold rot
    refine List.perm_append_comm.trans ?_
    rw [List.take_append_drop]
  refine ⟨p.nodup_iff.mpr (opt_range n), fun m hm => ?_, by rw [p.length_eq, List.length_map, List.length_range]⟩
  obtain ⟨x, hx, e⟩ := List.mem_map.mp (p.mem_iff.mp hm)
  have := List.mem_range.mp hx
  omega
/-- what a second book may be -/
structure Small (b : Bk) (ws : List Str) (l s : Nat) : Prop where
  ok : b.Ok
  w : b.words = ws
  l : b.places.length ≤ l
  s : ∀ p ∈ b.places, p.2.1 ≤ s
def spLike (K : PySem.W.Frag) : Sp := fun vs H Q _ => ∃ na, ∃ ns : List Nat, ∃ at_ : Nat, ∃ v, ∃ b : Bk, vs = [.ref na, natV at_, v] ∧ Nums K H na ns ∧ at_ ≤ 190 ∧ PartsM K H v b ∧ Small b b.words 4 3 ∧ NoLike b.places ∧
  ∀ H' q (b' : Bk), Same H H' → PartsM K H' (.ref q) b' → Small b' b.words 7 4 → Q (.ref q) H'
abbrev nLike : List Str := ["_law_numbers_here", "_law_at", "_law_parts_here", "_law_k", "_law_spot", "_law_place_here", "_law_deed", "_law_turn", "_law_order", "_law_more"]
abbrev pLike : List Str := ["_law_numbers_here", "_law_at", "_law_parts_here"]
theorem scLike : FnScope nLike pLike (defScope sLike) := ⟨rfl, rfl, rfl, by decide +kernel, rfl, by decide +kernel, by decide +kernel⟩
theorem ok_Like (T : Tx K mg) : Fc P w K mg base CX0 3 (He.ga K "_law_like") pLike [] (spLike K) := by
  refine fc_mk T.f_Like scLike (fun _ _ _ _ _ _ us hl => match us, hl with | [_, _, _], _ => rfl) (fun vs H Q E h => ?_) (fun cdv A0 outer s0 H vs Q E hr h => ?_)
  · obtain ⟨_, _, _, _, _, rfl, _⟩ := h
    rfl
  · obtain ⟨na, ns, at_, v, b, rfl, hn, hat, pm, sm, nl, go⟩ := h
    have hu := hu_of hr
    refine ⟨_, pss_cons (ps_for passN rfl (pi_range1 (by rfl) T.n_range (pa_cons (e_op op_add pe_int (e_op op_mod (e_ty call_int1 T.n_int PyProof.Rows.boot_int (e_ixL (pv 0) (pv 1))) pe_int)) pa_nil)) (g_n 3 scLike.nd)
        (pss_cons (s_set 4 scLike.nd (e_op op_add (e_op op_add (pv 1) pe_int) (e_op op_mul pe_int (pv 3))))
        (pss_cons (s_set 5 scLike.nd (e_ixT (e_ixL (pv 2) pe_int) (e_op op_mod (e_ty call_int1 T.n_int PyProof.Rows.boot_int (e_ixL (pv 0) (pv 4))) (e_len T.n_len (e_ixL (pv 2) pe_int)))))
        (pss_cons (s_set 6 scLike.nd (e_op op_mod (e_ty call_int1 T.n_int PyProof.Rows.boot_int (e_ixL (pv 0) (e_op op_add (pv 4) pe_int))) pe_int))
        (pss_one (ps_if (pw_and (t_c op_eq (pv 6) pe_int) (pw_and1 (t_c op_lt (e_len T.n_len (e_ixL (pv 2) pe_int)) pe_int))).pt
          (pss_one (s_set 2 scLike.nd (e_f (ok_Split T) hr T.g__law_split (pa_cons (pv 2) (pa_cons (e_ixT (pv 5) pe_int) (pa_cons (e_op op_add_str pe_str (e_ty call_str_int T.n_str PyProof.Rows.boot_str (pv 3))) (pa_cons (e_ty call_int1 T.n_int PyProof.Rows.boot_int (e_ixL (pv 0) (e_op op_add (pv 4) pe_int))) pa_nil)))))))
          (pss_one (ps_if (pw_and (t_c op_eq (pv 6) pe_int) (pw_and1 (t_c op_gt (e_ixT (pv 5) pe_int) pe_int))).pt
            (pss_cons (s_set 7 scLike.nd (e_op op_add pe_int (e_op op_mod (e_ty call_int1 T.n_int PyProof.Rows.boot_int (e_ixL (pv 0) (e_op op_add (pv 4) pe_int))) (e_op op_sub (e_ixT (pv 5) pe_int) pe_int))))
            (pss_cons (s_set 8 scLike.nd (pe_listRg rfl (by rfl) T.n_list (prg_2 (by rfl) T.n_range pe_int (e_op op_add (e_ixT (pv 5) pe_int) pe_int))))
            (pss_one (s_set 2 scLike.nd (e_f ((ok_Permuted T).mono (by decide)) hr T.g__law_permuted (pa_cons (pv 2) (pa_cons (e_ixT (pv 5) pe_int) (pa_cons (e_op op_cat (pe_slice sl_list (pv 8) (po_some (pv 7)) po_none) (pe_slice sl_list (pv 8) po_none (po_some (pv 7)))) pa_nil))))))))
            (pss_one (ps_if (pw_and (t_c op_eq (pv 6) pe_int) (pw_and (t_c op_ne (e_ixT (pv 5) pe_int) (e_ixL (pv 2) pe_int)) (pw_and1 (t_c op_lt (e_ixT (pv 5) pe_int) pe_int)))).pt
              (pss_cons (s_set 9 scLike.nd (e_f (ok_Idle T) hr T.g__law_idle (pa_cons (pv 2) (pa_cons (e_ixT (pv 5) pe_int) (pa_cons (e_ty call_int1 T.n_int PyProof.Rows.boot_int (e_ixL (pv 0) (e_op op_add (pv 4) pe_int))) pa_nil)))))
              (pss_one (ps_if (t_c op_notN (pv 9) pe_non) (pss_one (s_set 2 scLike.nd (pv 9))) pss_nil)))
              pss_nil))))))))))
      (pss_one (ps_ret (pv 2))), ?_⟩
    obtain ⟨n0, e0, hn0⟩ := hn.get (i := at_) (by omega)
    refine ⟨_, rfl, _, rfl, na, _, _, _, rfl, rfl, hn.l, e0, .inl ⟨_, rfl, _, 3, rfl, rfl, (show (0 : Int) < 3 by decide), ?_⟩⟩
    have n3 : n0 % 3 < 3 := Nat.mod_lt _ (by decide)
    refine ⟨_, _, rfl, rfl, _, rfl, by omega, by omega, ?_⟩
    refine for_range (fun i σ' H' => ∃ (o3 o4 o5 o6 o7 o8 o9 : Option V) (v : V) (b' : Bk), σ' = [some (.ref na), some (natV at_), some v, o3, o4, o5, o6, o7, o8, o9] ∧ Same H H' ∧ PartsM K H' v b' ∧ Small b' b.words (4 + i) 4 ∧ (∀ p ∈ b'.places, ∀ j, i ≤ j → j < 3 → p.1 ≠ likeS j)) ⟨_, _, _, _, _, _, _, v, b, rfl, .refl _, pm, ⟨sm.ok, rfl, sm.l, fun p hp => Nat.le_succ_of_le (sm.s p hp)⟩, fun p hp j _ _ => nl p hp j⟩ ?_ ?_
    · rintro k σ' H1 hk ⟨o3, o4, o5, o6, o7, o8, o9, v, b', rfl, s1, pm, sm, nl⟩
      have hk3 : k < 3 := by omega
      rw [Int.zero_add]
      obtain ⟨a, t1, t2, dt, rs, kvs, rfl, pa, hd⟩ := pm
      have pm : PartsM K H1 (.ref a) b' := ⟨a, t1, t2, dt, rs, kvs, rfl, pa, hd⟩
      have hn1 := hn.same s1
      have ok := sm.ok
      refine ⟨_, rfl, _, _, rfl, rfl, _, rfl, _, _, rfl, rfl, .inl ⟨by decide, by decide⟩, _, _, rfl, rfl, ?_⟩
      have es : ((at_ : Int) + 1 + 3 * (k : Int)) = ((at_ + 1 + 3 * k : Nat) : Int) := by omega
      dsimp only
      rw [es]
      obtain ⟨spot, hsp⟩ : ∃ spot, at_ + 1 + 3 * k = spot := ⟨_, rfl⟩
      rw [hsp]
      have sp1 : spot ≤ 197 := by omega
      obtain ⟨n1, e1, hn1b⟩ := hn.get (i := spot) (by omega)
      obtain ⟨n2, e2, hn2b⟩ := hn.get (i := spot + 1) (by omega)
      obtain ⟨n3, e3, hn3b⟩ := hn.get (i := spot + 2) (by omega)
      have lrs : rs.length = b'.places.length := pa.pr.length
      have p1 := ok.ps.p1
      obtain ⟨r, hr1⟩ : ∃ r, rs[n1 % rs.length]? = some r := ⟨_, List.getElem?_eq_getElem (Nat.mod_lt _ (by omega))⟩
      obtain ⟨p, hp, hpl⟩ := paired_at pa.pr hr1
      have hpm := List.mem_of_getElem? hp
      have hml : ((n1 : Int) % (((rs.map V.ref).length : Nat) : Int)) = ((n1 % rs.length : Nat) : Int) := by
        rw [List.length_map]
        rfl
      refine ⟨_, rfl, a, _, 1, _, rfl, rfl, pa.l, atI_nat (j := 1) rfl, _, rfl, _, rfl, na, _, _, _, rfl, rfl, hn1.l, e1, .inl ⟨_, rfl, _, rfl, a, _, 1, _, rfl, rfl, pa.l, atI_nat (j := 1) rfl, _, _, rfl, .inr ⟨_, pa.p, rfl⟩, _, _, rfl, rfl, ?_, ?_⟩⟩
      · show (0 : Int) < (((rs.map V.ref).length : Nat) : Int)
        rw [List.length_map]
        omega
      refine ⟨t2, _, _, V.ref r, rfl, rfl, pa.p, at_of hml (by rw [List.getElem?_map, hr1] <;> rfl), ?_⟩
      refine ⟨_, rfl, _, rfl, _, _, rfl, rfl, na, _, _, _, rfl, rfl, hn1.l, e2, .inl ⟨_, rfl, _, 3, rfl, rfl, (show (0 : Int) < 3 by decide), ?_⟩⟩
      have nls : ∀ H' q (b2 : Bk), Same H1 H' → PartsM K H' (.ref q) b2 → b2.Ok → b2.words = b'.words → b2.places.length ≤ 4 + (k + 1) → (∀ p ∈ b2.places, p.2.1 ≤ 4) → (∀ p ∈ b2.places, ∀ j, k + 1 ≤ j → j < 3 → p.1 ≠ likeS j) →
          Same H H' ∧ PartsM K H' (.ref q) b2 ∧ Small b2 b.words (4 + (k + 1)) 4 ∧ (∀ p ∈ b2.places, ∀ j, k + 1 ≤ j → j < 3 → p.1 ≠ likeS j) := fun H' q b2 s2 q1 q2 q3 q4 q5 q6 => ⟨s1.trans s2, q1, ⟨q2, q3.trans sm.w, q4, q5⟩, q6⟩
      have same : Same H H1 ∧ PartsM K H1 (.ref a) b' ∧ Small b' b.words (4 + (k + 1)) 4 ∧ (∀ p ∈ b'.places, ∀ j, k + 1 ≤ j → j < 3 → p.1 ≠ likeS j) := nls _ _ _ (.refl _) pm ok rfl (Nat.le_succ_of_le sm.l) sm.s fun p hp j h1 h2 => nl p hp j (by omega) h2
      have hpn : p.1 ∈ b'.places.map (·.1) := List.mem_map.mpr ⟨p, hpm, rfl⟩
      have hps : slotsIn b'.places p.1 = p.2.1 := (ok.ps.at_ hpm).1
      have p4 := sm.s p hpm
      have d3 : (n2 : Int) % 3 = 0 ∨ (n2 : Int) % 3 = 1 ∨ (n2 : Int) % 3 = 2 := by omega
      dsimp only
      rcases d3 with d3 | d3 | d3
      · rw [d3]
        refine ⟨_, rfl, rfl, _, rfl, ?_⟩
        refine if_cases (fun _ => ?_) (fun c => absurd c (by decide))
        refine ⟨_, rfl, a, _, 1, _, rfl, rfl, pa.l, atI_nat (j := 1) rfl, _, _, rfl, .inr ⟨_, pa.p, rfl⟩, _, _, rfl, rfl, _, rfl, ?_⟩
        refine if_cases (fun c => ?_) (fun c => ?_)
        · have c := of_decide_eq_true c
          rw [List.length_map, lrs] at c
          refine ⟨_, rfl, _, rfl, r, _, 0, _, rfl, rfl, hpl, rfl, _, rfl, (k : Int), rfl, num_log (by omega), _, _, rfl, rfl, ?_, ?_⟩
          · exact like_len hk3
          refine ⟨_, rfl, _, rfl, _, _, rfl, rfl, na, _, _, _, rfl, rfl, hn1.l, e3, .inl ⟨_, rfl, ?_⟩⟩
          refine ⟨_, b', p.1, likeS k, n3, rfl, pm, ok, hpn, likeS_ok hk3, fun z => ?_, by omega, fun H2 q b2 s2 pm2 ok2 w2 pl2 st2 => ?_⟩
          · obtain ⟨p', hp', e⟩ := List.mem_map.mp z
            exact nl p' hp' k (Nat.le_refl _) hk3 e
          · refine ⟨_, _, _, _, _, _, _, _, b2, rfl, nls _ _ _ s2 pm2 ok2 w2 ?_ ?_ ?_⟩
            · rw [pl2, List.length_append]
              have := sm.l
              show _ + 1 ≤ _
              omega
            · intro p' hp'
              rw [pl2] at hp'
              rcases List.mem_append.mp hp' with hp' | hp'
              · exact sm.s p' hp'
              · rw [List.mem_singleton.mp hp']
                show slotsIn b'.places p.1 ≤ 4
                omega
            · intro p' hp' j h1 h2
              rw [pl2] at hp'
              rcases List.mem_append.mp hp' with hp' | hp'
              · exact nl p' hp' j (by omega) h2
              · rw [List.mem_singleton.mp hp']
                exact likeS_ne hk3 h2 (by omega)
        · refine ⟨_, rfl, rfl, _, rfl, ?_⟩
          refine if_cases (fun c => absurd c (by decide)) (fun _ => ?_)
          refine iteF ⟨_, rfl, rfl, _, rfl, ?_⟩
          refine if_cases (fun c => absurd c (by decide)) (fun _ => ?_)
          exact iteF ⟨_, _, _, _, _, _, _, _, b', rfl, same⟩
      · rw [d3]
        refine ⟨_, rfl, rfl, _, rfl, ?_⟩
        refine if_cases (fun c => absurd c (by decide)) (fun _ => ?_)
        refine iteF ⟨_, rfl, rfl, _, rfl, ?_⟩
        refine if_cases (fun _ => ?_) (fun c => absurd c (by decide))
        refine ⟨_, rfl, r, _, 1, _, rfl, rfl, hpl, rfl, _, _, rfl, rfl, _, rfl, ?_⟩
        refine if_cases (fun c => ?_) (fun c => ?_)
        · have c := of_decide_eq_true c
          have c : 1 < p.2.1 := by omega
          refine ⟨_, rfl, _, rfl, _, _, rfl, rfl, na, _, _, _, rfl, rfl, hn1.l, e3, .inl ⟨_, rfl, _, rfl, r, _, 1, _, rfl, rfl, hpl, rfl, _, _, rfl, rfl, _, _, rfl, rfl, ?_, _, _, rfl, rfl, ?_⟩⟩
          · show (0 : Int) < (p.2.1 : Int) - 1
            omega
          obtain ⟨t, ht⟩ : ∃ t : Nat, (1 : Int) + (n3 : Int) % ((p.2.1 : Int) - 1) = (t : Int) := by
            refine ⟨1 + n3 % (p.2.1 - 1), ?_⟩
            rw [show ((p.2.1 : Int) - 1) = ((p.2.1 - 1 : Nat) : Int) by omega]
            omega
          dsimp only
          rw [ht]
          refine ⟨_, rfl, r, _, 1, _, rfl, rfl, hpl, rfl, _, _, rfl, rfl, 1, (p.2.1 : Int) + 1, rfl, rfl, ⟨by decide, by decide, by omega, by omega, by omega⟩, fun L0 nL0 => ?_⟩
          rw [rgV_one]
          have s2 : Same H1 (upd H1 L0 (.lst (((List.range p.2.1).map (· + 1)).map natV))) := same_new nL0
          have d0 : (upd H1 L0 (.lst (((List.range p.2.1).map (· + 1)).map natV))) L0 = some (.lst (((List.range p.2.1).map (· + 1)).map natV)) := upd_same
          revert s2 d0
          generalize upd H1 L0 (.lst (((List.range p.2.1).map (· + 1)).map natV)) = H2
          intro s2 d0
          have hpl2 := sameT s2 hpl
          refine ⟨_, rfl, _, rfl, r, _, 0, _, rfl, rfl, hpl2, rfl, _, rfl, _, rfl, (t : Int), rfl, L0, _, rfl, .of d0, fun L3 nL3 => ?_⟩
          rw [cutV_lo]
          have s3 : Same H2 (upd H2 L3 (.lst ((((List.range p.2.1).map (· + 1)).map natV).drop t))) := same_new nL3
          refine ⟨_, rfl, _, rfl, (t : Int), rfl, L0, _, rfl, .of (s3 _ _ d0), fun L4 nL4 => ?_⟩
          rw [cutV_hi]
          have s4 : Same (upd H2 L3 (.lst ((((List.range p.2.1).map (· + 1)).map natV).drop t))) (upd (upd H2 L3 (.lst ((((List.range p.2.1).map (· + 1)).map natV).drop t))) L4 (.lst ((((List.range p.2.1).map (· + 1)).map natV).take t))) := same_new nL4
          refine ⟨L3, L4, _, _, rfl, rfl, s4 _ _ upd_same, upd_same, le_line (by rw [List.length_drop, List.length_take, List.length_map, List.length_map, List.length_range]; omega), fun L5 nL5 => ?_⟩
          have s5 := fun o => s2.trans (s3.trans (s4.trans (same_new (o := o) nL5)))
          refine ⟨_, b', p.1, L5, rot t p.2.1, rfl, pm.same (s5 _), ok, hpn, .of ?_, by rw [hps]; exact rot_ord _ _, fun H6 q b2 s6 pm2 ok2 w2 pl2 st2 => ?_⟩
          · rw [upd_same]
            unfold rot
            rw [List.map_append, List.map_drop, List.map_take]
          · refine ⟨_, _, _, _, _, _, _, _, b2, rfl, nls _ _ _ ((s5 _).trans s6) pm2 ok2 w2 ?_ ?_ ?_⟩
            · rw [pl2]
              exact Nat.le_succ_of_le sm.l
            · rw [pl2]
              exact sm.s
            · rw [pl2]
              exact fun p hp j h1 h2 => nl p hp j (by omega) h2
        · refine ⟨_, rfl, rfl, _, rfl, ?_⟩
          refine if_cases (fun c => absurd c (by decide)) (fun _ => ?_)
          exact iteF ⟨_, _, _, _, _, _, _, _, b', rfl, same⟩
      · rw [d3]
        refine ⟨_, rfl, rfl, _, rfl, ?_⟩
        refine if_cases (fun c => absurd c (by decide)) (fun _ => ?_)
        refine iteF ⟨_, rfl, rfl, _, rfl, ?_⟩
        refine if_cases (fun c => absurd c (by decide)) (fun _ => ?_)
        refine iteF ⟨_, rfl, rfl, _, rfl, ?_⟩
        refine if_cases (fun _ => ?_) (fun c => absurd c (by decide))
        refine ⟨_, rfl, r, _, 0, _, rfl, rfl, hpl, rfl, _, rfl, a, _, 2, _, rfl, rfl, pa.l, atI_nat (j := 2) rfl, rfl, _, rfl, ?_⟩
        refine if_cases (fun c => ?_) (fun c => iteF ⟨_, _, _, _, _, _, _, _, b', rfl, same⟩)
        have nst : p.1 ≠ b'.start := fun z => by
          rw [decide_eq_true (congrArg V.str z)] at c
          cases c
        refine ⟨_, rfl, r, _, 1, _, rfl, rfl, hpl, rfl, _, _, rfl, rfl, _, rfl, ?_⟩
        refine if_cases (fun c => ?_) (fun c => ⟨_, _, _, _, _, _, _, _, b', rfl, same⟩)
        have c := of_decide_eq_true c
        have c : p.2.1 < 4 := by omega
        refine ⟨_, rfl, _, rfl, r, _, 0, _, rfl, rfl, hpl, rfl, _, rfl, _, rfl, _, _, rfl, rfl, na, _, _, _, rfl, rfl, hn1.l, e3, .inl ⟨_, rfl, ?_⟩⟩
        refine ⟨_, b', p.1, n3, rfl, pm, ok, hpn, nst, by rw [hps]; exact c, fun H2 s2 => ?_, fun H2 q b2 s2 pm2 ok2 w2 pl2 st2 => ?_⟩
        · refine ⟨_, rfl, rfl, _, rfl, ?_⟩
          refine if_cases (fun c => absurd c (by decide)) (fun _ => ?_)
          exact ⟨_, _, _, _, _, _, _, _, b', rfl, nls _ _ _ s2 (pm.same s2) ok rfl (Nat.le_succ_of_le sm.l) sm.s fun p hp j h1 h2 => nl p hp j (by omega) h2⟩
        · refine ⟨_, rfl, rfl, _, rfl, ?_⟩
          refine if_cases (fun _ => ?_) (fun c => absurd c (by rw [decide_eq_false (fun z => by cases z)]; decide))
          refine ⟨_, rfl, _, _, _, _, _, _, _, _, b2, rfl, nls _ _ _ s2 pm2 ok2 w2 ?_ ?_ ?_⟩
          · rw [pl2, List.length_map]
            exact Nat.le_succ_of_le sm.l
          · intro p' hp'
            rw [pl2] at hp'
            obtain ⟨p0, hp0, rfl⟩ := List.mem_map.mp hp'
            show p0.2.1 + _ ≤ 4
            by_cases e : p0.1 = p.1
            · rw [if_pos e]
              have h1 := (ok.ps.at_ hp0).1
              rw [e, hps] at h1
              omega
            · rw [if_neg e]
              exact sm.s p0 hp0
          · intro p' hp' j h1 h2
            rw [pl2] at hp'
            obtain ⟨p0, hp0, rfl⟩ := List.mem_map.mp hp'
            exact nl p0 hp0 j (by omega) h2
    · rintro σ' H1 ⟨o3, o4, o5, o6, o7, o8, o9, v, b', rfl, s1, ⟨a, t1, t2, dt, rs, kvs, rfl, pa, hd⟩, sm, nl⟩
      exact ⟨_, rfl, go _ _ b' s1 ⟨a, t1, t2, dt, rs, kvs, rfl, pa, hd⟩ ⟨sm.ok, sm.w, Nat.le_trans sm.l (by omega), sm.s⟩⟩
end
end Fw

/-! _law_other: a second book. -/
namespace Fw
open PySem PySem.Spec PyProof.Rows L2
section
variable {X : Cx} {pos : Pos}
theorem g_4L {K : PySem.W.Frag} {e1 e2 e3 e4 : Expr} {t1 t2 t3 t4 : TG} {k : Nat} (h1 : PG X e1 t1) (h2 : PG X e2 t2) (h3 : PG X e3 t3) (h4 : PG X e4 t4) (hc : X.calm = true := by rfl) (hs1 : (assignEach [e1, e2, e3, e4] X.env).map (·.2) = assign e1 X.env :: (assignEach [e2, e3, e4] X.env).map (·.2) := by rfl)
    (hs2 : (assignEach [e2, e3, e4] X.env).map (·.2) = assign e2 X.env :: (assignEach [e3, e4] X.env).map (·.2) := by rfl) (hs3 : (assignEach [e3, e4] X.env).map (·.2) = assign e3 X.env :: (assignEach [e4] X.env).map (·.2) := by rfl) (hs4 : (assignEach [e4] X.env).map (·.2) = assign e4 X.env :: (assignEach [] X.env).map (·.2) := by rfl)
    (hn : (assignEach [e1, e2, e3, e4] X.env).length = 4 := by rfl) (hst : (assignEach [e1, e2, e3, e4] X.env).findIdx? (·.1) = none := by rfl) (hK : X.K = K := by rfl) : PG X (.Tuple [e1, e2, e3, e4] k pos) (gUnl K 4 (gCons t1 (gCons t2 (gCons t3 (gCons t4 gNil))))) := hK ▸ pg_unl hc (pgs_cons h1 (pgs_cons h2 (pgs_cons h3 (pgs_cons h4 pgs_nil hs4) hs3) hs2) hs1) hn hst
end
/-- the answers of the places may be turned -/
theorem slots_same {ps ps' : List Pl} (h : ps.map (fun p => (p.1, p.2.1)) = ps'.map (fun p => (p.1, p.2.1))) (q : Str) : slotsIn ps q = slotsIn ps' q := by
  induction ps generalizing ps' with
  | nil =>
    cases ps' with
    | nil => rfl
    | cons y r => cases h
  | cons x t ih =>
    cases ps' with
    | nil => cases h
    | cons y r =>
      rw [List.map_cons, List.map_cons] at h
      injection h with h1 h2
      have ih := ih h2
      have e1 : ∀ (t : List Pl) (y : Pl), find1 (y :: t) q = if y.1 = q then some y.2 else find1 t q := fun _ _ => rfl
      unfold slotsIn at ih ⊢
      rw [e1, e1]
      injection h1 with a1 a2
      rw [a1]
      by_cases z : y.1 = q
      · rw [if_pos z, if_pos z]
        exact a2
      · rw [if_neg z, if_neg z]
        exact ih
theorem Small.turned {b : Bk} {ws : List Str} {l s : Nat} (h : Small b ws l s) {ps' : List Pl} (e : b.places.map (fun p => (p.1, p.2.1)) = ps'.map (fun p => (p.1, p.2.1))) : Small ⟨b.words, ps', b.start, b.rules⟩ ws l s := by
  have en : b.places.map (·.1) = ps'.map (·.1) := by
    have := congrArg (List.map Prod.fst) e
    rw [List.map_map, List.map_map] at this
    exact this
  have el : b.places.length = ps'.length := by
    have := congrArg List.length e
    rw [List.length_map, List.length_map] at this
    exact this
  have es := slots_same e
  have mem : ∀ p ∈ ps', ∃ p0 ∈ b.places, p0.1 = p.1 ∧ p0.2.1 = p.2.1 := fun p hp => by
    have : (p.1, p.2.1) ∈ b.places.map (fun p => (p.1, p.2.1)) := by
      rw [e]
      exact List.mem_map.mpr ⟨p, hp, rfl⟩
    obtain ⟨p0, h0, e0⟩ := List.mem_map.mp this
    injection e0 with a1 a2
    exact ⟨p0, h0, a1, a2⟩
  have okp : PlsOk ps' b.start := by
    have o := h.ok.ps
    obtain ⟨y, hy⟩ := o.st
    refine ⟨by rw [← el]; exact o.p1, by rw [← el]; exact o.p60, fun p hp => ?_, by rw [← en]; exact o.pd, fun p hp => ?_, ?_⟩
    · obtain ⟨p0, h0, a1, a2⟩ := mem p hp
      rw [← a1]
      exact o.pn p0 h0
    · obtain ⟨p0, h0, a1, a2⟩ := mem p hp
      rw [← a2]
      exact o.sl p0 h0
    · have : (b.start, 0) ∈ ps'.map (fun p => (p.1, p.2.1)) := by
        rw [← e]
        exact List.mem_map.mpr ⟨_, hy, rfl⟩
      obtain ⟨p1, hp1, e1⟩ := List.mem_map.mp this
      injection e1 with a1 a2
      exact ⟨p1.2.2, by rw [← a1, ← a2]; exact hp1⟩
  refine ⟨⟨h.ok.ws, okp, h.ok.rd, fun r hr => ?_, fun p w c h1 h2 h3 => ?_⟩, h.w, by show ps'.length ≤ l; rw [← el]; exact h.l, fun p hp => ?_⟩
  · have o := h.ok.rv r hr
    exact ⟨by rw [← en]; exact o.p, o.w, by rw [← es]; exact o.c, by rw [← en]; exact o.g, by rw [← es]; exact o.l, o.nd, by rw [← es]; exact o.le, o.nz⟩
  · have h1 : p ∈ ps'.map (·.1) := h1
    have h3 : c ≤ slotsIn ps' p := h3
    refine h.ok.all p w c ?_ h2 ?_
    · show p ∈ b.places.map (·.1)
      rw [en]
      exact h1
    · rw [es]
      exact h3
  · obtain ⟨p0, h0, a1, a2⟩ := mem p hp
    rw [← a2]
    exact h.s p0 h0
theorem set_same {α : Type} {l : List α} {k : Nat} {a : α} (h : l[k]? = some a) : l.set k a = l := by
  refine List.ext_getElem? fun i => ?_
  rw [List.getElem?_set]
  obtain ⟨hk, e⟩ := List.getElem?_eq_some_iff.mp h
  by_cases q : k = i
  · subst q
    simp [hk, e]
  · simp [q]
theorem set_cut {α : Type} {l : List α} {k : Nat} (a : α) (h : k < l.length) : l.take k ++ [a] ++ l.drop (k + 1) = l.set k a := by
  rw [List.set_eq_take_append_cons_drop, if_pos h, List.append_assoc]
  rfl
theorem paired_set {α β : Type} {F : α → β → Prop} : ∀ {l : List α} {m : List β} {k : Nat} {a : α} {b : β}, Paired F l m → F a b → Paired F (l.set k a) (m.set k b)
  | _, _, _, _, _, .nil, _ => .nil
  | _, _, 0, _, _, .cons r t, h => .cons h t
  | _, _, k + 1, _, _, .cons r t, h => .cons r (paired_set t h)
theorem Small.mono {b : Bk} {ws : List Str} {l l' s s' : Nat} (h : Small b ws l s) (hl : l ≤ l') (hs : s ≤ s') : Small b ws l' s' := ⟨h.ok, h.w, Nat.le_trans h.l hl, fun p hp => Nat.le_trans (h.s p hp) hs⟩
theorem catA_any {K : PySem.W.Frag} {H : Hp} {a b : Addr} {xs ys : List V} {Q : VK} (ha : SqT K H a xs) (hb : SqT K H b ys) (hl : xs.length + ys.length ≤ sizeLine) (q : ∀ p H', Same H H' → SqT K H' p (xs ++ ys) → Q (.ref p) H') : rCatA K (.ref a) (.ref b) H Q := by
  refine ⟨a, b, xs, ys, rfl, rfl, ha, hb, hl, fun e => q _ _ (.refl _) ?_, fun _ e => q _ _ (.refl _) ?_, fun _ _ p np => q _ _ (same_new np) (.of upd_same)⟩
  · rw [e]
    exact hb
  · rw [e, List.append_nil]
    exact ha
theorem slA_any {K : PySem.W.Frag} {H : Hp} {a : Addr} {xs : List V} {lo hi : Option Int} {Q : VK} (ha : SqT K H a xs) (q : ∀ p H', Same H H' → SqT K H' p (cutV xs lo hi) → Q (.ref p) H') : rSlA K (.ref a) lo hi H Q := by
  refine ⟨a, xs, rfl, ha, fun ⟨h1, h2⟩ => q _ _ (.refl _) ?_, fun _ p np => q _ _ (same_new np) (.of upd_same)⟩
  unfold cutV
  rw [h1, h2, List.drop_zero, Nat.sub_zero, List.take_length]
  exact ha
section
variable {P : Program} {w : World} {K : PySem.W.Frag} {mg : Str → Option Value} {base : Heap}
def spOther (K : PySem.W.Frag) : Sp := fun vs H Q _ => ∃ v na, ∃ ns : List Nat, ∃ at_ : Nat, ∃ b : Bk, vs = [v, .ref na, natV at_] ∧ Nums K H na ns ∧ at_ ≤ 250 ∧ PartsM K H v b ∧ Small b b.words 4 3 ∧ NoLike b.places ∧ b.words.length ≤ 2 ∧
  ∀ H' q (b' : Bk), Same H H' → PartsM K H' (.ref q) b' → Small b' b.words 7 4 → Q (.ref q) H'
abbrev nOther : List Str := ["_law_parts_here", "_law_numbers_here", "_law_at", "_law_words", "_law_places", "_law_start", "_law_rules", "_law_choice", "_law_k", "_law_name", "_law_slots", "_law_yes", "_law_keys", "_law_key", "_law_changed", "_law_one"]
abbrev pOther : List Str := ["_law_parts_here", "_law_numbers_here", "_law_at"]
theorem scOther : FnScope nOther pOther (defScope sOther) := ⟨rfl, rfl, rfl, by decide +kernel, rfl, by decide +kernel, by decide +kernel⟩
theorem ok_Other (T : Tx K mg) : Fc P w K mg base CX0 4 (He.ga K "_law_other") pOther [] (spOther K) := by
  refine fc_mk T.f_Other scOther (fun _ _ _ _ _ _ us hl => match us, hl with | [_, _, _], _ => rfl) (fun vs H Q E h => ?_) (fun cdv A0 outer s0 H vs Q E hr h => ?_)
  · obtain ⟨_, _, _, _, _, rfl, _⟩ := h
    rfl
  · obtain ⟨v, na, ns, at_, b, rfl, hn, hat, ⟨a, t1, t2, dt, rs, kvs, rfl, pa, hd⟩, sm, nl, w2, go⟩ := h
    have hu := hu_of hr
    refine ⟨_, pss_cons (ps_asg (pv 0) (g_4L (g_n 3 scOther.nd) (g_n 4 scOther.nd) (g_n 5 scOther.nd) (g_n 6 scOther.nd)))
      (pss_cons (s_set 7 scOther.nd (e_op op_mod (e_ty call_int1 T.n_int PyProof.Rows.boot_int (e_ixL (pv 1) (pv 2))) pe_int))
      (pss_cons (s_set 8 scOther.nd (e_op op_mod (e_ty call_int1 T.n_int PyProof.Rows.boot_int (e_ixL (pv 1) (e_op op_add (pv 2) pe_int))) (e_len T.n_len (pv 4))))
      (pss_cons (ps_if (t_c op_eq (pv 7) pe_int) (pss_one (ps_ret (e_f ((ok_Parts T).mono (by decide)) hr T.g__law_parts (pa_cons (pv 1) (pa_cons pe_int (pa_cons (pv 3) pa_nil)))))) pss_nil)
      (pss_cons (ps_if (t_c op_eq (pv 7) pe_int) (pss_one (ps_ret (e_f (ok_Like T) hr T.g__law_like (pa_cons (pv 1) (pa_cons pe_int (pa_cons (pv 0) pa_nil)))))) pss_nil)
      (pss_cons (ps_if (t_c op_lt (pv 7) pe_int)
        (pss_cons (ps_asg (e_ixT (pv 4) (pv 8)) (g_3 (g_n 9 scOther.nd) (g_n 10 scOther.nd) (g_n 11 scOther.nd)))
        (pss_one (ps_ret (pe_lst (pa_cons (pv 3) (pa_cons (e_op op_catA (e_op op_catA (pe_slice sl_tupA (pv 4) po_none (po_some (pv 8))) (pe_tup (pa_cons (pe_tup (pa_cons (pv 9) (pa_cons (pv 10) (pa_cons (e_c op_eq (pv 7) pe_int) pa_nil)))) pa_nil))) (pe_slice sl_tupA (pv 4) (po_some (e_op op_add (pv 8) pe_int)) po_none)) (pa_cons (pv 5) (pa_cons (pv 6) pa_nil)))))))) pss_nil)
      (pss_cons (s_set 12 scOther.nd (e_ty (call_list_dT rfl) T.n_list PyProof.Rows.boot_list (pv 6)))
      (pss_cons (s_set 13 scOther.nd (e_ixL (pv 12) (e_op op_mod (e_ty call_int1 T.n_int PyProof.Rows.boot_int (e_ixL (pv 1) (e_op op_add (pv 2) pe_int))) (e_len T.n_len (pv 12)))))
      (pss_cons (s_set 10 scOther.nd (e_ixT (e_f ((ok_Place T).mono (by decide)) hr T.g__law_place (pa_cons (pv 0) (pa_cons (e_ixT (pv 13) pe_int) pa_nil))) pe_int))
      (pss_cons (s_set 14 scOther.nd pe_dnewT)
      (pss_cons (ps_for passN rfl (pi_list (pv 12)) (g_n 15 scOther.nd) (pss_one (s_dput hu (pv 14) (pv 15) (e_dget hu (pv 6) (pv 15)))))
      (pss_cons (s_dput hu (pv 14) (pv 13) (e_f ((ok_DrawnRule T).mono (by decide)) hr T.g__law_drawn_rule (pa_cons (e_ixL (pv 1) (e_op op_add (pv 2) pe_int)) (pa_cons (e_ixL (pv 1) (e_op op_add (pv 2) pe_int)) (pa_cons (pv 4) (pa_cons (pv 10) (pa_cons (e_ixT (pv 13) pe_int) pa_nil)))))))
      (pss_one (ps_ret (pe_lst (pa_cons (pv 3) (pa_cons (pv 4) (pa_cons (pv 5) (pa_cons (pv 14) pa_nil)))))))))))))))))), ?_⟩
    have ok := sm.ok
    obtain ⟨n0, e0, hn0⟩ := hn.get (i := at_) (by omega)
    obtain ⟨n1, e1, hn1⟩ := hn.get (i := at_ + 1) (by omega)
    obtain ⟨n2, e2, hn2⟩ := hn.get (i := at_ + 2) (by omega)
    obtain ⟨n3, e3, hn3⟩ := hn.get (i := at_ + 3) (by omega)
    obtain ⟨n4, e4, hn4⟩ := hn.get (i := at_ + 4) (by omega)
    have pm : PartsM K H (.ref a) b := ⟨a, t1, t2, dt, rs, kvs, rfl, pa, hd⟩
    have lrs : rs.length = b.places.length := pa.pr.length
    have p1 := ok.ps.p1
    refine ⟨_, rfl, a, _, rfl, pa.l, rfl, _, _, rfl, _, _, rfl, _, _, rfl, _, _, rfl, rfl, ?_⟩
    refine ⟨_, rfl, _, rfl, na, _, _, _, rfl, rfl, hn.l, e0, .inl ⟨_, rfl, _, 6, rfl, rfl, (show (0 : Int) < 6 by decide), ?_⟩⟩
    refine ⟨_, rfl, _, rfl, _, _, rfl, rfl, na, _, _, _, rfl, rfl, hn.l, e1, .inl ⟨_, rfl, _, rfl, _, _, rfl, .inr ⟨_, pa.p, rfl⟩, _, _, rfl, rfl, ?_, ?_⟩⟩
    · show (0 : Int) < (((rs.map V.ref).length : Nat) : Int)
      rw [List.length_map]
      omega
    obtain ⟨k, hk⟩ : ∃ k : Nat, n1 % rs.length = k := ⟨_, rfl⟩
    have hkl : k < rs.length := hk ▸ Nat.mod_lt _ (by omega)
    have hml : ((n1 : Int) % (((rs.map V.ref).length : Nat) : Int)) = (k : Int) := by
      rw [List.length_map, ← hk]
      rfl
    dsimp only
    rw [hml]
    obtain ⟨c, hc, c6⟩ : ∃ c : Nat, (n0 : Int) % 6 = (c : Int) ∧ c < 6 := ⟨n0 % 6, by omega, Nat.mod_lt _ (by decide)⟩
    rw [hc]
    refine ⟨_, rfl, rfl, _, rfl, ?_⟩
    refine if_cases (fun _ => ?_) (fun c0 => ?_)
    · refine ⟨_, rfl, _, rfl, ?_⟩
      exact ⟨na, ns, 110, t1, b.words, rfl, hn, Nat.le_refl _, .inr pa.w, ok.ws, w2, fun H' q b' s1 p' o' w' l' s' _ => go _ _ b' s1 p' ⟨o', w', by omega, fun p hp => Nat.le_succ_of_le (s' p hp)⟩⟩
    refine ⟨_, rfl, rfl, _, rfl, ?_⟩
    refine if_cases (fun _ => ?_) (fun c1 => ?_)
    · refine ⟨_, rfl, _, rfl, ?_⟩
      exact ⟨na, ns, 190, _, b, rfl, hn, Nat.le_refl _, pm, sm, nl, go⟩
    refine ⟨_, rfl, _, _, rfl, rfl, _, rfl, ?_⟩
    refine if_cases (fun _ => ?_) (fun c4 => ?_)
    · obtain ⟨r, hr1⟩ : ∃ r, rs[k]? = some r := ⟨_, List.getElem?_eq_getElem hkl⟩
      obtain ⟨p, hp, hpl⟩ := paired_at pa.pr hr1
      refine ⟨_, rfl, _, rfl, t2, _, _, V.ref r, rfl, rfl, pa.p, atI_nat (j := k) (by rw [List.getElem?_map, hr1] <;> rfl), r, _, rfl, hpl, rfl, _, _, rfl, _, _, rfl, _, _, rfl, rfl, ?_⟩
      refine ⟨_, rfl, _, rfl, _, rfl, (k : Int), rfl, slA_any pa.p fun q1 H1 s1 x1 => ?_⟩
      refine ⟨_, rfl, _, rfl, _, rfl, rfl, by show 3 ≤ sizeLine; decide, fun r2 nr2 => ?_⟩
      have s2 : Same H1 (upd H1 r2 (.tup [V.str p.1, natV p.2.1, .bl (decide (V.int (c : Int) = V.int 2))])) := same_new nr2
      have pl2 : PlA K (upd H1 r2 (.tup [V.str p.1, natV p.2.1, .bl (decide (V.int (c : Int) = V.int 2))])) r2 (p.1, p.2.1, decide (V.int (c : Int) = V.int 2)) := .of upd_same
      generalize upd H1 r2 (.tup [V.str p.1, natV p.2.1, .bl (decide (V.int (c : Int) = V.int 2))]) = H2 at s2 pl2
      refine ⟨by show 1 ≤ sizeLine; decide, fun r3 nr3 => ?_⟩
      have s3 : Same H2 (upd H2 r3 (.tup [V.ref r2])) := same_new nr3
      have d3 : (upd H2 r3 (.tup [V.ref r2])) r3 = some (.tup [V.ref r2]) := upd_same
      generalize upd H2 r3 (.tup [V.ref r2]) = H3 at s3 d3
      have s13 := s2.trans s3
      have x3 := sameT s13 x1
      rw [cutV_hi] at x3
      have p60 := ok.ps.p60
      refine catA_any x3 (.of d3) (le_line (by rw [List.length_take, List.length_map]; show _ + 1 ≤ _; omega)) fun q2 H4 s4 x4 => ?_
      have s04 := s1.trans (s13.trans s4)
      refine ⟨_, rfl, _, rfl, _, _, rfl, rfl, ((k + 1 : Nat) : Int), rfl, ?_⟩
      unfold L2.tNoPart
      refine slA_any (sameT s04 pa.p) fun q3 H5 s5 x5 => ?_
      rw [cutV_lo] at x5
      refine catA_any (sameT s5 x4) x5 (le_line (by rw [List.length_append, List.length_take, List.length_drop, List.length_map]; show _ + 1 + _ ≤ _; omega)) fun q4 H6 s6 x6 => ?_
      rw [set_cut _ (by rw [List.length_map]; exact hkl), ← List.map_set] at x6
      have s46 := s5.trans s6
      have s36 := s4.trans s46
      have s06 := s04.trans s46
      refine ⟨_, rfl, _, rfl, by show 4 ≤ sizeLine; decide, fun q nq => ?_⟩
      have s7 : Same H6 (upd H6 q (.lst [V.ref t1, .ref q4, .str b.start, .ref dt])) := same_new nq
      have d7 : (upd H6 q (.lst [V.ref t1, .ref q4, .str b.start, .ref dt])) q = some (.lst [V.ref t1, .ref q4, .str b.start, .ref dt]) := upd_same
      generalize upd H6 q (.lst [V.ref t1, .ref q4, .str b.start, .ref dt]) = H7 at s7 d7
      have s07 := s06.trans s7
      have pa7 := pa.rle (.same s07)
      refine go _ q ⟨b.words, b.places.set k (p.1, p.2.1, decide (V.int (c : Int) = V.int 2)), b.start, b.rules⟩ s07 ⟨q, t1, q4, dt, rs.set k r2, kvs, rfl, ⟨.of d7, pa7.w, sameT s7 x6, paired_set pa7.pr (sameT (s3.trans (s36.trans s7)) pl2), pa7.d, pa7.r⟩, s07 _ _ hd⟩ ((sm.turned ?_).mono (by decide) (by decide))
      rw [List.map_set]
      exact (set_same (by rw [List.getElem?_map, hp]; rfl)).symm
    · refine ⟨_, rfl, dt, kvs, rfl, pa.d, fun L bs nL ik => ?_⟩
      have s1 : Same H (upd H L (.lst (bs.map V.ref))) := same_new nL
      have d1 : (upd H L (.lst (bs.map V.ref))) L = some (.lst (bs.map V.ref)) := upd_same
      have ik1 : IsKeys (upd H L (.lst (bs.map V.ref))) kvs bs := paired_imp ik fun _ _ z => s1 _ _ z
      generalize upd H L (.lst (bs.map V.ref)) = H1 at s1 d1 ik1
      have hn1 := hn.same s1
      have pa1 := pa.rle (.same s1)
      have lb : bs.length = b.rules.length := by rw [← ik1.length, pa.r.length]
      have lr0 : 0 < b.rules.length := by
        obtain ⟨y, hy⟩ := ok.ps.st
        obtain ⟨wd, hw⟩ : ∃ wd, wd ∈ b.words := ⟨_, List.getElem_mem (show 0 < b.words.length from ok.ws.w1)⟩
        have m := ok.all b.start wd 0 (List.mem_map.mpr ⟨_, hy, rfl⟩) hw (Nat.zero_le _)
        obtain ⟨r, hr, _⟩ := List.mem_map.mp m
        exact List.length_pos_of_mem hr
      obtain ⟨q, hq⟩ : ∃ q, bs[n2 % bs.length]? = some q := ⟨_, List.getElem?_eq_getElem (Nat.mod_lt _ (by omega))⟩
      have hml2 : ((n2 : Int) % (((bs.map V.ref).length : Nat) : Int)) = ((n2 % bs.length : Nat) : Int) := by
        rw [List.length_map]
        rfl
      refine ⟨_, rfl, _, rfl, _, rfl, _, _, rfl, rfl, na, _, _, _, rfl, rfl, hn1.l, e2, .inl ⟨_, rfl, _, rfl, _, _, rfl, .inl ⟨_, .of d1, rfl⟩, _, _, rfl, rfl, ?_, L, _, _, V.ref q, rfl, rfl, .of d1, at_of hml2 (by rw [List.getElem?_map, hq] <;> rfl), ?_⟩⟩
      · show (0 : Int) < (((bs.map V.ref).length : Nat) : Int)
        rw [List.length_map]
        omega
      obtain ⟨kv, ekv, hkq⟩ := paired_at2 ik1 hq
      obtain ⟨r, er, hk2, _⟩ := paired_at pa1.r ekv
      have hk2 : kv.1 = rkeyOf r.1 := hk2
      rw [hk2] at hkq
      have hrm := List.mem_of_getElem? er
      have o := ok.rv r hrm
      have tq : SqT K H1 q [V.str r.1.1, .str r.1.2.1, natV r.1.2.2] := .of hkq
      refine ⟨_, rfl, _, rfl, q, _, 0, _, rfl, rfl, tq, rfl, .ref a, r.1.1, b.places, rfl, PartsAt.pls (b := b) ⟨a, t1, t2, dt, rs, kvs, rfl, pa1⟩, ok.ps.pd, o.p, ok.ps.p60, fun H2 o8 s2 po8 => ?_⟩
      refine ⟨o8, _, 1, _, rfl, rfl, po8, rfl, ?_⟩
      have s02 := s1.trans s2
      obtain ⟨sl, hsl⟩ : ∃ sl, slotsIn b.places r.1.1 = sl := ⟨_, rfl⟩
      have sl6 : sl ≤ 6 := by
        rw [← hsl]
        exact ok.good.sm _ o.p
      dsimp only
      rw [hsl]
      intro D2 nD2
      have s3 : Same H2 (upd H2 D2 (.dT [])) := same_new nD2
      have d3 : (upd H2 D2 (.dT [])) D2 = some (.dT []) := upd_same
      generalize upd H2 D2 (.dT []) = H3 at s3 d3
      have s23 := s2.trans s3
      have s03 := s02.trans s3
      have nD20 : H D2 = none := s02.free nD2
      have pa3 := pa.rle (.same s03)
      have hd3 := s03 _ _ hd
      have d13 := s23 _ _ d1
      have nedt : dt ≠ D2 := fun z => by
        rw [z, nD20] at hd
        cases hd
      have neL : L ≠ D2 := fun z => by
        rw [z] at d13
        rw [d3] at d13
        cases d13
      have ik3 : IsKeys H3 kvs bs := paired_imp ik1 fun _ _ z => s23 _ _ z
      refine ⟨_, rfl, L, rfl, ⟨_, .of d13⟩, ?_⟩
      refine for_list (K := K) (a := L) (xs := bs.map V.ref) (fun i σ' H' => ∃ (o15 : Option V) (tb2 : List (List Key × V)) (rl2 : List (Rk × Rv)), σ' = [some (.ref a), some (.ref na), some (natV at_), some (.ref t1), some (.ref t2), some (.str b.start), some (.ref dt), some (natV c), some (natV k), none, some (natV sl), none, some (.ref L), some (.ref q), some (.ref D2), o15] ∧ SameX D2 H3 H' ∧ H' D2 = some (.dT tb2) ∧ TbPr K H' tb2 rl2 ∧
          Tab b.places b.words (fun j => ∃ r ∈ b.rules.take i, j = r.1) rl2)
        ⟨_, [], [], rfl, SameX.refl _ _, d3, .nil, (Tab.nil _ _).iff fun k => ⟨fun z => z.elim, fun ⟨r, hr, _⟩ => by simp at hr⟩⟩ (fun i σ' H' _ ⟨_, _, _, _, z, _⟩ => .of (z _ _ neL d13)) ?_ ?_
      · rintro i x σ' H5 e ⟨o15, tb2, rl2, rfl, z5, t5, p5, tb5⟩
        rw [List.getElem?_map] at e
        obtain ⟨q', hq', rfl⟩ := Option.map_eq_some_iff.mp e
        obtain ⟨kv', ekv', hkq'⟩ := paired_at2 ik3 hq'
        obtain ⟨r', er', hk', _⟩ := paired_at pa3.r ekv'
        have hk' : kv'.1 = rkeyOf r'.1 := hk'
        rw [hk'] at hkq'
        have hrm' := List.mem_of_getElem? er'
        have neq' : q' ≠ D2 := fun z => by
          rw [z, d3] at hkq'
          cases hkq'
        have hq5 := z5 _ _ neq' hkq'
        have pa5 := pa3.X z5 d3 trivial trivial nedt
        obtain ⟨a1, m1, g1, ta1, tm1⟩ := dget_lock (od := default) pa5.r pa5.d ok.rd hrm' hq5
        have ltbl : tb2.length < sizeLine := lt_line (by rw [p5.length]; have := tb5.len ok.ps ok.ws; omega)
        refine ⟨_, rfl, _, rfl, dt, _, rfl, g1, _, rfl, _, rfl, D2, _, rfl, DPut.t t5 hq5 ltbl, ?_⟩
        have y6 : SameX D2 H5 (upd H5 D2 (.dT (putK tb2 (rkeyOf r'.1) (.ref a1)))) := (SameX.refl D2 _).upd
        refine ⟨_, _, put1 rl2 r'.1 r'.2, rfl, z5.trans y6, upd_same, TbPr.put (p5.imp fun _ _ _ z => RuT_X y6 t5 trivial z) (RuT_X y6 t5 trivial ⟨a1, .ref m1, rfl, ta1, m1, rfl, tm1⟩), (tb5.put (ok.rv r' hrm')).iff fun j => ⟨fun z => ?_, fun ⟨r2, hr2, e⟩ => ?_⟩⟩
        · rcases z with ⟨r2, hr2, e⟩ | e
          · exact ⟨r2, by rw [take_snoc er']; exact List.mem_append_left _ hr2, e⟩
          · exact ⟨r', by rw [take_snoc er']; simp, e⟩
        · rw [take_snoc er'] at hr2
          rcases List.mem_append.mp hr2 with hr2 | hr2
          · exact .inl ⟨r2, hr2, e⟩
          · rw [List.mem_singleton.mp hr2] at e
            exact .inr e
      · rintro σ' H5 ⟨o15, tb2, rl2, rfl, z5, t5, p5, tb5⟩
        rw [List.length_map, lb, List.take_length] at tb5
        have s05 : Same H H5 := SameX.out s03 z5 nD20
        have hn5 := hn.same s05
        have pa5 := pa.rle (.same s05)
        have neq : q ≠ D2 := fun z => by
          have h := s23 _ _ hkq
          rw [z, d3] at h
          cases h
        have hkq5 := z5 _ _ neq (s23 _ _ hkq)
        have tq5 : SqT K H5 q [V.str r.1.1, .str r.1.2.1, natV r.1.2.2] := .of hkq5
        have ltbl : tb2.length < sizeLine := lt_line (by rw [p5.length]; have := tb5.len ok.ps ok.ws; omega)
        obtain ⟨y0, hy0⟩ := ok.ps.st
        refine ⟨_, rfl, _, rfl, _, _, rfl, rfl, na, _, _, _, rfl, rfl, hn5.l, e3, _, rfl, _, rfl, _, _, rfl, rfl, na, _, _, _, rfl, rfl, hn5.l, e4, _, rfl, _, rfl, _, rfl, q, _, 2, _, rfl, rfl, tq5, rfl, ?_⟩
        refine ⟨n3, n4, sl, r.1.2.2, t2, rs, b.places, rfl, hn3, hn4, sl6, .inr pa5.p, pa5.pr, ⟨_, hy0, rfl⟩, ok.ps.p60, fun H6 q6 g ms s6 ru6 hg op => ?_⟩
        obtain ⟨pg, hpg, eg, lg⟩ := hg
        have t6 := s6 _ _ t5
        have hkq6 := s6 _ _ hkq5
        have p6 : TbPr K H6 tb2 rl2 := p5.imp fun _ _ _ z => z.rle (.same s6)
        refine ⟨_, rfl, _, rfl, D2, _, rfl, DPut.t t6 hkq6 ltbl, ?_⟩
        have y7 : SameX D2 H6 (upd H6 D2 (.dT (putK tb2 (rkeyOf r.1) (.ref q6)))) := (SameX.refl D2 _).upd
        have d7 : (upd H6 D2 (.dT (putK tb2 (rkeyOf r.1) (.ref q6)))) D2 = some (.dT (putK tb2 (rkeyOf r.1) (.ref q6))) := upd_same
        generalize upd H6 D2 (.dT (putK tb2 (rkeyOf r.1) (.ref q6))) = H7 at y7 d7
        have p7 : TbPr K H7 (putK tb2 (rkeyOf r.1) (.ref q6)) (put1 rl2 r.1 (g, ms)) := TbPr.put (p6.imp fun _ _ _ z => RuT_X y7 t6 trivial z) (RuT_X y7 t6 trivial ru6)
        have s07 : Same H H7 := SameX.out s03 ((z5.same s6).trans y7) nD20
        have o2 : RuOk b.places b.words r.1 (g, ms) := by
          refine ⟨o.p, o.w, o.c, ?_, ?_, op.nd, ?_, op.nz⟩
          · rw [← eg]
            exact List.mem_map.mpr ⟨pg, hpg, rfl⟩
          · show ms.length = slotsIn b.places g
            rw [← lg, ← eg, (ok.ps.at_ hpg).1]
          · rw [hsl]
            exact op.le
        have tb7 := tb5.put o2
        refine ⟨_, rfl, _, rfl, _, rfl, _, rfl, by show 4 ≤ sizeLine; decide, fun qz nqz => ?_⟩
        have s8 : Same H7 (upd H7 qz (.lst [V.ref t1, .ref t2, .str b.start, .ref D2])) := same_new nqz
        have d8 : (upd H7 qz (.lst [V.ref t1, .ref t2, .str b.start, .ref D2])) qz = some (.lst [V.ref t1, .ref t2, .str b.start, .ref D2]) := upd_same
        generalize upd H7 qz (.lst [V.ref t1, .ref t2, .str b.start, .ref D2]) = H8 at s8 d8
        have s08 := s07.trans s8
        have pa8 := pa.rle (.same s08)
        refine go _ qz ⟨b.words, b.places, b.start, put1 rl2 r.1 (g, ms)⟩ s08 ⟨qz, t1, t2, D2, rs, _, rfl, ⟨.of d8, pa8.w, pa8.p, pa8.pr, .inl (s8 _ _ d7), p7.imp fun _ _ _ z => z.rle (.same s8)⟩, s8 _ _ d7⟩ ⟨tb7.ok ok.ps ok.ws fun p hp wd hw c hc => ?_, rfl, Nat.le_trans sm.l (by decide), fun p hp => Nat.le_succ_of_le (sm.s p hp)⟩
        have m := ok.all p.1 wd c (List.mem_map.mpr ⟨p, hp, rfl⟩) hw (by rw [(ok.ps.at_ hp).1]; exact hc)
        obtain ⟨r', hr', er'⟩ := List.mem_map.mp m
        exact .inl ⟨r', hr', er'.symm⟩
end
end Fw

/-! _law_drawn_row. -/
namespace Fw
open PySem PySem.Spec PyProof.Rows L2
section
variable {P : Program} {w : World} {K : PySem.W.Frag} {mg : Str → Option Value} {base : Heap}
def spDrawnRow (K : PySem.W.Frag) : Sp := fun vs H Q _ => ∃ na, ∃ ns : List Nat, ∃ at_ many : Nat, ∃ wa, ∃ ws : List Str, vs = [.ref na, natV at_, natV many, .ref wa] ∧ Nums K H na ns ∧ at_ ≤ 230 ∧ many ≤ 12 ∧ SqT K H wa (ws.map V.str) ∧ 1 ≤ ws.length ∧
  ∀ H' q row, Same H H' → RowAt K H' q row → (∀ r ∈ row, r.1 ∈ ws) → Q (.ref q) H'
abbrev nDrawnRow : List Str := ["_law_numbers_here", "_law_at", "_law_many", "_law_words", "_law_k"]
abbrev pDrawnRow : List Str := ["_law_numbers_here", "_law_at", "_law_many", "_law_words"]
theorem scDrawnRow : FnScope nDrawnRow pDrawnRow (defScope sDrawnRow) := ⟨rfl, rfl, rfl, by decide +kernel, rfl, by decide +kernel, by decide +kernel⟩
theorem one_len {n : Nat} (h : n < 5) : (("a" : Str).length : Nat) + (Str.ofString (toString (n : Int))).length ≤ sizeLine := by
  rcases n with _ | _ | _ | _ | _ | n
  · exact le_line (by decide +kernel)
  · exact le_line (by decide +kernel)
  · exact le_line (by decide +kernel)
  · exact le_line (by decide +kernel)
  · exact le_line (by decide +kernel)
  · omega
theorem ok_DrawnRow (T : Tx K mg) : Fc P w K mg base CX0 1 (He.ga K "_law_drawn_row") pDrawnRow [] (spDrawnRow K) := by
  refine fc_mk T.f_DrawnRow scDrawnRow (fun _ _ _ _ _ _ us hl => match us, hl with | [_, _, _, _], _ => rfl) (fun vs H Q E h => ?_) (fun cdv A0 outer s0 H vs Q E hr h => ?_)
  · obtain ⟨_, _, _, _, _, _, rfl, _⟩ := h
    rfl
  · obtain ⟨na, ns, at_, many, wa, ws, rfl, hn, hat, hm, hw, w1, go⟩ := h
    have hu := hu_of hr
    refine ⟨_, pss_one (ps_ret (pe_lc (own := [("_law_k", 4)]) (g := gName 4) (tt := tYes) rfl scDrawnRow.nd (pi_range1 (by rfl) T.n_range (pa_cons (pv 2) pa_nil)) (blkOk_by (N := nDrawnRow) (sc := defScope sDrawnRow) (by decide +kernel))
          (fun _ _ _ _ _ => pg_name (i := 4) scDrawnRow.nd rfl (Or.inl rfl)) (fun _ _ _ _ _ => pts_nil)
          (fun _ _ _ _ _ => pe_tup (pa_cons (e_ixT (K := K) (pv 3) (e_op op_mod (e_ty call_int1 T.n_int PyProof.Rows.boot_int (e_ixL (K := K) (pv 0) (e_op op_add (pv 1) (e_op op_mul pe_int (pv 4))))) (e_len (K := K) T.n_len (pv 3))))
            (pa_cons (e_op op_add_str pe_str (e_ty call_str_int T.n_str PyProof.Rows.boot_str (e_op op_add pe_int (e_op op_mod (e_ty call_int1 T.n_int PyProof.Rows.boot_int (e_ixL (K := K) (pv 0) (e_op op_add (e_op op_add (pv 1) (e_op op_mul pe_int (pv 4))) pe_int))) pe_int)))) pa_nil))))), ?_⟩
    refine ⟨_, rfl, _, rfl, by omega, by omega, fun D hD => ?_⟩
    refine lc_range (fun i H' => Same H H' ∧ ∃ qs : List Addr, ∃ row : List (Str × Str), H' D = some (.lst (qs.map V.ref)) ∧ Paired (fun q (r : Str × Str) => SqT K H' q [.str r.1, .str r.2]) qs row ∧ row.length ≤ i ∧ (∀ r ∈ row, r.1 ∈ ws)) ⟨same_new hD, [], [], upd_same, .nil, Nat.le_refl _, fun r hr => by cases hr⟩ ?_ ?_
    · rintro i H1 hi ⟨s1, qs, row, d1, pr, lr, hrw⟩
      have hi12 : i < 12 := by omega
      rw [Int.zero_add]
      obtain ⟨n1, e1, hn1⟩ := hn.get (i := at_ + 2 * i) (by omega)
      obtain ⟨n2, e2, hn2⟩ := hn.get (i := at_ + 2 * i + 1) (by omega)
      have hnX := hn.same s1
      have hwX := sameT s1 hw
      obtain ⟨wd, hwd⟩ : ∃ wd, ws[n1 % ws.length]? = some wd := ⟨_, List.getElem?_eq_getElem (Nat.mod_lt _ (by omega))⟩
      have hml : ((n1 : Int) % (((ws.map V.str).length : Nat) : Int)) = ((n1 % ws.length : Nat) : Int) := by
        rw [List.length_map]
        rfl
      have es : ((at_ : Int) + 2 * (i : Int)) = ((at_ + 2 * i : Nat) : Int) := by omega
      have es2 : ((at_ : Int) + 2 * (i : Int) + 1) = ((at_ + 2 * i + 1 : Nat) : Int) := by omega
      refine ⟨rfl, _, rfl, _, rfl, _, rfl, _, rfl, _, _, rfl, rfl, .inl ⟨by decide, by decide⟩, _, _, rfl, rfl, na, _, _, natV n1, rfl, rfl, hnX.l, ?_, .inl ⟨_, rfl, _, rfl, _, _, rfl, .inr ⟨_, hwX, rfl⟩, _, _, rfl, rfl, ?_, wa, _, _, V.str wd, rfl, rfl, hwX, at_of hml (by rw [List.getElem?_map, hwd] <;> rfl), ?_⟩⟩
      · rw [es]
        exact e1
      · show (0 : Int) < (((ws.map V.str).length : Nat) : Int)
        rw [List.length_map]
        omega
      refine ⟨_, rfl, _, rfl, _, rfl, _, _, rfl, rfl, .inl ⟨by decide, by decide⟩, _, _, rfl, rfl, _, _, rfl, rfl, na, _, _, natV n2, rfl, rfl, hnX.l, ?_, .inl ⟨_, rfl, _, 4, rfl, rfl, (show (0 : Int) < 4 by decide), _, _, rfl, rfl, ((1 + n2 % 4 : Nat) : Int), ?_, num_log (by omega), _, _, rfl, rfl, ?_, ?_⟩⟩
      · rw [es2]
        exact e2
      · have : (1 : Int) + (n2 : Int) % 4 = ((1 + n2 % 4 : Nat) : Int) := by omega
        dsimp only
        rw [this]
      · exact one_len (by omega)
      refine ⟨by show 2 ≤ sizeLine; decide, fun q nq => ?_⟩
      generalize (Str.ofString "a" ++ Str.ofString (toString ((1 + n2 % 4 : Nat) : Int))) = nm
      have s2 : Same H1 (upd H1 q (.tup [V.str wd, .str nm])) := same_new nq
      have tq : SqT K (upd H1 q (.tup [V.str wd, .str nm])) q [V.str wd, .str nm] := .of upd_same
      have d2 := s2 _ _ d1
      refine ⟨_, d2, lt_line (by rw [List.length_map, pr.length]; omega), same_mut (s1.trans s2) hD, qs ++ [q], row ++ [(wd, nm)], ?_, paired_snoc (paired_imp pr fun _ _ z => sqT_upd d2 (sameT s2 z)) (sqT_upd d2 tq), by rw [List.length_append]; show _ + 1 ≤ _; omega, fun r hr => ?_⟩
      · rw [upd_same, List.map_append]
        rfl
      · rcases List.mem_append.mp hr with hr | hr
        · exact hrw r hr
        · rw [List.mem_singleton.mp hr]
          exact List.mem_of_getElem? hwd
    · rintro H1 ⟨s1, qs, row, d1, pr, lr, hrw⟩
      exact go _ D row s1 ⟨qs, .of d1, pr⟩ hrw
end
end Fw

/-! _law_refused. -/
namespace Fw
open PySem PySem.Spec PyProof.Rows L2
section
variable {X : Cx} {k : Nat} {f : Addr} {ps : List Str} {dvs : List V} {sp : Sp} {E : L2.St → XK} {x : Str} {p pos : Pos} {e : Expr} {es : List Expr} {t : TA}
/-- a call in the body of try -/
theorem e_fT (F : Fc X.prog X.w X.K X.mg X.base (L2.CX X.prog X.w) k f ps dvs sp) (hr : Room k X.A) (hm : X.mg x = some (.ref f)) (hx : ∀ σ, PassesAt (L2.CX X.prog X.w) X σ (E σ)) (ha : PA X (e :: es) t) (hg : Gl X x := by rfl) (hdb : (x == ("__debug__" : Str)) = false := by decide)
    (he : starEach (e :: es) X.env = (false, eval e X.env) :: starEach es X.env := by rfl) (hpl : (backTo pos (starEach es X.env)).any (·.1) = false := by rfl) : PE X (.Call (.Name x p) (e :: es) [] pos) (tCallSD sp dvs E t) := by
  obtain ⟨fd, ds, G, b, d⟩ := F.ex
  exact pe_callSD G hr hg hm F.kp b d hx ha hdb he hpl
end
theorem excC {K : PySem.W.Frag} {mg : Str → Option Value} (T : Tx K mg) : ExcC K (He.ga K "InvalidQuestion") ∧ PySem.W.kitOne K (.ref (He.ga K "InvalidQuestion")) (.ref (He.ga K "FewestheldError")) = some true := by
  have h := T.ie
  unfold ieB at h
  obtain ⟨h1, h⟩ := He.ba h
  obtain ⟨h2, h⟩ := He.ba h
  obtain ⟨h3, h⟩ := He.ba h
  obtain ⟨h4, h⟩ := He.ba h
  obtain ⟨h5, h⟩ := He.ba h
  obtain ⟨h6, h⟩ := He.ba h
  obtain ⟨h7, h⟩ := He.ba h
  exact ⟨⟨He.eqO_ok h1, He.eqO_ok h2, T.e_InvalidQuestion.2.2.1, h3, He.eqO_ok h4, He.eqO_ok h5, of_decide_eq_true h6, of_decide_eq_true h7⟩, of_decide_eq_true h⟩
def tTryA (K : PySem.W.Frag) (c : Value) (i : Nat) (ts : Addr → Value → Option Addr → TS) (Wout : WX) (tb : WX → TS) : TS := fun D σ H => tb (wAs K c i ts Wout D) D σ H
theorem tryA {X : Cx} {st : Stmt} {K : PySem.W.Frag} {c : Value} {i : Nat} {ts : Addr → Value → Option Addr → TS} {Wout : WX} {tb : WX → TS} (h : PS X st (fun D σ H => tb (wAs K c i ts Wout D) D σ H)) : PS X st (tTryA K c i ts Wout tb) := h
theorem wAs_go {K : PySem.W.Frag} {c cls : Value} {d : Option Addr} {i : Nat} {ts : Addr → Value → Option Addr → TS} {Wout : WX} {D : Ends} {σ : L2.St} {H : Hp} (xm : PySem.W.exmOne K cls c = some true)
    (h : ∀ p, H p = none → ts p cls d { nx := fun σ' H' => D.nx (σ'.set i none) H', rt := D.rt, bk := fun σ' H' => D.bk (σ'.set i none) H', ct := fun σ' H' => D.ct (σ'.set i none) H' } (σ.set i (some (.ref p))) H) : wAs K c i ts Wout D cls d σ H :=
  ⟨true, xm, fun _ => h, fun q => nomatch q⟩
section
variable {P : Program} {w : World} {K : PySem.W.Frag} {mg : Str → Option Value} {base : Heap}
def spRefused (K : PySem.W.Frag) : Sp := fun vs H Q _ => ∃ a b A B, vs = [.ref a, .ref b] ∧ BookAt K H a A ∧ BookAt K H b B ∧ WOk A.words ∧ WOk B.words ∧ A.words ≠ B.words ∧ ∀ H', Same H H' → Q (.bl true) H'
abbrev nRefused : List Str := ["_law_one", "_law_other_here", "_law_found", "_law_k", "e"]
abbrev pRefused : List Str := ["_law_one", "_law_other_here"]
theorem scRefused : FnScope nRefused pRefused (defScope sRefused) := ⟨rfl, rfl, rfl, by decide +kernel, rfl, by decide +kernel, by decide +kernel⟩
theorem pss_guard {X : Cx} {b : List Stmt} {t : TS} {p : Prop} (h : p → PSs X b t) : PSs X b (fun D σ H => p ∧ t D σ H) := ⟨fun pins s σ H D I hw => (h hw.1).run pins s σ H D I hw.2⟩
def tbR (K : PySem.W.Frag) (W : WX) : TS :=
  tIfS (tTest (tOp rEq (tVar 3) (tC (.int 0)))) (tDrop (tCallSD (spFirstRow K) [.int 20000] (WE W) (tCons (tVar 0) (tCons (tVar 1) (tCons (tTup (tCons (tC (.bl true)) (tCons (tC (.bl true)) tNil))) tNil)))))
  (tIfS (tTest (tOp rEq (tVar 3) (tC (.int 1)))) (tDrop (tCallSD (spFirstRows K) [.int 20000] (WE W) (tCons (tVar 0) (tCons (tVar 1) tNil))))
  (tIfS (tTest (tOp rEq (tVar 3) (tC (.int 2)))) (tDrop (tCallSD (spIsWithin K) [.int 20000] (WE W) (tCons (tVar 0) (tCons (tVar 1) tNil))))
    (tDrop (tCallSD (spRelation K) [.int 20000] (WE W) (tCons (tVar 0) (tCons (tVar 1) tNil))))))
theorem ok_Refused (T : Tx K mg) : Fc P w K mg base CX0 8 (He.ga K "_law_refused") pRefused [] (spRefused K) := by
  refine fc_mk T.f_Refused scRefused (fun _ _ _ _ _ _ us hl => match us, hl with | [_, _], _ => rfl) (fun vs H Q E h => ?_) (fun cdv A0 outer s0 H vs Q E hr h => ?_)
  · obtain ⟨_, _, _, _, rfl, _⟩ := h
    rfl
  · obtain ⟨a, b, A, B, rfl, BA, BB, WA, WB, ne, go⟩ := h
    have hu := hu_of hr
    obtain ⟨C, kt⟩ := excC T
    refine ⟨_, pss_cons (s_set 2 scRefused.nd pe_int)
      (pss_cons (ps_for PassesOwn.never rfl (pi_range1 (by rfl) T.n_range (pa_cons pe_int pa_nil)) (g_n 3 scRefused.nd)
        (pss_one (tryA (K := K) (ps_try_as (i := 4) (tb := tbR K) (Wout := fun _ _ _ _ => False) rfl rfl scRefused.nd rfl rfl ⟨rfl, by decide, Or.inl T.g_InvalidQuestion⟩ takes0
          (fun W pn xe tk _ => pss_one (ps_if (t_c op_eq (pv 3) pe_int) (pss_one (ps_expr (e_fT ((fc_FirstRow T).mono (by decide)) hr T.g_first_row (fun σ => passAt tk σ) (pa_cons (pv 0) (pa_cons (pv 1) (pa_cons (pe_tup (pa_cons pe_bl (pa_cons pe_bl pa_nil))) pa_nil))))))
            (pss_one (ps_if (t_c op_eq (pv 3) pe_int) (pss_one (ps_expr (e_fT ((fc_FirstRows T).mono (by decide)) hr T.g_first_rows (fun σ => passAt tk σ) (pa_cons (pv 0) (pa_cons (pv 1) pa_nil)))))
            (pss_one (ps_if (t_c op_eq (pv 3) pe_int) (pss_one (ps_expr (e_fT ((fc_IsWithin T).mono (by decide)) hr T.g_is_within (fun σ => passAt tk σ) (pa_cons (pv 0) (pa_cons (pv 1) pa_nil)))))
              (pss_one (ps_expr (e_fT (fc_Relation T) hr T.g_relation (fun σ => passAt tk σ) (pa_cons (pv 0) (pa_cons (pv 1) pa_nil)))))))))))
          (fun a oe cls d pn hz hf => pss_guard (p := cls = IQ K ∧ d = none) fun ⟨e1, e2⟩ => pss_one (s_set 2 scRefused.nd (e_op op_add (pv 2) (e_ty call_int1 T.n_int PyProof.Rows.boot_int
            (pe_callB (call_isE C (by rw [e1, e2] at hz; exact hz) hf) (by rfl) T.n_isinstance PyProof.Rows.boot_isinstance (pa_cons (pv 4) (pa_cons (pe_glob (v := .ref (He.ga K "FewestheldError")) (by rfl) T.g_FewestheldError rfl) pa_nil)))))))))))
      (pss_one (ps_ret (e_c op_eq (pv 2) pe_int)))), ?_⟩
    have xm := T.x_InvalidQuestion_InvalidQuestion
    refine ⟨_, rfl, by decide, by decide, ?_⟩
    refine for_range (fun i σ' H' => ∃ o3, σ' = [some (.ref a), some (.ref b), some (natV i), o3, none] ∧ Same H H') ?_ ?_ ?_
    · exact ⟨_, rfl, .refl _⟩
    · rintro i σ' H1 hi ⟨o3, rfl, s1⟩
      have hi4 : i < 4 := hi
      have h4 : i = 0 ∨ i = 1 ∨ i = 2 ∨ i = 3 := by omega
      rw [Int.zero_add]
      rcases h4 with rfl | rfl | rfl | rfl
      · refine ⟨_, rfl, rfl, _, rfl, if_cases (fun _ => ?_) (fun c => (of_decide_eq_false c rfl).elim)⟩
        refine ⟨_, rfl, _, rfl, by show 2 ≤ sizeLine; decide, fun q nq => ?_⟩
        have s2 := s1.trans (same_new (o := .tup [.bl true, .bl true]) nq)
        refine ⟨a, b, q, A, B, true, true, rfl, BA.same s2, BB.same s2, .of upd_same, WA, WB, .inr ⟨ne, ?_⟩⟩
        refine wAs_go xm (fun p np => ⟨⟨rfl, rfl⟩, _, rfl, _, rfl, _, _, _, rfl, fun u r => r, kt, .inr ⟨_, rfl, _, _, rfl, rfl, ?_⟩⟩)
        exact ⟨_, rfl, s2⟩
      · refine ⟨_, rfl, rfl, _, rfl, if_cases (fun c => absurd (V.int.inj (of_decide_eq_true c)) (by decide)) (fun _ => ?_)⟩
        refine ⟨_, rfl, rfl, _, rfl, if_cases (fun _ => ?_) (fun c => (of_decide_eq_false c rfl).elim)⟩
        refine ⟨_, rfl, _, rfl, a, b, A, B, rfl, BA.same s1, BB.same s1, WA, WB, ne, fun H2 s2 => ?_⟩
        refine wAs_go xm (fun p np => ⟨⟨rfl, rfl⟩, _, rfl, _, rfl, _, _, _, rfl, fun u r => r, kt, .inr ⟨_, rfl, _, _, rfl, rfl, ?_⟩⟩)
        exact ⟨_, rfl, s1.trans s2⟩
      · refine ⟨_, rfl, rfl, _, rfl, if_cases (fun c => absurd (V.int.inj (of_decide_eq_true c)) (by decide)) (fun _ => ?_)⟩
        refine ⟨_, rfl, rfl, _, rfl, if_cases (fun c => absurd (V.int.inj (of_decide_eq_true c)) (by decide)) (fun _ => ?_)⟩
        refine ⟨_, rfl, rfl, _, rfl, if_cases (fun _ => ?_) (fun c => (of_decide_eq_false c rfl).elim)⟩
        refine ⟨_, rfl, _, rfl, a, b, A, B, rfl, BA.same s1, BB.same s1, WA, WB, .inr ⟨ne, fun H2 s2 => ?_⟩⟩
        refine wAs_go xm (fun p np => ⟨⟨rfl, rfl⟩, _, rfl, _, rfl, _, _, _, rfl, fun u r => r, kt, .inr ⟨_, rfl, _, _, rfl, rfl, ?_⟩⟩)
        exact ⟨_, rfl, s1.trans s2⟩
      · refine ⟨_, rfl, rfl, _, rfl, if_cases (fun c => absurd (V.int.inj (of_decide_eq_true c)) (by decide)) (fun _ => ?_)⟩
        refine ⟨_, rfl, rfl, _, rfl, if_cases (fun c => absurd (V.int.inj (of_decide_eq_true c)) (by decide)) (fun _ => ?_)⟩
        refine ⟨_, rfl, rfl, _, rfl, if_cases (fun c => absurd (V.int.inj (of_decide_eq_true c)) (by decide)) (fun _ => ?_)⟩
        refine ⟨_, rfl, _, rfl, a, b, A, B, rfl, BA.same s1, BB.same s1, WA, WB, .inr ⟨ne, fun H2 s2 => ?_⟩⟩
        refine wAs_go xm (fun p np => ⟨⟨rfl, rfl⟩, _, rfl, _, rfl, _, _, _, rfl, fun u r => r, kt, .inr ⟨_, rfl, _, _, rfl, rfl, ?_⟩⟩)
        exact ⟨_, rfl, s1.trans s2⟩
    · rintro σ' H1 ⟨o3, rfl, s1⟩
      refine ⟨_, rfl, rfl, ?_⟩
      have e : decide (natV 4 = V.int 4) = true := decide_eq_true rfl
      show Q (.bl (decide (natV 4 = V.int 4))) H1
      rw [e]
      exact go H1 s1
end
end Fw

/-! The plain part of the law. -/
namespace Fw
open PySem PySem.Spec PyProof.Rows L2
/-! ### relations -/
theorem reach_same {A : Au Str Str} {s t : Str × List Str} (r : Reach A A s t) : s = t := by
  induction r with
  | init => rfl
  | step w n r h ih => rw [ih]
theorem way_self {A : Au Str Str} : wayB A A true false = false := wayB_f.mpr fun ⟨s, t, r, e1, e2⟩ => by
  rw [reach_same r] at e1
  rw [e1] at e2
  cases e2
theorem relS_self {A : Au Str Str} : relS A A = "alike" := by
  unfold relS
  rw [way_self]
  rfl
theorem way_swap {A B : Au Str Str} (hw : B.words = A.words) (x y : Bool) : wayB A B x y = wayB B A y x := by
  have e : Way A B x y ↔ Way B A y x := ⟨fun ⟨s, t, r, e1, e2⟩ => ⟨t, s, r.swap hw, e2, e1⟩, fun ⟨s, t, r, e1, e2⟩ => ⟨t, s, r.swap hw.symm, e2, e1⟩⟩
  cases h : wayB B A y x with
  | true => exact wayB_t.mpr (e.mpr (wayB_t.mp h))
  | false => exact wayB_f.mpr fun m => wayB_f.mp h (e.mp m)
theorem rel_inside {A B : Au Str Str} : inV (.str (relS A B)) [V.str "alike", V.str "within"] = !wayB A B true false := by
  have e : inV (.str (relS A B)) [V.str "alike", V.str "within"] = decide (relS A B ∈ (["alike", "within"] : List Str)) := inV_str (l := ["alike", "within"])
  rw [e]
  unfold relS
  generalize (!wayB A B true false) = u
  generalize (!wayB B A true false) = v
  generalize (!wayB A B true true) = z
  cases u <;> cases v <;> cases z <;> decide +kernel
theorem rel_around {A B : Au Str Str} : inV (.str (relS A B)) [V.str "alike", V.str "around"] = !wayB B A true false := by
  have e : inV (.str (relS A B)) [V.str "alike", V.str "around"] = decide (relS A B ∈ (["alike", "around"] : List Str)) := inV_str (l := ["alike", "around"])
  rw [e]
  unfold relS
  generalize (!wayB A B true false) = u
  generalize (!wayB B A true false) = v
  generalize (!wayB A B true true) = z
  cases u <;> cases v <;> cases z <;> decide +kernel
abbrev turnT : List (Key × V) := mergeK [] [(.inr "within", .str "around"), (.inr "around", .str "within")]
def turnS (x : Str) : Str := if x = "within" then "around" else if x = "around" then "within" else x
theorem rel_turned {A B : Au Str Str} (hw : B.words = A.words) : turnS (relS A B) = relS B A := by
  have e : wayB B A true true = wayB A B true true := way_swap hw.symm _ _
  unfold relS
  rw [e]
  generalize (!wayB A B true false) = u
  generalize (!wayB B A true false) = v
  generalize (!wayB A B true true) = z
  cases u <;> cases v <;> cases z <;> decide +kernel
theorem turn_get (x : Str) : (valV turnT (.inr x)).getD (.str x) = .str (turnS x) := by
  unfold turnT turnS
  have e : mergeK [] [((.inr "within" : Key), V.str "around"), (.inr "around", .str "within")] = [(.inr "within", .str "around"), (.inr "around", .str "within")] := by
    have h : ¬ (Str.ofString "within" = Str.ofString "around") := by decide +kernel
    unfold mergeK
    simp [putK, h]
  rw [e]
  by_cases h : x = "within"
  · rw [if_pos h, h]
    rfl
  · rw [if_neg h]
    by_cases h2 : x = "around"
    · rw [if_pos h2, h2]
      rfl
    · rw [if_neg h2]
      have h' : ¬ ("within" : Str) = x := fun z => h z.symm
      have h2' : ¬ ("around" : Str) = x := fun z => h2 z.symm
      simp [valV, h', h2']
theorem apart_no {A B : Au Str Str} (h : relS A B = "apart") : wayB A B true true = false := by
  revert h
  unfold relS
  generalize (!wayB A B true false) = u
  generalize (!wayB B A true false) = v
  cases hz : wayB A B true true with
  | false => exact fun _ => rfl
  | true => 
    intro h
    exfalso
    revert h
    cases u <;> cases v <;> decide +kernel
/-! ### answers of a row -/
theorem row_way {A B : Au Str Str} {row : List (Str × Str)} (hw : ∀ r ∈ row, r.1 ∈ A.words) : wayB A B (A.yes (runs A row).1) (B.yes (runs B row).1) = true := wayB_t.mpr ⟨_, _, runs_reach hw, rfl, rfl⟩
theorem row_told {A B : Au Str Str} (hw : B.words = A.words) {y z : Bool} (h : wayB A B y z = true) : (y && (!z && !wayB A B true false) || (z && (!y && !wayB B A true false))) = false := by
  cases y <;> cases z
  · rfl
  · have h2 := way_swap hw false true
    rw [h] at h2
    rw [← h2]
    rfl
  · rw [h]
    rfl
  · rfl
theorem row_apart {A B : Au Str Str} {y z : Bool} (h : wayB A B y z = true) : (y && (z && decide (V.str (relS A B) = V.str "apart"))) = false := by
  cases y <;> cases z
  · rfl
  · rfl
  · rfl
  · by_cases e : relS A B = "apart"
    · rw [apart_no e] at h
      cases h
    · rw [decide_eq_false fun q => e (V.str.inj q)]
      rfl
/-! ### lists of two bools -/
theorem shaped_l2 (x y : Bool) : SeqAt.shaped (.list [.bool x, .bool y]) = true := by cases x <;> cases y <;> decide +kernel
theorem eqv_l2 (x y u v : Bool) : PyData.eqv (.list [.bool x, .bool y]) (.list [.bool u, .bool v]) = decide (x = u ∧ y = v) := by cases x <;> cases y <;> cases u <;> cases v <;> decide +kernel
/-! ### other words -/
structure BadOk (ws bl : List Str) : Prop where
  ok : WdsOk bl
  ne : ws ≠ bl
def zzL : List Str := ["zzz", "zzy", "zzx"]
theorem zz_ok : ∀ x ∈ zzL, NameOk x := by
  have h : ∀ x ∈ zzL, 1 ≤ x.length ∧ x.length ≤ 12 ∧ x.cps.toList.all (fun c => decide (c ∈ nameChars.cps.toList)) = true ∧ (match x.cps.toList.head? with | some c => decide (c ∉ digChars.cps.toList) | none => true) = true := by decide +kernel
  intro x hx
  obtain ⟨h1, h2, h3, h4⟩ := h x hx
  refine ⟨h1, h2, fun c hc => ?_, fun c hc => ?_⟩
  · rw [hc] at h4
    exact of_decide_eq_true h4
  · exact of_decide_eq_true (List.all_eq_true.mp h3 c hc)
theorem zz_one {ws : List Str} (h : ws.length ≤ 2) : ∃ z, (zzL.filter fun x => decide (x ∉ ws)).take 1 = [z] ∧ z ∈ zzL ∧ z ∉ ws := by
  cases e : zzL.filter (fun x => decide (x ∉ ws)) with
  | nil =>
    exfalso
    have nd : zzL.Nodup := by decide +kernel
    have : zzL.length ≤ ws.length := nodup_le nd fun x hx => Classical.byContradiction fun q => by
      have m : x ∈ zzL.filter (fun x => decide (x ∉ ws)) := List.mem_filter.mpr ⟨hx, decide_eq_true q⟩
      rw [e] at m
      cases m
    have e3 : zzL.length = 3 := rfl
    omega
  | cons z r =>
    have m : z ∈ zzL.filter (fun x => decide (x ∉ ws)) := by
      rw [e]
      exact List.mem_cons_self
    obtain ⟨h1, h2⟩ := List.mem_filter.mp m
    exact ⟨z, rfl, h1, of_decide_eq_true h2⟩
theorem bad_0 {ws : List Str} {z : Str} (h : WdsOk ws) (l : ws.length ≤ 2) (hz : z ∈ zzL) (nz : z ∉ ws) : BadOk ws (ws ++ [z]) := by
  refine ⟨⟨by rw [List.length_append]; show 1 ≤ ws.length + 1; omega, by rw [List.length_append]; show ws.length + 1 ≤ 3; omega, fun x hx => ?_, ?_⟩, fun e => ?_⟩
  · rcases List.mem_append.mp hx with hx | hx
    · exact h.wn x hx
    · rw [List.mem_singleton.mp hx]
      exact zz_ok z hz
  · rw [List.nodup_append]
    exact ⟨h.wd, by simp, fun a ha b hb e => nz (by rw [← List.mem_singleton.mp hb, ← e]; exact ha)⟩
  · have := congrArg List.length e
    rw [List.length_append] at this
    have e1 : [z].length = 1 := rfl
    omega
theorem bad_1 {ws : List Str} {z : Str} (h : WdsOk ws) (l : ws.length ≤ 2) (hz : z ∈ zzL) (nz : z ∉ ws) : BadOk ws ([z] ++ ws) := by
  refine ⟨⟨by rw [List.length_append]; show 1 ≤ 1 + ws.length; omega, by rw [List.length_append]; show 1 + ws.length ≤ 3; omega, fun x hx => ?_, ?_⟩, fun e => ?_⟩
  · rcases List.mem_append.mp hx with hx | hx
    · rw [List.mem_singleton.mp hx]
      exact zz_ok z hz
    · exact h.wn x hx
  · rw [List.singleton_append, List.nodup_cons]
    exact ⟨nz, h.wd⟩
  · have := congrArg List.length e
    rw [List.length_append] at this
    have e1 : [z].length = 1 := rfl
    omega
theorem bad_2 {ws : List Str} {z : Str} (hz : z ∈ zzL) (nz : z ∉ ws) : BadOk ws [z] :=
  ⟨⟨by show 1 ≤ 1; decide, by show 1 ≤ 3; decide, fun x hx => by rw [List.mem_singleton.mp hx]; exact zz_ok z hz, by simp⟩, fun e => nz (by rw [e]; simp)⟩
theorem bad_3 {ws : List Str} (h : WdsOk ws) (l : ws.length ≤ 2) (l1 : 1 < ws.length) : BadOk ws ws.reverse := by
  refine ⟨⟨by rw [List.length_reverse]; omega, by rw [List.length_reverse]; omega, fun x hx => h.wn x (List.mem_reverse.mp hx), List.pairwise_reverse.mpr (h.wd.imp fun {a b} z => Ne.symm z)⟩, fun e => ?_⟩
  have hd := h.wd
  match ws, l, l1 with
  | [a, b], _, _ =>
    rw [List.nodup_cons] at hd
    have : a = b := by
      injection e
    exact hd.1 (by rw [this]; simp)
theorem wds_names {n m : Nat} (hn : n ≤ 1008) (h1 : 1 ≤ m) (h3 : m ≤ 3) : WdsOk (namesL n m) := by
  refine ⟨by rw [namesL_len]; exact h1, by rw [namesL_len]; exact h3, fun x hx => ?_, namesL_nd hn (by omega)⟩
  obtain ⟨k, hk, rfl⟩ := namesL_mem hx
  exact nameS_ok hn (by omega)
theorem flat_strs : ∀ l : List Str, (l.map V.str).all flatV = true
  | [] => rfl
  | x :: r => by
    rw [List.map_cons, List.all_cons, flat_strs r]
    rfl
/-! ### tests -/
theorem t_told {ta tb tc td : TT} {σ : L2.St} {H : Hp} {Q : Bool → Hp → Prop} {a b c d : Bool} (ha : ∀ Q, Q a H → ta σ H Q) (hb : ∀ Q, Q b H → tb σ H Q) (hc : ∀ Q, Q c H → tc σ H Q) (hd : ∀ Q, Q d H → td σ H Q)
    (q : Q (a && (!b && c) || (b && (!a && d))) H) : tOr (tAnd ta (tAnd (tNot tb) tc)) (tAnd tb (tAnd (tNot ta) td)) σ H Q := by
  refine ha _ ?_
  cases a with
  | true =>
    refine iteT (hb _ ?_)
    cases b with
    | true => exact iteF (iteF (hb _ (iteT (ha _ (iteF q)))))
    | false =>
      refine iteT (hc _ ?_)
      cases c with
      | true => exact iteT q
      | false => exact iteF (hb _ (iteF q))
  | false =>
    refine iteF (iteF (hb _ ?_))
    cases b with
    | true => exact iteT (ha _ (iteT (hd _ q)))
    | false => exact iteF q
theorem t_apart {ta tb tc : TT} {σ : L2.St} {H : Hp} {Q : Bool → Hp → Prop} {a b c : Bool} (ha : ∀ Q, Q a H → ta σ H Q) (hb : ∀ Q, Q b H → tb σ H Q) (hc : ∀ Q, Q c H → tc σ H Q)
    (q : Q (a && (b && c)) H) : tAnd ta (tAnd tb tc) σ H Q := by
  refine ha _ ?_
  cases a with
  | true =>
    refine iteT (hb _ ?_)
    cases b with
    | true => exact iteT (hc _ q)
    | false => exact iteF q
  | false => exact iteF q
theorem cut1 {l : List Str} {z : Str} (h : l.take 1 = [z]) : cutV (l.map V.str) none (some 1) = [V.str z] := by
  unfold cutV
  rw [HT.sIx_none, show (some (1 : Int)) = some (((1 : Nat)) : Int) from rfl, HT.sIx_nat, List.drop_zero, Nat.sub_zero, ← List.map_take]
  have e : l.take (min 1 (l.map V.str).length) = l.take 1 := by
    rw [List.length_map, ← List.take_take, List.take_length]
  rw [e, h]
  rfl
end Fw

/-! The law. -/
namespace Fw
open PySem PySem.Spec PyProof.Rows L2
section
variable {P : Program} {w : World} {K : PySem.W.Frag} {mg : Str → Option Value} {base : Heap}
def spLaw (K : PySem.W.Frag) : Sp := fun vs H Q _ => ∃ (a : Addr) (cs : List Int), vs = [.ref a] ∧ SqL K H a (cs.map V.int) ∧ ∀ H', Q (.bl true) H'
abbrev nLaw : List Str := ["_law_script", "_law_numbers_here", "_law_words", "_law_first", "_law_second", "_law_one", "_law_other_here", "_law_due_here", "_law_told", "_law_turned", "_law_k", "_law_row_here", "_law_answers", "_law_more", "_law_bad", "_law_rules", "_law_key", "_law_word", "_law_name"]
abbrev pLaw : List Str := ["_law_script"]
theorem scLaw : FnScope nLaw pLaw (defScope sLaw) := ⟨rfl, rfl, rfl, by decide +kernel, rfl, by decide +kernel, by decide +kernel⟩
theorem fn_mk {k : Nat} {f : Addr} {ps : List Str} {sp : Sp} {fd : FuncData} {N : List Str} {x qual : Str} {params : Arguments} {body : List Stmt} {scope : Scope} (F : FunD K x qual params body scope [] [] f fd) (S : FnScope N ps scope)
    (len : ∀ vs H Q E, sp vs H Q E → vs.length = ps.length)
    (hbody : ∀ (cdv : Value) (A : Around) (outer : List Env) (s : Shared) (H : Hp) (vs : List V) (Q : VK) (E : XK), Room k (A.deeper (envOfC qual scope s.heap.objs.size f cdv)) → sp vs H Q E →
      ∃ t, PSs (cxOf CX0 P w K mg base N qual scope f cdv A outer s H E).nox body t ∧ t { nx := fun _ H' => Q .non H', rt := Q } (start N vs) H) : FnOk P w K mg base CX0 (k + 1) f fd ps sp := by
  refine F.ok S len fun cdv A outer s H vs Q E hr h => ?_
  obtain ⟨t, h1, h2⟩ := hbody cdv A outer s H vs Q E hr h
  exact ⟨t, h1.nox, h2⟩
theorem rIn_ok {H : Hp} {x y : V} {p : Addr} {xs : List V} {Q : VK} (ey : y = .ref p) (h : SqL K H p xs ∨ SqT K H p xs) (f1 : flatV x = true) (f2 : xs.all flatV = true) (q : Q (.bl (inV x xs)) H) : rIn K false x y H Q := ⟨p, xs, ey, h, f1, f2, q⟩
theorem fn_Law (T : Tx K mg) {fd : FuncData} (F : FunD K "law" "law" (defArgs sLaw) (defBody sLaw) (defScope sLaw) [] [] (He.ga K "law") fd) : FnOk P w K mg base CX0 9 (He.ga K "law") fd pLaw (spLaw K) := by
  refine fn_mk F scLaw (fun vs H Q E h => ?_) (fun cdv A0 outer s0 H vs Q E hr h => ?_)
  · obtain ⟨_, _, rfl, _⟩ := h
    rfl
  · obtain ⟨sa, cs, rfl, hs, go⟩ := h
    have hu := hu_of hr
    have hu64 : (A0.deeper (envOfC "law" (defScope sLaw) s0.heap.objs.size (He.ga K "law") cdv)).units + 64 < cLine := by
      have := hr.un
      omega
    refine ⟨_, pss_cons (s_set 1 scLaw.nd (e_f ((ok_Numbers T).mono (by decide)) hr T.g__law_numbers (pa_cons (pv 0) (pa_cons pe_int pa_nil))))
      (pss_cons (s_set 2 scLaw.nd (e_f ((ok_Names T).mono (by decide)) hr T.g__law_names (pa_cons (e_ixL (pv 1) pe_int) (pa_cons (e_op op_add pe_int (e_op op_mod (e_ty call_int1 T.n_int PyProof.Rows.boot_int (e_ixL (pv 1) pe_int)) pe_int)) pa_nil))))
      (pss_cons (s_set 3 scLaw.nd (e_f ((ok_Parts T).mono (by decide)) hr T.g__law_parts (pa_cons (pv 1) (pa_cons pe_int (pa_cons (pv 2) pa_nil)))))
      (pss_cons (s_set 4 scLaw.nd (e_f ((ok_Other T).mono (by decide)) hr T.g__law_other (pa_cons (pv 3) (pa_cons (pv 1) (pa_cons pe_int pa_nil)))))
      (pss_cons (s_set 5 scLaw.nd (e_f ((ok_Make T).mono (by decide)) hr T.g__law_make (pa_cons (pv 3) pa_nil)))
      (pss_cons (s_set 6 scLaw.nd (e_f ((ok_Make T).mono (by decide)) hr T.g__law_make (pa_cons (pv 4) pa_nil)))
      (pss_cons (s_set 7 scLaw.nd (e_f ((ok_Due T).mono (by decide)) hr T.g__law_due (pa_cons (pv 3) (pa_cons (pv 4) pa_nil))))
      (pss_cons (ps_if (pw_or (t_c op_ne (e_fL ((fc_Relation T).mono (by decide)) hr T.g_relation (pa_cons (pv 5) (pa_cons (pv 6) pa_nil))) (pv 7)) (pw_or1 (t_c op_ne (e_fL ((fc_Relation T).mono (by decide)) hr T.g_relation (pa_cons (pv 5) (pa_cons (pv 5) pa_nil))) pe_str))).pt (pss_one (ps_ret pe_bl)) pss_nil)
      (pss_cons (s_set 8 scLaw.nd (pe_lst (pa_cons (e_fL ((fc_IsWithin T).mono (by decide)) hr T.g_is_within (pa_cons (pv 5) (pa_cons (pv 6) pa_nil))) (pa_cons (e_fL ((fc_IsWithin T).mono (by decide)) hr T.g_is_within (pa_cons (pv 6) (pa_cons (pv 5) pa_nil))) pa_nil))))
      (pss_cons (ps_if (pw_or (t_c (op_neD hu64) (pv 8) (pe_lst (pa_cons (e_c (o_in (K := K)) (pv 7) (pe_lst (pa_cons pe_str (pa_cons pe_str pa_nil)))) (pa_cons (e_c (o_in (K := K)) (pv 7) (pe_lst (pa_cons pe_str (pa_cons pe_str pa_nil)))) pa_nil))))
          (pw_or1 (pt_not (pt_val (pe_callB call_isi (by rfl) T.n_isinstance PyProof.Rows.boot_isinstance (pa_cons (e_ixL (pv 8) pe_int) (pa_cons (pe_bltn (v := .ty "bool") (by rfl) T.n_bool PyProof.Rows.boot_bool rfl) pa_nil))))))).pt (pss_one (ps_ret pe_bl)) pss_nil)
      (pss_cons (s_set 9 scLaw.nd (pe_disp (pps_cons pe_str pe_str (pps_cons pe_str pe_str pps_nil)) (by rfl) (by rfl) (by simp) (by decide)))
      (pss_cons (ps_if (t_c op_ne (e_fL ((fc_Relation T).mono (by decide)) hr T.g_relation (pa_cons (pv 6) (pa_cons (pv 5) pa_nil))) (pe_dget2 hu (pv 9) (pv 7) (pv 7) ⟨by rfl, by rfl, by rfl, by rfl⟩)) (pss_one (ps_ret pe_bl)) pss_nil)
      (pss_cons (ps_for passN rfl (pi_range1 (by rfl) T.n_range (pa_cons pe_int pa_nil)) (g_n 10 scLaw.nd)
        (pss_cons (s_set 11 scLaw.nd (e_f ((ok_DrawnRow T).mono (by decide)) hr T.g__law_drawn_row (pa_cons (pv 1) (pa_cons (e_op op_add pe_int (e_op op_mul pe_int (pv 10))) (pa_cons (e_op op_mod (e_ty call_int1 T.n_int PyProof.Rows.boot_int (e_ixL (pv 1) (e_op op_add pe_int (pv 10)))) pe_int) (pa_cons (e_ixL (pv 3) pe_int) pa_nil))))))
        (pss_cons (s_set 12 scLaw.nd (pe_lst (pa_cons (e_ixT (e_f ((ok_Place T).mono (by decide)) hr T.g__law_place (pa_cons (pv 3) (pa_cons (e_ixT (e_f ((ok_LRead T).mono (by decide)) hr T.g__law_read (pa_cons (pv 3) (pa_cons (pv 11) pa_nil))) pe_int) pa_nil))) pe_int)
          (pa_cons (e_ixT (e_f ((ok_Place T).mono (by decide)) hr T.g__law_place (pa_cons (pv 4) (pa_cons (e_ixT (e_f ((ok_LRead T).mono (by decide)) hr T.g__law_read (pa_cons (pv 4) (pa_cons (pv 11) pa_nil))) pe_int) pa_nil))) pe_int) pa_nil))))
        (pss_cons (ps_if (pw_or (pw_and (pt_val (e_ixL (pv 12) pe_int)) (pw_and (pt_not (pt_val (e_ixL (pv 12) pe_int))) (pw_and1 (pt_val (e_ixL (pv 8) pe_int))))).pt
            (pw_or1 (pw_and (pt_val (e_ixL (pv 12) pe_int)) (pw_and (pt_not (pt_val (e_ixL (pv 12) pe_int))) (pw_and1 (pt_val (e_ixL (pv 8) pe_int))))).pt)).pt (pss_one (ps_ret pe_bl)) pss_nil)
        (pss_one (ps_if (pw_and (pt_val (e_ixL (pv 12) pe_int)) (pw_and (pt_val (e_ixL (pv 12) pe_int)) (pw_and1 (t_c op_eq (pv 7) pe_str)))).pt (pss_one (ps_ret pe_bl)) pss_nil))))))
      (pss_cons (s_lc 13 (own := [("_law_name", 18)]) (g := gName 18) scLaw.nd (pi_list (pe_lst (pa_cons pe_str (pa_cons pe_str (pa_cons pe_str pa_nil))))) (blkOk_by (N := nLaw) (sc := defScope sLaw) (by decide +kernel))
          (fun _ _ _ _ _ => pg_name (i := 18) scLaw.nd rfl (Or.inl rfl)) (fun _ _ _ _ _ => pts_one (t_c (o_notIn (K := K)) (pv 18) (pv 2))) (fun _ _ _ _ _ => pv 18))
      (pss_cons (s_set 14 scLaw.nd (e_ixL (pe_lst (pa_cons (e_op op_cat (e_ty call_list_of T.n_list PyProof.Rows.boot_list (pv 2)) (pe_slice sl_list (pv 13) po_none (po_some pe_int)))
          (pa_cons (e_op op_cat (pe_slice sl_list (pv 13) po_none (po_some pe_int)) (e_ty call_list_of T.n_list PyProof.Rows.boot_list (pv 2))) (pa_cons (pe_slice sl_list (pv 13) po_none (po_some pe_int)) pa_nil))))
          (e_op op_mod (e_ty call_int1 T.n_int PyProof.Rows.boot_int (e_ixL (pv 1) pe_int)) pe_int)))
      (pss_cons (ps_if (pw_and (t_c op_gt (e_len T.n_len (pv 2)) pe_int) (pw_and1 (t_c op_eq (e_op op_mod (e_ty call_int1 T.n_int PyProof.Rows.boot_int (e_ixL (pv 1) pe_int)) pe_int) pe_int))).pt
          (pss_one (s_set 14 scLaw.nd (pe_revL (e_ty call_list_of T.n_list PyProof.Rows.boot_list (pv 2))))) pss_nil)
      (pss_cons (s_set 15 scLaw.nd pe_dnewT)
      (pss_cons (ps_lock (ps_for passN rfl (pi_keys (e_ixL (pv 3) pe_int)) (g_n 16 scLaw.nd)
        (pss_one (ps_for passN rfl (pi_list (pv 14)) (g_n 17 scLaw.nd)
          (pss_one (s_dput hu (pv 15) (pe_tup (pa_cons (e_ixT (pv 16) pe_int) (pa_cons (pv 17) (pa_cons (e_ixT (pv 16) pe_int) pa_nil)))) (e_dget hu (e_ixL (pv 3) pe_int) (pv 16))))))))
      (pss_one (ps_ret (e_f (ok_Refused T) hr T.g__law_refused (pa_cons (pv 5) (pa_cons (e_f ((ok_Make T).mono (by decide)) hr T.g__law_make (pa_cons (pe_lst (pa_cons (e_ty call_tuple_of T.n_tuple PyProof.Rows.boot_tuple (pv 14)) (pa_cons (e_ixL (pv 3) pe_int) (pa_cons (e_ixL (pv 3) pe_int) (pa_cons (pv 15) pa_nil))))) pa_nil)) pa_nil))))
      )))))))))))))))))), ?_⟩
    -- the numbers
    refine ⟨_, rfl, sa, cs, rfl, hs, fun H1 na ns s1 dn ln bn => ?_⟩
    have hn : Nums K H1 na ns := ⟨.of dn, ln, bn⟩
    obtain ⟨n220, e220, b220⟩ := hn.get (i := 220) (by decide)
    obtain ⟨n221, e221, b221⟩ := hn.get (i := 221) (by decide)
    obtain ⟨n223, e223, b223⟩ := hn.get (i := 223) (by decide)
    refine ⟨_, rfl, na, _, _, natV n220, rfl, rfl, hn.l, e220, _, rfl, na, _, _, natV n221, rfl, rfl, hn.l, e221, .inl ⟨_, rfl, _, 2, rfl, rfl, (show (0 : Int) < 2 by decide), _, _, rfl, rfl, ?_⟩⟩
    have em : ((1 : Int) + (n221 : Int) % 2) = ((1 + n221 % 2 : Nat) : Int) := by omega
    refine ⟨n220, 1 + n221 % 2, by dsimp only; rw [em]; rfl, b220, by omega, fun H2 wa s2 dw => ?_⟩
    have wk : WdsOk (namesL n220 (1 + n221 % 2)) := wds_names b220 (by omega) (by omega)
    have w2 : (namesL n220 (1 + n221 % 2)).length ≤ 2 := by rw [namesL_len]; omega
    generalize namesL n220 (1 + n221 % 2) = ws at dw wk w2
    clear e220 e221 b220 b221 em
    have hn2 := hn.same s2
    -- the parts
    refine ⟨_, rfl, _, rfl, na, ns, 0, wa, ws, rfl, hn2, by decide, .inl (.of dw), wk, w2, fun H3 f1 b1 s3 pm1 ok1 hw1 l1 sl1 nl1 => ?_⟩
    have hn3 := hn2.same s3
    refine ⟨_, rfl, _, rfl, .ref f1, na, ns, 212, b1, rfl, hn3, by decide, pm1, ⟨ok1, rfl, l1, sl1⟩, nl1, by rw [hw1]; exact w2, fun H4 f2 b2 s4 pm2 sm2 => ?_⟩
    have ok2 := sm2.ok
    have hw : b2.words = b1.words := sm2.w
    have l2 := sm2.l
    have sl2 := sm2.s
    have FA : Few b1.au b2.au := few_of ok1 ok2 sl1 sl2 l1 l2 (by decide)
    have FB : Few b2.au b1.au := few_of ok2 ok1 sl2 sl1 l2 l1 (by decide)
    have FC : Few b1.au b1.au := few_of ok1 ok1 sl1 sl1 l1 l1 (by decide)
    have W1 : WOk b1.au.words := ok1.ws.ok
    have W2 : WOk b2.au.words := ok2.ws.ok
    have G1 := ok1.good
    have G2 := ok2.good
    have hwa : b1.au.words = b2.au.words := hw.symm
    have pm1 := pm1.same s4
    refine ⟨_, rfl, .ref f1, b1, rfl, pm1, ok1, fun H5 o1 s5 B1 => ?_⟩
    have pm1 := pm1.same s5
    have pm2 := pm2.same s5
    refine ⟨_, rfl, .ref f2, b2, rfl, pm2, ok2, fun H6 o2 s6 B2 => ?_⟩
    have pm1 := pm1.same s6
    have pm2 := pm2.same s6
    have B1 := B1.same s6
    have hn6 := hn3.same (s4.trans (s5.trans s6))
    have dw6 := (s3.trans (s4.trans (s5.trans s6))) _ _ dw
    refine ⟨_, rfl, _, rfl, .ref f1, .ref f2, b1, b2, rfl, pm1.at_, pm2.at_, ok1, ok2, hw, FA, fun H7 s7 => ?_⟩
    clear s1 s2 s3 s4 s5 s6 hn hn2 hn3 dn dw
    -- what stands from here on
    refine ⟨_, rfl, _, rfl, o1, o2, b1.au, b2.au, rfl, B1.same s7, B2.same s7, W1, W2, .inl ⟨hwa, G1, G2, FA, FB, fun H8 s8 => ⟨_, rfl, rfl, _, rfl, ?_⟩⟩⟩
    refine if_cases (fun c => ?_) (fun _ => ?_)
    · rw [decide_eq_true rfl] at c
      cases c
    have s8 := s7.trans s8
    refine ⟨_, rfl, _, rfl, o1, o1, b1.au, b1.au, rfl, B1.same s8, B1.same s8, W1, W1, .inl ⟨rfl, G1, G1, FC, FC, fun H9 s9 => ⟨rfl, _, rfl, ?_⟩⟩⟩
    refine if_cases (fun c => ?_) (fun _ => ?_)
    · rw [relS_self, decide_eq_true rfl] at c
      cases c
    have s9 := s8.trans s9
    refine ⟨_, rfl, _, rfl, o1, o2, b1.au, b2.au, rfl, B1.same s9, B2.same s9, W1, W2, .inl ⟨hwa, G1, G2, FA, fun H10 s10 => ?_⟩⟩
    have s10 := s9.trans s10
    refine ⟨_, rfl, _, rfl, o2, o1, b2.au, b1.au, rfl, B2.same s10, B1.same s10, W2, W1, .inl ⟨hwa.symm, G2, G1, FB, fun H11 s11 => ?_⟩⟩
    have s11 := s10.trans s11
    refine ⟨by show 2 ≤ sizeLine; decide, fun tl ntl => ?_⟩
    have s12 := s11.trans (same_new (o := .lst [.bl (!wayB b1.au b2.au true false), .bl (!wayB b2.au b1.au true false)]) ntl)
    have dtl : (upd H11 tl (.lst [.bl (!wayB b1.au b2.au true false), .bl (!wayB b2.au b1.au true false)])) tl = some (.lst [.bl (!wayB b1.au b2.au true false), .bl (!wayB b2.au b1.au true false)]) := upd_same
    revert s12 dtl
    generalize upd H11 tl (.lst [.bl (!wayB b1.au b2.au true false), .bl (!wayB b2.au b1.au true false)]) = H12
    intro s12 dtl
    clear s7 s8 s9 s10 s11
    refine ⟨_, rfl, _, rfl, by show 2 ≤ sizeLine; decide, fun q1 nq1 => rIn_ok rfl (.inl (.of upd_same)) rfl rfl ?_⟩
    refine ⟨_, rfl, by show 2 ≤ sizeLine; decide, fun q2 nq2 => rIn_ok rfl (.inl (.of upd_same)) rfl rfl ⟨by show 2 ≤ sizeLine; decide, fun q3 nq3 => ?_⟩⟩
    have t12 := (same_new (o := .lst [.str "alike", .str "within"]) nq1).trans ((same_new (o := .lst [.str "alike", .str "around"]) nq2).trans (same_new (o := .lst [.bl (inV (.str (relS b1.au b2.au)) [V.str "alike", V.str "within"]), .bl (inV (.str (relS b1.au b2.au)) [V.str "alike", V.str "around"])]) nq3))
    refine ⟨_, _, .lst (.of (t12 _ _ dtl)) (.cons (.bl _) (.cons (.bl _) .nil)), .lst (.of upd_same) (.cons (.bl _) (.cons (.bl _) .nil)), shaped_l2 _ _, shaped_l2 _ _, _, rfl, ?_⟩
    rw [eqv_l2]
    refine if_cases (fun c => ?_) (fun _ => ?_)
    · exfalso
      have c' : (!decide ((!wayB b1.au b2.au true false) = inV (.str (relS b1.au b2.au)) [V.str "alike", V.str "within"] ∧ (!wayB b2.au b1.au true false) = inV (.str (relS b1.au b2.au)) [V.str "alike", V.str "around"])) = true := c
      rw [rel_inside, rel_around, decide_eq_true ⟨rfl, rfl⟩] at c'
      cases c'
    refine ⟨_, rfl, tl, _, 0, _, rfl, rfl, .of (t12 _ _ dtl), rfl, .bl (!wayB b1.au b2.au true false), .ty "bool", _, _, true, rfl, .ty "bool", .base (.bl _), kit_ty (by decide +kernel), _, rfl, ?_⟩
    refine iteF ?_
    have dtl := t12 _ _ dtl
    have s13 := s12.trans t12
    generalize upd (upd (upd H12 q1 (.lst [.str "alike", .str "within"])) q2 (.lst [.str "alike", .str "around"])) q3 (.lst [.bl (inV (.str (relS b1.au b2.au)) [V.str "alike", V.str "within"]), .bl (inV (.str (relS b1.au b2.au)) [V.str "alike", V.str "around"])]) = H13 at s13 dtl ⊢
    clear s12 t12
    -- the other way round
    intro td ntd
    refine ⟨upd_same, [(.inr "within", .str "around"), (.inr "around", .str "within")], rfl, by decide, ?_⟩
    have s14 : Same H13 (upd (upd H13 td (.dK [])) td (.dK turnT)) := same_mut (same_new ntd) ntd
    have dtd : (upd (upd H13 td (.dK [])) td (.dK turnT)) td = some (.dK turnT) := upd_same
    have dtl := s14 _ _ dtl
    have s14 := s13.trans s14
    generalize upd (upd H13 td (.dK [])) td (.dK turnT) = H14 at s14 dtd dtl ⊢
    refine ⟨_, rfl, _, rfl, o2, o1, b2.au, b1.au, rfl, B2.same s14, B1.same s14, W2, W1, .inl ⟨hwa.symm, G2, G1, FB, FA, fun H15 s15 => ?_⟩⟩
    have dtl := s15 _ _ dtl
    have dtd := s15 _ _ dtd
    have s15 := s14.trans s15
    refine ⟨_, rfl, td, rfl, .inl ⟨_, .inl dtd⟩, _, rfl, _, rfl, _, .inl ⟨turnT, .inr (relS b1.au b2.au), .inl dtd, rfl, rfl⟩, by rw [turn_get]; rfl, _, rfl, ?_⟩
    rw [turn_get, rel_turned hw]
    refine if_cases (fun c => ?_) (fun _ => ?_)
    · rw [decide_eq_true rfl] at c
      cases c
    have pm1 := pm1.same s15
    have pm2 := pm2.same s15
    have B1 := B1.same s15
    have hn := hn6.same s15
    have dw := s15 _ _ dw6
    clear s13 s14 s15 hn6 dw6 dtd B2
    -- the rows
    refine ⟨_, rfl, by decide, by decide, ?_⟩
    refine for_range (fun i σ' H' => ∃ o10 o11 o12, σ' = [some (.ref sa), some (.ref na), some (.ref wa), some (.ref f1), some (.ref f2), some (.ref o1), some (.ref o2), some (.str (relS b1.au b2.au)), some (.ref tl), some (.ref td), o10, o11, o12, none, none, none, none, none, none] ∧ Same H15 H') ⟨_, _, _, rfl, .refl _⟩ ?_ ?_
    · rintro k σ' H1 hk ⟨o10, o11, o12, rfl, s1⟩
      have hk3 : k < 3 := hk
      rw [Int.zero_add]
      obtain ⟨nk, ek, bk⟩ := hn.get (i := 222 + k) (by omega)
      have hnX := hn.same s1
      have pmX := pm1.same s1
      have pmY := pm2.same s1
      obtain ⟨f1', t1, t2, dt, rs, kvs, ef, pa, hd⟩ := id pmX
      cases ef
      have es : ((222 : Int) + (k : Int)) = ((222 + k : Nat) : Int) := by omega
      have es2 : ((224 : Int) + 3 * (k : Int)) = ((224 + 3 * k : Nat) : Int) := by omega
      refine ⟨_, rfl, _, rfl, _, _, rfl, rfl, .inl ⟨by decide, by decide⟩, _, _, rfl, rfl, _, rfl, _, rfl, _, _, rfl, rfl, na, _, _, natV nk, rfl, rfl, hnX.l, ?_, .inl ⟨_, rfl, _, 13, rfl, rfl, (show (0 : Int) < 13 by decide), _, rfl, f1, _, 0, _, rfl, rfl, pa.l, atI_nat (j := 0) rfl, na, ns, 224 + 3 * k, nk % 13, t1, b1.words, ?_, hnX, by omega, by omega, pa.w, ok1.ws.w1, fun H2 rw_ row s2 rat hrw => ?_⟩⟩
      · rw [es]
        exact ek
      · dsimp only
        rw [es2]
        rfl
      have s2 := s1.trans s2
      have pm12 := pm1.same s2
      have pm22 := pm2.same s2
      have rea := runs_reach (A := b1.au) (B := b2.au) (row := row) hrw
      obtain ⟨v1, v2⟩ := rea.val G1 G2 hw
      have wy := row_way (A := b1.au) (B := b2.au) hrw
      refine ⟨_, rfl, _, rfl, _, rfl, .ref f1, b1, rw_, row, rfl, pm12.at_, ok1, rat, hrw, fun H3 q3 t3 s3 sq3 => ⟨q3, _, 0, _, rfl, rfl, sq3, atI_nat (j := 0) rfl, ?_⟩⟩
      refine ⟨.ref f1, (runs b1.au row).1, b1.places, rfl, (pm12.at_.rle (.same s3)).pls, ok1.ps.pd, v1.ok, ok1.ps.p60, fun H4 r4 s4 pl4 => ⟨r4, _, 2, _, rfl, rfl, pl4, atI_nat (j := 2) rfl, ?_⟩⟩
      have s34 := s3.trans s4
      refine ⟨_, rfl, _, rfl, _, rfl, .ref f2, b2, rw_, row, rfl, pm22.at_.rle (.same s34), ok2, rat.same s34, fun r hr => hw ▸ hrw r hr, fun H5 q5 t5 s5 sq5 => ⟨q5, _, 0, _, rfl, rfl, sq5, atI_nat (j := 0) rfl, ?_⟩⟩
      refine ⟨.ref f2, (runs b2.au row).1, b2.places, rfl, (pm22.at_.rle (.same (s34.trans s5))).pls, ok2.ps.pd, v2.ok, ok2.ps.p60, fun H6 r6 s6 pl6 => ⟨r6, _, 2, _, rfl, rfl, pl6, atI_nat (j := 2) rfl, by show 2 ≤ sizeLine; decide, fun an nan => ?_⟩⟩
      have s7 : Same H15 (upd H6 an (.lst [.bl (yesIn b1.places (runs b1.au row).1), .bl (yesIn b2.places (runs b2.au row).1)])) := s2.trans (s34.trans (s5.trans (s6.trans (same_new nan))))
      have dan : (upd H6 an (.lst [.bl (yesIn b1.places (runs b1.au row).1), .bl (yesIn b2.places (runs b2.au row).1)])) an = some (.lst [.bl (yesIn b1.places (runs b1.au row).1), .bl (yesIn b2.places (runs b2.au row).1)]) := upd_same
      have wy : wayB b1.au b2.au (yesIn b1.places (runs b1.au row).1) (yesIn b2.places (runs b2.au row).1) = true := wy
      generalize yesIn b1.places (runs b1.au row).1 = y1 at s7 dan wy ⊢
      generalize yesIn b2.places (runs b2.au row).1 = y2 at s7 dan wy ⊢
      generalize upd H6 an (.lst [.bl y1, .bl y2]) = H7 at s7 dan ⊢
      have dtl7 := s7 _ _ dtl
      dsimp only [gName, tSeq, tIfS, tAsg]
      refine t_told (a := y1) (b := y2) (c := !wayB b1.au b2.au true false) (d := !wayB b2.au b1.au true false)
        (fun Q q => ⟨_, rfl, an, _, 0, _, rfl, rfl, .of dan, rfl, _, rfl, q⟩) (fun Q q => ⟨_, rfl, an, _, 1, _, rfl, rfl, .of dan, rfl, _, rfl, q⟩)
        (fun Q q => ⟨_, rfl, tl, _, 0, _, rfl, rfl, .of dtl7, rfl, _, rfl, q⟩) (fun Q q => ⟨_, rfl, tl, _, 1, _, rfl, rfl, .of dtl7, rfl, _, rfl, q⟩) ?_
      rw [row_told hw wy]
      refine iteF ?_
      dsimp only [tNext, tIfS]
      refine t_apart (a := y1) (b := y2) (c := decide (V.str (relS b1.au b2.au) = V.str "apart"))
        (fun Q q => ⟨_, rfl, an, _, 0, _, rfl, rfl, .of dan, rfl, _, rfl, q⟩) (fun Q q => ⟨_, rfl, an, _, 1, _, rfl, rfl, .of dan, rfl, _, rfl, q⟩) (fun Q q => ⟨_, rfl, rfl, _, rfl, q⟩) ?_
      rw [row_apart wy]
      refine iteF ?_
      exact ⟨_, _, _, rfl, s7⟩
    rintro σ' H16 ⟨o10, o11, o12, rfl, s16⟩
    have pm1 := pm1.same s16
    have B1 := B1.same s16
    have hn := hn.same s16
    have dw := s16 _ _ dw
    clear s16 dtl pm2
    -- other words
    refine ⟨by show 3 ≤ sizeLine; decide, fun z nz => ⟨z, rfl, ⟨_, .of upd_same⟩, fun D nD => ?_⟩⟩
    have s17 : Same H16 (upd H16 z (.lst (zzL.map V.str))) := same_new nz
    have dz : (upd H16 z (.lst (zzL.map V.str))) z = some (.lst (zzL.map V.str)) := upd_same
    have nD : (upd H16 z (.lst (zzL.map V.str))) D = none := nD
    refine lc_list (K := K) (a := z) (xs := zzL.map V.str) (fun i H' => Same (upd H16 z (.lst (zzL.map V.str))) H' ∧ H' D = some (.lst (((zzL.take i).filter fun x => decide (x ∉ ws)).map V.str))) ⟨same_new nD, upd_same⟩ (fun i H' _ q => .of (q.1 _ _ dz)) ?_ ?_
    · rintro i x H2 e ⟨s2, d2⟩
      rw [List.getElem?_map] at e
      obtain ⟨n, hn', rfl⟩ := Option.map_eq_some_iff.mp e
      refine ⟨rfl, _, rfl, _, rfl, wa, _, rfl, .inl (.of ((s17.trans s2) _ _ dw)), rfl, flat_strs _, _, rfl, ?_⟩
      refine if_cases (c := !inV (.str n) (ws.map V.str)) (fun c => ?_) (fun c => ?_)
      · rw [inV_str] at c
        have c : n ∉ ws := fun m => by
          rw [decide_eq_true m] at c
          cases c
        have ll := List.length_filter_le (fun x => decide (x ∉ ws)) (zzL.take i)
        rw [List.length_take] at ll
        have l3 : zzL.length = 3 := rfl
        refine ⟨_, rfl, _, d2, lt_line (by rw [List.length_map]; omega), same_mut s2 nD, ?_⟩
        rw [upd_same, take_snoc hn', List.filter_append, List.map_append, List.filter_cons, if_pos (decide_eq_true c)]
        rfl
      · rw [inV_str] at c
        have c : ¬ n ∉ ws := fun m => by
          rw [decide_eq_false m] at c
          cases c
        refine ⟨s2, ?_⟩
        rw [take_snoc hn', List.filter_append, List.filter_cons, if_neg (fun q => c (of_decide_eq_true q)), List.filter_nil, List.append_nil]
        exact d2
    rintro H18 ⟨s18, dM⟩
    rw [List.length_map, List.take_length] at dM
    obtain ⟨z1, ez, hz, nz1⟩ := zz_one w2
    have s18 := s17.trans s18
    have dw18 := s18 _ _ dw
    have hn18 := hn.same s18
    have pm1 := pm1.same s18
    have B1 := B1.same s18
    clear s17 dz s18 dw hn
    -- the first
    refine ⟨_, rfl, wa, _, rfl, .inl (.of dw18), fun c1 nc1 => ?_⟩
    have sA : Same H18 (upd H18 c1 (.lst (ws.map V.str))) := same_new nc1
    refine ⟨_, rfl, 1, rfl, D, _, rfl, .of (sA _ _ dM), fun c2 nc2 => ?_⟩
    rw [cut1 ez]
    have sB := same_new (o := .lst [V.str z1]) nc2
    refine ⟨c1, c2, _, _, rfl, rfl, sB _ _ upd_same, upd_same, le_line (by rw [List.length_map]; show ws.length + 1 ≤ _; omega), fun c3 nc3 => ?_⟩
    have e3 : ws.map V.str ++ [V.str z1] = (ws ++ [z1]).map V.str := by
      rw [List.map_append]
      rfl
    rw [e3]
    have s19 := sA.trans (sB.trans (same_new (o := .lst ((ws ++ [z1]).map V.str)) nc3))
    have d3 : (upd (upd (upd H18 c1 (.lst (ws.map V.str))) c2 (.lst [V.str z1])) c3 (.lst ((ws ++ [z1]).map V.str))) c3 = some (.lst ((ws ++ [z1]).map V.str)) := upd_same
    generalize upd (upd (upd H18 c1 (.lst (ws.map V.str))) c2 (.lst [V.str z1])) c3 (.lst ((ws ++ [z1]).map V.str)) = H19 at s19 d3 ⊢
    clear sA sB nc3 nc2 nc1
    -- the second
    refine ⟨_, rfl, 1, rfl, D, _, rfl, .of (s19 _ _ dM), fun c4 nc4 => ?_⟩
    rw [cut1 ez]
    have sA : Same H19 (upd H19 c4 (.lst [V.str z1])) := same_new nc4
    refine ⟨_, rfl, wa, _, rfl, .inl (.of ((s19.trans sA) _ _ dw18)), fun c5 nc5 => ?_⟩
    have sB := same_new (o := .lst (ws.map V.str)) nc5
    refine ⟨c4, c5, _, _, rfl, rfl, sB _ _ upd_same, upd_same, le_line (by rw [List.length_map]; show 1 + ws.length ≤ _; omega), fun c6 nc6 => ?_⟩
    have e6 : [V.str z1] ++ ws.map V.str = ([z1] ++ ws).map V.str := rfl
    rw [e6]
    have s20 := sA.trans (sB.trans (same_new (o := .lst (([z1] ++ ws).map V.str)) nc6))
    have d6 : (upd (upd (upd H19 c4 (.lst [V.str z1])) c5 (.lst (ws.map V.str))) c6 (.lst (([z1] ++ ws).map V.str))) c6 = some (.lst (([z1] ++ ws).map V.str)) := upd_same
    generalize upd (upd (upd H19 c4 (.lst [V.str z1])) c5 (.lst (ws.map V.str))) c6 (.lst (([z1] ++ ws).map V.str)) = H20 at s20 d6 ⊢
    clear sA sB nc4 nc5 nc6
    have d3 := s20 _ _ d3
    have s20 := s19.trans s20
    -- the third
    refine ⟨_, rfl, 1, rfl, D, _, rfl, .of (s20 _ _ dM), fun c7 nc7 => ?_⟩
    rw [cut1 ez]
    have s21 : Same H20 (upd H20 c7 (.lst [V.str z1])) := same_new nc7
    have d7 : (upd H20 c7 (.lst [V.str z1])) c7 = some (.lst ([z1].map V.str)) := upd_same
    refine ⟨by show 3 ≤ sizeLine; decide, fun L nL => ?_⟩
    have s22 := s21.trans (same_new (o := .lst [V.ref c3, .ref c6, .ref c7]) nL)
    have d7 := (same_new (o := .lst [V.ref c3, .ref c6, .ref c7]) nL) _ _ d7
    have dL : (upd (upd H20 c7 (.lst [V.str z1])) L (.lst [V.ref c3, .ref c6, .ref c7])) L = some (.lst [V.ref c3, .ref c6, .ref c7]) := upd_same
    generalize upd (upd H20 c7 (.lst [V.str z1])) L (.lst [V.ref c3, .ref c6, .ref c7]) = H22 at s22 d7 dL ⊢
    have d3 := s22 _ _ d3
    have d6 := s22 _ _ d6
    have s22 := s20.trans s22
    have hn := hn18.same s22
    have pm1 := pm1.same s22
    have B1 := B1.same s22
    have dw := s22 _ _ dw18
    clear s19 s20 s21 s22 dM dw18 hn18 nc7 nL
    obtain ⟨ba, bl, eb, db, bok⟩ : ∃ ba bl, [V.ref c3, .ref c6, .ref c7][n223 % 3]? = some (.ref ba) ∧ H22 ba = some (.lst (bl.map V.str)) ∧ BadOk ws bl := by
      have h3 : n223 % 3 = 0 ∨ n223 % 3 = 1 ∨ n223 % 3 = 2 := by omega
      rcases h3 with h3 | h3 | h3
      · exact ⟨c3, _, by rw [h3]; rfl, d3, bad_0 wk w2 hz nz1⟩
      · exact ⟨c6, _, by rw [h3]; rfl, d6, bad_1 wk w2 hz nz1⟩
      · exact ⟨c7, _, by rw [h3]; rfl, d7, bad_2 hz nz1⟩
    refine ⟨_, rfl, na, _, _, natV n223, rfl, rfl, hn.l, e223, .inl ⟨_, rfl, _, 3, rfl, rfl, (show (0 : Int) < 3 by decide), L, _, _, V.ref ba, rfl, rfl, .of dL, at_of (j := n223 % 3) (by omega) eb, ?_⟩⟩
    refine ⟨_, rfl, _, _, rfl, .inl ⟨_, .of dw, rfl⟩, _, _, rfl, rfl, _, rfl, ?_⟩
    refine ifs_and (fun σ' H' => ∃ ba bl, σ' = [some (.ref sa), some (.ref na), some (.ref wa), some (.ref f1), some (.ref f2), some (.ref o1), some (.ref o2), some (.str (relS b1.au b2.au)), some (.ref tl), some (.ref td), o10, o11, o12, some (.ref D), some (.ref ba), none, none, none, none] ∧ Same H22 H' ∧ H' ba = some (.lst (bl.map V.str)) ∧ BadOk ws bl) (fun c D' k => ?_) (fun c D' k => ?_) ?_
    · have c : ((ws.map V.str).length : Int) > 1 := of_decide_eq_true c
      rw [List.length_map] at c
      refine ⟨_, rfl, na, _, _, natV n223, rfl, rfl, hn.l, e223, .inl ⟨_, rfl, _, 2, rfl, rfl, (show (0 : Int) < 2 by decide), rfl, _, rfl, ?_⟩⟩
      refine if_cases (fun _ => ?_) (fun _ => ?_)
      · refine ⟨_, rfl, wa, _, rfl, .inl (.of dw), fun g1 ng1 => ⟨g1, _, rfl, .of upd_same, fun g2 ng2 => ?_⟩⟩
        refine k _ _ ⟨g2, ws.reverse, rfl, (same_new ng1).trans (same_new ng2), ?_, bad_3 wk w2 (by omega)⟩
        rw [upd_same, List.map_reverse]
      · exact k _ _ ⟨ba, bl, rfl, .refl _, db, bok⟩
    · exact k _ _ ⟨ba, bl, rfl, .refl _, db, bok⟩
    clear db bok eb d3 d6 d7 dL
    rintro σ' H23 ⟨ba, bl, rfl, s23, db, bok⟩
    have pm1 := pm1.same s23
    have B1 := B1.same s23
    clear s23 dw hn
    -- the rules of other words
    intro D2 nD2
    obtain ⟨f1', t1, t2, dt, rs, kvs, ef, pa, hd⟩ := pm1
    cases ef
    have s3 : Same H23 (upd H23 D2 (.dT [])) := same_new nD2
    have d3 : (upd H23 D2 (.dT [])) D2 = some (.dT []) := upd_same
    generalize upd H23 D2 (.dT []) = H24 at s3 d3 ⊢
    have pa3 := pa.rle (.same s3)
    have hd3 := s3 _ _ hd
    have db3 := s3 _ _ db
    have nedt : dt ≠ D2 := fun z => by
      rw [z, nD2] at hd
      cases hd
    have neba : ba ≠ D2 := fun z => by
      rw [z, nD2] at db
      cases db
    have nebd : ba ≠ dt := fun z => by
      rw [z, hd] at db
      cases db
    refine ⟨dt, _, hd3, trivial, fun odk => ?_⟩
    have rl : Rle H24 (upd H24 dt (.frz odk (.dT kvs))) := .lock hd3 trivial
    have pl := pa3.rle rl
    have hdl : (upd H24 dt (.frz odk (.dT kvs))) dt = some (.frz odk (.dT kvs)) := upd_same
    have d4 : (upd H24 dt (.frz odk (.dT kvs))) D2 = some (.dT []) := by rw [upd_ne (Ne.symm nedt)]; exact d3
    have db4 : (upd H24 dt (.frz odk (.dT kvs))) ba = some (.lst (bl.map V.str)) := by rw [upd_ne nebd]; exact db3
    have unl : ∀ H' : Hp, SameX D2 (upd H24 dt (.frz odk (.dT kvs))) H' → Same H23 (upd H' dt (.dT kvs)) := fun H' z b o hb => by
      by_cases e : b = dt
      · subst e
        rw [hd] at hb
        cases hb
        exact upd_same
      · rw [upd_ne e]
        refine z b o (fun q => ?_) (by rw [upd_ne e]; exact s3 b o hb)
        rw [q, nD2] at hb
        cases hb
    generalize upd H24 dt (.frz odk (.dT kvs)) = H4 at pl hdl d4 db4 unl ⊢
    refine ⟨_, rfl, f1, _, 3, _, rfl, rfl, pl.l, atI_nat (j := 3) rfl, dt, odk, rfl, .inr ⟨kvs, hdl, ?_⟩⟩
    refine for_it (walk_keysT (d := dt) (o := odk) (kvs := kvs)) (fun i σ' H' => ∃ (o16 o17 : Option V) (tbl : List (List Key × V)) (rl : List (Rk × Rv)), σ' = [some (.ref sa), some (.ref na), some (.ref wa), some (.ref f1), some (.ref f2), some (.ref o1), some (.ref o2), some (.str (relS b1.au b2.au)), some (.ref tl), some (.ref td), o10, o11, o12, some (.ref D), some (.ref ba), some (.ref D2), o16, o17, none] ∧ SameX D2 H4 H' ∧ H' D2 = some (.dT tbl) ∧ TbPr K H' tbl rl ∧
        Tab b1.places bl (fun j => ∃ r ∈ b1.rules.take i, ∃ x ∈ bl, j = (r.1.1, x, r.1.2.2)) rl)
      ⟨_, _, [], [], rfl, SameX.refl _ _, d4, .nil, (Tab.nil _ _).iff fun k => ⟨fun z => z.elim, fun ⟨r, hr, _⟩ => by simp at hr⟩⟩ (fun i σ' H' _ ⟨_, _, _, _, _, z, _⟩ => z _ _ nedt hdl) ?_ ?_
    · rintro i x σ' H5 H6 hi ⟨o16, o17, tbl, rl, rfl, z5, t5, p5, tb5⟩ ⟨rfl, k, kv, q, ek, rfl, hq⟩
      obtain ⟨r, er, hk, _⟩ := paired_at pa.r ek
      have hk : k = rkeyOf r.1 := hk
      subst hk
      have hrm := List.mem_of_getElem? er
      have o := ok1.rv r hrm
      have neq : q ≠ D2 := fun z => by
        rw [z, t5] at hq
        cases hq
      refine ⟨_, rfl, ba, rfl, ⟨_, .of (z5 _ _ neba db4)⟩, ?_⟩
      refine for_list (K := K) (a := ba) (xs := bl.map V.str) (fun j σ' H' => ∃ (o17 : Option V) (tbl : List (List Key × V)) (rl : List (Rk × Rv)), σ' = [some (.ref sa), some (.ref na), some (.ref wa), some (.ref f1), some (.ref f2), some (.ref o1), some (.ref o2), some (.str (relS b1.au b2.au)), some (.ref tl), some (.ref td), o10, o11, o12, some (.ref D), some (.ref ba), some (.ref D2), some (.ref q), o17, none] ∧ SameX D2 H6 H' ∧ H' D2 = some (.dT tbl) ∧ TbPr K H' tbl rl ∧
          Tab b1.places bl (fun m => (∃ r ∈ b1.rules.take i, ∃ x ∈ bl, m = (r.1.1, x, r.1.2.2)) ∨ ∃ x ∈ bl.take j, m = (r.1.1, x, r.1.2.2)) rl)
        ⟨_, tbl, rl, rfl, SameX.refl _ _, t5, p5, tb5.iff fun k => ⟨.inl, fun z => z.elim id fun ⟨x, hx, _⟩ => by simp at hx⟩⟩ (fun j σ' H' _ ⟨_, _, _, _, z, _⟩ => .of (z _ _ neba (z5 _ _ neba db4))) ?_ ?_
      · rintro j x σ' H7 e ⟨o17, tbl, rl, rfl, z7, t7, p7, tb7⟩
        rw [List.getElem?_map] at e
        obtain ⟨wd, hwd, rfl⟩ := Option.map_eq_some_iff.mp e
        have z57 : SameX D2 H4 H7 := fun b u hb hu => z7 b u hb (z5 b u hb hu)
        have kvX : TbPr K H7 kvs b1.rules := pl.r.imp fun _ _ _ z => RuT_X z57 d4 trivial z
        have hq7 := z7 _ _ neq hq
        obtain ⟨a1, m1, g1, ta1, tm1⟩ := dget_lock (od := odk) kvX (.inr ⟨odk, z57 _ _ nedt hdl⟩) ok1.rd hrm hq7
        have plX := sqL_X z57 d4 trivial pl.l
        have tq : SqT K H7 q [V.str r.1.1, .str r.1.2.1, natV r.1.2.2] := .of hq7
        refine ⟨_, rfl, f1, _, 3, _, rfl, rfl, plX, atI_nat (j := 3) rfl, _, rfl, dt, _, rfl, g1, _, rfl, _, rfl, q, _, 0, _, rfl, rfl, tq, atI_nat (j := 0) rfl, _, rfl, _, rfl, q, _, 2, _, rfl, rfl, tq, atI_nat (j := 2) rfl, by show 3 ≤ sizeLine; decide, fun k1 nk1 => ?_⟩
        have s8 : Same H7 (upd H7 k1 (.tup [V.str r.1.1, .str wd, natV r.1.2.2])) := same_new nk1
        have hk1 : (upd H7 k1 (.tup [V.str r.1.1, .str wd, natV r.1.2.2])) k1 = some (.tup ((rkeyOf (r.1.1, wd, r.1.2.2)).map kV)) := upd_same
        have t8 := s8 _ _ t7
        have ru8 : RuT K (upd H7 k1 (.tup [V.str r.1.1, .str wd, natV r.1.2.2])) (.ref a1) r.2.1 r.2.2 := ⟨a1, .ref m1, rfl, sameT s8 ta1, m1, rfl, sameT s8 tm1⟩
        have p8 := p7.imp fun _ _ _ z => z.rle (.same s8)
        generalize upd H7 k1 (.tup [V.str r.1.1, .str wd, natV r.1.2.2]) = H8 at s8 hk1 t8 ru8 p8 ⊢
        have ltbl : tbl.length < sizeLine := lt_line (by rw [p8.length]; have := tb7.len ok1.ps bok.ok; omega)
        refine ⟨D2, _, rfl, DPut.t t8 hk1 ltbl, ?_⟩
        have y9 : SameX D2 H8 (upd H8 D2 (.dT (putK tbl (rkeyOf (r.1.1, wd, r.1.2.2)) (.ref a1)))) := (SameX.refl D2 _).upd
        have hsg : RuOk b1.places bl (r.1.1, wd, r.1.2.2) r.2 := ⟨o.p, List.mem_of_getElem? hwd, o.c, o.g, o.l, o.nd, o.le, o.nz⟩
        refine ⟨_, _, put1 rl (r.1.1, wd, r.1.2.2) r.2, rfl, (z7.same s8).trans y9, upd_same, ?_, ?_⟩
        · exact TbPr.put (p8.imp fun _ _ _ z => RuT_X y9 t8 trivial z) (RuT_X y9 t8 trivial ru8)
        · refine (tb7.put hsg).iff fun m => ⟨fun z => ?_, fun z => ?_⟩
          · rcases z with (z | ⟨x, hx, e⟩) | e
            · exact .inl z
            · exact .inr ⟨x, by rw [take_snoc hwd]; exact List.mem_append_left _ hx, e⟩
            · exact .inr ⟨wd, by rw [take_snoc hwd]; simp, e⟩
          · rcases z with z | ⟨x, hx, e⟩
            · exact .inl (.inl z)
            · rw [take_snoc hwd] at hx
              rcases List.mem_append.mp hx with hx | hx
              · exact .inl (.inr ⟨x, hx, e⟩)
              · rw [List.mem_singleton.mp hx] at e
                exact .inr e
      · rintro σ' H7 ⟨o17, tbl, rl, rfl, z7, t7, p7, tb7⟩
        rw [List.length_map, List.take_length] at tb7
        refine ⟨_, _, tbl, rl, rfl, fun b u hb hu => z7 b u hb (z5 b u hb hu), t7, p7, tb7.iff fun m => ⟨fun z => ?_, fun ⟨r', hr', x, hx, e⟩ => ?_⟩⟩
        · rcases z with ⟨r', hr', x, hx, e⟩ | ⟨x, hx, e⟩
          · exact ⟨r', by rw [take_snoc er]; exact List.mem_append_left _ hr', x, hx, e⟩
          · exact ⟨r, by rw [take_snoc er]; simp, x, hx, e⟩
        · rw [take_snoc er] at hr'
          rcases List.mem_append.mp hr' with hr' | hr'
          · exact .inl ⟨r', hr', x, hx, e⟩
          · rw [List.mem_singleton.mp hr'] at e
            exact .inr ⟨x, hx, e⟩
    · rintro σ' H5 ⟨o16, o17, tbl, rl, rfl, z5, t5, p5, tb5⟩
      rw [pa.r.length, List.take_length] at tb5
      have h5 := z5 _ _ nedt hdl
      refine ⟨h5, ?_⟩
      have s6 := unl H5 z5
      have rl6 : Rle H5 (upd H5 dt (.dT kvs)) := .unlock h5
      have t6 : (upd H5 dt (.dT kvs)) D2 = some (.dT tbl) := by rw [upd_ne (Ne.symm nedt)]; exact t5
      have p6 := p5.imp fun _ _ _ z => z.rle rl6
      generalize upd H5 dt (.dT kvs) = H6 at s6 t6 p6 ⊢
      have pa6 := pa.rle (.same s6)
      refine ⟨_, rfl, _, rfl, ba, _, rfl, .inl ⟨.of (s6 _ _ db), fun tb ntb => ?_⟩⟩
      have s7 : Same H6 (upd H6 tb (.tup (bl.map V.str))) := same_new ntb
      have dtb : (upd H6 tb (.tup (bl.map V.str))) tb = some (.tup (bl.map V.str)) := upd_same
      generalize upd H6 tb (.tup (bl.map V.str)) = H7 at s7 dtb ⊢
      have pa7 := pa6.rle (.same s7)
      refine ⟨_, rfl, f1, _, 1, _, rfl, rfl, pa7.l, atI_nat (j := 1) rfl, _, rfl, f1, _, 2, _, rfl, rfl, pa7.l, atI_nat (j := 2) rfl, _, rfl, by show 4 ≤ sizeLine; decide, fun q nq => ?_⟩
      have s8 : Same H7 (upd H7 q (.lst [V.ref tb, .ref t2, .str b1.start, .ref D2])) := same_new nq
      have pa8 := pa7.rle (.same s8)
      have okB : (⟨bl, b1.places, b1.start, rl⟩ : Bk).Ok := tb5.ok ok1.ps bok.ok fun p hp x hx c hc => by
        obtain ⟨w0, hw0⟩ : ∃ w0, w0 ∈ b1.words := by
          have := ok1.ws.w1
          cases e : b1.words with
          | nil =>
            rw [e] at this
            exact absurd this (by decide)
          | cons y t => exact ⟨y, List.mem_cons_self⟩
        have m := ok1.all p.1 w0 c (List.mem_map.mpr ⟨p, hp, rfl⟩) hw0 (by rw [(ok1.ps.at_ hp).1]; exact hc)
        obtain ⟨r, hr, er⟩ := List.mem_map.mp m
        exact ⟨r, hr, x, hx, by rw [er]⟩
      refine ⟨.ref q, ⟨bl, b1.places, b1.start, rl⟩, rfl, ⟨q, tb, t2, D2, rs, tbl, rfl, ⟨.of upd_same, .of (s8 _ _ dtb), pa8.p, pa8.pr, .inl (s8 _ _ (s7 _ _ t6)), p6.imp fun _ _ _ z => z.rle (.same (s7.trans s8))⟩, s8 _ _ (s7 _ _ t6)⟩, okB, fun H9 o3 s9 B3 => ?_⟩
      have s9 := s6.trans (s7.trans (s8.trans s9))
      refine ⟨o1, o3, b1.au, _, rfl, B1.same s9, B3, W1, bok.ok.ok, ?_, fun H10 _ => go H10⟩
      show b1.words ≠ bl
      rw [hw1]
      exact bok.ne
end
end Fw

/-! The end. -/
namespace Fw
open PySem PySem.Spec PyProof.Rows L2
theorem facts {P : Program} {w : World} {K : PySem.W.Frag} {h : Heap} {mg : Str → Option Value} {f : Addr} (KX : K.In h) (G : h.Ns mainGlobals mg) (hfa : mg ("law" : Str) = some (.ref f)) (c : SaysP K) :
    ∃ fd : FuncData, (∀ (s : Shared) (v : Value), BindsTo s fd ⟨[v], []⟩ [("_law_script", v)]) ∧ ∀ base : Heap, K.In base → base.Ns mainGlobals mg → FnOk P w K mg base CX0 9 f fd ["_law_script"] (spLaw K) := by
  have T : Tx K mg := ⟨c, h, KX, G⟩
  obtain ⟨fd, F⟩ := T.f_Law
  have e := hfa.symm.trans T.g_law
  cases e
  have b := FunD.bindsA (ps := ["_law_script"]) F fun _ _ _ _ _ _ us hl => match us, hl with | [_], _ => rfl
  exact ⟨fd, fun s v => b s [v] rfl, fun base _ _ => fn_Law T F⟩
end Fw
open PySem PySem.W PySem.Calls PyProof.Rows
theorem PySem.Challenge.cw_fewestheld_k70_whole_relations_holds : PySem.Challenge.rw_fewestheld_k70_whole_relations.Holds := by
  w_on; o_law
  refine HandSHeadRun.head_any (r := OpenLaw.row PySem.Challenge.rw_fewestheld_k70_whole_relations) (q := view (OpenLaw.row PySem.Challenge.rw_fewestheld_k70_whole_relations).prog [50]) (H := Fw.hk) (ob := Fw.ob) (M := 4000) (loose := Fw.nms) (d := HandSHeadRun.topDef (OpenLaw.row PySem.Challenge.rw_fewestheld_k70_whole_relations).prog 50) (kwd := []) Fw.ob_eq
    (by kernel_rfl) (fun s => by kernel_rfl) Fw.run (by kernel_rfl) (by kernel_rfl) (by kernel_rfl) (by rfl) (by first | assumption | decide +kernel) (by decide +kernel) ⟨rfl, rfl, rfl, rfl, rfl, by decide +kernel⟩ ?hw ?hc
  case hw => w_witness2
  case hc =>
    refine L2.walk_ofE (l := PySem.Challenge.rw_fewestheld_k70_whole_relations) (n := 63) (k := 9) (x := "_law_script") (CX := L2.CX0) rfl (by decide) (by kernel_rfl) ⟨rfl, by decide, by decide⟩ ?F (fun _ _ _ _ z => z)
    intro w mg fa h Y G hmg0
    obtain ⟨K, KX, c⟩ := Y
    have hmg : mg ("law" : PySem.Str) = some (.ref fa) := by
      have e : (HandSHeadRun.topDef (OpenLaw.row PySem.Challenge.rw_fewestheld_k70_whole_relations).prog 50).name = ("law" : PySem.Str) := by kernel_rfl
      rw [← e]
      exact hmg0
    obtain ⟨fd, hb, hF⟩ := Fw.facts (P := (PySem.Challenge.rw_fewestheld_k70_whole_relations).prog) (w := w) KX G hmg c
    exact ⟨K, fd, Fw.spLaw K, KX, hb, fun H a ns hl _ hS => ⟨a, ns, rfl, hS, fun _ => rfl⟩, hF⟩

