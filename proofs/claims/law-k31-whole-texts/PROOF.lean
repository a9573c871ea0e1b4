import PyProof.Rows.All
import Wide.All
import OpenK.AllK
import Wide.FinOn
import KE.KStateDown
import KE.KExcSuper
import HandS.ForMost
import HandS.Head0
import HandS.Head1
import HandS.Head2
import HandS.HeadEnd
import HandS.HeadHook1
import HandS.HeadHook2
import HandS.HeadHook4
import HandS.HeadWalk
import HandS.ExcInit
import PySem.Challenge.RW_steplots_k31_whole_texts_of_lots
import HandS.Exc
import HandS.TryMany
import HandS.WordsExc
import KE.GoesRaise
import HandS.Evl
import HandS.TupLe
import HandS.Text
import HandS.IsInst
import HandS.StrMore
import HandS.TupAny
import HandS.Wide
import HandS.Deep
import HandS.Defaults
import HandS.IterVal
import HandS.Flow
import HandS.Walk
import KE.GoesEnum
import KE.GoesNew
import HandS.Zip
import KE.IntTextLaws
import KE.KDflt
import HandS.Lambda
import PyProof.ReprRoads
import PyProof.ReprBulk
import HandS.Dict
import HandS.TupMul
import KE.SortData
import KE.SortLaws
import KE.KeyNested
import KE.KDictWalk
import KE.KTupSum
import PyProof.StrBlock2
import HandS.NestedK
section
set_option Elab.async false
set_option linter.all false
set_option maxRecDepth 100000
set_option maxHeartbeats 0
namespace SL
open PySem PySem.Spec PyProof.Rows L2
abbrev pw : Program := PySem.Challenge.pw_steplots_k31_whole_texts_of_lots
def top (i : Nat) : Stmt := PySem.Challenge.pw_steplots_k31_whole_texts_of_lots.main.body.getD i (.Pass ⟨0, 0, 0, 0⟩)
abbrev sIsInteger : Stmt := top 10
abbrev sIsBetween : Stmt := top 11
abbrev sIsLot : Stmt := top 12
abbrev sNeedLot : Stmt := top 13
abbrev sFaultOfFamily : Stmt := top 14
abbrev sNeedFamily : Stmt := top 15
abbrev sLineOf : Stmt := top 35
abbrev sLotText : Stmt := top 36
abbrev sFamilyText : Stmt := top 37
abbrev sNumberIn : Stmt := top 38
abbrev sWordsInit : Stmt := inClass (top 39) 0
abbrev sNextWord : Stmt := inClass (top 39) 1
abbrev sWhole : Stmt := inClass (top 39) 2
abbrev sNeedText : Stmt := top 40
abbrev sLotIn : Stmt := top 41
abbrev sNeedLines : Stmt := top 42
abbrev sReadLot : Stmt := top 43
abbrev sReadFamily : Stmt := top 44
abbrev sLawMixed : Stmt := top 46
abbrev sLawBegin : Stmt := top 47
abbrev sLawDraw : Stmt := top 48
abbrev sLawOf : Stmt := top 49
abbrev sLawSum : Stmt := top 50
abbrev sLawWeb : Stmt := top 51
abbrev sLawBox : Stmt := top 52
abbrev sLawInBox : Stmt := top 53
abbrev sLawOne : Stmt := top 54
abbrev sLawFamily : Stmt := top 55
abbrev sLawBase : Stmt := top 56
abbrev sLawSmall : Stmt := top 57
abbrev sLawTerm : Stmt := top 58
abbrev sLawLots : Stmt := top 59
abbrev sLawNumber : Stmt := top 60
abbrev sLawLine : Stmt := top 61
abbrev sLawBent : Stmt := top 62
abbrev sLawLotLine : Stmt := top 63
abbrev sLawIsLot : Stmt := top 64
abbrev sLawHeard : Stmt := top 65
abbrev sLawDueLot : Stmt := top 66
abbrev sLawDueFamily : Stmt := top 67
abbrev sLawReadRight : Stmt := top 68
abbrev sLawHandTexts : Stmt := top 69
abbrev sLaw : Stmt := top 70
abbrev sBadFamilyInit : Stmt := inClass (top 3) 0
abbrev sBadTextInit : Stmt := inClass (top 4) 0
abbrev sBadLotInit : Stmt := inClass (top 5) 0
def dIsInteger : He.DefD := ⟨("is_integer", none), "is_integer", "is_integer", defArgs sIsInteger, defBody sIsInteger, defScope sIsInteger, [], []⟩
def dIsBetween : He.DefD := ⟨("is_between", none), "is_between", "is_between", defArgs sIsBetween, defBody sIsBetween, defScope sIsBetween, [], []⟩
def dIsLot : He.DefD := ⟨("is_lot", none), "is_lot", "is_lot", defArgs sIsLot, defBody sIsLot, defScope sIsLot, [], []⟩
def dNeedLot : He.DefD := ⟨("need_lot", none), "need_lot", "need_lot", defArgs sNeedLot, defBody sNeedLot, defScope sNeedLot, [], []⟩
def dFaultOfFamily : He.DefD := ⟨("fault_of_family", none), "fault_of_family", "fault_of_family", defArgs sFaultOfFamily, defBody sFaultOfFamily, defScope sFaultOfFamily, [], []⟩
def dNeedFamily : He.DefD := ⟨("need_family", none), "need_family", "need_family", defArgs sNeedFamily, defBody sNeedFamily, defScope sNeedFamily, [], []⟩
def dLineOf : He.DefD := ⟨("line_of", none), "line_of", "line_of", defArgs sLineOf, defBody sLineOf, defScope sLineOf, [], []⟩
def dLotText : He.DefD := ⟨("lot_text", none), "lot_text", "lot_text", defArgs sLotText, defBody sLotText, defScope sLotText, [], []⟩
def dFamilyText : He.DefD := ⟨("family_text", none), "family_text", "family_text", defArgs sFamilyText, defBody sFamilyText, defScope sFamilyText, [], []⟩
def dNumberIn : He.DefD := ⟨("number_in", none), "number_in", "number_in", defArgs sNumberIn, defBody sNumberIn, defScope sNumberIn, [], []⟩
def dWordsInit : He.DefD := ⟨("Words", some "__init__"), "__init__", "Words.__init__", defArgs sWordsInit, defBody sWordsInit, defScope sWordsInit, [], []⟩
def dNextWord : He.DefD := ⟨("Words", some "next_word"), "next_word", "Words.next_word", defArgs sNextWord, defBody sNextWord, defScope sNextWord, [], []⟩
def dWhole : He.DefD := ⟨("Words", some "whole"), "whole", "Words.whole", defArgs sWhole, defBody sWhole, defScope sWhole, [.non, .non], []⟩
def dNeedText : He.DefD := ⟨("need_text", none), "need_text", "need_text", defArgs sNeedText, defBody sNeedText, defScope sNeedText, [], []⟩
def dLotIn : He.DefD := ⟨("lot_in", none), "lot_in", "lot_in", defArgs sLotIn, defBody sLotIn, defScope sLotIn, [], []⟩
def dNeedLines : He.DefD := ⟨("need_lines", none), "need_lines", "need_lines", defArgs sNeedLines, defBody sNeedLines, defScope sNeedLines, [], []⟩
def dReadLot : He.DefD := ⟨("read_lot", none), "read_lot", "read_lot", defArgs sReadLot, defBody sReadLot, defScope sReadLot, [], []⟩
def dReadFamily : He.DefD := ⟨("read_family", none), "read_family", "read_family", defArgs sReadFamily, defBody sReadFamily, defScope sReadFamily, [], []⟩
def dLawMixed : He.DefD := ⟨("_law_mixed", none), "_law_mixed", "_law_mixed", defArgs sLawMixed, defBody sLawMixed, defScope sLawMixed, [], []⟩
def dLawBegin : He.DefD := ⟨("_law_begin", none), "_law_begin", "_law_begin", defArgs sLawBegin, defBody sLawBegin, defScope sLawBegin, [], []⟩
def dLawDraw : He.DefD := ⟨("_law_draw", none), "_law_draw", "_law_draw", defArgs sLawDraw, defBody sLawDraw, defScope sLawDraw, [], []⟩
def dLawOf : He.DefD := ⟨("_law_of", none), "_law_of", "_law_of", defArgs sLawOf, defBody sLawOf, defScope sLawOf, [], []⟩
def dLawSum : He.DefD := ⟨("_law_sum", none), "_law_sum", "_law_sum", defArgs sLawSum, defBody sLawSum, defScope sLawSum, [], []⟩
def dLawWeb : He.DefD := ⟨("_law_web", none), "_law_web", "_law_web", defArgs sLawWeb, defBody sLawWeb, defScope sLawWeb, [], []⟩
def dLawBox : He.DefD := ⟨("_law_box", none), "_law_box", "_law_box", defArgs sLawBox, defBody sLawBox, defScope sLawBox, [], []⟩
def dLawInBox : He.DefD := ⟨("_law_in_box", none), "_law_in_box", "_law_in_box", defArgs sLawInBox, defBody sLawInBox, defScope sLawInBox, [], []⟩
def dLawOne : He.DefD := ⟨("_law_one", none), "_law_one", "_law_one", defArgs sLawOne, defBody sLawOne, defScope sLawOne, [], []⟩
def dLawFamily : He.DefD := ⟨("_law_family", none), "_law_family", "_law_family", defArgs sLawFamily, defBody sLawFamily, defScope sLawFamily, [], []⟩
def dLawBase : He.DefD := ⟨("_law_base", none), "_law_base", "_law_base", defArgs sLawBase, defBody sLawBase, defScope sLawBase, [], []⟩
def dLawSmall : He.DefD := ⟨("_law_small", none), "_law_small", "_law_small", defArgs sLawSmall, defBody sLawSmall, defScope sLawSmall, [], []⟩
def dLawTerm : He.DefD := ⟨("_law_term", none), "_law_term", "_law_term", defArgs sLawTerm, defBody sLawTerm, defScope sLawTerm, [], []⟩
def dLawLots : He.DefD := ⟨("_law_lots", none), "_law_lots", "_law_lots", defArgs sLawLots, defBody sLawLots, defScope sLawLots, [], []⟩
def dLawNumber : He.DefD := ⟨("_law_number", none), "_law_number", "_law_number", defArgs sLawNumber, defBody sLawNumber, defScope sLawNumber, [], []⟩
def dLawLine : He.DefD := ⟨("_law_line", none), "_law_line", "_law_line", defArgs sLawLine, defBody sLawLine, defScope sLawLine, [], []⟩
def dLawBent : He.DefD := ⟨("_law_bent", none), "_law_bent", "_law_bent", defArgs sLawBent, defBody sLawBent, defScope sLawBent, [], []⟩
def dLawLotLine : He.DefD := ⟨("_law_lot_line", none), "_law_lot_line", "_law_lot_line", defArgs sLawLotLine, defBody sLawLotLine, defScope sLawLotLine, [], []⟩
def dLawIsLot : He.DefD := ⟨("_law_is_lot", none), "_law_is_lot", "_law_is_lot", defArgs sLawIsLot, defBody sLawIsLot, defScope sLawIsLot, [], []⟩
def dLawHeard : He.DefD := ⟨("_law_heard", none), "_law_heard", "_law_heard", defArgs sLawHeard, defBody sLawHeard, defScope sLawHeard, [], []⟩
def dLawDueLot : He.DefD := ⟨("_law_due_lot", none), "_law_due_lot", "_law_due_lot", defArgs sLawDueLot, defBody sLawDueLot, defScope sLawDueLot, [], []⟩
def dLawDueFamily : He.DefD := ⟨("_law_due_family", none), "_law_due_family", "_law_due_family", defArgs sLawDueFamily, defBody sLawDueFamily, defScope sLawDueFamily, [], []⟩
def dLawReadRight : He.DefD := ⟨("_law_read_right", none), "_law_read_right", "_law_read_right", defArgs sLawReadRight, defBody sLawReadRight, defScope sLawReadRight, [], []⟩
def dLawHandTexts : He.DefD := ⟨("_law_hand_texts", none), "_law_hand_texts", "_law_hand_texts", defArgs sLawHandTexts, defBody sLawHandTexts, defScope sLawHandTexts, [], []⟩
def dLaw : He.DefD := ⟨("law", none), "law", "law", defArgs sLaw, defBody sLaw, defScope sLaw, [], []⟩
def fn : List He.DefD := [dIsInteger, dIsBetween, dIsLot, dNeedLot, dFaultOfFamily, dNeedFamily, dLineOf, dLotText, dFamilyText, dNumberIn, dWordsInit, dNextWord, dWhole, dNeedText, dLotIn, dNeedLines, dReadLot, dReadFamily, dLawMixed, dLawBegin, dLawDraw, dLawOf, dLawSum, dLawWeb, dLawBox, dLawInBox, dLawOne, dLawFamily, dLawBase, dLawSmall, dLawTerm, dLawLots, dLawNumber, dLawLine, dLawBent, dLawLotLine, dLawIsLot, dLawHeard, dLawDueLot, dLawDueFamily, dLawReadRight, dLawHandTexts, dLaw]
def fa : List He.Fa := [
  .glo "is_integer",
  .glo "is_between",
  .glo "is_lot",
  .glo "need_lot",
  .glo "fault_of_family",
  .glo "need_family",
  .glo "line_of",
  .glo "lot_text",
  .glo "family_text",
  .glo "number_in",
  .glo "need_text",
  .glo "lot_in",
  .glo "need_lines",
  .glo "read_lot",
  .glo "read_family",
  .glo "_law_mixed",
  .glo "_law_begin",
  .glo "_law_draw",
  .glo "_law_of",
  .glo "_law_sum",
  .glo "_law_web",
  .glo "_law_box",
  .glo "_law_in_box",
  .glo "_law_one",
  .glo "_law_family",
  .glo "_law_base",
  .glo "_law_small",
  .glo "_law_term",
  .glo "_law_lots",
  .glo "_law_number",
  .glo "_law_line",
  .glo "_law_bent",
  .glo "_law_lot_line",
  .glo "_law_is_lot",
  .glo "_law_heard",
  .glo "_law_due_lot",
  .glo "_law_due_family",
  .glo "_law_read_right",
  .glo "_law_hand_texts",
  .glo "law",
  .glo "BadFamily",
  .glo "BadText",
  .glo "BadLot",
  .glo "Words",
  .int "MOST_PLACES" 5,
  .int "MOST_LOTS" 200,
  .int "MOST_AT" 99,
  .int "MOST_FIGURES" 31,
  .str "NEWLINE" "\n",
  .str "BLANK" " ",
  .str "SIGN" "-",
  .str "NOUGHT" "0",
  .str "FIGURES" "0123456789",
  .free "len",
  .free "isinstance",
  .free "all",
  .free "int",
  .free "bool",
  .free "tuple",
  .free "str",
  .free "list",
  .free "enumerate",
  .free "range",
  .free "zip",
  .free "sorted",
  .free "sum",
  .free "min",
  .free "max",
  .free "repr",
  .free "super",
  .free "ValueError",
  .cls "Words",
  .noat "Words" "all_words",
  .noat "Words" "row",
  .noat "Words" "at",
  .noat "Words" "rules",
  .meth "Words" "next_word",
  .meth "Words" "whole",
  .mkr "Words",
  .exm "BadFamily" "BadFamily" true,
  .exm "BadFamily" "BadText" false,
  .exm "BadFamily" "BadLot" false,
  .exm "BadText" "BadFamily" false,
  .exm "BadText" "BadText" true,
  .exm "BadText" "BadLot" false,
  .exm "BadLot" "BadFamily" false,
  .exm "BadLot" "BadText" false,
  .exm "BadLot" "BadLot" true]
/-! ### what is told of an own exception class over an own class over ValueError -/
abbrev FnE : Type := Option (Str × Str × Arguments × FuncBody × Scope × Addr × Value × Addr)
def fnE (K : PySem.W.Frag) (f : Addr) : FnE := match K.lookup f with
  | some ⟨_, _, .func fd, _⟩ => some (fd.name, fd.qualname, fd.params, fd.body, fd.scope, fd.globals, fd.defaults, fd.builtins)
  | _ => none
/-- the function's code, its cell of the class -/
def excFn (K : PySem.W.Frag) (C f : Addr) (q : Str) : Bool := match K.lookup f with
  | some ⟨_, _, .func fd, _⟩ => PySem.W.codeIn K fd.code q && (match fd.code with
    | .ref c => (match K.lookup c with
      | some ⟨_, _, .fields vs, _⟩ => (match vs.toList with
        | _ :: _ :: .str fl _ :: _ => decide (fl = "/claim/cut.py")
        | _ => false)
      | _ => false)
    | _ => false) && (match fd.closure with
    | [(n, cc)] => decide (n = "__class__") && (match K.lookup cc with
      | some ⟨_, _, .cell (some (.ref D)), _⟩ => decide (D = C)
      | _ => false)
    | _ => false)
  | _ => false
def excLook (K : PySem.W.Frag) (C : Addr) : Bool := match K.lookup C with
  | some ⟨.type "type", _, .cls cd, sl⟩ => (match cd.mro, sl.toList with
    | .ref C' :: bm, [_, _, _, _, some (.builtin n), _] => C' == C && n == "ValueError.__new__" && !cd.hasDel && cd.hasDict && PySem.HandSPX.refsVE bm
    | _, _ => false)
  | _ => false
def excB (K : PySem.W.Frag) (x : Str) (q : Str) (fs : List Str) : Bool :=
  excLook K (He.ga K x) && (PySem.W.excInitIn K (He.ga K x) He.veBase "ValueError.__new__" && (He.eqO (PySem.W.findIn K (.ref (He.ga K x)) "__setattr__") (some (some (.builtin "object.__setattr__"))) &&
  (He.eqO (PySem.W.findIn K (.ref (He.ga K x)) "__getattribute__") (some (some (.builtin "BaseException.__getattribute__"))) && (He.eqO (PySem.W.findIn K (.ref (He.ga K x)) "__getattr__") (some none) &&
  ((fs.all fun f => He.eqO (PySem.W.findIn K (.ref (He.ga K x)) f) (some none)) && (He.eqO (PySem.W.findIn K (.ref (He.ga K x)) "__init__") (some (some (.ref (He.ma K (He.ga K x) "__init__")))) &&
  (decide (PySem.W.typeIn K (.ref (He.ma K (He.ga K x) "__init__")) = some (.type "function")) && (PySem.W.keepIn K (.ref (He.ga K x)) && (decide (PySem.W.subIn K (.ref (He.ga K x)) (.type "BaseException") = some true) &&
  (decide (PySem.W.subIn K (.ref (He.ga K x)) (.type "ValueError") = some true) && (decide (PySem.W.typeIn K (.ref (He.ga K x)) = some (.type "type")) && (PySem.W.hasDictIn K (He.ga K x) &&
  (excFn K (He.ga K x) (He.ma K (He.ga K x) "__init__") q && (decide (PySem.W.ks_superIn K (He.ga K x) (He.ga K x) "__init__" = some (some (.builtin "ValueError.__init__"))) && decide (PySem.W.mroIn K (He.ga K x) (.ref (He.ga K x)) = some true)))))))))))))))
/-- the rest -/
def ex (K : PySem.W.Frag) : Bool :=
  excB K "BadFamily" "BadFamily.__init__" ["number"] && (excB K "BadText" "BadText.__init__" ["line", "word"] && (excB K "BadLot" "BadLot.__init__" ["given"] &&
  He.eqO (PySem.W.nsIn K PySem.cStatics "thirdparty.any") (some none)))
def fe : List (Str × Str × Stmt) := [("BadFamily", "BadFamily.__init__", sBadFamilyInit), ("BadText", "BadText.__init__", sBadTextInit), ("BadLot", "BadLot.__init__", sBadLotInit)]
def feV (p : Str × Str × Stmt) : FnE := some ("__init__", p.2.1, defArgs p.2.2, .stmts (defBody p.2.2), defScope p.2.2, mainGlobals, .none, builtinsNs)
/-- the defs whose tables of code objects are told -/
def tf : List He.Defn := [("_law_read_right", none)]
def frZ (g : Addr → Option Obj) (n : Nat) : PySem.W.Frag := He.frT g (PySem.cStatics :: He.asD g n)
abbrev AlZ : Type := He.AlD × Bool × List FnE
def obsZ (g : Addr → Option Obj) (n : Nat) : AlZ :=
  (He.obsD fa fn (frZ g n), ex (frZ g n) && He.tabsB g tf (frZ g n), fe.map fun p => fnE (frZ g n) (He.ma (frZ g n) (He.ga (frZ g n) p.1) "__init__"))
def valZ : AlZ := (He.valD fn, true, fe.map feV)
structure SaysZ (h : Heap) (K : PySem.W.Frag) : Prop where
  d : He.SaysD fa fn K
  more : ex K = true
  fe : (fe.map fun p => fnE K (He.ma K (He.ga K p.1) "__init__")) = SL.fe.map feV
  hd : ∀ p ∈ tf, PySem.W.codeHdIn K (He.cT K p).1 (He.cT K p).2 = true
  out : ∀ p ∈ tf, K.lookup (He.cT K p).2 = none
  empty : ∀ p ∈ tf, h.get? (He.cT K p).2 = some { cls := .none, data := .fields #[] }
theorem says_of {n : Nat} {h : Heap} (e : obsZ h.get? n = valZ) : SaysZ h (frZ h.get? n) := by
  have e1 : He.obsD fa fn (frZ h.get? n) = He.valD fn := congrArg (fun z : AlZ => z.1) e
  have e2 : (ex (frZ h.get? n) && He.tabsB h.get? tf (frZ h.get? n)) = true := congrArg (fun z : AlZ => z.2.1) e
  have e3 : (fe.map fun p => fnE (frZ h.get? n) (He.ma (frZ h.get? n) (He.ga (frZ h.get? n) p.1) "__init__")) = fe.map feV := congrArg (fun z : AlZ => z.2.2) e
  obtain ⟨h1, h2⟩ := He.ba e2
  have key : ∀ p ∈ tf, PySem.W.codeHdIn (frZ h.get? n) (He.cT (frZ h.get? n) p).1 (He.cT (frZ h.get? n) p).2 = true ∧ ∃ o, h.get? (He.cT (frZ h.get? n) p).2 = some o ∧ He.emptyTab o = true := fun p hp => by
    obtain ⟨h3, h4⟩ := He.ba (List.all_eq_true.mp h2 p hp)
    refine ⟨h3, ?_⟩
    cases q : h.get? (He.cT (frZ h.get? n) p).2 with
    | none =>
      rw [q] at h4
      cases h4
    | some o =>
      rw [q] at h4
      exact ⟨o, rfl, h4⟩
  refine ⟨e1, h1, e3, fun p hp => (key p hp).1, fun p hp => ?_, fun p hp => ?_⟩
  · obtain ⟨_, o, q, z⟩ := key p hp
    exact He.frT_none q z
  · obtain ⟨_, o, q, z⟩ := key p hp
    rw [q, He.emptyTab_eq z]
def hkZ : PySem.W.Hook where
  α := AlZ
  obs := fun s => obsZ s.heap.get? 5
  val := fun _ => valZ
  says := fun _ h => ∃ K : PySem.W.Frag, K.In h ∧ SaysZ h K
  of := fun _ _ e => ⟨_, He.frT_in, says_of e⟩
  keeps := fun _ _ _ ⟨K, hK, c⟩ k => ⟨K, PySem.W.Frag.In.keeps hK k, ⟨c.d, c.more, c.fe, c.hd, c.out, fun p hp => k _ _ (c.empty p hp)⟩⟩
abbrev RZ : PySem.W.OpenRow := PySem.W.OpenLaw.row PySem.Challenge.rw_steplots_k31_whole_texts_of_lots
def obZ (s : PySem.W.SharedT) : AlZ := obsZ (HandSHeadRun.getT s) 5
theorem obZ_eq (s : PySem.W.SharedT) : obZ s = hkZ.obs s.abs := by
  have e : HandSHeadRun.getT s = s.abs.heap.get? := funext (HandSHeadRun.getT_eq s)
  show obsZ (HandSHeadRun.getT s) 5 = obsZ s.abs.heap.get? 5
  rw [e]
def names0 : List PySem.Str := [("_wall" : PySem.Str), ("LotError" : PySem.Str), ("BadFamily" : PySem.Str), ("BadText" : PySem.Str), ("BadLot" : PySem.Str), ("MOST_PLACES" : PySem.Str), ("MOST_LOTS" : PySem.Str), ("MOST_AT" : PySem.Str), ("is_integer" : PySem.Str), ("is_between" : PySem.Str), ("is_lot" : PySem.Str), ("need_lot" : PySem.Str)]
def names1 : List PySem.Str := [("fault_of_family" : PySem.Str), ("need_family" : PySem.Str), ("TOLD" : PySem.Str), ("BOX" : PySem.Str), ("FEW" : PySem.Str), ("WEB" : PySem.Str), ("SUM" : PySem.Str), ("JOINED" : PySem.Str), ("MOVED" : PySem.Str), ("ADDED" : PySem.Str), ("SLICE" : PySem.Str), ("BETWEEN" : PySem.Str)]
def names2 : List PySem.Str := [("PAIRED" : PySem.Str), ("MOST_TIES" : PySem.Str), ("NEWLINE" : PySem.Str), ("BLANK" : PySem.Str), ("SIGN" : PySem.Str), ("NOUGHT" : PySem.Str), ("FIGURES" : PySem.Str), ("MOST_FIGURES" : PySem.Str), ("line_of" : PySem.Str), ("lot_text" : PySem.Str), ("family_text" : PySem.Str), ("number_in" : PySem.Str)]
def names3 : List PySem.Str := [("Words" : PySem.Str), ("need_text" : PySem.Str), ("lot_in" : PySem.Str), ("need_lines" : PySem.Str), ("read_lot" : PySem.Str), ("read_family" : PySem.Str), ("_law_mixed" : PySem.Str), ("_law_begin" : PySem.Str), ("_law_draw" : PySem.Str), ("_law_of" : PySem.Str), ("_law_sum" : PySem.Str), ("_law_web" : PySem.Str)]
def names4 : List PySem.Str := [("_law_box" : PySem.Str), ("_law_in_box" : PySem.Str), ("_law_one" : PySem.Str), ("_law_family" : PySem.Str), ("_law_base" : PySem.Str), ("_law_small" : PySem.Str), ("_law_term" : PySem.Str), ("_law_lots" : PySem.Str), ("_law_number" : PySem.Str), ("_law_line" : PySem.Str), ("_law_bent" : PySem.Str), ("_law_lot_line" : PySem.Str)]
def names5 : List PySem.Str := [("_law_is_lot" : PySem.Str), ("_law_heard" : PySem.Str), ("_law_due_lot" : PySem.Str), ("_law_due_family" : PySem.Str), ("_law_read_right" : PySem.Str), ("_law_hand_texts" : PySem.Str)]
def names : List PySem.Str := names0 ++ names1 ++ names2 ++ names3 ++ names4 ++ names5
abbrev qv : Program := PySem.W.view RZ.prog [70]
theorem runZ (w : World) : HandSHeadRun.RunEq RZ qv hkZ obZ 6000 names w := by
  intro os
  kernel_rfl
end SL
end
section
set_option Elab.async false
set_option linter.all false
set_option maxRecDepth 100000
set_option maxHeartbeats 2000000
/-! R8: own exceptions over an own class over ValueError; their __init__ says super().__init__('..') and stores one field or two. -/
namespace SLE
open PySem PySem.W PySem.Calls PyProof.Rows PySem.HandSPX
/-- what is known of the class at C and its __init__ at fI (qualified name q, text st, code object cda, cell cc) -/
structure ExcT (K : Frag) (prog : Program) (C fI : Addr) (q : Str) (args : Arguments) (body : List Stmt) (scope : Scope) : Prop where
  oex : L2.OexC K C
  ga : findIn K (.ref C) "__getattribute__" = some (some (.builtin "BaseException.__getattribute__"))
  gg : findIn K (.ref C) "__getattr__" = some none
  iC : findIn K (.ref C) "__init__" = some (some (.ref fI))
  tI : typeIn K (.ref fI) = some (.type "function")
  hd : hasDictIn K C = true
  ve : subIn K (.ref C) (.type "ValueError") = some true
  sup : ks_superIn K C C "__init__" = some (some (.builtin "ValueError.__init__"))
  mro : mroIn K C (.ref C) = some true
  opq : nsIn K cStatics "thirdparty.any" = some none
  nosup : nsIn K mainGlobals "super" = some none
  te : exmOne K (.ref C) (.ref C) = some true
  fn : ∃ (oc : Value) (od : Option Addr) (kV doc pm ct : Value) (an : Option Addr) (osl : Array (Option Value)) (cda cc : Addr) (ccl cl fl : Value) (cdd cld : Option Addr) (vs : Array Value) (ccs csl : Array (Option Value)) (file : Str) (tf : Tok),
    K.lookup fI = some ⟨oc, od, .func (ksFn "__init__" q args body scope .none kV doc pm an (.ref cda) ct cc), osl⟩ ∧ codeIn K (.ref cda) q = true ∧
    K.lookup cda = some ⟨ccl, cdd, .fields vs, ccs⟩ ∧ vs[2]? = some (.str file tf) ∧ ((prog.main.file : Str) == file) = true ∧
    K.lookup cc = some ⟨cl, cld, .cell (some (.ref C)), csl⟩
section
variable {prog : Program} {w : World} {A : Around} {E : Value → Shared → Prop} {R : Result → Shared → Prop}
/-- ValueError.__init__ bound to the exception at x, called -/
theorem bound_call {h : Heap} {g : Array GenState} {d : Drawn} {t : Nat} {os : OsState} {K : Frag} {C x u t0 : Addr} {rest : List Value} {Q : Value → Shared → Prop} (T : L2.OexC K C) (X : K.In h)
    (he : h.get? x = some (excO C t0)) (hu : h.get? u = some (kxs_mw "ValueError.__init__" x)) (hz : rest.length ≤ sizeLine)
    (hq : ∀ h' t1, (∀ b o, b ≠ x → h.get? b = some o → h'.get? b = some o) → h'.get? x = some (excO C t1) → Q .none ⟨h', g, d, t, os⟩) :
    wpAny (model prog w) A (call (.ref u) rest) Q E ⟨h, g, d, t, os⟩ := by
  obtain ⟨nm, q, N, bs, bm, sn, sub, ab, col, dd, k0, k1, k2, k3, k5, hC, hbm⟩ := T.cls
  have hC' := X _ _ hC
  refine wpAny_call (codeAny_of_tree ?_)
  show wpAny _ A.in1 (callAny (.ref u) ⟨rest, []⟩) _ _ _
  simp only [callAny]
  refine wpAny_bind (wpAny_load hu ?_)
  have e1 : (Value.type "method-wrapper" == Value.type "method" || Value.type "method-wrapper" == Value.type "builtin_function_or_method" || Value.type "method-wrapper" == Value.type "method-wrapper") = true := by decide
  simp only [kxs_mw, e1, if_true]
  refine KFB.if_so (by decide) ?_
  refine wpAny_bind (check_bound_init PySem.F.excBase_ValueError.toExcCallFacts hC' he rfl ?_)
  refine wpAny_bind (wpAny_pure (wpAny_pure ?_))
  refine ⟨plainId_quiet PySem.F.excBase_ValueError.init.plain _, codeAny_builtin PySem.F.excBase_ValueError.initEntry ?_⟩
  exact exc_init_tree (cls := .ref C) (t0 := t0) (dv := none) (c2 := .none) (c3 := .none) (b4 := .bool false) he hz fun h' k e1 _ => hq h' _ k e1
/-- super().__init__('..') as the first statement -/
theorem super_stmt {s : Shared} {K : Frag} {C fI L x t0 : Addr} {q z : Str} {args : Arguments} {body body' : List Stmt} {scope : Scope} {m mg mb : Str → Option Value} {cda cc : Addr} {j : Nat} {p0 p1 p2 p3 p4 p5 : Pos} {Q : Flow → Shared → Prop}
    {oc ccl cl : Value} {od cdd cld : Option Addr} {kV doc pm ct : Value} {an : Option Addr} {osl ccs csl : Array (Option Value)} {vs : Array Value} {file : Str} {tf : Tok}
    (T : ExcT K prog C fI q args body scope) (X : K.In s.heap) (hm : s.heap.Ns L m) (hv : m "self" = some (.ref x)) (hx : s.heap.get? x = some (excO C t0))
    (hg : s.heap.Ns mainGlobals mg) (hb : s.heap.Ns builtinsNs mb) (hbb : ∀ y : Str, y ≠ "__name__" → mb y = bootBuiltins y)
    (lf : K.lookup fI = some ⟨oc, od, .func (ksFn "__init__" q args body scope .none kV doc pm an (.ref cda) ct cc), osl⟩)
    (lc : K.lookup cda = some ⟨ccl, cdd, .fields vs, ccs⟩) (hvs : vs[2]? = some (.str file tf)) (hfile : ((prog.main.file : Str) == file) = true)
    (lcc : K.lookup cc = some ⟨cl, cld, .cell (some (.ref C)), csl⟩)
    (hp : ∃ ar : Arg, (args.posonlyargs ++ args.args).head? = some ar ∧ ar.arg = "self")
    (hks : scope.names.lookup ("super" : Str) = some .globalImplicit) (hkc : scope.names.lookup ("__class__" : Str) = some .free) (hka : scope.names.lookup ("self" : Str) = some .local) (hk : scope.kind = .function)
    (htop : (prog.main.scope.names.lookup ("super" : Str)).isSome = false) (pl : Env → Sem Bool)
    (hmc : ∀ env : Env, eval (.Call (.Attribute (.Call (.Name "super" p0) [] [] p1) "__init__" p2) [.Constant (.str z) j p3] [] p4) env = (do
      let ov ← attributeBase (.Call (.Name "super" p0) [] [] p1) "__init__" env (eval (.Call (.Name "super" p0) [] [] p1) env)
      standAt p2.atName
      let (f, first) ← holding [ov] (getMethod ov "__init__" (pl env))
      callWith p4 f first (backTo p4 (starEach [.Constant (.str z) j p3] env)) []))
    (hq : ∀ h' tk t1, (∀ b o, b ≠ x → s.heap.get? b = some o → h'.get? b = some o) → h'.get? x = some (excO C t1) → Q .next { s with heap := h', toks := tk }) :
    _root_.PySem.wpAt (model prog w) A (.func body' (ksEnv q scope L fI (.ref cda) cc))
      (exec (.Expr (.Call (.Attribute (.Call (.Name "super" p0) [] [] p1) "__init__" p2) [.Constant (.str z) j p3] [] p4) p5) (ksEnv q scope L fI (.ref cda) cc)) Q E s := by
  obtain ⟨ar, hp, har⟩ := hp
  obtain ⟨hh, g, d, t, os⟩ := s
  obtain ⟨nm, q', N, bs, bm, sn, sub, ab, col, dd, k0, k1, k2, k3, k5, hC, hbm⟩ := T.oex.cls
  have hC' : hh.get? C = _ := X _ _ hC
  have hcl : clsIn K C = some { name := nm, bases := bs, mro := .ref C :: bm, ns := N, qualname := q', hasDict := true, slotNames := sn, subclasses := sub, abstract := ab, collection := col, hasDel := false } := by unfold clsIn; rw [hC] <;> rfl
  have hxC : x ≠ C := fun e => by
    rw [e] at hx
    have hx' : hh.get? C = some (excO C t0) := hx
    rw [hC'] at hx'
    cases hx'
  have hint : interactive (ksEnv q scope L fI (.ref cda) cc) = false := by simp [interactive, ksEnv, envX, hk]
  refine ks_wpAt_Expr_any (ks_wpAt_MethodCall ?_ (hmc _)) hint rfl
  refine ks_wpAt_super_base (env := ksEnv q scope L fI (.ref cda) cc) hks hkc (by decide) rfl (X _ _ lf) rfl hp rfl (X _ _ lc) rfl hvs hfile htop ?_
  refine ks_loadName_global hk hks (loadGlobal_builtin (env := ksEnv q scope L fI (.ref cda) cc) hg (mg_none_of X hg T.nosup) hb ((hbb _ (by decide +kernel)).trans (by first | boot_by_name | rfl | kernel_rfl)) ⟨rfl, ?_⟩)
  refine wpAny_loadName_free hk hkc rfl ⟨_, X _ _ lcc, rfl⟩ ?_
  rw [har]
  refine wpAny_loadName_local hk hka hm hv ?_
  refine ks_wpAny_isType_cls hC' rfl ⟨rfl, ?_⟩
  refine ks_wpAny_call_super hC' rfl hx rfl (fun c e => by cases e) (looks_mroIn X T.mro) (fun h1 e1 u1 => ?_)
  have X1 : K.In h1 := X.keeps u1
  have hx1 : h1.get? x = some (excO C t0) := u1 _ _ hx
  have I1 : InstAt h1 x (excO C t0) C none := ⟨hx1, rfl, rfl, trivial⟩
  have hI : Looks (model prog w) h1 (isInstance (.ref x) (.type "ValueError")) true := I1.type.andThen (looks_subIn X1 T.ve)
  have hs : ks_superIn K C C "__init__" = some (some (.builtin "ValueError.__init__")) := T.sup
  unfold ks_superIn at hs
  rw [hcl] at hs
  refine kxs_getMethod kxs_ValueError e1 (looks_opaque X1 T.opq) (l₀ := .ref C :: bm) (fun A Q E s k q => wpAny_bind ((looks_clsIn X1 hcl) A _ E s k (wpAny_pure q))) rfl X1 hs hI hxC (by decide) ?_
  have u2 : ∀ b o, h1.get? b = some o → (h1.push (kxs_mw "ValueError.__init__" x)).get? b = some o := fun b o e => Heap.get?_push_of_some _ e
  have hu2 : (h1.push (kxs_mw "ValueError.__init__" x)).get? h1.objs.size = some (kxs_mw "ValueError.__init__" x) := Heap.get?_push_size _ rfl
  show wpAny _ _ (callWith p4 (.ref h1.objs.size) [] (backTo p4 (starEach (.Constant (.str z) j p3 :: []) (ksEnv q scope L fI (.ref cda) cc))) []) _ _ _
  refine kxs_callWith (i := "ValueError.__init__") (x := x) rfl ?_
  show wpAny _ _ (evalArgs (.ref h1.objs.size) true ((false, eval (.Constant (.str z) j p3) (ksEnv q scope L fI (.ref cda) cc)) :: backTo p4 (starEach [] (ksEnv q scope L fI (.ref cda) cc))) []) _ _ _
  refine evalArgs_plain (spliced_cons (Constant_str (spliced_nil ⟨hu2, ?_⟩)))
  show wpAny _ _ (call (.ref h1.objs.size) [Value.str z _]) _ _ _
  refine bound_call T.oex (X1.keeps u2) (u2 _ _ hx1) hu2 (by rw [sizeLine_eq]; exact (by decide : 1 ≤ 16777216)) fun h3 t3 k3 e3 => ?_
  exact hq h3 _ t3 (fun b o hb e => k3 b o hb (u2 b o (u1 b o e))) e3
/-- what __init__ leaves of a fresh exception at x -/
structure InitEnd (h h' : Heap) (x C dx t1 : Addr) (m : Str → Option Value) : Prop where
  keep : ∀ b o, b ≠ x → h.get? b = some o → h'.get? b = some o
  obj : h'.get? x = some { cls := .ref C, dict := some dx, data := .fields #[.ref t1, .none, .none, .none, .bool false, .none] }
  dbig : h.objs.size ≤ dx
  dne : dx ≠ x
  ns : h'.Ns1 dx m
/-- the text of an __init__: self and the fields -/
def exArgs (fs : List (Str × Pos)) (p : Pos) : Arguments :=
  { posonlyargs := [], args := { arg := "self", annotation := none, pos := p } :: fs.map fun f => { arg := f.1, annotation := none, pos := f.2 }, vararg := none, kwonlyargs := [], kw_defaults := [], kwarg := none, defaults := [] }
def exScope (fs : List Str) : Scope :=
  { kind := .function, names := (PySem.Str.ofString "self", .local) :: (fs.map fun f => (f, .local)) ++ [(PySem.Str.ofString "__class__", .free), (PySem.Str.ofString "super", .globalImplicit)], isGenerator := false, isCoroutine := false, more := [] }
def supS (z : Str) (p0 p1 p2 p3 p4 p5 : Pos) : Stmt := .Expr (.Call (.Attribute (.Call (.Name "super" p0) [] [] p1) "__init__" p2) [.Constant (.str z) 0 p3] [] p4) p5
def stoS (f : Str) (q1 q2 q3 q4 : Pos) : Stmt := .Assign [.Attribute (.Name "self" q1) f q2] (.Name f q3) q4
/-- the call's form on one line -/
def OneLine (z : Str) (p0 p1 p2 p3 p4 : Pos) : Prop := ∃ pl : Env → Sem Bool, ∀ env : Env, eval (.Call (.Attribute (.Call (.Name "super" p0) [] [] p1) "__init__" p2) [.Constant (.str z) 0 p3] [] p4) env = (do
  let ov ← attributeBase (.Call (.Name "super" p0) [] [] p1) "__init__" env (eval (.Call (.Name "super" p0) [] [] p1) env)
  standAt p2.atName
  let (f, first) ← holding [ov] (getMethod ov "__init__" (pl env))
  callWith p4 f first (backTo p4 (starEach [.Constant (.str z) 0 p3] env)) [])
theorem ld_local {M : Model} {s : Shared} {env : Env} {m : Str → Option Value} {x : Str} {pos : Pos} {v : Value} {Q : Value → Shared → Prop} {A : Around} {E : Value → Shared → Prop} (hk : env.scope.kind = .function) (hl : env.kindOf x = some .local)
    (hn : s.heap.Ns env.locals m) (hv : m x = some v) (h : Q v s) (hd : (x == ("__debug__" : Str)) = false := by decide) : wpAny M A (eval (.Name x pos) env) Q E s := wpAny_Name (wpAny_loadName_local hk hl hn hv h) hd
theorem ns_but {h h' : Heap} {L x : Addr} {m : Str → Option Value} (n : h.Ns L m) (hx : ∃ vs, ∃ o, h.get? x = some o ∧ o.data = .fields vs) (k : ∀ b o, b ≠ x → h.get? b = some o → h'.get? b = some o) : h'.Ns L m := by
  obtain ⟨o, es, ep, e, d, r⟩ := n
  obtain ⟨vs, ox, ex, dx⟩ := hx
  refine ⟨o, es, ep, k L o (fun z => ?_) e, d, r⟩
  rw [z, ex] at e
  cases e
  rw [dx] at d
  cases d
theorem kept_but {K : Frag} {h h' : Heap} {x : Addr} (X : K.In h) (hx : K.lookup x = none) (k : ∀ b o, b ≠ x → h.get? b = some o → h'.get? b = some o) : K.In h' := fun a o e =>
  k a o (fun z => by rw [z, hx] at e; cases e) (X a o e)
/-- the module's part of the state -/
structure Mods (K : Frag) (mg : Str → Option Value) (h : Heap) : Prop where
  kin : K.In h
  glob : h.Ns mainGlobals mg
  blt : ∃ mb, h.Ns builtinsNs mb ∧ ∀ x : Str, x ≠ "__name__" → mb x = bootBuiltins x
  lim : h.NoLimit
/-- what is asked of the names of such a text -/
structure Nm (fs : List Str) : Prop where
  self_l : (exScope fs).names.lookup ("self" : Str) = some .local
  sup_l : (exScope fs).names.lookup ("super" : Str) = some .globalImplicit
  cls_l : (exScope fs).names.lookup ("__class__" : Str) = some .free
  fld : ∀ f ∈ fs, (exScope fs).names.lookup f = some .local ∧ (f == ("__debug__" : Str)) = false
  cell : ∀ y ∈ (exScope fs).names, y.2 ≠ .cell
  nd : (("self" : Str) :: fs).Nodup
theorem init1 {s : Shared} {K : Frag} {mg : Str → Option Value} {C fI x t0 : Addr} {q z f : Str} {p p0 p1 p2 p3 p4 p5 pf q1 q2 q3 q4 : Pos} {v : Value}
    (T : ExcT K prog C fI q (exArgs [(f, pf)] p) [supS z p0 p1 p2 p3 p4 p5, stoS f q1 q2 q3 q4] (exScope [f]))
    (M : Mods K mg s.heap) (hx : s.heap.get? x = some (excO C t0)) (hnx : K.lookup x = none) (hroom : A.depth < recursionLimit) (ol : OneLine z p0 p1 p2 p3 p4)
    (htop : (prog.main.scope.names.lookup ("super" : Str)).isSome = false) (nm : Nm [f])
    (hbd : ∀ (kV doc pm : Value) (an : Option Addr) (cdv ct : Value) (cc : Addr), bindArgs (ksFn "__init__" q (exArgs [(f, pf)] p) [supS z p0 p1 p2 p3 p4 p5, stoS f q1 q2 q3 q4] (exScope [f]) .none kV doc pm an cdv ct cc) ⟨[.ref x, v], []⟩ = pure [(("self" : Str), Value.ref x), (f, v)])
    (hno : findIn K (.ref C) f = some none)
    (hq : ∀ h' tk dx t1, InitEnd s.heap h' x C dx t1 (fun y => if y = f then some v else none) → R (.ok (.ret .none)) { s with heap := h', toks := tk }) :
    codeAny (model prog w) A (.call (.ref fI) ⟨[.ref x, v], []⟩) R s := by
  obtain ⟨oc, od, kV, doc, pm, ct, an, osl, cda, cc, ccl, cl, fl, cdd, cld, vs, ccs, csl, file, tf, lf, hcd, lc, hvs, hfile, lcc⟩ := T.fn
  obtain ⟨nm0, q', N, bs, bm, sn, sub, ab, col, dd, k0, k1, k2, k3, k5, hC, hbm⟩ := T.oex.cls
  have hcl : clsIn K C = some { name := nm0, bases := bs, mro := .ref C :: bm, ns := N, qualname := q', hasDict := true, slotNames := sn, subclasses := sub, abstract := ab, collection := col, hasDel := false } := by unfold clsIn; rw [hC] <;> rfl
  obtain ⟨pl, hmc⟩ := ol
  obtain ⟨mb, hb, hbb⟩ := M.blt
  obtain ⟨fld_l, f3⟩ := nm.fld f (by simp)
  have nef : ¬ ("self" : Str) = f := by have := nm.nd; simp at this; exact this
  have f1 : (("self" : Str) == f) = false := beq_eq_false_iff_ne.mpr nef
  have f2 : (f == ("self" : Str)) = false := beq_eq_false_iff_ne.mpr (Ne.symm nef)
  have vself : (fun y => (([("self", .ref x), (f, v)] : List (Str × Value)).reverse.lookup y)) "self" = some (.ref x) := by
    show List.lookup ("self" : Str) [(f, v), (("self" : Str), Value.ref x)] = _
    simp only [List.lookup, f1, beq_self_eq_true]
  have vfld : (fun y => (([("self", .ref x), (f, v)] : List (Str × Value)).reverse.lookup y)) f = some v := by
    show List.lookup f [(f, v), (("self" : Str), Value.ref x)] = _
    simp only [List.lookup, beq_self_eq_true]
  refine ks_codeAny_call_defAt (fd := ksFn "__init__" q (exArgs [(f, pf)] p) [supS z p0 p1 p2 p3 p4 p5, stoS f q1 q2 q3 q4] (exScope [f]) .none kV doc pm an (.ref cda) ct cc) (body := [supS z p0 p1 p2 p3 p4 p5, stoS f q1 q2 q3 q4])
    (binds := [("self", .ref x), (f, v)]) hroom (M.kin _ _ lf) rfl M.lim (codeRec_of M.kin hcd) rfl (BindsTo.of_eq (hbd ..)) nm.cell ?hloc (fun h1 hns k1 => ?body) rfl rfl rfl
  case hloc =>
    intro y hy
    rcases List.mem_cons.mp hy with e | hy
    · rw [e]; exact nm.self_l
    · rcases List.mem_cons.mp hy with e | hy
      · rw [e]; exact fld_l
      · cases hy
  case body =>
    have M1 : Mods K mg h1 := ⟨M.kin.keeps k1, M.glob.keeps k1, ⟨mb, hb.keeps k1, hbb⟩, M.lim.keeps k1⟩
    refine ks_wpAt_execs_cons ?_
    refine super_stmt (s := { s with heap := h1, toks := s.toks + 2 }) T M1.kin hns vself (k1 _ _ hx) M1.glob (hb.keeps k1) hbb lf lc hvs hfile lcc ⟨_, rfl, rfl⟩ nm.sup_l nm.cls_l nm.self_l rfl htop pl hmc (fun h2 tk t1 k2 hx2 => ?_)
    refine wpAt_of_wpAny (wpAny_execs_cons (plainObj_wpAny_Assign_Attribute ?_))
    have hns2 := ns_but hns ⟨_, _, k1 _ _ hx, rfl⟩ k2
    have X2 : K.In h2 := kept_but M1.kin hnx k2
    refine ld_local rfl fld_l hns2 vfld (ld_local rfl nm.self_l hns2 vself ?_) f3
    refine set_plain X2 (ox := excO C t1) (od := none) ⟨hx2, rfl, rfl, trivial⟩ T.oex.sa ?_
    refine exc_osa X2 hx2 hcl (show refsVE (.ref C :: bm) = true from hbm) rfl hno (fun h3 tk3 dx k3 dn dne hx3 hn3 => ?_)
    refine wpAny_execs_nil (hq h3 tk3 dx t1 ⟨fun b o hb e => k3 b o hb (k2 b o hb (k1 b o e)), hx3, ?_, dne, hn3⟩)
    have z2 : s.heap.objs.size < h2.objs.size := hns2.lt
    exact Nat.le_of_lt (Nat.lt_of_lt_of_le z2 dn)
theorem init2 {s : Shared} {K : Frag} {mg : Str → Option Value} {C fI x t0 : Addr} {q z f g : Str} {p p0 p1 p2 p3 p4 p5 pf pg q1 q2 q3 q4 r1 r2 r3 r4 : Pos} {v u : Value}
    (T : ExcT K prog C fI q (exArgs [(f, pf), (g, pg)] p) [supS z p0 p1 p2 p3 p4 p5, stoS f q1 q2 q3 q4, stoS g r1 r2 r3 r4] (exScope [f, g]))
    (M : Mods K mg s.heap) (hx : s.heap.get? x = some (excO C t0)) (hnx : K.lookup x = none) (hroom : A.depth < recursionLimit) (ol : OneLine z p0 p1 p2 p3 p4)
    (htop : (prog.main.scope.names.lookup ("super" : Str)).isSome = false) (nm : Nm [f, g])
    (hbd : ∀ (kV doc pm : Value) (an : Option Addr) (cdv ct : Value) (cc : Addr), bindArgs (ksFn "__init__" q (exArgs [(f, pf), (g, pg)] p) [supS z p0 p1 p2 p3 p4 p5, stoS f q1 q2 q3 q4, stoS g r1 r2 r3 r4] (exScope [f, g]) .none kV doc pm an cdv ct cc) ⟨[.ref x, v, u], []⟩ = pure [(("self" : Str), Value.ref x), (f, v), (g, u)])
    (hno : findIn K (.ref C) f = some none) (hno2 : findIn K (.ref C) g = some none)
    (hq : ∀ h' tk dx t1, InitEnd s.heap h' x C dx t1 (fun y => if y = g then some u else if y = f then some v else none) → R (.ok (.ret .none)) { s with heap := h', toks := tk }) :
    codeAny (model prog w) A (.call (.ref fI) ⟨[.ref x, v, u], []⟩) R s := by
  obtain ⟨oc, od, kV, doc, pm, ct, an, osl, cda, cc, ccl, cl, fl, cdd, cld, vs, ccs, csl, file, tf, lf, hcd, lc, hvs, hfile, lcc⟩ := T.fn
  obtain ⟨nm0, q', N, bs, bm, sn, sub, ab, col, dd, k0, k1, k2, k3, k5, hC, hbm⟩ := T.oex.cls
  have hcl : clsIn K C = some { name := nm0, bases := bs, mro := .ref C :: bm, ns := N, qualname := q', hasDict := true, slotNames := sn, subclasses := sub, abstract := ab, collection := col, hasDel := false } := by unfold clsIn; rw [hC] <;> rfl
  obtain ⟨pl, hmc⟩ := ol
  obtain ⟨mb, hb, hbb⟩ := M.blt
  obtain ⟨fld_l, fd⟩ := nm.fld f (by simp)
  obtain ⟨gld_l, gd⟩ := nm.fld g (by simp)
  have ned := nm.nd
  simp only [List.nodup_cons, List.mem_cons, List.not_mem_nil, or_false, not_or, not_false_eq_true, List.nodup_nil, and_true] at ned
  obtain ⟨⟨n1, n2⟩, n3⟩ := ned
  have a1 : (("self" : Str) == g) = false := beq_eq_false_iff_ne.mpr n2
  have a2 : (("self" : Str) == f) = false := beq_eq_false_iff_ne.mpr n1
  have a3 : (f == g) = false := beq_eq_false_iff_ne.mpr n3
  have vself : (fun y => (([("self", .ref x), (f, v), (g, u)] : List (Str × Value)).reverse.lookup y)) "self" = some (.ref x) := by
    show List.lookup ("self" : Str) [(g, u), (f, v), (("self" : Str), Value.ref x)] = _
    simp only [List.lookup, a1, a2, beq_self_eq_true]
  have vf : (fun y => (([("self", .ref x), (f, v), (g, u)] : List (Str × Value)).reverse.lookup y)) f = some v := by
    show List.lookup f [(g, u), (f, v), (("self" : Str), Value.ref x)] = _
    simp only [List.lookup, a3, beq_self_eq_true]
  have vg : (fun y => (([("self", .ref x), (f, v), (g, u)] : List (Str × Value)).reverse.lookup y)) g = some u := by
    show List.lookup g [(g, u), (f, v), (("self" : Str), Value.ref x)] = _
    simp only [List.lookup, beq_self_eq_true]
  refine ks_codeAny_call_defAt (fd := ksFn "__init__" q (exArgs [(f, pf), (g, pg)] p) [supS z p0 p1 p2 p3 p4 p5, stoS f q1 q2 q3 q4, stoS g r1 r2 r3 r4] (exScope [f, g]) .none kV doc pm an (.ref cda) ct cc) (body := [supS z p0 p1 p2 p3 p4 p5, stoS f q1 q2 q3 q4, stoS g r1 r2 r3 r4])
    (binds := [("self", .ref x), (f, v), (g, u)]) hroom (M.kin _ _ lf) rfl M.lim (codeRec_of M.kin hcd) rfl (BindsTo.of_eq (hbd ..)) nm.cell ?hloc (fun h1 hns k1 => ?body) rfl rfl rfl
  case hloc =>
    intro y hy
    rcases List.mem_cons.mp hy with e | hy
    · rw [e]; exact nm.self_l
    · rcases List.mem_cons.mp hy with e | hy
      · rw [e]; exact fld_l
      · rcases List.mem_cons.mp hy with e | hy
        · rw [e]; exact gld_l
        · cases hy
  case body =>
    have M1 : Mods K mg h1 := ⟨M.kin.keeps k1, M.glob.keeps k1, ⟨mb, hb.keeps k1, hbb⟩, M.lim.keeps k1⟩
    refine ks_wpAt_execs_cons ?_
    refine super_stmt (s := { s with heap := h1, toks := s.toks + 3 }) T M1.kin hns vself (k1 _ _ hx) M1.glob (hb.keeps k1) hbb lf lc hvs hfile lcc ⟨_, rfl, rfl⟩ nm.sup_l nm.cls_l nm.self_l rfl htop pl hmc (fun h2 tk t1 k2 hx2 => ?_)
    refine wpAt_of_wpAny (wpAny_execs_cons (plainObj_wpAny_Assign_Attribute ?_))
    have hns2 := ns_but hns ⟨_, _, k1 _ _ hx, rfl⟩ k2
    have X2 : K.In h2 := kept_but M1.kin hnx k2
    refine ld_local rfl fld_l hns2 vf (ld_local rfl nm.self_l hns2 vself ?_) fd
    refine set_plain X2 (ox := excO C t1) (od := none) ⟨hx2, rfl, rfl, trivial⟩ T.oex.sa ?_
    refine exc_osa X2 hx2 hcl (show refsVE (.ref C :: bm) = true from hbm) rfl hno (fun h3 tk3 dx k3 dn dne hx3 hn3 => ?_)
    have hns3 := ns_but hns2 ⟨_, _, hx2, rfl⟩ k3
    have X3 : K.In h3 := kept_but X2 hnx k3
    refine wpAny_execs_cons (plainObj_wpAny_Assign_Attribute ?_)
    refine ld_local rfl gld_l hns3 vg (ld_local rfl nm.self_l hns3 vself ?_) gd
    obtain ⟨oD, esD, epD, hoD, _⟩ := id hn3
    refine set_plain X3 (ox := { cls := .ref C, dict := some dx, data := .fields #[.ref t1, .none, .none, .none, .bool false, .none] }) (od := some oD) ⟨hx3, rfl, rfl, hoD⟩ T.oex.sa ?_
    have z2 : s.heap.objs.size < h2.objs.size := hns2.lt
    have hLd : s.heap.objs.size ≠ dx := Nat.ne_of_lt (Nat.lt_of_lt_of_le z2 dn)
    refine PySem.OEX.osa_old X3 hx3 hn3 (nl := [f]) (fun y hy => ?_) (by decide : 1 ≤ 1000) hcl (show refsVE (.ref C :: bm) = true from hbm) rfl hno2 (fun h4 tk4 k4 hn4 => ?_)
    · by_cases e : y = f
      · rw [e]; exact List.mem_cons_self ..
      · rw [if_neg e] at hy; exact absurd rfl hy
    refine wpAny_execs_nil (hq h4 tk4 dx t1 ⟨fun b o hb e => k4 b o (fun z => ?_) (k3 b o hb (k2 b o hb (k1 b o e))), k4 _ _ (Ne.symm dne) hx3, Nat.le_of_lt (Nat.lt_of_lt_of_le z2 dn), dne, hn4⟩)
    rw [z] at e
    exact absurd (Nat.lt_of_lt_of_le (Nat.lt_trans (Heap.lt_size e) z2) dn) (Nat.lt_irrefl _)
/-- C's __init__, with n arguments, leaves the fields mO of them -/
def Ini (prog : Program) (w : World) (K : Frag) (mg : Str → Option Value) (C fI : Addr) (n : Nat) (mO : List Value → Str → Option Value) : Prop :=
  ∀ (A : Around) (R : Result → Shared → Prop) (s : Shared) (x t0 : Addr) (us : List Value), us.length = n → Mods K mg s.heap → s.heap.get? x = some (excO C t0) → K.lookup x = none → A.depth < recursionLimit →
    (∀ h' tk dx t1, InitEnd s.heap h' x C dx t1 (mO us) → R (.ok (.ret .none)) { s with heap := h', toks := tk }) → codeAny (model prog w) A (.call (.ref fI) ⟨.ref x :: us, []⟩) R s
/-- a made exception -/
structure OwnMade (h h' : Heap) (e C d : Addr) (m : Str → Option Value) : Prop where
  keep : ∀ b o, h.get? b = some o → h'.get? b = some o
  new : h.objs.size ≤ e
  obj : ∃ oe vs, h'.get? e = some oe ∧ oe.cls = .ref C ∧ oe.dict = some d ∧ oe.data = .fields vs ∧ vs[1]? = some .none
  dbig : h.objs.size ≤ d
  dne : d ≠ e
  ns : h'.Ns1 d m
theorem made {s : Shared} {K : Frag} {mg : Str → Option Value} {C fI : Addr} {n : Nat} {mO : List Value → Str → Option Value} {us : List Value} (T : L2.OexC K C) (iC : findIn K (.ref C) "__init__" = some (some (.ref fI))) (tI : typeIn K (.ref fI) = some (.type "function"))
    (hI : Ini prog w K mg C fI n mO) (hn : us.length = n) (hz : us.length ≤ sizeLine) (M : Mods K mg s.heap) (hroom : A.depth + 1 < recursionLimit)
    (hq : ∀ h' tk e d, OwnMade s.heap h' e C d (mO us) → R (.ok (.ret (.ref e))) { s with heap := h', toks := tk }) : codeAny (model prog w) A (.call (.ref C) ⟨us, []⟩) R s := by
  obtain ⟨nm, q, N, bs, bm, sn, sub, ab, col, dd, k0, k1, k2, k3, k5, hC, hbm⟩ := T.cls
  obtain ⟨hp, g, dr, tk, os⟩ := s
  have k : ∀ b o, hp.get? b = some o → ((hp.push (kdv_tup us)).push (excO C hp.objs.size)).get? b = some o := fun b o e => Heap.get?_push_of_some _ (Heap.get?_push_of_some _ e)
  have hget : ((hp.push (kdv_tup us)).push (excO C hp.objs.size)).get? (hp.objs.size + 1) = some (excO C hp.objs.size) := by heap_get
  have hnx : K.lookup (hp.objs.size + 1) = none := by
    cases e : K.lookup (hp.objs.size + 1) with
    | none => rfl
    | some o =>
      have z : hp.get? (hp.objs.size + 1) = some o := M.kin _ _ e
      exact absurd (Nat.lt_of_succ_lt (Heap.lt_size z)) (Nat.lt_irrefl _)
  refine call_own PySem.F.excBase_ValueError (fun Y => refsVE_contains Y bm hbm) (M.kin _ _ hC) (looks_findIn M.kin iC) (fun self => bind_fn M.kin self tI) hz ?_
  obtain ⟨mb, hb, hbb⟩ := M.blt
  refine hI _ _ ⟨(hp.push (kdv_tup us)).push (excO C hp.objs.size), g, dr, tk, os⟩ _ _ us hn ⟨M.kin.keeps k, M.glob.keeps k, ⟨mb, hb.keeps k, hbb⟩, M.lim.keeps k⟩ hget hnx ?_ fun h' tk' dx t1 I => ?_
  · show A.depth + 1 < recursionLimit
    exact hroom
  · have old : ∀ b o, hp.get? b = some o → h'.get? b = some o := fun b o e => I.keep b o (Nat.ne_of_lt (Nat.lt_succ_of_lt (Heap.lt_size e))) (k b o e)
    have z : hp.objs.size + 1 + 1 ≤ dx := by
      have z0 := I.dbig
      have z1 : ((hp.push (kdv_tup us)).push (excO C hp.objs.size)).objs.size = hp.objs.size + 1 + 1 := by rw [Heap.size_push, Heap.size_push]
      rw [z1] at z0
      exact z0
    exact ⟨rfl, hq h' tk' (hp.objs.size + 1) dx ⟨old, Nat.le_succ _, ⟨_, _, I.obj, rfl, rfl, rfl, rfl⟩, Nat.le_trans (Nat.le_trans (Nat.le_succ _) (Nat.le_succ _)) z, I.dne, I.ns⟩⟩
end
end SLE
namespace L2
open PySem PySem.Spec PyProof.Rows
section
variable {X : Cx} {C fI : Addr}
/-- C(e, ..): its fields fV of the arguments -/
def tMkE (C : Addr) (n : Nat) (fV : List V → List (Str × V)) (ta : TA) : St → Hp → XK → Prop := fun σ H Q => ta σ H fun vs H1 => vs.length = n ∧ ∀ d, H1 d = none → Q (.ref C) (some d) (upd H1 d (.xd (fV vs)))
theorem pmk_exc {x : Str} {n : Nat} {mO : List Value → Str → Option Value} {fV : List V → List (Str × V)} {e : Expr} {es : List Expr} {ta : TA} {p pos : Pos} {k : Nat} (T : OexC X.K C) (iC : PySem.W.findIn X.K (.ref C) "__init__" = some (some (.ref fI))) (tI : PySem.W.typeIn X.K (.ref fI) = some (.type "function"))
    (hI : SLE.Ini X.prog X.w X.K X.mg C fI n mO) (hn : n ≤ 1000) (hfV : ∀ vs us, Vals vs us → vs.length = n → ∀ f, RelO ((fV vs).lookup f) (mO us f)) (hr : Room k X.A) (hg : Gl X x) (hm : X.mg x = some (.ref C)) (ha : PA X (e :: es) ta)
    (hdb : (x == ("__debug__" : Str)) = false := by decide) (he : starEach (e :: es) X.env = (false, eval e X.env) :: starEach es X.env := by rfl) (hpl : (backTo pos (starEach es X.env)).any (·.1) = false := by rfl) :
    PMk X (.Call (.Name x p) (e :: es) [] pos) (tMkE C n fV ta) := by
  intro pins s σ H Q I h
  refine wpAny_Call_Name_kw (ld_glob I hg hm ?_ hdb)
  refine PySem.W.callWith_K (h₀ := X.base) I.ok.mod.kin T.kC (thn (ha.run pos pins s σ H _ I h) fun us s1 hh => ?_) he hpl
  obtain ⟨vs, H1, I1, r1, hl, q1⟩ := hh
  refine ⟨I1.kIn, ?_⟩
  show wpAny _ _ (call (.ref C) us) _ _ _
  have hlim := I1.nolimit
  have hus : us.length = n := r1.length.symm.trans hl
  obtain ⟨mb, hb, hbb⟩ := I1.mod.blt
  have M : SLE.Mods X.K X.mg s1.heap := ⟨I1.kIn, I1.mod.glob.keeps I1.bk, ⟨mb, hb.keeps I1.bk, hbb⟩, hlim⟩
  obtain ⟨hp, g, dr, tk, os⟩ := s1
  refine wpAny_call (SLE.made T iC tI hI hus (by rw [hus, sizeLine_eq]; omega) M (by have := hr.dp; omega) fun h' tk' e d Md => ?_)
  show MkP X pins σ Q (.ref e) ⟨h', g, dr, tk', os⟩
  obtain ⟨oe, fv, hoe, hc, hd, hdat, h1⟩ := Md.obj
  have hns := Md.ns
  obtain ⟨G', g1, g2⟩ := restrict h' fun b => decide (b ≠ e)
  have gk : ∀ b, b ≠ e → G'.get? b = h'.get? b := fun b hb => g1 b (decide_eq_true hb)
  have ge : G'.get? e = none := g2 e (by simp)
  have old : ∀ b o, hp.get? b = some o → G'.get? b = some o := fun b o q => (gk b (Nat.ne_of_lt (Nat.lt_of_lt_of_le (Heap.lt_size q) Md.new))).trans (Md.keep b o q)
  have ob : ObjOk X.prog X.w (upd H1 d (.xd (fV vs))) G' d (.xd (fV vs)) := ⟨_, hns.at (fun o q => (gk d Md.dne).trans q), hfV vs us r1 hl⟩
  have J : Inv X pins σ (upd H1 d (.xd (fV vs))) ⟨G', g, dr, tk', os⟩ := I1.laid (t' := tk') old Md.dbig ob
  refine ⟨e, oe, fv, ⟨G', g, dr, tk', os⟩, _, .ref C, some d, rfl, J, fun b o q => ?_, ge, hoe, ⟨hc, hd⟩, hdat, h1, ?_, rfl, I1.bare, raises_own T.exC T.tyC, q1 d (I1.hok.fresh Md.dbig)⟩
  · by_cases hb : b = e
    · have q' : G'.get? b = some o := q
      rw [hb, ge] at q'
      cases q'
    · exact (gk b hb).symm.trans q
  · rw [upd_ne (Ne.symm Md.dne)]
    exact I1.hok.fresh Md.new
/-- raise C(e, ..) -/
def tRaiseE (C : Addr) (n : Nat) (fV : List V → List (Str × V)) (W : WX) (ta : TA) : TS := fun _ σ H => tMkE C n fV ta σ H fun cls d H' => W cls d σ H'
/-- err.f in an except suite: err the exception that the suite holds (at a; its class cls, its dict d) -/
def tExF (C : Addr) (a : Addr) (cls : Value) (d : Option Addr) (f : Str) (te : TE) : TE := fun σ H Q => te σ H fun x H1 => x = .ref a ∧ cls = .ref C ∧ ∃ (dd : Addr) (fs : List (Str × V)) (v : V), d = some dd ∧ H1 dd = some (.xd fs) ∧ fs.lookup f = some v ∧ Q v H1
theorem pe_exf {a : Addr} {oe : Obj} {cls : Value} {d : Option Addr} {pn : List (Addr × Obj)} {e : Expr} {te : TE} {pos : Pos} {f : Str} (T : OexC X.K C) (ga : PySem.W.findIn X.K (.ref C) "__getattribute__" = some (some (.builtin "BaseException.__getattribute__"))) (gg : PySem.W.findIn X.K (.ref C) "__getattr__" = some none)
    (hdC : PySem.W.hasDictIn X.K C = true) (noN : PySem.W.findIn X.K (.ref C) f = some none) (hz : Zc cls d oe) (hf : ∃ vs, oe.data = .fields vs) (he : PE (X.suite a ((a, oe) :: pn)) e te)
    (hb : attributeBase e f X.env (eval e X.env) = eval e X.env := by rfl) :
    PE (X.suite a ((a, oe) :: pn)) (.Attribute e f pos) (tExF C a cls d f te) := by
  refine ⟨fun pins s σ H Q I h => ?_⟩
  refine attr_of hb (thn (he.run pins s σ H _ I h) fun u s1 hh => ?_)
  obtain ⟨x, H1, I1, rx, ex, ec, dd, fs, v, ed, ea, lk, q⟩ := hh
  subst ex
  obtain rfl : u = Value.ref a := rx
  subst ec
  subst ed
  obtain ⟨ha, _⟩ := I1.pin (a, oe) (List.mem_append_left _ List.mem_cons_self)
  obtain ⟨vs, hd⟩ := hf
  have hx : ObjOk X.prog X.w H1 s1.heap dd (.xd fs) := I1.hok dd _ ea
  obtain ⟨mA, hns, hr⟩ := hx
  obtain ⟨od, ho, hl⟩ := lookIn_ns hns
  obtain ⟨u, hu, ru⟩ := RelO.some_of (v := v) (o := mA f) (by rw [← lk]; exact hr f)
  have J : PySem.W.InstAt s1.heap a oe C (some od) := ⟨ha, hz.1, by unfold PySem.W.notCls; rw [hd] <;> rfl, by rw [hz.2]; exact ho⟩
  exact HandSPX.exc_get I1.kIn J ga gg T.exC (PySem.W.findObj_own hdC noN rfl (by rw [hl, hu])) (handed_of ru) ⟨v, H1, I1.tok _, ru, q⟩
end
end L2
end
section
set_option Elab.async false
set_option linter.all false
set_option maxRecDepth 100000
set_option maxHeartbeats 2000000
/-! R2: a list comprehension whose element (a call) may let an exception out. -/
namespace L2
open PySem PySem.Spec PyProof.Rows
section
variable {B B' h h2 : Heap} {l : List Env} {a L C : Addr} {Z : Obj → Prop} {fl : Value}
theorem traced_less (t : HandSPX.TracedZ h B a Z fl) (sub : ∀ b o, B'.get? b = some o → B.get? b = some o) : HandSPX.TracedZ h B' a Z fl := by
  obtain ⟨oe, vs, T, oT, ts, e1, e2, e3, e4, e5, e6⟩ := t
  refine ⟨oe, vs, T, oT, ts, e1, e2, e3, e4, ?_, e6⟩
  cases q : B'.get? T with
  | none => rfl
  | some o =>
    rw [sub T o q] at e5
    cases e5
theorem frames_less (f : h.FunFrames B l) (sub : ∀ b o, B'.get? b = some o → B.get? b = some o) : h.FunFrames B' l := by
  refine funFrames_none f fun b hb => ?_
  have hn := (f.mem hb).1
  cases q : B'.get? b with
  | none => rfl
  | some o =>
    rw [sub b o q] at hn
    cases hn
theorem flying_less (x : HandSPX.FlyingZ B l a Z h) (sub : ∀ b o, B'.get? b = some o → B.get? b = some o) : HandSPX.FlyingZ B' l a Z h := by
  obtain ⟨k1, k2, k3, k4⟩ := x
  refine ⟨fun b o e => k1 b o (sub b o e), ?_, frames_less k3 sub, traced_less k4 sub⟩
  cases q : B'.get? a with
  | none => rfl
  | some o =>
    rw [sub a o q] at k2
    cases k2
/-- a namespace that is not of the ground is let go -/
theorem held_but {m m2 : Str → Option Value} (x : HandSPX.HeldZ B l a Z L h) (hC : B.get? C = none) (hn : h.Ns C m) (hs : Heap.SameBut C h h2) (hn2 : h2.Ns C m2) : HandSPX.HeldZ B l a Z L h2 := by
  obtain ⟨k1, k2, k3, oe, vs, T, oT, ts, e1, e2, e3, e4, e5, e6, e7, e8, e9⟩ := x
  obtain ⟨oC, es, ep, hoC, hdC, _⟩ := hn
  have ne : ∀ {b : Addr} {o : Obj} {us : Array Value}, h.get? b = some o → o.data = .fields us → b ≠ C := fun {b o us} q d z => by
    rw [z, hoC] at q
    cases q
    rw [hdC] at d
    cases d
  refine ⟨fun b o q => (hs.2 b fun z => by rw [z, hC] at q; cases q).trans (k1 b o q), k2, Heap.FunFrames.sameBut hs hn2 k3, oe, vs, T, oT, ts, (hs.2 a (ne e1 e3)).trans e1, e2, e3, e4, e5, e6, (hs.2 T (ne e7 e8)).trans e7, e8, e9⟩
end
section
variable {X : Cx}
/-- as pe_lc, what the element's call lets out is taken by the def -/
theorem pe_lcX {E : XK} {elt tg iter : Expr} {ifs : List Expr} {scope : Scope} {own : List (Str × Nat)} {pos : Pos} {wi : TI} {g : TG} {tt : TT} {te : TE} (hstk : X.stack = X.env :: X.outer) (hfrm : X.env.frame = some X.env.locals) (tk : Takes X (fun cls d _ H => E cls d H))
    (hc : X.calm = true) (hN : X.N.Nodup) (hi : PI X tg iter wi) (ok : BlkOk X.N X.env.scope scope own)
    (hg : ∀ (s : Shared) (H : Hp) (C : Addr) (cl : List (Str × Addr)) (fp : List Addr), PG (X.blk s H scope (compEnvC scope cl C X.env) fp) tg g) (ht : ∀ (s : Shared) (H : Hp) (C : Addr) (cl : List (Str × Addr)) (fp : List Addr), PTs (X.blk s H scope (compEnvC scope cl C X.env) fp) ifs tt)
    (he : ∀ (s : Shared) (H : Hp) (C : Addr) (cl : List (Str × Addr)) (fp : List Addr) (xe : Value → Shared → Prop), Passes (L2.CX X.prog X.w) ((X.blk s H scope (compEnvC scope cl C X.env) fp).wish xe) E → PE ((X.blk s H scope (compEnvC scope cl C X.env) fp).wish xe) elt te)
    (hs : ∀ x, foldedSetIterable iter X.env x = pure x := by intro _; rfl) :
    PE X (.ListComp elt [⟨tg, iter, ifs, 0⟩] scope pos) (tLc wi g tt te (own.map (·.2))) := by
  refine ⟨fun pins s σ H Q I h => ?_⟩
  rw [eval_ListComp]
  have hfree : ∀ y ∈ scope.names, y.2 = .free → ∃ c, X.env.cells.lookup y.1 = some c := fun y hy e => by
    rcases ok.free y hy e with k | k
    · exact I.ok.has _ (.inl k)
    · exact I.ok.has _ (.inr k)
  refine comprehension_at (use := none) rfl hs (closure_ok hfree) ok.kind (fun y hy e => by rw [ok.uniq y hy, e])
    (thn (hi.run pins s σ H _ I h) fun xv s1 hx => thn hx fun itv s2 h2 => ?_)
  obtain ⟨it, fp, tn, J, H2, e, I2, T, st2, f2, q⟩ := h2
  subst e
  refine wpAny_newObj_type (newEnv_comp ?_) (by show 0 ≤ sizeLine; decide)
  generalize hD : s2.heap.objs.size = D
  have hDn : H2 D = none := I2.hok.fresh (Nat.le_of_eq hD)
  obtain ⟨W, ⟨m0, w0⟩, turn⟩ := q D hDn
  generalize hs3 : ({ s2 with heap := s2.heap.push { cls := .type "list", data := .seq ([] : List Value).toArray } } : Shared) = s3
  have I3 : Inv X pins σ (upd H2 D (.lst [])) s3 := by
    rw [← hs3]
    refine I2.laid (t' := s2.toks) (fun b o e => Heap.get?_push_of_some _ e) (Nat.le_of_eq hD) ⟨Nat.zero_le _, [], 0, .nil, ?_⟩
    rw [← hD]
    exact Heap.get?_push_size _ rfl
  have h3 : s3.heap = s2.heap.push { cls := .type "list", data := .seq ([] : List Value).toArray } := by rw [← hs3]
  have sz : ∀ b ∈ fp, b < s2.heap.objs.size := fun b hb => by
    obtain ⟨o, e, _⟩ := T.obj _ _ st2 b hb
    exact Heap.lt_size e
  have f3 : ∀ b ∈ fp, FpOk X pins (upd H2 D (.lst [])) b ∧ b < s3.heap.objs.size := fun b hb => by
    have hlt := sz b hb
    refine ⟨⟨?_, (f2 b hb).2⟩, by rw [h3, Heap.size_push]; exact Nat.lt_succ_of_lt hlt⟩
    rw [upd_ne (by rw [← hD]; exact Nat.ne_of_lt hlt)]
    exact (f2 b hb).1
  have st3 : tn 0 s3.heap := T.keep _ _ _ st2 fun b _ o e => by rw [h3]; exact Heap.get?_push_of_some _ e
  have I4 := block_start I3 ok hN f3
  have pg := hg s3 (upd H2 D (.lst [])) s3.heap.objs.size (cellsFrom (s3.heap.objs.size + 1) scope.names (cloFrom X.env.cells scope.names [])) fp
  have pt := ht s3 (upd H2 D (.lst [])) s3.heap.objs.size (cellsFrom (s3.heap.objs.size + 1) scope.names (cloFrom X.env.cells scope.names [])) fp
  have pe := he s3 (upd H2 D (.lst [])) s3.heap.objs.size (cellsFrom (s3.heap.objs.size + 1) scope.names (cloFrom X.env.cells scope.names [])) fp
  show codeAny _ _ (.compStart (.ListComp elt [⟨tg, iter, ifs, 0⟩] scope pos) 0 (.ref it) (.ref D) (compEnvC scope (cellsFrom (s3.heap.objs.size + 1) scope.names (cloFrom X.env.cells scope.names [])) s3.heap.objs.size X.env))
    (compEnds (model X.prog X.w) X.A X.xe none (EP X pins σ Q) (.ref D) (compEnvC scope (cellsFrom (s3.heap.objs.size + 1) scope.names (cloFrom X.env.cells scope.names [])) s3.heap.objs.size X.env)) { s3 with heap := pushCells (s3.heap.push { cls := .type "dict", data := .dict #[] }) scope.names }
  have nfp : ∀ b ∈ fp, (upd H2 D (.lst [])) b = none := fun b hb => (f3 b hb).1.1
  generalize hce : compEnvC scope (cellsFrom (s3.heap.objs.size + 1) scope.names (cloFrom X.env.cells scope.names [])) s3.heap.objs.size X.env = ce at I4 pg pt pe ⊢
  have cL : ce.locals = s3.heap.objs.size := by subst hce; rfl
  have cF : ce.frame = X.env.frame := by subst hce; rfl
  generalize hH3 : upd H2 D (.lst []) = H3 at I3 I4 pg pt pe w0 nfp f3
  generalize hs4 : ({ s3 with heap := pushCells (s3.heap.push { cls := .type "dict", data := .dict #[] }) scope.names } : Shared) = s4 at I4 ⊢
  have st4 : tn 0 s4.heap := T.keep _ _ _ st3 fun b _ o e => by rw [← hs4]; exact pushCells_keeps _ _ _ _ (Heap.get?_push_of_some _ e)
  have stat : ∀ {σ' : St} {H' : Hp} {s' : Shared}, Inv (X.blk s3 H3 scope ce fp) [] σ' H' s' → (∀ b ∈ fp, H' b = none) → ∀ b ∈ fp, FpOk (X.blk s3 H3 scope ce fp) [] H' b := fun {σ' H' s'} I' hn b hb =>
    ⟨hn b hb, (I'.ok.exf b hb).1, I'.ok.exfs b hb, .inl hb, fun x c e => (I'.ok.exf b hb).2 x c e, fun p hp => absurd (show p ∈ ([] : List (Addr × Obj)) ++ [] from hp) (by simp)⟩
  -- what a call in the element lets out
  have pass : Passes (L2.CX X.prog X.w) ((X.blk s3 H3 scope ce fp).wish (notedBy (model X.prog X.w) X.A ce fun e s' => compEnds (model X.prog X.w) X.A X.xe none (EP X pins σ Q) (.ref D) ce (.error e) s')) E := by
    intro pinsB σB HB sB u s' IB c
    obtain ⟨a, Bg, H', cls, d, rfl, fl, hok, ub, na, os, ag, hE⟩ := c
    have fl0 := fl
    have st : Bg.StaysIn s'.heap := fl.1
    have hfr : X.A.frames = some (X.env :: X.outer) := by rw [I.ok.frames, hstk]
    -- the block's own dict C
    obtain ⟨mB, hnB, _⟩ := IB.loc
    have hnB : sB.heap.Ns ce.locals mB := hnB
    have HC : HB ce.locals = none := IB.free
    have nCf : ce.locals ∉ frs X.stack := fun hm => by
      have z := (IB.ok.funs.mem (show ce.locals ∈ frs X.stack from hm)).2
      obtain ⟨oc, e1, _⟩ := z
      have e1 : s3.heap.get? ce.locals = some oc := e1
      have z1 := Heap.lt_size e1
      rw [cL] at z1
      exact absurd z1 (Nat.lt_irrefl _)
    obtain ⟨oC, esC, epC, hoC, hdC, hrC⟩ := id hnB
    have bgC : Bg.get? ce.locals = some oC := ub.keep _ _ hoC HC nCf
    have hn' : s'.heap.Ns ce.locals mB := ⟨oC, esC, epC, st _ _ bgC, hdC, hrC⟩
    have H'C : H' ce.locals = none := ub.free _ _ hoC HC
    -- the ground without it
    obtain ⟨G, g1, g2⟩ := restrict Bg fun b => decide (b ≠ ce.locals)
    have gk : ∀ b, b ≠ ce.locals → G.get? b = Bg.get? b := fun b hb => g1 b (decide_eq_true hb)
    have gC : G.get? ce.locals = none := g2 _ (by simp)
    have gsub : ∀ b o, G.get? b = some o → Bg.get? b = some o := fun b o q => by
      by_cases hb : b = ce.locals
      · rw [hb, gC] at q
        cases q
      · rw [← gk b hb]
        exact q
    have flG : HandSPX.FlyingZ G (X.env :: X.outer) a (Zc cls d) s'.heap := by
      have z := flying_less fl gsub
      have e : ((X.blk s3 H3 scope ce fp).wish (notedBy (model X.prog X.w) X.A ce fun e s' => compEnds (model X.prog X.w) X.A X.xe none (EP X pins σ Q) (.ref D) ce (.error e) s')).stack = X.env :: X.outer := hstk
      rw [e] at z
      exact z
    show wpAny (model X.prog X.w) X.A (noteFrame (.ref a) ce) _ _ s'
    rw [noteFrame_env _ cF]
    refine HandSPX.looks_onZ Zc.steady hfr hfrm flG fun h4 hh4 up4 => ?_
    have hn4 : h4.Ns ce.locals mB := hn'.upToSlots up4
    refine ⟨mB, hn4, fun h5 m5 hn5 hs5 => ?_⟩
    have hh5 := held_but hh4 gC hn4 hs5 hn5
    obtain ⟨b1, b2, b3, b4⟩ := id hh5
    obtain ⟨oe, vs, T', oT, ts, x1, x2, x3, x4, x5⟩ := id b4
    unfold PySem.passOn
    refine wpAny_bind (wpAny_field x1 x3 x4 ?_)
    rw [if_neg (show ¬ ((Value.ref T' == Value.none) = true) from by simp), cF, hfrm]
    refine wpAny_bind (HandSPX.setFlight_onZ hh5 fun h6 hh6 up6 => wpAny_throw ?_)
    -- in the def's air
    obtain ⟨G2, q1, q2⟩ := restrict s'.heap fun b => ((G.get? b).isSome || decide (b ∈ frs X.stack))
    have stG : G.StaysIn s'.heap := fun b o e => st b o (gsub b o e)
    have gG : ∀ b o, G.get? b = some o → G2.get? b = some o := fun b o e => by
      rw [q1 b (by simp [e])]
      exact stG b o e
    have gF : ∀ b, b ∈ frs X.stack → G2.get? b = s'.heap.get? b := fun b hb => q1 b (by simp [hb])
    have og : ∀ b o, G2.get? b = some o → s'.heap.get? b = some o ∧ ((G.get? b).isSome = true ∨ b ∈ frs X.stack) := fun b o e => by
      cases qq : ((G.get? b).isSome || decide (b ∈ frs X.stack)) with
      | false => rw [q2 b qq] at e; cases e
      | true =>
        rw [q1 b qq] at e
        exact ⟨e, by simpa [Bool.or_eq_true] using qq⟩
    have nC3 : ∀ b o, s3.heap.get? b = some o → b ≠ ce.locals := fun b o e z => by
      have z1 := Heap.lt_size e
      rw [z, cL] at z1
      exact absurd z1 (Nat.lt_irrefl _)
    have hokG : HOk X.prog X.w H' G2 := fun b o e => by
      refine (hok b o e).stay (fun b' v hc q => gG _ _ ?_) (fun _ r => r) fun _ _ r => r
      rw [gk b' (fun z => ?_)]
      · exact q
      · rw [z] at hc
        rcases hc with hc | hc
        · rw [← hc, H'C] at e
          cases e
        · rw [H'C] at hc
          cases hc
    have base := IB.base
    have Uc : Un (frs X.stack) fp H3 H' s3.heap G2 := {
      keep := fun b o e n hf hx => by
        refine gG b o ?_
        rw [gk b (nC3 b o e)]
        exact ub.keep b o (base.keep b o e n hf hx) (base.free b o e n hx) hf
      slot := fun b o e n hf hx => by
        obtain ⟨sl, e1⟩ := base.slot b o e n hf hx
        obtain ⟨sl2, e2⟩ := ub.slot b _ e1 hf
        exact ⟨sl2, by rw [gF b hf]; exact e2⟩
      free := fun b o e n hx => by
        obtain ⟨o', e1⟩ := base.there b o e hx
        exact ub.free b o' e1 (base.free b o e n hx)
      there := fun b o e hx => by
        obtain ⟨o', e1⟩ := base.there b o e hx
        by_cases hf : b ∈ frs X.stack
        · obtain ⟨sl2, e2⟩ := ub.slot b _ e1 hf
          exact ⟨_, by rw [gF b hf]; exact e2⟩
        · obtain ⟨o2, e2⟩ := ub.there b o' e1 hf
          exact ⟨o2, gG b o2 (by rw [gk b (nC3 b o e)]; exact e2)⟩
      tups := fun b xs e => ub.tups b xs (base.tups b xs e)
      frzs := fun b o xs e => ub.frzs b o xs (base.frzs b o xs e)
      tbls := fun b ps e => by
        obtain ⟨m1, e1⟩ := base.tbls b ps e
        obtain ⟨m2, e2⟩ := ub.tbls b _ e1
        exact ⟨m1 ++ m2, by rw [e2, Array.append_assoc]⟩ }
    have eos : s'.os = s3.os := os.trans IB.os
    have J7 : Inv X pins σ H' ⟨G2, s'.gens, s'.drawn, s'.toks, s3.os⟩ := I3.call' (s' := ⟨G2, s'.gens, s'.drawn, s'.toks, s3.os⟩) (ch := fp) rfl Uc hokG ag fun b hb => ⟨(f3 b hb).1.2.2.2.1, (f3 b hb).1.2.1, (f3 b hb).1.2.2.2.2.1, (f3 b hb).1.2.2.2.2.2⟩
    refine tk _ _ ⟨a, G, ⟨G2, s'.gens, s'.drawn, s'.toks, s3.os⟩, pins, σ, H', cls, d, rfl, J7, fun b o e hb => ?_, fun b o e hnf => ?_, ?_, na, eos, ag, hE⟩
    · obtain ⟨e', hh⟩ := og b o e
      rcases hh with hh | hh
      · obtain ⟨o', q⟩ := Option.isSome_iff_exists.mp hh
        have z := stG b o' q
        rw [e'] at z
        cases z
        exact q
      · exact absurd hh hb
    · have e1 := (og b o e).1
      obtain ⟨sl, e2⟩ := up4 b o e1 hnf
      have hbC : b ≠ ce.locals := fun z => by
        obtain ⟨_, hh⟩ := og b o e
        rw [z] at hh
        rcases hh with hh | hh
        · rw [gC] at hh
          cases hh
        · exact nCf hh
      exact up6 b _ ((hs5.2 b hbC).trans e2) hnf |>.imp fun sl2 e3 => e3
    · exact .inr (.inr (by rw [hstk]; exact hh6))
  have peX := pe (notedBy (model X.prog X.w) X.A ce fun e s' => compEnds (model X.prog X.w) X.A X.xe none (EP X pins σ Q) (.ref D) ce (.error e) s') pass
  have loop : codeAny (model X.prog X.w) X.A (.compLoop (.ListComp elt [⟨tg, iter, ifs, 0⟩] scope pos) 0 (.ref it) (.ref D) ce) (compEnds (model X.prog X.w) X.A X.xe none (EP X pins σ Q) (.ref D) ce) s4 := by
    refine compLoop_any (fun n s' => ∃ i H', Inv (X.blk s3 H3 scope ce fp) [] (wipe σ (own.map (·.2))) H' s' ∧ tn i s'.heap ∧ (∀ b ∈ fp, H' b = none) ∧ W i n H') ?_ m0 ⟨0, H3, I4, st4, nfp, w0⟩
    rintro n s5 ⟨i, H5, I5, st5, n5, w5⟩
    rcases turn i n H5 w5 with ⟨stop, qq⟩ | ⟨go, Nx, hNx, step⟩
    · have td := T.done (X.blk s3 H3 scope ce fp) rfl rfl rfl hc i [] s5 _ H5 (fun _ _ => False) I5 (stat I5 n5) st5 stop
      refine thnF td fun r s6 ⟨hr, I6⟩ => ?_
      subst hr
      have I7 : Inv X pins σ H5 s6 := I3.call' (ch := fp) I6.os I6.base I6.hok I6.bare fun b hb => ⟨(f3 b hb).1.2.2.2.1, (f3 b hb).1.2.1, (f3 b hb).1.2.2.2.2.1, (f3 b hb).1.2.2.2.2.2⟩
      have nC : H5 s3.heap.objs.size = none := by
        have z : H5 ce.locals = none := I6.free
        rw [cL] at z
        exact z
      obtain ⟨m, hn, _⟩ := I6.loc
      have hn : s6.heap.Ns ce.locals m := hn
      obtain ⟨F0, F1, F2, F3, F4, F5⟩ := I3.fpOk (Nat.le_refl _) nC
      refine ⟨m, hn, fun h'' sb => ?_⟩
      rw [cL] at sb
      exact ⟨.ref D, H5, I7.turned (t' := s6.toks) (fun b o hb e => (sb.2 b hb).trans e) F0 F1 F3 F4 F5, rfl, qq⟩
    · have ti := T.item (X.blk s3 H3 scope ce fp) rfl rfl rfl hc i [] s5 _ H5 (fun _ _ => False) I5 (stat I5 n5) st5 go
      refine thnF ti fun r s6 ⟨u, hr, h6⟩ => ?_
      subst hr
      refine thnF h6 fun _ s7 ⟨x, H7, I7, r7, y7, st7, n7⟩ => ?_
      have I7' := I7.pinned (stat I7 n7) (T.obj _ _ st7)
      refine thnF (pg.run _ s7 _ H7 x u _ I7' r7 (step x H7 y7)) fun _ s8 ⟨σ8, H8, I8, hw8, q8⟩ => ?_
      refine thnF (pt.run _ s8 σ8 H8 _ I8 q8) fun b s9 ⟨H9, I9, q9⟩ => ?_
      have fin : ∀ {s' : Shared} {H' : Hp}, Inv (X.blk s3 H3 scope ce fp) ([] ++ pinsAt fp s7.heap) σ8 H' s' → Nx H' → ∃ m, m < n ∧ ∃ i H', Inv (X.blk s3 H3 scope ce fp) [] (wipe σ (own.map (·.2))) H' s' ∧ tn i s'.heap ∧ (∀ b ∈ fp, H' b = none) ∧ W i m H' := fun {s' H'} I' nx => by
        obtain ⟨m', hm, w'⟩ := hNx H' nx
        have pin' : ∀ b ∈ fp, ∀ o, s7.heap.get? b = some o → s'.heap.get? b = some o ∧ H' b = none := fun b hb o e =>
          let z := I'.pin (b, o) (List.mem_append_right _ (List.mem_append_right _ (mem_pinsAt hb e)))
          ⟨z.1, z.2.1⟩
        have hl : (wipe σ (own.map (·.2))).length = σ8.length := by rw [← hw8, wipe_length]
        refine ⟨m', hm, i + 1, H', (I'.unpinned (pins := [])).weak hl (fun j v e => ?_), T.keep _ _ _ st7 fun b hb o e => (pin' b hb o e).1, fun b hb => ?_, w'⟩
        · rw [← hw8] at e
          exact (wipe_some e).1
        · obtain ⟨o, e, _⟩ := T.obj _ _ st7 b hb
          exact (pin' b hb o e).2
      cases b with
      | false =>
        simp only [Bool.false_eq_true, if_false] at q9 ⊢
        exact fin I9 q9
      | true =>
        simp only [if_true] at q9 ⊢
        refine wpAny_mono (peX.run _ s9 σ8 H9 _ (I9.wish _) q9) (fun z s10 hz => ?_) fun e s' he => he
        obtain ⟨yv, H10, I10', r10, acc, hD10, hz10, nx⟩ := hz
        have I10 : Inv (X.blk s3 H3 scope ce fp) ([] ++ pinsAt fp s7.heap) σ8 H10 s10 := I10'.unwish
        exact app_ok (X := X.blk s3 H3 scope ce fp) I10 hD10 hz10 r10 fun s11 I11 => fin I11 nx
  exact codeAny_compStart_list loop (T.self X.A 0 _ _ _ st4 loop)
end
end L2
end
section
set_option Elab.async false
set_option linter.all false
set_option maxRecDepth 100000
set_option maxHeartbeats 2000000
/-! The facts of the head by names; a def with its promise (Dn) and its call. -/
namespace SL
open PySem PySem.Spec PyProof.Rows L2
structure Ma (K : PySem.W.Frag) (mg : Str → Option Value) : Prop where
  ex : ∃ h, K.In h ∧ h.Ns mainGlobals mg ∧ SaysZ h K
section
variable {K : PySem.W.Frag} {mg : Str → Option Value}
theorem Ma.g_is_integer (M : Ma K mg) : mg "is_integer" = some (.ref (He.ga K "is_integer")) :=
  by obtain ⟨h, X, G, s⟩ := M.ex; exact He.glo_ok X G (s.d.fact 0 (f := .glo "is_integer") rfl)
theorem Ma.g_is_between (M : Ma K mg) : mg "is_between" = some (.ref (He.ga K "is_between")) :=
  by obtain ⟨h, X, G, s⟩ := M.ex; exact He.glo_ok X G (s.d.fact 1 (f := .glo "is_between") rfl)
theorem Ma.g_is_lot (M : Ma K mg) : mg "is_lot" = some (.ref (He.ga K "is_lot")) :=
  by obtain ⟨h, X, G, s⟩ := M.ex; exact He.glo_ok X G (s.d.fact 2 (f := .glo "is_lot") rfl)
theorem Ma.g_need_lot (M : Ma K mg) : mg "need_lot" = some (.ref (He.ga K "need_lot")) :=
  by obtain ⟨h, X, G, s⟩ := M.ex; exact He.glo_ok X G (s.d.fact 3 (f := .glo "need_lot") rfl)
theorem Ma.g_fault_of_family (M : Ma K mg) : mg "fault_of_family" = some (.ref (He.ga K "fault_of_family")) :=
  by obtain ⟨h, X, G, s⟩ := M.ex; exact He.glo_ok X G (s.d.fact 4 (f := .glo "fault_of_family") rfl)
theorem Ma.g_need_family (M : Ma K mg) : mg "need_family" = some (.ref (He.ga K "need_family")) :=
  by obtain ⟨h, X, G, s⟩ := M.ex; exact He.glo_ok X G (s.d.fact 5 (f := .glo "need_family") rfl)
theorem Ma.g_line_of (M : Ma K mg) : mg "line_of" = some (.ref (He.ga K "line_of")) :=
  by obtain ⟨h, X, G, s⟩ := M.ex; exact He.glo_ok X G (s.d.fact 6 (f := .glo "line_of") rfl)
theorem Ma.g_lot_text (M : Ma K mg) : mg "lot_text" = some (.ref (He.ga K "lot_text")) :=
  by obtain ⟨h, X, G, s⟩ := M.ex; exact He.glo_ok X G (s.d.fact 7 (f := .glo "lot_text") rfl)
theorem Ma.g_family_text (M : Ma K mg) : mg "family_text" = some (.ref (He.ga K "family_text")) :=
  by obtain ⟨h, X, G, s⟩ := M.ex; exact He.glo_ok X G (s.d.fact 8 (f := .glo "family_text") rfl)
theorem Ma.g_number_in (M : Ma K mg) : mg "number_in" = some (.ref (He.ga K "number_in")) :=
  by obtain ⟨h, X, G, s⟩ := M.ex; exact He.glo_ok X G (s.d.fact 9 (f := .glo "number_in") rfl)
theorem Ma.g_need_text (M : Ma K mg) : mg "need_text" = some (.ref (He.ga K "need_text")) :=
  by obtain ⟨h, X, G, s⟩ := M.ex; exact He.glo_ok X G (s.d.fact 10 (f := .glo "need_text") rfl)
theorem Ma.g_lot_in (M : Ma K mg) : mg "lot_in" = some (.ref (He.ga K "lot_in")) :=
  by obtain ⟨h, X, G, s⟩ := M.ex; exact He.glo_ok X G (s.d.fact 11 (f := .glo "lot_in") rfl)
theorem Ma.g_need_lines (M : Ma K mg) : mg "need_lines" = some (.ref (He.ga K "need_lines")) :=
  by obtain ⟨h, X, G, s⟩ := M.ex; exact He.glo_ok X G (s.d.fact 12 (f := .glo "need_lines") rfl)
theorem Ma.g_read_lot (M : Ma K mg) : mg "read_lot" = some (.ref (He.ga K "read_lot")) :=
  by obtain ⟨h, X, G, s⟩ := M.ex; exact He.glo_ok X G (s.d.fact 13 (f := .glo "read_lot") rfl)
theorem Ma.g_read_family (M : Ma K mg) : mg "read_family" = some (.ref (He.ga K "read_family")) :=
  by obtain ⟨h, X, G, s⟩ := M.ex; exact He.glo_ok X G (s.d.fact 14 (f := .glo "read_family") rfl)
theorem Ma.g__law_mixed (M : Ma K mg) : mg "_law_mixed" = some (.ref (He.ga K "_law_mixed")) :=
  by obtain ⟨h, X, G, s⟩ := M.ex; exact He.glo_ok X G (s.d.fact 15 (f := .glo "_law_mixed") rfl)
theorem Ma.g__law_begin (M : Ma K mg) : mg "_law_begin" = some (.ref (He.ga K "_law_begin")) :=
  by obtain ⟨h, X, G, s⟩ := M.ex; exact He.glo_ok X G (s.d.fact 16 (f := .glo "_law_begin") rfl)
theorem Ma.g__law_draw (M : Ma K mg) : mg "_law_draw" = some (.ref (He.ga K "_law_draw")) :=
  by obtain ⟨h, X, G, s⟩ := M.ex; exact He.glo_ok X G (s.d.fact 17 (f := .glo "_law_draw") rfl)
theorem Ma.g__law_of (M : Ma K mg) : mg "_law_of" = some (.ref (He.ga K "_law_of")) :=
  by obtain ⟨h, X, G, s⟩ := M.ex; exact He.glo_ok X G (s.d.fact 18 (f := .glo "_law_of") rfl)
theorem Ma.g__law_sum (M : Ma K mg) : mg "_law_sum" = some (.ref (He.ga K "_law_sum")) :=
  by obtain ⟨h, X, G, s⟩ := M.ex; exact He.glo_ok X G (s.d.fact 19 (f := .glo "_law_sum") rfl)
theorem Ma.g__law_web (M : Ma K mg) : mg "_law_web" = some (.ref (He.ga K "_law_web")) :=
  by obtain ⟨h, X, G, s⟩ := M.ex; exact He.glo_ok X G (s.d.fact 20 (f := .glo "_law_web") rfl)
theorem Ma.g__law_box (M : Ma K mg) : mg "_law_box" = some (.ref (He.ga K "_law_box")) :=
  by obtain ⟨h, X, G, s⟩ := M.ex; exact He.glo_ok X G (s.d.fact 21 (f := .glo "_law_box") rfl)
theorem Ma.g__law_in_box (M : Ma K mg) : mg "_law_in_box" = some (.ref (He.ga K "_law_in_box")) :=
  by obtain ⟨h, X, G, s⟩ := M.ex; exact He.glo_ok X G (s.d.fact 22 (f := .glo "_law_in_box") rfl)
theorem Ma.g__law_one (M : Ma K mg) : mg "_law_one" = some (.ref (He.ga K "_law_one")) :=
  by obtain ⟨h, X, G, s⟩ := M.ex; exact He.glo_ok X G (s.d.fact 23 (f := .glo "_law_one") rfl)
theorem Ma.g__law_family (M : Ma K mg) : mg "_law_family" = some (.ref (He.ga K "_law_family")) :=
  by obtain ⟨h, X, G, s⟩ := M.ex; exact He.glo_ok X G (s.d.fact 24 (f := .glo "_law_family") rfl)
theorem Ma.g__law_base (M : Ma K mg) : mg "_law_base" = some (.ref (He.ga K "_law_base")) :=
  by obtain ⟨h, X, G, s⟩ := M.ex; exact He.glo_ok X G (s.d.fact 25 (f := .glo "_law_base") rfl)
theorem Ma.g__law_small (M : Ma K mg) : mg "_law_small" = some (.ref (He.ga K "_law_small")) :=
  by obtain ⟨h, X, G, s⟩ := M.ex; exact He.glo_ok X G (s.d.fact 26 (f := .glo "_law_small") rfl)
theorem Ma.g__law_term (M : Ma K mg) : mg "_law_term" = some (.ref (He.ga K "_law_term")) :=
  by obtain ⟨h, X, G, s⟩ := M.ex; exact He.glo_ok X G (s.d.fact 27 (f := .glo "_law_term") rfl)
theorem Ma.g__law_lots (M : Ma K mg) : mg "_law_lots" = some (.ref (He.ga K "_law_lots")) :=
  by obtain ⟨h, X, G, s⟩ := M.ex; exact He.glo_ok X G (s.d.fact 28 (f := .glo "_law_lots") rfl)
theorem Ma.g__law_number (M : Ma K mg) : mg "_law_number" = some (.ref (He.ga K "_law_number")) :=
  by obtain ⟨h, X, G, s⟩ := M.ex; exact He.glo_ok X G (s.d.fact 29 (f := .glo "_law_number") rfl)
theorem Ma.g__law_line (M : Ma K mg) : mg "_law_line" = some (.ref (He.ga K "_law_line")) :=
  by obtain ⟨h, X, G, s⟩ := M.ex; exact He.glo_ok X G (s.d.fact 30 (f := .glo "_law_line") rfl)
theorem Ma.g__law_bent (M : Ma K mg) : mg "_law_bent" = some (.ref (He.ga K "_law_bent")) :=
  by obtain ⟨h, X, G, s⟩ := M.ex; exact He.glo_ok X G (s.d.fact 31 (f := .glo "_law_bent") rfl)
theorem Ma.g__law_lot_line (M : Ma K mg) : mg "_law_lot_line" = some (.ref (He.ga K "_law_lot_line")) :=
  by obtain ⟨h, X, G, s⟩ := M.ex; exact He.glo_ok X G (s.d.fact 32 (f := .glo "_law_lot_line") rfl)
theorem Ma.g__law_is_lot (M : Ma K mg) : mg "_law_is_lot" = some (.ref (He.ga K "_law_is_lot")) :=
  by obtain ⟨h, X, G, s⟩ := M.ex; exact He.glo_ok X G (s.d.fact 33 (f := .glo "_law_is_lot") rfl)
theorem Ma.g__law_heard (M : Ma K mg) : mg "_law_heard" = some (.ref (He.ga K "_law_heard")) :=
  by obtain ⟨h, X, G, s⟩ := M.ex; exact He.glo_ok X G (s.d.fact 34 (f := .glo "_law_heard") rfl)
theorem Ma.g__law_due_lot (M : Ma K mg) : mg "_law_due_lot" = some (.ref (He.ga K "_law_due_lot")) :=
  by obtain ⟨h, X, G, s⟩ := M.ex; exact He.glo_ok X G (s.d.fact 35 (f := .glo "_law_due_lot") rfl)
theorem Ma.g__law_due_family (M : Ma K mg) : mg "_law_due_family" = some (.ref (He.ga K "_law_due_family")) :=
  by obtain ⟨h, X, G, s⟩ := M.ex; exact He.glo_ok X G (s.d.fact 36 (f := .glo "_law_due_family") rfl)
theorem Ma.g__law_read_right (M : Ma K mg) : mg "_law_read_right" = some (.ref (He.ga K "_law_read_right")) :=
  by obtain ⟨h, X, G, s⟩ := M.ex; exact He.glo_ok X G (s.d.fact 37 (f := .glo "_law_read_right") rfl)
theorem Ma.g__law_hand_texts (M : Ma K mg) : mg "_law_hand_texts" = some (.ref (He.ga K "_law_hand_texts")) :=
  by obtain ⟨h, X, G, s⟩ := M.ex; exact He.glo_ok X G (s.d.fact 38 (f := .glo "_law_hand_texts") rfl)
theorem Ma.g_law (M : Ma K mg) : mg "law" = some (.ref (He.ga K "law")) :=
  by obtain ⟨h, X, G, s⟩ := M.ex; exact He.glo_ok X G (s.d.fact 39 (f := .glo "law") rfl)
theorem Ma.g_BadFamily (M : Ma K mg) : mg "BadFamily" = some (.ref (He.ga K "BadFamily")) :=
  by obtain ⟨h, X, G, s⟩ := M.ex; exact He.glo_ok X G (s.d.fact 40 (f := .glo "BadFamily") rfl)
theorem Ma.g_BadText (M : Ma K mg) : mg "BadText" = some (.ref (He.ga K "BadText")) :=
  by obtain ⟨h, X, G, s⟩ := M.ex; exact He.glo_ok X G (s.d.fact 41 (f := .glo "BadText") rfl)
theorem Ma.g_BadLot (M : Ma K mg) : mg "BadLot" = some (.ref (He.ga K "BadLot")) :=
  by obtain ⟨h, X, G, s⟩ := M.ex; exact He.glo_ok X G (s.d.fact 42 (f := .glo "BadLot") rfl)
theorem Ma.g_Words (M : Ma K mg) : mg "Words" = some (.ref (He.ga K "Words")) :=
  by obtain ⟨h, X, G, s⟩ := M.ex; exact He.glo_ok X G (s.d.fact 43 (f := .glo "Words") rfl)
theorem Ma.i_MOST_PLACES (M : Ma K mg) : ∃ t, mg "MOST_PLACES" = some (.int 5 t) :=
  by obtain ⟨h, X, G, s⟩ := M.ex; exact He.int_ok X G (s.d.fact 44 (f := .int "MOST_PLACES" 5) rfl)
theorem Ma.i_MOST_LOTS (M : Ma K mg) : ∃ t, mg "MOST_LOTS" = some (.int 200 t) :=
  by obtain ⟨h, X, G, s⟩ := M.ex; exact He.int_ok X G (s.d.fact 45 (f := .int "MOST_LOTS" 200) rfl)
theorem Ma.i_MOST_AT (M : Ma K mg) : ∃ t, mg "MOST_AT" = some (.int 99 t) :=
  by obtain ⟨h, X, G, s⟩ := M.ex; exact He.int_ok X G (s.d.fact 46 (f := .int "MOST_AT" 99) rfl)
theorem Ma.i_MOST_FIGURES (M : Ma K mg) : ∃ t, mg "MOST_FIGURES" = some (.int 31 t) :=
  by obtain ⟨h, X, G, s⟩ := M.ex; exact He.int_ok X G (s.d.fact 47 (f := .int "MOST_FIGURES" 31) rfl)
theorem Ma.s_NEWLINE (M : Ma K mg) : ∃ t, mg "NEWLINE" = some (.str "\n" t) :=
  by obtain ⟨h, X, G, s⟩ := M.ex; exact He.str_ok X G (s.d.fact 48 (f := .str "NEWLINE" "\n") rfl)
theorem Ma.s_BLANK (M : Ma K mg) : ∃ t, mg "BLANK" = some (.str " " t) :=
  by obtain ⟨h, X, G, s⟩ := M.ex; exact He.str_ok X G (s.d.fact 49 (f := .str "BLANK" " ") rfl)
theorem Ma.s_SIGN (M : Ma K mg) : ∃ t, mg "SIGN" = some (.str "-" t) :=
  by obtain ⟨h, X, G, s⟩ := M.ex; exact He.str_ok X G (s.d.fact 50 (f := .str "SIGN" "-") rfl)
theorem Ma.s_NOUGHT (M : Ma K mg) : ∃ t, mg "NOUGHT" = some (.str "0" t) :=
  by obtain ⟨h, X, G, s⟩ := M.ex; exact He.str_ok X G (s.d.fact 51 (f := .str "NOUGHT" "0") rfl)
theorem Ma.s_FIGURES (M : Ma K mg) : ∃ t, mg "FIGURES" = some (.str "0123456789" t) :=
  by obtain ⟨h, X, G, s⟩ := M.ex; exact He.str_ok X G (s.d.fact 52 (f := .str "FIGURES" "0123456789") rfl)
theorem Ma.n_len (M : Ma K mg) : mg "len" = none :=
  by obtain ⟨h, X, G, s⟩ := M.ex; exact He.free_ok X G (s.d.fact 53 (f := .free "len") rfl)
theorem Ma.n_isinstance (M : Ma K mg) : mg "isinstance" = none :=
  by obtain ⟨h, X, G, s⟩ := M.ex; exact He.free_ok X G (s.d.fact 54 (f := .free "isinstance") rfl)
theorem Ma.n_all (M : Ma K mg) : mg "all" = none :=
  by obtain ⟨h, X, G, s⟩ := M.ex; exact He.free_ok X G (s.d.fact 55 (f := .free "all") rfl)
theorem Ma.n_int (M : Ma K mg) : mg "int" = none :=
  by obtain ⟨h, X, G, s⟩ := M.ex; exact He.free_ok X G (s.d.fact 56 (f := .free "int") rfl)
theorem Ma.n_bool (M : Ma K mg) : mg "bool" = none :=
  by obtain ⟨h, X, G, s⟩ := M.ex; exact He.free_ok X G (s.d.fact 57 (f := .free "bool") rfl)
theorem Ma.n_tuple (M : Ma K mg) : mg "tuple" = none :=
  by obtain ⟨h, X, G, s⟩ := M.ex; exact He.free_ok X G (s.d.fact 58 (f := .free "tuple") rfl)
theorem Ma.n_str (M : Ma K mg) : mg "str" = none :=
  by obtain ⟨h, X, G, s⟩ := M.ex; exact He.free_ok X G (s.d.fact 59 (f := .free "str") rfl)
theorem Ma.n_list (M : Ma K mg) : mg "list" = none :=
  by obtain ⟨h, X, G, s⟩ := M.ex; exact He.free_ok X G (s.d.fact 60 (f := .free "list") rfl)
theorem Ma.n_enumerate (M : Ma K mg) : mg "enumerate" = none :=
  by obtain ⟨h, X, G, s⟩ := M.ex; exact He.free_ok X G (s.d.fact 61 (f := .free "enumerate") rfl)
theorem Ma.n_range (M : Ma K mg) : mg "range" = none :=
  by obtain ⟨h, X, G, s⟩ := M.ex; exact He.free_ok X G (s.d.fact 62 (f := .free "range") rfl)
theorem Ma.n_zip (M : Ma K mg) : mg "zip" = none :=
  by obtain ⟨h, X, G, s⟩ := M.ex; exact He.free_ok X G (s.d.fact 63 (f := .free "zip") rfl)
theorem Ma.n_sorted (M : Ma K mg) : mg "sorted" = none :=
  by obtain ⟨h, X, G, s⟩ := M.ex; exact He.free_ok X G (s.d.fact 64 (f := .free "sorted") rfl)
theorem Ma.n_sum (M : Ma K mg) : mg "sum" = none :=
  by obtain ⟨h, X, G, s⟩ := M.ex; exact He.free_ok X G (s.d.fact 65 (f := .free "sum") rfl)
theorem Ma.n_min (M : Ma K mg) : mg "min" = none :=
  by obtain ⟨h, X, G, s⟩ := M.ex; exact He.free_ok X G (s.d.fact 66 (f := .free "min") rfl)
theorem Ma.n_max (M : Ma K mg) : mg "max" = none :=
  by obtain ⟨h, X, G, s⟩ := M.ex; exact He.free_ok X G (s.d.fact 67 (f := .free "max") rfl)
theorem Ma.n_repr (M : Ma K mg) : mg "repr" = none :=
  by obtain ⟨h, X, G, s⟩ := M.ex; exact He.free_ok X G (s.d.fact 68 (f := .free "repr") rfl)
theorem Ma.n_super (M : Ma K mg) : mg "super" = none :=
  by obtain ⟨h, X, G, s⟩ := M.ex; exact He.free_ok X G (s.d.fact 69 (f := .free "super") rfl)
theorem Ma.ns_super (M : Ma K mg) : PySem.W.nsIn K mainGlobals "super" = some none :=
  by obtain ⟨h, X, G, s⟩ := M.ex; exact He.eqO_ok (s.d.fact 69 (f := .free "super") rfl)
theorem Ma.n_ValueError (M : Ma K mg) : mg "ValueError" = none :=
  by obtain ⟨h, X, G, s⟩ := M.ex; exact He.free_ok X G (s.d.fact 70 (f := .free "ValueError") rfl)
theorem Ma.c_Words (M : Ma K mg) : Cls K (He.ga K "Words") :=
  by obtain ⟨h, X, G, s⟩ := M.ex; exact He.cls_ok (s.d.fact 71 (f := .cls "Words") rfl)
theorem Ma.no_Words_all_words (M : Ma K mg) : NoAttr K (He.ga K "Words") "all_words" :=
  by obtain ⟨h, X, G, s⟩ := M.ex; exact He.noat_ok (s.d.fact 72 (f := .noat "Words" "all_words") rfl)
theorem Ma.no_Words_row (M : Ma K mg) : NoAttr K (He.ga K "Words") "row" :=
  by obtain ⟨h, X, G, s⟩ := M.ex; exact He.noat_ok (s.d.fact 73 (f := .noat "Words" "row") rfl)
theorem Ma.no_Words_at (M : Ma K mg) : NoAttr K (He.ga K "Words") "at" :=
  by obtain ⟨h, X, G, s⟩ := M.ex; exact He.noat_ok (s.d.fact 74 (f := .noat "Words" "at") rfl)
theorem Ma.no_Words_rules (M : Ma K mg) : NoAttr K (He.ga K "Words") "rules" :=
  by obtain ⟨h, X, G, s⟩ := M.ex; exact He.noat_ok (s.d.fact 75 (f := .noat "Words" "rules") rfl)
theorem Ma.m_Words_next_word (M : Ma K mg) : Meth K (He.ga K "Words") "next_word" (He.ma K (He.ga K "Words") "next_word") :=
  by obtain ⟨h, X, G, s⟩ := M.ex; exact He.meth_ok (s.d.fact 76 (f := .meth "Words" "next_word") rfl)
theorem Ma.m_Words_whole (M : Ma K mg) : Meth K (He.ga K "Words") "whole" (He.ma K (He.ga K "Words") "whole") :=
  by obtain ⟨h, X, G, s⟩ := M.ex; exact He.meth_ok (s.d.fact 77 (f := .meth "Words" "whole") rfl)
theorem Ma.mk_Words (M : Ma K mg) : Mk K (He.ga K "Words") (He.ma K (He.ga K "Words") "__init__") :=
  by obtain ⟨h, X, G, s⟩ := M.ex; exact He.mkr_ok (s.d.fact 78 (f := .mkr "Words") rfl)
theorem Ma.x_BadFamily_BadFamily (M : Ma K mg) : PySem.W.exmOne K (.ref (He.ga K "BadFamily")) (.ref (He.ga K "BadFamily")) = some true :=
  by obtain ⟨h, X, G, s⟩ := M.ex; exact He.exm_ok (s.d.fact 79 (f := .exm "BadFamily" "BadFamily" true) rfl)
theorem Ma.x_BadFamily_BadText (M : Ma K mg) : PySem.W.exmOne K (.ref (He.ga K "BadFamily")) (.ref (He.ga K "BadText")) = some false :=
  by obtain ⟨h, X, G, s⟩ := M.ex; exact He.exm_ok (s.d.fact 80 (f := .exm "BadFamily" "BadText" false) rfl)
theorem Ma.x_BadFamily_BadLot (M : Ma K mg) : PySem.W.exmOne K (.ref (He.ga K "BadFamily")) (.ref (He.ga K "BadLot")) = some false :=
  by obtain ⟨h, X, G, s⟩ := M.ex; exact He.exm_ok (s.d.fact 81 (f := .exm "BadFamily" "BadLot" false) rfl)
theorem Ma.x_BadText_BadFamily (M : Ma K mg) : PySem.W.exmOne K (.ref (He.ga K "BadText")) (.ref (He.ga K "BadFamily")) = some false :=
  by obtain ⟨h, X, G, s⟩ := M.ex; exact He.exm_ok (s.d.fact 82 (f := .exm "BadText" "BadFamily" false) rfl)
theorem Ma.x_BadText_BadText (M : Ma K mg) : PySem.W.exmOne K (.ref (He.ga K "BadText")) (.ref (He.ga K "BadText")) = some true :=
  by obtain ⟨h, X, G, s⟩ := M.ex; exact He.exm_ok (s.d.fact 83 (f := .exm "BadText" "BadText" true) rfl)
theorem Ma.x_BadText_BadLot (M : Ma K mg) : PySem.W.exmOne K (.ref (He.ga K "BadText")) (.ref (He.ga K "BadLot")) = some false :=
  by obtain ⟨h, X, G, s⟩ := M.ex; exact He.exm_ok (s.d.fact 84 (f := .exm "BadText" "BadLot" false) rfl)
theorem Ma.x_BadLot_BadFamily (M : Ma K mg) : PySem.W.exmOne K (.ref (He.ga K "BadLot")) (.ref (He.ga K "BadFamily")) = some false :=
  by obtain ⟨h, X, G, s⟩ := M.ex; exact He.exm_ok (s.d.fact 85 (f := .exm "BadLot" "BadFamily" false) rfl)
theorem Ma.x_BadLot_BadText (M : Ma K mg) : PySem.W.exmOne K (.ref (He.ga K "BadLot")) (.ref (He.ga K "BadText")) = some false :=
  by obtain ⟨h, X, G, s⟩ := M.ex; exact He.exm_ok (s.d.fact 86 (f := .exm "BadLot" "BadText" false) rfl)
theorem Ma.x_BadLot_BadLot (M : Ma K mg) : PySem.W.exmOne K (.ref (He.ga K "BadLot")) (.ref (He.ga K "BadLot")) = some true :=
  by obtain ⟨h, X, G, s⟩ := M.ex; exact He.exm_ok (s.d.fact 87 (f := .exm "BadLot" "BadLot" true) rfl)
theorem Ma.d_IsInteger (M : Ma K mg) : ∃ fd, FunD K "is_integer" "is_integer" (defArgs sIsInteger) (defBody sIsInteger) (defScope sIsInteger) [] [] (He.ga K "is_integer") fd :=
  by obtain ⟨h, X, G, s⟩ := M.ex; exact s.d.def_ 0 (d := dIsInteger) rfl
theorem Ma.d_IsBetween (M : Ma K mg) : ∃ fd, FunD K "is_between" "is_between" (defArgs sIsBetween) (defBody sIsBetween) (defScope sIsBetween) [] [] (He.ga K "is_between") fd :=
  by obtain ⟨h, X, G, s⟩ := M.ex; exact s.d.def_ 1 (d := dIsBetween) rfl
theorem Ma.d_IsLot (M : Ma K mg) : ∃ fd, FunD K "is_lot" "is_lot" (defArgs sIsLot) (defBody sIsLot) (defScope sIsLot) [] [] (He.ga K "is_lot") fd :=
  by obtain ⟨h, X, G, s⟩ := M.ex; exact s.d.def_ 2 (d := dIsLot) rfl
theorem Ma.d_NeedLot (M : Ma K mg) : ∃ fd, FunD K "need_lot" "need_lot" (defArgs sNeedLot) (defBody sNeedLot) (defScope sNeedLot) [] [] (He.ga K "need_lot") fd :=
  by obtain ⟨h, X, G, s⟩ := M.ex; exact s.d.def_ 3 (d := dNeedLot) rfl
theorem Ma.d_FaultOfFamily (M : Ma K mg) : ∃ fd, FunD K "fault_of_family" "fault_of_family" (defArgs sFaultOfFamily) (defBody sFaultOfFamily) (defScope sFaultOfFamily) [] [] (He.ga K "fault_of_family") fd :=
  by obtain ⟨h, X, G, s⟩ := M.ex; exact s.d.def_ 4 (d := dFaultOfFamily) rfl
theorem Ma.d_NeedFamily (M : Ma K mg) : ∃ fd, FunD K "need_family" "need_family" (defArgs sNeedFamily) (defBody sNeedFamily) (defScope sNeedFamily) [] [] (He.ga K "need_family") fd :=
  by obtain ⟨h, X, G, s⟩ := M.ex; exact s.d.def_ 5 (d := dNeedFamily) rfl
theorem Ma.d_LineOf (M : Ma K mg) : ∃ fd, FunD K "line_of" "line_of" (defArgs sLineOf) (defBody sLineOf) (defScope sLineOf) [] [] (He.ga K "line_of") fd :=
  by obtain ⟨h, X, G, s⟩ := M.ex; exact s.d.def_ 6 (d := dLineOf) rfl
theorem Ma.d_LotText (M : Ma K mg) : ∃ fd, FunD K "lot_text" "lot_text" (defArgs sLotText) (defBody sLotText) (defScope sLotText) [] [] (He.ga K "lot_text") fd :=
  by obtain ⟨h, X, G, s⟩ := M.ex; exact s.d.def_ 7 (d := dLotText) rfl
theorem Ma.d_FamilyText (M : Ma K mg) : ∃ fd, FunD K "family_text" "family_text" (defArgs sFamilyText) (defBody sFamilyText) (defScope sFamilyText) [] [] (He.ga K "family_text") fd :=
  by obtain ⟨h, X, G, s⟩ := M.ex; exact s.d.def_ 8 (d := dFamilyText) rfl
theorem Ma.d_NumberIn (M : Ma K mg) : ∃ fd, FunD K "number_in" "number_in" (defArgs sNumberIn) (defBody sNumberIn) (defScope sNumberIn) [] [] (He.ga K "number_in") fd :=
  by obtain ⟨h, X, G, s⟩ := M.ex; exact s.d.def_ 9 (d := dNumberIn) rfl
theorem Ma.d_WordsInit (M : Ma K mg) : ∃ fd, FunD K "__init__" "Words.__init__" (defArgs sWordsInit) (defBody sWordsInit) (defScope sWordsInit) [] [] (He.ma K (He.ga K "Words") "__init__") fd :=
  by obtain ⟨h, X, G, s⟩ := M.ex; exact s.d.def_ 10 (d := dWordsInit) rfl
theorem Ma.d_NextWord (M : Ma K mg) : ∃ fd, FunD K "next_word" "Words.next_word" (defArgs sNextWord) (defBody sNextWord) (defScope sNextWord) [] [] (He.ma K (He.ga K "Words") "next_word") fd :=
  by obtain ⟨h, X, G, s⟩ := M.ex; exact s.d.def_ 11 (d := dNextWord) rfl
theorem Ma.d_Whole (M : Ma K mg) : ∃ fd, FunD K "whole" "Words.whole" (defArgs sWhole) (defBody sWhole) (defScope sWhole) [.non, .non] [] (He.ma K (He.ga K "Words") "whole") fd :=
  by obtain ⟨h, X, G, s⟩ := M.ex; exact s.d.def_ 12 (d := dWhole) rfl
theorem Ma.d_NeedText (M : Ma K mg) : ∃ fd, FunD K "need_text" "need_text" (defArgs sNeedText) (defBody sNeedText) (defScope sNeedText) [] [] (He.ga K "need_text") fd :=
  by obtain ⟨h, X, G, s⟩ := M.ex; exact s.d.def_ 13 (d := dNeedText) rfl
theorem Ma.d_LotIn (M : Ma K mg) : ∃ fd, FunD K "lot_in" "lot_in" (defArgs sLotIn) (defBody sLotIn) (defScope sLotIn) [] [] (He.ga K "lot_in") fd :=
  by obtain ⟨h, X, G, s⟩ := M.ex; exact s.d.def_ 14 (d := dLotIn) rfl
theorem Ma.d_NeedLines (M : Ma K mg) : ∃ fd, FunD K "need_lines" "need_lines" (defArgs sNeedLines) (defBody sNeedLines) (defScope sNeedLines) [] [] (He.ga K "need_lines") fd :=
  by obtain ⟨h, X, G, s⟩ := M.ex; exact s.d.def_ 15 (d := dNeedLines) rfl
theorem Ma.d_ReadLot (M : Ma K mg) : ∃ fd, FunD K "read_lot" "read_lot" (defArgs sReadLot) (defBody sReadLot) (defScope sReadLot) [] [] (He.ga K "read_lot") fd :=
  by obtain ⟨h, X, G, s⟩ := M.ex; exact s.d.def_ 16 (d := dReadLot) rfl
theorem Ma.d_ReadFamily (M : Ma K mg) : ∃ fd, FunD K "read_family" "read_family" (defArgs sReadFamily) (defBody sReadFamily) (defScope sReadFamily) [] [] (He.ga K "read_family") fd :=
  by obtain ⟨h, X, G, s⟩ := M.ex; exact s.d.def_ 17 (d := dReadFamily) rfl
theorem Ma.d_LawMixed (M : Ma K mg) : ∃ fd, FunD K "_law_mixed" "_law_mixed" (defArgs sLawMixed) (defBody sLawMixed) (defScope sLawMixed) [] [] (He.ga K "_law_mixed") fd :=
  by obtain ⟨h, X, G, s⟩ := M.ex; exact s.d.def_ 18 (d := dLawMixed) rfl
theorem Ma.d_LawBegin (M : Ma K mg) : ∃ fd, FunD K "_law_begin" "_law_begin" (defArgs sLawBegin) (defBody sLawBegin) (defScope sLawBegin) [] [] (He.ga K "_law_begin") fd :=
  by obtain ⟨h, X, G, s⟩ := M.ex; exact s.d.def_ 19 (d := dLawBegin) rfl
theorem Ma.d_LawDraw (M : Ma K mg) : ∃ fd, FunD K "_law_draw" "_law_draw" (defArgs sLawDraw) (defBody sLawDraw) (defScope sLawDraw) [] [] (He.ga K "_law_draw") fd :=
  by obtain ⟨h, X, G, s⟩ := M.ex; exact s.d.def_ 20 (d := dLawDraw) rfl
theorem Ma.d_LawOf (M : Ma K mg) : ∃ fd, FunD K "_law_of" "_law_of" (defArgs sLawOf) (defBody sLawOf) (defScope sLawOf) [] [] (He.ga K "_law_of") fd :=
  by obtain ⟨h, X, G, s⟩ := M.ex; exact s.d.def_ 21 (d := dLawOf) rfl
theorem Ma.d_LawSum (M : Ma K mg) : ∃ fd, FunD K "_law_sum" "_law_sum" (defArgs sLawSum) (defBody sLawSum) (defScope sLawSum) [] [] (He.ga K "_law_sum") fd :=
  by obtain ⟨h, X, G, s⟩ := M.ex; exact s.d.def_ 22 (d := dLawSum) rfl
theorem Ma.d_LawWeb (M : Ma K mg) : ∃ fd, FunD K "_law_web" "_law_web" (defArgs sLawWeb) (defBody sLawWeb) (defScope sLawWeb) [] [] (He.ga K "_law_web") fd :=
  by obtain ⟨h, X, G, s⟩ := M.ex; exact s.d.def_ 23 (d := dLawWeb) rfl
theorem Ma.d_LawBox (M : Ma K mg) : ∃ fd, FunD K "_law_box" "_law_box" (defArgs sLawBox) (defBody sLawBox) (defScope sLawBox) [] [] (He.ga K "_law_box") fd :=
  by obtain ⟨h, X, G, s⟩ := M.ex; exact s.d.def_ 24 (d := dLawBox) rfl
theorem Ma.d_LawInBox (M : Ma K mg) : ∃ fd, FunD K "_law_in_box" "_law_in_box" (defArgs sLawInBox) (defBody sLawInBox) (defScope sLawInBox) [] [] (He.ga K "_law_in_box") fd :=
  by obtain ⟨h, X, G, s⟩ := M.ex; exact s.d.def_ 25 (d := dLawInBox) rfl
theorem Ma.d_LawOne (M : Ma K mg) : ∃ fd, FunD K "_law_one" "_law_one" (defArgs sLawOne) (defBody sLawOne) (defScope sLawOne) [] [] (He.ga K "_law_one") fd :=
  by obtain ⟨h, X, G, s⟩ := M.ex; exact s.d.def_ 26 (d := dLawOne) rfl
theorem Ma.d_LawFamily (M : Ma K mg) : ∃ fd, FunD K "_law_family" "_law_family" (defArgs sLawFamily) (defBody sLawFamily) (defScope sLawFamily) [] [] (He.ga K "_law_family") fd :=
  by obtain ⟨h, X, G, s⟩ := M.ex; exact s.d.def_ 27 (d := dLawFamily) rfl
theorem Ma.d_LawBase (M : Ma K mg) : ∃ fd, FunD K "_law_base" "_law_base" (defArgs sLawBase) (defBody sLawBase) (defScope sLawBase) [] [] (He.ga K "_law_base") fd :=
  by obtain ⟨h, X, G, s⟩ := M.ex; exact s.d.def_ 28 (d := dLawBase) rfl
theorem Ma.d_LawSmall (M : Ma K mg) : ∃ fd, FunD K "_law_small" "_law_small" (defArgs sLawSmall) (defBody sLawSmall) (defScope sLawSmall) [] [] (He.ga K "_law_small") fd :=
  by obtain ⟨h, X, G, s⟩ := M.ex; exact s.d.def_ 29 (d := dLawSmall) rfl
theorem Ma.d_LawTerm (M : Ma K mg) : ∃ fd, FunD K "_law_term" "_law_term" (defArgs sLawTerm) (defBody sLawTerm) (defScope sLawTerm) [] [] (He.ga K "_law_term") fd :=
  by obtain ⟨h, X, G, s⟩ := M.ex; exact s.d.def_ 30 (d := dLawTerm) rfl
theorem Ma.d_LawLots (M : Ma K mg) : ∃ fd, FunD K "_law_lots" "_law_lots" (defArgs sLawLots) (defBody sLawLots) (defScope sLawLots) [] [] (He.ga K "_law_lots") fd :=
  by obtain ⟨h, X, G, s⟩ := M.ex; exact s.d.def_ 31 (d := dLawLots) rfl
theorem Ma.d_LawNumber (M : Ma K mg) : ∃ fd, FunD K "_law_number" "_law_number" (defArgs sLawNumber) (defBody sLawNumber) (defScope sLawNumber) [] [] (He.ga K "_law_number") fd :=
  by obtain ⟨h, X, G, s⟩ := M.ex; exact s.d.def_ 32 (d := dLawNumber) rfl
theorem Ma.d_LawLine (M : Ma K mg) : ∃ fd, FunD K "_law_line" "_law_line" (defArgs sLawLine) (defBody sLawLine) (defScope sLawLine) [] [] (He.ga K "_law_line") fd :=
  by obtain ⟨h, X, G, s⟩ := M.ex; exact s.d.def_ 33 (d := dLawLine) rfl
theorem Ma.d_LawBent (M : Ma K mg) : ∃ fd, FunD K "_law_bent" "_law_bent" (defArgs sLawBent) (defBody sLawBent) (defScope sLawBent) [] [] (He.ga K "_law_bent") fd :=
  by obtain ⟨h, X, G, s⟩ := M.ex; exact s.d.def_ 34 (d := dLawBent) rfl
theorem Ma.d_LawLotLine (M : Ma K mg) : ∃ fd, FunD K "_law_lot_line" "_law_lot_line" (defArgs sLawLotLine) (defBody sLawLotLine) (defScope sLawLotLine) [] [] (He.ga K "_law_lot_line") fd :=
  by obtain ⟨h, X, G, s⟩ := M.ex; exact s.d.def_ 35 (d := dLawLotLine) rfl
theorem Ma.d_LawIsLot (M : Ma K mg) : ∃ fd, FunD K "_law_is_lot" "_law_is_lot" (defArgs sLawIsLot) (defBody sLawIsLot) (defScope sLawIsLot) [] [] (He.ga K "_law_is_lot") fd :=
  by obtain ⟨h, X, G, s⟩ := M.ex; exact s.d.def_ 36 (d := dLawIsLot) rfl
theorem Ma.d_LawHeard (M : Ma K mg) : ∃ fd, FunD K "_law_heard" "_law_heard" (defArgs sLawHeard) (defBody sLawHeard) (defScope sLawHeard) [] [] (He.ga K "_law_heard") fd :=
  by obtain ⟨h, X, G, s⟩ := M.ex; exact s.d.def_ 37 (d := dLawHeard) rfl
theorem Ma.d_LawDueLot (M : Ma K mg) : ∃ fd, FunD K "_law_due_lot" "_law_due_lot" (defArgs sLawDueLot) (defBody sLawDueLot) (defScope sLawDueLot) [] [] (He.ga K "_law_due_lot") fd :=
  by obtain ⟨h, X, G, s⟩ := M.ex; exact s.d.def_ 38 (d := dLawDueLot) rfl
theorem Ma.d_LawDueFamily (M : Ma K mg) : ∃ fd, FunD K "_law_due_family" "_law_due_family" (defArgs sLawDueFamily) (defBody sLawDueFamily) (defScope sLawDueFamily) [] [] (He.ga K "_law_due_family") fd :=
  by obtain ⟨h, X, G, s⟩ := M.ex; exact s.d.def_ 39 (d := dLawDueFamily) rfl
theorem Ma.d_LawReadRight (M : Ma K mg) : ∃ fd, FunD K "_law_read_right" "_law_read_right" (defArgs sLawReadRight) (defBody sLawReadRight) (defScope sLawReadRight) [] [] (He.ga K "_law_read_right") fd :=
  by obtain ⟨h, X, G, s⟩ := M.ex; exact s.d.def_ 40 (d := dLawReadRight) rfl
theorem Ma.d_LawHandTexts (M : Ma K mg) : ∃ fd, FunD K "_law_hand_texts" "_law_hand_texts" (defArgs sLawHandTexts) (defBody sLawHandTexts) (defScope sLawHandTexts) [] [] (He.ga K "_law_hand_texts") fd :=
  by obtain ⟨h, X, G, s⟩ := M.ex; exact s.d.def_ 41 (d := dLawHandTexts) rfl
theorem Ma.d_Law (M : Ma K mg) : ∃ fd, FunD K "law" "law" (defArgs sLaw) (defBody sLaw) (defScope sLaw) [] [] (He.ga K "law") fd :=
  by obtain ⟨h, X, G, s⟩ := M.ex; exact s.d.def_ 42 (d := dLaw) rfl
end
/-- a def of the top with its promise -/
structure Dn (P : Program) (w : World) (K : PySem.W.Frag) (mg : Str → Option Value) (base : Heap) (x : Str) (k : Nat) (ps : List Str) (sp : Sp) : Prop where
  ex : ∃ f fd, FnOk P w K mg base (L2.CX P w) k f fd ps sp ∧ mg x = some (.ref f) ∧ PySem.W.keepIn K (.ref f) = true ∧ Binds K fd ps []
section
variable {P : Program} {w : World} {K : PySem.W.Frag} {mg : Str → Option Value} {base : Heap} {x qual : Str} {params : Arguments} {body : List Stmt} {scope : Scope} {kws : List (Str × V)} {f : Addr} {fd : FuncData} {ps : List Str} {k : Nat} {sp : Sp}
theorem Dn.of (F : FunD K x qual params body scope [] [] f fd) (g : mg x = some (.ref f))
    (h : ∀ (kV doc pm : Value) (an : Option Addr) (cdv ct : Value) (us : List Value), us.length = ps.length → bindArgs (PySem.W.fnOf x qual params body scope .none kV doc pm an cdv ct) ⟨us, []⟩ = pure (ps.zip us))
    (G : FnOk P w K mg base (L2.CX P w) k f fd ps sp) : Dn P w K mg base x k ps sp := ⟨f, fd, G, g, F.kp, F.bindsN h⟩
theorem Dn.mono {j : Nat} (D : Dn P w K mg base x j ps sp) (h : j ≤ k) : Dn P w K mg base x k ps sp := by
  obtain ⟨f, fd, G, r⟩ := D.ex
  exact ⟨f, fd, G.mono h, r⟩
theorem Dn.imp {sp' : Sp} (D : Dn P w K mg base x k ps sp) (h : ∀ vs H Q E, sp' vs H Q E → sp vs H Q E) : Dn P w K mg base x k ps sp' := by
  obtain ⟨f, fd, G, r⟩ := D.ex
  exact ⟨f, fd, G.imp h, r⟩
end
section
variable {X : Cx} {x : Str} {k : Nat} {ps : List Str} {sp : Sp} {E : XK} {e : Expr} {es : List Expr} {p pos : Pos} {t : TA}
theorem pe_dn (D : Dn X.prog X.w X.K X.mg X.base x k ps sp) (hr : Room k X.A) (hx : Passes (L2.CX X.prog X.w) X E) (ha : PA X (e :: es) t) (hg : Gl X x := by rfl)
    (hdb : (x == ("__debug__" : Str)) = false := by decide) (he : starEach (e :: es) X.env = (false, eval e X.env) :: starEach es X.env := by rfl) (hpl : (backTo pos (starEach es X.env)).any (·.1) = false := by rfl) :
    PE X (.Call (.Name x p) (e :: es) [] pos) (tCall sp [] E t) := by
  obtain ⟨f, fd, G, hm, hk, hb⟩ := D.ex
  exact pe_call G hr hg hm hk hb .nil hx ha hdb he hpl
theorem pe_dn0 (D : Dn X.prog X.w X.K X.mg X.base x k ps sp) (hr : Room k X.A) (hx : Passes (L2.CX X.prog X.w) X E) (hg : Gl X x := by rfl)
    (hdb : (x == ("__debug__" : Str)) = false := by decide) : PE X (.Call (.Name x p) [] [] pos) (tCall sp [] E tNil) := by
  obtain ⟨f, fd, G, hm, hk, hb⟩ := D.ex
  exact pe_call0 G hr hg hm hk hb .nil hx hdb
theorem pe_dnS {Es : L2.St → XK} (D : Dn X.prog X.w X.K X.mg X.base x k ps sp) (hr : Room k X.A) (hx : ∀ σ, PassesAt (L2.CX X.prog X.w) X σ (Es σ)) (ha : PA X (e :: es) t) (hg : Gl X x := by rfl)
    (hdb : (x == ("__debug__" : Str)) = false := by decide) (he : starEach (e :: es) X.env = (false, eval e X.env) :: starEach es X.env := by rfl) (hpl : (backTo pos (starEach es X.env)).any (·.1) = false := by rfl) :
    PE X (.Call (.Name x p) (e :: es) [] pos) (tCallS sp Es t) := by
  obtain ⟨f, fd, G, hm, hk, hb⟩ := D.ex
  exact pe_callS G hr hg hm hk hb hx ha hdb he hpl
end
end SL
end
section
set_option Elab.async false
set_option linter.all false
set_option maxRecDepth 100000
set_option maxHeartbeats 2000000
namespace SL
open PySem PySem.Spec PyProof.Rows L2
theorem scIsInteger : FnScope ["thing"] ["thing"] (defScope sIsInteger) := ⟨rfl, rfl, rfl, by decide +kernel, rfl, by decide +kernel, by decide +kernel⟩
theorem scIsBetween : FnScope ["thing", "least", "most"] ["thing", "least", "most"] (defScope sIsBetween) := ⟨rfl, rfl, rfl, by decide +kernel, rfl, by decide +kernel, by decide +kernel⟩
theorem scIsLot : FnScope ["thing", "part"] ["thing"] (defScope sIsLot) := ⟨rfl, rfl, rfl, by decide +kernel, rfl, by decide +kernel, by decide +kernel⟩
theorem scNeedLot : FnScope ["thing"] ["thing"] (defScope sNeedLot) := ⟨rfl, rfl, rfl, by decide +kernel, rfl, by decide +kernel, by decide +kernel⟩
theorem scFaultOfFamily : FnScope ["thing", "number", "lot"] ["thing"] (defScope sFaultOfFamily) := ⟨rfl, rfl, rfl, by decide +kernel, rfl, by decide +kernel, by decide +kernel⟩
theorem scNeedFamily : FnScope ["thing", "number"] ["thing"] (defScope sNeedFamily) := ⟨rfl, rfl, rfl, by decide +kernel, rfl, by decide +kernel, by decide +kernel⟩
theorem scLineOf : FnScope ["things", "thing"] ["things"] (defScope sLineOf) := ⟨rfl, rfl, rfl, by decide +kernel, rfl, by decide +kernel, by decide +kernel⟩
theorem scLotText : FnScope ["lot"] ["lot"] (defScope sLotText) := ⟨rfl, rfl, rfl, by decide +kernel, rfl, by decide +kernel, by decide +kernel⟩
theorem scFamilyText : FnScope ["family", "lot"] ["family"] (defScope sFamilyText) := ⟨rfl, rfl, rfl, by decide +kernel, rfl, by decide +kernel, by decide +kernel⟩
theorem scNumberIn : FnScope ["word", "figures", "figure"] ["word"] (defScope sNumberIn) := ⟨rfl, rfl, rfl, by decide +kernel, rfl, by decide +kernel, by decide +kernel⟩
theorem scWordsInit : FnScope ["self", "line", "row"] ["self", "line", "row"] (defScope sWordsInit) := ⟨rfl, rfl, rfl, by decide +kernel, rfl, by decide +kernel, by decide +kernel⟩
theorem scNextWord : FnScope ["self"] ["self"] (defScope sNextWord) := ⟨rfl, rfl, rfl, by decide +kernel, rfl, by decide +kernel, by decide +kernel⟩
theorem scWhole : FnScope ["self", "least", "most", "word", "found"] ["self", "least", "most"] (defScope sWhole) := ⟨rfl, rfl, rfl, by decide +kernel, rfl, by decide +kernel, by decide +kernel⟩
theorem scNeedText : FnScope ["text"] ["text"] (defScope sNeedText) := ⟨rfl, rfl, rfl, by decide +kernel, rfl, by decide +kernel, by decide +kernel⟩
theorem scLotIn : FnScope ["line", "row", "words", "found"] ["line", "row"] (defScope sLotIn) := ⟨rfl, rfl, rfl, by decide +kernel, rfl, by decide +kernel, by decide +kernel⟩
theorem scNeedLines : FnScope ["lines", "most"] ["lines", "most"] (defScope sNeedLines) := ⟨rfl, rfl, rfl, by decide +kernel, rfl, by decide +kernel, by decide +kernel⟩
theorem scReadLot : FnScope ["text", "lines", "found"] ["text"] (defScope sReadLot) := ⟨rfl, rfl, rfl, by decide +kernel, rfl, by decide +kernel, by decide +kernel⟩
theorem scReadFamily : FnScope ["text", "row", "line"] ["text"] (defScope sReadFamily) := ⟨rfl, rfl, rfl, by decide +kernel, rfl, by decide +kernel, by decide +kernel⟩
theorem scLawMixed : FnScope ["_law_cell", "_law_k"] ["_law_cell", "_law_k"] (defScope sLawMixed) := ⟨rfl, rfl, rfl, by decide +kernel, rfl, by decide +kernel, by decide +kernel⟩
theorem scLawBegin : FnScope ["_law_script", "_law_cells", "_law_cell"] ["_law_script"] (defScope sLawBegin) := ⟨rfl, rfl, rfl, by decide +kernel, rfl, by decide +kernel, by decide +kernel⟩
theorem scLawDraw : FnScope ["_law_state", "_law_many", "_law_at", "_law_place", "_law_left", "_law_number_here"] ["_law_state", "_law_many"] (defScope sLawDraw) := ⟨rfl, rfl, rfl, by decide +kernel, rfl, by decide +kernel, by decide +kernel⟩
theorem scLawOf : FnScope ["_law_state", "_law_some"] ["_law_state", "_law_some"] (defScope sLawOf) := ⟨rfl, rfl, rfl, by decide +kernel, rfl, by decide +kernel, by decide +kernel⟩
theorem scLawSum : FnScope ["_law_one_here", "_law_other", "_law_mine", "_law_yours"] ["_law_one_here", "_law_other"] (defScope sLawSum) := ⟨rfl, rfl, rfl, by decide +kernel, rfl, by decide +kernel, by decide +kernel⟩
theorem scLawWeb : FnScope ["_law_places", "_law_ties", "_law_rows", "_law_one_here", "_law_other", "_law_longer", "_law_row", "_law_lot"] ["_law_places", "_law_ties"] (defScope sLawWeb) := ⟨rfl, rfl, rfl, by decide +kernel, rfl, by decide +kernel, by decide +kernel⟩
theorem scLawBox : FnScope ["_law_least", "_law_greatest", "_law_rows", "_law_low", "_law_high", "_law_longer", "_law_row", "_law_part"] ["_law_least", "_law_greatest"] (defScope sLawBox) := ⟨rfl, rfl, rfl, by decide +kernel, rfl, by decide +kernel, by decide +kernel⟩
theorem scLawInBox : FnScope ["_law_lot", "_law_least", "_law_greatest", "_law_part", "_law_low", "_law_high"] ["_law_lot", "_law_least", "_law_greatest"] (defScope sLawInBox) := ⟨rfl, rfl, rfl, by decide +kernel, rfl, by decide +kernel, by decide +kernel⟩
theorem scLawOne : FnScope ["_law_term_here", "_law_lot", "_law_word", "_law_spot"] ["_law_term_here", "_law_lot"] (defScope sLawOne) := ⟨rfl, rfl, rfl, by decide +kernel, rfl, by decide +kernel, by decide +kernel⟩
theorem scLawFamily : FnScope ["_law_term_here", "_law_rows", "_law_lots_here", "_law_got", "_law_one_here", "_law_other", "_law_lot", "_law_row"] ["_law_term_here"] (defScope sLawFamily) := ⟨rfl, rfl, rfl, by decide +kernel, rfl, by decide +kernel, by decide +kernel⟩
theorem scLawBase : FnScope ["_law_state", "_law_places", "_law_choice", "_law_least", "_law_high", "_law_some", "_law_ties", "_law_k", "_law_one_here", "_law_other", "_law_low"] ["_law_state", "_law_places"] (defScope sLawBase) := ⟨rfl, rfl, rfl, by decide +kernel, rfl, by decide +kernel, by decide +kernel⟩
theorem scLawSmall : FnScope ["_law_term_here", "_law_base_here", "_law_most"] ["_law_term_here", "_law_base_here", "_law_most"] (defScope sLawSmall) := ⟨rfl, rfl, rfl, by decide +kernel, rfl, by decide +kernel, by decide +kernel⟩
theorem scLawTerm : FnScope ["_law_state", "_law_places", "_law_deep", "_law_most", "_law_base_here", "_law_choice", "_law_term_here", "_law_near", "_law_part", "_law_spot", "_law_lot", "_law_some", "_law_least", "_law_k", "_law_number_here"] ["_law_state", "_law_places", "_law_deep", "_law_most"] (defScope sLawTerm) := ⟨rfl, rfl, rfl, by decide +kernel, rfl, by decide +kernel, by decide +kernel⟩
theorem scLawLots : FnScope ["_law_state", "_law_places", "_law_most", "_law_lots_here", "_law_choice", "_law_spot", "_law_more", "_law_number_here"] ["_law_state", "_law_places", "_law_most"] (defScope sLawLots) := ⟨rfl, rfl, rfl, by decide +kernel, rfl, by decide +kernel, by decide +kernel⟩
theorem scLawNumber : FnScope ["_law_word", "_law_figures", "_law_figure"] ["_law_word"] (defScope sLawNumber) := ⟨rfl, rfl, rfl, by decide +kernel, rfl, by decide +kernel, by decide +kernel⟩
theorem scLawLine : FnScope ["_law_things", "_law_thing"] ["_law_things"] (defScope sLawLine) := ⟨rfl, rfl, rfl, by decide +kernel, rfl, by decide +kernel, by decide +kernel⟩
theorem scLawBent : FnScope ["_law_state", "_law_text", "_law_signs", "_law_choice", "_law_spot", "_law_lines", "_law_row", "_law_bits", "_law_place", "_law_some", "_law_word", "_law_fresh"] ["_law_state", "_law_text"] (defScope sLawBent) := ⟨rfl, rfl, rfl, by decide +kernel, rfl, by decide +kernel, by decide +kernel⟩
theorem scLawLotLine : FnScope ["_law_line_here", "_law_row", "_law_found", "_law_place", "_law_word", "_law_number_here"] ["_law_line_here", "_law_row"] (defScope sLawLotLine) := ⟨rfl, rfl, rfl, by decide +kernel, rfl, by decide +kernel, by decide +kernel⟩
theorem scLawIsLot : FnScope ["_law_row", "_law_number_here"] ["_law_row"] (defScope sLawIsLot) := ⟨rfl, rfl, rfl, by decide +kernel, rfl, by decide +kernel, by decide +kernel⟩
theorem scLawHeard : FnScope ["_law_call", "error"] ["_law_call"] (defScope sLawHeard) := ⟨rfl, rfl, rfl, by decide +kernel, rfl, by decide +kernel, by decide +kernel⟩
theorem scLawDueLot : FnScope ["_law_text", "_law_lines", "_law_row"] ["_law_text"] (defScope sLawDueLot) := ⟨rfl, rfl, rfl, by decide +kernel, rfl, by decide +kernel, by decide +kernel⟩
theorem scLawDueFamily : FnScope ["_law_text", "_law_rows", "_law_number_here", "_law_line_here", "_law_row"] ["_law_text"] (defScope sLawDueFamily) := ⟨rfl, rfl, rfl, by decide +kernel, rfl, by decide +kernel, by decide +kernel⟩
theorem scLawReadRight : FnScope ["_law_text", "_law_told"] ["_law_text"] (defScope sLawReadRight) := ⟨rfl, rfl, rfl, by decide +kernel, rfl, by decide +kernel, by decide +kernel⟩
theorem scLawHandTexts : FnScope ["_law_some"] [] (defScope sLawHandTexts) := ⟨rfl, rfl, rfl, by decide +kernel, rfl, by decide +kernel, by decide +kernel⟩
theorem scLaw : FnScope ["_law_script", "_law_state", "_law_turn", "_law_places", "_law_lots_here", "_law_lot", "_law_text", "_law_near", "_law_again", "_law_wide", "_law_rows", "_law_k", "_law_row", "_law_number_here"] ["_law_script"] (defScope sLaw) := ⟨rfl, rfl, rfl, by decide +kernel, rfl, by decide +kernel, by decide +kernel⟩
end SL
end
section
set_option Elab.async false
set_option linter.all false
set_option maxRecDepth 100000
set_option maxHeartbeats 2000000
/-! Plain mathematics: the order of lots, lots, families, their texts. -/
namespace SL
open PySem PySem.Spec PyProof.Rows L2 Evl
/-! ### lots -/
def isBet (a b c : Int) : Bool := decide (b ≤ a) && decide (a ≤ c)
def isLot (ns : List Int) : Bool := decide (1 ≤ ns.length) && decide (ns.length ≤ 5) && ns.all fun n => isBet n (-99) 99
/-- a <= b of tuples of numbers -/
def leT : List Int → List Int → Bool
  | [], _ => true
  | _ :: _, [] => false
  | x :: xs, y :: ys => if x = y then leT xs ys else decide (x ≤ y)
theorem lexAt_drop (ns ms : List Int) : ∀ (k i : Nat), i + k = min ns.length ms.length →
    Ob.lexAt (fun j => decide (ns.getD j 0 = ms.getD j 0)) (fun j => decide (ns.getD j 0 ≤ ms.getD j 0)) (decide (ns.length ≤ ms.length)) i k = leT (ns.drop i) (ms.drop i)
  | 0, i, h => by
    rw [Ob.lexAt_zero]
    by_cases hl : ns.length ≤ ms.length
    · rw [List.drop_eq_nil_of_le (by omega : ns.length ≤ i)]
      simp [leT, hl]
    · rw [List.drop_eq_nil_of_le (by omega : ms.length ≤ i), List.drop_eq_getElem_cons (by omega : i < ns.length)]
      simp [leT, hl]
  | k + 1, i, h => by
    rw [Ob.lexAt_succ, List.drop_eq_getElem_cons (by omega : i < ns.length), List.drop_eq_getElem_cons (by omega : i < ms.length)]
    have e1 : ns.getD i 0 = ns[i]'(by omega) := by simp [List.getD, List.getElem?_eq_getElem (by omega : i < ns.length)]
    have e2 : ms.getD i 0 = ms[i]'(by omega) := by simp [List.getD, List.getElem?_eq_getElem (by omega : i < ms.length)]
    rw [e1, e2]
    show _ = if _ then _ else _
    rw [lexAt_drop ns ms k (i + 1) (by omega)]
    simp
theorem lexAt_leT (ns ms : List Int) : Ob.lexAt (fun j => decide (ns.getD j 0 = ms.getD j 0)) (fun j => decide (ns.getD j 0 ≤ ms.getD j 0)) (decide (ns.length ≤ ms.length)) 0 (min ns.length ms.length) = leT ns ms :=
  lexAt_drop ns ms _ 0 (by omega)
/-! ### families -/
/-- the lot at i is a bad one of rows -/
def badAt (rows : List (List Int)) (i : Nat) : Bool := !isLot (rows.getD i []) || (decide (0 < i) && (decide ((rows.getD i []).length ≠ (rows.getD 0 []).length) || leT (rows.getD i []) (rows.getD (i - 1) [])))
/-- none: a family; some none: as many lots are none; some (some i): the bad lot -/
def famFault (rows : List (List Int)) : Option (Option Nat) :=
  if rows.length = 0 ∨ 200 < rows.length then some none else ((List.range rows.length).find? (badAt rows)).map some
/-! ### texts -/
def numT (n : Int) : Str := Str.ofString (toString n)
def lineT (ns : List Int) : Str := Txt.join " " (ns.map numT)
def famT (rows : List (List Int)) : Str := Txt.join "\n" (rows.map lineT)
theorem numT_small : ∀ i : Nat, i < 2001 → (numT ((i : Int) - 1000)).length ≤ 5 := by decide +kernel
theorem numT_len {n : Int} (h : -1000 ≤ n ∧ n ≤ 1000) : (numT n).length ≤ 5 := by
  have := numT_small (n + 1000).toNat (by omega)
  rw [show (((n + 1000).toNat : Nat) : Int) - 1000 = n by omega] at this
  exact this
theorem join_len (sep : Str) (ts : List Str) : (Txt.join sep ts).length ≤ (ts.map (·.length)).sum + ts.length * sep.length := by
  rw [TL.join_eq]
  exact StrLaws.join_length_le sep ts
theorem sum_le {α : Type} (f : α → Nat) (k : Nat) : ∀ xs : List α, (∀ x ∈ xs, f x ≤ k) → (xs.map f).sum ≤ xs.length * k
  | [], _ => by simp
  | x :: xs, h => by
    have h1 := h x (by simp)
    have h2 := sum_le f k xs fun y hy => h y (by simp [hy])
    simp only [List.map_cons, List.sum_cons, List.length_cons, Nat.succ_mul]
    omega
theorem lineT_len {ns : List Int} (h : ∀ n ∈ ns, -1000 ≤ n ∧ n ≤ 1000) : (lineT ns).length ≤ ns.length * 6 := by
  have h1 := join_len " " (ns.map numT)
  have h2 := sum_le (fun n => (numT n).length) 5 ns fun n hn => numT_len (h n hn)
  have h3 : (" " : Str).length = 1 := rfl
  rw [List.map_map, List.length_map, h3] at h1
  have h4 : (ns.map ((fun s : Str => s.length) ∘ numT)).sum = (ns.map fun n => (numT n).length).sum := rfl
  rw [h4] at h1
  unfold lineT
  omega
end SL
end
section
set_option Elab.async false
set_option linter.all false
set_option maxRecDepth 100000
set_option maxHeartbeats 2000000
/-! Helpers: what more evaluates to what (Evl). -/
namespace SL
open PySem PySem.Spec PyProof.Rows L2 Evl
section
variable {K : PySem.W.Frag} {σ : L2.St} {H H' : Hp} {ta tb te tx tc : TE} {t u : TT} {x y z v : V} {r : R2}
theorem ty_tup {a : Addr} {xs : List V} (h : SqT K H a xs) : TyX K H (.ref a) (.type "tuple") := by
  rcases h with (h | ⟨o, h⟩) | ⟨o, its, n, h, hc, _⟩
  · exact .base (.tup h)
  · exact .fTuple h
  · exact .kTuple h hc
theorem ty_list {a : Addr} {xs : List V} (h : SqL K H a xs) : TyX K H (.ref a) (.type "list") := by
  rcases h with (h | ⟨o, h⟩) | ⟨o, its, n, h, hc, _⟩
  · exact .base (.lst h)
  · exact .base (.frz h)
  · exact .kList h hc
theorem ev_isi {c : V} {tv uv : Value} {b : Bool} (hx : Ev ta σ H x) (hc : Ev tb σ H c) (k : ClsV c uv) (ty : ∀ H1, Ex H H1 → TyX K H1 x tv) (e : PySem.W.kitOne K tv uv = some b) :
    Ev (tCB (rIsi K) (tCons ta (tCons tb tNil))) σ H (.bl b) := fun H1 e1 Q q =>
  hx H1 e1 _ fun H2 e2 => hc H2 (e1.trans e2) _ fun H3 e3 => ⟨x, c, tv, uv, b, rfl, k, ty H3 ((e1.trans e2).trans e3), e, q H3 (e2.trans e3)⟩
/-- a <= b <= c of numbers -/
theorem ev_chainI {p q : Int → Int → Bool} {i j k : Int} (h1 : Ev ta σ H (.int i)) (h2 : Ev tb σ H (.int j)) (h3 : Ev tc σ H (.int k)) :
    Ev (tChain (rI0 fun i j => .bl (p i j)) (rI0 fun i j => .bl (q i j)) ta tb tc) σ H (.bl (p i j && q j k)) := fun H1 e1 Q qq =>
  h1 H1 e1 _ fun H2 e2 => h2 H2 (e1.trans e2) _ fun H3 e3 => ⟨i, j, rfl, rfl, p i j, rfl, by
    cases hp : p i j with
    | true =>
      rw [hp] at qq
      exact h3 H3 ((e1.trans e2).trans e3) _ fun H4 e4 => ⟨j, k, rfl, rfl, qq H4 ((e2.trans e3).trans e4)⟩
    | false =>
      rw [hp] at qq
      exact qq H3 (e2.trans e3)⟩
theorem ev_lenT {p : Addr} {xs : List V} (ha : Ev ta σ H (.ref p)) (h : SqT K H p xs) : Ev (tCB (rLenS K) (tCons ta tNil)) σ H (.int (xs.length : Int)) := fun H1 e Q q =>
  ha H1 e _ fun H2 e2 => ⟨p, xs, rfl, Or.inr (ex_t (e.trans e2) h), q H2 e2⟩
theorem ev_sub {i j : Int} (ha : Ev ta σ H (.int i)) (hb : Ev tb σ H (.int j)) : Ev (tOp (rI0 fun i j => .int (i - j)) ta tb) σ H (.int (i - j)) := ev_op ha hb (rv_I0 (g := fun i j => .int (i - j)))
theorem ev_add {i j : Int} (ha : Ev ta σ H (.int i)) (hb : Ev tb σ H (.int j)) : Ev (tOp (rI0 fun i j => .int (i + j)) ta tb) σ H (.int (i + j)) := ev_op ha hb (rv_I0 (g := fun i j => .int (i + j)))
/-- all(..) of a new list -/
def rAllS (K : PySem.W.Frag) : List V → Hp → VK → Prop := fun xs H Q => ∃ (a : Addr) (bs : List Bool), xs = [.ref a] ∧ SqL K H a (bs.map V.bl) ∧ Q (.bl (bs.all id)) H
/-- the given ones where all are -/
theorem given_all (n : Nat) (v : Nat → V) : given n (fun _ => true) v = (List.range n).map v := by
  unfold given
  rw [List.filter_eq_self.mpr (fun _ _ => rfl)]
theorem given_map {α : Type} (xs : List α) (f : α → V) (v : Nat → V) (h : ∀ (i : Nat) (x : α), xs[i]? = some x → v i = f x) : given xs.length (fun _ => true) v = xs.map f := by
  rw [given_all]
  apply List.ext_getElem
  · simp
  · intro i h1 h2
    simp at h1 h2 ⊢
    exact h i xs[i] (by simp [h2])
/-- [e for x in t] of a tuple -/
theorem el_lcT {a : Addr} {xs : List V} {tl : TE} {j : Nat} {vs : List Nat} (f : Nat → Bool) (v : Nat → V) (h : Ev tl σ H (.ref a)) (hx : SqT K H a xs) (hz : xs.length ≤ 40000) (hw : ∀ x, wipe ((wipe σ vs).set j (some x)) vs = wipe σ vs)
    (ht : ∀ (i : Nat) (x : V) H1, Ex H H1 → xs[i]? = some x → EvT t ((wipe σ vs).set j (some x)) H1 (f i)) (he : ∀ (i : Nat) (x : V) H1, Ex H H1 → xs[i]? = some x → f i = true → Ev te ((wipe σ vs).set j (some x)) H1 (v i)) :
    EvL (tLc (iTup K tl) (gName j) t te vs) σ H (given xs.length f v) := fun H0 e Q q => h H0 e _ fun H1 e1 => ⟨a, rfl, ⟨xs, ex_t (e.trans e1) hx⟩, fun Dl hD =>
  lc_tup (xs := xs) (Cw H1 f v Dl) ⟨hD, Ex.new hD, upd_same⟩ (fun i H' _ p => ex_t ((e.trans e1).trans p.2.1) hx) (fun i x H' hi p => ⟨hw x, cw_turn p (by have := (List.getElem?_eq_some_iff.mp hi).1; omega) (ht i x H1 (e.trans e1) hi) (fun hf => he i x H1 (e.trans e1) hi hf)⟩)
    (fun H' p => q Dl H' (fresh_back e1 p.1) (e1.trans p.2.1) p.2.2)⟩
theorem el_is {xs ys : List V} (h : EvL te σ H xs) (e : xs = ys) : EvL te σ H ys := by
  rw [← e]
  exact h
theorem ev_allN {bs : List Bool} (ha : EvL ta σ H (bs.map V.bl)) : Ev (tCB (rAll K) (tCons ta tNil)) σ H (.bl (bs.all id)) := fun H1 e Q q =>
  ha H1 e _ fun p H2 _ e2 h2 => ⟨p, bs, rfl, sq_of h2, q H2 e2⟩
/-- [e for x in t] of a tuple of xs -/
theorem el_lcTm {α : Type} {xs : List α} {enc f : α → V} {a : Addr} {tl : TE} {j : Nat} {vs : List Nat} (h : Ev tl σ H (.ref a)) (hx : SqT K H a (xs.map enc)) (hz : xs.length ≤ 40000) (hw : ∀ x, wipe ((wipe σ vs).set j (some x)) vs = wipe σ vs)
    (he : ∀ (x : α) H1, x ∈ xs → Ex H H1 → Ev te ((wipe σ vs).set j (some (enc x))) H1 (f x)) : EvL (tLc (iTup K tl) (gName j) tYes te vs) σ H (xs.map f) := by
  refine el_is (el_lcT (fun _ => true) (fun i => match xs[i]? with | some x => f x | none => .non) h hx (by simpa using hz) hw (fun i x H1 e hi => fun H2 _ _ q => q H2 (Ex.refl H2)) fun i x H1 e hi _ => ?_) ?_
  · simp only [List.getElem?_map, Option.map_eq_some_iff] at hi
    obtain ⟨y, hy, rfl⟩ := hi
    simp only [hy]
    exact he y H1 (List.mem_of_getElem? hy) e
  · rw [List.length_map]
    exact given_map xs f _ fun i x hi => by simp only [hi]
theorem el_lcLm {α : Type} {xs : List α} {enc f : α → V} {a : Addr} {tl : TE} {j : Nat} {vs : List Nat} (h : Ev tl σ H (.ref a)) (hx : SqL K H a (xs.map enc)) (hz : xs.length ≤ 40000) (hw : ∀ x, wipe ((wipe σ vs).set j (some x)) vs = wipe σ vs)
    (he : ∀ (x : α) H1, x ∈ xs → Ex H H1 → Ev te ((wipe σ vs).set j (some (enc x))) H1 (f x)) : EvL (tLc (iList K tl) (gName j) tYes te vs) σ H (xs.map f) := by
  refine el_is (el_lcL (fun _ => true) (fun i => match xs[i]? with | some x => f x | none => .non) h hx (by simpa using hz) hw (fun i x H1 e hi => fun H2 _ _ q => q H2 (Ex.refl H2)) fun i x H1 e hi _ => ?_) ?_
  · simp only [List.getElem?_map, Option.map_eq_some_iff] at hi
    obtain ⟨y, hy, rfl⟩ := hi
    simp only [hy]
    exact he y H1 (List.mem_of_getElem? hy) e
  · rw [List.length_map]
    exact given_map xs f _ fun i x hi => by simp only [hi]
theorem el_lcRm {f : Nat → V} {ta : TA} {n : Nat} {j : Nat} {vs : List Nat} (h : EvA ta σ H [.int (n : Int)]) (hz : n ≤ 40000) (hw : ∀ x, wipe ((wipe σ vs).set j (some x)) vs = wipe σ vs)
    (he : ∀ (i : Nat) H1, i < n → Ex H H1 → Ev te ((wipe σ vs).set j (some (.int (i : Int)))) H1 (f i)) : EvL (tLc (iRng1 ta) (gName j) tYes te vs) σ H ((List.range n).map f) := by
  refine el_is (el_lcR1 (fun _ => true) f h (by omega) hw (fun i H1 e hi => fun H2 _ _ q => q H2 (Ex.refl H2)) fun i H1 e hi _ => he i H1 (by omega) e) ?_
  rw [Int.toNat_natCast, given_all]
/-- [e for c in s] of a text -/
theorem el_lcS {z : Str} {f : Nat → V} {tl : TE} {j : Nat} {vs : List Nat} (h : Ev tl σ H (.str z)) (hz : z.length ≤ 40000) (hw : ∀ x, wipe ((wipe σ vs).set j (some x)) vs = wipe σ vs)
    (he : ∀ (c : Nat) H1, c ∈ z.cps.toList → Ex H H1 → Ev te ((wipe σ vs).set j (some (.str ⟨#[c]⟩))) H1 (f c)) : EvL (tLc (iStr tl) (gName j) tYes te vs) σ H (z.cps.toList.map f) := by
  intro H0 e Q q
  have hl : z.cps.size = z.cps.toList.length := Array.length_toList.symm
  have hz' : z.cps.size ≤ 40000 := hz
  have gm : given z.cps.size (fun _ => true) (fun i => match z.cps.toList[i]? with | some x => f x | none => .non) = z.cps.toList.map f := by
    rw [hl]
    exact given_map _ f _ fun i x hi => by simp only [hi]
  refine h H0 e _ fun H1 e1 => ⟨z, rfl, fun Dl hD => lc_it walk_str (Cw H1 (fun _ => true) (fun i => match z.cps.toList[i]? with | some x => f x | none => .non) Dl) ⟨hD, Ex.new hD, upd_same⟩ (fun _ _ _ _ => True.intro)
    (fun i x H' H'' hi p y => ?_) (fun H' p => ?_)⟩
  · obtain ⟨rfl, c, hc, rfl⟩ := y
    have hc' : z.cps.toList[i]? = some c := by rw [Array.getElem?_toList]; exact hc
    refine ⟨hw _, cw_turn p (by omega) (fun H2 _ _ q => q H2 (Ex.refl H2)) fun _ => ?_⟩
    simp only [hc']
    exact he c H1 (List.mem_of_getElem? hc') (e.trans e1)
  · have p3 := p.2.2
    rw [gm] at p3
    exact q Dl H' (fresh_back e1 p.1) (e1.trans p.2.1) p3
theorem ev_lenS {a : Str} (ha : Ev ta σ H (.str a)) (hl : a.length ≤ 100000) : Ev (tCB (fun xs H Q => ∃ x, xs = [.str x] ∧ x.length ≤ sizeLine ∧ Q (.int (x.length : Nat)) H) (tCons ta tNil)) σ H (.int (a.length : Nat)) := fun H1 e Q q =>
  ha H1 e _ fun H2 e2 => ⟨a, rfl, sz_of hl, q H2 e2⟩
theorem ev_slS {a : Str} {tl th : TO} {lo hi : Option Int} (h : Ev te σ H (.str a)) (h1 : EvO tl σ H lo) (h2 : EvO th σ H hi) (hl : a.length ≤ 100000) : Ev (tSl rSlS te tl th) σ H (.str (cutS a lo hi)) := fun H1 e _ q =>
  h H1 e _ fun H2 e2 => h1 H2 (e.trans e2) _ fun H3 e3 => h2 H3 ((e.trans e2).trans e3) _ fun H4 e4 => ⟨a, rfl, sz_of hl, q H4 ((e2.trans e3).trans e4)⟩
theorem ev_cat {a b : Str} (h : Ev ta σ H (.str a)) (h1 : Ev tb σ H (.str b)) (hl : a.length + b.length ≤ 100000) :
    Ev (tOp (fun x y H Q => ∃ i j, x = .str i ∧ y = .str j ∧ i.length + j.length ≤ sizeLine ∧ Q (.str (i ++ j)) H) ta tb) σ H (.str (a ++ b)) := ev_op h h1 fun H1 e Q q => ⟨a, b, rfl, rfl, sz_of hl, q H1 (Ex.refl H1)⟩
theorem ev_ixS {a : Str} {i : Nat} {c : Nat} (h : Ev ta σ H (.str a)) (h1 : Ev tb σ H (.int (i : Int))) (hl : a.length ≤ 100000) (hc : a.cps.toList[i]? = some c) : Ev (tOp rIxS ta tb) σ H (.str ⟨#[c]⟩) := ev_op h h1 (rv_ixS hl (atI_nat hc))
theorem ev_inSign {c : Nat} {z : Str} (h : Ev ta σ H (.str ⟨#[c]⟩)) (h1 : Ev tb σ H (.str z)) :
    Ev (tOp (fun x y H Q => ∃ (c : Nat) (z : Str), x = .str ⟨#[c]⟩ ∧ y = .str z ∧ Q (.bl (decide (c ∈ z.cps.toList))) H) ta tb) σ H (.bl (decide (c ∈ z.cps.toList))) := ev_op h h1 fun H1 e Q q => ⟨c, z, rfl, rfl, q H1 (Ex.refl H1)⟩
theorem ev_intS {a : Str} {n : Int} (h : Ev ta σ H (.str a)) (hn : PySem.intText? a = some n) (hl : a.length ≤ 640) :
    Ev (tCB (fun xs H Q => ∃ a n, xs = [.str a] ∧ PySem.intText? a = some n ∧ a.length ≤ 640 ∧ Q (.int n) H) (tCons ta tNil)) σ H (.int n) := ev_cb (ea_cons h ea_nil) fun H1 e Q q => ⟨a, n, rfl, hn, hl, q H1 (Ex.refl H1)⟩
/-- a for over a Walk, something behind -/
theorem q_it {J : It} {n : Nat} {G : Hp → Prop} {Y : Nat → Hp → V → Hp → Prop} (w : Walk J n G Y) {g : TG} {tu tz : TS} {D : Ends} (Pv : Nat → L2.St → Hp → Prop) (h0 : Pv 0 σ H) (hG : ∀ i σ H, i ≤ n → Pv i σ H → G H)
    (hs : ∀ i x σ H H', i < n → Pv i σ H → Y i H x H' → g x σ H' fun σ2 H2 => tu { D with nx := Pv (i + 1), ct := Pv (i + 1), bk := tz D } σ2 H2) (hd : ∀ σ H, Pv n σ H → tz D σ H) :
    ∃ W : Nat → Nat → L2.St → Hp → Prop, (∃ m, W 0 m σ H) ∧ ∀ i m σ H, W i m σ H →
      (J.stop i H ∧ tz D σ H) ∨ (J.go i H ∧ ∃ N : L2.St → Hp → Prop, (∀ σ' H', N σ' H' → ∃ m', m' < m ∧ W (i + 1) m' σ' H') ∧ ∀ x H', J.yld i H x H' → g x σ H' fun σ2 H2 => tu { D with nx := N, ct := N, bk := tz D } σ2 H2) :=
  for_it w (D := { D with nx := tz D }) Pv h0 hG hs hd
theorem rv_leT {p q : Addr} {ns ms : List Int} (h1 : SqT K H p (ns.map V.int)) (h2 : SqT K H q (ms.map V.int)) : RV (rLeT K) (.ref p) (.ref q) H (.bl (leT ns ms)) := fun H1 e Q k =>
  ⟨p, q, ns, ms, rfl, rfl, ex_t e h1, ex_t e h2, by rw [lexAt_leT]; exact k H1 (Ex.refl H1)⟩
theorem ev_ixT {p : Addr} {xs : List V} {i : Nat} (ha : Ev ta σ H (.ref p)) (hb : Ev tb σ H (.int (i : Int))) (h : SqT K H p xs) (hx : xs[i]? = some v) : Ev (tOp (rIxT K) ta tb) σ H v := ev_op ha hb (rv_ixT h (atI_nat hx))
theorem ev_ixL {p : Addr} {xs : List V} {i : Nat} (ha : Ev ta σ H (.ref p)) (hb : Ev tb σ H (.int (i : Int))) (h : SqL K H p xs) (hx : xs[i]? = some v) : Ev (tOp (rIxL K) ta tb) σ H v := ev_op ha hb (rv_ixL h (atI_nat hx))
theorem et_yes : EvT tYes σ H true := fun H1 _ _ q => q H1 (Ex.refl H1)
end
end SL
end
section
set_option Elab.async false
set_option linter.all false
set_option maxRecDepth 100000
set_option maxHeartbeats 2000000
/-! enumerate of a tuple; zip of three tuples. -/
namespace PySem
open Sem (wp)
open AutoSeq1 (wpAny_loadPart')
set_option maxHeartbeats 1000000 in
theorem sl_meets_enum1 {v : Value} {o : Obj} {H : Heap → Prop} (B : Begins v o H) :
    Meets (Builtin.«enumerate.__new__» ⟨[.type "enumerate", v], []⟩) (fun _ R s => H s.heap ∧
      R (.ok (.ret (.ref (s.heap.push o).objs.size))) { s with heap := (s.heap.push o).push { cls := .type "enumerate", data := .fields #[.none, .bool false, .ref s.heap.objs.size, rawInt 0, .none, .none] } }) :=
  .of_wp fun prog w A R s h => by
    obtain ⟨hp, g, d, tk, os⟩ := s; obtain ⟨h1, h⟩ := h
    have hsub := sub_enumerate
    have q1 : ∀ {A' : Around} {E : Value → Shared → Prop} {Q : Value → Shared → Prop}, Q (.ref hp.objs.size) ⟨hp.push o, g, d, tk, os⟩ → wpAny (model prog w) A' (pyIter v) Q E ⟨hp, g, d, tk, os⟩ :=
      fun q => B.iter prog w _ _ ⟨hp, g, d, tk, os⟩ _ h1 q
    wp_walk using q1
    refine wpAny_stack_any fun st => wpAny_pure ?_
    split
    · rename_i c _ _ _ _ _
      cases (c == Value.type "enumerate")
      · wp_walk using q1
        exact ⟨_, rfl, h⟩
      · wp_walk using q1
        exact ⟨_, rfl, h⟩
    · wp_walk using q1
      exact ⟨_, rfl, h⟩
theorem sl_enum1 {prog : Program} {w : World} {A : Around} {E : Value → Shared → Prop} {s : Shared} {v : Value} {o : Obj} {H : Heap → Prop} {Q : Value → Shared → Prop} (B : Begins v o H) (h1 : H s.heap)
    (h : ∀ h', IsEnum h' (s.heap.objs.size + 1) s.heap.objs.size 0 .none → h'.get? s.heap.objs.size = some o → h'.objs.size = s.heap.objs.size + 2 →
      (∀ b o, s.heap.get? b = some o → h'.get? b = some o) → Q (.ref (s.heap.objs.size + 1)) { s with heap := h' }) :
    wpAny (model prog w) A (call (.type "enumerate") [v]) Q E s := by
  refine callType_new F.called_enumerate (by decide) (F.typeCall_enumerate_1 _) (F.newCall_enumerate_1 _) (fun obj => F.args_object_init_2 obj _) F.entry_enumerate_new
    (sl_meets_enum1 B) ⟨h1, ?_⟩
  have hz : (s.heap.push o).objs.size = s.heap.objs.size + 1 := Heap.size_push ..
  show _ ∧ _
  rw [hz]
  have he : IsEnum ((s.heap.push o).push { cls := .type "enumerate", data := .fields #[.none, .bool false, .ref s.heap.objs.size, rawInt 0, .none, .none] }) (s.heap.objs.size + 1) s.heap.objs.size 0 .none := by
    have := Heap.get?_push_size (s.heap.push o) (o := { cls := .type "enumerate", data := .fields #[.none, .bool false, .ref s.heap.objs.size, rawInt 0, .none, .none] }) rfl
    rw [hz] at this; exact this
  exact ⟨⟨_, he, rfl⟩, h _ he (Heap.get?_push_of_some _ (Heap.get?_push_size _ B.free)) (by rw [Heap.size_push, hz]) fun b o x => Heap.get?_push_of_some _ (Heap.get?_push_of_some _ x)⟩
end PySem
namespace L2
open PySem PySem.Spec PyProof.Rows
/-- an iterator that gives new tuples, told by GoesN at each step (data κ at that step) -/
theorem turn_goes {P : Program} {w : World} {K : PySem.W.Frag} {tg : Expr} {J : It} {fp fpx wr : List Addr} {it : Addr} {tn : Nat → Heap → Prop} {κ : Type} {n : κ → Nat} {Y : κ → Nat → Heap → Value → Heap → Prop} {S : κ → Nat → Heap → Prop}
    (W : ∀ A : Around, A.handled = none → ∀ k, GoesN P w A tg it fpx wr (n k) (Y k) (S k)) (hwr : ∀ b ∈ wr, b ∈ fp) (mem : it ∈ fp)
    (obj : ∀ i h, tn i h → ∀ b ∈ fp, ∃ o, h.get? b = some o ∧ ∀ v, o.data ≠ .cell v) (keep : ∀ i h h', tn i h → (∀ b ∈ fp, ∀ o, h.get? b = some o → h'.get? b = some o) → tn i h')
    (ts : ∀ k i h, S k i h → tn i h) (self : ∀ (A : Around) (i : Nat) (s : Shared) (Q : Value → Shared → Prop) (E : Value → Shared → Prop), tn i s.heap → Q (.ref it) s → wpAny (model P w) A (pyIter (.ref it)) Q E s)
    (go : ∀ (X : Cx) (pins : List (Addr × Obj)) (σ : St) (H : Hp) (s : Shared) (i : Nat), X.prog = P → X.w = w → X.K = K → Inv X pins σ H s → tn i s.heap → J.go i H →
      ∃ k, S k i s.heap ∧ i < n k ∧ ∀ v h', Y k i s.heap v h' → ∃ (T : Addr) (vals : List Value) (xs : List V), v = .ref T ∧ s.heap.objs.size ≤ T ∧ h'.IsTuple T vals.toArray ∧ Vals xs vals ∧ xs.length ≤ 10 ∧ (H T = none → J.yld i H (.ref T) (upd H T (.tup xs))))
    (stop : ∀ (X : Cx) (pins : List (Addr × Obj)) (σ : St) (H : Hp) (s : Shared) (i : Nat), X.prog = P → X.w = w → X.K = K → Inv X pins σ H s → tn i s.heap → J.stop i H → ∃ k, S k i s.heap ∧ i = n k) :
    Turn P w K tg J fp it tn where
  mem := mem
  obj := obj
  keep := keep
  item := by
    intro X hP hw hK hc i pins s σ H E I hf st hg
    obtain ⟨k, hS, hi, conv⟩ := go X pins σ H s i hP hw hK I st hg
    subst hP hw hK
    refine wpAny_mono ((W X.A (I.ok.hd hc) k).goes i s (fun v s2 => ∃ x H', Inv X pins σ H' s2 ∧ RelV x v ∧ J.yld i H x H' ∧ tn (i + 1) s2.heap ∧ ∀ b ∈ fp, H' b = none) E hi hS fun v h' tk hY hS' hk htk => ?_) (fun r s1 hh => hh) fun _ _ x => x
    obtain ⟨T, vals, xs, rfl, hT, hIT, rv, hl, hy⟩ := conv v h' hY
    have new : ObjOk X.prog X.w (upd H T (.tup xs)) h' T (.tup xs) := by
      obtain ⟨o, ho, hcl, nn, hd⟩ := hIT
      exact ⟨Nat.le_trans hl (by rw [sizeLine_eq]; omega), vals, rv, o, ho, hcl, nn, hd⟩
    have hn : H T = none := I.hok.fresh hT
    refine ⟨.ref T, upd H T (.tup xs), I.turnedNew (ch := wr) hk (fun b hb => hf b (hwr b hb)) hT new, rfl, hy hn, ts k _ _ hS', fun b hb => ?_⟩
    have hlt : b < s.heap.objs.size := by
      obtain ⟨o, ho, _⟩ := obj i _ st b hb
      exact Heap.lt_size ho
    rw [upd_ne (Nat.ne_of_lt (Nat.lt_of_lt_of_le hlt hT))]
    exact (hf b hb).1
  done := by
    intro X hP hw hK hc i pins s σ H E I hf st hg
    obtain ⟨k, hS, hi⟩ := stop X pins σ H s i hP hw hK I st hg
    subst hP hw hK
    subst hi
    exact wpAny_mono ((W X.A (I.ok.hd hc) k).stops s (fun s1 => Inv X pins σ H s1) E hS fun h' tk hk htk => I.turnedL hk fun b hb => hf b (hwr b hb)) (fun r s1 hh => hh) fun _ _ x => x
  self := self
/-- the tuple at a as it stands at each turn, each item in a new pair with its number -/
def IteT (K : PySem.W.Frag) (a : Addr) : It :=
  ⟨fun i H => ∃ (xs : List V) (x : V), SqT K H a xs ∧ xs[i]? = some x, fun i H v H' => ∃ T x, v = .ref T ∧ H T = none ∧ H' = upd H T (.tup [.int (i : Nat), x]) ∧ ∀ xs, SqT K H a xs → xs[i]? = some x, fun i H => ∃ xs : List V, SqT K H a xs ∧ xs.length = i⟩
theorem turn_enumT {P : Program} {w : World} {K : PySem.W.Frag} {elts : List Expr} {kk : Nat} {tpos : Pos} {a e it : Addr} (h1 : e ≠ it) (h2 : a ≠ it) (h3 : e ≠ a) :
    Turn P w K (.Tuple elts kk tpos) (IteT K a) [e, it] e (fun i h => (∃ old, IsEnum h e it ((i : Nat) : Int) old) ∧ h.IsTupleIter it a i) := by
  refine turn_goes (κ := Array Value) (n := fun its => its.size) (wr := [e, it]) (fun A hA its => GoesN.enumFrom 0 (Draws.tuple (A := A.in1) hA it a h2 its) e h1 (by simp [h1, h3]) (by simp)) (fun b hb => hb) (by simp) (fun i h st b hb => ?_) (fun i h h' st k => ?_) (fun its i h hS => ?_)
    (fun A i s Q E st h => ?_) (fun X pins σ H s i hP hw hK I st hg => ?_) (fun X pins σ H s i hP hw hK I st hg => ?_)
  · obtain ⟨⟨old, he⟩, o, ho, hc, hd⟩ := st
    have e' : b = e ∨ b = it := by simpa using hb
    rcases e' with z | z
    · rw [z]; exact ⟨_, he, fun v q => nomatch q⟩
    · rw [z]; exact ⟨o, ho, fun v q => by rw [hd] at q; cases q⟩
  · obtain ⟨⟨old, he⟩, hi⟩ := st
    exact ⟨⟨old, k e (by simp) _ he⟩, hi.at fun o q => k it (by simp) o q⟩
  · obtain ⟨⟨old, he⟩, hi, _⟩ := hS
    rw [Int.zero_add] at he
    exact ⟨⟨old, he⟩, hi⟩
  · obtain ⟨⟨old, he⟩, _⟩ := st
    exact wpAny_pyIter_enum he h
  · subst hP hw hK
    obtain ⟨⟨old, he⟩, hi⟩ := st
    obtain ⟨xs, x, hq, hx⟩ := hg
    obtain ⟨its, rv, p, hz⟩ := I.tuple hq
    obtain ⟨u, hu, ru⟩ := rv.get hx
    have hlt : i < its.length := (List.getElem?_eq_some_iff.mp hu).1
    refine ⟨its.toArray, ⟨⟨old, by rw [Int.zero_add]; exact he⟩, hi, p⟩, by simpa using hlt, fun v h' hY => ?_⟩
    obtain ⟨T, t, y, rfl, hT, hy, hI⟩ := hY
    have ey : y = u := by
      have hy' : its[i]? = some y := by simpa using hy
      rw [hu] at hy'
      exact (Option.some.inj hy').symm
    subst ey
    rw [Int.zero_add] at hI
    exact ⟨T, [.int (i : Nat) t, y], [.int (i : Nat), x], rfl, hT, hI, .cons ⟨_, rfl⟩ (.cons ru .nil), by simp, fun hn => ⟨T, x, rfl, hn, rfl, fun ys hy => by rw [I.tuple_inj hy hq]; exact hx⟩⟩
  · subst hP hw hK
    obtain ⟨⟨old, he⟩, hi⟩ := st
    obtain ⟨xs, hq, hl⟩ := hg
    obtain ⟨its, rv, p, hz⟩ := I.tuple hq
    have l1 := rv.length
    exact ⟨its.toArray, ⟨⟨old, by rw [Int.zero_add]; exact he⟩, hi, p⟩, by simp; omega⟩
def iEnumT (K : PySem.W.Frag) (ta : TA) : TI := fun σ H R => ta σ H fun vs H1 => ∃ a xs, vs = [.ref a] ∧ SqT K H1 a xs ∧ R (IteT K a) H1
theorem pi_enumT {X : Cx} {e : Expr} {ta : TA} {p pos tpos : Pos} {elts : List Expr} {kk : Nat} (hg : Gl X "enumerate") (hm : X.mg "enumerate" = none) (ha : PA X [e] ta) (hs : starEach [e] X.env = [(false, eval e X.env)] := by rfl) :
    PI X (.Tuple elts kk tpos) (.Call (.Name "enumerate" p) [e] [] pos) (iEnumT X.K ta) := by
  refine ⟨fun pins s σ H R I h => ?_⟩
  refine Call_ (ld_blt I hg hm boot_enumerate (PyProof.Rows.callWith_type1 (thn (ha.run pos pins s σ H _ I h) fun us s1 ⟨vs, H1, I1, r1, q1⟩ => ?_) hs rfl))
  obtain ⟨a, xs, ex, hq, q⟩ := q1
  subst ex
  cases r1 with
  | cons r rr =>
    cases rr
    cases r
    obtain ⟨its, rv, p', hz⟩ := I1.tuple hq
    have hal : a < s1.heap.objs.size := by
      obtain ⟨o, ho, _⟩ := id p'
      exact Heap.lt_size ho
    refine sl_enum1 (begins_tuple a its.toArray) (show s1.heap.IsTuple a its.toArray from p') fun h' he hit hsz hk => wpAny_pyIter_enum he ?_
    have I2 : Inv X pins σ H1 { s1 with heap := h' } := I1.kept (t' := s1.toks) hk
    refine ⟨s1.heap.objs.size + 1, [s1.heap.objs.size + 1, s1.heap.objs.size], _, _, H1, rfl, I2, turn_enumT (a := a) (e := s1.heap.objs.size + 1) (it := s1.heap.objs.size) (Nat.succ_ne_self _) (Nat.ne_of_lt hal) (Nat.ne_of_gt (Nat.lt_succ_of_lt hal)), ⟨⟨.none, he⟩, ⟨_, hit, rfl, rfl⟩⟩, fun b hb => ?_, q⟩
    have e' : b = s1.heap.objs.size + 1 ∨ b = s1.heap.objs.size := by simpa using hb
    have hle : s1.heap.objs.size ≤ b := by
      rcases e' with z | z
      · rw [z]; exact Nat.le_add_right _ _
      · rw [z]; exact Nat.le_refl _
    exact I1.fpOk hle (I1.hok.fresh hle)
theorem walk_enumT {K : PySem.W.Frag} {a : Addr} {xs : List V} : Walk (IteT K a) xs.length (fun H => SqT K H a xs) (YPair (fun i => some (.int (i : Nat))) (fun i => xs[i]?)) := by
  refine ⟨fun i _ hi q => ⟨xs, xs[i], q, by simp [hi]⟩, fun _ q => ⟨xs, q, rfl⟩, fun i H v H' _ q y => ?_⟩
  obtain ⟨T, x, h1, h2, h3, h4⟩ := y
  exact ⟨T, .int (i : Nat), x, h1, h2, h3, rfl, h4 xs q⟩
/-- three tuples side by side, the items in new triples -/
def Itz3 (K : PySem.W.Frag) (a b c : Addr) : It :=
  ⟨fun i H => ∃ (xs ys zs : List V), SqT K H a xs ∧ SqT K H b ys ∧ SqT K H c zs ∧ i < xs.length ∧ i < ys.length ∧ i < zs.length,
    fun i H v H' => ∃ T x y z, v = .ref T ∧ H T = none ∧ H' = upd H T (.tup [x, y, z]) ∧ (∀ xs, SqT K H a xs → xs[i]? = some x) ∧ (∀ ys, SqT K H b ys → ys[i]? = some y) ∧ ∀ zs, SqT K H c zs → zs[i]? = some z,
    fun i H => ∃ xs ys zs : List V, SqT K H a xs ∧ SqT K H b ys ∧ SqT K H c zs ∧ i = min (min xs.length ys.length) zs.length⟩
theorem turn_zip3 {P : Program} {w : World} {K : PySem.W.Frag} {elts : List Expr} {kk : Nat} {tpos : Pos} {a b c : Addr} (N : Nat) (ha : a < N) (hb : b < N) (hc : c < N) :
    Turn P w K (.Tuple elts kk tpos) (Itz3 K a b c) [N + 5, N + 3, N + 4, N, N + 1, N + 2] (N + 5) (fun i h => IsZip h (N + 5) (N + 3) (N + 4) .none ∧ IsTupOf3 h (N + 3) (.ref N) (.ref (N + 1)) (.ref (N + 2)) ∧ (∃ a1 a2 a3, IsTupOf3 h (N + 4) a1 a2 a3) ∧ h.IsTupleIter N a i ∧ h.IsTupleIter (N + 1) b i ∧ h.IsTupleIter (N + 2) c i) := by
  have S := zip_sep3 (N := N) (fp1 := [a]) (fp2 := [b]) (fp3 := [c]) (fun x hx => by rw [List.mem_singleton.mp hx]; exact ha) (fun x hx => by rw [List.mem_singleton.mp hx]; exact hb) (fun x hx => by rw [List.mem_singleton.mp hx]; exact hc)
  refine turn_goes (κ := Array Value × Array Value × Array Value) (n := fun k => min (min k.1.size k.2.1.size) k.2.2.size) (wr := [N + 5, N + 4, N, N + 1, N + 2])
    (fun A hA k => GoesN.zip3 S (Draws.tuple (A := A.in1) hA N a (Nat.ne_of_lt ha) k.1) (Draws.tuple (A := A.in1) hA (N + 1) b (Nat.ne_of_lt (Nat.lt_succ_of_lt hb)) k.2.1) (Draws.tuple (A := A.in1) hA (N + 2) c (Nat.ne_of_lt (Nat.lt_succ_of_lt (Nat.lt_succ_of_lt hc))) k.2.2))
    (fun b hb => by simp only [List.mem_cons, List.not_mem_nil, or_false] at hb ⊢; rcases hb with h | h | h | h | h <;> simp [h]) (by simp) (fun i h st b' hb' => ?_) (fun i h h' st k => ?_) (fun k i h hS => ?_)
    (fun A i s Q E st h => ?_) (fun X pins σ H s i hP hw hK I st hg => ?_) (fun X pins σ H s i hP hw hK I st hg => ?_)
  · obtain ⟨hz, hTI, ⟨x, y, z, hTO⟩, ⟨o1, e1, _, d1⟩, ⟨o2, e2, _, d2⟩, ⟨o3, e3, _, d3⟩⟩ := st
    have e' : b' = N + 5 ∨ b' = N + 3 ∨ b' = N + 4 ∨ b' = N ∨ b' = N + 1 ∨ b' = N + 2 := by simpa using hb'
    rcases e' with q | q | q | q | q | q
    · rw [q]; exact ⟨_, hz, fun v q => nomatch q⟩
    · rw [q]; exact ⟨_, hTI, fun v q => nomatch q⟩
    · rw [q]; exact ⟨_, hTO, fun v q => nomatch q⟩
    · rw [q]; exact ⟨o1, e1, fun v q => by rw [d1] at q; cases q⟩
    · rw [q]; exact ⟨o2, e2, fun v q => by rw [d2] at q; cases q⟩
    · rw [q]; exact ⟨o3, e3, fun v q => by rw [d3] at q; cases q⟩
  · obtain ⟨hz, hTI, ⟨x, y, z, hTO⟩, h1, h2, h3⟩ := st
    exact ⟨k _ (by simp) _ hz, k _ (by simp) _ hTI, ⟨x, y, z, k _ (by simp) _ hTO⟩, h1.at fun o q => k _ (by simp) o q, h2.at fun o q => k _ (by simp) o q, h3.at fun o q => k _ (by simp) o q⟩
  · obtain ⟨hz, hTI, hTO, h1, h2, h3⟩ := hS
    exact ⟨hz, hTI, hTO, h1.1, h2.1, h3.1⟩
  · exact wpAny_pyIter_zip st.1 h
  · subst hP hw hK
    obtain ⟨hz, hTI, hTO, h1, h2, h3⟩ := st
    obtain ⟨xs, ys, zs, qx, qy, qz, lx, ly, lz⟩ := hg
    obtain ⟨its, rv, p, _⟩ := I.tuple qx
    obtain ⟨its2, rv2, p2, _⟩ := I.tuple qy
    obtain ⟨its3, rv3, p3, _⟩ := I.tuple qz
    obtain ⟨u, hu, ru⟩ := rv.get (List.getElem?_eq_getElem lx)
    obtain ⟨u2, hu2, ru2⟩ := rv2.get (List.getElem?_eq_getElem ly)
    obtain ⟨u3, hu3, ru3⟩ := rv3.get (List.getElem?_eq_getElem lz)
    have l1 := rv.length
    have l2 := rv2.length
    have l3 := rv3.length
    refine ⟨(its.toArray, its2.toArray, its3.toArray), ⟨hz, hTI, hTO, ⟨h1, p⟩, ⟨h2, p2⟩, ⟨h3, p3⟩⟩, by simp; omega, fun v h' hY => ?_⟩
    obtain ⟨T, x, y, z, rfl, hT, hx, hy, hz', hI⟩ := hY
    have ex : x = u := by
      have q : its[i]? = some x := by simpa using hx
      rw [hu] at q
      exact (Option.some.inj q).symm
    have ey : y = u2 := by
      have q : its2[i]? = some y := by simpa using hy
      rw [hu2] at q
      exact (Option.some.inj q).symm
    have ez : z = u3 := by
      have q : its3[i]? = some z := by simpa using hz'
      rw [hu3] at q
      exact (Option.some.inj q).symm
    subst ex ey ez
    exact ⟨T, [x, y, z], [xs[i], ys[i], zs[i]], rfl, hT, hI, .cons ru (.cons ru2 (.cons ru3 .nil)), by simp, fun hn => ⟨T, _, _, _, rfl, hn, rfl, fun l hl => by rw [I.tuple_inj hl qx]; exact List.getElem?_eq_getElem lx, fun l hl => by rw [I.tuple_inj hl qy]; exact List.getElem?_eq_getElem ly, fun l hl => by rw [I.tuple_inj hl qz]; exact List.getElem?_eq_getElem lz⟩⟩
  · subst hP hw hK
    obtain ⟨hz, hTI, hTO, h1, h2, h3⟩ := st
    obtain ⟨xs, ys, zs, qx, qy, qz, hl⟩ := hg
    obtain ⟨its, rv, p, _⟩ := I.tuple qx
    obtain ⟨its2, rv2, p2, _⟩ := I.tuple qy
    obtain ⟨its3, rv3, p3, _⟩ := I.tuple qz
    have l1 := rv.length
    have l2 := rv2.length
    have l3 := rv3.length
    exact ⟨(its.toArray, its2.toArray, its3.toArray), ⟨hz, hTI, hTO, ⟨h1, p⟩, ⟨h2, p2⟩, ⟨h3, p3⟩⟩, by simp; omega⟩
theorem sl_vals3 {x y z : V} {us : List Value} (r : Vals [x, y, z] us) : ∃ u v t, us = [u, v, t] ∧ RelV x u ∧ RelV y v ∧ RelV z t := by
  cases r with
  | cons a r =>
    cases r with
    | cons b r =>
      cases r with
      | cons c r =>
        cases r
        exact ⟨_, _, _, rfl, a, b, c⟩
def iZip3 (K : PySem.W.Frag) (ta : TA) : TI := fun σ H R => ta σ H fun vs H1 => ∃ a b c xs ys zs, vs = [.ref a, .ref b, .ref c] ∧ SqT K H1 a xs ∧ SqT K H1 b ys ∧ SqT K H1 c zs ∧ R (Itz3 K a b c) H1
theorem pi_zip3 {X : Cx} {e e2 e3 : Expr} {ta : TA} {p pos tpos : Pos} {elts : List Expr} {kk : Nat} (hg : Gl X "zip") (hm : X.mg "zip" = none) (ha : PA X [e, e2, e3] ta)
    (hs : starEach [e, e2, e3] X.env = (false, eval e X.env) :: starEach [e2, e3] X.env := by rfl) (hpl : (backTo pos (starEach [e2, e3] X.env)).any (·.1) = false := by rfl) :
    PI X (.Tuple elts kk tpos) (.Call (.Name "zip" p) [e, e2, e3] [] pos) (iZip3 X.K ta) := by
  refine ⟨fun pins s σ H R I h => ?_⟩
  refine Call_ (ld_blt I hg hm PyProof.Rows.boot_zip (PyProof.Rows.callWith_type1 (thn (ha.run pos pins s σ H _ I h) fun us s1 ⟨vs, H1, I1, r1, q1⟩ => ?_) hs hpl))
  obtain ⟨a, b, c, xs, ys, zs, ex, qx, qy, qz, q⟩ := q1
  subst ex
  obtain ⟨u1, u2, u3, rfl, e1, e2, e3⟩ := sl_vals3 r1
  obtain rfl : u1 = Value.ref a := e1
  obtain rfl : u2 = Value.ref b := e2
  obtain rfl : u3 = Value.ref c := e3
  obtain ⟨its, rv, p1, _⟩ := I1.tuple qx
  obtain ⟨its2, rv2, p2, _⟩ := I1.tuple qy
  obtain ⟨its3, rv3, p3, _⟩ := I1.tuple qz
  have la : a < s1.heap.objs.size := by
    obtain ⟨o, ho, _⟩ := id p1
    exact Heap.lt_size ho
  have lb : b < s1.heap.objs.size := by
    obtain ⟨o, ho, _⟩ := id p2
    exact Heap.lt_size ho
  have lc : c < s1.heap.objs.size := by
    obtain ⟨o, ho, _⟩ := id p3
    exact Heap.lt_size ho
  refine zip_begins3 (begins_tuple a its.toArray) (begins_tuple b its2.toArray) (begins_tuple c its3.toArray) (show s1.heap.IsTuple a its.toArray from p1) (show s1.heap.IsTuple b its2.toArray from p2) (show s1.heap.IsTuple c its3.toArray from p3)
    fun h' hz hTI hTO h1 h2 h3 hsz hk => wpAny_pyIter_zip hz ?_
  have I2 : Inv X pins σ H1 { s1 with heap := h' } := I1.kept (t' := s1.toks) hk
  refine ⟨s1.heap.objs.size + 5, _, _, _, H1, rfl, I2, turn_zip3 s1.heap.objs.size la lb lc, ⟨hz, hTI, ⟨_, _, _, hTO⟩, ⟨_, h1, rfl, rfl⟩, ⟨_, h2, rfl, rfl⟩, ⟨_, h3, rfl, rfl⟩⟩, fun x hx => ?_, q⟩
  have hle : s1.heap.objs.size ≤ x := by
    simp only [List.mem_cons, List.not_mem_nil, or_false] at hx
    rcases hx with h | h | h | h | h | h <;> rw [h] <;> first | exact Nat.le_add_right _ _ | exact Nat.le_refl _
  exact I1.fpOk hle (I1.hok.fresh hle)
theorem walk_zip3 {K : PySem.W.Frag} {a b c : Addr} {xs ys zs : List V} {n : Nat} (hn : n = min (min xs.length ys.length) zs.length) : Walk (Itz3 K a b c) n (fun H => SqT K H a xs ∧ SqT K H b ys ∧ SqT K H c zs)
    (fun i H v H' => ∃ T x y z, v = .ref T ∧ H T = none ∧ H' = upd H T (.tup [x, y, z]) ∧ xs[i]? = some x ∧ ys[i]? = some y ∧ zs[i]? = some z) := by
  subst hn
  refine ⟨fun i _ hi q => ⟨xs, ys, zs, q.1, q.2.1, q.2.2, by omega, by omega, by omega⟩, fun _ q => ⟨xs, ys, zs, q.1, q.2.1, q.2.2, rfl⟩, fun i H v H' _ q y => ?_⟩
  obtain ⟨T, x, y, z, h1, h2, h3, h4, h5, h6⟩ := y
  exact ⟨T, x, y, z, h1, h2, h3, h4 xs q.1, h5 ys q.2.1, h6 zs q.2.2⟩
/-- the pair of the i-th of xs and the i-th of ys (two tuples) -/
theorem walk_zipT {K : PySem.W.Frag} {a b : Addr} {xs ys : List V} {n : Nat} (hn : n = min xs.length ys.length) : Walk (RZ.ItzT K a b) n (fun H => SqT K H a xs ∧ SqT K H b ys) (YPair (fun i => xs[i]?) (fun i => ys[i]?)) := by
  subst hn
  refine ⟨fun i _ hi q => ?_, fun _ q => ⟨xs, ys, q.1, q.2, by omega⟩, fun i H v H' _ q y => ?_⟩
  · have h1 : i < xs.length := by omega
    have h2 : i < ys.length := by omega
    exact ⟨xs, ys, xs[i], ys[i], q.1, q.2, by simp [h1], by simp [h2]⟩
  · obtain ⟨T, x, z, h1, h2, h3, h4, h5⟩ := y
    exact ⟨T, x, z, h1, h2, h3, h4 xs q.1, h5 ys q.2⟩
end L2
end
section
set_option Elab.async false
set_option linter.all false
set_option maxRecDepth 100000
set_option maxHeartbeats 2000000
/-! The three exceptions: what the head tells of them, made (pmk_x) and read (pe_x). -/
namespace SL
open PySem PySem.Spec PyProof.Rows L2 Evl
theorem look_cls {K : PySem.W.Frag} {C : Addr} (h : excLook K C = true) : ∃ nm q N bs bm sn sub ab col dd k0 k1 k2 k3 k5, K.lookup C = some (excClassObj nm q C N bs bm true sn sub ab col dd k0 k1 k2 k3 k5 "ValueError.__new__") ∧ PySem.HandSPX.refsVE bm = true := by
  unfold excLook at h
  split at h
  · rename_i dd cd sl e
    split at h
    · rename_i C' bm k0 k1 k2 k3 n k5 em es
      simp only [Bool.and_eq_true, beq_iff_eq, Bool.not_eq_true'] at h
      obtain ⟨⟨⟨⟨h1, h2⟩, h3⟩, h4⟩, h5⟩ := h
      obtain ⟨nm, bs, mro, ns, qn, hd, sn, sub, ab, col, hdel⟩ := cd
      obtain ⟨sl⟩ := sl
      simp only at em es h3 h4
      subst em es h1 h2 h3 h4
      exact ⟨nm, qn, ns, bs, bm, sn, sub, ab, col, dd, k0, k1, k2, k3, k5, e, h5⟩
    · cases h
  · cases h
theorem fn_ex {K : PySem.W.Frag} {C f : Addr} {q : Str} {args : Arguments} {body : List Stmt} {scope : Scope} (h : excFn K C f q = true) (hf : fnE K f = (some (("__init__" : Str), q, args, FuncBody.stmts body, scope, mainGlobals, Value.none, builtinsNs) : FnE)) :
    ∃ (oc : Value) (od : Option Addr) (kV doc pm ct : Value) (an : Option Addr) (osl : Array (Option Value)) (cda cc : Addr) (ccl cl fl : Value) (cdd cld : Option Addr) (vs : Array Value) (ccs csl : Array (Option Value)) (tf : Tok),
    K.lookup f = some ⟨oc, od, .func (PySem.W.ksFn "__init__" q args body scope .none kV doc pm an (.ref cda) ct cc), osl⟩ ∧ PySem.W.codeIn K (.ref cda) q = true ∧
    K.lookup cda = some ⟨ccl, cdd, .fields vs, ccs⟩ ∧ vs[2]? = some (.str "/claim/cut.py" tf) ∧
    K.lookup cc = some ⟨cl, cld, .cell (some (.ref C)), csl⟩ := by
  unfold excFn at h
  unfold fnE at hf
  split at h
  · rename_i oc od fd osl e
    rw [e] at hf
    simp only [Option.some.injEq, Prod.mk.injEq] at hf
    obtain ⟨nm, qn, pa, bd, sc, gl, clo, df, kd, doc, pm, an, code, ct, bu⟩ := fd
    simp only at hf h
    obtain ⟨rfl, rfl, rfl, rfl, rfl, rfl, rfl, rfl⟩ := hf
    simp only [Bool.and_eq_true] at h
    obtain ⟨⟨h1, h2⟩, h3⟩ := h
    split at h2
    · rename_i c
      split at h2
      · rename_i ccl cdd vs ccs ec
        split at h2
        · rename_i v0 v1 fl tf r ev
          have efl : fl = "/claim/cut.py" := of_decide_eq_true h2
          subst efl
          split at h3
          · rename_i n cc
            simp only [Bool.and_eq_true, decide_eq_true_eq] at h3
            obtain ⟨h4, h5⟩ := h3
            subst h4
            split at h5
            · rename_i cl cld D csl ecc
              have eD : D = C := of_decide_eq_true h5
              subst eD
              obtain ⟨vs⟩ := vs
              simp only at ev
              subst ev
              exact ⟨oc, od, kd, doc, pm, ct, an, osl, c, cc, ccl, cl, .none, cdd, cld, _, ccs, csl, tf, e, h1, ec, rfl, ecc⟩
            · cases h5
          · cases h3
        · cases h2
      · cases h2
    · cases h2
  · cases h
structure Pg (P : Program) : Prop where
  file : P.main.file = "/claim/cut.py"
  top : (P.main.scope.names.lookup ("super" : Str)).isSome = false
section
variable {P : Program} {w : World} {K : PySem.W.Frag} {mg : Str → Option Value}
theorem excT_of {x q : Str} {fs : List Str} {st : Stmt} (hb : excB K x q fs = true) (hf : fnE K (He.ma K (He.ga K x) "__init__") = (some (("__init__" : Str), q, defArgs st, FuncBody.stmts (defBody st), defScope st, mainGlobals, Value.none, builtinsNs) : FnE)) (hP : Pg P)
    (te : PySem.W.exmOne K (.ref (He.ga K x)) (.ref (He.ga K x)) = some true) (nosup : PySem.W.nsIn K mainGlobals "super" = some none) (opq : PySem.W.nsIn K PySem.cStatics "thirdparty.any" = some none) :
    SLE.ExcT K P (He.ga K x) (He.ma K (He.ga K x) "__init__") q (defArgs st) (defBody st) (defScope st) ∧ ∀ f ∈ fs, PySem.W.findIn K (.ref (He.ga K x)) f = some none := by
  unfold excB at hb
  simp only [Bool.and_eq_true, decide_eq_true_eq, List.all_eq_true] at hb
  obtain ⟨h1, h2, h3, h4, h5, h6, h7, h8, h9, h10, h11, h12, h13, h14, h15, h16⟩ := hb
  obtain ⟨oc, od, kV, doc, pm, ct, an, osl, cda, cc, ccl, cl, fl, cdd, cld, vs, ccs, csl, tf, e1, e2, e3, e4, e5⟩ := fn_ex h14 hf
  refine ⟨⟨⟨look_cls h1, He.eqO_ok h3, h10, h12, h9⟩, He.eqO_ok h4, He.eqO_ok h5, He.eqO_ok h7, h8, h13, h11, h15, h16, opq, nosup, te, ?_⟩, fun f hfm => He.eqO_ok (h6 f hfm)⟩
  exact ⟨oc, od, kV, doc, pm, ct, an, osl, cda, cc, ccl, cl, fl, cdd, cld, vs, ccs, csl, _, tf, e1, e2, e3, e4, by rw [hP.file]; decide, e5⟩
/-- all that is wanted of an exception by its name: n arguments, the fields of them -/
structure Xc (P : Program) (w : World) (K : PySem.W.Frag) (mg : Str → Option Value) (x : Str) (n : Nat) (fs : List Str) (fV : List V → List (Str × V)) : Prop where
  oex : OexC K (He.ga K x)
  ini : ∃ (fI : Addr) (mO : List Value → Str → Option Value), PySem.W.findIn K (.ref (He.ga K x)) "__init__" = some (some (.ref fI)) ∧ PySem.W.typeIn K (.ref fI) = some (.type "function") ∧ SLE.Ini P w K mg (He.ga K x) fI n mO ∧
    ∀ vs us, Vals vs us → vs.length = n → ∀ f, RelO ((fV vs).lookup f) (mO us f)
  n10 : n ≤ 10
  ga : PySem.W.findIn K (.ref (He.ga K x)) "__getattribute__" = some (some (.builtin "BaseException.__getattribute__"))
  gg : PySem.W.findIn K (.ref (He.ga K x)) "__getattr__" = some none
  hd : PySem.W.hasDictIn K (He.ga K x) = true
  no : ∀ f ∈ fs, PySem.W.findIn K (.ref (He.ga K x)) f = some none
  g : mg x = some (.ref (He.ga K x))
def fV1 (f : Str) : List V → List (Str × V) := fun vs => [(f, vs.getD 0 .non)]
def fV2 (f g : Str) : List V → List (Str × V) := fun vs => [(f, vs.getD 0 .non), (g, vs.getD 1 .non)]
theorem Ma.xBadLot (M : Ma K mg) (hP : Pg P) : Xc P w K mg "BadLot" 1 ["given"] (fV1 "given") := by
  obtain ⟨h, X, G, s⟩ := M.ex
  have hm := s.more
  unfold SL.ex at hm
  simp only [Bool.and_eq_true] at hm
  obtain ⟨h1, h2, h3, h4⟩ := hm
  have hfe := s.fe
  have hfe2 := List.cons.inj hfe
  have hfe3 := List.cons.inj hfe2.2
  have hfe4 := List.cons.inj hfe3.2
  have f1 := hfe2.1
  have f2 := hfe3.1
  have f3 := hfe4.1
  obtain ⟨T, no⟩ := excT_of h3 f3 hP M.x_BadLot_BadLot M.ns_super (He.eqO_ok h4)
  refine ⟨T.oex, ⟨_, fun us => fun y => if y = "given" then some (us.getD 0 .none) else none, T.iC, T.tI, ?_, ?_⟩, by decide, T.ga, T.gg, T.hd, no, M.g_BadLot⟩
  · intro A R s x t0 us hl Mo hx hnx hroom hq
    match us, hl with
    | [v], _ =>
      exact SLE.init1 T Mo hx hnx hroom ⟨_, fun _ => rfl⟩ hP.top ⟨by decide +kernel, by decide +kernel, by decide +kernel, by decide +kernel, by decide +kernel, by decide +kernel⟩ (fun _ _ _ _ _ _ _ => rfl) (no _ (List.mem_cons_self ..)) hq
  · intro vs us r hl f
    match vs, us, r, hl with
    | [v], [u], .cons r _, _ =>
      show RelO (List.lookup f [("given", v)]) (if f = "given" then some u else none)
      by_cases e : f = "given"
      · subst e
        exact r
      · rw [if_neg e]
        simp only [List.lookup, beq_eq_false_iff_ne.mpr e]
        exact True.intro
theorem Ma.xBadFamily (M : Ma K mg) (hP : Pg P) : Xc P w K mg "BadFamily" 1 ["number"] (fV1 "number") := by
  obtain ⟨h, X, G, s⟩ := M.ex
  have hm := s.more
  unfold SL.ex at hm
  simp only [Bool.and_eq_true] at hm
  obtain ⟨h1, h2, h3, h4⟩ := hm
  have hfe := s.fe
  have hfe2 := List.cons.inj hfe
  have hfe3 := List.cons.inj hfe2.2
  have hfe4 := List.cons.inj hfe3.2
  have f1 := hfe2.1
  have f2 := hfe3.1
  have f3 := hfe4.1
  obtain ⟨T, no⟩ := excT_of h1 f1 hP M.x_BadFamily_BadFamily M.ns_super (He.eqO_ok h4)
  refine ⟨T.oex, ⟨_, fun us => fun y => if y = "number" then some (us.getD 0 .none) else none, T.iC, T.tI, ?_, ?_⟩, by decide, T.ga, T.gg, T.hd, no, M.g_BadFamily⟩
  · intro A R s x t0 us hl Mo hx hnx hroom hq
    match us, hl with
    | [v], _ =>
      exact SLE.init1 T Mo hx hnx hroom ⟨_, fun _ => rfl⟩ hP.top ⟨by decide +kernel, by decide +kernel, by decide +kernel, by decide +kernel, by decide +kernel, by decide +kernel⟩ (fun _ _ _ _ _ _ _ => rfl) (no _ (List.mem_cons_self ..)) hq
  · intro vs us r hl f
    match vs, us, r, hl with
    | [v], [u], .cons r _, _ =>
      show RelO (List.lookup f [("number", v)]) (if f = "number" then some u else none)
      by_cases e : f = "number"
      · subst e
        exact r
      · rw [if_neg e]
        simp only [List.lookup, beq_eq_false_iff_ne.mpr e]
        exact True.intro
theorem Ma.xBadText (M : Ma K mg) (hP : Pg P) : Xc P w K mg "BadText" 2 ["line", "word"] (fV2 "line" "word") := by
  obtain ⟨h, X, G, s⟩ := M.ex
  have hm := s.more
  unfold SL.ex at hm
  simp only [Bool.and_eq_true] at hm
  obtain ⟨h1, h2, h3, h4⟩ := hm
  have hfe := s.fe
  have hfe2 := List.cons.inj hfe
  have hfe3 := List.cons.inj hfe2.2
  have hfe4 := List.cons.inj hfe3.2
  have f1 := hfe2.1
  have f2 := hfe3.1
  have f3 := hfe4.1
  obtain ⟨T, no⟩ := excT_of h2 f2 hP M.x_BadText_BadText M.ns_super (He.eqO_ok h4)
  refine ⟨T.oex, ⟨_, fun us => fun y => if y = "word" then some (us.getD 1 .none) else if y = "line" then some (us.getD 0 .none) else none, T.iC, T.tI, ?_, ?_⟩, by decide, T.ga, T.gg, T.hd, no, M.g_BadText⟩
  · intro A R s x t0 us hl Mo hx hnx hroom hq
    match us, hl with
    | [v, v2], _ =>
      exact SLE.init2 T Mo hx hnx hroom ⟨_, fun _ => rfl⟩ hP.top ⟨by decide +kernel, by decide +kernel, by decide +kernel, by decide +kernel, by decide +kernel, by decide +kernel⟩ (fun _ _ _ _ _ _ _ => rfl) (no _ (List.mem_cons_self ..)) (no _ (List.mem_cons_of_mem _ (List.mem_cons_self ..))) hq
  · intro vs us r hl f
    match vs, us, r, hl with
    | [v, v2], [u, u2], .cons r (.cons r2 _), _ =>
      show RelO (List.lookup f [("line", v), ("word", v2)]) (if f = "word" then some u2 else if f = "line" then some u else none)
      by_cases e : f = "line"
      · subst e
        rw [if_neg (by decide)]
        exact r
      · by_cases e2 : f = "word"
        · subst e2
          rw [if_pos rfl]
          exact r2
        · rw [if_neg e2, if_neg e]
          simp only [List.lookup, beq_eq_false_iff_ne.mpr e, beq_eq_false_iff_ne.mpr e2]
          exact True.intro
end
section
variable {X : Cx} {x : Str} {n : Nat} {fs : List Str} {fV : List V → List (Str × V)} {e : Expr} {es : List Expr} {ta : TA} {p pos : Pos} {k : Nat}
theorem pmk_x (Z : Xc X.prog X.w X.K X.mg x n fs fV) (hr : Room k X.A) (ha : PA X (e :: es) ta) (hg : Gl X x := by rfl)
    (hdb : (x == ("__debug__" : Str)) = false := by decide) (he : starEach (e :: es) X.env = (false, eval e X.env) :: starEach es X.env := by rfl) (hpl : (backTo pos (starEach es X.env)).any (·.1) = false := by rfl) :
    PMk X (.Call (.Name x p) (e :: es) [] pos) (tMkE (He.ga X.K x) n fV ta) := by
  obtain ⟨fI, mO, i1, i2, i3, i4⟩ := Z.ini
  exact pmk_exc Z.oex i1 i2 i3 (by have := Z.n10; omega) i4 hr hg Z.g ha hdb he hpl
end
/-- the wish about a raised x -/
def RetX (K : PySem.W.Frag) (x : Str) (fl : List (Str × V)) (H : Hp) (E : XK) : Prop := ∀ d H2, H d = none → Ex H H2 → H2 d = some (.xd fl) → E (.ref (He.ga K x)) (some d) H2
theorem RetX.go {K : PySem.W.Frag} {x : Str} {fl : List (Str × V)} {H H' : Hp} {E : XK} (k : RetX K x fl H E) (e : Ex H H') {d : Addr} {H2 : Hp} (hd : H' d = none) (e2 : Ex H' H2) (h : H2 d = some (.xd fl)) : E (.ref (He.ga K x)) (some d) H2 := k d H2 (fresh_back e hd) (e.trans e2) h
theorem RetX.mono {K : PySem.W.Frag} {x : Str} {fl : List (Str × V)} {H H' : Hp} {E : XK} (k : RetX K x fl H E) (e : Ex H H') : RetX K x fl H' E := fun d H2 hd e2 h => k.go e hd e2 h
theorem RetV.mono {v : V} {H H' : Hp} {Q : VK} (k : RetV v H Q) (e : Ex H H') : RetV v H' Q := fun H2 e2 => k H2 (e.trans e2)
/-- raise C(e, ..) -/
theorem s_raise {C : Addr} {n : Nat} {fV : List V → List (Str × V)} {ta : TA} {σ : L2.St} {H : Hp} {vs : List V} {W : WX} (h : EvA ta σ H vs) (hn : vs.length = n)
    (k : ∀ d H2, H d = none → Ex H H2 → H2 d = some (.xd (fV vs)) → W (.ref C) (some d) σ H2) : tMkE C n fV ta σ H fun cls d H' => W cls d σ H' :=
  h H (Ex.refl H) _ fun H1 e1 => ⟨hn, fun d hd => k d _ (fresh_back e1 hd) (e1.trans (Ex.new hd)) upd_same⟩
end SL
end
section
set_option Elab.async false
set_option linter.all false
set_option maxRecDepth 100000
set_option maxHeartbeats 2000000
/-! The program's lots: is_integer .. need_family, line_of, lot_text, family_text. -/
namespace SL
open PySem PySem.Spec PyProof.Rows L2 Evl
/-! ### promises -/
def spIsInteger : Sp := fun vs H Q _ => ∃ n : Int, vs = [.int n] ∧ RetV (.bl true) H Q
def spIsBetween : Sp := fun vs H Q _ => ∃ a b c : Int, vs = [.int a, .int b, .int c] ∧ RetV (.bl (isBet a b c)) H Q
def spIsLot (K : PySem.W.Frag) : Sp := fun vs H Q _ => ∃ (a : Addr) (ns : List Int), vs = [.ref a] ∧ SqT K H a (ns.map V.int) ∧ ns.length ≤ 40000 ∧ RetV (.bl (isLot ns)) H Q
/-- the tuples of ps stand in H, each of its numbers -/
def RowsAt (K : PySem.W.Frag) (H : Hp) (ps : List (Addr × List Int)) : Prop := ∀ p ∈ ps, SqT K H p.1 (p.2.map V.int)
def rv (ps : List (Addr × List Int)) : List V := ps.map fun p => V.ref p.1
theorem rv_len (ps : List (Addr × List Int)) : (rv ps).length = ps.length := List.length_map ..
def rw' (ps : List (Addr × List Int)) : List (List Int) := ps.map Prod.snd
theorem RowsAt.ex {K : PySem.W.Frag} {H H' : Hp} {ps : List (Addr × List Int)} (e : Ex H H') (h : RowsAt K H ps) : RowsAt K H' ps := fun p hp => ex_t e (h p hp)
def spNeedLot (K : PySem.W.Frag) : Sp := fun vs H Q E => ∃ (a : Addr) (ns : List Int), vs = [.ref a] ∧ SqT K H a (ns.map V.int) ∧ ns.length ≤ 40000 ∧ (isLot ns = true → RetV (.ref a) H Q) ∧ (isLot ns = false → RetX K "BadLot" [("given", .ref a)] H E)
def faultV : Option (Option Nat) → List V
  | none => []
  | some none => [.non]
  | some (some i) => [.int (i : Nat)]
def spFault (K : PySem.W.Frag) : Sp := fun vs H Q _ => ∃ (a : Addr) (ps : List (Addr × List Int)), vs = [.ref a] ∧ SqT K H a (rv ps) ∧ RowsAt K H ps ∧ ps.length ≤ 40000 ∧ (∀ p ∈ ps, p.2.length ≤ 40000) ∧ RetL (faultV (famFault (rw' ps))) H Q
def faultW : Option Nat → V
  | none => .non
  | some i => .int (i : Nat)
def spNeedFamily (K : PySem.W.Frag) : Sp := fun vs H Q E => ∃ (a : Addr) (ps : List (Addr × List Int)), vs = [.ref a] ∧ SqT K H a (rv ps) ∧ RowsAt K H ps ∧ ps.length ≤ 40000 ∧ (∀ p ∈ ps, p.2.length ≤ 40000) ∧
  (famFault (rw' ps) = none → RetV (.ref a) H Q) ∧ (∀ o, famFault (rw' ps) = some o → RetX K "BadFamily" [("number", faultW o)] H E)
def Sm (ns : List Int) : Prop := ∀ n ∈ ns, -1000 ≤ n ∧ n ≤ 1000
theorem log_small {n : Int} (h : -1000 ≤ n ∧ n ≤ 1000) : n.natAbs.log2 < 1920 := by
  have h1 : n.natAbs < 2 ^ 1920 := Nat.lt_of_le_of_lt (show n.natAbs ≤ 1000 by omega) (by decide)
  by_cases h0 : n.natAbs = 0
  · rw [h0]; decide
  · exact (Nat.log2_lt h0).mpr h1
def spLineOf (K : PySem.W.Frag) : Sp := fun vs H Q _ => ∃ (a : Addr) (ns : List Int), vs = [.ref a] ∧ SqT K H a (ns.map V.int) ∧ ns.length ≤ 1000 ∧ Sm ns ∧ RetV (.str (lineT ns)) H Q
def spLotText (K : PySem.W.Frag) : Sp := fun vs H Q _ => ∃ (a : Addr) (ns : List Int), vs = [.ref a] ∧ SqT K H a (ns.map V.int) ∧ isLot ns = true ∧ RetV (.str (lineT ns)) H Q
def spFamilyText (K : PySem.W.Frag) : Sp := fun vs H Q _ => ∃ (a : Addr) (ps : List (Addr × List Int)), vs = [.ref a] ∧ SqT K H a (rv ps) ∧ RowsAt K H ps ∧ (∀ p ∈ ps, isLot p.2 = true) ∧ famFault (rw' ps) = none ∧ RetV (.str (famT (rw' ps))) H Q
theorem isLot_len {ns : List Int} (h : isLot ns = true) : 1 ≤ ns.length ∧ ns.length ≤ 5 := by
  simp only [isLot, Bool.and_eq_true, decide_eq_true_eq] at h
  exact h.1
theorem isLot_sm {ns : List Int} (h : isLot ns = true) : Sm ns := fun n hn => by
  simp only [isLot, isBet, Bool.and_eq_true, decide_eq_true_eq, List.all_eq_true] at h
  have := h.2 n hn
  omega
section
variable {P : Program} {w : World} {K : PySem.W.Frag} {mg : Str → Option Value} {base : Heap}
theorem ok_is_integer (M : Ma K mg) : Dn P w K mg base "is_integer" 1 ["thing"] spIsInteger := by
  obtain ⟨fd, F⟩ := M.d_IsInteger
  refine Dn.of F M.g_is_integer (fun _ _ _ _ _ _ us hl => match us, hl with | [_], _ => rfl) (F.ok scIsInteger (fun vs H Q E h => ?_) (fun cdv A outer s H vs Q E hr h => ?_))
  · obtain ⟨n, rfl, _⟩ := h
    rfl
  · obtain ⟨n, rfl, q⟩ := h
    refine ⟨_, pss_one (ps_ret (pe_and (pe_callB call_isi (by rfl) M.n_isinstance (by decide +kernel) (pa_cons (pv 0) (pa_cons (pe_bltn (v := .ty "int") (by rfl) M.n_int (by decide +kernel) rfl) pa_nil)))
      (pe_one (pe_not (pe_callB call_isi (by rfl) M.n_isinstance (by decide +kernel) (pa_cons (pv 0) (pa_cons (pe_bltn (v := .ty "bool") (by rfl) M.n_bool (by decide +kernel) rfl) pa_nil))))))), ?_⟩
    exact s_ret (ev_andV (ev_isi (ev_var rfl) ev_c (.ty _) (fun _ _ => .base (.int _)) (kit_ty (r := true) (by decide +kernel))) fun _ =>
      ev_notV (ev_isi (ev_var rfl) ev_c (.ty _) (fun _ _ => .base (.int _)) (kit_ty (r := false) (by decide +kernel)))) fun H1 e => q H1 e
theorem ok_is_between (M : Ma K mg) : Dn P w K mg base "is_between" 2 ["thing", "least", "most"] spIsBetween := by
  obtain ⟨fd, F⟩ := M.d_IsBetween
  refine Dn.of F M.g_is_between (fun _ _ _ _ _ _ us hl => match us, hl with | [_, _, _], _ => rfl) (F.ok scIsBetween (fun vs H Q E h => ?_) (fun cdv A outer s H vs Q E hr h => ?_))
  · obtain ⟨a, b, c, rfl, _⟩ := h
    rfl
  · obtain ⟨a, b, c, rfl, q⟩ := h
    refine ⟨_, pss_one (ps_ret (pe_and (pe_dn (ok_is_integer M) hr passL (pa_cons (pv 0) pa_nil)) (pe_one (pe_chain op_le op_le (pv 1) (pv 0) (pv 2))))), ?_⟩
    exact s_ret (ev_andV (ev_call (ea_cons (ev_var rfl) ea_nil) fun H1 e Q q E => ⟨a, rfl, q⟩) fun _ => ev_chainI (ev_var rfl) (ev_var rfl) (ev_var rfl)) fun H1 e => q H1 e
theorem ok_is_lot (M : Ma K mg) : Dn P w K mg base "is_lot" 3 ["thing"] (spIsLot K) := by
  obtain ⟨fd, F⟩ := M.d_IsLot
  obtain ⟨t1, m1⟩ := M.i_MOST_PLACES
  obtain ⟨t2, m2⟩ := M.i_MOST_AT
  refine Dn.of F M.g_is_lot (fun _ _ _ _ _ _ us hl => match us, hl with | [_], _ => rfl) (F.ok scIsLot (fun vs H Q E h => ?_) (fun cdv A outer s H vs Q E hr h => ?_))
  · obtain ⟨n, ns, rfl, _⟩ := h
    rfl
  · obtain ⟨a, ns, rfl, hs, hz, q⟩ := h
    refine ⟨_, pss_cons (ps_if (PW.pt (pw_or (pt_not (pt_val (pe_callB call_isi (by rfl) M.n_isinstance (by decide +kernel) (pa_cons (pv 0) (pa_cons (pe_bltn (v := .ty "tuple") (by rfl) M.n_tuple (by decide +kernel) rfl) pa_nil)))))
        (pw_or1 (pt_not (pt_chain op_le op_le pe_int (pe_callB call_len_seq (by rfl) M.n_len PySem.boot_len (pa_cons (pv 0) pa_nil)) (pe_glob (v := .int 5) (by rfl) m1 ⟨_, rfl⟩)))))) (pss_one (ps_ret pe_bl)) pss_nil)
      (pss_one (ps_ret (pe_callB (cr_all rfl) (by rfl) M.n_all (by decide +kernel) (pa_cons (pe_lc (own := [("part", 1)]) (g := gName 1) (tt := tYes) rfl scIsLot.nd (pi_tup (pv 0)) (blkOk_by (N := ["thing", "part"]) (sc := defScope sIsLot) (by decide +kernel))
        (fun _ _ _ _ _ => pg_name (i := 1) scIsLot.nd rfl (Or.inl rfl)) (fun _ _ _ _ _ => pts_nil)
        (fun _ _ _ _ _ => pe_dn (ok_is_between M) hr passL (pa_cons (pv 1) (pa_cons (pe_op op_sub pe_int (pe_glob (v := .int 99) (by rfl) m2 ⟨_, rfl⟩)) (pa_cons (pe_glob (v := .int 99) (by rfl) m2 ⟨_, rfl⟩) pa_nil))))) pa_nil)))), ?_⟩
    refine q_when (et_or (et_not (et_B (ev_isi (b := true) (ev_var rfl) ev_c (.ty _) (fun H1 e1 => ty_tup (ex_t e1 hs)) (kit_ty (by decide +kernel))))) fun _ => et_not (et_test (ev_chainI ev_c (ev_lenT (ev_var rfl) hs) ev_c))) (fun hb H1 e1 => s_ret ev_c fun H2 e2 => ?_) fun hb H1 e1 => s_ret (ev_allN (bs := ns.map fun n => isBet n (-99) 99) ?_) fun H2 e2 => ?_
    · have e : isLot ns = false := by
        unfold isLot
        simp at hb ⊢
        intro h1 h2
        omega
      rw [e] at q
      exact q H2 (e1.trans e2)
    · rw [List.map_map]
      exact el_lcTm (xs := ns) (ev_var rfl) (ex_t e1 hs) hz (fun _ => rfl) fun n H2 _ e2 => ev_call (ea_cons (ev_var rfl) (ea_cons (ev_sub ev_c ev_c) (ea_cons ev_c ea_nil))) fun H3 e3 Q q E => ⟨n, -99, 99, rfl, q⟩
    · have e : isLot ns = (ns.map fun n => isBet n (-99) 99).all id := by
        unfold isLot
        simp at hb ⊢
        omega
      rw [e] at q
      exact q H2 (e1.trans e2)
theorem ok_need_lot (M : Ma K mg) (hP : Pg P) : Dn P w K mg base "need_lot" 4 ["thing"] (spNeedLot K) := by
  obtain ⟨fd, F⟩ := M.d_NeedLot
  refine Dn.of F M.g_need_lot (fun _ _ _ _ _ _ us hl => match us, hl with | [_], _ => rfl) (F.ok scNeedLot (fun vs H Q E h => ?_) (fun cdv A outer s H vs Q E hr h => ?_))
  · obtain ⟨n, ns, rfl, _⟩ := h
    rfl
  · obtain ⟨a, ns, rfl, hs, hz, q, qx⟩ := h
    refine ⟨_, pss_cons (ps_if (pt_not (pt_val (pe_dn (ok_is_lot M) hr passL (pa_cons (pv 0) pa_nil)))) (pss_one (ps_raise rfl (takes_of rfl rfl rfl rfl) (pmk_x (M.xBadLot hP) hr (pa_cons (pv 0) pa_nil)))) pss_nil)
      (pss_one (ps_ret (pv 0))), ?_⟩
    refine q_when (et_not (et_B (ev_call (z := .bl (isLot ns)) (ea_cons (ev_var rfl) ea_nil) fun H1 e Q q E => ⟨a, ns, rfl, ex_t e hs, hz, q⟩))) (fun hb H1 e1 => ?_) (fun hb H1 e1 => s_ret (ev_var rfl) fun H2 e2 => q (by simpa using hb) H2 (e1.trans e2))
    exact s_raise (W := fun cls d _ H => E cls d H) (vs := [.ref a]) (ea_cons (ev_var rfl) ea_nil) rfl fun d H2 hd e2 h => (qx (by simpa using hb)).go e1 hd e2 h
theorem ok_fault (M : Ma K mg) : Dn P w K mg base "fault_of_family" 4 ["thing"] (spFault K) := by
  obtain ⟨fd, F⟩ := M.d_FaultOfFamily
  obtain ⟨t1, m1⟩ := M.i_MOST_LOTS
  refine Dn.of F M.g_fault_of_family (fun _ _ _ _ _ _ us hl => match us, hl with | [_], _ => rfl) (F.ok scFaultOfFamily (fun vs H Q E h => ?_) (fun cdv A outer s H vs Q E hr h => ?_))
  · obtain ⟨n, ns, rfl, _⟩ := h
    rfl
  · obtain ⟨a, ps, rfl, hs, hR, hz, hz2, q⟩ := h
    refine ⟨_, pss_cons (ps_if (PW.pt (pw_or (pt_not (pt_val (pe_callB call_isi (by rfl) M.n_isinstance (by decide +kernel) (pa_cons (pv 0) (pa_cons (pe_bltn (v := .ty "tuple") (by rfl) M.n_tuple (by decide +kernel) rfl) pa_nil)))))
        (pw_or1 (pt_not (pt_chain op_le op_le pe_int (pe_callB call_len_seq (by rfl) M.n_len PySem.boot_len (pa_cons (pv 0) pa_nil)) (pe_glob (v := .int 200) (by rfl) m1 ⟨_, rfl⟩)))))) (pss_one (ps_ret (pe_lst (pa_cons pe_non pa_nil)))) pss_nil)
      (pss_cons (ps_for (passes_of rfl) rfl (pi_enumT (by rfl) M.n_enumerate (pa_cons (pv 0) pa_nil)) (pg_tup rfl (pgs_cons (pg_name (i := 1) scFaultOfFamily.nd rfl (.inl rfl)) (pgs_cons (pg_name (i := 2) scFaultOfFamily.nd rfl (.inl rfl)) pgs_nil)))
        (pss_one (ps_if (PW.pt (pw_or (pt_not (pt_val (pe_dn (ok_is_lot M) hr passL (pa_cons (pv 2) pa_nil)))) (pw_or1 (PW.pt (pw_and (pt_cmpR op_gt (pv 1) pe_int (nomark _)) (pw_and1 (PW.pt (pw_or
            (pt_cmpR op_ne (pe_callB call_len_seq (by rfl) M.n_len PySem.boot_len (pa_cons (pv 2) pa_nil)) (pe_callB call_len_seq (by rfl) M.n_len PySem.boot_len (pa_cons (pe_ix ix_tup (pv 0) pe_int (fun _ _ => rfl)) pa_nil)) (nomark _))
            (pw_or1 (pt_cmpR (op_leT hr.units0) (pv 2) (pe_ix ix_tup (pv 0) (pe_op op_sub (pv 1) pe_int) (fun _ _ => rfl)) (nomark _)))))))))))
          (pss_one (ps_ret (pe_lst (pa_cons (pv 1) pa_nil)))) pss_nil)))
      (pss_one (ps_ret (pe_lst pa_nil)))), ?_⟩
    refine q_when (et_or (et_not (et_B (ev_isi (b := true) (ev_var rfl) ev_c (.ty _) (fun H1 e1 => ty_tup (ex_t e1 hs)) (kit_ty (by decide +kernel))))) fun _ => et_not (et_test (ev_chainI ev_c (ev_lenT (ev_var rfl) hs) ev_c))) (fun hb H1 e1 => ?_) fun hb H1 e1 => ?_
    · have e : famFault (rw' ps) = some none := by
        unfold famFault
        rw [if_pos]
        rw [rv_len] at hb
        simp only [Bool.not_true, Bool.false_or, Bool.not_eq_true', Bool.and_eq_false_iff, decide_eq_false_iff_not] at hb
        rw [show (rw' ps).length = ps.length from List.length_map ..]
        omega
      rw [e] at q
      exact s_retL (el_lst (ea_cons ev_c ea_nil) (by simp)) fun p H2 hp e2 h2 => q p H2 (fresh_back e1 hp) (e1.trans e2) h2
    have hlen : 1 ≤ ps.length ∧ ps.length ≤ 200 := by
      rw [rv_len] at hb
      simp only [Bool.not_true, Bool.false_or, Bool.not_eq_false', Bool.and_eq_true, decide_eq_true_eq] at hb
      omega
    have hff : famFault (rw' ps) = ((List.range ps.length).find? (badAt (rw' ps))).map some := by
      unfold famFault
      rw [show (rw' ps).length = ps.length from List.length_map .., if_neg (by omega)]
    refine ⟨.ref a, rfl, a, rv ps, rfl, ex_t e1 hs, q_it walk_enumT (fun i σ' H' => (∃ y1 y2, σ' = [some (.ref a), y1, y2]) ∧ Ex H H' ∧ ∀ j, j < i → badAt (rw' ps) j = false) ⟨⟨_, _, rfl⟩, e1, fun j hj => absurd hj (Nat.not_lt_zero _)⟩ (fun i σ' H' _ p => ex_t p.2.1 hs) (fun i x σ' H2 H' hi p y => ?_) fun σ' H' p => ?_⟩
    · obtain ⟨⟨y1, y2, rfl⟩, e2, hbad⟩ := p
      obtain ⟨T, x1, x2, rfl, hT, rfl, h1, h2⟩ := y
      have hi' : i < ps.length := by simpa [rv] using hi
      have e3 : Ex H (upd H2 T (.tup [x1, x2])) := e2.trans (Ex.new hT)
      have ex1 : x1 = .int (i : Nat) := (Option.some.inj h1).symm
      have ex2 : x2 = .ref ps[i].1 := by
        simp only [rv, List.getElem?_map, List.getElem?_eq_getElem hi', Option.map_some, Option.some.injEq] at h2
        exact h2.symm
      refine ⟨T, [x1, x2], rfl, SqT.of upd_same, rfl, x1, [x2], rfl, x2, [], rfl, rfl, ?_⟩
      subst ex1 ex2
      have hp : SqT K H ps[i].1 (ps[i].2.map V.int) := hR _ (List.getElem_mem hi')
      have h0' : 0 < ps.length := by omega
      have hp0 : SqT K H ps[0].1 (ps[0].2.map V.int) := hR _ (List.getElem_mem h0')
      have hpm : SqT K H (ps[i - 1]'(by omega)).1 ((ps[i - 1]'(by omega)).2.map V.int) := hR _ (List.getElem_mem (by omega))
      have g0 : (rv ps)[0]? = some (.ref ps[0].1) := by simp [rv, h0']
      have gm : (rv ps)[i - 1]? = some (.ref (ps[i - 1]'(by omega)).1) := by simp [rv, (by omega : i - 1 < ps.length)]
      have eb : badAt (rw' ps) i = (!isLot ps[i].2 || (decide ((0 : Int) < (i : Nat)) && (!decide (V.int ((ps[i].2.map V.int).length : Int) = V.int ((ps[0].2.map V.int).length : Int)) || leT ps[i].2 (ps[i - 1]'(by omega)).2))) := by
        unfold badAt
        have e9 : decide (V.int ((ps[i].2.map V.int).length : Int) = V.int ((ps[0].2.map V.int).length : Int)) = decide (ps[i].2.length = ps[0].2.length) := by
          rw [List.length_map, List.length_map]
          exact decide_eq_decide.mpr ⟨fun h => by have := V.int.inj h; omega, fun h => by rw [h]⟩
        rw [e9]
        simp [rw', List.getD, hi', h0', (by omega : i - 1 < ps.length)]
      have him : 0 < i → V.int ((i : Nat) - 1 : Int) = V.int ((i - 1 : Nat) : Int) := fun h => congrArg V.int (by omega)
      refine s_when (b := badAt (rw' ps) i) ?_ (fun hb' H3 e4 => ?_) fun hb' H3 e4 => ?_
      · rw [eb]
        refine et_or (et_not (et_B (ev_call (z := .bl (isLot ps[i].2)) (ea_cons (ev_var rfl) ea_nil) fun H1 e Q q E => ⟨_, _, rfl, ex_t (e3.trans e) hp, hz2 _ (List.getElem_mem hi'), q⟩))) fun _ =>
          et_and (et_test (ev_op (ev_var rfl) ev_c (rv_I0 (g := fun i j => .bl (decide (j < i)))))) fun hpos =>
          et_or (et_test (ev_op (ev_lenT (ev_var rfl) (ex_t e3 hp)) (ev_lenT (ev_ixT (ev_var rfl) ev_c (ex_t e3 hs) g0) (ex_t e3 hp0)) (rv_ne rfl))) fun _ => et_test (ev_op (ev_var rfl) (ev_ixT (i := i - 1) (ev_var rfl) (ev_is (ev_sub (ev_var rfl) ev_c) (him (by simpa using hpos))) (ex_t e3 hs) gm) (rv_leT (ex_t e3 hp) (ex_t e3 hpm)))
      · have e : famFault (rw' ps) = some (some i) := by
          rw [hff]
          have : (List.range ps.length).find? (badAt (rw' ps)) = some i := by
            rw [List.find?_range_eq_some]
            exact ⟨hb', by simpa using hi', fun j hj => by simp [hbad j hj]⟩
          rw [this]
          rfl
        rw [e] at q
        exact s_retL (el_lst (ea_cons (ev_var rfl) ea_nil) (by simp)) fun p H4 hp4 e5 h5 => q p H4 (fresh_back (e3.trans e4) hp4) ((e3.trans e4).trans e5) h5
      · refine ⟨⟨_, _, rfl⟩, e3.trans e4, fun j hj => ?_⟩
        rcases Nat.lt_succ_iff_lt_or_eq.mp hj with h | h
        · exact hbad j h
        · rw [h]; exact hb'
    · obtain ⟨⟨y1, y2, rfl⟩, e2, hbad⟩ := p
      have e : famFault (rw' ps) = none := by
        rw [hff]
        have : (List.range ps.length).find? (badAt (rw' ps)) = none := by
          rw [List.find?_eq_none]
          intro j hj
          rw [List.mem_range] at hj
          simp [hbad j (by simpa [rv] using hj)]
        rw [this]
        rfl
      rw [e] at q
      exact s_retL (σ := [some (.ref a), y1, y2]) (el_lst ea_nil (by simp)) fun p H4 hp4 e5 h5 => q p H4 (fresh_back e2 hp4) (e2.trans e5) h5
theorem ok_need_family (M : Ma K mg) (hP : Pg P) : Dn P w K mg base "need_family" 5 ["thing"] (spNeedFamily K) := by
  obtain ⟨fd, F⟩ := M.d_NeedFamily
  refine Dn.of F M.g_need_family (fun _ _ _ _ _ _ us hl => match us, hl with | [_], _ => rfl) (F.ok scNeedFamily (fun vs H Q E h => ?_) (fun cdv A outer s H vs Q E hr h => ?_))
  · obtain ⟨n, ns, rfl, _⟩ := h
    rfl
  · obtain ⟨a, ps, rfl, hs, hR, hz, hz2, q, qx⟩ := h
    refine ⟨_, pss_cons (ps_for (passes_of rfl) rfl (pi_list (pe_dn (ok_fault M) hr passL (pa_cons (pv 0) pa_nil))) (pg_name (i := 1) scNeedFamily.nd rfl (.inl rfl))
        (pss_one (ps_raise rfl (takes_of rfl rfl rfl rfl) (pmk_x (M.xBadFamily hP) hr (pa_cons (pv 1) pa_nil)))))
      (pss_one (ps_ret (pv 0))), ?_⟩
    refine q_forNLn (xs := faultV (famFault (rw' ps))) (el_call (ea_cons (ev_var rfl) ea_nil) fun H1 e1 Q q E => ⟨a, ps, rfl, ex_t e1 hs, hR.ex e1, hz, hz2, q⟩)
      (fun p i σ' H' => i = 0 ∧ σ' = [some (.ref a), none] ∧ Ex H H' ∧ H' p = some (.lst (faultV (famFault (rw' ps))))) (fun p H1 hp e1 h1 => ⟨rfl, rfl, e1, h1⟩) (fun p i σ' H' hi h => sq_of h.2.2.2) (fun p i x σ' H' hx h => ?_) (fun p σ' H' h => ?_)
    · obtain ⟨rfl, rfl, e, h1⟩ := h
      cases hf : famFault (rw' ps) with
      | none =>
        rw [hf] at hx
        cases hx
      | some o =>
        rw [hf] at hx
        have ex : x = faultW o := by
          cases o with
          | none => exact (Option.some.inj hx).symm
          | some i => exact (Option.some.inj hx).symm
        subst ex
        exact s_raise (W := fun cls d _ H => E cls d H) (vs := [faultW o]) (ea_cons (ev_var rfl) ea_nil) rfl fun d H2 hd e2 h => (qx o hf).go e hd e2 h
    · obtain ⟨h0, rfl, e, h1⟩ := h
      cases hf : famFault (rw' ps) with
      | none => exact s_ret (ev_var rfl) fun H2 e2 => q hf H2 (e.trans e2)
      | some o =>
        rw [hf] at h0
        cases o <;> cases h0
theorem ev_join {to te : TE} {σ : L2.St} {H : Hp} {a : Str} {ys : List Str} {X : Cx} (ho : Ev to σ H (.str a)) (he : EvL te σ H (ys.map V.str)) (hl : (ys.map (·.length)).sum + ys.length * a.length ≤ 16777216) :
    Ev (tM1 (fun x xs H Q => ∃ a p, ∃ ys : List Str, x = .str a ∧ xs = [.ref p] ∧ (SqL X.K H p (ys.map V.str) ∨ SqT X.K H p (ys.map V.str)) ∧ (ys.map (·.length)).sum + ys.length * a.length ≤ 16777216 ∧ Q (.str (Txt.join a ys)) H) to te) σ H (.str (Txt.join a ys)) := fun H1 e1 Q q =>
  ho H1 e1 _ fun H2 e2 => ⟨⟨_, rfl⟩, he H2 (e1.trans e2) _ fun p H3 hp e3 h3 => ⟨a, p, ys, rfl, rfl, .inl (sq_of h3), hl, q H3 (e2.trans e3)⟩⟩
theorem line_fit {ns : List Int} (hl : ns.length ≤ 1000) (hs : Sm ns) : ((ns.map numT).map (·.length)).sum + (ns.map numT).length * (" " : Str).length ≤ 16777216 := by
  have h2 := sum_le (fun n => (numT n).length) 5 ns fun n hn => numT_len (hs n hn)
  have h4 : (ns.map ((fun s : Str => s.length) ∘ numT)).sum = (ns.map fun n => (numT n).length).sum := rfl
  rw [List.map_map, List.length_map, h4, show (" " : Str).length = 1 from rfl]
  omega
theorem ok_line_of (M : Ma K mg) : Dn P w K mg base "line_of" 1 ["things"] (spLineOf K) := by
  obtain ⟨fd, F⟩ := M.d_LineOf
  obtain ⟨t1, m1⟩ := M.s_BLANK
  refine Dn.of F M.g_line_of (fun _ _ _ _ _ _ us hl => match us, hl with | [_], _ => rfl) (F.ok scLineOf (fun vs H Q E h => ?_) (fun cdv A outer s H vs Q E hr h => ?_))
  · obtain ⟨n, ns, rfl, _⟩ := h
    rfl
  · obtain ⟨a, ns, rfl, hs, hl, hz, q⟩ := h
    refine ⟨_, pss_one (ps_ret (pe_join (pe_glob (v := .str " ") (by rfl) m1 ⟨_, rfl⟩) (pe_lc (own := [("thing", 1)]) (g := gName 1) (tt := tYes) rfl scLineOf.nd (pi_tup (pv 0)) (blkOk_by (N := ["things", "thing"]) (sc := defScope sLineOf) (by decide +kernel))
        (fun _ _ _ _ _ => pg_name (i := 1) scLineOf.nd rfl (Or.inl rfl)) (fun _ _ _ _ _ => pts_nil)
        (fun _ _ _ _ _ => pe_callTy call_str_int (by rfl) M.n_str (by decide +kernel) (pa_cons (pv 1) pa_nil))))), ?_⟩
    refine s_ret (ev_join (ys := ns.map numT) ev_c (el_is (el_lcTm (xs := ns) (f := fun n => V.str (numT n)) (ev_var rfl) hs (by omega) (fun _ => rfl) fun n H2 hn e2 => ev_cb (ea_cons (ev_var rfl) ea_nil) fun H3 e3 Q q => ⟨n, rfl, log_small (hz n hn), q H3 (Ex.refl H3)⟩) (by rw [List.map_map]; rfl)) (line_fit hl hz)) fun H2 e2 => q H2 e2
theorem ok_lot_text (M : Ma K mg) (hP : Pg P) : Dn P w K mg base "lot_text" 5 ["lot"] (spLotText K) := by
  obtain ⟨fd, F⟩ := M.d_LotText
  refine Dn.of F M.g_lot_text (fun _ _ _ _ _ _ us hl => match us, hl with | [_], _ => rfl) (F.ok scLotText (fun vs H Q E h => ?_) (fun cdv A outer s H vs Q E hr h => ?_))
  · obtain ⟨n, ns, rfl, _⟩ := h
    rfl
  · obtain ⟨a, ns, rfl, hs, hl, q⟩ := h
    refine ⟨_, pss_one (ps_ret (pe_dn (ok_line_of M) (hr.mono (by decide)) passL (pa_cons (pe_dn (ok_need_lot M hP) hr passL (pa_cons (pv 0) pa_nil)) pa_nil))), ?_⟩
    have ll := isLot_len hl
    exact s_ret (ev_call (ea_cons (ev_call (z := .ref a) (ea_cons (ev_var rfl) ea_nil) fun H1 e1 Q q E => ⟨a, ns, rfl, ex_t e1 hs, by omega, fun _ => q, fun h => by rw [hl] at h; cases h⟩) ea_nil) fun H1 e1 Q q E =>
      ⟨a, ns, rfl, ex_t e1 hs, by omega, isLot_sm hl, q⟩) fun H2 e2 => q H2 e2
theorem ok_family_text (M : Ma K mg) (hP : Pg P) : Dn P w K mg base "family_text" 6 ["family"] (spFamilyText K) := by
  obtain ⟨fd, F⟩ := M.d_FamilyText
  obtain ⟨t1, m1⟩ := M.s_NEWLINE
  refine Dn.of F M.g_family_text (fun _ _ _ _ _ _ us hl => match us, hl with | [_], _ => rfl) (F.ok scFamilyText (fun vs H Q E h => ?_) (fun cdv A outer s H vs Q E hr h => ?_))
  · obtain ⟨n, ns, rfl, _⟩ := h
    rfl
  · obtain ⟨a, ps, rfl, hs, hR, hl, hf, q⟩ := h
    refine ⟨_, pss_one (ps_ret (pe_join (pe_glob (v := .str "\n") (by rfl) m1 ⟨_, rfl⟩) (pe_lc (own := [("lot", 1)]) (g := gName 1) (tt := tYes) rfl scFamilyText.nd (pi_tup (pe_dn (ok_need_family M hP) hr passL (pa_cons (pv 0) pa_nil))) (blkOk_by (N := ["family", "lot"]) (sc := defScope sFamilyText) (by decide +kernel))
        (fun _ _ _ _ _ => pg_name (i := 1) scFamilyText.nd rfl (Or.inl rfl)) (fun _ _ _ _ _ => pts_nil)
        (fun _ _ _ _ _ => pe_dn (ok_line_of M) (hr.mono (by decide)) passL (pa_cons (pv 1) pa_nil))))), ?_⟩
    have hlen : ps.length ≤ 200 := by
      unfold famFault at hf
      rw [show (rw' ps).length = ps.length from List.length_map ..] at hf
      split at hf
      · cases hf
      · omega
    have fit : (((rw' ps).map lineT).map (·.length)).sum + ((rw' ps).map lineT).length * ("\n" : Str).length ≤ 16777216 := by
      have h2 := sum_le (fun r => (lineT r).length) 30 (rw' ps) fun r hr => by
        obtain ⟨p, hp, rfl⟩ := List.mem_map.mp hr
        have := lineT_len (isLot_sm (hl p hp))
        have := isLot_len (hl p hp)
        omega
      have h4 : ((rw' ps).map ((fun s : Str => s.length) ∘ lineT)).sum = ((rw' ps).map fun n => (lineT n).length).sum := rfl
      rw [List.map_map, List.length_map, h4, show ("\n" : Str).length = 1 from rfl, show (rw' ps).length = ps.length from List.length_map ..]
      rw [show (rw' ps).length = ps.length from List.length_map ..] at h2
      omega
    refine s_ret (ev_join (ys := (rw' ps).map lineT) ev_c (el_is (el_lcTm (xs := ps) (enc := fun p => V.ref p.1) (f := fun p => V.str (lineT p.2)) (ev_call (z := .ref a) (ea_cons (ev_var rfl) ea_nil) fun H1 e1 Q q E => ⟨a, ps, rfl, ex_t e1 hs, hR.ex e1, by omega, fun p hp => by have := isLot_len (hl p hp); omega, fun _ => q, fun o ho => by rw [hf] at ho; cases ho⟩) hs (by omega) (fun _ => rfl)
      fun p H2 hp e2 => ev_call (ea_cons (ev_var rfl) ea_nil) fun H3 e3 Q q E => ⟨p.1, p.2, rfl, ex_t (e2.trans e3) (hR p hp), by have := isLot_len (hl p hp); omega, isLot_sm (hl p hp), q⟩) (by unfold rw'; rw [List.map_map, List.map_map]; rfl)) fit) fun H2 e2 => q H2 e2
end
end SL
end
section
set_option Elab.async false
set_option linter.all false
set_option maxRecDepth 100000
set_option maxHeartbeats 2000000
/-! Plain mathematics: the number in a word. -/
namespace SL
open PySem PySem.Spec PyProof.Rows L2 Evl
/-- the figures of a word -/
def figL (l : List Nat) : List Nat := if l.head? = some 45 then l.drop 1 else l
def isDig (c : Nat) : Bool := decide (48 ≤ c) && decide (c ≤ 57)
/-- is it a number of at most 31 figures -/
def okNum (l : List Nat) : Bool := decide (1 ≤ (figL l).length) && decide ((figL l).length ≤ 31) && (figL l).all isDig && !(decide ((figL l).head? = some 48) && !decide (l = [48]))
def numIn (w : Str) : Option Int := if okNum w.cps.toList = true then PySem.intText? w else none
theorem okNum_int {w : Str} (h : okNum w.cps.toList = true) : ∃ n, PySem.intText? w = some n := by
  simp only [okNum, Bool.and_eq_true, decide_eq_true_eq, List.all_eq_true] at h
  obtain ⟨⟨⟨h1, h2⟩, h3⟩, _⟩ := h
  have hd : NumText.AllDigits (figL w.cps.toList) := fun c hc => by
    have := h3 c hc
    simp only [isDig, Bool.and_eq_true, decide_eq_true_eq] at this
    omega
  have hne : figL w.cps.toList ≠ [] := fun e => by rw [e] at h1; simp at h1
  have hl : w.length = w.cps.toList.length := Array.length_toList.symm
  unfold figL at h1 h2 hd hne
  split at h1
  · rename_i hh
    rw [if_pos hh] at h2 hd hne
    cases hw : w.cps.toList with
    | nil => rw [hw] at hh; cases hh
    | cons c r =>
      rw [hw] at hh h2 hd hne
      have ec : c = 45 := Option.some.inj hh
      subst ec
      have : w.length = r.length + 1 := by rw [hl, hw]; rfl
      exact ⟨_, intText_neg hw hd hne (by simp at h2; omega)⟩
  · rename_i hh
    rw [if_neg hh] at h2 hd hne
    exact ⟨_, intText_digits hd hne (by omega)⟩
theorem numIn_some {w : Str} (h : okNum w.cps.toList = true) : ∃ n, PySem.intText? w = some n ∧ numIn w = some n ∧ w.length ≤ 32 := by
  obtain ⟨n, e⟩ := okNum_int h
  refine ⟨n, e, by unfold numIn; rw [if_pos h, e], ?_⟩
  simp only [okNum, Bool.and_eq_true, decide_eq_true_eq, List.all_eq_true] at h
  have h2 := h.1.1.2
  have hl : w.length = w.cps.toList.length := Array.length_toList.symm
  unfold figL at h2
  split at h2
  · rw [List.length_drop] at h2
    omega
  · omega
/-- a written number is read back -/
theorem numIn_small : ∀ i : Nat, i < 2001 → numIn (numT ((i : Int) - 1000)) = some ((i : Int) - 1000) := by decide +kernel
theorem numIn_numT {n : Int} (h : -1000 ≤ n ∧ n ≤ 1000) : numIn (numT n) = some n := by
  have := numIn_small (n + 1000).toNat (by omega)
  rw [show (((n + 1000).toNat : Nat) : Int) - 1000 = n by omega] at this
  exact this
def optV : Option Int → V
  | none => .non
  | some n => .int n
theorem cut_head (w : Str) : (cutS w none (some 1)).cps.toList = w.cps.toList.take 1 := by
  have hl : w.length = w.cps.toList.length := Array.length_toList.symm
  unfold cutS
  rw [show HT.sIx w.length 0 none = 0 from rfl, show HT.sIx w.length w.length (some 1) = min 1 w.length from HT.sIx_nat _ _ 1]
  simp only [List.drop_zero, Nat.sub_zero]
  rw [hl]
  cases w.cps.toList with
  | nil => rfl
  | cons c r => simp
theorem cut_tail (w : Str) : (cutS w (some 1) none).cps.toList = w.cps.toList.drop 1 := by
  have hl : w.length = w.cps.toList.length := Array.length_toList.symm
  unfold cutS
  rw [show HT.sIx w.length 0 (some 1) = min 1 w.length from HT.sIx_nat _ _ 1, show HT.sIx w.length w.length none = w.length from rfl, hl]
  cases w.cps.toList with
  | nil => rfl
  | cons c r => simp
theorem str_ext {a b : Str} (h : a.cps.toList = b.cps.toList) : a = b := by
  obtain ⟨⟨a⟩⟩ := a
  obtain ⟨⟨b⟩⟩ := b
  simp only at h
  rw [h]
theorem str_eq_iff {a b : Str} : a = b ↔ a.cps.toList = b.cps.toList := ⟨fun h => by rw [h], str_ext⟩
theorem head_is (w : Str) (c : Nat) (z : Str) (hz : z.cps.toList = [c]) : decide (V.str (cutS w none (some 1)) = V.str z) = decide (w.cps.toList.head? = some c) := by
  refine decide_eq_decide.mpr ⟨fun h => ?_, fun h => ?_⟩
  · have e := congrArg (fun s : Str => s.cps.toList) (V.str.inj h)
    simp only [cut_head, hz] at e
    cases hw : w.cps.toList with
    | nil => rw [hw] at e; cases e
    | cons d r => rw [hw] at e; simp at e; simp [e]
  · have e : cutS w none (some 1) = z := str_ext (by
      rw [cut_head, hz]
      cases hw : w.cps.toList with
      | nil => rw [hw] at h; cases h
      | cons d r => rw [hw] at h; simp at h; simp [h])
    rw [e]
theorem sign_is (c d : Nat) (z : Str) (hz : z.cps.toList = [d]) : decide (V.str ⟨#[c]⟩ = V.str z) = decide (c = d) := by
  refine decide_eq_decide.mpr ⟨fun h => ?_, fun h => ?_⟩
  · have e := congrArg (fun s : Str => s.cps.toList) (V.str.inj h)
    simp only [hz] at e
    exact (List.cons.inj e).1
  · subst h
    exact congrArg V.str (str_ext hz.symm)
theorem text_is (w : Str) (l : List Nat) (z : Str) (hz : z.cps.toList = l) : decide (V.str w = V.str z) = decide (w.cps.toList = l) := by
  refine decide_eq_decide.mpr ⟨fun h => ?_, fun h => ?_⟩
  · rw [V.str.inj h, hz]
  · exact congrArg V.str (str_ext (h.trans hz.symm))
/-- the figures as a text -/
def figT (w : Str) : Str := if w.cps.toList.head? = some 45 then cutS w (some 1) none else w
theorem figT_tl (w : Str) : (figT w).cps.toList = figL w.cps.toList := by
  unfold figT figL
  split
  · exact cut_tail w
  · rfl
theorem figT_len (w : Str) : (figT w).length ≤ w.length := by
  have h1 : (figT w).length = (figL w.cps.toList).length := by rw [← figT_tl]; exact Array.length_toList.symm
  have h2 : w.length = w.cps.toList.length := Array.length_toList.symm
  rw [h1, h2]
  unfold figL
  split
  · rw [List.length_drop]; omega
  · omega
theorem dig_in (c : Nat) : decide (c ∈ ("0123456789" : Str).cps.toList) = isDig c := by
  have e : ("0123456789" : Str).cps.toList = [48, 49, 50, 51, 52, 53, 54, 55, 56, 57] := by decide +kernel
  rw [e]
  unfold isDig
  rw [← Bool.decide_and]
  refine decide_eq_decide.mpr ?_
  simp only [List.mem_cons, List.not_mem_nil, or_false]
  omega
end SL
end
section
set_option Elab.async false
set_option linter.all false
set_option maxRecDepth 100000
set_option maxHeartbeats 2000000
/-! The program's texts: number_in, Words, lot_in, read_lot, read_family. -/
namespace SL
open PySem PySem.Spec PyProof.Rows L2 Evl
def spNumberIn : Sp := fun vs H Q _ => ∃ w : Str, vs = [.str w] ∧ w.length ≤ 100000 ∧ RetV (optV (numIn w)) H Q
/-- the text's parts are no longer than it -/
theorem spl_len (S : List Nat) : ∀ (l : List Nat) (k : Nat) (acc : List Nat), ∀ p ∈ TL.spl S k acc l, p.length ≤ acc.length + l.length
  | [], k, acc, p, hp => by
    cases k <;> (simp only [TL.spl, List.mem_singleton] at hp; rw [hp]; simp)
  | c :: r, 0, acc, p, hp => by
    unfold TL.spl at hp
    split at hp
    · rcases List.mem_cons.mp hp with h | h
      · rw [h]; omega
      · have := spl_len S r _ [] p h
        simp only [List.length_nil, List.length_cons] at this ⊢
        omega
    · have := spl_len S r 0 (acc ++ [c]) p hp
      simp only [List.length_append, List.length_cons, List.length_nil] at this ⊢
      omega
  | c :: r, k + 1, acc, p, hp => by
    unfold TL.spl at hp
    have := spl_len S r k acc p hp
    simp only [List.length_cons] at this ⊢
    omega
theorem split_part_len {x y : Str} (hy : TL.tl y ≠ []) (hk : y.cps.all (· < 256) = true) {p : Str} (hp : p ∈ Txt.split x y) : p.length ≤ x.length := by
  have h1 : TL.tl p ∈ (Txt.split x y).map TL.tl := List.mem_map_of_mem hp
  rw [TL.split_spl x y hy (TL.kind_ok hk)] at h1
  have h2 := spl_len _ _ _ _ _ h1
  rw [TL.len_tl, TL.len_tl]
  simpa using h2
theorem putF_len (f : Str) (v : V) : ∀ fs : List (Str × V), (putF f v fs).length ≤ fs.length + 1
  | [] => Nat.le_refl _
  | (g, x) :: r => by
    unfold putF
    split
    · simp
    · have := putF_len f v r
      simp only [List.length_cons]
      omega
theorem putF_lt {f : Str} {v : V} {fs : List (Str × V)} {n : Nat} (h : fs.length < n) : (putF f v fs).length < n + 1 := Nat.lt_of_le_of_lt (putF_len f v fs) (Nat.succ_lt_succ h)
theorem small5 {n : Nat} (h : n < 5) : n < 1000 := by omega
def ExB (x : Addr) (H H' : Hp) : Prop := ∀ b o, b ≠ x → H b = some o → H' b = some o
/-- the fields of a Words -/
def wF (l : Addr) (r a : Int) : List (Str × V) := [("all_words", .ref l), ("row", .int r), ("at", .int a), ("rules", .int 0)]
structure WordsAt (C : Addr) (H : Hp) (x l : Addr) (ws : List Str) (r : Int) (a : Nat) : Prop where
  ob : ∃ dx, H x = some (.ins C dx (wF l r (a : Int)))
  lst : H l = some (.lst (ws.map V.str))
theorem WordsAt.ex {C : Addr} {H H' : Hp} {x l : Addr} {ws : List Str} {r : Int} {a : Nat} (h : WordsAt C H x l ws r a) (e : Ex H H') : WordsAt C H' x l ws r a := by
  obtain ⟨dx, h1⟩ := h.ob
  exact ⟨⟨dx, e _ _ h1⟩, e _ _ h.lst⟩
def strO : Option Str → V
  | none => .non
  | some w => .str w
def spWordsInit (K : PySem.W.Frag) : Sp := fun vs H Q _ => ∃ (x dx : Addr) (z : Str) (r : Int), vs = [.ref x, .str z, .int r] ∧ H x = some (.ins (He.ga K "Words") dx []) ∧ z.length ≤ 100000 ∧
  ∀ l H', H l = none → ExB x H H' → WordsAt (He.ga K "Words") H' x l (Txt.split z " ") r 0 → Q .non H'
def spNextWord (K : PySem.W.Frag) : Sp := fun vs H Q _ => ∃ (x l : Addr) (ws : List Str) (r : Int) (a : Nat), vs = [.ref x] ∧ WordsAt (He.ga K "Words") H x l ws r a ∧ RetV (strO ws[a]?) H Q
def spWhole (K : PySem.W.Frag) : Sp := fun vs H Q E => ∃ (x l : Addr) (ws : List Str) (r : Int) (a : Nat), vs = [.ref x, .non, .non] ∧ WordsAt (He.ga K "Words") H x l ws r a ∧ (∀ w ∈ ws, w.length ≤ 100000) ∧
  (∀ n, ws[a]?.bind numIn = some n → ∀ H', ExB x H H' → WordsAt (He.ga K "Words") H' x l ws r (a + 1) → Q (.int n) H') ∧ (ws[a]?.bind numIn = none → RetX K "BadText" [("line", .int r), ("word", .int (a : Nat))] H E)
section
variable {K : PySem.W.Frag} {σ : L2.St} {H : Hp} {ta : TE} {v : V}
theorem ev_fld {x C dx : Addr} {fs : List (Str × V)} {f : Str} (ha : Ev ta σ H (.ref x)) (hx : H x = some (.ins C dx fs)) (c : Cls K C) (n : NoAttr K C f) (hl : fs.lookup f = some v) : Ev (tFld K ta f) σ H v := fun H1 e1 Q q =>
  ha H1 e1 _ fun H2 e2 => ⟨x, C, dx, fs, v, rfl, e2 _ _ (e1 _ _ hx), c, n, hl, q H2 e2⟩
theorem ev_meth0 {x C dx : Addr} {fs : List (Str × V)} {m : Str} {sp : Sp} {dvs : List V} {E : XK} (ha : Ev ta σ H (.ref x)) (hx : H x = some (.ins C dx fs)) (hl : fs.lookup m = none) (hs : SpV sp (.ref x :: ([] ++ dvs)) H v) : Ev (tMeth C m sp dvs E ta tNil) σ H v := fun H1 e1 Q q =>
  ha H1 e1 _ fun H2 e2 => ⟨x, dx, fs, rfl, e2 _ _ (e1 _ _ hx), hl, hs H2 (e1.trans e2) Q (fun H3 e3 => q H3 (e2.trans e3)) E⟩
theorem ev_isN (ha : Ev ta σ H v) : Ev (tIsN ta) σ H (.bl (decide (v = .non))) := fun H1 e1 Q q => ha H1 e1 _ fun H2 e2 => q H2 e2
theorem ev_notN (ha : Ev ta σ H v) : Ev (tNotN ta) σ H (.bl (!decide (v = .non))) := fun H1 e1 Q q => ha H1 e1 _ fun H2 e2 => q H2 e2
end
/-- a method of Words with its promise (dvs: the defaults that fill up) -/
structure Mw (P : Program) (w : World) (K : PySem.W.Frag) (mg : Str → Option Value) (base : Heap) (m : Str) (k : Nat) (ps : List Str) (dvs : List V) (sp : Sp) : Prop where
  ex : ∃ fd ds, FnOk P w K mg base (L2.CX P w) k (He.ma K (He.ga K "Words") m) fd ps sp ∧ Vals dvs ds ∧ Binds K fd ps ds
section
variable {P : Program} {w : World} {K : PySem.W.Frag} {mg : Str → Option Value} {base : Heap}
theorem ok_number_in (M : Ma K mg) : Dn P w K mg base "number_in" 1 ["word"] spNumberIn := by
  obtain ⟨fd, F⟩ := M.d_NumberIn
  obtain ⟨t1, m1⟩ := M.s_SIGN
  obtain ⟨t2, m2⟩ := M.i_MOST_FIGURES
  obtain ⟨t3, m3⟩ := M.s_FIGURES
  obtain ⟨t4, m4⟩ := M.s_NOUGHT
  refine Dn.of F M.g_number_in (fun _ _ _ _ _ _ us hl => match us, hl with | [_], _ => rfl) (F.ok scNumberIn (fun vs H Q E h => ?_) (fun cdv A outer s H vs Q E hr h => ?_))
  · obtain ⟨z, rfl, _⟩ := h
    rfl
  · obtain ⟨z, rfl, hz, q⟩ := h
    refine ⟨_, (pss_cons (ps_set (i := 1) scNumberIn.nd rfl (.inl rfl) (pe_ifExp (pt_cmpR op_eq (pe_slice sl_str (pv 0) po_none (po_some pe_int)) (pe_glob (v := .str "-") (by rfl) m1 ⟨_, rfl⟩) (nomark _)) (pe_slice sl_str (pv 0) (po_some pe_int) po_none) (pv 0))) <|
      pss_cons (ps_if (PW.pt (pw_or (pt_not (pt_chain op_le op_le pe_int (pe_callB call_len_str (by rfl) M.n_len PySem.boot_len (pa_cons (pv 1) pa_nil)) (pe_glob (v := .int 31) (by rfl) m2 ⟨_, rfl⟩)))
          (pw_or1 (pt_not (pt_val (pe_callB (cr_all rfl) (by rfl) M.n_all (by decide +kernel) (pa_cons (pe_lc (own := [("figure", 2)]) (g := gName 2) (tt := tYes) rfl scNumberIn.nd (pi_str (pv 1)) (blkOk_by (N := ["word", "figures", "figure"]) (sc := defScope sNumberIn) (by decide +kernel))
            (fun _ _ _ _ _ => pg_name (i := 2) scNumberIn.nd rfl (Or.inl rfl)) (fun _ _ _ _ _ => pts_nil)
            (fun _ _ _ _ _ => pe_cmpR op_in_sign (pv 2) (pe_glob (v := .str "0123456789") (by rfl) m3 ⟨_, rfl⟩) (by rfl))) pa_nil))))))) (pss_one (ps_ret pe_non)) pss_nil) <|
      pss_cons (ps_if (PW.pt (pw_and (pt_cmpR op_eq (pe_ix ix_str (pv 1) pe_int (fun _ _ => rfl)) (pe_glob (v := .str "0") (by rfl) m4 ⟨_, rfl⟩) (nomark _)) (pw_and1 (pt_cmpR op_ne (pv 0) (pe_glob (v := .str "0") (by rfl) m4 ⟨_, rfl⟩) (nomark _)))))
        (pss_one (ps_ret pe_non)) pss_nil) <|
      pss_one (ps_ret (pe_callTy call_int_str (by rfl) M.n_int (by decide +kernel) (pa_cons (pv 0) pa_nil)))), ?_⟩
    have hfl : (figT z).length ≤ 100000 := Nat.le_trans (figT_len z) hz
    have hfe : (figT z).length = (figL z.cps.toList).length := by rw [← figT_tl]; exact Array.length_toList.symm
    refine q_asg (v := .str (figT z)) (ev_if (b := decide (z.cps.toList.head? = some 45)) (et_is (et_test (ev_op (ev_slS (ev_var rfl) eo_none (eo_some ev_c) hz) ev_c (rv_eq rfl))) (head_is z 45 "-" (by decide +kernel)))
      (fun h => ev_is (ev_slS (ev_var rfl) (eo_some ev_c) eo_none hz) (by unfold figT; rw [if_pos (of_decide_eq_true h)])) (fun h => ev_is (ev_var rfl) (by unfold figT; rw [if_neg (of_decide_eq_false h)]))) fun H1 e1 => ?_
    refine q_when (et_or (et_not (et_test (ev_chainI ev_c (ev_lenS (ev_var rfl) hfl) ev_c))) fun h => et_not (et_B (ev_allN (bs := (figT z).cps.toList.map isDig) (el_is (el_lcS (f := fun c => V.bl (isDig c)) (ev_var rfl) ?_ (fun _ => rfl) fun c H2 hc e2 => ev_is (ev_inSign (ev_var rfl) ev_c) (by rw [dig_in])) (by rw [List.map_map]; rfl))))) (fun hb H2 e2 => ?_) fun hb H2 e2 => ?_
    · simp only [Bool.not_eq_false', Bool.and_eq_true, decide_eq_true_eq] at h
      omega
    · have e : numIn z = none := by
        unfold numIn
        rw [if_neg]
        intro h
        simp only [okNum, Bool.and_eq_true, decide_eq_true_eq, List.all_eq_true] at h
        rw [figT_tl, hfe] at hb
        simp only [Bool.or_eq_true, Bool.not_eq_true', Bool.and_eq_false_iff, decide_eq_false_iff_not, List.all_map, List.all_eq_false] at hb
        rcases hb with hb | ⟨c, hc, hb⟩
        · omega
        · have := h.1.2 c hc
          simp [this] at hb
      rw [e] at q
      exact s_ret ev_c fun H3 e3 => q H3 ((e1.trans e2).trans e3)
    · rw [figT_tl, hfe] at hb
      simp only [Bool.or_eq_false_iff, Bool.not_eq_false', Bool.and_eq_true, decide_eq_true_eq, List.all_map, List.all_eq_true] at hb
      obtain ⟨⟨g1, g2⟩, g3⟩ := hb
      cases hfg : figL z.cps.toList with
      | nil => rw [hfg] at g1; simp at g1
      | cons c r =>
        have hc0 : (figT z).cps.toList[0]? = some c := by rw [figT_tl, hfg]; rfl
        refine q_when (b := decide (c = 48) && !decide (z.cps.toList = [48])) (et_and (et_is (et_test (ev_op (ev_ixS (i := 0) (ev_var rfl) ev_c hfl hc0) ev_c (rv_eq rfl))) (sign_is c 48 "0" (by decide +kernel))) fun _ => et_is (et_test (ev_op (ev_var rfl) ev_c (rv_ne rfl))) (congrArg Bool.not (text_is z [48] "0" (by decide +kernel)))) (fun hb H3 e3 => ?_) fun hb H3 e3 => ?_
        · have e : numIn z = none := by
            unfold numIn
            rw [if_neg]
            intro h
            simp only [okNum, hfg, List.head?_cons, Option.some.injEq, hb, Bool.not_true, Bool.and_false] at h
            cases h
          rw [e] at q
          exact s_ret ev_c fun H4 e4 => q H4 (((e1.trans e2).trans e3).trans e4)
        · have hok : okNum z.cps.toList = true := by
            simp only [okNum, Bool.and_eq_true, decide_eq_true_eq, List.all_eq_true]
            refine ⟨⟨⟨by omega, by omega⟩, fun d hd => g3 d hd⟩, ?_⟩
            rw [hfg]
            simp only [List.head?_cons, Option.some.injEq, hb, Bool.not_false]
          obtain ⟨n, h1, h2, h3⟩ := numIn_some hok
          rw [h2] at q
          exact s_ret (ev_intS (ev_var rfl) h1 (by omega)) fun H4 e4 => q H4 (((e1.trans e2).trans e3).trans e4)
theorem ok_words_init (M : Ma K mg) : Mw P w K mg base "__init__" 1 ["self", "line", "row"] [] (spWordsInit K) := by
  obtain ⟨fd, F⟩ := M.d_WordsInit
  obtain ⟨t1, m1⟩ := M.s_BLANK
  refine ⟨fd, [], F.ok scWordsInit (fun vs H Q E h => ?_) (fun cdv A outer s H vs Q E hr h => ?_), .nil, F.bindsN (fun _ _ _ _ _ _ us hl => match us, hl with | [_, _, _], _ => rfl)⟩
  · obtain ⟨x, dx, z, r, rfl, _⟩ := h
    rfl
  · obtain ⟨x, dx, z, r, rfl, hx, hz, q⟩ := h
    refine ⟨_, (pss_cons (ps_fld (pv 0) (pe_split (pv 1) (pe_glob (v := .str " ") (by rfl) m1 ⟨_, rfl⟩)) rfl) <| pss_cons (ps_fld (pv 0) (pv 2) rfl) <| pss_cons (ps_fld (pv 0) pe_int rfl) <| pss_one (ps_fld (pv 0) pe_int rfl)), ?_⟩
    refine ⟨_, rfl, ⟨_, rfl⟩, z, " ", rfl, rfl, by decide, by rw [sizeLine_eq]; omega, fun l hl => ?_⟩
    have nxl : x ≠ l := ne_of_none hx hl
    refine ⟨_, rfl, x, _, dx, [], rfl, (by rw [upd_ne nxl]; exact hx), M.c_Words, M.no_Words_all_words, by decide, ?_⟩
    refine ⟨_, rfl, _, rfl, x, _, dx, _, rfl, upd_same, M.c_Words, M.no_Words_row, small5 (putF_lt (n := 4) (by decide)), ?_⟩
    refine ⟨_, rfl, x, _, dx, _, rfl, upd_same, M.c_Words, M.no_Words_at, small5 (putF_lt (n := 4) (putF_lt (n := 3) (by decide))), ?_⟩
    refine ⟨_, rfl, x, _, dx, _, rfl, upd_same, M.c_Words, M.no_Words_rules, small5 (putF_lt (n := 4) (putF_lt (n := 3) (putF_lt (n := 2) (by decide)))), ?_⟩
    refine q l _ hl (fun b o hb e => ?_) ⟨⟨dx, ?_⟩, ?_⟩
    · rw [upd_ne hb, upd_ne hb, upd_ne hb, upd_ne hb, upd_ne (ne_of_none e hl)]
      exact e
    · rw [upd_same]
      rfl
    · rw [upd_ne nxl.symm, upd_ne nxl.symm, upd_ne nxl.symm, upd_ne nxl.symm, upd_same]
theorem ok_next_word (M : Ma K mg) : Mw P w K mg base "next_word" 1 ["self"] [] (spNextWord K) := by
  obtain ⟨fd, F⟩ := M.d_NextWord
  refine ⟨fd, [], F.ok scNextWord (fun vs H Q E h => ?_) (fun cdv A outer s H vs Q E hr h => ?_), .nil, F.bindsN (fun _ _ _ _ _ _ us hl => match us, hl with | [_], _ => rfl)⟩
  · obtain ⟨x, l, ws, r, a, rfl, _⟩ := h
    rfl
  · obtain ⟨x, l, ws, r, a, rfl, W, q⟩ := h
    refine ⟨_, pss_one (ps_ret (pe_ifExp (pt_cmpR op_lt (pe_fld (pv 0) rfl) (pe_callB call_len_seq (by rfl) M.n_len PySem.boot_len (pa_cons (pe_fld (pv 0) rfl) pa_nil)) (nomark _)) (pe_ix ix_list (pe_fld (pv 0) rfl) (pe_fld (pv 0) rfl) (fun _ _ => rfl)) pe_non)), ?_⟩
    obtain ⟨dx, hx⟩ := W.ob
    have fA : Ev (tFld K (tVar 0) "at") [some (.ref x)] H (.int (a : Nat)) := ev_fld (ev_var rfl) hx M.c_Words M.no_Words_at rfl
    have fL : Ev (tFld K (tVar 0) "all_words") [some (.ref x)] H (.ref l) := ev_fld (ev_var rfl) hx M.c_Words M.no_Words_all_words rfl
    refine s_ret (v := strO ws[a]?) (ev_if (et_test (ev_op fA (ev_len fL (sq_of W.lst)) (rv_I0 (g := fun i j => .bl (decide (i < j)))))) (fun hb => ?_) fun hb => ?_) fun H1 e1 => q H1 e1
    · have hlt : a < ws.length := by
        simp only [List.length_map, decide_eq_true_eq] at hb
        omega
      exact ev_ixL fL fA (sq_of W.lst) (by rw [List.getElem?_map, List.getElem?_eq_getElem hlt]; rfl)
    · have hlt : ws.length ≤ a := by
        simp only [List.length_map, decide_eq_false_iff_not] at hb
        omega
      exact ev_is ev_c (by rw [List.getElem?_eq_none hlt]; rfl)
end
end SL
end
section
set_option Elab.async false
set_option linter.all false
set_option maxRecDepth 100000
set_option maxHeartbeats 2000000
/-! The program's reading: Words.whole, need_text, lot_in, need_lines, read_lot, read_family. -/
namespace SL
open PySem PySem.Spec PyProof.Rows L2 Evl
/-! ### mirrors -/
def wordsOf (z : Str) : List Str := Txt.split z " "
def linesOf (z : Str) : List Str := Txt.split z "\n"
/-- the first word that is no number -/
def bad (ws : List Str) : Option Nat := ws.findIdx? fun w => (numIn w).isNone
def nums (ws : List Str) : List Int := ws.map fun w => (numIn w).getD 0
theorem wordsOf_pos (z : Str) : 1 ≤ (wordsOf z).length := (fact_split z " ").1
theorem linesOf_pos (z : Str) : 1 ≤ (linesOf z).length := (fact_split z "\n").1
theorem wordsOf_le (z : Str) : (wordsOf z).length ≤ z.length + 2 := (fact_split z " ").2
theorem linesOf_le (z : Str) : (linesOf z).length ≤ z.length + 2 := (fact_split z "\n").2
theorem words_part {z w : Str} (h : w ∈ wordsOf z) : w.length ≤ z.length := split_part_len (by decide +kernel) (by decide +kernel) h
theorem lines_part {z w : Str} (h : w ∈ linesOf z) : w.length ≤ z.length := split_part_len (by decide +kernel) (by decide +kernel) h
theorem bad_at {ws : List Str} {k : Nat} (h1 : ∀ j, j < k → (ws[j]?.bind numIn).isSome = true) (hk : k < ws.length) (h2 : ws[k]?.bind numIn = none) : bad ws = some k := by
  unfold bad
  rw [List.findIdx?_eq_some_iff_getElem]
  refine ⟨hk, ?_, fun j hj => ?_⟩
  · rw [List.getElem?_eq_getElem hk] at h2
    simpa using h2
  · have := h1 j hj
    rw [List.getElem?_eq_getElem (Nat.lt_trans hj hk)] at this
    simp only [Option.bind_some] at this
    cases h : numIn ws[j] with
    | none => rw [h] at this; cases this
    | some n => simp
theorem bad_none {ws : List Str} (h1 : ∀ j, j < ws.length → (ws[j]?.bind numIn).isSome = true) : bad ws = none := by
  unfold bad
  rw [List.findIdx?_eq_none_iff]
  intro w hw
  obtain ⟨j, hj, rfl⟩ := List.mem_iff_getElem.mp hw
  have := h1 j hj
  rw [List.getElem?_eq_getElem hj] at this
  simp only [Option.bind_some] at this
  cases h : numIn ws[j] with
  | none => rw [h] at this; cases this
  | some n => rfl
theorem nums_take {ws : List Str} {k : Nat} {n : Int} (h : ws[k]?.bind numIn = some n) : (nums (ws.take (k + 1))).map V.int = (nums (ws.take k)).map V.int ++ [.int n] := by
  cases hk : ws[k]? with
  | none => rw [hk] at h; cases h
  | some w =>
    rw [hk] at h
    have h' : numIn w = some n := h
    unfold nums
    rw [List.take_add_one, hk]
    simp [h']
def RetU (xs : List V) (H : Hp) (Q : VK) : Prop := ∀ p H2, H p = none → Ex H H2 → H2 p = some (.tup xs) → Q (.ref p) H2
def spNeedText : Sp := fun vs H Q _ => ∃ z : Str, vs = [.str z] ∧ RetV .non H Q
def spLotIn (K : PySem.W.Frag) : Sp := fun vs H Q E => ∃ (z : Str) (r : Int), vs = [.str z, .int r] ∧ z.length ≤ 90000 ∧
  (∀ i, bad (wordsOf z) = some i → RetX K "BadText" [("line", .int r), ("word", .int (i : Nat))] H E) ∧ (bad (wordsOf z) = none → RetU ((nums (wordsOf z)).map V.int) H Q)
section
variable {P : Program} {w : World} {K : PySem.W.Frag} {mg : Str → Option Value} {base : Heap}
theorem ok_whole (M : Ma K mg) (hP : Pg P) : Mw P w K mg base "whole" 2 ["self", "least", "most"] [.non, .non] (spWhole K) := by
  obtain ⟨fd, F⟩ := M.d_Whole
  obtain ⟨fdN, dsN, GN, vN, bN⟩ := (ok_next_word (P := P) (w := w) (base := base) M).ex
  obtain ⟨ds, hds, hb⟩ := F.binds1 (ps := ["self", "least", "most"]) 1 0 (by simp) rfl (fun T kV doc pm an cdv ct us its h1 h2 => match us, its, h1, h2 with | [_], [_, _], _, _ => ⟨_, rfl, rfl⟩)
  refine ⟨fd, ds, F.ok scWhole (fun vs H Q E h => ?_) (fun cdv A outer s H vs Q E hr h => ?_), hds, hb⟩
  · obtain ⟨x, l, ws, r, a, rfl, _⟩ := h
    rfl
  · obtain ⟨x, l, ws, r, a, rfl, W, hw, q, qx⟩ := h
    refine ⟨_, (pss_cons (ps_set (i := 3) scWhole.nd rfl (.inl rfl) (pe_meth0 (pv 0) M.c_Words M.m_Words_next_word GN hr bN vN passL)) <|
      pss_cons (ps_set (i := 4) scWhole.nd rfl (.inl rfl) (pe_ifExp (pt_cmp (pc_isN (pv 3))) pe_non (pe_dn (ok_number_in M) hr passL (pa_cons (pv 3) pa_nil)))) <|
      pss_cons (ps_if (PW.pt (pw_or (pt_cmp (pc_isN (pv 4))) (pw_or1 (PW.pt (pw_and (pt_cmp (pc_notN (pv 1))) (pw_and1 (pt_not (pt_chain op_le op_le (pv 1) (pv 4) (pv 2)))))))))
        (pss_one (ps_raise rfl (takes_of rfl rfl rfl rfl) (pmk_x (M.xBadText hP) hr (pa_cons (pe_fld (pv 0) rfl) (pa_cons (pe_fld (pv 0) rfl) pa_nil))))) pss_nil) <|
      pss_cons (ps_fldaug (pv 0) pe_int in_add) <| pss_one (ps_ret (pv 4))), ?_⟩
    obtain ⟨dx, hx⟩ := W.ob
    refine q_asg (v := strO ws[a]?) (ev_meth0 (ev_var rfl) hx rfl fun H1 e1 Q q E => ⟨x, l, ws, r, a, rfl, W.ex e1, q⟩) fun H1 e1 => ?_
    refine q_asg (v := optV (ws[a]?.bind numIn)) (ev_if (et_B (ev_isN (ev_var rfl))) (fun h => ?_) fun h => ?_) fun H2 e2 => ?_
    · cases ha : ws[a]? with
      | none => exact ev_c
      | some z => rw [ha] at h; simp [strO] at h
    · cases ha : ws[a]? with
      | none => rw [ha] at h; simp [strO] at h
      | some z => exact ev_call (ea_cons (ev_var rfl) ea_nil) fun H3 e3 Q q E => ⟨z, rfl, hw z (List.mem_of_getElem? ha), q⟩
    have e12 := e1.trans e2
    refine q_when (b := decide (optV (ws[a]?.bind numIn) = .non) || false) (et_or (et_B (ev_isN (ev_var rfl))) fun _ => et_is (et_and (b := false) (et_B (ev_notN (ev_var rfl))) fun h => by simp at h) (by simp)) (fun hb H3 e3 => ?_) fun hb H3 e3 => ?_
    · have e : ws[a]?.bind numIn = none := by
        cases hn : ws[a]?.bind numIn with
        | none => rfl
        | some n => rw [hn] at hb; simp [optV] at hb
      have hx3 := (e12.trans e3) _ _ hx
      exact s_raise (W := fun cls d _ H => E cls d H) (vs := [.int r, .int (a : Nat)]) (ea_cons (ev_fld (ev_var rfl) hx3 M.c_Words M.no_Words_row rfl) (ea_cons (ev_fld (ev_var rfl) hx3 M.c_Words M.no_Words_at rfl) ea_nil)) rfl fun d H4 hd e4 h => (qx e).go (e12.trans e3) hd e4 h
    · cases hn : ws[a]?.bind numIn with
      | none => rw [hn] at hb; simp [optV] at hb
      | some n =>
        have hx3 := (e12.trans e3) _ _ hx
        refine ⟨_, rfl, x, _, dx, _, _, rfl, hx3, M.c_Words, M.no_Words_at, rfl, _, _, rfl, rfl, dx, _, hx3, by show 4 < 1000; decide, ?_⟩
        refine ⟨_, rfl, ?_⟩
        refine q n hn _ (fun b o hb e => ?_) ⟨⟨dx, ?_⟩, ?_⟩
        · rw [upd_ne hb]
          exact (e12.trans e3) _ _ e
        · rw [upd_same]
          rfl
        · have nlx : l ≠ x := ne_of W.lst hx (by intro z; cases z)
          rw [upd_ne nlx]
          exact (e12.trans e3) _ _ W.lst
theorem ok_need_text (M : Ma K mg) (hP : Pg P) : Dn P w K mg base "need_text" 1 ["text"] spNeedText := by
  obtain ⟨fd, F⟩ := M.d_NeedText
  refine Dn.of F M.g_need_text (fun _ _ _ _ _ _ us hl => match us, hl with | [_], _ => rfl) (F.ok scNeedText (fun vs H Q E h => ?_) (fun cdv A outer s H vs Q E hr h => ?_))
  · obtain ⟨z, rfl, _⟩ := h
    rfl
  · obtain ⟨z, rfl, q⟩ := h
    refine ⟨_, (pss_one (ps_if (pt_not (pt_val (pe_callB call_isi (by rfl) M.n_isinstance (by decide +kernel) (pa_cons (pv 0) (pa_cons (pe_bltn (v := .ty "str") (by rfl) M.n_str (by decide +kernel) rfl) pa_nil)))))
      (pss_one (ps_raise rfl (takes_of rfl rfl rfl rfl) (pmk_x (M.xBadText hP) hr (pa_cons pe_non (pa_cons pe_non pa_nil))))) pss_nil)), ?_⟩
    exact s_when (et_not (et_B (ev_isi (b := true) (ev_var rfl) ev_c (.ty _) (fun H1 e1 => .base (.str _)) (kit_ty (by decide +kernel))))) (fun hb => by simp at hb) fun hb H1 e1 => q H1 e1
theorem ok_lot_in (M : Ma K mg) (hP : Pg P) : Dn P w K mg base "lot_in" 3 ["line", "row"] (spLotIn K) := by
  obtain ⟨fd, F⟩ := M.d_LotIn
  obtain ⟨fdN, dsN, GN, vN, bN⟩ := (ok_next_word (P := P) (w := w) (base := base) M).ex
  obtain ⟨fdI, dsI, GI, vI, bI⟩ := (ok_words_init (P := P) (w := w) (base := base) M).ex
  obtain ⟨fdW, dsW, GW, vW, bW⟩ := (ok_whole (P := P) (w := w) (base := base) M hP).ex
  refine Dn.of F M.g_lot_in (fun _ _ _ _ _ _ us hl => match us, hl with | [_, _], _ => rfl) (F.ok scLotIn (fun vs H Q E h => ?_) (fun cdv A outer s H vs Q E hr h => ?_))
  · obtain ⟨z, r, rfl, _⟩ := h
    rfl
  · obtain ⟨z, r, rfl, hz, qx, q⟩ := h
    refine ⟨_, (pss_cons (ps_set (i := 2) scLotIn.nd rfl (.inl rfl) (pe_make M.mk_Words GI hr rfl M.g_Words bI vI passL (pa_cons (pv 0) (pa_cons (pv 1) pa_nil)))) <|
      pss_cons (ps_set (i := 3) scLotIn.nd rfl (.inl rfl) (pe_lst (pa_cons (pe_meth0 (E := fun cls d H => E cls d H) (pv 2) M.c_Words M.m_Words_whole GW hr bW vW (passes_call (takes_of rfl rfl rfl rfl) fun _ _ _ _ h => h)) pa_nil))) <|
      pss_cons (ps_while (passes_of rfl) (pt_cmp (pc_notN (pe_meth0 (pv 2) M.c_Words M.m_Words_next_word GN (hr.mono (by decide)) bN vN passL)))
        (pss_one (ps_expr (pe_bm PySem.F.plainAttrs_list PySem.F.slot_list_append PySem.F.type_list_append mt_append (pv 3) (pa_cons (pe_meth0 (E := fun cls d H => E cls d H) (pv 2) M.c_Words M.m_Words_whole GW hr bW vW (passes_call (takes_of rfl rfl rfl rfl) fun _ _ _ _ h => h)) pa_nil))))) <|
      pss_one (ps_ret (pe_callTy call_tuple_of (by rfl) M.n_tuple (by decide +kernel) (pa_cons (pv 3) pa_nil)))), ?_⟩
    refine ⟨_, rfl, _, rfl, fun x dx nx ndx nex => ⟨x, dx, z, r, rfl, upd_same, by omega, fun l H1 hl hB W => ⟨rfl, ?_⟩⟩⟩
    have e1 : Ex H H1 := fun b o e => hB b o (ne_of_none e nx) (by rw [upd_ne (ne_of_none e nx), upd_ne (ne_of_none e ndx)]; exact e)
    have hw : ∀ w ∈ wordsOf z, w.length ≤ 100000 := fun w h => by have := words_part h; omega
    have hpos := wordsOf_pos z
    have hle := wordsOf_le z
    have hl0 : H l = none := by
      by_cases e : l = x
      · rw [e]; exact nx
      · by_cases e2 : l = dx
        · rw [e2]; exact ndx
        · rw [upd_ne e, upd_ne e2] at hl
          exact hl
    obtain ⟨dx1, hx1⟩ := W.ob
    refine ⟨_, rfl, x, dx1, _, rfl, hx1, rfl, x, l, wordsOf z, r, 0, rfl, W, hw, fun n hn H2 hB2 W2 => ⟨by show 1 ≤ sizeLine; decide, fun f hf => ?_⟩, fun hn => ?_⟩
    · have e2 : Ex H H2 := fun b o e => hB2 b o (ne_of_none e nx) (e1 b o e)
      have nf : H f = none := fresh_back e2 hf
      have nfl : l ≠ f := ne_of_none W2.lst hf
      obtain ⟨dx2, hx2⟩ := W2.ob
      have nfx : x ≠ f := ne_of_none hx2 hf
      refine q_while (fun m σ' H' => ∃ k, m = (wordsOf z).length - k ∧ σ' = [some (.str z), some (.int r), some (.ref x), some (.ref f)] ∧ Ex H H' ∧ H' f = some (.lst ((nums ((wordsOf z).take k)).map V.int)) ∧ WordsAt (He.ga K "Words") H' x l (wordsOf z) r k ∧ k ≤ (wordsOf z).length ∧ ∀ j, j < k → ((wordsOf z)[j]?.bind numIn).isSome = true) ((wordsOf z).length - 1)
        ⟨1, rfl, rfl, fun b o e => by rw [upd_ne (ne_of_none e nf)]; exact e2 b o e, ?_, ⟨⟨dx2, by rw [upd_ne nfx]; exact hx2⟩, by rw [upd_ne nfl]; exact W2.lst⟩, hpos, fun j hj => ?_⟩ (fun m σ' H' h => ?_)
      · rw [upd_same, nums_take hn]
        rfl
      · obtain rfl : j = 0 := by omega
        rw [hn]; rfl
      · obtain ⟨k, rfl, rfl, e3, hf3, W3, hk, hall⟩ := h
        obtain ⟨dx3, hx3⟩ := W3.ob
        refine ⟨!decide (strO (wordsOf z)[k]? = .non), et_B (ev_notN (ev_meth0 (ev_var rfl) hx3 rfl fun H4 e4 Q q E => ⟨x, l, wordsOf z, r, k, rfl, W3.ex e4, q⟩)), fun hb H4 e4 => ?_, fun hb H4 e4 => ?_⟩
        · have hlt : k < (wordsOf z).length := by
            cases hg : (wordsOf z)[k]? with
            | none => rw [hg] at hb; simp [strO] at hb
            | some w => exact (List.getElem?_eq_some_iff.mp hg).1
          refine ⟨fun σ2 H2 => ∃ k', k' = k + 1 ∧ σ2 = [some (.str z), some (.int r), some (.ref x), some (.ref f)] ∧ Ex H H2 ∧ H2 f = some (.lst ((nums ((wordsOf z).take k')).map V.int)) ∧ WordsAt (He.ga K "Words") H2 x l (wordsOf z) r k' ∧ ∀ j, j < k' → ((wordsOf z)[j]?.bind numIn).isSome = true, fun σ2 H2 h => ?_, ?_⟩
          · obtain ⟨k', rfl, h1, h2, h3, h4, h5⟩ := h
            exact ⟨(wordsOf z).length - (k + 1), by omega, k + 1, rfl, h1, h2, h3, h4, hlt, h5⟩
          · have W4 := W3.ex e4
            obtain ⟨dx4, hx4⟩ := W4.ob
            refine ⟨.ref f, rfl, .inl ⟨rfl, _, sq_of (e4 _ _ hf3)⟩, .ref x, rfl, x, dx4, _, rfl, hx4, rfl, x, l, wordsOf z, r, k, rfl, W4, hw, fun n hn H5 hB5 W5 => ?_, fun hn => ?_⟩
            · have hf5 : H5 f = some (.lst ((nums ((wordsOf z).take k)).map V.int)) := hB5 _ _ nfx.symm (e4 _ _ hf3)
              have lt : ((nums ((wordsOf z).take k)).map V.int).length < sizeLine := by
                rw [sizeLine_eq, List.length_map]
                unfold nums
                rw [List.length_map, List.length_take]
                omega
              refine ⟨f, _, .int n, rfl, rfl, hf5, lt, k + 1, rfl, rfl, fun b o e => ?_, ?_, ?_, fun j hj => ?_⟩
              · rw [upd_ne (ne_of_none e nf)]
                exact hB5 b o (ne_of_none e nx) (e4 _ _ (e3 _ _ e))
              · rw [upd_same, nums_take hn]
              · obtain ⟨dx5, hx5⟩ := W5.ob
                exact ⟨⟨dx5, by rw [upd_ne nfx]; exact hx5⟩, by rw [upd_ne nfl]; exact W5.lst⟩
              · rcases Nat.lt_succ_iff_lt_or_eq.mp hj with h | h
                · exact hall j h
                · rw [h, hn]; rfl
            · exact (qx k (bad_at hall hlt hn)).mono (e3.trans e4)
        · have hge : (wordsOf z).length ≤ k := by
            cases hg : (wordsOf z)[k]? with
            | none => exact List.getElem?_eq_none_iff.mp hg
            | some w => rw [hg] at hb; simp [strO] at hb
          have ek : k = (wordsOf z).length := by omega
          subst ek
          rw [List.take_length] at hf3
          exact ⟨_, rfl, f, _, rfl, .inl ⟨sq_of (e4 _ _ hf3), fun p hp => q (bad_none hall) p _ (fresh_back (e3.trans e4) hp) ((e3.trans e4).trans (Ex.new hp)) upd_same⟩⟩
    · exact (qx 0 (bad_at (fun j hj => absurd hj (Nat.not_lt_zero j)) hpos hn)).mono e1
end
/-! ### read_lot, read_family -/
/-- what a reading comes to -/
inductive Out where
  | text (line word : Nat)
  | lot (ns : List Int)
  | family (o : Option Nat)
  | okL (ns : List Int)
  | okF (rows : List (List Int))
def dueLot (z : Str) : Out := match bad (wordsOf ((linesOf z).getD 0 Str.empty)) with
  | some i => .text 0 i
  | none => if 1 < (linesOf z).length then .text 1 0 else
    if isLot (nums (wordsOf ((linesOf z).getD 0 Str.empty))) = true then .okL (nums (wordsOf ((linesOf z).getD 0 Str.empty))) else .lot (nums (wordsOf ((linesOf z).getD 0 Str.empty)))
/-- the first line with a word that is no number -/
def badLine : Nat → List Str → Option (Nat × Nat)
  | _, [] => none
  | i, l :: ls => match bad (wordsOf l) with
    | some j => some (i, j)
    | none => badLine (i + 1) ls
def rowsOf (z : Str) : List (List Int) := (linesOf z).map fun l => nums (wordsOf l)
def dueFam (z : Str) : Out := match badLine 0 (linesOf z) with
  | some (i, j) => .text i j
  | none => match famFault (rowsOf z) with
    | some o => .family o
    | none => .okF (rowsOf z)
theorem badLine_some : ∀ (ls : List Str) (i k : Nat) (j : Nat), (∀ a, a < k → ∀ l, ls[a]? = some l → bad (wordsOf l) = none) → ∀ l, ls[k]? = some l → bad (wordsOf l) = some j → badLine i ls = some (i + k, j)
  | [], i, k, j, _, l, h, _ => by cases h
  | m :: ls, i, 0, j, h0, l, h, hb => by
    obtain rfl : m = l := Option.some.inj h
    unfold badLine
    rw [hb]
    rfl
  | m :: ls, i, k + 1, j, h0, l, h, hb => by
    unfold badLine
    rw [h0 0 (Nat.succ_pos k) m rfl]
    show badLine (i + 1) ls = some (i + (k + 1), j)
    rw [badLine_some ls (i + 1) k j (fun a ha l hl => h0 (a + 1) (by omega) l hl) l h hb, show i + 1 + k = i + (k + 1) by omega]
theorem badLine_none : ∀ (ls : List Str) (i : Nat), (∀ l ∈ ls, bad (wordsOf l) = none) → badLine i ls = none
  | [], i, _ => rfl
  | m :: ls, i, h => by
    unfold badLine
    rw [h m (by simp)]
    exact badLine_none ls (i + 1) fun l hl => h l (by simp [hl])
def RetXt (K : PySem.W.Frag) (x f : Str) (xs : List V) (H : Hp) (E : XK) : Prop := ∀ d t H2, H d = none → Ex H H2 → H2 t = some (.tup xs) → H2 d = some (.xd [(f, .ref t)]) → E (.ref (He.ga K x)) (some d) H2
def spNeedLines (K : PySem.W.Frag) : Sp := fun vs H Q E => ∃ (l : Addr) (xs : List V) (m : Int), vs = [.ref l, .int m] ∧ SqL K H l xs ∧ ((xs.length : Int) ≤ m → RetV .non H Q) ∧ (m < (xs.length : Int) → RetX K "BadText" [("line", .int m), ("word", .int 0)] H E)
def spReadLot (K : PySem.W.Frag) : Sp := fun vs H Q E => ∃ z : Str, vs = [.str z] ∧ z.length ≤ 30000 ∧ (∀ i j, dueLot z = .text i j → RetX K "BadText" [("line", .int (i : Nat)), ("word", .int (j : Nat))] H E) ∧
  (∀ ns, dueLot z = .lot ns → RetXt K "BadLot" "given" (ns.map V.int) H E) ∧ (∀ ns, dueLot z = .okL ns → RetU (ns.map V.int) H Q)
/-- a new tuple of new tuples of numbers -/
def RetF (K : PySem.W.Frag) (rows : List (List Int)) (H : Hp) (Q : VK) : Prop := ∀ p ps H2, H p = none → Ex H H2 → H2 p = some (.tup (rv ps)) → RowsAt K H2 ps → rw' ps = rows → Q (.ref p) H2
def spReadFamily (K : PySem.W.Frag) : Sp := fun vs H Q E => ∃ z : Str, vs = [.str z] ∧ z.length ≤ 30000 ∧ (∀ i j, dueFam z = .text i j → RetX K "BadText" [("line", .int (i : Nat)), ("word", .int (j : Nat))] H E) ∧
  (∀ o, dueFam z = .family o → RetX K "BadFamily" [("number", faultW o)] H E) ∧ (∀ rows, dueFam z = .okF rows → RetF K rows H Q)
section
variable {P : Program} {w : World} {K : PySem.W.Frag} {mg : Str → Option Value} {base : Heap}
theorem ok_need_lines (M : Ma K mg) (hP : Pg P) : Dn P w K mg base "need_lines" 1 ["lines", "most"] (spNeedLines K) := by
  obtain ⟨fd, F⟩ := M.d_NeedLines
  refine Dn.of F M.g_need_lines (fun _ _ _ _ _ _ us hl => match us, hl with | [_, _], _ => rfl) (F.ok scNeedLines (fun vs H Q E h => ?_) (fun cdv A outer s H vs Q E hr h => ?_))
  · obtain ⟨l, xs, m, rfl, _⟩ := h
    rfl
  · obtain ⟨l, xs, m, rfl, hs, q, qx⟩ := h
    refine ⟨_, (pss_one (ps_if (pt_cmpR op_gt (pe_callB call_len_seq (by rfl) M.n_len PySem.boot_len (pa_cons (pv 0) pa_nil)) (pv 1) (nomark _))
      (pss_one (ps_raise rfl (takes_of rfl rfl rfl rfl) (pmk_x (M.xBadText hP) hr (pa_cons (pv 1) (pa_cons pe_int pa_nil))))) pss_nil)), ?_⟩
    refine s_when (et_test (ev_op (ev_len (ev_var rfl) hs) (ev_var rfl) (rv_I0 (g := fun i j => .bl (decide (j < i)))))) (fun hb H1 e1 => ?_) fun hb H1 e1 => q (by simpa using hb) H1 e1
    exact s_raise (W := fun cls d _ H => E cls d H) (vs := [.int m, .int 0]) (ea_cons (ev_var rfl) (ea_cons ev_c ea_nil)) rfl fun d H2 hd e2 h => (qx (by simpa using hb)).go e1 hd e2 h
theorem rNew_list {ys : List Str} {H : Hp} {Q : VK} (k : ∀ p H2, H p = none → Ex H H2 → H2 p = some (.lst (ys.map V.str)) → Q (.ref p) H2) : rNewStrs ys H Q := fun p hp => k p _ hp (Ex.new hp) upd_same
theorem ok_read_lot (M : Ma K mg) (hP : Pg P) : Dn P w K mg base "read_lot" 5 ["text"] (spReadLot K) := by
  obtain ⟨fd, F⟩ := M.d_ReadLot
  obtain ⟨t1, m1⟩ := M.s_NEWLINE
  refine Dn.of F M.g_read_lot (fun _ _ _ _ _ _ us hl => match us, hl with | [_], _ => rfl) (F.ok scReadLot (fun vs H Q E h => ?_) (fun cdv A outer s H vs Q E hr h => ?_))
  · obtain ⟨z, rfl, _⟩ := h
    rfl
  · obtain ⟨z, rfl, hz, qt, ql, qo⟩ := h
    refine ⟨_, (pss_cons (ps_expr (pe_dn (E := fun cls d H => E cls d H) (ok_need_text M hP) (hr.mono (by decide)) (passes_call (takes_of rfl rfl rfl rfl) fun _ _ _ _ h => h) (pa_cons (pv 0) pa_nil))) <|
      pss_cons (ps_set (i := 1) scReadLot.nd rfl (.inl rfl) (pe_split (pv 0) (pe_glob (v := .str "\n") (by rfl) m1 ⟨_, rfl⟩))) <|
      pss_cons (ps_set (i := 2) scReadLot.nd rfl (.inl rfl) (pe_dn (E := fun cls d H => E cls d H) (ok_lot_in M hP) (hr.mono (by decide)) (passes_call (takes_of rfl rfl rfl rfl) fun _ _ _ _ h => h) (pa_cons (pe_ix ix_list (pv 1) pe_int (fun _ _ => rfl)) (pa_cons pe_int pa_nil)))) <|
      pss_cons (ps_expr (pe_dn (E := fun cls d H => E cls d H) (ok_need_lines M hP) (hr.mono (by decide)) (passes_call (takes_of rfl rfl rfl rfl) fun _ _ _ _ h => h) (pa_cons (pv 1) (pa_cons pe_int pa_nil)))) <|
      pss_one (ps_ret (pe_dn (E := fun cls d H => E cls d H) (ok_need_lot M hP) hr (passes_call (takes_of rfl rfl rfl rfl) fun _ _ _ _ h => h) (pa_cons (pv 2) pa_nil)))), ?_⟩
    refine ⟨_, rfl, z, rfl, fun H1 e1 => ?_⟩
    refine ⟨_, rfl, ⟨_, rfl⟩, z, "\n", rfl, rfl, by decide, by rw [sizeLine_eq]; omega, fun l hl => ?_⟩
    have e2 := e1.trans (Ex.new (o := .lst ((linesOf z).map V.str)) hl)
    have hL : (upd H1 l (.lst ((linesOf z).map V.str))) l = some (.lst ((linesOf z).map V.str)) := upd_same
    have hpos := linesOf_pos z
    have hg : (linesOf z)[0]? = some ((linesOf z).getD 0 Str.empty) := by rw [List.getD_eq_getElem?_getD, List.getElem?_eq_getElem hpos]; rfl
    generalize hl0 : (linesOf z).getD 0 Str.empty = l0 at hg
    have hlen0 : l0.length ≤ z.length := lines_part (List.mem_of_getElem? hg)
    have hdue : dueLot z = match bad (wordsOf l0) with
      | some i => .text 0 i
      | none => if 1 < (linesOf z).length then .text 1 0 else if isLot (nums (wordsOf l0)) = true then .okL (nums (wordsOf l0)) else .lot (nums (wordsOf l0)) := by
      unfold dueLot
      rw [hl0]
    refine ⟨_, rfl, l, _, 0, _, rfl, rfl, sq_of hL, atI_nat (by rw [List.getElem?_map, hg]; rfl), ?_⟩
    refine ⟨l0, 0, rfl, by omega, fun i hi => ?_, fun hb => fun p H2 hp e3 hp2 => ?_⟩
    · rw [hi] at hdue
      exact (qt 0 i hdue).mono e2
    · rw [hb] at hdue
      refine ⟨_, rfl, ?_⟩
      refine ⟨l, _, 1, rfl, sq_of (e3 _ _ hL), fun hle => fun H3 e4 => ?_, fun hlt => ?_⟩
      · have h1 : ¬ 1 < (linesOf z).length := by
          rw [List.length_map] at hle
          omega
        rw [if_neg h1] at hdue
        have hT : H3 p = some (.tup ((nums (wordsOf l0)).map V.int)) := e4 _ _ hp2
        have eall : Ex H H3 := (e2.trans e3).trans e4
        have hwl := wordsOf_le l0
        refine ⟨_, rfl, p, nums (wordsOf l0), rfl, st_of hT, by unfold nums; rw [List.length_map]; omega, fun hlot => fun H4 e5 => ?_, fun hlot => fun d H4 hd e5 hx => ?_⟩
        · rw [if_pos hlot] at hdue
          exact qo _ hdue p H4 (fresh_back e2 hp) (eall.trans e5) (e5 _ _ hT)
        · rw [if_neg (by rw [hlot]; decide)] at hdue
          exact ql _ hdue d p H4 (fresh_back eall hd) (eall.trans e5) (e5 _ _ hT) hx
      · have h1 : 1 < (linesOf z).length := by
          rw [List.length_map] at hlt
          omega
        rw [if_pos h1] at hdue
        exact (qt 1 0 hdue).mono (e2.trans e3)
theorem ok_read_family (M : Ma K mg) (hP : Pg P) : Dn P w K mg base "read_family" 6 ["text"] (spReadFamily K) := by
  obtain ⟨fd, F⟩ := M.d_ReadFamily
  obtain ⟨t1, m1⟩ := M.s_NEWLINE
  refine Dn.of F M.g_read_family (fun _ _ _ _ _ _ us hl => match us, hl with | [_], _ => rfl) (F.ok scReadFamily (fun vs H Q E h => ?_) (fun cdv A outer s H vs Q E hr h => ?_))
  · obtain ⟨z, rfl, _⟩ := h
    rfl
  · obtain ⟨z, rfl, hz, qt, qf, qo⟩ := h
    refine ⟨_, (pss_cons (ps_expr (pe_dn (E := fun cls d H => E cls d H) (ok_need_text M hP) (hr.mono (by decide)) (passes_call (takes_of rfl rfl rfl rfl) fun _ _ _ _ h => h) (pa_cons (pv 0) pa_nil))) <|
      pss_one (ps_ret (pe_dn (E := fun cls d H => E cls d H) (ok_need_family M hP) hr (passes_call (takes_of rfl rfl rfl rfl) fun _ _ _ _ h => h) (pa_cons (pe_callTy call_tuple_of (by rfl) M.n_tuple (by decide +kernel)
        (pa_cons (pe_lcX (E := fun cls d H => E cls d H) (own := [("row", 1), ("line", 2)]) (g := gTup K 2 (gCons (gName 1) (gCons (gName 2) gNil))) (tt := tYes) rfl rfl (takes_of rfl rfl rfl rfl) rfl scReadFamily.nd
          (pi_enum (by rfl) M.n_enumerate (pa_cons (pe_split (pv 0) (pe_glob (v := .str "\n") (by rfl) m1 ⟨_, rfl⟩)) pa_nil)) (blkOk_by (N := ["text", "row", "line"]) (sc := defScope sReadFamily) (by decide +kernel))
          (fun _ _ _ _ _ => pg_tup rfl (pgs_cons (pg_name (i := 1) scReadFamily.nd rfl (Or.inl rfl)) (pgs_cons (pg_name (i := 2) scReadFamily.nd rfl (Or.inl rfl)) pgs_nil))) (fun _ _ _ _ _ => pts_nil)
          (fun _ _ _ _ _ xe hx => pe_dn (ok_lot_in M hP) (hr.mono (by decide)) hx (pa_cons (pv 2) (pa_cons (pv 1) pa_nil)))) pa_nil)) pa_nil)))), ?_⟩
    refine ⟨_, rfl, z, rfl, fun H1 e1 => ?_⟩
    refine ⟨_, rfl, ⟨_, rfl⟩, z, "\n", rfl, rfl, by decide, by rw [sizeLine_eq]; omega, fun l hl => ⟨l, _, rfl, sq_of upd_same, fun D hD => ?_⟩⟩
    have e2 := e1.trans (Ex.new (o := .lst ((linesOf z).map V.str)) hl)
    have hL : (upd H1 l (.lst ((linesOf z).map V.str))) l = some (.lst ((linesOf z).map V.str)) := upd_same
    have hLl := linesOf_le z
    have nDl : l ≠ D := ne_of_none hL hD
    have eD := e2.trans (Ex.new (o := .lst []) hD)
    refine lc_it walk_enum (fun i H' => (∃ ps, H' D = some (.lst (rv ps)) ∧ RowsAt K H' ps ∧ rw' ps = (rowsOf z).take i ∧ ps.length = i) ∧ Ex (upd H1 l (.lst ((linesOf z).map V.str))) H' ∧ ∀ a, a < i → ∀ ln, (linesOf z)[a]? = some ln → bad (wordsOf ln) = none)
      ⟨⟨[], upd_same, fun p hp => (by cases hp), rfl, rfl⟩, Ex.new hD, fun a ha => absurd ha (Nat.not_lt_zero a)⟩ (fun i H' _ p => sq_of (p.2.1 _ _ hL)) (fun i x H' H'' hi p y => ?_) fun H' p => ?_
    · obtain ⟨⟨ps, hp1, hp2, hp3, hp4⟩, e3, hall⟩ := p
      obtain ⟨T, x1, x2, rfl, hT, rfl, h1, h2⟩ := y
      have hi' : i < (linesOf z).length := by rw [List.length_map] at hi; exact hi
      have ex1 : x1 = .int (i : Nat) := (Option.some.inj h1).symm
      have ex2 : x2 = .str (linesOf z)[i] := by
        have h2' : ((linesOf z).map V.str)[i]? = some x2 := h2
        rw [List.getElem?_map, List.getElem?_eq_getElem hi'] at h2'
        exact (Option.some.inj h2').symm
      subst ex1 ex2
      have hmem : (linesOf z)[i] ∈ linesOf z := List.getElem_mem hi'
      have hlen := lines_part hmem
      have hg : (linesOf z)[i]? = some (linesOf z)[i] := List.getElem?_eq_getElem hi'
      refine ⟨T, _, rfl, SqT.of upd_same, rfl, _, _, rfl, _, [], rfl, rfl, rfl, ?_⟩
      have e4 : Ex H' (upd H' T (.tup [.int (i : Nat), .str (linesOf z)[i]])) := Ex.new hT
      refine ⟨_, rfl, _, rfl, (linesOf z)[i], i, rfl, by omega, fun j hj => ?_, fun hb t H4 ht e5 ht4 => ?_⟩
      · have hbl : badLine 0 (linesOf z) = some (0 + i, j) := badLine_some (linesOf z) 0 i j hall _ hg hj
        rw [Nat.zero_add] at hbl
        exact (qt i j (by unfold dueFam; rw [hbl])).mono ((e2.trans e3).trans e4)
      · have e6 := e4.trans e5
        have hD0 : H4 D = some (.lst (rv ps)) := e6 _ _ hp1
        have ntD : t ≠ D := fun e => by
          rw [e, e4 _ _ hp1] at ht
          cases ht
        have nT : ∀ b o, H' b = some o → b ≠ t := fun b o hb e => by
          rw [← e, e4 _ _ hb] at ht
          cases ht
        refine ⟨rv ps, hD0, by rw [rv_len, sizeLine_eq]; omega, ⟨ps ++ [(t, nums (wordsOf (linesOf z)[i]))], ?_, fun p hp => ?_, ?_, ?_⟩, fun b o hb => ?_, fun a ha ln hln => ?_⟩
        · rw [upd_same]
          unfold rv
          rw [List.map_append]
          rfl
        · rcases List.mem_append.mp hp with h | h
          · have h3 := hp2 p h
            rcases h3 with (h3 | ⟨o, h3⟩) | h3
            · refine .inl (.inl ?_)
              rw [upd_ne (ne_of h3 hp1 (by intro z; cases z))]
              exact e6 _ _ h3
            · refine .inl (.inr ⟨o, ?_⟩)
              rw [upd_ne (ne_of h3 hp1 (by intro z; cases z))]
              exact e6 _ _ h3
            · exact .inr h3
          · rw [List.mem_singleton.mp h]
            refine st_of ?_
            show (upd H4 D _) t = _
            rw [upd_ne ntD]
            exact ht4
        · unfold rw' at hp3 ⊢
          rw [List.map_append, hp3, List.take_add_one]
          have : (rowsOf z)[i]? = some (nums (wordsOf (linesOf z)[i])) := by
            unfold rowsOf
            rw [List.getElem?_map, hg]
            rfl
          rw [this]
          rfl
        · rw [List.length_append, hp4]
          rfl
        · have nb : b ≠ D := ne_of_none hb hD
          rw [upd_ne nb]
          exact e6 _ _ (e3 _ _ hb)
        · rcases Nat.lt_succ_iff_lt_or_eq.mp ha with h | h
          · exact hall a h ln hln
          · rw [h, hg] at hln
            rw [← Option.some.inj hln]
            exact hb
    · obtain ⟨⟨ps, hp1, hp2, hp3, hp4⟩, e3, hall⟩ := p
      rw [List.length_map] at hp3 hp4 hall
      have hrl : (rowsOf z).length = (linesOf z).length := List.length_map ..
      rw [← hrl, List.take_length] at hp3
      have hbl : badLine 0 (linesOf z) = none := badLine_none _ _ fun ln hln => by
        obtain ⟨a, ha, rfl⟩ := List.mem_iff_getElem.mp hln
        exact hall a ha _ (List.getElem?_eq_getElem ha)
      have hdue : dueFam z = match famFault (rowsOf z) with
        | some o => .family o
        | none => .okF (rowsOf z) := by
        unfold dueFam
        rw [hbl]
      refine ⟨D, _, rfl, .inl ⟨sq_of hp1, fun t ht => ?_⟩⟩
      have e4 : Ex H' (upd H' t (.tup (rv ps))) := Ex.new ht
      refine ⟨t, ps, rfl, st_of upd_same, hp2.ex e4, by omega, fun p hp => ?_, fun hok => fun H5 e5 => ?_, fun o ho => ?_⟩
      · have : p.2 ∈ rowsOf z := by rw [← hp3]; exact List.mem_map_of_mem hp
        unfold rowsOf at this
        obtain ⟨ln, hln, e⟩ := List.mem_map.mp this
        have h1 := lines_part hln
        have h2 := wordsOf_le ln
        rw [← e]
        unfold nums
        rw [List.length_map]
        omega
      · rw [hp3] at hok
        rw [hok] at hdue
        exact qo _ hdue t ps H5 (fresh_back (e2.trans e3) ht) (((e2.trans e3).trans e4).trans e5) (e5 _ _ upd_same) ((hp2.ex e4).ex e5) hp3
      · rw [hp3] at ho
        rw [ho] at hdue
        exact (qf o hdue).mono ((e2.trans e3).trans e4)
end
end SL
end
section
set_option Elab.async false
set_option linter.all false
set_option maxRecDepth 100000
set_option maxHeartbeats 2000000
/-! The law's reading: _law_number, _law_line, _law_lot_line, _law_is_lot, _law_due_lot, _law_due_family. -/
namespace SL
open PySem PySem.Spec PyProof.Rows L2 Evl
/-! ### data -/
section
variable {K : PySem.W.Frag} {σ : L2.St} {H H' : Hp} {ta tb te tx : TE} {t u : TT} {x y z v : V}
mutual
theorem Dp.ex (e : Ex H H') : ∀ (d : PyData) (v : V), Dp K H v d → Dp K H' v d
  | .none, _, h => by cases h; exact .non
  | .bool b, _, h => by cases h; exact .bl b
  | .int i, _, h => by cases h; exact .int i
  | .str x, _, h => by cases h; exact .str x
  | .list ds, _, h => by
    cases h with
    | lst h1 h2 => exact .lst (ex_l e h1) (DpAll.ex e ds _ h2)
  | .tuple ds, _, h => by
    cases h with
    | tup h1 h2 => exact .tup (ex_t e h1) (DpAll.ex e ds _ h2)
  | .dict _, _, h => by cases h
theorem DpAll.ex (e : Ex H H') : ∀ (ds : List PyData) (vs : List V), DpAll K H vs ds → DpAll K H' vs ds
  | [], _, h => by cases h; exact .nil
  | d :: ds, _, h => by
    cases h with
    | cons h1 h2 => exact .cons (Dp.ex e d _ h1) (DpAll.ex e ds _ h2)
end
theorem dp_strs : ∀ ys : List Str, DpAll K H (ys.map V.str) (ys.map PyData.str)
  | [] => .nil
  | y :: ys => .cons (.str y) (dp_strs ys)
theorem dp_ints : ∀ ns : List Int, DpAll K H (ns.map V.int) (ns.map PyData.int)
  | [] => .nil
  | n :: ns => .cons (.int n) (dp_ints ns)
theorem eqv_nil (ds : List PyData) : PyData.eqv (.list ds) (.list []) = ds.isEmpty := by
  cases ds with
  | nil => simp [PyData.eqv, PyData.eqvAll]
  | cons d ds => simp [PyData.eqv, PyData.eqvAll]
theorem lay_all : ∀ ds : List PyData, (∀ d ∈ ds, PyData.canLay0 d = true) → PyData.canLayAll0 ds = true
  | [], _ => by simp [PyData.canLayAll0]
  | d :: ds, h => by
    simp only [PyData.canLayAll0, Bool.and_eq_true]
    exact ⟨h d (by simp), lay_all ds fun e he => h e (by simp [he])⟩
theorem depth_all (k : Nat) : ∀ ds : List PyData, (∀ d ∈ ds, PyData.depth d ≤ k) → PyData.depthAll ds ≤ k
  | [], _ => by simp [PyData.depthAll]
  | d :: ds, h => by
    simp only [PyData.depthAll]
    have h1 := h d (by simp)
    have h2 := depth_all k ds fun e he => h e (by simp [he])
    omega
theorem shaped_list {ds : List PyData} {k : Nat} (h : ∀ d ∈ ds, PyData.canLay0 d = true ∧ PyData.depth d ≤ k) (hk : k < 64) : SeqAt.shaped (.list ds) = true := by
  unfold SeqAt.shaped
  simp only [PyData.canLay0, PyData.depth, Bool.and_eq_true, decide_eq_true_eq]
  have h9 := depth_all k ds fun d hd => (h d hd).2
  exact ⟨lay_all ds fun d hd => (h d hd).1, decide_eq_true (Nat.le_trans (Nat.succ_le_succ h9) hk)⟩
theorem shaped_nil : SeqAt.shaped (.list []) = true := shaped_list (k := 0) (fun d hd => by cases hd) (by decide)
/-- xs != [], xs == [] of a new list -/
theorem ev_neNil {xs : List V} {ds : List PyData} (ha : EvL ta σ H xs) (hd : ∀ H1, DpAll K H1 xs ds) (hs : SeqAt.shaped (.list ds) = true) : Ev (tOp (rNeD K) ta (tLst tNil)) σ H (.bl (!ds.isEmpty)) :=
  ev_opLL ha (el_lst ea_nil (by simp)) fun p q H1 hp hq _ => fun H2 e2 Q k => ⟨.list ds, .list [], .lst (ex_l e2 (sq_of hp)) (hd _), .lst (ex_l e2 (sq_of hq)) .nil, hs, shaped_nil, by rw [eqv_nil]; exact k H2 (Ex.refl H2)⟩
theorem ev_eqNil {xs : List V} {ds : List PyData} (ha : EvL ta σ H xs) (hd : ∀ H1, DpAll K H1 xs ds) (hs : SeqAt.shaped (.list ds) = true) : Ev (tOp (rEqD K) ta (tLst tNil)) σ H (.bl ds.isEmpty) :=
  ev_opLL ha (el_lst ea_nil (by simp)) fun p q H1 hp hq _ => fun H2 e2 Q k => ⟨.list ds, .list [], .lst (ex_l e2 (sq_of hp)) (hd _), .lst (ex_l e2 (sq_of hq)) .nil, hs, shaped_nil, by rw [eqv_nil]; exact k H2 (Ex.refl H2)⟩
/-- comprehensions with an if -/
theorem given_filter {α : Type} (p : α → Bool) (f : α → V) (xs : List α) : ∀ k, k ≤ xs.length →
    given k (fun i => xs[i]?.elim false p) (fun i => xs[i]?.elim V.non f) = ((xs.take k).filter p).map f
  | 0, _ => by simp [given]
  | k + 1, h => by
    have hk : xs[k]? = some (xs[k]'(by omega)) := List.getElem?_eq_getElem (by omega)
    have ih := given_filter p f xs k (by omega)
    rw [List.take_add_one, hk, List.filter_append, List.map_append, ← ih]
    cases hp : p (xs[k]'(by omega)) with
    | true =>
      rw [given_yes (by simp only [hk, Option.elim_some]; exact hp)]
      simp [hp, hk]
    | false =>
      rw [given_no (by simp only [hk, Option.elim_some]; exact hp)]
      simp [hp]
theorem el_lcSf {z : Str} {p : Nat → Bool} {f : Nat → V} {tl : TE} {j : Nat} {vs : List Nat} (h : Ev tl σ H (.str z)) (hz : z.length ≤ 40000) (hw : ∀ x, wipe ((wipe σ vs).set j (some x)) vs = wipe σ vs)
    (ht : ∀ (c : Nat) H1, c ∈ z.cps.toList → Ex H H1 → EvT t ((wipe σ vs).set j (some (.str ⟨#[c]⟩))) H1 (p c))
    (he : ∀ (c : Nat) H1, c ∈ z.cps.toList → Ex H H1 → Ev te ((wipe σ vs).set j (some (.str ⟨#[c]⟩))) H1 (f c)) : EvL (tLc (iStr tl) (gName j) t te vs) σ H ((z.cps.toList.filter p).map f) := by
  intro H0 e Q q
  have hl : z.cps.size = z.cps.toList.length := Array.length_toList.symm
  have hz' : z.cps.size ≤ 40000 := hz
  have gm : given z.cps.size (fun i => z.cps.toList[i]?.elim false p) (fun i => z.cps.toList[i]?.elim V.non f) = (z.cps.toList.filter p).map f := by
    rw [hl]
    refine (given_filter p f z.cps.toList _ (Nat.le_refl _)).trans ?_
    rw [List.take_length]
  refine h H0 e _ fun H1 e1 => ⟨z, rfl, fun Dl hD => lc_it walk_str (Cw H1 (fun i => z.cps.toList[i]?.elim false p) (fun i => z.cps.toList[i]?.elim V.non f) Dl) ⟨hD, Ex.new hD, upd_same⟩ (fun _ _ _ _ => True.intro)
    (fun i x H' H'' hi p' y => ?_) (fun H' p' => ?_)⟩
  · obtain ⟨rfl, c, hc, rfl⟩ := y
    have hc' : z.cps.toList[i]? = some c := by rw [Array.getElem?_toList]; exact hc
    refine ⟨hw _, cw_turn p' (by omega) ?_ fun _ => ?_⟩
    · simp only [hc', Option.elim_some]
      exact ht c H1 (List.mem_of_getElem? hc') (e.trans e1)
    · simp only [hc', Option.elim_some]
      exact he c H1 (List.mem_of_getElem? hc') (e.trans e1)
  · have p3 := p'.2.2
    rw [gm] at p3
    exact q Dl H' (fresh_back e1 p'.1) (e1.trans p'.2.1) p3
theorem el_lcTf {α : Type} {xs : List α} {enc f : α → V} {p : α → Bool} {a : Addr} {tl : TE} {j : Nat} {vs : List Nat} (h : Ev tl σ H (.ref a)) (hx : SqT K H a (xs.map enc)) (hz : xs.length ≤ 40000) (hw : ∀ x, wipe ((wipe σ vs).set j (some x)) vs = wipe σ vs)
    (ht : ∀ (x : α) H1, x ∈ xs → Ex H H1 → EvT t ((wipe σ vs).set j (some (enc x))) H1 (p x))
    (he : ∀ (x : α) H1, x ∈ xs → Ex H H1 → Ev te ((wipe σ vs).set j (some (enc x))) H1 (f x)) : EvL (tLc (iTup K tl) (gName j) t te vs) σ H ((xs.filter p).map f) := by
  refine el_is (el_lcT (fun i => xs[i]?.elim false p) (fun i => xs[i]?.elim V.non f) h hx (by simpa using hz) hw (fun i x H1 e hi => ?_) fun i x H1 e hi _ => ?_) ?_
  · simp only [List.getElem?_map, Option.map_eq_some_iff] at hi
    obtain ⟨y, hy, rfl⟩ := hi
    simp only [hy, Option.elim_some]
    exact ht y H1 (List.mem_of_getElem? hy) e
  · simp only [List.getElem?_map, Option.map_eq_some_iff] at hi
    obtain ⟨y, hy, rfl⟩ := hi
    simp only [hy, Option.elim_some]
    exact he y H1 (List.mem_of_getElem? hy) e
  · rw [List.length_map]
    refine (given_filter p f xs _ (Nat.le_refl _)).trans ?_
    rw [List.take_length]
theorem el_lcLf {α : Type} {xs : List α} {enc f : α → V} {p : α → Bool} {a : Addr} {tl : TE} {j : Nat} {vs : List Nat} (h : Ev tl σ H (.ref a)) (hx : SqL K H a (xs.map enc)) (hz : xs.length ≤ 40000) (hw : ∀ x, wipe ((wipe σ vs).set j (some x)) vs = wipe σ vs)
    (ht : ∀ (x : α) H1, x ∈ xs → Ex H H1 → EvT t ((wipe σ vs).set j (some (enc x))) H1 (p x))
    (he : ∀ (x : α) H1, x ∈ xs → Ex H H1 → Ev te ((wipe σ vs).set j (some (enc x))) H1 (f x)) : EvL (tLc (iList K tl) (gName j) t te vs) σ H ((xs.filter p).map f) := by
  refine el_is (el_lcL (fun i => xs[i]?.elim false p) (fun i => xs[i]?.elim V.non f) h hx (by simpa using hz) hw (fun i x H1 e hi => ?_) fun i x H1 e hi _ => ?_) ?_
  · simp only [List.getElem?_map, Option.map_eq_some_iff] at hi
    obtain ⟨y, hy, rfl⟩ := hi
    simp only [hy, Option.elim_some]
    exact ht y H1 (List.mem_of_getElem? hy) e
  · simp only [List.getElem?_map, Option.map_eq_some_iff] at hi
    obtain ⟨y, hy, rfl⟩ := hi
    simp only [hy, Option.elim_some]
    exact he y H1 (List.mem_of_getElem? hy) e
  · rw [List.length_map]
    refine (given_filter p f xs _ (Nat.le_refl _)).trans ?_
    rw [List.take_length]
end
/-! ### signs -/
def Asc (z : Str) : Prop := ∀ c ∈ z.cps.toList, c < 1114112
theorem spl_mem (S : List Nat) : ∀ (l : List Nat) (k : Nat) (acc : List Nat), ∀ p ∈ TL.spl S k acc l, ∀ c ∈ p, c ∈ acc ∨ c ∈ l
  | [], k, acc, p, hp, c, hc => by
    cases k <;> (simp only [TL.spl, List.mem_singleton] at hp; rw [hp] at hc; exact .inl hc)
  | d :: r, 0, acc, p, hp, c, hc => by
    unfold TL.spl at hp
    split at hp
    · rcases List.mem_cons.mp hp with h | h
      · rw [h] at hc; exact .inl hc
      · rcases spl_mem S r _ [] p h c hc with h | h
        · cases h
        · exact .inr (List.mem_cons_of_mem _ h)
    · rcases spl_mem S r 0 (acc ++ [d]) p hp c hc with h | h
      · rcases List.mem_append.mp h with h | h
        · exact .inl h
        · rw [List.mem_singleton.mp h]; exact .inr (List.mem_cons_self ..)
      · exact .inr (List.mem_cons_of_mem _ h)
  | d :: r, k + 1, acc, p, hp, c, hc => by
    unfold TL.spl at hp
    rcases spl_mem S r k acc p hp c hc with h | h
    · exact .inl h
    · exact .inr (List.mem_cons_of_mem _ h)
theorem split_part_mem {x y : Str} (hy : TL.tl y ≠ []) (hk : y.cps.all (· < 256) = true) {p : Str} (hp : p ∈ Txt.split x y) : ∀ c ∈ p.cps.toList, c ∈ x.cps.toList := fun c hc => by
  have h1 : TL.tl p ∈ (Txt.split x y).map TL.tl := List.mem_map_of_mem hp
  rw [TL.split_spl x y hy (TL.kind_ok hk)] at h1
  rcases spl_mem _ _ _ _ _ h1 c hc with h | h
  · cases h
  · exact h
theorem Asc.word {z w : Str} (h : Asc z) (hw : w ∈ wordsOf z) : Asc w := fun c hc => h c (split_part_mem (by decide +kernel) (by decide +kernel) hw c hc)
theorem Asc.line {z w : Str} (h : Asc z) (hw : w ∈ linesOf z) : Asc w := fun c hc => h c (split_part_mem (by decide +kernel) (by decide +kernel) hw c hc)
end SL
end
section
set_option Elab.async false
set_option linter.all false
set_option maxRecDepth 100000
set_option maxHeartbeats 2000000
namespace SL
open PySem PySem.Spec PyProof.Rows L2 Evl
def spLawNumber : Sp := fun vs H Q _ => ∃ w : Str, vs = [.str w] ∧ w.length ≤ 100000 ∧ Asc w ∧ RetV (optV (numIn w)) H Q
section
variable {K : PySem.W.Frag} {σ : L2.St} {H H' : Hp} {ta tb te tx : TE}
theorem ev_notInSign {c : Nat} {z : Str} (h : Ev ta σ H (.str ⟨#[c]⟩)) (h1 : Ev tb σ H (.str z)) :
    Ev (tOp (fun x y H Q => ∃ (c : Nat) (z : Str), x = .str ⟨#[c]⟩ ∧ y = .str z ∧ Q (.bl (!decide (c ∈ z.cps.toList))) H) ta tb) σ H (.bl (!decide (c ∈ z.cps.toList))) := ev_op h h1 fun H1 e Q q => ⟨c, z, rfl, rfl, q H1 (Ex.refl H1)⟩
end
section
variable {P : Program} {w : World} {K : PySem.W.Frag} {mg : Str → Option Value} {base : Heap}
theorem ok_law_number (M : Ma K mg) : Dn P w K mg base "_law_number" 1 ["_law_word"] spLawNumber := by
  obtain ⟨fd, F⟩ := M.d_LawNumber
  refine Dn.of F M.g__law_number (fun _ _ _ _ _ _ us hl => match us, hl with | [_], _ => rfl) (F.ok scLawNumber (fun vs H Q E h => ?_) (fun cdv A outer s H vs Q E hr h => ?_))
  · obtain ⟨z, rfl, _⟩ := h
    rfl
  · obtain ⟨z, rfl, hz, hA, q⟩ := h
    refine ⟨_, (pss_cons (ps_set (i := 1) scLawNumber.nd rfl (.inl rfl) (pe_ifExp (pt_cmpR op_eq (pe_slice sl_str (pv 0) po_none (po_some pe_int)) pe_str (nomark _)) (pe_slice sl_str (pv 0) (po_some pe_int) po_none) (pv 0))) <|
      pss_cons (ps_if (PW.pt (pw_or (pt_not (pt_chain op_le op_le pe_int (pe_callB call_len_str (by rfl) M.n_len PySem.boot_len (pa_cons (pv 1) pa_nil)) pe_int))
          (pw_or1 (pt_cmpR (op_neD hr.units) (pe_lc (own := [("_law_figure", 2)]) (g := gName 2) rfl scLawNumber.nd (pi_str (pv 1)) (blkOk_by (N := ["_law_word", "_law_figures", "_law_figure"]) (sc := defScope sLawNumber) (by decide +kernel))
            (fun _ _ _ _ _ => pg_name (i := 2) scLawNumber.nd rfl (Or.inl rfl)) (fun _ _ _ _ _ => pts_one (pt_cmpR op_notIn_sign (pv 2) pe_str (by rfl)))
            (fun _ _ _ _ _ => pv 2)) (pe_lst pa_nil) (nomark _))))) (pss_one (ps_ret pe_non)) pss_nil) <|
      pss_one (ps_ret (pe_ifExp (PW.pt (pw_or (pt_cmpR op_ne (pe_ix ix_str (pv 1) pe_int (fun _ _ => rfl)) pe_str (nomark _)) (pw_or1 (pt_cmpR op_eq (pv 0) pe_str (nomark _)))))
        (pe_callTy call_int_str (by rfl) M.n_int (by decide +kernel) (pa_cons (pv 0) pa_nil)) pe_non))), ?_⟩
    have hfl : (figT z).length ≤ 100000 := Nat.le_trans (figT_len z) hz
    have hfe : (figT z).length = (figL z.cps.toList).length := by rw [← figT_tl]; exact Array.length_toList.symm
    refine q_asg (v := .str (figT z)) (ev_if (b := decide (z.cps.toList.head? = some 45)) (et_is (et_test (ev_op (ev_slS (ev_var rfl) eo_none (eo_some ev_c) hz) ev_c (rv_eq rfl))) (head_is z 45 "-" (by decide +kernel)))
      (fun h => ev_is (ev_slS (ev_var rfl) (eo_some ev_c) eo_none hz) (by unfold figT; rw [if_pos (of_decide_eq_true h)])) (fun h => ev_is (ev_var rfl) (by unfold figT; rw [if_neg (of_decide_eq_false h)]))) fun H1 e1 => ?_
    have hmem : ∀ c ∈ (figT z).cps.toList, c ∈ z.cps.toList := fun c hc => by
      rw [figT_tl] at hc
      unfold figL at hc
      split at hc
      · exact List.mem_of_mem_drop hc
      · exact hc
    refine q_when (et_or (et_not (et_test (ev_chainI ev_c (ev_lenS (ev_var rfl) hfl) ev_c))) fun h => et_test (ev_neNil (ds := ((figT z).cps.toList.filter fun c => !isDig c).map fun c => PyData.str ⟨#[c]⟩) (el_lcSf (p := fun c => !isDig c) (f := fun c => V.str ⟨#[c]⟩) (ev_var rfl) ?_ (fun _ => rfl)
      (fun c H2 hc e2 => et_is (et_test (ev_notInSign (ev_var rfl) ev_c)) (by rw [dig_in])) fun c H2 hc e2 => ev_var rfl) (fun H2 => ?_) ?_)) (fun hb H2 e2 => ?_) fun hb H2 e2 => ?_
    · simp only [Bool.not_eq_false', Bool.and_eq_true, decide_eq_true_eq] at h
      omega
    · have := dp_strs (K := K) (H := H2) (((figT z).cps.toList.filter fun c => !isDig c).map fun c => (⟨#[c]⟩ : Str))
      rw [List.map_map, List.map_map] at this
      exact this
    · refine shaped_list (k := 0) (fun d hd => ?_) (by decide)
      obtain ⟨c, hc, rfl⟩ := List.mem_map.mp hd
      have h1 := hA c (hmem c (List.mem_filter.mp hc).1)
      simp [PyData.canLay0, PyData.strOk, PyData.depth]
      exact h1
    · have e : numIn z = none := by
        unfold numIn
        rw [if_neg]
        intro h
        simp only [okNum, Bool.and_eq_true, decide_eq_true_eq, List.all_eq_true] at h
        rw [figT_tl, hfe] at hb
        simp only [Bool.or_eq_true, Bool.not_eq_true', Bool.and_eq_false_iff, decide_eq_false_iff_not] at hb
        rcases hb with hb | hb
        · omega
        · have : (figL z.cps.toList).filter (fun c => !isDig c) = [] := by
            rw [List.filter_eq_nil_iff]
            intro c hc
            simp [h.1.2 c hc]
          rw [this] at hb
          simp at hb
      rw [e] at q
      exact s_ret ev_c fun H3 e3 => q H3 ((e1.trans e2).trans e3)
    · rw [figT_tl, hfe] at hb
      simp only [Bool.or_eq_false_iff, Bool.not_eq_false', Bool.and_eq_true, decide_eq_true_eq] at hb
      obtain ⟨⟨g1, g2⟩, g3⟩ := hb
      have g3' : ∀ c ∈ figL z.cps.toList, isDig c = true := fun c hc => by
        have h0 : (figL z.cps.toList).filter (fun c => !isDig c) = [] := by simpa using g3
        rw [List.filter_eq_nil_iff] at h0
        simpa using h0 c hc
      cases hfg : figL z.cps.toList with
      | nil => rw [hfg] at g1; simp at g1
      | cons c r =>
        have hc0 : (figT z).cps.toList[0]? = some c := by rw [figT_tl, hfg]; rfl
        refine s_ret (v := optV (numIn z)) (ev_if (b := !decide (c = 48) || decide (z.cps.toList = [48])) (et_or (et_is (et_test (ev_op (ev_ixS (i := 0) (ev_var rfl) ev_c hfl hc0) ev_c (rv_ne rfl))) (congrArg Bool.not (sign_is c 48 "0" (by decide +kernel)))) fun _ => et_is (et_test (ev_op (ev_var rfl) ev_c (rv_eq rfl))) (text_is z [48] "0" (by decide +kernel))) (fun hb => ?_) fun hb => ?_) fun H3 e3 => q H3 ((e1.trans e2).trans e3)
        · have hok : okNum z.cps.toList = true := by
            simp only [okNum, Bool.and_eq_true, decide_eq_true_eq, List.all_eq_true]
            refine ⟨⟨⟨by omega, by omega⟩, fun d hd => g3' d hd⟩, ?_⟩
            rw [hfg]
            simp only [List.head?_cons, Option.some.injEq]
            simp only [Bool.or_eq_true, Bool.not_eq_true', decide_eq_false_iff_not, decide_eq_true_eq] at hb
            rcases hb with hb | hb
            · simp [hb]
            · simp [hb]
          obtain ⟨n, h1, h2, h3⟩ := numIn_some hok
          rw [h2]
          exact ev_intS (ev_var rfl) h1 (by omega)
        · have e : numIn z = none := by
            unfold numIn
            rw [if_neg]
            intro h
            simp only [okNum, hfg, List.head?_cons, Option.some.injEq, Bool.and_eq_true] at h
            simp only [Bool.or_eq_false_iff, Bool.not_eq_false', decide_eq_true_eq, decide_eq_false_iff_not] at hb
            simp [hb.1, hb.2] at h
          rw [e]
          exact ev_c
theorem ok_law_line (M : Ma K mg) : Dn P w K mg base "_law_line" 1 ["_law_things"] (spLineOf K) := by
  obtain ⟨fd, F⟩ := M.d_LawLine
  refine Dn.of F M.g__law_line (fun _ _ _ _ _ _ us hl => match us, hl with | [_], _ => rfl) (F.ok scLawLine (fun vs H Q E h => ?_) (fun cdv A outer s H vs Q E hr h => ?_))
  · obtain ⟨n, ns, rfl, _⟩ := h
    rfl
  · obtain ⟨a, ns, rfl, hs, hl, hz, q⟩ := h
    refine ⟨_, pss_one (ps_ret (pe_join pe_str (pe_lc (own := [("_law_thing", 1)]) (g := gName 1) (tt := tYes) rfl scLawLine.nd (pi_tup (pv 0)) (blkOk_by (N := ["_law_things", "_law_thing"]) (sc := defScope sLawLine) (by decide +kernel))
        (fun _ _ _ _ _ => pg_name (i := 1) scLawLine.nd rfl (Or.inl rfl)) (fun _ _ _ _ _ => pts_nil)
        (fun _ _ _ _ _ => pe_callTy call_str_int (by rfl) M.n_str (by decide +kernel) (pa_cons (pv 1) pa_nil))))), ?_⟩
    refine s_ret (ev_join (ys := ns.map numT) ev_c (el_is (el_lcTm (xs := ns) (f := fun n => V.str (numT n)) (ev_var rfl) hs (by omega) (fun _ => rfl) fun n H2 hn e2 => ev_cb (ea_cons (ev_var rfl) ea_nil) fun H3 e3 Q q => ⟨n, rfl, log_small (hz n hn), q H3 (Ex.refl H3)⟩) (by rw [List.map_map]; rfl)) (line_fit hl hz)) fun H2 e2 => q H2 e2
def spLawLotLine : Sp := fun vs H Q _ => ∃ (z : Str) (r : Int), vs = [.str z, .int r] ∧ z.length ≤ 30000 ∧ Asc z ∧ (∀ i, bad (wordsOf z) = some i → RetL [.int r, .int (i : Nat)] H Q) ∧ (bad (wordsOf z) = none → RetU ((nums (wordsOf z)).map V.int) H Q)
theorem ok_law_lot_line (M : Ma K mg) : Dn P w K mg base "_law_lot_line" 2 ["_law_line_here", "_law_row"] spLawLotLine := by
  obtain ⟨fd, F⟩ := M.d_LawLotLine
  refine Dn.of F M.g__law_lot_line (fun _ _ _ _ _ _ us hl => match us, hl with | [_, _], _ => rfl) (F.ok scLawLotLine (fun vs H Q E h => ?_) (fun cdv A outer s H vs Q E hr h => ?_))
  · obtain ⟨z, r, rfl, _⟩ := h
    rfl
  · obtain ⟨z, r, rfl, hz, hA, qb, qo⟩ := h
    refine ⟨_, (pss_cons (ps_set (i := 2) scLawLotLine.nd rfl (.inl rfl) (pe_lst pa_nil)) <|
      pss_cons (ps_for (passes_of rfl) rfl (pi_enum (by rfl) M.n_enumerate (pa_cons (pe_split (pv 0) pe_str) pa_nil)) (pg_tup rfl (pgs_cons (pg_name (i := 3) scLawLotLine.nd rfl (.inl rfl)) (pgs_cons (pg_name (i := 4) scLawLotLine.nd rfl (.inl rfl)) pgs_nil)))
        (pss_cons (ps_set (i := 5) scLawLotLine.nd rfl (.inl rfl) (pe_dn (ok_law_number M) hr passL (pa_cons (pv 4) pa_nil))) <|
         pss_cons (ps_if (pt_cmp (pc_isN (pv 5))) (pss_one (ps_ret (pe_lst (pa_cons (pv 1) (pa_cons (pv 3) pa_nil))))) pss_nil) <|
         pss_one (ps_expr (pe_bm PySem.F.plainAttrs_list PySem.F.slot_list_append PySem.F.type_list_append mt_append (pv 2) (pa_cons (pv 5) pa_nil))))) <|
      pss_one (ps_ret (pe_callTy call_tuple_of (by rfl) M.n_tuple (by decide +kernel) (pa_cons (pv 2) pa_nil)))), ?_⟩
    have hle := wordsOf_le z
    refine ⟨by show 0 ≤ sizeLine; exact Nat.zero_le _, fun f hf => ?_⟩
    refine ⟨_, rfl, ⟨_, rfl⟩, z, " ", rfl, rfl, by decide, by rw [sizeLine_eq]; omega, fun l hl => ⟨l, _, rfl, sq_of upd_same, ?_⟩⟩
    have e1 : Ex H (upd H f (.lst [])) := Ex.new hf
    have e2 : Ex (upd H f (.lst [])) (upd (upd H f (.lst [])) l (.lst ((wordsOf z).map V.str))) := Ex.new hl
    have nlf : l ≠ f := fun e => by rw [e, upd_same] at hl; cases hl
    refine q_it walk_enum (fun i σ' H' => (∃ y1 y2 y3, σ' = [some (.str z), some (.int r), some (.ref f), y1, y2, y3]) ∧ Ex H H' ∧ H' l = some (.lst ((wordsOf z).map V.str)) ∧ H' f = some (.lst ((nums ((wordsOf z).take i)).map V.int)) ∧ ∀ j, j < i → ((wordsOf z)[j]?.bind numIn).isSome = true)
      ⟨⟨_, _, _, rfl⟩, e1.trans e2, upd_same, by rw [upd_ne nlf.symm, upd_same]; rfl, fun j hj => absurd hj (Nat.not_lt_zero j)⟩ (fun i σ' H' _ p => sq_of p.2.2.1) (fun i x σ' H' H'' hi p y => ?_) fun σ' H' p => ?_
    · obtain ⟨⟨y1, y2, y3, rfl⟩, e3, hL, hF, hall⟩ := p
      obtain ⟨T, x1, x2, rfl, hT, rfl, h1, h2⟩ := y
      have hi' : i < (wordsOf z).length := by rw [List.length_map] at hi; exact hi
      have ex1 : x1 = .int (i : Nat) := (Option.some.inj h1).symm
      have hg : (wordsOf z)[i]? = some (wordsOf z)[i] := List.getElem?_eq_getElem hi'
      have hmem : (wordsOf z)[i] ∈ wordsOf z := List.getElem_mem hi'
      have ex2 : x2 = .str (wordsOf z)[i] := by
        have h2' : ((wordsOf z).map V.str)[i]? = some x2 := h2
        rw [List.getElem?_map, hg] at h2'
        exact (Option.some.inj h2').symm
      subst ex1 ex2
      refine ⟨T, _, rfl, SqT.of upd_same, rfl, _, _, rfl, _, [], rfl, rfl, ?_⟩
      have e4 : Ex H' (upd H' T (.tup [.int (i : Nat), .str (wordsOf z)[i]])) := Ex.new hT
      have hwl := words_part hmem
      refine q_asg (v := optV (numIn (wordsOf z)[i])) (ev_call (ea_cons (ev_var rfl) ea_nil) fun H5 e5 Q q E => ⟨_, rfl, by omega, hA.word hmem, q⟩) fun H5 e5 => ?_
      refine q_when (et_B (ev_isN (ev_var rfl))) (fun hb H6 e6 => ?_) fun hb H6 e6 => ?_
      · have hn : (wordsOf z)[i]?.bind numIn = none := by
          rw [hg]
          show numIn _ = none
          cases h : numIn (wordsOf z)[i] with
          | none => rfl
          | some n => rw [h] at hb; simp [optV] at hb
        exact s_retL (el_lst (ea_cons (ev_var rfl) (ea_cons (ev_var rfl) ea_nil)) (by simp)) fun p H7 hp e7 h7 => qb i (bad_at hall hi' hn) p H7 (fresh_back (((e3.trans e4).trans e5).trans e6) hp) ((((e3.trans e4).trans e5).trans e6).trans e7) h7
      · cases h : numIn (wordsOf z)[i] with
        | none => rw [h] at hb; simp [optV] at hb
        | some n =>
          have e46 := (e4.trans e5).trans e6
          have hn : (wordsOf z)[i]?.bind numIn = some n := by rw [hg]; exact h
          refine s_app (e46 _ _ hF) (ev_var rfl) (ev_var rfl) (by unfold nums; rw [List.length_map, List.length_map, List.length_take]; omega) fun H7 e7 => ⟨⟨_, _, _, rfl⟩, Ex.mut ((e3.trans e46).trans e7) hf, ?_, ?_, fun j hj => ?_⟩
          · rw [upd_ne nlf]
            exact e7 _ _ (e46 _ _ hL)
          · rw [upd_same, nums_take hn]
            rfl
          · rcases Nat.lt_succ_iff_lt_or_eq.mp hj with h | h
            · exact hall j h
            · rw [h, hn]; rfl
    · obtain ⟨⟨y1, y2, y3, rfl⟩, e3, hL, hF, hall⟩ := p
      rw [List.length_map] at hF hall
      rw [List.take_length] at hF
      exact ⟨_, rfl, f, _, rfl, .inl ⟨sq_of hF, fun p hp => qo (bad_none hall) p _ (fresh_back e3 hp) (e3.trans (Ex.new hp)) upd_same⟩⟩
theorem ok_law_is_lot (M : Ma K mg) : Dn P w K mg base "_law_is_lot" 1 ["_law_row"] (spIsLot K) := by
  obtain ⟨fd, F⟩ := M.d_LawIsLot
  refine Dn.of F M.g__law_is_lot (fun _ _ _ _ _ _ us hl => match us, hl with | [_], _ => rfl) (F.ok scLawIsLot (fun vs H Q E h => ?_) (fun cdv A outer s H vs Q E hr h => ?_))
  · obtain ⟨n, ns, rfl, _⟩ := h
    rfl
  · obtain ⟨a, ns, rfl, hs, hz, q⟩ := h
    refine ⟨_, pss_one (ps_ret (pe_and (pe_chain op_le op_le pe_int (pe_callB call_len_seq (by rfl) M.n_len PySem.boot_len (pa_cons (pv 0) pa_nil)) pe_int)
      (pe_one (pe_cmpR (op_eqD hr.units) (pe_lc (own := [("_law_number_here", 1)]) (g := gName 1) rfl scLawIsLot.nd (pi_tup (pv 0)) (blkOk_by (N := ["_law_row", "_law_number_here"]) (sc := defScope sLawIsLot) (by decide +kernel))
        (fun _ _ _ _ _ => pg_name (i := 1) scLawIsLot.nd rfl (Or.inl rfl)) (fun _ _ _ _ _ => pts_one (pt_not (pt_chain op_le op_le (pe_un un_neg pe_int) (pv 1) pe_int))) (fun _ _ _ _ _ => pv 1)) (pe_lst pa_nil) (nomark _))))), ?_⟩
    refine s_ret (v := .bl (isLot ns)) (ev_is (ev_andV (ev_chainI ev_c (ev_lenT (ev_var rfl) hs) ev_c) fun _ => ev_eqNil (ds := (ns.filter fun n => !isBet n (-99) 99).map PyData.int) (el_lcTf (xs := ns) (p := fun n => !isBet n (-99) 99) (f := V.int) (ev_var rfl) hs hz (fun _ => rfl)
      (fun n H2 hn e2 => et_not (et_test (ev_chainI (ev_un ev_c ru_neg) (ev_var rfl) ev_c))) fun n H2 hn e2 => ev_var rfl) (fun H2 => ?_) ?_) (congrArg V.bl ?_)) fun H3 e3 => q H3 e3
    · exact dp_ints _
    · exact shaped_list (k := 0) (fun d hd => by obtain ⟨c, hc, rfl⟩ := List.mem_map.mp hd; exact ⟨rfl, Nat.le_refl _⟩) (by decide)
    · unfold isLot
      have e1 : ((ns.filter fun n => !isBet n (-99) 99).map PyData.int).isEmpty = ns.all fun n => isBet n (-99) 99 := by
        rw [List.isEmpty_map]
        rw [Bool.eq_iff_iff, List.isEmpty_iff, List.filter_eq_nil_iff, List.all_eq_true]
        simp
      have e2 : decide ((1 : Int) ≤ ((ns.length : Nat) : Int)) = decide (1 ≤ ns.length) := decide_eq_decide.mpr (by omega)
      have e3 : decide (((ns.length : Nat) : Int) ≤ 5) = decide (ns.length ≤ 5) := decide_eq_decide.mpr (by omega)
      rw [e1, List.length_map, e2, e3]
end
end SL
end
section
set_option Elab.async false
set_option linter.all false
set_option maxRecDepth 100000
set_option maxHeartbeats 2000000
/-! _law_due_lot, _law_due_family. -/
namespace SL
open PySem PySem.Spec PyProof.Rows L2 Evl
def intsD (ns : List Int) : PyData := .tuple (ns.map PyData.int)
def outD : Out → PyData
  | .text i j => .tuple [.str "text", .int (i : Nat), .int (j : Nat)]
  | .lot ns => .tuple [.str "lot", intsD ns]
  | .family none => .tuple [.str "family", .none]
  | .family (some i) => .tuple [.str "family", .int (i : Nat)]
  | .okL ns => .list [intsD ns]
  | .okF rows => .list [.tuple (rows.map intsD)]
def RetD (K : PySem.W.Frag) (d : PyData) (H : Hp) (Q : VK) : Prop := ∀ v H2, Ex H H2 → Dp K H2 v d → Q v H2
theorem dp_rows {K : PySem.W.Frag} {H : Hp} : ∀ {ps : List (Addr × List Int)}, RowsAt K H ps → DpAll K H (rv ps) ((rw' ps).map intsD)
  | [], _ => .nil
  | p :: ps, h => .cons (.tup (h p (by simp)) (dp_ints _)) (dp_rows fun q hq => h q (by simp [hq]))
def spDueLot (K : PySem.W.Frag) : Sp := fun vs H Q _ => ∃ z : Str, vs = [.str z] ∧ z.length ≤ 30000 ∧ Asc z ∧ RetD K (outD (dueLot z)) H Q
def spDueFam (K : PySem.W.Frag) : Sp := fun vs H Q _ => ∃ z : Str, vs = [.str z] ∧ z.length ≤ 30000 ∧ Asc z ∧ RetD K (outD (dueFam z)) H Q
theorem badAt_law (rows : List (List Int)) (i : Nat) : badAt rows i = (!isLot (rows.getD i []) || (decide ((rows.getD i []).length ≠ (rows.getD 0 []).length) || (decide (0 < i) && leT (rows.getD i []) (rows.getD (i - 1) [])))) := by
  unfold badAt
  cases i with
  | zero => simp
  | succ i => simp
section
variable {P : Program} {w : World} {K : PySem.W.Frag} {mg : Str → Option Value} {base : Heap}
theorem ok_due_lot (M : Ma K mg) : Dn P w K mg base "_law_due_lot" 3 ["_law_text"] (spDueLot K) := by
  obtain ⟨fd, F⟩ := M.d_LawDueLot
  refine Dn.of F M.g__law_due_lot (fun _ _ _ _ _ _ us hl => match us, hl with | [_], _ => rfl) (F.ok scLawDueLot (fun vs H Q E h => ?_) (fun cdv A outer s H vs Q E hr h => ?_))
  · obtain ⟨z, rfl, _⟩ := h
    rfl
  · obtain ⟨z, rfl, hz, hA, q⟩ := h
    refine ⟨_, (pss_cons (ps_set (i := 1) scLawDueLot.nd rfl (.inl rfl) (pe_split (pv 0) pe_str)) <|
      pss_cons (ps_set (i := 2) scLawDueLot.nd rfl (.inl rfl) (pe_dn (ok_law_lot_line M) hr passL (pa_cons (pe_ix ix_list (pv 1) pe_int (fun _ _ => rfl)) (pa_cons pe_int pa_nil)))) <|
      pss_cons (ps_if (pt_val (pe_callB call_isi (by rfl) M.n_isinstance (by decide +kernel) (pa_cons (pv 2) (pa_cons (pe_bltn (v := .ty "list") (by rfl) M.n_list (by decide +kernel) rfl) pa_nil))))
        (pss_one (ps_ret (pe_tup (pa_cons pe_str (pa_cons (pe_ix ix_list (pv 2) pe_int (fun _ _ => rfl)) (pa_cons (pe_ix ix_list (pv 2) pe_int (fun _ _ => rfl)) pa_nil)))))) pss_nil) <|
      pss_cons (ps_if (pt_cmpR op_gt (pe_callB call_len_seq (by rfl) M.n_len PySem.boot_len (pa_cons (pv 1) pa_nil)) pe_int (nomark _))
        (pss_one (ps_ret (pe_tup (pa_cons pe_str (pa_cons pe_int (pa_cons pe_int pa_nil)))))) pss_nil) <|
      pss_one (ps_ret (pe_ifExp (pt_val (pe_dn (ok_law_is_lot M) (hr.mono (by decide)) passL (pa_cons (pv 2) pa_nil))) (pe_lst (pa_cons (pv 2) pa_nil)) (pe_tup (pa_cons pe_str (pa_cons (pv 2) pa_nil)))))), ?_⟩
    refine ⟨_, rfl, ⟨_, rfl⟩, z, "\n", rfl, rfl, by decide, by rw [sizeLine_eq]; omega, fun l hl => ?_⟩
    have e1 : Ex H (upd H l (.lst ((linesOf z).map V.str))) := Ex.new hl
    have hL : (upd H l (.lst ((linesOf z).map V.str))) l = some (.lst ((linesOf z).map V.str)) := upd_same
    have hpos := linesOf_pos z
    have hg : (linesOf z)[0]? = some ((linesOf z).getD 0 Str.empty) := by rw [List.getD_eq_getElem?_getD, List.getElem?_eq_getElem hpos]; rfl
    generalize hl0 : (linesOf z).getD 0 Str.empty = l0 at hg
    have hmem : l0 ∈ linesOf z := List.mem_of_getElem? hg
    have hlen0 : l0.length ≤ z.length := lines_part hmem
    have hwl := wordsOf_le l0
    have hdue : dueLot z = match bad (wordsOf l0) with
      | some i => .text 0 i
      | none => if 1 < (linesOf z).length then .text 1 0 else if isLot (nums (wordsOf l0)) = true then .okL (nums (wordsOf l0)) else .lot (nums (wordsOf l0)) := by
      unfold dueLot
      rw [hl0]
      all_goals (cases bad (wordsOf l0) <;> rfl)
    refine ⟨_, rfl, l, _, 0, _, rfl, rfl, sq_of hL, atI_nat (by rw [List.getElem?_map, hg]; rfl), ?_⟩
    refine ⟨l0, 0, rfl, by omega, hA.line hmem, fun i hi => fun p H2 hp e2 h2 => ?_, fun hb => fun p H2 hp e2 h2 => ?_⟩
    · rw [hi] at hdue
      rw [hdue] at q
      refine q_when (et_B (ev_isi (b := true) (ev_var rfl) ev_c (.ty _) (fun H3 e3 => ty_list (ex_l e3 (sq_of h2))) (kit_ty (by decide +kernel)))) (fun _ H3 e3 => ?_) (fun hb => by simp at hb)
      exact s_retU (eu_tup (ea_cons ev_c (ea_cons (ev_ixL (i := 0) (ev_var rfl) ev_c (sq_of (e3 _ _ h2)) rfl) (ea_cons (ev_ixL (i := 1) (ev_var rfl) ev_c (sq_of (e3 _ _ h2)) rfl) ea_nil))) (by simp)) fun p4 H4 hp4 e4 h4 =>
        q _ H4 (((e1.trans e2).trans e3).trans e4) (.tup (st_of h4) (.cons (.str _) (.cons (.int _) (.cons (.int _) .nil))))
    · rw [hb] at hdue
      refine q_when (et_B (ev_isi (b := false) (ev_var rfl) ev_c (.ty _) (fun H3 e3 => ty_tup (ex_t e3 (st_of h2))) (kit_ty (by decide +kernel)))) (fun hb => by simp at hb) (fun _ H3 e3 => ?_)
      refine q_when (et_test (ev_op (ev_len (ev_var rfl) (sq_of (e3 _ _ (e2 _ _ hL)))) ev_c (rv_I0 (g := fun i j => .bl (decide (j < i)))))) (fun hb H4 e4 => ?_) (fun hb H4 e4 => ?_)
      · have h1 : 1 < (linesOf z).length := by simp at hb; omega
        rw [if_pos h1] at hdue
        rw [hdue] at q
        exact s_retU (eu_tup (ea_cons ev_c (ea_cons ev_c (ea_cons ev_c ea_nil))) (by simp)) fun p5 H5 hp5 e5 h5 => q _ H5 ((((e1.trans e2).trans e3).trans e4).trans e5) (.tup (st_of h5) (.cons (.str _) (.cons (.int _) (.cons (.int _) .nil))))
      · have h1 : ¬ 1 < (linesOf z).length := by simp at hb; omega
        rw [if_neg h1] at hdue
        have hT := e4 _ _ (e3 _ _ h2)
        refine ⟨_, rfl, p, nums (wordsOf l0), rfl, st_of hT, by unfold nums; rw [List.length_map]; omega, fun H5 e5 => ⟨_, rfl, ?_⟩⟩
        have eall := (((e1.trans e2).trans e3).trans e4).trans e5
        cases hlot : isLot (nums (wordsOf l0)) with
        | true =>
          rw [if_pos hlot] at hdue
          rw [hdue] at q
          exact iteT (el_lst (ea_cons (ev_var rfl) ea_nil) (by simp) H5 (Ex.refl H5) _ fun p6 H6 hp6 e6 h6 => q _ H6 (eall.trans e6) (.lst (sq_of h6) (.cons (.tup (st_of (e6 _ _ (e5 _ _ hT))) (dp_ints _)) .nil)))
        | false =>
          rw [if_neg (by rw [hlot]; decide)] at hdue
          rw [hdue] at q
          exact iteF (eu_tup (ea_cons ev_c (ea_cons (ev_var rfl) ea_nil)) (by simp) H5 (Ex.refl H5) _ fun p6 H6 hp6 e6 h6 => q _ H6 (eall.trans e6) (.tup (st_of h6) (.cons (.str _) (.cons (.tup (st_of (e6 _ _ (e5 _ _ hT))) (dp_ints _)) .nil))))
theorem ok_due_family (M : Ma K mg) : Dn P w K mg base "_law_due_family" 3 ["_law_text"] (spDueFam K) := by
  obtain ⟨fd, F⟩ := M.d_LawDueFamily
  refine Dn.of F M.g__law_due_family (fun _ _ _ _ _ _ us hl => match us, hl with | [_], _ => rfl) (F.ok scLawDueFamily (fun vs H Q E h => ?_) (fun cdv A outer s H vs Q E hr h => ?_))
  · obtain ⟨z, rfl, _⟩ := h
    rfl
  · obtain ⟨z, rfl, hz, hA, q⟩ := h
    refine ⟨_, (pss_cons (ps_set (i := 1) scLawDueFamily.nd rfl (.inl rfl) (pe_lst pa_nil)) <|
      pss_cons (ps_for (passes_of rfl) rfl (pi_enum (by rfl) M.n_enumerate (pa_cons (pe_split (pv 0) pe_str) pa_nil)) (pg_tup rfl (pgs_cons (pg_name (i := 2) scLawDueFamily.nd rfl (.inl rfl)) (pgs_cons (pg_name (i := 3) scLawDueFamily.nd rfl (.inl rfl)) pgs_nil)))
        (pss_cons (ps_set (i := 4) scLawDueFamily.nd rfl (.inl rfl) (pe_dn (ok_law_lot_line M) hr passL (pa_cons (pv 3) (pa_cons (pv 2) pa_nil)))) <|
         pss_cons (ps_if (pt_val (pe_callB call_isi (by rfl) M.n_isinstance (by decide +kernel) (pa_cons (pv 4) (pa_cons (pe_bltn (v := .ty "list") (by rfl) M.n_list (by decide +kernel) rfl) pa_nil))))
          (pss_one (ps_ret (pe_tup (pa_cons pe_str (pa_cons (pe_ix ix_list (pv 4) pe_int (fun _ _ => rfl)) (pa_cons (pe_ix ix_list (pv 4) pe_int (fun _ _ => rfl)) pa_nil)))))) pss_nil) <|
         pss_one (ps_expr (pe_bm PySem.F.plainAttrs_list PySem.F.slot_list_append PySem.F.type_list_append mt_append (pv 1) (pa_cons (pv 4) pa_nil))))) <|
      pss_cons (ps_if (pt_cmpR op_gt (pe_callB call_len_seq (by rfl) M.n_len PySem.boot_len (pa_cons (pv 1) pa_nil)) pe_int (nomark _))
        (pss_one (ps_ret (pe_tup (pa_cons pe_str (pa_cons pe_non pa_nil))))) pss_nil) <|
      pss_cons (ps_for (passes_of rfl) rfl (pi_enum (by rfl) M.n_enumerate (pa_cons (pv 1) pa_nil)) (pg_tup rfl (pgs_cons (pg_name (i := 2) scLawDueFamily.nd rfl (.inl rfl)) (pgs_cons (pg_name (i := 4) scLawDueFamily.nd rfl (.inl rfl)) pgs_nil)))
        (pss_one (ps_if (PW.pt (pw_or (pt_not (pt_val (pe_dn (ok_law_is_lot M) (hr.mono (by decide)) passL (pa_cons (pv 4) pa_nil)))) (pw_or
            (pt_cmpR op_ne (pe_callB call_len_seq (by rfl) M.n_len PySem.boot_len (pa_cons (pv 4) pa_nil)) (pe_callB call_len_seq (by rfl) M.n_len PySem.boot_len (pa_cons (pe_ix ix_list (pv 1) pe_int (fun _ _ => rfl)) pa_nil)) (nomark _))
            (pw_or1 (PW.pt (pw_and (pt_cmpR op_gt (pv 2) pe_int (nomark _)) (pw_and1 (pt_cmpR (op_leT hr.units0) (pv 4) (pe_ix ix_list (pv 1) (pe_op op_sub (pv 2) pe_int) (fun _ _ => rfl)) (nomark _)))))))))
          (pss_one (ps_ret (pe_tup (pa_cons pe_str (pa_cons (pv 2) pa_nil))))) pss_nil))) <|
      pss_one (ps_ret (pe_lst (pa_cons (pe_callTy call_tuple_of (by rfl) M.n_tuple (by decide +kernel) (pa_cons (pv 1) pa_nil)) pa_nil)))), ?_⟩
    have hLl := linesOf_le z
    have hpos := linesOf_pos z
    have hrl : (rowsOf z).length = (linesOf z).length := List.length_map ..
    refine ⟨by show 0 ≤ sizeLine; exact Nat.zero_le _, fun f hf => ?_⟩
    refine ⟨_, rfl, ⟨_, rfl⟩, z, "\n", rfl, rfl, by decide, by rw [sizeLine_eq]; omega, fun l hl => ⟨l, _, rfl, sq_of upd_same, ?_⟩⟩
    have e1 : Ex H (upd H f (.lst [])) := Ex.new hf
    have e2 : Ex (upd H f (.lst [])) (upd (upd H f (.lst [])) l (.lst ((linesOf z).map V.str))) := Ex.new hl
    have nlf : l ≠ f := fun e => by rw [e, upd_same] at hl; cases hl
    refine q_it walk_enum (fun i σ' H' => (∃ y2 y3 y4, σ' = [some (.str z), some (.ref f), y2, y3, y4]) ∧ Ex H H' ∧ H' l = some (.lst ((linesOf z).map V.str)) ∧ (∃ ps, H' f = some (.lst (rv ps)) ∧ RowsAt K H' ps ∧ rw' ps = (rowsOf z).take i ∧ ps.length = i) ∧
        ∀ a, a < i → ∀ ln, (linesOf z)[a]? = some ln → bad (wordsOf ln) = none)
      ⟨⟨_, _, _, rfl⟩, e1.trans e2, upd_same, ⟨[], by rw [upd_ne nlf.symm, upd_same]; rfl, fun p hp => (by cases hp), rfl, rfl⟩, fun a ha => absurd ha (Nat.not_lt_zero a)⟩ (fun i σ' H' _ p => sq_of p.2.2.1) (fun i x σ' H' H'' hi p y => ?_) fun σ' H' p => ?_
    · obtain ⟨⟨y2, y3, y4, rfl⟩, e3, hL, ⟨ps, hp1, hp2, hp3, hp4⟩, hall⟩ := p
      obtain ⟨T, x1, x2, rfl, hT, rfl, h1, h2⟩ := y
      have hi' : i < (linesOf z).length := by rw [List.length_map] at hi; exact hi
      have ex1 : x1 = .int (i : Nat) := (Option.some.inj h1).symm
      have hg : (linesOf z)[i]? = some (linesOf z)[i] := List.getElem?_eq_getElem hi'
      have hmem : (linesOf z)[i] ∈ linesOf z := List.getElem_mem hi'
      have ex2 : x2 = .str (linesOf z)[i] := by
        have h2' : ((linesOf z).map V.str)[i]? = some x2 := h2
        rw [List.getElem?_map, hg] at h2'
        exact (Option.some.inj h2').symm
      subst ex1 ex2
      refine ⟨T, _, rfl, SqT.of upd_same, rfl, _, _, rfl, _, [], rfl, rfl, ?_⟩
      have e4 : Ex H' (upd H' T (.tup [.int (i : Nat), .str (linesOf z)[i]])) := Ex.new hT
      have hlen := lines_part hmem
      refine ⟨_, rfl, _, rfl, (linesOf z)[i], i, rfl, by omega, hA.line hmem, fun j hj => fun p H5 hp e5 h5 => ?_, fun hb => fun p H5 hp e5 h5 => ?_⟩
      · have hbl : badLine 0 (linesOf z) = some (0 + i, j) := badLine_some (linesOf z) 0 i j hall _ hg hj
        rw [Nat.zero_add] at hbl
        have hdue : dueFam z = .text i j := by unfold dueFam; rw [hbl]
        rw [hdue] at q
        refine q_when (et_B (ev_isi (b := true) (ev_var rfl) ev_c (.ty _) (fun H3 e3 => ty_list (ex_l e3 (sq_of h5))) (kit_ty (by decide +kernel)))) (fun _ H6 e6 => ?_) (fun hb => by simp at hb)
        exact s_retU (eu_tup (ea_cons ev_c (ea_cons (ev_ixL (i := 0) (ev_var rfl) ev_c (sq_of (e6 _ _ h5)) rfl) (ea_cons (ev_ixL (i := 1) (ev_var rfl) ev_c (sq_of (e6 _ _ h5)) rfl) ea_nil))) (by simp)) fun p7 H7 hp7 e7 h7 =>
          q _ H7 ((((e3.trans e4).trans e5).trans e6).trans e7) (.tup (st_of h7) (.cons (.str _) (.cons (.int _) (.cons (.int _) .nil))))
      · refine q_when (et_B (ev_isi (b := false) (ev_var rfl) ev_c (.ty _) (fun H3 e3 => ty_tup (ex_t e3 (st_of h5))) (kit_ty (by decide +kernel)))) (fun hb => by simp at hb) (fun _ H6 e6 => ?_)
        have e46 := (e4.trans e5).trans e6
        refine s_app (e46 _ _ hp1) (ev_var rfl) (ev_var rfl) (by rw [rv_len]; omega) fun H7 e7 => ⟨⟨_, _, _, rfl⟩, Ex.mut ((e3.trans e46).trans e7) hf, ?_, ⟨ps ++ [(p, nums (wordsOf (linesOf z)[i]))], ?_, fun r hr => ?_, ?_, ?_⟩, fun a ha ln hln => ?_⟩
        · rw [upd_ne nlf]
          exact e7 _ _ (e46 _ _ hL)
        · rw [upd_same]
          unfold rv
          rw [List.map_append]
          rfl
        · have keep : ∀ {b : Addr} {xs : List V}, SqT K H7 b xs → SqT K (upd H7 f (.lst (rv ps ++ [.ref p]))) b xs := fun {b xs} h3 => by
            have hf7 := e7 _ _ (e46 _ _ hp1)
            rcases h3 with (h3 | ⟨o, h3⟩) | h3
            · exact .inl (.inl (by rw [upd_ne (ne_of h3 hf7 (by intro z; cases z))]; exact h3))
            · exact .inl (.inr ⟨o, by rw [upd_ne (ne_of h3 hf7 (by intro z; cases z))]; exact h3⟩)
            · exact .inr h3
          rcases List.mem_append.mp hr with h | h
          · exact keep (ex_t (e46.trans e7) (hp2 r h))
          · rw [List.mem_singleton.mp h]
            exact keep (st_of (e7 _ _ (e6 _ _ h5)))
        · unfold rw' at hp3 ⊢
          rw [List.map_append, hp3, List.take_add_one]
          have : (rowsOf z)[i]? = some (nums (wordsOf (linesOf z)[i])) := by
            unfold rowsOf
            rw [List.getElem?_map, hg]
            rfl
          rw [this]
          rfl
        · rw [List.length_append, hp4]
          rfl
        · rcases Nat.lt_succ_iff_lt_or_eq.mp ha with h | h
          · exact hall a h ln hln
          · rw [h, hg] at hln
            rw [← Option.some.inj hln]
            exact hb
    · obtain ⟨⟨y2, y3, y4, rfl⟩, e3, hL, ⟨ps, hp1, hp2, hp3, hp4⟩, hall⟩ := p
      rw [List.length_map] at hp3 hp4 hall
      rw [← hrl, List.take_length] at hp3
      have hbl : badLine 0 (linesOf z) = none := badLine_none _ _ fun ln hln => by
        obtain ⟨a, ha, rfl⟩ := List.mem_iff_getElem.mp hln
        exact hall a ha _ (List.getElem?_eq_getElem ha)
      have hdue : dueFam z = match famFault (rowsOf z) with
        | some o => .family o
        | none => .okF (rowsOf z) := by
        unfold dueFam
        rw [hbl]
        all_goals (cases famFault (rowsOf z) <;> rfl)
      refine q_when (et_test (ev_op (ev_len (ev_var rfl) (sq_of hp1)) ev_c (rv_I0 (g := fun i j => .bl (decide (j < i)))))) (fun hb H4 e4 => ?_) (fun hb H4 e4 => ?_)
      · have hff : famFault (rowsOf z) = some none := by
          unfold famFault
          rw [if_pos]
          rw [rv_len] at hb
          simp at hb
          omega
        rw [hff] at hdue
        rw [hdue] at q
        exact s_retU (eu_tup (ea_cons ev_c (ea_cons ev_c ea_nil)) (by simp)) fun p5 H5 hp5 e5 h5 => q _ H5 ((e3.trans e4).trans e5) (.tup (st_of h5) (.cons (.str _) (.cons .non .nil)))
      · have hle : ps.length ≤ 200 := by
          rw [rv_len] at hb
          simp at hb
          omega
        have hff : famFault (rowsOf z) = ((List.range ps.length).find? (badAt (rowsOf z))).map some := by
          unfold famFault
          rw [if_neg (by omega), hrl, hp4]
        rw [← hp3] at hff hdue
        have hF4 : H4 f = some (.lst (rv ps)) := e4 _ _ hp1
        have hR4 : RowsAt K H4 ps := hp2.ex e4
        have hsmall : ∀ p ∈ ps, p.2.length ≤ 40000 := fun p hp => by
          have : p.2 ∈ rowsOf z := by rw [← hp3]; exact List.mem_map_of_mem hp
          unfold rowsOf at this
          obtain ⟨ln, hln, e⟩ := List.mem_map.mp this
          have h1 := lines_part hln
          have h2 := wordsOf_le ln
          rw [← e]
          unfold nums
          rw [List.length_map]
          omega
        refine ⟨.ref f, rfl, f, rv ps, rfl, sq_of hF4, q_it walk_enum (fun i σ' H' => (∃ y2 y3 y4, σ' = [some (.str z), some (.ref f), y2, y3, y4]) ∧ Ex H4 H' ∧ ∀ j, j < i → badAt (rw' ps) j = false) ⟨⟨_, _, _, rfl⟩, Ex.refl H4, fun j hj => absurd hj (Nat.not_lt_zero _)⟩ (fun i σ' H' _ p => sq_of (p.2.1 _ _ hF4)) (fun i x σ' H2 H' hi p y => ?_) fun σ' H' p => ?_⟩
        · obtain ⟨⟨y2, y3, y4, rfl⟩, e5, hbad⟩ := p
          obtain ⟨T, x1, x2, rfl, hT, rfl, h1, h2⟩ := y
          have hi' : i < ps.length := by rw [rv_len] at hi; exact hi
          have e6 : Ex H4 (upd H2 T (.tup [x1, x2])) := e5.trans (Ex.new hT)
          have ex1 : x1 = .int (i : Nat) := (Option.some.inj h1).symm
          have ex2 : x2 = .ref ps[i].1 := by
            have h2' : (rv ps)[i]? = some x2 := h2
            simp only [rv, List.getElem?_map, List.getElem?_eq_getElem hi', Option.map_some, Option.some.injEq] at h2'
            exact h2'.symm
          refine ⟨T, [x1, x2], rfl, SqT.of upd_same, rfl, x1, [x2], rfl, x2, [], rfl, rfl, ?_⟩
          subst ex1 ex2
          have hp : SqT K H4 ps[i].1 (ps[i].2.map V.int) := hR4 _ (List.getElem_mem hi')
          have h0' : 0 < ps.length := by omega
          have hp0 : SqT K H4 ps[0].1 (ps[0].2.map V.int) := hR4 _ (List.getElem_mem h0')
          have hpm : SqT K H4 (ps[i - 1]'(by omega)).1 ((ps[i - 1]'(by omega)).2.map V.int) := hR4 _ (List.getElem_mem (by omega))
          have g0 : (rv ps)[0]? = some (.ref ps[0].1) := by simp [rv, h0']
          have gm : (rv ps)[i - 1]? = some (.ref (ps[i - 1]'(by omega)).1) := by simp [rv, (by omega : i - 1 < ps.length)]
          have eb : badAt (rw' ps) i = (!isLot ps[i].2 || (!decide (V.int ((ps[i].2.map V.int).length : Int) = V.int ((ps[0].2.map V.int).length : Int)) || (decide ((0 : Int) < (i : Nat)) && leT ps[i].2 (ps[i - 1]'(by omega)).2))) := by
            rw [badAt_law]
            have e9 : decide (V.int ((ps[i].2.map V.int).length : Int) = V.int ((ps[0].2.map V.int).length : Int)) = decide (ps[i].2.length = ps[0].2.length) := by
              rw [List.length_map, List.length_map]
              exact decide_eq_decide.mpr ⟨fun h => by have := V.int.inj h; omega, fun h => by rw [h]⟩
            rw [e9]
            simp [rw', List.getD, hi', h0', (by omega : i - 1 < ps.length)]
          have him : 0 < i → V.int ((i : Nat) - 1 : Int) = V.int ((i - 1 : Nat) : Int) := fun h => congrArg V.int (by omega)
          have hF6 := e6 _ _ hF4
          refine s_when (b := badAt (rw' ps) i) ?_ (fun hb' H3 e7 => ?_) fun hb' H3 e7 => ?_
          · rw [eb]
            refine et_or (et_not (et_B (ev_call (z := .bl (isLot ps[i].2)) (ea_cons (ev_var rfl) ea_nil) fun H1 e Q q E => ⟨_, _, rfl, ex_t (e6.trans e) hp, hsmall _ (List.getElem_mem hi'), q⟩))) fun _ =>
              et_or (et_test (ev_op (ev_lenT (ev_var rfl) (ex_t e6 hp)) (ev_lenT (ev_ixL (ev_var rfl) ev_c (sq_of hF6) g0) (ex_t e6 hp0)) (rv_ne rfl))) fun _ =>
              et_and (et_test (ev_op (ev_var rfl) ev_c (rv_I0 (g := fun i j => .bl (decide (j < i)))))) fun hpos =>
              et_test (ev_op (ev_var rfl) (ev_ixL (i := i - 1) (ev_var rfl) (ev_is (ev_sub (ev_var rfl) ev_c) (him (by simpa using hpos))) (sq_of hF6) gm) (rv_leT (ex_t e6 hp) (ex_t e6 hpm)))
          · have e : famFault (rw' ps) = some (some i) := by
              rw [hff]
              have : (List.range ps.length).find? (badAt (rw' ps)) = some i := by
                rw [List.find?_range_eq_some]
                exact ⟨hb', by simpa using hi', fun j hj => by simp [hbad j hj]⟩
              rw [this]
              rfl
            rw [e] at hdue
            rw [hdue] at q
            exact s_retU (eu_tup (ea_cons ev_c (ea_cons (ev_var rfl) ea_nil)) (by simp)) fun p8 H8 hp8 e8 h8 => q _ H8 (((e3.trans e4).trans (e6.trans e7)).trans e8) (.tup (st_of h8) (.cons (.str _) (.cons (.int _) .nil)))
          · refine ⟨⟨_, _, _, rfl⟩, e6.trans e7, fun j hj => ?_⟩
            rcases Nat.lt_succ_iff_lt_or_eq.mp hj with h | h
            · exact hbad j h
            · rw [h]; exact hb'
        · obtain ⟨⟨y2, y3, y4, rfl⟩, e5, hbad⟩ := p
          have e : famFault (rw' ps) = none := by
            rw [hff]
            have : (List.range ps.length).find? (badAt (rw' ps)) = none := by
              rw [List.find?_eq_none]
              intro j hj
              rw [List.mem_range] at hj
              simp [hbad j (by rw [rv_len]; exact hj)]
            rw [this]
            rfl
          rw [e] at hdue
          rw [hdue] at q
          refine ⟨_, rfl, f, _, rfl, .inl ⟨sq_of (e5 _ _ hF4), fun t ht => ⟨by show 1 ≤ sizeLine; decide, fun t2 ht2 => ?_⟩⟩⟩
          have eT := Ex.new (o := .tup (rv ps)) ht
          have eT2 := Ex.new (o := .lst [.ref t]) ht2
          exact q _ _ ((((e3.trans e4).trans e5).trans eT).trans eT2) (.lst (sq_of upd_same) (.cons (.tup (st_of (eT2 _ _ upd_same)) (dp_rows (((hR4.ex e5).ex eT).ex eT2))) .nil))
end
end SL
end
section
set_option Elab.async false
set_option linter.all false
set_option maxRecDepth 100000
set_option maxHeartbeats 2000000
/-! A lambda with one default that is a written number, handed to a def. -/
namespace LamX
open PySem PySem.Spec PyProof.Rows L2
/-- captured names and globals, and own names that the maker does not have -/
structure LamD (N : List Str) (sc scope : Scope) : Prop where
  kind : scope.kind = .function
  co : scope.isCoroutine = false
  gen : scope.isGenerator = false
  own : ∀ y ∈ scope.names, (y.2 = .local → y.1 ∉ N) ∧ y.2 ≠ .cell
  free : ∀ y ∈ scope.names, y.2 = .free → sc.names.lookup y.1 = some .cell ∨ sc.names.lookup y.1 = some .free
theorem LamD.has {X : Cx} {scope : Scope} (L : LamD X.N X.env.scope scope) (ok : X.Ok) : ∀ y ∈ scope.names, y.2 = .free → ∃ c, X.env.cells.lookup y.1 = some c := fun y hy e => by
  rcases L.free y hy e with k | k
  · exact ok.has _ (.inl k)
  · exact ok.has _ (.inr k)
section
variable {X : Cx} {pins : List (Addr × Obj)} {σ : L2.St} {H HZ : Hp} {s s1 : Shared}
theorem lam_startD {A : Around} {outer : List Env} {E : XK} {scope : Scope} {f c' : Addr} {h₁ : Heap} {tk : Nat} {m : Str → Option Value} (I : Inv X pins σ H s) (L : LamD X.N X.env.scope scope) (e0 : Env0 X.prog X.w X.K X.mg X.base A outer s1 HZ) (hd : A.handled = none)
    (un : Un (frs X.stack) [] H HZ s.heap s1.heap) (hns : h₁.Ns s1.heap.objs.size m) (kp : ∀ b o, s1.heap.get? b = some o → h₁.get? b = some o) :
    Inv (lamCx X A outer s1 HZ E scope f c') [] σ HZ { s1 with heap := h₁, toks := tk } := by
  have hfree := L.has I.ok
  have cm : ∀ {y c}, (cloFrom X.env.cells scope.names []).lookup y = some c → X.env.cells.lookup y = some c := fun {y c} e => by
    rcases cloFrom_mem (PySem.mem_of_lookup e) with hm | ⟨h1, h2⟩
    · cases hm
    · obtain ⟨c1, hc⟩ := hfree _ h1 rfl
      have hc : X.env.cells.lookup y = some c1 := hc
      have e2 : c = c1 := by
        rw [h2, hc] <;> rfl
      rw [e2]
      exact hc
  have look : ∀ {y}, scope.names.lookup y = some .free → ∃ c, (cloFrom X.env.cells scope.names []).lookup y = some c := fun {y} hl => by
    have hy : (y, NameKind.free) ∈ scope.names := PySem.mem_of_lookup hl
    exact mem_lookup (cloFrom_has (cells := X.env.cells) (acc := []) hy)
  have cellK : ∀ {c : Addr} {v : Option Value}, H c = none → s.heap.IsCell c v → h₁.IsCell c v := fun {c v} n ⟨o, ho, hd⟩ => by
    obtain ⟨sl, q⟩ := un.any ho n (by simp)
    exact ⟨_, kp _ _ q, hd⟩
  have noA : ∀ b : Addr, b ∉ (lamCx X A outer s1 HZ E scope f c').ex := fun b z => absurd (show b ∈ ([] : List Addr) from z) (by simp)
  refine ⟨⟨e0.mod, L.kind, rfl, rfl, Nat.le_refl _, fun y z c e1 e2 => I.ok.inj y z c (cm e1) (cm e2), fun y hy => ?_, fun y c z _ => ?_, fun _ => hd, Around.frames_deeper e0.frames, .inr ⟨rfl, rfl⟩, fun b z => absurd z (noA b), e0.bs, e0.bsz, fun b _ _ => noA b,
      fun b z => absurd z (noA b), e0.funs, e0.frf⟩,
    rfl, e0.bare, Un.kept kp, ⟨_, hns, fun i y v e1 e2 e3 => ?_⟩, fun y c e => ?_, e0.hok.fresh (Nat.le_refl _), fun y c e => ?_, fun q hq => absurd (show q ∈ ([] : List (Addr × Obj)) ++ [] from hq) (by simp), e0.hok.kept kp, I.len⟩
  · have hy : scope.names.lookup y = some .cell ∨ scope.names.lookup y = some .free := hy
    rcases hy with hy | hy
    · exact absurd rfl (L.own _ (PySem.mem_of_lookup hy)).2
    · exact look hy
  · have z : false = true := z
    cases z
  · have e3 : Vis scope y := e3
    have hyN : y ∈ X.N := List.mem_of_getElem? (show X.N[i]? = some y from e1)
    rcases e3 with k | k | k
    · exact absurd hyN ((L.own _ (PySem.mem_of_lookup k)).1 rfl)
    · exact absurd rfl (L.own _ (PySem.mem_of_lookup k)).2
    · obtain ⟨m, hn, hl⟩ := I.loc
      have hvis : Vis X.env.scope y := (L.free _ (PySem.mem_of_lookup k) rfl).elim (fun k => .inr (.inl k)) (fun k => .inr (.inr k))
      obtain ⟨w', r, q⟩ := hl i y v e1 e2 hvis
      obtain ⟨c2, h2⟩ := look k
      refine ⟨w', r, .inr ⟨.inr k, c2, h2, ?_⟩⟩
      have c1 := cm h2
      rcases q with ⟨k', _⟩ | ⟨_, c3, e', z⟩
      · have k' : X.env.scope.names.lookup y = some .local := k'
        rcases L.free _ (PySem.mem_of_lookup k) rfl with k2 | k2 <;> rw [show X.env.scope.names.lookup y = _ from k2] at k' <;> cases k'
      · rw [c1] at e'
        cases e'
        exact cellK (I.freeC y _ c1) z
  · obtain ⟨w', z⟩ := I.cell y c (cm e)
    exact ⟨w', cellK (I.freeC y c (cm e)) z⟩
  · obtain ⟨v, o, ho, hd⟩ := I.cell y c (cm e)
    exact un.free c o ho (I.freeC y c (cm e)) (by simp)
/-- the lambda is made: its defaults' tuple T0, its code object new or found in the table -/
theorem lam_makeD {T : List (Addr × Str)} {c P : Addr} {params : Arguments} {body : Expr} {scope : Scope} {pos dp : Pos} {n : Int} {dj : Nat} {Q : Value → Shared → Prop} (I : Inv X pins σ H s) (TB : TabB X.base X.mg c P) (hcode : X.env.code = .ref c)
    (hm : (P, X.env.qual ++ "<lambda>") ∈ T) (hu : ∀ p ∈ T, p.1 = P → p.2 = X.env.qual ++ "<lambda>") (hT : Tabs T H) (hdef : params.defaults = [.Constant (.int n) dj dp]) (hkw : params.kw_defaults = []) (hfree : ∀ y ∈ scope.names, y.2 = .free → ∃ c, X.env.cells.lookup y.1 = some c)
    (h : ∀ (f c' T0 : Addr) (v doc pm ctv : Value) (H1 : Hp) (s' : Shared), Inv X pins σ H1 s' → ExtN H H1 → Tabs T H1 → RelV (.int n) v →
      s'.heap.get? f = some (PySem.W.kdv_obj "<lambda>" (X.env.qual ++ "<lambda>") params (.expr body) scope (cloFrom X.env.cells scope.names []) (.ref T0) doc pm c' ctv) → H1 f = none → f ∉ frs X.stack → H1 c' = some (CodeO c' (X.env.qual ++ "<lambda>")) →
      s'.heap.get? T0 = some (PySem.W.kdv_tup [v]) → H1 T0 = none → T0 ∉ frs X.stack → Q (.ref f) s') :
    wpAny (model X.prog X.w) X.A (eval (.Lambda params body scope pos) X.env) Q X.xe s := by
  refine PySem.W.kdv_lam (by rw [hdef]; rfl) hkw ?_
  rw [hdef]
  refine PySem.W.kdv_all1 (thn ((pe_int (X := X) (i := n) (j := dj) (pos := dp)).run pins s σ H (fun v H1 => v = .int n ∧ H1 = H) I ⟨rfl, rfl⟩) fun v s0 ⟨x, H0, I0, r0, ex, eH⟩ => PySem.W.kdv_all0 ?_)
  subst ex eH
  rw [PySem.makeFunction_eq]
  simp only [List.zip_nil_right, List.filterMap_nil, List.isEmpty_nil, if_true, pure_bind, List.isEmpty_cons, Bool.false_eq_true, if_false]
  refine wpAny_bind (wpAny_newTextTuple ?_)
  obtain ⟨hp0, g0, d0, t0, os0⟩ := s0
  have I2 : Inv X pins σ H0 ⟨hp0.push (PySem.W.kdv_tup [v]), g0, d0, t0, os0⟩ := I0.kept (t' := t0) fun b o e => Heap.get?_push_of_some _ e
  have hT0 : (hp0.push (PySem.W.kdv_tup [v])).get? hp0.objs.size = some (PySem.W.kdv_tup [v]) := Heap.get?_push_size _ rfl
  have nT0 : H0 hp0.objs.size = none := I0.hok.fresh (Nat.le_refl _)
  obtain ⟨ps, hP, ht, ha⟩ := hT _ hm
  have bP : (hp0.push (PySem.W.kdv_tup [v])).BuiltinsAt X.mg P := TB.bm.keeps I2.bk
  have hP' : (hp0.push (PySem.W.kdv_tup [v])).get? P = some { cls := .none, data := .fields ps } := I2.hok P _ hP
  have hP0 : hp0.get? P = some { cls := .none, data := .fields ps } := I0.hok P _ hP
  have nofr : ∀ f, hp0.objs.size ≤ f → f ∉ frs X.stack := fun f hf z => by
    rcases List.mem_cons.mp (I0.stkSub _ z) with e | e
    · have h1 := I0.lt
      rw [← e] at h1
      exact Nat.lt_irrefl _ (Nat.lt_of_lt_of_le h1 hf)
    · exact I0.nofs hf e
  have nTP : hp0.objs.size ≠ P := fun e => by
    have := Heap.lt_size hP0
    rw [← e] at this
    exact Nat.lt_irrefl _ this
  show wpAny _ _ (PySem.makeTail _ _ _ _ _ _ (.ref hp0.objs.size) _ _ _ _) _ _ _
  cases hc : codeAmong pos ps.toList with
  | none =>
    refine PySem.W.kdv_makeTail (mg := X.mg) (c := c) (P := P) (ps := ps) (closure_ok hfree) I2.ok.glob (I2.mod.glob.keeps I2.bk) hcode (TB.code.keeps I2.bk) hP' ht hc TB.gP bP fun c' ctv doc h' tk hx hge hlt hrec htb => ?_
    obtain ⟨c2, oc, vs, t, e2, hoc, hd, hv⟩ := hrec
    cases e2
    have hsz : (hp0.push (PySem.W.kdv_tup [v])).objs.size ≤ h'.objs.size := Nat.le_trans hge (Nat.le_of_lt hlt)
    have nC : H0 c' = none := I2.hok.fresh hge
    have szp : (hp0.push (PySem.W.kdv_tup [v])).objs.size = hp0.objs.size + 1 := Heap.size_push ..
    have hge' : hp0.objs.size < c' := by
      have h9 : (hp0.push (PySem.W.kdv_tup [v])).objs.size ≤ c' := hge
      rw [szp] at h9
      exact h9
    have I1 := inv_table (t' := tk) (more := #[rawInt pos.line, rawInt pos.col, .ref c']) (h' := h'.push (PySem.W.kdv_obj "<lambda>" (X.env.qual ++ "<lambda>") params (.expr body) scope (cloFrom X.env.cells scope.names []) (.ref hp0.objs.size) doc ((X.mg "__name__").getD .none) c' ctv)) I2 hP
      (fun b o hb e => Heap.get?_push_of_some _ (hx b o hb e)) (Heap.get?_push_of_some _ htb) hge ⟨oc, vs, t, Heap.get?_push_of_some _ hoc, hd, hv⟩
    have hE : ExtN H0 (upd (upd H0 P (.tbl (ps ++ #[rawInt pos.line, rawInt pos.col, .ref c']))) c' (CodeO c' (X.env.qual ++ "<lambda>"))) := fun b o e n => by
      rw [upd_ne (ne_of_none e nC), upd_ne (fun z => n ps (Option.some.inj (e.symm.trans (by rw [z]; exact hP))))]
      exact e
    have eL : (ps ++ #[rawInt pos.line, rawInt pos.col, .ref c']).toList = ps.toList ++ [rawInt pos.line, rawInt pos.col, .ref c'] := by simp
    have hlt0 : hp0.objs.size ≤ h'.objs.size := Nat.le_trans (Nat.le_of_lt hge') (Nat.le_of_lt hlt)
    refine h h'.objs.size c' hp0.objs.size v doc ((X.mg "__name__").getD .none) ctv _ _ I1 hE (fun p hp => ?_) r0 (Heap.get?_push_size _ rfl) ?_ (nofr _ hlt0) upd_same (Heap.get?_push_of_some _ (hx _ _ nTP hT0)) ?_ (nofr _ (Nat.le_refl _))
    · by_cases hb : p.1 = P
      · rw [hu p hp hb, hb]
        refine ⟨_, by rw [upd_ne (ne_of_none hP nC), upd_same], by rw [eL]; exact PySem.TriplesOk_snoc _ _ _ _ ht, fun p' cv hcv => ?_⟩
        rw [eL] at hcv
        rcases among_app _ ht hcv with z | z
        · obtain ⟨c0, e1, e2⟩ := ha p' cv z
          exact ⟨c0, e1, hE _ _ e2 codeO_ne⟩
        · exact ⟨c', z, upd_same⟩
      · obtain ⟨ps', a1, a2, a3⟩ := hT p hp
        refine ⟨ps', by rw [upd_ne (ne_of_none a1 nC), upd_ne hb]; exact a1, a2, fun p' cv hcv => ?_⟩
        obtain ⟨c0, e1, e2⟩ := a3 p' cv hcv
        exact ⟨c0, e1, hE _ _ e2 codeO_ne⟩
    · have n1 : h'.objs.size ≠ c' := Nat.ne_of_gt hlt
      have n2 : h'.objs.size ≠ P := Nat.ne_of_gt (Nat.lt_of_lt_of_le (Heap.lt_size hP') hsz)
      rw [upd_ne n1, upd_ne n2]
      exact I2.hok.fresh hsz
    · rw [upd_ne (Nat.ne_of_lt hge'), upd_ne nTP]
      exact nT0
  | some cv =>
    obtain ⟨c', e, hco⟩ := ha pos cv hc
    subst e
    refine PySem.W.kdv_makeTailHit (mg := X.mg) (c := c) (P := P) (ps := ps) (closure_ok hfree) I2.ok.glob (I2.mod.glob.keeps I2.bk) hcode (TB.code.keeps I2.bk) hP' ht hc bP fun ctv doc h' tk hx hsz => ?_
    have I1 : Inv X pins σ H0 ⟨h'.push (PySem.W.kdv_obj "<lambda>" (X.env.qual ++ "<lambda>") params (.expr body) scope (cloFrom X.env.cells scope.names []) (.ref hp0.objs.size) doc ((X.mg "__name__").getD .none) c' ctv), g0, d0, tk, os0⟩ := I2.kept (t' := tk) fun b o e => Heap.get?_push_of_some _ (hx b o e)
    have szp : (hp0.push (PySem.W.kdv_tup [v])).objs.size = hp0.objs.size + 1 := Heap.size_push ..
    have hlt0 : hp0.objs.size ≤ h'.objs.size := Nat.le_trans (by rw [szp]; exact Nat.le_succ _) hsz
    exact h h'.objs.size c' hp0.objs.size v doc ((X.mg "__name__").getD .none) ctv H0 _ I1 (ExtN.refl H0) hT r0 (Heap.get?_push_size _ rfl) (I2.hok.fresh hsz) (nofr _ hlt0) hco (Heap.get?_push_of_some _ (hx _ _ hT0)) nT0 (nofr _ (Nat.le_refl _))
/-- x(), in the def that got the lambda: Z is that def's context, entered at s -/
theorem pe_actD {CXg : CXT} {Eg : XK} {Ng : List Str} {qg : Str} {sg : Scope} {g f c' T0 : Addr} {v0 : Value} {cdg doc pm ctv : Value} {params : Arguments} {body : Expr} {scope : Scope} {k i : Nat} {a d0 : Str} {pn : List (Addr × Obj)} {xe : Value → Shared → Prop} {W : WX} {E : XK} {tb : TE} {p1 p2 : Pos}
    (I : Inv X pins σ H s) (L : LamD X.N X.env.scope scope) (hf : s.heap.get? f = some (PySem.W.kdv_obj "<lambda>" (X.env.qual ++ "<lambda>") params (.expr body) scope (cloFrom X.env.cells scope.names []) (.ref T0) doc pm c' ctv)) (hfn : H f = none) (hfr : f ∉ frs X.stack)
    (hT : s.heap.get? T0 = some (PySem.W.kdv_tup [v0])) (hTn : H T0 = none) (hTfr : T0 ∉ frs X.stack) (hd0 : scope.names.lookup d0 = some .local)
    (hbind : ∃ kk, bindArgs (PySem.W.kdv_fn "<lambda>" (X.env.qual ++ "<lambda>") params (.expr body) scope (cloFrom X.env.cells scope.names []) (.ref T0) doc pm (.ref c') ctv) ⟨[], []⟩ = seqItems? (.ref T0) >>= kk ∧ kk (some #[v0]) = pure [(d0, v0)])
    (tk : Takes ((cxOf CXg X.prog X.w X.K X.mg X.base Ng qg sg g cdg X.A X.stack s H Eg).tr pn xe) W) (hW : ∀ cls d σ' H', E cls d H' → W cls d σ' H') (hr : Room (k + 1) (X.A.deeper (envOfC qg sg s.heap.objs.size g cdg)))
    (hbody : ∀ (A : Around) (outer : List Env) (s : Shared) (H : Hp), Room k (A.deeper (lamEnv X scope s.heap.objs.size f c')) → PE (lamCx X A outer s H E scope f c') body tb)
    (hN : Ng[i]? = some a) (hv : Vis sg a) (hd : (a == ("__debug__" : Str)) = false := by decide) (hcd : (a == ("__classdict__" : Str)) = false := by decide) :
    PE ((cxOf CXg X.prog X.w X.K X.mg X.base Ng qg sg g cdg X.A X.stack s H Eg).tr pn xe) (.Call (.Name a p1) [] [] p2)
      (fun σZ HZ Q => σZ[i]? = some (some (.ref f)) ∧ HZ c' = some (CodeO c' (X.env.qual ++ "<lambda>")) ∧ tb σ HZ Q) := by
  refine ⟨fun pinsZ sZ σZ HZ Q IZ h => ?_⟩
  obtain ⟨hs, hc, ht⟩ := h
  refine wpAny_Call_Name_kw (thn ((pe_var (pos := p1) (i := i) hN hv hd hcd).run pinsZ sZ σZ HZ (fun v H1 => v = .ref f ∧ H1 = HZ) IZ ⟨.ref f, hs, rfl, rfl⟩) fun u s1 ⟨v, H1, I1, r1, q1⟩ => ?_)
  obtain ⟨ev, eH⟩ := q1
  subst ev
  rw [eH] at I1
  obtain rfl : u = Value.ref f := r1
  have of1 : s1.heap.get? f = some (PySem.W.kdv_obj "<lambda>" (X.env.qual ++ "<lambda>") params (.expr body) scope (cloFrom X.env.cells scope.names []) (.ref T0) doc pm c' ctv) := I1.base.keep f _ hf hfn hfr (fun z => nomatch (show f ∈ ([] : List Addr) from z))
  have oT1 : s1.heap.get? T0 = some (PySem.W.kdv_tup [v0]) := I1.base.keep T0 _ hT hTn hTfr (fun z => nomatch (show T0 ∈ ([] : List Addr) from z))
  refine PySem.W.callWith_F0 ⟨_, _, _, _, of1⟩ ?_
  have un : Un (frs X.stack) [] H HZ s.heap s1.heap := I1.base
  obtain ⟨⟨oc, vs, t, hoc, hdc, hvc⟩, _, _⟩ := I1.hok c' _ hc
  obtain ⟨kk, hb1, hb2⟩ := hbind
  have rc : codeAny (model X.prog X.w) (X.A.deeper (envOfC qg sg s.heap.objs.size g cdg)) (.call (.ref f) ⟨[], []⟩) (CR (L2.CX X.prog X.w) (envOfC qg sg s.heap.objs.size g cdg :: X.stack) X.prog X.w HZ s1 Q E) s1 := by
    refine PySem.W.kla_callFunE hr.depth of1 rfl L.co L.gen rfl ⟨c', oc, vs, t, rfl, hoc, hdc, hvc⟩ ?_
    refine BindsTo.of_defaults (T := T0) rfl oT1 rfl hb1 hb2 _ _ _ _ ?_
    refine wpAny_newFunctionEnv (fun y hy => (L.own y hy).2) (fun y hy => ?_) (fun h₁ hns hsb => ⟨I1.nolimit.fresh _ hsb, ?_⟩) L.kind
    · rw [List.mem_singleton.mp hy]
      exact hd0
    show codeAny _ _ (.expr body (lamEnv X scope s1.heap.objs.size f c')) _ _
    have kp : ∀ b o, s1.heap.get? b = some o → h₁.get? b = some o := fun b o e => hsb.extBut b o (Nat.ne_of_lt (Heap.lt_size e)) (Heap.get?_push_of_some _ e)
    have J : Inv (lamCx X (X.A.deeper (envOfC qg sg s.heap.objs.size g cdg)) (envOfC qg sg s.heap.objs.size g cdg :: X.stack) s1 HZ E scope f c') [] σ HZ { s1 with heap := h₁, toks := s1.toks + ([(d0, v0)] : List (Str × Value)).length } :=
      lam_startD I L I1.env0 hr.hd un hns kp
    refine PySem.W.kla_codeExpr (wpAny_mono ((hbody _ _ s1 HZ (hr.deeper _)).run [] _ _ HZ Q J ht) (fun v s' hq => ?_) fun e s' hq => hq)
    obtain ⟨w', H', J', rv, q⟩ := hq
    exact ⟨w', H', J'.os, J'.bare, J'.base, J'.hok, rv, q⟩
  have hx : Passes (L2.CX X.prog X.w) ((cxOf CXg X.prog X.w X.K X.mg X.base Ng qg sg g cdg X.A X.stack s H Eg).tr pn xe) E := passes_call tk hW
  refine wpAny_call (codeAny_mono rc fun r s' hq => ?_)
  cases r with
  | error e => exact hx pinsZ σZ HZ s1 e s' I1 hq
  | ok fl =>
    cases fl with
    | ret u => exact I1.after hq
    | next => exact False.elim hq
    | brk => exact False.elim hq
    | cont => exact False.elim hq
end
section
variable {X : Cx}
/-- x(lambda d=n: body) -/
theorem pe_lamcallD {T : List (Addr × Str)} {TT : (XK → Hp → VK → Prop) → Hp → VK → Prop} {x a d0 : Str} {g c P : Addr} {k : Nat} {pg : Arguments} {bg : List Stmt} {sg : Scope} {dV kV doc pm cdv ct oc : Value} {an od : Option Addr} {osl : Array (Option Value)} {Ng : List Str}
    {params : Arguments} {body : Expr} {scope : Scope} {t : XK → TE} {p lpos pos dp : Pos} {n : Int} {dj : Nat} (hg : Gl X x) (hm : X.mg x = some (.ref g)) (hk : PySem.W.keepIn X.K (.ref g) = true)
    (lk : X.K.lookup g = some ⟨oc, od, .func (PySem.W.fnOf x x pg bg sg dV kV doc pm an cdv ct), osl⟩) (hcg : PySem.W.codeIn X.K cdv x = true) (hb : L2.Binds X.K (PySem.W.fnOf x x pg bg sg dV kV doc pm an cdv ct) [a] []) (Sg : FnScope Ng [a] sg) (hNg : Ng[0]? = some a) (hva : Vis sg a)
    (hG : GivesTo X Ng x sg g cdv bg a (X.env.qual ++ "<lambda>") TT)
    (TB : TabB X.base X.mg c P) (hcode : X.env.code = .ref c) (hmT : (P, X.env.qual ++ "<lambda>") ∈ T) (hu : ∀ p ∈ T, p.1 = P → p.2 = X.env.qual ++ "<lambda>") (hr : Room (k + 2) X.A) (L : LamD X.N X.env.scope scope) (hdef : params.defaults = [.Constant (.int n) dj dp]) (hkw : params.kw_defaults = [])
    (hd0 : scope.names.lookup d0 = some .local)
    (hbind : ∀ (q : Str) (cl : List (Str × Addr)) (T0 : Addr) (v0 doc pm cv ctv : Value), ∃ kk, bindArgs (PySem.W.kdv_fn "<lambda>" q params (.expr body) scope cl (.ref T0) doc pm cv ctv) ⟨[], []⟩ = seqItems? (.ref T0) >>= kk ∧ kk (some #[v0]) = pure [(d0, v0)])
    (hbody : ∀ (A : Around) (outer : List Env) (s : Shared) (H : Hp) (E : XK) (f c' : Addr), Room k (A.deeper (lamEnv X scope s.heap.objs.size f c')) → PE (lamCx X A outer s H E scope f c') body (t E))
    (hdb : (x == ("__debug__" : Str)) = false := by decide) (hd : (a == ("__debug__" : Str)) = false := by decide) (hcd : (a == ("__classdict__" : Str)) = false := by decide) :
    PE X (.Call (.Name x p) [.Lambda params body scope lpos] [] pos) (tLam T TT t) := by
  refine ⟨fun pins s σ H Q I h => ?_⟩
  obtain ⟨hT, h⟩ := h
  refine wpAny_Call_Name_kw (ld_glob I hg hm ?_ hdb)
  refine PySem.W.callWith_K (h₀ := X.base) I.ok.mod.kin hk ?_ (by rfl) (by rfl)
  show wpAny _ _ (spliced ((false, eval (.Lambda params body scope lpos) X.env) :: backTo pos (starEach [] X.env))) _ _ s
  refine Calls.spliced_cons (lam_makeD (n := n) (dj := dj) (dp := dp) I TB hcode hmT hu hT hdef hkw (L.has I.ok) fun f c' T0 v0 doc pm' ctv H1 s' I1 eN T1 rv0 hf hfn hfr hco hT0 hTn hTf => ?_)
  refine Calls.spliced_nil ⟨I1.kIn, ?_⟩
  have rc : codeAny (model X.prog X.w) X.A (.call (.ref g) ⟨[.ref f], []⟩) (CR C8.CX0 X.stack X.prog X.w H1 s' Q C8.E0) s' := by
    refine run_ofS (N := Ng) (ps := [a]) (us := [.ref f]) (vs := [.ref f]) lk hcg Sg hr I1.env0 (hb s' [.ref f] I1.kIn rfl) (.cons rfl .nil) rfl fun hr' => ?_
    obtain ⟨t', ht', hq'⟩ := hG f c' s' H1 Q (fun E H' Q' => t E σ H' Q') (fun W pn xe E p1 p2 tk hW => pe_actD (i := 0) (d0 := d0) I1 L hf hfn hfr hT0 hTn hTf hd0 (hbind _ _ _ _ _ _ _ _) tk hW hr' (fun A outer s H hr2 => hbody A outer s H E f c' hr2) hNg hva hd hcd) hco (h H1 eN T1)
    exact ⟨t', ht'.nox, hq'⟩
  refine wpAny_call (codeAny_mono rc fun r s2 hq => ?_)
  cases r with
  | error e => exact (show False from hq).elim
  | ok fl =>
    cases fl with
    | ret u => exact I1.after hq
    | next => exact False.elim hq
    | brk => exact False.elim hq
    | cont => exact False.elim hq
end
end LamX
end
section
set_option Elab.async false
set_option linter.all false
set_option maxRecDepth 100000
set_option maxHeartbeats 2000000
/-! try: .. except C as n: .. except D as n: .. -/
namespace L2
open PySem PySem.Spec PyProof.Rows
def wManyAs (K : PySem.W.Frag) (i : Nat) (Wout : WX) (D : Ends) : List (Value × (Addr → Value → Option Addr → TS)) → WX
  | [] => Wout
  | (c, ts) :: r => fun cls d σ H => ∃ b, PySem.W.exmOne K cls c = some b ∧
      (b = true → ∀ a, H a = none → ts a cls d { nx := fun σ' H' => D.nx (σ'.set i none) H', rt := D.rt, bk := fun σ' H' => D.bk (σ'.set i none) H', ct := fun σ' H' => D.ct (σ'.set i none) H' } (σ.set i (some (.ref a))) H) ∧
      (b = false → wManyAs K i Wout D r cls d σ H)
inductive HdsAs (X : Cx) (n : Str) : List ExceptHandler → List (Value × (Addr → Value → Option Addr → TS)) → Prop
  | nil : HdsAs X n [] []
  | cons {x : Str} {c : Value} {ts : Addr → Value → Option Addr → TS} {b₀ : Stmt} {suite : List Stmt} {np pos' : Pos} {hds : List ExceptHandler} {l : List (Value × (Addr → Value → Option Addr → TS))} (hc : Names X x c)
      (hsu : ∀ (a : Addr) (oe : Obj) (cls : Value) (d : Option Addr) (pn : List (Addr × Obj)), Zc cls d oe → (∃ vs, oe.data = .fields vs) → PSs (X.suite a ((a, oe) :: pn)) (b₀ :: suite) (ts a cls d)) (r : HdsAs X n hds l) :
      HdsAs X n (.ExceptHandler (some (.Name x np)) (some n) (b₀ :: suite) pos' :: hds) ((c, ts) :: l)
section
variable {X : Cx} {n : Str} {i : Nat} {body : List Stmt} {h₀ : ExceptHandler} {hds : List ExceptHandler} {l : List (Value × (Addr → Value → Option Addr → TS))} {pos : Pos} {tb : WX → TS} {Wout : WX}
theorem ps_try_manyAs (hs : X.stack = X.env :: X.outer) (hf : X.env.frame = some X.env.locals) (hN : X.N.Nodup) (hi : X.N[i]? = some n) (hln : X.env.kindOf n = some .local) (tk : Takes X Wout)
    (hb : ∀ (W : WX) (pn : List (Addr × Obj)) (xe : Value → Shared → Prop), Takes (X.tr pn xe) W → PassesOwn (model X.prog X.w) X.A X.env xe → PSs (X.tr pn xe) body (tb W))
    (hh : HdsAs X n (h₀ :: hds) l) : PS X (.Try body (h₀ :: hds) [] [] pos) (fun D σ H => tb (wManyAs X.K i Wout D l) D σ H) := by
  refine ⟨fun pins s σ H D I h => ?_⟩
  have ok := I.ok
  have hfr : X.A.frames = some (X.env :: X.outer) := by rw [ok.frames, hs]
  have hloc : Loc X.env.scope n := .inl hln
  refine wpAny_Try_except ?_
  refine wpAny_mono ((hb (wManyAs X.K i Wout D l) (X.pn ++ pins) (fun e s₁ => wpAny (model X.prog X.w) X.A (noteFrame e X.env) (fun _ s₂ => wpAny (model X.prog X.w) X.A (setFlight e none) (fun _ s₃ =>
    wpAny (model X.prog X.w) X.A (handleBy e X.env (h₀ :: hds)) (SP X pins D) X.xe s₃) X.xe s₂) X.xe s₁) (fun u s' xx => ?_) PassesOwn.looking).run [] s σ H D (I.toTry _) h) (fun f s1 hsp => ?_) (fun e s1 he => he)
  · obtain ⟨a, B, sI, pins', σ', H', cls, d, rfl, J', nb, up, sky, na, os, ag, w⟩ := xx
    have J : Inv X pins σ' H' sI := J'.ofTry ok
    have sky' : Sky B (X.env :: X.outer) a (Zc cls d) X.env.locals s'.heap := by rw [← hs]; exact sky
    show wpAny (model X.prog X.w) X.A (noteFrame (.ref a) X.env) _ _ _
    refine Sky.land Zc.steady hfr hf sky' fun h3 fl3 up3 => ?_
    have J3 : Inv X pins σ' H' { s' with heap := h3 } := J.landed nb fl3.1 (up.trans up3) os ag
    obtain ⟨oe3, vs3, he3, hz3, hd3⟩ := fl3.there
    have notFr : ∀ {h : Heap} {o : Obj} {vs : Array Value}, h.FunFrames B (X.env :: X.outer) → h.get? a = some o → o.data = .fields vs → a ∉ frs (X.env :: X.outer) := fun {h o vs} ff e dd hm => by
      obtain ⟨_, o', e', hnf⟩ := ff.mem hm
      rw [e] at e'; cases e'
      exact hnf _ dd
    have nfr := notFr fl3.2.2.1 he3 hd3
    have nL : a ≠ X.env.locals := fun z => nfr (List.mem_filterMap.mpr ⟨X.env, List.mem_cons_self, by rw [hf, z]⟩)
    have nF : a ∉ X.fs := fun hm => by
      obtain ⟨e, he, q⟩ := List.mem_filterMap.mp hm
      exact nfr (List.mem_filterMap.mpr ⟨e, List.mem_cons_of_mem _ he, q⟩)
    have S3 := J3.suite he3 hd3 na nL nF
    have go : ∀ {hds' : List ExceptHandler} {l' : List (Value × (Addr → Value → Option Addr → TS))}, HdsAs X n hds' l' → wManyAs X.K i Wout D l' cls d σ' H' →
        wpAny (model X.prog X.w) X.A (handleBy (.ref a) X.env hds') (SP X pins D) X.xe { s' with heap := h3 } := by
      intro hds' l' hk
      induction hk with
      | nil =>
        intro w
        refine wpAny_handleBy_nil ?_
        obtain ⟨k1, k2, k3, oe, vs, T, oT, ts', he, hz, hd, h1, hr⟩ := id fl3
        unfold PySem.passOn
        refine wpAny_bind (wpAny_field he hd h1 ?_)
        rw [if_neg (show ¬ ((Value.ref T == Value.none) = true) from by simp)]
        have fin : wpAny (model X.prog X.w) X.A (setFlight (.ref a) X.env.frame) (fun _ s4 => wpAny (model X.prog X.w) X.A (throw (.ref a) : Sem Flow) (SP X pins D) X.xe s4) X.xe { s' with heap := h3 } := by
          rw [hf]
          refine HandSPX.setFlight_upZ fl3 fun h4 hh4 up4 => wpAny_throw (tk _ _ ?_)
          exact ⟨a, B, sI, pins, σ', H', cls, d, rfl, J, nb, (up.trans up3).trans up4, .inr (.inr (by rw [hs]; exact hh4)), na, os, ag, w⟩
        first
          | exact wpAny_bind (wpAny_pure (wpAny_bind fin))
          | exact wpAny_bind fin
      | @cons x c ts b₀ suite np pos' hds2 l2 hc hsu r ih =>
        intro w
        obtain ⟨b, hb1, hyes, hno⟩ := w
        refine wpAny_handleBy_cons (codeAny_handlers_test ?_) (by intro q; cases q)
        have LT : PySem.W.Looks (model X.prog X.w) h3 (typeOf (.ref a)) cls := fun A Q E s k q => wpAny_typeOf_ref (k _ _ he3) (by rw [hz3.1]; exact q)
        have LM := PySem.W.exm_one (M := model X.prog X.w) (J3.kIn) LT hb1
        have test : ∀ {Q : Value → Shared → Prop} {E : Value → Shared → Prop}, Q c { s' with heap := h3 } → wpAny (model X.prog X.w) (X.A.mark (some (.ref a))) (eval (.Name x np) X.env) Q E { s' with heap := h3 } := fun {Q E} q => by
          obtain ⟨hg, hdbg, hm | ⟨hm, hv, hnn⟩⟩ := hc
          · exact ld_glob (X := X.suite a ((a, oe3) :: (X.pn ++ pins))) S3 hg hm q hdbg
          · exact ld_blt (X := X.suite a ((a, oe3) :: (X.pn ++ pins))) S3 hg hm hv q hnn hdbg
        refine test (LM.here ?_)
        cases b with
        | true =>
          refine codeAny_handlers_suite_as ?_
          refine HandSPX.lands_againZ fl3 fun h4 fl4 up4 => ?_
          have J4 : Inv X pins σ' H' { s' with heap := h4 } := J.landed nb fl4.1 ((up.trans up3).trans up4) os ag
          obtain ⟨oe4, vs4, he4, hz4, hd4⟩ := fl4.there
          have S4 := J4.suite he4 hd4 na nL nF
          refine store_ok (X := X.suite a ((a, oe4) :: (X.pn ++ pins))) (v := .ref a) S4 hN hi hloc rfl (fun s5 S5 => ?_) (.inr hln)
          refine wpAny_mono ((hsu a oe4 cls d (X.pn ++ pins) hz4 ⟨_, hd4⟩).run [] s5 _ H' _ S5 (hyes rfl a na)) (fun f s6 hsp => ?_) (fun _ _ z => False.elim z)
          have end_ : ∀ {σ6 : St} {H6 : Hp} {Q : Shared → Prop}, Inv (X.suite a ((a, oe4) :: (X.pn ++ pins))) [] σ6 H6 s6 → (∀ s7, Inv X pins (σ6.set i none) H6 s7 → Q s7) →
              wpAny (model X.prog X.w) X.A (do bindName X.env n .none; unbindBehindTheSuite X.env n pos') (fun _ s7 => Q s7) X.xe s6 := fun {σ6 H6 Q} S6 hq => gone_ok (S6.unsuite ok) hN hi hln hq
          cases f with
          | next =>
            obtain ⟨σ6, H6, S6, q6⟩ := hsp
            exact end_ S6 fun s7 J7 => ⟨_, _, J7, q6⟩
          | brk =>
            obtain ⟨σ6, H6, S6, q6⟩ := hsp
            exact end_ S6 fun s7 J7 => ⟨_, _, J7, q6⟩
          | cont =>
            obtain ⟨σ6, H6, S6, q6⟩ := hsp
            exact end_ S6 fun s7 J7 => ⟨_, _, J7, q6⟩
          | ret u =>
            obtain ⟨v6, σ6, H6, S6, r6, q6⟩ := hsp
            exact end_ S6 fun s7 J7 => ⟨_, _, _, J7, r6, q6⟩
        | false =>
          show wpAny _ X.A (handleBy (.ref a) X.env hds2) _ _ _
          exact ih (hno rfl)
    exact go hh w
  · cases f with
    | next =>
      obtain ⟨σ', H', J', q⟩ := hsp
      exact wpAny_execs_nil ⟨σ', H', J'.ofTry ok, q⟩
    | brk =>
      obtain ⟨σ', H', J', q⟩ := hsp
      exact ⟨σ', H', J'.ofTry ok, q⟩
    | cont =>
      obtain ⟨σ', H', J', q⟩ := hsp
      exact ⟨σ', H', J'.ofTry ok, q⟩
    | ret u =>
      obtain ⟨v, σ', H', J', r, q⟩ := hsp
      exact ⟨v, σ', H', J'.ofTry ok, r, q⟩
end
end L2
end
section
set_option Elab.async false
set_option linter.all false
set_option maxRecDepth 100000
set_option maxHeartbeats 2000000
/-! _law_heard: what it makes of a call. -/
namespace SL
open PySem PySem.Spec PyProof.Rows L2 Evl LamX
/-- what heard wishes of an exception -/
def Eh (K : PySem.W.Frag) (Q : VK) : XK := fun cls d H' =>
  (cls = .ref (He.ga K "BadText") ∧ ∃ dd l u, d = some dd ∧ H' dd = some (.xd [("line", l), ("word", u)]) ∧ ∀ p, H' p = none → Q (.ref p) (upd H' p (.tup [.str "text", l, u]))) ∨
  (cls = .ref (He.ga K "BadLot") ∧ ∃ dd l, d = some dd ∧ H' dd = some (.xd [("given", l)]) ∧ ∀ p, H' p = none → Q (.ref p) (upd H' p (.tup [.str "lot", l]))) ∨
  (cls = .ref (He.ga K "BadFamily") ∧ ∃ dd l, d = some dd ∧ H' dd = some (.xd [("number", l)]) ∧ ∀ p, H' p = none → Q (.ref p) (upd H' p (.tup [.str "family", l])))
def THeard (K : PySem.W.Frag) : (XK → Hp → VK → Prop) → Hp → VK → Prop := fun tl H Q => tl (Eh K Q) H fun v H1 => [v].length ≤ sizeLine ∧ ∀ p, H1 p = none → Q (.ref p) (upd H1 p (.lst [v]))
theorem takes_len {X : Cx} {W : WX} (t : Takes X W) : Takes X (fun c d σ H => σ.length = X.N.length → W c d σ H) := fun u s' ⟨a, B, sI, pins, σ, H, cls, d, e, I, nb, up, sky, na, os, ag, w⟩ =>
  t u s' ⟨a, B, sI, pins, σ, H, cls, d, e, I, nb, up, sky, na, os, ag, w I.len⟩
theorem heard_gives {X : Cx} {g : Addr} {cdg : Value} {q : Str} (M : Ma X.K X.mg) (hP : Pg X.prog) :
    GivesTo X ["_law_call", "error"] "_law_heard" (defScope sLawHeard) g cdg (defBody sLawHeard) "_law_call" q (THeard X.K) := by
  intro f c' s H Q tl act hc h
  have ZT := M.xBadText (w := X.w) hP
  have ZL := M.xBadLot (w := X.w) hP
  have ZF := M.xBadFamily (w := X.w) hP
  refine ⟨_, pss_one (ps_try_manyAs (X := (cxOf C8.CX0 X.prog X.w X.K X.mg X.base ["_law_call", "error"] "_law_heard" (defScope sLawHeard) g cdg X.A X.stack s H C8.E0).nox) (n := "error") (i := 1)
      (tb := fun W D σ H => ∃ Ech : XK, (∀ cls d σ' H', σ'.length = 2 → Ech cls d H' → W cls d σ' H') ∧ σ[0]? = some (some (.ref f)) ∧ H c' = some (CodeO c' q) ∧ tl Ech H fun v H1 => [v].length ≤ sizeLine ∧ ∀ p, H1 p = none → D.rt (.ref p) (upd H1 p (.lst [v])))
      rfl rfl scLawHeard.nd rfl rfl takes_none5 (fun W pn xe tk _ => ?_)
      (.cons ⟨rfl, by decide, .inl ZT.g⟩ (fun a oe cls d pn hz hf => pss_one (ps_ret (pe_tup (pa_cons pe_str (pa_cons (pe_exf ZT.oex ZT.ga ZT.gg ZT.hd (ZT.no "line" (by simp)) hz hf (pv 1)) (pa_cons (pe_exf ZT.oex ZT.ga ZT.gg ZT.hd (ZT.no "word" (by simp)) hz hf (pv 1)) pa_nil))))))
      (.cons ⟨rfl, by decide, .inl ZL.g⟩ (fun a oe cls d pn hz hf => pss_one (ps_ret (pe_tup (pa_cons pe_str (pa_cons (pe_exf ZL.oex ZL.ga ZL.gg ZL.hd (ZL.no "given" (by simp)) hz hf (pv 1)) pa_nil)))))
      (.cons ⟨rfl, by decide, .inl ZF.g⟩ (fun a oe cls d pn hz hf => pss_one (ps_ret (pe_tup (pa_cons pe_str (pa_cons (pe_exf ZF.oex ZF.ga ZF.gg ZF.hd (ZF.no "number" (by simp)) hz hf (pv 1)) pa_nil))))) .nil)))), ?_⟩
  · refine ⟨fun pins s' σ H' D I h' => ?_⟩
    obtain ⟨Ech, hW, h1, h2, h3⟩ := h'
    have hp := act (fun c d σ H => σ.length = 2 → W c d σ H) pn xe Ech
    have hq := fun p1 p2 (p3 p4 : Pos) => pss_one (ps_ret (pos := p3) (pe_lst (pos := p4) (pa_cons (hp p1 p2 (takes_len tk) fun cls d σ' H' he hl => hW cls d σ' H' hl he) pa_nil)))
    exact (hq _ _ _ _).run pins s' σ H' D I ⟨h1, h2, h3⟩
  · refine ⟨Eh X.K Q, fun cls d σ' H' hl he => ?_, rfl, hc, h⟩
    match σ', hl with
    | [x0, x1], _ =>
      rcases he with ⟨rfl, dd, l, u, rfl, hd, hq⟩ | ⟨rfl, dd, l, rfl, hd, hq⟩ | ⟨rfl, dd, l, rfl, hd, hq⟩
      · refine ⟨true, M.x_BadText_BadText, fun _ a na => ?_, (fun q => by cases q)⟩
        exact ⟨_, rfl, rfl, rfl, dd, _, l, rfl, hd, rfl, _, rfl, rfl, rfl, dd, _, u, rfl, hd, rfl, by show 3 ≤ sizeLine; decide, fun p np => hq p np⟩
      · refine ⟨false, M.x_BadLot_BadText, (fun q => by cases q), fun _ => ⟨true, M.x_BadLot_BadLot, fun _ a na => ?_, (fun q => by cases q)⟩⟩
        exact ⟨_, rfl, rfl, rfl, dd, _, l, rfl, hd, rfl, by show 2 ≤ sizeLine; decide, fun p np => hq p np⟩
      · refine ⟨false, M.x_BadFamily_BadText, (fun q => by cases q), fun _ => ⟨false, M.x_BadFamily_BadLot, (fun q => by cases q), fun _ => ⟨true, M.x_BadFamily_BadFamily, fun _ a na => ?_, (fun q => by cases q)⟩⟩⟩
        exact ⟨_, rfl, rfl, rfl, dd, _, l, rfl, hd, rfl, by show 2 ≤ sizeLine; decide, fun p np => hq p np⟩
end SL
end
section
set_option Elab.async false
set_option linter.all false
set_option maxRecDepth 100000
set_option maxHeartbeats 2000000
set_option exponentiation.threshold 5000
/-! repr of what a reading comes to: its length is small enough. -/
namespace SL
open PySem PySem.Spec PyProof.Rows L2 Evl
theorem val_foldl : ∀ (l : List Nat) (a : Nat), NumText.AllDigits l → l.foldl (fun acc c => acc * 10 + (c - 48)) a < (a + 1) * 10 ^ l.length
  | [], a, _ => by simp
  | c :: r, a, h => by
    have hc := h.head
    have ih := val_foldl r (a * 10 + (c - 48)) h.tail
    have h1 : (a * 10 + (c - 48) + 1) * 10 ^ r.length ≤ (a + 1) * 10 * 10 ^ r.length := Nat.mul_le_mul_right _ (by omega)
    rw [List.foldl_cons, List.length_cons, Nat.pow_succ, Nat.mul_comm (10 ^ r.length) 10, ← Nat.mul_assoc]
    omega
theorem val_lt {l : List Nat} (h : NumText.AllDigits l) (hl : l.length ≤ 31) : NumText.digitsVal l < 10 ^ 31 := by
  have h1 := val_foldl l 0 h
  have h2 : 10 ^ l.length ≤ 10 ^ 31 := Nat.pow_le_pow_right (by decide) hl
  unfold NumText.digitsVal
  omega
theorem numIn_abs {w : Str} {n : Int} (h : numIn w = some n) : n.natAbs < 10 ^ 31 := by
  unfold numIn at h
  split at h
  · rename_i hk
    have hk' := hk
    simp only [okNum, Bool.and_eq_true, decide_eq_true_eq, List.all_eq_true] at hk'
    obtain ⟨⟨⟨h1, h2⟩, h3⟩, _⟩ := hk'
    have hd : NumText.AllDigits (figL w.cps.toList) := fun c hc => by
      have := h3 c hc
      simp only [isDig, Bool.and_eq_true, decide_eq_true_eq] at this
      omega
    have hne : figL w.cps.toList ≠ [] := fun e => by rw [e] at h1; simp at h1
    have hv := val_lt hd h2
    have hl : w.length = w.cps.toList.length := Array.length_toList.symm
    unfold figL at h1 h2 hd hne hv
    split at h1
    · rename_i hh
      rw [if_pos hh] at h2 hd hne hv
      cases hw : w.cps.toList with
      | nil => rw [hw] at hh; cases hh
      | cons c r =>
        rw [hw] at hh h2 hd hne hv
        have ec : c = 45 := Option.some.inj hh
        subst ec
        have hwl : w.length = r.length + 1 := by rw [hl, hw]; rfl
        have e := intText_neg hw hd hne (by simp at h2; omega)
        rw [e] at h
        have := Option.some.inj h
        simp only [List.drop_succ_cons, List.drop_zero] at hv
        rw [← this]
        omega
    · rename_i hh
      rw [if_neg hh] at h2 hd hne hv
      have e := intText_digits hd hne (by omega)
      rw [e] at h
      have := Option.some.inj h
      rw [← this]
      omega
  · cases h
theorem nums_abs {ws : List Str} {n : Int} (h : n ∈ nums ws) : n.natAbs < 10 ^ 31 := by
  obtain ⟨w, hw, e⟩ := List.mem_map.mp h
  cases hn : numIn w with
  | none =>
    rw [hn] at e
    rw [← e]
    decide
  | some m =>
    rw [hn] at e
    have e' : m = n := e
    rw [← e']
    exact numIn_abs hn
theorem shown_int {n : Int} (h : n.natAbs < 10 ^ 31) : (PyData.shown (.int n)).length ≤ 40 := by
  have e : PyData.shown (.int n) = Str.ofString (toString n) := by simp only [PyData.shown]
  rw [e]
  cases n with
  | ofNat k =>
    refine Nat.le_trans (toString_length_le (v := Int.ofNat k) (k := 31) (Int.natCast_nonneg k) (by decide) ?_) (by decide)
    have h' : k < 10 ^ 31 := h
    show ((k : Nat) : Int) < 10 ^ 31
    have : ((k : Nat) : Int) < ((10 ^ 31 : Nat) : Int) := Int.ofNat_lt.mpr h'
    simpa using this
  | negSucc m =>
    have h' : m + 1 < 10 ^ 31 := h
    have h1 := toString_length_le (v := Int.ofNat (m + 1)) (k := 31) (Int.natCast_nonneg _) (by decide) (by
      have : (((m + 1 : Nat) : Nat) : Int) < ((10 ^ 31 : Nat) : Int) := Int.ofNat_lt.mpr h'
      simpa using this)
    rw [PyProof.Rows.ofString_length] at h1 ⊢
    have e2 : toString (Int.negSucc m) = "-" ++ toString (Int.ofNat (m + 1)) := rfl
    rw [e2, String.toList_append, List.length_append]
    have e3 : ("-" : String).toList.length = 1 := by decide
    omega
theorem log_31 {n : Int} (h : n.natAbs < 10 ^ 31) : n.natAbs.log2 < 1920 := by
  have h1 : n.natAbs < 2 ^ 1920 := Nat.lt_of_lt_of_le h (by decide +kernel)
  by_cases h0 : n.natAbs = 0
  · rw [h0]; decide
  · exact (Nat.log2_lt h0).mpr h1
/-- small data: showable, without dicts, leaves short, of bulk at most b, of depth at most k -/
structure Sml (d : PyData) (b k : Nat) : Prop where
  sh : d.showable = true
  nd : d.hasDict = false
  lv : d.leavesShort 40 = true
  bk : d.bulk ≤ b
  dp : d.depth ≤ k
structure SmlA (ds : List PyData) (b k : Nat) : Prop where
  sh : PyData.showableAll ds = true
  nd : PyData.hasDictAll ds = false
  lv : PyData.leavesShortAll 40 ds = true
  bk : PyData.bulkAll ds ≤ b
  dp : PyData.depthAll ds ≤ k
theorem SmlA.nil : SmlA [] 0 0 := ⟨rfl, rfl, rfl, Nat.le_refl _, Nat.le_refl _⟩
theorem SmlA.cons {d : PyData} {ds : List PyData} {b c k : Nat} (h : Sml d b k) (r : SmlA ds c k) : SmlA (d :: ds) (b + 1 + c) k :=
  ⟨by simp [PyData.showableAll, h.sh, r.sh], by simp [PyData.hasDictAll, h.nd, r.nd], by simp [PyData.leavesShortAll, h.lv, r.lv], by simp only [PyData.bulkAll]; have := h.bk; have := r.bk; omega, by simp only [PyData.depthAll]; have := h.dp; have := r.dp; omega⟩
theorem SmlA.up {ds : List PyData} {b c k j : Nat} (h : SmlA ds b k) (hb : b ≤ c) (hk : k ≤ j) : SmlA ds c j := ⟨h.sh, h.nd, h.lv, Nat.le_trans h.bk hb, Nat.le_trans h.dp hk⟩
theorem Sml.up {d : PyData} {b c k j : Nat} (h : Sml d b k) (hb : b ≤ c) (hk : k ≤ j) : Sml d c j := ⟨h.sh, h.nd, h.lv, Nat.le_trans h.bk hb, Nat.le_trans h.dp hk⟩
theorem SmlA.tup {ds : List PyData} {b k : Nat} (h : SmlA ds b k) : Sml (.tuple ds) b (k + 1) :=
  ⟨by simp only [PyData.showable]; exact h.sh, by simp only [PyData.hasDict]; exact h.nd, by simp only [PyData.leavesShort]; exact h.lv, by simp only [PyData.bulk]; exact h.bk, by simp only [PyData.depth]; exact Nat.succ_le_succ h.dp⟩
theorem SmlA.lst {ds : List PyData} {b k : Nat} (h : SmlA ds b k) : Sml (.list ds) b (k + 1) :=
  ⟨by simp only [PyData.showable]; exact h.sh, by simp only [PyData.hasDict]; exact h.nd, by simp only [PyData.leavesShort]; exact h.lv, by simp only [PyData.bulk]; exact h.bk, by simp only [PyData.depth]; exact Nat.succ_le_succ h.dp⟩
theorem Sml.int {n : Int} (h : n.natAbs < 10 ^ 31) : Sml (.int n) 0 0 :=
  ⟨by simp only [PyData.showable]; exact decide_eq_true (log_31 h), by simp only [PyData.hasDict], by simp only [PyData.leavesShort]; exact decide_eq_true (shown_int h), by simp only [PyData.bulk]; exact Nat.le_refl _, by simp only [PyData.depth]; exact Nat.le_refl _⟩
theorem Sml.none : Sml .none 0 0 := ⟨by simp only [PyData.showable], by simp only [PyData.hasDict], by simp only [PyData.leavesShort], by simp only [PyData.bulk]; exact Nat.le_refl _, by simp only [PyData.depth]; exact Nat.le_refl _⟩
theorem Sml.str {x : Str} (h : x.cps.toList.all (fun c => decide (c < 16 ^ 8)) = true) {b : Nat} (hb : x.cps.size ≤ b) : Sml (.str x) b 0 :=
  ⟨by simp only [PyData.showable], by simp only [PyData.hasDict], by simp only [PyData.leavesShort]; exact h, by simp only [PyData.bulk]; exact hb, by simp only [PyData.depth]; exact Nat.le_refl _⟩
theorem sml_ints : ∀ {ns : List Int}, (∀ n ∈ ns, n.natAbs < 10 ^ 31) → SmlA (ns.map PyData.int) ns.length 0
  | [], _ => SmlA.nil
  | n :: ns, h => by
    have := SmlA.cons (Sml.int (h n (by simp))) (sml_ints (ns := ns) fun m hm => h m (by simp [hm]))
    exact this.up (by simp; omega) (Nat.le_refl _)
theorem sml_rows : ∀ {rows : List (List Int)}, (∀ r ∈ rows, r.length ≤ 5 ∧ ∀ n ∈ r, n.natAbs < 10 ^ 31) → SmlA (rows.map intsD) (rows.length * 6) 1
  | [], _ => SmlA.nil.up (Nat.zero_le _) (Nat.zero_le _)
  | r :: rows, h => by
    have h1 := h r (by simp)
    have := SmlA.cons (sml_ints h1.2).tup (sml_rows (rows := rows) fun m hm => h m (by simp [hm]))
    exact this.up (by simp only [List.length_cons]; omega) (Nat.le_refl _)
theorem small_nat {i : Nat} (h : i ≤ 100000) : ((i : Nat) : Int).natAbs < 10 ^ 31 := Nat.lt_of_le_of_lt (by simpa using h) (by decide : 100000 < 10 ^ 31)
theorem famFault_lots {rows : List (List Int)} (h : famFault rows = none) : 1 ≤ rows.length ∧ rows.length ≤ 200 ∧ ∀ r ∈ rows, isLot r = true := by
  unfold famFault at h
  split at h
  · cases h
  · rename_i hl
    refine ⟨by omega, by omega, fun r hr => ?_⟩
    obtain ⟨i, hi, rfl⟩ := List.mem_iff_getElem.mp hr
    have h0 : (List.range rows.length).find? (badAt rows) = none := by simpa using h
    rw [List.find?_eq_none] at h0
    have h1 := h0 i (by simpa using hi)
    unfold badAt at h1
    have e : rows.getD i [] = rows[i] := by simp [List.getD, hi]
    rw [e] at h1
    cases hb : isLot rows[i] with
    | true => rfl
    | false => simp [hb] at h1
theorem bad_lt {ws : List Str} {i : Nat} (h : bad ws = some i) : i < ws.length := by
  unfold bad at h
  rw [List.findIdx?_eq_some_iff_getElem] at h
  exact h.1
theorem badLine_lt : ∀ {ls : List Str} {k i j : Nat}, badLine k ls = some (i, j) → i < k + ls.length ∧ ∃ l ∈ ls, j < (wordsOf l).length
  | [], _, _, _, h => by cases h
  | l :: ls, k, i, j, h => by
    unfold badLine at h
    split at h
    · rename_i j' hb
      cases h
      exact ⟨by simp, l, by simp, bad_lt hb⟩
    · obtain ⟨h1, l', hl, h2⟩ := badLine_lt h
      exact ⟨by simp only [List.length_cons]; omega, l', by simp [hl], h2⟩
theorem sml_out {o : Out} {m : Nat} (h : match o with
    | .text i j => i ≤ 100000 ∧ j ≤ 100000
    | .lot ns => ns.length ≤ m ∧ ∀ n ∈ ns, n.natAbs < 10 ^ 31
    | .family none => True
    | .family (some i) => i ≤ 100000
    | .okL ns => ns.length ≤ m ∧ ∀ n ∈ ns, n.natAbs < 10 ^ 31
    | .okF rows => rows.length ≤ 200 ∧ ∀ r ∈ rows, r.length ≤ 5 ∧ ∀ n ∈ r, n.natAbs < 10 ^ 31) : Sml (outD o) (m + 1300) 3 := by
  cases o with
  | text i j =>
    exact ((SmlA.cons (Sml.str (b := 4) (by decide) (by decide)) (SmlA.cons (Sml.int (small_nat h.1)) (SmlA.cons (Sml.int (small_nat h.2)) SmlA.nil))).tup).up (by omega) (by decide)
  | lot ns =>
    exact ((SmlA.cons ((Sml.str (x := "lot") (b := 3) (by decide) (by decide)).up (Nat.le_refl _) (Nat.zero_le 1)) (SmlA.cons (sml_ints h.2).tup (SmlA.nil.up (Nat.le_refl _) (Nat.zero_le 1)))).tup).up (by have := h.1; omega) (by decide)
  | family o =>
    cases o with
    | none => exact ((SmlA.cons (Sml.str (x := "family") (b := 6) (by decide) (by decide)) (SmlA.cons Sml.none SmlA.nil)).tup).up (by omega) (by decide)
    | some i => exact ((SmlA.cons (Sml.str (x := "family") (b := 6) (by decide) (by decide)) (SmlA.cons (Sml.int (small_nat h)) SmlA.nil)).tup).up (by omega) (by decide)
  | okL ns => exact ((SmlA.cons (sml_ints h.2).tup (SmlA.nil.up (Nat.le_refl _) (Nat.zero_le 1))).lst).up (by have := h.1; omega) (by decide)
  | okF rows => exact ((SmlA.cons (sml_rows h.2).tup (SmlA.nil.up (Nat.le_refl _) (Nat.zero_le 2))).lst).up (by have := h.1; omega) (by decide)
theorem sml_lot {z : Str} (hz : z.length ≤ 30000) : Sml (outD (dueLot z)) 40000 3 := by
  have hpos := linesOf_pos z
  have hlen : ((linesOf z).getD 0 Str.empty).length ≤ z.length := by
    rw [List.getD_eq_getElem?_getD, List.getElem?_eq_getElem hpos]
    exact lines_part (List.getElem_mem hpos)
  have hw := wordsOf_le ((linesOf z).getD 0 Str.empty)
  refine (sml_out (m := 32000) ?_).up (by decide) (Nat.le_refl _)
  unfold dueLot
  cases hb : bad (wordsOf ((linesOf z).getD 0 Str.empty)) with
  | some i =>
    have := bad_lt hb
    exact ⟨Nat.zero_le _, by omega⟩
  | none =>
    dsimp only
    have hn : (nums (wordsOf ((linesOf z).getD 0 Str.empty))).length ≤ 32000 ∧ ∀ n ∈ nums (wordsOf ((linesOf z).getD 0 Str.empty)), n.natAbs < 10 ^ 31 := ⟨by unfold nums; rw [List.length_map]; omega, fun n hn => nums_abs hn⟩
    by_cases h1 : 1 < (linesOf z).length
    · rw [if_pos h1]
      exact ⟨by decide, by decide⟩
    · rw [if_neg h1]
      by_cases h2 : isLot (nums (wordsOf ((linesOf z).getD 0 Str.empty))) = true
      · rw [if_pos h2]
        exact hn
      · rw [if_neg h2]
        exact hn
theorem sml_fam {z : Str} (hz : z.length ≤ 30000) : Sml (outD (dueFam z)) 40000 3 := by
  have hl := linesOf_le z
  refine (sml_out (m := 32000) ?_).up (by decide) (Nat.le_refl _)
  unfold dueFam
  cases hb : badLine 0 (linesOf z) with
  | some p =>
    obtain ⟨i, j⟩ := p
    obtain ⟨h1, l, hm, h2⟩ := badLine_lt hb
    have h3 := lines_part hm
    have h4 := wordsOf_le l
    exact ⟨by omega, by omega⟩
  | none =>
    dsimp only
    have hrl : (rowsOf z).length = (linesOf z).length := List.length_map ..
    cases hf : famFault (rowsOf z) with
    | none =>
      obtain ⟨h1, h2, h3⟩ := famFault_lots hf
      refine ⟨h2, fun r hr => ⟨(isLot_len (h3 r hr)).2, fun n hn => ?_⟩⟩
      have := isLot_sm (h3 r hr) n hn
      exact Nat.lt_of_le_of_lt (show n.natAbs ≤ 1000 by omega) (by decide)
    | some o =>
      cases o with
      | none => exact True.intro
      | some i =>
        show i ≤ 100000
        unfold famFault at hf
        split at hf
        · cases hf
        · have h0 : (List.range (rowsOf z).length).find? (badAt (rowsOf z)) = some i := by simpa using hf
          have h1 := List.mem_of_find?_eq_some h0
          rw [List.mem_range] at h1
          omega
/-- what repr is given -/
def readD (z : Str) : PyData := .list [outD (dueLot z), outD (dueFam z), outD (dueLot z), outD (dueFam z)]
theorem sml_read {z : Str} (hz : z.length ≤ 30000) : Sml (readD z) 160004 4 :=
  ((SmlA.cons (sml_lot hz) (SmlA.cons (sml_fam hz) (SmlA.cons (sml_lot hz) (SmlA.cons (sml_fam hz) (SmlA.nil.up (Nat.le_refl _) (Nat.zero_le _)))))).lst).up (by decide) (Nat.le_refl _)
theorem read_shown {z : Str} (hz : z.length ≤ 30000) : (readD z).shown.length ≤ sizeLine := by
  have h := sml_read hz
  have h1 := PyData.shown_le_bulk 40 (by decide) _ h.lv
  have h2 := h.bk
  rw [sizeLine_eq]
  have h3 : (40 + 2) * (readD z).bulk ≤ 42 * 160004 := Nat.mul_le_mul_left _ h2
  omega
section
variable {X : Cx}
/-- repr(x), in a place where nothing is being shown -/
theorem call_repr (hG : X.A.guards = some []) (hu : X.A.units + 64 < cLine) : CallR X (.builtin "repr") (fun xs H Q => ∃ (a : Addr) (d : PyData), xs = [.ref a] ∧ Dp X.K H (.ref a) d ∧ d.showable = true ∧ d.hasDict = false ∧ d.depth ≤ 60 ∧ d.shown.length ≤ sizeLine ∧ Q (.str d.shown) H) := by
  intro pins s σ H xs us Q I r h
  obtain ⟨a, d, rfl, hd, h1, h2, h3, h4, q⟩ := h
  rw [Vals.ref1 r]
  obtain ⟨as, hr⟩ := Dp.reads I d (.ref a) (.ref a) hd rfl
  refine PySem.repr_of_reads' hr h1 (PyData.noDict_hsm h2) hG (by omega) (fun _ _ e => e) (fun h' u tk hk => ?_) h4
  exact ⟨.str d.shown, H, I.kept hk, ⟨_, rfl⟩, q⟩
end
end SL
end
section
set_option Elab.async false
set_option linter.all false
set_option maxRecDepth 100000
set_option maxHeartbeats 2000000
/-! _law_read_right. -/
namespace SL
open PySem PySem.Spec PyProof.Rows L2 Evl LamX
/-! ### a def's promise where nothing is being shown (no guard stands) -/
structure Gn (P : Program) (w : World) (K : PySem.W.Frag) (mg : Str → Option Value) (base : Heap) (x : Str) (k : Nat) (ps : List Str) (sp : Sp) : Prop where
  ex : ∃ f fd, (∀ vs H Q E, sp vs H Q E → vs.length = ps.length) ∧
    (∀ (A : Around) (outer : List Env) (s : Shared) (H : Hp) (args : Args) (us : List Value) (vs : List V) (Q : VK) (E : XK), A.guards = some [] → Room k A → Env0 P w K mg base A outer s H → BindsTo s fd args (ps.zip us) → Vals vs us → sp vs H Q E →
      codeAny (model P w) A (.call (.ref f) args) (CR (L2.CX P w) outer P w H s Q E) s) ∧ mg x = some (.ref f) ∧ PySem.W.keepIn K (.ref f) = true ∧ Binds K fd ps []
section
variable {X : Cx} {x : Str} {k : Nat} {ps : List Str} {sp : Sp} {E : XK} {e : Expr} {es : List Expr} {p pos : Pos} {t : TA}
theorem pe_gn (D : Gn X.prog X.w X.K X.mg X.base x k ps sp) (hG : X.A.guards = some []) (hr : Room k X.A) (hx : Passes (L2.CX X.prog X.w) X E) (ha : PA X (e :: es) t) (hg : Gl X x := by rfl)
    (hdb : (x == ("__debug__" : Str)) = false := by decide) (he : starEach (e :: es) X.env = (false, eval e X.env) :: starEach es X.env := by rfl) (hpl : (backTo pos (starEach es X.env)).any (·.1) = false := by rfl) :
    PE X (.Call (.Name x p) (e :: es) [] pos) (tCall sp [] E t) := by
  obtain ⟨f, fd, hlen, run, hm, hk, hb⟩ := D.ex
  refine ⟨fun pins s σ H Q I h => ?_⟩
  refine wpAny_Call_Name_kw (ld_glob I hg hm ?_ hdb)
  refine PySem.W.callWith_K (h₀ := X.base) I.ok.mod.kin hk (thn (ha.run pos pins s σ H _ I h) fun us s1 ⟨vs, H1, I1, r, q⟩ => ⟨I1.kIn, ?_⟩) he hpl
  have q' : sp vs H1 Q E := by
    have this : sp (vs ++ []) H1 Q E := q
    rw [List.append_nil] at this
    exact this
  have hl : us.length = ps.length := by rw [← r.length]; exact hlen _ _ _ _ q'
  have hb' : BindsTo s1 fd ⟨us, []⟩ (ps.zip us) := by
    have := hb s1 us I1.kIn (by rw [List.append_nil]; exact hl)
    rw [List.append_nil] at this
    exact this
  refine wpAny_call (codeAny_mono (run X.A X.stack s1 H1 ⟨us, []⟩ us vs Q E hG hr I1.env0 hb' r q') fun r s' hq => ?_)
  cases r with
  | error e => exact hx pins σ H1 s1 e s' I1 hq
  | ok fl =>
    cases fl with
    | ret u => exact I1.after hq
    | next => exact False.elim hq
    | brk => exact False.elim hq
    | cont => exact False.elim hq
end
def lamDB (N : List Str) (sc scope : Scope) : Bool :=
  decide (scope.kind = .function) && !scope.isCoroutine && !scope.isGenerator && scope.names.all fun y => (!decide (y.2 = .local) || decide (y.1 ∉ N)) && !decide (y.2 = .cell) && (!decide (y.2 = .free) || decide (sc.names.lookup y.1 = some .cell) || decide (sc.names.lookup y.1 = some .free))
theorem lamD_by {N : List Str} {sc scope : Scope} (h : lamDB N sc scope = true) : LamD N sc scope := by
  unfold lamDB at h
  simp only [Bool.and_eq_true, Bool.or_eq_true, Bool.not_eq_true', decide_eq_true_eq, decide_eq_false_iff_not, List.all_eq_true] at h
  obtain ⟨⟨⟨h1, h2⟩, h3⟩, h4⟩ := h
  refine ⟨h1, h2, h3, fun y hy => ⟨fun e => ?_, (h4 y hy).1.2⟩, fun y hy e => ?_⟩
  · rcases (h4 y hy).1.1 with z | z
    · exact absurd e z
    · exact z
  · rcases (h4 y hy).2 with (z | z) | z
    · exact absurd e z
    · exact .inl z
    · exact .inr z
/-! ### the lambdas' reading -/
def cRR (K : PySem.W.Frag) : Addr := (He.cT K ("_law_read_right", none)).1
def pRR (K : PySem.W.Frag) : Addr := (He.cT K ("_law_read_right", none)).2
def qRR : Str := (("_law_read_right" : Str) ++ (".<locals>." : Str)) ++ ("<lambda>" : Str)
def tRR (K : PySem.W.Frag) : List (Addr × Str) := [(pRR K, qRR)]
section
variable {K : PySem.W.Frag} {H H' : Hp}
theorem exN_l {a : Addr} {xs : List V} (e : ExtN H H') (h : SqL K H a xs) : SqL K H' a xs := by
  rcases h with (h | ⟨o, h⟩) | h
  · exact .inl (.inl (e _ _ h (by intro ps z; cases z)))
  · exact .inl (.inr ⟨o, e _ _ h (by intro ps z; cases z)⟩)
  · exact .inr h
theorem exN_t {a : Addr} {xs : List V} (e : ExtN H H') (h : SqT K H a xs) : SqT K H' a xs := by
  rcases h with (h | ⟨o, h⟩) | h
  · exact .inl (.inl (e _ _ h (by intro ps z; cases z)))
  · exact .inl (.inr ⟨o, e _ _ h (by intro ps z; cases z)⟩)
  · exact .inr h
mutual
theorem Dp.exN (e : ExtN H H') : ∀ (d : PyData) (v : V), Dp K H v d → Dp K H' v d
  | .none, _, h => by cases h; exact .non
  | .bool b, _, h => by cases h; exact .bl b
  | .int i, _, h => by cases h; exact .int i
  | .str x, _, h => by cases h; exact .str x
  | .list ds, _, h => by
    cases h with
    | lst h1 h2 => exact .lst (exN_l e h1) (DpAll.exN e ds _ h2)
  | .tuple ds, _, h => by
    cases h with
    | tup h1 h2 => exact .tup (exN_t e h1) (DpAll.exN e ds _ h2)
  | .dict _, _, h => by cases h
theorem DpAll.exN (e : ExtN H H') : ∀ (ds : List PyData) (vs : List V), DpAll K H vs ds → DpAll K H' vs ds
  | [], _, h => by cases h; exact .nil
  | d :: ds, _, h => by
    cases h with
    | cons h1 h2 => exact .cons (Dp.exN e d _ h1) (DpAll.exN e ds _ h2)
end
def tLot (K : PySem.W.Frag) : XK → TE := fun E => tCall (spReadLot K) [] E (tCons (tVar 0) tNil)
def tFam (K : PySem.W.Frag) : XK → TE := fun E => tCall (spReadFamily K) [] E (tCons (tVar 0) tNil)
theorem hd_lot {T : List (Addr × Str)} {σ : L2.St} {z : Str} {Q : VK} (hT : Tabs T H) (h0 : σ[0]? = some (some (.str z))) (hz : z.length ≤ 30000)
    (k : ∀ v H2, ExtN H H2 → Tabs T H2 → Dp K H2 v (outD (dueLot z)) → Q v H2) : tLam T (THeard K) (tLot K) σ H Q := by
  refine ⟨hT, fun H1 e1 T1 => ⟨_, h0, z, rfl, hz, fun i j hd d H2 hdn e2 hx => .inl ⟨rfl, d, _, _, rfl, hx, fun p np => ?_⟩, fun ns hd d t H2 hdn e2 ht hx => .inr (.inl ⟨rfl, d, _, rfl, hx, fun p np => ?_⟩), fun ns hd p H2 hp e2 ht => ⟨by show 1 ≤ sizeLine; decide, fun q nq => ?_⟩⟩⟩
  · have e3 : Ex H2 (upd H2 p (.tup [.str "text", .int (i : Nat), .int (j : Nat)])) := Ex.new np
    refine k _ _ (e1.trans (ExtN.of (e2.trans e3))) (T1.ext (e2.trans e3)) ?_
    rw [hd]
    exact .tup (st_of upd_same) (.cons (.str _) (.cons (.int _) (.cons (.int _) .nil)))
  · have e3 : Ex H2 (upd H2 p (.tup [.str "lot", .ref t])) := Ex.new np
    refine k _ _ (e1.trans (ExtN.of (e2.trans e3))) (T1.ext (e2.trans e3)) ?_
    rw [hd]
    exact .tup (st_of upd_same) (.cons (.str _) (.cons (.tup (st_of (e3 _ _ ht)) (dp_ints _)) .nil))
  · have e3 : Ex H2 (upd H2 q (.lst [.ref p])) := Ex.new nq
    refine k _ _ (e1.trans (ExtN.of (e2.trans e3))) (T1.ext (e2.trans e3)) ?_
    rw [hd]
    exact .lst (sq_of upd_same) (.cons (.tup (st_of (e3 _ _ ht)) (dp_ints _)) .nil)
theorem faultW_dp (o : Option Nat) : DpAll K H [.str "family", faultW o] (match outD (.family o) with | .tuple ds => ds | _ => []) := by
  cases o with
  | none => exact .cons (.str _) (.cons .non .nil)
  | some i => exact .cons (.str _) (.cons (.int _) .nil)
theorem hd_fam {T : List (Addr × Str)} {σ : L2.St} {z : Str} {Q : VK} (hT : Tabs T H) (h0 : σ[0]? = some (some (.str z))) (hz : z.length ≤ 30000)
    (k : ∀ v H2, ExtN H H2 → Tabs T H2 → Dp K H2 v (outD (dueFam z)) → Q v H2) : tLam T (THeard K) (tFam K) σ H Q := by
  refine ⟨hT, fun H1 e1 T1 => ⟨_, h0, z, rfl, hz, fun i j hd d H2 hdn e2 hx => .inl ⟨rfl, d, _, _, rfl, hx, fun p np => ?_⟩, fun o hd d H2 hdn e2 hx => .inr (.inr ⟨rfl, d, _, rfl, hx, fun p np => ?_⟩), fun rows hd p ps H2 hp e2 ht hR hrw => ⟨by show 1 ≤ sizeLine; decide, fun q nq => ?_⟩⟩⟩
  · have e3 : Ex H2 (upd H2 p (.tup [.str "text", .int (i : Nat), .int (j : Nat)])) := Ex.new np
    refine k _ _ (e1.trans (ExtN.of (e2.trans e3))) (T1.ext (e2.trans e3)) ?_
    rw [hd]
    exact .tup (st_of upd_same) (.cons (.str _) (.cons (.int _) (.cons (.int _) .nil)))
  · have e3 : Ex H2 (upd H2 p (.tup [.str "family", faultW o])) := Ex.new np
    refine k _ _ (e1.trans (ExtN.of (e2.trans e3))) (T1.ext (e2.trans e3)) ?_
    rw [hd]
    cases o with
    | none => exact .tup (st_of upd_same) (.cons (.str _) (.cons .non .nil))
    | some i => exact .tup (st_of upd_same) (.cons (.str _) (.cons (.int _) .nil))
  · have e3 : Ex H2 (upd H2 q (.lst [.ref p])) := Ex.new nq
    refine k _ _ (e1.trans (ExtN.of (e2.trans e3))) (T1.ext (e2.trans e3)) ?_
    rw [hd, ← hrw]
    exact .lst (sq_of upd_same) (.cons (.tup (st_of (e3 _ _ ht)) (dp_rows (hR.ex e3))) .nil)
end
def spReadRight (K : PySem.W.Frag) : Sp := fun vs H Q _ => ∃ z : Str, vs = [.str z] ∧ z.length ≤ 30000 ∧ Asc z ∧ Tabs (tRR K) H ∧ ∀ H', ExtN H H' → Tabs (tRR K) H' → Q (.bl true) H'
section
variable {P : Program} {w : World} {K : PySem.W.Frag} {mg : Str → Option Value} {base : Heap}
theorem ok_read_right (M : Ma K mg) (hP : Pg P) (TB : TabB base mg (cRR K) (pRR K)) : Gn P w K mg base "_law_read_right" 9 ["_law_text"] (spReadRight K) := by
  obtain ⟨fd, F⟩ := M.d_LawReadRight
  obtain ⟨fdh, Fh⟩ := M.d_LawHeard
  have kp := F.kp
  have bN : Binds K fd ["_law_text"] [] := F.bindsN (fun _ _ _ _ _ _ us hl => match us, hl with | [_], _ => rfl)
  have bH : Binds K fdh ["_law_call"] [] := Fh.bindsN (fun _ _ _ _ _ _ us hl => match us, hl with | [_], _ => rfl)
  have kpH := Fh.kp
  obtain ⟨oc, od, dV, kV, doc, pm, an, cdv, ct, osl, rfl, lk, hcd, _, _⟩ := F.ex
  obtain ⟨oc2, od2, dV2, kV2, doc2, pm2, an2, cdv2, ct2, osl2, rfl, lk2, hcd2, _, _⟩ := Fh.ex
  obtain ⟨c, rfl⟩ := He.codeIn_ref hcd
  have ec : cRR K = c := He.codeOf_eq (p := ("_law_read_right", none)) lk rfl
  refine ⟨_, _, fun vs H Q E h => ?_, fun A outer s H args us vs Q E hG hr e0 hb r h => ?_, M.g__law_read_right, kp, bN⟩
  · obtain ⟨z, rfl, _⟩ := h
    rfl
  · have hlen : vs.length = 1 := by
      obtain ⟨z, rfl, _⟩ := h
      rfl
    refine run_ofS (CX := L2.CX P w) (k := 8) (N := ["_law_text", "_law_told"]) (ps := ["_law_text"]) lk hcd scLawReadRight hr e0 hb r hlen fun hr' => ?_
    obtain ⟨z, rfl, hz, hA, hT, q⟩ := h
    have ecode : (cxOf (L2.CX P w) P w K mg base ["_law_text", "_law_told"] "_law_read_right" (defScope sLawReadRight) (He.ga K "_law_read_right") (.ref c) A outer s H E).env.code = .ref (cRR K) := by rw [ec]; rfl
    have hmT : (pRR K, (cxOf (L2.CX P w) P w K mg base ["_law_text", "_law_told"] "_law_read_right" (defScope sLawReadRight) (He.ga K "_law_read_right") (.ref c) A outer s H E).env.qual ++ ("<lambda>" : Str)) ∈ tRR K := List.mem_singleton.mpr rfl
    have huT : ∀ p ∈ tRR K, p.1 = pRR K → p.2 = (cxOf (L2.CX P w) P w K mg base ["_law_text", "_law_told"] "_law_read_right" (defScope sLawReadRight) (He.ga K "_law_read_right") (.ref c) A outer s H E).env.qual ++ ("<lambda>" : Str) := fun p hp _ => by rw [List.mem_singleton.mp hp]; rfl
    have hG' : (cxOf (L2.CX P w) P w K mg base ["_law_text", "_law_told"] "_law_read_right" (defScope sLawReadRight) (He.ga K "_law_read_right") (.ref c) A outer s H E).A.guards = some [] := hG
    refine ⟨_, (pss_cons (ps_set (i := 1) scLawReadRight.nd rfl (.inl rfl) (pe_lst (pa_cons
          (pe_lamcall (T := tRR K) (TT := THeard K) (t := tLot K) (k := 6) (by rfl) M.g__law_heard kpH lk2 hcd2 bH scLawHeard rfl (.inl rfl) (heard_gives M hP) TB ecode hmT huT hr' (lamS_by (sc := defScope sLawReadRight) (by decide +kernel)) rfl (fun _ _ _ _ _ => rfl)
            (fun A outer s H E f c' hr => pe_dn (ok_read_lot M hP) (hr.mono (by decide)) (passes_call (takes_of rfl rfl rfl rfl) fun _ _ _ _ h => h) (pa_cons (pv 0) pa_nil)))
          (pa_cons
          (pe_lamcallD (T := tRR K) (TT := THeard K) (t := tFam K) (k := 6) (d0 := "_law_a") (by rfl) M.g__law_heard kpH lk2 hcd2 bH scLawHeard rfl (.inl rfl) (heard_gives M hP) TB ecode hmT huT hr' (lamD_by (N := ["_law_text", "_law_told"]) (sc := defScope sLawReadRight) (by decide +kernel)) rfl rfl rfl (fun _ _ _ _ _ _ _ _ => ⟨_, rfl, rfl⟩)
            (fun A outer s H E f c' hr => pe_dn (ok_read_family M hP) hr (passes_call (takes_of rfl rfl rfl rfl) fun _ _ _ _ h => h) (pa_cons (pv 0) pa_nil)))
          pa_nil)))) <|
      pss_cons (ps_set (i := 1) scLawReadRight.nd rfl (.inl rfl) (pe_op op_cat (pv 1) (pe_lst (pa_cons
          (pe_lamcall (T := tRR K) (TT := THeard K) (t := tLot K) (k := 6) (by rfl) M.g__law_heard kpH lk2 hcd2 bH scLawHeard rfl (.inl rfl) (heard_gives M hP) TB ecode hmT huT hr' (lamS_by (sc := defScope sLawReadRight) (by decide +kernel)) rfl (fun _ _ _ _ _ => rfl)
            (fun A outer s H E f c' hr => pe_dn (ok_read_lot M hP) (hr.mono (by decide)) (passes_call (takes_of rfl rfl rfl rfl) fun _ _ _ _ h => h) (pa_cons (pv 0) pa_nil)))
          (pa_cons
          (pe_lamcallD (T := tRR K) (TT := THeard K) (t := tFam K) (k := 6) (d0 := "_law_a") (by rfl) M.g__law_heard kpH lk2 hcd2 bH scLawHeard rfl (.inl rfl) (heard_gives M hP) TB ecode hmT huT hr' (lamD_by (N := ["_law_text", "_law_told"]) (sc := defScope sLawReadRight) (by decide +kernel)) rfl rfl rfl (fun _ _ _ _ _ _ _ _ => ⟨_, rfl, rfl⟩)
            (fun A outer s H E f c' hr => pe_dn (ok_read_family M hP) hr (passes_call (takes_of rfl rfl rfl rfl) fun _ _ _ _ h => h) (pa_cons (pv 0) pa_nil)))
          pa_nil))))) <|
      pss_one (ps_ret (pe_cmpR op_eq (pe_callB (call_repr hG' hr'.units) (by rfl) M.n_repr (by decide +kernel) (pa_cons (pv 1) pa_nil))
        (pe_callB (call_repr hG' hr'.units) (by rfl) M.n_repr (by decide +kernel) (pa_cons (pe_op op_rep (pe_lst (pa_cons (pe_dn (ok_due_lot M) (hr'.mono (by decide)) passL (pa_cons (pv 0) pa_nil)) (pa_cons (pe_dn (ok_due_family M) (hr'.mono (by decide)) passL (pa_cons (pv 0) pa_nil)) pa_nil))) pe_int) pa_nil)) (nomark _)))), ?_⟩
    have h0 : ∀ x : Option V, ([some (.str z), x] : L2.St)[0]? = some (some (.str z)) := fun _ => rfl
    refine hd_lot hT rfl hz fun v1 H1 e1 T1 d1 => hd_fam T1 rfl hz fun v2 H2 e2 T2 d2 => ⟨by show 2 ≤ sizeLine; decide, fun p1 n1 => ?_⟩
    have x1 : Ex H2 (upd H2 p1 (.lst [v1, v2])) := Ex.new n1
    have T3 := T2.ext x1
    refine ⟨_, rfl, hd_lot T3 rfl hz fun v3 H3 e3 T4 d3 => hd_fam T4 rfl hz fun v4 H4 e4 T5 d4 => ⟨by show 2 ≤ sizeLine; decide, fun p2 n2 => ?_⟩⟩
    have x2 : Ex H4 (upd H4 p2 (.lst [v3, v4])) := Ex.new n2
    have hp1 : H4 p1 = some (.lst [v1, v2]) := e4 _ _ (e3 _ _ upd_same (by intro ps z; cases z)) (by intro ps z; cases z)
    refine ⟨p1, p2, [v1, v2], [v3, v4], rfl, rfl, x2 _ _ hp1, upd_same, by show 2 + 2 ≤ sizeLine; decide, fun p3 n3 => ?_⟩
    have x3 : Ex (upd H4 p2 (.lst [v3, v4])) (upd (upd H4 p2 (.lst [v3, v4])) p3 (.lst ([v1, v2] ++ [v3, v4]))) := Ex.new n3
    have x23 := x2.trans x3
    have T6 := T5.ext x23
    have e34 := e3.trans e4
    have eAll : ExtN H (upd (upd H4 p2 (.lst [v3, v4])) p3 (.lst ([v1, v2] ++ [v3, v4]))) := (((e1.trans e2).trans (ExtN.of x1)).trans e34).trans (ExtN.of x23)
    have dd : Dp K (upd (upd H4 p2 (.lst [v3, v4])) p3 (.lst ([v1, v2] ++ [v3, v4]))) (.ref p3) (readD z) := by
      refine .lst (sq_of upd_same) (.cons ?_ (.cons ?_ (.cons ?_ (.cons ?_ .nil))))
      · exact Dp.ex x23 _ _ (Dp.exN (((e2.trans (ExtN.of x1)).trans e34)) _ _ d1)
      · exact Dp.ex x23 _ _ (Dp.exN (((ExtN.of x1)).trans e34) _ _ d2)
      · exact Dp.ex x23 _ _ (Dp.exN e4 _ _ d3)
      · exact Dp.ex x23 _ _ d4
    have hS := sml_read hz
    generalize (upd (upd H4 p2 (.lst [v3, v4])) p3 (.lst ([v1, v2] ++ [v3, v4]))) = H6 at T6 eAll dd
    refine ⟨_, rfl, p3, readD z, rfl, dd, hS.sh, hS.nd, Nat.le_trans hS.dp (by decide), read_shown hz, ?_⟩
    refine ⟨_, rfl, z, rfl, hz, hA, fun w1 H7 e7 b1 => ?_⟩
    refine ⟨_, rfl, z, rfl, hz, hA, fun w2 H8 e8 b2 => ⟨by show 2 ≤ sizeLine; decide, fun p5 n5 => ?_⟩⟩
    have x5 : Ex H8 (upd H8 p5 (.lst [w1, w2])) := Ex.new n5
    refine ⟨p5, 2, [w1, w2], rfl, rfl, upd_same, by decide, by decide, by show 2 * 2 ≤ sizeLine; decide, fun p6 n6 => ?_⟩
    have x6 : Ex (upd H8 p5 (.lst [w1, w2])) (upd (upd H8 p5 (.lst [w1, w2])) p6 (.lst (List.replicate (Int.toNat 2) [w1, w2]).flatten)) := Ex.new n6
    have x56 := x5.trans x6
    have dd2 : Dp K (upd (upd H8 p5 (.lst [w1, w2])) p6 (.lst (List.replicate (Int.toNat 2) [w1, w2]).flatten)) (.ref p6) (readD z) := by
      have c1 := Dp.ex (e8.trans x56) _ _ b1
      have c2 := Dp.ex x56 _ _ b2
      exact .lst (xs := [w1, w2, w1, w2]) (sq_of upd_same) (.cons c1 (.cons c2 (.cons c1 (.cons c2 .nil))))
    refine ⟨p6, readD z, rfl, dd2, hS.sh, hS.nd, Nat.le_trans hS.dp (by decide), read_shown hz, rfl, ?_⟩
    have e9 : decide (V.str (readD z).shown = V.str (readD z).shown) = true := decide_eq_true rfl
    show Q (.bl (decide (V.str (readD z).shown = V.str (readD z).shown))) _
    rw [e9]
    have xA := (e7.trans e8).trans x56
    exact q _ (eAll.trans (ExtN.of xA)) (T6.ext xA)
end
end SL
end
section
set_option Elab.async false
set_option linter.all false
set_option maxRecDepth 100000
set_option maxHeartbeats 2000000
/-! Drawing: _law_mixed, _law_begin, _law_draw, _law_of. -/
namespace SL
open PySem PySem.Spec PyProof.Rows L2 Evl
def mixF (x k : Int) : Int := (x % 2147483647 * (48271 + 2 * k * k) + 69621 * k + 11) % 2147483647 * 69621 % 2147483629
theorem mixF_lo (x k : Int) : 0 ≤ mixF x k := Int.emod_nonneg _ (by decide)
theorem mixF_hi (x k : Int) : mixF x k < 2147483629 := Int.emod_lt_of_pos _ (by decide)
def spMixed : Sp := fun vs H Q _ => ∃ x k : Int, vs = [.int x, .int k] ∧ 0 ≤ k ∧ k ≤ 10 ^ 12 ∧ RetV (.int (mixF x k)) H Q
/-- the dict of the state -/
def stD (c l : Addr) (a : Int) : List (Key × V) := [(.inr "cells", .ref c), (.inr "lefts", .ref l), (.inr "at", .int a), (.inr "room", .int 0)]
structure StAt (H : Hp) (st c l : Addr) (a : Nat) : Prop where
  d : H st = some (.dK (stD c l (a : Int)))
  ls : ∃ cells lefts : List Int, H c = some (.lst (cells.map V.int)) ∧ H l = some (.lst (lefts.map V.int)) ∧ 1 ≤ cells.length ∧ cells.length ≤ 100 ∧ lefts.length = cells.length ∧ ∀ x ∈ lefts, 0 ≤ x
  ne : c ≠ l
/-- all but the state's dict and its lefts stay -/
def Dr (st l : Addr) (H H' : Hp) : Prop := ∀ b o, b ≠ st → b ≠ l → H b = some o → H' b = some o
theorem Dr.refl {st l : Addr} (H : Hp) : Dr st l H H := fun _ _ _ _ h => h
theorem Dr.trans {st l : Addr} {H H1 H2 : Hp} (a : Dr st l H H1) (b : Dr st l H1 H2) : Dr st l H H2 := fun c o h1 h2 h => b c o h1 h2 (a c o h1 h2 h)
theorem Dr.of {st l : Addr} {H H' : Hp} (e : Ex H H') : Dr st l H H' := fun b o _ _ h => e b o h
theorem StAt.ex {H H' : Hp} {st c l : Addr} {a : Nat} (h : StAt H st c l a) (e : Ex H H') : StAt H' st c l a := by
  obtain ⟨cells, lefts, h1, h2, r⟩ := h.ls
  exact ⟨e _ _ h.d, ⟨cells, lefts, e _ _ h1, e _ _ h2, r⟩, h.ne⟩
/-- after at most n draws -/
structure After (st c l : Addr) (a n : Nat) (H H' : Hp) : Prop where
  stt : ∃ a', a ≤ a' ∧ a' ≤ a + n ∧ StAt H' st c l a'
  dr : Dr st l H H'
def spDraw : Sp := fun vs H Q _ => ∃ (st c l : Addr) (a : Nat) (m : Int), vs = [.ref st, .int m] ∧ StAt H st c l a ∧ a ≤ 100000 ∧ 1 ≤ m ∧ m ≤ 100000 ∧
  ∀ v H', 0 ≤ v → v < m → StAt H' st c l (a + 1) → Dr st l H H' → Q (.int v) H'
def spOf : Sp := fun vs H Q _ => ∃ (st c l p : Addr) (a : Nat) (xs : List V), vs = [.ref st, .ref p] ∧ StAt H st c l a ∧ a ≤ 100000 ∧ H p = some (.lst xs) ∧ p ≠ l ∧ 1 ≤ xs.length ∧ xs.length ≤ 100000 ∧
  ∀ v H', v ∈ xs → StAt H' st c l (a + 1) → Dr st l H H' → Q v H'
def spBegin (K : PySem.W.Frag) : Sp := fun vs H Q _ => ∃ (s : Addr) (ns : List Int), vs = [.ref s] ∧ SqL K H s (ns.map V.int) ∧ ns.length ≤ 63 ∧ ∀ st c l H', Ex H H' → StAt H' st c l 0 → H st = none → H c = none → H l = none → Q (.ref st) H'
section
variable {P : Program} {w : World} {K : PySem.W.Frag} {mg : Str → Option Value} {base : Heap}
theorem ok_mixed (M : Ma K mg) : Dn P w K mg base "_law_mixed" 1 ["_law_cell", "_law_k"] spMixed := by
  obtain ⟨fd, F⟩ := M.d_LawMixed
  refine Dn.of F M.g__law_mixed (fun _ _ _ _ _ _ us hl => match us, hl with | [_, _], _ => rfl) (F.ok scLawMixed (fun vs H Q E h => ?_) (fun cdv A outer s H vs Q E hr h => ?_))
  · obtain ⟨x, k, rfl, _⟩ := h
    rfl
  · obtain ⟨x, k, rfl, h0, h1, q⟩ := h
    refine ⟨_, (pss_cons (ps_set (i := 0) scLawMixed.nd rfl (.inl rfl) (pe_op op_mod (pe_callTy call_int1 (by rfl) M.n_int (by decide +kernel) (pa_cons (pv 0) pa_nil)) pe_int)) <|
      pss_one (ps_ret (pe_op op_mod (pe_op op_mul (pe_op op_mod (pe_op op_add (pe_op op_add (pe_op op_mul (pv 0) (pe_op op_add pe_int (pe_op op_mul (pe_op op_mul pe_int (pv 1)) (pv 1)))) (pe_op op_mul pe_int (pv 1))) pe_int) pe_int) pe_int) pe_int))), ?_⟩
    have r0 : 0 ≤ x % 2147483647 := Int.emod_nonneg _ (by decide)
    have r1 : x % 2147483647 < 2147483647 := Int.emod_lt_of_pos _ (by decide)
    refine ⟨_, rfl, .inl ⟨_, rfl, _, _, rfl, rfl, by show (0 : Int) < 2147483647; decide, ?_⟩⟩
    refine ⟨_, rfl, _, rfl, _, _, rfl, rfl, .inl ⟨by show -(2 ^ 64) < (2 : Int); decide, by show (2 : Int) < 2 ^ 64; decide⟩, ?_⟩
    refine ⟨_, rfl, _, _, rfl, rfl, .inl ⟨by show -(2 ^ 64) < 2 * k; omega, by show 2 * k < 2 ^ 64; omega⟩, ?_⟩
    refine ⟨_, _, rfl, rfl, _, _, rfl, rfl, .inl ⟨by show -(2 ^ 64) < x % 2147483647; omega, by show x % 2147483647 < 2 ^ 64; omega⟩, ?_⟩
    refine ⟨_, rfl, _, _, rfl, rfl, .inl ⟨by show -(2 ^ 64) < (69621 : Int); decide, by show (69621 : Int) < 2 ^ 64; decide⟩, ?_⟩
    refine ⟨_, _, rfl, rfl, _, _, rfl, rfl, _, _, rfl, rfl, by show (0 : Int) < 2147483647; decide, ?_⟩
    have s0 : 0 ≤ (x % 2147483647 * (48271 + 2 * k * k) + 69621 * k + 11) % 2147483647 := Int.emod_nonneg _ (by decide)
    have s1 : (x % 2147483647 * (48271 + 2 * k * k) + 69621 * k + 11) % 2147483647 < 2147483647 := Int.emod_lt_of_pos _ (by decide)
    refine ⟨_, _, rfl, rfl, .inl ⟨?_, ?_⟩, _, _, rfl, rfl, by show (0 : Int) < 2147483629; decide, q H (Ex.refl H)⟩
    · show -(2 ^ 64) < (x % 2147483647 * (48271 + 2 * k * k) + 69621 * k + 11) % 2147483647
      omega
    · show (x % 2147483647 * (48271 + 2 * k * k) + 69621 * k + 11) % 2147483647 < 2 ^ 64
      omega
theorem g_cells {H : Hp} {st c l : Addr} {a : Int} (h : H st = some (.dK (stD c l a))) : DGet H st (.str "cells") (some (.ref c)) := DGet.k (k := Sum.inr "cells") h
theorem g_lefts {H : Hp} {st c l : Addr} {a : Int} (h : H st = some (.dK (stD c l a))) : DGet H st (.str "lefts") (some (.ref l)) := DGet.k (k := Sum.inr "lefts") h
theorem g_at {H : Hp} {st c l : Addr} {a : Int} (h : H st = some (.dK (stD c l a))) : DGet H st (.str "at") (some (.int a)) := DGet.k (k := Sum.inr "at") h
theorem p_at {H : Hp} {st c l : Addr} {a b : Int} (h : H st = some (.dK (stD c l a))) : DPut H st (.str "at") (.int b) (upd H st (.dK (stD c l b))) :=
  DPut.k (k := Sum.inr "at") h (by show 4 < sizeLine; decide)
theorem ok_draw (M : Ma K mg) : Dn P w K mg base "_law_draw" 2 ["_law_state", "_law_many"] spDraw := by
  obtain ⟨fd, F⟩ := M.d_LawDraw
  refine Dn.of F M.g__law_draw (fun _ _ _ _ _ _ us hl => match us, hl with | [_, _], _ => rfl) (F.ok scLawDraw (fun vs H Q E h => ?_) (fun cdv A outer s H vs Q E hr h => ?_))
  · obtain ⟨st, c, l, a, m, rfl, _⟩ := h
    rfl
  · obtain ⟨st, c, l, a, m, rfl, S, ha, hm1, hm2, q⟩ := h
    have hu := hu_of hr
    refine ⟨_, (pss_cons (ps_set (i := 2) scLawDraw.nd rfl (.inl rfl) (pe_dget hu (pv 0) pe_str (fun _ _ => rfl))) <|
      pss_cons (ps_dput hu (pv 0) pe_str (pe_op op_add (pv 2) pe_int) rfl) <|
      pss_cons (ps_set (i := 3) scLawDraw.nd rfl (.inl rfl) (pe_op op_mod (pe_callTy call_int1 (by rfl) M.n_int (by decide +kernel) (pa_cons (pv 2) pa_nil)) (pe_callB call_len_seq (by rfl) M.n_len PySem.boot_len (pa_cons (pe_dget hu (pv 0) pe_str (fun _ _ => rfl)) pa_nil)))) <|
      pss_cons (ps_set (i := 4) scLawDraw.nd rfl (.inl rfl) (pe_ix ix_list (pe_dget hu (pv 0) pe_str (fun _ _ => rfl)) (pv 3) (fun _ _ => rfl))) <|
      pss_cons (ps_if (pt_cmpR op_gt (pv 4) pe_int (nomark _)) (pss_cons (ps_asg (pe_op op_fdiv (pv 4) (pv 1)) (pg_sub (pe_dget hu (pv 0) pe_str (fun _ _ => rfl)) (pv 3) set_list)) (pss_one (ps_ret (pe_op op_mod (pe_callTy call_int1 (by rfl) M.n_int (by decide +kernel) (pa_cons (pv 4) pa_nil)) (pv 1))))) pss_nil) <|
      pss_cons (ps_set (i := 5) scLawDraw.nd rfl (.inl rfl) (pe_dn (ok_mixed M) hr passL (pa_cons (pe_dn (ok_mixed M) hr passL (pa_cons (pe_ix ix_list (pe_dget hu (pv 0) pe_str (fun _ _ => rfl)) (pv 3) (fun _ _ => rfl)) (pa_cons (pv 2) pa_nil))) (pa_cons (pe_op op_add pe_int (pv 2)) pa_nil)))) <|
      pss_one (ps_ret (pe_op op_mod (pe_op op_fdiv (pe_callTy call_int1 (by rfl) M.n_int (by decide +kernel) (pa_cons (pe_op op_add (pe_op op_mul (pv 5) pe_int) (pe_dn (ok_mixed M) hr passL (pa_cons (pv 5) (pa_cons (pe_op op_add pe_int (pv 2)) pa_nil)))) pa_nil)) pe_int) (pv 1)))), ?_⟩
    obtain ⟨hd, ⟨cells, lefts, hc, hl, n1, n2, n3, hpos⟩, ncl⟩ := S
    have nsc : c ≠ st := ne_of hc hd (by intro z; cases z)
    have nsl : l ≠ st := ne_of hl hd (by intro z; cases z)
    refine ⟨_, rfl, st, _, rfl, g_at hd, ?_⟩
    refine ⟨_, rfl, _, _, rfl, rfl, _, rfl, st, _, rfl, p_at (b := (a : Int) + 1) hd, ?_⟩
    generalize eH1 : upd H st (.dK (stD c l ((a : Int) + 1))) = H1
    have hd1 : H1 st = some (.dK (stD c l ((a : Int) + 1))) := by rw [← eH1, upd_same]
    have hc1 : H1 c = some (.lst (cells.map V.int)) := by rw [← eH1, upd_ne nsc]; exact hc
    have hl1 : H1 l = some (.lst (lefts.map V.int)) := by rw [← eH1, upd_ne nsl]; exact hl
    have hdr1 : Dr st l H H1 := fun b o h1 h2 e => by rw [← eH1, upd_ne h1]; exact e
    have hL : (cells.map V.int).length = cells.length := List.length_map ..
    refine ⟨_, rfl, .inl ⟨_, rfl, _, rfl, st, _, rfl, g_cells hd1, c, _, rfl, .inl (sq_of hc1), _, _, rfl, rfl, by show (0 : Int) < ((cells.map V.int).length : Int); rw [hL]; omega, ?_⟩⟩
    have hp0 : 0 ≤ (a : Int) % ((cells.map V.int).length : Int) := Int.emod_nonneg _ (by rw [hL]; omega)
    have hp1 : (a : Int) % ((cells.map V.int).length : Int) < ((cells.map V.int).length : Int) := Int.emod_lt_of_pos _ (by rw [hL]; omega)
    obtain ⟨j, ej⟩ := Int.eq_ofNat_of_zero_le hp0
    have hj : j < cells.length := by rw [ej, hL] at hp1; omega
    have hj2 : j < lefts.length := by omega
    have gl : (lefts.map V.int)[j]? = some (.int lefts[j]) := by rw [List.getElem?_map, List.getElem?_eq_getElem hj2]; rfl
    have gc : (cells.map V.int)[j]? = some (.int cells[j]) := by rw [List.getElem?_map, List.getElem?_eq_getElem hj]; rfl
    have agl : atI (lefts.map V.int) ((a : Int) % ((cells.map V.int).length : Int)) = some (.int lefts[j]) := by rw [ej]; exact atI_nat gl
    have agc : atI (cells.map V.int) ((a : Int) % ((cells.map V.int).length : Int)) = some (.int cells[j]) := by rw [ej]; exact atI_nat gc
    have ail : ixN (lefts.map V.int).length ((a : Int) % ((cells.map V.int).length : Int)) = some j := by rw [ej]; exact ixN_nat (by rw [List.length_map]; exact hj2)
    refine ⟨_, rfl, st, _, rfl, g_lefts hd1, _, rfl, l, _, _, _, rfl, rfl, sq_of hl1, agl, ?_⟩
    have h0 : 0 ≤ lefts[j] := hpos _ (List.getElem_mem hj2)
    refine ⟨_, rfl, _, _, rfl, rfl, _, rfl, ?_⟩
    by_cases hgt : (0 : Int) < lefts[j]
    · rw [decide_eq_true hgt]
      refine iteT ⟨_, rfl, _, rfl, _, _, rfl, rfl, ⟨by omega, by omega⟩, ?_⟩
      refine ⟨_, rfl, st, _, rfl, g_lefts hd1, _, rfl, l, _, _, j, rfl, rfl, hl1, ail, ?_⟩
      refine ⟨_, rfl, .inl ⟨_, rfl, _, rfl, _, _, rfl, rfl, by show 0 < m; omega, ?_⟩⟩
      refine q _ _ (Int.emod_nonneg _ (by omega)) (Int.emod_lt_of_pos _ (by omega)) ⟨?_, ⟨cells, lefts.set j (lefts[j] / m), ?_, ?_, n1, n2, by rw [List.length_set]; exact n3, fun x hx => ?_⟩, ncl⟩ fun b o h1 h2 e => ?_
      · rw [upd_ne nsl.symm]
        exact hd1
      · rw [upd_ne ncl]
        exact hc1
      · rw [upd_same, ← List.map_set]
      · rcases List.mem_or_eq_of_mem_set hx with h | h
        · exact hpos x h
        · rw [h]
          exact Int.ediv_nonneg h0 (by omega)
      · rw [upd_ne h2]
        exact hdr1 b o h1 h2 e
    · rw [decide_eq_false hgt]
      refine iteF ?_
      have S1 : StAt H1 st c l (a + 1) := ⟨hd1, ⟨cells, lefts, hc1, hl1, n1, n2, n3, hpos⟩, ncl⟩
      refine ⟨_, rfl, st, _, rfl, g_cells hd1, _, rfl, c, _, _, _, rfl, rfl, sq_of hc1, agc, ?_⟩
      refine ⟨_, rfl, _, _, rfl, by omega, by omega, fun H2 e2 => ⟨_, rfl, _, _, rfl, rfl, ?_⟩⟩
      refine ⟨_, _, rfl, by omega, by omega, fun H3 e3 => ?_⟩
      have m0 := mixF_lo (mixF cells[j] (a : Int)) (40 + (a : Int))
      have m1 := mixF_hi (mixF cells[j] (a : Int)) (40 + (a : Int))
      refine ⟨_, rfl, _, _, rfl, rfl, .inl ⟨Int.lt_of_lt_of_le (by decide) m0, Int.lt_trans m1 (by decide)⟩, ?_⟩
      refine ⟨_, rfl, _, rfl, _, _, rfl, rfl, _, _, rfl, by omega, by omega, fun H4 e4 => ?_⟩
      refine ⟨_, _, rfl, rfl, .inl ⟨_, rfl, _, _, rfl, rfl, ⟨by decide, by decide⟩, _, rfl, _, _, rfl, rfl, by show 0 < m; omega, ?_⟩⟩
      exact q _ _ (Int.emod_nonneg _ (by omega)) (Int.emod_lt_of_pos _ (by omega)) (((S1.ex e2).ex e3).ex e4) (hdr1.trans (Dr.of ((e2.trans e3).trans e4)))
theorem ok_of (M : Ma K mg) : Dn P w K mg base "_law_of" 3 ["_law_state", "_law_some"] spOf := by
  obtain ⟨fd, F⟩ := M.d_LawOf
  refine Dn.of F M.g__law_of (fun _ _ _ _ _ _ us hl => match us, hl with | [_, _], _ => rfl) (F.ok scLawOf (fun vs H Q E h => ?_) (fun cdv A outer s H vs Q E hr h => ?_))
  · obtain ⟨st, c, l, p, a, xs, rfl, _⟩ := h
    rfl
  · obtain ⟨st, c, l, p, a, xs, rfl, S, ha, hp, npl, h1, h2, q⟩ := h
    refine ⟨_, pss_one (ps_ret (pe_ix ix_list (pv 1) (pe_dn (ok_draw M) hr passL (pa_cons (pv 0) (pa_cons (pe_callB call_len_seq (by rfl) M.n_len PySem.boot_len (pa_cons (pv 1) pa_nil)) pa_nil))) (fun _ _ => rfl))), ?_⟩
    refine ⟨_, rfl, _, rfl, _, rfl, p, _, rfl, .inl (sq_of hp), st, c, l, a, _, rfl, S, ha, by omega, by omega, fun v H' v0 v1 S' D' => ?_⟩
    obtain ⟨j, rfl⟩ := Int.eq_ofNat_of_zero_le v0
    have hj : j < xs.length := by omega
    have nps : p ≠ st := ne_of hp S.d (by intro z; cases z)
    exact ⟨p, xs, _, _, rfl, rfl, sq_of (D' p _ nps npl hp), atI_nat (List.getElem?_eq_getElem hj), q _ _ (List.getElem_mem hj) S' D'⟩
theorem ok_begin (M : Ma K mg) : Dn P w K mg base "_law_begin" 1 ["_law_script"] (spBegin K) := by
  obtain ⟨fd, F⟩ := M.d_LawBegin
  refine Dn.of F M.g__law_begin (fun _ _ _ _ _ _ us hl => match us, hl with | [_], _ => rfl) (F.ok scLawBegin (fun vs H Q E h => ?_) (fun cdv A outer s H vs Q E hr h => ?_))
  · obtain ⟨x, ns, rfl, _⟩ := h
    rfl
  · obtain ⟨x, ns, rfl, hs, hz, q⟩ := h
    refine ⟨_, (pss_cons (ps_set (i := 1) scLawBegin.nd rfl (.inl rfl) (pe_ifExp (pt_cmpR (op_neD hr.units) (pv 0) (pe_lst pa_nil) (nomark _)) (pe_callTy call_list_of (by rfl) M.n_list (by decide +kernel) (pa_cons (pv 0) pa_nil)) (pe_lst (pa_cons pe_int pa_nil)))) <|
      pss_one (ps_ret (pe_disp (pps_cons pe_str (pv 1) (pps_cons pe_str (pe_lc (own := [("_law_cell", 2)]) (g := gName 2) (tt := tYes) rfl scLawBegin.nd (pi_list (pv 1)) (blkOk_by (N := ["_law_script", "_law_cells", "_law_cell"]) (sc := defScope sLawBegin) (by decide +kernel))
          (fun _ _ _ _ _ => pg_name (i := 2) scLawBegin.nd rfl (Or.inl rfl)) (fun _ _ _ _ _ => pts_nil)
          (fun _ _ _ _ _ => pe_ifExp (pt_cmpR op_ge (pv 2) (pe_op op_pow pe_int pe_int) (nomark _)) (pv 2) pe_int))
        (pps_cons pe_str pe_int (pps_cons pe_str pe_int pps_nil)))) (by rfl) (by rfl) (fun z => by cases z) (by decide)))), ?_⟩
    have el_if : ∀ {t : TT} {ta tb : TE} {σ : L2.St} {H : Hp} {b : Bool} {xs : List V}, EvT t σ H b → (b = true → EvL ta σ H xs) → (b = false → EvL tb σ H xs) → EvL (tIf t ta tb) σ H xs := fun {t ta tb σ H b xs} h h1 h2 H1 e Q q => h H1 e _ fun H2 e2 => by
      cases b with
      | true =>
        show ta σ H2 Q
        exact h1 rfl H2 (e.trans e2) Q fun p H3 hp e3 h3 => q p H3 (fresh_back e2 hp) (e2.trans e3) h3
      | false =>
        show tb σ H2 Q
        exact h2 rfl H2 (e.trans e2) Q fun p H3 hp e3 h3 => q p H3 (fresh_back e2 hp) (e2.trans e3) h3
    generalize hcells : (if ns.isEmpty then [0] else ns) = cells
    have hlen : 1 ≤ cells.length ∧ cells.length ≤ 63 := by
      rw [← hcells]
      cases ns with
      | nil => simp
      | cons n r => simp at hz ⊢; omega
    refine q_asgL (xs := cells.map V.int) (el_if (b := !ns.isEmpty) (et_test (ev_opL (ev_var rfl) (el_lst ea_nil (by simp)) fun p H1 hp e1 => fun H2 e2 Q k => ⟨.list (ns.map PyData.int), .list [], .lst (ex_l (e1.trans e2) hs) (dp_ints ns), .lst (ex_l e2 (sq_of hp)) .nil,
      shaped_list (k := 0) (fun d hd => by obtain ⟨c, hc, rfl⟩ := List.mem_map.mp hd; exact ⟨rfl, Nat.le_refl _⟩) (by decide), shaped_nil, by rw [eqv_nil, List.isEmpty_map]; exact k H2 (Ex.refl H2)⟩)) (fun hb => ?_) fun hb => ?_) fun c H1 nc e1 h1 => ?_
    · have e : cells = ns := by
        rw [← hcells]
        cases ns with
        | nil => simp at hb
        | cons n r => rfl
      rw [e]
      exact el_list (ev_var rfl) hs
    · have e : cells = [0] := by
        rw [← hcells]
        cases ns with
        | nil => rfl
        | cons n r => simp at hb
      rw [e]
      exact el_lst (ea_cons ev_c ea_nil) (by simp)
    intro st hst
    have ncs : c ≠ st := ne_of_none h1 hst
    have e2 : Ex H1 (upd H1 st (.dK [])) := Ex.new hst
    refine ⟨_, rfl, ?_⟩
    simp only [tPairs, tC]
    refine el_lcLm (σ := [some (.ref x), some (.ref c), none]) (vs := [2]) (j := 2) (xs := cells) (enc := V.int) (f := fun x => V.int (if (10 : Int) ^ 18 ≤ x then x else 0)) (ev_var (i := 1) rfl) (sq_of (e2 _ _ h1)) (by omega) (fun _ => rfl) (fun x H2 hx e3 => ?_) _ (Ex.refl _) _ fun l H3 nl e3 h3 => ?_
    · refine ev_is (v := .int (if (10 : Int) ^ 18 ≤ x then x else 0)) (ev_if (b := decide ((10 : Int) ^ 18 ≤ x)) (et_test (ev_op (ev_var rfl) (ev_op ev_c ev_c (rv_I (C := CPow) (g := fun i j => .int (i ^ j.toNat)) ⟨by decide, by decide, by decide⟩)) (rv_I0 (g := fun i j => .bl (decide (j ≤ i)))))) (fun h => ?_) fun h => ?_) rfl
      · rw [if_pos (of_decide_eq_true h)]
        exact ev_var rfl
      · rw [if_neg (of_decide_eq_false h)]
        exact ev_c
    · have hst3 : H3 st = some (.dK []) := e3 _ _ upd_same
      have hc3 : H3 c = some (.lst (cells.map V.int)) := e3 _ _ (e2 _ _ h1)
      have ncl : c ≠ l := ne_of_none (e2 _ _ h1) nl
      have nls : l ≠ st := fun e => by rw [e, upd_same] at nl; cases nl
      refine ⟨hst3, stD c l 0, rfl, by show 4 ≤ 15; decide, ?_⟩
      have em : mergeK [] (stD c l 0) = stD c l 0 := rfl
      rw [em]
      have hst0 : H st = none := fresh_back e1 hst
      refine q st c l _ (fun b o e => ?_) ⟨upd_same, ⟨cells, cells.map fun x => if (10 : Int) ^ 18 ≤ x then x else 0, by rw [upd_ne ncs]; exact hc3, by rw [upd_ne nls, h3, List.map_map]; rfl, hlen.1, by omega, List.length_map .., fun x hx => ?_⟩, ncl⟩ hst0 nc (fresh_back (e1.trans e2) nl)
      · rw [upd_ne (ne_of_none e hst0)]
        exact e3 _ _ (e2 _ _ (e1 _ _ e))
      · obtain ⟨y, _, rfl⟩ := List.mem_map.mp hx
        split
        · rename_i h
          exact Int.le_trans (by decide) h
        · exact Int.le_refl 0
end
end SL
end
section
set_option Elab.async false
set_option linter.all false
set_option maxRecDepth 100000
set_option maxHeartbeats 4000000
/-! tuple * int for 0, 1 and more. -/
namespace L2
open PySem PySem.Spec PyProof.Rows
theorem sl_tuple_mul1 (l : Addr) (items : Array Value) (n : Nat) (dd : Option Addr) (sl : Array (Option Value)) (u : Tok) :
    Meets (Builtin.«tuple.__mul__» ⟨[.ref l, .int 1 u], []⟩) (fun _ R s => s.heap.get? l = some { cls := .type "tuple", dict := dd, data := .seq items n, slots := sl } ∧
      R (.ok (.ret (Value.ref l))) s) :=
  .of_wp fun prog w A R s h => by
    obtain ⟨hp, g, d, tk, os⟩ := s
    obtain ⟨hl, h⟩ := h
    have f1 := AutoSeq1.idx_int
    have c1 : (items.isEmpty || (1 : Int) == 1) = true := by simp
    wp_walk using wpAny_loadPart' hl
    all_goals first
      | exact ⟨_, rfl, h⟩
      | (refine wpAny_ite_true (decide_eq_true (by rw [c1])) ?_; wp_walk using wpAny_loadPart' hl; exact ⟨_, rfl, h⟩)
theorem sl_tuple_mul0 (l : Addr) (items : Array Value) (n : Nat) (dd : Option Addr) (sl : Array (Option Value)) (u : Tok) (hne : items.isEmpty = false) :
    Meets (Builtin.«tuple.__mul__» ⟨[.ref l, .int 0 u], []⟩) (fun _ R s => s.heap.get? l = some { cls := .type "tuple", dict := dd, data := .seq items n, slots := sl } ∧
      R (.ok (.ret (Value.ref s.heap.objs.size))) { s with heap := s.heap.push { cls := Value.type "tuple", data := Data.seq #[] }, toks := s.toks }) :=
  .of_wp fun prog w A R s h => by
    obtain ⟨hp, g, d, tk, os⟩ := s
    obtain ⟨hl, h⟩ := h
    have f1 := AutoSeq1.idx_int
    have c1 : (items.isEmpty || (0 : Int) == 1) = false := by rw [hne]; rfl
    have c2 : (decide ((0 : Int) ≤ 0) || items.isEmpty) = true := by simp
    wp_walk using wpAny_loadPart' hl
    repeat (first
      | (refine wpAny_ite_false (decide_eq_false (by rw [c1]; exact Bool.false_ne_true)) ?_; wp_walk using wpAny_loadPart' hl)
      | (refine wpAny_ite_true (decide_eq_true (by rw [c2])) ?_; wp_walk using wpAny_loadPart' hl))
    exact ⟨_, rfl, h⟩
/-- t * k, 0 ≤ k, t not empty: by 1 it is t itself -/
def rRepA (K : PySem.W.Frag) : R2 := fun x y H Q => ∃ l k xs, x = .ref l ∧ y = .int k ∧ SqT K H l xs ∧ xs ≠ [] ∧ 0 ≤ k ∧ k ≤ 1000 ∧ xs.length ≤ 1000 ∧ (k = 1 → Q (.ref l) H) ∧ (k ≠ 1 → ∀ p, H p = none → Q (.ref p) (upd H p (.tup (List.replicate k.toNat xs).flatten)))
section
variable {X : Cx}
theorem op_repA : OpR X (binaryOp .Mult) (rRepA X.K) := by
  intro pins s σ H x y v u Q I rx ry h
  obtain ⟨l, k, xs, rfl, rfl, hT, hne, h1, h2, hz, q1, q2⟩ := h
  by_cases h3 : 2 ≤ k
  · exact op_repT pins s σ H _ _ v u Q I rx ry ⟨l, k, xs, rfl, rfl, hT, hne, h3, h2, hz, q2 (by omega)⟩
  · cases rx
    obtain ⟨t, rfl⟩ := ry
    obtain ⟨its, r, ⟨⟨cls, dd, data, sl⟩, ho, hc, n, hd⟩, hs⟩ := I.tuple hT
    simp only at hc hd
    subst hc hd
    have hle : its.length = xs.length := r.length.symm
    have hn : its ≠ [] := fun e => hne (by
      rw [e] at hle
      exact List.eq_nil_of_length_eq_zero hle.symm)
    have hi : its.toArray.isEmpty = false := by
      cases its with
      | nil => exact absurd rfl hn
      | cons a b => rfl
    have hk : k = 0 ∨ k = 1 := by omega
    rcases hk with rfl | rfl
    · refine wpAny_binaryOp_repeat_ref (T := "tuple") (U := "int") (by decide) ⟨_, ho, rfl⟩ (fun s' => typeIs_int s' 0 t) noFill_tuple_mul F.fills_int_mul F.slot_int_rmul repeat_tuple F.slot_int_index.lookup
        (call_meets F.slot_int_rmul (typeIs_int s 0 t) F.entry_int_rmul (F.args_int_rmul_2 _ _) (int_rmul_tuple 0 t l its.toArray n dd sl)
          ⟨ho, rfl, ⟨_, ho, rfl⟩, call_meets F.slot_tuple_mul ⟨_, ho, rfl⟩ F.entry_tuple_mul (F.args_tuple_mul_2 _ _) (sl_tuple_mul0 l its.toArray n dd sl t hi) ⟨ho, ?_⟩⟩)
      have q := q2 (by decide) s.heap.objs.size (I.hok.fresh (Nat.le_refl _))
      refine ⟨.ref s.heap.objs.size, _, I.laid (t' := s.toks) (o := .tup []) (fun b ob q => Heap.get?_push_of_some _ q) (Nat.le_refl _) ?_, rfl, q⟩
      exact ⟨Nat.zero_le _, [], .nil, IsTup.new _ _⟩
    · refine wpAny_binaryOp_repeat_ref (T := "tuple") (U := "int") (by decide) ⟨_, ho, rfl⟩ (fun s' => typeIs_int s' 1 t) noFill_tuple_mul F.fills_int_mul F.slot_int_rmul repeat_tuple F.slot_int_index.lookup
        (call_meets F.slot_int_rmul (typeIs_int s 1 t) F.entry_int_rmul (F.args_int_rmul_2 _ _) (int_rmul_tuple 1 t l its.toArray n dd sl)
          ⟨ho, rfl, ⟨_, ho, rfl⟩, call_meets F.slot_tuple_mul ⟨_, ho, rfl⟩ F.entry_tuple_mul (F.args_tuple_mul_2 _ _) (sl_tuple_mul1 l its.toArray n dd sl t) ⟨ho, ?_⟩⟩)
      exact ⟨.ref l, H, I, rfl, q1 rfl⟩
end
end L2
namespace SL
open PySem PySem.Spec PyProof.Rows L2 Evl
section
variable {K : PySem.W.Frag} {σ : L2.St} {H : Hp} {ta tb te tx tc : TE}
/-- an expression gives a tuple of xs, at any address -/
def EvT' (K : PySem.W.Frag) (te : TE) (σ : L2.St) (H : Hp) (xs : List V) : Prop := ∀ H1, Ex H H1 → ∀ Q : VK, (∀ p H2, Ex H1 H2 → SqT K H2 p xs → Q (.ref p) H2) → te σ H1 Q
theorem evt_ev {a : Addr} {xs : List V} (h : Ev te σ H (.ref a)) (hs : SqT K H a xs) : EvT' K te σ H xs := fun H1 e Q q => h H1 e _ fun H2 e2 => q a H2 e2 (ex_t (e.trans e2) hs)
theorem evt_evu {xs : List V} (h : EvU te σ H xs) : EvT' K te σ H xs := fun H1 e Q q => h H1 e _ fun p H2 _ e2 h2 => q p H2 e2 (st_of h2)
theorem evt_rep {xs : List V} {k : Int} (h : EvT' K ta σ H xs) (hb : Ev tb σ H (.int k)) (hne : xs ≠ []) (h0 : 0 ≤ k) (h1 : k ≤ 1000) (hz : xs.length ≤ 1000) : EvT' K (tOp (rRepA K) ta tb) σ H (List.replicate k.toNat xs).flatten := fun H1 e Q q =>
  h H1 e _ fun p H2 e2 h2 => hb H2 (e.trans e2) _ fun H3 e3 => ⟨p, k, xs, rfl, rfl, ex_t e3 h2, hne, h0, h1, hz, fun hk => q p H3 (e2.trans e3) (by rw [hk]; simp; exact ex_t e3 h2), fun _ r hr => q r _ ((e2.trans e3).trans (Ex.new hr)) (st_of upd_same)⟩
theorem evt_cat {xs ys : List V} (h : EvT' K ta σ H xs) (hb : EvT' K tb σ H ys) (hz : xs.length + ys.length ≤ 100000) : EvT' K (tOp (rCatA K) ta tb) σ H (xs ++ ys) := fun H1 e Q q =>
  h H1 e _ fun p H2 e2 h2 => hb H2 (e.trans e2) _ fun r H3 e3 h3 => ⟨p, r, xs, ys, rfl, rfl, ex_t e3 h2, h3, sz_of hz, fun hx => q r H3 (e2.trans e3) (by rw [hx]; exact h3), fun _ hy => q p H3 (e2.trans e3) (by rw [hy, List.append_nil]; exact ex_t e3 h2), fun _ _ t ht => q t _ ((e2.trans e3).trans (Ex.new ht)) (st_of upd_same)⟩
theorem evt_sl {xs : List V} {tl th : TO} {lo hi : Option Int} (h : EvT' K te σ H xs) (h1 : EvO tl σ H lo) (h2 : EvO th σ H hi) : EvT' K (tSl (rSlA K) te tl th) σ H (cutV xs lo hi) := fun H1 e Q q =>
  h H1 e _ fun p H2 e2 hp => h1 H2 (e.trans e2) _ fun H3 e3 => h2 H3 ((e.trans e2).trans e3) _ fun H4 e4 => ⟨p, xs, rfl, ex_t (e3.trans e4) hp, fun hw => q p H4 ((e2.trans e3).trans e4) (by
    have : cutV xs lo hi = xs := by
      unfold cutV
      rw [hw.1, hw.2]
      simp
    rw [this]
    exact ex_t (e3.trans e4) hp), fun _ r hr => q r _ (((e2.trans e3).trans e4).trans (Ex.new hr)) (st_of upd_same)⟩
/-- tuple([..]) of a new list -/
theorem evt_tuple {xs : List V} (h : EvL ta σ H xs) : EvT' K (tCB (fun xs H Q => ∃ p ys, xs = [.ref p] ∧ ((SqL K H p ys ∧ ∀ l, H l = none → Q (.ref l) (upd H l (.tup ys))) ∨ (SqT K H p ys ∧ Q (.ref p) H))) (tCons ta tNil)) σ H xs := fun H1 e Q q =>
  h H1 e _ fun p H2 _ e2 h2 => ⟨p, xs, rfl, .inl ⟨sq_of h2, fun l hl => q l _ (e2.trans (Ex.new hl)) (st_of upd_same)⟩⟩
end
end SL
end
section
set_option Elab.async false
set_option linter.all false
set_option maxRecDepth 100000
set_option maxHeartbeats 2000000
/-! sorted of a list of tuples of numbers. -/
namespace SL
open PySem PySem.Spec PyProof.Rows L2 Evl PySem.W
theorem leT_iff : ∀ a b : List Int, leT a b = !decide (b < a)
  | [], [] => by simp [leT]
  | [], _ :: _ => by simp [leT]
  | _ :: _, [] => by simp [leT]
  | x :: xs, y :: ys => by
    unfold leT
    by_cases h : x = y
    · rw [if_pos h, leT_iff xs ys]
      simp [h, List.cons_lt_cons_iff]
    · rw [if_neg h]
      have h' : ¬ y = x := fun e => h e.symm
      by_cases h2 : x ≤ y
      · have h3 : ¬ y < x := by omega
        simp [h2, h3, h', List.cons_lt_cons_iff]
      · have h3 : y < x := by omega
        simp [h2, h3, List.cons_lt_cons_iff]
def leP (p q : Addr × List Int) : Bool := leT p.2 q.2
theorem dataLe_tups : dataLe false (fun b : Addr × List Int => PyData.tuple (b.2.map .int)) = leP := by
  funext p q
  show (!dataLt (.tuple (q.2.map .int)) (.tuple (p.2.map .int))) = _
  rw [dataLt_tuple]
  show (!rowLt (q.2.map .int) (p.2.map .int)) = _
  rw [dataLt_ints]
  unfold leP
  rw [leT_iff]
def rSortedR (K : PySem.W.Frag) : List V → Hp → VK → Prop := fun vs H Q => ∃ (a : Addr) (ps : List (Addr × List Int)), vs = [V.ref a] ∧ SqL K H a (rv ps) ∧ RowsAt K H ps ∧ (∀ p ∈ ps, p.2 ≠ []) ∧
  ∀ p, H p = none → Q (.ref p) (upd H p (.lst (rv (ps.mergeSort leP))))
theorem each_refs : ∀ (ps : List (Addr × List Int)) {us : List Value}, Vals (rv ps) us → EachIs (fun (v : Value) (b : Addr × List Int) => v = .ref b.1) us ps
  | [], _, h => by cases h; exact .nil
  | p :: ps, _, h => by
    cases h with
    | cons r t => exact .cons r (each_refs ps t)
theorem vals_refs : ∀ (ps : List (Addr × List Int)) {us : List Value}, EachIs (fun (v : Value) (b : Addr × List Int) => v = .ref b.1) us ps → Vals (rv ps) us
  | [], _, h => by cases h; exact .nil
  | p :: ps, _, h => by
    cases h with
    | cons r t => exact .cons r (vals_refs ps t)
section
variable {X : Cx}
theorem reads_refs {pins : List (Addr × Obj)} {σ : L2.St} {H : Hp} {s : Shared} (I : L2.Inv X pins σ H s) : ∀ (ps : List (Addr × List Int)) {us : List Value}, RowsAt X.K H ps → Vals (rv ps) us → EachIs (fun (v : Value) (b : Addr × List Int) => ∃ as, Reads s.heap v (PyData.tuple (b.2.map .int)) as) us ps
  | [], _, _, h => by cases h; exact .nil
  | p :: ps, _, hR, h => by
    cases h with
    | cons r t =>
      refine .cons ?_ (reads_refs I ps (fun q hq => hR q (List.mem_cons_of_mem _ hq)) t)
      have : DpAll X.K H (p.2.map V.int) (p.2.map PyData.int) := by
        generalize p.2 = ns
        induction ns with
        | nil => exact .nil
        | cons n ns ih => exact .cons (.int n) ih
      exact Dp.reads I (.tuple (p.2.map .int)) (.ref p.1) _ (.tup (hR p (List.mem_cons_self ..)) this) r
theorem cr_sortedR (hu : X.A.units + 64 < cLine) : CallR X (.builtin "sorted") (rSortedR X.K) := by
  intro pins s σ H vs us Q I r h
  obtain ⟨a, ps, rfl, hs, hR, hne, q⟩ := h
  obtain ⟨its, rvs, hl, hz⟩ := I.list hs
  rw [Vals.ref1 r]
  have hlen : ps.length ≤ sizeLine := by rw [rv_len] at hz; exact hz
  refine sorted_data (R := fun (v : Value) (b : Addr × List Int) => v = .ref b.1) (enc := fun b => PyData.tuple (b.2.map .int)) (bs := ps) hl.isList (each_refs ps rvs) (reads_refs I ps hR rvs)
    (AllAlike.of fun b b' => by rw [PySem.W.alike]; exact alike_ints _ _) (.inl fun d hd => ?_) hlen (fun b hb => ?_) fun out ho eo => ?_
  · obtain ⟨b, hb, rfl⟩ := List.mem_map.mp hd
    cases hb2 : b.2 with
    | nil => exact absurd hb2 (hne b hb)
    | cons x xs => exact ⟨_, _, rfl⟩
  · have : (PyData.tuple (b.2.map .int)).depth ≤ 1 := by
      simp only [PyData.depth]
      have : ∀ ns : List Int, PyData.depthAll (ns.map .int) = 0 := fun ns => by
        induction ns with
        | nil => rfl
        | cons n ns ih => simp [PyData.depthAll, PyData.depth, ih]
      rw [this]
      exact Nat.le_refl _
    omega
  · rw [dataLe_tups] at eo
    obtain ⟨ep, he'⟩ := PyProof.Rows.sortedAll_at s.heap its out.toArray
    have hl2 : (rv (ps.mergeSort leP)).length ≤ sizeLine := by rw [rv_len, List.length_mergeSort]; exact hlen
    exact ⟨.ref _, upd H (s.heap.objs.size + 1) (.lst (rv (ps.mergeSort leP))), I.laid (t' := s.toks) (fun _ _ => PyProof.Rows.sortedAll_old) (Nat.le_succ _) ⟨hl2, out, ep, vals_refs _ eo, he'⟩, rfl, q _ (I.hok.fresh (Nat.le_succ _))⟩
end
/-! ### the order -/
theorem leT_trans (a b c : List Int) (h1 : leT a b = true) (h2 : leT b c = true) : leT a c = true := by
  rw [leT_iff] at h1 h2 ⊢
  simp only [Bool.not_eq_true', decide_eq_false_iff_not, List.not_lt] at h1 h2 ⊢
  exact List.le_trans h1 h2
theorem leT_total (a b : List Int) : leT a b = true ∨ leT b a = true := by
  rw [leT_iff, leT_iff]
  simp only [Bool.not_eq_true', decide_eq_false_iff_not, List.not_lt]
  exact List.le_total a b
theorem leT_anti {a b : List Int} (h1 : leT a b = true) (h2 : leT b a = true) : a = b := by
  rw [leT_iff] at h1 h2
  simp only [Bool.not_eq_true', decide_eq_false_iff_not, List.not_lt] at h1 h2
  exact List.le_antisymm h1 h2
def sortL (rows : List (List Int)) : List (List Int) := rows.mergeSort leT
theorem sort_rows (ps : List (Addr × List Int)) : rw' (ps.mergeSort leP) = sortL (rw' ps) := by
  unfold rw' sortL
  exact sort_maps Prod.snd fun a _ b _ => rfl
theorem sortL_perm (rows : List (List Int)) : (sortL rows).Perm rows := List.mergeSort_perm ..
theorem sortL_sorted (rows : List (List Int)) : (sortL rows).Pairwise (fun a b => leT a b = true) :=
  List.pairwise_mergeSort (fun a b c => leT_trans a b c) (fun a b => by simpa using leT_total a b) rows
/-- strictly ascending -/
def Asd (rows : List (List Int)) : Prop := rows.Pairwise (fun a b => leT b a = false)
theorem sortL_asd {rows : List (List Int)} (h : rows.Nodup) : Asd (sortL rows) := by
  have h1 := sortL_sorted rows
  have h2 : (sortL rows).Nodup := (sortL_perm rows).nodup_iff.mpr h
  refine (h1.and h2).imp fun {a b} hab => ?_
  cases h3 : leT b a with
  | false => rfl
  | true => exact absurd (leT_anti hab.1 h3) hab.2
end SL
end
section
set_option Elab.async false
set_option linter.all false
set_option maxRecDepth 100000
set_option maxHeartbeats 4000000
/-! Dicts whose keys are None and tuples, all values True: the find, the store. -/
namespace DKN
open PySem
open Sem (wp)
/-- None, or a tuple -/
def OkK (h : Heap) (k : NestedKey) (v : Value) : Prop := NestedIs h k v ∧ k.depth ≤ 8 ∧ (v = .none ∨ ∃ a, v = .ref a)
def en (w : World) (x : NestedKey × Value) : DictEntry := ⟨x.1.hash w, x.2, .bool true⟩
section
variable {prog : Program} {w : World} {A : Around} {E : Value → Shared → Prop} {s : Shared}
theorem en_at {es : Array DictEntry} {xs : List (NestedKey × Value)} (he : es.toList = xs.map (en w)) (j : Nat) : es[j]? = (xs[j]?).map (en w) := by
  rw [← Array.getElem?_toList, he, List.getElem?_map]
theorem en_size {es : Array DictEntry} {xs : List (NestedKey × Value)} (he : es.toList = xs.map (en w)) : es.size = xs.length := by
  rw [← Array.length_toList, he, List.length_map]
theorem uniq {xs : List (NestedKey × Value)} (hn : (xs.map (·.1)).Nodup) : ∀ {i j : Nat} {k : NestedKey} {p q : Value}, xs[i]? = some (k, p) → xs[j]? = some (k, q) → i = j := by
  intro i j k p q hi hj
  have hi' : (xs.map (·.1))[i]? = some k := by rw [List.getElem?_map, hi]; rfl
  have hj' : (xs.map (·.1))[j]? = some k := by rw [List.getElem?_map, hj]; rfl
  exact (List.getElem?_inj (List.getElem?_eq_some_iff.mp hi').1 hn).mp (hi'.trans hj'.symm)
theorem may_quiet {key : Value} {k : NestedKey} {stored : List Value} {Q : Bool → Shared → Prop} (hkey : OkK s.heap k key)
    (hst : ∀ v ∈ stored, ∃ k', OkK s.heap k' v) (h : Q false s) : wpAny (model prog w) A (tableMayTell key stored) Q E s := by
  unfold tableMayTell
  split
  · exact wpAny_pure h
  · refine wpAny_bind (quiet_key k key 8 s hkey.1 hkey.2.1 A E _ ?_)
    simp only [Bool.not_true, Bool.false_eq_true, if_false]
    refine wpAny_bind ?_
    refine wpAny_forIn_list _ (fun rest r s' => s' = s ∧ r = (none, ()) ∧ ∀ v ∈ rest, ∃ k', OkK s.heap k' v) _ ?_ ?_ _ _ ⟨rfl, rfl, hst⟩
    · rintro x rest r s' ⟨rfl, rfl, hr⟩
      obtain ⟨k', hb⟩ := hr x List.mem_cons_self
      refine wpAny_bind (quiet_key k' x 8 _ hb.1 hb.2.1 A E _ ?_)
      simp only [Bool.not_true, Bool.false_eq_true, if_false]
      exact wpAny_pure ⟨rfl, rfl, fun v hv => hr v (List.mem_cons_of_mem _ hv)⟩
    · rintro r s' ⟨rfl, rfl, _⟩
      exact wpAny_pure h
theorem find {d : Addr} {o : Obj} {es ep} {xs : List (NestedKey × Value)} {k : NestedKey} {key : Value} {Q : Option Nat → Shared → Prop} (hu : A.units + 8 < cLine) (hkey : OkK s.heap k key)
    (ho : s.heap.get? d = some o) (hd : o.data = .dict es ep) (he : es.toList = xs.map (en w)) (his : ∀ x ∈ xs, OkK s.heap x.1 x.2) (hn : (xs.map (·.1)).Nodup)
    (hnone : (∀ (j : Nat) (p : Value), xs[j]? ≠ some (k, p)) → Q none s) (hsome : ∀ (j : Nat) (p : Value), xs[j]? = some (k, p) → Q (some j) s) :
    wpAny (model prog w) A (dictFind d key (k.hash w)) Q E s := by
  have hsz : es.size = xs.length := en_size he
  have haskey : ∀ (j : Nat) (p : Value), xs[j]? = some (k, p) → ((es[j]?.map (·.hash)) == some (k.hash w)) = true := by
    intro j p hj
    rw [en_at he j, hj]
    simp [en]
  have hmem : ∀ e ∈ es, ∃ x ∈ xs, e = en w x := by
    intro e hin
    have : e ∈ xs.map (en w) := he ▸ Array.mem_toList_iff.mpr hin
    obtain ⟨x, hx, rfl⟩ := List.mem_map.mp this
    exact ⟨x, hx, rfl⟩
  have hany : ¬ (es.any fun e => e.key == key && e.hash != k.hash w) = true := by
    rw [← Array.any_toList, List.any_eq_true]
    rintro ⟨e, hin, hc⟩
    obtain ⟨x, hx, rfl⟩ := hmem e (Array.mem_toList_iff.mp hin)
    simp only [en, Bool.and_eq_true, beq_iff_eq, bne_iff_ne, ne_eq] at hc
    obtain ⟨hxa, hne⟩ := hc
    have := his x hx
    rw [hxa] at this
    exact hne (by rw [NestedIs.inj _ _ _ this.1 hkey.1])
  have hst : ∀ v ∈ (placesWithHash es.size (fun i => es[i]?.map (·.hash)) (k.hash w)).filterMap (fun i => es[i]?.map (·.key)), ∃ k', OkK s.heap k' v := by
    intro v hv
    obtain ⟨i, _, hi⟩ := List.mem_filterMap.mp hv
    cases hei : es[i]? with
    | none => rw [hei] at hi; cases hi
    | some e =>
      rw [hei] at hi
      obtain rfl : e.key = v := by simpa using hi
      obtain ⟨x, hx, rfl⟩ := hmem e (Array.mem_of_getElem? hei)
      exact ⟨x.1, his x hx⟩
  have hset : ∀ {x i : Nat} {hit : Option Nat}, (∀ j, i ≤ j → j < x → ((es[j]?.map (·.hash)) == some (k.hash w)) = false) →
      ((hit = none ∧ ∀ j p, j < i → xs[j]? ≠ some (k, p)) ∨ ∃ j p, hit = some j ∧ j < i ∧ xs[j]? = some (k, p)) → i ≤ x →
      ((hit = none ∧ ∀ j p, j < x → xs[j]? ≠ some (k, p)) ∨ ∃ j p, hit = some j ∧ j < x ∧ xs[j]? = some (k, p)) := by
    intro x i hit hskip hH hix
    rcases hH with ⟨h0, hno⟩ | ⟨j, p, h1, hji, hj⟩
    · refine .inl ⟨h0, fun j p hjx hj => ?_⟩
      rcases Nat.lt_or_ge j i with h | h
      · exact hno j p h hj
      · have := hskip j h hjx
        rw [haskey j p hj] at this
        exact absurd this (by decide)
    · exact .inr ⟨j, p, h1, by omega, hj⟩
  have hend : ∀ {i : Nat}, (∀ j, i ≤ j → j < es.size → ((es[j]?.map (·.hash)) == some (k.hash w)) = false) → (∀ j p, j < i → xs[j]? ≠ some (k, p)) → ∀ (j : Nat) (p : Value), xs[j]? ≠ some (k, p) := by
    intro i hall hno j p hj
    rcases Nat.lt_or_ge j i with h | h
    · exact hno j p h hj
    · have hjl : j < es.size := by
        rw [hsz]
        rcases Nat.lt_or_ge j xs.length with h' | h'
        · exact h'
        · rw [List.getElem?_eq_none h'] at hj; exact nomatch hj
      have := hall j h hjl
      rw [haskey j p hj] at this
      exact absurd this (by decide)
  have heq : ∀ {k' : NestedKey} {v' : Value} {Q' : Bool → Shared → Prop}, OkK s.heap k' v' → Q' (decide (k' = k)) s → wpAny (model prog w) A (eqBool v' key) Q' E s := fun {k' v' Q'} h q =>
    eqAt_key k' k A s _ _ h.1 hkey.1 (by have := h.2.1; have := hkey.2.1; omega) _ _ _ _ (by rw [← NestedKey.decide_eq]; exact q)
  rcases hkey.2.2 with rfl | ⟨a, rfl⟩
  · unfold dictFind
    try with_reducible refine wpAny_holding ?_
    refine wpAny_bind (wpAny_dictEntries ho hd ?_)
    dsimp only
    by_cases hall : ((Value.none :: (placesWithHash es.size (fun i => es[i]?.map (·.hash)) (k.hash w)).filterMap (fun i => es[i]?.map (·.key))).all carriedByValue) = true
    · rw [if_pos hall]
      unfold dictWalkPlain
      refine wpAny_bind ?_
      refine wpAny_forIn_list _
        (fun rest b s' => s' = s ∧ ∃ i, b = (none, ()) ∧ rest = (List.range' i (es.size - i)).filter (fun i => (es[i]?.map (·.hash)) == some (k.hash w)) ∧ i ≤ es.size ∧ (∀ j p, j < i → xs[j]? ≠ some (k, p))) _ ?_ ?_ _ _
        ⟨rfl, 0, rfl, by rw [placesWithHash, List.range_eq_range', Nat.sub_zero], Nat.zero_le _, fun _ _ h => absurd h (Nat.not_lt_zero _)⟩
      · rintro x rest b s' ⟨rfl, i, rfl, hr, hi, hno⟩
        obtain ⟨hix, hxn, hpx, hskip, hrest⟩ := filter_range'_cons _ _ _ _ _ hr.symm
        have hlt : x < es.size := by omega
        have hrest' : rest = (List.range' (x + 1) (es.size - (x + 1))).filter (fun i => (es[i]?.map (·.hash)) == some (k.hash w)) := by rw [hrest]; congr 2; omega
        obtain ⟨⟨k', v'⟩, hkv⟩ : ∃ y, xs[x]? = some y := ⟨xs[x]'(by rw [← hsz]; exact hlt), List.getElem?_eq_getElem _⟩
        have hib : OkK _ k' v' := his _ (List.mem_of_getElem? hkv)
        have hex : es[x]? = some ⟨k'.hash w, v', .bool true⟩ := by rw [en_at he x, hkv]; rfl
        have hstay : ¬ k' = k → ∀ j p, j < x + 1 → xs[j]? ≠ some (k, p) := by
          intro hne j p hjx hj
          rcases Nat.lt_or_ge j i with h | h
          · exact hno j p h hj
          · rcases Nat.lt_or_ge j x with h2 | h2
            · have := hskip j h h2
              rw [haskey j p hj] at this
              exact absurd this (by decide)
            · have hjx' : j = x := by omega
              subst hjx'
              rw [hkv] at hj
              injection hj with hj
              injection hj with hj
              exact hne hj
        rw [hex]
        dsimp only
        by_cases hh : (k'.hash w == k.hash w) = true
        · rw [if_pos hh]
          refine wpAny_bind (wpAny_dictEpoch ho hd (wpAny_bind (heq hib (wpAny_bind (wpAny_dictEpoch ho hd ?_)))))
          show wpAny _ _ (if (ep != ep) = true then _ else _) _ E _
          rw [if_neg (by simp)]
          by_cases hkk : k' = k
          · rw [decide_eq_true hkk]
            subst hkk
            first | rw [if_pos rfl] | simp only [if_true] | skip
            exact wpAny_bind (wpAny_rule (wpAny_pure (wpAny_pure (hsome x _ hkv))))
          · rw [decide_eq_false hkk]
            simp only [Bool.false_eq_true, if_false]
            exact wpAny_bind (wpAny_rule (wpAny_pure ⟨rfl, x + 1, rfl, hrest', hlt, hstay hkk⟩))
        · rw [if_neg hh]
          exact wpAny_pure ⟨rfl, x + 1, rfl, hrest', hlt, hstay fun hkk => by rw [hkk] at hh; simp at hh⟩
      · rintro b s' ⟨rfl, i, rfl, hr, hi, hno⟩
        have hall' : ∀ j, i ≤ j → j < es.size → ((es[j]?.map (·.hash)) == some (k.hash w)) = false := by
          intro j h1 h2
          have := List.filter_eq_nil_iff.mp hr.symm j (List.mem_range'_1.mpr ⟨h1, by omega⟩)
          simpa using this
        exact wpAny_pure (hnone (hend hall' hno))
    · rw [if_neg hall]
      by_cases hone : (((placesWithHash es.size (fun i => es[i]?.map (·.hash)) (k.hash w)).filterMap (fun i => es[i]?.map (·.key))) == [Value.none]) = true <;>
      (first | rw [if_pos hone] | rw [if_neg hone]) <;> (first | refine wpAny_bind (wpAny_pure ?_) | refine wpAny_bind (may_quiet hkey hst ?_)) <;> (
        rw [if_neg (by simp)]
        refine wpAny_bind ?_
        refine wpAny_forIn_list _
          (fun rest b s' => s' = s ∧ ∃ i hit, b = (none, hit) ∧ rest = (List.range' i (es.size - i)).filter (fun i => (es[i]?.map (·.hash)) == some (k.hash w)) ∧ i ≤ es.size ∧
            ((hit = none ∧ ∀ j p, j < i → xs[j]? ≠ some (k, p)) ∨ ∃ j p, hit = some j ∧ j < i ∧ xs[j]? = some (k, p))) _ ?_ ?_ _ _
          ⟨rfl, 0, none, rfl, by rw [placesWithHash, List.range_eq_range', Nat.sub_zero], Nat.zero_le _, .inl ⟨rfl, fun _ _ h => absurd h (Nat.not_lt_zero _)⟩⟩
        · rintro x rest b s' ⟨rfl, i, hit, rfl, hr, hi, hH⟩
          obtain ⟨hix, hxn, hpx, hskip, hrest⟩ := filter_range'_cons _ _ _ _ _ hr.symm
          have hlt : x < es.size := by omega
          have hrest' : rest = (List.range' (x + 1) (es.size - (x + 1))).filter (fun i => (es[i]?.map (·.hash)) == some (k.hash w)) := by rw [hrest]; congr 2; omega
          obtain ⟨⟨k', v'⟩, hkv⟩ : ∃ y, xs[x]? = some y := ⟨xs[x]'(by rw [← hsz]; exact hlt), List.getElem?_eq_getElem _⟩
          have hib : OkK _ k' v' := his _ (List.mem_of_getElem? hkv)
          have hex : es[x]? = some ⟨k'.hash w, v', .bool true⟩ := by rw [en_at he x, hkv]; rfl
          have hHx := hset hskip hH hix
          have hstay : ¬ k' = k → ((hit = none ∧ ∀ j p, j < x + 1 → xs[j]? ≠ some (k, p)) ∨ ∃ j p, hit = some j ∧ j < x + 1 ∧ xs[j]? = some (k, p)) := by
            intro hne
            rcases hHx with ⟨h0, hno⟩ | ⟨j, p, h1, hjx, hj⟩
            · refine .inl ⟨h0, fun j p hjx hj => ?_⟩
              rcases Nat.lt_or_ge j x with h | h
              · exact hno j p h hj
              · have hjx' : j = x := by omega
                subst hjx'
                rw [hkv] at hj
                injection hj with hj
                injection hj with hj
                exact hne hj
            · exact .inr ⟨j, p, h1, by omega, hj⟩
          rw [hex]
          dsimp only
          by_cases hh : (k'.hash w == k.hash w) = true
          · rw [if_pos hh]
            refine wpAny_bind (wpAny_dictEpoch ho hd (wpAny_bind (heq hib (wpAny_bind (wpAny_dictEpoch ho hd ?_)))))
            show wpAny _ _ (if (ep != ep) = true then _ else _) _ E _
            rw [if_neg (by simp)]
            by_cases hkk : k' = k
            · rw [decide_eq_true hkk]
              subst hkk
              rcases hHx with ⟨rfl, _⟩ | ⟨j, p, _, hjx, hj⟩
              · first | rw [if_pos rfl] | skip
                simp only [Option.isSome_none, Bool.false_eq_true, if_false]
                first | refine wpAny_bind (wpAny_pure ?_) | skip
                refine wpAny_bind (wpAny_rule ?_)
                split
                · exact wpAny_pure (wpAny_pure (hsome x _ hkv))
                · exact wpAny_pure ⟨rfl, x + 1, some x, rfl, hrest', hlt, .inr ⟨x, _, rfl, Nat.lt_succ_self x, hkv⟩⟩
              · exact absurd (uniq hn hj hkv) (by omega)
            · rw [decide_eq_false hkk]
              simp only [Bool.false_eq_true, if_false]
              refine wpAny_bind (wpAny_rule ?_)
              first | rw [if_neg (by simp)] | skip
              first
                | exact wpAny_pure ⟨rfl, x + 1, hit, rfl, hrest', hlt, hstay hkk⟩
                | exact wpAny_bind (wpAny_pure (wpAny_pure ⟨rfl, x + 1, hit, rfl, hrest', hlt, hstay hkk⟩))
          · rw [if_neg hh]
            refine wpAny_pure ⟨rfl, x + 1, hit, rfl, hrest', hlt, hstay ?_⟩
            intro hkk
            rw [hkk] at hh; simp at hh
        · rintro b s' ⟨rfl, i, hit, rfl, hr, hi, hH⟩
          have hall : ∀ j, i ≤ j → j < es.size → ((es[j]?.map (·.hash)) == some (k.hash w)) = false := by
            intro j h1 h2
            have := List.filter_eq_nil_iff.mp hr.symm j (List.mem_range'_1.mpr ⟨h1, by omega⟩)
            simpa using this
          rcases hH with ⟨rfl, hno⟩ | ⟨j, p, rfl, _, hj⟩
          · exact wpAny_pure (hnone (hend hall hno))
          · exact wpAny_pure (hsome j p hj))
  · unfold dictFind
    try with_reducible refine wpAny_holding ?_
    refine wpAny_bind (wpAny_dictEntries ho hd ?_)
    dsimp only
    rw [if_neg (show ¬ ((Value.ref a :: (placesWithHash es.size (fun i => es[i]?.map (·.hash)) (k.hash w)).filterMap (fun i => es[i]?.map (·.key))).all carriedByValue) = true by simp [carriedByValue])]
    rw [if_neg hany]
    by_cases hone : (((placesWithHash es.size (fun i => es[i]?.map (·.hash)) (k.hash w)).filterMap (fun i => es[i]?.map (·.key))) == [Value.ref a]) = true <;>
    (first | rw [if_pos hone] | rw [if_neg hone]) <;> (first | refine wpAny_bind (wpAny_pure ?_) | refine wpAny_bind (may_quiet hkey hst ?_)) <;> (
      rw [if_neg (by simp)]
      refine wpAny_bind ?_
      refine wpAny_forIn_list _
        (fun rest b s' => s' = s ∧ ∃ i hit, b = (none, hit) ∧ rest = (List.range' i (es.size - i)).filter (fun i => (es[i]?.map (·.hash)) == some (k.hash w)) ∧ i ≤ es.size ∧
          ((hit = none ∧ ∀ j p, j < i → xs[j]? ≠ some (k, p)) ∨ ∃ j p, hit = some j ∧ j < i ∧ xs[j]? = some (k, p))) _ ?_ ?_ _ _
        ⟨rfl, 0, none, rfl, by rw [placesWithHash, List.range_eq_range', Nat.sub_zero], Nat.zero_le _, .inl ⟨rfl, fun _ _ h => absurd h (Nat.not_lt_zero _)⟩⟩
      · rintro x rest b s' ⟨rfl, i, hit, rfl, hr, hi, hH⟩
        obtain ⟨hix, hxn, hpx, hskip, hrest⟩ := filter_range'_cons _ _ _ _ _ hr.symm
        have hlt : x < es.size := by omega
        have hrest' : rest = (List.range' (x + 1) (es.size - (x + 1))).filter (fun i => (es[i]?.map (·.hash)) == some (k.hash w)) := by rw [hrest]; congr 2; omega
        obtain ⟨⟨k', v'⟩, hkv⟩ : ∃ y, xs[x]? = some y := ⟨xs[x]'(by rw [← hsz]; exact hlt), List.getElem?_eq_getElem _⟩
        have hib : OkK _ k' v' := his _ (List.mem_of_getElem? hkv)
        have hex : es[x]? = some ⟨k'.hash w, v', .bool true⟩ := by rw [en_at he x, hkv]; rfl
        have hHx := hset hskip hH hix
        have hstay : ¬ k' = k → ((hit = none ∧ ∀ j p, j < x + 1 → xs[j]? ≠ some (k, p)) ∨ ∃ j p, hit = some j ∧ j < x + 1 ∧ xs[j]? = some (k, p)) := by
          intro hne
          rcases hHx with ⟨h0, hno⟩ | ⟨j, p, h1, hjx, hj⟩
          · refine .inl ⟨h0, fun j p hjx hj => ?_⟩
            rcases Nat.lt_or_ge j x with h | h
            · exact hno j p h hj
            · have hjx' : j = x := by omega
              subst hjx'
              rw [hkv] at hj
              injection hj with hj
              injection hj with hj
              exact hne hj
          · exact .inr ⟨j, p, h1, by omega, hj⟩
        rw [hex]
        dsimp only
        by_cases hh : (k'.hash w == k.hash w) = true
        · rw [if_pos hh]
          refine wpAny_bind (wpAny_dictEpoch ho hd (wpAny_bind (heq hib (wpAny_bind (wpAny_dictEpoch ho hd ?_)))))
          show wpAny _ _ (if (ep != ep) = true then _ else _) _ E _
          rw [if_neg (by simp)]
          by_cases hkk : k' = k
          · rw [decide_eq_true hkk]
            subst hkk
            rcases hHx with ⟨rfl, _⟩ | ⟨j, p, _, hjx, hj⟩
            · first | rw [if_pos rfl] | skip
              simp only [Option.isSome_none, Bool.false_eq_true, if_false]
              first | refine wpAny_bind (wpAny_pure ?_) | skip
              refine wpAny_bind (wpAny_rule ?_)
              split
              · exact wpAny_pure (wpAny_pure (hsome x _ hkv))
              · exact wpAny_pure ⟨rfl, x + 1, some x, rfl, hrest', hlt, .inr ⟨x, _, rfl, Nat.lt_succ_self x, hkv⟩⟩
            · exact absurd (uniq hn hj hkv) (by omega)
          · rw [decide_eq_false hkk]
            simp only [Bool.false_eq_true, if_false]
            refine wpAny_bind (wpAny_rule ?_)
            first | rw [if_neg (by simp)] | skip
            first
              | exact wpAny_pure ⟨rfl, x + 1, hit, rfl, hrest', hlt, hstay hkk⟩
              | exact wpAny_bind (wpAny_pure (wpAny_pure ⟨rfl, x + 1, hit, rfl, hrest', hlt, hstay hkk⟩))
        · rw [if_neg hh]
          refine wpAny_pure ⟨rfl, x + 1, hit, rfl, hrest', hlt, hstay ?_⟩
          intro hkk
          rw [hkk] at hh; simp at hh
      · rintro b s' ⟨rfl, i, hit, rfl, hr, hi, hH⟩
        have hall : ∀ j, i ≤ j → j < es.size → ((es[j]?.map (·.hash)) == some (k.hash w)) = false := by
          intro j h1 h2
          have := List.filter_eq_nil_iff.mp hr.symm j (List.mem_range'_1.mpr ⟨h1, by omega⟩)
          simpa using this
        rcases hH with ⟨rfl, hno⟩ | ⟨j, p, rfl, _, hj⟩
        · exact wpAny_pure (hnone (hend hall hno))
        · exact wpAny_pure (hsome j p hj))
/-- the dict at d holds xs, in this order -/
def DN (w : World) (d : Addr) (xs : List (NestedKey × Value)) (h : Heap) : Prop := ∃ o es ep, h.get? d = some o ∧ o.ExactDict ∧ o.data = .dict es ep ∧ es.toList = xs.map (en w) ∧ (xs.map (·.1)).Nodup
def stN (xs : List (NestedKey × Value)) (k : NestedKey) (v : Value) : List (NestedKey × Value) := if k ∈ xs.map (·.1) then xs else xs ++ [(k, v)]
theorem modify_same {es : Array DictEntry} {xs : List (NestedKey × Value)} (he : es.toList = xs.map (en w)) (j : Nat) : (es.modify j fun e => { e with val := .bool true }).toList = xs.map (en w) := by
  rw [Array.toList_modify, he]
  have : ∀ (l : List (NestedKey × Value)) (j : Nat), (l.map (en w)).modify j (fun e => { e with val := .bool true }) = l.map (en w) := by
    intro l
    induction l with
    | nil => intro j; cases j <;> rfl
    | cons x r ih =>
      intro j
      cases j with
      | zero => rfl
      | succ j => simp only [List.map_cons, List.modify_succ_cons, ih]
  exact this xs j
theorem setD {d : Addr} {xs : List (NestedKey × Value)} {k : NestedKey} {key : Value} {Q : Unit → Shared → Prop} (hu : A.units + 8 < cLine) (hkey : OkK s.heap k key) (hm : DN w d xs s.heap) (his : ∀ x ∈ xs, OkK s.heap x.1 x.2)
    (hQ : ∀ h', DN w d (stN xs k key) h' → Heap.SameBut d s.heap h' → Q () { s with heap := h', toks := s.toks + k.draws })
    (hsz : xs.length ≤ sizeLine) : wpAny (model prog w) A (dictSet d key (.bool true)) Q E s := by
  obtain ⟨o, es, ep, ho, hc, hd, he, hn⟩ := hm
  unfold dictSet
  try with_reducible refine wpAny_holding ?_
  refine wpAny_bind (pyHash_key k key A s _ hkey.1 (by have := hkey.2.1; omega) ?_)
  unfold dictSetHashed
  try with_reducible refine wpAny_holding ?_
  refine wpAny_bind (find (s := { s with toks := s.toks + k.draws }) hu hkey ho hd he his hn ?_ ?_)
  · intro hno
    have hnot : k ∉ xs.map (·.1) := fun hm => by
      obtain ⟨x, hx, rfl⟩ := List.mem_map.mp hm
      obtain ⟨j, hj⟩ := List.mem_iff_getElem?.mp hx
      exact hno j x.2 hj
    refine wpAny_bind (wpAny_rule (wpAny_updateDictKeys (hz := by have e := en_size he; omega) (s := { s with toks := s.toks + k.draws }) ho hd (hQ _ ⟨_, _, ep + 1, Heap.get?_update_self _ ho (Obj.isFreed_of_dict (Obj.data_mapDictKeys hd _)),
      hc.mapDictKeys _, Obj.data_mapDictKeys hd _, ?_, ?_⟩ (Heap.SameBut.update ..))))
    · unfold stN
      rw [if_neg hnot]
      simp [he, en]
    · unfold stN
      rw [if_neg hnot, List.map_append, List.nodup_append]
      refine ⟨hn, by simp, ?_⟩
      intro x hx y hy
      simp only [List.map_cons, List.map_nil, List.mem_singleton] at hy
      subst hy
      exact fun e => hnot (e ▸ hx)
  · intro j p hj
    have hin : k ∈ xs.map (·.1) := List.mem_map.mpr ⟨(k, p), List.mem_of_getElem? hj, rfl⟩
    refine wpAny_bind (wpAny_rule (wpAny_bind (wpAny_updateDict (s := { s with toks := s.toks + k.draws }) ho hd (wpAny_point (hQ _ ⟨_, _, ep, Heap.get?_update_self _ ho (Obj.isFreed_of_dict (Obj.data_mapDict hd _)),
      hc.mapDict _, Obj.data_mapDict hd _, ?_, ?_⟩ (Heap.SameBut.update ..))))))
    · unfold stN
      rw [if_pos hin]
      exact modify_same he j
    · unfold stN
      rw [if_pos hin]
      exact hn
theorem typeIs {d : Addr} {xs : List (NestedKey × Value)} (hm : DN w d xs s.heap) : s.TypeIs (.ref d) "dict" := let ⟨o, _, _, ho, hc, _⟩ := hm; ⟨o, ho, hc.1⟩
theorem setI {d : Addr} {xs : List (NestedKey × Value)} {k : NestedKey} {key : Value} {Q : Unit → Shared → Prop} (hu : A.units + 9 < cLine) (hkey : OkK s.heap k key) (hm : DN w d xs s.heap) (his : ∀ x ∈ xs, OkK s.heap x.1 x.2)
    (hQ : ∀ h', DN w d (stN xs k key) h' → Heap.SameBut d s.heap h' → Q () { s with heap := h', toks := s.toks + k.draws })
    (hsz : xs.length ≤ sizeLine) : wpAny (model prog w) A (setItem (.ref d) key (.bool true)) Q E s := by
  unfold setItem
  try with_reducible refine wpAny_holding ?_
  refine wpAny_bind (wpAny_sequenceKey (typeIs hm) (by decide) ?_)
  refine wpAny_bind (wpAny_callSpecial?_slot (name := Str.ofString "__setitem__") (typeIs hm) slot_dict_setitem
    (wpAny_call_entry slot_dict_setitem (typeIs hm) entry_dict_setitem ?_ (args_dict_setitem _ _ _)))
  show wpAny _ _ (Builtin.Dict.notOrdered "__setitem__" ⟨[.ref d, key, .bool true], []⟩ >>= _) _ _ s
  refine wpAny_bind (wpAny_notOrdered_dict (typeIs hm) ?_)
  show wpAny _ _ (dictSet d key (.bool true) >>= _) _ _ s
  exact wpAny_bind (setD (A := A.in1) (hsz := hsz) (by show A.units + 1 + 8 < cLine; omega) hkey hm his fun h' hm' hs' => wpAny_pure ⟨.none, rfl, wpAny_pure (hQ h' hm' hs')⟩)
end
end DKN
end
section
set_option Elab.async false
set_option linter.all false
set_option maxRecDepth 100000
set_option maxHeartbeats 2000000
/-! The dict of None and lots at HandS level: {}, store True, its keys. -/
namespace L2
open PySem PySem.Spec PyProof.Rows
abbrev DKey := Option (Addr × List Int)
def dkN : DKey → NestedKey × Value
  | none => (.none, .none)
  | some (a, xs) => (.tup (xs.map .num), .ref a)
def dkV : DKey → V
  | none => .non
  | some (a, _) => .ref a
def dkI (K : PySem.W.Frag) (H : Hp) : DKey → Prop
  | none => True
  | some (a, xs) => SqT K H a (xs.map V.int)
def dkL : DKey → Option (List Int) := Option.map (·.2)
/-- the dict at d holds ks, in this order -/
def dnO (w : World) (d : Addr) (ks : List DKey) : HO := .ext fun h => (d == sysModules) = false ∧ ks.length ≤ sizeLine ∧ DKN.DN w d (ks.map dkN) h
def putN (ks : List DKey) (k : DKey) : List DKey := if dkL k ∈ ks.map dkL then ks else ks ++ [k]
theorem dkN_inj {k k' : DKey} : (dkN k).1 = (dkN k').1 ↔ dkL k = dkL k' := by
  have inj : Function.Injective NestedKey.num := fun a b h => by cases h; rfl
  cases k with
  | none => cases k' with
    | none => exact Iff.intro (fun _ => rfl) (fun _ => rfl)
    | some p => exact Iff.intro (fun h => nomatch (show NestedKey.none = .tup _ from h)) (fun h => nomatch (show Option.none = some _ from h))
  | some p =>
    cases k' with
    | none => exact Iff.intro (fun h => nomatch (show NestedKey.tup _ = .none from h)) (fun h => nomatch (show some _ = Option.none from h))
    | some q =>
      obtain ⟨a, xs⟩ := p
      obtain ⟨b, ys⟩ := q
      constructor
      · intro h
        injection h with h
        exact congrArg some (List.map_inj_right (fun a b h => inj h) |>.mp h)
      · intro h
        injection h with h
        show NestedKey.tup _ = NestedKey.tup _
        rw [show xs = ys from h]
theorem putN_dk (ks : List DKey) (k : DKey) : (putN ks k).map dkN = DKN.stN (ks.map dkN) (dkN k).1 (dkN k).2 := by
  unfold putN DKN.stN
  have e : (dkL k ∈ ks.map dkL) ↔ ((dkN k).1 ∈ (ks.map dkN).map (·.1)) := by
    simp only [List.mem_map, List.map_map]
    constructor
    · rintro ⟨q, hq, e⟩
      exact ⟨q, hq, dkN_inj.mpr e⟩
    · rintro ⟨q, hq, e⟩
      exact ⟨q, hq, dkN_inj.mp e⟩
  by_cases h : dkL k ∈ ks.map dkL
  · rw [if_pos h, if_pos (e.mp h)]
  · rw [if_neg h, if_neg (fun z => h (e.mpr z)), List.map_append]
    rfl
section
variable {X : Cx} {pins : List (Addr × Obj)} {σ : St} {H : Hp} {s : Shared}
theorem depth_nums : ∀ xs : List Int, NestedKey.depthAll (xs.map .num) = 0
  | [] => rfl
  | x :: r => by
    show max 0 (NestedKey.depthAll (r.map .num)) = 0
    rw [depth_nums r]
    rfl
theorem okK {k : DKey} (I : Inv X pins σ H s) (h : dkI X.K H k) : DKN.OkK s.heap (dkN k).1 (dkN k).2 := by
  cases k with
  | none => exact ⟨.none, Nat.zero_le _, .inl rfl⟩
  | some p =>
    obtain ⟨a, xs⟩ := p
    obtain ⟨its, r, ⟨o, ho, hc, n, hd⟩, hz⟩ := I.tuple h
    refine ⟨?_, ?_, .inr ⟨a, rfl⟩⟩
    · refine .tup ho hc hd ?_
      show NestedAll s.heap (xs.map .num) its
      clear ho hd hz h
      induction xs generalizing its with
      | nil => cases r; exact .nil
      | cons x t ih =>
        cases r with
        | cons rv rr =>
          obtain ⟨t', rfl⟩ := rv
          exact .cons (.int x t') (ih _ rr)
    · show NestedKey.depthAll (xs.map .num) + 1 ≤ 8
      rw [depth_nums]
      decide
theorem dn_at {d : Addr} {ks : List DKey} (I : HOk X.prog X.w H s.heap) (h : H d = some (dnO X.w d ks)) : (d == sysModules) = false ∧ ks.length ≤ sizeLine ∧ DKN.DN X.w d (ks.map dkN) s.heap := (I d _ h).1
theorem dn_new {P : Program} {w : World} {h : Heap} {d : Addr} {ks : List DKey} (h1 : (d == sysModules) = false) (h2 : ks.length ≤ sizeLine) (h3 : DKN.DN w d (ks.map dkN) h) : ObjOk P w H h d (dnO w d ks) := by
  refine ⟨⟨h1, h2, h3⟩, ?_, fun g1 g2 q k => ?_⟩
  · obtain ⟨o, _, _, ho, _⟩ := h3
    exact ⟨o, ho⟩
  · obtain ⟨q1, q2, o, es, ep, ho, r⟩ := q
    exact ⟨q1, q2, o, es, ep, k o ho, r⟩
end
/-- {} -/
def tDNewN (w : World) : TE := fun _ H Q => ∀ p, H p = none → Q (.ref p) (upd H p (dnO w p []))
theorem pe_dnewN {X : Cx} {pos : Pos} : PE X (.Dict [] [] pos) (tDNewN X.w) := ⟨fun pins s σ H Q I h =>
  wpAny_Dict_empty ⟨.ref s.heap.objs.size, _, I.laid (a := s.heap.objs.size) (o := dnO X.w s.heap.objs.size []) (t' := s.toks) (fun _ _ q => Heap.get?_push_of_some _ q) (Nat.le_refl _)
    (dn_new (beq_eq_false_iff_ne.mpr (Ne.symm (Nat.ne_of_lt I.big))) (Nat.zero_le _) ⟨_, #[], 0, Heap.get?_push_size _ rfl, ⟨rfl, rfl, rfl⟩, rfl, rfl, List.nodup_nil⟩), rfl, h _ (I.hok.fresh (Nat.le_refl _))⟩⟩
/-- got[k] = True -/
def rSetN (K : PySem.W.Frag) (w : World) : TSet := fun o i v H Q => ∃ d ks k, o = .ref d ∧ i = dkV k ∧ v = .bl true ∧ H d = some (dnO w d ks) ∧ (∀ q ∈ k :: ks, dkI K H q) ∧ ks.length < sizeLine ∧ Q (upd H d (dnO w d (putN ks k)))
theorem set_dn {X : Cx} (hu : X.A.units + 64 < cLine) : PSet X (rSetN X.K X.w) := by
  intro pins s σ H o i v ov iv u Q I ro ri rv h
  obtain ⟨d, ks, k, rfl, rfl, rfl, hd, hk, hz, q⟩ := h
  cases ro
  obtain rfl : u = .bool true := rv
  have ei : iv = (dkN k).2 := by
    cases k with
    | none => exact ri
    | some p => exact ri
  subst ei
  obtain ⟨h1, h2, h3⟩ := dn_at I.hok hd
  refine DKN.setI (by have : (9 : Nat) ≤ 64 := by decide
                      omega) (okK I (hk k List.mem_cons_self)) h3 (fun x hx => ?_) (fun h' hm hs => ⟨_, I.write (x := d) (e := d) (o := dnO X.w d (putN ks k)) (by rw [hd]; exact True.intro) (.inl rfl) (fun b u hb e => hs.extBut b u hb e) (let ⟨o, _, _, ho, _⟩ := hm; ⟨o, ho⟩)
    (dn_new h1 ?_ (by rw [putN_dk]; exact hm)), q⟩) (by rw [List.length_map]; exact h2)
  · obtain ⟨y, hy, rfl⟩ := List.mem_map.mp hx
    exact okK I (hk y (List.mem_cons_of_mem _ hy))
  · unfold putN
    split
    · exact h2
    · rw [List.length_append]
      show ks.length + 1 ≤ _
      omega
/-! ### its keys -/
def ItN (w : World) (d : Addr) (o : Obj) (ks : List DKey) : It :=
  ⟨fun i H => H d = some (.frz o (dnO w d ks)) ∧ i < ks.length, fun i H x H' => H' = H ∧ ∃ k, ks[i]? = some k ∧ x = dkV k, fun i H => H d = some (.frz o (dnO w d ks)) ∧ ks.length ≤ i⟩
section
variable {X : Cx} {pins : List (Addr × Obj)} {σ : St} {H : Hp} {s : Shared} {d : Addr} {o : Obj}
theorem frzN {ks : List DKey} (I : Inv X pins σ H s) (h : H d = some (.frz o (dnO X.w d ks))) :
    (d == sysModules) = false ∧ s.heap.get? d = some o ∧ o.ExactDict ∧ ∃ (es : Array DictEntry) (ep : Nat), o.data = .dict es ep ∧ es.size = ks.length ∧
      ∀ (i : Nat) (k : DKey), ks[i]? = some k → ∃ en : DictEntry, es[i]? = some en ∧ en.key = (dkN k).2 := by
  obtain ⟨hd, ⟨hs, _, o', es, ep, ho, hx, hdt, he, _⟩, _⟩ := I.hok d _ h
  rw [hd] at ho
  cases ho
  refine ⟨hs, hd, hx, es, ep, hdt, by rw [DKN.en_size he, List.length_map], fun i k e => ⟨_, by rw [DKN.en_at he i, List.getElem?_map, e]; rfl, rfl⟩⟩
end
section
variable {P : Program} {w : World} {K : PySem.W.Frag} {tg : Expr} {d : Addr} {o : Obj} {es : Array DictEntry} {ep : Nat}
theorem turn_keysN {ks : List DKey} (it : Addr) (hod : o.data = .dict es ep) : Turn P w K tg (ItN w d o ks) [it] it (fun i h => h.IsKeyIter it d i ks.length ep) where
  mem := by simp
  obj := fun i h st b hb => by
    have e : b = it := by simpa using hb
    subst e
    obtain ⟨oi, e, c, dd⟩ := st
    exact ⟨oi, e, fun v z => by rw [dd] at z; cases z⟩
  keep := fun i h h' st k => st.at fun oi e => k it (by simp) oi e
  item := by
    intro X hP hw hK hc i pins s σ H E I hf st hg
    subst hP hw hK
    obtain ⟨hd, hi⟩ := hg
    obtain ⟨f0, f1, f2, f3, f4, f5⟩ := hf it (by simp)
    obtain ⟨hs, hgd, hx, es', ep', hdt, hsz, ent⟩ := frzN I hd
    obtain ⟨rfl, rfl⟩ := dict_ep hod hdt
    obtain ⟨k, hkv⟩ : ∃ p, ks[i]? = some p := ⟨ks[i], List.getElem?_eq_getElem hi⟩
    obtain ⟨en, hen, hkey⟩ := ent i k hkv
    refine next_key_item st hgd hdt hsz hen fun h' st' sb => ?_
    have I1 : Inv X pins σ H { s with heap := h' } := I.turned (t' := s.toks) (fun b ob hb e => (sb.2 b hb).trans e) f0 f1 f3 f4 f5
    obtain ⟨oi, e, c, dd⟩ := id st'
    refine ⟨en.key, rfl, go_of (s := { s with heap := h' }) e c dd (by decide) ⟨dkV k, H, I1, ?_, ⟨rfl, k, hkv, rfl⟩, st', fun b hb => (hf b hb).1⟩⟩
    rw [hkey]
    cases k with
    | none => rfl
    | some p => rfl
  done := by
    intro X hP hw hK hc i pins s σ H E I hf st hg
    subst hP hw hK
    obtain ⟨hd, hi⟩ := hg
    obtain ⟨f0, f1, f2, f3, f4, f5⟩ := hf it (by simp)
    obtain ⟨hs, hgd, hx, es', ep', hdt, hsz, ent⟩ := frzN I hd
    obtain ⟨rfl, rfl⟩ := dict_ep hod hdt
    exact next_key_end (I.ok.hd hc) st hgd hdt hsz hi fun h' eb => ⟨rfl, I.turned (t' := s.toks) (fun b ob hb e => eb b ob hb e) f0 f1 f3 f4 f5⟩
  self := fun A i s Q E st h => by
    refine wpAny_pyIter_slot st.typeIs F.slot_dict_keyiterator_iter (wpAny_call_entry F.slot_dict_keyiterator_iter st.typeIs F.entry_dict_keyiterator_iter ?_ (F.args_dict_keyiterator_iter_1 _))
    show wpAny _ _ (ret (.ref it)) _ _ s
    exact wpAny_pure ⟨_, rfl, "dict_keyiterator", _, st.typeIs, F.slot_dict_keyiterator_next.lookup, h⟩
end
/-- the dict is locked -/
def iKeysN (w : World) (td : TE) : TI := fun σ H R => td σ H fun x H1 => ∃ d o ks, x = .ref d ∧ H1 d = some (.frz o (dnO w d ks)) ∧ R (ItN w d o ks) H1
theorem pi_keysN {X : Cx} {tg e : Expr} {td : TE} (he : PE X e td) : PI X tg e (iKeysN X.w td) := by
  refine ⟨fun pins s σ H R I h => ?_⟩
  refine thn (he.run pins s σ H _ I h) fun u s1 ⟨x, H1, I1, rx, d, o, ks, ex, hd, q⟩ => ?_
  subst ex
  obtain rfl : u = Value.ref d := rx
  obtain ⟨hs, hgd, hx, es, ep, hdt, hsz, ent⟩ := frzN I1 hd
  refine iter_keys hs hgd hx hdt (pi_one (tk := s1.toks) I1 _ (turn_keysN _ hdt) ⟨_, Heap.get?_push_size _ rfl, rfl, ?_⟩ q)
  rw [hsz] <;> rfl
end L2
end
section
set_option Elab.async false
set_option linter.all false
set_option maxRecDepth 100000
set_option maxHeartbeats 2000000
/-! Rows: comprehensions over any walk, rows in new lists; _law_sum, _law_in_box, _law_box, _law_web. -/
namespace SL
open PySem PySem.Spec PyProof.Rows L2 Evl
/-! ### comprehensions over a walk -/
section
variable {K : PySem.W.Frag} {σ : L2.St} {H : Hp} {ta tb te tx tc tl : TE} {t u : TT}
theorem cw_turn2 {H H' : Hp} {f : Nat → Bool} {v : Nat → V} {Dl : Addr} {i : Nat} {σ2 : L2.St} (p : Cw H f v Dl i H') (hi : i < 50000) (ht : EvT t σ2 H' (f i)) (he : f i = true → Ev te σ2 H' (v i)) :
    t σ2 H' fun b H3 => if b = true then te σ2 H3 fun y H4 => ∃ acc, H4 Dl = some (.lst acc) ∧ acc.length < sizeLine ∧ Cw H f v Dl (i + 1) (upd H4 Dl (.lst (acc ++ [y]))) else Cw H f v Dl (i + 1) H3 := by
  obtain ⟨p1, p2, p3⟩ := p
  refine ht H' (Ex.refl _) _ fun H3 e3 => ?_
  cases hf : f i with
  | true =>
    show te σ2 H3 fun y H4 => ∃ acc, H4 Dl = some (.lst acc) ∧ acc.length < sizeLine ∧ Cw H f v Dl (i + 1) (upd H4 Dl (.lst (acc ++ [y])))
    refine he hf H3 e3 _ fun H4 e4 => ⟨given i f v, e4 Dl _ (e3 Dl _ p3), sz_lt (by have := given_len i f v; omega), p1, Ex.mut ((p2.trans e3).trans e4) p1, ?_⟩
    rw [given_yes hf]
    exact upd_same
  | false =>
    show Cw H f v Dl (i + 1) H3
    refine ⟨p1, p2.trans e3, ?_⟩
    rw [given_no hf]
    exact e3 Dl _ p3
theorem el_lcIt {J : It} {n : Nat} {G : Hp → Prop} {Y : Nat → Hp → V → Hp → Prop} (w : Walk J n G Y) {wi : TI} {g : TG} {vs : List Nat} (f : Nat → Bool) (v : Nat → V)
    (hi : ∀ H1, Ex H H1 → ∀ R : It → Hp → Prop, (∀ H2, Ex H1 H2 → R J H2) → wi σ H1 R) (hG : ∀ H1, Ex H H1 → G H1) (hz : n ≤ 40000)
    (hs : ∀ i x H1 H2, i < n → Ex H H1 → Y i H1 x H2 → Ex H1 H2 ∧ ∃ σ2, wipe σ2 vs = wipe σ vs ∧ (∀ q : L2.St → Hp → Prop, q σ2 H2 → g x (wipe σ vs) H2 q) ∧ EvT t σ2 H2 (f i) ∧ (f i = true → Ev te σ2 H2 (v i))) :
    EvL (tLc wi g t te vs) σ H (given n f v) := fun H0 e Q q => hi H0 e _ fun H1 e1 Dl hD =>
  lc_it w (Cw H1 f v Dl) ⟨hD, Ex.new hD, upd_same⟩ (fun i H' _ p => hG H' ((e.trans e1).trans p.2.1)) (fun i x H' H'' hin p y => by
    obtain ⟨ex, σ2, hw, hg, ht, he⟩ := hs i x H' H'' hin ((e.trans e1).trans p.2.1) y
    exact hg _ ⟨hw, cw_turn2 ⟨p.1, p.2.1.trans ex, ex _ _ p.2.2⟩ (by omega) ht he⟩) (fun H' p => q Dl H' (fresh_back e1 p.1) (e1.trans p.2.1) p.2.2)
/-- [e for a, b in zip(t, u)] of two tuples -/
theorem el_lcZ2 {xs ys : List Int} {pr : Int × Int → Bool} {fv : Int × Int → V} {a b : Addr} {tz : TA} {vs : List Nat} {i j : Nat} (h : EvA tz σ H [.ref a, .ref b]) (hx : SqT K H a (xs.map V.int)) (hy : SqT K H b (ys.map V.int)) (hz : xs.length ≤ 40000)
    (hw : ∀ x y, wipe (((wipe σ vs).set i (some x)).set j (some y)) vs = wipe σ vs)
    (ht : ∀ (q : Int × Int) H1, q ∈ xs.zip ys → Ex H H1 → EvT t (((wipe σ vs).set i (some (.int q.1))).set j (some (.int q.2))) H1 (pr q))
    (he : ∀ (q : Int × Int) H1, q ∈ xs.zip ys → Ex H H1 → Ev te (((wipe σ vs).set i (some (.int q.1))).set j (some (.int q.2))) H1 (fv q)) :
    EvL (tLc (RZ.iZipA K tz) (gTup K 2 (gCons (gName i) (gCons (gName j) gNil))) t te vs) σ H (((xs.zip ys).filter pr).map fv) := by
  have hl : (xs.zip ys).length = min (xs.map V.int).length (ys.map V.int).length := by simp
  refine el_is (el_lcIt (walk_zipT (K := K) (a := a) (b := b) hl) (fun i => (xs.zip ys)[i]?.elim false pr) (fun i => (xs.zip ys)[i]?.elim V.non fv)
    (fun H1 e1 R r => h H1 e1 _ fun H2 e2 => ⟨a, b, _, _, rfl, .inr ⟨ex_t (e1.trans e2) hx, ex_t (e1.trans e2) hy, r H2 e2⟩⟩) (fun H1 e1 => ⟨ex_t e1 hx, ex_t e1 hy⟩) (by rw [hl, List.length_map]; omega) fun k x H1 H2 hk e1 y => ?_) ?_
  · obtain ⟨T, x1, x2, rfl, hT, rfl, h1, h2⟩ := y
    have hzk : (xs.zip ys)[k]? = some (xs.zip ys)[k] := List.getElem?_eq_getElem hk
    have g1 : xs[k]? = some (xs.zip ys)[k].1 := by
      have := (List.getElem?_zip_eq_some.mp hzk).1
      exact this
    have g2 : ys[k]? = some (xs.zip ys)[k].2 := (List.getElem?_zip_eq_some.mp hzk).2
    have h1' : (xs.map V.int)[k]? = some x1 := h1
    have h2' : (ys.map V.int)[k]? = some x2 := h2
    rw [List.getElem?_map, g1] at h1'
    rw [List.getElem?_map, g2] at h2'
    cases h1'
    cases h2'
    have e2 : Ex H1 (upd H1 T (.tup [.int (xs.zip ys)[k].1, .int (xs.zip ys)[k].2])) := Ex.new hT
    refine ⟨e2, _, hw _ _, fun q hq => ⟨T, _, rfl, st_of upd_same, rfl, _, _, rfl, _, [], rfl, rfl, hq⟩, ?_, fun _ => ?_⟩
    · rw [hzk]
      exact ht _ _ (List.getElem_mem hk) (e1.trans e2)
    · rw [hzk]
      exact he _ _ (List.getElem_mem hk) (e1.trans e2)
  · refine (given_filter pr fv _ _ (Nat.le_refl _)).trans ?_
    rw [List.take_length]
theorem el_lcZ3 {xs ys zs : List Int} {pr : Int × Int × Int → Bool} {fv : Int × Int × Int → V} {a b c : Addr} {tz : TA} {vs : List Nat} {i j l : Nat} (h : EvA tz σ H [.ref a, .ref b, .ref c]) (hx : SqT K H a (xs.map V.int)) (hy : SqT K H b (ys.map V.int)) (hv : SqT K H c (zs.map V.int)) (hz : xs.length ≤ 40000)
    (hw : ∀ x y z, wipe ((((wipe σ vs).set i (some x)).set j (some y)).set l (some z)) vs = wipe σ vs)
    (ht : ∀ (q : Int × Int × Int) H1, q ∈ xs.zip (ys.zip zs) → Ex H H1 → EvT t ((((wipe σ vs).set i (some (.int q.1))).set j (some (.int q.2.1))).set l (some (.int q.2.2))) H1 (pr q))
    (he : ∀ (q : Int × Int × Int) H1, q ∈ xs.zip (ys.zip zs) → Ex H H1 → Ev te ((((wipe σ vs).set i (some (.int q.1))).set j (some (.int q.2.1))).set l (some (.int q.2.2))) H1 (fv q)) :
    EvL (tLc (iZip3 K tz) (gTup K 3 (gCons (gName i) (gCons (gName j) (gCons (gName l) gNil)))) t te vs) σ H (((xs.zip (ys.zip zs)).filter pr).map fv) := by
  have hl : (xs.zip (ys.zip zs)).length = min (min (xs.map V.int).length (ys.map V.int).length) (zs.map V.int).length := by simp
  refine el_is (el_lcIt (walk_zip3 (K := K) (a := a) (b := b) (c := c) hl) (fun i => (xs.zip (ys.zip zs))[i]?.elim false pr) (fun i => (xs.zip (ys.zip zs))[i]?.elim V.non fv)
    (fun H1 e1 R r => h H1 e1 _ fun H2 e2 => ⟨a, b, c, _, _, _, rfl, ex_t (e1.trans e2) hx, ex_t (e1.trans e2) hy, ex_t (e1.trans e2) hv, r H2 e2⟩) (fun H1 e1 => ⟨ex_t e1 hx, ex_t e1 hy, ex_t e1 hv⟩) (by rw [hl, List.length_map]; omega) fun k x H1 H2 hk e1 y => ?_) ?_
  · obtain ⟨T, x1, x2, x3, rfl, hT, rfl, h1, h2, h3⟩ := y
    have hzk : (xs.zip (ys.zip zs))[k]? = some (xs.zip (ys.zip zs))[k] := List.getElem?_eq_getElem hk
    have g0 := List.getElem?_zip_eq_some.mp hzk
    have g1 : xs[k]? = some (xs.zip (ys.zip zs))[k].1 := g0.1
    have g23 := List.getElem?_zip_eq_some.mp g0.2
    have g2 : ys[k]? = some (xs.zip (ys.zip zs))[k].2.1 := g23.1
    have g3 : zs[k]? = some (xs.zip (ys.zip zs))[k].2.2 := g23.2
    rw [List.getElem?_map, g1] at h1
    rw [List.getElem?_map, g2] at h2
    rw [List.getElem?_map, g3] at h3
    cases h1
    cases h2
    cases h3
    have e2 : Ex H1 (upd H1 T (.tup [.int (xs.zip (ys.zip zs))[k].1, .int (xs.zip (ys.zip zs))[k].2.1, .int (xs.zip (ys.zip zs))[k].2.2])) := Ex.new hT
    refine ⟨e2, _, hw _ _ _, fun q hq => ⟨T, _, rfl, st_of upd_same, rfl, _, _, rfl, _, _, rfl, _, [], rfl, rfl, hq⟩, ?_, fun _ => ?_⟩
    · rw [hzk]
      exact ht _ _ (List.getElem_mem hk) (e1.trans e2)
    · rw [hzk]
      exact he _ _ (List.getElem_mem hk) (e1.trans e2)
  · refine (given_filter pr fv _ _ (Nat.le_refl _)).trans ?_
    rw [List.take_length]
/-! ### rows in a new list -/
/-- the tuples stay -/
def Tk (K : PySem.W.Frag) (H H' : Hp) : Prop := ∀ a xs, SqT K H a xs → SqT K H' a xs
theorem Tk.of {H H' : Hp} (e : Ex H H') : Tk K H H' := fun _ _ h => ex_t e h
theorem Tk.refl (H : Hp) : Tk K H H := fun _ _ h => h
theorem Tk.trans {H1 H2 H3 : Hp} (a : Tk K H1 H2) (b : Tk K H2 H3) : Tk K H1 H3 := fun x xs h => b x xs (a x xs h)
theorem Tk.upd {H : Hp} {d : Addr} {o o' : HO} (h : H d = some o) (h1 : ∀ xs, o ≠ .tup xs) (h2 : ∀ p q, o ≠ .frz p q) : Tk K H (upd H d o') := fun a xs hs => by
  have ne : ∀ u, H a = some u → ((∃ xs, u = .tup xs) ∨ ∃ p q, u = .frz p q) → a ≠ d := fun u e hu z => by
    rw [z, h] at e
    cases e
    rcases hu with ⟨xs, e⟩ | ⟨p, q, e⟩
    · exact h1 xs e
    · exact h2 p q e
  rcases hs with (hs | ⟨o, hs⟩) | hs
  · exact .inl (.inl (by rw [upd_ne (ne _ hs (.inl ⟨_, rfl⟩))]; exact hs))
  · exact .inl (.inr ⟨o, by rw [upd_ne (ne _ hs (.inr ⟨_, _, rfl⟩))]; exact hs⟩)
  · exact .inr hs
theorem Tk.lst {H : Hp} {d : Addr} {xs : List V} {o' : HO} (h : H d = some (.lst xs)) : Tk K H (L2.upd H d o') := Tk.upd h (fun _ z => by cases z) fun _ _ z => by cases z
theorem RowsAt.tk {H H' : Hp} {ps : List (Addr × List Int)} (e : Tk K H H') (h : RowsAt K H ps) : RowsAt K H' ps := fun p hp => e _ _ (h p hp)
theorem rv_app (ps qs : List (Addr × List Int)) : rv (ps ++ qs) = rv ps ++ rv qs := List.map_append
theorem rw_app (ps qs : List (Addr × List Int)) : rw' (ps ++ qs) = rw' ps ++ rw' qs := List.map_append
theorem rw_len (ps : List (Addr × List Int)) : (rw' ps).length = ps.length := List.length_map ..
theorem RowsAt.app {ps qs : List (Addr × List Int)} (h1 : RowsAt K H ps) (h2 : RowsAt K H qs) : RowsAt K H (ps ++ qs) := fun p hp => (List.mem_append.mp hp).elim (h1 p) (h2 p)
theorem RowsAt.one {a : Addr} {xs : List Int} (h : SqT K H a (xs.map V.int)) : RowsAt K H [(a, xs)] := fun p hp => by
  rw [List.mem_singleton.mp hp]
  exact h
/-- an expression gives a new list of these rows -/
def EvR (K : PySem.W.Frag) (te : TE) (σ : L2.St) (H : Hp) (rows : List (List Int)) : Prop := ∀ H1, Ex H H1 → ∀ Q : VK, (∀ l ps H2, H1 l = none → Ex H1 H2 → H2 l = some (.lst (rv ps)) → RowsAt K H2 ps → rw' ps = rows → Q (.ref l) H2) → te σ H1 Q
def RetR (K : PySem.W.Frag) (rows : List (List Int)) (H : Hp) (Q : VK) : Prop := ∀ l ps H', H l = none → Ex H H' → H' l = some (.lst (rv ps)) → RowsAt K H' ps → rw' ps = rows → Q (.ref l) H'
def RetA (K : PySem.W.Frag) (xs : List Int) (H : Hp) (Q : VK) : Prop := ∀ p H', Ex H H' → SqT K H' p (xs.map V.int) → Q (.ref p) H'
theorem er_is {rows rows' : List (List Int)} (h : EvR K te σ H rows) (e : rows = rows') : EvR K te σ H rows' := by
  rw [← e]
  exact h
def CwR (K : PySem.W.Frag) (H : Hp) (rows : List (List Int)) (Dl : Addr) (H' : Hp) : Prop := H Dl = none ∧ Ex H H' ∧ ∃ ps, H' Dl = some (.lst (rv ps)) ∧ RowsAt K H' ps ∧ rw' ps = rows
theorem er_lcIt {J : It} {n : Nat} {G : Hp → Prop} {Y : Nat → Hp → V → Hp → Prop} (w : Walk J n G Y) {wi : TI} {g : TG} {vs : List Nat} (R : Nat → List (List Int)) (hR0 : R 0 = [])
    (hi : ∀ H1, Ex H H1 → ∀ R : It → Hp → Prop, (∀ H2, Ex H1 H2 → R J H2) → wi σ H1 R) (hG : ∀ H1, Ex H H1 → G H1) (hz : ∀ i, i ≤ n → (R i).length < 100000)
    (hs : ∀ i x H1 H2, i < n → Ex H H1 → Y i H1 x H2 → Ex H1 H2 ∧ ∃ σ2 b row, (∀ q : L2.St → Hp → Prop, q σ2 H2 → g x (wipe σ vs) H2 q) ∧ wipe σ2 vs = wipe σ vs ∧ EvT t σ2 H2 b ∧ (b = true → EvT' K te σ2 H2 (row.map V.int)) ∧ R (i + 1) = if b then R i ++ [row] else R i) :
    EvR K (tLc wi g t te vs) σ H (R n) := fun H0 e Q q => hi H0 e _ fun H1 e1 Dl hD =>
  lc_it w (fun i H' => CwR K H1 (R i) Dl H') ⟨hD, Ex.new hD, [], upd_same, (fun _ h => by cases h), hR0.symm⟩ (fun i H' _ p => hG H' ((e.trans e1).trans p.2.1)) (fun i x H' H'' hin p y => by
    obtain ⟨ex, σ2, b, row, hg, hw, ht, he, hr⟩ := hs i x H' H'' hin ((e.trans e1).trans p.2.1) y
    obtain ⟨p1, p2, ps, p3, p4, p5⟩ := p
    refine hg _ ⟨hw, ht H'' (Ex.refl _) _ fun H3 e3 => ?_⟩
    cases b with
    | true =>
      show te σ2 H3 fun y H4 => ∃ acc, H4 Dl = some (.lst acc) ∧ acc.length < sizeLine ∧ CwR K H1 (R (i + 1)) Dl (upd H4 Dl (.lst (acc ++ [y])))
      refine he rfl H3 e3 _ fun a H4 e4 h4 => ⟨rv ps, e4 _ _ (e3 _ _ (ex _ _ p3)), sz_lt (by have := hz i (by omega); rw [← p5, rw_len] at this; rw [rv_len]; exact this), p1, Ex.mut (((p2.trans ex).trans e3).trans e4) p1, ps ++ [(a, row)], ?_, ?_, ?_⟩
      · rw [upd_same, rv_app]
        rfl
      · have e5 : Tk K H4 (upd H4 Dl (.lst (rv ps ++ [V.ref a]))) := Tk.lst (e4 _ _ (e3 _ _ (ex _ _ p3)))
        exact RowsAt.app ((((p4.ex ex).ex e3).ex e4).tk e5) (RowsAt.one (e5 _ _ h4))
      · rw [rw_app, p5, hr]
        rfl
    | false =>
      show CwR K H1 (R (i + 1)) Dl H3
      exact ⟨p1, (p2.trans ex).trans e3, ps, e3 _ _ (ex _ _ p3), (p4.ex ex).ex e3, by rw [p5, hr]; rfl⟩) (fun H' p => let ⟨p1, p2, ps, p3, p4, p5⟩ := p; q Dl ps H' (fresh_back e1 p1) (e1.trans p2) p3 p4 p5)
theorem evt_is {xs ys : List V} (h : EvT' K te σ H xs) (e : xs = ys) : EvT' K te σ H ys := by
  rw [← e]
  exact h
theorem er_lst1 {row : List Int} (h : EvT' K te σ H (row.map V.int)) : EvR K (tLst (tCons te tNil)) σ H [row] := fun H1 e Q q =>
  h H1 e _ fun a H2 e2 h2 => ⟨by show 1 ≤ sizeLine; decide, fun p hp => q p [(a, row)] _ (fresh_back e2 hp) (e2.trans (Ex.new hp)) upd_same (RowsAt.one (ex_t (Ex.new hp) h2)) rfl⟩
theorem er_nil : EvR K (tLst tNil) σ H [] := fun H1 e Q q => ⟨by show 0 ≤ sizeLine; decide, fun p hp => q p [] _ hp (Ex.new hp) upd_same (fun _ h => by cases h) rfl⟩
theorem q_asgR {i : Nat} {tz : TS} {D : Ends} {rows : List (List Int)} (h : EvR K te σ H rows) (k : ∀ l ps H1, H l = none → Ex H H1 → H1 l = some (.lst (rv ps)) → RowsAt K H1 ps → rw' ps = rows → tz D (σ.set i (some (.ref l))) H1) :
    tSeq (tAsg te (gName i)) tz D σ H := h H (Ex.refl H) _ k
theorem s_asgR {i : Nat} {D : Ends} {rows : List (List Int)} (h : EvR K te σ H rows) (k : ∀ l ps H1, H l = none → Ex H H1 → H1 l = some (.lst (rv ps)) → RowsAt K H1 ps → rw' ps = rows → D.nx (σ.set i (some (.ref l))) H1) :
    tAsg te (gName i) D σ H := h H (Ex.refl H) _ k
theorem s_extR {D : Ends} {l : Addr} {ps : List (Addr × List Int)} {rows : List (List Int)} (hl : H l = some (.lst (rv ps))) (ha : Ev ta σ H (.ref l)) (h : EvR K te σ H rows) (hz : ps.length + rows.length ≤ 100000)
    (k : ∀ qs H1, Ex H H1 → RowsAt K H1 qs → rw' qs = rows → D.nx σ (upd H1 l (.lst (rv (ps ++ qs))))) : tDrop (tBM K "list" rExtend ta (tCons te tNil)) D σ H := ha H (Ex.refl H) _ fun H1 e1 =>
  ⟨Or.inl ⟨rfl, _, sq_of (e1 l _ hl)⟩, h H1 e1 _ fun b qs H2 hb e2 h2 r2 w2 => ⟨l, b, _, _, rfl, rfl, e2 l _ (e1 l _ hl), h2, sz_of (by rw [rv_len, rv_len]; rw [← w2, rw_len] at hz; exact hz), by rw [← rv_app]; exact k qs H2 (e1.trans e2) r2 w2⟩⟩
end
end SL
end
section
set_option Elab.async false
set_option linter.all false
set_option maxRecDepth 100000
set_option maxHeartbeats 2000000
namespace SL
open PySem PySem.Spec PyProof.Rows L2 Evl
def sumF (xs ys : List Int) : List Int := (xs.zip ys).map fun q => q.1 + q.2
def inBox (xs lo hi : List Int) : Bool := (xs.zip (lo.zip hi)).all fun q => decide (q.2.1 ≤ q.1) && decide (q.1 ≤ q.2.2)
def intsF (lo hi : Int) : List Int := (List.range (hi + 1 - lo).toNat).map fun i => lo + (i : Nat)
def boxL (zs : List (Int × Int)) : List (List Int) := zs.foldl (fun rows q => rows.flatMap fun row => (intsF q.1 q.2).map fun x => row ++ [x]) [[]]
def bump (row : List Int) (j : Nat) : List Int := row.set j (row[j]?.getD 0 + 1)
def bump2 (a b : Nat) (row : List Int) : List Int := bump (bump row a) b
def addN (rows : List (List Int)) (row : List Int) : List (List Int) := if row ∈ rows then rows else rows ++ [row]
def webS (a b : Nat) (rows : List (List Int)) : List (List Int) := rows.foldl (fun acc row => addN acc (bump2 a b row)) rows
def webL (p : Nat) (ts : List (Nat × Nat)) : List (List Int) := ts.foldl (fun rows t => webS t.1 t.2 rows) [List.replicate p 0]
def spSum (K : PySem.W.Frag) : Sp := fun vs H Q _ => ∃ (p q : Addr) (xs ys : List Int), vs = [.ref p, .ref q] ∧ SqT K H p (xs.map V.int) ∧ SqT K H q (ys.map V.int) ∧ xs.length ≤ 1000 ∧ RetA K (sumF xs ys) H Q
def spInBox (K : PySem.W.Frag) : Sp := fun vs H Q _ => ∃ (p q r : Addr) (xs lo hi : List Int), vs = [.ref p, .ref q, .ref r] ∧ SqT K H p (xs.map V.int) ∧ SqT K H q (lo.map V.int) ∧ SqT K H r (hi.map V.int) ∧ xs.length ≤ 1000 ∧ RetV (.bl (inBox xs lo hi)) H Q
def spBox (K : PySem.W.Frag) : Sp := fun vs H Q _ => ∃ (p q : Addr) (lo hi : List Int), vs = [.ref p, .ref q] ∧ SqT K H p (lo.map V.int) ∧ SqT K H q (hi.map V.int) ∧ lo.length ≤ 5 ∧ (∀ z ∈ lo.zip hi, -1000 ≤ z.1 ∧ z.1 ≤ 1000 ∧ -1000 ≤ z.2 ∧ z.2 ≤ 1000 ∧ z.2 ≤ z.1 + 2) ∧ RetR K (boxL (lo.zip hi)) H Q
theorem boxL_snoc (zs : List (Int × Int)) (q : Int × Int) : boxL (zs ++ [q]) = (boxL zs).flatMap fun row => (intsF q.1 q.2).map fun x => row ++ [x] := by
  unfold boxL
  rw [List.foldl_append]
  rfl
theorem len_flat {α : Type} {k : Nat} {f : List Int → List α} : ∀ (l : List (List Int)), (∀ x ∈ l, (f x).length ≤ k) → (l.flatMap f).length ≤ k * l.length
  | [], _ => Nat.le_refl _
  | x :: r, h => by
    rw [List.flatMap_cons, List.length_append, List.length_cons, Nat.mul_succ]
    have h1 := len_flat r fun y hy => h y (List.mem_cons_of_mem _ hy)
    have h2 := h x List.mem_cons_self
    omega
theorem intsF_len {lo hi : Int} (h : hi ≤ lo + 2) : (intsF lo hi).length ≤ 3 := by
  unfold intsF
  rw [List.length_map, List.length_range]
  omega
theorem boxL_lenG : ∀ (zs : List (Int × Int)) (rows : List (List Int)), (∀ z ∈ zs, z.2 ≤ z.1 + 2) → (zs.foldl (fun rows q => rows.flatMap fun row => (intsF q.1 q.2).map fun x => row ++ [x]) rows).length ≤ 3 ^ zs.length * rows.length
  | [], rows, _ => by simp
  | q :: r, rows, h => by
    have h1 := boxL_lenG r (rows.flatMap fun row => (intsF q.1 q.2).map fun x => row ++ [x]) fun z hz => h z (List.mem_cons_of_mem _ hz)
    have h2 : (rows.flatMap fun row => (intsF q.1 q.2).map fun x => row ++ [x]).length ≤ 3 * rows.length := len_flat _ fun x _ => by
      rw [List.length_map]
      exact intsF_len (h q List.mem_cons_self)
    rw [List.foldl_cons, List.length_cons, Nat.pow_succ]
    refine Nat.le_trans h1 (Nat.le_trans (Nat.mul_le_mul_left _ h2) ?_)
    rw [Nat.mul_assoc]
    exact Nat.le_refl _
theorem boxL_len (zs : List (Int × Int)) (h : ∀ z ∈ zs, z.2 ≤ z.1 + 2) : (boxL zs).length ≤ 3 ^ zs.length := by
  have := boxL_lenG zs [[]] h
  unfold boxL
  simpa using this
theorem boxL_rowG : ∀ (zs : List (Int × Int)) (rows : List (List Int)) (m : Nat), (∀ r ∈ rows, r.length = m) → ∀ r ∈ zs.foldl (fun rows q => rows.flatMap fun row => (intsF q.1 q.2).map fun x => row ++ [x]) rows, r.length = m + zs.length
  | [], rows, m, h => h
  | q :: t, rows, m, h => fun r hr => by
    have := boxL_rowG t (rows.flatMap fun row => (intsF q.1 q.2).map fun x => row ++ [x]) (m + 1) (fun x hx => by
      obtain ⟨row, h1, h2⟩ := List.mem_flatMap.mp hx
      obtain ⟨y, _, rfl⟩ := List.mem_map.mp h2
      rw [List.length_append, h row h1]
      rfl) r hr
    rw [this, List.length_cons]
    omega
theorem boxL_row {zs : List (Int × Int)} {r : List Int} (h : r ∈ boxL zs) : r.length = zs.length := by
  have := boxL_rowG zs [[]] 0 (fun r hr => by rw [List.mem_singleton.mp hr]; rfl) r h
  omega
theorem pow3 {n : Nat} (h : n ≤ 5) : 3 ^ n ≤ 243 := by
  have : n = 0 ∨ n = 1 ∨ n = 2 ∨ n = 3 ∨ n = 4 ∨ n = 5 := by omega
  rcases this with rfl | rfl | rfl | rfl | rfl | rfl <;> decide
section
variable {P : Program} {w : World} {K : PySem.W.Frag} {mg : Str → Option Value} {base : Heap}
theorem ok_sum (M : Ma K mg) : Dn P w K mg base "_law_sum" 1 ["_law_one_here", "_law_other"] (spSum K) := by
  obtain ⟨fd, F⟩ := M.d_LawSum
  refine Dn.of F M.g__law_sum (fun _ _ _ _ _ _ us hl => match us, hl with | [_, _], _ => rfl) (F.ok scLawSum (fun vs H Q E h => ?_) (fun cdv A outer s H vs Q E hr h => ?_))
  · obtain ⟨p, q, xs, ys, rfl, _⟩ := h
    rfl
  · obtain ⟨p, q, xs, ys, rfl, hx, hy, hz, k⟩ := h
    refine ⟨_, pss_one (ps_ret (pe_callTy call_tuple_of (by rfl) M.n_tuple (by decide +kernel) (pa_cons (pe_lc (own := [("_law_mine", 2), ("_law_yours", 3)]) (g := gTup K 2 (gCons (gName 2) (gCons (gName 3) gNil))) (tt := tYes) rfl scLawSum.nd (RZ.pi_zipA (by rfl) M.n_zip (pa_cons (pv 0) (pa_cons (pv 1) pa_nil)))
        (blkOk_by (N := ["_law_one_here", "_law_other", "_law_mine", "_law_yours"]) (sc := defScope sLawSum) (by decide +kernel))
        (fun _ _ _ _ _ => pg_tup rfl (pgs_cons (pg_name (i := 2) scLawSum.nd rfl (Or.inl rfl)) (pgs_cons (pg_name (i := 3) scLawSum.nd rfl (Or.inl rfl)) pgs_nil))) (fun _ _ _ _ _ => pts_nil)
        (fun _ _ _ _ _ => pe_op op_add (pv 2) (pv 3))) pa_nil))), ?_⟩
    refine evt_tuple (K := K) (xs := (sumF xs ys).map V.int) (el_is (el_lcZ2 (xs := xs) (ys := ys) (pr := fun _ => true) (fv := fun q => .int (q.1 + q.2)) (ea_cons (ev_var rfl) (ea_cons (ev_var rfl) ea_nil)) hx hy (by omega) (fun _ _ => rfl) (fun _ _ _ _ => et_yes) fun q H1 hq e1 => ev_add (ev_var rfl) (ev_var rfl)) ?_) H (Ex.refl H) _ fun a H2 e2 h2 => k a H2 e2 h2
    rw [List.filter_eq_self.mpr fun _ _ => rfl]
    unfold sumF
    rw [List.map_map]
    rfl
theorem ok_in_box (M : Ma K mg) : Dn P w K mg base "_law_in_box" 1 ["_law_lot", "_law_least", "_law_greatest"] (spInBox K) := by
  obtain ⟨fd, F⟩ := M.d_LawInBox
  refine Dn.of F M.g__law_in_box (fun _ _ _ _ _ _ us hl => match us, hl with | [_, _, _], _ => rfl) (F.ok scLawInBox (fun vs H Q E h => ?_) (fun cdv A outer s H vs Q E hr h => ?_))
  · obtain ⟨p, q, r, xs, lo, hi, rfl, _⟩ := h
    rfl
  · obtain ⟨p, q, r, xs, lo, hi, rfl, hx, hy, hv, hz, k⟩ := h
    refine ⟨_, pss_one (ps_ret (pe_cmpR (op_eqD hr.units) (pe_lc (own := [("_law_part", 3), ("_law_low", 4), ("_law_high", 5)]) (g := gTup K 3 (gCons (gName 3) (gCons (gName 4) (gCons (gName 5) gNil)))) rfl scLawInBox.nd (pi_zip3 (by rfl) M.n_zip (pa_cons (pv 0) (pa_cons (pv 1) (pa_cons (pv 2) pa_nil))))
        (blkOk_by (N := ["_law_lot", "_law_least", "_law_greatest", "_law_part", "_law_low", "_law_high"]) (sc := defScope sLawInBox) (by decide +kernel))
        (fun _ _ _ _ _ => pg_tup rfl (pgs_cons (pg_name (i := 3) scLawInBox.nd rfl (Or.inl rfl)) (pgs_cons (pg_name (i := 4) scLawInBox.nd rfl (Or.inl rfl)) (pgs_cons (pg_name (i := 5) scLawInBox.nd rfl (Or.inl rfl)) pgs_nil))))
        (fun _ _ _ _ _ => pts_one (pt_not (pt_chain op_le op_le (pv 4) (pv 3) (pv 5)))) (fun _ _ _ _ _ => pe_int)) (pe_lst pa_nil) (nomark _))), ?_⟩
    refine s_ret (v := .bl (inBox xs lo hi)) (ev_is (ev_eqNil (ds := ((xs.zip (lo.zip hi)).filter fun q => !(decide (q.2.1 ≤ q.1) && decide (q.1 ≤ q.2.2))).map fun _ => PyData.int 1)
      (el_lcZ3 (xs := xs) (ys := lo) (zs := hi) (pr := fun q => !(decide (q.2.1 ≤ q.1) && decide (q.1 ≤ q.2.2))) (fv := fun q => .int 1) (ea_cons (ev_var rfl) (ea_cons (ev_var rfl) (ea_cons (ev_var rfl) ea_nil))) hx hy hv (by omega) (fun _ _ _ => rfl)
        (fun q H1 hq e1 => et_not (et_test (ev_chainI (ev_var rfl) (ev_var rfl) (ev_var rfl)))) fun q H1 hq e1 => ev_c) (fun H1 => ?_) ?_) (congrArg V.bl ?_)) fun H1 e1 => k H1 e1
    · have h := dp_ints (K := K) (H := H1) (((xs.zip (lo.zip hi)).filter fun q => !(decide (q.2.1 ≤ q.1) && decide (q.1 ≤ q.2.2))).map fun _ => 1)
      rw [List.map_map, List.map_map] at h
      exact h
    · exact shaped_list (k := 0) (fun d hd => by obtain ⟨c, hc, rfl⟩ := List.mem_map.mp hd; exact ⟨rfl, Nat.le_refl _⟩) (by decide)
    · unfold inBox
      rw [List.isEmpty_map, Bool.eq_iff_iff, List.isEmpty_iff, List.filter_eq_nil_iff, List.all_eq_true]
      simp
theorem ok_box (M : Ma K mg) : Dn P w K mg base "_law_box" 1 ["_law_least", "_law_greatest"] (spBox K) := by
  obtain ⟨fd, F⟩ := M.d_LawBox
  refine Dn.of F M.g__law_box (fun _ _ _ _ _ _ us hl => match us, hl with | [_, _], _ => rfl) (F.ok scLawBox (fun vs H Q E h => ?_) (fun cdv A outer s H vs Q E hr h => ?_))
  · obtain ⟨p, q, lo, hi, rfl, _⟩ := h
    rfl
  · obtain ⟨p, q, lo, hi, rfl, hx, hy, hz, hb, k⟩ := h
    refine ⟨_, (pss_cons (ps_set (i := 2) scLawBox.nd rfl (.inl rfl) (pe_lst (pa_cons (pe_tup pa_nil) pa_nil))) <|
      pss_cons (ps_for (passes_of rfl) rfl (RZ.pi_zipA (by rfl) M.n_zip (pa_cons (pv 0) (pa_cons (pv 1) pa_nil))) (pg_tup rfl (pgs_cons (pg_name (i := 3) scLawBox.nd rfl (.inl rfl)) (pgs_cons (pg_name (i := 4) scLawBox.nd rfl (.inl rfl)) pgs_nil)))
        (pss_cons (ps_set (i := 5) scLawBox.nd rfl (.inl rfl) (pe_lst pa_nil)) <|
         pss_cons (ps_for (passes_of rfl) rfl (pi_list (pv 2)) (pg_name (i := 6) scLawBox.nd rfl (.inr rfl))
           (pss_one (ps_expr (pe_bm PySem.F.plainAttrs_list PySem.F.slot_list_extend PySem.F.type_list_extend mt_extend (pv 5) (pa_cons (pe_lc (own := [("_law_part", 7)]) (g := gName 7) (tt := tYes) rfl scLawBox.nd (pi_range2 (by rfl) M.n_range (pa_cons (pv 3) (pa_cons (pe_op op_add (pv 4) pe_int) pa_nil)))
              (blkOk_by (N := ["_law_least", "_law_greatest", "_law_rows", "_law_low", "_law_high", "_law_longer", "_law_row", "_law_part"]) (sc := defScope sLawBox) (by decide +kernel))
              (fun _ _ _ _ _ => pg_name (i := 7) scLawBox.nd rfl (Or.inl rfl)) (fun _ _ _ _ _ => pts_nil)
              (fun _ _ _ _ _ => pe_op (show OpR _ (binaryOp .Add) (rCatA K) from op_catA) (pv 6) (pe_tup (pa_cons (pv 7) pa_nil)))) pa_nil))))) <|
         pss_one (ps_set (i := 2) scLawBox.nd rfl (.inl rfl) (pe_callTy call_list_of (by rfl) M.n_list (by decide +kernel) (pa_cons (pv 5) pa_nil))))) <|
      pss_one (ps_ret (pv 2))), ?_⟩
    generalize ezs : lo.zip hi = zs at hb k
    have hzl : zs.length ≤ 5 := by rw [← ezs, List.length_zip]; omega
    refine q_asgR (K := K) (er_lst1 (row := []) (evt_evu (eu_tup ea_nil (by simp)))) fun l0 ps0 H0 n0 e0 h0 r0 w0 => ?_
    refine ⟨_, rfl, _, rfl, p, q, _, _, rfl, .inr ⟨ex_t e0 hx, ex_t e0 hy, ?_⟩⟩
    have hlen : zs.length = min (lo.map V.int).length (hi.map V.int).length := by rw [← ezs]; simp
    refine q_it (walk_zipT hlen) (fun i σ' H' => (∃ l ps y3 y4 y5 y6 y7, σ' = [some (.ref p), some (.ref q), some (.ref l), y3, y4, y5, y6, y7] ∧ H l = none ∧ H' l = some (.lst (rv ps)) ∧ RowsAt K H' ps ∧ rw' ps = boxL (zs.take i)) ∧ Ex H H')
      ⟨⟨l0, ps0, _, _, _, _, _, rfl, n0, h0, r0, w0⟩, e0⟩ (fun i σ' H' _ p => ⟨ex_t p.2 hx, ex_t p.2 hy⟩) (fun i x σ' H' H'' hi' pv y => ?_) fun σ' H' pv => ?_
    · obtain ⟨⟨l, ps, y3, y4, y5, y6, y7, rfl, nl, hl, hr1, hw1⟩, e1⟩ := pv
      obtain ⟨T, x1, x2, rfl, hT, rfl, h1, h2⟩ := y
      obtain ⟨z, hzk⟩ : ∃ z, zs[i]? = some z := ⟨_, List.getElem?_eq_getElem hi'⟩
      have hzk' : (lo.zip hi)[i]? = some z := by rw [ezs]; exact hzk
      have g1 := (List.getElem?_zip_eq_some.mp hzk').1
      have g2 := (List.getElem?_zip_eq_some.mp hzk').2
      have h1' : (lo.map V.int)[i]? = some x1 := h1
      have h2' : (hi.map V.int)[i]? = some x2 := h2
      rw [List.getElem?_map, g1] at h1'
      rw [List.getElem?_map, g2] at h2'
      cases h1'
      cases h2'
      obtain ⟨b1, b1', b2', b2, b3⟩ := hb _ (List.mem_of_getElem? hzk)
      have e2 : Ex H' (upd H' T (.tup [.int z.1, .int z.2])) := Ex.new hT
      refine ⟨T, _, rfl, st_of upd_same, rfl, _, _, rfl, _, [], rfl, rfl, ?_⟩
      generalize upd H' T (.tup [.int z.1, .int z.2]) = Ha at e2 ⊢
      refine q_asgR (K := K) er_nil fun l2 qs0 Hb n2 e3 h2 r2 w2 => ?_
      have eqs0 : qs0 = [] := List.eq_nil_of_length_eq_zero (by rw [← rw_len, w2]; rfl)
      subst eqs0
      have hlb : Hb l = some (.lst (rv ps)) := e3 _ _ (e2 _ _ hl)
      refine q_forLn (a := l) (xs := rv ps) (ev_var rfl) (sq_of hlb) (fun j σ2 H2 => (∃ qs y6 y7, σ2 = [some (.ref p), some (.ref q), some (.ref l), some (.int z.1), some (.int z.2), some (.ref l2), y6, y7] ∧ H2 l2 = some (.lst (rv qs)) ∧ RowsAt K H2 qs ∧ rw' qs = ((rw' ps).take j).flatMap fun row => (intsF z.1 z.2).map fun x => row ++ [x]) ∧ Ex Ha H2)
        (fun H2 e4 => ⟨⟨[], _, _, rfl, e4 _ _ h2, r2.ex e4, rfl⟩, e3.trans e4⟩) (fun j σ2 H2 _ pv => sq_of (pv.2 _ _ (e2 _ _ hl))) (fun j x σ2 H2 hj pv => ?_) fun σ2 H2 pv => ?_
      · obtain ⟨⟨qs, y6', y7', rfl, hq, hrq, hwq⟩, e4⟩ := pv
        unfold rv at hj
        rw [List.getElem?_map] at hj
        cases hpj : ps[j]? with
        | none => rw [hpj] at hj; cases hj
        | some pr =>
          rw [hpj] at hj
          cases hj
          have hrow : SqT K H2 pr.1 (pr.2.map V.int) := ex_t (e2.trans e4) (hr1 pr (List.mem_of_getElem? hpj))
          have hrwj : (rw' ps)[j]? = some pr.2 := by unfold rw'; rw [List.getElem?_map, hpj]; rfl
          have hjl : j < ps.length := (List.getElem?_eq_some_iff.mp hpj).1
          have hpsl : ps.length ≤ 243 := by
            rw [← rw_len, hw1]
            refine Nat.le_trans (boxL_len _ fun z hz => (hb z (List.mem_of_mem_take hz)).2.2.2.2) (pow3 (by rw [List.length_take]; omega))
          have hqsl : qs.length ≤ 3 * 243 := by
            rw [← rw_len, hwq]
            refine Nat.le_trans (len_flat (k := 3) _ fun x _ => by rw [List.length_map]; exact intsF_len b3) ?_
            rw [List.length_take, rw_len]
            omega
          have hrl : pr.2.length ≤ 100 := by
            have := boxL_row (by rw [← hw1]; exact List.mem_of_getElem? hrwj : pr.2 ∈ boxL (zs.take i))
            rw [List.length_take] at this
            omega
          have hi3 : (intsF z.1 z.2).length ≤ 3 := intsF_len b3
          refine s_extR (K := K) (rows := (intsF z.1 z.2).map fun x => pr.2 ++ [x]) hq (ev_var rfl) ?_ (by rw [List.length_map]; omega) fun qs2 H3 e5 r5 w5 => ?_
          · refine er_is (er_lcIt (walk_range (lo := z.1) (n := (z.2 + 1 - z.1).toNat)) (fun i => (List.range i).map fun k : Nat => pr.2 ++ [z.1 + (k : Int)]) rfl (fun H3 e5 R r => ea_cons (ev_var rfl) (ea_cons (ev_add (ev_var rfl) ev_c) ea_nil) H3 e5 _ fun H4 e6 => ⟨z.1, z.2 + 1, rfl, ⟨by omega, by omega, by omega, by omega⟩, r H4 e6⟩) (fun _ _ => True.intro) (fun i hi => by rw [List.length_map, List.length_range]; omega) fun i x H3 H4 hi e5 y => ?_) ?_
            · obtain ⟨rfl, rfl⟩ := y
              refine ⟨Ex.refl _, _, true, pr.2 ++ [z.1 + (i : Int)], fun q hq => hq, rfl, et_yes, fun _ => ?_, ?_⟩
              · rw [List.map_append]
                exact evt_cat (evt_ev (ev_var rfl) (ex_t e5 hrow)) (evt_evu (eu_tup (ea_cons (ev_var rfl) ea_nil) (by simp))) (by rw [List.length_map]; show _ + 1 ≤ _; omega)
              · rw [List.range_succ, List.map_append]
                rfl
            · unfold intsF
              rw [List.map_map]
              rfl
          · refine ⟨⟨qs ++ qs2, _, _, rfl, upd_same, ?_, ?_⟩, ?_⟩
            · have hq3 := e5 _ _ hq
              exact RowsAt.tk (Tk.lst hq3) (RowsAt.app (hrq.ex e5) r5)
            · rw [rw_app, w5, hwq, List.take_add_one, hrwj, List.flatMap_append]
              simp
            · exact Ex.mut (e4.trans e5) n2
      · obtain ⟨⟨qs, y6', y7', rfl, hq, hrq, hwq⟩, e4⟩ := pv
        rw [rv_len, ← rw_len ps, List.take_length] at hwq
        refine ⟨_, rfl, l2, _, rfl, .inl (sq_of hq), fun l3 hl3 => ?_⟩
        refine ⟨⟨l3, qs, _, _, _, _, _, rfl, fresh_back (e1.trans (e2.trans e4)) hl3, upd_same, hrq.ex (Ex.new hl3), ?_⟩, (e1.trans (e2.trans e4)).trans (Ex.new hl3)⟩
        rw [hwq, hw1, List.take_add_one, hzk, ← boxL_snoc]
        rfl
    · obtain ⟨⟨l, ps, y3, y4, y5, y6, y7, rfl, nl, hl, hr1, hw1⟩, e1⟩ := pv
      rw [List.take_length] at hw1
      exact ⟨_, rfl, k l ps H' nl e1 hl hr1 hw1⟩
end
end SL
end
section
set_option Elab.async false
set_option linter.all false
set_option maxRecDepth 100000
set_option maxHeartbeats 2000000
/-! _law_web, _law_one. -/
namespace SL
open PySem PySem.Spec PyProof.Rows L2 Evl
theorem _root_.L2.Room.units1 {k : Nat} {A : Around} (r : Room k A) : A.units + 65 < cLine := by have := r.un; omega
theorem flat_repl (x : V) : ∀ p : Nat, (List.replicate p [x]).flatten = List.replicate p x
  | 0 => rfl
  | p + 1 => by rw [List.replicate_succ, List.flatten_cons, flat_repl x p]; rfl
theorem eqvAll_ints : ∀ a b : List Int, PyData.eqvAll (a.map .int) (b.map .int) = decide (a = b)
  | [], [] => by simp [PyData.eqvAll]
  | [], _ :: _ => by simp [PyData.eqvAll]
  | _ :: _, [] => by simp [PyData.eqvAll]
  | x :: xs, y :: ys => by
    simp only [List.map_cons, PyData.eqvAll, PyData.eqv, eqvAll_ints xs ys]
    rw [Bool.eq_iff_iff]
    simp
theorem eqv_tup (a b : List Int) : PyData.eqv (.tuple (a.map .int)) (.tuple (b.map .int)) = decide (a = b) := by
  simp only [PyData.eqv]
  exact eqvAll_ints a b
theorem any_tup (rows : List (List Int)) (row : List Int) : ((rows.map fun r => PyData.tuple (r.map .int)).any fun z => PyData.eqv z (.tuple (row.map .int))) = decide (row ∈ rows) := by
  rw [Bool.eq_iff_iff]
  simp only [List.any_map, List.any_eq_true, Function.comp, eqv_tup, decide_eq_true_eq]
  constructor
  · rintro ⟨r, h, rfl⟩
    exact h
  · intro h
    exact ⟨row, h, rfl⟩
theorem tup_can (row : List Int) : PyData.canLay0 (.tuple (row.map .int)) = true := by
  simp only [PyData.canLay0]
  exact lay_all _ fun d hd => by obtain ⟨x, _, rfl⟩ := List.mem_map.mp hd; rfl
theorem tup_dep (row : List Int) : PyData.depth (.tuple (row.map .int)) ≤ 1 := by
  simp only [PyData.depth]
  exact Nat.succ_le_succ (depth_all 0 _ fun d hd => by obtain ⟨x, _, rfl⟩ := List.mem_map.mp hd; exact Nat.le_refl _)
theorem tup_shaped (row : List Int) : SeqAt.shaped (.tuple (row.map .int)) = true := by
  unfold SeqAt.shaped
  rw [tup_can, Bool.true_and]
  exact decide_eq_true (Nat.le_trans (tup_dep row) (by decide))
theorem rows_shaped (rows : List (List Int)) : SeqAt.shaped (.list (rows.map fun r => PyData.tuple (r.map .int))) = true :=
  shaped_list (k := 1) (fun d hd => by obtain ⟨x, _, rfl⟩ := List.mem_map.mp hd; exact ⟨tup_can x, tup_dep x⟩) (by decide)
section
variable {K : PySem.W.Frag} {σ : L2.St} {H : Hp} {ta tb te tx tc tl : TE} {t u : TT}
theorem dp_tup {a : Addr} {row : List Int} (h : SqT K H a (row.map V.int)) : Dp K H (.ref a) (.tuple (row.map .int)) := .tup h (dp_ints row)
theorem dp_rowsT : ∀ {ps : List (Addr × List Int)}, RowsAt K H ps → DpAll K H (rv ps) ((rw' ps).map fun r => PyData.tuple (r.map .int))
  | [], _ => .nil
  | p :: ps, h => .cons (dp_tup (h p List.mem_cons_self)) (dp_rowsT fun q hq => h q (List.mem_cons_of_mem _ hq))
/-- tuple(x) of a list that stands -/
theorem evt_tuL {a : Addr} {xs : List V} (h : Ev ta σ H (.ref a)) (hs : SqL K H a xs) : EvT' K (tCB (fun xs H Q => ∃ p ys, xs = [.ref p] ∧ ((SqL K H p ys ∧ ∀ l, H l = none → Q (.ref l) (upd H l (.tup ys))) ∨ (SqT K H p ys ∧ Q (.ref p) H))) (tCons ta tNil)) σ H xs := fun H1 e Q q =>
  h H1 e _ fun H2 e2 => ⟨a, xs, rfl, .inl ⟨ex_l (e.trans e2) hs, fun l hl => q l _ (e2.trans (Ex.new hl)) (st_of upd_same)⟩⟩
/-- list(x) of a tuple that stands -/
theorem el_lstT {p : Addr} {xs : List V} (ha : Ev ta σ H (.ref p)) (h : SqT K H p xs) : EvL (tCB (rListS K) (tCons ta tNil)) σ H xs := fun H1 e Q q =>
  ha H1 e _ fun H2 e2 => ⟨p, xs, rfl, .inr (ex_t (e.trans e2) h), fun l hl => q l _ (fresh_back e2 hl) (e2.trans (Ex.new hl)) upd_same⟩
theorem er_var {p : Addr} {ps : List (Addr × List Int)} (ha : Ev ta σ H (.ref p)) (h : SqL K H p (rv ps)) (hr : RowsAt K H ps) : EvR K (tCB (rListS K) (tCons ta tNil)) σ H (rw' ps) := fun H1 e Q q =>
  ha H1 e _ fun H2 e2 => ⟨p, rv ps, rfl, .inl (ex_l (e.trans e2) h), fun l hl => q l ps _ (fresh_back e2 hl) (e2.trans (Ex.new hl)) upd_same ((hr.ex (e.trans e2)).ex (Ex.new hl)) rfl⟩
/-- row not in rows -/
theorem ev_niR {l : Addr} {ps : List (Addr × List Int)} {row : List Int} (ha : EvT' K ta σ H (row.map V.int)) (hb : Ev tb σ H (.ref l)) (hl : SqL K H l (rv ps)) (hr : RowsAt K H ps) : Ev (tOp (rNotInD K) ta tb) σ H (.bl (!decide (row ∈ rw' ps))) := fun H1 e Q q =>
  ha H1 e _ fun a H2 e2 h2 => hb H2 (e.trans e2) _ fun H3 e3 => ⟨_, _, dp_tup (ex_t e3 h2), .lst (ex_l ((e.trans e2).trans e3) hl) (dp_rowsT (hr.ex ((e.trans e2).trans e3))), tup_shaped row, rows_shaped _, by rw [any_tup]; exact q H3 (e2.trans e3)⟩
theorem ev_intB {b : Bool} (h : Ev ta σ H (.bl b)) : Ev (tCB (fun xs H Q => (∃ i, xs = [.int i] ∧ Q (.int i) H) ∨ ∃ k, xs = [.bl k] ∧ Q (.int (if k then 1 else 0)) H) (tCons ta tNil)) σ H (.int (if b then 1 else 0)) :=
  ev_cb (ea_cons h ea_nil) fun H1 e Q q => .inr ⟨b, rfl, q H1 (Ex.refl H1)⟩
theorem repl_one {α : Type} (b : Bool) (x : List α) : (List.replicate (if b then (1 : Int) else 0).toNat x).flatten = if b then x else [] := by
  cases b <;> simp
theorem rows_if (b : Bool) {ps qs : List (Addr × List Int)} (h1 : RowsAt K H ps) (h2 : RowsAt K H qs) : RowsAt K H (if b then ps ++ qs else ps) := by
  cases b
  · exact h1
  · exact h1.app h2
/-- rows + [row] * int(row not in rows) -/
theorem er_addN {l : Addr} {ps : List (Addr × List Int)} {row : List Int} (hv : Ev tc σ H (.ref l)) (hr' : EvT' K te σ H (row.map V.int)) (ha : EvT' K ta σ H (row.map V.int)) (hb : Ev tb σ H (.ref l)) (hl : H l = some (.lst (rv ps))) (hr : RowsAt K H ps) (hz : ps.length < 100000) :
    EvR K (tOp rCat tc (tOp rRep (tLst (tCons te tNil)) (tCB (fun xs H Q => (∃ i, xs = [.int i] ∧ Q (.int i) H) ∨ ∃ k, xs = [.bl k] ∧ Q (.int (if k then 1 else 0)) H) (tCons (tOp (rNotInD K) ta tb) tNil)))) σ H (addN (rw' ps) row) := fun H1 e Q q =>
  hv H1 e _ fun H2 e2 => er_lst1 hr' H2 (e.trans e2) _ fun m qs H3 nm e3 hm rq wq => ev_intB (ev_niR ha hb (sq_of hl) hr) H3 ((e.trans e2).trans e3) _ fun H4 e4 => by
    have e14 := (e.trans e2).trans (e3.trans e4)
    obtain ⟨a, rfl⟩ : ∃ a, qs = [(a, row)] := by
      cases qs with
      | nil => cases wq
      | cons x t =>
        cases t with
        | nil => obtain ⟨a, r⟩ := x; cases wq; exact ⟨a, rfl⟩
        | cons y t => cases wq
    refine ⟨m, _, _, rfl, rfl, e4 _ _ hm, ?_, ?_, ?_, fun p hp => ?_⟩
    · split <;> omega
    · split <;> omega
    · show 1 * _ ≤ sizeLine
      have : (if (!decide (row ∈ rw' ps)) then (1 : Int) else 0).toNat ≤ 1 := by split <;> decide
      have h1 : (1 : Nat) ≤ sizeLine := by decide
      omega
    · rw [repl_one]
      have e5 : Ex H4 (upd H4 p (.lst (if (!decide (row ∈ rw' ps)) then rv [(a, row)] else []))) := Ex.new hp
      refine ⟨l, p, rv ps, _, rfl, rfl, e5 _ _ (e14 _ _ hl), upd_same, sz_of ?_, fun r hrr => ?_⟩
      · rw [rv_len]
        have : (if (!decide (row ∈ rw' ps)) then rv [(a, row)] else []).length ≤ 1 := by
          split
          · exact Nat.le_refl 1
          · exact Nat.zero_le 1
        omega
      · have e6 := e5.trans (Ex.new (o := .lst (rv ps ++ if (!decide (row ∈ rw' ps)) then rv [(a, row)] else [])) hrr)
        refine q r (if (!decide (row ∈ rw' ps)) then ps ++ [(a, row)] else ps) _ (fresh_back ((e2.trans (e3.trans e4)).trans e5) hrr) ((e2.trans (e3.trans e4)).trans e6) ?_ ?_ ?_
        · rw [upd_same]
          split
          · rw [rv_app]
          · rw [List.append_nil]
        · exact rows_if _ ((hr.ex e14).ex e6) ((rq.ex e4).ex e6)
        · unfold addN
          by_cases h : row ∈ rw' ps
          · rw [if_pos h, if_neg (by simp [h])]
          · rw [if_neg h, if_pos (by simp [h]), rw_app]
            rfl
end
theorem addN_len (rows : List (List Int)) (row : List Int) : (addN rows row).length ≤ rows.length + 1 := by
  unfold addN
  split
  · omega
  · rw [List.length_append]; exact Nat.le_refl _
theorem addN_foldl_len (f : List Int → List Int) : ∀ (l acc : List (List Int)), (l.foldl (fun acc row => addN acc (f row)) acc).length ≤ acc.length + l.length
  | [], acc => Nat.le_refl _
  | x :: r, acc => by
    have h1 := addN_foldl_len f r (addN acc (f x))
    have h2 := addN_len acc (f x)
    rw [List.foldl_cons, List.length_cons]
    omega
theorem webS_len (a b : Nat) (rows : List (List Int)) : (webS a b rows).length ≤ 2 * rows.length := by
  have := addN_foldl_len (bump2 a b) rows rows
  unfold webS
  omega
theorem bump_len (row : List Int) (j : Nat) : (bump row j).length = row.length := by unfold bump; rw [List.length_set]
theorem bump2_len (a b : Nat) (row : List Int) : (bump2 a b row).length = row.length := by unfold bump2; rw [bump_len, bump_len]
theorem addN_mem {rows : List (List Int)} {row x : List Int} (h : x ∈ addN rows row) : x ∈ rows ∨ x = row := by
  unfold addN at h
  split at h
  · exact .inl h
  · rcases List.mem_append.mp h with h | h
    · exact .inl h
    · exact .inr (List.mem_singleton.mp h)
theorem addN_fold_mem (f : List Int → List Int) : ∀ (l acc : List (List Int)) {x : List Int}, x ∈ l.foldl (fun acc row => addN acc (f row)) acc → x ∈ acc ∨ ∃ y ∈ l, x = f y
  | [], acc, x, h => .inl h
  | y :: r, acc, x, h => by
    rcases addN_fold_mem f r (addN acc (f y)) h with h | ⟨z, hz, e⟩
    · rcases addN_mem h with h | h
      · exact .inl h
      · exact .inr ⟨y, List.mem_cons_self, h⟩
    · exact .inr ⟨z, List.mem_cons_of_mem _ hz, e⟩
theorem webS_row {a b p : Nat} {rows : List (List Int)} (h : ∀ r ∈ rows, r.length = p) : ∀ r ∈ webS a b rows, r.length = p := fun r hr => by
  rcases addN_fold_mem _ _ _ hr with h1 | ⟨y, hy, rfl⟩
  · exact h r h1
  · rw [bump2_len]
    exact h y hy
theorem webL_snoc (p : Nat) (ts : List (Nat × Nat)) (t : Nat × Nat) : webL p (ts ++ [t]) = webS t.1 t.2 (webL p ts) := by
  unfold webL
  rw [List.foldl_append]
  rfl
theorem webL_lenG : ∀ (ts : List (Nat × Nat)) (rows : List (List Int)), (ts.foldl (fun rows t => webS t.1 t.2 rows) rows).length ≤ 2 ^ ts.length * rows.length
  | [], rows => by simp
  | t :: r, rows => by
    have h1 := webL_lenG r (webS t.1 t.2 rows)
    have h2 := webS_len t.1 t.2 rows
    rw [List.foldl_cons, List.length_cons, Nat.pow_succ]
    refine Nat.le_trans h1 (Nat.le_trans (Nat.mul_le_mul_left _ h2) ?_)
    rw [Nat.mul_assoc]
    exact Nat.le_refl _
theorem pow2 {n : Nat} (h : n ≤ 5) : 2 ^ n ≤ 32 := by
  have : n = 0 ∨ n = 1 ∨ n = 2 ∨ n = 3 ∨ n = 4 ∨ n = 5 := by omega
  rcases this with rfl | rfl | rfl | rfl | rfl | rfl <;> decide
theorem webL_len {p : Nat} {ts : List (Nat × Nat)} (h : ts.length ≤ 5) : (webL p ts).length ≤ 32 := by
  have h1 := webL_lenG ts [List.replicate p 0]
  have h2 := pow2 h
  unfold webL
  rw [List.length_singleton, Nat.mul_one] at h1
  omega
theorem webL_rowG (p : Nat) : ∀ (ts : List (Nat × Nat)) (rows : List (List Int)), (∀ r ∈ rows, r.length = p) → ∀ r ∈ ts.foldl (fun rows t => webS t.1 t.2 rows) rows, r.length = p
  | [], rows, h => h
  | t :: r, rows, h => webL_rowG p r _ (webS_row h)
theorem webL_row {p : Nat} {ts : List (Nat × Nat)} {r : List Int} (h : r ∈ webL p ts) : r.length = p :=
  webL_rowG p ts _ (fun r hr => by rw [List.mem_singleton.mp hr, List.length_replicate]) r h
def tieR (t : Nat × Nat) : List Int := [(t.1 : Int), (t.2 : Int)]
def spWeb (K : PySem.W.Frag) : Sp := fun vs H Q _ => ∃ (p : Nat) (t : Addr) (ps : List (Addr × List Int)) (ts : List (Nat × Nat)), vs = [.int (p : Int), .ref t] ∧ SqT K H t (rv ps) ∧ RowsAt K H ps ∧ rw' ps = ts.map tieR ∧ ts.length ≤ 5 ∧ 1 ≤ p ∧ p ≤ 5 ∧
  (∀ t ∈ ts, t.1 < p ∧ t.2 < p) ∧ RetR K (webL p ts) H Q
def spOne (K : PySem.W.Frag) : Sp := fun vs H Q _ => ∃ (a b : Addr) (w : Str) (row : List Int) (rest : List V), vs = [.ref a, .ref b] ∧ SqT K H a (.str w :: rest) ∧ SqT K H b (row.map V.int) ∧ row.length ≤ 1000 ∧
  ((∃ c t d, w = "moved" ∧ rest = [t, .ref c] ∧ SqT K H c (d.map V.int) ∧ RetA K (sumF row d) H Q) ∨
   (∃ c g t lo hi, w = "between" ∧ rest = [t, .ref c, .ref g] ∧ SqT K H c (lo.map V.int) ∧ SqT K H g (hi.map V.int) ∧ (inBox row lo hi = true → RetA K row H Q) ∧ (inBox row lo hi = false → RetV .non H Q)) ∨
   (∃ (i : Nat) (t : V), w = "turned" ∧ rest = [t, .int (i : Int)] ∧ i < row.length ∧ RetA K (row.take i ++ [0 - row[i]?.getD 0] ++ row.drop (i + 1)) H Q) ∨
   (∃ (i j : Nat) (t : V), w = "added" ∧ rest = [t, .int (i : Int), .int (j : Int)] ∧ i < j ∧ j < row.length ∧
     RetA K ((row.take i ++ [row[i]?.getD 0 + row[j]?.getD 0] ++ row.drop (i + 1)).take j ++ (row.take i ++ [row[i]?.getD 0 + row[j]?.getD 0] ++ row.drop (i + 1)).drop (j + 1)) H Q) ∨
   (∃ (i : Nat) (t : V), w = "left" ∧ rest = [t, .int (i : Int)] ∧ i < row.length ∧ RetA K (row.take i ++ row.drop (i + 1)) H Q) ∨
   (∃ (i : Nat) (t : V) (v : Int), w = "slice" ∧ rest = [t, .int (i : Int), .int v] ∧ i < row.length ∧ (row[i]?.getD 0 = v → RetA K (row.take i ++ row.drop (i + 1)) H Q) ∧ (row[i]?.getD 0 ≠ v → RetV .non H Q)))
section
variable {P : Program} {w : World} {K : PySem.W.Frag} {mg : Str → Option Value} {base : Heap}
theorem ok_web (M : Ma K mg) : Dn P w K mg base "_law_web" 1 ["_law_places", "_law_ties"] (spWeb K) := by
  obtain ⟨fd, F⟩ := M.d_LawWeb
  refine Dn.of F M.g__law_web (fun _ _ _ _ _ _ us hl => match us, hl with | [_, _], _ => rfl) (F.ok scLawWeb (fun vs H Q E h => ?_) (fun cdv A outer s H vs Q E hr h => ?_))
  · obtain ⟨p, t, ps, ts, rfl, _⟩ := h
    rfl
  · obtain ⟨p, t, ps, ts, rfl, ht, hps, hrw, hz, hp1, hp5, hb, k⟩ := h
    refine ⟨_, (pss_cons (ps_set (i := 2) scLawWeb.nd rfl (.inl rfl) (pe_lst (pa_cons (pe_op op_repA (pe_tup (pa_cons pe_int pa_nil)) (pv 0)) pa_nil))) <|
      pss_cons (ps_for (passes_of rfl) rfl (pi_tup (pv 1)) (pg_tup rfl (pgs_cons (pg_name (i := 3) scLawWeb.nd rfl (.inl rfl)) (pgs_cons (pg_name (i := 4) scLawWeb.nd rfl (.inl rfl)) pgs_nil)))
        (pss_cons (ps_set (i := 5) scLawWeb.nd rfl (.inl rfl) (pe_callTy call_list_of (by rfl) M.n_list (by decide +kernel) (pa_cons (pv 2) pa_nil))) <|
         pss_cons (ps_for (passes_of rfl) rfl (pi_list (pv 2)) (pg_name (i := 6) scLawWeb.nd rfl (.inl rfl))
           (pss_cons (ps_set (i := 7) scLawWeb.nd rfl (.inl rfl) (pe_callTy call_list_of (by rfl) M.n_list (by decide +kernel) (pa_cons (pv 6) pa_nil))) <|
            pss_cons (ps_asg (pe_op op_add (pe_ix ix_list (pv 7) (pv 3) (fun _ _ => rfl)) pe_int) (pg_sub (pv 7) (pv 3) set_list)) <|
            pss_cons (ps_asg (pe_op op_add (pe_ix ix_list (pv 7) (pv 4) (fun _ _ => rfl)) pe_int) (pg_sub (pv 7) (pv 4) set_list)) <|
            pss_one (ps_set (i := 5) scLawWeb.nd rfl (.inl rfl) (pe_op op_cat (pv 5) (pe_op op_rep (pe_lst (pa_cons (pe_callTy call_tuple_of (by rfl) M.n_tuple (by decide +kernel) (pa_cons (pv 7) pa_nil)) pa_nil))
              (pe_callTy call_int1 (by rfl) M.n_int (by decide +kernel) (pa_cons (pe_cmpR (op_notInD hr.units1) (pe_callTy call_tuple_of (by rfl) M.n_tuple (by decide +kernel) (pa_cons (pv 7) pa_nil)) (pv 5) (by rfl)) pa_nil))))))) <|
         pss_one (ps_set (i := 2) scLawWeb.nd rfl (.inl rfl) (pv 5)))) <|
      pss_one (ps_ret (pv 2))), ?_⟩
    have hpl : ps.length ≤ 5 := by rw [← rw_len, hrw, List.length_map]; exact hz
    refine q_asgR (K := K) (rows := [List.replicate p 0]) (er_lst1 (evt_is (evt_rep (k := (p : Int)) (evt_evu (eu_tup (ea_cons ev_c ea_nil) (by simp))) (ev_var rfl) (by simp) (by omega) (by omega) (by simp)) ?_)) fun l0 ps0 H0 n0 e0 h0 r0 w0 => ?_
    · rw [Int.toNat_natCast, List.map_replicate]
      exact flat_repl _ p
    refine q_forT (a := t) (xs := rv ps) (ev_var rfl) (ex_t e0 ht) (fun i σ' H' => (∃ l qs y3 y4 y5 y6 y7, σ' = [some (.int (p : Int)), some (.ref t), some (.ref l), y3, y4, y5, y6, y7] ∧ H l = none ∧ H' l = some (.lst (rv qs)) ∧ RowsAt K H' qs ∧ rw' qs = webL p (ts.take i)) ∧ Ex H H')
      (fun H1 e1 => ⟨⟨l0, ps0, _, _, _, _, _, rfl, n0, e1 _ _ h0, r0.ex e1, w0⟩, e0.trans e1⟩) (fun i σ' H' _ pv => ex_t pv.2 ht) (fun i x σ' H' hi pv => ?_) fun σ' H' pv => ?_
    · obtain ⟨⟨l, qs, y3, y4, y5, y6, y7, rfl, nl, hl, hr1, hw1⟩, e1⟩ := pv
      unfold rv at hi
      rw [List.getElem?_map] at hi
      cases hpi : ps[i]? with
      | none => rw [hpi] at hi; cases hi
      | some pr =>
        rw [hpi] at hi
        cases hi
        have hwi : (rw' ps)[i]? = some pr.2 := by unfold rw'; rw [List.getElem?_map, hpi]; rfl
        rw [hrw, List.getElem?_map] at hwi
        cases hti : ts[i]? with
        | none => rw [hti] at hwi; cases hwi
        | some tt =>
          rw [hti] at hwi
          have ept : pr.2 = [(tt.1 : Int), (tt.2 : Int)] := (Option.some.inj hwi).symm
          obtain ⟨ba, bb⟩ := hb tt (List.mem_of_getElem? hti)
          have hpt := ex_t e1 (hps pr (List.mem_of_getElem? hpi))
          rw [ept] at hpt
          refine ⟨pr.1, _, rfl, hpt, rfl, _, _, rfl, _, [], rfl, rfl, ?_⟩
          refine q_asgR (K := K) (er_var (ev_var rfl) (sq_of hl) hr1) fun l2 qs2 Hb n2 e3 h2 r2 w2 => ?_
          have hlb : Hb l = some (.lst (rv qs)) := e3 _ _ hl
          have n2H : H l2 = none := fresh_back e1 n2
          have hql : qs.length ≤ 32 := by rw [← rw_len, hw1]; exact webL_len (by rw [List.length_take]; omega)
          refine q_forLn (a := l) (xs := rv qs) (ev_var rfl) (sq_of hlb) (fun j σ2 H2 => (∃ l2 zs y6 y7, σ2 = [some (.int (p : Int)), some (.ref t), some (.ref l), some (.int (tt.1 : Int)), some (.int (tt.2 : Int)), some (.ref l2), y6, y7] ∧ H l2 = none ∧ H2 l2 = some (.lst (rv zs)) ∧ RowsAt K H2 zs ∧ rw' zs = ((rw' qs).take j).foldl (fun acc row => addN acc (bump2 tt.1 tt.2 row)) (rw' qs)) ∧ Ex H' H2)
            (fun H2 e4 => ⟨⟨l2, qs2, _, _, rfl, n2H, e4 _ _ h2, r2.ex e4, w2⟩, e3.trans e4⟩) (fun j σ2 H2 _ pv => sq_of (pv.2 _ _ hl)) (fun j x σ2 H2 hj pv => ?_) fun σ2 H2 pv => ?_
          · obtain ⟨⟨l2, zs, y6', y7', rfl, n2', hq, hrq, hwq⟩, e4⟩ := pv
            unfold rv at hj
            rw [List.getElem?_map] at hj
            cases hqj : qs[j]? with
            | none => rw [hqj] at hj; cases hj
            | some qr =>
              rw [hqj] at hj
              cases hj
              have hrow : SqT K H2 qr.1 (qr.2.map V.int) := ex_t e4 (hr1 qr (List.mem_of_getElem? hqj))
              have hwj : (rw' qs)[j]? = some qr.2 := by unfold rw'; rw [List.getElem?_map, hqj]; rfl
              have hlen : qr.2.length = p := webL_row (by rw [← hw1]; exact List.mem_of_getElem? hwj)
              have hzl : zs.length ≤ 64 := by
                have := addN_foldl_len (bump2 tt.1 tt.2) ((rw' qs).take j) (rw' qs)
                rw [← hwq, rw_len, rw_len, List.length_take, rw_len] at this
                omega
              have get : ∀ (row : List Int) (i : Nat), i < row.length → (row.map V.int)[i]? = some (.int (row[i]?.getD 0)) := fun row i hi => by
                rw [List.getElem?_map, List.getElem?_eq_getElem hi]
                rfl
              have sett : ∀ (row : List Int) (i : Nat), (row.map V.int).set i (.int (row[i]?.getD 0 + 1)) = (bump row i).map V.int := fun row i => by
                unfold bump
                rw [List.map_set]
              refine q_asgL (xs := qr.2.map V.int) (el_lstT (ev_var rfl) hrow) fun l3 H3 n3 e5 h3 => ?_
              refine q_setL (l := l3) (xs := qr.2.map V.int) (j := tt.1) (v := .int (qr.2[tt.1]?.getD 0 + 1)) h3 (ev_add (ev_ixL (ev_var rfl) (ev_var rfl) (sq_of h3) (get _ _ (by omega))) ev_c) (ev_var rfl) (ev_var rfl) (by rw [List.length_map]; omega) fun H4 e6 => ?_
              rw [sett]
              have e24 : Ex H2 (upd H4 l3 (.lst ((bump qr.2 tt.1).map V.int))) := Ex.mut (e5.trans e6) n3
              have h4 : upd H4 l3 (.lst ((bump qr.2 tt.1).map V.int)) l3 = some (.lst ((bump qr.2 tt.1).map V.int)) := upd_same
              generalize upd H4 l3 (.lst ((bump qr.2 tt.1).map V.int)) = H5 at e24 h4 ⊢
              refine q_setL (l := l3) (xs := (bump qr.2 tt.1).map V.int) (j := tt.2) (v := .int ((bump qr.2 tt.1)[tt.2]?.getD 0 + 1)) h4 (ev_add (ev_ixL (ev_var rfl) (ev_var rfl) (sq_of h4) (get _ _ (by rw [bump_len]; omega))) ev_c) (ev_var rfl) (ev_var rfl) (by rw [List.length_map, bump_len]; omega) fun H6 e7 => ?_
              rw [sett]
              have e26 : Ex H2 (upd H6 l3 (.lst ((bump2 tt.1 tt.2 qr.2).map V.int))) := Ex.mut (e24.trans e7) n3
              have h6 : upd H6 l3 (.lst ((bump2 tt.1 tt.2 qr.2).map V.int)) l3 = some (.lst ((bump2 tt.1 tt.2 qr.2).map V.int)) := upd_same
              show tAsg _ _ _ _ (upd H6 l3 (.lst ((bump2 tt.1 tt.2 qr.2).map V.int)))
              generalize upd H6 l3 (.lst ((bump2 tt.1 tt.2 qr.2).map V.int)) = H7 at e26 h6 ⊢
              refine s_asgR (K := K) (er_addN (row := bump2 tt.1 tt.2 qr.2) (ev_var rfl) (evt_tuL (ev_var rfl) (sq_of h6)) (evt_tuL (ev_var rfl) (sq_of h6)) (ev_var rfl) (e26 _ _ hq) (hrq.ex e26) (by omega)) fun l4 zs4 H8 n4 e8 h8 r8 w8 => ?_
              refine ⟨⟨l4, zs4, _, _, rfl, fresh_back ((e1.trans e4).trans e26) n4, h8, r8, ?_⟩, (e4.trans e26).trans e8⟩
              rw [w8, hwq, List.take_add_one, hwj, List.foldl_append]
              rfl
          · obtain ⟨⟨l2, zs, y6', y7', rfl, n2', hq, hrq, hwq⟩, e4⟩ := pv
            rw [rv_len, ← rw_len qs, List.take_length] at hwq
            refine s_asg (v := .ref l2) (ev_var rfl) fun H3 e5 => ⟨⟨l2, zs, _, _, _, _, _, rfl, n2', e5 _ _ hq, hrq.ex e5, ?_⟩, (e1.trans e4).trans e5⟩
            rw [hwq, hw1, List.take_add_one, hti]
            exact (webL_snoc p (ts.take i) tt).symm
    · obtain ⟨⟨l, qs, y3, y4, y5, y6, y7, rfl, nl, hl, hr1, hw1⟩, e1⟩ := pv
      rw [List.take_of_length_le (by rw [rv_len, ← rw_len, hrw, List.length_map]; exact Nat.le_refl _)] at hw1
      exact ⟨_, rfl, k l qs H' nl e1 hl hr1 hw1⟩
end
end SL
end
section
set_option Elab.async false
set_option linter.all false
set_option maxRecDepth 100000
set_option maxHeartbeats 2000000
/-! _law_one. -/
namespace SL
open PySem PySem.Spec PyProof.Rows L2 Evl
theorem cutV_to (xs : List V) {i : Nat} (h : i ≤ xs.length) : cutV xs none (some (i : Int)) = xs.take i := by
  unfold cutV
  rw [HT.sIx_none, HT.sIx_nat, Nat.min_eq_left h, Nat.sub_zero, List.drop_zero]
theorem cutV_from (xs : List V) {i : Nat} {k : Int} (hk : k = (i : Int)) (h : i ≤ xs.length) : cutV xs (some k) none = xs.drop i := by
  subst hk
  unfold cutV
  rw [HT.sIx_none, HT.sIx_nat, Nat.min_eq_left h, List.take_of_length_le (by rw [List.length_drop]; exact Nat.le_refl _)]
section
variable {K : PySem.W.Frag} {σ : L2.St} {H : Hp} {ta tb te tx tc tl : TE} {t u : TT} {tu tz : TS} {D : Ends}
theorem q_no (h : EvT t σ H false) (k : ∀ H1, Ex H H1 → tz D σ H1) : tSeq (tIfS t tu tNext) tz D σ H := q_when h (fun z => by cases z) fun _ => k
theorem q_yes (h : EvT t σ H true) (k : ∀ H1, Ex H H1 → tu { D with nx := tz D } σ H1) : tSeq (tIfS t tu tNext) tz D σ H := q_when h (fun _ => k) fun z => by cases z
theorem et_str {x y : Str} {b : Bool} (ha : Ev ta σ H (.str x)) (hb : Ev tb σ H (.str y)) (e : decide (x = y) = b) : EvT (tTest (tOp rEq ta tb)) σ H b :=
  et_is (et_test (ev_op ha hb (rv_eq rfl))) (by rw [← e, decide_eq_decide]; exact ⟨fun h => V.str.inj h, fun h => by rw [h]⟩)
theorem et_cons {x : Int} {xs ys : List Int} : True := True.intro
/-- lot[:i], lot[i + 1:] -/
theorem evt_to {a : Addr} {row : List Int} {i : Nat} {ti : TE} (h : Ev ta σ H (.ref a)) (hs : SqT K H a (row.map V.int)) (hi : Ev ti σ H (.int (i : Int))) (hl : i ≤ row.length) : EvT' K (tSl (rSlA K) ta tNoPart (tPart ti)) σ H ((row.take i).map V.int) :=
  evt_is (evt_sl (evt_ev h hs) eo_none (eo_some hi)) (by rw [cutV_to _ (by rw [List.length_map]; exact hl), List.map_take])
theorem evt_from {a : Addr} {row : List Int} {i : Nat} {ti : TE} (h : Ev ta σ H (.ref a)) (hs : SqT K H a (row.map V.int)) (hi : Ev ti σ H (.int (i : Int))) (hl : i < row.length) : EvT' K (tSl (rSlA K) ta (tPart (tOp (rI0 fun i j => .int (i + j)) ti (tC (.int 1)))) tNoPart) σ H ((row.drop (i + 1)).map V.int) :=
  evt_is (evt_sl (evt_ev h hs) (eo_some (ev_add hi ev_c)) eo_none) (by rw [cutV_from (i := i + 1) _ (by omega) (by rw [List.length_map]; omega), List.map_drop])
theorem evt_mid {xs ys zs : List Int} (h1 : EvT' K ta σ H (xs.map V.int)) (h2 : EvT' K tb σ H (ys.map V.int)) (h3 : EvT' K tc σ H (zs.map V.int)) (hz : xs.length + ys.length + zs.length ≤ 100000) : EvT' K (tOp (rCatA K) (tOp (rCatA K) ta tb) tc) σ H ((xs ++ ys ++ zs).map V.int) :=
  evt_is (evt_cat (evt_cat h1 h2 (by rw [List.length_map, List.length_map]; omega)) h3 (by rw [List.length_append, List.length_map, List.length_map, List.length_map]; omega)) (by rw [List.map_append, List.map_append])
theorem evt_two {xs zs : List Int} (h1 : EvT' K ta σ H (xs.map V.int)) (h3 : EvT' K tc σ H (zs.map V.int)) (hz : xs.length + zs.length ≤ 100000) : EvT' K (tOp (rCatA K) ta tc) σ H ((xs ++ zs).map V.int) :=
  evt_is (evt_cat h1 h3 (by rw [List.length_map, List.length_map]; omega)) (by rw [List.map_append])
theorem row_get {row : List Int} {i : Nat} (h : i < row.length) : (row.map V.int)[i]? = some (.int (row[i]?.getD 0)) := by
  rw [List.getElem?_map, List.getElem?_eq_getElem h]
  rfl
theorem RetA.go {xs : List Int} {H' : Hp} {Q : VK} (k : RetA K xs H Q) (e : Ex H H') : ∀ p H2, Ex H' H2 → SqT K H2 p (xs.map V.int) → Q (.ref p) H2 := fun p H2 e2 h => k p H2 (e.trans e2) h
theorem evt_if {b : Bool} {xs : List V} (h : EvT t σ H b) (h1 : b = true → EvT' K ta σ H xs) (h2 : b = false → EvT' K tb σ H xs) : EvT' K (tIf t ta tb) σ H xs := fun H1 e Q q => h H1 e _ fun H2 e2 => by
  cases b with
  | true => exact h1 rfl H2 (e.trans e2) _ fun p H3 e3 h3 => q p H3 (e2.trans e3) h3
  | false => exact h2 rfl H2 (e.trans e2) _ fun p H3 e3 h3 => q p H3 (e2.trans e3) h3
theorem q_par {i j : Nat} {x y : V} {tp : TA} (h : EvA tp σ H [x, y]) (k : ∀ H1, Ex H H1 → tz D ((σ.set i (some x)).set j (some y)) H1) : tSeq (tPar i j tp) tz D σ H := h H (Ex.refl H) _ fun H1 e1 => ⟨x, y, rfl, k H1 e1⟩
theorem s_retT {xs : List V} (h : EvT' K te σ H xs) (k : ∀ p H1, Ex H H1 → SqT K H1 p xs → D.rt (.ref p) H1) : tRet te D σ H := h H (Ex.refl H) _ k
theorem q_asgT {i : Nat} {xs : List V} (h : EvT' K te σ H xs) (k : ∀ p H1, Ex H H1 → SqT K H1 p xs → tz D (σ.set i (some (.ref p))) H1) : tSeq (tAsg te (gName i)) tz D σ H := h H (Ex.refl H) _ k
theorem s_asgT {i : Nat} {xs : List V} (h : EvT' K te σ H xs) (k : ∀ p H1, Ex H H1 → SqT K H1 p xs → D.nx (σ.set i (some (.ref p))) H1) : tAsg te (gName i) D σ H := h H (Ex.refl H) _ k
end
section
variable {P : Program} {w : World} {K : PySem.W.Frag} {mg : Str → Option Value} {base : Heap}
theorem ok_one (M : Ma K mg) : Dn P w K mg base "_law_one" 2 ["_law_term_here", "_law_lot"] (spOne K) := by
  obtain ⟨fd, F⟩ := M.d_LawOne
  refine Dn.of F M.g__law_one (fun _ _ _ _ _ _ us hl => match us, hl with | [_, _], _ => rfl) (F.ok scLawOne (fun vs H Q E h => ?_) (fun cdv A outer s H vs Q E hr h => ?_))
  · obtain ⟨a, b, z, row, rest, rfl, _⟩ := h
    rfl
  · obtain ⟨a, b, z, row, rest, rfl, ha, hb, hz, h⟩ := h
    refine ⟨_, (pss_cons (ps_par (i := 2) (j := 3) rfl scLawOne.nd rfl rfl (by decide) rfl rfl (pa_cons (pe_ix ix_tup (pv 0) pe_int (fun _ _ => rfl)) (pa_cons (pe_ix ix_tup (pv 0) pe_int (fun _ _ => rfl)) pa_nil)) (by rfl)) <|
      pss_cons (ps_if (pt_cmpR op_eq (pv 2) pe_str (nomark _)) (pss_one (ps_ret (pe_dn (ok_sum M) hr passL (pa_cons (pv 1) (pa_cons (pv 3) pa_nil))))) pss_nil) <|
      pss_cons (ps_if (pt_cmpR op_eq (pv 2) pe_str (nomark _)) (pss_one (ps_ret (pe_ifExp (pt_val (pe_dn (ok_in_box M) hr passL (pa_cons (pv 1) (pa_cons (pv 3) (pa_cons (pe_ix ix_tup (pv 0) pe_int (fun _ _ => rfl)) pa_nil))))) (pv 1) pe_non))) pss_nil) <|
      pss_cons (ps_if (pt_cmpR op_eq (pv 2) pe_str (nomark _)) (pss_one (ps_ret (pe_op op_catA (pe_op op_catA (pe_slice sl_tupA (pv 1) po_none (po_some (pv 3))) (pe_tup (pa_cons (pe_op op_sub pe_int (pe_ix ix_tup (pv 1) (pv 3) (fun _ _ => rfl))) pa_nil))) (pe_slice sl_tupA (pv 1) (po_some (pe_op op_add (pv 3) pe_int)) po_none)))) pss_nil) <|
      pss_cons (ps_if (pt_cmpR op_eq (pv 2) pe_str (nomark _))
        (pss_cons (ps_set (i := 1) scLawOne.nd rfl (.inl rfl) (pe_op op_catA (pe_op op_catA (pe_slice sl_tupA (pv 1) po_none (po_some (pv 3))) (pe_tup (pa_cons (pe_op op_add (pe_ix ix_tup (pv 1) (pv 3) (fun _ _ => rfl)) (pe_ix ix_tup (pv 1) (pe_ix ix_tup (pv 0) pe_int (fun _ _ => rfl)) (fun _ _ => rfl))) pa_nil))) (pe_slice sl_tupA (pv 1) (po_some (pe_op op_add (pv 3) pe_int)) po_none))) <|
         pss_one (ps_ret (pe_op op_catA (pe_slice sl_tupA (pv 1) po_none (po_some (pe_ix ix_tup (pv 0) pe_int (fun _ _ => rfl)))) (pe_slice sl_tupA (pv 1) (po_some (pe_op op_add (pe_ix ix_tup (pv 0) pe_int (fun _ _ => rfl)) pe_int)) po_none)))) pss_nil) <|
      pss_cons (ps_if (PW.pt (pw_and (pt_cmpR op_eq (pv 2) pe_str (nomark _)) (pw_and1 (pt_cmpR op_ne (pe_ix ix_tup (pv 1) (pv 3) (fun _ _ => rfl)) (pe_ix ix_tup (pv 0) pe_int (fun _ _ => rfl)) (nomark _))))) (pss_one (ps_ret pe_non)) pss_nil) <|
      pss_one (ps_ret (pe_op op_catA (pe_slice sl_tupA (pv 1) po_none (po_some (pv 3))) (pe_slice sl_tupA (pv 1) (po_some (pe_op op_add (pv 3) pe_int)) po_none)))), ?_⟩
    rcases h with ⟨c, t, d, rfl, rfl, hd, k⟩ | ⟨c, g, t, lo, hi, rfl, rfl, h1, h2, k1, k2⟩ | ⟨i, t, rfl, rfl, hi, k⟩ | ⟨i, j, t, rfl, rfl, hij, hj, k⟩ | ⟨i, t, rfl, rfl, hi, k⟩ | ⟨i, t, v, rfl, rfl, hi, k1, k2⟩
    · refine q_par (ea_cons (ev_ixT (i := 0) (ev_var rfl) ev_c ha rfl) (ea_cons (ev_ixT (i := 2) (ev_var rfl) ev_c ha rfl) ea_nil)) fun H1 e1 => ?_
      refine q_yes (et_str (ev_var rfl) ev_c (by decide)) fun H2 e2 => ?_
      refine ⟨_, rfl, _, rfl, ?_⟩
      exact ⟨b, c, row, d, rfl, ex_t (e1.trans e2) hb, ex_t (e1.trans e2) hd, hz, k.go (e1.trans e2)⟩
    · refine q_par (ea_cons (ev_ixT (i := 0) (ev_var rfl) ev_c ha rfl) (ea_cons (ev_ixT (i := 2) (ev_var rfl) ev_c ha rfl) ea_nil)) fun H1 e1 => ?_
      refine q_no (et_str (ev_var rfl) ev_c (by decide)) fun H2 e2 => ?_
      refine q_yes (et_str (ev_var rfl) ev_c (by decide)) fun H3 e3 => ?_
      have e := (e1.trans e2).trans e3
      have hib : EvT (tB (tCall (spInBox K) [] E0 (tCons (tVar 1) (tCons (tVar 3) (tCons (tOp (rIxT K) (tVar 0) (tC (.int 3))) tNil))))) [some (.ref a), some (.ref b), some (.str "between"), some (.ref c)] H3 (inBox row lo hi) :=
        et_B (ev_call (ea_cons (ev_var rfl) (ea_cons (ev_var rfl) (ea_cons (ev_ixT (i := 3) (ev_var rfl) ev_c (ex_t e ha) rfl) ea_nil))) fun H4 e4 Q q E => ⟨b, c, g, row, lo, hi, rfl, ex_t (e.trans e4) hb, ex_t (e.trans e4) h1, ex_t (e.trans e4) h2, hz, q⟩)
      cases hin : inBox row lo hi with
      | true =>
        rw [hin] at hib
        exact s_retT (evt_if (b := true) hib (fun _ => evt_ev (ev_var rfl) (ex_t e hb)) (fun z => by cases z)) (RetA.go (k1 hin) e)
      | false =>
        rw [hin] at hib
        exact s_ret (ev_if (b := false) hib (fun z => by cases z) fun _ => ev_c) fun H4 e4 => k2 hin H4 (e.trans e4)
    · refine q_par (ea_cons (ev_ixT (i := 0) (ev_var rfl) ev_c ha rfl) (ea_cons (ev_ixT (i := 2) (ev_var rfl) ev_c ha rfl) ea_nil)) fun H1 e1 => ?_
      refine q_no (et_str (ev_var rfl) ev_c (by decide)) fun H2 e2 => ?_
      refine q_no (et_str (ev_var rfl) ev_c (by decide)) fun H3 e3 => ?_
      refine q_yes (et_str (ev_var rfl) ev_c (by decide)) fun H4 e4 => ?_
      have e := ((e1.trans e2).trans e3).trans e4
      have hb4 := ex_t e hb
      exact s_retT (evt_mid (ys := [0 - row[i]?.getD 0]) (evt_to (ev_var rfl) hb4 (ev_var rfl) (Nat.le_of_lt hi)) (evt_evu (eu_tup (ea_cons (ev_sub ev_c (ev_ixT (ev_var rfl) (ev_var rfl) hb4 (row_get hi))) ea_nil) (by simp))) (evt_from (ev_var rfl) hb4 (ev_var rfl) hi)
        (by rw [List.length_take, List.length_drop]; show _ + 1 + _ ≤ _; omega)) (k.go e)
    · refine q_par (ea_cons (ev_ixT (i := 0) (ev_var rfl) ev_c ha rfl) (ea_cons (ev_ixT (i := 2) (ev_var rfl) ev_c ha rfl) ea_nil)) fun H1 e1 => ?_
      refine q_no (et_str (ev_var rfl) ev_c (by decide)) fun H2 e2 => ?_
      refine q_no (et_str (ev_var rfl) ev_c (by decide)) fun H3 e3 => ?_
      refine q_no (et_str (ev_var rfl) ev_c (by decide)) fun H4 e4 => ?_
      refine q_yes (et_str (ev_var rfl) ev_c (by decide)) fun H5 e5 => ?_
      have e := (((e1.trans e2).trans e3).trans e4).trans e5
      have hb5 := ex_t e hb
      have ha5 := ex_t e ha
      have hi : i < row.length := by omega
      refine q_asgT (evt_mid (ys := [row[i]?.getD 0 + row[j]?.getD 0]) (evt_to (ev_var rfl) hb5 (ev_var rfl) (Nat.le_of_lt hi)) (evt_evu (eu_tup (ea_cons (ev_add (ev_ixT (ev_var rfl) (ev_var rfl) hb5 (row_get hi)) (ev_ixT (ev_var rfl) (ev_ixT (i := 3) (ev_var rfl) ev_c ha5 rfl) hb5 (row_get hj))) ea_nil) (by simp))) (evt_from (ev_var rfl) hb5 (ev_var rfl) hi)
        (by rw [List.length_take, List.length_drop]; show _ + 1 + _ ≤ _; omega)) fun r H6 e6 h6 => ?_
      have hlen : (row.take i ++ [row[i]?.getD 0 + row[j]?.getD 0] ++ row.drop (i + 1)).length = row.length := by
        rw [List.length_append, List.length_append, List.length_take, List.length_drop]
        show min i row.length + 1 + (row.length - (i + 1)) = _
        omega
      generalize row.take i ++ [row[i]?.getD 0 + row[j]?.getD 0] ++ row.drop (i + 1) = row2 at k h6 hlen
      have ha6 := ex_t e6 ha5
      exact s_retT (evt_two (evt_to (ev_var rfl) h6 (ev_ixT (i := 3) (ev_var rfl) ev_c ha6 rfl) (by omega)) (evt_from (ev_var rfl) h6 (ev_ixT (i := 3) (ev_var rfl) ev_c ha6 rfl) (by omega)) (by rw [List.length_take, List.length_drop]; omega)) (k.go (e.trans e6))
    · refine q_par (ea_cons (ev_ixT (i := 0) (ev_var rfl) ev_c ha rfl) (ea_cons (ev_ixT (i := 2) (ev_var rfl) ev_c ha rfl) ea_nil)) fun H1 e1 => ?_
      refine q_no (et_str (ev_var rfl) ev_c (by decide)) fun H2 e2 => ?_
      refine q_no (et_str (ev_var rfl) ev_c (by decide)) fun H3 e3 => ?_
      refine q_no (et_str (ev_var rfl) ev_c (by decide)) fun H4 e4 => ?_
      refine q_no (et_str (ev_var rfl) ev_c (by decide)) fun H5 e5 => ?_
      refine q_no (et_is (et_and (b := true) (et_str (b := false) (ev_var rfl) ev_c (by decide)) (fun z => by cases z)) rfl) fun H6 e6 => ?_
      have e := ((((e1.trans e2).trans e3).trans e4).trans e5).trans e6
      have hb5 := ex_t e hb
      exact s_retT (evt_two (evt_to (ev_var rfl) hb5 (ev_var rfl) (Nat.le_of_lt hi)) (evt_from (ev_var rfl) hb5 (ev_var rfl) hi) (by rw [List.length_take, List.length_drop]; omega)) (k.go e)
    · refine q_par (ea_cons (ev_ixT (i := 0) (ev_var rfl) ev_c ha rfl) (ea_cons (ev_ixT (i := 2) (ev_var rfl) ev_c ha rfl) ea_nil)) fun H1 e1 => ?_
      refine q_no (et_str (ev_var rfl) ev_c (by decide)) fun H2 e2 => ?_
      refine q_no (et_str (ev_var rfl) ev_c (by decide)) fun H3 e3 => ?_
      refine q_no (et_str (ev_var rfl) ev_c (by decide)) fun H4 e4 => ?_
      refine q_no (et_str (ev_var rfl) ev_c (by decide)) fun H5 e5 => ?_
      have e := (((e1.trans e2).trans e3).trans e4).trans e5
      have hb5 := ex_t e hb
      have ha5 := ex_t e ha
      have ht := et_and (t := tTest (tOp rEq (tVar 2) (tC (.str "slice")))) (u := tTest (tOp rNe (tOp (rIxT K) (tVar 1) (tVar 3)) (tOp (rIxT K) (tVar 0) (tC (.int 3))))) (σ := [some (.ref a), some (.ref b), some (.str "slice"), some (.int (i : Int))]) (H := H5) (et_str (b := true) (ev_var rfl) ev_c (by decide)) fun _ => et_test (ev_op (ev_ixT (ev_var rfl) (ev_var rfl) hb5 (row_get hi)) (ev_ixT (i := 3) (ev_var rfl) ev_c ha5 rfl) (rv_ne rfl))
      by_cases hv : row[i]?.getD 0 = v
      · refine q_no (et_is ht (by rw [hv]; simp)) fun H6 e6 => ?_
        exact s_retT (evt_two (evt_to (ev_var rfl) (ex_t e6 hb5) (ev_var rfl) (Nat.le_of_lt hi)) (evt_from (ev_var rfl) (ex_t e6 hb5) (ev_var rfl) hi) (by rw [List.length_take, List.length_drop]; omega)) (RetA.go (k1 hv) (e.trans e6))
      · refine q_yes (et_is ht (by simp [hv])) fun H6 e6 => ?_
        exact s_ret ev_c fun H7 e7 => k2 hv H7 ((e.trans e6).trans e7)
end
end SL
end
section
set_option Elab.async false
set_option linter.all false
set_option maxRecDepth 100000
set_option maxHeartbeats 2000000
/-! Terms: Tm, how they lie (TmAt), their lots (fam), which are well formed (WT). -/
namespace SL
open PySem PySem.Spec PyProof.Rows L2 Evl
inductive Tm where
  | told (rows : List (List Int))
  | box (lo hi : List Int)
  | few (p lo hi : Nat)
  | web (p : Nat) (ts : List (Nat × Nat))
  | sum (a b : Tm)
  | joined (a b : Tm)
  | moved (t : Tm) (d : List Int)
  | between (t : Tm) (lo hi : List Int)
  | turned (t : Tm) (i : Nat)
  | added (t : Tm) (i j : Nat)
  | left (t : Tm) (i : Nat)
  | slice (t : Tm) (i : Nat) (v : Int)
def cutR (row : List Int) (i : Nat) : List Int := row.take i ++ row.drop (i + 1)
def addR (row : List Int) (i j : Nat) : List Int := row.take i ++ [row[i]?.getD 0 + row[j]?.getD 0] ++ row.drop (i + 1)
def addO (acc : List (Option (List Int))) (k : Option (List Int)) : List (Option (List Int)) := if k ∈ acc then acc else acc ++ [k]
def keysF (ks : List (Option (List Int))) : List (Option (List Int)) := ks.foldl addO []
def famOf (ks : List (Option (List Int))) : List (List Int) := sortL ((keysF ks).filterMap id)
def fam : Tm → List (List Int)
  | .told rows => rows
  | .box lo hi => sortL (boxL (lo.zip hi))
  | .few p lo hi => sortL ((boxL ((List.replicate p 0).zip (List.replicate p 1))).filter fun r => decide ((lo : Int) ≤ r.sum) && decide (r.sum ≤ (hi : Int)))
  | .web p ts => sortL (webL p ts)
  | .sum a b => famOf ((fam a).flatMap fun x => (fam b).map fun y => some (sumF x y))
  | .joined a b => famOf ((fam a).flatMap fun x => (fam b).map fun y => some (x ++ y))
  | .moved t d => famOf ((fam t).map fun r => some (sumF r d))
  | .between t lo hi => famOf ((fam t).map fun r => if inBox r lo hi then some r else none)
  | .turned t i => famOf ((fam t).map fun r => some (r.take i ++ [0 - r[i]?.getD 0] ++ r.drop (i + 1)))
  | .added t i j => famOf ((fam t).map fun r => some (cutR (addR r i j) j))
  | .left t i => famOf ((fam t).map fun r => some (cutR r i))
  | .slice t i v => famOf ((fam t).map fun r => if r[i]?.getD 0 = v then some (cutR r i) else none)
def deepT : Tm → Nat
  | .told _ | .box _ _ | .few _ _ _ | .web _ _ => 0
  | .sum a b => max (deepT a) (deepT b) + 1
  | .joined a b => max (deepT a) (deepT b) + 1
  | .moved t _ => deepT t + 1
  | .between t _ _ => deepT t + 1
  | .turned t _ => deepT t + 1
  | .added t _ _ => deepT t + 1
  | .left t _ => deepT t + 1
  | .slice t _ _ => deepT t + 1
def TmAt (K : PySem.W.Frag) (H : Hp) : Tm → Addr → Prop
  | .told rows, a => ∃ q ps, SqT K H a [.str "told", .ref q] ∧ SqT K H q (rv ps) ∧ RowsAt K H ps ∧ rw' ps = rows
  | .box lo hi, a => ∃ p q, SqT K H a [.str "box", .ref p, .ref q] ∧ SqT K H p (lo.map V.int) ∧ SqT K H q (hi.map V.int)
  | .few p lo hi, a => SqT K H a [.str "few", .int (p : Int), .int (lo : Int), .int (hi : Int)]
  | .web p ts, a => ∃ q ps, SqT K H a [.str "web", .int (p : Int), .ref q] ∧ SqT K H q (rv ps) ∧ RowsAt K H ps ∧ rw' ps = ts.map tieR
  | .sum x y, a => ∃ b c, SqT K H a [.str "sum", .ref b, .ref c] ∧ TmAt K H x b ∧ TmAt K H y c
  | .joined x y, a => ∃ b c, SqT K H a [.str "joined", .ref b, .ref c] ∧ TmAt K H x b ∧ TmAt K H y c
  | .moved t d, a => ∃ b c, SqT K H a [.str "moved", .ref b, .ref c] ∧ TmAt K H t b ∧ SqT K H c (d.map V.int)
  | .between t lo hi, a => ∃ b c g, SqT K H a [.str "between", .ref b, .ref c, .ref g] ∧ TmAt K H t b ∧ SqT K H c (lo.map V.int) ∧ SqT K H g (hi.map V.int)
  | .turned t i, a => ∃ b, SqT K H a [.str "turned", .ref b, .int (i : Int)] ∧ TmAt K H t b
  | .added t i j, a => ∃ b, SqT K H a [.str "added", .ref b, .int (i : Int), .int (j : Int)] ∧ TmAt K H t b
  | .left t i, a => ∃ b, SqT K H a [.str "left", .ref b, .int (i : Int)] ∧ TmAt K H t b
  | .slice t i v, a => ∃ b, SqT K H a [.str "slice", .ref b, .int (i : Int), .int v] ∧ TmAt K H t b
def WB (p : Nat) : Prop := 1 ≤ p ∧ p ≤ 5
def WT : Tm → Nat → Prop
  | .told rows, p => WB p ∧ rows.length ≤ 1 ∧ ∀ r ∈ rows, r.length = p
  | .box lo hi, p => WB p ∧ lo.length = p ∧ hi.length = p ∧ ∀ z ∈ lo.zip hi, -1000 ≤ z.1 ∧ z.1 ≤ 1000 ∧ -1000 ≤ z.2 ∧ z.2 ≤ 1000 ∧ z.2 ≤ z.1 + 2
  | .few p' _ _, p => WB p ∧ p' = p
  | .web p' ts, p => WB p ∧ p' = p ∧ ts.length ≤ 5 ∧ ∀ t ∈ ts, t.1 < p ∧ t.2 < p
  | .sum a b, p => WB p ∧ WT a p ∧ WT b p ∧ (fam a).length ≤ 20 ∧ (fam b).length ≤ 20
  | .joined a b, p => WB p ∧ ∃ p1 p2, p = p1 + p2 ∧ WT a p1 ∧ WT b p2 ∧ (fam a).length ≤ 20 ∧ (fam b).length ≤ 20
  | .moved t d, p => WB p ∧ WT t p ∧ (fam t).length ≤ 20 ∧ d.length = p
  | .between t lo hi, p => WB p ∧ WT t p ∧ (fam t).length ≤ 20 ∧ lo.length = p ∧ hi.length = p
  | .turned t i, p => WB p ∧ WT t p ∧ (fam t).length ≤ 20 ∧ i < p
  | .added t i j, p => WB p ∧ WT t (p + 1) ∧ (fam t).length ≤ 20 ∧ i < j ∧ j < p + 1
  | .left t i, p => WB p ∧ WT t (p + 1) ∧ (fam t).length ≤ 20 ∧ i < p + 1
  | .slice t i _, p => WB p ∧ WT t (p + 1) ∧ (fam t).length ≤ 20 ∧ i < p + 1
theorem WT.wb {T : Tm} {p : Nat} (h : WT T p) : WB p := by
  cases T <;> exact h.1
theorem addO_len (acc : List (Option (List Int))) (k : Option (List Int)) : (addO acc k).length ≤ acc.length + 1 := by
  unfold addO
  split
  · omega
  · rw [List.length_append]; exact Nat.le_refl _
theorem addO_fold_len : ∀ (ks acc : List (Option (List Int))), (ks.foldl addO acc).length ≤ acc.length + ks.length
  | [], acc => Nat.le_refl _
  | k :: r, acc => by
    have h1 := addO_fold_len r (addO acc k)
    have h2 := addO_len acc k
    rw [List.foldl_cons, List.length_cons]
    omega
theorem keysF_len (ks : List (Option (List Int))) : (keysF ks).length ≤ ks.length := by
  have := addO_fold_len ks []
  simpa [keysF] using this
theorem keysF_snoc (ks : List (Option (List Int))) (k : Option (List Int)) : keysF (ks ++ [k]) = addO (keysF ks) k := by
  unfold keysF
  rw [List.foldl_append]
  rfl
theorem addO_mem {acc : List (Option (List Int))} {k x : Option (List Int)} (h : x ∈ addO acc k) : x ∈ acc ∨ x = k := by
  unfold addO at h
  split at h
  · exact .inl h
  · rcases List.mem_append.mp h with h | h
    · exact .inl h
    · exact .inr (List.mem_singleton.mp h)
theorem addO_fold_mem : ∀ (ks acc : List (Option (List Int))) {x : Option (List Int)}, x ∈ ks.foldl addO acc → x ∈ acc ∨ x ∈ ks
  | [], acc, x, h => .inl h
  | k :: r, acc, x, h => by
    rcases addO_fold_mem r (addO acc k) h with h | h
    · rcases addO_mem h with h | h
      · exact .inl h
      · exact .inr (by rw [h]; exact List.mem_cons_self)
    · exact .inr (List.mem_cons_of_mem _ h)
theorem keysF_mem {ks : List (Option (List Int))} {x : Option (List Int)} (h : x ∈ keysF ks) : x ∈ ks := by
  rcases addO_fold_mem ks [] h with h | h
  · cases h
  · exact h
theorem addO_nodup {acc : List (Option (List Int))} {k : Option (List Int)} (h : acc.Nodup) : (addO acc k).Nodup := by
  unfold addO
  split
  · exact h
  · rename_i hk
    exact List.nodup_append.mpr ⟨h, by simp, fun a ha b hb => by
      rw [List.mem_singleton.mp hb]
      exact fun e => hk (e ▸ ha)⟩
theorem addO_fold_nodup : ∀ (ks acc : List (Option (List Int))), acc.Nodup → (ks.foldl addO acc).Nodup
  | [], _, h => h
  | k :: r, acc, h => addO_fold_nodup r _ (addO_nodup h)
theorem keysF_nodup (ks : List (Option (List Int))) : (keysF ks).Nodup := addO_fold_nodup ks [] List.nodup_nil
theorem famOf_mem {ks : List (Option (List Int))} {r : List Int} (h : r ∈ famOf ks) : some r ∈ ks := by
  have h1 := (sortL_perm _).mem_iff.mp h
  obtain ⟨x, hx, e⟩ := List.mem_filterMap.mp h1
  have e' : x = some r := e
  rw [← e']
  exact keysF_mem hx
theorem famOf_len (ks : List (Option (List Int))) : (famOf ks).length ≤ ks.length := by
  unfold famOf
  rw [(sortL_perm _).length_eq]
  exact Nat.le_trans (List.length_filterMap_le ..) (keysF_len ks)
theorem nodup_filterMap : ∀ {l : List (Option (List Int))}, l.Nodup → (l.filterMap id).Nodup
  | [], _ => List.nodup_nil
  | none :: r, h => by
    rw [List.filterMap_cons_none rfl]
    exact nodup_filterMap (List.nodup_cons.mp h).2
  | some x :: r, h => by
    show (x :: r.filterMap id).Nodup
    obtain ⟨h1, h2⟩ := List.nodup_cons.mp h
    refine List.nodup_cons.mpr ⟨fun hx => ?_, nodup_filterMap h2⟩
    obtain ⟨y, hy, e⟩ := List.mem_filterMap.mp hx
    have e' : y = some x := e
    exact h1 (e' ▸ hy)
theorem famOf_asd (ks : List (Option (List Int))) : Asd (famOf ks) := sortL_asd (nodup_filterMap (keysF_nodup ks))
theorem sumF_len {x y : List Int} {p : Nat} (h1 : x.length = p) (h2 : y.length = p) : (sumF x y).length = p := by
  unfold sumF
  rw [List.length_map, List.length_zip]
  omega
theorem cutR_len {r : List Int} {p i : Nat} (h : r.length = p + 1) (hi : i < p + 1) : (cutR r i).length = p := by
  unfold cutR
  rw [List.length_append, List.length_take, List.length_drop]
  omega
theorem addR_len {r : List Int} {i j : Nat} (hi : i < r.length) : (addR r i j).length = r.length := by
  unfold addR
  rw [List.length_append, List.length_append, List.length_take, List.length_drop]
  show min i r.length + 1 + (r.length - (i + 1)) = _
  omega
theorem box_row {lo hi : List Int} {p : Nat} (h1 : lo.length = p) (h2 : hi.length = p) {r : List Int} (h : r ∈ boxL (lo.zip hi)) : r.length = p := by
  rw [boxL_row h, List.length_zip]
  omega
/-- every row of a term has its places -/
theorem fam_row : ∀ (T : Tm) {p : Nat}, WT T p → ∀ r ∈ fam T, r.length = p
  | .told rows, p, h, r, hr => h.2.2 r hr
  | .box lo hi, p, h, r, hr => box_row h.2.1 h.2.2.1 ((sortL_perm _).mem_iff.mp hr)
  | .few p' lo hi, p, h, r, hr => by
    have h1 := (List.mem_filter.mp ((sortL_perm _).mem_iff.mp hr)).1
    have := box_row (List.length_replicate ..) (List.length_replicate ..) h1
    rw [this, h.2]
  | .web p' ts, p, h, r, hr => by
    have := webL_row ((sortL_perm _).mem_iff.mp hr)
    rw [this, h.2.1]
  | .sum a b, p, h, r, hr => by
    obtain ⟨x, hx, h1⟩ := List.mem_flatMap.mp (famOf_mem hr)
    obtain ⟨y, hy, e⟩ := List.mem_map.mp h1
    cases e
    exact sumF_len (fam_row a h.2.1 x hx) (fam_row b h.2.2.1 y hy)
  | .joined a b, p, h, r, hr => by
    obtain ⟨x, hx, h1⟩ := List.mem_flatMap.mp (famOf_mem hr)
    obtain ⟨y, hy, e⟩ := List.mem_map.mp h1
    cases e
    obtain ⟨_, p1, p2, rfl, ha, hb, _⟩ := h
    rw [List.length_append, fam_row a ha x hx, fam_row b hb y hy]
  | .moved t d, p, h, r, hr => by
    obtain ⟨x, hx, e⟩ := List.mem_map.mp (famOf_mem hr)
    cases e
    exact sumF_len (fam_row t h.2.1 x hx) h.2.2.2
  | .between t lo hi, p, h, r, hr => by
    obtain ⟨x, hx, e⟩ := List.mem_map.mp (famOf_mem hr)
    split at e
    · rw [← Option.some.inj e]
      exact fam_row t h.2.1 x hx
    · cases e
  | .turned t i, p, h, r, hr => by
    obtain ⟨x, hx, e⟩ := List.mem_map.mp (famOf_mem hr)
    rw [← Option.some.inj e]
    have h1 := fam_row t h.2.1 x hx
    have h2 := h.2.2.2
    rw [List.length_append, List.length_append, List.length_take, List.length_drop]
    show min i x.length + 1 + (x.length - (i + 1)) = _
    omega
  | .added t i j, p, h, r, hr => by
    obtain ⟨x, hx, e⟩ := List.mem_map.mp (famOf_mem hr)
    cases e
    have h1 := fam_row t h.2.1 x hx
    have h2 := h.2.2.2
    exact cutR_len (by rw [addR_len (by omega), h1]) (by omega)
  | .left t i, p, h, r, hr => by
    obtain ⟨x, hx, e⟩ := List.mem_map.mp (famOf_mem hr)
    cases e
    exact cutR_len (fam_row t h.2.1 x hx) h.2.2.2
  | .slice t i v, p, h, r, hr => by
    obtain ⟨x, hx, e⟩ := List.mem_map.mp (famOf_mem hr)
    split at e
    · rw [← Option.some.inj e]
      exact cutR_len (fam_row t h.2.1 x hx) h.2.2.2
    · cases e
section
variable {K : PySem.W.Frag} {H H' : Hp}
theorem TmAt.tk (e : Tk K H H') : ∀ {T : Tm} {a : Addr}, TmAt K H T a → TmAt K H' T a
  | .told rows, a, ⟨q, ps, h1, h2, h3, h4⟩ => ⟨q, ps, e _ _ h1, e _ _ h2, h3.tk e, h4⟩
  | .box lo hi, a, ⟨p, q, h1, h2, h3⟩ => ⟨p, q, e _ _ h1, e _ _ h2, e _ _ h3⟩
  | .few p lo hi, a, h => e _ _ h
  | .web p ts, a, ⟨q, ps, h1, h2, h3, h4⟩ => ⟨q, ps, e _ _ h1, e _ _ h2, h3.tk e, h4⟩
  | .sum x y, a, ⟨b, c, h1, h2, h3⟩ => ⟨b, c, e _ _ h1, TmAt.tk e h2, TmAt.tk e h3⟩
  | .joined x y, a, ⟨b, c, h1, h2, h3⟩ => ⟨b, c, e _ _ h1, TmAt.tk e h2, TmAt.tk e h3⟩
  | .moved t d, a, ⟨b, c, h1, h2, h3⟩ => ⟨b, c, e _ _ h1, TmAt.tk e h2, e _ _ h3⟩
  | .between t lo hi, a, ⟨b, c, g, h1, h2, h3, h4⟩ => ⟨b, c, g, e _ _ h1, TmAt.tk e h2, e _ _ h3, e _ _ h4⟩
  | .turned t i, a, ⟨b, h1, h2⟩ => ⟨b, e _ _ h1, TmAt.tk e h2⟩
  | .added t i j, a, ⟨b, h1, h2⟩ => ⟨b, e _ _ h1, TmAt.tk e h2⟩
  | .left t i, a, ⟨b, h1, h2⟩ => ⟨b, e _ _ h1, TmAt.tk e h2⟩
  | .slice t i v, a, ⟨b, h1, h2⟩ => ⟨b, e _ _ h1, TmAt.tk e h2⟩
end
end SL
end
section
set_option Elab.async false
set_option linter.all false
set_option maxRecDepth 100000
set_option maxHeartbeats 4000000
/-! _law_family. -/
namespace SL
open PySem PySem.Spec PyProof.Rows L2 Evl
/-- sum(x) of a tuple of numbers -/
def rSumT (K : PySem.W.Frag) : List V → Hp → VK → Prop := fun vs H Q => ∃ (a : Addr) (ns : List Int), vs = [V.ref a] ∧ SqT K H a (ns.map V.int) ∧ Q (.int ns.sum) H
theorem cr_sumT {X : Cx} (hc : X.calm = true) : CallR X (.builtin "sum") (rSumT X.K) := by
  intro pins s σ H vs us Q I r h
  obtain ⟨a, ns, rfl, hs, q⟩ := h
  obtain ⟨its, rv, hl, _⟩ := I.tuple hs
  rw [Vals.ref1 r]
  obtain ⟨o, ho, hcl, n, hd⟩ := hl
  have hl : s.heap.IsTuple a its.toArray := ⟨o, ho, hcl, n, hd⟩
  obtain ⟨xs, e⟩ := rv.ints.allInts.items
  have hn : numsOf (intItems xs).toList = ns := by rw [← e]; exact rv.ints.numsOf
  rw [nums_intItems] at hn
  rw [e] at hl
  refine PySem.W.ktm_sumG (I.ok.hd hc) hl fun h' tk t' hk => ?_
  refine ⟨.int _, H, I.kept hk, ⟨_, rfl⟩, ?_⟩
  rw [preSum_eq, List.take_of_length_le (by simp), hn]
  exact q
section
variable {K : PySem.W.Frag} {w : World} {σ : L2.St} {H : Hp} {ta tb te tx tc tl to ti : TE} {t u : TT} {D : Ends}
theorem dk_tk {H H' : Hp} (e : Tk K H H') {k : DKey} (h : dkI K H k) : dkI K H' k := by
  cases k with
  | none => exact h
  | some p => exact e _ _ h
theorem tk_dn {d : Addr} {ks : List DKey} {o' : HO} (h : H d = some (dnO w d ks)) : Tk K H (upd H d o') := Tk.upd h (fun _ z => by cases z) fun _ _ z => by cases z
/-- a key: None, or a tuple of numbers -/
def EvK (K : PySem.W.Frag) (te : TE) (σ : L2.St) (H : Hp) (o : Option (List Int)) : Prop := ∀ H1, Ex H H1 → ∀ Q : VK, (∀ k H2, Ex H1 H2 → dkL k = o → dkI K H2 k → Q (dkV k) H2) → te σ H1 Q
theorem ek_tup {xs : List Int} (h : EvT' K te σ H (xs.map V.int)) : EvK K te σ H (some xs) := fun H1 e Q q => h H1 e _ fun p H2 e2 h2 => q (some (p, xs)) H2 e2 rfl h2
theorem ek_non (h : Ev te σ H .non) : EvK K te σ H none := fun H1 e Q q => h H1 e _ fun H2 e2 => q none H2 e2 rfl True.intro
/-- the dict at d holds these keys, in this order -/
def Got (K : PySem.W.Frag) (w : World) (H : Hp) (d : Addr) (ks : List (Option (List Int))) : Prop := ∃ qs, H d = some (dnO w d qs) ∧ (∀ q ∈ qs, dkI K H q) ∧ qs.map dkL = ks
theorem Got.ex {H H' : Hp} {d : Addr} {ks : List (Option (List Int))} (e : Ex H H') (h : Got K w H d ks) : Got K w H' d ks := let ⟨qs, h1, h2, h3⟩ := h; ⟨qs, e _ _ h1, fun q hq => dk_tk (Tk.of e) (h2 q hq), h3⟩
theorem putN_addO (qs : List DKey) (k : DKey) : (putN qs k).map dkL = addO (qs.map dkL) (dkL k) := by
  unfold putN addO
  split
  · rfl
  · rw [List.map_append]; rfl
theorem s_setN {d : Addr} {ks : List (Option (List Int))} {o : Option (List Int)} (hd : Got K w H d ks) (hz : ks.length < 100000) (ho : Ev to σ H (.ref d)) (hi : EvK K ti σ H o)
    (k : ∀ H1 H2, Ex H H1 → (∀ b u, b ≠ d → H1 b = some u → H2 b = some u) → Tk K H1 H2 → Got K w H2 d (addO ks o) → D.nx σ H2) : tAsg (tC (.bl true)) (gSub to ti (rSetN K w)) D σ H := ho H (Ex.refl H) _ fun H1 e1 => hi H1 e1 _ fun k' H2 e2 ek hk => by
  obtain ⟨qs, h1, h2, h3⟩ := hd
  have hd2 := e2 _ _ (e1 _ _ h1)
  have hall : ∀ q ∈ k' :: qs, dkI K H2 q := fun q hq => by
    rcases List.mem_cons.mp hq with rfl | hq
    · exact hk
    · exact dk_tk (Tk.of (e1.trans e2)) (h2 q hq)
  refine ⟨d, qs, k', rfl, rfl, rfl, hd2, hall, sz_lt (by rw [← h3, List.length_map] at hz; exact hz), k H2 _ (e1.trans e2) (fun b u hb e => by rw [upd_ne hb]; exact e) (tk_dn hd2) ⟨putN qs k', upd_same, fun q hq => ?_, by rw [putN_addO, h3, ek]⟩⟩
  have hq' : q ∈ k' :: qs := by
    unfold putN at hq
    split at hq
    · exact List.mem_cons_of_mem _ hq
    · rcases List.mem_append.mp hq with h | h
      · exact List.mem_cons_of_mem _ h
      · rw [List.mem_singleton.mp h]; exact List.mem_cons_self
  exact dk_tk (tk_dn hd2) (hall q hq')
theorem walk_keysN {d : Addr} {o : Obj} {qs : List DKey} : Walk (ItN w d o qs) qs.length (fun H => H d = some (.frz o (dnO w d qs))) (fun i H x H' => H' = H ∧ ∃ k, qs[i]? = some k ∧ x = dkV k) :=
  ⟨fun _ _ hi q => ⟨q, hi⟩, fun _ q => ⟨q, Nat.le_refl _⟩, fun _ _ _ _ _ _ y => y⟩
theorem Tk.frz {d : Addr} {o : Obj} {qs : List DKey} {o' : HO} (h : H d = some (.frz o (dnO w d qs))) : Tk K H (L2.upd H d o') := fun a xs hs => by
  have ne : ∀ u, H a = some u → u ≠ .frz o (dnO w d qs) → a ≠ d := fun u e hu z => by
    rw [z, h] at e
    cases e
    exact hu rfl
  rcases hs with (hs | ⟨o, hs⟩) | hs
  · exact .inl (.inl (by rw [upd_ne (ne _ hs (by intro z; cases z))]; exact hs))
  · exact .inl (.inr ⟨o, by rw [upd_ne (ne _ hs (by intro z; cases z))]; exact hs⟩)
  · exact .inr hs
/-- [k for k in d if k is not None] -/
theorem er_keys {d : Addr} {ks : List (Option (List Int))} {j : Nat} {vs : List Nat} (hd : Got K w H d ks) (hz : ks.length ≤ 40000) (ho : Ev to σ H (.ref d)) (ho' : ∀ H', Ev to σ H' (.ref d)) (hj : ∀ x, ((wipe σ vs).set j (some x))[j]? = some (some x)) (hw : ∀ x, wipe ((wipe σ vs).set j (some x)) vs = wipe σ vs) :
    EvR K (tLockE (tLc (iKeysN w to) (gName j) (tB (tNotN (tVar j))) (tVar j) vs)) σ H (ks.filterMap id) := fun H1 e Q q => by
  obtain ⟨qs, h1, h2, h3⟩ := hd
  have h1d := e _ _ h1
  refine ⟨d, _, h1d, True.intro, fun od => ?_⟩
  have hlen : qs.length ≤ 40000 := by rw [← h3, List.length_map] at hz; exact hz
  generalize eHf : upd H1 d (.frz od (dnO w d qs)) = Hf
  have hfd : Hf d = some (.frz od (dnO w d qs)) := by rw [← eHf, upd_same]
  have hkf : ∀ q ∈ qs, dkI K Hf q := fun q hq => by
    have := dk_tk (tk_dn (o' := .frz od (dnO w d qs)) h1d) (dk_tk (Tk.of e) (h2 q hq))
    rw [eHf] at this
    exact this
  have main : EvR K (tLc (iKeysN w to) (gName j) (tB (tNotN (tVar j))) (tVar j) vs) σ Hf (((qs.take qs.length).map dkL).filterMap id) :=
    er_lcIt (walk_keysN (w := w) (d := d) (o := od) (qs := qs)) (fun i => ((qs.take i).map dkL).filterMap id) rfl (fun H2 e2 R r => ho' H2 H2 (Ex.refl _) _ fun H3 e3 => ⟨d, od, qs, rfl, e3 _ _ (e2 _ _ hfd), r H3 e3⟩) (fun H2 e2 => e2 _ _ hfd)
      (fun i hi => by
        have h5 := List.length_filterMap_le id ((qs.take i).map dkL)
        rw [List.length_map, List.length_take] at h5
        omega) fun i x H2 H3 hi e2 y => by
        obtain ⟨rfl, k, hk, rfl⟩ := y
        have hki := dk_tk (Tk.of e2) (hkf k (List.mem_of_getElem? hk))
        have hR : ((qs.take (i + 1)).map dkL).filterMap id = ((qs.take i).map dkL).filterMap id ++ [dkL k].filterMap id := by
          rw [List.take_add_one, hk, List.map_append, List.filterMap_append]
          rfl
        cases k with
        | none => exact ⟨Ex.refl _, _, false, [], fun q hq => hq, hw _, et_B (ev_is (ev_notN (ev_var (hj _))) rfl), (fun z => by cases z), by rw [hR]; exact List.append_nil _⟩
        | some p => exact ⟨Ex.refl _, _, true, p.2, fun q hq => hq, hw _, et_B (ev_is (ev_notN (ev_var (hj _))) rfl), (fun _ => evt_ev (a := p.1) (ev_var (hj _)) hki), hR⟩
  rw [List.take_length, h3] at main
  refine main Hf (Ex.refl _) _ fun l ps H2 nl e2 hl hr hwq => ⟨e2 _ _ hfd, ?_⟩
  have nld : l ≠ d := fun z => by rw [z, hfd] at nl; cases nl
  refine q l ps _ ?_ (fun a u ha => ?_) ?_ ?_ hwq
  · rw [← eHf, upd_ne nld] at nl
    exact nl
  · by_cases hb : a = d
    · rw [hb, upd_same]
      rw [hb, h1d] at ha
      exact ha
    · rw [upd_ne hb]
      refine e2 _ _ ?_
      rw [← eHf, upd_ne hb]
      exact ha
  · rw [upd_ne nld]
    exact hl
  · exact hr.tk (Tk.frz (e2 _ _ hfd))
/-- sorted(x) of new rows -/
theorem er_sorted {rows : List (List Int)} (h : EvR K te σ H rows) (hne : ∀ r ∈ rows, r ≠ []) : EvR K (tCB (rSortedR K) (tCons te tNil)) σ H (sortL rows) := fun H1 e Q q =>
  h H1 e _ fun l ps H2 nl e2 hl hr hwq => ⟨l, ps, rfl, sq_of hl, hr, fun p hp => hne _ (by rw [← hwq]; exact List.mem_map_of_mem hp), fun p hp => q p _ _ (fresh_back e2 hp) (e2.trans (Ex.new hp)) upd_same (fun x hx => ex_t (Ex.new hp) (hr x (List.mem_mergeSort.mp hx))) (by rw [sort_rows, hwq])⟩
theorem s_retR {rows : List (List Int)} (h : EvR K te σ H rows) (k : ∀ l ps H1, H l = none → Ex H H1 → H1 l = some (.lst (rv ps)) → RowsAt K H1 ps → rw' ps = rows → D.rt (.ref l) H1) : tRet te D σ H := h H (Ex.refl H) _ k
theorem RetR.go {rows : List (List Int)} {H' : Hp} {Q : VK} (k : RetR K rows H Q) (e : Ex H H') : ∀ l ps H1, H' l = none → Ex H' H1 → H1 l = some (.lst (rv ps)) → RowsAt K H1 ps → rw' ps = rows → Q (.ref l) H1 := fun l ps H1 n e1 h r wq => k l ps H1 (fresh_back e n) (e.trans e1) h r wq
theorem er_call {sp : Sp} {E : XK} {ta : TA} {vs : List V} {rows : List (List Int)} (h : EvA ta σ H vs) (hs : ∀ H1, Ex H H1 → ∀ Q E, RetR K rows H1 Q → sp vs H1 Q E) : EvR K (tCall sp [] E ta) σ H rows := fun H1 e Q q =>
  h H1 e _ fun H2 e2 => by
    rw [List.append_nil]
    exact hs H2 (e.trans e2) _ _ fun l ps H3 nl e3 h3 r3 w3 => q l ps H3 (fresh_back e2 nl) (e2.trans e3) h3 r3 w3
/-- list(x) of a tuple of rows -/
theorem er_listT {a : Addr} {ps : List (Addr × List Int)} (ha : Ev ta σ H (.ref a)) (h : SqT K H a (rv ps)) (hr : RowsAt K H ps) : EvR K (tCB (rListS K) (tCons ta tNil)) σ H (rw' ps) := fun H1 e Q q =>
  ha H1 e _ fun H2 e2 => ⟨a, rv ps, rfl, .inr (ex_t (e.trans e2) h), fun l hl => q l ps _ (fresh_back e2 hl) (e2.trans (Ex.new hl)) upd_same ((hr.ex (e.trans e2)).ex (Ex.new hl)) rfl⟩
end
end SL
end
section
set_option Elab.async false
set_option linter.all false
set_option maxRecDepth 100000
set_option maxHeartbeats 4000000
/-! _law_family, by depth. -/
namespace SL
open PySem PySem.Spec PyProof.Rows L2 Evl
def spFam (K : PySem.W.Frag) (d : Nat) : Sp := fun vs H Q _ => ∃ (a : Addr) (T : Tm) (p : Nat), vs = [.ref a] ∧ TmAt K H T a ∧ WT T p ∧ deepT T < d ∧ RetR K (fam T) H Q
theorem box01 (p : Nat) : ∀ z ∈ (List.replicate p (0 : Int)).zip (List.replicate p (1 : Int)), -1000 ≤ z.1 ∧ z.1 ≤ 1000 ∧ -1000 ≤ z.2 ∧ z.2 ≤ 1000 ∧ z.2 ≤ z.1 + 2 := fun z hz => by
  have h1 := List.eq_of_mem_replicate (List.of_mem_zip hz).1
  have h2 := List.eq_of_mem_replicate (List.of_mem_zip hz).2
  omega
theorem row_ne {p : Nat} {r : List Int} (h : r.length = p) (hp : 1 ≤ p) : r ≠ [] := fun e => by
  rw [e] at h
  simp at h
  omega
section
variable {K : PySem.W.Frag} {w : World} {σ : L2.St} {H : Hp} {ta tb te tx tc tl to ti : TE} {t u : TT} {D : Ends}
theorem evt_zeros {p : Nat} {x : Int} (h : Ev tb σ H (.int (p : Int))) (hp : p ≤ 1000) : EvT' K (tOp (rRepA K) (tTup (tCons (tC (.int x)) tNil)) tb) σ H ((List.replicate p x).map V.int) :=
  evt_is (evt_rep (evt_evu (eu_tup (ea_cons ev_c ea_nil) (by simp))) h (by simp) (by omega) (by omega) (by simp)) (by rw [Int.toNat_natCast, List.map_replicate, flat_repl])
theorem er_box {ta : TE} {lo hi : List Int} {E : XK} (h1 : EvT' K ta σ H (lo.map V.int)) (h2 : EvT' K tb σ H (hi.map V.int)) (hl : lo.length ≤ 5) (hb : ∀ z ∈ lo.zip hi, -1000 ≤ z.1 ∧ z.1 ≤ 1000 ∧ -1000 ≤ z.2 ∧ z.2 ≤ 1000 ∧ z.2 ≤ z.1 + 2) :
    EvR K (tCall (spBox K) [] E (tCons ta (tCons tb tNil))) σ H (boxL (lo.zip hi)) := fun H1 e Q q =>
  h1 H1 e _ fun p H2 e2 hp => h2 H2 (e.trans e2) _ fun r H3 e3 hr => ⟨p, r, lo, hi, rfl, ex_t e3 hp, hr, hl, hb, fun l ps H4 nl e4 h4 r4 w4 => q l ps H4 (fresh_back (e2.trans e3) nl) ((e2.trans e3).trans e4) h4 r4 w4⟩
theorem ev_sumT {a : Addr} {ns : List Int} (h : Ev ta σ H (.ref a)) (hs : SqT K H a (ns.map V.int)) : Ev (tCB (rSumT K) (tCons ta tNil)) σ H (.int ns.sum) := ev_cb (ea_cons h ea_nil) fun H1 e Q q => ⟨a, ns, rfl, ex_t e hs, q H1 (Ex.refl H1)⟩
theorem er_filt {l : Addr} {ps : List (Addr × List Int)} {pr : List Int → Bool} {j : Nat} {vs : List Nat} (h : Ev tl σ H (.ref l)) (hl : SqL K H l (rv ps)) (hr : RowsAt K H ps) (hz : ps.length ≤ 40000) (hw : ∀ x, wipe ((wipe σ vs).set j (some x)) vs = wipe σ vs) (hj : ∀ x, ((wipe σ vs).set j (some x))[j]? = some (some x))
    (ht : ∀ (p : Addr × List Int) H1, p ∈ ps → Ex H H1 → EvT t ((wipe σ vs).set j (some (.ref p.1))) H1 (pr p.2)) : EvR K (tLc (iList K tl) (gName j) t (tVar j) vs) σ H ((rw' ps).filter pr) := by
  refine er_is (er_lcIt (walk_list (K := K) (a := l) (xs := rv ps)) (fun i => ((rw' ps).take i).filter pr) rfl (fun H1 e1 R r => h H1 e1 _ fun H2 e2 => ⟨l, rfl, ⟨_, ex_l (e1.trans e2) hl⟩, r H2 e2⟩) (fun H1 e1 => ex_l e1 hl) (fun i hi => ?_) fun i x H1 H2 hi e1 y => ?_) ?_
  · have h1 := List.length_filter_le pr ((rw' ps).take i)
    rw [List.length_take, rw_len] at h1
    omega
  · obtain ⟨rfl, hx⟩ := y
    unfold rv at hx
    rw [List.getElem?_map] at hx
    cases hp : ps[i]? with
    | none => rw [hp] at hx; cases hx
    | some q =>
      rw [hp] at hx
      cases hx
      have hm := List.mem_of_getElem? hp
      have hwi : (rw' ps)[i]? = some q.2 := by unfold rw'; rw [List.getElem?_map, hp]; rfl
      refine ⟨Ex.refl _, _, pr q.2, q.2, fun q hq => hq, hw _, ht q _ hm e1, fun _ => evt_ev (a := q.1) (ev_var (hj _)) (ex_t e1 (hr q hm)), ?_⟩
      rw [List.take_add_one, hwi, List.filter_append]
      cases hpq : pr q.2 <;> simp [hpq]
  · rw [rv_len, ← rw_len, List.take_length]
end
/-- the six words with one part -/
theorem unary_of {K : PySem.W.Frag} {H : Hp} {a : Addr} {p d : Nat} {T : Tm} (hT : TmAt K H T a) (hW : WT T p) (hd : deepT T < d + 1)
    (hu : (∃ t e, T = .moved t e) ∨ (∃ t lo hi, T = .between t lo hi) ∨ (∃ t i, T = .turned t i) ∨ (∃ t i j, T = .added t i j) ∨ (∃ t i, T = .left t i) ∨ (∃ t i v, T = .slice t i v)) :
    ∃ (b : Addr) (t : Tm) (z : Str) (rest : List V) (f : List Int → Option (List Int)) (p' : Nat), SqT K H a (.str z :: .ref b :: rest) ∧ decide (z = "told") = false ∧ decide (z = "box") = false ∧ decide (z = "few") = false ∧ decide (z = "web") = false ∧
      inV (.str z) [.str "sum", .str "joined"] = false ∧ TmAt K H t b ∧ WT t p' ∧ deepT t < d ∧ (fam t).length ≤ 20 ∧ fam T = famOf ((fam t).map f) ∧
      ∀ H1 r row (Q : VK) (E : XK), Ex H H1 → SqT K H1 r (row.map V.int) → row.length = p' → (∀ k H2, Ex H1 H2 → dkL k = f row → dkI K H2 k → Q (dkV k) H2) → spOne K [.ref a, .ref r] H1 Q E := by
  rcases hu with ⟨t, e, rfl⟩ | ⟨t, lo, hi, rfl⟩ | ⟨t, i, rfl⟩ | ⟨t, i, j, rfl⟩ | ⟨t, i, rfl⟩ | ⟨t, i, v, rfl⟩
  · obtain ⟨b, c, h1, h2, h3⟩ := hT
    refine ⟨b, t, "moved", [.ref c], fun r => some (sumF r e), p, h1, by decide, by decide, by decide, by decide, by decide, h2, hW.2.1, Nat.lt_of_succ_lt_succ hd, hW.2.2.1, rfl, fun H1 r row Q E ex hr hl q => ?_⟩
    have hp := hW.1.2
    exact ⟨a, r, "moved", row, _, rfl, ex_t ex h1, hr, by omega, .inl ⟨c, .ref b, e, rfl, rfl, ex_t ex h3, fun k H2 e2 h => q (some (k, _)) H2 e2 rfl h⟩⟩
  · obtain ⟨b, c, g, h1, h2, h3, h4⟩ := hT
    refine ⟨b, t, "between", [.ref c, .ref g], fun r => if inBox r lo hi then some r else none, p, h1, by decide, by decide, by decide, by decide, by decide, h2, hW.2.1, Nat.lt_of_succ_lt_succ hd, hW.2.2.1, rfl, fun H1 r row Q E ex hr hl q => ?_⟩
    have hp := hW.1.2
    exact ⟨a, r, "between", row, _, rfl, ex_t ex h1, hr, by omega, .inr (.inl ⟨c, g, .ref b, lo, hi, rfl, rfl, ex_t ex h3, ex_t ex h4, fun hb k H2 e2 h => q (some (k, _)) H2 e2 (by simp [hb]; rfl) h, fun hb H2 e2 => q none H2 e2 (by simp [hb]; rfl) True.intro⟩)⟩
  · obtain ⟨b, h1, h2⟩ := hT
    refine ⟨b, t, "turned", [.int (i : Int)], _, p, h1, by decide, by decide, by decide, by decide, by decide, h2, hW.2.1, Nat.lt_of_succ_lt_succ hd, hW.2.2.1, rfl, fun H1 r row Q E ex hr hl q => ?_⟩
    have hp := hW.1.2
    have hi := hW.2.2.2
    exact ⟨a, r, "turned", row, _, rfl, ex_t ex h1, hr, by omega, .inr (.inr (.inl ⟨i, .ref b, rfl, rfl, by omega, fun k H2 e2 h => q (some (k, _)) H2 e2 rfl h⟩))⟩
  · obtain ⟨b, h1, h2⟩ := hT
    refine ⟨b, t, "added", [.int (i : Int), .int (j : Int)], _, p + 1, h1, by decide, by decide, by decide, by decide, by decide, h2, hW.2.1, Nat.lt_of_succ_lt_succ hd, hW.2.2.1, rfl, fun H1 r row Q E ex hr hl q => ?_⟩
    have hp := hW.1.2
    have hi := hW.2.2.2
    exact ⟨a, r, "added", row, _, rfl, ex_t ex h1, hr, by omega, .inr (.inr (.inr (.inl ⟨i, j, .ref b, rfl, rfl, hi.1, by omega, fun k H2 e2 h => q (some (k, _)) H2 e2 rfl h⟩)))⟩
  · obtain ⟨b, h1, h2⟩ := hT
    refine ⟨b, t, "left", [.int (i : Int)], _, p + 1, h1, by decide, by decide, by decide, by decide, by decide, h2, hW.2.1, Nat.lt_of_succ_lt_succ hd, hW.2.2.1, rfl, fun H1 r row Q E ex hr hl q => ?_⟩
    have hp := hW.1.2
    have hi := hW.2.2.2
    exact ⟨a, r, "left", row, _, rfl, ex_t ex h1, hr, by omega, .inr (.inr (.inr (.inr (.inl ⟨i, .ref b, rfl, rfl, by omega, fun k H2 e2 h => q (some (k, _)) H2 e2 rfl h⟩))))⟩
  · obtain ⟨b, h1, h2⟩ := hT
    refine ⟨b, t, "slice", [.int (i : Int), .int v], fun r => if r[i]?.getD 0 = v then some (cutR r i) else none, p + 1, h1, by decide, by decide, by decide, by decide, by decide, h2, hW.2.1, Nat.lt_of_succ_lt_succ hd, hW.2.2.1, rfl, fun H1 r row Q E ex hr hl q => ?_⟩
    have hp := hW.1.2
    have hi := hW.2.2.2
    exact ⟨a, r, "slice", row, _, rfl, ex_t ex h1, hr, by omega, .inr (.inr (.inr (.inr (.inr ⟨i, .ref b, v, rfl, rfl, by omega, fun hb k H2 e2 h => q (some (k, _)) H2 e2 (by simp only [hb, if_true]; rfl) h, fun hb H2 e2 => q none H2 e2 (by simp only [hb, if_false]; rfl) True.intro⟩))))⟩
theorem binary_of {K : PySem.W.Frag} {H : Hp} {a : Addr} {p d : Nat} {T : Tm} (hT : TmAt K H T a) (hW : WT T p) (hd : deepT T < d + 1) (hu : (∃ x y, T = .sum x y) ∨ (∃ x y, T = .joined x y)) :
    ∃ (b c : Addr) (x y : Tm) (z : Str) (f : List Int → List Int → List Int) (p1 p2 : Nat), SqT K H a [.str z, .ref b, .ref c] ∧ decide (z = "told") = false ∧ decide (z = "box") = false ∧ decide (z = "few") = false ∧ decide (z = "web") = false ∧
      inV (.str z) [.str "sum", .str "joined"] = true ∧ ((z = "sum" ∧ f = sumF) ∨ (z = "joined" ∧ f = fun x y => x ++ y)) ∧ TmAt K H x b ∧ TmAt K H y c ∧ WT x p1 ∧ WT y p2 ∧ deepT x < d ∧ deepT y < d ∧ (fam x).length ≤ 20 ∧ (fam y).length ≤ 20 ∧
      fam T = famOf ((fam x).flatMap fun r => (fam y).map fun q => some (f r q)) := by
  rcases hu with ⟨x, y, rfl⟩ | ⟨x, y, rfl⟩
  · obtain ⟨b, c, h1, h2, h3⟩ := hT
    have hd' : max (deepT x) (deepT y) + 1 < d + 1 := hd
    exact ⟨b, c, x, y, "sum", sumF, p, p, h1, by decide, by decide, by decide, by decide, by decide, .inl ⟨rfl, rfl⟩, h2, h3, hW.2.1, hW.2.2.1, by omega, by omega, hW.2.2.2.1, hW.2.2.2.2, rfl⟩
  · obtain ⟨b, c, h1, h2, h3⟩ := hT
    have hd' : max (deepT x) (deepT y) + 1 < d + 1 := hd
    obtain ⟨_, p1, p2, rfl, ha, hb, l1, l2⟩ := hW
    exact ⟨b, c, x, y, "joined", fun x y => x ++ y, p1, p2, h1, by decide, by decide, by decide, by decide, by decide, .inr ⟨rfl, rfl⟩, h2, h3, ha, hb, by omega, by omega, l1, l2, rfl⟩
section
variable {K : PySem.W.Frag} {w : World} {σ : L2.St} {H : Hp} {ta tb te tx tc tl to ti : TE} {t u : TT} {tz : TS} {D : Ends}
theorem q_parD {i j : Nat} {rows : List (List Int)} (h : EvR K te σ H rows) (k : ∀ l d ps H1, H l = none → Ex H H1 → H1 l = some (.lst (rv ps)) → RowsAt K H1 ps → rw' ps = rows → H1 d = none → tz D ((σ.set i (some (.ref l))).set j (some (.ref d))) (upd H1 d (dnO w d []))) :
    tSeq (tPar i j (tCons te (tCons (tDNewN w) tNil))) tz D σ H := h H (Ex.refl H) _ fun l ps H1 n e h1 r wq d hd => ⟨_, _, rfl, k l d ps H1 n e h1 r wq hd⟩
theorem got_new {d : Addr} : Got K w (upd H d (dnO w d [])) d [] := ⟨[], upd_same, (fun _ h => by cases h), rfl⟩
end
section
variable {P : Program} {w : World} {K : PySem.W.Frag} {mg : Str → Option Value} {base : Heap}
theorem fam_zero (M : Ma K mg) : Dn P w K mg base "_law_family" 3 ["_law_term_here"] (spFam K 0) := by
  obtain ⟨fd, F⟩ := M.d_LawFamily
  refine Dn.of F M.g__law_family (fun _ _ _ _ _ _ us hl => match us, hl with | [_], _ => rfl) (F.ok scLawFamily (fun vs H Q E h => ?_) (fun cdv A outer s H vs Q E hr h => ?_))
  · obtain ⟨a, T, p, rfl, _⟩ := h
    rfl
  · obtain ⟨a, T, p, _, _, _, hd, _⟩ := h
    exact absurd hd (Nat.not_lt_zero _)
theorem fam_succ (M : Ma K mg) (d : Nat) (IH : Dn P w K mg base "_law_family" (3 + d) ["_law_term_here"] (spFam K d)) : Dn P w K mg base "_law_family" (3 + (d + 1)) ["_law_term_here"] (spFam K (d + 1)) := by
  obtain ⟨fd, F⟩ := M.d_LawFamily
  refine Dn.of F M.g__law_family (fun _ _ _ _ _ _ us hl => match us, hl with | [_], _ => rfl) (F.ok scLawFamily (fun vs H Q E h => ?_) (fun cdv A outer s H vs Q E hr h => ?_))
  · obtain ⟨a, T, p, rfl, _⟩ := h
    rfl
  · obtain ⟨a, T, p, rfl, hT, hW, hd, k⟩ := h
    have hr' : Room (3 + d) _ := hr
    refine ⟨_, (pss_cons (ps_if (pt_cmpR op_eq (pe_ix ix_tup (pv 0) pe_int (fun _ _ => rfl)) pe_str (nomark _)) (pss_one (ps_ret (pe_callTy call_list_of (by rfl) M.n_list (by decide +kernel) (pa_cons (pe_ix ix_tup (pv 0) pe_int (fun _ _ => rfl)) pa_nil)))) pss_nil) <|
      pss_cons (ps_if (pt_cmpR op_eq (pe_ix ix_tup (pv 0) pe_int (fun _ _ => rfl)) pe_str (nomark _)) (pss_one (ps_ret (pe_callB (cr_sortedR hr.units) (by rfl) M.n_sorted (by decide +kernel) (pa_cons (pe_dn (ok_box M) (hr'.mono (by omega)) passL (pa_cons (pe_ix ix_tup (pv 0) pe_int (fun _ _ => rfl)) (pa_cons (pe_ix ix_tup (pv 0) pe_int (fun _ _ => rfl)) pa_nil))) pa_nil)))) pss_nil) <|
      pss_cons (ps_if (pt_cmpR op_eq (pe_ix ix_tup (pv 0) pe_int (fun _ _ => rfl)) pe_str (nomark _))
        (pss_cons (ps_set (i := 1) scLawFamily.nd rfl (.inl rfl) (pe_dn (ok_box M) (hr'.mono (by omega)) passL (pa_cons (pe_op op_repA (pe_tup (pa_cons pe_int pa_nil)) (pe_ix ix_tup (pv 0) pe_int (fun _ _ => rfl))) (pa_cons (pe_op op_repA (pe_tup (pa_cons pe_int pa_nil)) (pe_ix ix_tup (pv 0) pe_int (fun _ _ => rfl))) pa_nil)))) <|
         pss_one (ps_ret (pe_callB (cr_sortedR hr.units) (by rfl) M.n_sorted (by decide +kernel) (pa_cons (pe_lc (own := [("_law_row", 7)]) (g := gName 7) rfl scLawFamily.nd (pi_list (pv 1)) (blkOk_by (N := ["_law_term_here", "_law_rows", "_law_lots_here", "_law_got", "_law_one_here", "_law_other", "_law_lot", "_law_row"]) (sc := defScope sLawFamily) (by decide +kernel))
            (fun _ _ _ _ _ => pg_name (i := 7) scLawFamily.nd rfl (Or.inl rfl)) (fun _ _ _ _ _ => pts_one (pt_chain op_le op_le (pe_ix (show IxR _ (rIxT K) from ix_tup) (pv 0) pe_int (fun _ _ => rfl)) (pe_callB (show CallR _ (.builtin "sum") (rSumT K) from cr_sumT rfl) (by rfl) M.n_sum (by decide +kernel) (pa_cons (pv 7) pa_nil)) (pe_ix (show IxR _ (rIxT K) from ix_tup) (pv 0) pe_int (fun _ _ => rfl))))
            (fun _ _ _ _ _ => pv 7)) pa_nil)))) pss_nil) <|
      pss_cons (ps_if (pt_cmpR op_eq (pe_ix ix_tup (pv 0) pe_int (fun _ _ => rfl)) pe_str (nomark _)) (pss_one (ps_ret (pe_callB (cr_sortedR hr.units) (by rfl) M.n_sorted (by decide +kernel) (pa_cons (pe_dn (ok_web M) (hr'.mono (by omega)) passL (pa_cons (pe_ix ix_tup (pv 0) pe_int (fun _ _ => rfl)) (pa_cons (pe_ix ix_tup (pv 0) pe_int (fun _ _ => rfl)) pa_nil))) pa_nil)))) pss_nil) <|
      pss_cons (ps_par (i := 2) (j := 3) rfl scLawFamily.nd rfl rfl (by decide) rfl rfl (pa_cons (pe_dn IH hr' passL (pa_cons (pe_ix ix_tup (pv 0) pe_int (fun _ _ => rfl)) pa_nil)) (pa_cons pe_dnewN pa_nil)) (by rfl)) <|
      pss_cons (ps_if (pt_cmpR op_in_seq (pe_ix ix_tup (pv 0) pe_int (fun _ _ => rfl)) (pe_tup (pa_cons pe_str (pa_cons pe_str pa_nil))) (by rfl))
        (pss_one (ps_for (passes_of rfl) rfl (pi_list (pv 2)) (pg_name (i := 4) scLawFamily.nd rfl (.inl rfl))
          (pss_one (ps_for (passes_of rfl) rfl (pi_list (pe_dn IH hr' passL (pa_cons (pe_ix ix_tup (pv 0) pe_int (fun _ _ => rfl)) pa_nil))) (pg_name (i := 5) scLawFamily.nd rfl (.inl rfl))
            (pss_one (ps_asg pe_bl (pg_sub (pv 3) (pe_ifExp (pt_cmpR op_eq (pe_ix ix_tup (pv 0) pe_int (fun _ _ => rfl)) pe_str (nomark _)) (pe_dn (ok_sum M) (hr'.mono (by omega)) passL (pa_cons (pv 4) (pa_cons (pv 5) pa_nil))) (pe_op op_catA (pv 4) (pv 5))) (set_dn hr.units))))))))
        (pss_one (ps_for (passes_of rfl) rfl (pi_list (pv 2)) (pg_name (i := 6) scLawFamily.nd rfl (.inl rfl))
          (pss_one (ps_asg pe_bl (pg_sub (pv 3) (pe_dn (ok_one M) (hr'.mono (by omega)) passL (pa_cons (pv 0) (pa_cons (pv 6) pa_nil))) (set_dn hr.units))))))) <|
      pss_one (ps_ret (pe_callB (cr_sortedR hr.units) (by rfl) M.n_sorted (by decide +kernel) (pa_cons (pe_lock (pe_lc (own := [("_law_lot", 6)]) (g := gName 6) rfl scLawFamily.nd (pi_keysN (pv 3)) (blkOk_by (N := ["_law_term_here", "_law_rows", "_law_lots_here", "_law_got", "_law_one_here", "_law_other", "_law_lot", "_law_row"]) (sc := defScope sLawFamily) (by decide +kernel))
            (fun _ _ _ _ _ => pg_name (i := 6) scLawFamily.nd rfl (Or.inl rfl)) (fun _ _ _ _ _ => pts_one (pt_cmp (pc_notN (pv 6)))) (fun _ _ _ _ _ => pv 6))) pa_nil)))), ?_⟩
    have hwb := hW.wb
    have h5 := hwb.2
    have fin : ∀ {ks : List (Option (List Int))}, fam T = famOf ks → ∀ r ∈ (keysF ks).filterMap id, r ≠ [] := fun {ks} e r hr => row_ne (fam_row T hW r (by rw [e]; exact (sortL_perm _).mem_iff.mpr hr)) hwb.1
    by_cases hu : (∃ t e, T = .moved t e) ∨ (∃ t lo hi, T = .between t lo hi) ∨ (∃ t i, T = .turned t i) ∨ (∃ t i j, T = .added t i j) ∨ (∃ t i, T = .left t i) ∨ (∃ t i v, T = .slice t i v)
    · obtain ⟨b, t, z, rest, f, p', h1, z1, z2, z3, z4, z5, hTt, hWt, hdt, hft, hfe, hone⟩ := unary_of hT hW hd hu
      have tst : ∀ {y : Str} {H1 : Hp} {σ : L2.St}, Ex H H1 → σ[0]? = some (some (.ref a)) → decide (z = y) = false → EvT (tTest (tOp rEq (tOp (rIxT K) (tVar 0) (tC (.int 0))) (tC (.str y)))) σ H1 false := fun {y H1 σ} e hσ hz => et_str (ev_ixT (i := 0) (ev_var hσ) ev_c (ex_t e h1) rfl) ev_c hz
      refine q_no (tst (Ex.refl H) rfl z1) fun H1 e1 => q_no (tst e1 rfl z2) fun H2 e2 => q_no (tst (e1.trans e2) rfl z3) fun H3 e3 => q_no (tst ((e1.trans e2).trans e3) rfl z4) fun H4 e4 => ?_
      have e := ((e1.trans e2).trans e3).trans e4
      refine q_parD (K := K) (w := w) (rows := fam t) (er_call (ea_cons (ev_ixT (i := 1) (ev_var rfl) ev_c (ex_t e h1) rfl) ea_nil) fun H5 e5 Q E r => ⟨b, t, p', rfl, TmAt.tk (Tk.of (e.trans e5)) hTt, hWt, hdt, r⟩) fun l dd ps H5 nl e5 hl hrr hww nd => ?_
      have e6 : Ex H5 (upd H5 dd (dnO w dd [])) := Ex.new nd
      have g6 : Got K w (upd H5 dd (dnO w dd [])) dd [] := got_new
      generalize upd H5 dd (dnO w dd []) = H6 at e6 g6 ⊢
      have eH6 := (e.trans e5).trans e6
      refine q_if (b := false) (et_is (et_test (ev_inU (ev_ixT (i := 0) (ev_var rfl) ev_c (ex_t eH6 h1) rfl) (eu_tup (ea_cons ev_c (ea_cons ev_c ea_nil)) (by decide)) rfl rfl)) z5) (fun z => by cases z) fun _ H7 e7 => ?_
      have hlen : ps.length ≤ 20 := by rw [← rw_len, hww]; exact hft
      refine s_forLn (a := l) (xs := rv ps) (ev_var rfl) (sq_of (e7 _ _ (e6 _ _ hl))) (fun i σ' H' => (∃ y6, σ' = [some (.ref a), none, some (.ref l), some (.ref dd), none, none, y6, none]) ∧ Got K w H' dd (keysF (((rw' ps).take i).map f)) ∧ Ex H5 H')
        (fun H8 e8 => ⟨⟨_, rfl⟩, g6.ex (e7.trans e8), (e6.trans e7).trans e8⟩) (fun i σ' H' _ pv => sq_of (pv.2.2 _ _ hl)) (fun i x σ' H' hi pv => ?_) fun σ' H' pv => ?_
      · obtain ⟨⟨y6, rfl⟩, hg, e8⟩ := pv
        unfold rv at hi
        rw [List.getElem?_map] at hi
        cases hpi : ps[i]? with
        | none => rw [hpi] at hi; cases hi
        | some pr =>
          rw [hpi] at hi
          cases hi
          have hm := List.mem_of_getElem? hpi
          have hwi : (rw' ps)[i]? = some pr.2 := by unfold rw'; rw [List.getElem?_map, hpi]; rfl
          have hrow : pr.2.length = p' := fam_row t hWt _ (by rw [← hww]; exact List.mem_of_getElem? hwi)
          have hkl : (keysF (((rw' ps).take i).map f)).length ≤ 20 := by
            have := keysF_len (((rw' ps).take i).map f)
            rw [List.length_map, List.length_take, rw_len] at this
            omega
          refine s_setN (o := f pr.2) hg (by omega) (ev_var rfl) (fun H9 e9 Q q => (ea_cons (ev_var rfl) (ea_cons (ev_var rfl) ea_nil)) H9 e9 _ fun H10 e10 => ?_) fun H9 H10 e9 k9 t9 hg9 => ⟨⟨_, rfl⟩, ?_, fun b u hb => ?_⟩
          · rw [List.append_nil]
            exact hone H10 pr.1 pr.2 _ _ ((((e.trans e5).trans e8).trans e9).trans e10) (ex_t ((e8.trans e9).trans e10) (hrr pr hm)) hrow fun k H11 e11 hk1 hk2 => q k H11 (e10.trans e11) hk1 hk2
          · rw [List.take_add_one, hwi, List.map_append]
            show Got K w H10 dd (keysF (((rw' ps).take i).map f ++ [f pr.2]))
            rw [keysF_snoc]
            exact hg9
          · exact k9 b u (ne_of_none hb nd) (e9 _ _ (e8 _ _ hb))
      · obtain ⟨⟨y6, rfl⟩, hg, e8⟩ := pv
        rw [rv_len, ← rw_len, List.take_length, hww] at hg
        refine s_retR (K := K) (er_sorted (er_keys hg ?_ (ev_var rfl) (fun _ => ev_var rfl) (fun _ => rfl) (fun _ => rfl)) (fin hfe)) ?_
        · have := keysF_len ((fam t).map f)
          rw [List.length_map] at this
          omega
        · rw [hfe] at k
          exact RetR.go k ((e.trans e5).trans e8)
    by_cases hbn : (∃ x y, T = .sum x y) ∨ (∃ x y, T = .joined x y)
    · obtain ⟨b, c, x, y, z, f, p1, p2, h1, z1, z2, z3, z4, z5, hf, hTx, hTy, hWx, hWy, hdx, hdy, hfx, hfy, hfe⟩ := binary_of hT hW hd hbn
      have tst : ∀ {y : Str} {H1 : Hp} {σ : L2.St} {bb : Bool}, Ex H H1 → σ[0]? = some (some (.ref a)) → decide (z = y) = bb → EvT (tTest (tOp rEq (tOp (rIxT K) (tVar 0) (tC (.int 0))) (tC (.str y)))) σ H1 bb := fun {y H1 σ bb} e hσ hz => et_str (ev_ixT (i := 0) (ev_var hσ) ev_c (ex_t e h1) rfl) ev_c hz
      refine q_no (tst (Ex.refl H) rfl z1) fun H1 e1 => q_no (tst e1 rfl z2) fun H2 e2 => q_no (tst (e1.trans e2) rfl z3) fun H3 e3 => q_no (tst ((e1.trans e2).trans e3) rfl z4) fun H4 e4 => ?_
      have e := ((e1.trans e2).trans e3).trans e4
      refine q_parD (K := K) (w := w) (rows := fam x) (er_call (ea_cons (ev_ixT (i := 1) (ev_var rfl) ev_c (ex_t e h1) rfl) ea_nil) fun H5 e5 Q E r => ⟨b, x, p1, rfl, TmAt.tk (Tk.of (e.trans e5)) hTx, hWx, hdx, r⟩) fun l dd ps H5 nl e5 hl hrr hww nd => ?_
      have e6 : Ex H5 (upd H5 dd (dnO w dd [])) := Ex.new nd
      have g6 : Got K w (upd H5 dd (dnO w dd [])) dd [] := got_new
      generalize upd H5 dd (dnO w dd []) = H6 at e6 g6 ⊢
      have eH6 := (e.trans e5).trans e6
      refine q_if (b := true) (et_is (et_test (ev_inU (ev_ixT (i := 0) (ev_var rfl) ev_c (ex_t eH6 h1) rfl) (eu_tup (ea_cons ev_c (ea_cons ev_c ea_nil)) (by decide)) rfl rfl)) z5) (fun _ H7 e7 => ?_) (fun z => by cases z)
      have hlen : ps.length ≤ 20 := by rw [← rw_len, hww]; exact hfx
      have hp1 := hWx.wb.2
      have hp2 := hWy.wb.2
      have kb : ∀ (rows : List (List Int)), rows.length ≤ 20 → (rows.flatMap fun r => (fam y).map fun q => some (f r q)).length ≤ 400 := fun rows hr => by
        have := len_flat (k := 20) (f := fun r => (fam y).map fun q => some (f r q)) rows fun r _ => by rw [List.length_map]; exact hfy
        omega
      refine s_forLn (a := l) (xs := rv ps) (ev_var rfl) (sq_of (e7 _ _ (e6 _ _ hl))) (fun i σ' H' => (∃ y4 y5, σ' = [some (.ref a), none, some (.ref l), some (.ref dd), y4, y5, none, none]) ∧ Got K w H' dd (keysF (((rw' ps).take i).flatMap fun r => (fam y).map fun q => some (f r q))) ∧ Ex H5 H')
        (fun H8 e8 => ⟨⟨_, _, rfl⟩, g6.ex (e7.trans e8), (e6.trans e7).trans e8⟩) (fun i σ' H' _ pv => sq_of (pv.2.2 _ _ hl)) (fun i v σ' H' hi pv => ?_) fun σ' H' pv => ?_
      · obtain ⟨⟨y4, y5, rfl⟩, hg, e8⟩ := pv
        unfold rv at hi
        rw [List.getElem?_map] at hi
        cases hpi : ps[i]? with
        | none => rw [hpi] at hi; cases hi
        | some pr =>
          rw [hpi] at hi
          cases hi
          have hm := List.mem_of_getElem? hpi
          have hwi : (rw' ps)[i]? = some pr.2 := by unfold rw'; rw [List.getElem?_map, hpi]; rfl
          have hrow : pr.2.length = p1 := fam_row x hWx _ (by rw [← hww]; exact List.mem_of_getElem? hwi)
          have eH' := (e.trans e5).trans e8
          have call : EvR K (tCall (spFam K d) [] E0 (tCons (tOp (rIxT K) (tVar 0) (tC (.int 2))) tNil)) [some (.ref a), none, some (.ref l), some (.ref dd), some (.ref pr.1), y5, none, none] H' (fam y) :=
            er_call (ea_cons (ev_ixT (i := 2) (ev_var rfl) ev_c (ex_t eH' h1) rfl) ea_nil) fun H9 e9 Q E r => ⟨c, y, p2, rfl, TmAt.tk (Tk.of (eH'.trans e9)) hTy, hWy, hdy, r⟩
          refine call H' (Ex.refl _) _ fun l2 qs H9 n2 e9 h9 r9 w9 => ⟨l2, rfl, ⟨_, sq_of h9⟩, ?_⟩
          have n2d : l2 ≠ dd := fun zz => by
            obtain ⟨_, hx, _⟩ := hg
            rw [zz, hx] at n2
            cases n2
          refine for_it (walk_list (K := K) (a := l2) (xs := rv qs)) (fun j σ2 H2 => (∃ y5, σ2 = [some (.ref a), none, some (.ref l), some (.ref dd), some (.ref pr.1), y5, none, none]) ∧ Got K w H2 dd (keysF ((((rw' ps).take i).flatMap fun r => (fam y).map fun q => some (f r q)) ++ ((fam y).take j).map fun q => some (f pr.2 q))) ∧ Ex H5 H2 ∧ (∀ b u, b ≠ dd → H9 b = some u → H2 b = some u) ∧ Tk K H9 H2)
            ⟨⟨_, rfl⟩, by rw [List.take_zero, List.map_nil, List.append_nil]; exact hg.ex e9, e8.trans e9, (fun _ _ _ h => h), Tk.refl _⟩ (fun j σ2 H2 _ pv => sq_of (pv.2.2.2.1 _ _ n2d h9)) (fun j v σ2 H2 H3 hj pv yv => ?_) fun σ2 H2 pv => ?_
          · obtain ⟨⟨y5', rfl⟩, hg2, e10, k10, t10⟩ := pv
            obtain ⟨rfl, hv⟩ := yv
            unfold rv at hv
            rw [List.getElem?_map] at hv
            cases hqj : qs[j]? with
            | none => rw [hqj] at hv; cases hv
            | some qr =>
              rw [hqj] at hv
              cases hv
              have hwj : (fam y)[j]? = some qr.2 := by rw [← w9]; unfold rw'; rw [List.getElem?_map, hqj]; rfl
              have hrow2 : qr.2.length = p2 := fam_row y hWy _ (List.mem_of_getElem? hwj)
              have hs1 := ex_t e10 (hrr pr hm)
              have hs2 := t10 _ _ (r9 qr (List.mem_of_getElem? hqj))
              have hkl : (keysF ((((rw' ps).take i).flatMap fun r => (fam y).map fun q => some (f r q)) ++ ((fam y).take j).map fun q => some (f pr.2 q))).length ≤ 420 := by
                have h3 := keysF_len ((((rw' ps).take i).flatMap fun r => (fam y).map fun q => some (f r q)) ++ ((fam y).take j).map fun q => some (f pr.2 q))
                have h4 := kb ((rw' ps).take i) (by rw [List.length_take, rw_len]; omega)
                rw [List.length_append, List.length_map, List.length_take] at h3
                omega
              have eH := (e.trans e5).trans e10
              refine s_setN (o := some (f pr.2 qr.2)) hg2 (by omega) (ev_var rfl) (ek_tup ?_) fun H9 H10 e11 k11 t11 hg11 => ⟨⟨_, rfl⟩, ?_, fun b u hb => ?_, fun b u hb hx => ?_, (t10.trans (Tk.of e11)).trans t11⟩
              · rcases hf with ⟨rfl, rfl⟩ | ⟨rfl, rfl⟩
                · refine evt_if (b := true) (tst eH rfl (by decide)) (fun _ => fun H11 e12 Q q => (ea_cons (ev_var rfl) (ea_cons (ev_var rfl) ea_nil)) H11 e12 _ fun H12 e13 => ?_) (fun z => by cases z)
                  rw [List.append_nil]
                  exact ⟨pr.1, qr.1, pr.2, qr.2, rfl, ex_t (e12.trans e13) hs1, ex_t (e12.trans e13) hs2, by omega, fun p H13 e14 h14 => q p H13 (e13.trans e14) h14⟩
                · exact evt_if (b := false) (tst eH rfl (by decide)) (fun z => by cases z) fun _ => evt_two (evt_ev (ev_var rfl) hs1) (evt_ev (ev_var rfl) hs2) (by omega)
              · rw [List.take_add_one, hwj, List.map_append, ← List.append_assoc]
                show Got K w H10 dd (keysF (_ ++ [some (f pr.2 qr.2)]))
                rw [keysF_snoc]
                exact hg11
              · exact k11 b u (ne_of_none hb nd) (e11 _ _ (e10 _ _ hb))
              · exact k11 b u hb (e11 _ _ (k10 b u hb hx))
          · obtain ⟨⟨y5', rfl⟩, hg2, e10, k10, t10⟩ := pv
            rw [rv_len, ← rw_len, w9, List.take_length] at hg2
            refine ⟨⟨_, _, rfl⟩, ?_, e10⟩
            rw [List.take_add_one, hwi, List.flatMap_append]
            show Got K w H2 dd (keysF (_ ++ List.flatMap _ [pr.2]))
            rw [List.flatMap_singleton]
            exact hg2
      · obtain ⟨⟨y4, y5, rfl⟩, hg, e8⟩ := pv
        rw [rv_len, ← rw_len, List.take_length, hww] at hg
        refine s_retR (K := K) (er_sorted (er_keys hg ?_ (ev_var rfl) (fun _ => ev_var rfl) (fun _ => rfl) (fun _ => rfl)) (fin hfe)) ?_
        · have h3 := keysF_len ((fam x).flatMap fun r => (fam y).map fun q => some (f r q))
          have h4 := kb (fam x) hfx
          omega
        · rw [hfe] at k
          exact RetR.go k ((e.trans e5).trans e8)
    have tst : ∀ {z y : Str} {rest : List V} {H1 : Hp} {σ : L2.St} {bb : Bool}, SqT K H a (.str z :: rest) → Ex H H1 → σ[0]? = some (some (.ref a)) → decide (z = y) = bb → EvT (tTest (tOp rEq (tOp (rIxT K) (tVar 0) (tC (.int 0))) (tC (.str y)))) σ H1 bb := fun {z y rest H1 σ bb} h1 e hσ hz => et_str (ev_ixT (i := 0) (ev_var hσ) ev_c (ex_t e h1) rfl) ev_c hz
    cases T with
    | told rows =>
      obtain ⟨q, ps, h1, h2, h3, rfl⟩ := hT
      exact q_yes (tst h1 (Ex.refl H) rfl (by decide)) fun H1 e1 => s_retR (K := K) (er_listT (ev_ixT (i := 1) (ev_var rfl) ev_c (ex_t e1 h1) rfl) (ex_t e1 h2) (h3.ex e1)) (RetR.go k e1)
    | box lo hi =>
      obtain ⟨q1, q2, h1, h2, h3⟩ := hT
      obtain ⟨_, l1, l2, hb⟩ := hW
      refine q_no (tst h1 (Ex.refl H) rfl (by decide)) fun H1 e1 => q_yes (tst h1 e1 rfl (by decide)) fun H2 e2 => ?_
      have e := e1.trans e2
      exact s_retR (K := K) (er_sorted (er_box (evt_ev (ev_ixT (i := 1) (ev_var rfl) ev_c (ex_t e h1) rfl) (ex_t e h2)) (evt_ev (ev_ixT (i := 2) (ev_var rfl) ev_c (ex_t e h1) rfl) (ex_t e h3)) (by omega) hb) fun r hr => row_ne (box_row l1 l2 hr) hwb.1) (RetR.go k e)
    | few p' lo hi =>
      have h1 : SqT K H a [.str "few", .int (p' : Int), .int (lo : Int), .int (hi : Int)] := hT
      obtain ⟨_, rfl⟩ := hW
      refine q_no (tst h1 (Ex.refl H) rfl (by decide)) fun H1 e1 => q_no (tst h1 e1 rfl (by decide)) fun H2 e2 => q_yes (tst h1 (e1.trans e2) rfl (by decide)) fun H3 e3 => ?_
      have e := (e1.trans e2).trans e3
      refine q_asgR (K := K) (er_box (lo := List.replicate p' 0) (hi := List.replicate p' 1) (evt_zeros (ev_ixT (i := 1) (ev_var rfl) ev_c (ex_t e h1) rfl) (by omega)) (evt_zeros (ev_ixT (i := 1) (ev_var rfl) ev_c (ex_t e h1) rfl) (by omega)) (by rw [List.length_replicate]; exact h5) (box01 p')) fun l ps H4 nl e4 hl hrr hww => ?_
      have hpl : ps.length ≤ 243 := by
        rw [← rw_len, hww]
        exact Nat.le_trans (boxL_len _ fun z hz => (box01 p' z hz).2.2.2.2) (pow3 (by rw [List.length_zip, List.length_replicate, List.length_replicate]; omega))
      have e' := e.trans e4
      refine s_retR (K := K) (rows := sortL (((rw' ps)).filter fun r => decide ((lo : Int) ≤ r.sum) && decide (r.sum ≤ (hi : Int)))) (er_sorted (er_filt (ev_var rfl) (sq_of hl) hrr (by omega) (fun _ => rfl) (fun _ => rfl) fun pr H5 hpr e5 => et_test (ev_chainI (ev_ixT (i := 2) (ev_var rfl) ev_c (ex_t (e'.trans e5) h1) rfl) (ev_sumT (ev_var rfl) (ex_t e5 (hrr pr hpr))) (ev_ixT (i := 3) (ev_var rfl) ev_c (ex_t (e'.trans e5) h1) rfl))) fun r hr => ?_) ?_
      · have h1 := (List.mem_filter.mp hr).1
        rw [hww] at h1
        exact row_ne (box_row (List.length_replicate ..) (List.length_replicate ..) h1) hwb.1
      · rw [hww]
        exact RetR.go k e'
    | web p' ts =>
      obtain ⟨q, ps, h1, h2, h3, h4⟩ := hT
      obtain ⟨_, rfl, hz, hb⟩ := hW
      refine q_no (tst h1 (Ex.refl H) rfl (by decide)) fun H1 e1 => q_no (tst h1 e1 rfl (by decide)) fun H2 e2 => q_no (tst h1 (e1.trans e2) rfl (by decide)) fun H3 e3 => q_yes (tst h1 ((e1.trans e2).trans e3) rfl (by decide)) fun H4 e4 => ?_
      have e := ((e1.trans e2).trans e3).trans e4
      exact s_retR (K := K) (rows := sortL (webL p' ts)) (er_sorted (er_call (ea_cons (ev_ixT (i := 1) (ev_var rfl) ev_c (ex_t e h1) rfl) (ea_cons (ev_ixT (i := 2) (ev_var rfl) ev_c (ex_t e h1) rfl) ea_nil)) fun H5 e5 Q E r => ⟨p', q, ps, ts, rfl, ex_t (e.trans e5) h2, h3.ex (e.trans e5), h4, hz, hwb.1, hwb.2, hb, r⟩) fun r hr => row_ne (webL_row hr) hwb.1) (RetR.go k e)
    | sum x y => exact absurd (.inl ⟨x, y, rfl⟩) hbn
    | joined x y => exact absurd (.inr ⟨x, y, rfl⟩) hbn
    | moved t e => exact absurd (.inl ⟨t, e, rfl⟩) hu
    | between t lo hi => exact absurd (.inr (.inl ⟨t, lo, hi, rfl⟩)) hu
    | turned t i => exact absurd (.inr (.inr (.inl ⟨t, i, rfl⟩))) hu
    | added t i j => exact absurd (.inr (.inr (.inr (.inl ⟨t, i, j, rfl⟩)))) hu
    | left t i => exact absurd (.inr (.inr (.inr (.inr (.inl ⟨t, i, rfl⟩))))) hu
    | slice t i v => exact absurd (.inr (.inr (.inr (.inr (.inr ⟨t, i, v, rfl⟩))))) hu
theorem ok_family (M : Ma K mg) : ∀ d, Dn P w K mg base "_law_family" (3 + d) ["_law_term_here"] (spFam K d)
  | 0 => fam_zero M
  | d + 1 => fam_succ M d (ok_family M d)
end
end SL
end
section
set_option Elab.async false
set_option linter.all false
set_option maxRecDepth 100000
set_option maxHeartbeats 4000000
/-! Values drawn (EvD), lists of drawn numbers. -/
namespace SL
open PySem PySem.Spec PyProof.Rows L2 Evl
theorem Tk.dr {K : PySem.W.Frag} {H H' : Hp} {st c l : Addr} {a : Nat} (S : StAt H st c l a) (d : Dr st l H H') : Tk K H H' := fun b xs hs => by
  obtain ⟨_, lefts, _, hl, _⟩ := S.ls
  have n1 : ∀ u, H b = some u → ((∃ xs, u = .tup xs) ∨ ∃ p q, u = .frz p q) → b ≠ st ∧ b ≠ l := fun u e hu => by
    refine ⟨fun z => ?_, fun z => ?_⟩
    · rw [z, S.d] at e
      cases e
      rcases hu with ⟨_, e⟩ | ⟨_, _, e⟩ <;> cases e
    · rw [z, hl] at e
      cases e
      rcases hu with ⟨_, e⟩ | ⟨_, _, e⟩ <;> cases e
  rcases hs with (hs | ⟨o, hs⟩) | hs
  · obtain ⟨x, y⟩ := n1 _ hs (.inl ⟨_, rfl⟩)
    exact .inl (.inl (d b _ x y hs))
  · obtain ⟨x, y⟩ := n1 _ hs (.inr ⟨_, _, rfl⟩)
    exact .inl (.inr ⟨o, d b _ x y hs⟩)
  · exact .inr hs
/-- a place that is new in H is neither the state nor its lefts -/
theorem StAt.new {H : Hp} {st c l p : Addr} {a : Nat} (S : StAt H st c l a) (h : H p = none) : p ≠ st ∧ p ≠ l ∧ p ≠ c := by
  obtain ⟨_, lefts, hc, hl, _⟩ := S.ls
  refine ⟨fun z => ?_, fun z => ?_, fun z => ?_⟩
  · rw [z, S.d] at h; cases h
  · rw [z, hl] at h; cases h
  · rw [z, hc] at h; cases h
theorem Dr.back {H H' : Hp} {st c l p : Addr} {a : Nat} (S : StAt H' st c l a) (d : Dr st l H H') (h : H' p = none) : H p = none := by
  obtain ⟨n1, n2, _⟩ := S.new h
  cases hp : H p with
  | none => rfl
  | some u => rw [d p u n1 n2 hp] at h; cases h
theorem Dr.mut {H H' : Hp} {st l p : Addr} {o : HO} (d : Dr st l H H') (h : H p = none) : Dr st l H (upd H' p o) := fun b u h1 h2 hb => by
  rw [upd_ne (ne_of_none hb h)]
  exact d b u h1 h2 hb
/-- a new thing is laid, or one that is neither the state's dict nor its lists is written -/
theorem StAt.upd {H : Hp} {st c l p : Addr} {a : Nat} {o : HO} (S : StAt H st c l a) (h : p ≠ st ∧ p ≠ l ∧ p ≠ c) : StAt (L2.upd H p o) st c l a := by
  obtain ⟨cells, lefts, hc, hl, r⟩ := S.ls
  exact ⟨by rw [upd_ne h.1.symm]; exact S.d, ⟨cells, lefts, by rw [upd_ne h.2.2.symm]; exact hc, by rw [upd_ne h.2.1.symm]; exact hl, r⟩, S.ne⟩
section
variable {K : PySem.W.Frag} {σ : L2.St} {H : Hp} {ta tb te tx tc tl ts : TE} {t u : TT} {tz : TS} {D : Ends} {st c l : Addr}
/-- te draws at most n times, its value has P -/
def EvD (st c l : Addr) (te : TE) (σ : L2.St) (H : Hp) (n : Nat) (P : V → Hp → Prop) : Prop := ∀ H1 a, Dr st l H H1 → StAt H1 st c l a → a + n ≤ 100000 → ∀ Q : VK, (∀ v H2 a', Dr st l H1 H2 → StAt H2 st c l a' → a' ≤ a + n → P v H2 → Q v H2) → te σ H1 Q
theorem ed_mono {n m : Nat} {P P' : V → Hp → Prop} (h : EvD st c l te σ H n P) (hn : n ≤ m) (hp : ∀ v H2, P v H2 → P' v H2) : EvD st c l te σ H m P' := fun H1 a d S ha Q q =>
  h H1 a d S (by omega) Q fun v H2 a' d2 S2 ha2 p2 => q v H2 a' d2 S2 (by omega) (hp v H2 p2)
theorem ed_dr {H' : Hp} {n : Nat} {P : V → Hp → Prop} (h : EvD st c l te σ H n P) (d : Dr st l H H') : EvD st c l te σ H' n P := fun H1 a d1 S ha Q q => h H1 a (d.trans d1) S ha Q q
theorem ed_ev {v : V} (h : ∀ H1, Dr st l H H1 → Ev te σ H1 v) : EvD st c l te σ H 0 (fun x _ => x = v) := fun H1 a d S ha Q q =>
  h H1 d H1 (Ex.refl _) _ fun H2 e2 => q v H2 a (Dr.of e2) (S.ex e2) (by omega) rfl
theorem ed_draw {m : Int} {E : XK} (hs : ∀ H1, Ev ts σ H1 (.ref st)) (hm : ∀ H1, Dr st l H H1 → Ev te σ H1 (.int m)) (h1 : 1 ≤ m) (h2 : m ≤ 100000) : EvD st c l (tCall spDraw [] E (tCons ts (tCons te tNil))) σ H 1 (fun v _ => ∃ x, v = .int x ∧ 0 ≤ x ∧ x < m) := fun H1 a d S ha Q q =>
  hs H1 H1 (Ex.refl _) _ fun H2 e2 => hm H2 (d.trans (Dr.of e2)) H2 (Ex.refl _) _ fun H3 e3 => ⟨st, c, l, a, m, rfl, (S.ex e2).ex e3, by omega, h1, h2, fun v H4 v0 v1 S4 D4 => q _ H4 (a + 1) (((Dr.of e2).trans (Dr.of e3)).trans D4) S4 (Nat.le_refl _) ⟨v, rfl, v0, v1⟩⟩
theorem ed_op {r : R2} {n m : Nat} {P1 P2 P3 : V → Hp → Prop} (h1 : EvD st c l ta σ H n P1) (h2 : EvD st c l tb σ H m P2)
    (hr : ∀ x y H1 H2, P1 x H1 → Dr st l H1 H2 → Dr st l H H2 → P2 y H2 → ∀ Q : VK, (∀ z H3, Ex H2 H3 → P3 z H3 → Q z H3) → r x y H2 Q) : EvD st c l (tOp r ta tb) σ H (n + m) P3 := fun H1 a d S ha Q q =>
  h1 H1 a d S (by omega) _ fun x H2 a2 d2 S2 ha2 p2 => h2 H2 a2 (d.trans d2) S2 (by omega) _ fun y H3 a3 d3 S3 ha3 p3 => hr x y H2 H3 p2 d3 ((d.trans d2).trans d3) p3 _ fun z H4 e4 p4 => q z H4 a3 ((d2.trans d3).trans (Dr.of e4)) (S3.ex e4) (by omega) p4
/-- numbers: added, taken away -/
theorem ed_int2 {g : Int → Int → Int} {n m : Nat} {P1 P2 : Int → Prop} (h1 : EvD st c l ta σ H n (fun v _ => ∃ x, v = .int x ∧ P1 x)) (h2 : EvD st c l tb σ H m (fun v _ => ∃ x, v = .int x ∧ P2 x)) :
    EvD st c l (tOp (rI0 fun i j => .int (g i j)) ta tb) σ H (n + m) (fun v _ => ∃ x y, v = .int (g x y) ∧ P1 x ∧ P2 y) := ed_op h1 h2 fun x y H1 H2 hx _ _ hy Q q => by
  obtain ⟨i, rfl, pi⟩ := hx
  obtain ⟨j, rfl, pj⟩ := hy
  exact ⟨i, j, rfl, rfl, q _ H2 (Ex.refl _) ⟨i, j, rfl, pi, pj⟩⟩
theorem ed_c {x : Int} {P : Int → Prop} (h : P x) : EvD st c l (tC (.int x)) σ H 0 (fun v _ => ∃ x, v = .int x ∧ P x) := ed_mono (ed_ev fun _ _ => ev_c) (Nat.le_refl _) fun v _ e => ⟨x, e, h⟩
theorem ed_v {i : Nat} {x : Int} {P : Int → Prop} (hv : σ[i]? = some (some (.int x))) (h : P x) : EvD st c l (tVar i) σ H 0 (fun v _ => ∃ x, v = .int x ∧ P x) := ed_mono (ed_ev fun _ _ => ev_var hv) (Nat.le_refl _) fun v _ e => ⟨x, e, h⟩
/-- [e for ..] of numbers -/
theorem ed_lcIt {J : It} {n m : Nat} {G : Hp → Prop} {Y : Nat → Hp → V → Hp → Prop} (w : Walk J n G Y) {wi : TI} {g : TG} {vs : List Nat} {Px : Nat → Int → Prop}
    (hi : ∀ H1, Dr st l H H1 → ∀ R : It → Hp → Prop, (∀ H2, Ex H1 H2 → R J H2) → wi σ H1 R) (hG : ∀ H1, Dr st l H H1 → G H1) (hn : n ≤ 10000)
    (hs : ∀ i x H1 H2, i < n → Dr st l H H1 → Y i H1 x H2 → Ex H1 H2 ∧ ∃ σ2, (∀ q : L2.St → Hp → Prop, q σ2 H2 → g x (wipe σ vs) H2 q) ∧ wipe σ2 vs = wipe σ vs ∧ EvD st c l te σ2 H2 m (fun v _ => ∃ x, v = .int x ∧ Px i x)) :
    ∀ H1 a, Dr st l H H1 → StAt H1 st c l a → a + n * m ≤ 100000 → ∀ Q : VK, (∀ (p : Addr) (xs : List Int) (H2 : Hp) (a' : Nat), H1 p = none → Dr st l H1 H2 → StAt H2 st c l a' → a' ≤ a + n * m → H2 p = some (.lst (xs.map V.int)) → xs.length = n → (∀ i x, xs[i]? = some x → Px i x) → Q (.ref p) H2) → tLc wi g tYes te vs σ H1 Q := fun H1 a d S ha Q q =>
  hi H1 d _ fun H2 e2 Dl hD => by
    have n1 := StAt.new (S.ex e2) hD
    refine lc_it w (fun i H' => Dr st l H2 H' ∧ ∃ xs a', StAt H' st c l a' ∧ a' ≤ a + i * m ∧ H' Dl = some (.lst (xs.map V.int)) ∧ xs.length = i ∧ ∀ i x, xs[i]? = some x → Px i x)
      ⟨Dr.of (Ex.new hD), [], a, (S.ex e2).upd n1, by omega, upd_same, rfl, fun i x h => by simp at h⟩ (fun i H' _ p => hG H' ((d.trans (Dr.of e2)).trans p.1)) (fun i x H' H'' hin p y => ?_) fun H' p => ?_
    · obtain ⟨p1, xs, a', p2, p3, p4, p5, p6⟩ := p
      obtain ⟨ex, σ2, hg, hw, he⟩ := hs i x H' H'' hin ((d.trans (Dr.of e2)).trans p1) y
      refine hg _ ⟨hw, ?_⟩
      show te σ2 H'' _
      have hcost : a + i * m + m ≤ 100000 := by
        have : (i + 1) * m ≤ n * m := Nat.mul_le_mul_right m hin
        rw [Nat.succ_mul] at this
        omega
      refine he H'' a' (fun b o _ _ h => h) (p2.ex ex) (by omega) _ fun v H3 a3 d3 S3 ha3 pv => ?_
      obtain ⟨z, rfl, hz⟩ := pv
      have hl3 := d3 _ _ n1.1 n1.2.1 (ex _ _ p4)
      refine ⟨_, hl3, sz_lt (by rw [List.length_map, p5]; omega), ?_, xs ++ [z], a3, S3.upd n1, ?_, ?_, ?_, fun k y hk => ?_⟩
      · exact (((p1.trans (Dr.of ex)).trans d3)).mut hD
      · rw [Nat.succ_mul]; omega
      · rw [upd_same, List.map_append]; rfl
      · rw [List.length_append, p5]; rfl
      · rcases Nat.lt_or_ge k xs.length with hlt | hge
        · rw [List.getElem?_append_left hlt] at hk
          exact p6 k y hk
        · rw [List.getElem?_append_right hge] at hk
          have hk0 : k - xs.length = 0 := by
            by_cases h0 : k - xs.length = 0
            · exact h0
            · rw [List.getElem?_eq_none (by show 1 ≤ _; omega)] at hk
              cases hk
          rw [hk0] at hk
          cases hk
          have : k = i := by omega
          rw [this]
          exact hz
    · obtain ⟨p1, xs, a', p2, p3, p4, p5, p6⟩ := p
      exact q Dl xs H' a' (fresh_back e2 hD) ((Dr.of e2).trans p1) p2 p3 p4 p5 p6
/-- tuple([..]) of drawn numbers -/
def EvDT (K : PySem.W.Frag) (st c l : Addr) (te : TE) (σ : L2.St) (H : Hp) (n : Nat) (P : List Int → Prop) : Prop := ∀ H1 a, Dr st l H H1 → StAt H1 st c l a → a + n ≤ 100000 → ∀ Q : VK, (∀ (p : Addr) (xs : List Int) (H2 : Hp) (a' : Nat), Dr st l H1 H2 → StAt H2 st c l a' → a' ≤ a + n → SqT K H2 p (xs.map V.int) → P xs → Q (.ref p) H2) → te σ H1 Q
/-- .. over range(p) -/
theorem edt_rng {p m : Nat} {j : Nat} {vs : List Nat} {Px : Int → Prop} {tp : TA} (hp : ∀ H1, Dr st l H H1 → EvA tp σ H1 [.int (p : Int)]) (hz : p ≤ 1000) (hw : ∀ x, wipe ((wipe σ vs).set j (some x)) vs = wipe σ vs)
    (he : ∀ (i : Nat) H1, Dr st l H H1 → EvD st c l te ((wipe σ vs).set j (some (.int (i : Int)))) H1 m (fun v _ => ∃ x, v = .int x ∧ Px x)) :
    EvDT K st c l (tCB (fun xs H Q => ∃ p ys, xs = [.ref p] ∧ ((SqL K H p ys ∧ ∀ l, H l = none → Q (.ref l) (upd H l (.tup ys))) ∨ (SqT K H p ys ∧ Q (.ref p) H))) (tCons (tLc (iRng1 tp) (gName j) tYes te vs) tNil)) σ H (p * m) (fun xs => xs.length = p ∧ ∀ x ∈ xs, Px x) := fun H1 a d S ha Q q => by
  have h0 : ∀ i : Nat, (0 : Int) + (i : Int) = (i : Int) := fun i => Int.zero_add _
  unfold tCB
  unfold tCons
  refine ed_lcIt (walk_range (lo := 0) (n := p)) (m := m) (Px := fun _ => Px) (fun H2 d2 R r => hp H2 d2 H2 (Ex.refl _) _ fun H3 e3 => ⟨(p : Int), rfl, by omega, by omega, r H3 e3⟩) (fun _ _ => True.intro) (by omega) (fun i x H2 H3 hi d2 y => ?_) H1 a d S ha _ fun pl xs H2 a' nl d2 S2 ha2 hl hlen hall => ?_
  · obtain ⟨rfl, rfl⟩ := y
    refine ⟨Ex.refl _, _, fun q hq => hq, hw _, ?_⟩
    have e := he i _ d2
    rw [← h0 i] at e
    exact e
  · exact ⟨pl, _, rfl, .inl ⟨sq_of hl, fun r hr => q r xs _ a' (d2.trans (Dr.of (Ex.new hr))) (S2.ex (Ex.new hr)) ha2 (st_of upd_same) ⟨hlen, fun x hx => by
      obtain ⟨k, hk⟩ := List.getElem?_of_mem hx
      exact hall k x hk⟩⟩⟩
/-- .. over a tuple of numbers -/
theorem edt_tup {r : Addr} {ys : List Int} {m : Nat} {j : Nat} {vs : List Nat} {Px : Int → Int → Prop} (hp : ∀ H1, Dr st l H H1 → Ev tl σ H1 (.ref r)) (hs : ∀ H1, Dr st l H H1 → SqT K H1 r (ys.map V.int)) (hz : ys.length ≤ 1000) (hw : ∀ x, wipe ((wipe σ vs).set j (some x)) vs = wipe σ vs)
    (he : ∀ (y : Int) H1, Dr st l H H1 → EvD st c l te ((wipe σ vs).set j (some (.int y))) H1 m (fun v _ => ∃ x, v = .int x ∧ Px y x)) :
    EvDT K st c l (tCB (fun xs H Q => ∃ p ys, xs = [.ref p] ∧ ((SqL K H p ys ∧ ∀ l, H l = none → Q (.ref l) (upd H l (.tup ys))) ∨ (SqT K H p ys ∧ Q (.ref p) H))) (tCons (tLc (iTup K tl) (gName j) tYes te vs) tNil)) σ H (ys.length * m) (fun xs => xs.length = ys.length ∧ ∀ (i : Nat) (y x : Int), ys[i]? = some y → xs[i]? = some x → Px y x) := fun H1 a d S ha Q q => by
  have hl0 : (ys.map V.int).length = ys.length := List.length_map ..
  have w := walk_tup (K := K) (a := r) (xs := ys.map V.int)
  rw [hl0] at w
  unfold tCB
  unfold tCons
  refine ed_lcIt w (m := m) (Px := fun i x => ∀ y, ys[i]? = some y → Px y x) (fun H2 d2 R r' => hp H2 d2 H2 (Ex.refl _) _ fun H3 e3 => ⟨r, rfl, ⟨_, ex_t e3 (hs H2 d2)⟩, r' H3 e3⟩) (fun H2 d2 => hs H2 d2) (by omega) (fun i x H2 H3 hi d2 y => ?_) H1 a d S ha _ fun pl xs H2 a' nl d2 S2 ha2 hl hlen hall => ?_
  · obtain ⟨rfl, hx⟩ := y
    rw [List.getElem?_map, List.getElem?_eq_getElem hi] at hx
    cases hx
    refine ⟨Ex.refl _, _, fun q hq => hq, hw _, ed_mono (he _ _ d2) (Nat.le_refl _) fun v _ ⟨x, e, hp⟩ => ⟨x, e, fun y hy => ?_⟩⟩
    rw [List.getElem?_eq_getElem hi] at hy
    cases hy
    exact hp
  · exact ⟨pl, _, rfl, .inl ⟨sq_of hl, fun r hr => q r xs _ a' (d2.trans (Dr.of (Ex.new hr))) (S2.ex (Ex.new hr)) ha2 (st_of upd_same) ⟨hlen, fun i y x hy hx => hall i x hx y hy⟩⟩⟩
theorem q_asgD {i : Nat} {n a : Nat} {P : V → Hp → Prop} (h : EvD st c l te σ H n P) (S : StAt H st c l a) (ha : a + n ≤ 100000) (k : ∀ v H' a', Dr st l H H' → StAt H' st c l a' → a' ≤ a + n → P v H' → tz D (σ.set i (some v)) H') : tSeq (tAsg te (gName i)) tz D σ H :=
  h H a (Dr.refl _) S ha _ fun v H2 a' d2 S2 ha2 p2 => k v H2 a' d2 S2 ha2 p2
theorem q_asgDT {i : Nat} {n a : Nat} {P : List Int → Prop} (h : EvDT K st c l te σ H n P) (S : StAt H st c l a) (ha : a + n ≤ 100000) (k : ∀ p xs H' a', Dr st l H H' → StAt H' st c l a' → a' ≤ a + n → SqT K H' p (xs.map V.int) → P xs → tz D (σ.set i (some (.ref p))) H') : tSeq (tAsg te (gName i)) tz D σ H :=
  h H a (Dr.refl _) S ha _ fun p xs H2 a' d2 S2 ha2 h2 p2 => k p xs H2 a' d2 S2 ha2 h2 p2
end
end SL
end
section
set_option Elab.async false
set_option linter.all false
set_option maxRecDepth 100000
set_option maxHeartbeats 4000000
/-! _law_small, _law_base. -/
namespace SL
open PySem PySem.Spec PyProof.Rows L2 Evl
def Lo (B : Int) (rows : List (List Int)) : Prop := ∀ r ∈ rows, ∀ x ∈ r, -B ≤ x ∧ x ≤ B
/-! ### rows of base words: none twice -/
theorem nodup_flat {f : List Int → List (List Int)} : ∀ {l : List (List Int)}, l.Nodup → (∀ x ∈ l, (f x).Nodup) → (∀ x ∈ l, ∀ y ∈ l, x ≠ y → ∀ z ∈ f x, z ∉ f y) → (l.flatMap f).Nodup
  | [], _, _, _ => List.nodup_nil
  | x :: r, h, h1, h2 => by
    obtain ⟨n1, n2⟩ := List.nodup_cons.mp h
    rw [List.flatMap_cons]
    refine List.nodup_append.mpr ⟨h1 x List.mem_cons_self, nodup_flat n2 (fun y hy => h1 y (List.mem_cons_of_mem _ hy)) fun y hy z hz => h2 y (List.mem_cons_of_mem _ hy) z (List.mem_cons_of_mem _ hz), fun a ha b hb e => ?_⟩
    subst e
    obtain ⟨y, hy, hay⟩ := List.mem_flatMap.mp hb
    exact h2 x List.mem_cons_self y (List.mem_cons_of_mem _ hy) (fun e => n1 (e ▸ hy)) a ha hay
theorem nodup_map_inj {α β : Type} {f : α → β} (hf : ∀ a b, f a = f b → a = b) : ∀ {l : List α}, l.Nodup → (l.map f).Nodup
  | [], _ => List.nodup_nil
  | x :: r, h => by
    obtain ⟨n1, n2⟩ := List.nodup_cons.mp h
    rw [List.map_cons]
    refine List.nodup_cons.mpr ⟨fun hx => ?_, nodup_map_inj hf n2⟩
    obtain ⟨y, hy, e⟩ := List.mem_map.mp hx
    exact n1 (hf _ _ e ▸ hy)
theorem intsF_nodup (lo hi : Int) : (intsF lo hi).Nodup := nodup_map_inj (fun a b h => by omega) List.nodup_range
theorem snoc_inj {a b : List Int} {x y : Int} (h : a ++ [x] = b ++ [y]) : a = b ∧ x = y := by
  have h1 := List.append_inj' h rfl
  exact ⟨h1.1, by simpa using h1.2⟩
theorem boxL_nodupG : ∀ (zs : List (Int × Int)) (rows : List (List Int)), rows.Nodup → (zs.foldl (fun rows q => rows.flatMap fun row => (intsF q.1 q.2).map fun x => row ++ [x]) rows).Nodup
  | [], _, h => h
  | q :: r, rows, h => boxL_nodupG r _ (nodup_flat h (fun x _ => nodup_map_inj (fun a b e => (snoc_inj e).2) (intsF_nodup _ _)) fun x _ y _ hxy z hz hz2 => by
      obtain ⟨a, _, rfl⟩ := List.mem_map.mp hz
      obtain ⟨b, _, e⟩ := List.mem_map.mp hz2
      exact hxy (snoc_inj e).1.symm)
theorem boxL_nodup (zs : List (Int × Int)) : (boxL zs).Nodup := boxL_nodupG zs _ (by simp)
theorem addN_nodup {rows : List (List Int)} {row : List Int} (h : rows.Nodup) : (addN rows row).Nodup := by
  unfold addN
  split
  · exact h
  · rename_i hk
    exact List.nodup_append.mpr ⟨h, by simp, fun a ha b hb => by
      rw [List.mem_singleton.mp hb]
      exact fun e => hk (e ▸ ha)⟩
theorem addN_fold_nodup (f : List Int → List Int) : ∀ (l acc : List (List Int)), acc.Nodup → (l.foldl (fun acc row => addN acc (f row)) acc).Nodup
  | [], _, h => h
  | x :: r, acc, h => addN_fold_nodup f r _ (addN_nodup h)
theorem webL_nodupG : ∀ (ts : List (Nat × Nat)) (rows : List (List Int)), rows.Nodup → (ts.foldl (fun rows t => webS t.1 t.2 rows) rows).Nodup
  | [], _, h => h
  | t :: r, rows, h => webL_nodupG r _ (addN_fold_nodup _ _ _ h)
theorem webL_nodup (p : Nat) (ts : List (Nat × Nat)) : (webL p ts).Nodup := webL_nodupG ts _ (by simp)
theorem fam_asd : ∀ (T : Tm) {p : Nat}, WT T p → Asd (fam T) := fun T p h => by
  cases T with
  | told rows =>
    show Asd rows
    match rows, h.2.1 with
    | [], _ => exact List.Pairwise.nil
    | [x], _ => exact List.pairwise_singleton ..
    | x :: y :: r, h => exact absurd h (by simp)
  | box lo hi => exact sortL_asd (boxL_nodup _)
  | few p' lo hi => exact sortL_asd ((boxL_nodup _).filter _)
  | web p' ts => exact sortL_asd (webL_nodup _ _)
  | sum a b => exact famOf_asd _
  | joined a b => exact famOf_asd _
  | moved t d => exact famOf_asd _
  | between t lo hi => exact famOf_asd _
  | turned t i => exact famOf_asd _
  | added t i j => exact famOf_asd _
  | left t i => exact famOf_asd _
  | slice t i v => exact famOf_asd _
/-! ### how great their numbers are -/
theorem boxL_inG : ∀ (zs : List (Int × Int)) (rows : List (List Int)) (B : Int), (∀ z ∈ zs, -B ≤ z.1 ∧ z.2 ≤ B) → Lo B rows → Lo B (zs.foldl (fun rows q => rows.flatMap fun row => (intsF q.1 q.2).map fun x => row ++ [x]) rows)
  | [], _, _, _, h => h
  | q :: r, rows, B, hz, h => boxL_inG r _ B (fun z hzz => hz z (List.mem_cons_of_mem _ hzz)) fun row hr x hx => by
      obtain ⟨row0, h0, h1⟩ := List.mem_flatMap.mp hr
      obtain ⟨y, hy, rfl⟩ := List.mem_map.mp h1
      rcases List.mem_append.mp hx with hx | hx
      · exact h row0 h0 x hx
      · rw [List.mem_singleton.mp hx]
        obtain ⟨i, hi, rfl⟩ := List.mem_map.mp hy
        have := List.mem_range.mp hi
        have := hz q List.mem_cons_self
        omega
theorem boxL_in {zs : List (Int × Int)} {B : Int} (hz : ∀ z ∈ zs, -B ≤ z.1 ∧ z.2 ≤ B) : Lo B (boxL zs) := boxL_inG zs _ B hz fun r hr x hx => by
  rw [List.mem_singleton.mp hr] at hx
  cases hx
theorem lo_sort {B : Int} {rows : List (List Int)} (h : Lo B rows) : Lo B (sortL rows) := fun r hr => h r ((sortL_perm _).mem_iff.mp hr)
theorem bump_in {row : List Int} {j : Nat} {m : Int} (h : ∀ x ∈ row, 0 ≤ x ∧ x ≤ m) (hm : 0 ≤ m) : ∀ x ∈ bump row j, 0 ≤ x ∧ x ≤ m + 1 := fun x hx => by
  unfold bump at hx
  rcases List.mem_or_eq_of_mem_set hx with hx | rfl
  · have := h x hx; omega
  · cases hj : row[j]? with
    | none => simp; omega
    | some y =>
      have := h y (List.mem_of_getElem? hj)
      simp
      omega
theorem webL_inG : ∀ (ts : List (Nat × Nat)) (rows : List (List Int)) (m : Int), 0 ≤ m → (∀ r ∈ rows, ∀ x ∈ r, 0 ≤ x ∧ x ≤ m) → ∀ r ∈ ts.foldl (fun rows t => webS t.1 t.2 rows) rows, ∀ x ∈ r, 0 ≤ x ∧ x ≤ m + 2 * (ts.length : Int)
  | [], rows, m, h0, h => fun r hr x hx => by have := h r hr x hx; simp; omega
  | t :: r, rows, m, h0, h => fun row hr x hx => by
    have := webL_inG r (webS t.1 t.2 rows) (m + 2) (by omega) (fun q hq y hy => by
      rcases addN_fold_mem _ _ _ hq with h1 | ⟨z, hz, rfl⟩
      · have := h q h1 y hy; omega
      · have h1 := bump_in (j := t.1) (h z hz) h0
        have h2 := bump_in (j := t.2) h1 (by omega) y hy
        omega) row hr x hx
    rw [List.length_cons]
    omega
theorem webL_in {p : Nat} {ts : List (Nat × Nat)} (h : ts.length ≤ 5) : Lo 10 (webL p ts) := fun r hr x hx => by
  have := webL_inG ts [List.replicate p 0] 0 (Int.le_refl _) (fun q hq y hy => by
    rw [List.mem_singleton.mp hq] at hy
    rw [List.eq_of_mem_replicate hy]
    omega) r hr x hx
  omega
/-! ### promises -/
structure GoodT (T : Tm) (p k : Nat) (B : Int) : Prop where
  wt : WT T p
  dp : deepT T < k
  lo : Lo B (fam T)
def Mid (rows : List (List Int)) : Prop := 1 ≤ rows.length ∧ rows.length ≤ 20
def spSmall (K : PySem.W.Frag) : Sp := fun vs H Q _ => ∃ (x y : Addr) (T : Tm) (p : Nat), vs = [.ref x, .ref y, .int 20] ∧ TmAt K H T x ∧ WT T p ∧ deepT T < 5 ∧ (Mid (fam T) → RetV (.ref x) H Q) ∧ (¬ Mid (fam T) → RetV (.ref y) H Q)
def spBase (K : PySem.W.Frag) : Sp := fun vs H Q _ => ∃ (st c l : Addr) (a p : Nat), vs = [.ref st, .int (p : Int)] ∧ StAt H st c l a ∧ a + 12 ≤ 100000 ∧ 1 ≤ p ∧ p ≤ 5 ∧
  ∀ r T H' a', Dr st l H H' → StAt H' st c l a' → a' ≤ a + 12 → TmAt K H' T r → GoodT T p 1 10 → Q (.ref r) H'
section
variable {K : PySem.W.Frag} {σ : L2.St} {H : Hp} {ta tb te tx tc tl : TE} {t u : TT} {tz : TS} {D : Ends}
theorem ev_lenR {rows : List (List Int)} (ha : EvR K ta σ H rows) : Ev (tCB (rLenS K) (tCons ta tNil)) σ H (.int (rows.length : Int)) := fun H1 e Q q =>
  ha H1 e _ fun p ps H2 _ e2 h2 _ w2 => ⟨p, rv ps, rfl, .inl (sq_of h2), by rw [rv_len, ← rw_len, w2]; exact q H2 e2⟩
end
section
variable {P : Program} {w : World} {K : PySem.W.Frag} {mg : Str → Option Value} {base : Heap}
theorem ok_small (M : Ma K mg) : Dn P w K mg base "_law_small" 9 ["_law_term_here", "_law_base_here", "_law_most"] (spSmall K) := by
  obtain ⟨fd, F⟩ := M.d_LawSmall
  refine Dn.of F M.g__law_small (fun _ _ _ _ _ _ us hl => match us, hl with | [_, _, _], _ => rfl) (F.ok scLawSmall (fun vs H Q E h => ?_) (fun cdv A outer s H vs Q E hr h => ?_))
  · obtain ⟨x, y, T, p, rfl, _⟩ := h
    rfl
  · obtain ⟨x, y, T, p, rfl, hT, hW, hd, k1, k2⟩ := h
    refine ⟨_, pss_one (ps_ret (pe_ifExp (pt_chain op_le op_le pe_int (pe_callB call_len_seq (by rfl) M.n_len PySem.boot_len (pa_cons (pe_dn (ok_family M 5) hr passL (pa_cons (pv 0) pa_nil)) pa_nil)) (pv 2)) (pv 0) (pv 1))), ?_⟩
    have tst := et_test (σ := [some (.ref x), some (.ref y), some (.int 20)]) (ev_chainI (p := fun i j => decide (i ≤ j)) (q := fun i j => decide (i ≤ j)) (ev_c (v := .int 1) (σ := [some (.ref x), some (.ref y), some (.int 20)]) (H := H)) (ev_lenR (K := K) (er_call (sp := spFam K 5) (E := E0) (ea_cons (ev_var (i := 0) rfl) ea_nil) fun H1 e1 Q E r => ⟨x, T, p, rfl, TmAt.tk (Tk.of e1) hT, hW, hd, r⟩)) (ev_var (i := 2) (v := .int 20) rfl))
    by_cases hm : Mid (fam T)
    · exact s_ret (ev_if (b := true) (et_is tst (by unfold Mid at hm; simp; omega)) (fun _ => ev_var rfl) (fun z => by cases z)) fun H1 e1 => k1 hm H1 e1
    · exact s_ret (ev_if (b := false) (et_is tst (by unfold Mid at hm; simp; omega)) (fun z => by cases z) fun _ => ev_var rfl) fun H1 e1 => k2 hm H1 e1
end
end SL
end
section
set_option Elab.async false
set_option linter.all false
set_option maxRecDepth 100000
set_option maxHeartbeats 4000000
/-! _law_base. -/
namespace SL
open PySem PySem.Spec PyProof.Rows L2 Evl
section
variable {K : PySem.W.Frag} {σ : L2.St} {H : Hp} {ta tb te tx tc tl : TE} {t u : TT} {tz : TS} {D : Ends}
theorem et_int {x y : Int} {b : Bool} (ha : Ev ta σ H (.int x)) (hb : Ev tb σ H (.int y)) (e : decide (x = y) = b) : EvT (tTest (tOp rEq ta tb)) σ H b :=
  et_is (et_test (ev_op ha hb (rv_eq rfl))) (by rw [← e, decide_eq_decide]; exact ⟨fun h => V.int.inj h, fun h => by rw [h]⟩)
theorem er_lst3 {r1 r2 r3 : List Int} (h1 : EvT' K ta σ H (r1.map V.int)) (h2 : EvT' K tb σ H (r2.map V.int)) (h3 : EvT' K tc σ H (r3.map V.int)) : EvR K (tLst (tCons ta (tCons tb (tCons tc tNil)))) σ H [r1, r2, r3] := fun H1 e Q q =>
  h1 H1 e _ fun p1 H2 e2 g1 => h2 H2 (e.trans e2) _ fun p2 H3 e3 g2 => h3 H3 ((e.trans e2).trans e3) _ fun p3 H4 e4 g3 => ⟨by show 3 ≤ sizeLine; decide, fun p hp => q p [(p1, r1), (p2, r2), (p3, r3)] _ (fresh_back ((e2.trans e3).trans e4) hp) (((e2.trans e3).trans e4).trans (Ex.new hp)) upd_same
    (fun x hx => by
      have e5 := Ex.new (o := .lst [.ref p1, .ref p2, .ref p3]) hp
      simp only [List.mem_cons, List.not_mem_nil, or_false] at hx
      rcases hx with rfl | rfl | rfl
      · exact ex_t ((e3.trans e4).trans e5) g1
      · exact ex_t (e4.trans e5) g2
      · exact ex_t e5 g3) rfl⟩
theorem er_sortV {l : Addr} {ps : List (Addr × List Int)} (ha : Ev ta σ H (.ref l)) (hl : SqL K H l (rv ps)) (hr : RowsAt K H ps) (hne : ∀ p ∈ ps, p.2 ≠ []) : EvR K (tCB (rSortedR K) (tCons ta tNil)) σ H (sortL (rw' ps)) := fun H1 e Q q =>
  ha H1 e _ fun H2 e2 => ⟨l, ps, rfl, ex_l (e.trans e2) hl, hr.ex (e.trans e2), hne, fun p hp => q p _ _ (fresh_back e2 hp) (e2.trans (Ex.new hp)) upd_same (fun x hx => ex_t (Ex.new hp) ((hr.ex (e.trans e2)) x (List.mem_mergeSort.mp hx))) (sort_rows ps)⟩
/-- tuple(x) of new rows -/
theorem evt_tuR {rows : List (List Int)} (h : EvR K ta σ H rows) : ∀ H1, Ex H H1 → ∀ Q : VK, (∀ p ps H2, Ex H1 H2 → SqT K H2 p (rv ps) → RowsAt K H2 ps → rw' ps = rows → Q (.ref p) H2) → tCB (fun xs H Q => ∃ p ys, xs = [.ref p] ∧ ((SqL K H p ys ∧ ∀ l, H l = none → Q (.ref l) (upd H l (.tup ys))) ∨ (SqT K H p ys ∧ Q (.ref p) H))) (tCons ta tNil) σ H1 Q := fun H1 e Q q =>
  h H1 e _ fun l ps H2 nl e2 hl hr w2 => ⟨l, _, rfl, .inl ⟨sq_of hl, fun r hr2 => q r ps _ (e2.trans (Ex.new hr2)) (st_of upd_same) (hr.ex (Ex.new hr2)) w2⟩⟩
theorem ties_of {P : Nat × Nat → Prop} : ∀ {rows : List (List Int)}, (∀ r ∈ rows, ∃ t, r = tieR t ∧ P t) → ∃ ts : List (Nat × Nat), rows = ts.map tieR ∧ ∀ t ∈ ts, P t
  | [], _ => ⟨[], rfl, (fun _ h => by cases h)⟩
  | r :: rs, h => by
    obtain ⟨t, e, p⟩ := h r List.mem_cons_self
    obtain ⟨ts, e2, p2⟩ := ties_of fun q hq => h q (List.mem_cons_of_mem _ hq)
    exact ⟨t :: ts, by rw [e, e2]; rfl, fun x hx => by
      rcases List.mem_cons.mp hx with rfl | hx
      · exact p
      · exact p2 x hx⟩
end
section
variable {P : Program} {w : World} {K : PySem.W.Frag} {mg : Str → Option Value} {base : Heap}
theorem ok_base (M : Ma K mg) : Dn P w K mg base "_law_base" 4 ["_law_state", "_law_places"] (spBase K) := by
  obtain ⟨fd, F⟩ := M.d_LawBase
  refine Dn.of F M.g__law_base (fun _ _ _ _ _ _ us hl => match us, hl with | [_, _], _ => rfl) (F.ok scLawBase (fun vs H Q E h => ?_) (fun cdv A outer s H vs Q E hr h => ?_))
  · obtain ⟨st, c, l, a, p, rfl, _⟩ := h
    rfl
  · obtain ⟨st, c, l, a, p, rfl, S, ha, hp1, hp5, k⟩ := h
    have hr3 := hr.mono (show 2 ≤ 3 by decide)
    refine ⟨_, (pss_cons (ps_set (i := 2) scLawBase.nd rfl (.inl rfl) (pe_dn (ok_draw M) hr3 passL (pa_cons (pv 0) (pa_cons pe_int pa_nil)))) <|
      pss_cons (ps_if (pt_cmpR op_eq (pv 2) pe_int (nomark _))
        (pss_cons (ps_set (i := 3) scLawBase.nd rfl (.inl rfl) (pe_callTy call_tuple_of (by rfl) M.n_tuple (by decide +kernel) (pa_cons (pe_lc (own := [("_law_k", 7)]) (g := gName 7) (tt := tYes) rfl scLawBase.nd (pi_range1 (by rfl) M.n_range (pa_cons (pv 1) pa_nil))
            (blkOk_by (N := ["_law_state", "_law_places", "_law_choice", "_law_least", "_law_high", "_law_some", "_law_ties", "_law_k", "_law_one_here", "_law_other", "_law_low"]) (sc := defScope sLawBase) (by decide +kernel))
            (fun _ _ _ _ _ => pg_name (i := 7) scLawBase.nd rfl (Or.inl rfl)) (fun _ _ _ _ _ => pts_nil)
            (fun _ _ _ _ _ => pe_op op_sub (pe_dn (ok_draw M) hr3 passL (pa_cons (pv 0) (pa_cons pe_int pa_nil))) pe_int)) pa_nil))) <|
         pss_one (ps_ret (pe_tup (pa_cons pe_str (pa_cons (pv 3) (pa_cons (pe_callTy call_tuple_of (by rfl) M.n_tuple (by decide +kernel) (pa_cons (pe_lc (own := [("_law_low", 10)]) (g := gName 10) (tt := tYes) rfl scLawBase.nd (pi_tup (pv 3))
            (blkOk_by (N := ["_law_state", "_law_places", "_law_choice", "_law_least", "_law_high", "_law_some", "_law_ties", "_law_k", "_law_one_here", "_law_other", "_law_low"]) (sc := defScope sLawBase) (by decide +kernel))
            (fun _ _ _ _ _ => pg_name (i := 10) scLawBase.nd rfl (Or.inl rfl)) (fun _ _ _ _ _ => pts_nil)
            (fun _ _ _ _ _ => pe_op op_add (pv 10) (pe_ix (show IxR _ (rIxL K) from ix_list) (pe_lst (pa_cons pe_int (pa_cons pe_int (pa_cons pe_int (pa_cons pe_int pa_nil))))) (pe_dn (ok_draw M) hr3 passL (pa_cons (pv 0) (pa_cons pe_int pa_nil))) (fun _ _ => rfl)))) pa_nil)) pa_nil)))))) pss_nil) <|
      pss_cons (ps_if (pt_cmpR op_eq (pv 2) pe_int (nomark _))
        (pss_cons (ps_set (i := 4) scLawBase.nd rfl (.inl rfl) (pe_dn (ok_draw M) hr3 passL (pa_cons (pv 0) (pa_cons (pe_op op_add (pv 1) pe_int) pa_nil)))) <|
         pss_one (ps_ret (pe_tup (pa_cons pe_str (pa_cons (pv 1) (pa_cons (pe_dn (ok_draw M) hr3 passL (pa_cons (pv 0) (pa_cons (pe_op op_add (pv 4) pe_int) pa_nil))) (pa_cons (pv 4) pa_nil))))))) pss_nil) <|
      pss_cons (ps_if (pt_cmpR op_eq (pv 2) pe_int (nomark _))
        (pss_cons (ps_set (i := 5) scLawBase.nd rfl (.inl rfl) (pe_lst (pa_cons (pe_op op_repA (pe_tup (pa_cons pe_int pa_nil)) (pv 1)) (pa_cons (pe_op op_catA (pe_tup (pa_cons pe_int pa_nil)) (pe_op op_repA (pe_tup (pa_cons pe_int pa_nil)) (pe_op op_sub (pv 1) pe_int)))
            (pa_cons (pe_op op_catA (pe_tup (pa_cons pe_int pa_nil)) (pe_op op_repA (pe_tup (pa_cons pe_int pa_nil)) (pe_op op_sub (pv 1) pe_int))) pa_nil))))) <|
         pss_one (ps_ret (pe_tup (pa_cons pe_str (pa_cons (pe_tup (pa_cons (pe_dn (ok_of M) hr passL (pa_cons (pv 0) (pa_cons (pv 5) pa_nil))) pa_nil)) pa_nil))))) pss_nil) <|
      pss_cons (ps_set (i := 6) scLawBase.nd rfl (.inl rfl) (pe_lst pa_nil)) <|
      pss_cons (ps_for (passes_of rfl) rfl (pi_range1 (by rfl) M.n_range (pa_cons (pe_dn (ok_draw M) hr3 passL (pa_cons (pv 0) (pa_cons pe_int pa_nil))) pa_nil)) (pg_name (i := 7) scLawBase.nd rfl (.inl rfl))
        (pss_cons (ps_par (i := 8) (j := 9) rfl scLawBase.nd rfl rfl (by decide) rfl rfl (pa_cons (pe_dn (ok_draw M) hr3 passL (pa_cons (pv 0) (pa_cons (pv 1) pa_nil))) (pa_cons (pe_dn (ok_draw M) hr3 passL (pa_cons (pv 0) (pa_cons (pv 1) pa_nil))) pa_nil)) (by rfl)) <|
         pss_one (ps_expr (pe_bm PySem.F.plainAttrs_list PySem.F.slot_list_append PySem.F.type_list_append mt_append (pv 6) (pa_cons (pe_tup (pa_cons (pe_callB (call_min2 rfl) (by rfl) M.n_min (by decide +kernel) (pa_cons (pv 8) (pa_cons (pv 9) pa_nil)))
            (pa_cons (pe_callB (call_max2 rfl) (by rfl) M.n_max (by decide +kernel) (pa_cons (pv 8) (pa_cons (pv 9) pa_nil))) pa_nil))) pa_nil))))) <|
      pss_one (ps_ret (pe_tup (pa_cons pe_str (pa_cons (pv 1) (pa_cons (pe_callTy call_tuple_of (by rfl) M.n_tuple (by decide +kernel) (pa_cons (pe_callB (cr_sortedR hr.units) (by rfl) M.n_sorted (by decide +kernel) (pa_cons (pv 6) pa_nil)) pa_nil)) pa_nil)))))), ?_⟩
    have dro : ∀ {σ : L2.St} {H1 : Hp} {m : Int} {te : TE}, σ[0]? = some (some (.ref st)) → (∀ H2, Dr st l H1 H2 → Ev te σ H2 (.int m)) → 1 ≤ m → m ≤ 100000 → EvD st c l (tCall spDraw [] E0 (tCons (tVar 0) (tCons te tNil))) σ H1 1 (fun v _ => ∃ x, v = .int x ∧ 0 ≤ x ∧ x < m) := fun hσ hm h1 h2 => ed_draw (fun _ => ev_var hσ) hm h1 h2
    refine q_asgD (dro (m := 4) rfl (fun _ _ => ev_c) (by decide) (by decide)) S (by omega) fun v H1 a1 d1 S1 ha1 hv => ?_
    obtain ⟨x, rfl, hx0, hx4⟩ := hv
    have hx : x = 0 ∨ x = 1 ∨ x = 2 ∨ x = 3 := by omega
    rcases hx with rfl | rfl | rfl | rfl
    · refine q_yes (et_int (ev_var rfl) ev_c (by decide)) fun H2 e2 => ?_
      refine q_asgDT (K := K) (edt_rng (p := p) (m := 1) (Px := fun x => -1 ≤ x ∧ x ≤ 1) (fun H3 _ => ea_cons (ev_var rfl) ea_nil) (by omega) (fun _ => rfl) fun i H3 d3 => ed_mono (ed_int2 (g := fun i j => i - j) (dro (m := 3) rfl (fun _ _ => ev_c) (by decide) (by decide)) (ed_c (x := 1) (P := fun x => x = 1) rfl)) (by omega) fun v _ hv => ?_) (S1.ex e2) (by omega) fun pl xs H3 a3 d3 S3 ha3 hs3 hP3 => ?_
      · obtain ⟨x, y, rfl, ⟨h1, h2⟩, rfl⟩ := hv
        exact ⟨_, rfl, by omega, by omega⟩
      obtain ⟨hl3, hall⟩ := hP3
      refine ⟨_, rfl, ?_⟩
      refine edt_tup (K := K) (H := H3) (r := pl) (ys := xs) (m := 1) (Px := fun y x => y ≤ x ∧ x ≤ y + 2) (fun H4 _ => ev_var rfl) (fun H4 d4 => Tk.dr S3 d4 _ _ hs3) (by omega) (fun _ => rfl) (fun y H4 d4 => ?_) H3 a3 (Dr.refl _) S3 (by omega) _ fun r ys H4 a4 d4 S4 ha4 hs4 hP4 => ?_
      · refine ed_mono (ed_int2 (g := fun i j => i + j) (P1 := fun x => x = y) (P2 := fun x => 0 ≤ x ∧ x ≤ 2) (ed_v (i := 10) (x := y) rfl rfl) (fun H5 a5 d5 S5 ha5 Q q => el_lst (ea_cons ev_c (ea_cons ev_c (ea_cons ev_c (ea_cons ev_c ea_nil)))) (by simp) H5 (Ex.refl _) _ fun q5 H6 n5 e6 h6 => dro (m := 4) rfl (fun _ _ => ev_c) (by decide) (by decide) H6 a5 (Dr.refl _) (S5.ex e6) ha5 _ fun v H7 a7 d7 S7 ha7 hv => ?_)) (by omega) fun v _ hv => ?_
        · obtain ⟨z, rfl, z0, z4⟩ := hv
          have nq := S5.new n5
          have h7 := d7 _ _ nq.1 nq.2.1 h6
          have hz : z = 0 ∨ z = 1 ∨ z = 2 ∨ z = 3 := by omega
          have fin : ∀ y : Int, 0 ≤ y → y ≤ 2 → Q (.int y) H7 := fun y y0 y2 => q _ H7 a7 ((Dr.of e6).trans d7) S7 ha7 ⟨y, rfl, y0, y2⟩
          rcases hz with rfl | rfl | rfl | rfl
          · exact ⟨q5, _, 0, _, rfl, rfl, sq_of h7, atI_nat (j := 0) rfl, fin 0 (by decide) (by decide)⟩
          · exact ⟨q5, _, 1, _, rfl, rfl, sq_of h7, atI_nat (j := 1) rfl, fin 1 (by decide) (by decide)⟩
          · exact ⟨q5, _, 2, _, rfl, rfl, sq_of h7, atI_nat (j := 2) rfl, fin 1 (by decide) (by decide)⟩
          · exact ⟨q5, _, 3, _, rfl, rfl, sq_of h7, atI_nat (j := 3) rfl, fin 2 (by decide) (by decide)⟩
        · obtain ⟨x, y, rfl, rfl, h1, h2⟩ := hv
          exact ⟨_, rfl, by omega, by omega⟩
      obtain ⟨hl4, hall4⟩ := hP4
      refine ⟨by show 3 ≤ sizeLine; decide, fun q hq => ?_⟩
      have eq := Ex.new (o := .tup [.str "box", .ref pl, .ref r]) hq
      have zb : ∀ z ∈ xs.zip ys, -1 ≤ z.1 ∧ z.1 ≤ 1 ∧ z.1 ≤ z.2 ∧ z.2 ≤ z.1 + 2 := fun z hz => by
        obtain ⟨i, hi⟩ := List.getElem?_of_mem hz
        have h1 := List.getElem?_zip_eq_some.mp hi
        have h2 := hall4 i z.1 z.2 h1.1 h1.2
        have h3 := hall z.1 (List.mem_of_getElem? h1.1)
        omega
      refine k q (.box xs ys) _ a4 ((((d1.trans (Dr.of e2)).trans d3).trans d4).trans (Dr.of eq)) (S4.ex eq) (by omega) ⟨pl, r, st_of upd_same, ex_t eq (Tk.dr S3 d4 _ _ hs3), ex_t eq hs4⟩ ⟨⟨⟨hp1, hp5⟩, hl3, by omega, fun z hz => ?_⟩, Nat.zero_lt_one, ?_⟩
      · have := zb z hz
        omega
      · exact lo_sort (boxL_in fun z hz => by have := zb z hz; omega)
    · refine q_no (et_int (ev_var rfl) ev_c (by decide)) fun H2 e2 => q_yes (et_int (ev_var rfl) ev_c (by decide)) fun H3 e3 => ?_
      refine q_asgD (dro (m := (p : Int) + 1) rfl (fun _ _ => ev_add (ev_var rfl) ev_c) (by omega) (by omega)) ((S1.ex e2).ex e3) (by omega) fun v H4 a4 d4 S4 ha4 hv => ?_
      obtain ⟨hi, rfl, hi0, hi1⟩ := hv
      refine ⟨_, rfl, dro (m := hi + 1) rfl (fun _ _ => ev_add (ev_var (i := 4) rfl) ev_c) (by omega) (by omega) H4 a4 (Dr.refl _) S4 (by omega) _ fun v H5 a5 d5 S5 ha5 hv => ?_⟩
      obtain ⟨lo, rfl, lo0, lo1⟩ := hv
      refine ⟨_, rfl, by show 4 ≤ sizeLine; decide, fun q hq => ?_⟩
      obtain ⟨hin, rfl⟩ := Int.eq_ofNat_of_zero_le hi0
      obtain ⟨lon, rfl⟩ := Int.eq_ofNat_of_zero_le lo0
      have eq := Ex.new (o := .tup [.str "few", .int (p : Int), .int (lon : Int), .int (hin : Int)]) hq
      refine k q (.few p lon hin) _ a5 (((((d1.trans (Dr.of e2)).trans (Dr.of e3)).trans d4).trans d5).trans (Dr.of eq)) (S5.ex eq) (by omega) (st_of upd_same) ⟨⟨⟨hp1, hp5⟩, rfl⟩, Nat.zero_lt_one, ?_⟩
      refine lo_sort fun r hr => boxL_in (B := 10) (fun z hz => ?_) r (List.mem_filter.mp hr).1
      have h1 := List.eq_of_mem_replicate (List.of_mem_zip hz).1
      have h2 := List.eq_of_mem_replicate (List.of_mem_zip hz).2
      omega
    · refine q_no (et_int (ev_var rfl) ev_c (by decide)) fun H2 e2 => q_no (et_int (ev_var rfl) ev_c (by decide)) fun H3 e3 => q_yes (et_int (ev_var rfl) ev_c (by decide)) fun H4 e4 => ?_
      have S4 := ((S1.ex e2).ex e3).ex e4
      have zer : ∀ {x : Int} {H5 : Hp}, EvT' K (tOp (rRepA K) (tTup (tCons (tC (.int x)) tNil)) (tOp (rI0 fun i j => .int (i - j)) (tVar 1) (tC (.int 1)))) [some (.ref st), some (.int (p : Int)), some (.int 2), none, none, none, none, none, none, none, none] H5 ((List.replicate (p - 1) x).map V.int) := fun {x H5} =>
        evt_zeros (p := p - 1) (ev_is (ev_sub (ev_var rfl) ev_c) (by congr 1; omega)) (by omega)
      have one : ∀ {x : Int} {H5 : Hp} {σ : L2.St}, EvT' K (tTup (tCons (tC (.int x)) tNil)) σ H5 ([x].map V.int) := fun {x H5 σ} => evt_evu (eu_tup (ea_cons ev_c ea_nil) (by simp))
      refine q_asgR (K := K) (er_lst3 (r1 := List.replicate p 0) (r2 := [2] ++ List.replicate (p - 1) 0) (r3 := [1] ++ List.replicate (p - 1) 1) (evt_zeros (ev_var rfl) (by omega)) (evt_two one zer (by rw [List.length_replicate]; show 1 + _ ≤ _; omega)) (evt_two one zer (by rw [List.length_replicate]; show 1 + _ ≤ _; omega))) fun lo ps H5 nl e5 h5 r5 w5 => ?_
      have S5 := S4.ex e5
      have nlo := S4.new nl
      have hpl : ps.length = 3 := by rw [← rw_len, w5]; rfl
      refine ⟨_, rfl, _, rfl, st, c, l, lo, a1, rv ps, rfl, S5, by omega, h5, nlo.2.1, by rw [rv_len]; omega, by rw [rv_len]; omega, fun v H6 hv S6 d6 => ?_⟩
      obtain ⟨pr, hpr, rfl⟩ := List.mem_map.mp hv
      have hsq := Tk.dr S5 d6 _ _ (r5 pr hpr)
      have hin : pr.2 ∈ [List.replicate p 0, [2] ++ List.replicate (p - 1) 0, [1] ++ List.replicate (p - 1) 1] := by rw [← w5]; exact List.mem_map_of_mem hpr
      refine ⟨by show 1 ≤ sizeLine; decide, fun q1 hq1 => ⟨by show 2 ≤ sizeLine; decide, fun q hq => ?_⟩⟩
      have eq1 := Ex.new (o := .tup [.ref pr.1]) hq1
      have eq := Ex.new (o := .tup [.str "told", .ref q1]) hq
      have ee := eq1.trans eq
      have hrow : pr.2.length = p ∧ ∀ x ∈ pr.2, -10 ≤ x ∧ x ≤ 10 := by
        simp only [List.mem_cons, List.not_mem_nil, or_false] at hin
        rcases hin with h | h | h <;> rw [h] <;> refine ⟨by simp <;> omega, fun x hx => ?_⟩
        · rw [List.eq_of_mem_replicate hx]; decide
        · rcases List.mem_append.mp hx with hx | hx
          · rw [List.mem_singleton.mp hx]; decide
          · rw [List.eq_of_mem_replicate hx]; decide
        · rcases List.mem_append.mp hx with hx | hx
          · rw [List.mem_singleton.mp hx]; decide
          · rw [List.eq_of_mem_replicate hx]; decide
      refine k q (.told [pr.2]) _ (a1 + 1) ((((((d1.trans (Dr.of e2)).trans (Dr.of e3)).trans (Dr.of e4)).trans (Dr.of e5)).trans d6).trans (Dr.of ee)) (S6.ex ee) (by omega) ⟨q1, [pr], st_of upd_same, ex_t eq (st_of upd_same), RowsAt.one (ex_t ee hsq), rfl⟩ ⟨⟨⟨hp1, hp5⟩, Nat.le_refl _, fun r hr => ?_⟩, Nat.zero_lt_one, fun r hr x hx => ?_⟩
      · rw [List.mem_singleton.mp hr]; exact hrow.1
      · rw [List.mem_singleton.mp hr] at hx; exact hrow.2 x hx
    · refine q_no (et_int (ev_var rfl) ev_c (by decide)) fun H2 e2 => q_no (et_int (ev_var rfl) ev_c (by decide)) fun H3 e3 => q_no (et_int (ev_var rfl) ev_c (by decide)) fun H4 e4 => ?_
      have S4 := ((S1.ex e2).ex e3).ex e4
      have d4 := ((d1.trans (Dr.of e2)).trans (Dr.of e3)).trans (Dr.of e4)
      refine q_asgR (K := K) er_nil fun lt ps0 H5 nl e5 h5 r5 w5 => ?_
      have eps : ps0 = [] := List.eq_nil_of_length_eq_zero (by rw [← rw_len, w5]; rfl)
      subst eps
      have nlt := S4.new nl
      refine dro (m := 6) rfl (fun _ _ => ev_c) (by decide) (by decide) H5 a1 (Dr.refl _) (S4.ex e5) (by omega) _ fun v H6 a6 d6 S6 ha6 hv => ?_
      obtain ⟨n, rfl, n0, n6⟩ := hv
      refine ⟨n, rfl, by omega, by omega, ?_⟩
      refine q_it (walk_range (lo := 0) (n := n.toNat)) (fun i σ' H' => (∃ y7 y8 y9, σ' = [some (.ref st), some (.int (p : Int)), some (.int 3), none, none, none, some (.ref lt), y7, y8, y9, none]) ∧ Dr st l H4 H' ∧
          ∃ a' ps ts, StAt H' st c l a' ∧ a' ≤ a6 + 2 * i ∧ H' lt = some (.lst (rv ps)) ∧ RowsAt K H' ps ∧ rw' ps = ts.map tieR ∧ ts.length = i ∧ ∀ t ∈ ts, t.1 < p ∧ t.2 < p)
        ⟨⟨_, _, _, rfl⟩, (Dr.of e5).trans d6, a6, [], [], S6, by omega, d6 _ _ nlt.1 nlt.2.1 h5, (fun _ h => by cases h), rfl, rfl, (fun _ h => by cases h)⟩ (fun _ _ _ _ _ => True.intro) (fun i x σ' H' H'' hi pv y => ?_) fun σ' H' pv => ?_
      · obtain ⟨⟨y7, y8, y9, rfl⟩, d7, a7, ps, ts, S7, ha7, hl7, r7, w7, hts, hb⟩ := pv
        obtain ⟨rfl, rfl⟩ := y
        refine dro (m := (p : Int)) rfl (fun _ _ => ev_var rfl) (by omega) (by omega) _ a7 (Dr.refl _) S7 (by omega) _ fun v1 H8 a8 d8 S8 ha8 hv1 => dro (m := (p : Int)) rfl (fun _ _ => ev_var rfl) (by omega) (by omega) H8 a8 (Dr.refl _) S8 (by omega) _ fun v2 H9 a9 d9 S9 ha9 hv2 => ?_
        obtain ⟨x1, rfl, x10, x1p⟩ := hv1
        obtain ⟨x2, rfl, x20, x2p⟩ := hv2
        refine ⟨_, _, rfl, ?_⟩
        have hl9 := d9 _ _ nlt.1 nlt.2.1 (d8 _ _ nlt.1 nlt.2.1 hl7)
        refine s_appU (K := K) (ys := [.int (if x2 < x1 then x2 else x1), .int (if x2 > x1 then x2 else x1)]) hl9 (ev_var rfl) (eu_tup (ea_cons (ev_cb (ea_cons (ev_var rfl) (ea_cons (ev_var rfl) ea_nil)) fun H1 e Q q => ⟨x1, x2, rfl, q H1 (Ex.refl _)⟩) (ea_cons (ev_cb (ea_cons (ev_var rfl) (ea_cons (ev_var rfl) ea_nil)) fun H1 e Q q => ⟨x1, x2, rfl, q H1 (Ex.refl _)⟩) ea_nil)) (by show 2 ≤ 100000; decide)) ?_ fun pt H10 n10 e10 h10 => ?_
        · have : ps.length = i := by rw [← rw_len, w7, List.length_map, hts]
          rw [rv_len]
          omega
        · obtain ⟨n1, rfl⟩ := Int.eq_ofNat_of_zero_le x10
          obtain ⟨n2, rfl⟩ := Int.eq_ofNat_of_zero_le x20
          have hl10 := e10 _ _ hl9
          refine ⟨⟨_, _, _, rfl⟩, (((d7.trans d8).trans d9).trans (Dr.of e10)).mut nl, a9, ps ++ [(pt, tieR (if n2 < n1 then n2 else n1, if n2 > n1 then n2 else n1))], ts ++ [(if n2 < n1 then n2 else n1, if n2 > n1 then n2 else n1)], (S9.ex e10).upd nlt, by omega, ?_, ?_, ?_, ?_, fun t ht => ?_⟩
          · rw [upd_same, rv_app]
            rfl
          · have tk1 : Tk K H10 (upd H10 lt (.lst (rv ps ++ [.ref pt]))) := Tk.lst hl10
            refine RowsAt.app (((((r7.tk (Tk.dr S7 d8)).tk (Tk.dr S8 d9)).ex e10)).tk tk1) (RowsAt.one (tk1 _ _ ?_))
            have e11 : ((tieR (if n2 < n1 then n2 else n1, if n2 > n1 then n2 else n1)).map V.int) = [.int (if (n2 : Int) < (n1 : Int) then (n2 : Int) else n1), .int (if (n2 : Int) > (n1 : Int) then (n2 : Int) else n1)] := by
              unfold tieR
              simp only [List.map_cons, List.map_nil]
              congr 1
              · congr 1
                split <;> split <;> omega
              · congr 2
                split <;> split <;> omega
            rw [e11]
            exact st_of h10
          · rw [rw_app, w7, List.map_append]
            rfl
          · rw [List.length_append, hts]
            rfl
          · rcases List.mem_append.mp ht with ht | ht
            · exact hb t ht
            · rw [List.mem_singleton.mp ht]
              refine ⟨?_, ?_⟩
              · show (if n2 < n1 then n2 else n1) < p
                split <;> omega
              · show (if n2 > n1 then n2 else n1) < p
                split <;> omega
      · obtain ⟨⟨y7, y8, y9, rfl⟩, d7, a7, ps, ts, S7, ha7, hl7, r7, w7, hts, hb⟩ := pv
        have hne : ∀ pr ∈ ps, pr.2 ≠ [] := fun pr hpr e => by
          have h1 : pr.2 ∈ rw' ps := List.mem_map_of_mem hpr
          rw [w7, e] at h1
          obtain ⟨t, _, e2⟩ := List.mem_map.mp h1
          cases e2
        refine ⟨_, rfl, ?_⟩
        refine evt_tuR (K := K) (er_sortV (ev_var rfl) (sq_of hl7) r7 hne) H' (Ex.refl _) _ fun r qs H8 e8 h8 r8 w8 => ⟨by show 3 ≤ sizeLine; decide, fun q hq => ?_⟩
        have eq := Ex.new (o := .tup [.str "web", .int (p : Int), .ref r]) hq
        obtain ⟨ts', hts', hb'⟩ := ties_of (P := fun t => t.1 < p ∧ t.2 < p) (rows := sortL (rw' ps)) fun r hr => by
          have h1 := (sortL_perm _).mem_iff.mp hr
          rw [w7] at h1
          obtain ⟨t, ht, e⟩ := List.mem_map.mp h1
          exact ⟨t, e.symm, hb t ht⟩
        have hl5 : ts'.length ≤ 5 := by
          have h1 : (sortL (rw' ps)).length = (rw' ps).length := (sortL_perm _).length_eq
          rw [hts', w7, List.length_map, List.length_map, hts] at h1
          omega
        exact k q (.web p ts') _ a7 (((d4.trans d7).trans (Dr.of e8)).trans (Dr.of eq)) ((S7.ex e8).ex eq) (by omega) ⟨r, qs, st_of upd_same, ex_t eq h8, r8.ex eq, by rw [w8, hts']⟩ ⟨⟨⟨hp1, hp5⟩, rfl, hl5, hb'⟩, Nat.zero_lt_one, lo_sort (webL_in hl5)⟩
end
end SL
end
section
set_option Elab.async false
set_option linter.all false
set_option maxRecDepth 100000
set_option maxHeartbeats 4000000
/-! _law_term. -/
namespace SL
open PySem PySem.Spec PyProof.Rows L2 Evl
def CT : Nat → Nat
  | 0 => 0
  | k + 1 => 2 * CT k + 40
def BT : Nat → Int
  | 0 => 5
  | k + 1 => 2 * BT k + 1
theorem BT_pos : ∀ k, 5 ≤ BT k
  | 0 => by decide
  | k + 1 => by have := BT_pos k; show 5 ≤ 2 * BT k + 1; omega
theorem BT_one {k : Nat} (h : 1 ≤ k) : 11 ≤ BT k := by
  cases k with
  | zero => omega
  | succ k => have := BT_pos k; show 11 ≤ 2 * BT k + 1; omega
theorem BT_le {k : Nat} : BT k ≤ BT (k + 1) := by have := BT_pos k; show BT k ≤ 2 * BT k + 1; omega
theorem GoodT.mono {T : Tm} {p k k' : Nat} {B B' : Int} (h : GoodT T p k B) (hk : k ≤ k') (hB : B ≤ B') : GoodT T p k' B' := ⟨h.wt, Nat.lt_of_lt_of_le h.dp hk, fun r hr x hx => by have := h.lo r hr x hx; omega⟩
def spTerm (K : PySem.W.Frag) (n : Nat) : Sp := fun vs H Q _ => ∃ (st c l : Addr) (a p k : Nat), vs = [.ref st, .int (p : Int), .int (k : Int), .int 20] ∧ StAt H st c l a ∧ a + CT k ≤ 100000 ∧ 1 ≤ p ∧ p ≤ 5 ∧ 1 ≤ k ∧ k ≤ n ∧ k ≤ 3 ∧
  ∀ r T H' a', Dr st l H H' → StAt H' st c l a' → a' ≤ a + CT k → TmAt K H' T r → GoodT T p k (BT k) → Mid (fam T) → Q (.ref r) H'
/-! ### lots of one-part words -/
theorem famOf_has {ks : List (Option (List Int))} {r : List Int} (h : some r ∈ ks) : r ∈ famOf ks := by
  refine (sortL_perm _).mem_iff.mpr (List.mem_filterMap.mpr ⟨some r, ?_, rfl⟩)
  have : ∀ (ks acc : List (Option (List Int))), (some r ∈ acc ∨ some r ∈ ks) → some r ∈ ks.foldl addO acc := by
    intro ks
    induction ks with
    | nil => intro acc h; rcases h with h | h; exact h; cases h
    | cons k t ih =>
      intro acc h
      refine ih _ ?_
      by_cases hk : some r = k
      · refine .inl ?_
        unfold addO
        split
        · rename_i hh; rw [hk]; exact hh
        · rw [hk]; exact List.mem_append_right _ List.mem_cons_self
      · rcases h with h | h
        · refine .inl ?_
          unfold addO
          split
          · exact h
          · exact List.mem_append_left _ h
        · rcases List.mem_cons.mp h with h | h
          · exact absurd h hk
          · exact .inr h
  exact this ks [] (.inr h)
theorem mid_un {rows : List (List Int)} {f : List Int → Option (List Int)} {r y : List Int} (hm : Mid rows) (hr : r ∈ rows) (hf : f r = some y) : Mid (famOf (rows.map f)) := by
  have h1 : y ∈ famOf (rows.map f) := famOf_has (List.mem_map.mpr ⟨r, hr, hf⟩)
  have h2 := famOf_len (rows.map f)
  rw [List.length_map] at h2
  exact ⟨List.length_pos_of_mem h1, by have := hm.2; omega⟩
theorem mid_any {rows : List (List Int)} (h : Mid rows) : ∃ r, r ∈ rows := by
  cases rows with
  | nil => have := h.1; simp at this
  | cons x t => exact ⟨x, List.mem_cons_self⟩
theorem lo_un {rows : List (List Int)} {f : List Int → Option (List Int)} {B B' : Int} (h : Lo B rows) (hf : ∀ r ∈ rows, ∀ y, f r = some y → ∀ x ∈ y, -B' ≤ x ∧ x ≤ B') : Lo B' (famOf (rows.map f)) := fun y hy x hx => by
  obtain ⟨r, hr, e⟩ := List.mem_map.mp (famOf_mem hy)
  exact hf r hr y e x hx
theorem cut_mem {r : List Int} {i : Nat} {x : Int} (h : x ∈ cutR r i) : x ∈ r := by
  rcases List.mem_append.mp h with h | h
  · exact List.mem_of_mem_take h
  · exact List.mem_of_mem_drop h
theorem get_in {r : List Int} {i : Nat} {B : Int} (h : ∀ x ∈ r, -B ≤ x ∧ x ≤ B) (hB : 0 ≤ B) : -B ≤ r[i]?.getD 0 ∧ r[i]?.getD 0 ≤ B := by
  cases hi : r[i]? with
  | none => simp; omega
  | some y => exact h y (List.mem_of_getElem? hi)
theorem sumF_in {r d : List Int} {B C : Int} (h1 : ∀ x ∈ r, -B ≤ x ∧ x ≤ B) (h2 : ∀ x ∈ d, -C ≤ x ∧ x ≤ C) : ∀ x ∈ sumF r d, -(B + C) ≤ x ∧ x ≤ B + C := fun x hx => by
  obtain ⟨q, hq, rfl⟩ := List.mem_map.mp hx
  have a := h1 _ (List.of_mem_zip hq).1
  have b := h2 _ (List.of_mem_zip hq).2
  omega
theorem inBox_of {r lo hi : List Int} (h1 : ∀ (i : Nat) (y x : Int), r[i]? = some y → lo[i]? = some x → x ≤ y) (h2 : ∀ (i : Nat) (y x : Int), r[i]? = some y → hi[i]? = some x → y ≤ x) : inBox r lo hi = true := by
  unfold inBox
  rw [List.all_eq_true]
  intro q hq
  obtain ⟨i, hi'⟩ := List.getElem?_of_mem hq
  have g := List.getElem?_zip_eq_some.mp hi'
  have g2 := List.getElem?_zip_eq_some.mp g.2
  have a := h1 i _ _ g.1 g2.1
  have b := h2 i _ _ g.1 g2.2
  simp [a, b]
theorem boxZ_len : ∀ (zs : List (Int × Int)) (rows : List (List Int)), (∀ z ∈ zs, z = (0, 0)) → (zs.foldl (fun rows q => rows.flatMap fun row => (intsF q.1 q.2).map fun x => row ++ [x]) rows).length = rows.length
  | [], _, _ => rfl
  | q :: r, rows, h => by
    rw [List.foldl_cons, boxZ_len r _ fun z hz => h z (List.mem_cons_of_mem _ hz), h q List.mem_cons_self]
    induction rows with
    | nil => rfl
    | cons x t ih => rw [List.flatMap_cons, List.length_append, ih]; show 1 + t.length = t.length + 1; omega
theorem zeroBox (p : Nat) (h1 : 1 ≤ p) (h5 : p ≤ 5) : GoodT (.box (List.replicate p 0) (List.replicate p 0)) p 1 10 ∧ Mid (fam (.box (List.replicate p 0) (List.replicate p 0))) := by
  have hz : ∀ z ∈ (List.replicate p (0 : Int)).zip (List.replicate p (0 : Int)), z = (0, 0) := fun z hz => by
    have a := List.eq_of_mem_replicate (List.of_mem_zip hz).1
    have b := List.eq_of_mem_replicate (List.of_mem_zip hz).2
    exact Prod.ext a b
  refine ⟨⟨⟨⟨h1, h5⟩, List.length_replicate .., List.length_replicate .., fun z h => ?_⟩, Nat.zero_lt_one, lo_sort (boxL_in fun z h => ?_)⟩, ?_⟩
  · rw [hz z h]; decide
  · rw [hz z h]; decide
  · have : (fam (.box (List.replicate p 0) (List.replicate p 0))).length = 1 := by
      show (sortL (boxL _)).length = 1
      rw [(sortL_perm _).length_eq]
      exact boxZ_len _ [[]] hz
    unfold Mid
    omega
section
variable {K : PySem.W.Frag} {σ : L2.St} {H : Hp} {ta tb te tx tc tl ts tp td tm : TE} {t u : TT} {tz : TS} {D : Ends} {st c l : Addr}
/-- te gives a good term -/
def EvTm (K : PySem.W.Frag) (st c l : Addr) (te : TE) (σ : L2.St) (H : Hp) (n p k : Nat) (B : Int) : Prop := ∀ H1 a, Dr st l H H1 → StAt H1 st c l a → a + n ≤ 100000 → ∀ Q : VK, (∀ r T H2 a', Dr st l H1 H2 → StAt H2 st c l a' → a' ≤ a + n → TmAt K H2 T r → GoodT T p k B → Mid (fam T) → Q (.ref r) H2) → te σ H1 Q
theorem etm_base {p : Nat} {E : XK} (h1 : 1 ≤ p) (h5 : p ≤ 5) (hs : σ[0]? = some (some (.ref st))) (hp : σ[1]? = some (some (.int (p : Int)))) (hm : σ[3]? = some (some (.int 20))) :
    EvTm K st c l (tCall (spSmall K) [] E (tCons (tCall (spBase K) [] E (tCons (tVar 0) (tCons (tVar 1) tNil))) (tCons (tTup (tCons (tC (.str "box")) (tCons (tOp (rRepA K) (tTup (tCons (tC (.int 0)) tNil)) (tVar 1)) (tCons (tOp (rRepA K) (tTup (tCons (tC (.int 0)) tNil)) (tVar 1)) tNil)))) (tCons (tVar 3) tNil)))) σ H 12 p 1 10 := fun H1 a d S ha Q q =>
  ⟨_, hs, _, hp, st, c, l, a, p, rfl, S, ha, h1, h5, fun r T H2 a2 d2 S2 ha2 hT hG => evt_zeros (K := K) (σ := σ) (H := H2) (ev_var hp) (by omega) H2 (Ex.refl _) _ fun p1 H3 e3 g3 => evt_zeros (K := K) (σ := σ) (H := H3) (ev_var hp) (by omega) H3 (Ex.refl _) _ fun p2 H4 e4 g4 => ⟨by show 3 ≤ sizeLine; decide, fun b hb => by
    have e5 := Ex.new (o := .tup [.str "box", .ref p1, .ref p2]) hb
    have ee := (e3.trans e4).trans e5
    obtain ⟨z1, z2⟩ := zeroBox p h1 h5
    refine ⟨_, hm, r, b, T, p, rfl, TmAt.tk (Tk.of ee) hT, hG.wt, Nat.lt_trans hG.dp (by decide), fun hmid H5 e6 => ?_, fun _ H5 e6 => ?_⟩
    · exact q r T H5 a2 (d2.trans (Dr.of (ee.trans e6))) (S2.ex (ee.trans e6)) ha2 (TmAt.tk (Tk.of (ee.trans e6)) hT) hG hmid
    · exact q b (.box (List.replicate p 0) (List.replicate p 0)) H5 a2 (d2.trans (Dr.of (ee.trans e6))) (S2.ex (ee.trans e6)) ha2 ⟨p1, p2, ex_t e6 (st_of upd_same), ex_t ((e4.trans e5).trans e6) g3, ex_t (e5.trans e6) g4⟩ z1 z2⟩⟩
theorem etm_call {n p k : Nat} {E : XK} (hs : ∀ H1, Ev ts σ H1 (.ref st)) (hp : ∀ H1, Dr st l H H1 → Ev tp σ H1 (.int (p : Int))) (hd : ∀ H1, Dr st l H H1 → Ev td σ H1 (.int (k : Int))) (hm : ∀ H1, Dr st l H H1 → Ev tm σ H1 (.int 20)) (h1 : 1 ≤ p) (h5 : p ≤ 5) (k1 : 1 ≤ k) (kn : k ≤ n) (k3 : k ≤ 3) :
    EvTm K st c l (tCall (spTerm K n) [] E (tCons ts (tCons tp (tCons td (tCons tm tNil))))) σ H (CT k) p k (BT k) := fun H1 a d S ha Q q =>
  hs H1 H1 (Ex.refl _) _ fun H2 e2 => hp H2 (d.trans (Dr.of e2)) H2 (Ex.refl _) _ fun H3 e3 => hd H3 (d.trans (Dr.of (e2.trans e3))) H3 (Ex.refl _) _ fun H4 e4 => hm H4 (d.trans (Dr.of ((e2.trans e3).trans e4))) H4 (Ex.refl _) _ fun H5 e5 =>
    have ee := ((e2.trans e3).trans e4).trans e5
    ⟨st, c, l, a, p, k, rfl, S.ex ee, ha, h1, h5, k1, kn, k3, fun r T H6 a6 d6 S6 ha6 hT hG hM => q r T H6 a6 ((Dr.of ee).trans d6) S6 ha6 hT hG hM⟩
theorem etm_mono {n n' p k k' : Nat} {B B' : Int} (h : EvTm K st c l te σ H n p k B) (hn : n ≤ n') (hk : k ≤ k') (hB : B ≤ B') : EvTm K st c l te σ H n' p k' B' := fun H1 a d S ha Q q =>
  h H1 a d S (by omega) Q fun r T H2 a2 d2 S2 ha2 hT hG hM => q r T H2 a2 d2 S2 (by omega) hT (hG.mono hk hB) hM
theorem q_asgTm {i n p k a : Nat} {B : Int} (h : EvTm K st c l te σ H n p k B) (S : StAt H st c l a) (ha : a + n ≤ 100000) (kk : ∀ r T H' a', Dr st l H H' → StAt H' st c l a' → a' ≤ a + n → TmAt K H' T r → GoodT T p k B → Mid (fam T) → tz D (σ.set i (some (.ref r))) H') : tSeq (tAsg te (gName i)) tz D σ H :=
  h H a (Dr.refl _) S ha _ fun r T H2 a2 d2 S2 ha2 hT hG hM => kk r T H2 a2 d2 S2 ha2 hT hG hM
/-- one of the lots of a term -/
theorem ed_of {r : Addr} {T : Tm} {p a0 : Nat} {E : XK} (hs : ∀ H1, Ev ts σ H1 (.ref st)) (hp : ∀ H1, Ev tp σ H1 (.ref r)) (S0 : StAt H st c l a0) (hT : TmAt K H T r) (hW : WT T p) (hd : deepT T < 5) (hM : Mid (fam T)) :
    EvD st c l (tCall spOf [] E (tCons ts (tCons (tCall (spFam K 5) [] E (tCons tp tNil)) tNil))) σ H 1 (fun v H2 => ∃ pa row, v = .ref pa ∧ SqT K H2 pa (row.map V.int) ∧ row ∈ fam T) := fun H1 a d S ha Q q =>
  hs H1 H1 (Ex.refl _) _ fun H2 e2 => hp H2 H2 (Ex.refl _) _ fun H3 e3 => ⟨r, T, p, rfl, TmAt.tk (Tk.of (e2.trans e3)) (TmAt.tk (Tk.dr S0 d) hT), hW, hd, fun lo ps H4 nl e4 hl hr hw => by
    have S3 := (S.ex e2).ex e3
    have S4 := S3.ex e4
    have nlo := S3.new nl
    have hlen : ps.length = (fam T).length := by rw [← hw, rw_len]
    have hM1 := hM.1
    have hM2 := hM.2
    refine ⟨st, c, l, lo, a, rv ps, rfl, S4, by omega, hl, nlo.2.1, by rw [rv_len]; omega, by rw [rv_len]; omega, fun v H5 hv S5 d5 => ?_⟩
    obtain ⟨pr, hpr, rfl⟩ := List.mem_map.mp hv
    exact q _ H5 (a + 1) ((Dr.of ((e2.trans e3).trans e4)).trans d5) S5 (Nat.le_refl _) ⟨pr.1, pr.2, rfl, Tk.dr S4 d5 _ _ (hr pr hpr), by rw [← hw]; exact List.mem_map_of_mem hpr⟩⟩
end
end SL
end
section
set_option Elab.async false
set_option linter.all false
set_option maxRecDepth 100000
set_option maxHeartbeats 8000000
/-! _law_term, by depth. -/
namespace SL
open PySem PySem.Spec PyProof.Rows L2 Evl
theorem in345 {x : Int} : inV (.int x) [.int 3, .int 4, .int 5] = decide (x = 3 ∨ x = 4 ∨ x = 5) := by
  show (((3 : Int) == x) || (((4 : Int) == x) || (((5 : Int) == x) || false))) = _
  rw [Bool.eq_iff_iff]
  simp only [Bool.or_eq_true, beq_iff_eq, decide_eq_true_eq, Bool.false_eq_true, or_false]
  constructor <;> intro h <;> omega
section
variable {K : PySem.W.Frag} {σ : L2.St} {H : Hp} {ta tb te : TE} {t u : TT} {st c l : Addr}
theorem ed_if {n : Nat} {b : Bool} {P : V → Hp → Prop} (ht : ∀ H1, Dr st l H H1 → EvT t σ H1 b) (h1 : b = true → EvD st c l ta σ H n P) (h2 : b = false → EvD st c l tb σ H n P) : EvD st c l (tIf t ta tb) σ H n P := fun H1 a d S ha Q q => ht H1 d H1 (Ex.refl _) _ fun H2 e2 => by
  cases b with
  | true =>
    show ta σ H2 Q
    exact h1 rfl H2 a (d.trans (Dr.of e2)) (S.ex e2) ha Q fun v H3 a3 d3 S3 ha3 p3 => q v H3 a3 ((Dr.of e2).trans d3) S3 ha3 p3
  | false =>
    show tb σ H2 Q
    exact h2 rfl H2 a (d.trans (Dr.of e2)) (S.ex e2) ha Q fun v H3 a3 d3 S3 ha3 p3 => q v H3 a3 ((Dr.of e2).trans d3) S3 ha3 p3
theorem etm_if {n p k : Nat} {b : Bool} {B : Int} (ht : ∀ H1, Dr st l H H1 → EvT t σ H1 b) (h1 : b = true → EvTm K st c l ta σ H n p k B) (h2 : b = false → EvTm K st c l tb σ H n p k B) : EvTm K st c l (tIf t ta tb) σ H n p k B := fun H1 a d S ha Q q => ht H1 d H1 (Ex.refl _) _ fun H2 e2 => by
  cases b with
  | true =>
    show ta σ H2 Q
    exact h1 rfl H2 a (d.trans (Dr.of e2)) (S.ex e2) ha Q fun v T H3 a3 d3 S3 ha3 p3 => q v T H3 a3 ((Dr.of e2).trans d3) S3 ha3 p3
  | false =>
    show tb σ H2 Q
    exact h2 rfl H2 a (d.trans (Dr.of e2)) (S.ex e2) ha Q fun v T H3 a3 d3 S3 ha3 p3 => q v T H3 a3 ((Dr.of e2).trans d3) S3 ha3 p3
end
section
variable {P : Program} {w : World} {K : PySem.W.Frag} {mg : Str → Option Value} {base : Heap}
theorem term_zero (M : Ma K mg) : Dn P w K mg base "_law_term" 10 ["_law_state", "_law_places", "_law_deep", "_law_most"] (spTerm K 0) := by
  obtain ⟨fd, F⟩ := M.d_LawTerm
  refine Dn.of F M.g__law_term (fun _ _ _ _ _ _ us hl => match us, hl with | [_, _, _, _], _ => rfl) (F.ok scLawTerm (fun vs H Q E h => ?_) (fun cdv A outer s H vs Q E hr h => ?_))
  · obtain ⟨st, c, l, a, p, k, rfl, _⟩ := h
    rfl
  · obtain ⟨st, c, l, a, p, k, _, _, _, _, _, k1, k0, _⟩ := h
    omega
theorem term_succ (M : Ma K mg) (n : Nat) (IH : Dn P w K mg base "_law_term" (10 + n) ["_law_state", "_law_places", "_law_deep", "_law_most"] (spTerm K n)) : Dn P w K mg base "_law_term" (10 + (n + 1)) ["_law_state", "_law_places", "_law_deep", "_law_most"] (spTerm K (n + 1)) := by
  obtain ⟨fd, F⟩ := M.d_LawTerm
  refine Dn.of F M.g__law_term (fun _ _ _ _ _ _ us hl => match us, hl with | [_, _, _, _], _ => rfl) (F.ok scLawTerm (fun vs H Q E h => ?_) (fun cdv A outer s H vs Q E hr h => ?_))
  · obtain ⟨st, c, l, a, p, k, rfl, _⟩ := h
    rfl
  · obtain ⟨st, c, l, a, p, k, rfl, S, ha, hp1, hp5, hk1, hkn, hk3, kq⟩ := h
    have hr' : Room (10 + n) _ := hr
    have r2 := hr'.mono (show 2 ≤ 10 + n by omega)
    have r3 := hr'.mono (show 3 ≤ 10 + n by omega)
    have r8 := hr'.mono (show 8 ≤ 10 + n by omega)
    have r9 := hr'.mono (show 9 ≤ 10 + n by omega)
    have r4 := hr'.mono (show 4 ≤ 10 + n by omega)
    refine ⟨_, (pss_cons (ps_set (i := 4) scLawTerm.nd rfl (.inl rfl) (pe_dn (ok_small M) r9 passL (pa_cons (pe_dn (ok_base M) r4 passL (pa_cons (pv 0) (pa_cons (pv 1) pa_nil))) (pa_cons (pe_tup (pa_cons pe_str (pa_cons (pe_op op_repA (pe_tup (pa_cons pe_int pa_nil)) (pv 1)) (pa_cons (pe_op op_repA (pe_tup (pa_cons pe_int pa_nil)) (pv 1)) pa_nil)))) (pa_cons (pv 3) pa_nil))))) <|
      pss_cons (ps_set (i := 5) scLawTerm.nd rfl (.inl rfl) (pe_ifExp (pt_cmpR op_gt (pv 2) pe_int (nomark _)) (pe_dn (ok_draw M) r2 passL (pa_cons (pv 0) (pa_cons pe_int pa_nil))) pe_int)) <|
      pss_cons (ps_if (pt_cmpR op_lt (pv 5) pe_int (nomark _))
        (pss_cons (ps_set (i := 6) scLawTerm.nd rfl (.inl rfl) (pe_tup (pa_cons pe_str (pa_cons (pe_dn IH hr' passL (pa_cons (pv 0) (pa_cons (pv 1) (pa_cons (pe_op op_sub (pv 2) pe_int) (pa_cons pe_int pa_nil))))) (pa_cons (pe_dn IH hr' passL (pa_cons (pv 0) (pa_cons (pv 1) (pa_cons (pe_op op_sub (pv 2) pe_int) (pa_cons pe_int pa_nil))))) pa_nil))))) <|
         pss_one (ps_ret (pe_dn (ok_small M) r9 passL (pa_cons (pv 6) (pa_cons (pv 4) (pa_cons (pv 3) pa_nil)))))) pss_nil) <|
      pss_cons (ps_if (PW.pt (pw_and (pt_cmpR op_eq (pv 5) pe_int (nomark _)) (pw_and1 (pt_cmpR op_gt (pv 1) pe_int (nomark _)))))
        (pss_cons (ps_set (i := 7) scLawTerm.nd rfl (.inl rfl) (pe_op op_add pe_int (pe_dn (ok_draw M) r2 passL (pa_cons (pv 0) (pa_cons (pe_op op_sub (pv 1) pe_int) pa_nil))))) <|
         pss_cons (ps_set (i := 6) scLawTerm.nd rfl (.inl rfl) (pe_tup (pa_cons pe_str (pa_cons (pe_dn IH hr' passL (pa_cons (pv 0) (pa_cons (pv 7) (pa_cons (pe_op op_sub (pv 2) pe_int) (pa_cons pe_int pa_nil))))) (pa_cons (pe_dn IH hr' passL (pa_cons (pv 0) (pa_cons (pe_op op_sub (pv 1) (pv 7)) (pa_cons (pe_op op_sub (pv 2) pe_int) (pa_cons pe_int pa_nil))))) pa_nil))))) <|
         pss_one (ps_ret (pe_dn (ok_small M) r9 passL (pa_cons (pv 6) (pa_cons (pv 4) (pa_cons (pv 3) pa_nil)))))) pss_nil) <|
      pss_cons (ps_if (PW.pt (pw_and (pt_cmpR op_in_seq (pv 5) (pe_tup (pa_cons pe_int (pa_cons pe_int (pa_cons pe_int pa_nil)))) (by rfl)) (pw_and1 (pt_cmpR op_lt (pv 1) pe_int (nomark _)))))
        (pss_cons (ps_par (i := 8) (j := 9) rfl scLawTerm.nd rfl rfl (by decide) rfl rfl (pa_cons (pe_dn IH hr' passL (pa_cons (pv 0) (pa_cons (pe_op op_add (pv 1) pe_int) (pa_cons (pe_op op_sub (pv 2) pe_int) (pa_cons (pv 3) pa_nil))))) (pa_cons (pe_dn (ok_draw M) r2 passL (pa_cons (pv 0) (pa_cons (pv 1) pa_nil))) pa_nil)) (by rfl)) <|
         pss_cons (ps_set (i := 10) scLawTerm.nd rfl (.inl rfl) (pe_dn (ok_of M) r3 passL (pa_cons (pv 0) (pa_cons (pe_dn (ok_family M 5) r8 passL (pa_cons (pv 8) pa_nil)) pa_nil)))) <|
         pss_cons (ps_set (i := 11) scLawTerm.nd rfl (.inl rfl) (pe_lst (pa_cons (pe_tup (pa_cons pe_str (pa_cons (pv 8) (pa_cons (pv 9) (pa_cons (pe_op op_add (pe_op op_add (pv 9) pe_int) (pe_dn (ok_draw M) r2 passL (pa_cons (pv 0) (pa_cons (pe_op op_sub (pv 1) (pv 9)) pa_nil)))) pa_nil)))))
            (pa_cons (pe_tup (pa_cons pe_str (pa_cons (pv 8) (pa_cons (pv 9) pa_nil)))) pa_nil)))) <|
         pss_one (ps_ret (pe_ix ix_list (pe_op op_cat (pv 11) (pe_lst (pa_cons (pe_tup (pa_cons pe_str (pa_cons (pv 8) (pa_cons (pv 9) (pa_cons (pe_ix ix_tup (pv 10) (pv 9) (fun _ _ => rfl)) pa_nil))))) pa_nil))) (pe_op op_sub (pv 5) pe_int) (fun _ _ => rfl)))) pss_nil) <|
      pss_cons (ps_set (i := 8) scLawTerm.nd rfl (.inl rfl) (pe_ifExp (pt_cmpR op_lt (pv 5) pe_int (nomark _)) (pe_dn IH hr' passL (pa_cons (pv 0) (pa_cons (pv 1) (pa_cons (pe_op op_sub (pv 2) pe_int) (pa_cons (pv 3) pa_nil))))) (pv 4))) <|
      pss_cons (ps_set (i := 10) scLawTerm.nd rfl (.inl rfl) (pe_dn (ok_of M) r3 passL (pa_cons (pv 0) (pa_cons (pe_dn (ok_family M 5) r8 passL (pa_cons (pv 8) pa_nil)) pa_nil)))) <|
      pss_cons (ps_if (pt_cmpR op_eq (pv 5) pe_int (nomark _)) (pss_one (ps_ret (pe_tup (pa_cons pe_str (pa_cons (pv 8) (pa_cons (pe_callTy call_tuple_of (by rfl) M.n_tuple (by decide +kernel) (pa_cons (pe_lc (own := [("_law_k", 13)]) (g := gName 13) (tt := tYes) rfl scLawTerm.nd (pi_range1 (by rfl) M.n_range (pa_cons (pv 1) pa_nil))
            (blkOk_by (N := ["_law_state", "_law_places", "_law_deep", "_law_most", "_law_base_here", "_law_choice", "_law_term_here", "_law_near", "_law_part", "_law_spot", "_law_lot", "_law_some", "_law_least", "_law_k", "_law_number_here"]) (sc := defScope sLawTerm) (by decide +kernel))
            (fun _ _ _ _ _ => pg_name (i := 13) scLawTerm.nd rfl (Or.inl rfl)) (fun _ _ _ _ _ => pts_nil)
            (fun _ _ _ _ _ => pe_op op_sub (pe_dn (ok_draw M) r2 passL (pa_cons (pv 0) (pa_cons pe_int pa_nil))) pe_int)) pa_nil)) pa_nil)))))) pss_nil) <|
      pss_cons (ps_if (pt_cmpR op_eq (pv 5) pe_int (nomark _)) (pss_one (ps_ret (pe_tup (pa_cons pe_str (pa_cons (pv 8) (pa_cons (pe_dn (ok_draw M) r2 passL (pa_cons (pv 0) (pa_cons (pv 1) pa_nil))) pa_nil)))))) pss_nil) <|
      pss_cons (ps_if (pt_cmpR op_eq (pv 5) pe_int (nomark _))
        (pss_cons (ps_set (i := 12) scLawTerm.nd rfl (.inl rfl) (pe_callTy call_tuple_of (by rfl) M.n_tuple (by decide +kernel) (pa_cons (pe_lc (own := [("_law_number_here", 14)]) (g := gName 14) (tt := tYes) rfl scLawTerm.nd (pi_tup (pv 10))
            (blkOk_by (N := ["_law_state", "_law_places", "_law_deep", "_law_most", "_law_base_here", "_law_choice", "_law_term_here", "_law_near", "_law_part", "_law_spot", "_law_lot", "_law_some", "_law_least", "_law_k", "_law_number_here"]) (sc := defScope sLawTerm) (by decide +kernel))
            (fun _ _ _ _ _ => pg_name (i := 14) scLawTerm.nd rfl (Or.inl rfl)) (fun _ _ _ _ _ => pts_nil)
            (fun _ _ _ _ _ => pe_op op_sub (pv 14) (pe_dn (ok_draw M) r2 passL (pa_cons (pv 0) (pa_cons pe_int pa_nil))))) pa_nil))) <|
         pss_one (ps_ret (pe_tup (pa_cons pe_str (pa_cons (pv 8) (pa_cons (pv 12) (pa_cons (pe_callTy call_tuple_of (by rfl) M.n_tuple (by decide +kernel) (pa_cons (pe_lc (own := [("_law_number_here", 14)]) (g := gName 14) (tt := tYes) rfl scLawTerm.nd (pi_tup (pv 10))
            (blkOk_by (N := ["_law_state", "_law_places", "_law_deep", "_law_most", "_law_base_here", "_law_choice", "_law_term_here", "_law_near", "_law_part", "_law_spot", "_law_lot", "_law_some", "_law_least", "_law_k", "_law_number_here"]) (sc := defScope sLawTerm) (by decide +kernel))
            (fun _ _ _ _ _ => pg_name (i := 14) scLawTerm.nd rfl (Or.inl rfl)) (fun _ _ _ _ _ => pts_nil)
            (fun _ _ _ _ _ => pe_op op_add (pv 14) (pe_dn (ok_draw M) r2 passL (pa_cons (pv 0) (pa_cons pe_int pa_nil))))) pa_nil)) pa_nil))))))) pss_nil) <|
      pss_one (ps_ret (pv 8))), ?_⟩
    have dro : ∀ {σ : L2.St} {H1 : Hp} {m : Int} {te : TE}, σ[0]? = some (some (.ref st)) → (∀ H2, Dr st l H1 H2 → Ev te σ H2 (.int m)) → 1 ≤ m → m ≤ 100000 → EvD st c l (tCall spDraw [] E0 (tCons (tVar 0) (tCons te tNil))) σ H1 1 (fun v _ => ∃ x, v = .int x ∧ 0 ≤ x ∧ x < m) := fun hσ hm h1 h2 => ed_draw (fun _ => ev_var hσ) hm h1 h2
    obtain ⟨k', rfl⟩ : ∃ k', k = k' + 1 := ⟨k - 1, by omega⟩
    have hCT : CT (k' + 1) = 2 * CT k' + 40 := rfl
    have hBT : BT (k' + 1) = 2 * BT k' + 1 := rfl
    have hB5 := BT_pos k'
    rw [hCT] at ha kq
    rw [hBT] at kq
    refine q_asgTm (K := K) (etm_base hp1 hp5 rfl rfl rfl) S (by omega) fun rb Tb H1 a1 d1 S1 ha1 hTb hGb hMb => ?_
    refine q_asgD (c := c) (n := 1) (P := fun v _ => ∃ x, v = .int x ∧ 0 ≤ x ∧ x < 10 ∧ (k' = 0 → x = 9)) (ed_if (b := decide (1 ≤ k')) (fun H2 d2 => et_is (et_test (ev_op (ev_var rfl) ev_c (rv_I0 (g := fun i j => .bl (decide (i > j)))))) (by show decide (((k' + 1 : Nat) : Int) > 1) = _; exact decide_eq_decide.mpr (by omega)))
      (fun hb => ed_mono (dro (m := 10) rfl (fun _ _ => ev_c) (by decide) (by decide)) (Nat.le_refl _) fun v _ ⟨x, e, h1, h2⟩ => ⟨x, e, h1, h2, fun h => by simp [h] at hb⟩)
      (fun hb => ed_mono (ed_c (x := 9) (P := fun x => x = 9) rfl) (Nat.zero_le _) fun v _ ⟨x, e, h1⟩ => ⟨x, e, by omega, by omega, fun _ => h1⟩)) S1 (by omega) fun v H2 a2 d2 S2 ha2 hv => ?_
    obtain ⟨x, rfl, x0, x10, xk⟩ := hv
    have hTb2 := TmAt.tk (Tk.dr S1 d2) hTb
    have dd2 := d1.trans d2
    have baseQ : ∀ H3 a3, Dr st l H2 H3 → StAt H3 st c l a3 → a3 ≤ a + (2 * CT k' + 40) → Q (.ref rb) H3 := fun H3 a3 d3 S3 ha3 => kq rb Tb H3 a3 (dd2.trans d3) S3 ha3 (TmAt.tk (Tk.dr S2 d3) hTb2) (hGb.mono (by omega) (by omega)) hMb
    have lt2 : ∀ {H3 : Hp} {σ : L2.St} {b : Bool}, σ[5]? = some (some (.int x)) → decide (x < 2) = b → EvT (tTest (tOp (rI0 fun i j => .bl (decide (i < j))) (tVar 5) (tC (.int 2)))) σ H3 b := fun hσ e => et_is (et_test (ev_op (ev_var hσ) ev_c (rv_I0 (g := fun i j => .bl (decide (i < j)))))) e
    by_cases hA : x < 2
    · have hk1' : 1 ≤ k' := by
        rcases Nat.eq_zero_or_pos k' with h | h
        · have := xk h; omega
        · exact h
      refine q_yes (lt2 rfl (decide_eq_true hA)) fun H3 e3 => ?_
      have S3 := S2.ex e3
      refine etm_call (K := K) (p := p) (k := k') (fun _ => ev_var rfl) (fun _ _ => ev_var rfl) (fun _ _ => ev_is (ev_sub (ev_var rfl) ev_c) (by congr 1; omega)) (fun _ _ => ev_c) hp1 hp5 hk1' (by omega) (by omega) H3 a2 (Dr.refl _) S3 (by omega) _ fun r1 T1 H4 a4 d4 S4 ha4 hT1 hG1 hM1 => ?_
      refine etm_call (K := K) (p := p) (k := k') (fun _ => ev_var rfl) (fun _ _ => ev_var rfl) (fun _ _ => ev_is (ev_sub (ev_var rfl) ev_c) (by congr 1; omega)) (fun _ _ => ev_c) hp1 hp5 hk1' (by omega) (by omega) H4 a4 (Dr.refl _) S4 (by omega) _ fun r2 T2 H5 a5 d5 S5 ha5 hT2 hG2 hM2 => ⟨by show 3 ≤ sizeLine; decide, fun q hq => ?_⟩
      have eq := Ex.new (o := .tup [.str "sum", .ref r1, .ref r2]) hq
      have hT1' := TmAt.tk (Tk.of eq) (TmAt.tk (Tk.dr S4 d5) hT1)
      have hT2' := TmAt.tk (Tk.of eq) hT2
      have hdep : deepT (.sum T1 T2) < k' + 1 := by
        have := hG1.dp; have := hG2.dp
        show max (deepT T1) (deepT T2) + 1 < k' + 1
        omega
      have hWs : WT (.sum T1 T2) p := ⟨⟨hp1, hp5⟩, hG1.wt, hG2.wt, hM1.2, hM2.2⟩
      have hat : TmAt K (upd H5 q (.tup [.str "sum", .ref r1, .ref r2])) (.sum T1 T2) q := ⟨r1, r2, st_of upd_same, hT1', hT2'⟩
      refine ⟨_, rfl, _, rfl, _, rfl, q, rb, .sum T1 T2, p, rfl, hat, hWs, by omega, fun hm H6 e6 => ?_, fun _ H6 e6 => ?_⟩
      · refine kq q (.sum T1 T2) H6 a5 (dd2.trans ((((Dr.of e3).trans d4).trans d5).trans (Dr.of (eq.trans e6)))) (S5.ex (eq.trans e6)) (by omega) (TmAt.tk (Tk.of e6) hat) ⟨hWs, hdep, fun r hr x hx => ?_⟩ hm
        obtain ⟨y, hy, h1⟩ := List.mem_flatMap.mp (famOf_mem hr)
        obtain ⟨z, hz, e⟩ := List.mem_map.mp h1
        cases e
        have := sumF_in (hG1.lo y hy) (hG2.lo z hz) x hx
        omega
      · exact baseQ H6 a5 ((((Dr.of e3).trans d4).trans d5).trans (Dr.of (eq.trans e6))) (S5.ex (eq.trans e6)) (by omega)
    refine q_no (lt2 rfl (decide_eq_false hA)) fun H3 e3 => ?_
    have S3 := S2.ex e3
    have tB : ∀ {H4 : Hp} {σ : L2.St} {b : Bool}, σ[5]? = some (some (.int x)) → σ[1]? = some (some (.int (p : Int))) → (decide (x = 2) && decide ((p : Int) > 1)) = b → EvT (tAnd (tTest (tOp rEq (tVar 5) (tC (.int 2)))) (tTest (tOp (rI0 fun i j => .bl (decide (i > j))) (tVar 1) (tC (.int 1))))) σ H4 b :=
      fun h5 h1 e => et_is (et_and (et_int (ev_var h5) ev_c rfl) fun _ => et_test (ev_op (ev_var h1) ev_c (rv_I0 (g := fun i j => .bl (decide (i > j)))))) e
    by_cases hB : x = 2 ∧ 1 < p
    · obtain ⟨rfl, hp⟩ := hB
      have hk1' : 1 ≤ k' := by
        rcases Nat.eq_zero_or_pos k' with h | h
        · have := xk h; omega
        · exact h
      refine q_yes (tB rfl rfl (by simp; omega)) fun H4 e4 => ?_
      have S4 := S3.ex e4
      refine q_asgD (ed_int2 (g := fun i j => i + j) (ed_c (x := 1) (P := fun x => x = 1) rfl) (dro (m := (p : Int) - 1) rfl (fun _ _ => ev_sub (ev_var rfl) ev_c) (by omega) (by omega))) S4 (by omega) fun v H5 a5 d5 S5 ha5 hv => ?_
      obtain ⟨_, y, rfl, rfl, y0, yp⟩ := hv
      obtain ⟨yn, rfl⟩ := Int.eq_ofNat_of_zero_le y0
      refine etm_call (K := K) (p := 1 + yn) (k := k') (fun _ => ev_var rfl) (fun _ _ => ev_is (ev_var rfl) (by congr 1)) (fun _ _ => ev_is (ev_sub (ev_var rfl) ev_c) (by congr 1; omega)) (fun _ _ => ev_c) (by omega) (by omega) hk1' (by omega) (by omega) H5 a5 (Dr.refl _) S5 (by omega) _ fun r1 T1 H6 a6 d6 S6 ha6 hT1 hG1 hM1 => ?_
      refine etm_call (K := K) (p := p - (1 + yn)) (k := k') (fun _ => ev_var rfl) (fun _ _ => ev_is (ev_sub (ev_var rfl) (ev_var rfl)) (by congr 1; omega)) (fun _ _ => ev_is (ev_sub (ev_var rfl) ev_c) (by congr 1; omega)) (fun _ _ => ev_c) (by omega) (by omega) hk1' (by omega) (by omega) H6 a6 (Dr.refl _) S6 (by omega) _ fun r2 T2 H7 a7 d7 S7 ha7 hT2 hG2 hM2 => ⟨by show 3 ≤ sizeLine; decide, fun q hq => ?_⟩
      have eq := Ex.new (o := .tup [.str "joined", .ref r1, .ref r2]) hq
      have hT1' := TmAt.tk (Tk.of eq) (TmAt.tk (Tk.dr S6 d7) hT1)
      have hT2' := TmAt.tk (Tk.of eq) hT2
      have hdep : deepT (.joined T1 T2) < k' + 1 := by
        have := hG1.dp; have := hG2.dp
        show max (deepT T1) (deepT T2) + 1 < k' + 1
        omega
      have hWs : WT (.joined T1 T2) p := ⟨⟨hp1, hp5⟩, 1 + yn, p - (1 + yn), by omega, hG1.wt, hG2.wt, hM1.2, hM2.2⟩
      have hat : TmAt K (upd H7 q (.tup [.str "joined", .ref r1, .ref r2])) (.joined T1 T2) q := ⟨r1, r2, st_of upd_same, hT1', hT2'⟩
      have dch := (((((Dr.of e3).trans (Dr.of e4)).trans d5).trans d6).trans d7)
      refine ⟨_, rfl, _, rfl, _, rfl, q, rb, .joined T1 T2, p, rfl, hat, hWs, by omega, fun hm H8 e8 => ?_, fun _ H8 e8 => ?_⟩
      · refine kq q (.joined T1 T2) H8 a7 (dd2.trans (dch.trans (Dr.of (eq.trans e8)))) (S7.ex (eq.trans e8)) (by omega) (TmAt.tk (Tk.of e8) hat) ⟨hWs, hdep, fun r hr x hx => ?_⟩ hm
        obtain ⟨y, hy, h1⟩ := List.mem_flatMap.mp (famOf_mem hr)
        obtain ⟨z, hz, e⟩ := List.mem_map.mp h1
        cases e
        rcases List.mem_append.mp hx with hx | hx
        · have := hG1.lo y hy x hx; omega
        · have := hG2.lo z hz x hx; omega
      · exact baseQ H8 a7 (dch.trans (Dr.of (eq.trans e8))) (S7.ex (eq.trans e8)) (by omega)
    refine q_no (tB rfl rfl (by simp; omega)) fun H4 e4 => ?_
    have S4 := S3.ex e4
    have d4 := (Dr.of e3).trans (Dr.of e4) (st := st) (l := l)
    have tC' : ∀ {H5 : Hp} {σ : L2.St} {b : Bool}, σ[5]? = some (some (.int x)) → σ[1]? = some (some (.int (p : Int))) → (decide (x = 3 ∨ x = 4 ∨ x = 5) && decide ((p : Int) < 5)) = b → EvT (tAnd (tTest (tOp (rIn K false) (tVar 5) (tTup (tCons (tC (.int 3)) (tCons (tC (.int 4)) (tCons (tC (.int 5)) tNil)))))) (tTest (tOp (rI0 fun i j => .bl (decide (i < j))) (tVar 1) (tC (.int 5))))) σ H5 b :=
      fun h5 h1 e => et_is (et_and (et_is (et_test (ev_inU (ev_var h5) (eu_tup (ea_cons ev_c (ea_cons ev_c (ea_cons ev_c ea_nil))) (by simp)) rfl rfl)) in345) fun _ => et_test (ev_op (ev_var h1) ev_c (rv_I0 (g := fun i j => .bl (decide (i < j)))))) e
    by_cases hC : (x = 3 ∨ x = 4 ∨ x = 5) ∧ p < 5
    · obtain ⟨hx, hp⟩ := hC
      have hk1' : 1 ≤ k' := by
        rcases Nat.eq_zero_or_pos k' with h | h
        · have := xk h; omega
        · exact h
      refine q_yes (tC' rfl rfl (by rw [decide_eq_true hx, decide_eq_true (by omega : (p : Int) < 5)]; rfl)) fun H5 e5 => ?_
      have S5 := S4.ex e5
      refine etm_call (K := K) (p := p + 1) (k := k') (fun _ => ev_var rfl) (fun _ _ => ev_is (ev_add (ev_var rfl) ev_c) (by congr 1)) (fun _ _ => ev_is (ev_sub (ev_var rfl) ev_c) (by congr 1; omega)) (fun _ _ => ev_var rfl) (by omega) (by omega) hk1' (by omega) (by omega) H5 a2 (Dr.refl _) S5 (by omega) _ fun rp Tp H6 a6 d6 S6 ha6 hTp hGp hMp => ?_
      refine dro (m := (p : Int)) rfl (fun _ _ => ev_var rfl) (by omega) (by omega) H6 a6 (Dr.refl _) S6 (by omega) _ fun v H7 a7 d7 S7 ha7 hv => ?_
      obtain ⟨sp, rfl, s0, sp1⟩ := hv
      obtain ⟨i, rfl⟩ := Int.eq_ofNat_of_zero_le s0
      refine ⟨_, _, rfl, ?_⟩
      have hTp7 := TmAt.tk (Tk.dr S6 d7) hTp
      have hdp := hGp.dp
      refine q_asgD (ed_of (K := K) (fun _ => ev_var rfl) (fun _ => ev_var rfl) S7 hTp7 hGp.wt (by omega) hMp) S7 (by omega) fun v H8 a8 d8 S8 ha8 hv => ?_
      obtain ⟨pa, row, rfl, hrow, hrin⟩ := hv
      have hTp8 := TmAt.tk (Tk.dr S7 d8) hTp7
      have hrl : row.length = p + 1 := fam_row Tp hGp.wt row hrin
      have hi : i < row.length := by omega
      refine ⟨_, rfl, _, rfl, ?_⟩
      refine (ed_mono (n := 0 + 1) (m := 1) (P' := fun v _ => ∃ j : Nat, v = .int (j : Int) ∧ i < j ∧ j < p + 1) (ed_int2 (g := fun i j => i + j) (P1 := fun x => x = (i : Int) + 1) (ed_mono (n := 0) (m := 0) (ed_int2 (g := fun i j => i + j) (ed_v (i := 9) (x := (i : Int)) (P := fun x => x = (i : Int)) rfl rfl) (ed_c (x := 1) (P := fun x => x = 1) rfl)) (Nat.le_refl _) fun v _ ⟨x, y, e, h1, h2⟩ => ⟨x + y, e, by omega⟩) (dro (m := (p : Int) - (i : Int)) rfl (fun _ _ => ev_sub (ev_var rfl) (ev_var rfl)) (by omega) (by omega))) (Nat.le_refl _) fun v _ ⟨x, y, e, h1, h2, h3⟩ => ⟨(x + y).toNat, by rw [e]; congr 1; omega, by omega, by omega⟩) H8 a8 (Dr.refl _) S8 (by omega) _ fun v H9 a9 d9 S9 ha9 hv => ⟨by show 4 ≤ sizeLine; decide, fun q1 hq1 => ⟨_, rfl, _, rfl, by show 3 ≤ sizeLine; decide, fun q2 hq2 => ⟨by show 2 ≤ sizeLine; decide, fun q3 hq3 => ?_⟩⟩⟩
      obtain ⟨j, rfl, hij, hjp⟩ := hv
      have eq1 := Ex.new (o := .tup [.str "added", .ref rp, .int (i : Int), .int (j : Int)]) hq1
      have eq2 := Ex.new (o := .tup [.str "left", .ref rp, .int (i : Int)]) hq2
      have eq3 := Ex.new (o := .lst [.ref q1, .ref q2]) hq3
      have e93 := (eq1.trans eq2).trans eq3
      have hrow9 := Tk.dr S8 d9 _ _ hrow
      have hTp9 := TmAt.tk (Tk.dr S8 d9) hTp8
      have h1q : upd (upd (upd H9 q1 (.tup [.str "added", .ref rp, .int (i : Int), .int (j : Int)])) q2 (.tup [.str "left", .ref rp, .int (i : Int)])) q3 (.lst [.ref q1, .ref q2]) q1 = some (.tup [.str "added", .ref rp, .int (i : Int), .int (j : Int)]) := eq3 _ _ (eq2 _ _ upd_same)
      have h2q : upd (upd (upd H9 q1 (.tup [.str "added", .ref rp, .int (i : Int), .int (j : Int)])) q2 (.tup [.str "left", .ref rp, .int (i : Int)])) q3 (.lst [.ref q1, .ref q2]) q2 = some (.tup [.str "left", .ref rp, .int (i : Int)]) := eq3 _ _ upd_same
      have h3q : upd (upd (upd H9 q1 (.tup [.str "added", .ref rp, .int (i : Int), .int (j : Int)])) q2 (.tup [.str "left", .ref rp, .int (i : Int)])) q3 (.lst [.ref q1, .ref q2]) q3 = some (.lst [.ref q1, .ref q2]) := upd_same
      refine ⟨_, rfl, _, rfl, _, rfl, ?_⟩
      refine ev_ixT (K := K) (H := upd (upd (upd H9 q1 (.tup [.str "added", .ref rp, .int (i : Int), .int (j : Int)])) q2 (.tup [.str "left", .ref rp, .int (i : Int)])) q3 (.lst [.ref q1, .ref q2])) (ev_var (i := 10) rfl) (ev_var (i := 9) rfl) (ex_t e93 hrow9) (row_get hi) _ (Ex.refl _) _ fun H10 e10 => ⟨by show 4 ≤ sizeLine; decide, fun q4 hq4 => ⟨by show 1 ≤ sizeLine; decide, fun q5 hq5 => ?_⟩⟩
      have eq4 := Ex.new (o := .tup [.str "slice", .ref rp, .int (i : Int), .int (row[i]?.getD 0)]) hq4
      have eq5 := Ex.new (o := .lst [.ref q4]) hq5
      have e35 := (e10.trans eq4).trans eq5
      refine ⟨q3, q5, _, _, rfl, rfl, e35 _ _ h3q, upd_same, by show 3 ≤ sizeLine; decide, fun q6 hq6 => ?_⟩
      have eq6 := Ex.new (o := .lst ([.ref q1, .ref q2] ++ [.ref q4])) hq6
      have hq4' := eq6 _ _ (eq5 _ _ (upd_same (H := H10) (a := q4) (o := .tup [.str "slice", .ref rp, .int (i : Int), .int (row[i]?.getD 0)])))
      have e36 := e35.trans eq6
      have h1' := e36 _ _ h1q
      have h2' := e36 _ _ h2q
      generalize hHf : upd _ q6 (.lst ([.ref q1, .ref q2] ++ [.ref q4])) = Hf at *
      have eall := e93.trans e36
      have hTf := TmAt.tk (Tk.of eall) hTp9
      have Sf := S9.ex eall
      have df := (((((d4.trans (Dr.of e5)).trans d6).trans d7).trans d8).trans d9).trans (Dr.of eall)
      have h6 : Hf q6 = some (.lst [.ref q1, .ref q2, .ref q4]) := by rw [← hHf, upd_same]; rfl
      have hLo : ∀ r ∈ fam Tp, ∀ x ∈ r, -BT k' ≤ x ∧ x ≤ BT k' := hGp.lo
      have hcost : a9 ≤ a + (2 * CT k' + 40) := by omega
      obtain ⟨r0, hr0⟩ := mid_any hMp
      rcases hx with rfl | rfl | rfl
      · refine ⟨_, rfl, _, _, rfl, rfl, q6, _, _, _, rfl, rfl, sq_of h6, atI_nat (j := 0) rfl, kq q1 (.added Tp i j) Hf a9 (dd2.trans df) Sf hcost ⟨rp, st_of h1', hTf⟩ ⟨⟨⟨hp1, hp5⟩, hGp.wt, hMp.2, by omega, by omega⟩, Nat.succ_lt_succ hdp, ?_⟩ (mid_un hMp hr0 rfl)⟩
        refine lo_un (B := BT k') hLo fun r hr y e x hx => ?_
        cases e
        have hx2 := cut_mem hx
        have hg1 := get_in (i := i) (hLo r hr) (by omega)
        have hg2 := get_in (i := j) (hLo r hr) (by omega)
        unfold addR at hx2
        rcases List.mem_append.mp hx2 with hx3 | hx3
        · rcases List.mem_append.mp hx3 with hx4 | hx4
          · have := hLo r hr x (List.mem_of_mem_take hx4); omega
          · rw [List.mem_singleton.mp hx4]; omega
        · have := hLo r hr x (List.mem_of_mem_drop hx3); omega
      · refine ⟨_, rfl, _, _, rfl, rfl, q6, _, _, _, rfl, rfl, sq_of h6, atI_nat (j := 1) rfl, kq q2 (.left Tp i) Hf a9 (dd2.trans df) Sf hcost ⟨rp, st_of h2', hTf⟩ ⟨⟨⟨hp1, hp5⟩, hGp.wt, hMp.2, by omega⟩, Nat.succ_lt_succ hdp, ?_⟩ (mid_un hMp hr0 rfl)⟩
        refine lo_un (B := BT k') hLo fun r hr y e x hx => ?_
        cases e
        have := hLo r hr x (cut_mem hx); omega
      · refine ⟨_, rfl, _, _, rfl, rfl, q6, _, _, _, rfl, rfl, sq_of h6, atI_nat (j := 2) rfl, kq q4 (.slice Tp i (row[i]?.getD 0)) Hf a9 (dd2.trans df) Sf hcost ⟨rp, st_of hq4', hTf⟩ ⟨⟨⟨hp1, hp5⟩, hGp.wt, hMp.2, by omega⟩, Nat.succ_lt_succ hdp, ?_⟩ (mid_un (y := cutR row i) hMp hrin (by simp))⟩
        refine lo_un (B := BT k') hLo fun r hr y e x hx => ?_
        split at e
        · cases e
          have := hLo r hr x (cut_mem hx); omega
        · cases e
    refine q_no (tC' rfl rfl (by
      rw [Bool.and_eq_false_iff, decide_eq_false_iff_not, decide_eq_false_iff_not]
      by_cases h : x = 3 ∨ x = 4 ∨ x = 5
      · exact .inr fun hp => hC ⟨h, by omega⟩
      · exact .inl h)) fun H5 e5 => ?_
    have S5 := S4.ex e5
    have d5 := d4.trans (Dr.of e5)
    have tlt : ∀ {H6 : Hp} {σ : L2.St} {b : Bool}, σ[5]? = some (some (.int x)) → decide (x < 9) = b → EvT (tTest (tOp (rI0 fun i j => .bl (decide (i < j))) (tVar 5) (tC (.int 9)))) σ H6 b := fun hσ e => et_is (et_test (ev_op (ev_var hσ) ev_c (rv_I0 (g := fun i j => .bl (decide (i < j)))))) e
    by_cases hx9 : x = 9
    · subst hx9
      refine q_asg (v := .ref rb) (ev_if (b := false) (tlt rfl (by decide)) (fun z => by cases z) fun _ => ev_var rfl) fun H6 e6 => ?_
      have S6 := S5.ex e6
      have hTb6 := TmAt.tk (Tk.of e6) (TmAt.tk (Tk.dr S2 d5) hTb2)
      refine q_asgD (ed_of (K := K) (fun _ => ev_var rfl) (fun _ => ev_var rfl) S6 hTb6 hGb.wt (Nat.lt_trans hGb.dp (by decide)) hMb) S6 (by omega) fun v H7 a7 d7 S7 ha7 hv => ?_
      obtain ⟨pa, row, rfl, hrow, hrin⟩ := hv
      refine q_no (et_int (ev_var rfl) ev_c (by decide)) fun H8 e8 => q_no (et_int (ev_var rfl) ev_c (by decide)) fun H9 e9 => q_no (et_int (ev_var rfl) ev_c (by decide)) fun H10 e10 => ⟨_, rfl, ?_⟩
      have ee := (e8.trans e9).trans e10
      exact baseQ H10 a7 (((d5.trans (Dr.of e6)).trans d7).trans (Dr.of ee)) (S7.ex ee) (by omega)
    have hk1' : 1 ≤ k' := by
      rcases Nat.eq_zero_or_pos k' with h | h
      · exact absurd (xk h) hx9
      · exact h
    refine q_asgTm (K := K) (n := CT k') (p := p) (k := k') (B := BT k') (etm_if (b := true) (fun _ _ => tlt rfl (decide_eq_true (by omega))) (fun _ => etm_call (fun _ => ev_var rfl) (fun _ _ => ev_var rfl) (fun _ _ => ev_is (ev_sub (ev_var rfl) ev_c) (by congr 1; omega)) (fun _ _ => ev_var rfl) hp1 hp5 hk1' (by omega) (by omega)) (fun z => by cases z)) S5 (by omega) fun rp Tp H6 a6 d6 S6 ha6 hTp hGp hMp => ?_
    have hdp := hGp.dp
    refine q_asgD (ed_of (K := K) (fun _ => ev_var rfl) (fun _ => ev_var rfl) S6 hTp hGp.wt (by omega) hMp) S6 (by omega) fun v H7 a7 d7 S7 ha7 hv => ?_
    obtain ⟨pa, row, rfl, hrow, hrin⟩ := hv
    have hTp7 := TmAt.tk (Tk.dr S6 d7) hTp
    have hrl : row.length = p := fam_row Tp hGp.wt row hrin
    have dd7 := ((dd2.trans d5).trans d6).trans d7
    obtain ⟨r0, hr0⟩ := mid_any hMp
    by_cases h6 : x = 6
    · subst h6
      refine q_yes (et_int (ev_var rfl) ev_c (by decide)) fun H8 e8 => ⟨_, rfl, ?_⟩
      refine edt_rng (K := K) (H := H8) (p := p) (m := 1) (Px := fun x => -1 ≤ x ∧ x ≤ 1) (fun H3 _ => ea_cons (ev_var rfl) ea_nil) (by omega) (fun _ => rfl) (fun i H3 d3 => ed_mono (ed_int2 (g := fun i j => i - j) (dro (m := 3) rfl (fun _ _ => ev_c) (by decide) (by decide)) (ed_c (x := 1) (P := fun x => x = 1) rfl)) (Nat.le_refl _) fun v _ ⟨x, y, e, ⟨h1, h2⟩, h3⟩ => ⟨x - y, e, by omega, by omega⟩) H8 a7 (Dr.refl _) (S7.ex e8) (by omega) _ fun q1 ys H9 a9 d9 S9 ha9 hs9 hP9 => ⟨by show 3 ≤ sizeLine; decide, fun q hq => ?_⟩
      obtain ⟨hl9, hall⟩ := hP9
      have eq := Ex.new (o := .tup [.str "moved", .ref rp, .ref q1]) hq
      refine kq q (.moved Tp ys) _ a9 (((dd7.trans (Dr.of e8)).trans d9).trans (Dr.of eq)) (S9.ex eq) (by omega) ⟨rp, q1, st_of upd_same, TmAt.tk (Tk.of eq) (TmAt.tk (Tk.dr (S7.ex e8) d9) (TmAt.tk (Tk.of e8) hTp7)), ex_t eq hs9⟩ ⟨⟨⟨hp1, hp5⟩, hGp.wt, hMp.2, hl9⟩, Nat.succ_lt_succ hdp, ?_⟩ (mid_un hMp hr0 rfl)
      refine lo_un (B := BT k') hGp.lo fun r hr y e x hx => ?_
      cases e
      have := sumF_in (hGp.lo r hr) (C := 1) hall x hx
      omega
    refine q_no (et_int (ev_var rfl) ev_c (decide_eq_false h6)) fun H8 e8 => ?_
    by_cases h7 : x = 7
    · subst h7
      refine q_yes (et_int (ev_var rfl) ev_c (by decide)) fun H9 e9 => ⟨_, rfl, ?_⟩
      refine dro (m := (p : Int)) rfl (fun _ _ => ev_var rfl) (by omega) (by omega) H9 a7 (Dr.refl _) ((S7.ex e8).ex e9) (by omega) _ fun v H10 a10 d10 S10 ha10 hv => ?_
      obtain ⟨y, rfl, y0, y1⟩ := hv
      obtain ⟨i, rfl⟩ := Int.eq_ofNat_of_zero_le y0
      refine ⟨by show 3 ≤ sizeLine; decide, fun q hq => ?_⟩
      have eq := Ex.new (o := .tup [.str "turned", .ref rp, .int (i : Int)]) hq
      refine kq q (.turned Tp i) _ a10 ((((dd7.trans (Dr.of e8)).trans (Dr.of e9)).trans d10).trans (Dr.of eq)) (S10.ex eq) (by omega) ⟨rp, st_of upd_same, TmAt.tk (Tk.of eq) (TmAt.tk (Tk.dr ((S7.ex e8).ex e9) d10) (TmAt.tk (Tk.of (e8.trans e9)) hTp7))⟩ ⟨⟨⟨hp1, hp5⟩, hGp.wt, hMp.2, by omega⟩, Nat.succ_lt_succ hdp, ?_⟩ (mid_un hMp hr0 rfl)
      refine lo_un (B := BT k') hGp.lo fun r hr y e x hx => ?_
      cases e
      have hg := get_in (i := i) (hGp.lo r hr) (by omega)
      rcases List.mem_append.mp hx with hx3 | hx3
      · rcases List.mem_append.mp hx3 with hx4 | hx4
        · have := hGp.lo r hr x (List.mem_of_mem_take hx4); omega
        · rw [List.mem_singleton.mp hx4]; omega
      · have := hGp.lo r hr x (List.mem_of_mem_drop hx3); omega
    refine q_no (et_int (ev_var rfl) ev_c (decide_eq_false h7)) fun H9 e9 => ?_
    have S9 := (S7.ex e8).ex e9
    have hrow9 := ex_t (e8.trans e9) hrow
    have hTp9 := TmAt.tk (Tk.of (e8.trans e9)) hTp7
    have dd9 := (dd7.trans (Dr.of e8)).trans (Dr.of e9)
    by_cases h8 : x = 8
    · subst h8
      refine q_yes (et_int (ev_var rfl) ev_c (by decide)) fun H10 e10 => ?_
      refine q_asgDT (K := K) (n := row.length * 1) (P := fun xs => xs.length = row.length ∧ ∀ (i : Nat) (y x : Int), row[i]? = some y → xs[i]? = some x → x ≤ y ∧ y - 1 ≤ x) (edt_tup (r := pa) (ys := row) (m := 1) (Px := fun y x => x ≤ y ∧ y - 1 ≤ x) (fun H4 _ => ev_var rfl) (fun H4 d4 => Tk.dr (S9.ex e10) d4 _ _ (ex_t e10 hrow9)) (by omega) (fun _ => rfl) fun y H4 d4 => ed_mono (ed_int2 (g := fun i j => i - j) (P1 := fun x => x = y) (ed_v (i := 14) (x := y) rfl rfl) (dro (m := 2) rfl (fun _ _ => ev_c) (by decide) (by decide))) (Nat.le_refl _) fun v _ ⟨x, z, e, h1, h2, h3⟩ => ⟨x - z, e, by omega, by omega⟩) (S9.ex e10) (by omega) fun q1 lo H11 a11 d11 S11 ha11 hs11 hP11 => ?_
      obtain ⟨hl11, hall11⟩ := hP11
      have hrow11 := Tk.dr (S9.ex e10) d11 _ _ (ex_t e10 hrow9)
      have hTp11 := TmAt.tk (Tk.dr (S9.ex e10) d11) (TmAt.tk (Tk.of e10) hTp9)
      refine ⟨_, rfl, _, rfl, ?_⟩
      refine edt_tup (K := K) (H := H11) (r := pa) (ys := row) (m := 1) (Px := fun y x => y ≤ x) (fun H4 _ => ev_var rfl) (fun H4 d4 => Tk.dr S11 d4 _ _ hrow11) (by omega) (fun _ => rfl) (fun y H4 d4 => ed_mono (ed_int2 (g := fun i j => i + j) (P1 := fun x => x = y) (ed_v (i := 14) (x := y) rfl rfl) (dro (m := 3) rfl (fun _ _ => ev_c) (by decide) (by decide))) (Nat.le_refl _) fun v _ ⟨x, z, e, h1, h2, h3⟩ => ⟨x + z, e, by omega⟩) H11 a11 (Dr.refl _) S11 (by omega) _ fun q2 hi H12 a12 d12 S12 ha12 hs12 hP12 => ⟨by show 4 ≤ sizeLine; decide, fun q hq => ?_⟩
      obtain ⟨hl12, hall12⟩ := hP12
      have eq := Ex.new (o := .tup [.str "between", .ref rp, .ref q1, .ref q2]) hq
      have hib : inBox row lo hi = true := inBox_of (fun i y x hy hx => (hall11 i y x hy hx).1) fun i y x hy hx => hall12 i y x hy hx
      refine kq q (.between Tp lo hi) _ a12 ((((dd9.trans (Dr.of e10)).trans d11).trans d12).trans (Dr.of eq)) (S12.ex eq) (by omega) ⟨rp, q1, q2, st_of upd_same, TmAt.tk (Tk.of eq) (TmAt.tk (Tk.dr S11 d12) hTp11), ex_t eq (Tk.dr S11 d12 _ _ hs11), ex_t eq hs12⟩ ⟨⟨⟨hp1, hp5⟩, hGp.wt, hMp.2, by omega, by omega⟩, Nat.succ_lt_succ hdp, ?_⟩ (mid_un (y := row) hMp hrin (by simp [hib]))
      refine lo_un (B := BT k') hGp.lo fun r hr y e x hx => ?_
      split at e
      · cases e
        have := hGp.lo r hr x hx; omega
      · cases e
    refine q_no (et_int (ev_var rfl) ev_c (decide_eq_false h8)) fun H10 e10 => ⟨_, rfl, ?_⟩
    exact kq rp Tp H10 a7 (dd9.trans (Dr.of e10)) (S9.ex e10) (by omega) (TmAt.tk (Tk.of e10) hTp9) (hGp.mono (Nat.le_succ _) (by omega)) hMp
theorem ok_term (M : Ma K mg) : ∀ n, Dn P w K mg base "_law_term" (10 + n) ["_law_state", "_law_places", "_law_deep", "_law_most"] (spTerm K n)
  | 0 => term_zero M
  | n + 1 => term_succ M n (ok_term M n)
end
end SL
end
section
set_option Elab.async false
set_option linter.all false
set_option maxRecDepth 100000
set_option maxHeartbeats 4000000
/-! _law_lots. -/
namespace SL
open PySem PySem.Spec PyProof.Rows L2 Evl
structure GoodL (rows : List (List Int)) (p : Nat) : Prop where
  len : 1 ≤ rows.length ∧ rows.length ≤ 21
  row : ∀ r ∈ rows, r.length = p
  lo : Lo 49 rows
  asd : Asd rows
def spLots (K : PySem.W.Frag) : Sp := fun vs H Q _ => ∃ (st c l : Addr) (a p : Nat), vs = [.ref st, .int (p : Int), .int 20] ∧ StAt H st c l a ∧ a + 300 ≤ 100000 ∧ 1 ≤ p ∧ p ≤ 5 ∧
  ∀ b ps H' a', Dr st l H H' → StAt H' st c l a' → a' ≤ a + 300 → H b = none → H' b = some (.lst (rv ps)) → RowsAt K H' ps → GoodL (rw' ps) p → Q (.ref b) H'
theorem asd_cut {rows : List (List Int)} {i : Nat} (h : Asd rows) : Asd (rows.take i ++ rows.drop (i + 1)) := by
  have hs : (rows.take i ++ rows.drop (i + 1)).Sublist rows := by
    rw [← List.eraseIdx_eq_take_drop_succ]
    exact List.eraseIdx_sublist ..
  exact List.Pairwise.sublist hs h
theorem asd_nodup {rows : List (List Int)} (h : Asd rows) : rows.Nodup := List.Pairwise.imp (fun {a b} hab e => by
  subst e
  have : leT a a = true := by rcases leT_total a a with h | h <;> exact h
  rw [this] at hab
  cases hab) h
section
variable {K : PySem.W.Frag} {σ : L2.St} {H : Hp} {ta tb te tc : TE}
theorem rv_cut (ps : List (Addr × List Int)) (i : Nat) : rv (ps.take i ++ ps.drop (i + 1)) = (rv ps).take i ++ (rv ps).drop (i + 1) := by
  unfold rv
  rw [List.map_append, List.map_take, List.map_drop]
theorem rw_cut (ps : List (Addr × List Int)) (i : Nat) : rw' (ps.take i ++ ps.drop (i + 1)) = (rw' ps).take i ++ (rw' ps).drop (i + 1) := by
  unfold rw'
  rw [List.map_append, List.map_take, List.map_drop]
end
section
variable {P : Program} {w : World} {K : PySem.W.Frag} {mg : Str → Option Value} {base : Heap}
theorem ok_lots (M : Ma K mg) : Dn P w K mg base "_law_lots" 14 ["_law_state", "_law_places", "_law_most"] (spLots K) := by
  obtain ⟨fd, F⟩ := M.d_LawLots
  refine Dn.of F M.g__law_lots (fun _ _ _ _ _ _ us hl => match us, hl with | [_, _, _], _ => rfl) (F.ok scLawLots (fun vs H Q E h => ?_) (fun cdv A outer s H vs Q E hr h => ?_))
  · obtain ⟨st, c, l, a, p, rfl, _⟩ := h
    rfl
  · obtain ⟨st, c, l, a, p, rfl, S, ha, hp1, hp5, k⟩ := h
    have r13 : Room 13 _ := hr
    have r8 := r13.mono (show 8 ≤ 13 by decide)
    have r2 := r13.mono (show 2 ≤ 13 by decide)
    refine ⟨_, (pss_cons (ps_set (i := 3) scLawLots.nd rfl (.inl rfl) (pe_dn (ok_family M 5) r8 passL (pa_cons (pe_dn (ok_term M 3) r13 passL (pa_cons (pv 0) (pa_cons (pv 1) (pa_cons pe_int (pa_cons (pv 2) pa_nil))))) pa_nil))) <|
      pss_cons (ps_par (i := 4) (j := 5) rfl scLawLots.nd rfl rfl (by decide) rfl rfl (pa_cons (pe_dn (ok_draw M) r2 passL (pa_cons (pv 0) (pa_cons pe_int pa_nil))) (pa_cons (pe_dn (ok_draw M) r2 passL (pa_cons (pv 0) (pa_cons (pe_callB call_len_seq (by rfl) M.n_len PySem.boot_len (pa_cons (pv 3) pa_nil)) pa_nil))) pa_nil)) (by rfl)) <|
      pss_cons (ps_if (PW.pt (pw_and (pt_cmpR op_eq (pv 4) pe_int (nomark _)) (pw_and1 (pt_cmpR op_gt (pe_callB call_len_seq (by rfl) M.n_len PySem.boot_len (pa_cons (pv 3) pa_nil)) pe_int (nomark _)))))
        (pss_one (ps_ret (pe_op op_cat (pe_slice sl_list (pv 3) po_none (po_some (pv 5))) (pe_slice sl_list (pv 3) (po_some (pe_op op_add (pv 5) pe_int)) po_none)))) pss_nil) <|
      pss_cons (ps_if (pt_cmpR op_eq (pv 4) pe_int (nomark _))
        (pss_cons (ps_set (i := 6) scLawLots.nd rfl (.inl rfl) (pe_callTy call_tuple_of (by rfl) M.n_tuple (by decide +kernel) (pa_cons (pe_lc (own := [("_law_number_here", 7)]) (g := gName 7) (tt := tYes) rfl scLawLots.nd (pi_tup (pe_ix ix_list (pv 3) (pv 5) (fun _ _ => rfl)))
            (blkOk_by (N := ["_law_state", "_law_places", "_law_most", "_law_lots_here", "_law_choice", "_law_spot", "_law_more", "_law_number_here"]) (sc := defScope sLawLots) (by decide +kernel))
            (fun _ _ _ _ _ => pg_name (i := 7) scLawLots.nd rfl (Or.inl rfl)) (fun _ _ _ _ _ => pts_nil)
            (fun _ _ _ _ _ => pe_op op_sub (pe_op op_add (pv 7) (pe_dn (ok_draw M) r2 passL (pa_cons (pv 0) (pa_cons pe_int pa_nil)))) pe_int)) pa_nil))) <|
         pss_one (ps_ret (pe_callB (cr_sortedR hr.units) (by rfl) M.n_sorted (by decide +kernel) (pa_cons (pe_op op_cat (pv 3) (pe_op op_rep (pe_lst (pa_cons (pv 6) pa_nil)) (pe_callTy call_int1 (by rfl) M.n_int (by decide +kernel) (pa_cons (pe_cmpR (op_notInD hr.units1) (pv 6) (pv 3) (by rfl)) pa_nil)))) pa_nil)))) pss_nil) <|
      pss_one (ps_ret (pv 3))), ?_⟩
    have dro : ∀ {σ : L2.St} {H1 : Hp} {m : Int} {te : TE}, σ[0]? = some (some (.ref st)) → (∀ H2, Dr st l H1 H2 → Ev te σ H2 (.int m)) → 1 ≤ m → m ≤ 100000 → EvD st c l (tCall spDraw [] E0 (tCons (tVar 0) (tCons te tNil))) σ H1 1 (fun v _ => ∃ x, v = .int x ∧ 0 ≤ x ∧ x < m) := fun hσ hm h1 h2 => ed_draw (fun _ => ev_var hσ) hm h1 h2
    have c3 : CT 3 = 280 := by decide
    have b3 : BT 3 = 47 := by decide
    refine etm_call (K := K) (H := H) (p := p) (k := 3) (fun _ => ev_var rfl) (fun _ _ => ev_var rfl) (fun _ _ => ev_c) (fun _ _ => ev_var rfl) hp1 hp5 (by decide) (by decide) (by decide) H a (Dr.refl _) S (by omega) _ fun rt T H1 a1 d1 S1 ha1 hT hG hM => ⟨rt, T, p, rfl, hT, hG.wt, Nat.lt_trans hG.dp (by decide), fun l0 ps H2 nl e2 hl hrr hw => ?_⟩
    rw [b3] at hG
    have S2 := S1.ex e2
    have n0 := S1.new nl
    have d2 := d1.trans (Dr.of e2)
    have hlen : ps.length = (fam T).length := by rw [← hw, rw_len]
    have hM1 := hM.1
    have hM2 := hM.2
    have hlb : ∀ {H3 : Hp}, Dr st l H2 H3 → H3 l0 = some (.lst (rv ps)) := fun d => d _ _ n0.1 n0.2.1 hl
    have hrow : ∀ r ∈ rw' ps, r.length = p := fun r hr => fam_row T hG.wt r (by rw [← hw]; exact hr)
    have hlo : Lo 47 (rw' ps) := by rw [hw]; exact hG.lo
    have hasd : Asd (rw' ps) := by rw [hw]; exact fam_asd T hG.wt
    refine dro (H1 := H2) (m := 4) rfl (fun _ _ => ev_c) (by decide) (by decide) H2 a1 (Dr.refl _) S2 (by omega) _ fun v H3 a3 d3 S3 ha3 hv => ?_
    obtain ⟨x, rfl, x0, x4⟩ := hv
    refine dro (H1 := H3) (m := ((rv ps).length : Int)) rfl (fun H4 d4 => ev_len (ev_var rfl) (sq_of (hlb (d3.trans d4)))) (by rw [rv_len]; omega) (by rw [rv_len]; omega) H3 a3 (Dr.refl _) S3 (by omega) _ fun v H4 a4 d4 S4 ha4 hv => ?_
    obtain ⟨y, rfl, y0, y1⟩ := hv
    obtain ⟨i, rfl⟩ := Int.eq_ofNat_of_zero_le y0
    rw [rv_len] at y1
    have hi : i < ps.length := by omega
    refine ⟨_, _, rfl, ?_⟩
    have d24 := d3.trans d4
    have hl4 := hlb d24
    have hr4 := (hrr.tk (Tk.dr S2 d3)).tk (Tk.dr S3 d4)
    have back : ∀ {b : Addr} {H5 : Hp} {a5 : Nat}, Dr st l H H5 → StAt H5 st c l a5 → H5 b = none → H b = none := fun d S h => Dr.back S d h
    have dH4 := d2.trans d24
    have tA : ∀ {bb : Bool}, (decide (x = 0) && decide (((rv ps).length : Int) > 1)) = bb → EvT (tAnd (tTest (tOp rEq (tVar 4) (tC (.int 0)))) (tTest (tOp (rI0 fun i j => .bl (decide (i > j))) (tCB (rLenS K) (tCons (tVar 3) tNil)) (tC (.int 1))))) [some (.ref st), some (.int (p : Int)), some (.int 20), some (.ref l0), some (.int x), some (.int (i : Int)), none, none] H4 bb :=
      fun e => et_is (et_and (et_int (ev_var rfl) ev_c rfl) fun _ => et_test (ev_op (ev_len (ev_var rfl) (sq_of hl4)) ev_c (rv_I0 (g := fun i j => .bl (decide (i > j)))))) e
    by_cases hA : x = 0 ∧ 1 < ps.length
    · obtain ⟨rfl, h1⟩ := hA
      refine q_yes (tA (by rw [rv_len, decide_eq_true (by omega : (ps.length : Int) > 1)]; rfl)) fun H5 e5 => ?_
      have hl5 := e5 _ _ hl4
      have hr5 := hr4.ex e5
      refine el_sl (K := K) (H := H5) (ev_var (i := 3) (v := .ref l0) rfl) eo_none (eo_some (ev_var (i := 5) (v := .int (i : Int)) rfl)) (sq_of hl5) H5 (Ex.refl _) _ fun q1 H6 n6 e6 h6 => el_sl (K := K) (H := H6) (ev_var (i := 3) (v := .ref l0) rfl) (eo_some (ev_add (ev_var (i := 5) (v := .int (i : Int)) rfl) ev_c)) eo_none (sq_of (e6 _ _ hl5)) H6 (Ex.refl _) _ fun q2 H7 n7 e7 h7 => ?_
      rw [cutV_to _ (by rw [rv_len]; omega)] at h6
      rw [cutV_from (i := i + 1) _ (by omega) (by rw [rv_len]; omega)] at h7
      refine ⟨q1, q2, _, _, rfl, rfl, e7 _ _ h6, h7, sz_of (by rw [List.length_take, List.length_drop, rv_len]; omega), fun q hq => ?_⟩
      have e8 := Ex.new (o := .lst ((rv ps).take i ++ (rv ps).drop (i + 1))) hq
      have e57 := (e6.trans e7).trans e8
      have S7 := S4.ex (e5.trans (e6.trans e7))
      refine k q (ps.take i ++ ps.drop (i + 1)) _ a4 (dH4.trans (Dr.of (e5.trans e57))) (S4.ex (e5.trans e57)) (by omega) (back (dH4.trans (Dr.of (e5.trans (e6.trans e7)))) S7 hq) ?_ ?_ ?_
      · rw [upd_same, rv_cut]
      · refine fun pr hpr => ex_t e57 (hr5 pr ?_)
        rcases List.mem_append.mp hpr with h | h
        · exact List.mem_of_mem_take h
        · exact List.mem_of_mem_drop h
      · have sub : ∀ r ∈ rw' (ps.take i ++ ps.drop (i + 1)), r ∈ rw' ps := fun r hr => by
          rw [rw_cut] at hr
          rcases List.mem_append.mp hr with h | h
          · exact List.mem_of_mem_take h
          · exact List.mem_of_mem_drop h
        refine ⟨?_, fun r hr => hrow r (sub r hr), fun r hr x hx => by have := hlo r (sub r hr) x hx; omega, by rw [rw_cut]; exact asd_cut hasd⟩
        rw [rw_len, List.length_append, List.length_take, List.length_drop]
        omega
    refine q_no (tA (by
      rw [rv_len, Bool.and_eq_false_iff, decide_eq_false_iff_not, decide_eq_false_iff_not]
      by_cases h : x = 0
      · exact .inr fun hp => hA ⟨h, by omega⟩
      · exact .inl h)) fun H5 e5 => ?_
    have S5 := S4.ex e5
    have hl5 := e5 _ _ hl4
    have hr5 := hr4.ex e5
    have dH5 := dH4.trans (Dr.of e5)
    by_cases hx1 : x = 1
    · subst hx1
      refine q_yes (et_int (ev_var rfl) ev_c (by decide)) fun H6 e6 => ?_
      have S6 := S5.ex e6
      have hr6 := hr5.ex e6
      have hl6 := e6 _ _ hl5
      obtain ⟨pr, hpr⟩ : ∃ pr, ps[i]? = some pr := ⟨_, List.getElem?_eq_getElem hi⟩
      have hprm := List.mem_of_getElem? hpr
      have hprl : pr.2.length = p := hrow pr.2 (List.mem_map_of_mem hprm)
      have hrvi : (rv ps)[i]? = some (.ref pr.1) := by unfold rv; rw [List.getElem?_map, hpr]; rfl
      refine q_asgDT (K := K) (n := pr.2.length * 1) (P := fun xs => xs.length = pr.2.length ∧ ∀ (i : Nat) (y x : Int), pr.2[i]? = some y → xs[i]? = some x → y - 2 ≤ x ∧ x ≤ y + 2) (edt_tup (r := pr.1) (ys := pr.2) (m := 1) (Px := fun y x => y - 2 ≤ x ∧ x ≤ y + 2) (fun H7 d7 => ev_ixL (K := K) (ev_var rfl) (ev_var rfl) (sq_of (d7 _ _ n0.1 n0.2.1 hl6)) hrvi) (fun H7 d7 => Tk.dr S6 d7 _ _ (hr6 pr hprm)) (by omega) (fun _ => rfl)
        fun y H7 d7 => ed_mono (ed_int2 (g := fun i j => i - j) (P1 := fun x => y ≤ x ∧ x ≤ y + 4) (ed_mono (n := 0 + 1) (m := 1) (ed_int2 (g := fun i j => i + j) (P1 := fun x => x = y) (ed_v (i := 7) (x := y) rfl rfl) (dro (m := 5) rfl (fun _ _ => ev_c) (by decide) (by decide))) (Nat.le_refl _) fun v _ ⟨x, z, e, h1, h2, h3⟩ => ⟨x + z, e, by omega, by omega⟩) (ed_c (x := 2) (P := fun x => x = 2) rfl)) (Nat.le_refl _) fun v _ ⟨x, z, e, ⟨h1, h2⟩, h3⟩ => ⟨x - z, e, by omega, by omega⟩) S6 (by omega) fun pm more H7 a7 d7 S7 ha7 hs7 hP7 => ?_
      obtain ⟨hl7, hall7⟩ := hP7
      have hl7' := d7 _ _ n0.1 n0.2.1 hl6
      have hr7 := hr6.tk (Tk.dr S6 d7)
      have dH7 := (dH5.trans (Dr.of e6)).trans d7
      have hmore : ∀ r ∈ addN (rw' ps) more, r.length = p ∧ ∀ x ∈ r, -49 ≤ x ∧ x ≤ 49 := fun r hr => by
        rcases addN_mem hr with h | rfl
        · exact ⟨hrow r h, fun x hx => by have := hlo r h x hx; omega⟩
        · refine ⟨by omega, fun x hx => ?_⟩
          obtain ⟨j, hj⟩ := List.getElem?_of_mem hx
          have hjl : j < r.length := (List.getElem?_eq_some_iff.mp hj).1
          have hy : pr.2[j]? = some (pr.2[j]'(by omega)) := List.getElem?_eq_getElem (by omega)
          have h1 := hall7 j _ x hy hj
          have h2 := hlo pr.2 (List.mem_map_of_mem hprm) _ (List.getElem_mem (by omega : j < pr.2.length))
          omega
      refine s_retR (K := K) (er_sorted (er_addN (ev_var rfl) (evt_ev (ev_var rfl) hs7) (evt_ev (ev_var rfl) hs7) (ev_var rfl) hl7' hr7 (by omega)) fun r hr => row_ne (hmore r hr).1 hp1) fun q qs H8 n8 e8 h8 r8 w8 => ?_
      have hperm := sortL_perm (addN (rw' ps) more)
      have hal := addN_len (rw' ps) more
      rw [rw_len] at hal
      have hge : 1 ≤ (addN (rw' ps) more).length := by
        have hm0 : pr.2 ∈ addN (rw' ps) more := by
          unfold addN
          split
          · exact List.mem_map_of_mem hprm
          · exact List.mem_append_left _ (List.mem_map_of_mem hprm)
        exact List.length_pos_of_mem hm0
      refine k q qs H8 a7 (dH7.trans (Dr.of e8)) (S7.ex e8) (by omega) (back dH7 S7 n8) h8 r8 ?_
      rw [w8]
      exact ⟨by rw [hperm.length_eq]; omega, fun r hr => (hmore r (hperm.mem_iff.mp hr)).1, fun r hr => (hmore r (hperm.mem_iff.mp hr)).2, sortL_asd (addN_nodup (asd_nodup hasd))⟩
    refine q_no (et_int (ev_var rfl) ev_c (decide_eq_false hx1)) fun H6 e6 => ⟨_, rfl, ?_⟩
    exact k l0 ps H6 a4 (dH5.trans (Dr.of e6)) (S5.ex e6) (by omega) (back d1 S1 nl) (e6 _ _ hl5) (hr5.ex e6) ⟨by rw [rw_len]; omega, hrow, fun r hr x hx => by have := hlo r hr x hx; omega, hasd⟩
end
end SL
end
section
set_option Elab.async false
set_option linter.all false
set_option maxRecDepth 100000
set_option maxHeartbeats 4000000
/-! Texts bent: how long their lines may grow. -/
namespace SL
open PySem PySem.Spec PyProof.Rows L2 Evl
/-- every infix of s without a newline has at most L signs -/
def LBl (s : List Nat) (L : Nat) : Prop := ∀ a m b, s = a ++ (m ++ b) → 10 ∉ m → m.length ≤ L
theorem LBl.mono {s : List Nat} {L L' : Nat} (h : LBl s L) (hl : L ≤ L') : LBl s L' := fun a m b e n => Nat.le_trans (h a m b e n) hl
theorem LBl.of_len {s : List Nat} {L : Nat} (h : s.length ≤ L) : LBl s L := fun a m b e _ => by
  rw [e, List.length_append, List.length_append] at h
  omega
theorem LBl.infix {a s b : List Nat} {L : Nat} (h : LBl (a ++ (s ++ b)) L) : LBl s L := fun c m d e n => h (a ++ c) m (d ++ b) (by rw [e]; simp [List.append_assoc]) n
theorem LBl.app {x y : List Nat} {Lx Ly : Nat} (hx : LBl x Lx) (hy : LBl y Ly) : LBl (x ++ y) (Lx + Ly) := fun a m b e n => by
  rcases List.append_eq_append_iff.mp e with ⟨c, e1, e2⟩ | ⟨c, e1, e2⟩
  · have := hy c m b e2 n
    omega
  · rcases List.append_eq_append_iff.mp e2.symm with ⟨d, e3, e4⟩ | ⟨d, e3, e4⟩
    · rw [e3] at n
      have h1 := hx a c [] (by rw [List.append_nil]; exact e1) fun h => n (List.mem_append_left _ h)
      have h2 := hy [] d b e4 fun h => n (List.mem_append_right _ h)
      rw [e3, List.length_append]
      omega
    · have := hx a m d (by rw [e1, e3]) n
      omega
theorem LBl.nl {x y : List Nat} {L : Nat} (hx : LBl x L) (hy : LBl y L) : LBl (x ++ 10 :: y) L := fun a m b e n => by
  rcases List.append_eq_append_iff.mp e with ⟨c, e1, e2⟩ | ⟨c, e1, e2⟩
  · cases c with
    | nil =>
      cases m with
      | nil => exact Nat.zero_le _
      | cons z t =>
        have : z = 10 := by
          have := (List.cons.inj (show 10 :: y = z :: (t ++ b) from e2)).1
          exact this.symm
        exact absurd (by rw [this]; exact List.mem_cons_self) n
    | cons z c => exact hy c m b (List.cons.inj (show 10 :: y = z :: (c ++ (m ++ b)) from e2)).2 n
  · rcases List.append_eq_append_iff.mp e2.symm with ⟨d, e3, e4⟩ | ⟨d, e3, e4⟩
    · cases d with
      | nil =>
        rw [List.append_nil] at e3
        rw [e3] at n ⊢
        exact hx a c [] (by rw [List.append_nil]; exact e1) n
      | cons z d =>
        have hz : z = 10 := (List.cons.inj (show 10 :: y = z :: (d ++ b) from e4)).1.symm
        exact absurd (by rw [e3, hz]; exact List.mem_append_right _ List.mem_cons_self) n
    · exact hx a m d (by rw [e1, e3]) n
/-- text * int -/
theorem op_mulS {X : Cx} : OpR X (binaryOp .Mult) (fun x y H Q => ∃ (z : Str) (n : Int), x = .str z ∧ y = .int n ∧ MulOk z n ∧ Q (.str (Txt.mul z n)) H) := by
  intro pins s σ H x y v u Q I rx ry h
  obtain ⟨z, n, rfl, rfl, hok, q⟩ := h
  obtain ⟨t, rfl⟩ := rx
  obtain ⟨t', rfl⟩ := ry
  exact SB.mul hok fun t2 k => ⟨.str (Txt.mul z n), H, I.tok _, ⟨_, rfl⟩, q⟩
end SL
end
section
set_option Elab.async false
set_option linter.all false
set_option maxRecDepth 100000
set_option maxHeartbeats 4000000
namespace SL
open PySem PySem.Spec PyProof.Rows L2 Evl
theorem joinL_len (s : Nat) : ∀ {parts : List (List Nat)}, parts ≠ [] → (TL.joinL [s] parts).length + 1 = (parts.map fun p => p.length + 1).sum
  | [], h => absurd rfl h
  | [p], _ => by
    show p.length + 1 = p.length + 1 + 0
    omega
  | p :: q :: r, _ => by
    have ih := joinL_len s (parts := q :: r) (by simp)
    show (p ++ ([s] ++ TL.joinL [s] (q :: r))).length + 1 = p.length + 1 + ((q :: r).map fun p => p.length + 1).sum
    rw [← ih, List.length_append, List.length_append, List.length_singleton]
    omega
theorem joinL_part (s : Nat) : ∀ {parts : List (List Nat)} {p : List Nat}, p ∈ parts → ∃ a b, TL.joinL [s] parts = a ++ (p ++ b)
  | [q], p, h => by
    rw [List.mem_singleton.mp h]
    exact ⟨[], [], by show q = [] ++ (q ++ []); simp⟩
  | q :: q2 :: r, p, h => by
    rcases List.mem_cons.mp h with rfl | h
    · exact ⟨[], [s] ++ TL.joinL [s] (q2 :: r), rfl⟩
    · obtain ⟨a, b, e⟩ := joinL_part s h
      refine ⟨q ++ ([s] ++ a), b, ?_⟩
      show q ++ ([s] ++ TL.joinL [s] (q2 :: r)) = _
      rw [e]
      simp [List.append_assoc]
theorem joinL_nl {L : Nat} : ∀ {parts : List (List Nat)}, (∀ p ∈ parts, LBl p L) → LBl (TL.joinL [10] parts) L
  | [], _ => LBl.of_len (Nat.zero_le _)
  | [p], h => h p List.mem_cons_self
  | p :: q :: r, h => LBl.nl (h p List.mem_cons_self) (joinL_nl fun x hx => h x (List.mem_cons_of_mem _ hx))
/-- a text of at most T signs, its lines of at most L -/
structure Tx (z : Str) (T L : Nat) : Prop where
  len : z.length ≤ T
  ln : LBl (TL.tl z) L
  asc : Asc z
/-- the signs of some texts, one more each -/
def Msz (xs : List Str) : Nat := (xs.map fun p => p.length + 1).sum
theorem Msz_app (xs ys : List Str) : Msz (xs ++ ys) = Msz xs + Msz ys := by unfold Msz; rw [List.map_append, List.sum_append]
theorem len_tl (z : Str) : z.length = (TL.tl z).length := Array.length_toList.symm
theorem Msz_tl (xs : List Str) : Msz xs = ((xs.map TL.tl).map fun p => p.length + 1).sum := by
  unfold Msz
  rw [List.map_map]
  rfl
theorem join1 (s : Nat) (y : Str) (hy : TL.tl y = [s]) (xs : List Str) : TL.tl (Txt.join y xs) = TL.joinL [s] (xs.map TL.tl) := by
  rw [TL.join_eq, TL.tl_join, hy]
theorem join1_len {s : Nat} {y : Str} (hy : TL.tl y = [s]) {xs : List Str} (h : xs ≠ []) : (Txt.join y xs).length + 1 = Msz xs := by
  rw [len_tl, join1 s y hy, Msz_tl]
  exact joinL_len s (by simpa using h)
theorem split1 {y z : Str} : Txt.join y (Txt.split z y) = z := by
  rw [TL.join_eq]
  exact StrLaws.join_split z y
theorem split_Msz {s : Nat} {y z : Str} (hy : TL.tl y = [s]) (h : Txt.split z y ≠ []) : Msz (Txt.split z y) = z.length + 1 := by
  rw [← join1_len hy h, split1]
end SL
end
section
set_option Elab.async false
set_option linter.all false
set_option maxRecDepth 100000
set_option maxHeartbeats 4000000
namespace SL
open PySem PySem.Spec PyProof.Rows L2 Evl
theorem joinL_mem {S : List Nat} {c : Nat} : ∀ {parts : List (List Nat)}, c ∈ TL.joinL S parts → c ∈ S ∨ ∃ p ∈ parts, c ∈ p
  | [], h => by cases h
  | [p], h => .inr ⟨p, List.mem_cons_self, h⟩
  | p :: q :: r, h => by
    rcases List.mem_append.mp (show c ∈ p ++ (S ++ TL.joinL S (q :: r)) from h) with h | h
    · exact .inr ⟨p, List.mem_cons_self, h⟩
    · rcases List.mem_append.mp h with h | h
      · exact .inl h
      · rcases joinL_mem h with h | ⟨x, hx, hc⟩
        · exact .inl h
        · exact .inr ⟨x, List.mem_cons_of_mem _ hx, hc⟩
theorem asc_join {y : Str} {xs : List Str} (hy : Asc y) (h : ∀ x ∈ xs, Asc x) : Asc (Txt.join y xs) := fun c hc => by
  have hc' : c ∈ TL.tl (Txt.join y xs) := hc
  rw [TL.join_eq, TL.tl_join] at hc'
  rcases joinL_mem hc' with h1 | ⟨p, hp, h1⟩
  · exact hy c h1
  · obtain ⟨z, hz, rfl⟩ := List.mem_map.mp hp
    exact h z hz c h1
theorem join_le1 {y : Str} (hy : y.length = 1) (xs : List Str) : (Txt.join y xs).length ≤ Msz xs := by
  have h := join_len y xs
  have e : Msz xs = (xs.map (·.length)).sum + xs.length := by
    unfold Msz
    clear h
    induction xs with
    | nil => rfl
    | cons x t ih => simp only [List.map_cons, List.sum_cons, List.length_cons, ih]; omega
  rw [hy] at h
  omega
theorem nl_tl : TL.tl ("\n" : Str) = [10] := by decide +kernel
theorem sp_tl : TL.tl (" " : Str) = [32] := by decide +kernel
theorem line_lbl {z w : Str} {L : Nat} (h : LBl (TL.tl z) L) (hw : w ∈ linesOf z) : LBl (TL.tl w) L ∧ w.length ≤ L := by
  have e : TL.tl z = TL.joinL [10] ((linesOf z).map TL.tl) := by rw [← join1 10 _ nl_tl, linesOf, split1]
  obtain ⟨a, b, e2⟩ := joinL_part 10 (List.mem_map_of_mem (f := TL.tl) hw)
  rw [e, e2] at h
  refine ⟨h.infix, ?_⟩
  rw [len_tl]
  have hn : 10 ∉ TL.tl w := fun hc => by
    have e3 : ("\n" : Str) = ⟨#[10]⟩ := by decide +kernel
    have hw' : w ∈ Txt.split z ⟨#[10]⟩ := by rw [← e3]; exact hw
    exact StrLaws.split_free z 10 w hw' hc
  exact h.infix [] (TL.tl w) [] (by simp) hn
theorem msz_set {xs : List Str} {i : Nat} (hi : i < xs.length) (ys : List Str) : Msz (xs.take i ++ ys ++ xs.drop (i + 1)) + (xs[i].length + 1) = Msz xs + Msz ys := by
  have e : xs = xs.take i ++ ([xs[i]] ++ xs.drop (i + 1)) := by
    have := (List.take_append_drop i xs).symm
    rw [List.drop_eq_getElem_cons hi] at this
    exact this
  have h1 : Msz xs = Msz (xs.take i) + (Msz [xs[i]] + Msz (xs.drop (i + 1))) := by
    rw [← Msz_app, ← Msz_app, ← e]
  have h2 : Msz [xs[i]] = xs[i].length + 1 := rfl
  rw [Msz_app, Msz_app, h1, h2]
  omega
theorem bent_tx {z : Str} {T L : Nat} (h : Tx z T L) {row : Nat} (hr : row < (linesOf z).length) {fr : List Str} {ln : Str} (hl : ln.length ≤ 2 * L + 34) (hA : Asc ln) (hf : fr = [ln] ∨ fr = [(linesOf z)[row], ln]) :
    Tx (Txt.join "\n" ((linesOf z).take row ++ fr ++ (linesOf z).drop (row + 1))) (T + 2 * L + 40) (2 * L + 34) := by
  have hmem : ∀ x ∈ (linesOf z).take row ++ fr ++ (linesOf z).drop (row + 1), x = ln ∨ x ∈ linesOf z := fun x hx => by
    rcases List.mem_append.mp hx with hx | hx
    · rcases List.mem_append.mp hx with hx | hx
      · exact .inr (List.mem_of_mem_take hx)
      · rcases hf with rfl | rfl
        · exact .inl (List.mem_singleton.mp hx)
        · rcases List.mem_cons.mp hx with rfl | hx
          · exact .inr (List.getElem_mem hr)
          · exact .inl (List.mem_singleton.mp hx)
    · exact .inr (List.mem_of_mem_drop hx)
  refine ⟨?_, ?_, asc_join (fun c hc => ?_) fun x hx => ?_⟩
  · have h1 := join_le1 (y := "\n") (by decide +kernel) ((linesOf z).take row ++ fr ++ (linesOf z).drop (row + 1))
    have h2 := msz_set hr fr
    have h3 : Msz (linesOf z) = z.length + 1 := split_Msz nl_tl (fun e => by have := linesOf_pos z; unfold linesOf at this; rw [e] at this; simp at this)
    have h4 := h.len
    have h5 : Msz fr ≤ (linesOf z)[row].length + 1 + (ln.length + 1) := by
      rcases hf with rfl | rfl
      · show ln.length + 1 + 0 ≤ _; omega
      · show (linesOf z)[row].length + 1 + (ln.length + 1 + 0) ≤ _; omega
    omega
  · rw [join1 10 _ nl_tl]
    refine joinL_nl fun p hp => ?_
    obtain ⟨x, hx, rfl⟩ := List.mem_map.mp hp
    rcases hmem x hx with rfl | hx
    · exact LBl.of_len (by rw [← len_tl]; exact hl)
    · exact (line_lbl h.ln hx).1.mono (by omega)
  · have hc' : c ∈ TL.tl ("\n" : Str) := hc
    rw [nl_tl] at hc'
    rw [List.mem_singleton.mp hc']
    decide
  · rcases hmem x hx with rfl | hx
    · exact hA
    · exact h.asc.line hx
end SL
end
section
set_option Elab.async false
set_option linter.all false
set_option maxRecDepth 100000
set_option maxHeartbeats 4000000
namespace SL
open PySem PySem.Spec PyProof.Rows L2 Evl
theorem Msz_take (xs : List Str) (k : Nat) : Msz (xs.take k) + Msz (xs.drop k) = Msz xs := by rw [← Msz_app, List.take_append_drop]
theorem Msz_drop_le (xs : List Str) {i j : Nat} (h : i ≤ j) : Msz (xs.drop j) ≤ Msz (xs.drop i) := by
  have e : xs.drop j = (xs.drop i).drop (j - i) := by rw [List.drop_drop]; congr 1; omega
  have := Msz_take (xs.drop i) (j - i)
  rw [e]
  omega
theorem bits_msz {w : Str} : Msz (wordsOf w) = w.length + 1 := split_Msz sp_tl (fun e => by
  have := (fact_split w " ").1
  rw [e] at this
  simp at this)
theorem bits_in {w x : Str} {k j L : Nat} (hw : w.length ≤ L) (hx : x.length ≤ 32) (hkj : k ≤ j) : (Txt.join " " ((wordsOf w).take k ++ [x] ++ (wordsOf w).drop j)).length ≤ 2 * L + 34 := by
  have h1 := join_le1 (y := " ") (by decide +kernel) ((wordsOf w).take k ++ [x] ++ (wordsOf w).drop j)
  have h2 := Msz_take (wordsOf w) k
  have h3 := Msz_drop_le (wordsOf w) hkj
  have h4 := bits_msz (w := w)
  have h5 : Msz [x] = x.length + 1 := rfl
  rw [Msz_app, Msz_app, h5] at h1
  omega
theorem bits_out {w : Str} {k L : Nat} (hw : w.length ≤ L) : (Txt.join " " ((wordsOf w).take k ++ (wordsOf w).drop (k + 1))).length ≤ 2 * L + 34 := by
  have h1 := join_le1 (y := " ") (by decide +kernel) ((wordsOf w).take k ++ (wordsOf w).drop (k + 1))
  have h2 := Msz_take (wordsOf w) k
  have h3 := Msz_drop_le (wordsOf w) (i := k) (j := k + 1) (by omega)
  have h4 := bits_msz (w := w)
  rw [Msz_app] at h1
  omega
theorem bits_two {w : Str} {k L : Nat} (hw : w.length ≤ L) : (Txt.join " " ((wordsOf w).take (k + 1) ++ (wordsOf w).drop k)).length ≤ 2 * L + 34 := by
  have h1 := join_le1 (y := " ") (by decide +kernel) ((wordsOf w).take (k + 1) ++ (wordsOf w).drop k)
  have h2 := Msz_take (wordsOf w) (k + 1)
  have h3 := Msz_take (wordsOf w) k
  have h4 := bits_msz (w := w)
  rw [Msz_app] at h1
  omega
/-- a sign changed, put in or taken away -/
theorem cut_tx {z z' : Str} {T L i j : Nat} {mid : List Nat} (h : Tx z T L) (hij : i ≤ j) (hm : mid.length ≤ 1) (hmA : ∀ c ∈ mid, c < 1114112) (e : TL.tl z' = (TL.tl z).take i ++ (mid ++ (TL.tl z).drop j)) : Tx z' (T + 2 * L + 40) (2 * L + 34) := by
  refine ⟨?_, ?_, fun c hc => ?_⟩
  · have h1 := h.len
    rw [len_tl] at h1 ⊢
    rw [e, List.length_append, List.length_append, List.length_take, List.length_drop]
    omega
  · rw [e]
    have ht : LBl ((TL.tl z).take i) L := LBl.infix (a := []) (b := (TL.tl z).drop i) (by rw [List.nil_append, List.take_append_drop]; exact h.ln)
    have hd : LBl ((TL.tl z).drop j) L := LBl.infix (a := (TL.tl z).take j) (b := []) (by rw [List.append_nil, List.take_append_drop]; exact h.ln)
    exact (ht.app ((LBl.of_len hm).app hd)).mono (by omega)
  · have hc' : c ∈ TL.tl z' := hc
    rw [e] at hc'
    rcases List.mem_append.mp hc' with h1 | h1
    · exact h.asc c (List.mem_of_mem_take h1)
    · rcases List.mem_append.mp h1 with h1 | h1
      · exact hmA c h1
      · exact h.asc c (List.mem_of_mem_drop h1)
theorem cutS_to (z : Str) {i : Nat} (h : i ≤ z.length) : TL.tl (cutS z none (some (i : Int))) = (TL.tl z).take i := by
  show (z.cps.toList.drop _).take _ = _
  rw [HT.sIx_none, HT.sIx_nat, Nat.min_eq_left h, Nat.sub_zero, List.drop_zero]
theorem cutS_from (z : Str) {i : Nat} {k : Int} (hk : k = (i : Int)) : TL.tl (cutS z (some k) none) = (TL.tl z).drop i := by
  subst hk
  show (z.cps.toList.drop _).take _ = _
  rw [HT.sIx_none, HT.sIx_nat]
  by_cases h : i ≤ z.length
  · rw [Nat.min_eq_left h, List.take_of_length_le (by rw [List.length_drop, Array.length_toList]; exact Nat.le_refl _)]
  · rw [Nat.min_eq_right (by omega), Nat.sub_self, List.take_zero]
    refine (List.drop_eq_nil_of_le ?_).symm
    rw [← len_tl]
    omega
end SL
end
section
set_option Elab.async false
set_option linter.all false
set_option maxRecDepth 100000
set_option maxHeartbeats 4000000
/-! _law_bent. -/
namespace SL
open PySem PySem.Spec PyProof.Rows L2 Evl
def spBent : Sp := fun vs H Q _ => ∃ (st c l : Addr) (a : Nat) (z : Str) (T L : Nat), vs = [.ref st, .str z] ∧ StAt H st c l a ∧ a + 10 ≤ 100000 ∧ Tx z T L ∧ T ≤ 30000 ∧ L ≤ 10000 ∧
  ∀ z' H' a', Dr st l H H' → StAt H' st c l a' → a' ≤ a + 10 → Tx z' (T + 2 * L + 40) (2 * L + 34) → Q (.str z') H'
section
variable {σ : L2.St} {H : Hp} {ta : TE}
theorem ev_mulS {z : Str} {n : Int} {tb : TE} (h : Ev ta σ H (.str z)) (hb : Ev tb σ H (.int n)) (ok : MulOk z n) : Ev (tOp (fun x y H Q => ∃ (z : Str) (n : Int), x = .str z ∧ y = .int n ∧ MulOk z n ∧ Q (.str (Txt.mul z n)) H) ta tb) σ H (.str (Txt.mul z n)) :=
  ev_op h hb fun H1 e Q q => ⟨z, n, rfl, rfl, ok, q H1 (Ex.refl _)⟩
/-- a word that is short enough, of signs that there are -/
def okW : V → Bool
  | .str z => decide (z.length ≤ 32) && z.cps.toList.all fun c => decide (c < 1114112)
  | _ => false
theorem okW_str {v : V} (h : okW v = true) : ∃ z : Str, v = .str z ∧ z.length ≤ 32 ∧ ∀ c ∈ z.cps.toList, c < 1114112 := by
  cases v with
  | str z =>
    simp only [okW, Bool.and_eq_true, decide_eq_true_eq, List.all_eq_true] at h
    exact ⟨z, rfl, h.1, h.2⟩
  | _ => cases h
theorem ok31 : MulOk "9" 31 := ⟨by decide, by decide, by decide⟩
theorem ok32 : MulOk "9" 32 := ⟨by decide, by decide, by decide⟩
theorem el_split {z y : Str} (h : Ev ta σ H (.str z)) (hy : (y.length == 0) = false) (hz : z.length ≤ 60000) :
    EvL (tM1 (fun x xs H Q => ∃ a b, x = .str a ∧ xs = [.str b] ∧ (b.length == 0) = false ∧ a.length + 2 ≤ sizeLine ∧ rNewStrs (Txt.split a b) H Q) ta (tC (.str y))) σ H ((Txt.split z y).map V.str) := fun H1 e Q q =>
  h H1 e _ fun H2 e2 => ⟨⟨_, rfl⟩, z, y, rfl, rfl, hy, sz_of (by omega), fun l hl => q l _ (fresh_back e2 hl) (e2.trans (Ex.new hl)) upd_same⟩

/-- a list, made now or before -/
def EvS (te : TE) (σ : L2.St) (H : Hp) (xs : List V) : Prop := ∀ H1, Ex H H1 → ∀ Q : VK, (∀ p H2, Ex H1 H2 → H2 p = some (.lst xs) → Q (.ref p) H2) → te σ H1 Q
theorem es_l {xs : List V} (h : EvL ta σ H xs) : EvS ta σ H xs := fun H1 e Q q => h H1 e Q fun p H2 _ e2 hp => q p H2 e2 hp
theorem es_v {p : Addr} {xs : List V} (h : Ev ta σ H (.ref p)) (hp : H p = some (.lst xs)) : EvS ta σ H xs := fun H1 e Q q => h H1 e _ fun H2 e2 => q p H2 e2 (e2 _ _ (e _ _ hp))
theorem el_cat {tb : TE} {xs ys : List V} (ha : EvS ta σ H xs) (hb : EvS tb σ H ys) (hz : xs.length + ys.length ≤ 100000) : EvL (tOp rCat ta tb) σ H (xs ++ ys) := fun H1 e Q q =>
  ha H1 e _ fun p H2 e2 hp => hb H2 (e.trans e2) _ fun p' H3 e3 hp' => ⟨p, p', _, _, rfl, rfl, e3 _ _ hp, hp', sz_of hz, fun r hr => q r _ (fresh_back (e2.trans e3) hr) ((e2.trans e3).trans (Ex.new hr)) upd_same⟩
theorem el_if {t : TT} {tb : TE} {b : Bool} {xs : List V} (h : EvT t σ H b) (h1 : b = true → EvL ta σ H xs) (h2 : b = false → EvL tb σ H xs) : EvL (tIf t ta tb) σ H xs := fun H1 e Q q => h H1 e _ fun H2 e2 => by
  cases b with
  | true =>
    show ta σ H2 Q
    exact h1 rfl H2 (e.trans e2) Q fun p H3 np e3 hp => q p H3 (fresh_back e2 np) (e2.trans e3) hp
  | false =>
    show tb σ H2 Q
    exact h2 rfl H2 (e.trans e2) Q fun p H3 np e3 hp => q p H3 (fresh_back e2 np) (e2.trans e3) hp
theorem ev_joinS {to te : TE} {σ : L2.St} {H : Hp} {a : Str} {ys : List Str} {K : PySem.W.Frag} (ho : Ev to σ H (.str a)) (he : EvS te σ H (ys.map V.str)) (hl : (ys.map (·.length)).sum + ys.length * a.length ≤ 16777216) :
    Ev (tM1 (fun x xs H Q => ∃ a p, ∃ ys : List Str, x = .str a ∧ xs = [.ref p] ∧ (SqL K H p (ys.map V.str) ∨ SqT K H p (ys.map V.str)) ∧ (ys.map (·.length)).sum + ys.length * a.length ≤ 16777216 ∧ Q (.str (Txt.join a ys)) H) to te) σ H (.str (Txt.join a ys)) := fun H1 e1 Q q =>
  ho H1 e1 _ fun H2 e2 => ⟨⟨_, rfl⟩, he H2 (e1.trans e2) _ fun p H3 e3 h3 => ⟨a, p, ys, rfl, rfl, .inl (sq_of h3), hl, q H3 (e2.trans e3)⟩⟩
theorem msz_fit {a : Str} (ha : a.length = 1) {ys : List Str} (h : Msz ys ≤ 16777216) : (ys.map (·.length)).sum + ys.length * a.length ≤ 16777216 := by
  have e : Msz ys = (ys.map (·.length)).sum + ys.length := by
    unfold Msz
    clear h
    induction ys with
    | nil => rfl
    | cons x t ih => simp only [List.map_cons, List.sum_cons, List.length_cons, ih]; omega
  rw [ha]
  omega
theorem asc_sp : Asc (" " : Str) := fun c hc => by
  have hc' : c ∈ TL.tl (" " : Str) := hc
  rw [sp_tl] at hc'
  rw [List.mem_singleton.mp hc']
  decide
theorem asc_nl : Asc ("\n" : Str) := fun c hc => by
  have hc' : c ∈ TL.tl ("\n" : Str) := hc
  rw [nl_tl] at hc'
  rw [List.mem_singleton.mp hc']
  decide
theorem msz_join {y : Str} {s : Nat} (hy : TL.tl y = [s]) (xs : List Str) : Msz xs ≤ (Txt.join y xs).length + 1 := by
  by_cases h : xs = []
  · subst h
    exact Nat.zero_le _
  · rw [join1_len hy h]
    exact Nat.le_refl _
end
section
variable {K : PySem.W.Frag} {σ : L2.St} {H H0 : Hp} {ta te : TE} {v : V} {tz : TS} {D : Ends}
/-- xs.append(e) of a list made since H0 -/
theorem q_appN {l : Addr} {xs : List V} (nl : H0 l = none) (e0 : Ex H0 H) (hl : H l = some (.lst xs)) (ha : Ev ta σ H (.ref l)) (h : Ev te σ H v) (hz : xs.length < 100000) (k : ∀ H1, Ex H0 H1 → H1 l = some (.lst (xs ++ [v])) → tz D σ H1) :
    tSeq (tDrop (tBM K "list" rAppend ta (tCons te tNil))) tz D σ H := q_app (K := K) hl ha h hz fun H1 e1 => k _ (Ex.mut (e0.trans e1) nl) upd_same
end
section
variable {P : Program} {w : World} {K : PySem.W.Frag} {mg : Str → Option Value} {base : Heap}
theorem ok_bent (M : Ma K mg) : Dn P w K mg base "_law_bent" 4 ["_law_state", "_law_text"] spBent := by
  obtain ⟨fd, F⟩ := M.d_LawBent
  refine Dn.of F M.g__law_bent (fun _ _ _ _ _ _ us hl => match us, hl with | [_, _], _ => rfl) (F.ok scLawBent (fun vs H Q E h => ?_) (fun cdv A outer s H vs Q E hr h => ?_))
  · obtain ⟨st, c, l, a, z, T, L, rfl, _⟩ := h
    rfl
  · obtain ⟨st, c, l, a, z, T, L, rfl, S, ha, hz, hT, hL, k⟩ := h
    have r3 : Room 3 _ := hr
    have r2 := r3.mono (show 2 ≤ 3 by decide)
    refine ⟨_, (pss_cons (ps_par (i := 2) (j := 3) rfl scLawBent.nd rfl rfl (by decide) rfl rfl (pa_cons pe_str (pa_cons (pe_dn (ok_draw M) r2 passL (pa_cons (pv 0) (pa_cons pe_int pa_nil))) pa_nil)) (by rfl)) <|
      pss_cons (ps_set (i := 4) scLawBent.nd rfl (.inl rfl) (pe_dn (ok_draw M) r2 passL (pa_cons (pv 0) (pa_cons (pe_op op_add (pe_callB call_len_str (by rfl) M.n_len PySem.boot_len (pa_cons (pv 1) pa_nil)) pe_int) pa_nil)))) <|
      pss_cons (ps_if (pt_cmpR op_lt (pv 3) pe_int (nomark _))
        (pss_one (ps_ret (pe_op op_add_str (pe_op op_add_str (pe_slice sl_str (pv 1) po_none (po_some (pv 4))) (pe_ix ix_str (pv 2) (pe_dn (ok_draw M) r2 passL (pa_cons (pv 0) (pa_cons (pe_callB call_len_str (by rfl) M.n_len PySem.boot_len (pa_cons (pv 2) pa_nil)) pa_nil))) (fun _ _ => rfl)))
          (pe_slice sl_str (pv 1) (po_some (pe_op op_add (pv 4) (pe_callTy call_int1 (by rfl) M.n_int (by decide +kernel) (pa_cons (pe_cmpR op_gt (pv 3) pe_int (nomark _)) pa_nil)))) po_none)))) pss_nil) <|
      pss_cons (ps_if (pt_cmpR op_eq (pv 3) pe_int (nomark _)) (pss_one (ps_ret (pe_op op_add_str (pe_slice sl_str (pv 1) po_none (po_some (pv 4))) (pe_slice sl_str (pv 1) (po_some (pe_op op_add (pv 4) pe_int)) po_none)))) pss_nil) <|
      pss_cons (ps_set (i := 5) scLawBent.nd rfl (.inl rfl) (pe_split (pv 1) pe_str)) <|
      pss_cons (ps_set (i := 6) scLawBent.nd rfl (.inl rfl) (pe_dn (ok_draw M) r2 passL (pa_cons (pv 0) (pa_cons (pe_callB call_len_seq (by rfl) M.n_len PySem.boot_len (pa_cons (pv 5) pa_nil)) pa_nil)))) <|
      pss_cons (ps_set (i := 7) scLawBent.nd rfl (.inl rfl) (pe_split (pe_ix ix_list (pv 5) (pv 6) (fun _ _ => rfl)) pe_str)) <|
      pss_cons (ps_set (i := 8) scLawBent.nd rfl (.inl rfl) (pe_dn (ok_draw M) r2 passL (pa_cons (pv 0) (pa_cons (pe_callB call_len_seq (by rfl) M.n_len PySem.boot_len (pa_cons (pv 7) pa_nil)) pa_nil)))) <|
      pss_cons (ps_set (i := 9) scLawBent.nd rfl (.inl rfl) (pe_lst (pa_cons pe_str (pa_cons pe_str (pa_cons pe_str (pa_cons pe_str (pa_cons pe_str (pa_cons pe_str (pa_cons pe_str (pa_cons pe_str (pa_cons pe_str (pa_cons pe_str (pa_cons pe_str (pa_cons pe_str (pa_cons pe_str (pa_cons pe_str (pa_cons (pe_op op_mulS pe_str pe_int) (pa_cons (pe_op op_mulS pe_str pe_int) pa_nil)))))))))))))))))) <|
      pss_cons (ps_expr (pe_bm PySem.F.plainAttrs_list PySem.F.slot_list_append PySem.F.type_list_append mt_append (pv 9) (pa_cons pe_str pa_nil))) <|
      pss_cons (ps_set (i := 9) scLawBent.nd rfl (.inl rfl) (pe_op op_cat (pv 9) (pe_lst (pa_cons pe_str (pa_cons pe_str (pa_cons pe_str (pa_cons pe_str (pa_cons pe_str (pa_cons pe_str (pa_cons pe_str (pa_cons pe_str (pa_cons pe_str (pa_cons pe_str (pa_cons pe_str pa_nil)))))))))))))) <|
      pss_cons (ps_set (i := 10) scLawBent.nd rfl (.inl rfl) (pe_dn (ok_of M) r3 passL (pa_cons (pv 0) (pa_cons (pv 9) pa_nil)))) <|
      pss_cut (ps_if (pt_cmpR op_lt (pv 3) pe_int (nomark _))
        (pss_one (ps_set (i := 7) scLawBent.nd rfl (.inl rfl) (pe_op op_cat (pe_op op_cat (pe_slice sl_list (pv 7) po_none (po_some (pv 8))) (pe_lst (pa_cons (pv 10) pa_nil))) (pe_slice sl_list (pv 7) (po_some (pe_op op_add (pv 8) (pe_callTy call_int1 (by rfl) M.n_int (by decide +kernel) (pa_cons (pe_cmpR op_gt (pv 3) pe_int (nomark _)) pa_nil)))) po_none))))
        (pss_one (ps_if (pt_cmpR op_eq (pv 3) pe_int (nomark _))
          (pss_one (ps_set (i := 7) scLawBent.nd rfl (.inl rfl) (pe_op op_cat (pe_slice sl_list (pv 7) po_none (po_some (pv 8))) (pe_slice sl_list (pv 7) (po_some (pe_op op_add (pv 8) pe_int)) po_none))))
          (pss_one (ps_set (i := 7) scLawBent.nd rfl (.inl rfl) (pe_op op_cat (pe_slice sl_list (pv 7) po_none (po_some (pe_op op_add (pv 8) pe_int))) (pe_slice sl_list (pv 7) (po_some (pv 8)) po_none))))))) <|
      pss_cons (ps_set (i := 11) scLawBent.nd rfl (.inl rfl) (pe_ifExp (pt_cmpR op_lt (pv 3) pe_int (nomark _)) (pe_lst (pa_cons (pe_join pe_str (pv 7)) pa_nil)) (pe_lst (pa_cons (pe_ix ix_list (pv 5) (pv 6) (fun _ _ => rfl)) (pa_cons (pe_join pe_str (pv 7)) pa_nil))))) <|
      pss_one (ps_ret (pe_join pe_str (pe_op op_cat (pe_op op_cat (pe_slice sl_list (pv 5) po_none (po_some (pv 6))) (pv 11)) (pe_slice sl_list (pv 5) (po_some (pe_op op_add (pv 6) pe_int)) po_none))))), ?_⟩
    have dro : ∀ {σ : L2.St} {H1 : Hp} {m : Int} {te : TE}, σ[0]? = some (some (.ref st)) → (∀ H2, Dr st l H1 H2 → Ev te σ H2 (.int m)) → 1 ≤ m → m ≤ 100000 → EvD st c l (tCall spDraw [] E0 (tCons (tVar 0) (tCons te tNil))) σ H1 1 (fun v _ => ∃ x, v = .int x ∧ 0 ≤ x ∧ x < m) := fun hσ hm h1 h2 => ed_draw (fun _ => ev_var hσ) hm h1 h2
    have hzl := hz.len
    refine dro (H1 := H) (m := 9) rfl (fun _ _ => ev_c) (by decide) (by decide) H a (Dr.refl _) S (by omega) _ fun v H1 a1 d1 S1 ha1 hv => ?_
    obtain ⟨x, rfl, x0, x9⟩ := hv
    refine ⟨_, _, rfl, ?_⟩
    refine q_asgD (dro (m := (z.length : Int) + 1) rfl (fun _ _ => ev_add (ev_lenS (ev_var rfl) (by omega)) ev_c) (by omega) (by omega)) S1 (by omega) fun v H2 a2 d2 S2 ha2 hv => ?_
    obtain ⟨y, rfl, y0, y1⟩ := hv
    obtain ⟨i, rfl⟩ := Int.eq_ofNat_of_zero_le y0
    have hi : i ≤ z.length := by omega
    have tlt : ∀ {H6 : Hp} {σ : L2.St} {m : Int} {b : Bool}, σ[3]? = some (some (.int x)) → decide (x < m) = b → EvT (tTest (tOp (rI0 fun i j => .bl (decide (i < j))) (tVar 3) (tC (.int m)))) σ H6 b := fun hσ e => et_is (et_test (ev_op (ev_var hσ) ev_c (rv_I0 (g := fun i j => .bl (decide (i < j)))))) e
    by_cases h3 : x < 3
    · refine q_yes (tlt rfl (decide_eq_true h3)) fun H3 e3 => ?_
      have S3 := S2.ex e3
      have hl1 : (cutS z none (some (i : Int))).length ≤ z.length := by rw [len_tl, cutS_to z hi, List.length_take, ← len_tl]; omega
      obtain ⟨j, hj, hij⟩ : ∃ j : Nat, (i : Int) + (if decide (x > 1) then 1 else 0) = (j : Int) ∧ i ≤ j := by
        by_cases h : x > 1
        · exact ⟨i + 1, by rw [if_pos (decide_eq_true h)]; omega, by omega⟩
        · exact ⟨i, by rw [if_neg (by simp [h])]; omega, by omega⟩
      have hl2 : (cutS z (some ((i : Int) + (if decide (x > 1) then 1 else 0))) none).length ≤ z.length := by rw [len_tl, cutS_from (i := j) z hj, List.length_drop, ← len_tl]; omega
      refine ev_slS (H := H3) (ev_var (i := 1) (v := .str z) rfl) eo_none (eo_some (ev_var (i := 4) (v := .int (i : Int)) rfl)) (by omega) H3 (Ex.refl _) _ fun H4 e4 => ⟨_, rfl, ?_⟩
      refine dro (H1 := H4) (m := 15) rfl (fun _ _ => ev_is (ev_lenS (ev_var (i := 2) rfl) (by decide +kernel)) (by decide +kernel)) (by decide) (by decide) H4 a2 (Dr.refl _) (S3.ex e4) (by omega) _ fun v H5 a5 d5 S5 ha5 hv => ?_
      obtain ⟨y, rfl, y0, y15⟩ := hv
      obtain ⟨n, rfl⟩ := Int.eq_ofNat_of_zero_le y0
      have hn : n < ("0123456789 -a.\n" : Str).cps.toList.length := by
        have : ("0123456789 -a.\n" : Str).cps.toList.length = 15 := by decide +kernel
        omega
      have hall : ∀ c ∈ ("0123456789 -a.\n" : Str).cps.toList, c < 1114112 := by decide +kernel
      obtain ⟨sg, hsg⟩ : ∃ sg, ("0123456789 -a.\n" : Str).cps.toList[n]? = some sg := ⟨_, List.getElem?_eq_getElem hn⟩
      refine ⟨_, _, sg, rfl, rfl, by decide +kernel, atI_nat hsg, _, _, rfl, rfl, sz_of (by show _ + 1 ≤ _; omega), ?_⟩
      refine ev_slS (H := H5) (ev_var (i := 1) (v := .str z) rfl) (eo_some (ev_add (ev_var (i := 4) (v := .int (i : Int)) rfl) (ev_intB (ev_op (ev_var (i := 3) (v := .int x) rfl) ev_c (rv_I0 (g := fun i j => .bl (decide (i > j)))))))) eo_none (by omega) H5 (Ex.refl _) _ fun H6 e6 => ?_
      have hle : (cutS z none (some (i : Int)) ++ (⟨#[sg]⟩ : Str)).length ≤ z.length + 1 := by
        rw [len_tl, TL.tl_append, List.length_append, ← len_tl]
        show _ + 1 ≤ _
        omega
      refine ⟨_, _, rfl, rfl, sz_of (by omega), ?_⟩
      refine k _ H6 a5 ((((d1.trans d2).trans (Dr.of (e3.trans e4))).trans d5).trans (Dr.of e6)) (S5.ex e6) (by omega) (cut_tx (i := i) (j := j) (mid := [sg]) hz hij (Nat.le_refl _) (fun c hc => by rw [List.mem_singleton.mp hc]; exact hall sg (List.mem_of_getElem? hsg)) ?_)
      rw [TL.tl_append, TL.tl_append, cutS_to z hi, cutS_from (i := j) z hj, List.append_assoc]
    refine q_no (tlt rfl (decide_eq_false h3)) fun H3 e3 => ?_
    by_cases h4 : x = 3
    · subst h4
      refine q_yes (et_int (ev_var rfl) ev_c (by decide)) fun H4 e4 => ?_
      have hl1 : (cutS z none (some (i : Int))).length ≤ z.length := by rw [len_tl, cutS_to z hi, List.length_take, ← len_tl]; omega
      have hl2 : (cutS z (some ((i : Int) + 1)) none).length ≤ z.length := by rw [len_tl, cutS_from (i := i + 1) z (by omega), List.length_drop, ← len_tl]; omega
      refine s_ret (ev_cat (ev_slS (ev_var rfl) eo_none (eo_some (ev_var rfl)) (by omega)) (ev_slS (ev_var rfl) (eo_some (ev_add (ev_var rfl) ev_c)) eo_none (by omega)) (by omega)) fun H5 e5 => ?_
      refine k _ H5 a2 ((d1.trans d2).trans (Dr.of ((e3.trans e4).trans e5))) (S2.ex ((e3.trans e4).trans e5)) (by omega) (cut_tx (i := i) (j := i + 1) (mid := []) hz (by omega) (Nat.zero_le _) (fun _ h => by cases h) ?_)
      rw [TL.tl_append, cutS_to z hi, cutS_from (i := i + 1) z (by omega)]
      rfl
    refine q_no (et_int (ev_var rfl) ev_c (decide_eq_false h4)) fun H4 e4 => ?_
    have S4 := (S2.ex e3).ex e4
    have d4 := (d1.trans d2).trans (Dr.of (e3.trans e4))
    refine q_asgL (xs := (linesOf z).map V.str) (el_split (y := "\n") (ev_var rfl) (by decide) (by omega)) fun ll H5 nl e5 hl => ?_
    have S5 := S4.ex e5
    have nll := S4.new nl
    have hlp := linesOf_pos z
    have hll := linesOf_le z
    refine q_asgD (dro (m := (((linesOf z).map V.str).length : Int)) rfl (fun H6 d6 => ev_len (ev_var rfl) (sq_of (d6 _ _ nll.1 nll.2.1 hl))) (by rw [List.length_map]; omega) (by rw [List.length_map]; omega)) S5 (by omega) fun v H6 a6 d6 S6 ha6 hv => ?_
    obtain ⟨y, rfl, y0, y1⟩ := hv
    obtain ⟨r, rfl⟩ := Int.eq_ofNat_of_zero_le y0
    rw [List.length_map] at y1
    have hr' : r < (linesOf z).length := by omega
    have hl6 := d6 _ _ nll.1 nll.2.1 hl
    have d46 := (d4.trans (Dr.of e5)).trans d6
    generalize hwd : (linesOf z)[r] = wd
    have hgr : ((linesOf z).map V.str)[r]? = some (.str wd) := by rw [List.getElem?_map, List.getElem?_eq_getElem hr', hwd]; rfl
    have hwl := line_lbl hz.ln (by rw [← hwd]; exact List.getElem_mem hr' : wd ∈ linesOf z)
    have hwL := hwl.2
    have hwA : Asc wd := hz.asc.line (by rw [← hwd]; exact List.getElem_mem hr' : wd ∈ linesOf z)
    refine q_asgL (xs := (wordsOf wd).map V.str) (el_split (y := " ") (ev_ixL (K := K) (ev_var rfl) (ev_var rfl) (sq_of hl6) hgr) (by decide) (by omega)) fun lb H7 nb e7 hb => ?_
    have S7 := S6.ex e7
    have nlb := S6.new nb
    have hbp : 1 ≤ (wordsOf wd).length := (fact_split wd " ").1
    have hbl := wordsOf_le wd
    refine q_asgD (dro (m := (((wordsOf wd).map V.str).length : Int)) rfl (fun H8 d8 => ev_len (ev_var rfl) (sq_of (d8 _ _ nlb.1 nlb.2.1 hb))) (by rw [List.length_map]; omega) (by rw [List.length_map]; omega)) S7 (by omega) fun v H8 a8 d8 S8 ha8 hv => ?_
    obtain ⟨y, rfl, y0, y1⟩ := hv
    obtain ⟨pl, rfl⟩ := Int.eq_ofNat_of_zero_le y0
    rw [List.length_map] at y1
    have hpl : pl < (wordsOf wd).length := by omega
    have hb8 := d8 _ _ nlb.1 nlb.2.1 hb
    have hl8 := d8 _ _ nll.1 nll.2.1 (e7 _ _ hl6)
    have d48 := (d46.trans (Dr.of e7)).trans d8
    refine q_asgL (el_lst (ea_cons ev_c (ea_cons ev_c (ea_cons ev_c (ea_cons ev_c (ea_cons ev_c (ea_cons ev_c (ea_cons ev_c (ea_cons ev_c (ea_cons ev_c (ea_cons ev_c (ea_cons ev_c (ea_cons ev_c (ea_cons ev_c (ea_cons ev_c (ea_cons (ev_mulS ev_c ev_c ok31) (ea_cons (ev_mulS ev_c ev_c ok32) ea_nil)))))))))))))))) (by decide)) fun lw H9 nw e9 hw => ?_
    refine q_appN (K := K) nw e9 hw (ev_var rfl) ev_c (by decide) fun H11 e811 h11 => ?_
    have S11 := S8.ex e811
    refine q_asgL (el_cat (es_v (ev_var rfl) h11) (es_l (el_lst (ea_cons ev_c (ea_cons ev_c (ea_cons ev_c (ea_cons ev_c (ea_cons ev_c (ea_cons ev_c (ea_cons ev_c (ea_cons ev_c (ea_cons ev_c (ea_cons ev_c (ea_cons ev_c ea_nil))))))))))) (by decide))) (by decide)) fun ls H13 nl13 e1113 h13 => ?_
    have nls := S11.new nl13
    have S13 := S11.ex e1113
    have e813 := e811.trans e1113
    refine ⟨_, rfl, _, rfl, st, c, l, ls, a8, _, rfl, S13, by omega, h13, nls.2.1, by decide, by decide, fun v H14 hv S14 d14 => ?_⟩
    obtain ⟨wr, rfl, w32, wA⟩ := okW_str (List.all_eq_true.mp (by decide +kernel) v hv)
    have hl14 := d14 _ _ nll.1 nll.2.1 (e813 _ _ hl8)
    have hb14 := d14 _ _ nlb.1 nlb.2.1 (e813 _ _ hb8)
    have d114 := (d48.trans (Dr.of e813)).trans d14
    refine q_cut (M := fun σ' H' => ∃ (lb' : Addr) (bits' : List Str), σ' = [some (.ref st), some (.str z), some (.str "0123456789 -a.\n"), some (.int x), some (.int (i : Int)), some (.ref ll), some (.int (r : Int)), some (.ref lb'), some (.int (pl : Int)), some (.ref ls), some (.str wr), none] ∧ Ex H14 H' ∧ H' lb' = some (.lst (bits'.map V.str)) ∧
      (Txt.join " " bits').length ≤ 2 * L + 34 ∧ (∀ s ∈ bits', Asc s) ∧ Msz bits' ≤ 100000) ?_ fun σ' H15 hM => ?_
    · have S14' := S14
      have hAt : ∀ {k j : Nat} {mid : List Str}, (∀ s ∈ mid, Asc s) → ∀ s ∈ (wordsOf wd).take k ++ mid ++ (wordsOf wd).drop j, Asc s := fun hm s hs => by
        rcases List.mem_append.mp hs with hs | hs
        · rcases List.mem_append.mp hs with hs | hs
          · exact hwA.word (List.mem_of_mem_take hs)
          · exact hm s hs
        · exact hwA.word (List.mem_of_mem_drop hs)
      have hfin : ∀ {bits' : List Str}, (Txt.join " " bits').length ≤ 2 * L + 34 → Msz bits' ≤ 100000 := fun {bits'} h => by
        have := msz_join sp_tl bits'
        omega
      have hlen : ((wordsOf wd).map V.str).length = (wordsOf wd).length := List.length_map ..
      refine s_if (tlt rfl rfl) (fun hb H15 e15 => ?_) (fun hb H15 e15 => ?_)
      · obtain ⟨j, hj, hij, hjl⟩ : ∃ j : Nat, (pl : Int) + (if decide (x > 4) then 1 else 0) = (j : Int) ∧ pl ≤ j ∧ j ≤ pl + 1 := by
          by_cases h : x > 4
          · exact ⟨pl + 1, by rw [if_pos (decide_eq_true h)]; omega, by omega, by omega⟩
          · exact ⟨pl, by rw [if_neg (by simp [h])]; omega, by omega, by omega⟩
        have hb15 := e15 _ _ hb14
        refine s_asgL (xs := ((wordsOf wd).take pl ++ [wr] ++ (wordsOf wd).drop j).map V.str) (el_is (el_cat (es_l (el_cat (es_l (el_sl (K := K) (ev_var (i := 7) (v := .ref lb) rfl) eo_none (eo_some (ev_var (i := 8) (v := .int (pl : Int)) rfl)) (sq_of hb15))) (es_l (el_lst (ea_cons (ev_var (i := 10) (v := .str wr) rfl) ea_nil) (by show 1 ≤ _; omega))) ?_)) (es_l (el_sl (K := K) (ev_var (i := 7) (v := .ref lb) rfl) (eo_some (ev_add (ev_var (i := 8) (v := .int (pl : Int)) rfl) (ev_intB (ev_op (ev_var (i := 3) (v := .int x) rfl) ev_c (rv_I0 (g := fun i j => .bl (decide (i > j)))))))) eo_none (sq_of hb15))) ?_) ?_) fun p H16 np e16 hp => ?_
        · rw [cutV_to _ (by omega), List.length_take]
          show _ + 1 ≤ _
          omega
        · rw [cutV_to _ (by omega), cutV_from (i := j) _ hj (by omega), List.length_append, List.length_take, List.length_drop]
          show _ + 1 + _ ≤ _
          omega
        · rw [cutV_to _ (by omega), cutV_from (i := j) _ hj (by omega), List.map_append, List.map_append, List.map_take, List.map_drop]
          rfl
        · have h1 := bits_in (w := wd) (x := wr) (k := pl) (j := j) hwL w32 hij
          exact ⟨p, _, rfl, e15.trans e16, hp, h1, hAt fun s hs => by rw [List.mem_singleton.mp hs]; exact wA, hfin h1⟩
      refine s_if (et_int (ev_var rfl) ev_c rfl) (fun hb H16 e16 => ?_) (fun hb H16 e16 => ?_)
      · have hb16 := e16 _ _ (e15 _ _ hb14)
        refine s_asgL (xs := ((wordsOf wd).take pl ++ (wordsOf wd).drop (pl + 1)).map V.str) (el_is (el_cat (es_l (el_sl (K := K) (ev_var (i := 7) (v := .ref lb) rfl) eo_none (eo_some (ev_var (i := 8) (v := .int (pl : Int)) rfl)) (sq_of hb16))) (es_l (el_sl (K := K) (ev_var (i := 7) (v := .ref lb) rfl) (eo_some (ev_add (ev_var (i := 8) (v := .int (pl : Int)) rfl) ev_c)) eo_none (sq_of hb16))) ?_) ?_) fun p H17 np e17 hp => ?_
        · rw [cutV_to _ (by omega), cutV_from (i := pl + 1) _ (by omega) (by omega), List.length_take, List.length_drop]
          omega
        · rw [cutV_to _ (by omega), cutV_from (i := pl + 1) _ (by omega) (by omega), List.map_append, List.map_take, List.map_drop]
        · have h1 := bits_out (w := wd) (k := pl) hwL
          have h2 := hAt (k := pl) (j := pl + 1) (mid := []) fun s hs => by cases hs
          rw [List.append_nil] at h2
          exact ⟨p, _, rfl, (e15.trans e16).trans e17, hp, h1, h2, hfin h1⟩
      · have hb16 := e16 _ _ (e15 _ _ hb14)
        refine s_asgL (xs := ((wordsOf wd).take (pl + 1) ++ (wordsOf wd).drop pl).map V.str) (el_is (el_cat (es_l (el_sl (K := K) (ev_var (i := 7) (v := .ref lb) rfl) eo_none (eo_some (ev_add (ev_var (i := 8) (v := .int (pl : Int)) rfl) ev_c)) (sq_of hb16))) (es_l (el_sl (K := K) (ev_var (i := 7) (v := .ref lb) rfl) (eo_some (ev_var (i := 8) (v := .int (pl : Int)) rfl)) eo_none (sq_of hb16))) ?_) ?_) fun p H17 np e17 hp => ?_
        · have h0 := cutV_to ((wordsOf wd).map V.str) (i := pl + 1) (by omega)
          have h0' : cutV ((wordsOf wd).map V.str) none (some ((pl : Int) + 1)) = ((wordsOf wd).map V.str).take (pl + 1) := h0
          rw [h0', cutV_from (i := pl) _ rfl (by omega), List.length_take, List.length_drop]
          omega
        · have h0' : cutV ((wordsOf wd).map V.str) none (some ((pl : Int) + 1)) = ((wordsOf wd).map V.str).take (pl + 1) := cutV_to ((wordsOf wd).map V.str) (i := pl + 1) (by omega)
          rw [h0', cutV_from (i := pl) _ rfl (by omega), List.map_append, List.map_take, List.map_drop]
        · have h1 := bits_two (w := wd) (k := pl) hwL
          have h2 := hAt (k := pl + 1) (j := pl) (mid := []) fun s hs => by cases hs
          rw [List.append_nil] at h2
          exact ⟨p, _, rfl, (e15.trans e16).trans e17, hp, h1, h2, hfin h1⟩
    · obtain ⟨lb', bits', rfl, e15, hb15, hjl, hjA, hjf⟩ := hM
      have hl15 := e15 _ _ hl14
      have hjA' : Asc (Txt.join " " bits') := asc_join asc_sp hjA
      have hlen : ((linesOf z).map V.str).length = (linesOf z).length := List.length_map ..
      have hj : ∀ {H16 : Hp} {σ : L2.St}, Ex H15 H16 → σ[7]? = some (some (.ref lb')) → Ev (tM1 (fun x xs H Q => ∃ a p, ∃ ys : List Str, x = .str a ∧ xs = [.ref p] ∧ (SqL K H p (ys.map V.str) ∨ SqT K H p (ys.map V.str)) ∧ (ys.map (·.length)).sum + ys.length * a.length ≤ 16777216 ∧ Q (.str (Txt.join a ys)) H) (tC (.str " ")) (tVar 7)) σ H16 (.str (Txt.join " " bits')) := fun e hσ =>
        ev_joinS ev_c (es_v (ev_var hσ) (e _ _ hb15)) (msz_fit (by decide +kernel) (by omega))
      obtain ⟨fr, hfr, hfe⟩ : ∃ fr : List Str, (fr = [Txt.join " " bits'] ∨ fr = [wd, Txt.join " " bits']) ∧ fr = (if x < 8 then [Txt.join " " bits'] else [wd, Txt.join " " bits']) := by
        by_cases h : x < 8
        · exact ⟨_, .inl rfl, by rw [if_pos h]⟩
        · exact ⟨_, .inr rfl, by rw [if_neg h]⟩
      refine q_asgL (xs := fr.map V.str) (el_if (tlt rfl rfl) (fun hb => ?_) (fun hb => ?_)) fun lf H16 nf e16 hf => ?_
      · rw [hfe, if_pos (of_decide_eq_true hb)]
        exact el_lst (ea_cons (hj (Ex.refl _) rfl) ea_nil) (by show 1 ≤ _; omega)
      · rw [hfe, if_neg (of_decide_eq_false hb)]
        exact el_lst (ea_cons (ev_ixL (K := K) (ev_var rfl) (ev_var rfl) (sq_of hl15) hgr) (ea_cons (hj (Ex.refl _) rfl) ea_nil)) (by show 2 ≤ _; omega)
      have hl16 := e16 _ _ hl15
      have hfl : fr.length ≤ 2 := by rcases hfr with rfl | rfl <;> simp
      rw [← hwd] at hfr
      have tx := bent_tx hz hr' hjl hjA' hfr
      have hm := msz_join nl_tl ((linesOf z).take r ++ fr ++ (linesOf z).drop (r + 1))
      have hmt := tx.len
      refine s_ret (ev_joinS ev_c (es_l (xs := ((linesOf z).take r ++ fr ++ (linesOf z).drop (r + 1)).map V.str) (el_is (el_cat (es_l (el_cat (es_l (el_sl (K := K) (ev_var (i := 5) (v := .ref ll) rfl) eo_none (eo_some (ev_var (i := 6) (v := .int (r : Int)) rfl)) (sq_of hl16))) (es_v (ev_var rfl) hf) ?_)) (es_l (el_sl (K := K) (ev_var (i := 5) (v := .ref ll) rfl) (eo_some (ev_add (ev_var (i := 6) (v := .int (r : Int)) rfl) ev_c)) eo_none (sq_of hl16))) ?_) ?_)) (msz_fit (by decide +kernel) (by omega))) fun H17 e17 => ?_
      · rw [cutV_to _ (by omega), List.length_take]
        simp only [List.length_map]
        omega
      · rw [cutV_to _ (by omega), cutV_from (i := r + 1) _ (by omega) (by omega), List.length_append, List.length_take, List.length_drop]
        simp only [List.length_map]
        omega
      · rw [cutV_to _ (by omega), cutV_from (i := r + 1) _ (by omega) (by omega), List.map_append, List.map_append, List.map_take, List.map_drop]
      · exact k _ H17 _ (d114.trans (Dr.of ((e15.trans e16).trans e17))) (S14.ex ((e15.trans e16).trans e17)) (by omega) tx
end
end SL
end
section
set_option Elab.async false
set_option linter.all false
set_option maxRecDepth 100000
set_option maxHeartbeats 4000000
/-! Plain: the texts written are read back. -/
namespace SL
open PySem PySem.Spec PyProof.Rows L2 Evl
theorem numT_signs0 : ∀ i : Nat, i < 2001 → ((numT ((i : Int) - 1000)).cps.toList.all fun c => decide (c ≠ 10) && decide (c ≠ 32) && decide (c < 1114112)) = true := by decide +kernel
theorem numT_signs {n : Int} (h : -1000 ≤ n ∧ n ≤ 1000) : ∀ c ∈ TL.tl (numT n), c ≠ 10 ∧ c ≠ 32 ∧ c < 1114112 := fun c hc => by
  have := numT_signs0 (n + 1000).toNat (by omega)
  rw [show (((n + 1000).toNat : Nat) : Int) - 1000 = n by omega, List.all_eq_true] at this
  have := this c hc
  simp only [Bool.and_eq_true, decide_eq_true_eq] at this
  exact ⟨this.1.1, this.1.2, this.2⟩
theorem numT_3 : ∀ i : Nat, i < 201 → (numT ((i : Int) - 100)).length ≤ 4 := by decide +kernel
theorem numT_len3 {n : Int} (h : -100 ≤ n ∧ n ≤ 100) : (numT n).length ≤ 4 := by
  have := numT_3 (n + 100).toNat (by omega)
  rw [show (((n + 100).toNat : Nat) : Int) - 100 = n by omega] at this
  exact this
theorem nl_256 : ("\n" : Str).cps.all (· < 256) = true := by decide +kernel
theorem sp_256 : (" " : Str).cps.all (· < 256) = true := by decide +kernel
theorem line_signs {ns : List Int} (hs : Sm ns) : ∀ c ∈ TL.tl (lineT ns), c ≠ 10 ∧ c < 1114112 := fun c hc => by
  unfold lineT at hc
  rw [TL.join_eq, TL.tl_join, sp_tl] at hc
  rcases joinL_mem hc with h1 | ⟨p, hp, h1⟩
  · rw [List.mem_singleton.mp h1]
    decide
  · obtain ⟨z, hz, rfl⟩ := List.mem_map.mp hp
    obtain ⟨n, hn, rfl⟩ := List.mem_map.mp hz
    have := numT_signs (hs n hn) c h1
    exact ⟨this.1, this.2.2⟩
theorem line_asc {ns : List Int} (hs : Sm ns) : Asc (lineT ns) := fun c hc => (line_signs hs c hc).2
theorem words_line {ns : List Int} (hne : ns ≠ []) (hs : Sm ns) : wordsOf (lineT ns) = ns.map numT := by
  refine TL.split_join (s := 32) (S := []) sp_tl sp_256 (by simpa using hne) fun p hp => ?_
  obtain ⟨n, hn, rfl⟩ := List.mem_map.mp hp
  exact fun h => (numT_signs (hs n hn) 32 h).2.1 rfl
theorem lines_fam {rows : List (List Int)} (hne : rows ≠ []) (hs : ∀ r ∈ rows, Sm r) : linesOf (famT rows) = rows.map lineT := by
  refine TL.split_join (s := 10) (S := []) nl_tl nl_256 (by simpa using hne) fun p hp => ?_
  obtain ⟨r, hr, rfl⟩ := List.mem_map.mp hp
  exact fun h => (line_signs (hs r hr) 10 h).1 rfl
theorem famT_one (ns : List Int) : famT [ns] = lineT ns := by
  refine str_ext ?_
  have e : TL.tl (famT [ns]) = TL.joinL [10] ([lineT ns].map TL.tl) := join1 10 _ nl_tl _
  exact e
theorem lines_line {ns : List Int} (hs : Sm ns) : linesOf (lineT ns) = [lineT ns] := by
  have := lines_fam (rows := [ns]) (by simp) (fun r hr => by rw [List.mem_singleton.mp hr]; exact hs)
  rw [famT_one] at this
  exact this
theorem bad_nums {ns : List Int} (hs : Sm ns) : bad (ns.map numT) = none := by
  unfold bad
  rw [List.findIdx?_eq_none_iff]
  intro w hw
  obtain ⟨n, hn, rfl⟩ := List.mem_map.mp hw
  rw [numIn_numT (hs n hn)]
  rfl
theorem nums_nums {ns : List Int} (hs : Sm ns) : nums (ns.map numT) = ns := by
  unfold nums
  rw [List.map_map]
  conv => rhs; rw [← List.map_id ns]
  refine List.map_congr_left fun n hn => ?_
  show (numIn (numT n)).getD 0 = n
  rw [numIn_numT (hs n hn)]
  rfl
theorem isLot_ne {ns : List Int} (h : isLot ns = true) : ns ≠ [] := fun e => by
  have := (isLot_len h).1
  rw [e] at this
  simp at this
theorem due_line {ns : List Int} (h : isLot ns = true) : dueLot (lineT ns) = .okL ns := by
  have hs := isLot_sm h
  have e : (linesOf (lineT ns)).getD 0 Str.empty = lineT ns := by rw [lines_line hs]; rfl
  unfold dueLot
  rw [e, words_line (isLot_ne h) hs, bad_nums hs, nums_nums hs, lines_line hs]
  show (if 1 < 1 then Out.text 1 0 else if isLot ns = true then Out.okL ns else Out.lot ns) = _
  rw [if_neg (by decide), if_pos h]
theorem badLine_no : ∀ {ls : List Str} {k : Nat}, (∀ l ∈ ls, bad (wordsOf l) = none) → badLine k ls = none
  | [], _, _ => rfl
  | l :: ls, k, h => by
    unfold badLine
    rw [h l List.mem_cons_self]
    exact badLine_no fun x hx => h x (List.mem_cons_of_mem _ hx)
theorem due_fam {rows : List (List Int)} (h : famFault rows = none) : dueFam (famT rows) = .okF rows := by
  obtain ⟨h1, h2, h3⟩ := famFault_lots h
  have hne : rows ≠ [] := fun e => by rw [e] at h1; simp at h1
  have hs : ∀ r ∈ rows, Sm r := fun r hr => isLot_sm (h3 r hr)
  have hl := lines_fam hne hs
  have hb : badLine 0 (linesOf (famT rows)) = none := badLine_no fun l hl' => by
    rw [hl] at hl'
    obtain ⟨r, hr, rfl⟩ := List.mem_map.mp hl'
    rw [words_line (isLot_ne (h3 r hr)) (hs r hr)]
    exact bad_nums (hs r hr)
  have hr : rowsOf (famT rows) = rows := by
    unfold rowsOf
    rw [hl, List.map_map]
    conv => rhs; rw [← List.map_id rows]
    refine List.map_congr_left fun r hr => ?_
    show nums (wordsOf (lineT r)) = r
    rw [words_line (isLot_ne (h3 r hr)) (hs r hr)]
    exact nums_nums (hs r hr)
  unfold dueFam
  rw [hb, hr, h]
theorem goodL_lot {rows : List (List Int)} {p : Nat} (g : GoodL rows p) (h1 : 1 ≤ p) (h5 : p ≤ 5) : ∀ r ∈ rows, isLot r = true := fun r hr => by
  have hl := g.row r hr
  simp only [isLot, isBet, Bool.and_eq_true, decide_eq_true_eq, List.all_eq_true]
  refine ⟨⟨by omega, by omega⟩, fun x hx => ?_⟩
  have := g.lo r hr x hx
  omega
theorem goodL_fam {rows : List (List Int)} {p : Nat} (g : GoodL rows p) (h1 : 1 ≤ p) (h5 : p ≤ 5) : famFault rows = none := by
  have hlot := goodL_lot g h1 h5
  obtain ⟨l1, l2⟩ := g.len
  unfold famFault
  rw [if_neg (by omega), Option.map_eq_none_iff, List.find?_eq_none]
  intro i hi
  rw [List.mem_range] at hi
  have e : ∀ {j : Nat} (hj : j < rows.length), rows.getD j [] = rows[j] := fun hj => by simp [List.getD, hj]
  unfold badAt
  rw [e hi, e (by omega : 0 < rows.length), e (by omega : i - 1 < rows.length), hlot _ (List.getElem_mem hi), g.row _ (List.getElem_mem hi), g.row _ (List.getElem_mem (by omega : 0 < rows.length))]
  by_cases h0 : 0 < i
  · have := List.pairwise_iff_getElem.mp g.asd (i - 1) i (by omega) hi (by omega)
    rw [this]
    simp
  · simp [h0]
theorem sum_line {ns : List Int} (h5 : ns.length ≤ 5) (hb : ∀ x ∈ ns, -100 ≤ x ∧ x ≤ 100) : (lineT ns).length ≤ 25 := by
  have h := join_le1 (y := " ") (by decide +kernel) (ns.map numT)
  have hm : ∀ l : List Int, (∀ x ∈ l, -100 ≤ x ∧ x ≤ 100) → Msz (l.map numT) ≤ 5 * l.length := fun l => by
    induction l with
    | nil => intro _; exact Nat.le_refl _
    | cons x t ih =>
      intro hx
      have h1 := numT_len3 (hx x List.mem_cons_self)
      have h2 := ih fun y hy => hx y (List.mem_cons_of_mem _ hy)
      have e : Msz ((x :: t).map numT) = (numT x).length + 1 + Msz (t.map numT) := rfl
      rw [e, List.length_cons]
      omega
  have := hm ns hb
  unfold lineT
  omega
theorem fam_len {rows : List (List Int)} (h5 : ∀ r ∈ rows, r.length ≤ 5) (hb : ∀ r ∈ rows, ∀ x ∈ r, -100 ≤ x ∧ x ≤ 100) : (famT rows).length ≤ 26 * rows.length := by
  have h := join_le1 (y := "\n") (by decide +kernel) (rows.map lineT)
  have hm : ∀ l : List (List Int), (∀ r ∈ l, r.length ≤ 5) → (∀ r ∈ l, ∀ x ∈ r, -100 ≤ x ∧ x ≤ 100) → Msz (l.map lineT) ≤ 26 * l.length := fun l => by
    induction l with
    | nil => intro _ _; exact Nat.le_refl _
    | cons x t ih =>
      intro h1 h2
      have h3 := sum_line (h1 x List.mem_cons_self) (h2 x List.mem_cons_self)
      have h4 := ih (fun y hy => h1 y (List.mem_cons_of_mem _ hy)) fun y hy => h2 y (List.mem_cons_of_mem _ hy)
      have e : Msz ((x :: t).map lineT) = (lineT x).length + 1 + Msz (t.map lineT) := rfl
      rw [e, List.length_cons]
      omega
  have := hm rows h5 hb
  unfold famT
  omega
theorem fam_asc {rows : List (List Int)} (hs : ∀ r ∈ rows, Sm r) : Asc (famT rows) := asc_join asc_nl fun x hx => by
  obtain ⟨r, hr, rfl⟩ := List.mem_map.mp hx
  exact line_asc (hs r hr)
theorem line_tx {ns : List Int} (h5 : ns.length ≤ 5) (hb : ∀ x ∈ ns, -100 ≤ x ∧ x ≤ 100) : Tx (lineT ns) 546 25 := by
  have h := sum_line h5 hb
  exact ⟨by omega, LBl.of_len (by rw [← len_tl]; exact h), line_asc fun n hn => by have := hb n hn; omega⟩
theorem fam_tx {rows : List (List Int)} (hl : rows.length ≤ 21) (h5 : ∀ r ∈ rows, r.length ≤ 5) (hb : ∀ r ∈ rows, ∀ x ∈ r, -100 ≤ x ∧ x ≤ 100) : Tx (famT rows) 546 25 := by
  have h := fam_len h5 hb
  refine ⟨by omega, ?_, fam_asc fun r hr n hn => by have := hb r hr n hn; omega⟩
  have e : TL.tl (famT rows) = TL.joinL [10] ((rows.map lineT).map TL.tl) := join1 10 _ nl_tl _
  rw [e]
  refine joinL_nl fun p hp => ?_
  obtain ⟨z, hz, rfl⟩ := List.mem_map.mp hp
  obtain ⟨r, hr, rfl⟩ := List.mem_map.mp hz
  exact LBl.of_len (by rw [← len_tl]; exact sum_line (h5 r hr) (hb r hr))
/-- the bounds after k bendings -/
def TB : Nat → Nat × Nat
  | 0 => (546, 25)
  | k + 1 => ((TB k).1 + 2 * (TB k).2 + 40, 2 * (TB k).2 + 34)
theorem TB_le : ∀ k : Nat, k < 6 → (TB k).1 ≤ 30000 ∧ (TB k).2 ≤ 10000 := by decide
end SL
end
section
set_option Elab.async false
set_option linter.all false
set_option maxRecDepth 100000
set_option maxHeartbeats 4000000
/-! _law_hand_texts. -/
namespace SL
open PySem PySem.Spec PyProof.Rows L2 Evl
/-- a text that is short enough, of signs that there are -/
def okV : V → Bool
  | .str z => decide (z.length ≤ 30000) && z.cps.toList.all fun c => decide (c < 1114112)
  | _ => false
theorem okV_str {v : V} (h : okV v = true) : ∃ z : Str, v = .str z ∧ z.length ≤ 30000 ∧ Asc z := by
  cases v with
  | str z =>
    simp only [okV, Bool.and_eq_true, decide_eq_true_eq, List.all_eq_true] at h
    exact ⟨z, rfl, h.1, h.2⟩
  | _ => cases h
theorem ok202 : MulOk "1\n" 202 := ⟨by decide, by decide +kernel, by decide +kernel⟩
theorem ok300 : MulOk "1\n" 300 := ⟨by decide, by decide +kernel, by decide +kernel⟩
def spHand : Sp := fun vs H Q _ => vs = [] ∧ ∀ xs : List V, xs.all okV = true → RetL xs H Q
section
variable {P : Program} {w : World} {K : PySem.W.Frag} {mg : Str → Option Value} {base : Heap}
theorem ok_hand (M : Ma K mg) : Dn P w K mg base "_law_hand_texts" 1 [] spHand := by
  obtain ⟨fd, F⟩ := M.d_LawHandTexts
  refine Dn.of F M.g__law_hand_texts (fun _ _ _ _ _ _ us hl => match us, hl with | [], _ => rfl) (F.ok scLawHandTexts (fun vs H Q E h => ?_) (fun cdv A outer s H vs Q E hr h => ?_))
  · obtain ⟨rfl, _⟩ := h
    rfl
  · obtain ⟨rfl, k⟩ := h
    refine ⟨_, (pss_cons (ps_set (i := 0) scLawHandTexts.nd rfl (.inl rfl) (pe_lst (pa_cons pe_str (pa_cons pe_str (pa_cons pe_str (pa_cons pe_str (pa_cons pe_str (pa_cons pe_str (pa_cons pe_str (pa_cons pe_str (pa_cons pe_str (pa_cons pe_str (pa_cons pe_str (pa_cons pe_str (pa_cons pe_str (pa_cons pe_str pa_nil)))))))))))))))) <|
      pss_cons (ps_expr (pe_bm PySem.F.plainAttrs_list PySem.F.slot_list_append PySem.F.type_list_append mt_append (pv 0) (pa_cons pe_str pa_nil))) <|
      pss_cons (ps_set (i := 0) scLawHandTexts.nd rfl (.inl rfl) (pe_op op_cat (pv 0) (pe_lst (pa_cons pe_str (pa_cons pe_str (pa_cons pe_str (pa_cons pe_str (pa_cons pe_str (pa_cons pe_str (pa_cons pe_str (pa_cons pe_str (pa_cons pe_str (pa_cons pe_str (pa_cons pe_str (pa_cons pe_str (pa_cons pe_str pa_nil)))))))))))))))) <|
      pss_one (ps_ret (pe_op op_cat (pv 0) (pe_lst (pa_cons (pe_op op_mulS pe_str pe_int) (pa_cons (pe_op op_mulS pe_str pe_int) (pa_cons (pe_op op_add_str pe_str (pe_op op_mulS pe_str pe_int)) (pa_cons (pe_op op_add_str pe_str (pe_op op_mulS pe_str pe_int)) (pa_cons (pe_op op_add_str (pe_op op_mulS pe_str pe_int) pe_str) (pa_cons (pe_op op_add_str (pe_op op_mulS pe_str pe_int) pe_str) pa_nil)))))))))), ?_⟩
    refine q_asgL (el_lst (ea_cons ev_c (ea_cons ev_c (ea_cons ev_c (ea_cons ev_c (ea_cons ev_c (ea_cons ev_c (ea_cons ev_c (ea_cons ev_c (ea_cons ev_c (ea_cons ev_c (ea_cons ev_c (ea_cons ev_c (ea_cons ev_c (ea_cons ev_c ea_nil)))))))))))))) (by decide)) fun l1 H1 n1 e1 h1 => ?_
    refine q_appN (K := K) n1 e1 h1 (ev_var rfl) ev_c (by decide) fun H3 e02 h2 => ?_
    refine q_asgL (el_cat (es_v (ev_var rfl) h2) (es_l (el_lst (ea_cons ev_c (ea_cons ev_c (ea_cons ev_c (ea_cons ev_c (ea_cons ev_c (ea_cons ev_c (ea_cons ev_c (ea_cons ev_c (ea_cons ev_c (ea_cons ev_c (ea_cons ev_c (ea_cons ev_c (ea_cons ev_c ea_nil))))))))))))) (by decide))) (by decide)) fun l4 H4 n4 e4 h4 => ?_
    refine s_retL (el_cat (es_v (ev_var rfl) h4) (es_l (el_lst (ea_cons (ev_mulS ev_c ev_c ok31) (ea_cons (ev_mulS ev_c ev_c ok32) (ea_cons (ev_cat ev_c (ev_mulS ev_c ev_c ok31) (by decide +kernel)) (ea_cons (ev_cat ev_c (ev_mulS ev_c ev_c ok32) (by decide +kernel)) (ea_cons (ev_cat (ev_mulS ev_c ev_c ok202) ev_c (by decide +kernel)) (ea_cons (ev_cat (ev_mulS ev_c ev_c ok300) ev_c (by decide +kernel)) ea_nil)))))) (by decide))) (by decide)) fun l5 H5 n5 e5 h5 => ?_
    exact k _ (by decide +kernel) l5 H5 (fresh_back (e02.trans e4) n5) ((e02.trans e4).trans e5) h5
end
end SL
end
section
set_option Elab.async false
set_option linter.all false
set_option maxRecDepth 100000
set_option maxHeartbeats 4000000
/-! Helpers of law: its reader called, its draws, its texts. -/
namespace SL
open PySem PySem.Spec PyProof.Rows L2 Evl LamX
theorem fam_lenS {rows : List (List Int)} (h5 : ∀ r ∈ rows, r.length ≤ 5) (hs : ∀ r ∈ rows, Sm r) : (famT rows).length ≤ 31 * rows.length := by
  have h := join_le1 (y := "\n") (by decide +kernel) (rows.map lineT)
  have hm : ∀ l : List (List Int), (∀ r ∈ l, r.length ≤ 5) → (∀ r ∈ l, Sm r) → Msz (l.map lineT) ≤ 31 * l.length := fun l => by
    induction l with
    | nil => intro _ _; exact Nat.le_refl _
    | cons x t ih =>
      intro h1 h2
      have h3 := lineT_len (h2 x List.mem_cons_self)
      have h3' := h1 x List.mem_cons_self
      have h4 := ih (fun y hy => h1 y (List.mem_cons_of_mem _ hy)) fun y hy => h2 y (List.mem_cons_of_mem _ hy)
      have e : Msz ((x :: t).map lineT) = (lineT x).length + 1 + Msz (t.map lineT) := rfl
      rw [e, List.length_cons]
      omega
  have := hm rows h5 hs
  unfold famT
  omega
theorem asc_app {a b : Str} (ha : Asc a) (hb : Asc b) : Asc (a ++ b) := fun c hc => by
  have hc' : c ∈ TL.tl (a ++ b) := hc
  rw [TL.tl_append] at hc'
  rcases List.mem_append.mp hc' with h | h
  · exact ha c h
  · exact hb c h
theorem app_len (a b : Str) : (a ++ b).length = a.length + b.length := by rw [len_tl, TL.tl_append, List.length_append, ← len_tl, ← len_tl]
def widesR : List (List Int) := (List.range 199).map fun i : Nat => [-99 + (i : Int)]
def rowsR : List (List Int) := (List.range 201).map fun i : Nat => [(0 + (i : Int)) / 20, 0 + (i : Int)]
theorem wides_ok : ∀ r ∈ widesR, r.length ≤ 5 ∧ Sm r := fun r hr => by
  obtain ⟨i, hi, rfl⟩ := List.mem_map.mp hr
  rw [List.mem_range] at hi
  exact ⟨by show 1 ≤ 5; decide, fun n hn => by rw [List.mem_singleton.mp hn]; omega⟩
theorem rows_ok : ∀ r ∈ rowsR, r.length ≤ 5 ∧ Sm r := fun r hr => by
  obtain ⟨i, hi, rfl⟩ := List.mem_map.mp hr
  rw [List.mem_range] at hi
  refine ⟨by show 2 ≤ 5; decide, fun n hn => ?_⟩
  rcases List.mem_cons.mp hn with rfl | hn
  · omega
  · rw [List.mem_singleton.mp hn]; omega
section
variable {K : PySem.W.Frag} {σ : L2.St} {H H' : Hp} {ta tb te tf tp : TE} {tu tz : TS} {g : TG} {D : Ends} {st c l : Addr} {a : Nat}
theorem StAt.exN (S : StAt H st c l a) (e : ExtN H H') : StAt H' st c l a := by
  obtain ⟨cells, lefts, h1, h2, r⟩ := S.ls
  exact ⟨e _ _ S.d (by intro ps z; cases z), ⟨cells, lefts, e _ _ h1 (by intro ps z; cases z), e _ _ h2 (by intro ps z; cases z), r⟩, S.ne⟩
theorem tabs_dr {T : List (Addr × Str)} (t : Tabs T H) (S : StAt H st c l a) (d : Dr st l H H') : Tabs T H' := fun p hp => by
  obtain ⟨ps, h1, h2, h3⟩ := t p hp
  obtain ⟨cells, lefts, hc, hl, r⟩ := S.ls
  refine ⟨ps, d _ _ (fun z => ?_) (fun z => ?_) h1, h2, fun pos cv hcv => ?_⟩
  · rw [z, S.d] at h1; cases h1
  · rw [z, hl] at h1; cases h1
  · obtain ⟨k, e1, e2⟩ := h3 pos cv hcv
    refine ⟨k, e1, d _ _ (fun z => ?_) (fun z => ?_) e2⟩
    · rw [z, S.d] at e2; cases e2
    · rw [z, hl] at e2; cases e2
/-! ### the reader called -/
theorem q_rr {E : XK} {z : Str} (h : Ev te σ H (.str z)) (hz : z.length ≤ 30000) (hA : Asc z) (hT : Tabs (tRR K) H) (k : ∀ H1, ExtN H H1 → Tabs (tRR K) H1 → tz D σ H1) :
    tSeq (tIfS (tNot (tB (tCall (spReadRight K) [] E (tCons te tNil)))) tu tNext) tz D σ H :=
  h H (Ex.refl H) _ fun H1 e1 => ⟨z, rfl, hz, hA, hT.ext e1, fun H2 e2 T2 => ⟨true, rfl, k H2 ((ExtN.of e1).trans e2) T2⟩⟩
theorem s_rr {E : XK} {z : Str} (h : Ev te σ H (.str z)) (hz : z.length ≤ 30000) (hA : Asc z) (hT : Tabs (tRR K) H) (k : ∀ H1, ExtN H H1 → Tabs (tRR K) H1 → D.nx σ H1) :
    tIfS (tNot (tB (tCall (spReadRight K) [] E (tCons te tNil)))) tu tNext D σ H :=
  h H (Ex.refl H) _ fun H1 e1 => ⟨z, rfl, hz, hA, hT.ext e1, fun H2 e2 T2 => ⟨true, rfl, k H2 ((ExtN.of e1).trans e2) T2⟩⟩
theorem q_rr2 {E : XK} {z y : Str} (h : Ev te σ H (.str z)) (hz : z.length ≤ 30000) (hA : Asc z) (h' : ∀ H1, Ev tf σ H1 (.str y)) (hz' : y.length ≤ 30000) (hA' : Asc y) (hT : Tabs (tRR K) H) (k : ∀ H1, ExtN H H1 → Tabs (tRR K) H1 → tz D σ H1) :
    tSeq (tIfS (tOr (tNot (tB (tCall (spReadRight K) [] E (tCons te tNil)))) (tNot (tB (tCall (spReadRight K) [] E (tCons tf tNil))))) tu tNext) tz D σ H :=
  h H (Ex.refl H) _ fun H1 e1 => ⟨z, rfl, hz, hA, hT.ext e1, fun H2 e2 T2 => ⟨true, rfl, h' H2 H2 (Ex.refl H2) _ fun H3 e3 => ⟨y, rfl, hz', hA', T2.ext e3, fun H4 e4 T4 => ⟨true, rfl, k H4 ((((ExtN.of e1).trans e2).trans (ExtN.of e3)).trans e4) T4⟩⟩⟩⟩
/-! ### repr -/
def rRepr (K : PySem.W.Frag) : List V → Hp → VK → Prop := fun xs H Q => ∃ (a : Addr) (d : PyData), xs = [.ref a] ∧ Dp K H (.ref a) d ∧ d.showable = true ∧ d.hasDict = false ∧ d.depth ≤ 60 ∧ d.shown.length ≤ sizeLine ∧ Q (.str d.shown) H
def EvP (K : PySem.W.Frag) (te : TE) (σ : L2.St) (H : Hp) (d : PyData) : Prop := ∀ H1, Ex H H1 → ∀ Q : VK, (∀ a H2, Ex H1 H2 → Dp K H2 (.ref a) d → Q (.ref a) H2) → te σ H1 Q
theorem ev_repr {d : PyData} {b : Nat} (h : EvP K te σ H d) (s : Sml d b 60) (hb : b ≤ 160004) : Ev (tCB (rRepr K) (tCons te tNil)) σ H (.str d.shown) := fun H1 e Q q =>
  h H1 e _ fun a H2 e2 hd => ⟨a, d, rfl, hd, s.sh, s.nd, s.dp, by
    have h1 := PyData.shown_le_bulk 40 (by decide) _ s.lv
    have h2 := s.bk
    rw [sizeLine_eq]
    have h3 : (40 + 2) * d.bulk ≤ 42 * 160004 := Nat.mul_le_mul_left _ (Nat.le_trans h2 hb)
    omega, q H2 e2⟩
theorem ep_var {d : PyData} {p : Addr} (h : Ev te σ H (.ref p)) (hd : Dp K H (.ref p) d) : EvP K te σ H d := fun H1 e Q q => h H1 e _ fun H2 e2 => q p H2 e2 (Dp.ex (e.trans e2) _ _ hd)
theorem sml_lotD {ns : List Int} (h : isLot ns = true) : Sml (intsD ns) 5 60 :=
  ((sml_ints fun n hn => by have := isLot_sm h n hn; exact Nat.lt_of_le_of_lt (show n.natAbs ≤ 1000 by omega) (by decide)).tup).up (isLot_len h).2 (by decide)
theorem sml_famD {rows : List (List Int)} (h : famFault rows = none) : Sml (.tuple (rows.map intsD)) 1200 60 := by
  obtain ⟨h1, h2, h3⟩ := famFault_lots h
  refine ((sml_rows fun r hr => ⟨(isLot_len (h3 r hr)).2, fun n hn => ?_⟩).tup).up (by omega) (by decide)
  have := isLot_sm (h3 r hr) n hn
  exact Nat.lt_of_le_of_lt (show n.natAbs ≤ 1000 by omega) (by decide)
theorem ep_readlot {E : XK} {ns : List Int} (h : Ev te σ H (.str (lineT ns))) (hl : isLot ns = true) : EvP K (tCall (spReadLot K) [] E (tCons te tNil)) σ H (intsD ns) := fun H1 e Q q => h H1 e _ fun H2 e2 => by
  have hlen : (lineT ns).length ≤ 30000 := by
    have := lineT_len (isLot_sm hl)
    have := isLot_len hl
    omega
  refine ⟨_, rfl, hlen, fun i j hd => ?_, fun ms hd => ?_, fun ms hd p H3 np e3 hp => ?_⟩
  · rw [due_line hl] at hd; cases hd
  · rw [due_line hl] at hd; cases hd
  · rw [due_line hl] at hd
    cases hd
    exact q p H3 (e2.trans e3) (.tup (st_of hp) (dp_ints _))
theorem ep_readfam {E : XK} {rows : List (List Int)} (h : Ev te σ H (.str (famT rows))) (hf : famFault rows = none) : EvP K (tCall (spReadFamily K) [] E (tCons te tNil)) σ H (.tuple (rows.map intsD)) := fun H1 e Q q => h H1 e _ fun H2 e2 => by
  obtain ⟨h1, h2, h3⟩ := famFault_lots hf
  have hlen : (famT rows).length ≤ 30000 := by
    have := fam_lenS (rows := rows) (fun r hr => (isLot_len (h3 r hr)).2) fun r hr => isLot_sm (h3 r hr)
    omega
  refine ⟨_, rfl, hlen, fun i j hd => ?_, fun o hd => ?_, fun ms hd p ps H3 np e3 hp hR hrw => ?_⟩
  · rw [due_fam hf] at hd; cases hd
  · rw [due_fam hf] at hd; cases hd
  · rw [due_fam hf] at hd
    cases hd
    subst hrw
    exact q p H3 (e2.trans e3) (.tup (st_of hp) (dp_rows hR))
/-! ### the draws -/
theorem q_begin {E : XK} {i : Nat} {s : Addr} {ns : List Int} (hs : σ[0]? = some (some (.ref s))) (hS : SqL K H s (ns.map V.int)) (hn : ns.length ≤ 63) (k : ∀ st c l H1, Ex H H1 → StAt H1 st c l 0 → tz D (σ.set i (some (.ref st))) H1) :
    tSeq (tAsg (tCall (spBegin K) [] E (tCons (tVar 0) tNil)) (gName i)) tz D σ H :=
  ⟨_, hs, s, ns, rfl, hS, hn, fun st c l H1 e1 S1 _ _ _ => k st c l H1 e1 S1⟩
theorem ev_min2 {i j : Int} (h1 : Ev ta σ H (.int i)) (h2 : Ev tb σ H (.int j)) : Ev (tCB (fun xs H Q => ∃ i j, xs = [V.int i, V.int j] ∧ Q (.int (if j < i then j else i)) H) (tCons ta (tCons tb tNil))) σ H (.int (if j < i then j else i)) :=
  ev_cb (ea_cons h1 (ea_cons h2 ea_nil)) fun H1 e Q q => ⟨i, j, rfl, q H1 (Ex.refl _)⟩
theorem q_lots {E : XK} {i p : Nat} (hs : σ[1]? = some (some (.ref st))) (hp : σ[3]? = some (some (.int (p : Int)))) (S : StAt H st c l a) (ha : a + 300 ≤ 100000) (h1 : 1 ≤ p) (h5 : p ≤ 5)
    (k : ∀ t ps H1 a1, Dr st l H H1 → StAt H1 st c l a1 → a1 ≤ a + 300 → H1 t = some (.tup (rv ps)) → RowsAt K H1 ps → GoodL (rw' ps) p → tz D (σ.set i (some (.ref t))) H1) :
    tSeq (tAsg (tCB (fun xs H Q => ∃ p ys, xs = [.ref p] ∧ ((SqL K H p ys ∧ ∀ l, H l = none → Q (.ref l) (upd H l (.tup ys))) ∨ (SqT K H p ys ∧ Q (.ref p) H))) (tCons (tCall (spLots K) [] E (tCons (tVar 1) (tCons (tVar 3) (tCons (tC (.int 20)) tNil)))) tNil)) (gName i)) tz D σ H :=
  ⟨_, hs, _, hp, st, c, l, a, p, rfl, S, ha, h1, h5, fun b ps H' a' d S' ha' nb hb hR hG => ⟨b, rv ps, rfl, .inl ⟨sq_of hb, fun t ht => k t ps _ a' (d.trans (Dr.of (Ex.new ht))) (S'.ex (Ex.new ht)) ha' upd_same (hR.ex (Ex.new ht)) hG⟩⟩⟩
/-- tuple([.. for _ in range(e)]), e drawn, too -/
theorem edt_rngD {p0 n0 m : Nat} {j : Nat} {vs : List Nat} {Px : Int → Prop} (hp : EvD st c l tp σ H n0 (fun v _ => ∃ x, v = .int x ∧ 1 ≤ x ∧ x ≤ (p0 : Int))) (hz : p0 ≤ 1000) (hw : ∀ x, wipe ((wipe σ vs).set j (some x)) vs = wipe σ vs)
    (he : ∀ (i : Nat) H1, Dr st l H H1 → EvD st c l te ((wipe σ vs).set j (some (.int (i : Int)))) H1 m (fun v _ => ∃ x, v = .int x ∧ Px x)) :
    EvDT K st c l (tCB (fun xs H Q => ∃ p ys, xs = [.ref p] ∧ ((SqL K H p ys ∧ ∀ l, H l = none → Q (.ref l) (upd H l (.tup ys))) ∨ (SqT K H p ys ∧ Q (.ref p) H))) (tCons (tLc (iRng1 (tCons tp tNil)) (gName j) tYes te vs) tNil)) σ H (n0 + p0 * m) (fun xs => (1 ≤ xs.length ∧ xs.length ≤ p0) ∧ ∀ x ∈ xs, Px x) := fun H1 a d S ha Q q => by
  have h0 : ∀ i : Nat, (0 : Int) + (i : Int) = (i : Int) := fun i => Int.zero_add _
  have e0 : ∀ (Q : VK) (H : Hp), iRng1 (tCons tp tNil) σ H (fun J H' => tLc (fun _ H R => R J H) (gName j) tYes te vs σ H' Q) → tLc (iRng1 (tCons tp tNil)) (gName j) tYes te vs σ H Q := fun _ _ h => h
  refine e0 (fun x H' => ∃ p ys, [x] = [V.ref p] ∧ ((SqL K H' p ys ∧ ∀ l, H' l = none → Q (.ref l) (upd H' l (.tup ys))) ∨ (SqT K H' p ys ∧ Q (.ref p) H'))) H1 ?_
  refine hp H1 a d S (by omega) _ fun v H2 a2 d2 S2 ha2 hv => ?_
  obtain ⟨x, rfl, x1, xp⟩ := hv
  obtain ⟨n, rfl⟩ := Int.eq_ofNat_of_zero_le (by omega : 0 ≤ x)
  have hnm : n * m ≤ p0 * m := Nat.mul_le_mul_right m (by omega)
  refine ⟨(n : Int), rfl, by omega, by omega, ?_⟩
  refine ed_lcIt (walk_range (lo := 0) (n := n)) (m := m) (Px := fun _ => Px) (fun H2 d2 R r => r H2 (Ex.refl _)) (fun _ _ => True.intro) (by omega) (fun i x H2 H3 hi d2 y => ?_) H2 a2 (d.trans d2) S2 (by omega) _ fun pl xs H3 a3 nl d3 S3 ha3 hl hlen hall => ?_
  · obtain ⟨rfl, rfl⟩ := y
    refine ⟨Ex.refl _, _, fun q hq => hq, hw _, ?_⟩
    have e := he i _ d2
    rw [← h0 i] at e
    exact e
  · exact ⟨pl, _, rfl, .inl ⟨sq_of hl, fun r hr => q r xs _ a3 ((d2.trans d3).trans (Dr.of (Ex.new hr))) (S3.ex (Ex.new hr)) (by omega) (st_of upd_same) ⟨⟨by omega, by omega⟩, fun x hx => by
      obtain ⟨k, hk⟩ := List.getElem?_of_mem hx
      exact hall k x hk⟩⟩⟩
/-! ### a for over a new tuple; a line -/
theorem s_forNT {xs : List V} {tl : TE} (h : EvU tl σ H xs) (Pv : Addr → Nat → L2.St → Hp → Prop) (h0 : ∀ p H1, H p = none → Ex H H1 → H1 p = some (.tup xs) → Pv p 0 σ H1) (hl : ∀ p i σ' H', i ≤ xs.length → Pv p i σ' H' → SqT K H' p xs)
    (hs : ∀ p i x σ' H', xs[i]? = some x → Pv p i σ' H' → g x σ' H' fun σ2 H2 => tu { D with nx := Pv p (i + 1), ct := Pv p (i + 1), bk := D.nx } σ2 H2) (hd : ∀ p σ' H', Pv p xs.length σ' H' → D.nx σ' H') : tFor (iTup K tl) g tu D σ H :=
  h H (Ex.refl H) _ fun p H1 np e1 hp => ⟨p, rfl, ⟨xs, st_of hp⟩, for_tup (Pv p) (h0 p H1 np e1 hp) (hl p) (hs p) (hd p)⟩
theorem ev_line {E : XK} {p : Addr} {ns : List Int} (h : Ev te σ H (.ref p)) (hp : SqT K H p (ns.map V.int)) (hl : ns.length ≤ 1000) (hs : Sm ns) : Ev (tCall (spLineOf K) [] E (tCons te tNil)) σ H (.str (lineT ns)) :=
  ev_call (ea_cons h ea_nil) fun H1 e Q q E => ⟨p, ns, rfl, ex_t e hp, hl, hs, q⟩
theorem ev_lineU {E : XK} {ns : List Int} (h : EvU te σ H (ns.map V.int)) (hl : ns.length ≤ 1000) (hs : Sm ns) : Ev (tCall (spLineOf K) [] E (tCons te tNil)) σ H (.str (lineT ns)) := fun H1 e Q q =>
  h H1 e _ fun p H2 np e2 hp => ⟨p, ns, rfl, st_of hp, hl, hs, fun H3 e3 => q H3 (e2.trans e3)⟩
theorem ev_lottext {E : XK} {p : Addr} {ns : List Int} (h : Ev te σ H (.ref p)) (hp : SqT K H p (ns.map V.int)) (hl : isLot ns = true) : Ev (tCall (spLotText K) [] E (tCons te tNil)) σ H (.str (lineT ns)) :=
  ev_call (ea_cons h ea_nil) fun H1 e Q q E => ⟨p, ns, rfl, ex_t e hp, hl, q⟩
theorem ev_lottextU {E : XK} {ns : List Int} (h : EvU te σ H (ns.map V.int)) (hl : isLot ns = true) : Ev (tCall (spLotText K) [] E (tCons te tNil)) σ H (.str (lineT ns)) := fun H1 e Q q =>
  h H1 e _ fun p H2 np e2 hp => ⟨p, ns, rfl, st_of hp, hl, fun H3 e3 => q H3 (e2.trans e3)⟩
theorem ev_famtext {E : XK} {p : Addr} {ps : List (Addr × List Int)} (h : Ev te σ H (.ref p)) (hp : SqT K H p (rv ps)) (hR : RowsAt K H ps) (hl : ∀ r ∈ rw' ps, isLot r = true) (hf : famFault (rw' ps) = none) : Ev (tCall (spFamilyText K) [] E (tCons te tNil)) σ H (.str (famT (rw' ps))) :=
  ev_call (ea_cons h ea_nil) fun H1 e Q q E => ⟨p, ps, rfl, ex_t e hp, hR.ex e, fun x hx => hl _ (List.mem_map_of_mem hx), hf, q⟩
theorem fam_fit {rows : List (List Int)} (h5 : ∀ r ∈ rows, r.length ≤ 5) (hs : ∀ r ∈ rows, Sm r) (hl : rows.length ≤ 1000) : ((rows.map lineT).map (·.length)).sum + (rows.map lineT).length * ("\n" : Str).length ≤ 16777216 := by
  refine msz_fit (by decide +kernel) ?_
  have h := msz_join nl_tl (rows.map lineT)
  have h2 := fam_lenS h5 hs
  unfold famT at h2
  omega
/-- [line for i in range(lo, lo + n)] -/
theorem el_lcRg {ta : TA} {lo hi : Int} {n : Nat} {f : Nat → V} {j : Nat} {vs : List Nat} (h : EvA ta σ H [.int lo, .int hi]) (hb : -100000 ≤ lo ∧ lo ≤ 100000 ∧ -100000 ≤ hi ∧ hi ≤ 100000) (hn : (hi - lo).toNat = n) (hz : n ≤ 40000) (hw : ∀ x, wipe ((wipe σ vs).set j (some x)) vs = wipe σ vs)
    (he : ∀ (i : Nat) H1, i < n → Ex H H1 → Ev te ((wipe σ vs).set j (some (.int (lo + (i : Int))))) H1 (f i)) : EvL (tLc (iRng2 ta) (gName j) tYes te vs) σ H ((List.range n).map f) := by
  rw [← given_all]
  refine el_lcIt (walk_range (lo := lo) (n := n)) (fun _ => true) f (fun H1 e1 R r => h H1 e1 _ fun H2 e2 => ⟨lo, hi, rfl, ⟨by omega, by omega, by omega, by omega⟩, ?_⟩) (fun _ _ => True.intro) hz fun i x H1 H2 hi e1 y => ?_
  · rw [hn]
    exact r H2 e2
  · obtain ⟨rfl, rfl⟩ := y
    exact ⟨Ex.refl _, _, hw _, fun q hq => hq, et_yes, fun _ => he i _ hi e1⟩
end
end SL
end
section
set_option Elab.async false
set_option linter.all false
set_option maxRecDepth 100000
set_option maxHeartbeats 4000000
/-! law. -/
namespace SL
open PySem PySem.Spec PyProof.Rows L2 Evl LamX
def spLaw (K : PySem.W.Frag) : Sp := fun vs H Q _ => ∃ (s : Addr) (ns : List Int), vs = [.ref s] ∧ SqL K H s (ns.map V.int) ∧ ns.length ≤ 63 ∧ Tabs (tRR K) H ∧ ∀ H', Q (.bl true) H'
section
variable {P : Program} {w : World} {K : PySem.W.Frag} {mg : Str → Option Value} {base : Heap}
theorem ok_law (M : Ma K mg) (hP : Pg P) (hTB : TabB base mg (cRR K) (pRR K)) : Gn P w K mg base "law" 15 ["_law_script"] (spLaw K) := by
  obtain ⟨fd, F⟩ := M.d_Law
  have kp := F.kp
  have bN : Binds K fd ["_law_script"] [] := F.bindsN (fun _ _ _ _ _ _ us hl => match us, hl with | [_], _ => rfl)
  obtain ⟨oc, od, dV, kV, doc, pm, an, cdv, ct, osl, rfl, lk, hcd, _, _⟩ := F.ex
  refine ⟨_, _, fun vs H Q E h => ?_, fun A outer s H args us vs Q E hG hr e0 hb r h => ?_, M.g_law, kp, bN⟩
  · obtain ⟨s, ns, rfl, _⟩ := h
    rfl
  · have hlen : vs.length = 1 := by
      obtain ⟨s, ns, rfl, _⟩ := h
      rfl
    refine run_ofS (CX := L2.CX P w) (k := 14) (N := ["_law_script", "_law_state", "_law_turn", "_law_places", "_law_lots_here", "_law_lot", "_law_text", "_law_near", "_law_again", "_law_wide", "_law_rows", "_law_k", "_law_row", "_law_number_here"]) (ps := ["_law_script"]) lk hcd scLaw hr e0 hb r hlen fun hr' => ?_
    obtain ⟨sc, ns, rfl, hS, hn, hT, q⟩ := h
    have RR := ok_read_right (P := P) (w := w) (base := base) M hP hTB
    have hG' : (cxOf (L2.CX P w) P w K mg base ["_law_script", "_law_state", "_law_turn", "_law_places", "_law_lots_here", "_law_lot", "_law_text", "_law_near", "_law_again", "_law_wide", "_law_rows", "_law_k", "_law_row", "_law_number_here"] "law" (defScope sLaw) (He.ga K "law") cdv A outer s H E).A.guards = some [] := hG
    have r1 := hr'.mono (show 1 ≤ 14 by decide)
    have r2 := hr'.mono (show 2 ≤ 14 by decide)
    have r4 := hr'.mono (show 4 ≤ 14 by decide)
    have r5 := hr'.mono (show 5 ≤ 14 by decide)
    have r6 := hr'.mono (show 6 ≤ 14 by decide)
    have r9 := hr'.mono (show 9 ≤ 14 by decide)
    refine ⟨_, (pss_cons (ps_set (i := 1) scLaw.nd rfl (.inr rfl) (pe_dn (ok_begin M) r1 passL (pa_cons (pv 0) pa_nil))) <|
      pss_cons (ps_for (passes_of rfl) rfl (pi_range1 (by rfl) M.n_range (pa_cons (pe_op op_add pe_int (pe_callB (call_min2 rfl) (by rfl) M.n_min (by decide +kernel) (pa_cons (pe_callB call_len_seq (by rfl) M.n_len PySem.boot_len (pa_cons (pv 0) pa_nil)) (pa_cons pe_int pa_nil)))) pa_nil)) (pg_name (i := 2) scLaw.nd rfl (.inl rfl))
        (pss_cons (ps_set (i := 3) scLaw.nd rfl (.inl rfl) (pe_op op_add pe_int (pe_dn (ok_draw M) r2 passL (pa_cons (pv 1) (pa_cons pe_int pa_nil))))) <|
         pss_cons (ps_set (i := 4) scLaw.nd rfl (.inl rfl) (pe_callTy call_tuple_of (by rfl) M.n_tuple (by decide +kernel) (pa_cons (pe_dn (ok_lots M) hr' passL (pa_cons (pv 1) (pa_cons (pv 3) (pa_cons pe_int pa_nil)))) pa_nil))) <|
         pss_cons (ps_set (i := 5) scLaw.nd rfl (.inl rfl) (pe_callTy call_tuple_of (by rfl) M.n_tuple (by decide +kernel) (pa_cons (pe_lc (own := [("_law_k", 11)]) (g := gName 11) (tt := tYes) rfl scLaw.nd
            (pi_range1 (by rfl) M.n_range (pa_cons (pe_op op_add pe_int (pe_dn (ok_draw M) r2 passL (pa_cons (pv 1) (pa_cons pe_int pa_nil)))) pa_nil))
            (blkOk_by (N := ["_law_script", "_law_state", "_law_turn", "_law_places", "_law_lots_here", "_law_lot", "_law_text", "_law_near", "_law_again", "_law_wide", "_law_rows", "_law_k", "_law_row", "_law_number_here"]) (sc := defScope sLaw) (by decide +kernel))
            (fun _ _ _ _ _ => pg_name (i := 11) scLaw.nd rfl (Or.inl rfl)) (fun _ _ _ _ _ => pts_nil)
            (fun _ _ _ _ _ => pe_op op_sub (pe_dn (ok_draw M) r2 passL (pa_cons (pv 1) (pa_cons pe_int pa_nil))) pe_int)) pa_nil))) <|
         pss_cons (ps_if (PW.pt (pw_or (pt_cmpR op_ne (pe_dn (ok_lot_text M hP) r5 passL (pa_cons (pv 5) pa_nil)) (pe_dn (ok_law_line M) r1 passL (pa_cons (pv 5) pa_nil)) (nomark _))
            (pw_or1 (pt_cmpR op_ne (pe_callB (call_repr hG' hr'.units) (by rfl) M.n_repr (by decide +kernel) (pa_cons (pe_dn (ok_read_lot M hP) r5 passL (pa_cons (pe_dn (ok_lot_text M hP) r5 passL (pa_cons (pv 5) pa_nil)) pa_nil)) pa_nil))
              (pe_callB (call_repr hG' hr'.units) (by rfl) M.n_repr (by decide +kernel) (pa_cons (pv 5) pa_nil)) (nomark _)))))
            (pss_one (ps_ret pe_bl)) pss_nil) <|
         pss_cons (ps_set (i := 6) scLaw.nd rfl (.inl rfl) (pe_join pe_str (pe_lc (own := [("_law_row", 12)]) (g := gName 12) (tt := tYes) rfl scLaw.nd (pi_tup (pv 4))
            (blkOk_by (N := ["_law_script", "_law_state", "_law_turn", "_law_places", "_law_lots_here", "_law_lot", "_law_text", "_law_near", "_law_again", "_law_wide", "_law_rows", "_law_k", "_law_row", "_law_number_here"]) (sc := defScope sLaw) (by decide +kernel))
            (fun _ _ _ _ _ => pg_name (i := 12) scLaw.nd rfl (Or.inl rfl)) (fun _ _ _ _ _ => pts_nil)
            (fun _ _ _ _ _ => pe_dn (ok_law_line M) r1 passL (pa_cons (pv 12) pa_nil))))) <|
         pss_cons (ps_if (PW.pt (pw_or (pt_cmpR op_ne (pe_dn (ok_family_text M hP) r6 passL (pa_cons (pv 4) pa_nil)) (pv 6) (nomark _))
            (pw_or1 (pt_cmpR op_ne (pe_callB (call_repr hG' hr'.units) (by rfl) M.n_repr (by decide +kernel) (pa_cons (pe_dn (ok_read_family M hP) r6 passL (pa_cons (pv 6) pa_nil)) pa_nil))
              (pe_callB (call_repr hG' hr'.units) (by rfl) M.n_repr (by decide +kernel) (pa_cons (pv 4) pa_nil)) (nomark _)))))
            (pss_one (ps_ret pe_bl)) pss_nil) <|
         pss_one (ps_for (passes_of rfl) rfl (pi_tup (pe_tup (pa_cons (pe_dn (ok_law_line M) r1 passL (pa_cons (pv 5) pa_nil)) (pa_cons (pv 6) pa_nil)))) (pg_name (i := 7) scLaw.nd rfl (.inl rfl))
           (pss_one (ps_for (passes_of rfl) rfl (pi_range1 (by rfl) M.n_range (pa_cons pe_int pa_nil)) (pg_name (i := 8) scLaw.nd rfl (.inl rfl))
             (pss_cons (ps_set (i := 7) scLaw.nd rfl (.inl rfl) (pe_dn (ok_bent M) r4 passL (pa_cons (pv 1) (pa_cons (pv 7) pa_nil)))) <|
              pss_one (ps_if (pt_not (pt_val (pe_gn RR hG' r9 passL (pa_cons (pv 7) pa_nil)))) (pss_one (ps_ret pe_bl)) pss_nil))))))) <|
      pss_cons (ps_for (passes_of rfl) rfl (pi_list (pe_dn0 (ok_hand M) r1 passL)) (pg_name (i := 6) scLaw.nd rfl (.inl rfl))
        (pss_one (ps_if (pt_not (pt_val (pe_gn RR hG' r9 passL (pa_cons (pv 6) pa_nil)))) (pss_one (ps_ret pe_bl)) pss_nil))) <|
      pss_cons (ps_set (i := 9) scLaw.nd rfl (.inl rfl) (pe_join pe_str (pe_lc (own := [("_law_number_here", 13)]) (g := gName 13) (tt := tYes) rfl scLaw.nd (pi_range2 (by rfl) M.n_range (pa_cons (pe_un un_neg pe_int) (pa_cons pe_int pa_nil)))
            (blkOk_by (N := ["_law_script", "_law_state", "_law_turn", "_law_places", "_law_lots_here", "_law_lot", "_law_text", "_law_near", "_law_again", "_law_wide", "_law_rows", "_law_k", "_law_row", "_law_number_here"]) (sc := defScope sLaw) (by decide +kernel))
            (fun _ _ _ _ _ => pg_name (i := 13) scLaw.nd rfl (Or.inl rfl)) (fun _ _ _ _ _ => pts_nil)
            (fun _ _ _ _ _ => pe_dn (ok_law_line M) r1 passL (pa_cons (pe_tup (pa_cons (pv 13) pa_nil)) pa_nil))))) <|
      pss_cons (ps_if (PW.pt (pw_or (pt_not (pt_val (pe_gn RR hG' r9 passL (pa_cons (pv 9) pa_nil)))) (pw_or1 (pt_not (pt_val (pe_gn RR hG' r9 passL (pa_cons (pe_op op_add_str (pv 9) pe_str) pa_nil))))))) (pss_one (ps_ret pe_bl)) pss_nil) <|
      pss_cons (ps_set (i := 10) scLaw.nd rfl (.inl rfl) (pe_join pe_str (pe_lc (own := [("_law_number_here", 13)]) (g := gName 13) (tt := tYes) rfl scLaw.nd (pi_range2 (by rfl) M.n_range (pa_cons pe_int (pa_cons pe_int pa_nil)))
            (blkOk_by (N := ["_law_script", "_law_state", "_law_turn", "_law_places", "_law_lots_here", "_law_lot", "_law_text", "_law_near", "_law_again", "_law_wide", "_law_rows", "_law_k", "_law_row", "_law_number_here"]) (sc := defScope sLaw) (by decide +kernel))
            (fun _ _ _ _ _ => pg_name (i := 13) scLaw.nd rfl (Or.inl rfl)) (fun _ _ _ _ _ => pts_nil)
            (fun _ _ _ _ _ => pe_dn (ok_law_line M) r1 passL (pa_cons (pe_tup (pa_cons (pe_op op_fdiv (pv 13) pe_int) (pa_cons (pv 13) pa_nil))) pa_nil))))) <|
      pss_one (ps_ret (pe_and (pe_gn RR hG' r9 passL (pa_cons (pv 10) pa_nil)) (pe_one (pe_cmpR op_eq (pe_dn (ok_lot_text M hP) r5 passL (pa_cons (pe_tup (pa_cons pe_int (pa_cons (pe_un un_neg pe_int) (pa_cons pe_int pa_nil)))) pa_nil)) pe_str (nomark _)))))), ?_⟩
    have dro : ∀ {st c l : Addr} {σ : L2.St} {H1 : Hp} {m : Int} {te : TE}, σ[1]? = some (some (.ref st)) → (∀ H2, Dr st l H1 H2 → Ev te σ H2 (.int m)) → 1 ≤ m → m ≤ 100000 → EvD st c l (tCall spDraw [] E0 (tCons (tVar 1) (tCons te tNil))) σ H1 1 (fun v _ => ∃ x, v = .int x ∧ 0 ≤ x ∧ x < m) := fun hσ hm h1 h2 => ed_draw (fun _ => ev_var hσ) hm h1 h2
    refine q_begin (K := K) rfl hS hn fun st c l H1 e1 S1 => ?_
    have T1 := hT.ext e1
    have nlen : (ns.map V.int).length = ns.length := List.length_map ..
    refine q_forR1 (n := 4 + (if (8 : Int) < ((ns.map V.int).length : Int) then 8 else ((ns.map V.int).length : Int))) (ea_cons (ev_add ev_c (ev_min2 (ev_len (K := K) (ev_var (i := 0) (v := .ref sc) rfl) (ex_l e1 hS)) ev_c)) ea_nil) (by split <;> omega)
      (fun i σ' H' => ∃ (a : Nat) (x2 x3 x4 x5 x6 x7 x8 : Option V), σ' = [some (.ref sc), some (.ref st), x2, x3, x4, x5, x6, x7, x8, none, none, none, none, none] ∧ StAt H' st c l a ∧ a ≤ i * 420 ∧ Tabs (tRR K) H')
      (fun H2 e2 => ⟨0, none, none, none, none, none, none, none, rfl, S1.ex e2, Nat.zero_le _, T1.ext e2⟩) (fun i σ' H2 hi hP => ?_) (fun σ' H2 hP => ?_)
    · obtain ⟨a, x2, x3, x4, x5, x6, x7, x8, rfl, S2, ha2, T2⟩ := hP
      have hi12 : i ≤ 11 := by split at hi <;> omega
      have ha : a ≤ 4620 := by omega
      refine q_asgD (ed_mono (n := 0 + 1) (m := 1) (ed_int2 (g := fun i j => i + j) (P1 := fun x => x = 1) (ed_c rfl) (dro (m := 4) rfl (fun _ _ => ev_c) (by decide) (by decide))) (Nat.le_refl _) fun v _ h => h) S2 (by omega) fun v H3 a3 d3 S3 ha3 hv => ?_
      obtain ⟨x, y, rfl, rfl, y0, y4⟩ := hv
      have T3 := tabs_dr T2 S2 d3
      obtain ⟨p, hp⟩ := Int.eq_ofNat_of_zero_le (by omega : (0 : Int) ≤ 1 + y)
      rw [hp]
      refine q_lots (K := K) (p := p) rfl rfl S3 (by omega) (by omega) (by omega) fun t ps H4 a4 d4 S4 ha4 ht hR hG4 => ?_
      have T4 := tabs_dr T3 S3 d4
      have hlots := goodL_lot hG4 (by omega) (by omega)
      have hff := goodL_fam hG4 (by omega) (by omega)
      have hrl := hG4.len
      refine q_asgDT (K := K) (n := 1 + 5 * 1) (P := fun xs => (1 ≤ xs.length ∧ xs.length ≤ 5) ∧ ∀ x ∈ xs, -99 ≤ x ∧ x ≤ 99) (edt_rngD (p0 := 5) (n0 := 1) (m := 1) (Px := fun x => -99 ≤ x ∧ x ≤ 99)
        (ed_mono (n := 0 + 1) (m := 1) (ed_int2 (g := fun i j => i + j) (P1 := fun x => x = 1) (ed_c rfl) (dro (m := 5) rfl (fun _ _ => ev_c) (by decide) (by decide))) (Nat.le_refl _) fun v _ ⟨x, y, e, h1, h2, h3⟩ => ⟨x + y, e, by omega, by omega⟩)
        (by decide) (fun _ => rfl)
        fun i H5 d5 => ed_mono (n := 1 + 0) (ed_int2 (g := fun i j => i - j) (P2 := fun x => x = 99) (dro (m := 199) rfl (fun _ _ => ev_c) (by decide) (by decide)) (ed_c rfl)) (Nat.le_refl _) fun v _ ⟨x, y, e, ⟨h1, h2⟩, h3⟩ => ⟨x - y, e, by omega, by omega⟩) S4 (by omega) fun pl lot H5 a5 d5 S5 ha5 hpl hlot => ?_
      obtain ⟨hlot1, hlot2⟩ := hlot
      have T5 := tabs_dr T4 S4 d5
      have ht5 : SqT K H5 t (rv ps) := Tk.dr S4 d5 _ _ (st_of ht)
      have hR5 : RowsAt K H5 ps := hR.tk (Tk.dr S4 d5)
      have hisl : isLot lot = true := by
        simp only [isLot, isBet, Bool.and_eq_true, decide_eq_true_eq, List.all_eq_true]
        exact ⟨hlot1, hlot2⟩
      have hsm := isLot_sm hisl
      refine q_no (et_is (et_or (et_test (ev_op (ev_lottext (K := K) (ev_var (i := 5) (v := .ref pl) rfl) hpl hisl) (ev_line (K := K) (ev_var (i := 5) (v := .ref pl) rfl) hpl (by omega) hsm) (rv_ne rfl)))
        fun _ => et_test (ev_op (ev_repr (ep_readlot (K := K) (ev_lottext (K := K) (ev_var (i := 5) (v := .ref pl) rfl) hpl hisl) hisl) (sml_lotD hisl) (by decide)) (ev_repr (ep_var (K := K) (d := intsD lot) (ev_var (i := 5) (v := .ref pl) rfl) (.tup hpl (dp_ints _))) (sml_lotD hisl) (by decide)) (rv_ne rfl))) (by rw [decide_eq_true rfl, decide_eq_true rfl]; rfl)) fun H6 e6 => ?_
      have fit := fam_fit (rows := rw' ps) (fun r hr => (isLot_len (hlots r hr)).2) (fun r hr => isLot_sm (hlots r hr)) (by omega)
      have hpsl : ps.length ≤ 21 := by have := rw_len ps; omega
      refine q_asg (ev_join (X := _) (ys := (rw' ps).map lineT) ev_c (el_is (el_lcTm (xs := ps) (enc := fun p => V.ref p.1) (f := fun p => V.str (lineT p.2)) (ev_var (i := 4) (v := .ref t) rfl) (ex_t e6 ht5) (by omega) (fun _ => rfl)
        fun pr H7 hpr e7 => ev_line (K := K) (ev_var rfl) (ex_t (e6.trans e7) (hR5 pr hpr)) (by have := isLot_len (hlots _ (List.mem_map_of_mem hpr)); omega) (isLot_sm (hlots _ (List.mem_map_of_mem hpr)))) (by unfold rw'; rw [List.map_map, List.map_map]; rfl)) fit) fun H7 e7 => ?_
      have e57 := e6.trans e7
      have ht7 := ex_t e57 ht5
      have hR7 := hR5.ex e57
      have T7 := T5.ext e57
      have S7 := S5.ex e57
      refine q_no (et_is (et_or (et_test (ev_op (ev_famtext (K := K) (ev_var (i := 4) (v := .ref t) rfl) ht7 hR7 hlots hff) (ev_var (i := 6) (v := .str (famT (rw' ps))) rfl) (rv_ne rfl)))
        fun _ => et_test (ev_op (ev_repr (ep_readfam (K := K) (ev_var (i := 6) (v := .str (famT (rw' ps))) rfl) hff) (sml_famD hff) (by decide)) (ev_repr (ep_var (K := K) (d := .tuple ((rw' ps).map intsD)) (ev_var (i := 4) (v := .ref t) rfl) (.tup ht7 (dp_rows hR7))) (sml_famD hff) (by decide)) (rv_ne rfl))) (by rw [decide_eq_true rfl, decide_eq_true rfl]; rfl)) fun H8 e8 => ?_
      have S8 := S7.ex e8
      have T8 := T7.ext e8
      have hpl8 := ex_t (e57.trans e8) hpl
      have txs : ∀ (j : Nat) (v : V), [V.str (lineT lot), V.str (famT (rw' ps))][j]? = some v → ∃ z, v = .str z ∧ Tx z 546 25 := fun j v hv => by
        have hm := List.mem_of_getElem? hv
        rcases List.mem_cons.mp hm with rfl | hm
        · exact ⟨_, rfl, line_tx hlot1.2 fun x hx => by have := hlot2 x hx; omega⟩
        · refine ⟨_, List.mem_singleton.mp hm, fam_tx hrl.2 (fun r hr => (isLot_len (hlots r hr)).2) fun r hr x hx => ?_⟩
          have := hG4.lo r hr x hx
          omega
      have ha5' : a5 ≤ a + 307 := by omega
      refine s_forNT (K := K) (xs := [V.str (lineT lot), V.str (famT (rw' ps))]) (eu_tup (ea_cons (ev_line (K := K) (ev_var (i := 5) (v := .ref pl) rfl) hpl8 (by omega) hsm) (ea_cons (ev_var (i := 6) (v := .str (famT (rw' ps))) rfl) ea_nil)) (by show 2 ≤ _; omega))
        (fun tp j σ' H' => ∃ (a' : Nat) (x2 x3 x4 x5 x6 x7 x8 : Option V), σ' = [some (.ref sc), some (.ref st), x2, x3, x4, x5, x6, x7, x8, none, none, none, none, none] ∧ StAt H' st c l a' ∧ a' ≤ a + 307 + j * 50 ∧ Tabs (tRR K) H' ∧ SqT K H' tp [V.str (lineT lot), V.str (famT (rw' ps))])
        (fun tp H9 ntp e9 htp => ⟨a5, _, _, _, _, _, _, _, rfl, S8.ex e9, by omega, T8.ext e9, st_of htp⟩) (fun tp j σ' H' _ h => by obtain ⟨_, _, _, _, _, _, _, _, _, _, _, _, h⟩ := h; exact h) (fun tp j v σ' H9 hv hP => ?_) (fun tp σ' H9 hP => ?_)
      · obtain ⟨a9, x2, x3, x4, x5, x6, x7, x8, rfl, S9, ha9, T9, htp⟩ := hP
        obtain ⟨z, rfl, hz⟩ := txs j v hv
        have hj2 : j < 2 := (List.getElem?_eq_some_iff.mp hv).1
        refine s_forR1 (n := 5) (ea_cons ev_c ea_nil) (by decide)
          (fun k σ' H' => ∃ (a' : Nat) (z' : Str) (x2 x3 x4 x5 x6 x8 : Option V), σ' = [some (.ref sc), some (.ref st), x2, x3, x4, x5, x6, some (.str z'), x8, none, none, none, none, none] ∧ StAt H' st c l a' ∧ a' ≤ a9 + k * 10 ∧ Tabs (tRR K) H' ∧ SqT K H' tp [V.str (lineT lot), V.str (famT (rw' ps))] ∧ Tx z' (TB k).1 (TB k).2)
          (fun H10 e10 => ⟨a9, z, x2, x3, x4, x5, x6, x8, rfl, S9.ex e10, by omega, T9.ext e10, ex_t e10 htp, hz⟩) (fun k σ' H10 hk hP => ?_) (fun σ' H10 hP => ?_)
        · obtain ⟨a10, z', x2, x3, x4, x5, x6, x8, rfl, S10, ha10, T10, htp10, hz'⟩ := hP
          have hb := TB_le k (by omega)
          have hb' := TB_le (k + 1) (by omega)
          refine ⟨_, rfl, _, rfl, st, c, l, a10, z', (TB k).1, (TB k).2, rfl, S10, by omega, hz', hb.1, hb.2, fun z2 H11 a11 d11 S11 ha11 hz2 => ?_⟩
          have T11 := tabs_dr T10 S10 d11
          have htp11 : SqT K H11 tp [V.str (lineT lot), V.str (famT (rw' ps))] := Tk.dr S10 d11 _ _ htp10
          have hz2' : Tx z2 (TB (k + 1)).1 (TB (k + 1)).2 := hz2
          refine s_rr (K := K) (ev_var (i := 7) (v := .str z2) rfl) (Nat.le_trans hz2'.len hb'.1) hz2'.asc T11 fun H12 e12 T12 => ?_
          exact ⟨a11, z2, _, _, _, _, _, _, rfl, S11.exN e12, by omega, T12, exN_t e12 htp11, hz2'⟩
        · obtain ⟨a10, z', x2, x3, x4, x5, x6, x8, rfl, S10, ha10, T10, htp10, hz'⟩ := hP
          exact ⟨a10, _, _, _, _, _, _, _, rfl, S10, by omega, T10, htp10⟩
      · obtain ⟨a9, x2, x3, x4, x5, x6, x7, x8, rfl, S9, ha9, T9, htp⟩ := hP
        have ha9' : a9 ≤ a + 307 + 2 * 50 := ha9
        exact ⟨a9, _, _, _, _, _, _, _, rfl, S9, by omega, T9⟩
    · obtain ⟨a, x2, x3, x4, x5, x6, x7, x8, rfl, S2, ha2, T2⟩ := hP
      refine ⟨rfl, fun hs hok p H3 np e3 hp => ⟨p, rfl, ⟨hs, sq_of hp⟩, for_list (K := K) (xs := hs)
        (fun i σ' H' => ∃ (x2 x3 x4 x5 x6 x7 x8 : Option V), σ' = [some (.ref sc), some (.ref st), x2, x3, x4, x5, x6, x7, x8, none, none, none, none, none] ∧ Tabs (tRR K) H' ∧ H' p = some (.lst hs))
        ⟨_, _, _, _, _, _, _, rfl, T2.ext e3, hp⟩ (fun i σ' H' _ h => by obtain ⟨_, _, _, _, _, _, _, _, _, h⟩ := h; exact sq_of h) (fun i v σ' H3 hv hP => ?_) (fun σ' H3 hP => ?_)⟩⟩
      · obtain ⟨x2, x3, x4, x5, x6, x7, x8, rfl, T3, hp⟩ := hP
        obtain ⟨z, rfl, hz1, hz2⟩ := okV_str (List.all_eq_true.mp hok v (List.mem_of_getElem? hv))
        exact s_rr (K := K) (ev_var (i := 6) (v := .str z) rfl) hz1 hz2 T3 fun H4 e4 T4 => ⟨_, _, _, _, _, _, _, rfl, T4, e4 _ _ hp (by intro ps z; cases z)⟩
      · obtain ⟨x2, x3, x4, x5, x6, x7, x8, rfl, T3, hp⟩ := hP
        have w5 : ∀ r ∈ widesR, r.length ≤ 5 := fun r hr => (wides_ok r hr).1
        have wS : ∀ r ∈ widesR, Sm r := fun r hr => (wides_ok r hr).2
        have r5' : ∀ r ∈ rowsR, r.length ≤ 5 := fun r hr => (rows_ok r hr).1
        have rS : ∀ r ∈ rowsR, Sm r := fun r hr => (rows_ok r hr).2
        have wl : widesR.length = 199 := by unfold widesR; rw [List.length_map, List.length_range]
        have rl : rowsR.length = 201 := by unfold rowsR; rw [List.length_map, List.length_range]
        have wL := fam_lenS w5 wS
        have rL := fam_lenS r5' rS
        refine q_asg (v := .str (famT widesR)) (ev_join (X := _) (ys := widesR.map lineT) ev_c (el_is (el_lcRg (lo := -99) (hi := 100) (n := 199) (f := fun i : Nat => V.str (lineT [-99 + (i : Int)])) (ea_cons (ev_un ev_c ru_neg) (ea_cons ev_c ea_nil)) (by decide) (by decide) (by decide) (fun _ => rfl)
          fun i H4 hi e4 => ev_lineU (K := K) (eu_tup (ea_cons (ev_var rfl) ea_nil) (by show 1 ≤ _; omega)) (by show 1 ≤ _; omega) fun n hn => by rw [List.mem_singleton.mp hn]; omega) (by unfold widesR; rw [List.map_map, List.map_map]; rfl)) (fam_fit w5 wS (by omega))) fun H4 e4 => ?_
        have T4 := T3.ext e4
        refine q_rr2 (K := K) (ev_var (i := 9) (v := .str (famT widesR)) rfl) (by omega) (fam_asc wS) (fun H5 => ev_cat (ev_var (i := 9) (v := .str (famT widesR)) rfl) (ev_c (v := .str "\n100")) (by show _ + 4 ≤ _; omega)) (by rw [app_len]; show _ + 4 ≤ _; omega) (asc_app (fam_asc wS) fun c hc => ?_) T4 fun H5 e5 T5 => ?_
        · have : ∀ c ∈ ("\n100" : Str).cps.toList, c < 1114112 := by decide +kernel
          exact this c hc
        refine q_asg (v := .str (famT rowsR)) (ev_join (X := _) (ys := rowsR.map lineT) ev_c (el_is (el_lcRg (lo := 0) (hi := 201) (n := 201) (f := fun i : Nat => V.str (lineT [(0 + (i : Int)) / 20, 0 + (i : Int)])) (ea_cons ev_c (ea_cons ev_c ea_nil)) (by decide) (by decide) (by decide) (fun _ => rfl)
          fun i H6 hi e6 => ev_lineU (K := K) (eu_tup (ea_cons (ev_op (ev_var rfl) ev_c (rv_I ⟨by decide, by decide⟩)) (ea_cons (ev_var rfl) ea_nil)) (by show 2 ≤ _; omega)) (by show 2 ≤ _; omega) fun n hn => by
            rcases List.mem_cons.mp hn with rfl | hn
            · omega
            · rw [List.mem_singleton.mp hn]; omega) (by unfold rowsR; rw [List.map_map, List.map_map]; rfl)) (fam_fit r5' rS (by omega))) fun H6 e6 => ?_
        have T6 := T5.ext e6
        refine ⟨_, rfl, famT rowsR, rfl, by omega, fam_asc rS, T6, fun H7 e7 T7 => ⟨true, rfl, ?_⟩⟩
        refine ev_op (z := .bl true) (ev_lottextU (K := K) (ns := [0, -1, 99]) (eu_tup (ea_cons ev_c (ea_cons (ev_un ev_c ru_neg) (ea_cons ev_c ea_nil))) (by show 3 ≤ _; omega)) (by decide)) ev_c (fun H8 e8 Q qq => ?_) H7 (Ex.refl _) _ fun H8 e8 => q H8
        have ee : decide (V.str (lineT [0, -1, 99]) = V.str "0 -1 99") = true := decide_eq_true (by
          have : lineT [0, -1, 99] = "0 -1 99" := by decide +kernel
          rw [this])
        have := rv_eq (x := V.str (lineT [0, -1, 99])) (y := V.str "0 -1 99") (H := H7) rfl H8 e8 Q
        rw [ee] at this
        exact this qq
end
end SL
end
section
set_option Elab.async false
set_option linter.all false
set_option maxRecDepth 100000
set_option maxHeartbeats 4000000
/-! The end: the law called where no guard stands, one table of code objects beside the script. -/
namespace SL
open PySem PySem.Spec PyProof.Rows L2 Evl LamX
abbrev scrO (vs : List Value) : Obj := { cls := .type "list", data := .seq vs.toArray }
abbrev nilT : Obj := { cls := .none, data := .fields #[] }
/-- what is told at the entry: the empty table at T, o at the script's place -/
def hpE (T a : Addr) (o : Option HO) : Hp := fun b => if b = T then some (.tbl #[]) else if b = a then o else none
theorem hpE_tab {T a : Addr} {o : Option HO} : hpE T a o T = some (.tbl #[]) := if_pos rfl
theorem hpE_scr {T a : Addr} {o : Option HO} (h : a ≠ T) : hpE T a o a = o := by
  unfold hpE
  rw [if_neg h, if_pos rfl]
theorem hpE_off {T a b : Addr} {o : Option HO} (h : b ≠ T) (h' : b ≠ a) : hpE T a o b = none := by
  unfold hpE
  rw [if_neg h, if_neg h']
section
variable {P : Program} {w : World} {K : PySem.W.Frag} {mg mb : Str → Option Value} {fa a T c : Addr} {s₁ : Shared} {vs : List Value} {ns : List Int} {o : Option HO}
/-- from the entry as told to the end -/
theorem enter_core (KX : K.In s₁.heap) (gl : s₁.heap.Ns mainGlobals mg) (bl : s₁.heap.Ns builtinsNs mb) (bb : ∀ x : Str, x ≠ "__name__" → mb x = bootBuiltins x) (nl : s₁.heap.NoLimit) (ng : s₁.gens = #[])
    (tT : s₁.heap.get? T = some nilT) (kT : K.lookup T = none) (hc : PySem.W.codeHdIn K c T = true)
    (bm : ∃ (bm : Addr) (ob : Obj), mg "__builtins__" = some (.ref bm) ∧ bm ≠ builtinsNs ∧ s₁.heap.get? bm = some ob ∧ ob.cls = .type "module" ∧ ob.dict = some builtinsNs ∧ ob.data = .plain)
    (ta : s₁.heap.get? a = some (scrO vs)) (aT : a ≠ T) (ho : o = none ∨ o = some (.frz (scrO vs) (.lst (ns.map V.int)))) (hS : SqL K (hpE T a o) a (ns.map V.int)) (hn : ns.length ≤ 63) (hok : HOk P w (hpE T a o) s₁.heap) (ka : o ≠ none → K.lookup a = none)
    (mf : mg "law" = some (.ref fa)) (ctT : c = cRR K) (TT : T = pRR K)
    (F : ∀ base : Heap, K.In base → base.Ns mainGlobals mg → TabB base mg c T → Gn P w K mg base "law" 15 ["_law_script"] (spLaw K)) :
    codeAny (model P w) callerA (.call (.ref fa) ⟨[.ref a], []⟩) (fun r s' => r = .ok (.ret (.bool true)) ∧ OldK s₁.heap s'.heap ∧ s'.os = s₁.os ∧ AllBare s'.gens) s₁ := by
  have stays : ∀ {b : Addr} {ob : Obj}, s₁.heap.get? b = some ob → b ≠ T → (b = a → o = none) → (hidT s₁.heap (hpE T a o)).get? b = some ob := fun {b ob} e h1 h2 => hidT_get e (by
    by_cases hb : b = a
    · rw [hb, hpE_scr aT]
      exact h2 hb
    · exact hpE_off h1 hb)
  have plainOnes : ∀ {b : Addr} {ob : Obj}, s₁.heap.get? b = some ob → ob.data ≠ nilT.data → ob.data ≠ (scrO vs).data → (hidT s₁.heap (hpE T a o)).get? b = some ob := fun {b ob} e d1 d2 => stays e (fun z => by
      rw [z, tT] at e
      cases e
      exact d1 rfl) fun z => by
      rw [z, ta] at e
      cases e
      exact absurd rfl d2
  have ns_ : ∀ {b : Addr} {m : Str → Option Value}, s₁.heap.Ns b m → (hidT s₁.heap (hpE T a o)).Ns b m := fun {b m} x => by
    obtain ⟨ob, es, ep, e, d, rest⟩ := x
    exact ⟨ob, es, ep, plainOnes e (by rw [d]; intro z; cases z) (by rw [d]; intro z; cases z), d, rest⟩
  have kb : K.In (hidT s₁.heap (hpE T a o)) := fun b ob e => stays (KX b ob e) (fun z => by
      rw [z, kT] at e
      cases e) fun z => by
      rcases ho with ho | ho
      · exact ho
      · rw [z, ka (by rw [ho]; intro y; cases y)] at e
        cases e
  have md : L2.Mod K mg (hidT s₁.heap (hpE T a o)) := by
    obtain ⟨mc, l1, l2⟩ := nl
    exact ⟨kb, ns_ gl, ⟨mb, ns_ bl, bb⟩, ⟨mc, ns_ l1, l2⟩⟩
  have gT : mainGlobals ≠ T := fun z => by
    obtain ⟨ob, es, ep, e, d, _⟩ := gl
    rw [z, tT] at e
    cases e
    cases d
  have tb : TabB (hidT s₁.heap (hpE T a o)) mg c T := by
    refine NdefX.tabB_of_K kb hc ?_ gT
    obtain ⟨m, ob, b1, b2, b3, b4, b5, b6⟩ := bm
    refine ⟨m, ob, b1, b2, fun z => ?_, fun z => ?_, plainOnes b3 (by rw [b6]; intro z; cases z) (by rw [b6]; intro z; cases z), b4, b5, b6⟩
    · obtain ⟨og, es, ep, e, d, _⟩ := gl
      rw [z, e] at b3
      cases b3
      rw [d] at b6
      cases b6
    · rw [z, tT] at b3
      cases b3
      cases b6
  have env : Env0 P w K mg (hidT s₁.heap (hpE T a o)) callerA [] s₁ (hpE T a o) :=
    { frames := rfl, mod := md, bs := fun b ob e => of_hidT e, bsz := Nat.le_of_eq (hidT_size _ _), funs := trivial, frf := fun b hb => (by cases hb), hok := hok, bare := .of_eq ng }
  obtain ⟨f, fd, len, run, mx, _, bd⟩ := (F _ kb (ns_ gl) tb).ex
  have ef : Value.ref f = Value.ref fa := Option.some.inj (mx.symm.trans mf)
  cases ef
  have bnd : BindsTo s₁ fd ⟨[.ref a], []⟩ ([("_law_script" : Str)].zip [Value.ref a]) := bd s₁ [.ref a] KX rfl
  have tabs : Tabs (tRR K) (hpE T a o) := fun p hp => by
    rw [List.mem_singleton.mp hp]
    exact TabS.nil (by rw [← TT]; exact hpE_tab)
  refine codeAny_mono (run callerA [] s₁ (hpE T a o) ⟨[.ref a], []⟩ [.ref a] [.ref a] (fun v _ => v = .bl true) (fun _ _ _ => False) rfl ⟨rfl, by decide, by decide⟩ env bnd (.cons rfl .nil) ⟨a, ns, rfl, hS, hn, tabs, fun _ => rfl⟩) fun r s' hr => ?_
  match r, hr with
  | .error e, hr =>
    obtain ⟨_, _, _, _, _, _, _, _, _, _, _, _, z⟩ := hr
    exact z.elim
  | .ok (.ret u), hr =>
    obtain ⟨v, H', same, bare, un, hok', rv, hv⟩ := hr
    subst hv
    have hu : u = Value.bool true := rv
    subst hu
    obtain ⟨more, hm⟩ := un.tbls T #[] hpE_tab
    have gm : s'.heap.get? T = some { cls := .none, data := .fields (#[] ++ more) } := hok' T _ hm
    have kept : ∀ b ob, b ≠ T → s₁.heap.get? b = some ob → s'.heap.get? b = some ob := fun b ob nb e => by
      have free : hpE T a o b = none → s'.heap.get? b = some ob := fun z => un.keep b ob e z (fun y => by cases y) (fun y => by cases y)
      by_cases hb : b = a
      · rcases ho with ho | ho
        · exact free (by rw [hb, hpE_scr aT, ho])
        · have z : hpE T a o a = some (.frz (scrO vs) (.lst (ns.map V.int))) := by rw [hpE_scr aT, ho]
          have e1 := (hok' a _ (un.frzs a _ _ z)).1
          rw [hb, ta] at e
          cases e
          rw [hb]
          exact e1
      · exact free (hpE_off nb hb)
    refine ⟨rfl, ⟨fun b ob e => ?_, fun b ob e => ?_⟩, same, bare⟩
    · by_cases hb : b = T
      · subst hb
        rw [tT] at e
        cases e
        exact .inr (.inl ⟨((PySem.W.codeHd_of_K KX hc).tab tT).isCodeTable, rfl, #[], more, rfl, gm⟩)
      · exact .inl (kept b ob hb e)
    · by_cases hb : b = T
      · subst hb
        exact ⟨_, gm⟩
      · exact ⟨ob, kept b ob hb e⟩
end
end SL
end
section
set_option Elab.async false
set_option linter.all false
set_option maxRecDepth 100000
set_option maxHeartbeats 4000000
namespace SL
open PySem PySem.Spec PyProof.Rows L2 Evl LamX
theorem pg_row : Pg RZ.prog := ⟨by rfl, by decide +kernel⟩
section
variable {P : Program} {w : World} {K : PySem.W.Frag} {mg mb : Str → Option Value} {fa a : Addr} {s₁ : Shared} {vs : List Value} {ns : List Int}
/-- the law, called behind the top -/
theorem enter_law (hP : Pg P) (KX : K.In s₁.heap) (Z : SaysZ s₁.heap K) (gl : s₁.heap.Ns mainGlobals mg) (bl : s₁.heap.Ns builtinsNs mb) (bb : ∀ x : Str, x ≠ "__name__" → mb x = bootBuiltins x) (nl : s₁.heap.NoLimit) (ng : s₁.gens = #[])
    (bm : ∃ (bm : Addr) (ob : Obj), mg "__builtins__" = some (.ref bm) ∧ bm ≠ builtinsNs ∧ s₁.heap.get? bm = some ob ∧ ob.cls = .type "module" ∧ ob.dict = some builtinsNs ∧ ob.data = .plain)
    (ta : s₁.heap.get? a = some (scrO vs)) (hi : IntsAre vs ns) (hn : ns.length ≤ 63) (mf : mg "law" = some (.ref fa)) :
    codeAny (model P w) callerA (.call (.ref fa) ⟨[.ref a], []⟩) (fun r s' => r = .ok (.ret (.bool true)) ∧ OldK s₁.heap s'.heap ∧ s'.os = s₁.os ∧ AllBare s'.gens) s₁ := by
  have hm : (("_law_read_right" : Str), (none : Option Str)) ∈ tf := List.mem_singleton.mpr rfl
  have tT : s₁.heap.get? (pRR K) = some nilT := Z.empty _ hm
  have kT : K.lookup (pRR K) = none := Z.out _ hm
  have hc : PySem.W.codeHdIn K (cRR K) (pRR K) = true := Z.hd _ hm
  have M : Ma K mg := ⟨⟨s₁.heap, KX, gl, Z⟩⟩
  have aT : a ≠ pRR K := fun z => by
    rw [z, tT] at ta
    cases ta
  have sz : ns.length ≤ sizeLine := sz_of (by omega)
  have rv := vals_ints hi
  have lenV : vs.length = ns.length := hi.length
  have go : ∀ o : Option HO, (o = none ∨ o = some (.frz (scrO vs) (.lst (ns.map V.int)))) → SqL K (hpE (pRR K) a o) a (ns.map V.int) → (o ≠ none → K.lookup a = none) → _ := fun o ho hS ka =>
    enter_core (P := P) (w := w) (c := cRR K) KX gl bl bb nl ng tT kT hc bm ta aT ho hS hn (fun b u e => by
      by_cases hb : b = pRR K
      · rw [hb, hpE_tab] at e
        cases e
        rw [hb]
        exact tT
      · by_cases hba : b = a
        · rw [hba, hpE_scr aT] at e
          rcases ho with ho | ho
          · rw [ho] at e
            cases e
          · rw [ho] at e
            cases e
            rw [hba]
            exact ⟨ta, by rw [List.length_map]; exact sz, vs, _, rv, ta⟩
        · rw [hpE_off hb hba] at e
          cases e) ka mf rfl rfl fun base kb gb tb => ok_law M hP tb
  cases hk : K.lookup a with
  | some u =>
    have e := (KX a u hk).symm.trans ta
    cases e
    exact go none (.inl rfl) (.inr ⟨_, vs.toArray, _, hk, rfl, rfl, rfl, by rw [List.size_toArray, lenV]; exact sz, by simpa using rv⟩) fun z => absurd rfl z
  | none => exact go _ (.inr rfl) (.inl (.inr ⟨_, hpE_scr aT⟩)) fun _ => hk
end
end SL
open PySem PySem.W PySem.Calls PyProof.Rows
theorem PySem.Challenge.cw_steplots_k31_whole_texts_of_lots_holds : PySem.Challenge.rw_steplots_k31_whole_texts_of_lots.Holds := by
  w_on; o_law
  refine HandSHeadRun.head_any (r := SL.RZ) (q := SL.qv) (H := SL.hkZ) (ob := SL.obZ) (M := 6000) (loose := SL.names) (d := HandSHeadRun.topDef SL.RZ.prog 70) (kwd := []) SL.obZ_eq
    (by kernel_rfl) (fun s => by kernel_rfl) SL.runZ (by kernel_rfl) (by kernel_rfl) (by kernel_rfl) (by rfl) (by first | assumption | decide +kernel) (by decide +kernel) ⟨rfl, rfl, rfl, rfl, rfl, by decide +kernel⟩ ?hw ?hc
  case hw => w_witness2
  case hc =>
    refine Att.attach_callB (l := PySem.Challenge.rw_steplots_k31_whole_texts_of_lots) (n := 63) rfl (by kernel_rfl) fun w s₀ s₁ mg mb fa o pm cd doc a vs ns G Y ho hd hcd hmg hobj hints hlen hbits hg => ?_
    obtain ⟨K, KX, Z⟩ := Y
    have mf : mg ("law" : PySem.Str) = some (.ref fa) := by
      have e : (HandSHeadRun.topDef SL.RZ.prog 70).name = ("law" : PySem.Str) := by kernel_rfl
      rw [← e]
      exact hmg
    exact SL.enter_law SL.pg_row KX Z G.T.g G.T.b G.T.builtins G.T.nolimit hg G.T.bmain hobj hints hlen mf
end
