import PyProof.Rows.All
import Wide.All
import OpenK.AllK
import Wide.FinOn
import HandS.Base
import HandS.Call
import HandS.More
import HandS.Words
import HandS.Codes
import HandS.Defaults
import HandS.HeadHook4
import KE.KExcInit
import KE.KIsAll
import KE.KTryMore
import KE.KStateDown
import Wide.Once
import HandS.Head0
import HandS.Head1
import HandS.Head2
import PyProof.EqAt
import PyProof.EqKinds
import PyProof.TupleCall
import KE.GoesEnum
import KE.GoesMore
import HandS.ForMost
import HandS.Walk
import HandS.List
import HandS.Comp
import HandS.Ends
import HandS.Text
import HandS.Evl
import HandS.Property
import HandS.Star
import HandS.TupAny
import HandS.Style
import HandS.IsInst
import HandS.RaiseMore
import HandS.WideBits
import HandS.Wide
import PyProof.AutoSeq1
import KE.BitLaws
import HandS.ExcIs
import HandS.Lambda
import HandS.HotCalls
import KE.KExcIs
import HandS.DictComp
import KE.SortData
import HandS.TupSets
import KE.KFmtOwn
import HandS.FStr
import HandS.EndTab
import HandS.HeadWalk
import PySem.Challenge.RW_menuhouses_k51_whole_fit_of_three_things
set_option Elab.async false
set_option linter.all false
set_option maxRecDepth 100000
set_option maxHeartbeats 2000000
/-! A0: the defs of the row. -/
namespace Mh
open PySem PySem.Spec PyProof.Rows L2
def top (i : Nat) : Stmt := PySem.Challenge.pw_menuhouses_k51_whole_fit_of_three_things.main.body.getD i (.Pass ⟨0, 0, 0, 0⟩)
def mth (i j : Nat) : Stmt := (C8.clsBody (top i)).getD j (.Pass ⟨0, 0, 0, 0⟩)
abbrev FnP (K : PySem.W.Frag) (x qual : Str) (st : Stmt) (f : Addr) (fd : FuncData) : Prop := FunD K x qual (defArgs st) (defBody st) (defScope st) [] [] f fd
end Mh
set_option maxRecDepth 100000
set_option maxHeartbeats 2000000
/-! A1: what is read behind the top: the facts, the defs, the properties' getters. -/
namespace Mh
open PySem PySem.Spec PyProof.Rows L2
/-! ### a def at an address of its own (a property's getter) -/
structure GetD where
  cls : Str
  fld : Str
  qual : Str
  st : Stmt
def gAt (K : PySem.W.Frag) (C f : Str) : Addr := match PySem.W.recIn K (He.ma K (He.ga K C) f) "property" with
  | some (.ref g :: _) => g
  | _ => 0
def seeF (K : PySem.W.Frag) (a : Addr) : He.FnW := match K.lookup a with
  | some ⟨_, _, .func fd, _⟩ => some (fd.name, fd.qualname, fd.params, fd.body, fd.scope, fd.globals, fd.closure, fd.builtins)
  | _ => none
def GetD.val (g : GetD) : He.FnW := some (g.fld, g.qual, defArgs g.st, .stmts (defBody g.st), defScope g.st, mainGlobals, [], builtinsNs)
def GetD.ok (K : PySem.W.Frag) (g : GetD) : Bool := PySem.W.keepIn K (.ref (gAt K g.cls g.fld)) && (match K.lookup (gAt K g.cls g.fld) with
  | some ⟨_, _, .func fd, _⟩ => PySem.W.codeIn K fd.code g.qual && He.dflB K fd.defaults []
  | _ => false)
theorem GetD.fn {K : PySem.W.Frag} {g : GetD} (e : seeF K (gAt K g.cls g.fld) = g.val) (c : g.ok K = true) : ∃ fd, FnP K g.fld g.qual g.st (gAt K g.cls g.fld) fd := by
  obtain ⟨kp, c2⟩ := He.ba c
  cases q : K.lookup (gAt K g.cls g.fld) with
  | none =>
    rw [q] at c2
    exact Bool.noConfusion c2
  | some o =>
    unfold seeF at e
    rw [q] at c2 e
    obtain ⟨oc, od, dt, osl⟩ := o
    cases dt with
    | func fd =>
      obtain ⟨m1, m2, m3, m4, m5, m6, m7, m8, m9, m10, m11, m12, m13, m14, m15⟩ := fd
      obtain ⟨k1, k2⟩ := He.ba (show (PySem.W.codeIn K m13 g.qual && He.dflB K m8 []) = true from c2)
      have e2 : ((m1, m2, m3, m4, m5, m6, m7, m15) : Str × Str × Arguments × FuncBody × Scope × Addr × List (Str × Addr) × Addr) = (g.fld, g.qual, defArgs g.st, .stmts (defBody g.st), defScope g.st, mainGlobals, [], builtinsNs) := Option.some.inj e
      injection e2 with h1 e2
      injection e2 with h2 e2
      injection e2 with h3 e2
      injection e2 with h4 e2
      injection e2 with h5 e2
      injection e2 with h6 e2
      injection e2 with h7 h8
      subst h1 h2 h3 h4 h5 h6 h7 h8
      exact ⟨_, ⟨oc, od, m8, m9, m10, m11, m12, m13, m14, osl, rfl, q, k1, He.dflB_ok k2, .inl rfl⟩, kp⟩
    | _ => exact Bool.noConfusion c2
/-! ### what is read -/
/-- the classes that an except asks of, whether Clash is one -/
def clsTab : List (Str × Bool) := [("InvalidText", false), ("InvalidMarks", false), ("InvalidIndex", false), ("InvalidWord", false), ("NotARanking", false), ("NotAHouse", false), ("NotALook", false), ("NotLooks", false), ("OtherThings", false), ("InvalidRow", false), ("InvalidMenu", false), ("InvalidThings", false), ("InvalidTaken", false), ("InvalidRankings", false), ("InvalidLooks", false), ("InvalidTable", false), ("UnknownThing", false), ("TooMany", false), ("NoHouse", false), ("NoTable", false), ("Clash", true), ("Broken", false), ("NothingToUndo", false), ("WrongValue", false), ("WrongName", false), ("NoAnswer", true)]
def aeT0 : List Value := [.type "ArithmeticError", .type "Exception", .type "BaseException", .type "object"]
def frees : List Str := ["tuple", "list", "len", "all", "any", "sum", "sorted", "isinstance", "max", "min", "abs", "int", "str", "repr", "divmod", "set", "zip", "enumerate", "range", "bool", "ValueError", "LookupError", "ArithmeticError", "TypeError"]
def tops0 : List (Nat × Str) := [(33, "is_part"), (34, "less"), (44, "is_name"), (45, "wrong_place"), (46, "wrong_names"), (47, "check_menu"), (48, "check_taken"), (49, "check_things"), (50, "is_thing"), (51, "check_thing"), (53, "wrong_name"), (57, "bits_of"), (58, "things_of"), (59, "let_row")]
def tops1 : List (Nat × Str) := [(60, "pairs_of"), (61, "needs_of"), (62, "sharpened"), (63, "are_fit"), (69, "are_marks"), (70, "check_names"), (73, "wrong_look"), (76, "_law_urn"), (77, "_law_draw"), (78, "_law_name"), (79, "_law_names"), (80, "_law_shuffled"), (81, "_law_menu"), (82, "_law_best")]
def tops2 : List (Nat × Str) := [(83, "_law_takes"), (84, "_law_look"), (85, "_law_has"), (86, "_law_rows"), (87, "_law_houses"), (88, "_law_made"), (89, "_law_sort"), (90, "_law_field"), (91, "_law_caught"), (92, "_law_pairs"), (93, "_law_reach"), (94, "_law_people_right"), (95, "_law_refused_right"), (96, "_law_right"), (97, "law")]
def tops : List (Nat × Str) := tops0 ++ (tops1 ++ tops2)
def clss : List Str := (["Look", "Looks", "Ranking"] : List Str) ++ clsTab.map (·.1)
def meths : List (Nat × Nat × Str × Str × Str) := [(71, 0, "Look", "__init__", "Look.__init__"), (54, 0, "Ranking", "__init__", "Ranking.__init__"), (54, 16, "Ranking", "__str__", "Ranking.__str__"), (54, 17, "Ranking", "__repr__", "Ranking.__repr__"), (74, 6, "Looks", "check_fit", "Looks.check_fit"), (74, 8, "Looks", "answer", "Looks.answer"), (74, 9, "Looks", "look", "Looks.look"), (74, 10, "Looks", "can_be", "Looks.can_be"), (74, 12, "Looks", "settled", "Looks.settled"), (74, 13, "Looks", "people", "Looks.people"), (25, 0, "Clash", "__init__", "Clash.__init__")]
def gets : List GetD := [⟨"Looks", "fit", "Looks.fit", mth 74 3⟩, ⟨"Look", "taken", "Look.taken", mth 71 3⟩, ⟨"Look", "passed", "Look.passed", mth 71 4⟩, ⟨"Ranking", "row", "Ranking.row", mth 54 3⟩]
def called : List (Str × Str) := [("Ranking", "__str__"), ("Ranking", "__repr__"), ("Looks", "check_fit"), ("Looks", "answer"), ("Looks", "look"), ("Looks", "can_be"), ("Looks", "settled"), ("Looks", "people")]
def dTop (q : Nat × Str) : He.DefD := ⟨(q.2, none), q.2, q.2, defArgs (top q.1), defBody (top q.1), defScope (top q.1), [], []⟩
def dMth (q : Nat × Nat × Str × Str × Str) : He.DefD := ⟨(q.2.2.1, some q.2.2.2.1), q.2.2.2.1, q.2.2.2.2, defArgs (mth q.1 q.2.1), defBody (mth q.1 q.2.1), defScope (mth q.1 q.2.1), [], []⟩
def dLooks : He.DefD := ⟨("Looks", some "__init__"), "__init__", "Looks.__init__", defArgs (mth 74 0), defBody (mth 74 0), defScope (mth 74 0), [.adr (He.dflAt ("Looks", some "__init__") 0)], []⟩
def fns : List He.DefD := dLooks :: (tops.map dTop ++ meths.map dMth)
def fRest : List He.Fa := [.int "MOST_THINGS" 10, .int "MOST_LOOKS" 12, .str "LETTERS" "abcdefghijklmnopqrstuvwxyz", .str "SIGNS" "abcdefghijklmnopqrstuvwxyz0123456789", .cls "Look", .cls "Looks", .cls "Ranking", .noat "Look" "menu", .noat "Look" "marks", .noat "Looks" "named", .noat "Looks" "seen", .noat "Ranking" "names", .mkr "Look", .mkr "Looks", .mkr "Ranking"]
def facts : List He.Fa := frees.map .free ++ (tops.map (fun q => .glo q.2) ++ (clss.map .glo ++ (called.map (fun q => .meth q.1 q.2) ++ fRest)))
def samV (a b : Option Value) : Bool := decide (a = b)
def samB (a b : Option Bool) : Bool := decide (a = b)
/-- what isinstance asks of a class -/
def insL (K : PySem.W.Frag) (C : Addr) : List Bool := [He.eqO (PySem.W.findIn K (.ref C) "__class__") (some (some (.builtin "object.__class__"))), samB (PySem.W.mroIn K C (.type "object")) (some true), samB (PySem.W.kitOne K (.ref C) (.ref C)) (some true)]
def prL (K : PySem.W.Frag) (g : GetD) : List Bool := [He.eqO (PySem.W.findIn K (.ref (He.ga K g.cls)) g.fld) (some (some (.ref (He.ma K (He.ga K g.cls) g.fld)))), He.eqO (PySem.W.specialIn K (.ref (He.ma K (He.ga K g.cls) g.fld)) "__get__") (some (some (.builtin "property.__get__"))), samB (PySem.W.takesIn K (.ref (He.ma K (He.ga K g.cls) g.fld))) (some true),
  (match PySem.W.recIn K (He.ma K (He.ga K g.cls) g.fld) "property" with
    | some (.ref _ :: _) => true
    | _ => false)]
def gC (K : PySem.W.Frag) : Addr := He.ga K "Clash"
def kwN (K : PySem.W.Frag) (f : Addr) : Bool := match K.lookup f with
  | some ⟨_, _, .func fd, _⟩ => (match fd.kwdefaults with
    | .none => true
    | _ => false)
  | _ => false
theorem kwN_ok {K : PySem.W.Frag} {f : Addr} {oc : Value} {od : Option Addr} {osl : Array (Option Value)} {fd : FuncData} (lk : K.lookup f = some ⟨oc, od, .func fd, osl⟩) (h : kwN K f = true) : fd.kwdefaults = .none := by
  unfold kwN at h
  rw [lk] at h
  have h1 : (match fd.kwdefaults with | .none => true | _ => false) = true := h
  split at h1
  · assumption
  · exact Bool.noConfusion h1
def clL (K : PySem.W.Frag) : List Bool := [PySem.W.excInitIn K (gC K) aeT0 "ArithmeticError.__new__", PySem.W.excOver K (gC K) aeT0, He.eqO (PySem.W.findIn K (.ref (gC K)) "__setattr__") (some (some (.builtin "object.__setattr__"))), He.eqO (PySem.W.findIn K (.ref (gC K)) "__getattribute__") (some (some (.builtin "BaseException.__getattribute__"))), He.eqO (PySem.W.findIn K (.ref (gC K)) "__getattr__") (some none), He.eqO (PySem.W.findIn K (.ref (gC K)) "index") (some none), He.eqO (PySem.W.findIn K (.ref (gC K)) "__init__") (some (some (.ref (He.ma K (gC K) "__init__")))),
  samV (PySem.W.typeIn K (.ref (He.ma K (gC K) "__init__"))) (some (.type "function")), PySem.W.keepIn K (.ref (gC K)), samB (PySem.W.subIn K (.ref (gC K)) (.type "BaseException")) (some true), samV (PySem.W.typeIn K (.ref (gC K))) (some (.type "type")), PySem.W.hasDictIn K (gC K),
  (PySem.W.clsIn K (gC K)).isSome, He.eqO (PySem.W.findIn K (.ref (gC K)) "__class__") (some (some (.builtin "object.__class__"))), samB (PySem.W.mroIn K (gC K) (.type "object")) (some true),
  samB (PySem.W.kitOne K (.ref (gC K)) (.type "ValueError")) (some false), samB (PySem.W.kitOne K (.ref (gC K)) (.type "LookupError")) (some false), samB (PySem.W.kitOne K (.ref (gC K)) (.type "ArithmeticError")) (some true),
  samB (PySem.W.exmAny K (.ref (gC K)) [.ref (He.ga K "WrongValue"), .ref (He.ga K "WrongName"), .ref (He.ga K "NoAnswer")]) (some true), kwN K (He.ma K (gC K) "__init__")]
def clN (K : PySem.W.Frag) : List Bool := clsTab.map fun q => samB (PySem.W.kitOne K (.ref (gC K)) (.ref (He.ga K q.1))) (some q.2)
def oneL (K : PySem.W.Frag) : List Bool := [He.eqO (PySem.W.specialIn K (.builtin "object.__class__") "__get__") (some (some (.builtin "getset_descriptor.__get__"))), samB (PySem.W.takesIn K (.builtin "object.__class__")) (some true), He.eqO (PySem.W.findIn K (.ref (He.ga K "Ranking")) "__format__") (some (some (.builtin "object.__format__")))]
def moreX (K : PySem.W.Frag) : Bool := (oneL K).all id && ((clL K).all id && ((clN K).all id && ((insL K (He.ga K "Look")).all id && ((insL K (He.ga K "Ranking")).all id && (gets.all fun g => (prL K g).all id)))))
/-! ### the Hook -/
/-- the addresses that are looked at (found by a run of the model; the top makes its objects in one order) -/
def adr0 : List Addr := [3, 31, 44, 57, 77, 96, 115, 134, 153, 172, 191, 210, 229, 248, 267, 286, 305, 324, 343, 362, 381, 400, 419, 438, 457, 476, 488, 507, 512, 548, 555, 562, 569, 576, 583, 590, 597, 604, 744, 760, 765, 770, 775, 780, 787, 794, 819, 826, 927, 943]
def adr1 : List Addr := [1074, 1085, 1092, 1099, 1104, 1109, 1114, 1119, 1124, 1129, 1134, 1139, 1144, 1149, 1156, 1163, 1170, 1175, 1182, 1187, 1194, 1201, 1206, 56, 456, 506, 511, 547, 554, 561, 568, 575, 582, 589, 596, 603, 743, 759, 764, 769, 774, 779, 786, 793, 818, 825, 926, 942, 1073, 1084, 1091, 1098, 1103, 1108]
def adr2 : List Addr := [1113, 1118, 1123, 1128, 1133, 1138, 1143, 1148, 1155, 1162, 1169, 1174, 1181, 1186, 1193, 1200, 1205, 454, 618, 646, 734, 741, 840, 864, 870, 959, 983, 1002, 1016, 1021, 1028, 1040, 1045, 453, 617, 645, 733, 740, 839, 863, 869, 958, 952, 982, 1001, 1015, 1020, 1027, 1039, 1044, 644, 862, 868, 981]
def adrs : List Addr := adr0 ++ (adr1 ++ adr2)
def hkT : Addr := 1189
/-- the part of the heap -/
def frA (g : Addr → Option Obj) : PySem.W.Frag := He.frG g adrs
abbrev pT : He.Defn := ("_law_refused_right", none)
abbrev AlG : Type := He.AlD × (Bool × List He.FnW)
def moreG (g : Addr → Option Obj) (K : PySem.W.Frag) : Bool := (gets.all fun d => d.ok K) && (moreX K && (PySem.W.codeHdIn K (He.cT K pT).1 (He.cT K pT).2 && (decide ((He.cT K pT).2 = hkT) && (match g (He.cT K pT).2 with
  | some o => He.emptyTab o
  | none => false))))
def seeK (g : Addr → Option Obj) (K : PySem.W.Frag) : AlG := (He.obsD facts fns K, (moreG g K, gets.map fun d => seeF K (gAt K d.cls d.fld)))
def valG : AlG := (He.valD fns, (true, gets.map GetD.val))
def obG (g : Addr → Option Obj) : AlG := seeK g (frA g)
theorem out_of {g : Addr → Option Obj} {a : Addr} (h : (adrs.contains a) = false) : (frA g).lookup a = none := by
  cases e : (frA g).lookup a with
  | none => rfl
  | some o =>
    obtain ⟨b, hb, q⟩ := List.mem_filterMap.mp (He.lookup_mem e)
    cases z : g b with
    | none =>
      rw [z] at q
      cases q
    | some u =>
      rw [z] at q
      have q2 := Option.some.inj q
      injection q2 with q3 q4
      subst q3
      rw [List.contains_iff_mem.mpr hb] at h
      cases h
/-- what is told -/
structure SaysG (h : Heap) (K : PySem.W.Frag) : Prop where
  d : He.SaysD facts fns K
  gets : (gets.all fun d => d.ok K) = true
  more : moreX K = true
  hd : PySem.W.codeHdIn K (He.cT K pT).1 (He.cT K pT).2 = true
  see : (Mh.gets.map fun d => seeF K (gAt K d.cls d.fld)) = Mh.gets.map GetD.val
  out : K.lookup (He.cT K pT).2 = none
  empty : h.get? (He.cT K pT).2 = some { cls := .none, data := .fields #[] }
theorem saysG_of {h : Heap} (e : obG h.get? = valG) : SaysG h (frA h.get?) := by
  have e1 : He.obsD facts fns (frA h.get?) = He.valD fns := congrArg (fun z : AlG => z.1) e
  have e2 : moreG h.get? (frA h.get?) = true := congrArg (fun z : AlG => z.2.1) e
  have e3 : (gets.map fun d => seeF (frA h.get?) (gAt (frA h.get?) d.cls d.fld)) = gets.map GetD.val := congrArg (fun z : AlG => z.2.2) e
  obtain ⟨h1, r⟩ := He.ba e2
  obtain ⟨h2, r⟩ := He.ba r
  obtain ⟨h3, r⟩ := He.ba r
  obtain ⟨h4, r⟩ := He.ba r
  have h5 := of_decide_eq_true h4
  refine ⟨e1, h1, h2, h3, e3, out_of (by rw [h5] <;> decide +kernel), ?_⟩
  revert r
  cases q : h.get? (He.cT (frA h.get?) pT).2 with
  | none => exact fun z => Bool.noConfusion z
  | some o => exact fun z => congrArg some (He.emptyTab_eq z)
def hookG : PySem.W.Hook where
  α := AlG
  obs := fun s => obG s.heap.get?
  val := fun _ => valG
  says := fun _ h => ∃ K : PySem.W.Frag, K.In h ∧ SaysG h K
  of := fun _ _ e => ⟨_, He.frG_in, saysG_of e⟩
  keeps := fun _ _ _ ⟨K, hK, c⟩ k => ⟨K, PySem.W.Frag.In.keeps hK k, ⟨c.d, c.gets, c.more, c.hd, c.see, c.out, k _ _ c.empty⟩⟩
theorem obG_eq {g : Addr → Option Obj} {s : Shared} (h : ∀ a, g a = s.heap.get? a) : obG g = hookG.obs s := by
  have e : g = s.heap.get? := funext h
  rw [e] <;> rfl
end Mh
set_option maxRecDepth 100000
set_option maxHeartbeats 0
/-! A2: the top runs, by the kernel: the looks, the facts. -/
namespace Mh
open PySem PySem.W PySem.Calls PyProof.Rows
abbrev Rw0 : OpenRow := OpenLaw.row PySem.Challenge.rw_menuhouses_k51_whole_fit_of_three_things
def ob (s : SharedT) : AlG := obG (HandSHeadRun.getT s)
theorem ob_eq (s : SharedT) : ob s = hookG.obs s.abs := obG_eq (HandSHeadRun.getT_eq s)
def loose0 : List PySem.Str := ["_wall", "WrongValue", "WrongName", "NoAnswer", "InvalidText", "InvalidMarks", "InvalidIndex", "InvalidWord", "NotARanking", "NotAHouse", "NotALook", "NotLooks", "OtherThings", "InvalidRow", "InvalidMenu", "InvalidThings", "InvalidTaken", "InvalidRankings", "InvalidLooks", "InvalidTable", "UnknownThing", "TooMany", "NoHouse", "NoTable", "Clash", "Broken", "NothingToUndo", "MOST_THINGS", "MOST_LOOKS", "best_of"]
def loose1 : List PySem.Str := ["below_of", "is_part", "less", "lower_ends", "is_lowered", "crests_of", "LETTERS", "SIGNS", "is_natural", "is_index", "is_name", "wrong_place", "wrong_names", "check_menu", "check_taken", "check_things", "is_thing", "check_thing", "wrong_name", "Ranking", "ranking_of", "bits_of", "things_of", "let_row", "pairs_of", "needs_of", "sharpened", "are_fit", "is_never", "is_sure"]
def loose2 : List PySem.Str := ["can_take", "MARKS", "are_marks", "check_names", "Look", "look_of", "wrong_look", "Looks", "_law_urn", "_law_draw", "_law_name", "_law_names", "_law_shuffled", "_law_menu", "_law_best", "_law_takes", "_law_look", "_law_has", "_law_rows", "_law_houses", "_law_made", "_law_sort", "_law_field", "_law_caught", "_law_pairs", "_law_reach", "_law_people_right", "_law_refused_right", "_law_right"]
def looseN : List PySem.Str := loose0 ++ loose1 ++ loose2
/-- the state behind the top -/
noncomputable def endW (w : World) (os : OsState) : Option SharedT := HandSHeadRun.endF (HandSHeadRun.stepQ (HandSHeadRun.denQ HandSHeadRun.tabQ) Rw0.prog w) 16000 Rw0.prog w os
/-- the looks hold behind it -/
def LooksP (w : World) : Prop := ∀ os, (endW w os).map (fun s => (HandSHeadRun.looksF Rw0.prog (boot_heap w.params) s.abs, HandSHeadRun.seenQ (view Rw0.prog [97]) looseN (importedModules Rw0.prog.main.body) (fun s => xlAt (view Rw0.prog [97]) [] s && recOk Rw0.toRowW.records s) s.abs)) = some (true, openGood (view Rw0.prog [97]) looseN)
/-- the facts hold behind it -/
def FactsP (w : World) : Prop := ∀ os, (endW w os).map ob = some (hookG.val w)
theorem looks_f (w : World) : LooksP (w.withFollow "special-get-raises" false) := fun os => by kernel_rfl
theorem looks_t (w : World) : LooksP (w.withFollow "special-get-raises" true) := fun os => by kernel_rfl
theorem facts_f (w : World) : FactsP (w.withFollow "special-get-raises" false) := fun os => by kernel_rfl
theorem facts_t (w : World) : FactsP (w.withFollow "special-get-raises" true) := fun os => by kernel_rfl
theorem run_w (w : World) : HandSHeadRun.RunEq Rw0 (view Rw0.prog [97]) hookG ob 16000 looseN w := fun os => by
  have h1 : (endW w os).map _ = _ := byRow2 "special-get-raises" (P := LooksP) looks_f looks_t w os
  have h2 : (endW w os).map ob = some (hookG.val w) := byRow2 "special-get-raises" (P := FactsP) facts_f facts_t w os
  show (endW w os).map _ = _
  cases q : endW w os with
  | none =>
    rw [q] at h2
    cases h2
  | some s =>
    rw [q] at h1 h2
    have h3 := Option.some.inj h1
    have h4 : ob s = hookG.val w := Option.some.inj h2
    show some (_, _, ob s) = _
    rw [h4]
    exact congrArg (fun z : Bool × _ => some (z.1, z.2, hookG.val w)) h3
end Mh
set_option maxRecDepth 100000
set_option maxHeartbeats 4000000
/-! enumerate(tuple) and zip(tuple, text) as things that a for or a comprehension walks. -/
namespace Mh
open PySem PySem.Spec PyProof.Rows L2

theorem enumNewB {v : Value} {o : Obj} {G : Heap → Prop} (B : Begins v o G) :
    Meets (Builtin.«enumerate.__new__» ⟨[.type "enumerate", v], []⟩) (fun _ R s => G s.heap ∧
      R (.ok (.ret (.ref (s.heap.push o).objs.size)))
        { s with heap := (s.heap.push o).push { cls := .type "enumerate", data := .fields #[.none, .bool false, .ref s.heap.objs.size, rawInt 0, .none, .none] } }) :=
  .of_wp fun prog w A R s hh => by
    obtain ⟨hp, g, d, tk, os⟩ := s
    obtain ⟨hG, hR⟩ := hh
    have hsub := sub_enumerate
    have q1 : ∀ {A' : Around} {E : Value → Shared → Prop} {Q : Value → Shared → Prop}, Q (.ref hp.objs.size) ⟨hp.push o, g, d, tk, os⟩ → wpAny (model prog w) A' (pyIter v) Q E ⟨hp, g, d, tk, os⟩ :=
      fun q => B.iter prog w _ _ ⟨hp, g, d, tk, os⟩ _ hG q
    wp_walk using q1
    refine wpAny_stack_any fun st => wpAny_pure ?_
    split
    · rename_i c _ _ _ _ _
      cases (c == Value.type "enumerate") <;> (wp_walk using q1) <;> exact ⟨_, rfl, hR⟩
    · wp_walk using q1
      exact ⟨_, rfl, hR⟩

theorem enumCallB {prog : Program} {w : World} {A : Around} {E : Value → Shared → Prop} {s : Shared} {v : Value} {o : Obj} {G : Heap → Prop} {Q : Value → Shared → Prop} (B : Begins v o G) (hG : G s.heap)
    (h : ∀ h', IsEnum h' (s.heap.objs.size + 1) s.heap.objs.size 0 .none → h'.get? s.heap.objs.size = some o → h'.objs.size = s.heap.objs.size + 2 →
      (∀ b u, s.heap.get? b = some u → h'.get? b = some u) → Q (.ref (s.heap.objs.size + 1)) { s with heap := h' }) :
    wpAny (model prog w) A (call (.type "enumerate") [v]) Q E s := by
  refine callType_new F.called_enumerate (by decide) (F.typeCall_enumerate_1 _) (F.newCall_enumerate_1 _) (fun obj => F.args_object_init_2 obj _) F.entry_enumerate_new
    (enumNewB B) ⟨hG, ?_⟩
  have hz : (s.heap.push o).objs.size = s.heap.objs.size + 1 := Heap.size_push ..
  have he := Heap.get?_push_size (s.heap.push o) (o := { cls := .type "enumerate", data := .fields #[.none, .bool false, .ref s.heap.objs.size, rawInt 0, .none, .none] }) rfl
  show _ ∧ _
  rw [hz] at he ⊢
  exact ⟨⟨_, he, rfl⟩, h _ he (Heap.get?_push_of_some _ (Heap.get?_push_size _ B.free)) (by rw [Heap.size_push, hz]) fun b u x => Heap.get?_push_of_some _ (Heap.get?_push_of_some _ x)⟩

/-- enumerate over the tuple at a -/
def Iet (K : PySem.W.Frag) (a : Addr) : It :=
  ⟨fun i H => ∃ (xs : List V) (x : V), SqT K H a xs ∧ xs[i]? = some x, fun i H v H' => ∃ T x, v = .ref T ∧ H T = none ∧ H' = upd H T (.tup [.int (i : Nat), x]) ∧ ∀ xs, SqT K H a xs → xs[i]? = some x, fun i H => ∃ xs : List V, SqT K H a xs ∧ xs.length = i⟩

theorem turn_enumT {P : Program} {w : World} {K : PySem.W.Frag} {elts : List Expr} {kk : Nat} {tpos : Pos} (a e it : Addr) (hat : a ≠ it) (hae : a ≠ e) :
    Turn P w K (.Tuple elts kk tpos) (Iet K a) [e, it] e (fun i h => (∃ old, IsEnum h e it ((i : Nat) : Int) old) ∧ h.IsTupleIter it a i ∧ e ≠ it) where
  mem := by simp
  obj := fun i h st b hb => by
    obtain ⟨⟨old, he⟩, ⟨o, ho, hc, hd⟩, _⟩ := st
    rcases List.mem_cons.mp hb with z | z
    · rw [z]; exact ⟨_, he, fun v q => nomatch q⟩
    · rw [List.mem_singleton.mp z]; exact ⟨o, ho, fun v q => by rw [hd] at q; cases q⟩
  keep := fun i h h' st k => let ⟨⟨old, he⟩, hi, hne⟩ := st; ⟨⟨old, k e (by simp) _ he⟩, hi.at fun o q => k it (by simp) o q, hne⟩
  item := by
    intro X hP hw hK hc i pins s σ H E I hf st hg
    subst hP hw hK
    obtain ⟨⟨old, he⟩, hit, hne⟩ := st
    obtain ⟨xs, x, hq, hx⟩ := hg
    obtain ⟨its, rv, p, hz⟩ := I.tuple hq
    obtain ⟨u, hu, ru⟩ := rv.get hx
    have hel : e < s.heap.objs.size := Heap.lt_size he
    have hil : it < s.heap.objs.size := by obtain ⟨_, q, _⟩ := hit; exact Heap.lt_size q
    have p' : s.heap.IsTuple a its.toArray := p
    have hlt : i < its.toArray.size := by
      have := (List.getElem?_eq_some_iff.mp hu).1
      simpa using this
    have D := Draws.tuple (prog := X.prog) (w := X.w) (A := X.A.in1) (I.ok.hd hc) it a hat its.toArray
    refine wpAny_pyNext_enum_itemC D he ⟨hit, p'⟩ hlt hne (by simp [hne, Ne.symm hae]) fun x' h' tk hx' ho hst' hT hsz hk => ?_
    have ex : x' = u := by
      have : its[i]? = some x' := by simpa using hx'
      rw [hu] at this
      exact (Option.some.inj this).symm
    subst ex
    refine ⟨_, rfl, wpAny_letOwnedTupleGo_enum (s := { s with heap := h', toks := tk + 1 }) ho fun h'' he' sb => ?_⟩
    have hT2 : h''.get? s.heap.objs.size = some { cls := .type "tuple", data := .seq #[.int i tk, x'] } := (sb.2 _ (Nat.ne_of_gt hel)).trans hT
    have new : ObjOk X.prog X.w (upd H s.heap.objs.size (.tup [.int (i : Nat), x])) h'' s.heap.objs.size (.tup [.int (i : Nat), x]) :=
      ⟨by show 2 ≤ sizeLine; decide, [.int i tk, x'], .cons ⟨_, rfl⟩ (.cons ru .nil), ⟨_, hT2, rfl, _, rfl⟩⟩
    have I1 : Inv X pins σ (upd H s.heap.objs.size (.tup [.int (i : Nat), x])) { s with heap := h'', toks := tk + 1 } :=
      I.turnedNew (ch := [e, it]) (fun b ob hb q => (sb.2 b (fun z => hb (by simp [z]))).trans (hk b ob (fun z => hb (by simp [z])) (fun z => hb (by simp [z])) q)) hf (Nat.le_refl _) new
    refine ⟨.ref s.heap.objs.size, _, I1, rfl, ⟨_, x, rfl, I.hok.fresh (Nat.le_refl _), rfl, fun ys hy => by rw [I.tuple_inj hy hq]; exact hx⟩, ⟨⟨x', ?_⟩, hst'.1.at fun o q => (sb.2 it (Ne.symm hne)).trans q, hne⟩, fun b hb => ?_⟩
    · have e1 : ((i + 1 : Nat) : Int) = (i : Int) + 1 := by omega
      rw [e1]; exact he'
    · have hb' : b < s.heap.objs.size := by
        rcases List.mem_cons.mp hb with z | z
        · rw [z]; exact hel
        · rw [List.mem_singleton.mp z]; exact hil
      rw [upd_ne (Nat.ne_of_lt hb')]
      exact (hf b hb).1
  done := by
    intro X hP hw hK hc i pins s σ H E I hf st hg
    subst hP hw hK
    obtain ⟨⟨old, he⟩, hit, hne⟩ := st
    obtain ⟨xs, hq, hx⟩ := hg
    obtain ⟨its, rv, p, hz⟩ := I.tuple hq
    obtain ⟨f0, f1, f2, f3, f4, f5⟩ := hf it (by simp)
    have hl := rv.length
    have D := Draws.tuple (prog := X.prog) (w := X.w) (A := X.A.in1) (I.ok.hd hc) it a hat its.toArray
    have p' : s.heap.IsTuple a its.toArray := p
    have hi : its.toArray.size = i := by simp; omega
    refine wpAny_pyNext_enum_endD D he (by rw [hi]; exact ⟨hit, p'⟩) fun h' eb => ⟨rfl, I.turned (t' := s.toks) (fun b o hb q => eb b o hb q) f0 f1 f3 f4 f5⟩
  self := fun A i s Q E st h => let ⟨⟨_, he⟩, _⟩ := st; wpAny_pyIter_enum he h

def iEnumT (K : PySem.W.Frag) (ta : TA) : TI := fun σ H R => ta σ H fun vs H1 => ∃ a xs, vs = [.ref a] ∧ SqT K H1 a xs ∧ R (Iet K a) H1
theorem pi_enumT {X : Cx} {e : Expr} {ta : TA} {p pos tpos : Pos} {elts : List Expr} {kk : Nat} (hg : Gl X "enumerate") (hm : X.mg "enumerate" = none) (ha : PA X [e] ta) (hs : starEach [e] X.env = [(false, eval e X.env)] := by rfl) :
    PI X (.Tuple elts kk tpos) (.Call (.Name "enumerate" p) [e] [] pos) (iEnumT X.K ta) := by
  refine ⟨fun pins s σ H R I h => ?_⟩
  refine Call_ (ld_blt I hg hm boot_enumerate (PyProof.Rows.callWith_type1 (thn (ha.run pos pins s σ H _ I h) fun us s1 ⟨vs, H1, I1, r1, q1⟩ => ?_) hs rfl))
  obtain ⟨a, xs, ex, hq, q⟩ := q1
  subst ex
  obtain ⟨u, rfl, r⟩ := vals1 r1
  cases (show u = Value.ref a from r)
  obtain ⟨its, rv, p', hz⟩ := I1.tuple hq
  have p2 : s1.heap.IsTuple a its.toArray := p'
  have hal : a < s1.heap.objs.size := p'.lt
  refine enumCallB (begins_tuple a its.toArray) p2 fun h' he hit hsz hk => wpAny_pyIter_enum he ?_
  have I2 : Inv X pins σ H1 { s1 with heap := h' } := I1.kept (t' := s1.toks) hk
  refine ⟨s1.heap.objs.size + 1, [s1.heap.objs.size + 1, s1.heap.objs.size], _, _, H1, rfl, I2, turn_enumT a (s1.heap.objs.size + 1) s1.heap.objs.size (Nat.ne_of_lt hal) (Nat.ne_of_lt (Nat.lt_succ_of_lt hal)), ⟨⟨.none, he⟩, ⟨_, hit, rfl, rfl⟩, Nat.succ_ne_self _⟩, fun b hb => ?_, q⟩
  have hle : s1.heap.objs.size ≤ b := by
    rcases List.mem_cons.mp hb with z | z
    · rw [z]; exact Nat.le_add_right _ _
    · rw [List.mem_singleton.mp z]; exact Nat.le_refl _
  exact I1.fpOk hle (I1.hok.fresh hle)
/-- the walk's words -/
theorem walk_enumT {K : PySem.W.Frag} {a : Addr} {xs : List V} : Walk (Iet K a) xs.length (fun H => SqT K H a xs) (YPair (fun i => if i < xs.length then some (.int (i : Nat)) else none) fun i => xs[i]?) :=
  ⟨fun i _ hi q => ⟨xs, xs[i], q, by simp [hi]⟩, fun _ q => ⟨xs, q, rfl⟩, fun i H v H' hi q y => by
    obtain ⟨T, x, rfl, hT, rfl, f⟩ := y
    exact ⟨T, _, x, rfl, hT, rfl, if_pos hi, f xs q⟩⟩

/-! ### zip(tuple, text) -/
def Izts (K : PySem.W.Frag) (a : Addr) (z : Str) : It :=
  ⟨fun i H => ∃ (xs : List V) (x : V), SqT K H a xs ∧ xs[i]? = some x ∧ i < z.cps.size,
    fun i H v H' => ∃ T x c, v = .ref T ∧ H T = none ∧ H' = upd H T (.tup [x, .str ⟨#[c]⟩]) ∧ (∀ xs, SqT K H a xs → xs[i]? = some x) ∧ z.cps[i]? = some c,
    fun i H => ∃ xs : List V, SqT K H a xs ∧ xs.length = i ∧ z.cps.size = i⟩
theorem turn_zipTS {P : Program} {w : World} {K : PySem.W.Frag} {elts : List Expr} {kk : Nat} {tpos : Pos} {a z TI TO i1 i2 : Addr} {x : Str} {t : Tok} (S : ZipSep2 z TI TO i1 i2 [i1, a] [i2]) (hai : a ≠ i1) :
    Turn P w K (.Tuple elts kk tpos) (Izts K a x) [z, TI, TO, i1, i2] z (fun i h => IsZip h z TI TO .none ∧ IsTupOf2 h TI (.ref i1) (.ref i2) ∧ (∃ x y, IsTupOf2 h TO x y) ∧ h.IsTupleIter i1 a i ∧ h.IsStrIter i2 (strIterType x) x t i) where
  mem := by simp
  obj := fun i h st c hc => by
    obtain ⟨hz, hTI, ⟨_, _, hTO⟩, ⟨o1, e1, _, d1⟩, ⟨o2, e2, _, d2⟩⟩ := st
    have e' : c = z ∨ c = TI ∨ c = TO ∨ c = i1 ∨ c = i2 := by simpa using hc
    rcases e' with q | q | q | q | q
    · rw [q]; exact ⟨_, hz, fun v q => nomatch q⟩
    · rw [q]; exact ⟨_, hTI, fun v q => nomatch q⟩
    · rw [q]; exact ⟨_, hTO, fun v q => nomatch q⟩
    · rw [q]; exact ⟨o1, e1, fun v q => by rw [d1] at q; cases q⟩
    · rw [q]; exact ⟨o2, e2, fun v q => by rw [d2] at q; cases q⟩
  keep := fun i h h' st k => by
    obtain ⟨hz, hTI, ⟨x0, y0, hTO⟩, h1, ⟨o2, e2, r2⟩⟩ := st
    exact ⟨k z (by simp) _ hz, k TI (by simp) _ hTI, ⟨x0, y0, k TO (by simp) _ hTO⟩, h1.at fun o q => k i1 (by simp) o q, ⟨o2, k i2 (by simp) _ e2, r2⟩⟩
  item := by
    intro X hP hw hK hc i pins s σ H E I hf st hg
    subst hP hw hK
    obtain ⟨hz, hTI, ⟨x0, y0, hTO⟩, h1, h2⟩ := st
    obtain ⟨xs, v, hq, hx, hlt2⟩ := hg
    obtain ⟨its, rv, p, _⟩ := I.tuple hq
    obtain ⟨u, hu, ru⟩ := rv.get hx
    have p' : s.heap.IsTuple a its.toArray := p
    have hlt : i < its.toArray.size := by
      have := (List.getElem?_eq_some_iff.mp hu).1
      simpa using this
    have D1 := Draws.tuple (prog := X.prog) (w := X.w) (A := X.A.in1) (I.ok.hd hc) i1 a hai its.toArray
    have D2 := Draws.text (prog := X.prog) (w := X.w) (A := X.A.in1) (I.ok.hd hc) i2 x t
    have hzl : z < s.heap.objs.size := Heap.lt_size hz
    refine wpAny_pyNext_zipD2_item S D1 D2 hz hTI hTO ⟨h1, p'⟩ h2 hlt hlt2 fun v1 v2 h' tk hv1 hv2 z' TO' st1 st2 hT hsz hk => ?_
    obtain ⟨c, uc, hcc, rfl⟩ := hv2
    have ex : v1 = u := by
      have : its[i]? = some v1 := by simpa using hv1
      rw [hu] at this
      exact (Option.some.inj this).symm
    subst ex
    refine ⟨_, rfl, wpAny_letOwnedTupleGo_zip (s := { s with heap := h', toks := tk }) z' fun h'' z'' sb => ?_⟩
    have hT2 : h''.get? s.heap.objs.size = some { cls := .type "tuple", data := .seq #[v1, .str ⟨#[c]⟩ uc] } := (sb.2 _ (Nat.ne_of_gt hzl)).trans hT
    have new : ObjOk X.prog X.w (upd H s.heap.objs.size (.tup [v, .str ⟨#[c]⟩])) h'' s.heap.objs.size (.tup [v, .str ⟨#[c]⟩]) :=
      ⟨by show 2 ≤ sizeLine; decide, [v1, .str ⟨#[c]⟩ uc], .cons ru (.cons ⟨_, rfl⟩ .nil), ⟨_, hT2, rfl, _, rfl⟩⟩
    have I1 : Inv X pins σ (upd H s.heap.objs.size (.tup [v, .str ⟨#[c]⟩])) { s with heap := h'', toks := tk } :=
      I.turnedNew (t' := tk) (ch := [z, TI, TO, i1, i2]) (fun c o hb q => (sb.2 c (fun q' => hb (by simp [q']))).trans (hk c o (fun q' => hb (by simp [q'])) (fun q' => hb (by simp [q'])) (fun q' => hb (by simp [q'])) (fun q' => hb (by simp [q'])) q)) hf (Nat.le_refl _) new
    refine ⟨.ref s.heap.objs.size, _, I1, rfl, ⟨_, v, c, rfl, I.hok.fresh (Nat.le_refl _), rfl, fun l hl => by rw [I.tuple_inj hl hq]; exact hx, hcc⟩, ⟨z'', ?_, ⟨v1, .str ⟨#[c]⟩ uc, ?_⟩, ?_, ?_⟩, fun c hcm => ?_⟩
    · exact (sb.2 _ S.TIz).trans (hk _ _ S.TIz S.TITO S.TIi1 S.TIi2 hTI)
    · exact (sb.2 _ S.TOz).trans TO'
    · exact st1.1.at fun o q => (sb.2 _ (fun e => S.zf1 (by rw [← e]; exact S.mem1))).trans q
    · obtain ⟨o2, e2, r2⟩ := st2
      exact ⟨o2, (sb.2 _ (fun e => S.zf2 (by rw [← e]; exact S.mem2))).trans e2, r2⟩
    · have hlt : c < s.heap.objs.size := by
        have e' : c = z ∨ c = TI ∨ c = TO ∨ c = i1 ∨ c = i2 := by simpa using hcm
        rcases e' with q | q | q | q | q
        · rw [q]; exact hzl
        · rw [q]; exact Heap.lt_size hTI
        · rw [q]; exact Heap.lt_size hTO
        · rw [q]; obtain ⟨_, e1, _⟩ := h1; exact Heap.lt_size e1
        · rw [q]; obtain ⟨_, e2, _⟩ := h2; exact Heap.lt_size e2
      rw [upd_ne (Nat.ne_of_lt hlt)]
      exact (hf c hcm).1
  done := by
    intro X hP hw hK hc i pins s σ H E I hf st hg
    subst hP hw hK
    obtain ⟨hz, hTI, ⟨x0, y0, hTO⟩, h1, h2⟩ := st
    obtain ⟨xs, hq, hl1, hl2⟩ := hg
    obtain ⟨its, rv, p, _⟩ := I.tuple hq
    have hl := rv.length
    have p' : s.heap.IsTuple a its.toArray := p
    have D1 := Draws.tuple (prog := X.prog) (w := X.w) (A := X.A.in1) (I.ok.hd hc) i1 a hai its.toArray
    have D2 := Draws.text (prog := X.prog) (w := X.w) (A := X.A.in1) (I.ok.hd hc) i2 x t
    have hn1 : i = its.toArray.size := by simp; omega
    refine wpAny_pyNext_zipD2_end S D1 D2 hz hTI hTO ⟨h1, p'⟩ h2 (Nat.le_of_eq hn1) (Nat.le_of_eq hl2.symm) (.inl hn1) fun h' tk hk => ⟨rfl, ?_⟩
    refine I.turnedL (t' := tk) (ch := [z, TI, TO, i1, i2]) (fun c o hb q => hk c o (fun q' => hb (by simp [q'])) (fun q' => hb (by simp [q'])) (fun q' => hb (by simp [q'])) (fun q' => hb (by simp [q'])) q) hf
  self := fun A i s Q E st h => wpAny_pyIter_zip st.1 h

def iZipTS (K : PySem.W.Frag) (ta : TA) : TI := fun σ H R => ta σ H fun vs H1 => ∃ a xs z, vs = [.ref a, .str z] ∧ SqT K H1 a xs ∧ R (Izts K a z) H1
theorem pi_zipTS {X : Cx} {e e2 : Expr} {ta : TA} {p pos tpos : Pos} {elts : List Expr} {kk : Nat} (hg : Gl X "zip") (hm : X.mg "zip" = none) (ha : PA X [e, e2] ta)
    (hs : starEach [e, e2] X.env = (false, eval e X.env) :: starEach [e2] X.env := by rfl) (hpl : (backTo pos (starEach [e2] X.env)).any (·.1) = false := by rfl) :
    PI X (.Tuple elts kk tpos) (.Call (.Name "zip" p) [e, e2] [] pos) (iZipTS X.K ta) := by
  refine ⟨fun pins s σ H R I h => ?_⟩
  refine Call_ (ld_blt I hg hm PyProof.Rows.boot_zip (PyProof.Rows.callWith_type1 (thn (ha.run pos pins s σ H _ I h) fun us s1 ⟨vs, H1, I1, r1, q1⟩ => ?_) hs hpl))
  obtain ⟨a, xs, z, ex, hq, q⟩ := q1
  subst ex
  obtain ⟨u1, u2, rfl, r, r'⟩ := vals2 r1
  cases (show u1 = Value.ref a from r)
  obtain ⟨t, rfl⟩ := (show ∃ t, u2 = Value.str z t from r')
  obtain ⟨its, rv, p', hz⟩ := I1.tuple hq
  have p2 : s1.heap.IsTuple a its.toArray := p'
  have hal : a < s1.heap.objs.size := p'.lt
  refine zip_begins2 (begins_tuple a its.toArray) (begins_text z t) p2 trivial fun h' hzz hTI hTO h1 h2 hsz hk => wpAny_pyIter_zip hzz ?_
  have I2 : Inv X pins σ H1 { s1 with heap := h' } := I1.kept (t' := s1.toks) hk
  have S := zip_sep2 (N := s1.heap.objs.size) (fp1 := [a]) (fp2 := []) (fun b hb => by rw [List.mem_singleton.mp hb]; exact hal) (fun b hb => nomatch hb)
  refine ⟨s1.heap.objs.size + 4, [s1.heap.objs.size + 4, s1.heap.objs.size + 2, s1.heap.objs.size + 3, s1.heap.objs.size, s1.heap.objs.size + 1], _, _, H1, rfl, I2, turn_zipTS (x := z) (t := t) S (Nat.ne_of_lt hal), ⟨hzz, hTI, ⟨_, _, hTO⟩, ⟨_, h1, rfl, rfl⟩, ⟨_, h2, rfl, rfl⟩⟩, fun c hcm => ?_, q⟩
  have hle : s1.heap.objs.size ≤ c := by
    have e' : c = s1.heap.objs.size + 4 ∨ c = s1.heap.objs.size + 2 ∨ c = s1.heap.objs.size + 3 ∨ c = s1.heap.objs.size ∨ c = s1.heap.objs.size + 1 := by simpa using hcm
    rcases e' with z | z | z | z | z <;> rw [z]
    · exact Nat.le_add_right _ _
    · exact Nat.le_add_right _ _
    · exact Nat.le_add_right _ _
    · exact Nat.le_refl _
    · exact Nat.le_add_right _ _
  exact I1.fpOk hle (I1.hok.fresh hle)
theorem walk_zipTS {K : PySem.W.Frag} {a : Addr} {xs : List V} {z : Str} (hl : xs.length = z.cps.size) : Walk (Izts K a z) xs.length (fun H => SqT K H a xs) (YPair (fun i => xs[i]?) fun i => z.cps[i]?.map fun c => .str ⟨#[c]⟩) :=
  ⟨fun i _ hi q => ⟨xs, xs[i], q, by simp [hi], by omega⟩, fun _ q => ⟨xs, q, rfl, hl.symm⟩, fun i H v H' hi q y => by
    obtain ⟨T, x, c, rfl, hT, rfl, f, hc⟩ := y
    exact ⟨T, x, _, rfl, hT, rfl, f xs q, by show Option.map _ (z.cps[i]?) = _; rw [hc]; rfl⟩⟩
end Mh
set_option maxRecDepth 100000
set_option maxHeartbeats 2000000
/-! M0: pure deep values over the layer; judgements by environments of such values. -/
namespace Mh
open PySem PySem.Spec PyProof.Rows L2
open Evl (Ex)
abbrev St := L2.St

inductive D where
  | int (i : Int) | bl (b : Bool) | non | str (x : Str) | tup (l : List D) | lst (l : List D) | obj (c : Addr) (ns : List Str) (l : List D) | val (v : V) | scr (K : PySem.W.Frag) (ns : List Int) | ext (a : Addr) (P : Hp → Prop) (m : ∀ S S', Ex S S' → P S → P S')

mutual
/-- v stands for d in the heap H -/
def Rep (H : Hp) : D → V → Prop
  | .int i, v => v = .int i
  | .bl b, v => v = .bl b
  | .non, v => v = .non
  | .str x, v => v = .str x
  | .tup l, v => ∃ a vs, v = .ref a ∧ H a = some (.tup vs) ∧ RepL H l vs
  | .lst l, v => ∃ a vs, v = .ref a ∧ H a = some (.lst vs) ∧ RepL H l vs
  | .obj c ns l, v => ∃ a dx vs, v = .ref a ∧ H a = some (.ins c dx (ns.zip vs)) ∧ RepL H l vs
  | .val u, v => v = u
  | .scr K ns, v => ∃ a, v = .ref a ∧ SqL K H a (ns.map V.int)
  | .ext a P _, v => v = .ref a ∧ P H
def RepL (H : Hp) : List D → List V → Prop
  | [], vs => vs = []
  | d :: l, vs => ∃ v r, vs = v :: r ∧ Rep H d v ∧ RepL H l r
end

section
variable {S S' H H' : Hp}
mutual
theorem Rep.mono (e : Ex S S') : ∀ {d : D} {v : V}, Rep S d v → Rep S' d v
  | .int _, _, h => by unfold Rep at h ⊢; exact h
  | .bl _, _, h => by unfold Rep at h ⊢; exact h
  | .non, _, h => by unfold Rep at h ⊢; exact h
  | .str _, _, h => by unfold Rep at h ⊢; exact h
  | .tup l, _, h => by
    unfold Rep at h ⊢
    obtain ⟨a, vs, h1, h2, h3⟩ := h
    exact ⟨a, vs, h1, e _ _ h2, RepL.mono e h3⟩
  | .lst l, _, h => by
    unfold Rep at h ⊢
    obtain ⟨a, vs, h1, h2, h3⟩ := h
    exact ⟨a, vs, h1, e _ _ h2, RepL.mono e h3⟩
  | .obj c ns l, _, h => by
    unfold Rep at h ⊢
    obtain ⟨a, dx, vs, h1, h2, h3⟩ := h
    exact ⟨a, dx, vs, h1, e _ _ h2, RepL.mono e h3⟩
  | .val _, _, h => by unfold Rep at h ⊢; exact h
  | .scr K ns, _, h => by
    unfold Rep at h ⊢
    obtain ⟨a, h1, h2⟩ := h
    exact ⟨a, h1, Evl.ex_l e h2⟩
  | .ext a P m, _, h => by
    unfold Rep at h ⊢
    exact ⟨h.1, m _ _ e h.2⟩
theorem RepL.mono (e : Ex S S') : ∀ {l : List D} {vs : List V}, RepL S l vs → RepL S' l vs
  | [], _, h => by unfold RepL at h ⊢; exact h
  | d :: l, _, h => by
    unfold RepL at h ⊢
    obtain ⟨v, r, h1, h2, h3⟩ := h
    exact ⟨v, r, h1, Rep.mono e h2, RepL.mono e h3⟩
end
theorem Rep.int {i : Int} {v : V} (h : Rep S (.int i) v) : v = .int i := by unfold Rep at h; exact h
theorem Rep.bl {b : Bool} {v : V} (h : Rep S (.bl b) v) : v = .bl b := by unfold Rep at h; exact h
theorem Rep.non {v : V} (h : Rep S .non v) : v = .non := by unfold Rep at h; exact h
theorem Rep.str {x : Str} {v : V} (h : Rep S (.str x) v) : v = .str x := by unfold Rep at h; exact h
theorem Rep.tup {l : List D} {v : V} (h : Rep S (.tup l) v) : ∃ a vs, v = .ref a ∧ S a = some (.tup vs) ∧ RepL S l vs := by unfold Rep at h; exact h
theorem Rep.lst {l : List D} {v : V} (h : Rep S (.lst l) v) : ∃ a vs, v = .ref a ∧ S a = some (.lst vs) ∧ RepL S l vs := by unfold Rep at h; exact h
theorem Rep.obj {c : Addr} {ns : List Str} {l : List D} {v : V} (h : Rep S (.obj c ns l) v) : ∃ a dx vs, v = .ref a ∧ S a = some (.ins c dx (ns.zip vs)) ∧ RepL S l vs := by unfold Rep at h; exact h
theorem Rep.val {u v : V} (h : Rep S (.val u) v) : v = u := by unfold Rep at h; exact h
theorem Rep.scr {K : PySem.W.Frag} {ns : List Int} {v : V} (h : Rep S (.scr K ns) v) : ∃ a, v = .ref a ∧ SqL K S a (ns.map V.int) := by unfold Rep at h; exact h
theorem Rep.ext {a : Addr} {P : Hp → Prop} {m : ∀ S S', Ex S S' → P S → P S'} {v : V} (h : Rep S (.ext a P m) v) : v = .ref a ∧ P S := by unfold Rep at h; exact h
theorem rep_ext {a : Addr} {P : Hp → Prop} {m : ∀ S S', Ex S S' → P S → P S'} (h : P S) : Rep S (.ext a P m) (.ref a) := by unfold Rep; exact ⟨rfl, h⟩
theorem rep_scr {K : PySem.W.Frag} {ns : List Int} {a : Addr} (h : SqL K S a (ns.map V.int)) : Rep S (.scr K ns) (.ref a) := by unfold Rep; exact ⟨a, rfl, h⟩
theorem rep_val {u : V} : Rep S (.val u) u := by unfold Rep; rfl
theorem rep_int {i : Int} : Rep S (.int i) (.int i) := by unfold Rep; rfl
theorem rep_bl {b : Bool} : Rep S (.bl b) (.bl b) := by unfold Rep; rfl
theorem rep_non : Rep S .non .non := by unfold Rep; rfl
theorem rep_str {x : Str} : Rep S (.str x) (.str x) := by unfold Rep; rfl
theorem rep_tup {l : List D} {a : Addr} {vs : List V} (h : S a = some (.tup vs)) (r : RepL S l vs) : Rep S (.tup l) (.ref a) := by unfold Rep; exact ⟨a, vs, rfl, h, r⟩
theorem rep_lst {l : List D} {a : Addr} {vs : List V} (h : S a = some (.lst vs)) (r : RepL S l vs) : Rep S (.lst l) (.ref a) := by unfold Rep; exact ⟨a, vs, rfl, h, r⟩
theorem rep_obj {c : Addr} {ns : List Str} {l : List D} {a dx : Addr} {vs : List V} (h : S a = some (.ins c dx (ns.zip vs))) (r : RepL S l vs) : Rep S (.obj c ns l) (.ref a) := by unfold Rep; exact ⟨a, dx, vs, rfl, h, r⟩
theorem RepL.nil {vs : List V} (h : RepL S [] vs) : vs = [] := by unfold RepL at h; exact h
theorem RepL.cons {d : D} {l : List D} {vs : List V} (h : RepL S (d :: l) vs) : ∃ v r, vs = v :: r ∧ Rep S d v ∧ RepL S l r := by unfold RepL at h; exact h
theorem repL_nil : RepL S [] [] := by unfold RepL; rfl
theorem repL_cons {d : D} {l : List D} {v : V} {vs : List V} (h : Rep S d v) (r : RepL S l vs) : RepL S (d :: l) (v :: vs) := by unfold RepL; exact ⟨v, vs, rfl, h, r⟩
theorem RepL.length : ∀ {l : List D} {vs : List V}, RepL S l vs → l.length = vs.length
  | [], _, h => by rw [h.nil] <;> rfl
  | d :: l, _, h => by
    obtain ⟨v, r, rfl, _, h3⟩ := h.cons
    exact congrArg (· + 1) (RepL.length h3)
theorem RepL.get : ∀ {l : List D} {vs : List V} {i : Nat} {d : D}, RepL S l vs → l[i]? = some d → ∃ v, vs[i]? = some v ∧ Rep S d v
  | [], _, _, _, _, e => by simp at e
  | d :: l, _, 0, d', h, e => by
    obtain ⟨v, r, rfl, h2, h3⟩ := h.cons
    have e1 : d = d' := by simpa using e
    subst e1
    exact ⟨v, rfl, h2⟩
  | d :: l, _, i + 1, d', h, e => by
    obtain ⟨v, r, rfl, h2, h3⟩ := h.cons
    obtain ⟨u, h4, h5⟩ := RepL.get (i := i) h3 (by simpa using e)
    exact ⟨u, by simpa using h4, h5⟩
theorem RepL.get' {l : List D} {vs : List V} {i : Nat} {v : V} (h : RepL S l vs) (e : vs[i]? = some v) : ∃ d, l[i]? = some d ∧ Rep S d v := by
  have hi := (List.getElem?_eq_some_iff.mp e).1
  have hj : i < l.length := by rw [h.length]; exact hi
  obtain ⟨u, h1, h2⟩ := h.get (List.getElem?_eq_getElem hj)
  rw [e] at h1
  cases h1
  exact ⟨_, List.getElem?_eq_getElem hj, h2⟩
theorem RepL.append : ∀ {l m : List D} {vs ws : List V}, RepL S l vs → RepL S m ws → RepL S (l ++ m) (vs ++ ws)
  | [], _, _, _, h, k => by rw [h.nil]; exact k
  | d :: l, _, _, _, h, k => by
    obtain ⟨v, r, rfl, h2, h3⟩ := h.cons
    exact repL_cons h2 (RepL.append h3 k)
theorem RepL.take : ∀ (n : Nat) {l : List D} {vs : List V}, RepL S l vs → RepL S (l.take n) (vs.take n)
  | 0, _, _, _ => by simpa using (repL_nil : RepL S [] [])
  | n + 1, [], _, h => by rw [h.nil]; simpa using (repL_nil : RepL S [] [])
  | n + 1, d :: l, _, h => by
    obtain ⟨v, r, rfl, h2, h3⟩ := h.cons
    exact repL_cons h2 (RepL.take n h3)
theorem RepL.drop : ∀ (n : Nat) {l : List D} {vs : List V}, RepL S l vs → RepL S (l.drop n) (vs.drop n)
  | 0, _, _, h => h
  | n + 1, [], _, h => by rw [h.nil]; simpa using (repL_nil : RepL S [] [])
  | n + 1, d :: l, _, h => by
    obtain ⟨v, r, rfl, h2, h3⟩ := h.cons
    exact RepL.drop n h3
theorem RepL.reverse : ∀ {l : List D} {vs : List V}, RepL S l vs → RepL S l.reverse vs.reverse
  | [], _, h => by rw [h.nil]; exact repL_nil
  | d :: l, _, h => by
    obtain ⟨v, r, rfl, h2, h3⟩ := h.cons
    rw [List.reverse_cons, List.reverse_cons]
    exact (RepL.reverse h3).append (repL_cons h2 repL_nil)
/-- lists of texts, ints, bools -/
theorem repL_strs : ∀ {xs : List Str} {vs : List V}, RepL S (xs.map D.str) vs → vs = xs.map V.str
  | [], _, h => h.nil
  | x :: xs, _, h => by
    obtain ⟨v, r, rfl, h2, h3⟩ := RepL.cons h
    rw [h2.str, repL_strs h3] <;> rfl
theorem repL_of_strs : ∀ {xs : List Str}, RepL S (xs.map D.str) (xs.map V.str)
  | [] => repL_nil
  | x :: xs => repL_cons rep_str repL_of_strs
theorem repL_ints : ∀ {xs : List Int} {vs : List V}, RepL S (xs.map D.int) vs → vs = xs.map V.int
  | [], _, h => h.nil
  | x :: xs, _, h => by
    obtain ⟨v, r, rfl, h2, h3⟩ := RepL.cons h
    rw [h2.int, repL_ints h3] <;> rfl
theorem repL_of_ints : ∀ {xs : List Int}, RepL S (xs.map D.int) (xs.map V.int)
  | [] => repL_nil
  | x :: xs => repL_cons rep_int repL_of_ints
theorem repL_bls : ∀ {xs : List Bool} {vs : List V}, RepL S (xs.map D.bl) vs → vs = xs.map V.bl
  | [], _, h => h.nil
  | x :: xs, _, h => by
    obtain ⟨v, r, rfl, h2, h3⟩ := RepL.cons h
    rw [h2.bl, repL_bls h3] <;> rfl
theorem repL_of_bls : ∀ {xs : List Bool}, RepL S (xs.map D.bl) (xs.map V.bl)
  | [] => repL_nil
  | x :: xs => repL_cons rep_bl repL_of_bls
end

/-! ### growth: S the part that never changes, H all -/
/-- not a tuple -/
abbrev NT (o : HO) : Prop := ∀ xs, o ≠ .tup xs
theorem ntl {vs : List V} : NT (.lst vs) := fun _ z => nomatch z
structure Gr (S H S' H' : Hp) : Prop where
  ss : Ex S S'
  sh : Ex S' H'
  hh : Ex H H'
  fr : ∀ a o, S a = none → H a = some o → NT o → S' a = none
section
variable {S H S1 H1 S2 H2 : Hp} {p : Addr} {o : HO}
theorem Gr.refl (e : Ex S H) : Gr S H S H := ⟨Ex.refl S, e, Ex.refl H, fun _ _ h _ _ => h⟩
theorem Gr.trans (a : Gr S H S1 H1) (b : Gr S1 H1 S2 H2) : Gr S H S2 H2 :=
  ⟨a.ss.trans b.ss, b.sh, a.hh.trans b.hh, fun x o h h' n => b.fr x o (a.fr x o h h' n) (a.hh x o h') n⟩
theorem none_of_ex (e : Ex S H) (h : H p = none) : S p = none := by
  cases h1 : S p with
  | none => rfl
  | some o =>
    rw [e p o h1] at h
    cases h
theorem Gr.new (e : Ex S H) (h : H p = none) : Gr S H (upd S p o) (upd H p o) := by
  refine ⟨Ex.new (none_of_ex e h), fun a u ha => ?_, Ex.new h, fun a u hs hu _ => ?_⟩
  · by_cases q : a = p
    · subst q
      rw [upd_same] at ha ⊢
      exact ha
    · rw [upd_ne q] at ha ⊢
      exact e a u ha
  · rw [upd_ne (ne_of_none hu h)]
    exact hs
/-- a new thing, changed while the heap grew, becomes fixed -/
theorem Gr.join (e : Ex S H) (h : H p = none) (g : Gr S (upd H p o) S1 H1) {u : HO} (hu : H1 p = some u) (hs : S1 p = none) (hn : ∀ H2, H2 = H1 → Ex H H2) : Gr S H (upd S1 p u) H1 := by
  refine ⟨fun a w ha => ?_, fun a w ha => ?_, hn H1 rfl, fun a w hs' hw hnt => ?_⟩
  · by_cases q : a = p
    · subst q
      rw [none_of_ex e h] at ha
      cases ha
    · rw [upd_ne q]
      exact g.ss a w ha
  · by_cases q : a = p
    · subst q
      rw [upd_same] at ha
      rw [hu]
      exact ha
    · rw [upd_ne q] at ha
      exact g.sh a w ha
  · have q : a ≠ p := ne_of_none hw h
    rw [upd_ne q]
    exact g.fr a w hs' (by rw [upd_ne q]; exact hw) hnt
end

/-! ### environments -/
abbrev En := List (Option D)
structure RepE (S : Hp) (ρ : En) (σ : St) : Prop where
  len : σ.length = ρ.length
  at_ : ∀ (i : Nat) (d : D), ρ[i]? = some (some d) → ∃ v, σ[i]? = some (some v) ∧ Rep S d v
section
variable {S S' : Hp} {ρ : En} {σ : St}
theorem RepE.mono (e : Ex S S') (h : RepE S ρ σ) : RepE S' ρ σ := ⟨h.len, fun i d q => by
  obtain ⟨v, h1, h2⟩ := h.at_ i d q
  exact ⟨v, h1, h2.mono e⟩⟩
theorem RepE.set {i : Nat} {d : D} {v : V} (h : RepE S ρ σ) (r : Rep S d v) : RepE S (ρ.set i (some d)) (σ.set i (some v)) := by
  refine ⟨by simp [h.len], fun j e q => ?_⟩
  by_cases hij : i = j
  · subst hij
    rw [List.getElem?_set] at q
    by_cases hl : i < ρ.length
    · rw [if_pos rfl, if_pos hl] at q
      cases q
      exact ⟨v, by rw [List.getElem?_set, if_pos rfl, if_pos (by rw [h.len]; exact hl)], r⟩
    · rw [if_pos rfl, if_neg hl] at q
      cases q
  · rw [List.getElem?_set_ne hij] at q
    obtain ⟨u, h1, h2⟩ := h.at_ j e q
    exact ⟨u, by rw [List.getElem?_set_ne hij]; exact h1, h2⟩
/-- a slot forgotten -/
theorem RepE.unset {i : Nat} {x : Option V} (h : RepE S ρ σ) : RepE S (ρ.set i none) (σ.set i x) := by
  refine ⟨by simp [h.len], fun j e q => ?_⟩
  by_cases hij : i = j
  · subst hij
    rw [List.getElem?_set] at q
    by_cases hl : i < ρ.length
    · rw [if_pos rfl, if_pos hl] at q
      cases q
    · rw [if_pos rfl, if_neg hl] at q
      cases q
  · rw [List.getElem?_set_ne hij] at q
    obtain ⟨u, h1, h2⟩ := h.at_ j e q
    exact ⟨u, by rw [List.getElem?_set_ne hij]; exact h1, h2⟩
/-- less is known -/
def Le (ρ ρ' : En) : Prop := ρ.length = ρ'.length ∧ ∀ (i : Nat) (d : D), ρ'[i]? = some (some d) → ρ[i]? = some (some d)
theorem Le.refl (ρ : En) : Le ρ ρ := ⟨rfl, fun _ _ h => h⟩
theorem RepE.le {ρ' : En} (h : RepE S ρ σ) (l : Le ρ ρ') : RepE S ρ' σ := ⟨h.len.trans l.1, fun i d q => h.at_ i d (l.2 i d q)⟩
theorem Le.nil : Le [] [] := Le.refl _
theorem Le.cons {o : Option D} {ρ ρ' : En} (h : Le ρ ρ') : Le (o :: ρ) (o :: ρ') := ⟨congrArg (· + 1) h.1, fun i d q => by
  cases i with
  | zero => exact q
  | succ i => exact h.2 i d q⟩
theorem Le.drop {o : Option D} {ρ ρ' : En} (h : Le ρ ρ') : Le (o :: ρ) (none :: ρ') := ⟨congrArg (· + 1) h.1, fun i d q => by
  cases i with
  | zero => cases q
  | succ i => exact h.2 i d q⟩
def wipeE (ρ : En) : List Nat → En
  | [] => ρ
  | v :: vs => (wipeE ρ vs).set v none
theorem RepE.wipe (h : RepE S ρ σ) : ∀ vs : List Nat, RepE S (wipeE ρ vs) (wipe σ vs)
  | [] => h
  | v :: vs => by
    unfold wipeE L2.wipe
    exact (RepE.wipe h vs).unset
theorem wipe_set {σ : St} {i : Nat} {x : Option V} : ∀ {vs : List Nat}, i ∈ vs → wipe (σ.set i x) vs = wipe σ vs
  | [], h => by cases h
  | v :: vs, h => by
    unfold wipe
    by_cases e : i = v
    · subst e
      by_cases hm : i ∈ vs
      · rw [wipe_set hm]
      · have key : ∀ (vs : List Nat) (y : Option V) (σ : St), i ∉ vs → wipe (σ.set i y) vs = (wipe σ vs).set i y := by
          intro vs
          induction vs with
          | nil => intro y σ _; rfl
          | cons w ws ih =>
            intro y σ hn
            unfold wipe
            rw [ih y σ (fun q => hn (List.mem_cons_of_mem _ q)), List.set_comm _ _ (fun q => hn (by rw [q]; exact List.mem_cons_self ..))]
        rw [key vs x σ hm, List.set_set]
    · have hm : i ∈ vs := by
        rcases List.mem_cons.mp h with q | q
        · exact absurd q e
        · exact q
      rw [wipe_set hm]
theorem wipe_wipe_set {σ : St} {i : Nat} {x : Option V} {vs : List Nat} (h : i ∈ vs) : wipe ((wipe σ vs).set i x) vs = wipe (wipe σ vs) vs := wipe_set h
end

/-! ### readings by such environments -/
def tD (ρ : En) (d : D) : TE := fun σ H Q => ∃ S, Ex S H ∧ RepE S ρ σ ∧ ∀ v S' H', Gr S H S' H' → Rep S' d v → Q v H'
def ttD (ρ : En) (b : Bool) : TT := fun σ H Q => ∃ S, Ex S H ∧ RepE S ρ σ ∧ ∀ S' H', Gr S H S' H' → Q b H'
def taD (ρ : En) (ds : List D) : TA := fun σ H Q => ∃ S, Ex S H ∧ RepE S ρ σ ∧ ∀ vs S' H', Gr S H S' H' → RepL S' ds vs → Q vs H'
abbrev Em (X : Cx) (e : Expr) (ρ : En) (d : D) : Prop := PE X e (tD ρ d)
abbrev Et (X : Cx) (e : Expr) (ρ : En) (b : Bool) : Prop := PT X e (ttD ρ b)
abbrev Ew (X : Cx) (e : Expr) (ρ : En) (b : Bool) : Prop := PW X e (ttD ρ b)
abbrev Ea (X : Cx) (es : List Expr) (ρ : En) (ds : List D) : Prop := PA X es (taD ρ ds)
section
variable {X : Cx} {ρ : En} {d x y z : D}
theorem pe_mono {e : Expr} {t t' : TE} (h : PE X e t) (m : ∀ σ H Q, t' σ H Q → t σ H Q) : PE X e t' := ⟨fun pins s σ H Q I q => h.run pins s σ H Q I (m σ H Q q)⟩
theorem pt_mono {e : Expr} {t t' : TT} (h : PT X e t) (m : ∀ σ H Q, t' σ H Q → t σ H Q) : PT X e t' := ⟨fun pins s σ H Q I q => h.run pins s σ H Q I (m σ H Q q)⟩
theorem pw_mono {e : Expr} {t t' : TT} (h : PW X e t) (m : ∀ σ H Q, t' σ H Q → t σ H Q) : PW X e t' := ⟨fun wh pins s σ H Q I q => h.run wh pins s σ H Q I (m σ H Q q)⟩
theorem pa_mono {e : List Expr} {t t' : TA} (h : PA X e t) (m : ∀ σ H Q, t' σ H Q → t σ H Q) : PA X e t' := ⟨fun pos pins s σ H Q I q => h.run pos pins s σ H Q I (m σ H Q q)⟩
theorem ps_mono {e : Stmt} {t t' : TS} (h : PS X e t) (m : ∀ Dn σ H, t' Dn σ H → t Dn σ H) : PS X e t' := ⟨fun pins s σ H Dn I q => h.run pins s σ H Dn I (m Dn σ H q)⟩
theorem pss_mono {e : List Stmt} {t t' : TS} (h : PSs X e t) (m : ∀ Dn σ H, t' Dn σ H → t Dn σ H) : PSs X e t' := ⟨fun pins s σ H Dn I q => h.run pins s σ H Dn I (m Dn σ H q)⟩
theorem pi_mono {tg e : Expr} {t t' : TI} (h : PI X tg e t) (m : ∀ σ H Q, t' σ H Q → t σ H Q) : PI X tg e t' := ⟨fun pins s σ H R I q => h.run pins s σ H R I (m σ H R q)⟩
/-- never come to -/
theorem pe_never {e : Expr} : PE X e (fun _ _ _ => False) := ⟨fun _ _ _ _ _ _ h => h.elim⟩
theorem pt_never {e : Expr} : PT X e (fun _ _ _ => False) := ⟨fun _ _ _ _ _ _ h => h.elim⟩
theorem pw_never {e : Expr} : PW X e (fun _ _ _ => False) := ⟨fun _ _ _ _ _ _ _ h => h.elim⟩
/-- one of several -/
theorem pe_some {α : Type} {P : α → Prop} {e : Expr} {t : α → TE} (h : ∀ a, P a → PE X e (t a)) : PE X e (fun σ H Q => ∃ a, P a ∧ t a σ H Q) := ⟨fun pins s σ H Q I ⟨a, p, q⟩ => (h a p).run pins s σ H Q I q⟩
theorem pts_some {α : Type} {P : α → Prop} {e : List Expr} {t : α → TT} (h : ∀ a, P a → PTs X e (t a)) : PTs X e (fun σ H Q => ∃ a, P a ∧ t a σ H Q) := ⟨fun pins s σ H Q I ⟨a, p, q⟩ => (h a p).run pins s σ H Q I q⟩
theorem pss_some {α : Type} {P : α → Prop} {e : List Stmt} {t : α → TS} (h : ∀ a, P a → PSs X e (t a)) : PSs X e (fun Dn σ H => ∃ a, P a ∧ t a Dn σ H) := ⟨fun pins s σ H Dn I ⟨a, p, q⟩ => (h a p).run pins s σ H Dn I q⟩
theorem pt_some {α : Type} {P : α → Prop} {e : Expr} {t : α → TT} (h : ∀ a, P a → PT X e (t a)) : PT X e (fun σ H Q => ∃ a, P a ∧ t a σ H Q) := ⟨fun pins s σ H Q I ⟨a, p, q⟩ => (h a p).run pins s σ H Q I q⟩

theorem tD.mk {σ : St} {S H : Hp} {Q : VK} (e : Ex S H) (r : RepE S ρ σ) (k : ∀ v S' H', Gr S H S' H' → Rep S' d v → Q v H') : tD ρ d σ H Q := ⟨S, e, r, k⟩
/-- a value at once, the heap as it was -/
theorem tC_D {v : V} (r : ∀ S, Rep S d v) : ∀ σ H (Q : VK), tD ρ d σ H Q → tC v σ H Q := fun σ H Q ⟨S, e, _, k⟩ => k v S H (Gr.refl e) (r S)
theorem em_int {i j pos} : Em X (.Constant (.int i) j pos) ρ (.int i) := pe_mono pe_int (tC_D fun _ => rep_int)
theorem em_bl {b j pos} : Em X (.Constant (.bool b) j pos) ρ (.bl b) := pe_mono pe_bl (tC_D fun _ => rep_bl)
theorem em_non {j pos} : Em X (.Constant .none j pos) ρ .non := pe_mono pe_non (tC_D fun _ => rep_non)
theorem em_str {x j pos} : Em X (.Constant (.str x) j pos) ρ (.str x) := pe_mono pe_str (tC_D fun _ => rep_str)
theorem em_var {i : Nat} {x : Str} {pos : Pos} (hr : ρ[i]? = some (some d)) (hN : X.N[i]? = some x) (hv : Vis X.env.scope x) (hd : (x == ("__debug__" : Str)) = false := by decide) (hcd : (x == ("__classdict__" : Str)) = false := by decide) : Em X (.Name x pos) ρ d :=
  pe_mono (pe_var hN hv hd hcd) fun σ H Q ⟨S, e, r, k⟩ => by
    obtain ⟨v, h1, h2⟩ := r.at_ i d hr
    exact ⟨v, h1, k v S H (Gr.refl e) h2⟩
/-- a name of the module that holds a plain value -/
theorem em_glob {x : Str} {v : V} {u : Value} {pos : Pos} (r : ∀ S, Rep S d v) (hg : Gl X x) (hm : X.mg x = some u) (rv : RelV v u) (hd : (x == ("__debug__" : Str)) = false := by decide) : Em X (.Name x pos) ρ d := pe_mono (pe_glob hg hm rv hd) (tC_D r)

/-! ### operations -/
def OpD (r : R2) (x y z : D) : Prop := ∀ S H u w (Q : VK), Ex S H → Rep S x u → Rep S y w → (∀ v S' H', Gr S H S' H' → Rep S' z v → Q v H') → r u w H Q
def UnD (r : V → Hp → VK → Prop) (x z : D) : Prop := ∀ S H u (Q : VK), Ex S H → Rep S x u → (∀ v S' H', Gr S H S' H' → Rep S' z v → Q v H') → r u H Q
def CallD (r : List V → Hp → VK → Prop) (xs : List D) (z : D) : Prop := ∀ S H us (Q : VK), Ex S H → RepL S xs us → (∀ v S' H', Gr S H S' H' → Rep S' z v → Q v H') → r us H Q
def MtD (r : V → List V → Hp → VK → Prop) (x : D) (xs : List D) (z : D) : Prop := ∀ S H u us (Q : VK), Ex S H → Rep S x u → RepL S xs us → (∀ v S' H', Gr S H S' H' → Rep S' z v → Q v H') → r u us H Q
theorem tOp_D {ta tb : TE} {r : R2} {σ : St} {H : Hp} {Q : VK} (ha : ta = tD ρ x) (hb : tb = tD ρ y) (ho : OpD r x y z) (h : tD ρ z σ H Q) : tOp r ta tb σ H Q := by
  subst ha hb
  obtain ⟨S, e, rE, k⟩ := h
  exact ⟨S, e, rE, fun u S1 H1 g1 r1 => ⟨S1, g1.sh, rE.mono g1.ss, fun w S2 H2 g2 r2 => ho S2 H2 u w Q g2.sh (r1.mono g2.ss) r2 fun v S3 H3 g3 r3 => k v S3 H3 (g1.trans (g2.trans g3)) r3⟩⟩
theorem em_op {op : Operator} {r : R2} {a b : Expr} {pos : Pos} (ho : OpR X (binaryOp op) r) (hd : OpD r x y z) (ha : Em X a ρ x) (hb : Em X b ρ y) : Em X (.BinOp a op b pos) ρ z :=
  pe_mono (pe_op ho ha hb) fun _ _ _ h => tOp_D rfl rfl hd h
theorem em_cmp {op : CmpOp} {r : R2} {a b : Expr} {pos : Pos} (ho : OpR X (compareOp op) r) (hd : OpD r x y z) (ha : Em X a ρ x) (hb : Em X b ρ y) (hm : behindInMarks op b = false) : Em X (.Compare a [op] [b] pos) ρ z :=
  pe_mono (pe_cmpR ho ha hb hm) fun _ _ _ h => tOp_D rfl rfl hd h
theorem tTest_D {t : TE} {b : Bool} {σ : St} {H : Hp} {Q : Bool → Hp → Prop} (h : ttD ρ b σ H Q) (m : ∀ Q', tD ρ (.bl b) σ H Q' → t σ H Q') : tTest t σ H Q := by
  obtain ⟨S, e, rE, k⟩ := h
  refine m _ ⟨S, e, rE, fun v S' H' g r => ⟨b, r.bl, k S' H' g⟩⟩
theorem et_cmp {op : CmpOp} {r : R2} {a b : Expr} {pos : Pos} {c : Bool} (ho : OpR X (compareOp op) r) (hd : OpD r x y (.bl c)) (ha : Em X a ρ x) (hb : Em X b ρ y) (hm : behindInMarks op b = false) : Et X (.Compare a [op] [b] pos) ρ c :=
  pt_mono (pt_cmpR ho ha hb hm) fun _ _ _ h => tTest_D h fun _ h' => tOp_D rfl rfl hd h'
theorem et_val {e : Expr} {b : Bool} (h : Em X e ρ (.bl b)) (he : ∀ whole, isTrue e X.env whole = (do let v ← whole; standAt e.pos; holding [v] (truthy v)) := by intro _; rfl) : Et X e ρ b :=
  pt_mono (pt_val h he) fun _ _ _ ⟨S, e, rE, k⟩ => ⟨S, e, rE, fun v S' H' g r => ⟨b, r.bl, k S' H' g⟩⟩
theorem em_un {op : UnaryOp} {r : V → Hp → VK → Prop} {a : Expr} {pos : Pos} (ho : UnR X (unaryOp op) r) (hd : UnD r x z) (ha : Em X a ρ x) : Em X (.UnaryOp op a pos) ρ z :=
  pe_mono (pe_un ho ha) fun _ _ Q ⟨S, e, rE, k⟩ => ⟨S, e, rE, fun u S1 H1 g1 r1 => hd S1 H1 u Q g1.sh r1 fun v S2 H2 g2 r2 => k v S2 H2 (g1.trans g2) r2⟩
theorem em_not {a : Expr} {b : Bool} {pos : Pos} (ha : Em X a ρ (.bl b)) : Em X (.UnaryOp .Not a pos) ρ (.bl (!b)) :=
  pe_mono (pe_not ha) fun _ _ Q ⟨S, e, rE, k⟩ => ⟨S, e, rE, fun u S1 H1 g1 r1 => ⟨b, r1.bl, k _ S1 H1 g1 rep_bl⟩⟩
theorem et_not {a : Expr} {b : Bool} {pos : Pos} (ha : Et X a ρ b) : Et X (.UnaryOp .Not a pos) ρ (!b) :=
  pt_mono (pt_not ha) fun _ _ Q ⟨S, e, rE, k⟩ => ⟨S, e, rE, fun S1 H1 g1 => k S1 H1 g1⟩
/-- and, or as values: the first decides, or the second does -/
theorem em_and {a b : Expr} {rest : List Expr} {pos : Pos} {p q : Bool} (ha : Em X a ρ (.bl p)) (hb : p = true → Em X (.BoolOp .And (b :: rest) pos) ρ (.bl q)) : Em X (.BoolOp .And (a :: b :: rest) pos) ρ (.bl (p && q)) := by
  cases p with
  | true =>
    refine pe_mono (pe_and ha (hb rfl)) fun _ _ Q ⟨S, e, rE, k⟩ => ⟨S, e, rE, fun u S1 H1 g1 r1 => ⟨true, r1.bl, ?_⟩⟩
    show tD ρ (.bl q) _ H1 Q
    exact ⟨S1, g1.sh, rE.mono g1.ss, fun v S2 H2 g2 r2 => k v S2 H2 (g1.trans g2) r2⟩
  | false =>
    refine pe_mono (pe_and ha pe_never) fun _ _ Q ⟨S, e, rE, k⟩ => ⟨S, e, rE, fun u S1 H1 g1 r1 => ⟨false, r1.bl, ?_⟩⟩
    show Q (.bl false) H1
    exact k _ S1 H1 g1 rep_bl
theorem em_or {a b : Expr} {rest : List Expr} {pos : Pos} {p q : Bool} (ha : Em X a ρ (.bl p)) (hb : p = false → Em X (.BoolOp .Or (b :: rest) pos) ρ (.bl q)) : Em X (.BoolOp .Or (a :: b :: rest) pos) ρ (.bl (p || q)) := by
  cases p with
  | false =>
    refine pe_mono (pe_or ha (hb rfl)) fun _ _ Q ⟨S, e, rE, k⟩ => ⟨S, e, rE, fun u S1 H1 g1 r1 => ⟨false, r1.bl, ?_⟩⟩
    show tD ρ (.bl q) _ H1 Q
    exact ⟨S1, g1.sh, rE.mono g1.ss, fun v S2 H2 g2 r2 => k v S2 H2 (g1.trans g2) r2⟩
  | true =>
    refine pe_mono (pe_or ha pe_never) fun _ _ Q ⟨S, e, rE, k⟩ => ⟨S, e, rE, fun u S1 H1 g1 r1 => ⟨true, r1.bl, ?_⟩⟩
    show Q (.bl true) H1
    exact k _ S1 H1 g1 rep_bl
theorem em_one {op} {a : Expr} {pos : Pos} (ha : Em X a ρ d) : Em X (.BoolOp op [a] pos) ρ d := pe_one ha
/-- .. as tests -/
theorem ew_and1 {a : Expr} {pos : Pos} {p : Bool} (ha : Et X a ρ p) : Ew X (.BoolOp .And [a] pos) ρ p := pw_and1 ha
theorem ew_or1 {a : Expr} {pos : Pos} {p : Bool} (ha : Et X a ρ p) : Ew X (.BoolOp .Or [a] pos) ρ p := pw_or1 ha
theorem ew_and {a b : Expr} {rest : List Expr} {pos : Pos} {p q : Bool} (ha : Et X a ρ p) (hb : p = true → Ew X (.BoolOp .And (b :: rest) pos) ρ q) : Ew X (.BoolOp .And (a :: b :: rest) pos) ρ (p && q) := by
  cases p with
  | true =>
    refine pw_mono (pw_and ha (hb rfl)) fun _ _ Q ⟨S, e, rE, k⟩ => ⟨S, e, rE, fun S1 H1 g1 => ?_⟩
    show ttD ρ q _ H1 Q
    exact ⟨S1, g1.sh, rE.mono g1.ss, fun S2 H2 g2 => k S2 H2 (g1.trans g2)⟩
  | false =>
    refine pw_mono (pw_and ha pw_never) fun _ _ Q ⟨S, e, rE, k⟩ => ⟨S, e, rE, fun S1 H1 g1 => ?_⟩
    show Q false H1
    exact k S1 H1 g1
theorem ew_or {a b : Expr} {rest : List Expr} {pos : Pos} {p q : Bool} (ha : Et X a ρ p) (hb : p = false → Ew X (.BoolOp .Or (b :: rest) pos) ρ q) : Ew X (.BoolOp .Or (a :: b :: rest) pos) ρ (p || q) := by
  cases p with
  | false =>
    refine pw_mono (pw_or ha (hb rfl)) fun _ _ Q ⟨S, e, rE, k⟩ => ⟨S, e, rE, fun S1 H1 g1 => ?_⟩
    show ttD ρ q _ H1 Q
    exact ⟨S1, g1.sh, rE.mono g1.ss, fun S2 H2 g2 => k S2 H2 (g1.trans g2)⟩
  | true =>
    refine pw_mono (pw_or ha pw_never) fun _ _ Q ⟨S, e, rE, k⟩ => ⟨S, e, rE, fun S1 H1 g1 => ?_⟩
    show Q true H1
    exact k S1 H1 g1
theorem et_w {e : Expr} {b : Bool} (h : Ew X e ρ b) : Et X e ρ b := h.pt
theorem em_if {c a b : Expr} {pos : Pos} {p : Bool} (hc : Et X c ρ p) (ha : p = true → Em X a ρ d) (hb : p = false → Em X b ρ d) : Em X (.IfExp c a b pos) ρ d := by
  cases p with
  | true =>
    refine pe_mono (pe_ifExp hc (ha rfl) pe_never) fun _ _ Q ⟨S, e, rE, k⟩ => ⟨S, e, rE, fun S1 H1 g1 => ?_⟩
    show tD ρ d _ H1 Q
    exact ⟨S1, g1.sh, rE.mono g1.ss, fun v S2 H2 g2 r2 => k v S2 H2 (g1.trans g2) r2⟩
  | false =>
    refine pe_mono (pe_ifExp hc pe_never (hb rfl)) fun _ _ Q ⟨S, e, rE, k⟩ => ⟨S, e, rE, fun S1 H1 g1 => ?_⟩
    show tD ρ d _ H1 Q
    exact ⟨S1, g1.sh, rE.mono g1.ss, fun v S2 H2 g2 r2 => k v S2 H2 (g1.trans g2) r2⟩
theorem em_is {e : Expr} {d d' : D} (h : Em X e ρ d) (q : d = d') : Em X e ρ d' := q ▸ h
theorem et_is {e : Expr} {d d' : Bool} (h : Et X e ρ d) (q : d = d') : Et X e ρ d' := q ▸ h
theorem em_le {e : Expr} {ρ' : En} (l : Le ρ' ρ) (h : Em X e ρ d) : Em X e ρ' d := pe_mono h fun _ _ Q ⟨S, e, rE, k⟩ => ⟨S, e, rE.le l, k⟩
/-- a > b > c -/
theorem em_chain {op op' : CmpOp} {r r' : R2} {a b c : Expr} {pos : Pos} {p q : Bool} {w : D} (ho : OpR X (compareOp op) r) (ho' : OpR X (compareOp op') r') (hd : OpD r x y (.bl p)) (hd' : p = true → OpD r' y w (.bl q)) (ha : Em X a ρ x) (hb : Em X b ρ y) (hc : p = true → Em X c ρ w)
    (hm : lastMarks [op, op'] [b, c] = false := by with_unfolding_all rfl) : Em X (.Compare a [op, op'] [b, c] pos) ρ (.bl (p && q)) := by
  cases p with
  | true =>
    refine pe_mono (pe_chain ho ho' ha hb (hc rfl) hm) fun _ _ Q ⟨S, e, rE, k⟩ => ⟨S, e, rE, fun u S1 H1 g1 r1 => ⟨S1, g1.sh, rE.mono g1.ss, fun w S2 H2 g2 r2 => hd S2 H2 u w _ g2.sh (r1.mono g2.ss) r2 fun v S3 H3 g3 r3 => ⟨true, r3.bl, ?_⟩⟩⟩
    show tD ρ _ _ H3 _
    exact ⟨S3, g3.sh, rE.mono ((g1.trans (g2.trans g3)).ss), fun t S4 H4 g4 r4 => hd' rfl S4 H4 w t Q g4.sh (r2.mono (g3.trans g4).ss) r4 fun v S5 H5 g5 r5 => k v S5 H5 ((g1.trans (g2.trans g3)).trans (g4.trans g5)) r5⟩
  | false =>
    refine pe_mono (pe_chain ho ho' ha hb pe_never hm) fun _ _ Q ⟨S, e, rE, k⟩ => ⟨S, e, rE, fun u S1 H1 g1 r1 => ⟨S1, g1.sh, rE.mono g1.ss, fun w S2 H2 g2 r2 => hd S2 H2 u w _ g2.sh (r1.mono g2.ss) r2 fun v S3 H3 g3 r3 => ⟨false, r3.bl, ?_⟩⟩⟩
    show Q (.bl false) H3
    exact k _ S3 H3 (g1.trans (g2.trans g3)) rep_bl

/-! ### arguments, tuples, lists -/
theorem ea_nil : Ea X [] ρ [] := pa_mono pa_nil fun _ H Q ⟨S, e, _, k⟩ => k [] S H (Gr.refl e) repL_nil
theorem ea_cons {e : Expr} {es : List Expr} {ds : List D} (ha : Em X e ρ d) (hr : Ea X es ρ ds) (hs : starEach (e :: es) X.env = (false, eval e X.env) :: starEach es X.env := by rfl) : Ea X (e :: es) ρ (d :: ds) :=
  pa_mono (pa_cons ha hr hs) fun _ _ Q ⟨S, e, rE, k⟩ => ⟨S, e, rE, fun u S1 H1 g1 r1 => ⟨S1, g1.sh, rE.mono g1.ss, fun vs S2 H2 g2 r2 => k (u :: vs) S2 H2 (g1.trans g2) (repL_cons (r1.mono g2.ss) r2)⟩⟩
theorem ea_star {K : PySem.W.Frag} (hK : X.K = K) {e : Expr} {p : Pos} {es : List Expr} {ds1 ds : List D} (ha : Em X e ρ (.lst ds1)) (hr : Ea X es ρ ds) (hs : starEach (.Starred e p :: es) X.env = (true, eval e X.env) :: starEach es X.env := by rfl) : Ea X (.Starred e p :: es) ρ (ds1 ++ ds) :=
  pa_mono (StX.pa_star ha hr hs) fun _ _ Q ⟨S, e, rE, k⟩ => ⟨S, e, rE, fun u S1 H1 g1 r1 => by
    obtain ⟨a, vs, rfl, h1, h2⟩ := r1.lst
    exact ⟨a, vs, rfl, Or.inr (SqL.of (g1.sh _ _ h1)), S1, g1.sh, rE.mono g1.ss, fun ws S2 H2 g2 r2 => k _ S2 H2 (g1.trans g2) ((h2.mono g2.ss).append r2)⟩⟩
theorem em_tup {es : List Expr} {x1} {pos : Pos} {ds : List D} (h : Ea X es ρ ds) (hl : ds.length ≤ 100000) : Em X (.Tuple es x1 pos) ρ (.tup ds) :=
  pe_mono (pe_tup h) fun _ _ Q ⟨S, e, rE, k⟩ => ⟨S, e, rE, fun vs S1 H1 g1 r1 => ⟨Evl.sz_of (by rw [← r1.length]; exact hl), fun p hp => k (.ref p) _ _ (g1.trans (Gr.new g1.sh hp)) (rep_tup upd_same (r1.mono (Ex.new (none_of_ex g1.sh hp))))⟩⟩
theorem em_lst {es : List Expr} {pos : Pos} {ds : List D} (h : Ea X es ρ ds) (hl : ds.length ≤ 100000) : Em X (.List es pos) ρ (.lst ds) :=
  pe_mono (pe_lst h) fun _ _ Q ⟨S, e, rE, k⟩ => ⟨S, e, rE, fun vs S1 H1 g1 r1 => ⟨Evl.sz_of (by rw [← r1.length]; exact hl), fun p hp => k (.ref p) _ _ (g1.trans (Gr.new g1.sh hp)) (rep_lst upd_same (r1.mono (Ex.new (none_of_ex g1.sh hp))))⟩⟩

/-! ### subscripts, slices -/
theorem em_ix {r : R2} {a b : Expr} {pos : Pos} (hr : IxR X r) (hd : OpD r x y z) (ha : Em X a ρ x) (hb : Em X b ρ y) (hs : PlainIx b) : Em X (.Subscript a b pos) ρ z :=
  pe_mono (pe_ix hr ha hb hs) fun _ _ _ h => tOp_D rfl rfl hd h
def toD (ρ : En) (o : Option Int) : TO := fun σ H Q => ∃ S, Ex S H ∧ RepE S ρ σ ∧ ∀ S' H', Gr S H S' H' → Q o H'
end
end Mh
set_option maxRecDepth 100000
set_option maxHeartbeats 2000000
/-! M1: slices, attributes, calls, iteration, comprehensions, statements, defs, over M0. -/
namespace Mh
open PySem PySem.Spec PyProof.Rows L2
open Evl (Ex)

section
variable {S H S1 H1 : Hp} {p : Addr}
/-- a new thing that was filled becomes fixed -/
theorem Gr.fix (g : Gr S H S1 H1) (h : H p = none) (hs : S1 p = none) {u : HO} (hu : H1 p = some u) : Gr S H (upd S1 p u) H1 := by
  refine ⟨fun a w ha => ?_, fun a w ha => ?_, g.hh, fun a w hs' hw hnt => ?_⟩
  · by_cases q : a = p
    · subst q
      rw [g.ss a w ha] at hs
      cases hs
    · rw [upd_ne q]
      exact g.ss a w ha
  · by_cases q : a = p
    · subst q
      rw [upd_same] at ha
      rw [hu]
      exact ha
    · rw [upd_ne q] at ha
      exact g.sh a w ha
  · rw [upd_ne (ne_of_none hw h)]
    exact g.fr a w hs' hw hnt
/-- a thing outside the fixed part, unknown at the start, is changed -/
theorem Gr.mut (g : Gr S H S1 H1) (h : H p = none) (hs : S1 p = none) {u : HO} : Gr S H S1 (upd H1 p u) :=
  ⟨g.ss, fun a w ha => by
    have q : a ≠ p := fun e => by
      rw [e, hs] at ha
      cases ha
    rw [upd_ne q]
    exact g.sh a w ha, Ex.mut g.hh h, g.fr⟩
theorem Ex.fix (g : Ex S1 H1) (hs : S1 p = none) {u : HO} (hu : H1 p = some u) : Ex S1 (upd S1 p u) ∧ Ex (upd S1 p u) H1 := by
  refine ⟨Ex.new hs, fun a w ha => ?_⟩
  by_cases q : a = p
  · subst q
    rw [upd_same] at ha
    rw [hu]
    exact ha
  · rw [upd_ne q] at ha
    exact g a w ha
end

section
variable {X : Cx} {ρ : En} {d x y z : D}
/-! ### slices -/
def SlD (r : V → Option Int → Option Int → Hp → VK → Prop) (x : D) (lo hi : Option Int) (z : D) : Prop := ∀ S H u (Q : VK), Ex S H → Rep S x u → (∀ v S' H', Gr S H S' H' → Rep S' z v → Q v H') → r u lo hi H Q
abbrev Eo (X : Cx) (e : Option Expr) (ρ : En) (o : Option Int) : Prop := PO X e (toD ρ o)
theorem po_mono {e : Option Expr} {t t' : TO} (h : PO X e t) (m : ∀ σ H Q, t' σ H Q → t σ H Q) : PO X e t' := ⟨fun pins s σ H Q I q => h.run pins s σ H Q I (m σ H Q q)⟩
theorem eo_none : Eo X none ρ none := po_mono po_none fun _ H Q ⟨S, e, _, k⟩ => k S H (Gr.refl e)
theorem eo_some {e : Expr} {i : Int} (h : Em X e ρ (.int i)) : Eo X (some e) ρ (some i) := po_mono (po_some h) fun _ _ Q ⟨S, e, rE, k⟩ => ⟨S, e, rE, fun v S1 H1 g r => ⟨i, r.int, k S1 H1 g⟩⟩
theorem em_sl {r : V → Option Int → Option Int → Hp → VK → Prop} {e : Expr} {lo hi : Option Expr} {a b : Option Int} {pos p2 : Pos} (hr : SlR X r) (hd : SlD r x a b z) (he : Em X e ρ x) (hl : Eo X lo ρ a) (hh : Eo X hi ρ b) : Em X (.Subscript e (.Slice lo hi none p2) pos) ρ z :=
  pe_mono (pe_slice hr he hl hh) fun _ _ Q ⟨S, e, rE, k⟩ => ⟨S, e, rE, fun u S1 H1 g1 r1 => ⟨S1, g1.sh, rE.mono g1.ss, fun S2 H2 g2 => ⟨S2, g2.sh, rE.mono (g1.trans g2).ss, fun S3 H3 g3 =>
    hd S3 H3 u Q g3.sh (r1.mono (g2.trans g3).ss) fun v S4 H4 g4 r4 => k v S4 H4 ((g1.trans g2).trans (g3.trans g4)) r4⟩⟩⟩
theorem cutV_to {xs : List V} {k : Nat} : cutV xs none (some (k : Int)) = xs.take k := by
  unfold cutV
  rw [HT.sIx_none, HT.sIx_nat, List.drop_zero, Nat.sub_zero]
  by_cases h : k ≤ xs.length
  · rw [Nat.min_eq_left h]
  · rw [Nat.min_eq_right (by omega), List.take_length, List.take_of_length_le (by omega)]
theorem cutV_from {xs : List V} {k : Nat} : cutV xs (some (k : Int)) none = xs.drop k := by
  unfold cutV
  rw [HT.sIx_nat, HT.sIx_none]
  by_cases h : k ≤ xs.length
  · rw [Nat.min_eq_left h]
    exact List.take_of_length_le (by rw [List.length_drop]; exact Nat.le_refl _)
  · rw [Nat.min_eq_right (by omega), List.drop_length, List.drop_eq_nil_of_le (by omega)] <;> simp
theorem cutV_both {xs : List V} {j k : Nat} : cutV xs (some (j : Int)) (some (k : Int)) = (xs.take k).drop j := by
  unfold cutV
  rw [HT.sIx_nat, HT.sIx_nat, List.drop_take]
  by_cases h : j ≤ xs.length
  · rw [Nat.min_eq_left h]
    by_cases h2 : k ≤ xs.length
    · rw [Nat.min_eq_left h2]
    · rw [Nat.min_eq_right (by omega), List.take_of_length_le (by rw [List.length_drop]; omega), List.take_of_length_le (by rw [List.length_drop]; omega)]
  · have e : min j xs.length = xs.length := by omega
    rw [e, List.drop_length, List.drop_eq_nil_of_le (show xs.length ≤ j by omega), List.take_nil, List.take_nil]
theorem sl_newL {K : PySem.W.Frag} {l m : List D} {lo hi : Option Int} (h : ∀ S vs, RepL S l vs → RepL S m (cutV vs lo hi)) : SlD (rSlL K) (.lst l) lo hi (.lst m) := fun S H u Q e r k => by
  obtain ⟨a, vs, rfl, h1, h2⟩ := r.lst
  refine ⟨a, vs, rfl, SqL.of (e _ _ h1), fun p hp => ?_⟩
  exact k (.ref p) _ _ (Gr.new e hp) (rep_lst upd_same ((h _ _ h2).mono (Ex.new (none_of_ex e hp))))
theorem sl_newT {K : PySem.W.Frag} {l m : List D} {lo hi : Option Int} (h : ∀ S vs, RepL S l vs → RepL S m (cutV vs lo hi)) (hw : HT.sIx l.length 0 lo = 0 ∧ HT.sIx l.length l.length hi = l.length → m = l) : SlD (rSlA K) (.tup l) lo hi (.tup m) := fun S H u Q e r k => by
  obtain ⟨a, vs, rfl, h1, h2⟩ := r.tup
  refine ⟨a, vs, rfl, SqT.of (e _ _ h1), fun q => ?_, fun _ p hp => ?_⟩
  · rw [← h2.length] at q
    rw [hw q] at k
    exact k (.ref a) S H (Gr.refl e) (rep_tup h1 h2)
  · exact k (.ref p) _ _ (Gr.new e hp) (rep_tup upd_same ((h _ _ h2).mono (Ex.new (none_of_ex e hp))))
theorem sl_toL {K : PySem.W.Frag} {l : List D} {k : Nat} : SlD (rSlL K) (.lst l) none (some (k : Int)) (.lst (l.take k)) := sl_newL fun S vs r => by rw [cutV_to]; exact r.take k
theorem sl_fromL {K : PySem.W.Frag} {l : List D} {k : Nat} : SlD (rSlL K) (.lst l) (some (k : Int)) none (.lst (l.drop k)) := sl_newL fun S vs r => by rw [cutV_from]; exact r.drop k
theorem sl_bothL {K : PySem.W.Frag} {l : List D} {j k : Nat} : SlD (rSlL K) (.lst l) (some (j : Int)) (some (k : Int)) (.lst ((l.take k).drop j)) := sl_newL fun S vs r => by rw [cutV_both]; exact (r.take k).drop j
theorem sl_toT {K : PySem.W.Frag} {l : List D} {k : Nat} : SlD (rSlA K) (.tup l) none (some (k : Int)) (.tup (l.take k)) := sl_newT (fun S vs r => by rw [cutV_to]; exact r.take k) fun ⟨_, h⟩ => by
  rw [HT.sIx_nat] at h
  exact List.take_of_length_le (by omega)
theorem sl_fromT {K : PySem.W.Frag} {l : List D} {k : Nat} : SlD (rSlA K) (.tup l) (some (k : Int)) none (.tup (l.drop k)) := sl_newT (fun S vs r => by rw [cutV_from]; exact r.drop k) fun ⟨h, _⟩ => by
  rw [HT.sIx_nat] at h
  by_cases q : k = 0
  · rw [q] <;> rfl
  · have : l.length = 0 := by omega
    rw [List.length_eq_zero_iff.mp this, List.drop_nil]
theorem em_rev {l : List D} {e : Expr} {k : Nat} {p1 p2 p3 pos : Pos} (he : Em X e ρ (.lst l)) : Em X (.Subscript e (.Slice none none (some (.UnaryOp .USub (.Constant (.int 1) k p1) p2)) p3) pos) ρ (.lst l.reverse) :=
  pe_mono (pe_revL he) fun _ _ Q ⟨S, e, rE, k⟩ => ⟨S, e, rE, fun u S1 H1 g1 r1 => by
    obtain ⟨a, vs, rfl, h1, h2⟩ := r1.lst
    exact ⟨a, vs, rfl, SqL.of (g1.sh _ _ h1), fun p hp => k (.ref p) _ _ (g1.trans (Gr.new g1.sh hp)) (rep_lst upd_same (h2.reverse.mono (Ex.new (none_of_ex g1.sh hp))))⟩⟩

/-! ### attributes, properties -/
theorem zip_lookup : ∀ {ns : List Str} {l : List D} {vs : List V} {S : Hp} {f : Str} {d : D}, RepL S l vs → (ns.zip l).lookup f = some d → ∃ v, (ns.zip vs).lookup f = some v ∧ Rep S d v
  | [], _, _, _, _, _, _, h => by cases h
  | _ :: _, [], _, _, _, _, _, h => by cases h
  | n :: ns, d :: l, vs, S, f, d', r, h => by
    obtain ⟨v, ws, rfl, h2, h3⟩ := r.cons
    rw [List.zip_cons_cons, List.lookup_cons] at h ⊢
    cases q : (f == n) with
    | true =>
      rw [q] at h
      have e : d = d' := Option.some.inj h
      subst e
      exact ⟨v, rfl, h2⟩
    | false =>
      rw [q] at h
      exact zip_lookup h3 h
theorem zip_lookup_none : ∀ {ns : List Str} {vs : List V} {f : Str}, (ns.all fun n => !(f == n)) = true → (ns.zip vs).lookup f = none
  | [], _, _, _ => rfl
  | _ :: _, [], _, _ => rfl
  | n :: ns, v :: vs, f, h => by
    rw [List.all_cons, Bool.and_eq_true, Bool.not_eq_true'] at h
    rw [List.zip_cons_cons, List.lookup_cons, h.1]
    exact zip_lookup_none h.2
theorem em_fld {C : Addr} {ns : List Str} {l : List D} {e : Expr} {f : Str} {pos : Pos} (he : Em X e ρ (.obj C ns l)) (c : Cls X.K C) (n : NoAttr X.K C f) (hl : (ns.zip l).lookup f = some d) (hb : attributeBase e f X.env (eval e X.env) = eval e X.env := by rfl) : Em X (.Attribute e f pos) ρ d :=
  pe_mono (pe_fld he hb) fun _ _ Q ⟨S, e, rE, k⟩ => ⟨S, e, rE, fun u S1 H1 g1 r1 => by
    obtain ⟨a, dx, vs, rfl, h1, h2⟩ := r1.obj
    obtain ⟨v, h3, h4⟩ := zip_lookup h2 hl
    exact ⟨a, C, dx, _, v, rfl, g1.sh _ _ h1, c, n, h3, k v S1 H1 g1 h4⟩⟩
end

/-! ### promises -/
/-- from these arguments this value, the heap only grown -/
def spD (R : List D → D → Prop) : Sp := fun vs H Q _ => ∃ S ds d, Ex S H ∧ RepL S ds vs ∧ R ds d ∧ ∀ v S' H', Gr S H S' H' → Rep S' d v → Q v H'
section
variable {X : Cx} {ρ : En} {d : D} {ds : List D} {R : List D → D → Prop} {k j : Nat} {x m : Str} {p pos apos : Pos} {e o : Expr} {es : List Expr} {C : Addr}
theorem spD.mk {S H : Hp} {vs : List V} {Q : VK} {E : XK} (e : Ex S H) (r : RepL S ds vs) (h : R ds d) (q : ∀ v S' H', Gr S H S' H' → Rep S' d v → Q v H') : spD R vs H Q E := ⟨S, ds, d, e, r, h, q⟩
theorem em_call (c : C8.Cal X.prog X.w X.K X.mg X.base k x (spD R) []) (hr : Room j X.A) (hk : k ≤ j) (hg : Gl X x) (h : R ds d) (ha : Ea X (e :: es) ρ ds)
    (hdb : (x == ("__debug__" : Str)) = false := by decide) (he : starEach (e :: es) X.env = (false, eval e X.env) :: starEach es X.env := by rfl) (hpl : (backTo pos (starEach es X.env)).any (·.1) = false := by rfl) : Em X (.Call (.Name x p) (e :: es) [] pos) ρ d :=
  pe_mono (C8.pe_c c hr hk hg ha hdb he hpl) fun _ _ Q ⟨S, e, rE, k⟩ => ⟨S, e, rE, fun vs S1 H1 g1 r1 => ⟨S1, ds, d, g1.sh, by rw [List.append_nil]; exact r1, h, fun v S2 H2 g2 r2 => k v S2 H2 (g1.trans g2) r2⟩⟩
theorem em_mt {ns : List Str} {l : List D} {pl : Sem Bool} (c : C8.Met X.prog X.w X.K X.mg X.base k C m (spD R) []) (hr : Room j X.A) (hk : k ≤ j) (he : Em X o ρ (.obj C ns l)) (hn : (ns.all fun n => !(m == n)) = true) (h : R (.obj C ns l :: ds) d) (ha : Ea X (e :: es) ρ ds)
    (hst : starEach (e :: es) X.env = (false, eval e X.env) :: starEach es X.env := by rfl) (hpl : (backTo pos (starEach es X.env)).any (·.1) = false := by rfl)
    (ht : eval (.Call (.Attribute o m apos) (e :: es) [] pos) X.env = (do
      let ov ← eval o X.env
      standAt apos.atName
      let (f, first) ← holding [ov] (getMethod ov m pl)
      callWith pos f first (backTo pos (starEach (e :: es) X.env)) (backToKw pos (keywordEach [] X.env))) := by rfl) : Em X (.Call (.Attribute o m apos) (e :: es) [] pos) ρ d :=
  pe_mono (C8.pe_mt (pl := pl) c hr hk he ha hst hpl ht) fun _ _ Q ⟨S, e, rE, k⟩ => ⟨S, e, rE, fun u S1 H1 g1 r1 => by
    obtain ⟨a, dx, vs, rfl, h1, h2⟩ := r1.obj
    refine ⟨a, dx, _, rfl, g1.sh _ _ h1, zip_lookup_none hn, S1, g1.sh, rE.mono g1.ss, fun ws S2 H2 g2 r2 => ⟨S2, _, d, g2.sh, repL_cons (r1.mono g2.ss) (by rw [List.append_nil]; exact r2), h, fun v S3 H3 g3 r3 => k v S3 H3 (g1.trans (g2.trans g3)) r3⟩⟩⟩
theorem em_mt0 {ns : List Str} {l : List D} {pl : Sem Bool} (c : C8.Met X.prog X.w X.K X.mg X.base k C m (spD R) []) (hr : Room j X.A) (hk : k ≤ j) (he : Em X o ρ (.obj C ns l)) (hn : (ns.all fun n => !(m == n)) = true) (h : R [.obj C ns l] d)
    (ht : eval (.Call (.Attribute o m apos) [] [] pos) X.env = (do
      let ov ← eval o X.env
      standAt apos.atName
      let (f, first) ← holding [ov] (getMethod ov m pl)
      callWith pos f first (backTo pos (starEach [] X.env)) (backToKw pos (keywordEach [] X.env))) := by rfl) : Em X (.Call (.Attribute o m apos) [] [] pos) ρ d :=
  pe_mono (C8.pe_mt0 (pl := pl) c hr hk he ht) fun _ _ Q ⟨S, e, rE, k⟩ => ⟨S, e, rE, fun u S1 H1 g1 r1 => by
    obtain ⟨a, dx, vs, rfl, h1, h2⟩ := r1.obj
    exact ⟨a, dx, _, rfl, g1.sh _ _ h1, zip_lookup_none hn, S1, _, d, g1.sh, repL_cons r1 repL_nil, h, fun v S3 H3 g3 r3 => k v S3 H3 (g1.trans g3) r3⟩⟩
/-- a property, bundled -/
structure Prp (P : Program) (w : World) (K : PySem.W.Frag) (mg : Str → Option Value) (base : Heap) (k : Nat) (C : Addr) (f : Str) (sp : Sp) : Prop where
  ex : ∃ (p g : Addr) (fd : FuncData) (ps : List Str), Cls K C ∧ PropOf K C f p g ∧ FnOk P w K mg base C8.CX0 k g fd ps sp ∧ Binds K fd ps []
theorem em_prop {f : Str} {ns : List Str} {l : List D} (c : Prp X.prog X.w X.K X.mg X.base k C f (spD R)) (hr : Room j X.A) (hk : k + 1 ≤ j) (he : Em X e ρ (.obj C ns l)) (h : R [.obj C ns l] d) (hab : attributeBase e f X.env (eval e X.env) = eval e X.env := by rfl) : Em X (.Attribute e f pos) ρ d := by
  obtain ⟨q, g, fd, ps, hc, hp, F, b⟩ := c.ex
  refine pe_mono (pe_prop he hc hp F (hr.mono hk) b (dvs := []) .nil (C8.pass0 (E := C8.E0)) hab) fun _ _ Q ⟨S, e, rE, k⟩ => ⟨S, e, rE, fun u S1 H1 g1 r1 => ?_⟩
  obtain ⟨a, dx, vs, rfl, h1, h2⟩ := r1.obj
  exact ⟨a, dx, _, rfl, g1.sh _ _ h1, S1, _, d, g1.sh, repL_cons r1 repL_nil, h, fun v S3 H3 g3 r3 => k v S3 H3 (g1.trans g3) r3⟩
/-- a builtin, a builtin type, a builtin's method -/
theorem em_callB {id : String} {r : List V → Hp → VK → Prop} (hc : CallR X (.builtin id) r) (hd : CallD r ds d) (hg : Gl X x) (hm : X.mg x = none) (hv : bootBuiltins x = some (.builtin id)) (ha : Ea X (e :: es) ρ ds) (hn : x ≠ "__name__" := by decide) (hdb : (x == ("__debug__" : Str)) = false := by decide)
    (he : starEach (e :: es) X.env = (false, eval e X.env) :: starEach es X.env := by rfl) (hpl : (backTo pos (starEach es X.env)).any (·.1) = false := by rfl) : Em X (.Call (.Name x p) (e :: es) [] pos) ρ d :=
  pe_mono (pe_callB hc hg hm hv ha hn hdb he hpl) fun _ _ Q ⟨S, e, rE, k⟩ => ⟨S, e, rE, fun vs S1 H1 g1 r1 => hd S1 H1 vs Q g1.sh r1 fun v S2 H2 g2 r2 => k v S2 H2 (g1.trans g2) r2⟩
theorem em_callTy {T : String} {r : List V → Hp → VK → Prop} (hc : CallR X (.type T) r) (hd : CallD r ds d) (hg : Gl X x) (hm : X.mg x = none) (hv : bootBuiltins x = some (.type T)) (ha : Ea X (e :: es) ρ ds) (hn : x ≠ "__name__" := by decide) (hdb : (x == ("__debug__" : Str)) = false := by decide)
    (he : starEach (e :: es) X.env = (false, eval e X.env) :: starEach es X.env := by rfl) (hpl : (backTo pos (starEach es X.env)).any (·.1) = false := by rfl) : Em X (.Call (.Name x p) (e :: es) [] pos) ρ d :=
  pe_mono (pe_callTy hc hg hm hv ha hn hdb he hpl) fun _ _ Q ⟨S, e, rE, k⟩ => ⟨S, e, rE, fun vs S1 H1 g1 r1 => hd S1 H1 vs Q g1.sh r1 fun v S2 H2 g2 r2 => k v S2 H2 (g1.trans g2) r2⟩
theorem em_bm {T : String} {name : Str} {id : String} {r : V → List V → Hp → VK → Prop} {z : D} {cpos : Pos} (ty : ∀ S v, Rep S z v → tyV X.K T v S ∧ ∀ H, Ex S H → tyV X.K T v H) (pa : PlainAttrs T) (slot : Slot T name id) (hty : typeOf (.builtin id) = pure (.type "method_descriptor")) (hm : MtR X id r) (hd : MtD r z ds d) (ho : Em X o ρ z) (ha : Ea X (e :: es) ρ ds)
    (hbase : attributeBase o name X.env (eval o X.env) = eval o X.env := by rfl)
    (hfew : ((backTo cpos (starEach (e :: es) X.env)).all (fun x => !x.1) && (backToKw cpos (keywordEach [] X.env)).all (fun x => x.1.isSome)
      && decide ((e :: es).length + ([] : List Keyword).length + (if ([] : List Keyword).isEmpty then 0 else 1) < 30)) = true := by rfl)
    (hline : (apos.endLine == cpos.line) = true := by rfl) (hs : starEach (e :: es) X.env = (false, eval e X.env) :: starEach es X.env := by rfl) (hplain : (backTo cpos (starEach es X.env)).any (·.1) = false := by rfl) :
    Em X (.Call (.Attribute o name apos) (e :: es) [] cpos) ρ d :=
  pe_mono (pe_bm pa slot hty hm ho ha hbase hfew hline hs hplain) fun _ _ Q ⟨S, e, rE, k⟩ => ⟨S, e, rE, fun u S1 H1 g1 r1 => ⟨(ty S1 u r1).2 H1 g1.sh, S1, g1.sh, rE.mono g1.ss, fun vs S2 H2 g2 r2 => hd S2 H2 u vs Q g2.sh (r1.mono g2.ss) r2 fun v S3 H3 g3 r3 => k v S3 H3 (g1.trans (g2.trans g3)) r3⟩⟩
end

/-! ### iteration -/
def IsIt (J : It) (S : Hp) (ds : List D) : Prop := ∀ S' H, Ex S S' → Ex S' H → (∀ i, i < ds.length → J.go i H) ∧ J.stop ds.length H ∧ ∀ i x H1, i < ds.length → J.yld i H x H1 → ∀ d, ds[i]? = some d → ∃ S1, Gr S' H S1 H1 ∧ Rep S1 d x
theorem IsIt.mono {J : It} {S S' : Hp} {ds : List D} (h : IsIt J S ds) (e : Ex S S') : IsIt J S' ds := fun S1 H e1 e2 => h S1 H (e.trans e1) e2
def tiD (ρ : En) (ds : List D) : TI := fun σ H R => ∃ S, Ex S H ∧ RepE S ρ σ ∧ ∀ J S' H', Gr S H S' H' → IsIt J S' ds → R J H'
abbrev Ei (X : Cx) (tg it : Expr) (ρ : En) (ds : List D) : Prop := PI X tg it (tiD ρ ds)
theorem isIt_of_walk {J : It} {n : Nat} {G : Hp → Prop} {Y : Nat → Hp → V → Hp → Prop} {S : Hp} {ds : List D} (w : Walk J n G Y) (hn : ds.length = n) (hG : ∀ S' H, Ex S S' → Ex S' H → G H)
    (hY : ∀ i S' H x H1 d, i < n → Ex S S' → Ex S' H → Y i H x H1 → ds[i]? = some d → ∃ S1, Gr S' H S1 H1 ∧ Rep S1 d x) : IsIt J S ds := by
  subst hn
  exact fun S' H e1 e2 => ⟨fun i hi => w.goes i H hi (hG S' H e1 e2), w.stops H (hG S' H e1 e2), fun i x H1 hi y d hd => hY i S' H x H1 d hi e1 e2 (w.yields i H x H1 hi (hG S' H e1 e2) y) hd⟩
section
variable {X : Cx} {ρ : En} {ds : List D} {tg e : Expr} {p pos tpos : Pos} {elts : List Expr} {kk : Nat}
theorem ei_list (he : Em X e ρ (.lst ds)) : Ei X tg e ρ ds :=
  pi_mono (pi_list he) fun _ _ R ⟨S, e, rE, k⟩ => ⟨S, e, rE, fun u S1 H1 g1 r1 => by
    obtain ⟨a, vs, rfl, h1, h2⟩ := r1.lst
    refine ⟨a, rfl, ⟨vs, SqL.of (g1.sh _ _ h1)⟩, k _ S1 H1 g1 (isIt_of_walk (walk_list (xs := vs)) h2.length (fun S' H e1 e2 => SqL.of (e2 _ _ (e1 _ _ h1))) fun i S' H x H' d hi e1 e2 y hd => ?_)⟩
    obtain ⟨rfl, y⟩ := y
    obtain ⟨v, hv, rv⟩ := h2.get hd
    rw [hv] at y
    cases y
    exact ⟨S', Gr.refl e2, rv.mono e1⟩⟩
theorem ei_tup (he : Em X e ρ (.tup ds)) : Ei X tg e ρ ds :=
  pi_mono (pi_tup he) fun _ _ R ⟨S, e, rE, k⟩ => ⟨S, e, rE, fun u S1 H1 g1 r1 => by
    obtain ⟨a, vs, rfl, h1, h2⟩ := r1.tup
    refine ⟨a, rfl, ⟨vs, SqT.of (g1.sh _ _ h1)⟩, k _ S1 H1 g1 (isIt_of_walk (walk_tup (xs := vs)) h2.length (fun S' H e1 e2 => SqT.of (e2 _ _ (e1 _ _ h1))) fun i S' H x H' d hi e1 e2 y hd => ?_)⟩
    obtain ⟨rfl, y⟩ := y
    obtain ⟨v, hv, rv⟩ := h2.get hd
    rw [hv] at y
    cases y
    exact ⟨S', Gr.refl e2, rv.mono e1⟩⟩
/-- range(n) -/
theorem ei_range {n : Nat} (hg : Gl X "range") (hm : X.mg "range" = none) (hn : n ≤ 100000) (ha : Ea X [e] ρ [.int (n : Int)]) (hs : starEach [e] X.env = [(false, eval e X.env)] := by rfl) : Ei X tg (.Call (.Name "range" p) [e] [] pos) ρ ((List.range n).map fun i => D.int (i : Nat)) :=
  pi_mono (pi_range1 hg hm ha hs) fun _ _ R ⟨S, e, rE, k⟩ => ⟨S, e, rE, fun us S1 H1 g1 r1 => by
    obtain ⟨v, r, rfl, h2, h3⟩ := r1.cons
    rw [h3.nil, h2.int]
    refine ⟨(n : Int), rfl, by omega, by omega, k _ S1 H1 g1 (isIt_of_walk (walk_range (n := n)) (by simp) (fun _ _ _ _ => trivial) fun i S' H x H' d hi e1 e2 y hd => ?_)⟩
    obtain ⟨rfl, rfl⟩ := y
    refine ⟨S', Gr.refl e2, ?_⟩
    rw [List.getElem?_map, List.getElem?_range hi] at hd
    have e : D.int (i : Nat) = d := Option.some.inj hd
    rw [← e]
    show Rep S' (D.int (i : Nat)) (V.int (0 + (i : Nat)))
    rw [Int.zero_add]
    exact rep_int⟩
/-- a text, sign by sign -/
theorem enum_get {xs : List D} {i : Nat} {d : D} (h : (xs.zipIdx.map fun q => D.tup [.int (q.2 : Nat), q.1])[i]? = some d) : ∃ z, xs[i]? = some z ∧ d = .tup [.int (i : Nat), z] := by
  rw [List.getElem?_map, List.getElem?_zipIdx] at h
  cases q : xs[i]? with
  | none =>
    rw [q] at h
    cases h
  | some z =>
    rw [q] at h
    refine ⟨z, rfl, ?_⟩
    have e := Option.some.inj h
    rw [← e]
    simp
/-- enumerate(tuple) -/
theorem ei_enum (hg : Gl X "enumerate") (hm : X.mg "enumerate" = none) (ha : Ea X [e] ρ [.tup ds]) (hs : starEach [e] X.env = [(false, eval e X.env)] := by rfl) :
    Ei X (.Tuple elts kk tpos) (.Call (.Name "enumerate" p) [e] [] pos) ρ (ds.zipIdx.map fun q => D.tup [.int (q.2 : Nat), q.1]) :=
  pi_mono (pi_enumT hg hm ha hs) fun _ _ R ⟨S, e, rE, k⟩ => ⟨S, e, rE, fun us S1 H1 g1 r1 => by
    obtain ⟨v, r, rfl, h2, h3⟩ := r1.cons
    obtain ⟨a, vs, rfl, h4, h5⟩ := h2.tup
    rw [h3.nil]
    refine ⟨a, vs, rfl, SqT.of (g1.sh _ _ h4), k _ S1 H1 g1 (isIt_of_walk (walk_enumT (xs := vs)) (by simp [h5.length]) (fun S' H e1 e2 => SqT.of (e2 _ _ (e1 _ _ h4))) fun i S' H x H' d hi e1 e2 y hd => ?_)⟩
    obtain ⟨T, u, w, rfl, hT, rfl, hu, hw⟩ := y
    obtain ⟨z, hz, rfl⟩ := enum_get hd
    have hu : (if i < vs.length then some (V.int (i : Nat)) else none) = some u := hu
    have hw : vs[i]? = some w := hw
    rw [if_pos hi] at hu
    cases hu
    obtain ⟨w', hw', rw'⟩ := h5.get hz
    rw [hw'] at hw
    cases hw
    exact ⟨_, Gr.new e2 hT, rep_tup upd_same (repL_cons rep_int (repL_cons ((rw'.mono e1).mono (Ex.new (none_of_ex e2 hT))) repL_nil))⟩⟩
/-- zip(tuple, text) -/
theorem zip_get {xs : List D} {cs : List Nat} {i : Nat} {d : D} (h : ((xs.zip cs).map fun q => D.tup [q.1, .str ⟨#[q.2]⟩])[i]? = some d) : ∃ z c, xs[i]? = some z ∧ cs[i]? = some c ∧ d = .tup [z, .str ⟨#[c]⟩] := by
  rw [List.getElem?_map] at h
  cases q : (xs.zip cs)[i]? with
  | none =>
    rw [q] at h
    cases h
  | some z =>
    rw [q] at h
    obtain ⟨h1, h2⟩ := List.getElem?_zip_eq_some.mp q
    exact ⟨z.1, z.2, h1, h2, (Option.some.inj h).symm⟩
theorem ei_zip {e2 : Expr} {z : Str} (hg : Gl X "zip") (hm : X.mg "zip" = none) (hl : ds.length = z.cps.size) (ha : Ea X [e, e2] ρ [.tup ds, .str z]) (hs : starEach [e, e2] X.env = (false, eval e X.env) :: starEach [e2] X.env := by rfl) (hpl : (backTo pos (starEach [e2] X.env)).any (·.1) = false := by rfl) :
    Ei X (.Tuple elts kk tpos) (.Call (.Name "zip" p) [e, e2] [] pos) ρ ((ds.zip z.cps.toList).map fun q => D.tup [q.1, .str ⟨#[q.2]⟩]) :=
  pi_mono (pi_zipTS hg hm ha hs hpl) fun _ _ R ⟨S, e, rE, k⟩ => ⟨S, e, rE, fun us S1 H1 g1 r1 => by
    obtain ⟨v, r, rfl, h2, h3⟩ := r1.cons
    obtain ⟨a, vs, rfl, h4, h5⟩ := h2.tup
    obtain ⟨v2, r2, rfl, h6, h7⟩ := h3.cons
    rw [h7.nil, h6.str]
    have hl2 : vs.length = z.cps.size := by rw [← h5.length]; exact hl
    refine ⟨a, vs, z, rfl, SqT.of (g1.sh _ _ h4), k _ S1 H1 g1 (isIt_of_walk (walk_zipTS (xs := vs) hl2) (by simp [h5.length, hl2]) (fun S' H e1 e2 => SqT.of (e2 _ _ (e1 _ _ h4))) fun i S' H x H' d hi e1 e2 y hd => ?_)⟩
    obtain ⟨T, u, w, rfl, hT, rfl, hu, hw⟩ := y
    obtain ⟨z1, c, hz, hc, rfl⟩ := zip_get hd
    have hu : vs[i]? = some u := hu
    have hw : z.cps[i]?.map (fun c => V.str ⟨#[c]⟩) = some w := hw
    obtain ⟨w', hw', rw'⟩ := h5.get hz
    rw [hw'] at hu
    cases hu
    have hc' : z.cps[i]? = some c := by rw [← Array.getElem?_toList]; exact hc
    rw [hc'] at hw
    cases hw
    exact ⟨_, Gr.new e2 hT, rep_tup upd_same (repL_cons ((rw'.mono e1).mono (Ex.new (none_of_ex e2 hT))) (repL_cons rep_str repL_nil))⟩⟩
end

/-! ### targets -/
inductive Bd | one (i : Nat) | two (i j : Nat)
def Bd.tg (K : PySem.W.Frag) : Bd → TG
  | .one i => gName i
  | .two i j => gTup K 2 (gCons (gName i) (gCons (gName j) gNil))
def Bd.slots : Bd → List Nat
  | .one i => [i]
  | .two i j => [i, j]
def pair? : D → Option (D × D)
  | .tup [x, y] => some (x, y)
  | _ => none
theorem pair_eq {d x y : D} (h : pair? d = some (x, y)) : d = .tup [x, y] := by
  unfold pair? at h
  split at h
  · cases h
    rfl
  · cases h
def bindE : Bd → En → D → Option En
  | .one i, ρ, d => some (ρ.set i (some d))
  | .two i j, ρ, d => (pair? d).map fun q => (ρ.set i (some q.1)).set j (some q.2)
theorem bind_ok {K : PySem.W.Frag} {b : Bd} {ρ ρ' : En} {d : D} {S H : Hp} {v : V} {σ : St} {Q : St → Hp → Prop} (e : Ex S H) (rE : RepE S ρ σ) (r : Rep S d v) (h : bindE b ρ d = some ρ')
    (q : ∀ σ', RepE S ρ' σ' → (∀ vs : List Nat, (∀ i ∈ b.slots, i ∈ vs) → wipe σ' vs = wipe σ vs) → Q σ' H) : b.tg K v σ H Q := by
  cases b with
  | one i =>
    have e1 : ρ.set i (some d) = ρ' := Option.some.inj h
    subst e1
    exact q _ (rE.set r) fun vs hv => wipe_set (hv i (by simp [Bd.slots]))
  | two i j =>
    cases q2 : pair? d with
    | none =>
      have h : (pair? d).map (fun q => (ρ.set i (some q.1)).set j (some q.2)) = some ρ' := h
      rw [q2] at h
      cases h
    | some xy =>
      obtain ⟨x, y⟩ := xy
      have h : (pair? d).map (fun q => (ρ.set i (some q.1)).set j (some q.2)) = some ρ' := h
      rw [q2] at h
      have e1 := Option.some.inj h
      subst e1
      rw [pair_eq q2] at r
      obtain ⟨a, vs, rfl, h1, h2⟩ := r.tup
      obtain ⟨v1, r1, rfl, h3, h4⟩ := h2.cons
      obtain ⟨v2, r2, rfl, h5, h6⟩ := h4.cons
      rw [h6.nil] at h1
      refine ⟨a, [v1, v2], rfl, SqT.of (e _ _ h1), rfl, v1, [v2], rfl, v2, [], rfl, rfl, ?_⟩
      refine q _ ((rE.set h3).set h5) fun vs hv => ?_
      rw [wipe_set (hv j (by simp [Bd.slots])), wipe_set (hv i (by simp [Bd.slots]))]

/-! ### comprehensions -/
def ouT {α : Type} (xs : List α) (p : α → Bool) (ψ : α → D) : List D := (xs.filter p).map ψ
theorem ouT_take {α : Type} {xs : List α} {p : α → Bool} {ψ : α → D} {i : Nat} {x : α} (h : xs[i]? = some x) : ouT (xs.take (i + 1)) p ψ = if p x = true then ouT (xs.take i) p ψ ++ [ψ x] else ouT (xs.take i) p ψ := by
  unfold ouT
  rw [List.take_succ, h, List.filter_append, List.map_append]
  show _ ++ ((([x] : List α).filter p).map ψ) = _
  cases q : p x with
  | true => rw [List.filter_cons, if_pos q, if_pos rfl] <;> rfl
  | false =>
    rw [List.filter_cons, if_neg (by rw [q]; decide), if_neg (by decide)]
    exact List.append_nil _
theorem ouT_len {α : Type} (xs : List α) (p : α → Bool) (ψ : α → D) : (ouT xs p ψ).length ≤ xs.length := by
  unfold ouT
  rw [List.length_map]
  exact List.length_filter_le _ _
section
variable {X : Cx} {ρ : En} {α : Type}
/-- the readings of a comprehension's tests and element: one of the items' -/
def ttC (xs : List α) (ρx : α → En) (p : α → Bool) : TT := fun σ H Q => ∃ x, x ∈ xs ∧ ttD (ρx x) (p x) σ H Q
def teC (xs : List α) (ρx : α → En) (p : α → Bool) (ψ : α → D) : TE := fun σ H Q => ∃ x, (x ∈ xs ∧ p x = true) ∧ tD (ρx x) (ψ x) σ H Q
theorem lc_D {K : PySem.W.Frag} {b : Bd} {xs : List α} {φ : α → D} {ρx : α → En} {p : α → Bool} {ψ : α → D} {vs : List Nat} {σ : St} {H : Hp} {Q : VK} (hl : xs.length ≤ 100000) (hv : ∀ i ∈ b.slots, i ∈ vs)
    (hb : ∀ x ∈ xs, bindE b (wipeE ρ vs) (φ x) = some (ρx x)) (h : tD ρ (.lst (ouT xs p ψ)) σ H Q) : tLc (tiD ρ (xs.map φ)) (b.tg K) (ttC xs ρx p) (teC xs ρx p ψ) vs σ H Q := by
  obtain ⟨S, e, rE, k⟩ := h
  refine ⟨S, e, rE, fun J S1 H1 g1 it D hD => ?_⟩
  have hlen : (xs.map φ).length = xs.length := List.length_map ..
  have hS1 : S1 D = none := none_of_ex g1.sh hD
  let W : Nat → Hp → Prop := fun i H' => ∃ S' acc, Gr S1 H1 S' H' ∧ S' D = none ∧ H' D = some (.lst acc) ∧ RepL S' (ouT (xs.take i) p ψ) acc
  refine ⟨fun i m H' => m = xs.length - i ∧ i ≤ xs.length ∧ W i H', ⟨xs.length, by simp, Nat.zero_le _, S1, [], (Gr.refl g1.sh).mut hD hS1, hS1, upd_same, repL_nil⟩, ?_⟩
  rintro i m H' ⟨rfl, hi, S', acc, g', hSD, hHD, racc⟩
  obtain ⟨it1, it2, it3⟩ := it S' H' g'.ss g'.sh
  by_cases hlt : i < xs.length
  · refine .inr ⟨it1 i (by rw [hlen]; exact hlt), W (i + 1), fun H'' w => ⟨xs.length - (i + 1), by omega, rfl, hlt, w⟩, fun v H2 y => ?_⟩
    have hx : xs[i]? = some xs[i] := List.getElem?_eq_getElem hlt
    have hm : xs[i] ∈ xs := List.getElem_mem hlt
    obtain ⟨S2, g2, r2⟩ := it3 i v H2 (by rw [hlen]; exact hlt) y (φ xs[i]) (by rw [List.getElem?_map, hx] <;> rfl)
    have rw2 : RepE S2 (wipeE ρ vs) (wipe σ vs) := (rE.mono (g1.trans (g'.trans g2)).ss).wipe vs
    refine bind_ok g2.sh rw2 r2 (hb _ hm) fun σ2 rE2 hw => ⟨?_, ?_⟩
    · have := hw vs hv
      have ww : wipe (wipe σ vs) vs = wipe σ vs := by
        have key : ∀ (us : List Nat) (τ : St), (∀ i ∈ us, τ[i]? = some none ∨ τ[i]? = none) → wipe τ us = τ := by
          intro us
          induction us with
          | nil => intro τ _; rfl
          | cons u us ih =>
            intro τ ht
            unfold wipe
            rw [ih τ fun i hi => ht i (List.mem_cons_of_mem _ hi)]
            apply List.ext_getElem?
            intro n
            rw [List.getElem?_set]
            by_cases q : u = n
            · subst q
              rw [if_pos rfl]
              rcases ht u (List.mem_cons_self ..) with z | z
              · rw [z]
                split
                · rfl
                · rename_i hz
                  rw [List.getElem?_eq_none (by omega)] at z
                  cases z
              · rw [z]
                split
                · rename_i hz
                  rw [List.getElem?_eq_getElem hz] at z
                  cases z
                · rfl
            · rw [if_neg q]
        refine key vs _ fun i hi => ?_
        cases q : (wipe σ vs)[i]? with
        | none => exact Or.inr rfl
        | some o =>
          cases o with
          | none => exact Or.inl rfl
          | some x => exact absurd hi (wipe_some q).2
      rw [ww] at this
      exact this
    · have gg : Gr S1 H1 S2 H2 := g'.trans g2
      refine ⟨xs[i], hm, S2, g2.sh, rE2, fun S3 H3 g3 => ?_⟩
      have hS3 : S3 D = none := (g2.trans g3).fr D _ hSD hHD ntl
      have hH3 : H3 D = some (.lst acc) := (g2.trans g3).hh D _ hHD
      cases hp : p xs[i] with
      | true =>
        show teC xs ρx p ψ σ2 H3 _
        refine ⟨xs[i], ⟨hm, hp⟩, S3, g3.sh, rE2.mono g3.ss, fun u S4 H4 g4 r4 => ?_⟩
        have hS4 : S4 D = none := g4.fr D _ hS3 hH3 ntl
        have hH4 : H4 D = some (.lst acc) := g4.hh D _ hH3
        have hr : RepL S4 (ouT (xs.take (i + 1)) p ψ) (acc ++ [u]) := by
          rw [ouT_take hx, if_pos hp]
          exact (racc.mono ((g2.trans (g3.trans g4)).ss)).append (repL_cons r4 repL_nil)
        refine ⟨acc, hH4, ?_, S4, _, (gg.trans (g3.trans g4)).mut hD hS4, hS4, upd_same, hr⟩
        have q1 := racc.length
        have q2 := ouT_len (xs.take i) p ψ
        rw [List.length_take] at q2
        exact Nat.lt_of_lt_of_le (show acc.length < 100000 by omega) (by decide)
      | false =>
        show W (i + 1) H3
        refine ⟨S3, acc, gg.trans g3, hS3, hH3, ?_⟩
        rw [ouT_take hx, if_neg (by rw [hp]; decide)]
        exact racc.mono ((g2.trans g3).ss)
  · have e1 : i = xs.length := by omega
    subst e1
    refine .inl ⟨by rw [hlen] at it2; exact it2, ?_⟩
    rw [List.take_length] at racc
    exact k (.ref D) _ H' (g1.trans (g'.fix hD hSD hHD)) (rep_lst upd_same (racc.mono (Ex.new hSD)))
theorem pts_mono {es : List Expr} {t t' : TT} (h : PTs X es t) (m : ∀ σ H Q, t' σ H Q → t σ H Q) : PTs X es t' := ⟨fun pins s σ H Q I q => h.run pins s σ H Q I (m σ H Q q)⟩
abbrev Ets (X : Cx) (es : List Expr) (ρ : En) (b : Bool) : Prop := PTs X es (ttD ρ b)
theorem ets_nil : Ets X [] ρ true := pts_mono pts_nil fun _ H Q ⟨S, e, _, k⟩ => k S H (Gr.refl e)
theorem ets_one {c : Expr} {b : Bool} (h : Et X c ρ b) : Ets X [c] ρ b := pts_one h
/-- what is asked of a comprehension with one for -/
structure Lc (X : Cx) (elt tg iter : Expr) (ifs : List Expr) (scope : Scope) (own : List (Str × Nat)) (b : Bd) (ρ : En) (xs : List α) (φ : α → D) (p : α → Bool) (ψ : α → D) : Prop where
  calm : X.calm = true
  nd : X.N.Nodup
  it : Ei X tg iter ρ (xs.map φ)
  blk : BlkOk X.N X.env.scope scope own
  len : xs.length ≤ 100000
  sl : ∀ i ∈ b.slots, i ∈ own.map (·.2)
  tgt : ∀ (s : Shared) (H : Hp) (C : Addr) (cl : List (Str × Addr)) (fp : List Addr), PG (X.blk s H scope (compEnvC scope cl C X.env) fp) tg (b.tg X.K)
  turn : ∀ x ∈ xs, ∃ ρ', bindE b (wipeE ρ (own.map (·.2))) (φ x) = some ρ' ∧ ∀ (s : Shared) (H : Hp) (C : Addr) (cl : List (Str × Addr)) (fp : List Addr), Ets (X.blk s H scope (compEnvC scope cl C X.env) fp) ifs ρ' (p x) ∧ (p x = true → Em (X.blk s H scope (compEnvC scope cl C X.env) fp) elt ρ' (ψ x))
  fs : ∀ x, foldedSetIterable iter X.env x = pure x
theorem Lc.get {elt tg iter : Expr} {ifs : List Expr} {scope : Scope} {own : List (Str × Nat)} {b : Bd} {xs : List α} {φ : α → D} {p : α → Bool} {ψ : α → D} (L : Lc X elt tg iter ifs scope own b ρ xs φ p ψ) :
    ∃ ρx : α → En, (∀ x ∈ xs, bindE b (wipeE ρ (own.map (·.2))) (φ x) = some (ρx x)) ∧
      (∀ (s : Shared) (H : Hp) (C : Addr) (cl : List (Str × Addr)) (fp : List Addr), PTs (X.blk s H scope (compEnvC scope cl C X.env) fp) ifs (ttC xs ρx p)) ∧
      (∀ (s : Shared) (H : Hp) (C : Addr) (cl : List (Str × Addr)) (fp : List Addr), PE (X.blk s H scope (compEnvC scope cl C X.env) fp) elt (teC xs ρx p ψ)) := by
  refine ⟨fun x => (bindE b (wipeE ρ (own.map (·.2))) (φ x)).getD [], fun x hx => ?_, fun s H C cl fp => ?_, fun s H C cl fp => ?_⟩
  · obtain ⟨ρ', h1, _⟩ := L.turn x hx
    show bindE b (wipeE ρ (own.map (·.2))) (φ x) = some ((bindE b (wipeE ρ (own.map (·.2))) (φ x)).getD [])
    rw [h1] <;> rfl
  · refine pts_some (P := fun x => x ∈ xs) fun x hx => ?_
    obtain ⟨ρ', h1, h2⟩ := L.turn x hx
    show PTs _ ifs (ttD ((bindE b (wipeE ρ (own.map (·.2))) (φ x)).getD []) (p x))
    rw [h1]
    exact (h2 s H C cl fp).1
  · refine pe_some (P := fun x => x ∈ xs ∧ p x = true) fun x hx => ?_
    obtain ⟨ρ', h1, h2⟩ := L.turn x hx.1
    show PE _ elt (tD ((bindE b (wipeE ρ (own.map (·.2))) (φ x)).getD []) (ψ x))
    rw [h1]
    exact (h2 s H C cl fp).2 hx.2
theorem em_lc {elt tg iter : Expr} {ifs : List Expr} {scope : Scope} {own : List (Str × Nat)} {pos : Pos} {b : Bd} {xs : List α} {φ : α → D} {p : α → Bool} {ψ : α → D} (L : Lc X elt tg iter ifs scope own b ρ xs φ p ψ) :
    Em X (.ListComp elt [⟨tg, iter, ifs, 0⟩] scope pos) ρ (.lst ((xs.filter p).map ψ)) := by
  obtain ⟨ρx, h1, h2, h3⟩ := L.get
  exact pe_mono (pe_lc L.calm L.nd L.it L.blk L.tgt h2 h3 L.fs) fun _ _ _ h => lc_D L.len L.sl h1 h

/-! ### statements -/
inductive O | nx (ρ : En) | rt (d : D)
def Kont : O → Hp → Hp → Ends → Prop
  | .nx ρ', S, H, Dn => ∀ σ' S' H', Gr S H S' H' → RepE S' ρ' σ' → Dn.nx σ' H'
  | .rt d, S, H, Dn => ∀ v S' H', Gr S H S' H' → Rep S' d v → Dn.rt v H'
theorem Kont.step {o : O} {S H S' H' : Hp} {Dn : Ends} (k : Kont o S H Dn) (g : Gr S H S' H') : Kont o S' H' Dn := by
  cases o with
  | nx ρ => exact fun σ' S2 H2 g2 r => k σ' S2 H2 (g.trans g2) r
  | rt d => exact fun v S2 H2 g2 r => k v S2 H2 (g.trans g2) r
def tsD (ρ : En) (o : O) : TS := fun Dn σ H => ∃ S, Ex S H ∧ RepE S ρ σ ∧ Kont o S H Dn
abbrev Es (X : Cx) (st : Stmt) (ρ : En) (o : O) : Prop := PS X st (tsD ρ o)
abbrev Ess (X : Cx) (sts : List Stmt) (ρ : En) (o : O) : Prop := PSs X sts (tsD ρ o)
variable {o : O} {ρ1 : En} {st : Stmt} {rest : List Stmt} {e : Expr} {d : D} {pos : Pos}
theorem ess_nil : Ess X [] ρ (.nx ρ) := pss_mono pss_nil fun Dn σ H ⟨S, e, rE, k⟩ => k σ S H (Gr.refl e) rE
theorem ess_nx (h1 : Es X st ρ (.nx ρ1)) (h2 : Ess X rest ρ1 o) : Ess X (st :: rest) ρ o :=
  pss_mono (pss_cons h1 h2) fun Dn σ H ⟨S, e, rE, k⟩ => ⟨S, e, rE, fun σ' S' H' g r => ⟨S', g.sh, r, k.step g⟩⟩
theorem ess_rt (h1 : Es X st ρ (.rt d)) : Ess X (st :: rest) ρ (.rt d) :=
  pss_mono (pss_cons h1 pss_never) fun Dn σ H ⟨S, e, rE, k⟩ => ⟨S, e, rE, k⟩
theorem ess_one (h1 : Es X st ρ o) : Ess X [st] ρ o := pss_one h1
theorem ess_is {o' : O} {sts : List Stmt} (h : Ess X sts ρ o) (q : o = o') : Ess X sts ρ o' := q ▸ h
theorem ess_le {ρ' : En} {sts : List Stmt} (l : Le ρ' ρ) (h : Ess X sts ρ o) : Ess X sts ρ' o := pss_mono h fun _ _ _ ⟨S, e, rE, k⟩ => ⟨S, e, rE.le l, k⟩
theorem ess_to {ρ' : En} {sts : List Stmt} (h : Ess X sts ρ (.nx ρ1)) (l : Le ρ1 ρ') : Ess X sts ρ (.nx ρ') := pss_mono h fun _ _ _ ⟨S, e, rE, k⟩ => ⟨S, e, rE, fun σ' S' H' g r => k σ' S' H' g (r.le l)⟩
theorem es_ret (he : Em X e ρ d) : Es X (.Return (some e) pos) ρ (.rt d) := ps_mono (ps_ret he) fun Dn _ _ ⟨S, e, rE, k⟩ => ⟨S, e, rE, k⟩
theorem es_retN : Es X (.Return none pos) ρ (.rt .non) := ps_mono ps_retN fun Dn _ H ⟨S, e, rE, k⟩ => k .non S H (Gr.refl e) rep_non
/-- name = e -/
theorem es_set {i : Nat} {x : Str} {pos' : Pos} (hN : X.N.Nodup) (hi : X.N[i]? = some x) (hx : Loc X.env.scope x) (he : Em X e ρ d) (hs : swapsWith e (some (.Name x pos')) pos.line X.env = pure false := by rfl) (hf : X.fn x = true ∨ X.env.scope.names.lookup x = some .local := by first | exact .inl rfl | exact .inr rfl | assumption) :
    Es X (.Assign [.Name x pos'] e pos) ρ (.nx (ρ.set i (some d))) := ps_mono (ps_set hN hi hx he hs hf) fun Dn σ _ ⟨S, e, rE, k⟩ => ⟨S, e, rE, fun v S' H' g r => k _ S' H' g ((rE.mono g.ss).set r)⟩
/-- (a, b) = e, also for a target of a name -/
theorem es_asg {tg : Expr} {b : Bd} (he : Em X e ρ d) (hg : PG X tg (b.tg X.K)) (hb : bindE b ρ d = some ρ1) (hs : swapsWithSole [tg] e pos.line X.env = pure false := by rfl) (hw : swappedStores [tg] e X.env = pure none := by rfl)
    (h1 : (assignEach [tg] X.env).map (·.2) = [assign tg X.env] := by rfl) : Es X (.Assign [tg] e pos) ρ (.nx ρ1) := ps_mono (ps_asg he hg hs hw h1) fun Dn σ _ ⟨S, e, rE, k⟩ => ⟨S, e, rE, fun v S' H' g r => bind_ok g.sh (rE.mono g.ss) r hb fun σ' r' _ => k σ' S' H' g r'⟩
/-- name = [..], the name a local -/
theorem es_setLc {i : Nat} {y : Str} {py : Pos} {elt tg iter : Expr} {ifs : List Expr} {scope : Scope} {own : List (Str × Nat)} {pos spos : Pos} {b : Bd} {xs : List α} {φ : α → D} {p : α → Bool} {ψ : α → D} (hy : X.N[i]? = some y) (hyl : X.env.scope.names.lookup y = some .local)
    (hsw : swapsWith (.ListComp elt [⟨tg, iter, ifs, 0⟩] scope pos) (some (.Name y py)) spos.line X.env = pure true) (L : Lc X elt tg iter ifs scope own b ρ xs φ p ψ) :
    Es X (.Assign [.Name y py] (.ListComp elt [⟨tg, iter, ifs, 0⟩] scope pos) spos) ρ (.nx (ρ.set i (some (.lst ((xs.filter p).map ψ))))) := by
  obtain ⟨ρx, h1, h2, h3⟩ := L.get
  exact ps_mono (ps_setLc L.calm L.nd hy hyl hsw L.it L.blk L.tgt h2 h3 L.fs) fun Dn σ _ ⟨S, e, rE, k⟩ => lc_D L.len L.sl h1 ⟨S, e, rE, fun v S' H' g r => k _ S' H' g ((rE.mono g.ss).set r)⟩
theorem es_if {c : Expr} {a b : List Stmt} {q : Bool} (hc : Et X c ρ q) (ha : q = true → Ess X a ρ o) (hb : q = false → Ess X b ρ o) : Es X (.If c a b pos) ρ o := by
  cases q with
  | true => exact ps_mono (ps_if hc (ha rfl) pss_never) fun Dn _ _ ⟨S, e, rE, k⟩ => ⟨S, e, rE, fun S1 H1 g => (show tsD ρ o Dn _ H1 from ⟨S1, g.sh, rE.mono g.ss, k.step g⟩)⟩
  | false => exact ps_mono (ps_if hc pss_never (hb rfl)) fun Dn _ _ ⟨S, e, rE, k⟩ => ⟨S, e, rE, fun S1 H1 g => (show tsD ρ o Dn _ H1 from ⟨S1, g.sh, rE.mono g.ss, k.step g⟩)⟩
/-- the for, by the state ahead of each turn: st i; the body's turns end as ob i says -/
theorem es_forC {tg iter : Expr} {body : List Stmt} {b : Bd} {ds : List D} (m n : Nat) (sT ρb : Nat → En) (ob : Nat → O) (hp : PassesOwn (model X.prog X.w) X.A X.env X.xe) (hc : X.calm = true) (hi : Ei X tg iter ρ ds) (hg : PG X tg (b.tg X.K)) (hm : m ≤ ds.length) (h0 : Le ρ (sT 0))
    (hb : ∀ i d, i < n → ds[i]? = some d → bindE b (sT i) d = some (ρb i)) (hbody : ∀ i, i < n → Ess X body (ρb i) (ob i)) (hnx : ∀ i, i < m → ob i = .nx (sT (i + 1)))
    (hend : (n = m ∧ m = ds.length ∧ o = .nx (sT m)) ∨ (n = m + 1 ∧ m < ds.length ∧ ∃ d, ob m = .rt d ∧ o = .rt d)) (hs : ∀ x, foldedSetIterable iter X.env x = pure x := by intro _; rfl) : Es X (.For tg iter body [] pos) ρ o := by
  have hB : PSs X body (fun Dn σ H => ∃ i, i < n ∧ tsD (ρb i) (ob i) Dn σ H) := pss_some (P := fun i => i < n) hbody
  refine ps_mono (ps_for hp hc hi hg hB hs) fun Dn σ H ⟨S, e, rE, k⟩ => ⟨S, e, rE, fun J S1 H1 g1 it => ?_⟩
  let W : Nat → St → Hp → Prop := fun i σ' H' => ∃ S', Gr S1 H1 S' H' ∧ RepE S' (sT i) σ'
  refine ⟨fun i mm σ' H' => mm = ds.length - i ∧ i ≤ m ∧ W i σ' H', ⟨ds.length, by simp, Nat.zero_le _, S1, Gr.refl g1.sh, (rE.mono g1.ss).le h0⟩, ?_⟩
  rintro i mm σ' H' ⟨rfl, hi', S', g', rE'⟩
  obtain ⟨it1, it2, it3⟩ := it S' H' g'.ss g'.sh
  by_cases hlt : i < n
  · have hil : i < ds.length := by
      rcases hend with ⟨h1, h2, _⟩ | ⟨h1, h2, _⟩ <;> omega
    refine .inr ⟨it1 i hil, fun σ'' H'' => i < m ∧ W (i + 1) σ'' H'', fun σ'' H'' ⟨hh, w⟩ => ⟨ds.length - (i + 1), by omega, rfl, hh, w⟩, fun v H2 y => ?_⟩
    have hd : ds[i]? = some ds[i] := List.getElem?_eq_getElem hil
    obtain ⟨S2, g2, r2⟩ := it3 i v H2 hil y _ hd
    refine bind_ok g2.sh (rE'.mono g2.ss) r2 (hb i _ hlt hd) fun σ2 rE2 _ => ?_
    refine ⟨i, hlt, S2, g2.sh, rE2, ?_⟩
    by_cases him : i < m
    · rw [hnx i him]
      exact fun σ3 S3 H3 g3 r3 => ⟨him, S3, g'.trans (g2.trans g3), r3⟩
    · have e1 : i = m := by omega
      rcases hend with ⟨h1, h2, _⟩ | ⟨h1, h2, d, h3, h4⟩
      · omega
      · rw [e1, h3]
        rw [h4] at k
        exact fun v S3 H3 g3 r3 => k v S3 H3 (g1.trans (g'.trans (g2.trans g3))) r3
  · rcases hend with ⟨h1, h2, h3⟩ | ⟨h1, h2, _⟩
    · have e1 : i = m := by omega
      subst e1
      rw [h2]
      rw [h2] at rE'
      rw [h3, h2] at k
      exact .inl ⟨it2, k σ' S' H' (g1.trans g') rE'⟩
    · omega
theorem es_for {tg iter : Expr} {body : List Stmt} {b : Bd} {ds : List D} (sT : Nat → En) (hp : PassesOwn (model X.prog X.w) X.A X.env X.xe) (hc : X.calm = true) (hi : Ei X tg iter ρ ds) (hg : PG X tg (b.tg X.K)) (h0 : Le ρ (sT 0))
    (hb : ∀ i d, ds[i]? = some d → ∃ ρb, bindE b (sT i) d = some ρb ∧ Ess X body ρb (.nx (sT (i + 1)))) (hs : ∀ x, foldedSetIterable iter X.env x = pure x := by intro _; rfl) : Es X (.For tg iter body [] pos) ρ (.nx (sT ds.length)) := by
  refine es_forC (b := b) ds.length ds.length sT (fun i => (bindE b (sT i) (ds.getD i .non)).getD []) (fun i => .nx (sT (i + 1))) hp hc hi hg (Nat.le_refl _) h0 (fun i d _ hd => ?_) (fun i hi' => ?_) (fun _ _ => rfl) (.inl ⟨rfl, rfl, rfl⟩) hs
  · obtain ⟨ρb, h1, _⟩ := hb i d hd
    rw [List.getD_eq_getElem?_getD, hd]
    show bindE b (sT i) d = some ((bindE b (sT i) d).getD [])
    rw [h1] <;> rfl
  · have hd : ds[i]? = some ds[i] := List.getElem?_eq_getElem hi'
    obtain ⟨ρb, h1, h2⟩ := hb i _ hd
    rw [List.getD_eq_getElem?_getD, hd]
    show Ess X body ((bindE b (sT i) ds[i]).getD []) _
    rw [h1]
    exact h2
theorem es_forR {tg iter : Expr} {body : List Stmt} {b : Bd} {ds : List D} (m : Nat) (sT : Nat → En) (hp : PassesOwn (model X.prog X.w) X.A X.env X.xe) (hc : X.calm = true) (hi : Ei X tg iter ρ ds) (hg : PG X tg (b.tg X.K)) (hm : m < ds.length) (h0 : Le ρ (sT 0))
    (hb : ∀ i d, i < m → ds[i]? = some d → ∃ ρb, bindE b (sT i) d = some ρb ∧ Ess X body ρb (.nx (sT (i + 1)))) (hl : ∀ d', ds[m]? = some d' → ∃ ρb, bindE b (sT m) d' = some ρb ∧ Ess X body ρb (.rt d)) (hs : ∀ x, foldedSetIterable iter X.env x = pure x := by intro _; rfl) : Es X (.For tg iter body [] pos) ρ (.rt d) := by
  refine es_forC (b := b) m (m + 1) sT (fun i => (bindE b (sT i) (ds.getD i .non)).getD []) (fun i => if i < m then .nx (sT (i + 1)) else .rt d) hp hc hi hg (Nat.le_of_lt hm) h0 (fun i d' hi' hd => ?_) (fun i hi' => ?_) (fun i hi' => if_pos hi') (.inr ⟨rfl, hm, d, if_neg (Nat.lt_irrefl _), rfl⟩) hs
  · rw [List.getD_eq_getElem?_getD, hd]
    show bindE b (sT i) d' = some ((bindE b (sT i) d').getD [])
    by_cases q : i < m
    · obtain ⟨ρb, h1, _⟩ := hb i d' q hd
      rw [h1] <;> rfl
    · have e1 : i = m := by omega
      subst e1
      obtain ⟨ρb, h1, _⟩ := hl d' hd
      rw [h1] <;> rfl
  · have hil : i < ds.length := by omega
    have hd : ds[i]? = some ds[i] := List.getElem?_eq_getElem hil
    rw [List.getD_eq_getElem?_getD, hd]
    show Ess X body ((bindE b (sT i) ds[i]).getD []) _
    by_cases q : i < m
    · obtain ⟨ρb, h1, h2⟩ := hb i _ q hd
      rw [h1, if_pos q]
      exact h2
    · have e1 : i = m := by omega
      subst e1
      obtain ⟨ρb, h1, h2⟩ := hl _ hd
      rw [h1, if_neg q]
      exact h2
theorem es_while {c : Expr} {body : List Stmt} (m : Nat) (sT : Nat → En) (hp : PassesOwn (model X.prog X.w) X.A X.env X.xe) (h0 : Le ρ (sT 0)) (hc : ∀ i, i ≤ m → Et X c (sT i) (decide (i < m))) (hb : ∀ i, i < m → Ess X body (sT i) (.nx (sT (i + 1)))) : Es X (.While c body [] pos) ρ (.nx (sT m)) := by
  have hC : PT X c (fun σ H Q => ∃ i, i ≤ m ∧ ttD (sT i) (decide (i < m)) σ H Q) := pt_some (P := fun i => i ≤ m) hc
  have hB : PSs X body (fun Dn σ H => ∃ i, i < m ∧ tsD (sT i) (.nx (sT (i + 1))) Dn σ H) := pss_some (P := fun i => i < m) hb
  refine ps_mono (ps_while hp hC hB) fun Dn σ H ⟨S, e, rE, k⟩ => ?_
  refine ⟨fun mm σ' H' => mm ≤ m ∧ ∃ S', Gr S H S' H' ∧ RepE S' (sT (m - mm)) σ', ⟨m, Nat.le_refl _, S, Gr.refl e, by rw [Nat.sub_self]; exact rE.le h0⟩, ?_⟩
  rintro mm σ' H' ⟨hm, S', g', rE'⟩
  refine ⟨m - mm, Nat.sub_le _ _, S', g'.sh, rE', fun S1 H1 g1 => ?_⟩
  by_cases q : m - mm < m
  · rw [decide_eq_true q]
    refine ⟨fun σ2 H2 => ∃ S2, Gr S H S2 H2 ∧ RepE S2 (sT (m - (mm - 1))) σ2, fun σ2 H2 ⟨S2, g2, r2⟩ => ⟨mm - 1, by omega, by omega, S2, g2, r2⟩, m - mm, q, S1, g1.sh, rE'.mono g1.ss, fun σ2 S2 H2 g2 r2 => ⟨S2, g'.trans (g1.trans g2), ?_⟩⟩
    have e1 : m - (mm - 1) = m - mm + 1 := by omega
    rw [e1]
    exact r2
  · rw [decide_eq_false q]
    show Dn.nx σ' H1
    have e1 : m - mm = m := by omega
    rw [e1] at rE'
    exact k σ' S1 H1 (g'.trans g1) (rE'.mono g1.ss)
end

/-! ### defs -/
section
variable {P : Program} {w : World} {K : PySem.W.Frag} {mg : Str → Option Value} {base : Heap}
theorem repE_start {S : Hp} {N : List Str} {ds : List D} {vs : List V} (r : RepL S ds vs) : RepE S (ds.map some ++ List.replicate (N.length - ds.length) none) (L2.start N vs) := by
  refine ⟨by unfold L2.start; simp [r.length], fun i d h => ?_⟩
  by_cases q : i < ds.length
  · rw [List.getElem?_append_left (by simpa using q), List.getElem?_map] at h
    cases q2 : ds[i]? with
    | none =>
      rw [q2] at h
      cases h
    | some d' =>
      rw [q2] at h
      have e : d' = d := by simpa using h
      subst e
      obtain ⟨v, h1, h2⟩ := r.get q2
      refine ⟨v, ?_, h2⟩
      unfold L2.start
      rw [List.getElem?_append_left (by rw [List.length_map, ← r.length]; exact q), List.getElem?_map, h1] <;> rfl
  · rw [List.getElem?_append_right (by simpa using q), List.getElem?_replicate] at h
    split at h
    · cases h
    · cases h
/-- a def by its body, in the values -/
theorem fnD {x qual : Str} {params : Arguments} {body : List Stmt} {scope : Scope} {dvs : List V} {kws : List (Str × V)} {f : Addr} {fd : FuncData} {N ps : List Str} {k : Nat} {R : List D → D → Prop} (F : FunD K x qual params body scope dvs kws f fd) (S : FnScope N ps scope) (len : ∀ ds d, R ds d → ds.length = ps.length)
    (hbody : ∀ (cdv : Value) (A : Around) (outer : List Env) (s : Shared) (H : Hp) (E : XK), Room k (A.deeper (envOfC qual scope s.heap.objs.size f cdv)) → ∀ ds d, R ds d →
      Ess (cxOf C8.CX0 P w K mg base N qual scope f cdv A outer s H E).nox body (ds.map some ++ List.replicate (N.length - ds.length) none) (.rt d)) : FnOk P w K mg base C8.CX0 (k + 1) f fd ps (spD R) := by
  refine F.ok S (fun vs H Q E ⟨S', ds, d, _, r, h, _⟩ => by rw [← r.length]; exact len ds d h) fun cdv A outer s H vs Q E hr ⟨S', ds, d, e, r, h, q⟩ => ?_
  refine ⟨tsD (ds.map some ++ List.replicate (N.length - ds.length) none) (.rt d), PSs.nox (hbody cdv A outer s H E hr ds d h), S', e, repE_start r, q⟩
end
end Mh
set_option maxRecDepth 100000
set_option maxHeartbeats 2000000
/-! M2: the operations in the values. -/
namespace Mh
open PySem PySem.Spec PyProof.Rows L2
open Evl (Ex)

section
variable {K : PySem.W.Frag}
theorem od_I0 {g : Int → Int → V} {i j : Int} {z : D} (h : ∀ S, Rep S z (g i j)) : OpD (rI0 g) (.int i) (.int j) z := fun S H u w Q e r1 r2 k => ⟨i, j, r1.int, r2.int, k _ S H (Gr.refl e) (h S)⟩
theorem od_int {f : Int → Int → Int} {i j : Int} : OpD (rI0 fun i j => .int (f i j)) (.int i) (.int j) (.int (f i j)) := od_I0 fun _ => rep_int
theorem od_bl {f : Int → Int → Bool} {i j : Int} : OpD (rI0 fun i j => .bl (f i j)) (.int i) (.int j) (.bl (f i j)) := od_I0 fun _ => rep_bl
theorem od_intC {C : Int → Int → Prop} {f : Int → Int → Int} {i j : Int} (hc : C i j) : OpD (rI C fun i j => .int (f i j)) (.int i) (.int j) (.int (f i j)) := fun S H u w Q e r1 r2 k => ⟨i, j, r1.int, r2.int, hc, k _ S H (Gr.refl e) rep_int⟩
theorem ud_int {f : Int → Int} {i : Int} : UnD (rU fun i => .int (f i)) (.int i) (.int (f i)) := fun S H u Q e r1 k => ⟨i, r1.int, k _ S H (Gr.refl e) rep_int⟩
/-- == of flat values -/
theorem dec_str {a b : Str} : decide (V.str a = V.str b) = decide (a = b) := by
  by_cases h : a = b
  · rw [decide_eq_true h, h]
    exact decide_eq_true rfl
  · rw [decide_eq_false h]
    exact decide_eq_false fun e => h (V.str.inj e)
theorem dec_int {a b : Int} : decide (V.int a = V.int b) = decide (a = b) := by
  by_cases h : a = b
  · rw [decide_eq_true h, h]
    exact decide_eq_true rfl
  · rw [decide_eq_false h]
    exact decide_eq_false fun e => h (V.int.inj e)
theorem dec_bl {a b : Bool} : decide (V.bl a = V.bl b) = decide (a = b) := by cases a <;> cases b <;> rfl
theorem od_eqS {a b : Str} : OpD rEq (.str a) (.str b) (.bl (decide (a = b))) := fun S H u w Q e r1 r2 k => by
  rw [r1.str, r2.str]
  exact ⟨rfl, by rw [dec_str]; exact k _ S H (Gr.refl e) rep_bl⟩
theorem od_neS {a b : Str} : OpD rNe (.str a) (.str b) (.bl (!decide (a = b))) := fun S H u w Q e r1 r2 k => by
  rw [r1.str, r2.str]
  exact ⟨rfl, by rw [dec_str]; exact k _ S H (Gr.refl e) rep_bl⟩
theorem od_eqI {a b : Int} : OpD rEq (.int a) (.int b) (.bl (decide (a = b))) := fun S H u w Q e r1 r2 k => by
  rw [r1.int, r2.int]
  exact ⟨rfl, by rw [dec_int]; exact k _ S H (Gr.refl e) rep_bl⟩
theorem od_neI {a b : Int} : OpD rNe (.int a) (.int b) (.bl (!decide (a = b))) := fun S H u w Q e r1 r2 k => by
  rw [r1.int, r2.int]
  exact ⟨rfl, by rw [dec_int]; exact k _ S H (Gr.refl e) rep_bl⟩
theorem od_eqB {a b : Bool} : OpD rEq (.bl a) (.bl b) (.bl (decide (a = b))) := fun S H u w Q e r1 r2 k => by
  rw [r1.bl, r2.bl]
  exact ⟨rfl, by rw [dec_bl]; exact k _ S H (Gr.refl e) rep_bl⟩
/-- is None -/
def isNo : D → Bool
  | .non => true
  | .val .non => true
  | _ => false
theorem rep_isNo {d : D} {S : Hp} {v : V} (r : Rep S d v) : decide (v = .non) = isNo d := by
  cases d with
  | int i => rw [r.int] <;> rfl
  | bl i => rw [r.bl] <;> rfl
  | non => rw [r.non] <;> rfl
  | str i => rw [r.str] <;> rfl
  | tup l =>
    obtain ⟨a, vs, rfl, _⟩ := r.tup
    rfl
  | lst l =>
    obtain ⟨a, vs, rfl, _⟩ := r.lst
    rfl
  | obj c ns l =>
    obtain ⟨a, dx, vs, rfl, _⟩ := r.obj
    rfl
  | val u =>
    rw [r.val]
    cases u <;> rfl
  | scr K ns =>
    obtain ⟨a, rfl, _⟩ := r.scr
    rfl
  | ext a P m =>
    rw [r.ext.1]
    rfl
theorem od_isN {x : D} : OpD (fun x y H Q => y = .non ∧ Q (.bl (decide (x = .non))) H) x .non (.bl (isNo x)) := fun S H u w Q e r1 r2 k => by
  rw [r2.non]
  exact ⟨rfl, by rw [rep_isNo r1]; exact k _ S H (Gr.refl e) rep_bl⟩
/-- texts -/
theorem od_cat {a b : Str} (h : a.length + b.length ≤ 100000) : OpD (fun x y H Q => ∃ i j, x = .str i ∧ y = .str j ∧ i.length + j.length ≤ sizeLine ∧ Q (.str (i ++ j)) H) (.str a) (.str b) (.str (a ++ b)) := fun S H u w Q e r1 r2 k =>
  ⟨a, b, r1.str, r2.str, Evl.sz_of h, k _ S H (Gr.refl e) rep_str⟩
theorem od_leS {a b : Str} : OpD (fun x y H Q => ∃ i j, x = .str i ∧ y = .str j ∧ Q (.bl (!decide (j.cps.toList < i.cps.toList))) H) (.str a) (.str b) (.bl (!decide (b.cps.toList < a.cps.toList))) := fun S H u w Q e r1 r2 k =>
  ⟨a, b, r1.str, r2.str, k _ S H (Gr.refl e) rep_bl⟩
theorem od_sign {c : Nat} {z : Str} : OpD (fun x y H Q => ∃ (c : Nat) (z : Str), x = .str ⟨#[c]⟩ ∧ y = .str z ∧ Q (.bl (decide (c ∈ z.cps.toList))) H) (.str ⟨#[c]⟩) (.str z) (.bl (decide (c ∈ z.cps.toList))) := fun S H u w Q e r1 r2 k =>
  ⟨c, z, r1.str, r2.str, k _ S H (Gr.refl e) rep_bl⟩
/-- x in names -/
theorem inV_strs {x : Str} : ∀ {l : List Str}, inV (.str x) (l.map V.str) = decide (x ∈ l)
  | [] => rfl
  | y :: l => by
    have ih := inV_strs (x := x) (l := l)
    unfold inV at ih ⊢
    rw [List.map_cons, List.any_cons, ih]
    show (y == x || _) = _
    by_cases h : y = x
    · subst h
      simp
    · rw [beq_eq_false_iff_ne.mpr h, Bool.false_or]
      by_cases h2 : x ∈ l
      · rw [decide_eq_true h2, decide_eq_true (List.mem_cons_of_mem _ h2)]
      · rw [decide_eq_false h2]
        exact (decide_eq_false fun z => by
          rcases List.mem_cons.mp z with q | q
          · exact h q.symm
          · exact h2 q).symm
theorem flat_strs : ∀ {l : List Str}, (l.map V.str).all flatV = true
  | [] => rfl
  | y :: l => by
    rw [List.map_cons, List.all_cons, flat_strs] <;> rfl
theorem od_inT {x : Str} {l : List Str} : OpD (rIn K false) (.str x) (.tup (l.map D.str)) (.bl (decide (x ∈ l))) := fun S H u w Q e r1 r2 k => by
  obtain ⟨a, vs, rfl, h1, h2⟩ := r2.tup
  rw [r1.str]
  rw [repL_strs h2] at h1
  refine ⟨a, _, rfl, Or.inr (SqT.of (e _ _ h1)), rfl, flat_strs, ?_⟩
  show Q (.bl (inV (.str x) (l.map V.str))) H
  rw [inV_strs]
  exact k _ S H (Gr.refl e) rep_bl
theorem od_inL {x : Str} {l : List Str} : OpD (rIn K false) (.str x) (.lst (l.map D.str)) (.bl (decide (x ∈ l))) := fun S H u w Q e r1 r2 k => by
  obtain ⟨a, vs, rfl, h1, h2⟩ := r2.lst
  rw [r1.str]
  rw [repL_strs h2] at h1
  refine ⟨a, _, rfl, Or.inl (SqL.of (e _ _ h1)), rfl, flat_strs, ?_⟩
  show Q (.bl (inV (.str x) (l.map V.str))) H
  rw [inV_strs]
  exact k _ S H (Gr.refl e) rep_bl
theorem od_notInT {x : Str} {l : List Str} : OpD (rIn K true) (.str x) (.tup (l.map D.str)) (.bl (!decide (x ∈ l))) := fun S H u w Q e r1 r2 k => by
  obtain ⟨a, vs, rfl, h1, h2⟩ := r2.tup
  rw [r1.str]
  rw [repL_strs h2] at h1
  refine ⟨a, _, rfl, Or.inr (SqT.of (e _ _ h1)), rfl, flat_strs, ?_⟩
  show Q (.bl (!inV (.str x) (l.map V.str))) H
  rw [inV_strs]
  exact k _ S H (Gr.refl e) rep_bl
theorem od_notInL {x : Str} {l : List Str} : OpD (rIn K true) (.str x) (.lst (l.map D.str)) (.bl (!decide (x ∈ l))) := fun S H u w Q e r1 r2 k => by
  obtain ⟨a, vs, rfl, h1, h2⟩ := r2.lst
  rw [r1.str]
  rw [repL_strs h2] at h1
  refine ⟨a, _, rfl, Or.inl (SqL.of (e _ _ h1)), rfl, flat_strs, ?_⟩
  show Q (.bl (!inV (.str x) (l.map V.str))) H
  rw [inV_strs]
  exact k _ S H (Gr.refl e) rep_bl
/-- subscripts -/
theorem od_ixL {l : List D} {j : Nat} {d : D} (h : l[j]? = some d) : OpD (rIxL K) (.lst l) (.int (j : Int)) d := fun S H u w Q e r1 r2 k => by
  obtain ⟨a, vs, rfl, h1, h2⟩ := r1.lst
  obtain ⟨v, h3, h4⟩ := h2.get h
  exact ⟨a, vs, (j : Int), v, rfl, r2.int, SqL.of (e _ _ h1), atI_nat h3, k v S H (Gr.refl e) h4⟩
theorem od_ixT {l : List D} {j : Nat} {d : D} (h : l[j]? = some d) : OpD (rIxT K) (.tup l) (.int (j : Int)) d := fun S H u w Q e r1 r2 k => by
  obtain ⟨a, vs, rfl, h1, h2⟩ := r1.tup
  obtain ⟨v, h3, h4⟩ := h2.get h
  exact ⟨a, vs, (j : Int), v, rfl, r2.int, SqT.of (e _ _ h1), atI_nat h3, k v S H (Gr.refl e) h4⟩
theorem od_ixS {z : Str} {j : Nat} {c : Nat} (hz : z.length ≤ 100000) (h : z.cps.toList[j]? = some c) : OpD rIxS (.str z) (.int (j : Int)) (.str ⟨#[c]⟩) := fun S H u w Q e r1 r2 k =>
  ⟨z, (j : Int), c, r1.str, r2.int, Evl.sz_of hz, atI_nat h, k _ S H (Gr.refl e) rep_str⟩
/-- + of lists, of tuples; * of a list -/
theorem od_catL {l m : List D} (h : l.length + m.length ≤ 100000) : OpD rCat (.lst l) (.lst m) (.lst (l ++ m)) := fun S H u w Q e r1 r2 k => by
  obtain ⟨a, vs, rfl, h1, h2⟩ := r1.lst
  obtain ⟨b, ws, rfl, h3, h4⟩ := r2.lst
  exact ⟨a, b, vs, ws, rfl, rfl, e _ _ h1, e _ _ h3, Evl.sz_of (by rw [← h2.length, ← h4.length]; exact h), fun p hp => k _ _ _ (Gr.new e hp) (rep_lst upd_same ((h2.append h4).mono (Ex.new (none_of_ex e hp))))⟩
theorem od_catT {l m : List D} (h : l.length + m.length ≤ 100000) : OpD (rCatA K) (.tup l) (.tup m) (.tup (l ++ m)) := fun S H u w Q e r1 r2 k => by
  obtain ⟨a, vs, rfl, h1, h2⟩ := r1.tup
  obtain ⟨b, ws, rfl, h3, h4⟩ := r2.tup
  refine ⟨a, b, vs, ws, rfl, rfl, SqT.of (e _ _ h1), SqT.of (e _ _ h3), Evl.sz_of (by rw [← h2.length, ← h4.length]; exact h), fun q => ?_, fun _ q => ?_, fun _ _ p hp => ?_⟩
  · have hl : l = [] := List.length_eq_zero_iff.mp (by rw [h2.length, q] <;> rfl)
    subst hl
    exact k _ S H (Gr.refl e) (rep_tup h3 h4)
  · have hl : m = [] := List.length_eq_zero_iff.mp (by rw [h4.length, q] <;> rfl)
    subst hl
    rw [List.append_nil] at k
    exact k _ S H (Gr.refl e) (rep_tup h1 h2)
  · exact k _ _ _ (Gr.new e hp) (rep_tup upd_same ((h2.append h4).mono (Ex.new (none_of_ex e hp))))
theorem repL_rep {S : Hp} {l : List D} {vs : List V} (h : RepL S l vs) : ∀ n : Nat, RepL S (List.replicate n l).flatten (List.replicate n vs).flatten
  | 0 => repL_nil
  | n + 1 => by
    rw [List.replicate_succ, List.replicate_succ, List.flatten_cons, List.flatten_cons]
    exact h.append (repL_rep h n)
theorem od_rep {l : List D} {n : Nat} (h : l.length * n ≤ 100000) (hn : n ≤ 100000) : OpD rRep (.lst l) (.int (n : Int)) (.lst (List.replicate n l).flatten) := fun S H u w Q e r1 r2 k => by
  obtain ⟨a, vs, rfl, h1, h2⟩ := r1.lst
  refine ⟨a, (n : Int), vs, rfl, r2.int, e _ _ h1, by omega, by omega, Evl.sz_of (by rw [← h2.length, Int.toNat_natCast]; exact h), fun p hp => ?_⟩
  rw [Int.toNat_natCast]
  exact k _ _ _ (Gr.new e hp) (rep_lst upd_same ((repL_rep h2 n).mono (Ex.new (none_of_ex e hp))))

/-! ### == of nested data -/
mutual
def D.py : D → PyData
  | .int i => .int i
  | .bl b => .bool b
  | .non => .none
  | .str x => .str x
  | .tup l => .tuple (D.pys l)
  | .lst l => .list (D.pys l)
  | .obj _ _ _ => .none
  | .val _ => .none
  | .scr _ _ => .none
  | .ext _ _ _ => .none
def D.pys : List D → List PyData
  | [] => []
  | d :: l => d.py :: D.pys l
end
mutual
def D.plain : D → Bool
  | .int _ => true
  | .bl _ => true
  | .non => true
  | .str _ => true
  | .tup l => D.plains l
  | .lst l => D.plains l
  | .obj _ _ _ => false
  | .val _ => false
  | .scr _ _ => false
  | .ext _ _ _ => false
def D.plains : List D → Bool
  | [] => true
  | d :: l => d.plain && D.plains l
end
mutual
theorem Rep.dp {S H : Hp} (e : Ex S H) : ∀ {d : D} {v : V}, d.plain = true → Rep S d v → Dp K H v d.py
  | .int i, _, _, r => by
    rw [r.int]
    unfold D.py
    exact .int i
  | .bl b, _, _, r => by
    rw [r.bl]
    unfold D.py
    exact .bl b
  | .non, _, _, r => by
    rw [r.non]
    unfold D.py
    exact .non
  | .str x, _, _, r => by
    rw [r.str]
    unfold D.py
    exact .str x
  | .tup l, _, h, r => by
    obtain ⟨a, vs, rfl, h1, h2⟩ := r.tup
    unfold D.py
    unfold D.plain at h
    exact .tup (SqT.of (e _ _ h1)) (RepL.dp e h h2)
  | .lst l, _, h, r => by
    obtain ⟨a, vs, rfl, h1, h2⟩ := r.lst
    unfold D.py
    unfold D.plain at h
    exact .lst (SqL.of (e _ _ h1)) (RepL.dp e h h2)
  | .obj _ _ _, _, h, _ => by
    unfold D.plain at h
    cases h
  | .val _, _, h, _ => by
    unfold D.plain at h
    cases h
  | .scr _ _, _, h, _ => by
    unfold D.plain at h
    cases h
  | .ext _ _ _, _, h, _ => by
    unfold D.plain at h
    cases h
theorem RepL.dp {S H : Hp} (e : Ex S H) : ∀ {l : List D} {vs : List V}, D.plains l = true → RepL S l vs → DpAll K H vs (D.pys l)
  | [], _, _, r => by
    rw [r.nil]
    unfold D.pys
    exact .nil
  | d :: l, _, h, r => by
    obtain ⟨v, rs, rfl, h2, h3⟩ := r.cons
    unfold D.plains at h
    rw [Bool.and_eq_true] at h
    unfold D.pys
    exact .cons (Rep.dp e h.1 h2) (RepL.dp e h.2 h3)
end
theorem od_eqD {x y : D} {b : Bool} (hx : x.plain = true) (hy : y.plain = true) (sx : SeqAt.shaped x.py = true) (sy : SeqAt.shaped y.py = true) (h : PyData.eqv x.py y.py = b) : OpD (rEqD K) x y (.bl b) := fun S H u w Q e r1 r2 k =>
  ⟨x.py, y.py, r1.dp e hx, r2.dp e hy, sx, sy, by rw [h]; exact k _ S H (Gr.refl e) rep_bl⟩
theorem od_neD {x y : D} {b : Bool} (hx : x.plain = true) (hy : y.plain = true) (sx : SeqAt.shaped x.py = true) (sy : SeqAt.shaped y.py = true) (h : PyData.eqv x.py y.py = b) : OpD (rNeD K) x y (.bl (!b)) := fun S H u w Q e r1 r2 k =>
  ⟨x.py, y.py, r1.dp e hx, r2.dp e hy, sx, sy, by rw [h]; exact k _ S H (Gr.refl e) rep_bl⟩
end

/-! ### calls -/
section
variable {K : PySem.W.Frag}
theorem one_rep {S : Hp} {d : D} {us : List V} (r : RepL S [d] us) : ∃ u, us = [u] ∧ Rep S d u := by
  obtain ⟨v, ws, rfl, h2, h3⟩ := r.cons
  rw [h3.nil]
  exact ⟨v, rfl, h2⟩
theorem two_rep {S : Hp} {d e : D} {us : List V} (r : RepL S [d, e] us) : ∃ u v, us = [u, v] ∧ Rep S d u ∧ Rep S e v := by
  obtain ⟨v, ws, rfl, h2, h3⟩ := r.cons
  obtain ⟨w, rfl, h4⟩ := one_rep h3
  exact ⟨v, w, rfl, h2, h4⟩
theorem cd_tupL {l : List D} : CallD (fun xs H Q => ∃ p ys, xs = [.ref p] ∧ ((SqL K H p ys ∧ ∀ l, H l = none → Q (.ref l) (upd H l (.tup ys))) ∨ (SqT K H p ys ∧ Q (.ref p) H))) [.lst l] (.tup l) := fun S H us Q e r k => by
  obtain ⟨u, rfl, r1⟩ := one_rep r
  obtain ⟨a, vs, rfl, h1, h2⟩ := r1.lst
  exact ⟨a, vs, rfl, Or.inl ⟨SqL.of (e _ _ h1), fun p hp => k _ _ _ (Gr.new e hp) (rep_tup upd_same (h2.mono (Ex.new (none_of_ex e hp))))⟩⟩
theorem cd_listT {l : List D} : CallD (fun xs H Q => ∃ p ys, xs = [.ref p] ∧ (SqL K H p ys ∨ SqT K H p ys) ∧ ∀ l, H l = none → Q (.ref l) (upd H l (.lst ys))) [.tup l] (.lst l) := fun S H us Q e r k => by
  obtain ⟨u, rfl, r1⟩ := one_rep r
  obtain ⟨a, vs, rfl, h1, h2⟩ := r1.tup
  exact ⟨a, vs, rfl, Or.inr (SqT.of (e _ _ h1)), fun p hp => k _ _ _ (Gr.new e hp) (rep_lst upd_same (h2.mono (Ex.new (none_of_ex e hp))))⟩
theorem cd_lenL {l : List D} : CallD (fun xs H Q => ∃ p ys, xs = [.ref p] ∧ (SqL K H p ys ∨ SqT K H p ys) ∧ Q (.int ys.length) H) [.lst l] (.int (l.length : Int)) := fun S H us Q e r k => by
  obtain ⟨u, rfl, r1⟩ := one_rep r
  obtain ⟨a, vs, rfl, h1, h2⟩ := r1.lst
  exact ⟨a, vs, rfl, Or.inl (SqL.of (e _ _ h1)), by rw [← h2.length]; exact k _ S H (Gr.refl e) rep_int⟩
theorem cd_lenT {l : List D} : CallD (fun xs H Q => ∃ p ys, xs = [.ref p] ∧ (SqL K H p ys ∨ SqT K H p ys) ∧ Q (.int ys.length) H) [.tup l] (.int (l.length : Int)) := fun S H us Q e r k => by
  obtain ⟨u, rfl, r1⟩ := one_rep r
  obtain ⟨a, vs, rfl, h1, h2⟩ := r1.tup
  exact ⟨a, vs, rfl, Or.inr (SqT.of (e _ _ h1)), by rw [← h2.length]; exact k _ S H (Gr.refl e) rep_int⟩
theorem cd_all {l : List Bool} : CallD (rAll K) [.lst (l.map D.bl)] (.bl (l.all id)) := fun S H us Q e r k => by
  obtain ⟨u, rfl, r1⟩ := one_rep r
  obtain ⟨a, vs, rfl, h1, h2⟩ := r1.lst
  rw [repL_bls h2] at h1
  exact ⟨a, l, rfl, SqL.of (e _ _ h1), k _ S H (Gr.refl e) rep_bl⟩
theorem cd_any {l : List Bool} : CallD (rAny K) [.lst (l.map D.bl)] (.bl (l.any id)) := fun S H us Q e r k => by
  obtain ⟨u, rfl, r1⟩ := one_rep r
  obtain ⟨a, vs, rfl, h1, h2⟩ := r1.lst
  rw [repL_bls h2] at h1
  exact ⟨a, l, rfl, SqL.of (e _ _ h1), k _ S H (Gr.refl e) rep_bl⟩
theorem cd_sum {l : List Int} : CallD (rSum K) [.lst (l.map D.int)] (.int l.sum) := fun S H us Q e r k => by
  obtain ⟨u, rfl, r1⟩ := one_rep r
  obtain ⟨a, vs, rfl, h1, h2⟩ := r1.lst
  rw [repL_ints h2] at h1
  exact ⟨a, l, rfl, SqL.of (e _ _ h1), k _ S H (Gr.refl e) rep_int⟩
theorem cd_lenA {l : List D} {t : Bool} : CallD (fun xs H Q => ∃ x n, xs = [x] ∧ LenV K x H n ∧ Q (.int n) H) [if t then .tup l else .lst l] (.int (l.length : Int)) := fun S H us Q e r k => by
  obtain ⟨u, rfl, r1⟩ := one_rep r
  cases t with
  | true =>
    obtain ⟨a, vs, rfl, h1, h2⟩ := r1.tup
    exact ⟨.ref a, l.length, rfl, Or.inr ⟨vs, SqT.of (e _ _ h1), h2.length⟩, k _ S H (Gr.refl e) rep_int⟩
  | false =>
    obtain ⟨a, vs, rfl, h1, h2⟩ := r1.lst
    exact ⟨.ref a, l.length, rfl, Or.inl ⟨vs, SqL.of (e _ _ h1), h2.length⟩, k _ S H (Gr.refl e) rep_int⟩
theorem cd_lenS {x : Str} (h : x.length ≤ 100000) : CallD (fun xs H Q => ∃ x n, xs = [x] ∧ LenV K x H n ∧ Q (.int n) H) [.str x] (.int (x.length : Int)) := fun S H us Q e r k => by
  obtain ⟨u, rfl, r1⟩ := one_rep r
  rw [r1.str]
  exact ⟨.str x, x.length, rfl, ⟨Evl.sz_of h, rfl⟩, k _ S H (Gr.refl e) rep_int⟩
theorem cd_max {i j : Int} : CallD (fun xs H Q => ∃ i j, xs = [.int i, .int j] ∧ Q (.int (if j > i then j else i)) H) [.int i, .int j] (.int (if j > i then j else i)) := fun S H us Q e r k => by
  obtain ⟨u, v, rfl, r1, r2⟩ := two_rep r
  exact ⟨i, j, by rw [r1.int, r2.int], k _ S H (Gr.refl e) rep_int⟩
theorem cd_min {i j : Int} : CallD (fun xs H Q => ∃ i j, xs = [.int i, .int j] ∧ Q (.int (if j < i then j else i)) H) [.int i, .int j] (.int (if j < i then j else i)) := fun S H us Q e r k => by
  obtain ⟨u, v, rfl, r1, r2⟩ := two_rep r
  exact ⟨i, j, by rw [r1.int, r2.int], k _ S H (Gr.refl e) rep_int⟩
theorem cd_abs {i : Int} : CallD (fun xs H Q => ∃ i, xs = [.int i] ∧ Q (.int (if i < 0 then -i else i)) H) [.int i] (.int (if i < 0 then -i else i)) := fun S H us Q e r k => by
  obtain ⟨u, rfl, r1⟩ := one_rep r
  exact ⟨i, by rw [r1.int], k _ S H (Gr.refl e) rep_int⟩
theorem cd_intI {i : Int} : CallD (fun xs H Q => (∃ i, xs = [.int i] ∧ Q (.int i) H) ∨ ∃ k, xs = [.bl k] ∧ Q (.int (if k then 1 else 0)) H) [.int i] (.int i) := fun S H us Q e r k => by
  obtain ⟨u, rfl, r1⟩ := one_rep r
  exact Or.inl ⟨i, by rw [r1.int], k _ S H (Gr.refl e) rep_int⟩
theorem cd_repr {i : Int} (h : i.natAbs.log2 < 1920) : CallD (fun xs H Q => ∃ i, xs = [.int i] ∧ i.natAbs.log2 < 1920 ∧ Q (.str (toString i)) H) [.int i] (.str (toString i)) := fun S H us Q e r k => by
  obtain ⟨u, rfl, r1⟩ := one_rep r
  exact ⟨i, by rw [r1.int], h, k _ S H (Gr.refl e) rep_str⟩
/-! the order of texts; sorted -/
def slt (a b : Str) : Prop := a.cps.toList < b.cps.toList
instance (a b : Str) : Decidable (slt a b) := inferInstanceAs (Decidable (a.cps.toList < b.cps.toList))
theorem str_ext {a b : Str} (h : a.cps.toList = b.cps.toList) : a = b := TL.ext_tl h
theorem slt_irrefl {a : Str} : ¬ slt a a := List.lt_irrefl _
theorem slt_trans {a b c : Str} (h : slt a b) (k : slt b c) : slt a c := List.lt_trans h k
theorem slt_anti {a b : Str} (h : ¬ slt a b) (k : ¬ slt b a) : a = b := str_ext (List.le_antisymm k h)
theorem slt_asymm {a b : Str} (h : slt a b) : ¬ slt b a := fun k => slt_irrefl (slt_trans h k)
theorem ltCps_iff : ∀ {a b : List Nat}, ltCps a b = true ↔ a < b
  | [], [] => by simp [ltCps]
  | [], _ :: _ => by simp [ltCps]
  | _ :: _, [] => by simp [ltCps]
  | x :: a, y :: b => by
    unfold ltCps
    rw [List.cons_lt_cons_iff, Bool.or_eq_true, Bool.and_eq_true, ltCps_iff, decide_eq_true_eq, beq_iff_eq]
theorem risingS_iff : ∀ {p : Str} {l : List Str}, risingS p l = true → (p :: l).Pairwise fun a b => ¬ slt b a
  | p, [], _ => by simp
  | p, x :: r, h => by
    unfold risingS at h
    rw [Bool.and_eq_true, Bool.not_eq_true'] at h
    have ih := risingS_iff h.2
    have hx : ¬ slt x p := fun q => by
      have := ltCps_iff.mpr q
      rw [h.1] at this
      cases this
    refine List.pairwise_cons.mpr ⟨fun y hy => ?_, ih⟩
    rcases List.mem_cons.mp hy with q | q
    · rw [q]
      exact hx
    · have h2 := (List.pairwise_cons.mp ih).1 y q
      intro z
      -- y < p, not y < x, not x < p
      have : ¬ slt p x := fun w => h2 (slt_trans z w)
      have e := slt_anti this hx
      rw [e] at z
      exact h2 z
theorem sortedS_iff : ∀ {l : List Str}, sortedS l = true → l.Pairwise fun a b => ¬ slt b a
  | [], _ => List.Pairwise.nil
  | _ :: _, h => risingS_iff h
def sle (a b : Str) : Bool := !decide (slt b a)
def srt (l : List Str) : List Str := l.mergeSort sle
theorem srt_perm (l : List Str) : (srt l).Perm l := List.mergeSort_perm l sle
theorem sle_iff {a b : Str} : sle a b = true ↔ ¬ slt b a := by
  unfold sle
  rw [Bool.not_eq_true', decide_eq_false_iff_not]
theorem srt_pw (l : List Str) : (srt l).Pairwise fun a b => ¬ slt b a := by
  have h := List.pairwise_mergeSort (le := sle) (fun a b c h1 h2 => by
    rw [sle_iff] at h1 h2 ⊢
    intro z
    by_cases q : slt b c
    · exact h1 (slt_trans q z)
    · rw [slt_anti q h2] at h1
      exact h1 z) (fun a b => by
    rw [Bool.or_eq_true, sle_iff, sle_iff]
    by_cases q : slt b a
    · exact Or.inr (slt_asymm q)
    · exact Or.inl q) l
  exact h.imp fun h => sle_iff.mp h
theorem pw_uniq {l m : List Str} (h : l.Perm m) (p : l.Pairwise fun a b => ¬ slt b a) (q : m.Pairwise fun a b => ¬ slt b a) : l = m :=
  List.Perm.eq_of_pairwise (fun a b _ _ h1 h2 => slt_anti h2 h1) p q h
theorem sorted_srt {l ys : List Str} (h : ys.Perm l) (s : sortedS ys = true) : ys = srt l := pw_uniq (h.trans (srt_perm l).symm) (sortedS_iff s) (srt_pw l)
/-- an ascending list is the sorted form of what has its items -/
theorem srt_asc {l m : List Str} (h : l.Perm m) (p : m.Pairwise slt) : srt l = m := pw_uniq ((srt_perm l).trans h) (srt_pw l) (p.imp fun h => slt_asymm h)
theorem cd_sorted {l : List Str} (hl : l.length < 64) : CallD (rSortedS K) [.lst (l.map D.str)] (.lst ((srt l).map D.str)) := fun S H us Q e r k => by
  obtain ⟨u, rfl, r1⟩ := one_rep r
  obtain ⟨a, vs, rfl, h1, h2⟩ := r1.lst
  rw [repL_strs h2] at h1
  refine ⟨a, l, rfl, SqL.of (e _ _ h1), hl, fun ys p hp hs hn => ?_⟩
  rw [sorted_srt hp hs]
  exact k _ _ _ (Gr.new e hn) (rep_lst upd_same repL_of_strs)
/-! isinstance -/
/-- the type of a value, as the built-in isinstance meets it -/
def D.ty : D → String
  | .int _ => "int"
  | .bl _ => "bool"
  | .non => "NoneType"
  | .str _ => "str"
  | .tup _ => "tuple"
  | .lst _ => "list"
  | .obj _ _ _ => ""
  | .val _ => ""
  | .scr _ _ => ""
  | .ext _ _ _ => ""
theorem Rep.tyx {S H : Hp} (e : Ex S H) {d : D} {v : V} (h : (d.ty == "") = false) (r : Rep S d v) : TyX K H v (.type d.ty) := by
  cases d with
  | int i =>
    rw [r.int]
    exact .base (.int i)
  | bl b =>
    rw [r.bl]
    exact .base (.bl b)
  | non =>
    rw [r.non]
    exact .base .non
  | str x =>
    rw [r.str]
    exact .base (.str x)
  | tup l =>
    obtain ⟨a, vs, rfl, h1, h2⟩ := r.tup
    exact .base (.tup (e _ _ h1))
  | lst l =>
    obtain ⟨a, vs, rfl, h1, h2⟩ := r.lst
    exact .base (.lst (e _ _ h1))
  | obj _ _ _ => cases h
  | val _ => cases h
  | scr _ _ => cases h
  | ext _ _ _ => cases h
/-- isinstance(x, T), T built in -/
theorem cd_isi {x : D} {T : String} {b : Bool} (h : (x.ty == "") = false) (hb : kitB x.ty T = some b) : CallD (rIsi K) [x, .val (.ty T)] (.bl b) := fun S H us Q e r k => by
  obtain ⟨u, v, rfl, r1, r2⟩ := two_rep r
  exact ⟨u, .ty T, _, _, b, by rw [r2.val], .ty T, r1.tyx e h, kit_ty hb, k _ S H (Gr.refl e) rep_bl⟩
/-- isinstance(o, C), an instance of the own class -/
theorem cd_isC {C : Addr} {ns : List Str} {l : List D} : CallD (fun xs H Q => ∃ a dx fs, xs = [.ref a, .ref C] ∧ H a = some (.ins C dx fs) ∧ Q (.bl true) H) [.obj C ns l, .val (.ref C)] (.bl true) := fun S H us Q e r k => by
  obtain ⟨u, v, rfl, r1, r2⟩ := two_rep r
  obtain ⟨a, dx, vs, rfl, h1, h2⟩ := r1.obj
  exact ⟨a, dx, _, by rw [r2.val], e _ _ h1, k _ S H (Gr.refl e) rep_bl⟩
/-! methods of texts -/
theorem ty_str {x : Str} : ∀ S v, Rep S (.str x) v → tyV K "str" v S ∧ ∀ H, Ex S H → tyV K "str" v H := fun S v r => by
  rw [r.str]
  exact ⟨rfl, fun _ _ => rfl⟩
theorem ty_list {l : List D} : ∀ S v, Rep S (.lst l) v → tyV K "list" v S ∧ ∀ H, Ex S H → tyV K "list" v H := fun S v r => by
  obtain ⟨a, vs, rfl, h1, h2⟩ := r.lst
  exact ⟨Or.inl ⟨rfl, vs, SqL.of h1⟩, fun H e => Or.inl ⟨rfl, vs, SqL.of (e _ _ h1)⟩⟩
theorem md_joinL {a : Str} {l : List Str} (hz : (l.map (·.length)).sum + l.length * a.length ≤ 16777216) : MtD (fun x xs H Q => ∃ a p, ∃ ys : List Str, x = .str a ∧ xs = [.ref p] ∧ (SqL K H p (ys.map V.str) ∨ SqT K H p (ys.map V.str)) ∧
    (ys.map (·.length)).sum + ys.length * a.length ≤ 16777216 ∧ Q (.str (Txt.join a ys)) H) (.str a) [.lst (l.map D.str)] (.str (Txt.join a l)) := fun S H u us Q e r1 r2 k => by
  obtain ⟨v, rfl, r3⟩ := one_rep r2
  obtain ⟨p, vs, rfl, h1, h2⟩ := r3.lst
  rw [repL_strs h2] at h1
  exact ⟨a, p, l, r1.str, rfl, Or.inl (SqL.of (e _ _ h1)), hz, k _ S H (Gr.refl e) rep_str⟩
theorem md_joinT {a : Str} {l : List Str} (hz : (l.map (·.length)).sum + l.length * a.length ≤ 16777216) : MtD (fun x xs H Q => ∃ a p, ∃ ys : List Str, x = .str a ∧ xs = [.ref p] ∧ (SqL K H p (ys.map V.str) ∨ SqT K H p (ys.map V.str)) ∧
    (ys.map (·.length)).sum + ys.length * a.length ≤ 16777216 ∧ Q (.str (Txt.join a ys)) H) (.str a) [.tup (l.map D.str)] (.str (Txt.join a l)) := fun S H u us Q e r1 r2 k => by
  obtain ⟨v, rfl, r3⟩ := one_rep r2
  obtain ⟨p, vs, rfl, h1, h2⟩ := r3.tup
  rw [repL_strs h2] at h1
  exact ⟨a, p, l, r1.str, rfl, Or.inr (SqT.of (e _ _ h1)), hz, k _ S H (Gr.refl e) rep_str⟩
theorem md_count {a b : Str} : MtD (fun x xs H Q => ∃ a b, x = .str a ∧ xs = [.str b] ∧ Q (.int (Txt.count a b)) H) (.str a) [.str b] (.int (Txt.count a b)) := fun S H u us Q e r1 r2 k => by
  obtain ⟨v, rfl, r3⟩ := one_rep r2
  exact ⟨a, b, r1.str, by rw [r3.str], k _ S H (Gr.refl e) rep_int⟩
end
end Mh
set_option maxRecDepth 100000
set_option maxHeartbeats 2000000
/-! M3: short forms. -/
namespace Mh
open PySem PySem.Spec PyProof.Rows L2
open Evl (Ex)
structure Bi (mg : Str → Option Value) : Prop where
  free : ∀ x ∈ (["tuple", "list", "len", "all", "any", "sum", "sorted", "isinstance", "max", "min", "abs", "int", "str", "repr", "divmod", "set", "zip", "enumerate", "range", "bool", "ValueError", "LookupError", "ArithmeticError", "TypeError"] : List Str), mg x = none
section
variable {X : Cx} {ρ : En} {d x y z : D} {a b c e : Expr} {es : List Expr} {pos p apos : Pos}
theorem v (i : Nat) {x : Str} (hr : ρ[i]? = some (some d) := by rfl) (hN : X.N[i]? = some x := by rfl) (hv : Vis X.env.scope x := by first | exact Or.inl rfl | exact Or.inr (Or.inl rfl) | exact Or.inr (Or.inr rfl)) (hd : (x == ("__debug__" : Str)) = false := by decide) (hcd : (x == ("__classdict__" : Str)) = false := by decide) : Em X (.Name x pos) ρ d := em_var hr hN hv hd hcd
theorem a1 (h : Em X e ρ d) (hs : starEach [e] X.env = (false, eval e X.env) :: starEach [] X.env := by rfl) : Ea X [e] ρ [d] := ea_cons h ea_nil hs
theorem a2 (h : Em X e ρ d) (h2 : Em X a ρ x) (hs : starEach [e, a] X.env = (false, eval e X.env) :: starEach [a] X.env := by rfl) (hs2 : starEach [a] X.env = (false, eval a X.env) :: starEach [] X.env := by rfl) : Ea X [e, a] ρ [d, x] := ea_cons h (a1 h2 hs2) hs
theorem a3 (h : Em X e ρ d) (h2 : Em X a ρ x) (h3 : Em X b ρ y) (hs : starEach [e, a, b] X.env = (false, eval e X.env) :: starEach [a, b] X.env := by rfl) (hs2 : starEach [a, b] X.env = (false, eval a X.env) :: starEach [b] X.env := by rfl) (hs3 : starEach [b] X.env = (false, eval b X.env) :: starEach [] X.env := by rfl) : Ea X [e, a, b] ρ [d, x, y] := ea_cons h (a2 h2 h3 hs2 hs3) hs
section
variable (B : Bi X.mg)
include B
theorem e_tuple {l : List D} (h : Em X e ρ (.lst l)) (hg : Gl X "tuple" := by rfl) (hs : starEach [e] X.env = (false, eval e X.env) :: starEach [] X.env := by rfl) : Em X (.Call (.Name "tuple" p) [e] [] pos) ρ (.tup l) := em_callTy call_tuple_of cd_tupL hg (B.free _ (by decide)) boot_tuple (a1 h hs) (he := hs)
theorem e_list {l : List D} (h : Em X e ρ (.tup l)) (hg : Gl X "list" := by rfl) (hs : starEach [e] X.env = (false, eval e X.env) :: starEach [] X.env := by rfl) : Em X (.Call (.Name "list" p) [e] [] pos) ρ (.lst l) := em_callTy call_list_of cd_listT hg (B.free _ (by decide)) boot_list (a1 h hs) (he := hs)
theorem e_lenL {l : List D} (h : Em X e ρ (.lst l)) (hg : Gl X "len" := by rfl) (hs : starEach [e] X.env = (false, eval e X.env) :: starEach [] X.env := by rfl) : Em X (.Call (.Name "len" p) [e] [] pos) ρ (.int (l.length : Int)) := em_callB call_len (cd_lenA (t := false)) hg (B.free _ (by decide)) PySem.boot_len (a1 h hs) (he := hs)
theorem e_lenT {l : List D} (h : Em X e ρ (.tup l)) (hg : Gl X "len" := by rfl) (hs : starEach [e] X.env = (false, eval e X.env) :: starEach [] X.env := by rfl) : Em X (.Call (.Name "len" p) [e] [] pos) ρ (.int (l.length : Int)) := em_callB call_len (cd_lenA (t := true)) hg (B.free _ (by decide)) PySem.boot_len (a1 h hs) (he := hs)
theorem e_lenS {x : Str} (h : Em X e ρ (.str x)) (hx : x.length ≤ 100000) (hg : Gl X "len" := by rfl) (hs : starEach [e] X.env = (false, eval e X.env) :: starEach [] X.env := by rfl) : Em X (.Call (.Name "len" p) [e] [] pos) ρ (.int (x.length : Int)) := em_callB call_len (cd_lenS hx) hg (B.free _ (by decide)) PySem.boot_len (a1 h hs) (he := hs)
theorem e_all {l : List Bool} (h : Em X e ρ (.lst (l.map D.bl))) (hc : X.calm = true := by rfl) (hg : Gl X "all" := by rfl) (hs : starEach [e] X.env = (false, eval e X.env) :: starEach [] X.env := by rfl) : Em X (.Call (.Name "all" p) [e] [] pos) ρ (.bl (l.all id)) := em_callB (cr_all hc) cd_all hg (B.free _ (by decide)) PyProof.Rows.boot_all (a1 h hs) (he := hs)
theorem e_any {l : List Bool} (h : Em X e ρ (.lst (l.map D.bl))) (hc : X.calm = true := by rfl) (hg : Gl X "any" := by rfl) (hs : starEach [e] X.env = (false, eval e X.env) :: starEach [] X.env := by rfl) : Em X (.Call (.Name "any" p) [e] [] pos) ρ (.bl (l.any id)) := em_callB (cr_any hc) cd_any hg (B.free _ (by decide)) PyProof.Rows.boot_any (a1 h hs) (he := hs)
theorem e_sum {l : List Int} (h : Em X e ρ (.lst (l.map D.int))) (hc : X.calm = true := by rfl) (hg : Gl X "sum" := by rfl) (hs : starEach [e] X.env = (false, eval e X.env) :: starEach [] X.env := by rfl) : Em X (.Call (.Name "sum" p) [e] [] pos) ρ (.int l.sum) := em_callB (cr_sum hc) cd_sum hg (B.free _ (by decide)) PyProof.Rows.boot_sum (a1 h hs) (he := hs)
theorem e_sorted {l : List Str} (h : Em X e ρ (.lst (l.map D.str))) (hl : l.length < 64) (hg : Gl X "sorted" := by rfl) (hs : starEach [e] X.env = (false, eval e X.env) :: starEach [] X.env := by rfl) : Em X (.Call (.Name "sorted" p) [e] [] pos) ρ (.lst ((srt l).map D.str)) := em_callB cr_sortedS (cd_sorted hl) hg (B.free _ (by decide)) PyProof.Rows.boot_sorted (a1 h hs) (he := hs)
theorem e_max {i j : Int} (h : Em X e ρ (.int i)) (h2 : Em X a ρ (.int j)) (hc : X.calm = true := by rfl) (hg : Gl X "max" := by rfl) (hs : starEach [e, a] X.env = (false, eval e X.env) :: starEach [a] X.env := by rfl) (hs2 : starEach [a] X.env = (false, eval a X.env) :: starEach [] X.env := by rfl) (hpl : (backTo pos (starEach [a] X.env)).any (·.1) = false := by rfl) : Em X (.Call (.Name "max" p) [e, a] [] pos) ρ (.int (if j > i then j else i)) := em_callB (call_max2 hc) cd_max hg (B.free _ (by decide)) PyProof.Rows.boot_max (a2 h h2 hs hs2) (he := hs) (hpl := hpl)
theorem e_min {i j : Int} (h : Em X e ρ (.int i)) (h2 : Em X a ρ (.int j)) (hc : X.calm = true := by rfl) (hg : Gl X "min" := by rfl) (hs : starEach [e, a] X.env = (false, eval e X.env) :: starEach [a] X.env := by rfl) (hs2 : starEach [a] X.env = (false, eval a X.env) :: starEach [] X.env := by rfl) (hpl : (backTo pos (starEach [a] X.env)).any (·.1) = false := by rfl) : Em X (.Call (.Name "min" p) [e, a] [] pos) ρ (.int (if j < i then j else i)) := em_callB (call_min2 hc) cd_min hg (B.free _ (by decide)) PyProof.Rows.boot_min (a2 h h2 hs hs2) (he := hs) (hpl := hpl)
theorem e_isi {T : String} {n : Str} {pn : Pos} {q : Bool} (h : Em X e ρ d) (hT : bootBuiltins n = some (.type T)) (hd : (d.ty == "") = false) (hq : kitB d.ty T = some q) (hmm : X.mg n = none) (hg : Gl X "isinstance" := by rfl) (hgn : Gl X n := by rfl) (hnn : n ≠ "__name__" := by decide) (hdb : (n == ("__debug__" : Str)) = false := by decide) (hs : starEach [e, .Name n pn] X.env = (false, eval e X.env) :: starEach [.Name n pn] X.env := by rfl) (hs2 : starEach [.Name n pn] X.env = (false, eval (.Name n pn) X.env) :: starEach [] X.env := by rfl) (hpl : (backTo pos (starEach [.Name n pn] X.env)).any (·.1) = false := by rfl) :
    Em X (.Call (.Name "isinstance" p) [e, .Name n pn] [] pos) ρ (.bl q) :=
  em_callB call_isi (cd_isi hd hq) hg (B.free _ (by decide)) boot_isinstance (a2 h (pe_mono (pe_bltn (v := .ty T) hgn hmm hT rfl hnn hdb) (tC_D fun _ => rep_val)) hs hs2) (he := hs) (hpl := hpl)
end
theorem e_add {i j : Int} (h : Em X a ρ (.int i)) (k : Em X b ρ (.int j)) : Em X (.BinOp a .Add b pos) ρ (.int (i + j)) := em_op op_add od_int h k
theorem e_sub {i j : Int} (h : Em X a ρ (.int i)) (k : Em X b ρ (.int j)) : Em X (.BinOp a .Sub b pos) ρ (.int (i - j)) := em_op op_sub od_int h k
theorem e_land {i j : Int} (h : Em X a ρ (.int i)) (k : Em X b ρ (.int j)) : Em X (.BinOp a .BitAnd b pos) ρ (.int (Builtin.bitAnd i j)) := em_op op_and od_int h k
theorem e_lor {i j : Int} (h : Em X a ρ (.int i)) (k : Em X b ρ (.int j)) : Em X (.BinOp a .BitOr b pos) ρ (.int (Builtin.bitOr i j)) := em_op op_or od_int h k
theorem e_inv {i : Int} (h : Em X a ρ (.int i)) : Em X (.UnaryOp .Invert a pos) ρ (.int (Builtin.bitNot i)) := em_un un_inv ud_int h
theorem e_shl {i : Int} {j : Nat} (h : Em X a ρ (.int i)) (k : Em X b ρ (.int (j : Int))) (hc : CPow i (j : Int)) : Em X (.BinOp a .LShift b pos) ρ (.int (i * 2 ^ j)) := em_is (em_op op_shl (od_intC hc) h k) (by rw [Int.toNat_natCast])
theorem e_shr {i : Int} {j : Nat} (h : Em X a ρ (.int i)) (k : Em X b ρ (.int (j : Int))) : Em X (.BinOp a .RShift b pos) ρ (.int (i / 2 ^ j)) := em_is (em_op op_shr (od_intC (by show (0 : Int) ≤ (j : Int); omega)) h k) (by rw [Int.toNat_natCast])
theorem e_cat {i j : Str} (h : Em X a ρ (.str i)) (k : Em X b ρ (.str j)) (hz : i.length + j.length ≤ 100000) : Em X (.BinOp a .Add b pos) ρ (.str (i ++ j)) := em_op op_add_str (od_cat hz) h k
theorem e_catL {i j : List D} (h : Em X a ρ (.lst i)) (k : Em X b ρ (.lst j)) (hz : i.length + j.length ≤ 100000) : Em X (.BinOp a .Add b pos) ρ (.lst (i ++ j)) := em_op op_cat (od_catL hz) h k
theorem e_catT {i j : List D} (h : Em X a ρ (.tup i)) (k : Em X b ρ (.tup j)) (hz : i.length + j.length ≤ 100000) : Em X (.BinOp a .Add b pos) ρ (.tup (i ++ j)) := em_op op_catA (od_catT hz) h k
theorem e_rep {l : List D} {n : Nat} (h : Em X a ρ (.lst l)) (k : Em X b ρ (.int (n : Int))) (hz : l.length * n ≤ 100000) (hn : n ≤ 100000) : Em X (.BinOp a .Mult b pos) ρ (.lst (List.replicate n l).flatten) := em_op op_rep (od_rep hz hn) h k
theorem e_ixL {l : List D} {j : Nat} (hd : l[j]? = some d) (h : Em X a ρ (.lst l)) (k : Em X b ρ (.int (j : Int))) (hs : PlainIx b := by intro _ _; rfl) : Em X (.Subscript a b pos) ρ d := em_ix ix_list (od_ixL hd) h k hs
theorem e_ixT {l : List D} {j : Nat} (hd : l[j]? = some d) (h : Em X a ρ (.tup l)) (k : Em X b ρ (.int (j : Int))) (hs : PlainIx b := by intro _ _; rfl) : Em X (.Subscript a b pos) ρ d := em_ix ix_tup (od_ixT hd) h k hs
theorem e_ixS {z : Str} {j c : Nat} (hz : z.length ≤ 100000) (hd : z.cps.toList[j]? = some c) (h : Em X a ρ (.str z)) (k : Em X b ρ (.int (j : Int))) (hs : PlainIx b := by intro _ _; rfl) : Em X (.Subscript a b pos) ρ (.str ⟨#[c]⟩) := em_ix ix_str (od_ixS hz hd) h k hs
theorem e_join {s : Str} {l : List Str} {cpos : Pos} (ho : Em X a ρ (.str s)) (h : Em X e ρ (.lst (l.map D.str))) (hz : (l.map (·.length)).sum + l.length * s.length ≤ 16777216) (hbase : attributeBase a "join" X.env (eval a X.env) = eval a X.env := by rfl)
    (hfew : ((backTo cpos (starEach [e] X.env)).all (fun x => !x.1) && (backToKw cpos (keywordEach [] X.env)).all (fun x => x.1.isSome) && decide ([e].length + ([] : List Keyword).length + (if ([] : List Keyword).isEmpty then 0 else 1) < 30)) = true := by rfl)
    (hline : (apos.endLine == cpos.line) = true := by rfl) (hs : starEach [e] X.env = (false, eval e X.env) :: starEach [] X.env := by rfl) (hplain : (backTo cpos (starEach [] X.env)).any (·.1) = false := by rfl) : Em X (.Call (.Attribute a "join" apos) [e] [] cpos) ρ (.str (Txt.join s l)) :=
  em_bm ty_str PySem.F.plainAttrs_str PySem.F.slot_str_join PySem.F.type_str_join mt_join (md_joinL hz) ho (a1 h hs) hbase hfew hline hs hplain
theorem e_joinT {s : Str} {l : List Str} {cpos : Pos} (ho : Em X a ρ (.str s)) (h : Em X e ρ (.tup (l.map D.str))) (hz : (l.map (·.length)).sum + l.length * s.length ≤ 16777216) (hbase : attributeBase a "join" X.env (eval a X.env) = eval a X.env := by rfl)
    (hfew : ((backTo cpos (starEach [e] X.env)).all (fun x => !x.1) && (backToKw cpos (keywordEach [] X.env)).all (fun x => x.1.isSome) && decide ([e].length + ([] : List Keyword).length + (if ([] : List Keyword).isEmpty then 0 else 1) < 30)) = true := by rfl)
    (hline : (apos.endLine == cpos.line) = true := by rfl) (hs : starEach [e] X.env = (false, eval e X.env) :: starEach [] X.env := by rfl) (hplain : (backTo cpos (starEach [] X.env)).any (·.1) = false := by rfl) : Em X (.Call (.Attribute a "join" apos) [e] [] cpos) ρ (.str (Txt.join s l)) :=
  em_bm ty_str PySem.F.plainAttrs_str PySem.F.slot_str_join PySem.F.type_str_join mt_join (md_joinT hz) ho (a1 h hs) hbase hfew hline hs hplain
theorem e_count {s t : Str} {cpos : Pos} (ho : Em X a ρ (.str s)) (h : Em X e ρ (.str t)) (hbase : attributeBase a "count" X.env (eval a X.env) = eval a X.env := by rfl)
    (hfew : ((backTo cpos (starEach [e] X.env)).all (fun x => !x.1) && (backToKw cpos (keywordEach [] X.env)).all (fun x => x.1.isSome) && decide ([e].length + ([] : List Keyword).length + (if ([] : List Keyword).isEmpty then 0 else 1) < 30)) = true := by rfl)
    (hline : (apos.endLine == cpos.line) = true := by rfl) (hs : starEach [e] X.env = (false, eval e X.env) :: starEach [] X.env := by rfl) (hplain : (backTo cpos (starEach [] X.env)).any (·.1) = false := by rfl) : Em X (.Call (.Attribute a "count" apos) [e] [] cpos) ρ (.int (Txt.count s t)) :=
  em_bm ty_str PySem.F.plainAttrs_str PySem.F.slot_str_count PySem.F.type_str_count mt_count md_count ho (a1 h hs) hbase hfew hline hs hplain
/-- comparisons: as values (c_), as tests (t_) -/
theorem c_eqS {i j : Str} (h : Em X a ρ (.str i)) (k : Em X b ρ (.str j)) : Em X (.Compare a [.Eq] [b] pos) ρ (.bl (decide (i = j))) := em_cmp op_eq od_eqS h k (nomark _)
theorem t_eqS {i j : Str} (h : Em X a ρ (.str i)) (k : Em X b ρ (.str j)) : Et X (.Compare a [.Eq] [b] pos) ρ (decide (i = j)) := et_cmp op_eq od_eqS h k (nomark _)
theorem c_neS {i j : Str} (h : Em X a ρ (.str i)) (k : Em X b ρ (.str j)) : Em X (.Compare a [.NotEq] [b] pos) ρ (.bl (!decide (i = j))) := em_cmp op_ne od_neS h k (nomark _)
theorem t_neS {i j : Str} (h : Em X a ρ (.str i)) (k : Em X b ρ (.str j)) : Et X (.Compare a [.NotEq] [b] pos) ρ (!decide (i = j)) := et_cmp op_ne od_neS h k (nomark _)
theorem c_eqI {i j : Int} (h : Em X a ρ (.int i)) (k : Em X b ρ (.int j)) : Em X (.Compare a [.Eq] [b] pos) ρ (.bl (decide (i = j))) := em_cmp op_eq od_eqI h k (nomark _)
theorem t_eqI {i j : Int} (h : Em X a ρ (.int i)) (k : Em X b ρ (.int j)) : Et X (.Compare a [.Eq] [b] pos) ρ (decide (i = j)) := et_cmp op_eq od_eqI h k (nomark _)
theorem c_eqB {i j : Bool} (h : Em X a ρ (.bl i)) (k : Em X b ρ (.bl j)) : Em X (.Compare a [.Eq] [b] pos) ρ (.bl (decide (i = j))) := em_cmp op_eq od_eqB h k (nomark _)
theorem c_neI {i j : Int} (h : Em X a ρ (.int i)) (k : Em X b ρ (.int j)) : Em X (.Compare a [.NotEq] [b] pos) ρ (.bl (!decide (i = j))) := em_cmp op_ne od_neI h k (nomark _)
theorem t_neI {i j : Int} (h : Em X a ρ (.int i)) (k : Em X b ρ (.int j)) : Et X (.Compare a [.NotEq] [b] pos) ρ (!decide (i = j)) := et_cmp op_ne od_neI h k (nomark _)
theorem c_lt {i j : Int} (h : Em X a ρ (.int i)) (k : Em X b ρ (.int j)) : Em X (.Compare a [.Lt] [b] pos) ρ (.bl (decide (i < j))) := em_cmp op_lt od_bl h k (nomark _)
theorem t_lt {i j : Int} (h : Em X a ρ (.int i)) (k : Em X b ρ (.int j)) : Et X (.Compare a [.Lt] [b] pos) ρ (decide (i < j)) := et_cmp op_lt od_bl h k (nomark _)
theorem t_gt {i j : Int} (h : Em X a ρ (.int i)) (k : Em X b ρ (.int j)) : Et X (.Compare a [.Gt] [b] pos) ρ (decide (j < i)) := et_cmp op_gt od_bl h k (nomark _)
theorem c_gt {i j : Int} (h : Em X a ρ (.int i)) (k : Em X b ρ (.int j)) : Em X (.Compare a [.Gt] [b] pos) ρ (.bl (decide (j < i))) := em_cmp op_gt od_bl h k (nomark _)
theorem t_ge {i j : Int} (h : Em X a ρ (.int i)) (k : Em X b ρ (.int j)) : Et X (.Compare a [.GtE] [b] pos) ρ (decide (j ≤ i)) := et_cmp op_ge od_bl h k (nomark _)
theorem c_le {i j : Int} (h : Em X a ρ (.int i)) (k : Em X b ρ (.int j)) : Em X (.Compare a [.LtE] [b] pos) ρ (.bl (decide (i ≤ j))) := em_cmp op_le od_bl h k (nomark _)
theorem t_le {i j : Int} (h : Em X a ρ (.int i)) (k : Em X b ρ (.int j)) : Et X (.Compare a [.LtE] [b] pos) ρ (decide (i ≤ j)) := et_cmp op_le od_bl h k (nomark _)
theorem t_leS {i j : Str} (h : Em X a ρ (.str i)) (k : Em X b ρ (.str j)) : Et X (.Compare a [.LtE] [b] pos) ρ (!decide (slt j i)) := et_cmp op_le_str od_leS h k (nomark _)
theorem t_isN {j : Nat} {p2 : Pos} (h : Em X a ρ x) : Et X (.Compare a [.Is] [.Constant .none j p2] pos) ρ (isNo x) := et_cmp op_isN od_isN h em_non (nomark _)
theorem c_inT {i : Str} {l : List Str} (h : Em X a ρ (.str i)) (k : Em X b ρ (.tup (l.map D.str))) (hm : behindInMarks .In b = false := by with_unfolding_all rfl) : Em X (.Compare a [.In] [b] pos) ρ (.bl (decide (i ∈ l))) := em_cmp op_in_seq od_inT h k hm
theorem t_inT {i : Str} {l : List Str} (h : Em X a ρ (.str i)) (k : Em X b ρ (.tup (l.map D.str))) (hm : behindInMarks .In b = false := by with_unfolding_all rfl) : Et X (.Compare a [.In] [b] pos) ρ (decide (i ∈ l)) := et_cmp op_in_seq od_inT h k hm
theorem c_inL {i : Str} {l : List Str} (h : Em X a ρ (.str i)) (k : Em X b ρ (.lst (l.map D.str))) (hm : behindInMarks .In b = false := by with_unfolding_all rfl) : Em X (.Compare a [.In] [b] pos) ρ (.bl (decide (i ∈ l))) := em_cmp op_in_seq od_inL h k hm
theorem t_inL {i : Str} {l : List Str} (h : Em X a ρ (.str i)) (k : Em X b ρ (.lst (l.map D.str))) (hm : behindInMarks .In b = false := by with_unfolding_all rfl) : Et X (.Compare a [.In] [b] pos) ρ (decide (i ∈ l)) := et_cmp op_in_seq od_inL h k hm
theorem t_notInT {i : Str} {l : List Str} (h : Em X a ρ (.str i)) (k : Em X b ρ (.tup (l.map D.str))) (hm : behindInMarks .NotIn b = false := by with_unfolding_all rfl) : Et X (.Compare a [.NotIn] [b] pos) ρ (!decide (i ∈ l)) := et_cmp op_notIn_seq od_notInT h k hm
theorem t_notInL {i : Str} {l : List Str} (h : Em X a ρ (.str i)) (k : Em X b ρ (.lst (l.map D.str))) (hm : behindInMarks .NotIn b = false := by with_unfolding_all rfl) : Et X (.Compare a [.NotIn] [b] pos) ρ (!decide (i ∈ l)) := et_cmp op_notIn_seq od_notInL h k hm
theorem c_sign {c : Nat} {z : Str} (h : Em X a ρ (.str ⟨#[c]⟩)) (k : Em X b ρ (.str z)) (hm : behindInMarks .In b = false := by with_unfolding_all rfl) : Em X (.Compare a [.In] [b] pos) ρ (.bl (decide (c ∈ z.cps.toList))) := em_cmp op_in_sign od_sign h k hm
theorem c_eqD {q : Bool} (hu : X.A.units + 64 < cLine) (h : Em X a ρ x) (k : Em X b ρ y) (hx : x.plain = true) (hy : y.plain = true) (sx : SeqAt.shaped x.py = true) (sy : SeqAt.shaped y.py = true) (hq : PyData.eqv x.py y.py = q) : Em X (.Compare a [.Eq] [b] pos) ρ (.bl q) := em_cmp (op_eqD hu) (od_eqD hx hy sx sy hq) h k (nomark _)
theorem t_eqD {q : Bool} (hu : X.A.units + 64 < cLine) (h : Em X a ρ x) (k : Em X b ρ y) (hx : x.plain = true) (hy : y.plain = true) (sx : SeqAt.shaped x.py = true) (sy : SeqAt.shaped y.py = true) (hq : PyData.eqv x.py y.py = q) : Et X (.Compare a [.Eq] [b] pos) ρ q := et_cmp (op_eqD hu) (od_eqD hx hy sx sy hq) h k (nomark _)
theorem c_neD {q : Bool} (hu : X.A.units + 64 < cLine) (h : Em X a ρ x) (k : Em X b ρ y) (hx : x.plain = true) (hy : y.plain = true) (sx : SeqAt.shaped x.py = true) (sy : SeqAt.shaped y.py = true) (hq : PyData.eqv x.py y.py = q) : Em X (.Compare a [.NotEq] [b] pos) ρ (.bl (!q)) := em_cmp (op_neD hu) (od_neD hx hy sx sy hq) h k (nomark _)
theorem t_neD {q : Bool} (hu : X.A.units + 64 < cLine) (h : Em X a ρ x) (k : Em X b ρ y) (hx : x.plain = true) (hy : y.plain = true) (sx : SeqAt.shaped x.py = true) (sy : SeqAt.shaped y.py = true) (hq : PyData.eqv x.py y.py = q) : Et X (.Compare a [.NotEq] [b] pos) ρ (!q) := et_cmp (op_neD hu) (od_neD hx hy sx sy hq) h k (nomark _)
end
section
variable {X : Cx} {ρ : En} {α : Type}
theorem mkLc {elt tg iter : Expr} {ifs : List Expr} {scope : Scope} (own : List (Str × Nat)) (b : Bd) {xs : List α} {φ : α → D} (p : α → Bool) (ψ : α → D) (nd : X.N.Nodup) (it : Ei X tg iter ρ (xs.map φ)) (len : xs.length ≤ 100000)
    (tgt : ∀ (s : Shared) (H : Hp) (C : Addr) (cl : List (Str × Addr)) (fp : List Addr), PG (X.blk s H scope (compEnvC scope cl C X.env) fp) tg (b.tg X.K)) (blk : BlkOk X.N X.env.scope scope own)
    (turn : ∀ x ∈ xs, ∃ ρ', bindE b (wipeE ρ (own.map (·.2))) (φ x) = some ρ' ∧ ∀ (s : Shared) (H : Hp) (C : Addr) (cl : List (Str × Addr)) (fp : List Addr), Ets (X.blk s H scope (compEnvC scope cl C X.env) fp) ifs ρ' (p x) ∧ (p x = true → Em (X.blk s H scope (compEnvC scope cl C X.env) fp) elt ρ' (ψ x)))
    (sl : (b.slots.all fun i => decide (i ∈ own.map (·.2))) = true := by rfl) (calm : X.calm = true := by rfl) (fs : ∀ x, foldedSetIterable iter X.env x = pure x := by intro _; rfl) : Lc X elt tg iter ifs scope own b ρ xs φ p ψ :=
  ⟨calm, nd, it, blk, len, fun i hi => of_decide_eq_true (List.all_eq_true.mp sl i hi), tgt, turn, fs⟩
end
end Mh
set_option maxRecDepth 100000
set_option maxHeartbeats 2000000
/-! M4: more short forms. -/
namespace Mh
open PySem PySem.Spec PyProof.Rows L2
open Evl (Ex)
section
variable {X : Cx} {ρ : En} {d x y z : D} {a b c e : Expr} {es : List Expr} {pos p apos : Pos} {α : Type}
theorem pn (i : Nat) (nd : X.N.Nodup) {x : Str} (hi : X.N[i]? = some x := by rfl) (hx : Loc X.env.scope x := by first | exact .inl rfl | exact .inr rfl) (hf : X.fn x = true ∨ X.env.scope.names.lookup x = some .local := by first | exact .inl rfl | exact .inr rfl) : PG X (.Name x pos) ((Bd.one i).tg X.K) := pg_name nd hi hx hf
theorem pn2 (i j : Nat) (nd : X.N.Nodup) {x y : Str} {k : Nat} {p1 p2 : Pos} (hc : X.calm = true := by rfl) (hi : X.N[i]? = some x := by rfl) (hj : X.N[j]? = some y := by rfl) (hx : Loc X.env.scope x := by first | exact .inl rfl | exact .inr rfl) (hy : Loc X.env.scope y := by first | exact .inl rfl | exact .inr rfl)
    (hf : X.fn x = true ∨ X.env.scope.names.lookup x = some .local := by first | exact .inl rfl | exact .inr rfl) (hg : X.fn y = true ∨ X.env.scope.names.lookup y = some .local := by first | exact .inl rfl | exact .inr rfl)
    (hn : (assignEach [.Name x p1, .Name y p2] X.env).length = 2 := by rfl) (hst : (assignEach [.Name x p1, .Name y p2] X.env).findIdx? (·.1) = none := by rfl)
    (hs : (assignEach [.Name x p1, .Name y p2] X.env).map (·.2) = assign (.Name x p1) X.env :: (assignEach [.Name y p2] X.env).map (·.2) := by rfl) (hs2 : (assignEach [.Name y p2] X.env).map (·.2) = assign (.Name y p2) X.env :: (assignEach [] X.env).map (·.2) := by rfl) : PG X (.Tuple [.Name x p1, .Name y p2] k pos) ((Bd.two i j).tg X.K) :=
  pg_tup hc (pgs_cons (pg_name nd hi hx hf) (pgs_cons (pg_name nd hj hy hg) pgs_nil hs2) hs) hn hst
/-- name = e -/
theorem st_ (i : Nat) (nd : X.N.Nodup) {x : Str} {pos' : Pos} (he : Em X e ρ d) (hi : X.N[i]? = some x := by rfl) (hx : Loc X.env.scope x := by first | exact .inl rfl | exact .inr rfl) (hs : swapsWith e (some (.Name x pos')) pos.line X.env = pure false := by rfl) (hf : X.fn x = true ∨ X.env.scope.names.lookup x = some .local := by first | exact .inl rfl | exact .inr rfl) :
    Es X (.Assign [.Name x pos'] e pos) ρ (.nx (ρ.set i (some d))) := es_set nd hi hx he hs hf
/-- [.. for x in ..] -/
theorem lc1 {elt iter : Expr} {x : Str} {px : Pos} {ifs : List Expr} {scope : Scope} (own : List (Str × Nat)) (i : Nat) {xs : List α} {φ : α → D} (p : α → Bool) (ψ : α → D) (nd : X.N.Nodup) (it : Ei X (.Name x px) iter ρ (xs.map φ)) (len : xs.length ≤ 100000)
    (tgt : ∀ (s : Shared) (H : Hp) (C : Addr) (cl : List (Str × Addr)) (fp : List Addr), PG (X.blk s H scope (compEnvC scope cl C X.env) fp) (.Name x px) ((Bd.one i).tg X.K)) (blk : BlkOk X.N X.env.scope scope own)
    (turn : ∀ x ∈ xs, ∀ (s : Shared) (H : Hp) (C : Addr) (cl : List (Str × Addr)) (fp : List Addr), Ets (X.blk s H scope (compEnvC scope cl C X.env) fp) ifs ((wipeE ρ (own.map (·.2))).set i (some (φ x))) (p x) ∧ (p x = true → Em (X.blk s H scope (compEnvC scope cl C X.env) fp) elt ((wipeE ρ (own.map (·.2))).set i (some (φ x))) (ψ x)))
    (sl : (([i] : List Nat).all fun i => decide (i ∈ own.map (·.2))) = true := by rfl) (calm : X.calm = true := by rfl) (fs : ∀ x, foldedSetIterable iter X.env x = pure x := by intro _; rfl) : Lc X elt (.Name x px) iter ifs scope own (.one i) ρ xs φ p ψ :=
  mkLc own (.one i) p ψ nd it len tgt blk (fun x hx => ⟨_, rfl, turn x hx⟩) sl calm fs
/-- [.. for x, y in ..] -/
theorem lc2 {elt tg iter : Expr} {ifs : List Expr} {scope : Scope} (own : List (Str × Nat)) (i j : Nat) {xs : List α} {φ1 φ2 : α → D} (p : α → Bool) (ψ : α → D) (nd : X.N.Nodup) (it : Ei X tg iter ρ (xs.map fun x => D.tup [φ1 x, φ2 x])) (len : xs.length ≤ 100000)
    (tgt : ∀ (s : Shared) (H : Hp) (C : Addr) (cl : List (Str × Addr)) (fp : List Addr), PG (X.blk s H scope (compEnvC scope cl C X.env) fp) tg ((Bd.two i j).tg X.K)) (blk : BlkOk X.N X.env.scope scope own)
    (turn : ∀ x ∈ xs, ∀ (s : Shared) (H : Hp) (C : Addr) (cl : List (Str × Addr)) (fp : List Addr), Ets (X.blk s H scope (compEnvC scope cl C X.env) fp) ifs (((wipeE ρ (own.map (·.2))).set i (some (φ1 x))).set j (some (φ2 x))) (p x) ∧ (p x = true → Em (X.blk s H scope (compEnvC scope cl C X.env) fp) elt (((wipeE ρ (own.map (·.2))).set i (some (φ1 x))).set j (some (φ2 x))) (ψ x)))
    (sl : (([i, j] : List Nat).all fun i => decide (i ∈ own.map (·.2))) = true := by rfl) (calm : X.calm = true := by rfl) (fs : ∀ x, foldedSetIterable iter X.env x = pure x := by intro _; rfl) : Lc X elt tg iter ifs scope own (.two i j) ρ xs (fun x => D.tup [φ1 x, φ2 x]) p ψ :=
  mkLc own (.two i j) p ψ nd it len tgt blk (fun x hx => ⟨_, rfl, turn x hx⟩) sl calm fs
theorem filter_yes (xs : List α) : xs.filter (fun _ => true) = xs := List.filter_eq_self.mpr fun _ _ => rfl
/-- no test: every item gives -/
theorem e_map {elt tg iter : Expr} {ifs : List Expr} {scope : Scope} {own : List (Str × Nat)} {bd : Bd} {xs : List α} {φ ψ : α → D} (L : Lc X elt tg iter ifs scope own bd ρ xs φ (fun _ => true) ψ) : Em X (.ListComp elt [⟨tg, iter, ifs, 0⟩] scope pos) ρ (.lst (xs.map ψ)) :=
  em_is (em_lc L) (by rw [filter_yes])
/-- .. of bools, ints, texts -/
theorem e_mapB {elt tg iter : Expr} {ifs : List Expr} {scope : Scope} {own : List (Str × Nat)} {bd : Bd} {xs : List α} {φ : α → D} {f : α → Bool} (L : Lc X elt tg iter ifs scope own bd ρ xs φ (fun _ => true) (fun x => .bl (f x))) : Em X (.ListComp elt [⟨tg, iter, ifs, 0⟩] scope pos) ρ (.lst ((xs.map f).map D.bl)) :=
  em_is (e_map L) (by rw [List.map_map] <;> rfl)
theorem e_mapS {elt tg iter : Expr} {ifs : List Expr} {scope : Scope} {own : List (Str × Nat)} {bd : Bd} {xs : List α} {φ : α → D} {f : α → Str} (L : Lc X elt tg iter ifs scope own bd ρ xs φ (fun _ => true) (fun x => .str (f x))) : Em X (.ListComp elt [⟨tg, iter, ifs, 0⟩] scope pos) ρ (.lst ((xs.map f).map D.str)) :=
  em_is (e_map L) (by rw [List.map_map] <;> rfl)
theorem e_lcI {elt tg iter : Expr} {ifs : List Expr} {scope : Scope} {own : List (Str × Nat)} {bd : Bd} {xs : List α} {φ : α → D} {p : α → Bool} {f : α → Int} (L : Lc X elt tg iter ifs scope own bd ρ xs φ p (fun x => .int (f x))) : Em X (.ListComp elt [⟨tg, iter, ifs, 0⟩] scope pos) ρ (.lst (((xs.filter p).map f).map D.int)) :=
  em_is (em_lc L) (by rw [List.map_map] <;> rfl)
theorem e_lcS {elt tg iter : Expr} {ifs : List Expr} {scope : Scope} {own : List (Str × Nat)} {bd : Bd} {xs : List α} {φ : α → D} {p : α → Bool} {f : α → Str} (L : Lc X elt tg iter ifs scope own bd ρ xs φ p (fun x => .str (f x))) : Em X (.ListComp elt [⟨tg, iter, ifs, 0⟩] scope pos) ρ (.lst (((xs.filter p).map f).map D.str)) :=
  em_is (em_lc L) (by rw [List.map_map] <;> rfl)
/-- a text walked -/
theorem ei_str {tg : Expr} {z : Str} (he : Em X e ρ (.str z)) : Ei X tg e ρ (z.cps.toList.map fun c => D.str ⟨#[c]⟩) :=
  pi_mono (pi_str he) fun _ _ R ⟨S, e, rE, k⟩ => ⟨S, e, rE, fun u S1 H1 g1 r1 => ⟨z, r1.str, k _ S1 H1 g1 (isIt_of_walk (walk_str (z := z)) (by simp) (fun _ _ _ _ => trivial) fun i S' H x H' d hi e1 e2 y hd => by
    obtain ⟨rfl, c, hc, rfl⟩ := y
    have hc' : z.cps.toList[i]? = some c := by rw [Array.getElem?_toList]; exact hc
    rw [List.getElem?_map, hc'] at hd
    have e : D.str ⟨#[c]⟩ = d := Option.some.inj hd
    rw [← e]
    exact ⟨S', Gr.refl e2, rep_str⟩)⟩⟩
/-- 1 <= e <= 8 -/
theorem e_range {op op' : CmpOp} {i j k : Int} {p q : Bool} (ho : OpR X (compareOp .LtE) (rI0 fun i j => .bl (decide (i ≤ j)))) (ha : Em X a ρ (.int i)) (hb : Em X b ρ (.int j)) (hc : Em X c ρ (.int k)) (hm : lastMarks [.LtE, .LtE] [b, c] = false := by with_unfolding_all rfl) : Em X (.Compare a [.LtE, .LtE] [b, c] pos) ρ (.bl (decide (i ≤ j) && decide (j ≤ k))) :=
  em_chain op_le op_le od_bl (fun _ => od_bl) ha hb (fun _ => hc) hm
theorem et_chain (ha : Em X a ρ x) (h : Em X (.Compare a [.LtE, .LtE] [b, c] pos) ρ (.bl q)) (hx : ∀ whole, isTrue (.Compare a [.LtE, .LtE] [b, c] pos) X.env whole = (do let v ← whole; standAt pos; holding [v] (truthy v))) : Et X (.Compare a [.LtE, .LtE] [b, c] pos) ρ q := et_val h hx
/-- a test of <= twice -/
theorem t_range {i j k : Int} (ha : Em X a ρ (.int i)) (hb : Em X b ρ (.int j)) (hc : Em X c ρ (.int k)) (hm : lastMarks [.LtE, .LtE] [b, c] = false := by with_unfolding_all rfl) : Et X (.Compare a [.LtE, .LtE] [b, c] pos) ρ (decide (i ≤ j) && decide (j ≤ k)) := by
  by_cases q : i ≤ j
  · rw [decide_eq_true q, Bool.true_and]
    refine pt_mono (pt_chain op_le op_le ha hb hc hm) fun _ _ Q ⟨S, e, rE, k'⟩ => ⟨S, e, rE, fun u S1 H1 g1 r1 => ⟨S1, g1.sh, rE.mono g1.ss, fun w S2 H2 g2 r2 => ⟨i, j, r1.int, r2.int, true, congrArg V.bl (decide_eq_true q), ?_⟩⟩⟩
    show tD ρ (.int k) _ H2 _
    exact ⟨S2, g2.sh, rE.mono (g1.trans g2).ss, fun t S3 H3 g3 r3 => ⟨j, k, r2.int, r3.int, decide (j ≤ k), rfl, k' S3 H3 (g1.trans (g2.trans g3))⟩⟩
  · rw [decide_eq_false q, Bool.false_and]
    refine pt_mono (pt_chain op_le op_le ha hb pe_never hm) fun _ _ Q ⟨S, e, rE, k'⟩ => ⟨S, e, rE, fun u S1 H1 g1 r1 => ⟨S1, g1.sh, rE.mono g1.ss, fun w S2 H2 g2 r2 => ⟨i, j, r1.int, r2.int, false, congrArg V.bl (decide_eq_false q), ?_⟩⟩⟩
    exact ⟨false, rfl, k' S2 H2 (g1.trans g2)⟩
/-- never gone into: a raise -/
theorem ess_never {sts : List Stmt} {o : O} (h : False) : Ess X sts ρ o := h.elim
/-- an if whose suite is not gone into, no else -/
theorem es_skip {c : Expr} {body : List Stmt} (hc : Et X c ρ false) : Es X (.If c body [] pos) ρ (.nx ρ) := es_if hc (fun h => nomatch h) fun _ => ess_nil
theorem es_expr (he : Em X e ρ d) (hs : swapsWith e none pos.line X.env = pure false := by rfl) : Es X (.Expr e pos) ρ (.nx ρ) := ps_mono (ps_expr he hs) fun Dn _ _ ⟨S, e, rE, k⟩ => ⟨S, e, rE, fun v S' H' g r => k _ S' H' g (rE.mono g.ss)⟩
end
end Mh
set_option maxRecDepth 100000
set_option maxHeartbeats 2000000
/-! M5: defs without a return; __init__, makers. -/
namespace Mh
open PySem PySem.Spec PyProof.Rows L2
open Evl (Ex)
section
variable {P : Program} {w : World} {K : PySem.W.Frag} {mg : Str → Option Value} {base : Heap}
/-- a def that falls off its end -/
theorem fnN {x qual : Str} {params : Arguments} {body : List Stmt} {scope : Scope} {dvs : List V} {kws : List (Str × V)} {f : Addr} {fd : FuncData} {N ps : List Str} {k : Nat} {R : List D → D → Prop} (F : FunD K x qual params body scope dvs kws f fd) (S : FnScope N ps scope) (len : ∀ ds d, R ds d → ds.length = ps.length) (non : ∀ ds d, R ds d → d = .non)
    (hbody : ∀ (cdv : Value) (A : Around) (outer : List Env) (s : Shared) (H : Hp) (E : XK), Room k (A.deeper (envOfC qual scope s.heap.objs.size f cdv)) → ∀ ds d, R ds d →
      ∃ ρ', Ess (cxOf C8.CX0 P w K mg base N qual scope f cdv A outer s H E).nox body (ds.map some ++ List.replicate (N.length - ds.length) none) (.nx ρ')) : FnOk P w K mg base C8.CX0 (k + 1) f fd ps (spD R) := by
  refine F.ok S (fun vs H Q E ⟨S', ds, d, _, r, h, _⟩ => by rw [← r.length]; exact len ds d h) fun cdv A outer s H vs Q E hr ⟨S', ds, d, e, r, h, q⟩ => ?_
  obtain ⟨ρ', hb⟩ := hbody cdv A outer s H E hr ds d h
  have hd := non ds d h
  subst hd
  exact ⟨tsD (ds.map some ++ List.replicate (N.length - ds.length) none) (.nx ρ'), PSs.nox hb, S', e, repE_start r, fun σ' S2 H2 g _ => q .non S2 H2 g rep_non⟩
end
/-! ### __init__ -/
/-- growth but for the thing at x, which is being made -/
structure Gx (x : Addr) (S H S' H' : Hp) : Prop where
  ss : Ex S S'
  sh : Ex S' H'
  hh : ∀ a o, a ≠ x → H a = some o → H' a = some o
  fr : ∀ a o, S a = none → H a = some o → NT o → S' a = none
theorem Gr.toGx {x : Addr} {S H S' H' : Hp} (g : Gr S H S' H') : Gx x S H S' H' := ⟨g.ss, g.sh, fun a o _ h => g.hh a o h, g.fr⟩
theorem Gx.trans {x : Addr} {S H S1 H1 S2 H2 : Hp} (a : Gx x S H S1 H1) (b : Gx x S1 H1 S2 H2) (hx : S x = none → S1 x = none → S2 x = none) (hsx : S x = none) (h1 : S1 x = none) : Gx x S H S2 H2 :=
  ⟨a.ss.trans b.ss, b.sh, fun c o hc h => b.hh c o hc (a.hh c o hc h), fun c o h h' n => by
    by_cases q : c = x
    · rw [q]
      exact hx hsx h1
    · exact b.fr c o (a.fr c o h h' n) (a.hh c o q h') n⟩
/-- what an __init__ leaves: the instance with these attributes -/
def spI (C : Addr) (ns : List Str) (R : List D → Prop) : Sp := fun vs H Q _ => ∃ S x dx ds us, vs = .ref x :: us ∧ Ex S H ∧ RepL S ds us ∧ R ds ∧ S x = none ∧ H x = some (.ins C dx []) ∧
  ∀ S' H' ws, Gx x S H S' H' → S' x = none → RepL S' ds ws → H' x = some (.ins C dx (ns.zip ws)) → Q .non H'
def tI (X : Cx) (ρ : En) (C x : Addr) (done : List Str) (dsD : List D) (ns : List Str) (ds : List D) : TS := fun Dn σ H => ∃ S dx vs, Ex S H ∧ RepE S ρ σ ∧ RepL S dsD vs ∧ S x = none ∧ H x = some (.ins C dx (done.zip vs)) ∧ done.length = vs.length ∧ done.length < 100 ∧
  ∀ σ' S' H' ws, Gx x S H S' H' → S' x = none → RepL S' (dsD ++ ds) ws → H' x = some (.ins C dx ((done ++ ns).zip ws)) → Dn.nx σ' H'
section
variable {X : Cx} {ρ ρ1 : En} {C x : Addr} {done ns : List Str} {dsD ds : List D} {st : Stmt} {rest : List Stmt} {d : D} {e o : Expr} {f : Str} {pos pos' : Pos}
theorem putF_new : ∀ {ns : List Str} {vs : List V} {f : Str} {v : V}, f ∉ ns → ns.length = vs.length → putF f v (ns.zip vs) = (ns ++ [f]).zip (vs ++ [v])
  | [], [], f, v, _, _ => rfl
  | n :: ns, u :: vs, f, v, h, hl => by
    have h1 : n ≠ f := fun q => h (by rw [q]; exact List.mem_cons_self ..)
    have h2 : f ∉ ns := fun q => h (List.mem_cons_of_mem _ q)
    show (if n = f then (n, v) :: ns.zip vs else (n, u) :: putF f v (ns.zip vs)) = _
    rw [if_neg h1, putF_new h2 (by simpa using hl)] <;> rfl
theorem ini_nil : PSs X [] (tI X ρ C x done dsD [] []) := pss_mono pss_nil fun Dn σ H ⟨S, dx, vs, e, rE, r, hx, hH, _, _, k⟩ => k σ S H vs (Gr.refl e).toGx hx (by rw [List.append_nil]; exact r) (by rw [List.append_nil]; exact hH)
theorem ini_pre (h : Es X st ρ (.nx ρ1)) (hr : PSs X rest (tI X ρ1 C x done dsD ns ds)) : PSs X (st :: rest) (tI X ρ C x done dsD ns ds) :=
  pss_mono (pss_cons h hr) fun Dn σ H ⟨S, dx, vs, e, rE, r, hx, hH, hl, hl2, k⟩ => ⟨S, e, rE, fun σ' S' H' g rE' => ⟨S', dx, vs, g.sh, rE', r.mono g.ss, g.fr x _ hx hH (fun _ z => nomatch z), g.hh x _ hH, hl, hl2, fun σ2 S2 H2 ws g2 hx2 r2 h2 => k σ2 S2 H2 ws (g.toGx.trans g2 (fun _ _ => hx2) hx (g.fr x _ hx hH (fun _ z => nomatch z))) hx2 r2 h2⟩⟩
theorem ini_fld (c : Cls X.K C) (n : NoAttr X.K C f) (hf : f ∉ done) (hlen : done.length + 1 < 100) (ho : Em X o ρ (.val (.ref x))) (he : Em X e ρ d) (hr : PSs X rest (tI X ρ C x (done ++ [f]) (dsD ++ [d]) ns ds)) (hs : swapsWith e (some (.Attribute o f pos')) pos.line X.env = pure false := by rfl) :
    PSs X (.Assign [.Attribute o f pos'] e pos :: rest) (tI X ρ C x done dsD (f :: ns) (d :: ds)) :=
  pss_mono (pss_cons (ps_fld ho he hs) hr) fun Dn σ H ⟨S, dx, vs, e, rE, r, hx, hH, hl, hl2, k⟩ => ⟨S, e, rE, fun u S1 H1 g1 r1 => ⟨S1, g1.sh, rE.mono g1.ss, fun w S2 H2 g2 r2 => by
    have g := g1.trans g2
    have hx2 : S2 x = none := g.fr x _ hx hH (fun _ z => nomatch z)
    have hw := r2.val
    refine ⟨x, C, dx, _, hw, g.hh x _ hH, c, n, ?_, ?_⟩
    · rw [List.length_zip]
      omega
    · show tI X ρ C x (done ++ [f]) (dsD ++ [d]) ns ds Dn σ _
      have hsh : Ex S2 (upd H2 x (.ins C dx (putF f u (done.zip vs)))) := fun a o ha => by
        have q : a ≠ x := fun q => by
          rw [q, hx2] at ha
          cases ha
        rw [upd_ne q]
        exact g.sh a o ha
      refine ⟨S2, dx, vs ++ [u], hsh, rE.mono g.ss, (r.mono g.ss).append (repL_cons (r1.mono g2.ss) repL_nil), hx2, ?_, by simp [hl], by simp; omega, fun σ' S' H' ws g3 hx3 r3 h3 => ?_⟩
      · rw [upd_same, putF_new hf hl]
      · refine k σ' S' H' ws ?_ hx3 ?_ ?_
        · refine ⟨g.ss.trans g3.ss, g3.sh, fun a o q ha => ?_, fun a o ha hb n => ?_⟩
          · exact g3.hh a o q (by rw [upd_ne q]; exact g.hh a o ha)
          · by_cases q : a = x
            · rw [q]
              exact hx3
            · exact g3.fr a o (g.fr a o ha hb n) (by rw [upd_ne q]; exact g.hh a o hb) n
        · rw [List.append_assoc] at r3
          exact r3
        · rw [List.append_assoc] at h3
          exact h3⟩⟩
end
section
variable {P : Program} {w : World} {K : PySem.W.Frag} {mg : Str → Option Value} {base : Heap}
theorem fnI {qual : Str} {C : Addr} {ns : List Str} {params : Arguments} {body : List Stmt} {scope : Scope} {dvs : List V} {kws : List (Str × V)} {f : Addr} {fd : FuncData} {N ps : List Str} {k : Nat} {R : List D → Prop} (F : FunD K "__init__" qual params body scope dvs kws f fd) (S : FnScope N ps scope) (len : ∀ ds, R ds → ds.length + 1 = ps.length)
    (hbody : ∀ (cdv : Value) (A : Around) (outer : List Env) (s : Shared) (H : Hp) (E : XK), Room k (A.deeper (envOfC qual scope s.heap.objs.size f cdv)) → ∀ x ds, R ds →
      PSs (cxOf C8.CX0 P w K mg base N qual scope f cdv A outer s H E).nox body (tI (cxOf C8.CX0 P w K mg base N qual scope f cdv A outer s H E).nox (some (.val (.ref x)) :: (ds.map some ++ List.replicate (N.length - (ds.length + 1)) none)) C x [] [] ns ds)) : FnOk P w K mg base C8.CX0 (k + 1) f fd ps (spI C ns R) := by
  refine F.ok S (fun vs H Q E ⟨S', x, dx, ds, us, e1, _, r, h, _⟩ => by rw [e1, ← len ds h, r.length] <;> rfl) fun cdv A outer s H vs Q E hr ⟨S', x, dx, ds, us, e1, e, r, h, hx, hH, q⟩ => ?_
  subst e1
  refine ⟨_, PSs.nox (hbody cdv A outer s H E hr x ds h), S', dx, [], e, ?_, repL_nil, hx, hH, rfl, by decide, fun σ' S2 H2 ws g hx2 r2 h2 => q S2 H2 ws g hx2 r2 h2⟩
  exact repE_start (N := N) (ds := .val (.ref x) :: ds) (vs := .ref x :: us) (repL_cons rep_val r)
end
section
variable {X : Cx} {ρ : En} {k j : Nat} {C : Addr} {x : Str} {ns : List Str} {R : List D → Prop} {ds : List D} {e : Expr} {es : List Expr} {p pos : Pos}
/-- C(e, ..) -/
theorem em_mk (c : C8.Mak X.prog X.w X.K X.mg X.base k x C (spI C ns R) []) (hr : Room j X.A) (hk : k + 1 ≤ j) (hg : Gl X x) (h : R ds) (ha : Ea X (e :: es) ρ ds)
    (hdb : (x == ("__debug__" : Str)) = false := by decide) (he : starEach (e :: es) X.env = (false, eval e X.env) :: starEach es X.env := by rfl) (hpl : (backTo pos (starEach es X.env)).any (·.1) = false := by rfl) : Em X (.Call (.Name x p) (e :: es) [] pos) ρ (.obj C ns ds) :=
  pe_mono (C8.pe_mk c hr hk hg ha hdb he hpl) fun _ _ Q ⟨S, e, rE, k⟩ => ⟨S, e, rE, fun vs S1 H1 g1 r1 x dx hx hdx hne => by
    have hS : S1 x = none := none_of_ex g1.sh hx
    have hex : Ex H1 (upd (upd H1 dx (.own x)) x (.ins C dx [])) := fun a o ha => by
      rw [upd_ne (ne_of_none ha hx), upd_ne (ne_of_none ha hdx)]
      exact ha
    refine ⟨S1, x, dx, ds, _, by rw [List.append_nil], g1.sh.trans hex, r1, h, hS, upd_same, fun S2 H2 ws g2 hx2 r2 h2 => ⟨rfl, ?_⟩⟩
    have hdxS : S2 dx = none := g2.fr dx (.own x) (none_of_ex g1.sh hdx) (by rw [upd_ne hne, upd_same]) (fun _ z => nomatch z)
    have hdx2 : H2 dx = some (.own x) := g2.hh dx _ hne (by rw [upd_ne hne, upd_same])
    have hh : Ex H1 H2 := fun a o ha => g2.hh a o (ne_of_none ha hx) (hex a o ha)
    have hgr : Gr S1 H1 S2 H2 := ⟨g2.ss, g2.sh, hh, fun a o ha hb n => g2.fr a o ha (hex a o hb) n⟩
    have hfin := hgr.fix hx hx2 h2
    exact k (.ref x) _ H2 (g1.trans hfin) (rep_obj (dx := dx) upd_same (r2.mono (Ex.new hx2)))⟩
end
end Mh
set_option maxRecDepth 100000
set_option maxHeartbeats 2000000
/-! M6: a list that is being filled (owned): it stands outside the fixed part. -/
namespace PySem
namespace MhX

open PySem.Spec PyProof.Rows
set_option maxRecDepth 8000 in
theorem ext_tup (l : Addr) (items : Array Value) (n : Nat) (b : Addr) (dd : Option Addr) (items2 : Array Value) (n2 : Nat) (sl : Array (Option Value)) (hs0 : ¬(!items.isEmpty && Builtin.List.listTooLong (items.size + items2.size)) = true) (hs1 : items.size ≤ sizeLine) (hs2 : items.size + items2.size ≤ sizeLine + 1) :
    Meets (Builtin.«list.extend» ⟨[.ref l, .ref b], []⟩) (fun _ R s => s.heap.get? l = some { cls := .type "list", dict := none, data := .seq items n, slots := #[] } ∧ s.heap.get? b = some { cls := .type "tuple", dict := dd, data := .seq items2 n2, slots := sl } ∧ R (.ok (.ret Value.none)) { s with heap := s.heap.update l (Obj.mapSeq fun x => x ++ items2), toks := s.toks }) :=
  .of_wp fun prog w A R s h => by
    obtain ⟨hp, g, d, tk, os⟩ := s; obtain ⟨hl, hb, h⟩ := h; have f1 := AutoSeq1.idx_int; have f2 := AutoSeq1.sub_tuple_tuple; have f3 := AutoSeq1.sub_list_list; have f4 := AutoSeq1.sub_tuple_list; have f5 := AutoSeq1.sub_list_tuple;
    have hz' : (items ++ items2).size ≤ sizeLine + 1 := by rw [Array.size_append]; exact hs2
    wp_walk using (wpAny_updateSeq hl rfl (hz := hs1) (_hz' := hz')), AutoSeq1.wpAny_loadPart' hl, AutoSeq1.wpAny_loadPart' hb; exact ⟨_, rfl, h⟩
end MhX
end PySem
namespace Mh
open PySem PySem.Spec PyProof.Rows L2
open Evl (Ex)
def rExtT : V → List V → Hp → VK → Prop := fun x vs H Q => ∃ l b xs zs, x = .ref l ∧ vs = [.ref b] ∧ H l = some (.lst xs) ∧ H b = some (.tup zs) ∧ xs.length + zs.length ≤ sizeLine ∧ Q .non (upd H l (.lst (xs ++ zs)))
theorem mt_extT {X : Cx} : MtR X "list.extend" rExtT := by
  intro pins s σ H x vs v us Q I rx rv h
  obtain ⟨l, b, xs, zs, rfl, rfl, hH, hB, hz, q⟩ := h
  cases rx
  obtain ⟨u, rfl, ru⟩ := rv.one
  cases ru
  obtain ⟨z, its, n, r, hl, e⟩ := I.lstM hH
  obtain ⟨its2, r2, ⟨⟨oc, od, dt, sl⟩, e2, hc, n2, hd⟩, hz2⟩ := I.tuple (SqT.of hB)
  simp only at hc hd
  subst hc hd
  have hl2 := r2.length
  have hsz : its.toArray.size + its2.toArray.size ≤ sizeLine := by rw [List.size_toArray, List.size_toArray]; omega
  have hlong : ¬ (!its.toArray.isEmpty && Builtin.List.listTooLong (its.toArray.size + its2.toArray.size)) = true := by
    rw [notLongL hsz, Bool.and_false]
    exact Bool.false_ne_true
  refine call_meets PySem.F.slot_list_extend ⟨_, e, rfl⟩ PySem.F.entry_list_extend (PySem.F.args_list_extend_2 _ _)
    (PySem.MhX.ext_tup l its.toArray n b od its2.toArray n2 sl hlong (by rw [List.size_toArray]; omega) (by omega)) ⟨e, e2, ?_⟩
  refine ⟨.non, _, I.lset (its' := its ++ its2) hH e (by simp) (r.append r2) ?_, rfl, q⟩
  rw [List.length_append]
  omega
/-- growth but for the list at l -/
structure Gl (l : Addr) (S H S' H' : Hp) : Prop where
  ss : Ex S S'
  sh : Ex S' H'
  hh : ∀ a o, a ≠ l → H a = some o → H' a = some o
  fr : ∀ a o, a ≠ l → S a = none → H a = some o → NT o → S' a = none
theorem Gr.toGl {l : Addr} {S H S' H' : Hp} (g : Gr S H S' H') : Gl l S H S' H' := ⟨g.ss, g.sh, fun a o _ h => g.hh a o h, fun a o _ h => g.fr a o h⟩
theorem Gl.trans {l : Addr} {S H S1 H1 S2 H2 : Hp} (a : Gl l S H S1 H1) (b : Gl l S1 H1 S2 H2) : Gl l S H S2 H2 :=
  ⟨a.ss.trans b.ss, b.sh, fun c o hc h => b.hh c o hc (a.hh c o hc h), fun c o hc h h' n => b.fr c o hc (a.fr c o hc h h' n) (a.hh c o hc h') n⟩
theorem Gl.write {l : Addr} {S H : Hp} {o : HO} (e : Ex S H) (h : S l = none) : Gl l S H S (upd H l o) :=
  ⟨Ex.refl S, fun a u ha => by
    have q : a ≠ l := fun z => by
      rw [z, h] at ha
      cases ha
    rw [upd_ne q]
    exact e a u ha, fun a u q ha => by
    rw [upd_ne q]
    exact ha, fun a u q h1 h2 _ => h1⟩
/-- .. which was not there ahead -/
theorem Gl.toGr {l : Addr} {S H S' H' : Hp} {o : HO} (g : Gl l S (upd H l o) S' H') (h : H l = none) : Gr S H S' H' :=
  ⟨g.ss, g.sh, fun a u ha => g.hh a u (ne_of_none ha h) (by rw [upd_ne (ne_of_none ha h)]; exact ha), fun a u h1 h2 n => g.fr a u (ne_of_none h2 h) h1 (by rw [upd_ne (ne_of_none h2 h)]; exact h2) n⟩
inductive OO | nx (ρ : En) (ds : List D) | rt (d : D) | rtc (d : D) (ds : List D)
def KO (l : Addr) : OO → Hp → Hp → Ends → Prop
  | .nx ρ' ds', S, H, Dn => ∀ σ' S' H' vs', Gl l S H S' H' → RepE S' ρ' σ' → S' l = none → H' l = some (.lst vs') → RepL S' ds' vs' → Dn.nx σ' H'
  | .rt d, S, H, Dn => ∀ v S' H', Gl l S H S' H' → Rep S' d v → Dn.rt v H'
  | .rtc d ds', S, H, Dn => ∀ v S' H' vs', Gl l S H S' H' → Rep S' d v → S' l = none → H' l = some (.lst vs') → RepL S' ds' vs' → Dn.rt v H'
theorem KO.step {l : Addr} {o : OO} {S H S' H' : Hp} {Dn : Ends} (k : KO l o S H Dn) (g : Gl l S H S' H') : KO l o S' H' Dn := by
  cases o with
  | nx ρ ds => exact fun σ' S2 H2 vs' g2 r h1 h2 h3 => k σ' S2 H2 vs' (g.trans g2) r h1 h2 h3
  | rt d => exact fun v S2 H2 g2 r => k v S2 H2 (g.trans g2) r
  | rtc d ds => exact fun v S2 H2 vs' g2 r h1 h2 h3 => k v S2 H2 vs' (g.trans g2) r h1 h2 h3
def tsO (l : Addr) (ρ : En) (ds : List D) (o : OO) : TS := fun Dn σ H => ∃ S vs, Ex S H ∧ RepE S ρ σ ∧ S l = none ∧ H l = some (.lst vs) ∧ RepL S ds vs ∧ KO l o S H Dn
abbrev Os (X : Cx) (st : Stmt) (l : Addr) (ρ : En) (ds : List D) (o : OO) : Prop := PS X st (tsO l ρ ds o)
abbrev Oss (X : Cx) (sts : List Stmt) (l : Addr) (ρ : En) (ds : List D) (o : OO) : Prop := PSs X sts (tsO l ρ ds o)
section
variable {X : Cx} {l : Addr} {ρ ρ1 : En} {ds ds1 ms : List D} {o : OO} {st : Stmt} {rest : List Stmt} {d : D} {e a : Expr} {pos : Pos}
theorem oss_nil : Oss X [] l ρ ds (.nx ρ ds) := pss_mono pss_nil fun Dn σ H ⟨S, vs, e, rE, h1, h2, r, k⟩ => k σ S H vs (Gr.refl e).toGl rE h1 h2 r
theorem oss_nx (h1 : Os X st l ρ ds (.nx ρ1 ds1)) (h2 : Oss X rest l ρ1 ds1 o) : Oss X (st :: rest) l ρ ds o :=
  pss_mono (pss_cons h1 h2) fun Dn σ H ⟨S, vs, e, rE, h1, h2, r, k⟩ => ⟨S, vs, e, rE, h1, h2, r, fun σ' S' H' vs' g rE' h1' h2' r' => ⟨S', vs', g.sh, rE', h1', h2', r', k.step g⟩⟩
theorem oss_rt (h1 : Os X st l ρ ds (.rt d)) : Oss X (st :: rest) l ρ ds (.rt d) :=
  pss_mono (pss_cons h1 pss_never) fun Dn σ H ⟨S, vs, e, rE, h1, h2, r, k⟩ => ⟨S, vs, e, rE, h1, h2, r, k⟩
def OThn (X : Cx) (rest : List Stmt) (l : Addr) (o : OO) : OO → Prop
  | .nx ρ1 ds1 => Oss X rest l ρ1 ds1 o
  | .rt d => o = .rt d
  | .rtc d ds => o = .rtc d ds
theorem oss_rtc (h1 : Os X st l ρ ds (.rtc d ds1)) : Oss X (st :: rest) l ρ ds (.rtc d ds1) :=
  pss_mono (pss_cons h1 pss_never) fun Dn σ H ⟨S, vs, e, rE, h1, h2, r, k⟩ => ⟨S, vs, e, rE, h1, h2, r, k⟩
theorem oss_thn {o1 : OO} (h1 : Os X st l ρ ds o1) (h2 : OThn X rest l o o1) : Oss X (st :: rest) l ρ ds o := by
  cases o1 with
  | nx ρ1 ds1 => exact oss_nx h1 h2
  | rt d =>
    have e : o = .rt d := h2
    subst e
    exact oss_rt h1
  | rtc d ds =>
    have e : o = .rtc d ds := h2
    subst e
    exact oss_rtc h1
theorem oss_one (h : Os X st l ρ ds o) : Oss X [st] l ρ ds o := pss_one h
theorem oss_to {ρ' : En} {sts : List Stmt} (h : Oss X sts l ρ ds (.nx ρ1 ds1)) (le : Le ρ1 ρ') : Oss X sts l ρ ds (.nx ρ' ds1) := pss_mono h fun _ _ _ ⟨S, vs, e, rE, h1, h2, r, k⟩ => ⟨S, vs, e, rE, h1, h2, r, fun σ' S' H' vs' g rE' => k σ' S' H' vs' g (rE'.le le)⟩
/-- a statement that leaves the list as it is -/
theorem os_pre (h : Es X st ρ (.nx ρ1)) : Os X st l ρ ds (.nx ρ1 ds) := ps_mono h fun Dn σ H ⟨S, vs, e, rE, h1, h2, r, k⟩ => ⟨S, e, rE, fun σ' S' H' g rE' => k σ' S' H' vs g.toGl rE' (g.fr l _ h1 h2 ntl) (g.hh l _ h2) (r.mono g.ss)⟩
theorem os_ret (h : Em X e ρ d) : Os X (.Return (some e) pos) l ρ ds (.rt d) := ps_mono (es_ret h) fun Dn σ H ⟨S, vs, e, rE, h1, h2, r, k⟩ => ⟨S, e, rE, fun v S' H' g r' => k v S' H' g.toGl r'⟩
/-- from here on the list is fixed -/
theorem os_fix {i : Nat} {o : O} (hi : ρ[i]? = some (some (.val (.ref l)))) (h : Es X st (ρ.set i (some (.lst ds))) (.rt d)) : Os X st l ρ ds (.rt d) := ps_mono h fun Dn σ H ⟨S, vs, e, rE, h1, h2, r, k⟩ => by
  obtain ⟨e1, e2⟩ := Ex.fix e h1 h2
  have hl : i < ρ.length := (List.getElem?_eq_some_iff.mp hi).1
  obtain ⟨v, hv, rv⟩ := rE.at_ i _ hi
  refine ⟨upd S l (.lst vs), e2, ?_, fun v S' H' g r' => k v S' H' ⟨e1.trans g.ss, g.sh, fun a o _ ha => g.hh a o ha, fun a o q ha hb => g.fr a o (by rw [upd_ne q]; exact ha) hb⟩ r'⟩
  refine ⟨by rw [List.length_set]; exact rE.len, fun j d' q => ?_⟩
  by_cases hij : i = j
  · subst hij
    rw [List.getElem?_set, if_pos rfl, if_pos hl] at q
    cases q
    exact ⟨v, hv, by rw [rv.val]; exact rep_lst upd_same (r.mono e1)⟩
  · rw [List.getElem?_set_ne hij] at q
    obtain ⟨u, h3, h4⟩ := rE.at_ j d' q
    exact ⟨u, h3, h4.mono e1⟩
/-- a list made -/
theorem ess_own {i : Nat} {x : Str} {p p2 : Pos} (nd : X.N.Nodup) (h : ∀ l, Oss X rest l (ρ.set i (some (.val (.ref l)))) [] (.rt d)) (hi : X.N[i]? = some x := by rfl) (hx : Loc X.env.scope x := by first | exact .inl rfl | exact .inr rfl) (hs : swapsWith (.List [] p2) (some (.Name x p)) pos.line X.env = pure false := by rfl) (hf : X.fn x = true ∨ X.env.scope.names.lookup x = some .local := by first | exact .inl rfl | exact .inr rfl) :
    Ess X (.Assign [.Name x p] (.List [] p2) pos :: rest) ρ (.rt d) := by
  have hR : PSs X rest (fun Dn σ H => ∃ l : Addr, True ∧ tsO l (ρ.set i (some (.val (.ref l)))) [] (.rt d) Dn σ H) := pss_some (P := fun _ => True) fun l _ => h l
  refine pss_mono (pss_cons (ps_set nd hi hx (pe_lst pa_nil) hs hf) hR) fun Dn σ H ⟨S, e, rE, k⟩ => ⟨Nat.zero_le _, fun l hl => ⟨l, trivial, S, [], ?_, rE.set rep_val, none_of_ex e hl, upd_same, repL_nil, fun v S' H' g r => k v S' H' (g.toGr hl) r⟩⟩
  exact ((Gr.refl e).mut hl (none_of_ex e hl)).sh
/-- xs.append(e), xs.extend(a tuple) -/
theorem os_app {cpos apos : Pos} (ho : Em X a ρ (.val (.ref l))) (he : Em X e ρ d) (hz : ds.length < 100000) (hbase : attributeBase a "append" X.env (eval a X.env) = eval a X.env := by rfl)
    (hfew : ((backTo cpos (starEach [e] X.env)).all (fun x => !x.1) && (backToKw cpos (keywordEach [] X.env)).all (fun x => x.1.isSome) && decide ([e].length + ([] : List Keyword).length + (if ([] : List Keyword).isEmpty then 0 else 1) < 30)) = true := by rfl)
    (hline : (apos.endLine == cpos.line) = true := by rfl) (hs : starEach [e] X.env = (false, eval e X.env) :: starEach [] X.env := by rfl) (hplain : (backTo cpos (starEach [] X.env)).any (·.1) = false := by rfl) (hsw : swapsWith (.Call (.Attribute a "append" apos) [e] [] cpos) none pos.line X.env = pure false := by rfl) :
    Os X (.Expr (.Call (.Attribute a "append" apos) [e] [] cpos) pos) l ρ ds (.nx ρ (ds ++ [d])) :=
  ps_mono (ps_expr (pe_bm PySem.F.plainAttrs_list PySem.F.slot_list_append PySem.F.type_list_append mt_append ho (a1 he hs) hbase hfew hline hs hplain) hsw) fun Dn σ H ⟨S, vs, e, rE, h1, h2, r, k⟩ => ⟨S, e, rE, fun u S1 H1 g1 r1 => by
    rw [r1.val]
    have q1 := g1.fr l _ h1 h2 ntl
    have q2 := g1.hh l _ h2
    refine ⟨Or.inl ⟨rfl, vs, SqL.of q2⟩, S1, g1.sh, rE.mono g1.ss, fun ws S2 H2 g2 r2 => ?_⟩
    obtain ⟨w, rfl, r3⟩ := one_rep r2
    have p1 := g2.fr l _ q1 q2 ntl
    have p2 := g2.hh l _ q2
    have g := g1.trans g2
    exact ⟨l, vs, w, rfl, rfl, p2, Evl.sz_lt (by rw [← r.length]; exact hz), k σ S2 _ _ (g.toGl.trans (Gl.write g2.sh p1)) (rE.mono g.ss) p1 upd_same ((r.mono g.ss).append (repL_cons r3 repL_nil))⟩⟩
theorem os_ext {cpos apos : Pos} (ho : Em X a ρ (.val (.ref l))) (he : Em X e ρ (.tup ms)) (hz : ds.length + ms.length ≤ 100000) (hbase : attributeBase a "extend" X.env (eval a X.env) = eval a X.env := by rfl)
    (hfew : ((backTo cpos (starEach [e] X.env)).all (fun x => !x.1) && (backToKw cpos (keywordEach [] X.env)).all (fun x => x.1.isSome) && decide ([e].length + ([] : List Keyword).length + (if ([] : List Keyword).isEmpty then 0 else 1) < 30)) = true := by rfl)
    (hline : (apos.endLine == cpos.line) = true := by rfl) (hs : starEach [e] X.env = (false, eval e X.env) :: starEach [] X.env := by rfl) (hplain : (backTo cpos (starEach [] X.env)).any (·.1) = false := by rfl) (hsw : swapsWith (.Call (.Attribute a "extend" apos) [e] [] cpos) none pos.line X.env = pure false := by rfl) :
    Os X (.Expr (.Call (.Attribute a "extend" apos) [e] [] cpos) pos) l ρ ds (.nx ρ (ds ++ ms)) :=
  ps_mono (ps_expr (pe_bm PySem.F.plainAttrs_list PySem.F.slot_list_extend PySem.F.type_list_extend mt_extT ho (a1 he hs) hbase hfew hline hs hplain) hsw) fun Dn σ H ⟨S, vs, e, rE, h1, h2, r, k⟩ => ⟨S, e, rE, fun u S1 H1 g1 r1 => by
    rw [r1.val]
    have q1 := g1.fr l _ h1 h2 ntl
    have q2 := g1.hh l _ h2
    refine ⟨Or.inl ⟨rfl, vs, SqL.of q2⟩, S1, g1.sh, rE.mono g1.ss, fun ws S2 H2 g2 r2 => ?_⟩
    obtain ⟨w, rfl, r3⟩ := one_rep r2
    obtain ⟨b, zs, rfl, h3, h4⟩ := r3.tup
    have p1 := g2.fr l _ q1 q2 ntl
    have p2 := g2.hh l _ q2
    have g := g1.trans g2
    exact ⟨l, b, vs, zs, rfl, rfl, p2, g2.sh _ _ h3, Evl.sz_of (by rw [← r.length, ← h4.length]; exact hz), k σ S2 _ _ (g.toGl.trans (Gl.write g2.sh p1)) (rE.mono g.ss) p1 upd_same ((r.mono g.ss).append h4)⟩⟩
/-- an if -/
theorem os_if {c : Expr} {a b : List Stmt} {q : Bool} (hc : Et X c ρ q) (ha : q = true → Oss X a l ρ ds o) (hb : q = false → Oss X b l ρ ds o) : Os X (.If c a b pos) l ρ ds o := by
  cases q with
  | true => exact ps_mono (ps_if hc (ha rfl) pss_never) fun Dn _ _ ⟨S, vs, e, rE, h1, h2, r, k⟩ => ⟨S, e, rE, fun S1 H1 g => (show tsO l ρ ds o Dn _ H1 from ⟨S1, vs, g.sh, rE.mono g.ss, g.fr l _ h1 h2 ntl, g.hh l _ h2, r.mono g.ss, k.step g.toGl⟩)⟩
  | false => exact ps_mono (ps_if hc pss_never (hb rfl)) fun Dn _ _ ⟨S, vs, e, rE, h1, h2, r, k⟩ => ⟨S, e, rE, fun S1 H1 g => (show tsO l ρ ds o Dn _ H1 from ⟨S1, vs, g.sh, rE.mono g.ss, g.fr l _ h1 h2 ntl, g.hh l _ h2, r.mono g.ss, k.step g.toGl⟩)⟩
/-- a while, its state by α: what a turn does -/
theorem os_while {α : Type} {c : Expr} {body : List Stmt} (eT : α → En) (dT : α → List D) (tT : α → Bool) (μ : α → Nat) (oT : α → OO) (hp : PassesOwn (model X.prog X.w) X.A X.env X.xe) (G : α → Prop) (hc : ∀ s, G s → Et X c (eT s) (tT s)) (hstop : ∀ s, G s → tT s = false → oT s = .nx (eT s) (dT s))
    (hb : ∀ s, G s → tT s = true → (∃ s', G s' ∧ μ s' < μ s ∧ oT s = oT s' ∧ Oss X body l (eT s) (dT s) (.nx (eT s') (dT s'))) ∨ (∃ d, oT s = .rt d ∧ Oss X body l (eT s) (dT s) (.rt d))) (s : α) (hG : G s) :
    Os X (.While c body [] pos) l (eT s) (dT s) (oT s) := by
  have hC : PT X c (fun σ H Q => ∃ s, G s ∧ ttD (eT s) (tT s) σ H Q) := pt_some (P := G) hc
  have hB : PSs X body (fun Dn σ H => ∃ q : α × OO, (G q.1 ∧ ((∃ s', G s' ∧ μ s' < μ q.1 ∧ oT q.1 = oT s' ∧ q.2 = .nx (eT s') (dT s')) ∨ ∃ d, oT q.1 = .rt d ∧ q.2 = .rt d) ∧ Oss X body l (eT q.1) (dT q.1) q.2) ∧ tsO l (eT q.1) (dT q.1) q.2 Dn σ H) :=
    pss_some fun q hq => hq.2.2
  refine ps_mono (ps_while hp hC hB) fun Dn σ H h => ?_
  refine ⟨fun m σ' H' => ∃ s', G s' ∧ μ s' = m ∧ tsO l (eT s') (dT s') (oT s') Dn σ' H', ⟨_, s, hG, rfl, h⟩, ?_⟩
  rintro m σ' H' ⟨s', hG', rfl, S, vs, e, rE, h1, h2, r, k⟩
  refine ⟨s', hG', S, e, rE, fun S1 H1 g => ?_⟩
  have now : ∀ o, KO l o S1 H1 Dn → tsO l (eT s') (dT s') o Dn σ' H1 := fun o k' => ⟨S1, vs, g.sh, rE.mono g.ss, g.fr l _ h1 h2 ntl, g.hh l _ h2, r.mono g.ss, k'⟩
  cases ht : tT s' with
  | true =>
    show ∃ N : St → Hp → Prop, _
    rcases hb s' hG' ht with ⟨s2, hG2, hμ, ho, hbody⟩ | ⟨d, ho, hbody⟩
    · refine ⟨fun σ2 H2 => ∃ s2, G s2 ∧ μ s2 < μ s' ∧ tsO l (eT s2) (dT s2) (oT s2) Dn σ2 H2, fun σ2 H2 ⟨s2, hg, hm, ht⟩ => ⟨_, hm, s2, hg, rfl, ht⟩, (s', .nx (eT s2) (dT s2)), ⟨hG', Or.inl ⟨s2, hG2, hμ, ho, rfl⟩, hbody⟩, ?_⟩
      refine ⟨S1, vs, g.sh, rE.mono g.ss, g.fr l _ h1 h2 ntl, g.hh l _ h2, r.mono g.ss, fun σ2 S2 H2 vs2 g2 rE2 p1 p2 r2 => ⟨s2, hG2, hμ, S2, vs2, g2.sh, rE2, p1, p2, r2, ?_⟩⟩
      rw [ho] at k
      exact (k.step g.toGl).step g2
    · refine ⟨fun _ _ => False, fun _ _ z => z.elim, (s', .rt d), ⟨hG', Or.inr ⟨d, ho, rfl⟩, hbody⟩, ?_⟩
      rw [ho] at k
      exact ⟨S1, vs, g.sh, rE.mono g.ss, g.fr l _ h1 h2 ntl, g.hh l _ h2, r.mono g.ss, k.step g.toGl⟩
  | false =>
    show Dn.nx σ' H1
    have ho := hstop s' hG' ht
    rw [ho] at k
    exact k σ' S1 H1 vs g.toGl (rE.mono g.ss) (g.fr l _ h1 h2 ntl) (g.hh l _ h2) (r.mono g.ss)
/-- .. the body told once -/
theorem os_while2 {α : Type} {c : Expr} {body : List Stmt} (eT : α → En) (dT : α → List D) (tT : α → Bool) (μ : α → Nat) (oT bT : α → OO) (G : α → Prop) (hp : PassesOwn (model X.prog X.w) X.A X.env X.xe) (hc : ∀ s, G s → Et X c (eT s) (tT s)) (hstop : ∀ s, G s → tT s = false → oT s = .nx (eT s) (dT s))
    (hb : ∀ s, G s → tT s = true → Oss X body l (eT s) (dT s) (bT s)) (hn : ∀ s, G s → tT s = true → (∃ s', G s' ∧ μ s' < μ s ∧ oT s = oT s' ∧ bT s = .nx (eT s') (dT s')) ∨ ∃ d, oT s = .rt d ∧ bT s = .rt d) (s : α) (hG : G s) : Os X (.While c body [] pos) l (eT s) (dT s) (oT s) :=
  os_while eT dT tT μ oT hp G hc hstop (fun s g h => by
    have h1 := hb s g h
    rcases hn s g h with ⟨s', g', h2, h3, h4⟩ | ⟨d, h2, h3⟩
    · rw [h4] at h1
      exact Or.inl ⟨s', g', h2, h3, h1⟩
    · rw [h3] at h1
      exact Or.inr ⟨d, h2, h1⟩) s hG
end
end Mh
set_option maxRecDepth 100000
set_option maxHeartbeats 2000000
/-! M7: a comprehension with two fors. -/
namespace Mh
open PySem PySem.Spec PyProof.Rows L2
open Evl (Ex)
theorem wipe_idem {σ : St} {vs : List Nat} : wipe (wipe σ vs) vs = wipe σ vs := by
  have key : ∀ (us : List Nat) (τ : St), (∀ i ∈ us, τ[i]? = some none ∨ τ[i]? = none) → wipe τ us = τ := by
    intro us
    induction us with
    | nil => intro τ _; rfl
    | cons u us ih =>
      intro τ ht
      unfold wipe
      rw [ih τ fun i hi => ht i (List.mem_cons_of_mem _ hi)]
      apply List.ext_getElem?
      intro n
      rw [List.getElem?_set]
      by_cases q : u = n
      · subst q
        rw [if_pos rfl]
        rcases ht u (List.mem_cons_self ..) with z | z
        · rw [z]
          split
          · rfl
          · rename_i hz
            rw [List.getElem?_eq_none (by omega)] at z
            cases z
        · rw [z]
          split
          · rename_i hz
            rw [List.getElem?_eq_getElem hz] at z
            cases z
          · rfl
      · rw [if_neg q]
  refine key vs _ fun i hi => ?_
  cases q : (wipe σ vs)[i]? with
  | none => exact Or.inr rfl
  | some o =>
    cases o with
    | none => exact Or.inl rfl
    | some x => exact absurd hi (wipe_some q).2
section
variable {X : Cx} {ρ : En} {α β : Type}
theorem take_flat {xs : List α} {g : α → List D} {i : Nat} {x : α} (h : xs[i]? = some x) : (xs.take (i + 1)).flatMap g = (xs.take i).flatMap g ++ g x := by
  rw [List.take_succ, h, List.flatMap_append]
  simp
theorem flat_len {xs : List α} {g : α → List D} {n : Nat} (h : ∀ x ∈ xs, (g x).length ≤ n) : (xs.flatMap g).length ≤ xs.length * n := by
  induction xs with
  | nil => simp
  | cons x r ih =>
    rw [List.flatMap_cons, List.length_append, List.length_cons, Nat.succ_mul]
    have h1 := h x (List.mem_cons_self ..)
    have h2 := ih fun y hy => h y (List.mem_cons_of_mem _ hy)
    omega
def wi1C (xs : List α) (ρx : α → En) (ys : α → List β) (φ2 : β → D) : TI := fun σ H R => ∃ x, x ∈ xs ∧ tiD (ρx x) ((ys x).map φ2) σ H R
def te2C (xs : List α) (ys : α → List β) (ρxy : α → β → En) (ψ : α → β → D) : TE := fun σ H Q => ∃ q : α × β, (q.1 ∈ xs ∧ q.2 ∈ ys q.1) ∧ tD (ρxy q.1 q.2) (ψ q.1 q.2) σ H Q
theorem lc2_D {K : PySem.W.Frag} {b b1 : Bd} {xs : List α} {ys : α → List β} {φ : α → D} {φ2 : β → D} {ρx : α → En} {ρxy : α → β → En} {ψ : α → β → D} {vs vs1 : List Nat} {σ : St} {H : Hp} {Q : VK} {n : Nat} (hl : xs.length * n ≤ 90000) (hy : ∀ x ∈ xs, (ys x).length ≤ n) (hv : ∀ i ∈ b.slots, i ∈ vs) (hv1 : ∀ i ∈ b1.slots, i ∈ vs1)
    (hb : ∀ x ∈ xs, bindE b (wipeE ρ vs) (φ x) = some (ρx x)) (hb1 : ∀ x ∈ xs, ∀ y ∈ ys x, bindE b1 (wipeE (ρx x) vs1) (φ2 y) = some (ρxy x y)) (h : tD ρ (.lst (xs.flatMap fun x => (ys x).map (ψ x))) σ H Q) :
    tLc2 (tiD ρ (xs.map φ)) (b.tg K) tYes (wi1C xs ρx ys φ2) (b1.tg K) tYes (te2C xs ys ρxy ψ) vs vs1 σ H Q := by
  obtain ⟨S, e, rE, k⟩ := h
  refine ⟨S, e, rE, fun J S1 H1 g1 it D hD => ?_⟩
  have hlen : (xs.map φ).length = xs.length := List.length_map ..
  have hS1 : S1 D = none := none_of_ex g1.sh hD
  let W : Nat → Hp → Prop := fun i H' => ∃ S' acc, Gr S1 H1 S' H' ∧ S' D = none ∧ H' D = some (.lst acc) ∧ RepL S' ((xs.take i).flatMap fun x => (ys x).map (ψ x)) acc
  refine ⟨fun i m H' => m = xs.length - i ∧ i ≤ xs.length ∧ W i H', ⟨xs.length, by simp, Nat.zero_le _, S1, [], (Gr.refl g1.sh).mut hD hS1, hS1, upd_same, repL_nil⟩, ?_⟩
  rintro i m H' ⟨rfl, hi, S', acc, g', hSD, hHD, racc⟩
  obtain ⟨it1, it2, it3⟩ := it S' H' g'.ss g'.sh
  by_cases hlt : i < xs.length
  · refine .inr ⟨it1 i (by rw [hlen]; exact hlt), W (i + 1), fun H'' w => ⟨xs.length - (i + 1), by omega, rfl, hlt, w⟩, fun v H2 y => ?_⟩
    have hx : xs[i]? = some xs[i] := List.getElem?_eq_getElem hlt
    have hm : xs[i] ∈ xs := List.getElem_mem hlt
    obtain ⟨S2, g2, r2⟩ := it3 i v H2 (by rw [hlen]; exact hlt) y (φ xs[i]) (by rw [List.getElem?_map, hx] <;> rfl)
    have rw2 : RepE S2 (wipeE ρ vs) (wipe σ vs) := (rE.mono (g1.trans (g'.trans g2)).ss).wipe vs
    refine bind_ok g2.sh rw2 r2 (hb _ hm) fun σ2 rE2 hw => ⟨by have := hw vs hv; rw [wipe_idem] at this; exact this, ?_⟩
    have gg : Gr S1 H1 S2 H2 := g'.trans g2
    show wi1C xs ρx ys φ2 σ2 H2 _
    refine ⟨xs[i], hm, S2, g2.sh, rE2, fun J1 S3 H3 g3 it' => ?_⟩
    have hS3 : S3 D = none := (g2.trans g3).fr D _ hSD hHD ntl
    have hH3 : H3 D = some (.lst acc) := (g2.trans g3).hh D _ hHD
    have hlen1 : ((ys xs[i]).map φ2).length = (ys xs[i]).length := List.length_map ..
    let W1 : Nat → Hp → Prop := fun j H' => ∃ S' acc, Gr S3 (upd H3 D (.own D)) S' (upd H' D (.own D)) ∧ Gr S1 H1 S' H' ∧ S' D = none ∧ H' D = some (.lst acc) ∧ Ex S3 S' ∧ RepL S' (((xs.take i).flatMap fun x => (ys x).map (ψ x)) ++ ((ys xs[i]).take j).map (ψ xs[i])) acc
    refine ⟨fun j m H' => m = (ys xs[i]).length - j ∧ j ≤ (ys xs[i]).length ∧ ∃ S' acc, Gr S1 H1 S' H' ∧ Ex S3 S' ∧ S' D = none ∧ H' D = some (.lst acc) ∧ RepL S' (((xs.take i).flatMap fun x => (ys x).map (ψ x)) ++ ((ys xs[i]).take j).map (ψ xs[i])) acc,
      ⟨(ys xs[i]).length, by simp, Nat.zero_le _, S3, acc, gg.trans g3, Ex.refl S3, hS3, hH3, by rw [List.take_zero, List.map_nil, List.append_nil]; exact racc.mono (g2.trans g3).ss⟩, ?_⟩
    rintro j m H4 ⟨rfl, hj, S4, acc4, g4, e34, hS4, hH4, racc4⟩
    obtain ⟨jt1, jt2, jt3⟩ := it' S4 H4 e34 g4.sh
    by_cases hjl : j < (ys xs[i]).length
    · refine .inr ⟨jt1 j (by rw [hlen1]; exact hjl), fun H'' => ∃ S' acc, Gr S1 H1 S' H'' ∧ Ex S3 S' ∧ S' D = none ∧ H'' D = some (.lst acc) ∧ RepL S' (((xs.take i).flatMap fun x => (ys x).map (ψ x)) ++ ((ys xs[i]).take (j + 1)).map (ψ xs[i])) acc, fun H'' w => ⟨(ys xs[i]).length - (j + 1), by omega, rfl, hjl, w⟩, fun v5 H5 y5 => ?_⟩
      have hy5 : (ys xs[i])[j]? = some (ys xs[i])[j] := List.getElem?_eq_getElem hjl
      have hmy : (ys xs[i])[j] ∈ ys xs[i] := List.getElem_mem hjl
      obtain ⟨S5, g5, r5⟩ := jt3 j v5 H5 (by rw [hlen1]; exact hjl) y5 (φ2 (ys xs[i])[j]) (by rw [List.getElem?_map, hy5] <;> rfl)
      have rw5 : RepE S5 (wipeE (ρx xs[i]) vs1) (wipe σ2 vs1) := ((rE2.mono g3.ss).mono (e34.trans g5.ss)).wipe vs1
      refine bind_ok g5.sh rw5 r5 (hb1 _ hm _ hmy) fun σ6 rE6 hw6 => ⟨by have := hw6 vs1 hv1; rw [wipe_idem] at this; exact this, ?_⟩
      show te2C xs ys ρxy ψ σ6 H5 _
      refine ⟨(xs[i], (ys xs[i])[j]), ⟨hm, hmy⟩, S5, g5.sh, rE6, fun u S7 H7 g7 r7 => ?_⟩
      have hS7 : S7 D = none := (g5.trans g7).fr D _ hS4 hH4 ntl
      have hH7 : H7 D = some (.lst acc4) := (g5.trans g7).hh D _ hH4
      refine ⟨acc4, hH7, ?_, S7, _, ((g4.trans g5).trans g7).mut hD hS7, e34.trans (g5.trans g7).ss, hS7, upd_same, ?_⟩
      · have q1 := racc4.length
        rw [List.length_append, List.length_map, List.length_take] at q1
        have q2 := flat_len (xs := xs.take i) (g := fun x => (ys x).map (ψ x)) (n := n) fun x hx => by
          rw [List.length_map]
          exact hy x (List.mem_of_mem_take hx)
        have q3 : (xs.take i).length * n ≤ xs.length * n := Nat.mul_le_mul_right _ (by rw [List.length_take]; omega)
        have q4 := hy _ hm
        have q5 : 1 * n ≤ xs.length * n := Nat.mul_le_mul_right _ (by omega)
        exact Nat.lt_of_lt_of_le (show acc4.length < 1000000 by omega) (by decide)
      · have e1 : ((ys xs[i]).take (j + 1)).map (ψ xs[i]) = ((ys xs[i]).take j).map (ψ xs[i]) ++ [ψ xs[i] (ys xs[i])[j]] := by
          rw [List.take_succ, hy5, List.map_append] <;> rfl
        rw [e1, ← List.append_assoc]
        exact (racc4.mono (g5.trans g7).ss).append (repL_cons r7 repL_nil)
    · have e1 : j = (ys xs[i]).length := by omega
      subst e1
      refine .inl ⟨by rw [hlen1] at jt2; exact jt2, S4, acc4, g4, hS4, hH4, ?_⟩
      rw [take_flat hx]
      rw [List.take_length] at racc4
      exact racc4
  · have e1 : i = xs.length := by omega
    subst e1
    refine .inl ⟨by rw [hlen] at it2; exact it2, ?_⟩
    rw [List.take_length] at racc
    exact k (.ref D) _ H' (g1.trans (g'.fix hD hSD hHD)) (rep_lst upd_same (racc.mono (Ex.new hSD)))
/-- name = [e for .. in .. for .. in ..] -/
theorem es_setLc2 {i n : Nat} {y : Str} {py : Pos} {elt tg iter tg1 iter1 : Expr} {scope : Scope} {own : List (Str × Nat)} (vs1 : List Nat) {pos spos : Pos} (b b1 : Bd) {xs : List α} (ys : α → List β) {φ : α → D} (φ2 : β → D) (ρx : α → En) (ρxy : α → β → En) (ψ : α → β → D) (hc : X.calm = true) (hN : X.N.Nodup) (hy : X.N[i]? = some y) (hyl : X.env.scope.names.lookup y = some .local)
    (hsw : swapsWith (.ListComp elt [⟨tg, iter, [], 0⟩, ⟨tg1, iter1, [], 0⟩] scope pos) (some (.Name y py)) spos.line X.env = pure true) (hi : Ei X tg iter ρ (xs.map φ)) (ok : BlkOk X.N X.env.scope scope own) (hvv : ∀ i ∈ vs1, i ∈ own.map (·.2))
    (hl : xs.length * n ≤ 90000) (hyn : ∀ x ∈ xs, (ys x).length ≤ n) (hv : ∀ i ∈ b.slots, i ∈ own.map (·.2)) (hv1 : ∀ i ∈ b1.slots, i ∈ vs1)
    (hb : ∀ x ∈ xs, bindE b (wipeE ρ (own.map (·.2))) (φ x) = some (ρx x)) (hb1 : ∀ x ∈ xs, ∀ y ∈ ys x, bindE b1 (wipeE (ρx x) vs1) (φ2 y) = some (ρxy x y))
    (hg : ∀ (s : Shared) (H : Hp) (C : Addr) (cl : List (Str × Addr)) (fp : List Addr), PG (X.blk s H scope (compEnvC scope cl C X.env) fp) tg (b.tg X.K)) (hg1 : ∀ (s : Shared) (H : Hp) (C : Addr) (cl : List (Str × Addr)) (fp : List Addr), PG (X.blk s H scope (compEnvC scope cl C X.env) fp) tg1 (b1.tg X.K))
    (hi1 : ∀ x ∈ xs, ∀ (s : Shared) (H : Hp) (C : Addr) (cl : List (Str × Addr)) (fp : List Addr), Ei (X.blk s H scope (compEnvC scope cl C X.env) fp) tg1 iter1 (ρx x) ((ys x).map φ2))
    (he : ∀ x ∈ xs, ∀ y ∈ ys x, ∀ (s : Shared) (H : Hp) (C : Addr) (cl : List (Str × Addr)) (fp : List Addr), Em (X.blk s H scope (compEnvC scope cl C X.env) fp) elt (ρxy x y) (ψ x y))
    (hs : ∀ x, foldedSetIterable iter X.env x = pure x := by intro _; rfl) (hs1 : ∀ env x, foldedSetIterable iter1 env x = pure x := by intro _ _; rfl) :
    Es X (.Assign [.Name y py] (.ListComp elt [⟨tg, iter, [], 0⟩, ⟨tg1, iter1, [], 0⟩] scope pos) spos) ρ (.nx (ρ.set i (some (.lst (xs.flatMap fun x => (ys x).map (ψ x)))))) := by
  refine ps_mono (ps_setLc2 (vs1 := vs1) hc hN hy hyl hsw hi ok hvv hg (fun _ _ _ _ _ => pts_nil) (fun s H C cl fp => ?_) hg1 (fun _ _ _ _ _ => pts_nil) (fun s H C cl fp => ?_) hs hs1) fun Dn σ _ ⟨S, e, rE, k⟩ => lc2_D (ρx := ρx) (ρxy := ρxy) hl hyn hv hv1 hb hb1 ⟨S, e, rE, fun v S' H' g r => k _ S' H' g ((rE.mono g.ss).set r)⟩
  · exact ⟨fun pins s' σ H' R I ⟨x, hx, q⟩ => (hi1 x hx s H C cl fp).run pins s' σ H' R I q⟩
  · exact pe_some (P := fun q : α × β => q.1 ∈ xs ∧ q.2 ∈ ys q.1) fun q hq => he q.1 hq.1 q.2 hq.2 s H C cl fp
end
end Mh
set_option maxRecDepth 100000
set_option maxHeartbeats 2000000
/-! M8: == of nested values. -/
namespace Mh
open PySem PySem.Spec PyProof.Rows L2
mutual
/-- texts allowed, not nested deeper than n -/
def gd : D → Nat → Bool
  | .int _, _ => true
  | .bl _, _ => true
  | .non, _ => true
  | .str x, _ => PyData.strOk x
  | .tup l, n => gds l n
  | .lst l, n => gds l n
  | .obj _ _ _, _ => false
  | .val _, _ => false
  | .scr _ _, _ => false
  | .ext _ _ _, _ => false
def gds : List D → Nat → Bool
  | [], n => decide (1 ≤ n)
  | d :: l, n => decide (1 ≤ n) && gd d (n - 1) && gds l n
end
mutual
theorem gd_plain : ∀ {d : D} {n : Nat}, gd d n = true → d.plain = true
  | .int _, _, _ => by unfold D.plain; rfl
  | .bl _, _, _ => by unfold D.plain; rfl
  | .non, _, _ => by unfold D.plain; rfl
  | .str _, _, _ => by unfold D.plain; rfl
  | .tup l, n, h => by
    unfold gd at h
    unfold D.plain
    exact gds_plain h
  | .lst l, n, h => by
    unfold gd at h
    unfold D.plain
    exact gds_plain h
  | .obj _ _ _, n, h => by
    unfold gd at h
    cases h
  | .val _, n, h => by
    unfold gd at h
    cases h
  | .scr _ _, n, h => by
    unfold gd at h
    cases h
  | .ext _ _ _, n, h => by
    unfold gd at h
    cases h
theorem gds_plain : ∀ {l : List D} {n : Nat}, gds l n = true → D.plains l = true
  | [], _, _ => by unfold D.plains; rfl
  | d :: l, n, h => by
    unfold gds at h
    rw [Bool.and_eq_true, Bool.and_eq_true] at h
    unfold D.plains
    rw [gd_plain h.1.2, gds_plain h.2] <;> rfl
end
mutual
theorem gd_lay : ∀ {d : D} {n : Nat}, gd d n = true → d.py.canLay0 = true ∧ d.py.depth ≤ n
  | .int _, _, _ => by unfold D.py PyData.canLay0 PyData.depth; exact ⟨rfl, Nat.zero_le _⟩
  | .bl _, _, _ => by unfold D.py PyData.canLay0 PyData.depth; exact ⟨rfl, Nat.zero_le _⟩
  | .non, _, _ => by unfold D.py PyData.canLay0 PyData.depth; exact ⟨rfl, Nat.zero_le _⟩
  | .str x, _, h => by
    unfold gd at h
    unfold D.py PyData.canLay0 PyData.depth
    exact ⟨h, Nat.zero_le _⟩
  | .tup l, n, h => by
    unfold gd at h
    obtain ⟨h1, h2, h3⟩ := gds_lay h
    unfold D.py PyData.canLay0 PyData.depth
    exact ⟨h1, by omega⟩
  | .lst l, n, h => by
    unfold gd at h
    obtain ⟨h1, h2, h3⟩ := gds_lay h
    unfold D.py PyData.canLay0 PyData.depth
    exact ⟨h1, by omega⟩
  | .obj _ _ _, n, h => by
    unfold gd at h
    cases h
  | .val _, n, h => by
    unfold gd at h
    cases h
  | .scr _ _, n, h => by
    unfold gd at h
    cases h
  | .ext _ _ _, n, h => by
    unfold gd at h
    cases h
theorem gds_lay : ∀ {l : List D} {n : Nat}, gds l n = true → PyData.canLayAll0 (D.pys l) = true ∧ PyData.depthAll (D.pys l) + 1 ≤ n ∧ 1 ≤ n
  | [], n, h => by
    unfold gds at h
    have h := of_decide_eq_true h
    unfold D.pys PyData.canLayAll0 PyData.depthAll
    exact ⟨rfl, by omega, h⟩
  | d :: l, n, h => by
    unfold gds at h
    rw [Bool.and_eq_true, Bool.and_eq_true] at h
    have h1 := of_decide_eq_true h.1.1
    obtain ⟨h2, h3⟩ := gd_lay h.1.2
    obtain ⟨h4, h5, h6⟩ := gds_lay h.2
    unfold D.pys PyData.canLayAll0 PyData.depthAll
    rw [h2, h4]
    refine ⟨rfl, ?_, h1⟩
    omega
end
theorem gd_shaped {d : D} (h : gd d 60 = true) : SeqAt.shaped d.py = true := by
  obtain ⟨h1, h2⟩ := gd_lay h
  show (d.py.canLay0 && decide (d.py.depth ≤ 64)) = true
  rw [h1, decide_eq_true (by omega)] <;> rfl
mutual
theorem gd_mono : ∀ {d : D} {n m : Nat}, n ≤ m → gd d n = true → gd d m = true
  | .int _, _, _, _, _ => by unfold gd; rfl
  | .bl _, _, _, _, _ => by unfold gd; rfl
  | .non, _, _, _, _ => by unfold gd; rfl
  | .str x, _, _, _, h => by unfold gd at h ⊢; exact h
  | .tup l, _, _, hm, h => by unfold gd at h ⊢; exact gds_mono hm h
  | .lst l, _, _, hm, h => by unfold gd at h ⊢; exact gds_mono hm h
  | .obj _ _ _, _, _, _, h => by
    unfold gd at h
    cases h
  | .val _, _, _, _, h => by
    unfold gd at h
    cases h
  | .scr _ _, _, _, _, h => by
    unfold gd at h
    cases h
  | .ext _ _ _, _, _, _, h => by
    unfold gd at h
    cases h
theorem gds_mono : ∀ {l : List D} {n m : Nat}, n ≤ m → gds l n = true → gds l m = true
  | [], _, _, hm, h => by
    unfold gds at h ⊢
    have := of_decide_eq_true h
    exact decide_eq_true (by omega)
  | d :: l, _, _, hm, h => by
    unfold gds at h ⊢
    rw [Bool.and_eq_true, Bool.and_eq_true] at h
    have := of_decide_eq_true h.1.1
    rw [decide_eq_true (by omega), gd_mono (by omega) h.1.2, gds_mono hm h.2] <;> rfl
end
theorem gds_of {l : List D} {n : Nat} (h : ∀ d ∈ l, gd d n = true) : gds l (n + 1) = true := by
  induction l with
  | nil =>
    unfold gds
    exact decide_eq_true (by omega)
  | cons d l ih =>
    unfold gds
    rw [decide_eq_true (by omega), show n + 1 - 1 = n from rfl, h d (List.mem_cons_self ..), ih fun x hx => h x (List.mem_cons_of_mem _ hx)] <;> rfl
theorem gd_lst {l : List D} {n : Nat} (h : ∀ d ∈ l, gd d n = true) : gd (.lst l) (n + 1) = true := by
  unfold gd
  exact gds_of h
theorem gd_tup {l : List D} {n : Nat} (h : ∀ d ∈ l, gd d n = true) : gd (.tup l) (n + 1) = true := by
  unfold gd
  exact gds_of h
theorem gd_int {i : Int} {n : Nat} : gd (.int i) n = true := by unfold gd; rfl
theorem gd_bl {i : Bool} {n : Nat} : gd (.bl i) n = true := by unfold gd; rfl
theorem gd_str {x : Str} {n : Nat} (h : PyData.strOk x = true) : gd (.str x) n = true := by unfold gd; exact h
/-! == by shapes -/
theorem py_lst {l : List D} : (D.lst l).py = .list (D.pys l) := by unfold D.py; rfl
theorem py_tup {l : List D} : (D.tup l).py = .tuple (D.pys l) := by unfold D.py; rfl
theorem pys_nil : D.pys [] = [] := by unfold D.pys; rfl
theorem pys_cons {d : D} {l : List D} : D.pys (d :: l) = d.py :: D.pys l := by rw [D.pys]
theorem eqvAll_nil {l : List D} : PyData.eqvAll (D.pys l) [] = l.isEmpty := by
  cases l with
  | nil => rw [pys_nil]; unfold PyData.eqvAll; rfl
  | cons d l => rw [pys_cons]; unfold PyData.eqvAll; rfl
theorem eqv_strs : ∀ {xs ys : List Str}, PyData.eqvAll (D.pys (xs.map D.str)) (D.pys (ys.map D.str)) = decide (xs = ys)
  | [], [] => by
    rw [List.map_nil, pys_nil]
    unfold PyData.eqvAll
    rfl
  | [], y :: ys => by
    rw [List.map_nil, pys_nil, List.map_cons, pys_cons]
    unfold PyData.eqvAll
    exact (decide_eq_false (by simp)).symm
  | x :: xs, [] => by
    rw [List.map_nil, pys_nil, List.map_cons, pys_cons]
    unfold PyData.eqvAll
    exact (decide_eq_false (by simp)).symm
  | x :: xs, y :: ys => by
    rw [List.map_cons, pys_cons, List.map_cons, pys_cons]
    unfold PyData.eqvAll
    rw [eqv_strs]
    unfold D.py PyData.eqv
    by_cases h : x = y
    · by_cases h2 : xs = ys
      · rw [h, h2]
        simp
      · rw [decide_eq_false h2, Bool.and_false]
        exact (decide_eq_false (by simp [h2])).symm
    · rw [beq_eq_false_iff_ne.mpr h, Bool.false_and]
      exact (decide_eq_false (by simp [h])).symm
theorem eqv_rows : ∀ {xs ys : List (List Str)}, PyData.eqvAll (D.pys (xs.map fun r => D.tup (r.map D.str))) (D.pys (ys.map fun r => D.tup (r.map D.str))) = decide (xs = ys)
  | [], [] => by
    rw [List.map_nil, pys_nil]
    unfold PyData.eqvAll
    rfl
  | [], y :: ys => by
    rw [List.map_nil, pys_nil, List.map_cons, pys_cons]
    unfold PyData.eqvAll
    exact (decide_eq_false (by simp)).symm
  | x :: xs, [] => by
    rw [List.map_nil, pys_nil, List.map_cons, pys_cons]
    unfold PyData.eqvAll
    exact (decide_eq_false (by simp)).symm
  | x :: xs, y :: ys => by
    rw [List.map_cons, pys_cons, List.map_cons, pys_cons]
    unfold PyData.eqvAll
    rw [eqv_rows, py_tup, py_tup]
    unfold PyData.eqv
    rw [eqv_strs]
    by_cases h : x = y
    · by_cases h2 : xs = ys
      · rw [h, h2]
        simp
      · rw [decide_eq_false h2, Bool.and_false]
        exact (decide_eq_false (by simp [h2])).symm
    · rw [decide_eq_false h, Bool.false_and]
      exact (decide_eq_false (by simp [h])).symm
mutual
theorem eqv_refl : ∀ {d : D} {n : Nat}, gd d n = true → PyData.eqv d.py d.py = true
  | .int _, _, _ => by unfold D.py PyData.eqv; exact beq_self_eq_true _
  | .bl _, _, _ => by unfold D.py PyData.eqv; exact beq_self_eq_true _
  | .non, _, _ => by unfold D.py PyData.eqv; rfl
  | .str x, _, h => by unfold D.py PyData.eqv; exact beq_self_eq_true _
  | .tup l, n, h => by
    unfold gd at h
    rw [py_tup]
    unfold PyData.eqv
    exact eqv_refls h
  | .lst l, n, h => by
    unfold gd at h
    rw [py_lst]
    unfold PyData.eqv
    exact eqv_refls h
  | .obj _ _ _, n, h => by
    unfold gd at h
    cases h
  | .val _, n, h => by
    unfold gd at h
    cases h
  | .scr _ _, n, h => by
    unfold gd at h
    cases h
  | .ext _ _ _, n, h => by
    unfold gd at h
    cases h
theorem eqv_refls : ∀ {l : List D} {n : Nat}, gds l n = true → PyData.eqvAll (D.pys l) (D.pys l) = true
  | [], _, _ => by
    rw [pys_nil]
    unfold PyData.eqvAll
    rfl
  | d :: l, n, h => by
    unfold gds at h
    rw [Bool.and_eq_true, Bool.and_eq_true] at h
    rw [pys_cons]
    unfold PyData.eqvAll
    rw [eqv_refl h.1.2, eqv_refls h.2] <;> rfl
end
section
variable {X : Cx} {ρ : En} {x y : D} {a b : Expr} {pos : Pos} {k : Nat}
theorem hu64 {A : Around} (hr : Room k A) : A.units + 64 < cLine := by
  have := hr.un
  omega
/-- l == [], l != [] -/
theorem t_neNil {l : List D} {p : Pos} {A : Around} (hA : X.A = A) (hr : Room k A) (h : Em X a ρ (.lst l)) (g : gd (.lst l) 60 = true) : Et X (.Compare a [.NotEq] [.List [] p] pos) ρ (!l.isEmpty) := by
  subst hA
  exact t_neD (hu64 hr) h (em_lst ea_nil (Nat.zero_le _)) (gd_plain g) (by unfold D.plain D.plains; rfl) (gd_shaped g) (gd_shaped (by unfold gd gds; rfl)) (by rw [py_lst, py_lst, pys_nil]; unfold PyData.eqv; exact eqvAll_nil)
theorem c_eqNil {l : List D} {p : Pos} {A : Around} (hA : X.A = A) (hr : Room k A) (h : Em X a ρ (.lst l)) (g : gd (.lst l) 60 = true) : Em X (.Compare a [.Eq] [.List [] p] pos) ρ (.bl l.isEmpty) := by
  subst hA
  exact c_eqD (hu64 hr) h (em_lst ea_nil (Nat.zero_le _)) (gd_plain g) (by unfold D.plain D.plains; rfl) (gd_shaped g) (gd_shaped (by unfold gd gds; rfl)) (by rw [py_lst, py_lst, pys_nil]; unfold PyData.eqv; exact eqvAll_nil)
theorem c_neNil {l : List D} {p : Pos} {A : Around} (hA : X.A = A) (hr : Room k A) (h : Em X a ρ (.lst l)) (g : gd (.lst l) 60 = true) : Em X (.Compare a [.NotEq] [.List [] p] pos) ρ (.bl (!l.isEmpty)) := by
  subst hA
  exact c_neD (hu64 hr) h (em_lst ea_nil (Nat.zero_le _)) (gd_plain g) (by unfold D.plain D.plains; rfl) (gd_shaped g) (gd_shaped (by unfold gd gds; rfl)) (by rw [py_lst, py_lst, pys_nil]; unfold PyData.eqv; exact eqvAll_nil)
end
end Mh
set_option maxRecDepth 100000
set_option maxHeartbeats 2000000
/-! M9: values that are drawn: an urn at u changes, a list may be filled beside it. -/
namespace Mh
open PySem PySem.Spec PyProof.Rows L2
open Evl (Ex)
/-- the urn holds n draws yet -/
def UrnS (u : Addr) (n : Nat) (S H : Hp) : Prop := S u = none ∧ ∃ g s c : Int, H u = some (.lst [.int g, .int s, .int c]) ∧ 0 ≤ s ∧ s < 2305843009213693951 ∧ 0 ≤ c ∧ c + n ≤ 1000000000000
theorem UrnS.le {u : Addr} {n m : Nat} {S H : Hp} (h : UrnS u n S H) (hm : m ≤ n) : UrnS u m S H := by
  obtain ⟨h1, g, s, c, h2, h3, h4, h5, h6⟩ := h
  exact ⟨h1, g, s, c, h2, h3, h4, h5, by omega⟩
theorem UrnS.gr {u : Addr} {n : Nat} {S H S' H' : Hp} (h : UrnS u n S H) (g : Gr S H S' H') : UrnS u n S' H' := by
  obtain ⟨h1, g1, s, c, h2, h3⟩ := h
  exact ⟨g.fr u _ h1 h2 ntl, g1, s, c, g.hh u _ h2, h3⟩
/-- a list that is filled: where, what is in it -/
abbrev Ow : Type := Option (Addr × List D)
def OwS (u : Addr) (H0 : Hp) (o : Ow) (S H : Hp) : Prop := match o with
  | none => True
  | some q => q.1 ≠ u ∧ H0 q.1 = none ∧ S q.1 = none ∧ ∃ vs, H q.1 = some (.lst vs) ∧ RepL S q.2 vs
structure Wld (u : Addr) (S0 H0 : Hp) (n : Nat) (o : Ow) (S H : Hp) : Prop where
  gl : Gl u S0 H0 S H
  urn : UrnS u n S H
  ow : OwS u H0 o S H
section
variable {u : Addr} {S0 H0 : Hp} {n m : Nat} {o : Ow} {S H S' H' : Hp}
theorem Wld.gr (w : Wld u S0 H0 n o S H) (g : Gr S H S' H') : Wld u S0 H0 n o S' H' := by
  refine ⟨w.gl.trans g.toGl, w.urn.gr g, ?_⟩
  cases o with
  | none => trivial
  | some q =>
    obtain ⟨h1, h2, h3, vs, h4, h5⟩ := w.ow
    exact ⟨h1, h2, g.fr _ _ h3 h4 ntl, vs, g.hh _ _ h4, h5.mono g.ss⟩
theorem Wld.le (w : Wld u S0 H0 n o S H) (h : m ≤ n) : Wld u S0 H0 m o S H := ⟨w.gl, w.urn.le h, w.ow⟩
/-- the urn has moved -/
theorem Wld.draw (w : Wld u S0 H0 n o S H) (g : Gl u S H S' H') (h : UrnS u m S' H') : Wld u S0 H0 m o S' H' := by
  refine ⟨w.gl.trans g, h, ?_⟩
  cases o with
  | none => trivial
  | some q =>
    obtain ⟨h1, h2, h3, vs, h4, h5⟩ := w.ow
    exact ⟨h1, h2, g.fr _ _ h1 h3 h4 ntl, vs, g.hh _ _ h1 h4, h5.mono g.ss⟩
end
/-- where one is: the draws left, the list -/
structure WI where
  n : Nat
  o : Ow
/-- a step from i to j: what is fixed stays, and all beside the urn and the list -/
structure Stp (u : Addr) (i j : WI) (S H S' H' : Hp) : Prop where
  ss : Ex S S'
  sh : Ex S' H'
  hh : ∀ a o, a ≠ u → (∀ q, i.o = some q → a ≠ q.1) → H a = some o → H' a = some o
  fr : ∀ a o, a ≠ u → (∀ q, i.o = some q → a ≠ q.1) → S a = none → H a = some o → NT o → S' a = none
  dm : ∀ a o, H a = some o → ∃ o', H' a = some o'
  ow : ∀ q', j.o = some q' → (∃ q, i.o = some q ∧ q.1 = q'.1) ∨ H q'.1 = none
theorem Stp.refl {u : Addr} {i : WI} {S H : Hp} (e : Ex S H) : Stp u i i S H S H := ⟨Ex.refl S, e, fun _ _ _ _ h => h, fun _ _ _ _ h _ _ => h, fun _ o h => ⟨o, h⟩, fun q h => Or.inl ⟨q, h, rfl⟩⟩
theorem Stp.trans {u : Addr} {i j k : WI} {S H S1 H1 S2 H2 : Hp} (a : Stp u i j S H S1 H1) (b : Stp u j k S1 H1 S2 H2) : Stp u i k S H S2 H2 := by
  have off : ∀ c o, (∀ q, i.o = some q → c ≠ q.1) → H c = some o → ∀ q, j.o = some q → c ≠ q.1 := fun c o h1 h2 q hq z => by
    rcases a.ow q hq with ⟨q0, h3, h4⟩ | h3
    · exact h1 q0 h3 (z.trans h4.symm)
    · rw [← z, h2] at h3
      cases h3
  refine ⟨a.ss.trans b.ss, b.sh, fun c o h1 h2 h3 => b.hh c o h1 (off c o h2 h3) (a.hh c o h1 h2 h3), fun c o h1 h2 h3 h4 n => b.fr c o h1 (off c o h2 h4) (a.fr c o h1 h2 h3 h4 n) (a.hh c o h1 h2 h4) n, fun c o h => ?_, fun q hq => ?_⟩
  · obtain ⟨o1, h1⟩ := a.dm c o h
    exact b.dm c o1 h1
  · rcases b.ow q hq with ⟨q0, h3, h4⟩ | h3
    · rcases a.ow q0 h3 with ⟨q1, h5, h6⟩ | h5
      · exact Or.inl ⟨q1, h5, h6.trans h4⟩
      · rw [h4] at h5
        exact Or.inr h5
    · cases hz : H q.1 with
      | none => exact Or.inr rfl
      | some o =>
        obtain ⟨o1, h1⟩ := a.dm q.1 o hz
        rw [h3] at h1
        cases h1
theorem Gr.stp {u : Addr} {i : WI} {S H S' H' : Hp} (g : Gr S H S' H') : Stp u i i S H S' H' := ⟨g.ss, g.sh, fun a o _ _ h => g.hh a o h, fun a o _ _ h h' n => g.fr a o h h' n, fun a o h => ⟨o, g.hh a o h⟩, fun q h => Or.inl ⟨q, h, rfl⟩⟩
theorem Gl.stp {u : Addr} {n m : Nat} {o : Ow} {S H S' H' : Hp} (g : Gl u S H S' H') (hu : UrnS u m S' H') : Stp u ⟨n, o⟩ ⟨m, o⟩ S H S' H' := by
  refine ⟨g.ss, g.sh, fun a o h _ h' => g.hh a o h h', fun a o h _ h1 h2 n => g.fr a o h h1 h2 n, fun a o h => ?_, fun q h => Or.inl ⟨q, h, rfl⟩⟩
  by_cases q : a = u
  · obtain ⟨_, a1, a2, a3, h2, _⟩ := hu
    exact ⟨_, by rw [q]; exact h2⟩
  · exact ⟨o, g.hh a o q h⟩
abbrev PW_ : Type := D → WI → Prop
section
variable (u : Addr) (S0 H0 : Hp)
def tW (ρ : En) (i : WI) (P : PW_) : TE := fun σ H Q => ∃ S, Ex S H ∧ RepE S ρ σ ∧ Wld u S0 H0 i.n i.o S H ∧ ∀ d v S' H' j, P d j → Stp u i j S H S' H' → Wld u S0 H0 j.n j.o S' H' → Rep S' d v → Q v H'
def ttW (ρ : En) (i : WI) (P : Bool → WI → Prop) : TT := fun σ H Q => ∃ S, Ex S H ∧ RepE S ρ σ ∧ Wld u S0 H0 i.n i.o S H ∧ ∀ b S' H' j, P b j → Stp u i j S H S' H' → Wld u S0 H0 j.n j.o S' H' → Q b H'
def taW (ρ : En) (i : WI) (P : List D → WI → Prop) : TA := fun σ H Q => ∃ S, Ex S H ∧ RepE S ρ σ ∧ Wld u S0 H0 i.n i.o S H ∧ ∀ ds vs S' H' j, P ds j → Stp u i j S H S' H' → Wld u S0 H0 j.n j.o S' H' → RepL S' ds vs → Q vs H'
def tiW (ρ : En) (i : WI) (P : List D → WI → Prop) : TI := fun σ H R => ∃ S, Ex S H ∧ RepE S ρ σ ∧ Wld u S0 H0 i.n i.o S H ∧ ∀ ds J S' H' j, P ds j → Stp u i j S H S' H' → Wld u S0 H0 j.n j.o S' H' → IsIt J S' ds → R J H'
inductive UO | nx (ρ : En) (i : WI) | rt (d : D) (i : WI)
def KU (i : WI) (Φ : UO → Prop) (S H : Hp) (Dn : Ends) : Prop := (∀ ρ' j σ' S' H', Φ (.nx ρ' j) → Stp u i j S H S' H' → Wld u S0 H0 j.n j.o S' H' → RepE S' ρ' σ' → Dn.nx σ' H') ∧ ∀ d j v S' H', Φ (.rt d j) → Stp u i j S H S' H' → Wld u S0 H0 j.n j.o S' H' → Rep S' d v → Dn.rt v H'
def tsW (ρ : En) (i : WI) (Φ : UO → Prop) : TS := fun Dn σ H => ∃ S, Ex S H ∧ RepE S ρ σ ∧ Wld u S0 H0 i.n i.o S H ∧ KU u S0 H0 i Φ S H Dn
end
section
variable {X : Cx} {u : Addr} {S0 H0 : Hp} {ρ : En} {i j : WI} {P P1 : PW_} {Φ : UO → Prop} {x y z d : D} {a b e c : Expr} {es : List Expr} {pos p : Pos}
abbrev Wm (X : Cx) (u : Addr) (S0 H0 : Hp) (e : Expr) (ρ : En) (i : WI) (P : PW_) : Prop := PE X e (tW u S0 H0 ρ i P)
abbrev Wt (X : Cx) (u : Addr) (S0 H0 : Hp) (e : Expr) (ρ : En) (i : WI) (P : Bool → WI → Prop) : Prop := PT X e (ttW u S0 H0 ρ i P)
abbrev Ww (X : Cx) (u : Addr) (S0 H0 : Hp) (e : Expr) (ρ : En) (i : WI) (P : Bool → WI → Prop) : Prop := PW X e (ttW u S0 H0 ρ i P)
abbrev Wa (X : Cx) (u : Addr) (S0 H0 : Hp) (es : List Expr) (ρ : En) (i : WI) (P : List D → WI → Prop) : Prop := PA X es (taW u S0 H0 ρ i P)
abbrev Wi (X : Cx) (u : Addr) (S0 H0 : Hp) (tg e : Expr) (ρ : En) (i : WI) (P : List D → WI → Prop) : Prop := PI X tg e (tiW u S0 H0 ρ i P)
abbrev Ws (X : Cx) (u : Addr) (S0 H0 : Hp) (st : Stmt) (ρ : En) (i : WI) (Φ : UO → Prop) : Prop := PS X st (tsW u S0 H0 ρ i Φ)
abbrev Wss (X : Cx) (u : Addr) (S0 H0 : Hp) (sts : List Stmt) (ρ : En) (i : WI) (Φ : UO → Prop) : Prop := PSs X sts (tsW u S0 H0 ρ i Φ)
/-! pure ones -/
theorem w_pure (h : Em X e ρ d) (hp : P d i) : Wm X u S0 H0 e ρ i P := pe_mono h fun σ H Q ⟨S, e, rE, w, k⟩ => ⟨S, e, rE, fun v S' H' g r => k d v S' H' i hp g.stp (w.gr g) r⟩
theorem wt_pure {q : Bool} {Pt : Bool → WI → Prop} (h : Et X e ρ q) (hp : Pt q i) : Wt X u S0 H0 e ρ i Pt := pt_mono h fun σ H Q ⟨S, e, rE, w, k⟩ => ⟨S, e, rE, fun S' H' g => k q S' H' i hp g.stp (w.gr g)⟩
theorem wi_pure {tg : Expr} {ds : List D} {Pl : List D → WI → Prop} (h : Ei X tg e ρ ds) (hp : Pl ds i) : Wi X u S0 H0 tg e ρ i Pl := pi_mono h fun σ H R ⟨S, e, rE, w, k⟩ => ⟨S, e, rE, fun J S' H' g it => k ds J S' H' i hp g.stp (w.gr g) it⟩
theorem w_mono {P' : PW_} (h : Wm X u S0 H0 e ρ i P') (m : ∀ d j, P' d j → P d j) : Wm X u S0 H0 e ρ i P := pe_mono h fun σ H Q ⟨S, e, rE, w, k⟩ => ⟨S, e, rE, w, fun d v S' H' j hp => k d v S' H' j (m d j hp)⟩
theorem wt_mono {P' Pt : Bool → WI → Prop} (h : Wt X u S0 H0 e ρ i P') (m : ∀ d j, P' d j → Pt d j) : Wt X u S0 H0 e ρ i Pt := pt_mono h fun σ H Q ⟨S, e, rE, w, k⟩ => ⟨S, e, rE, w, fun d S' H' j hp => k d S' H' j (m d j hp)⟩
/-! operations -/
theorem w_two {σ : St} {H : Hp} {Q : VK} {r : R2} {P2 : D → WI → PW_} {ta tb : TE} (hta : ta = tW u S0 H0 ρ i P1) (htb : tb = fun σ H Q => ∃ q : D × WI, P1 q.1 q.2 ∧ tW u S0 H0 ρ q.2 (P2 q.1 q.2) σ H Q)
    (hd : ∀ x j y k, P1 x j → P2 x j y k → ∃ z, OpD r x y z ∧ P z k) (h : tW u S0 H0 ρ i P σ H Q) : tOp r ta tb σ H Q := by
  subst hta htb
  obtain ⟨S, e, rE, w, k⟩ := h
  refine ⟨S, e, rE, w, fun x v S1 H1 j hx s1 w1 r1 => ⟨(x, j), hx, S1, s1.sh, rE.mono s1.ss, w1, fun y v2 S2 H2 j2 hy s2 w2 r2 => ?_⟩⟩
  obtain ⟨z, h1, h2⟩ := hd x j y j2 hx hy
  exact h1 S2 H2 v v2 Q s2.sh (r1.mono s2.ss) r2 fun v3 S3 H3 g3 r3 => k z v3 S3 H3 j2 h2 ((s1.trans s2).trans g3.stp) (w2.gr g3) r3
theorem w_snd {P2 : D → WI → PW_} (hb : ∀ x j, P1 x j → Wm X u S0 H0 b ρ j (P2 x j)) : PE X b (fun σ H Q => ∃ q : D × WI, P1 q.1 q.2 ∧ tW u S0 H0 ρ q.2 (P2 q.1 q.2) σ H Q) := pe_some (P := fun q : D × WI => P1 q.1 q.2) fun q hq => hb q.1 q.2 hq
theorem w_op {op : Operator} {r : R2} {P2 : D → WI → PW_} (ho : OpR X (binaryOp op) r) (ha : Wm X u S0 H0 a ρ i P1) (hb : ∀ x j, P1 x j → Wm X u S0 H0 b ρ j (P2 x j)) (hd : ∀ x j y k, P1 x j → P2 x j y k → ∃ z, OpD r x y z ∧ P z k) : Wm X u S0 H0 (.BinOp a op b pos) ρ i P :=
  pe_mono (pe_op ho ha (w_snd hb)) fun _ _ _ h => w_two rfl rfl hd h
theorem w_ix {r : R2} {P2 : D → WI → PW_} (ho : IxR X r) (ha : Wm X u S0 H0 a ρ i P1) (hb : ∀ x j, P1 x j → Wm X u S0 H0 b ρ j (P2 x j)) (hd : ∀ x j y k, P1 x j → P2 x j y k → ∃ z, OpD r x y z ∧ P z k) (hs : PlainIx b := by intro _ _; rfl) : Wm X u S0 H0 (.Subscript a b pos) ρ i P :=
  pe_mono (pe_ix ho ha (w_snd hb) hs) fun _ _ _ h => w_two rfl rfl hd h
theorem wt_cmp {op : CmpOp} {r : R2} {P2 : D → WI → PW_} {Pt : Bool → WI → Prop} (ho : OpR X (compareOp op) r) (ha : Wm X u S0 H0 a ρ i P1) (hb : ∀ x j, P1 x j → Wm X u S0 H0 b ρ j (P2 x j)) (hd : ∀ x j y k, P1 x j → P2 x j y k → ∃ q, OpD r x y (.bl q) ∧ Pt q k) (hm : behindInMarks op b = false) : Wt X u S0 H0 (.Compare a [op] [b] pos) ρ i Pt :=
  pt_mono (pt_cmpR ho ha (w_snd hb) hm) fun σ H Q ⟨S, e, rE, w, k⟩ => w_two (P := fun d j => ∃ q, d = .bl q ∧ Pt q j) rfl rfl (fun x j y k h1 h2 => by
    obtain ⟨q, h3, h4⟩ := hd x j y k h1 h2
    exact ⟨_, h3, q, rfl, h4⟩) ⟨S, e, rE, w, fun d v S' H' j ⟨q, hd, hq⟩ s w r => by
    subst hd
    exact ⟨q, r.bl, k q S' H' j hq s w⟩⟩
/-- an equality with a number drawn -/
theorem wt_eqI {i0 : Int} {Pt : Bool → WI → Prop} (ha : Wm X u S0 H0 a ρ i P1) (hb : ∀ x j, P1 x j → Em X b ρ (.int i0)) (hd : ∀ x j, P1 x j → ∃ k : Int, x = .int k ∧ Pt (decide (k = i0)) j) : Wt X u S0 H0 (.Compare a [.Eq] [b] pos) ρ i Pt :=
  wt_cmp (P2 := fun x j y k => y = .int i0 ∧ k = j) op_eq ha (fun x j h => w_pure (hb x j h) ⟨rfl, rfl⟩) (fun x j y k h1 ⟨h2, h3⟩ => by
    subst h2 h3
    obtain ⟨k, rfl, h4⟩ := hd x _ h1
    exact ⟨_, od_eqI, h4⟩) (nomark _)
theorem ww_one {op} {Pt : Bool → WI → Prop} (ha : Wt X u S0 H0 a ρ i Pt) (ho : op = .And ∨ op = .Or := by first | exact .inl rfl | exact .inr rfl) : Ww X u S0 H0 (.BoolOp op [a] pos) ρ i Pt := by
  rcases ho with rfl | rfl
  · exact pw_and1 ha
  · exact pw_or1 ha
theorem ww_and {rest : List Expr} {P1 Pt : Bool → WI → Prop} (ha : Wt X u S0 H0 a ρ i P1) (hf : ∀ j, P1 false j → Pt false j) (hb : ∀ j, P1 true j → Ww X u S0 H0 (.BoolOp .And (b :: rest) pos) ρ j Pt) : Ww X u S0 H0 (.BoolOp .And (a :: b :: rest) pos) ρ i Pt := by
  have hB : PW X (.BoolOp .And (b :: rest) pos) (fun σ H Q => ∃ j, P1 true j ∧ ttW u S0 H0 ρ j Pt σ H Q) := ⟨fun wh pins s σ H Q I ⟨j, h1, h2⟩ => (hb j h1).run wh pins s σ H Q I h2⟩
  refine pw_mono (pw_and ha hB) fun σ H Q ⟨S, e, rE, w, k⟩ => ⟨S, e, rE, w, fun q S1 H1 j hq s1 w1 => ?_⟩
  cases q with
  | true =>
    show ∃ j, P1 true j ∧ _
    exact ⟨j, hq, S1, s1.sh, rE.mono s1.ss, w1, fun q2 S2 H2 j2 hq2 s2 w2 => k q2 S2 H2 j2 hq2 (s1.trans s2) w2⟩
  | false =>
    show Q false H1
    exact k false S1 H1 j (hf j hq) s1 w1
theorem wt_w {Pt : Bool → WI → Prop} (h : Ww X u S0 H0 e ρ i Pt) : Wt X u S0 H0 e ρ i Pt := h.pt
theorem w_if {Pt : Bool → WI → Prop} (hc : Wt X u S0 H0 c ρ i Pt) (ha : ∀ j, Pt true j → Wm X u S0 H0 a ρ j P) (hb : ∀ j, Pt false j → Wm X u S0 H0 b ρ j P) : Wm X u S0 H0 (.IfExp c a b pos) ρ i P := by
  have hA : PE X a (fun σ H Q => ∃ j, Pt true j ∧ tW u S0 H0 ρ j P σ H Q) := pe_some (P := fun j => Pt true j) ha
  have hB : PE X b (fun σ H Q => ∃ j, Pt false j ∧ tW u S0 H0 ρ j P σ H Q) := pe_some (P := fun j => Pt false j) hb
  refine pe_mono (pe_ifExp hc hA hB) fun σ H Q ⟨S, e, rE, w, k⟩ => ⟨S, e, rE, w, fun q S1 H1 j hq s1 w1 => ?_⟩
  cases q with
  | true => exact (show ∃ j, Pt true j ∧ tW u S0 H0 ρ j P σ H1 Q from ⟨j, hq, S1, s1.sh, rE.mono s1.ss, w1, fun d v S2 H2 j2 hp s2 w2 r2 => k d v S2 H2 j2 hp (s1.trans s2) w2 r2⟩)
  | false => exact (show ∃ j, Pt false j ∧ tW u S0 H0 ρ j P σ H1 Q from ⟨j, hq, S1, s1.sh, rE.mono s1.ss, w1, fun d v S2 H2 j2 hp s2 w2 r2 => k d v S2 H2 j2 hp (s1.trans s2) w2 r2⟩)
/-! arguments, calls -/
theorem wa_nil {Pl : List D → WI → Prop} (hp : Pl [] i) : Wa X u S0 H0 [] ρ i Pl := pa_mono pa_nil fun σ H Q ⟨S, e, rE, w, k⟩ => k [] [] S H i hp (Stp.refl e) w repL_nil
theorem wa_cons {Pl : List D → WI → Prop} {P2 : D → WI → List D → WI → Prop} (ha : Wm X u S0 H0 e ρ i P1) (hr : ∀ x j, P1 x j → Wa X u S0 H0 es ρ j (P2 x j)) (hd : ∀ x j ds k, P1 x j → P2 x j ds k → Pl (x :: ds) k) (hs : starEach (e :: es) X.env = (false, eval e X.env) :: starEach es X.env := by rfl) : Wa X u S0 H0 (e :: es) ρ i Pl := by
  have hR : PA X es (fun σ H Q => ∃ q : D × WI, P1 q.1 q.2 ∧ taW u S0 H0 ρ q.2 (P2 q.1 q.2) σ H Q) := ⟨fun pos pins s σ H Q I ⟨q, h1, h2⟩ => (hr q.1 q.2 h1).run pos pins s σ H Q I h2⟩
  exact pa_mono (pa_cons ha hR hs) fun σ H Q ⟨S, e, rE, w, k⟩ => ⟨S, e, rE, w, fun x v S1 H1 j hx s1 w1 r1 => ⟨(x, j), hx, S1, s1.sh, rE.mono s1.ss, w1, fun ds vs S2 H2 j2 hp s2 w2 r2 => k (x :: ds) (v :: vs) S2 H2 j2 (hd x j ds j2 hx hp) (s1.trans s2) w2 (repL_cons (r1.mono s2.ss) r2)⟩⟩
theorem wa1 {Pl : List D → WI → Prop} (ha : Wm X u S0 H0 e ρ i P1) (hd : ∀ x j, P1 x j → Pl [x] j) (hs : starEach [e] X.env = (false, eval e X.env) :: starEach [] X.env := by rfl) : Wa X u S0 H0 [e] ρ i Pl :=
  wa_cons ha (fun x j h => wa_nil (Pl := fun ds k => ds = [] ∧ k = j) ⟨rfl, rfl⟩) (fun x j ds k h ⟨h1, h2⟩ => by
    subst h1 h2
    exact hd x _ h) hs
theorem wa2 {Pl : List D → WI → Prop} {P2 : D → WI → PW_} (ha : Wm X u S0 H0 e ρ i P1) (hb : ∀ x j, P1 x j → Wm X u S0 H0 a ρ j (P2 x j)) (hd : ∀ x j y k, P1 x j → P2 x j y k → Pl [x, y] k) (hs : starEach [e, a] X.env = (false, eval e X.env) :: starEach [a] X.env := by rfl) (hs2 : starEach [a] X.env = (false, eval a X.env) :: starEach [] X.env := by rfl) : Wa X u S0 H0 [e, a] ρ i Pl :=
  wa_cons (P2 := fun x j ds k => ∃ y, ds = [y] ∧ P2 x j y k) ha (fun x j h => wa1 (hb x j h) (fun y k h2 => ⟨y, rfl, h2⟩) hs2) (fun x j ds k h ⟨y, h1, h2⟩ => by
    subst h1
    exact hd x j y k h h2) hs
/-- a def that draws: its first argument is the urn -/
def spW (k : Nat) (pre : List D → Prop) (R : List D → D → Prop) : Sp := fun vs H Q _ => ∃ S ds u us n, vs = .ref u :: us ∧ Ex S H ∧ RepL S ds us ∧ pre ds ∧ UrnS u (n + k) S H ∧ ∀ d v S' H', R ds d → Gl u S H S' H' → UrnS u n S' H' → Rep S' d v → Q v H'
theorem w_call {k kk jj : Nat} {x : Str} {pre : List D → Prop} {R : List D → D → Prop} (c : C8.Cal X.prog X.w X.K X.mg X.base kk x (spW k pre R) []) (hr : Room jj X.A) (hk : kk ≤ jj) (hg : L2.Gl X x) (ha : Wa X u S0 H0 (e :: es) ρ i (fun ds j => ∃ r, ds = .val (.ref u) :: r ∧ pre r ∧ k ≤ j.n ∧ ∀ d, R r d → P d ⟨j.n - k, j.o⟩))
    (hdb : (x == ("__debug__" : Str)) = false := by decide) (he : starEach (e :: es) X.env = (false, eval e X.env) :: starEach es X.env := by rfl) (hpl : (backTo pos (starEach es X.env)).any (·.1) = false := by rfl) : Wm X u S0 H0 (.Call (.Name x p) (e :: es) [] pos) ρ i P :=
  pe_mono (C8.pe_c c hr hk hg ha hdb he hpl) fun σ H Q ⟨S, e, rE, w, kq⟩ => ⟨S, e, rE, w, fun ds vs S1 H1 j ⟨r, hds, hpre, hkn, hP⟩ s1 w1 r1 => by
    subst hds
    obtain ⟨v, vr, rfl, h1, h2⟩ := r1.cons
    rw [h1.val, List.append_nil]
    refine ⟨S1, r, u, vr, j.n - k, rfl, s1.sh, h2, hpre, w1.urn.le (by omega), fun d v S2 H2 hR g hu r2 => kq d v S2 H2 _ (hP d hR) (s1.trans (g.stp hu)) (w1.draw g hu) r2⟩⟩
/-- f(urn) -/
theorem w_call1 {k kk jj : Nat} {x : Str} {pre : List D → Prop} {R : List D → D → Prop} (c : C8.Cal X.prog X.w X.K X.mg X.base kk x (spW k pre R) []) (hr : Room jj X.A) (hk : kk ≤ jj) (hg : L2.Gl X x) (hu : Em X e ρ (.val (.ref u))) (hpre : pre []) (hn : k ≤ i.n) (hP : ∀ d, R [] d → P d ⟨i.n - k, i.o⟩)
    (hdb : (x == ("__debug__" : Str)) = false := by decide) (he : starEach [e] X.env = (false, eval e X.env) :: starEach [] X.env := by rfl) : Wm X u S0 H0 (.Call (.Name x p) [e] [] pos) ρ i P :=
  w_call c hr hk hg (wa1 (P1 := fun d j => d = .val (.ref u) ∧ j = i) (w_pure hu ⟨rfl, rfl⟩) (fun d j ⟨h1, h2⟩ => by
    subst h1 h2
    exact ⟨[], rfl, hpre, hn, hP⟩) he) hdb he
/-- f(urn, e), e drawn too -/
theorem w_call2 {k kk jj : Nat} {x : Str} {pre : List D → Prop} {R : List D → D → Prop} (c : C8.Cal X.prog X.w X.K X.mg X.base kk x (spW k pre R) []) (hr : Room jj X.A) (hk : kk ≤ jj) (hg : L2.Gl X x) (hu : Em X e ρ (.val (.ref u))) (ha : Wm X u S0 H0 a ρ i (fun y j => pre [y] ∧ k ≤ j.n ∧ ∀ d, R [y] d → P d ⟨j.n - k, j.o⟩))
    (hdb : (x == ("__debug__" : Str)) = false := by decide) (he : starEach [e, a] X.env = (false, eval e X.env) :: starEach [a] X.env := by rfl) (he2 : starEach [a] X.env = (false, eval a X.env) :: starEach [] X.env := by rfl) (hpl : (backTo pos (starEach [a] X.env)).any (·.1) = false := by rfl) : Wm X u S0 H0 (.Call (.Name x p) [e, a] [] pos) ρ i P :=
  w_call c hr hk hg (wa2 (P1 := fun d j => d = .val (.ref u) ∧ j = i) (P2 := fun _ _ y j => pre [y] ∧ k ≤ j.n ∧ ∀ d, R [y] d → P d ⟨j.n - k, j.o⟩) (w_pure hu ⟨rfl, rfl⟩) (fun d j ⟨h1, h2⟩ => by
    subst h1 h2
    exact ha) (fun d j y k ⟨h1, h2⟩ ⟨h3, h4, h5⟩ => by
    subst h1
    exact ⟨[y], rfl, h3, h4, h5⟩) he he2) hdb he hpl
/-- f(urn, e, e2), e and e2 pure -/
theorem w_callP {k kk jj : Nat} {x : Str} {ds : List D} {pre : List D → Prop} {R : List D → D → Prop} (c : C8.Cal X.prog X.w X.K X.mg X.base kk x (spW k pre R) []) (hr : Room jj X.A) (hk : kk ≤ jj) (hg : L2.Gl X x) (ha : Ea X (e :: es) ρ (.val (.ref u) :: ds)) (hpre : pre ds) (hn : k ≤ i.n) (hP : ∀ d, R ds d → P d ⟨i.n - k, i.o⟩)
    (hdb : (x == ("__debug__" : Str)) = false := by decide) (he : starEach (e :: es) X.env = (false, eval e X.env) :: starEach es X.env := by rfl) (hpl : (backTo pos (starEach es X.env)).any (·.1) = false := by rfl) : Wm X u S0 H0 (.Call (.Name x p) (e :: es) [] pos) ρ i P :=
  w_call c hr hk hg (pa_mono ha fun σ H Q ⟨S, e, rE, w, k⟩ => ⟨S, e, rE, fun vs S' H' g r => k _ vs S' H' i ⟨ds, rfl, hpre, hn, hP⟩ g.stp (w.gr g) r⟩) hdb he hpl
theorem w_callTy {T : String} {r : List V → Hp → VK → Prop} {x : Str} (hc : CallR X (.type T) r) (hg : L2.Gl X x) (hm : X.mg x = none) (hv : bootBuiltins x = some (.type T)) (ha : Wm X u S0 H0 e ρ i P1) (hd : ∀ x j, P1 x j → ∃ z, CallD r [x] z ∧ P z j) (hn : x ≠ "__name__" := by decide) (hdb : (x == ("__debug__" : Str)) = false := by decide)
    (he : starEach [e] X.env = (false, eval e X.env) :: starEach [] X.env := by rfl) (hpl : (backTo pos (starEach [] X.env)).any (·.1) = false := by rfl) : Wm X u S0 H0 (.Call (.Name x p) [e] [] pos) ρ i P :=
  pe_mono (pe_callTy hc hg hm hv (wa1 (Pl := fun ds j => ∃ x, ds = [x] ∧ P1 x j) ha (fun x j h => ⟨x, rfl, h⟩) he) hn hdb he hpl) fun σ H Q ⟨S, e, rE, w, k⟩ => ⟨S, e, rE, w, fun ds vs S1 H1 j ⟨x, hds, hp⟩ s1 w1 r1 => by
    subst hds
    obtain ⟨z, h1, h2⟩ := hd x j hp
    exact h1 S1 H1 vs Q s1.sh r1 fun v S2 H2 g r2 => k z v S2 H2 j h2 (s1.trans g.stp) (w1.gr g) r2⟩
theorem w_tup {es : List Expr} {x1} {Pl : List D → WI → Prop} (h : Wa X u S0 H0 es ρ i Pl) (hd : ∀ ds j, Pl ds j → ds.length ≤ 100000 ∧ P (.tup ds) j) : Wm X u S0 H0 (.Tuple es x1 pos) ρ i P :=
  pe_mono (pe_tup h) fun σ H Q ⟨S, e, rE, w, k⟩ => ⟨S, e, rE, w, fun ds vs S1 H1 j hp s1 w1 r1 => ⟨Evl.sz_of (by rw [← r1.length]; exact (hd ds j hp).1), fun q hq => k _ (.ref q) _ _ j (hd ds j hp).2 (s1.trans (Gr.new s1.sh hq).stp) (w1.gr (Gr.new s1.sh hq)) (rep_tup upd_same (r1.mono (Ex.new (none_of_ex s1.sh hq))))⟩⟩
/-- range(e) -/
theorem wi_range {tg : Expr} {Pl : List D → WI → Prop} (hg : L2.Gl X "range") (hm : X.mg "range" = none) (ha : Wm X u S0 H0 e ρ i (fun d j => ∃ n : Nat, d = .int (n : Int) ∧ n ≤ 100000 ∧ Pl ((List.range n).map fun i => D.int (i : Nat)) j)) (hs : starEach [e] X.env = [(false, eval e X.env)] := by rfl) : Wi X u S0 H0 tg (.Call (.Name "range" p) [e] [] pos) ρ i Pl :=
  pi_mono (pi_range1 hg hm (wa1 (Pl := fun ds j => ∃ n : Nat, ds = [.int (n : Int)] ∧ n ≤ 100000 ∧ Pl ((List.range n).map fun i => D.int (i : Nat)) j) ha (fun x j ⟨n, h1, h2, h3⟩ => ⟨n, by rw [h1], h2, h3⟩) hs) hs) fun σ H R ⟨S, e, rE, w, k⟩ => ⟨S, e, rE, w, fun ds us S1 H1 j ⟨n, hds, hn, hp⟩ s1 w1 r1 => by
    subst hds
    obtain ⟨v, r, rfl, h2, h3⟩ := r1.cons
    rw [h3.nil, h2.int]
    refine ⟨(n : Int), rfl, by omega, by omega, k _ _ S1 H1 j hp s1 w1 (isIt_of_walk (walk_range (n := n)) (by simp) (fun _ _ _ _ => trivial) fun i S' H x H' d hi e1 e2 y hd => ?_)⟩
    obtain ⟨rfl, rfl⟩ := y
    refine ⟨S', Gr.refl e2, ?_⟩
    rw [List.getElem?_map, List.getElem?_range hi] at hd
    have e : D.int (i : Nat) = d := Option.some.inj hd
    rw [← e]
    show Rep S' (D.int (i : Nat)) (V.int (0 + (i : Nat)))
    rw [Int.zero_add]
    exact rep_int⟩
end
end Mh
set_option maxRecDepth 100000
set_option maxHeartbeats 2000000
/-! M10: statements and comprehensions that draw; the list beside the urn. -/
namespace Mh
open PySem PySem.Spec PyProof.Rows L2
open Evl (Ex)
section
variable {X : Cx} {u : Addr} {S0 H0 : Hp} {ρ ρ1 : En} {i j : WI} {P P1 : PW_} {Φ Φ1 : UO → Prop} {x y z d : D} {a b e c : Expr} {es : List Expr} {pos p : Pos} {st : Stmt} {rest : List Stmt}
theorem KU.step {S H S' H' : Hp} {Dn : Ends} (k : KU u S0 H0 i Φ S H Dn) (s : Stp u i j S H S' H') : KU u S0 H0 j Φ S' H' Dn :=
  ⟨fun ρ' j σ' S2 H2 hp s2 w r => k.1 ρ' j σ' S2 H2 hp (s.trans s2) w r, fun d j v S2 H2 hp s2 w r => k.2 d j v S2 H2 hp (s.trans s2) w r⟩
theorem ws_pure (h : Es X st ρ (.nx ρ1)) (hp : Φ (.nx ρ1 i)) : Ws X u S0 H0 st ρ i Φ := ps_mono h fun Dn σ H ⟨S, e, rE, w, k⟩ => ⟨S, e, rE, fun σ' S' H' g r => k.1 ρ1 i σ' S' H' hp g.stp (w.gr g) r⟩
theorem wss_nil (hp : Φ (.nx ρ i)) : Wss X u S0 H0 [] ρ i Φ := pss_mono pss_nil fun Dn σ H ⟨S, e, rE, w, k⟩ => k.1 ρ i σ S H hp (Stp.refl e) w rE
theorem wss_cons (h1 : Ws X u S0 H0 st ρ i Φ1) (hr : ∀ d j, Φ1 (.rt d j) → Φ (.rt d j)) (h2 : ∀ ρ1 j, Φ1 (.nx ρ1 j) → Wss X u S0 H0 rest ρ1 j Φ) : Wss X u S0 H0 (st :: rest) ρ i Φ := by
  have hR : PSs X rest (fun Dn σ H => ∃ q : En × WI, Φ1 (.nx q.1 q.2) ∧ tsW u S0 H0 q.1 q.2 Φ Dn σ H) := pss_some (P := fun q : En × WI => Φ1 (.nx q.1 q.2)) fun q hq => h2 q.1 q.2 hq
  exact pss_mono (pss_cons h1 hR) fun Dn σ H ⟨S, e, rE, w, k⟩ => ⟨S, e, rE, w, fun ρ1 j σ' S' H' hp s w' r => ⟨(ρ1, j), hp, S', s.sh, r, w', k.step s⟩, fun d j v S' H' hp s w' r => k.2 d j v S' H' (hr d j hp) s w' r⟩
theorem wss_pure (h1 : Es X st ρ (.nx ρ1)) (h2 : Wss X u S0 H0 rest ρ1 i Φ) : Wss X u S0 H0 (st :: rest) ρ i Φ :=
  wss_cons (Φ1 := fun o => o = .nx ρ1 i) (ws_pure h1 rfl) (fun _ _ h => nomatch h) fun ρ2 j h => by
    cases h
    exact h2
theorem wss_one (h1 : Ws X u S0 H0 st ρ i Φ) : Wss X u S0 H0 [st] ρ i Φ := pss_one h1
theorem wss_le {ρ' : En} {sts : List Stmt} (l : Le ρ' ρ) (h : Wss X u S0 H0 sts ρ i Φ) : Wss X u S0 H0 sts ρ' i Φ := pss_mono h fun _ _ _ ⟨S, e, rE, w, k⟩ => ⟨S, e, rE.le l, w, k⟩
theorem ws_mono (h : Ws X u S0 H0 st ρ i Φ1) (m : ∀ o, Φ1 o → Φ o) : Ws X u S0 H0 st ρ i Φ := ps_mono h fun Dn σ H ⟨S, e, rE, w, k⟩ => ⟨S, e, rE, w, fun ρ1 j σ' S' H' hp => k.1 ρ1 j σ' S' H' (m _ hp), fun d j v S' H' hp => k.2 d j v S' H' (m _ hp)⟩
theorem wss_mono {sts : List Stmt} (h : Wss X u S0 H0 sts ρ i Φ1) (m : ∀ o, Φ1 o → Φ o) : Wss X u S0 H0 sts ρ i Φ := pss_mono h fun Dn σ H ⟨S, e, rE, w, k⟩ => ⟨S, e, rE, w, fun ρ1 j σ' S' H' hp => k.1 ρ1 j σ' S' H' (m _ hp), fun d j v S' H' hp => k.2 d j v S' H' (m _ hp)⟩
/-- less is known behind -/
theorem wss_to {sts : List Stmt} (h : Wss X u S0 H0 sts ρ i Φ1) (m : ∀ ρ1 j, Φ1 (.nx ρ1 j) → ∃ ρ2, Le ρ1 ρ2 ∧ Φ (.nx ρ2 j)) (mr : ∀ d j, Φ1 (.rt d j) → Φ (.rt d j)) : Wss X u S0 H0 sts ρ i Φ := pss_mono h fun Dn σ H ⟨S, e, rE, w, k⟩ => ⟨S, e, rE, w, fun ρ1 j σ' S' H' hp s w' r => by
  obtain ⟨ρ2, h1, h2⟩ := m ρ1 j hp
  exact k.1 ρ2 j σ' S' H' h2 s w' (r.le h1), fun d j v S' H' hp => k.2 d j v S' H' (mr _ _ hp)⟩
theorem ws_ret (he : Wm X u S0 H0 e ρ i (fun d j => Φ (.rt d j))) : Ws X u S0 H0 (.Return (some e) pos) ρ i Φ := ps_mono (ps_ret he) fun Dn σ H ⟨S, e, rE, w, k⟩ => ⟨S, e, rE, w, fun d v S' H' j hp s w' r => k.2 d j v S' H' hp s w' r⟩
theorem ws_set (k : Nat) (nd : X.N.Nodup) {x : Str} {pos' : Pos} (he : Wm X u S0 H0 e ρ i (fun d j => Φ (.nx (ρ.set k (some d)) j))) (hi : X.N[k]? = some x := by rfl) (hx : Loc X.env.scope x := by first | exact .inl rfl | exact .inr rfl) (hs : swapsWith e (some (.Name x pos')) pos.line X.env = pure false := by rfl) (hf : X.fn x = true ∨ X.env.scope.names.lookup x = some .local := by first | exact .inl rfl | exact .inr rfl) :
    Ws X u S0 H0 (.Assign [.Name x pos'] e pos) ρ i Φ := ps_mono (ps_set nd hi hx he hs hf) fun Dn σ H ⟨S, e, rE, w, kk⟩ => ⟨S, e, rE, w, fun d v S' H' j hp s w' r => kk.1 _ j _ S' H' hp s w' ((rE.mono s.ss).set r)⟩
theorem ws_if {c : Expr} {a b : List Stmt} {Pt : Bool → WI → Prop} (hc : Wt X u S0 H0 c ρ i Pt) (ha : ∀ j, Pt true j → Wss X u S0 H0 a ρ j Φ) (hb : ∀ j, Pt false j → Wss X u S0 H0 b ρ j Φ) : Ws X u S0 H0 (.If c a b pos) ρ i Φ := by
  have hA : PSs X a (fun Dn σ H => ∃ j, Pt true j ∧ tsW u S0 H0 ρ j Φ Dn σ H) := pss_some (P := fun j => Pt true j) ha
  have hB : PSs X b (fun Dn σ H => ∃ j, Pt false j ∧ tsW u S0 H0 ρ j Φ Dn σ H) := pss_some (P := fun j => Pt false j) hb
  refine ps_mono (ps_if hc hA hB) fun Dn σ H ⟨S, e, rE, w, k⟩ => ⟨S, e, rE, w, fun q S1 H1 j hq s1 w1 => ?_⟩
  cases q with
  | true => exact (show ∃ j, Pt true j ∧ tsW u S0 H0 ρ j Φ Dn σ H1 from ⟨j, hq, S1, s1.sh, rE.mono s1.ss, w1, k.step s1⟩)
  | false => exact (show ∃ j, Pt false j ∧ tsW u S0 H0 ρ j Φ Dn σ H1 from ⟨j, hq, S1, s1.sh, rE.mono s1.ss, w1, k.step s1⟩)
/-- a for: Inv by the turn, what is known, where one is; the number of turns may be drawn -/
theorem ws_for {tg iter : Expr} {body : List Stmt} {bd : Bd} {Pl : List D → WI → Prop} (Inv : List D → Nat → En → WI → Prop) (hp : PassesOwn (model X.prog X.w) X.A X.env X.xe) (hc : X.calm = true) (hi : Wi X u S0 H0 tg iter ρ i Pl) (hg : PG X tg (bd.tg X.K)) (h0 : ∀ ds j, Pl ds j → ∃ ρ0, Le ρ ρ0 ∧ Inv ds 0 ρ0 j)
    (hb : ∀ ds j0 k d ρ1 j, Pl ds j0 → ds[k]? = some d → Inv ds k ρ1 j → ∃ ρb, bindE bd ρ1 d = some ρb ∧ Wss X u S0 H0 body ρb j (fun o => ∃ ρ2 j2, o = .nx ρ2 j2 ∧ ∃ ρ3, Le ρ2 ρ3 ∧ Inv ds (k + 1) ρ3 j2)) (hd : ∀ ds j0 ρ1 j, Pl ds j0 → Inv ds ds.length ρ1 j → Φ (.nx ρ1 j))
    (hs : ∀ x, foldedSetIterable iter X.env x = pure x := by intro _; rfl) : Ws X u S0 H0 (.For tg iter body [] pos) ρ i Φ := by
  have hB : PSs X body (fun Dn σ H => ∃ q : List D × Nat × En × WI, (∃ j0 d ρ1, Pl q.1 j0 ∧ q.1[q.2.1]? = some d ∧ Inv q.1 q.2.1 ρ1 q.2.2.2 ∧ bindE bd ρ1 d = some q.2.2.1) ∧ tsW u S0 H0 q.2.2.1 q.2.2.2 (fun o => ∃ ρ2 j2, o = .nx ρ2 j2 ∧ ∃ ρ3, Le ρ2 ρ3 ∧ Inv q.1 (q.2.1 + 1) ρ3 j2) Dn σ H) :=
    pss_some (P := fun q : List D × Nat × En × WI => ∃ j0 d ρ1, Pl q.1 j0 ∧ q.1[q.2.1]? = some d ∧ Inv q.1 q.2.1 ρ1 q.2.2.2 ∧ bindE bd ρ1 d = some q.2.2.1) fun q ⟨j0, d, ρ1, h1, h2, h3, h4⟩ => by
      obtain ⟨ρb, h5, h6⟩ := hb q.1 j0 q.2.1 d ρ1 q.2.2.2 h1 h2 h3
      rw [h4] at h5
      cases h5
      exact h6
  refine ps_mono (ps_for hp hc hi hg hB hs) fun Dn σ H ⟨S, e, rE, w, k⟩ => ⟨S, e, rE, w, fun ds J S1 H1 j0 hpl s1 w1 it => ?_⟩
  obtain ⟨ρ0, hle, hinv⟩ := h0 ds j0 hpl
  refine ⟨fun n m σ' H' => m = ds.length - n ∧ n ≤ ds.length ∧ ∃ S' ρ1 j, Stp u j0 j S1 H1 S' H' ∧ Wld u S0 H0 j.n j.o S' H' ∧ RepE S' ρ1 σ' ∧ Inv ds n ρ1 j, ⟨ds.length, by simp, Nat.zero_le _, S1, ρ0, j0, Stp.refl s1.sh, w1, (rE.mono s1.ss).le hle, hinv⟩, ?_⟩
  rintro n m σ' H' ⟨rfl, hn, S', ρ1, j, s', w', rE', hI⟩
  obtain ⟨it1, it2, it3⟩ := it S' H' s'.ss s'.sh
  by_cases hlt : n < ds.length
  · refine .inr ⟨it1 n hlt, fun σ'' H'' => ∃ S'' ρ1 j, Stp u j0 j S1 H1 S'' H'' ∧ Wld u S0 H0 j.n j.o S'' H'' ∧ RepE S'' ρ1 σ'' ∧ Inv ds (n + 1) ρ1 j, fun σ'' H'' ⟨S'', ρ1, j, z⟩ => ⟨ds.length - (n + 1), by omega, rfl, hlt, S'', ρ1, j, z⟩, fun v H2 y => ?_⟩
    have hd' : ds[n]? = some ds[n] := List.getElem?_eq_getElem hlt
    obtain ⟨S2, g2, r2⟩ := it3 n v H2 hlt y _ hd'
    obtain ⟨ρb, h5, h6⟩ := hb ds j0 n _ ρ1 j hpl hd' hI
    refine bind_ok g2.sh (rE'.mono g2.ss) r2 h5 fun σ2 rE2 _ => ?_
    refine ⟨(ds, n, ρb, j), ⟨j0, _, ρ1, hpl, hd', hI, h5⟩, S2, g2.sh, rE2, w'.gr g2, fun ρ2 j2 σ3 S3 H3 ho s3 w3 r3 => ?_, fun d j v S3 H3 ho => ?_⟩
    · obtain ⟨ρ2', j2', ho, ρ3, hle3, hI3⟩ := ho
      cases ho
      exact ⟨S3, ρ3, _, s'.trans (g2.stp.trans s3), w3, r3.le hle3, hI3⟩
    · obtain ⟨_, _, ho, _⟩ := ho
      cases ho
  · have e1 : n = ds.length := by omega
    subst e1
    exact .inl ⟨it2, k.1 ρ1 j σ' S' H' (hd ds j0 ρ1 j hpl hI) (s1.trans s') w' rE'⟩
/-! a comprehension that draws -/
section
variable {α : Type}
/-- by the turn, what is made so far, where one is -/
structure WLc (X : Cx) (u : Addr) (S0 H0 : Hp) (elt tg iter : Expr) (ifs : List Expr) (scope : Scope) (own : List (Str × Nat)) (b : Bd) (ρ : En) (i : WI) (xs : List α) (φ : α → D) (Inv : Nat → List D → WI → Prop) : Prop where
  calm : X.calm = true
  nd : X.N.Nodup
  it : Ei X tg iter ρ (xs.map φ)
  blk : BlkOk X.N X.env.scope scope own
  len : xs.length ≤ 100000
  sl : ∀ i ∈ b.slots, i ∈ own.map (·.2)
  tgt : ∀ (s : Shared) (H : Hp) (C : Addr) (cl : List (Str × Addr)) (fp : List Addr), PG (X.blk s H scope (compEnvC scope cl C X.env) fp) tg (b.tg X.K)
  start : Inv 0 [] i
  acc : ∀ n l j, Inv n l j → l.length ≤ n
  turn : ∀ n x l j, xs[n]? = some x → Inv n l j → ∃ ρ', bindE b (wipeE ρ (own.map (·.2))) (φ x) = some ρ' ∧ ∃ Pt : Bool → WI → Prop, (∀ j', Pt false j' → Inv (n + 1) l j') ∧ ∀ (s : Shared) (H : Hp) (C : Addr) (cl : List (Str × Addr)) (fp : List Addr),
    PTs (X.blk s H scope (compEnvC scope cl C X.env) fp) ifs (ttW u S0 H0 ρ' j Pt) ∧ ∀ j', Pt true j' → Wm (X.blk s H scope (compEnvC scope cl C X.env) fp) u S0 H0 elt ρ' j' (fun d j2 => Inv (n + 1) (l ++ [d]) j2)
  fs : ∀ x, foldedSetIterable iter X.env x = pure x
/-- where a turn stands -/
structure WTurn (α : Type) where
  n : Nat
  x : α
  l : List D
  j : WI
  ρ : En
  Pt : Bool → WI → Prop
variable {elt tg iter : Expr} {ifs : List Expr} {scope : Scope} {own : List (Str × Nat)} {bd : Bd} {xs : List α} {φ : α → D} {Inv : Nat → List D → WI → Prop}
def WTurn.ok (X : Cx) (u : Addr) (S0 H0 : Hp) (elt : Expr) (ifs : List Expr) (scope : Scope) (own : List (Str × Nat)) (b : Bd) (ρ : En) (xs : List α) (φ : α → D) (Inv : Nat → List D → WI → Prop) (t : WTurn α) : Prop := xs[t.n]? = some t.x ∧ Inv t.n t.l t.j ∧ bindE b (wipeE ρ (own.map (·.2))) (φ t.x) = some t.ρ ∧ (∀ j', t.Pt false j' → Inv (t.n + 1) t.l j') ∧ ∀ (s : Shared) (H : Hp) (C : Addr) (cl : List (Str × Addr)) (fp : List Addr),
    PTs (X.blk s H scope (compEnvC scope cl C X.env) fp) ifs (ttW u S0 H0 t.ρ t.j t.Pt) ∧ ∀ j', t.Pt true j' → Wm (X.blk s H scope (compEnvC scope cl C X.env) fp) u S0 H0 elt t.ρ j' (fun d j2 => Inv (t.n + 1) (t.l ++ [d]) j2)
def ttWC (X : Cx) (u : Addr) (S0 H0 : Hp) (elt : Expr) (ifs : List Expr) (scope : Scope) (own : List (Str × Nat)) (b : Bd) (ρ : En) (xs : List α) (φ : α → D) (Inv : Nat → List D → WI → Prop) : TT := fun σ H Q => ∃ t : WTurn α, t.ok X u S0 H0 elt ifs scope own b ρ xs φ Inv ∧ ttW u S0 H0 t.ρ t.j t.Pt σ H Q
def teWC (X : Cx) (u : Addr) (S0 H0 : Hp) (elt : Expr) (ifs : List Expr) (scope : Scope) (own : List (Str × Nat)) (b : Bd) (ρ : En) (xs : List α) (φ : α → D) (Inv : Nat → List D → WI → Prop) : TE := fun σ H Q => ∃ t : WTurn α × WI, (t.1.ok X u S0 H0 elt ifs scope own b ρ xs φ Inv ∧ t.1.Pt true t.2) ∧ tW u S0 H0 t.1.ρ t.2 (fun d j2 => Inv (t.1.n + 1) (t.1.l ++ [d]) j2) σ H Q
theorem Stp.put {u : Addr} {i j : WI} {S H S' H' : Hp} {D : Addr} {o : HO} (s : Stp u i j S H S' H') (h : H D = none) (hs : S' D = none) : Stp u i j S H S' (upd H' D o) := by
  refine ⟨s.ss, fun a w ha => ?_, fun a w h1 h2 h3 => ?_, s.fr, fun a w h3 => ?_, s.ow⟩
  · have q : a ≠ D := fun z => by
      rw [z, hs] at ha
      cases ha
    rw [upd_ne q]
    exact s.sh a w ha
  · rw [upd_ne (ne_of_none h3 h)]
    exact s.hh a w h1 h2 h3
  · rw [upd_ne (ne_of_none h3 h)]
    exact s.dm a w h3
theorem Wld.put {u : Addr} {S0 H0 : Hp} {n : Nat} {o : Ow} {S H : Hp} {D : Addr} {ob : HO} (w : Wld u S0 H0 n o S H) (hu : D ≠ u) (h0 : H0 D = none) (hs : S D = none) (ho : ∀ q, o = some q → q.1 ≠ D) : Wld u S0 H0 n o S (upd H D ob) := by
  refine ⟨⟨w.gl.ss, fun a u ha => ?_, fun a u h1 h2 => ?_, w.gl.fr⟩, ?_, ?_⟩
  · have q : a ≠ D := fun z => by
      rw [z, hs] at ha
      cases ha
    rw [upd_ne q]
    exact w.gl.sh a u ha
  · rw [upd_ne (ne_of_none h2 h0)]
    exact w.gl.hh a u h1 h2
  · obtain ⟨h1, a1, a2, a3, h2, h3⟩ := w.urn
    exact ⟨h1, a1, a2, a3, by rw [upd_ne (Ne.symm hu)]; exact h2, h3⟩
  · cases o with
    | none => trivial
    | some q =>
      obtain ⟨h1, h2, h3, vs, h4, h5⟩ := w.ow
      exact ⟨h1, h2, h3, vs, by rw [upd_ne (ho q rfl)]; exact h4, h5⟩
theorem wlc_D (L : WLc X u S0 H0 elt tg iter ifs scope own bd ρ i xs φ Inv) {σ : St} {H S : Hp} {Q : VK} (e : Ex S H) (rE : RepE S ρ σ) (w : Wld u S0 H0 i.n i.o S H)
    (k : ∀ D S' H' l acc j, Inv xs.length l j → Stp u i j S H S' H' → Wld u S0 H0 j.n j.o S' H' → H D = none → S' D = none → H' D = some (.lst acc) → RepL S' l acc → D ≠ u → (∀ q, j.o = some q → q.1 ≠ D) → Q (.ref D) H') :
    tLc (tiD ρ (xs.map φ)) (bd.tg X.K) (ttWC X u S0 H0 elt ifs scope own bd ρ xs φ Inv) (teWC X u S0 H0 elt ifs scope own bd ρ xs φ Inv) (own.map (·.2)) σ H Q := by
  refine ⟨S, e, rE, fun J S1 H1 g1 it Dl hD => ?_⟩
  have hlen : (xs.map φ).length = xs.length := List.length_map ..
  have hS1 : S1 Dl = none := none_of_ex g1.sh hD
  have w1 := w.gr g1
  have hDu : Dl ≠ u := fun z => by
    obtain ⟨_, a1, a2, a3, h2, _⟩ := w1.urn
    rw [z, h2] at hD
    cases hD
  have hH : H Dl = none := by
    cases z : H Dl with
    | none => rfl
    | some o =>
      rw [g1.hh Dl o z] at hD
      cases hD
  have hH0 : H0 Dl = none := by
    cases z : H0 Dl with
    | none => rfl
    | some o =>
      have := w.gl.hh Dl o hDu z
      rw [hH] at this
      cases this
  let W : Nat → Hp → Prop := fun n H' => ∃ S' l acc j, Inv n l j ∧ Stp u i j S1 H1 S' H' ∧ Wld u S0 H0 j.n j.o S' H' ∧ S' Dl = none ∧ H' Dl = some (.lst acc) ∧ RepL S' l acc ∧ ∀ q, j.o = some q → q.1 ≠ Dl
  have own0 : ∀ q, i.o = some q → q.1 ≠ Dl := fun q hq z => by
    have := w1.ow
    rw [hq] at this
    obtain ⟨_, _, _, vs, h4, _⟩ := this
    rw [z, hD] at h4
    cases h4
  refine ⟨fun n m H' => m = xs.length - n ∧ n ≤ xs.length ∧ W n H', ⟨xs.length, by simp, Nat.zero_le _, S1, [], [], i, L.start, (Stp.refl g1.sh).put hD hS1, w1.put hDu hH0 hS1 own0, hS1, upd_same, repL_nil, own0⟩, ?_⟩
  rintro n m H' ⟨rfl, hn, S', l, acc, j, hI, s', w', hSD, hHD, racc, hod⟩
  obtain ⟨it1, it2, it3⟩ := it S' H' s'.ss s'.sh
  by_cases hlt : n < xs.length
  · refine .inr ⟨it1 n (by rw [hlen]; exact hlt), W (n + 1), fun H'' w => ⟨xs.length - (n + 1), by omega, rfl, hlt, w⟩, fun v H2 y => ?_⟩
    have hx : xs[n]? = some xs[n] := List.getElem?_eq_getElem hlt
    obtain ⟨S2, g2, r2⟩ := it3 n v H2 (by rw [hlen]; exact hlt) y (φ xs[n]) (by rw [List.getElem?_map, hx] <;> rfl)
    have rw2 : RepE S2 (wipeE ρ (own.map (·.2))) (wipe σ (own.map (·.2))) := (rE.mono (g1.ss.trans (s'.ss.trans g2.ss))).wipe _
    obtain ⟨ρ', hb, Pt, hpf, hturn⟩ := L.turn n xs[n] l j hx hI
    refine bind_ok g2.sh rw2 r2 hb fun σ2 rE2 hw => ⟨by have := hw _ L.sl; rw [wipe_idem] at this; exact this, ?_⟩
    refine ⟨⟨n, xs[n], l, j, ρ', Pt⟩, ⟨hx, hI, hb, hpf, hturn⟩, S2, g2.sh, rE2, w'.gr g2, fun q S3 H3 j3 hq s3 w3 => ?_⟩
    have s13 : Stp u j j3 S' H' S3 H3 := g2.stp.trans s3
    have hoff : ∀ q, j.o = some q → Dl ≠ q.1 := fun q hq => (hod q hq).symm
    have hS3 : S3 Dl = none := s13.fr Dl _ hDu hoff hSD hHD ntl
    have hH3 : H3 Dl = some (.lst acc) := s13.hh Dl _ hDu hoff hHD
    have hod3 : ∀ q, j3.o = some q → q.1 ≠ Dl := fun q hq z => by
      rcases s13.ow q hq with ⟨q0, h3, h4⟩ | h3
      · exact hod q0 h3 (h4.trans z)
      · rw [z, hHD] at h3
        cases h3
    cases q with
    | true =>
      show teWC X u S0 H0 elt ifs scope own bd ρ xs φ Inv σ2 H3 _
      refine ⟨(⟨n, xs[n], l, j, ρ', Pt⟩, j3), ⟨⟨hx, hI, hb, hpf, hturn⟩, hq⟩, S3, s3.sh, rE2.mono s3.ss, w3, fun d v4 S4 H4 j4 hd s4 w4 r4 => ?_⟩
      have hoff3 : ∀ q, j3.o = some q → Dl ≠ q.1 := fun q hq => (hod3 q hq).symm
      have hS4 : S4 Dl = none := s4.fr Dl _ hDu hoff3 hS3 hH3 ntl
      have hH4 : H4 Dl = some (.lst acc) := s4.hh Dl _ hDu hoff3 hH3
      have hod4 : ∀ q, j4.o = some q → q.1 ≠ Dl := fun q hq z => by
        rcases s4.ow q hq with ⟨q0, h3, h4⟩ | h3
        · exact hod3 q0 h3 (h4.trans z)
        · rw [z, hH3] at h3
          cases h3
      refine ⟨acc, hH4, ?_, S4, l ++ [d], acc ++ [v4], j4, hd, (s'.trans (s13.trans s4)).put hD hS4, w4.put hDu hH0 hS4 hod4, hS4, upd_same, (racc.mono (s13.trans s4).ss).append (repL_cons r4 repL_nil), hod4⟩
      have q1 := racc.length
      have q2 := L.acc n l j hI
      have q3 := L.len
      exact Nat.lt_of_lt_of_le (show acc.length < 100000 by omega) (by decide)
    | false =>
      show W (n + 1) H3
      exact ⟨S3, l, acc, j3, hpf j3 hq, s'.trans s13, w3, hS3, hH3, racc.mono s13.ss, hod3⟩
  · have e1 : n = xs.length := by omega
    subst e1
    exact .inl ⟨by rw [hlen] at it2; exact it2, k Dl S' H' l acc j hI (g1.stp.trans s') w' hH hSD hHD racc hDu hod⟩
theorem WLc.get (L : WLc X u S0 H0 elt tg iter ifs scope own bd ρ i xs φ Inv) :
    (∀ (s : Shared) (H : Hp) (C : Addr) (cl : List (Str × Addr)) (fp : List Addr), PTs (X.blk s H scope (compEnvC scope cl C X.env) fp) ifs (ttWC X u S0 H0 elt ifs scope own bd ρ xs φ Inv)) ∧
      (∀ (s : Shared) (H : Hp) (C : Addr) (cl : List (Str × Addr)) (fp : List Addr), PE (X.blk s H scope (compEnvC scope cl C X.env) fp) elt (teWC X u S0 H0 elt ifs scope own bd ρ xs φ Inv)) :=
  ⟨fun s H C cl fp => pts_some (P := fun t : WTurn α => t.ok X u S0 H0 elt ifs scope own bd ρ xs φ Inv) fun t ht => (ht.2.2.2.2 s H C cl fp).1,
    fun s H C cl fp => pe_some (P := fun t : WTurn α × WI => t.1.ok X u S0 H0 elt ifs scope own bd ρ xs φ Inv ∧ t.1.Pt true t.2) fun t ht => (ht.1.2.2.2.2 s H C cl fp).2 t.2 ht.2⟩
theorem Stp.fix {u : Addr} {i j : WI} {S H S' H' : Hp} {D : Addr} {o : HO} (s : Stp u i j S H S' H') (h : H D = none) (hs : S' D = none) (hd : H' D = some o) : Stp u i j S H (upd S' D o) H' := by
  obtain ⟨e1, e2⟩ := Ex.fix s.sh hs hd
  refine ⟨s.ss.trans e1, e2, s.hh, fun a w h1 h2 h3 h4 n => ?_, s.dm, s.ow⟩
  rw [upd_ne (ne_of_none h4 h)]
  exact s.fr a w h1 h2 h3 h4 n
theorem Wld.fix {u : Addr} {S0 H0 : Hp} {n : Nat} {o : Ow} {S H : Hp} {D : Addr} {ob : HO} (w : Wld u S0 H0 n o S H) (hu : D ≠ u) (h0 : H0 D = none) (hs : S D = none) (hd : H D = some ob) (ho : ∀ q, o = some q → q.1 ≠ D) : Wld u S0 H0 n o (upd S D ob) H := by
  obtain ⟨e1, e2⟩ := Ex.fix w.gl.sh hs hd
  refine ⟨⟨w.gl.ss.trans e1, e2, w.gl.hh, fun a u h1 h2 h3 n => ?_⟩, ?_, ?_⟩
  · rw [upd_ne (ne_of_none h3 h0)]
    exact w.gl.fr a u h1 h2 h3 n
  · obtain ⟨h1, a1, a2, a3, h2, h3⟩ := w.urn
    exact ⟨by rw [upd_ne (Ne.symm hu)]; exact h1, a1, a2, a3, h2, h3⟩
  · cases o with
    | none => trivial
    | some q =>
      obtain ⟨h1, h2, h3, vs, h4, h5⟩ := w.ow
      exact ⟨h1, h2, by rw [upd_ne (ho q rfl)]; exact h3, vs, h4, h5.mono e1⟩
theorem Wld.h0 {u : Addr} {S0 H0 : Hp} {n : Nat} {o : Ow} {S H : Hp} {D : Addr} (w : Wld u S0 H0 n o S H) (h : H D = none) (hu : D ≠ u) : H0 D = none := by
  cases z : H0 D with
  | none => rfl
  | some o =>
    have := w.gl.hh D o hu z
    rw [h] at this
    cases this
theorem w_lc {pos : Pos} (L : WLc X u S0 H0 elt tg iter ifs scope own bd ρ i xs φ Inv) (hP : ∀ l j, Inv xs.length l j → P (.lst l) j) : Wm X u S0 H0 (.ListComp elt [⟨tg, iter, ifs, 0⟩] scope pos) ρ i P := by
  obtain ⟨h2, h3⟩ := L.get
  exact pe_mono (pe_lc L.calm L.nd L.it L.blk L.tgt h2 h3 L.fs) fun σ H Q ⟨S, e, rE, w, k⟩ => wlc_D L e rE w fun D S' H' l acc j hI s w' hD hS hH r hu ho =>
    k (.lst l) (.ref D) _ H' j (hP l j hI) (s.fix hD hS hH) (w'.fix hu (w.h0 hD hu) hS hH ho) (rep_lst upd_same (r.mono (Ex.new hS)))
/-- name = [..], the name a local -/
theorem ws_setLc {k : Nat} {y : Str} {py : Pos} {pos spos : Pos} (hy : X.N[k]? = some y) (hyl : X.env.scope.names.lookup y = some .local)
    (hsw : swapsWith (.ListComp elt [⟨tg, iter, ifs, 0⟩] scope pos) (some (.Name y py)) spos.line X.env = pure true) (L : WLc X u S0 H0 elt tg iter ifs scope own bd ρ i xs φ Inv) (hP : ∀ l j, Inv xs.length l j → Φ (.nx (ρ.set k (some (.lst l))) j)) :
    Ws X u S0 H0 (.Assign [.Name y py] (.ListComp elt [⟨tg, iter, ifs, 0⟩] scope pos) spos) ρ i Φ := by
  obtain ⟨h2, h3⟩ := L.get
  exact ps_mono (L2.ps_setLc L.calm L.nd hy hyl hsw L.it L.blk L.tgt h2 h3 L.fs) fun Dn σ H ⟨S, e, rE, w, kk⟩ => wlc_D L e rE w fun D S' H' l acc j hI s w' hD hS hH r hu ho =>
    kk.1 _ j _ _ H' (hP l j hI) (s.fix hD hS hH) (w'.fix hu (w.h0 hD hu) hS hH ho) ((rE.mono (s.ss.trans (Ex.new hS))).set (rep_lst upd_same (r.mono (Ex.new hS))))
/-- name = [..], the list to be changed later: none is held ahead -/
theorem ws_setLcO {k : Nat} {y : Str} {py : Pos} {pos spos : Pos} (hy : X.N[k]? = some y) (hyl : X.env.scope.names.lookup y = some .local)
    (hsw : swapsWith (.ListComp elt [⟨tg, iter, ifs, 0⟩] scope pos) (some (.Name y py)) spos.line X.env = pure true) (L : WLc X u S0 H0 elt tg iter ifs scope own bd ρ i xs φ Inv) (hN : ∀ l j, Inv xs.length l j → j.o = none) (hP : ∀ D l j, Inv xs.length l j → Φ (.nx (ρ.set k (some (.val (.ref D)))) ⟨j.n, some (D, l)⟩)) :
    Ws X u S0 H0 (.Assign [.Name y py] (.ListComp elt [⟨tg, iter, ifs, 0⟩] scope pos) spos) ρ i Φ := by
  obtain ⟨h2, h3⟩ := L.get
  exact ps_mono (L2.ps_setLc L.calm L.nd hy hyl hsw L.it L.blk L.tgt h2 h3 L.fs) fun Dn σ H ⟨S, e, rE, w, kk⟩ => wlc_D L e rE w fun D S' H' l acc j hI s w' hD hS hH r hu ho => by
    refine kk.1 _ ⟨j.n, some (D, l)⟩ _ S' H' (hP D l j hI) ⟨s.ss, s.sh, s.hh, s.fr, s.dm, fun q hq => ?_⟩ ⟨w'.gl, w'.urn, ?_⟩ ((rE.mono s.ss).set rep_val)
    · have e : (D, l) = q := Option.some.inj hq
      rw [← e]
      exact Or.inr hD
    · exact ⟨hu, w.h0 hD hu, hS, acc, hH, r⟩
end
/-! the list beside the urn -/
/-- from here on the list is fixed -/
theorem wss_fix {l : Addr} {ds : List D} {n k : Nat} {sts : List Stmt} (hk : ρ[k]? = some (some (.val (.ref l)))) (h : Wss X u S0 H0 sts (ρ.set k (some (.lst ds))) ⟨n, none⟩ Φ) : Wss X u S0 H0 sts ρ ⟨n, some (l, ds)⟩ Φ := pss_mono h fun Dn σ H ⟨S, e, rE, w, kk⟩ => by
  obtain ⟨h1, h2, h3, vs, h4, h5⟩ := w.ow
  obtain ⟨e1, e2⟩ := Ex.fix e h3 h4
  have hl : k < ρ.length := (List.getElem?_eq_some_iff.mp hk).1
  obtain ⟨v, hv, rv⟩ := rE.at_ k _ hk
  have w2 : Wld u S0 H0 n none S H := ⟨w.gl, w.urn, trivial⟩
  have stp : ∀ {j : WI} {S' H' : Hp}, Stp u ⟨n, none⟩ j (upd S l (.lst vs)) H S' H' → Stp u ⟨n, some (l, ds)⟩ j S H S' H' := fun s => ⟨e1.trans s.ss, s.sh, fun a o h1 _ h2 => s.hh a o h1 (fun q hq => nomatch hq) h2, fun a o h1 hq h2 h3 n => s.fr a o h1 (fun q hq => nomatch hq) (by rw [upd_ne (hq (l, ds) rfl)]; exact h2) h3 n, s.dm, fun q hq => by
    rcases s.ow q hq with ⟨q0, h, _⟩ | h
    · cases h
    · exact Or.inr h⟩
  refine ⟨upd S l (.lst vs), e2, ?_, w2.fix h1 h2 h3 h4 (fun q hq => nomatch hq), fun ρ' j σ' S' H' hp s w' r => kk.1 ρ' j σ' S' H' hp (stp s) w' r, fun d j v S' H' hp s w' r => kk.2 d j v S' H' hp (stp s) w' r⟩
  refine ⟨by rw [List.length_set]; exact rE.len, fun a d' q => ?_⟩
  by_cases hij : k = a
  · subst hij
    rw [List.getElem?_set, if_pos rfl, if_pos hl] at q
    cases q
    exact ⟨v, hv, by rw [rv.val]; exact rep_lst upd_same (h5.mono e1)⟩
  · rw [List.getElem?_set_ne hij] at q
    obtain ⟨u, h3, h4⟩ := rE.at_ a d' q
    exact ⟨u, h3, h4.mono e1⟩
/-- name = a list just made (of values that stand), to be changed later -/
theorem ws_own {l0 : List D} {k : Nat} {n : Nat} (nd : X.N.Nodup) {x : Str} {pos' : Pos} {t : TE} (he : PE X e t) (ht : ∀ σ H (Q : VK), (∃ S, Ex S H ∧ RepE S ρ σ ∧ ∀ l vs S' H', Gr S H S' H' → H' l = none → RepL S' l0 vs → Q (.ref l) (upd H' l (.lst vs))) → t σ H Q) (hP : ∀ l, Φ (.nx (ρ.set k (some (.val (.ref l)))) ⟨n, some (l, l0)⟩)) (hi : X.N[k]? = some x := by rfl) (hx : Loc X.env.scope x := by first | exact .inl rfl | exact .inr rfl) (hs : swapsWith e (some (.Name x pos')) pos.line X.env = pure false := by rfl) (hf : X.fn x = true ∨ X.env.scope.names.lookup x = some .local := by first | exact .inl rfl | exact .inr rfl) :
    Ws X u S0 H0 (.Assign [.Name x pos'] e pos) ρ ⟨n, none⟩ Φ := ps_mono (ps_set nd hi hx he hs hf) fun Dn σ H ⟨S, e, rE, w, kk⟩ => ht σ H _ ⟨S, e, rE, fun l vs S' H' g hl r => by
  have w1 := w.gr g
  have hS : S' l = none := none_of_ex g.sh hl
  have hlu : l ≠ u := fun z => by
    obtain ⟨_, a1, a2, a3, h2, _⟩ := w1.urn
    rw [z, h2] at hl
    cases hl
  have h0 := w1.h0 hl hlu
  have s : Stp u ⟨n, none⟩ ⟨n, none⟩ S H S' (upd H' l (.lst vs)) := (g.stp).trans ((Stp.refl g.sh).put hl hS)
  have hHl : H l = none := by
    cases z : H l with
    | none => rfl
    | some o =>
      rw [g.hh l o z] at hl
      cases hl
  have w2 := w1.put (ob := .lst vs) hlu h0 hS (fun q hq => nomatch hq)
  refine kk.1 _ ⟨n, some (l, l0)⟩ _ S' _ (hP l) ⟨s.ss, s.sh, fun a o h1 _ h2 => s.hh a o h1 (fun q hq => nomatch hq) h2, fun a o h1 _ h2 h3 n => s.fr a o h1 (fun q hq => nomatch hq) h2 h3 n, s.dm, fun q hq => ?_⟩ ⟨w2.gl, w2.urn, hlu, h0, hS, vs, upd_same, r⟩ ((rE.mono g.ss).set rep_val)
  have e : (l, l0) = q := Option.some.inj hq
  rw [← e]
  exact Or.inr hHl⟩
end
end Mh
set_option maxRecDepth 100000
set_option maxHeartbeats 2000000
/-! M11: the list beside the urn is read and changed; defs that draw. -/
namespace Mh
open PySem PySem.Spec PyProof.Rows L2
open Evl (Ex)
def flatD : D → Bool
  | .int _ => true
  | .bl _ => true
  | .non => true
  | .str _ => true
  | .val _ => true
  | _ => false
theorem flat_rep {d : D} {S S' : Hp} {v : V} (h : flatD d = true) (r : Rep S d v) : Rep S' d v := by
  cases d with
  | int i => rw [r.int]; exact rep_int
  | bl b => rw [r.bl]; exact rep_bl
  | non => rw [r.non]; exact rep_non
  | str x => rw [r.str]; exact rep_str
  | val u => rw [r.val]; exact rep_val
  | tup l => cases h
  | lst l => cases h
  | obj c ns l => cases h
  | scr K ns => cases h
  | ext a P m => cases h
/-- without the thing at l -/
def less1 (S : Hp) (l : Addr) : Hp := fun a => if a = l then none else S a
theorem less1_same {S : Hp} {l : Addr} : less1 S l l = none := if_pos rfl
theorem less1_ne {S : Hp} {l a : Addr} (h : a ≠ l) : less1 S l a = S a := if_neg h
section
variable {X : Cx} {u l : Addr} {S0 H0 : Hp} {ρ ρ1 : En} {i j : WI} {P P1 : PW_} {Φ Φ1 : UO → Prop} {x y z d : D} {a b e c : Expr} {es : List Expr} {pos p : Pos} {st : Stmt} {rest : List Stmt} {ds : List D} {n k : Nat}
theorem peek {σ : St} {S H : Hp} (hk : ρ[k]? = some (some (.val (.ref l)))) (e : Ex S H) (rE : RepE S ρ σ) (w : Wld u S0 H0 n (some (l, ds)) S H) :
    ∃ S1, Ex S1 H ∧ RepE S1 (ρ.set k (some (.lst ds))) σ ∧ ∀ S' H', Gr S1 H S' H' → Stp u ⟨n, some (l, ds)⟩ ⟨n, some (l, ds)⟩ S H (less1 S' l) H' ∧ Wld u S0 H0 n (some (l, ds)) (less1 S' l) H' := by
  obtain ⟨h1, h2, h3, vs, h4, h5⟩ := w.ow
  obtain ⟨e1, e2⟩ := Ex.fix e h3 h4
  have hl : k < ρ.length := (List.getElem?_eq_some_iff.mp hk).1
  obtain ⟨v, hv, rv⟩ := rE.at_ k _ hk
  refine ⟨upd S l (.lst vs), e2, ⟨by rw [List.length_set]; exact rE.len, fun a d' q => ?_⟩, fun S' H' g => ?_⟩
  · by_cases hij : k = a
    · subst hij
      rw [List.getElem?_set, if_pos rfl, if_pos hl] at q
      cases q
      exact ⟨v, hv, by rw [rv.val]; exact rep_lst upd_same (h5.mono e1)⟩
    · rw [List.getElem?_set_ne hij] at q
      obtain ⟨u, h3, h4⟩ := rE.at_ a d' q
      exact ⟨u, h3, h4.mono e1⟩
  · have ss : Ex S (less1 S' l) := fun a o ha => by
      have q : a ≠ l := fun z => by
        rw [z, h3] at ha
        cases ha
      rw [less1_ne q]
      exact g.ss a o (e1 a o ha)
    have sh : Ex (less1 S' l) H' := fun a o ha => by
      by_cases q : a = l
      · rw [q, less1_same] at ha
        cases ha
      · rw [less1_ne q] at ha
        exact g.sh a o ha
    have fr : ∀ a o, a ≠ l → S a = none → H a = some o → NT o → less1 S' l a = none := fun a o q h h' n => by
      rw [less1_ne q]
      exact g.fr a o (by rw [upd_ne q]; exact h) h' n
    refine ⟨⟨ss, sh, fun a o _ _ h => g.hh a o h, fun a o _ hq h h' n => fr a o (hq (l, ds) rfl) h h' n, fun a o h => ⟨o, g.hh a o h⟩, fun q h => Or.inl ⟨q, h, rfl⟩⟩, ⟨⟨w.gl.ss.trans ss, sh, fun a o h h' => g.hh a o (w.gl.hh a o h h'), fun a o h h' h'' n => fr a o (ne_of_none h'' h2) (w.gl.fr a o h h' h'' n) (w.gl.hh a o h h'') n⟩, ?_, ?_⟩⟩
    · obtain ⟨q1, a1, a2, a3, q2, q3⟩ := w.urn
      exact ⟨fr u _ (Ne.symm h1) q1 q2 ntl, a1, a2, a3, g.hh u _ q2, q3⟩
    · exact ⟨h1, h2, less1_same, vs, g.hh l _ h4, h5.mono ss⟩
theorem w_peek (k : Nat) (h : Em X e (ρ.set k (some (.lst ds))) d) (hf : flatD d = true) (hp : P d ⟨n, some (l, ds)⟩) (hk : ρ[k]? = some (some (.val (.ref l))) := by rfl) : Wm X u S0 H0 e ρ ⟨n, some (l, ds)⟩ P := pe_mono h fun σ H Q ⟨S, e, rE, w, kk⟩ => by
  obtain ⟨S1, e1, rE1, h1⟩ := peek hk e rE w
  refine ⟨S1, e1, rE1, fun v S' H' g r => ?_⟩
  obtain ⟨s, w'⟩ := h1 S' H' g
  exact kk d v _ H' _ hp s w' (flat_rep hf r)
theorem wt_peek (k : Nat) {q : Bool} {Pt : Bool → WI → Prop} (h : Et X e (ρ.set k (some (.lst ds))) q) (hp : Pt q ⟨n, some (l, ds)⟩) (hk : ρ[k]? = some (some (.val (.ref l))) := by rfl) : Wt X u S0 H0 e ρ ⟨n, some (l, ds)⟩ Pt := pt_mono h fun σ H Q ⟨S, e, rE, w, kk⟩ => by
  obtain ⟨S1, e1, rE1, h1⟩ := peek hk e rE w
  refine ⟨S1, e1, rE1, fun S' H' g => ?_⟩
  obtain ⟨s, w'⟩ := h1 S' H' g
  exact kk q _ H' _ hp s w'
theorem Wld.wr {S H : Hp} {vs : List V} {ds' : List D} (w : Wld u S0 H0 n (some (l, ds)) S H) (r : RepL S ds' vs) : Wld u S0 H0 n (some (l, ds')) S (upd H l (.lst vs)) ∧ Stp u ⟨n, some (l, ds)⟩ ⟨n, some (l, ds')⟩ S H S (upd H l (.lst vs)) := by
  obtain ⟨h1, h2, h3, ws, h4, h5⟩ := w.ow
  have sh : Ex S (upd H l (.lst vs)) := fun a u ha => by
    have q : a ≠ l := fun z => by
      rw [z, h3] at ha
      cases ha
    rw [upd_ne q]
    exact w.gl.sh a u ha
  refine ⟨⟨⟨w.gl.ss, sh, fun a u q1 q2 => by rw [upd_ne (ne_of_none q2 h2)]; exact w.gl.hh a u q1 q2, w.gl.fr⟩, ?_, h1, h2, h3, vs, upd_same, r⟩, ⟨Ex.refl S, sh, fun a o _ q h => by rw [upd_ne (q (l, ds) rfl)]; exact h, fun a o _ _ h _ _ => h, fun a o h => ?_, fun q hq => Or.inl ⟨(l, ds), rfl, ?_⟩⟩⟩
  · obtain ⟨q1, a1, a2, a3, q2, q3⟩ := w.urn
    exact ⟨q1, a1, a2, a3, by rw [upd_ne (Ne.symm h1)]; exact q2, q3⟩
  · by_cases q : a = l
    · exact ⟨_, by rw [q, upd_same]⟩
    · exact ⟨o, by rw [upd_ne q]; exact h⟩
  · have e : (l, ds') = q := Option.some.inj hq
    rw [← e]
/-- xs.append(e) -/
theorem ws_app {cpos apos : Pos} (ho : Em X a ρ (.val (.ref l))) (he : Wm X u S0 H0 e ρ i (fun d j => j.o = some (l, ds) ∧ Φ (.nx ρ ⟨j.n, some (l, ds ++ [d])⟩))) (hz : ds.length < 100000) (hi : i.o = some (l, ds)) (hbase : attributeBase a "append" X.env (eval a X.env) = eval a X.env := by rfl)
    (hfew : ((backTo cpos (starEach [e] X.env)).all (fun x => !x.1) && (backToKw cpos (keywordEach [] X.env)).all (fun x => x.1.isSome) && decide ([e].length + ([] : List Keyword).length + (if ([] : List Keyword).isEmpty then 0 else 1) < 30)) = true := by rfl)
    (hline : (apos.endLine == cpos.line) = true := by rfl) (hs : starEach [e] X.env = (false, eval e X.env) :: starEach [] X.env := by rfl) (hplain : (backTo cpos (starEach [] X.env)).any (·.1) = false := by rfl) (hsw : swapsWith (.Call (.Attribute a "append" apos) [e] [] cpos) none pos.line X.env = pure false := by rfl) :
    Ws X u S0 H0 (.Expr (.Call (.Attribute a "append" apos) [e] [] cpos) pos) ρ i Φ :=
  ps_mono (ps_expr (pe_bm PySem.F.plainAttrs_list PySem.F.slot_list_append PySem.F.type_list_append mt_append ho (wa1 (Pl := fun dl j => ∃ d, dl = [d] ∧ j.o = some (l, ds) ∧ Φ (.nx ρ ⟨j.n, some (l, ds ++ [d])⟩)) he (fun d j h => ⟨d, rfl, h⟩) hs) hbase hfew hline hs hplain) hsw) fun Dn σ H ⟨S, e, rE, w, k⟩ => ⟨S, e, rE, fun v S1 H1 g1 r1 => by
    rw [r1.val]
    have w1 := w.gr g1
    obtain ⟨q1, q2, q3, vs, q4, q5⟩ := (show OwS u H0 (some (l, ds)) S1 H1 from hi ▸ w1.ow)
    refine ⟨Or.inl ⟨rfl, vs, SqL.of q4⟩, S1, g1.sh, rE.mono g1.ss, w1, fun dl ws S2 H2 j ⟨d, hdl, hj, hΦ⟩ s2 w2 r2 => ?_⟩
    subst hdl
    obtain ⟨w', rfl, r3⟩ := one_rep r2
    obtain ⟨jn, jo⟩ := j
    have hj : jo = some (l, ds) := hj
    subst hj
    obtain ⟨p1, p2, p3, vs2, p4, p5⟩ := w2.ow
    obtain ⟨w3, s3⟩ := w2.wr (vs := vs2 ++ [w']) (ds' := ds ++ [d]) (p5.append (repL_cons r3 repL_nil))
    exact ⟨l, vs2, w', rfl, rfl, p4, Evl.sz_lt (by rw [← p5.length]; exact hz), k.1 ρ ⟨jn, some (l, ds ++ [d])⟩ σ S2 _ hΦ (g1.stp.trans (s2.trans s3)) w3 (rE.mono (g1.ss.trans s2.ss))⟩⟩
/-- xs.pop(i) -/
theorem w_pop {cpos apos : Pos} (ho : Em X a ρ (.val (.ref l))) (he : Wm X u S0 H0 e ρ i (fun x j => ∃ (m : Nat) (d : D), x = .int (m : Int) ∧ ds[m]? = some d ∧ j.o = some (l, ds) ∧ P d ⟨j.n, some (l, ds.eraseIdx m)⟩)) (hz : ds.length < 100000) (hi : i.o = some (l, ds)) (hbase : attributeBase a "pop" X.env (eval a X.env) = eval a X.env := by rfl)
    (hfew : ((backTo cpos (starEach [e] X.env)).all (fun x => !x.1) && (backToKw cpos (keywordEach [] X.env)).all (fun x => x.1.isSome) && decide ([e].length + ([] : List Keyword).length + (if ([] : List Keyword).isEmpty then 0 else 1) < 30)) = true := by rfl)
    (hline : (apos.endLine == cpos.line) = true := by rfl) (hs : starEach [e] X.env = (false, eval e X.env) :: starEach [] X.env := by rfl) (hplain : (backTo cpos (starEach [] X.env)).any (·.1) = false := by rfl) :
    Wm X u S0 H0 (.Call (.Attribute a "pop" apos) [e] [] cpos) ρ i P :=
  pe_mono (pe_bm PySem.F.plainAttrs_list PySem.F.slot_list_pop PySem.F.type_list_pop mt_popAt ho (wa1 (Pl := fun dl j => ∃ (x : D) (m : Nat) (d : D), dl = [x] ∧ x = .int (m : Int) ∧ ds[m]? = some d ∧ j.o = some (l, ds) ∧ P d ⟨j.n, some (l, ds.eraseIdx m)⟩) he (fun x j ⟨m, d, h⟩ => ⟨x, m, d, rfl, h⟩) hs) hbase hfew hline hs hplain) fun σ H Q ⟨S, e, rE, w, k⟩ => ⟨S, e, rE, fun v S1 H1 g1 r1 => by
    rw [r1.val]
    have w1 := w.gr g1
    obtain ⟨q1, q2, q3, vs, q4, q5⟩ := (show OwS u H0 (some (l, ds)) S1 H1 from hi ▸ w1.ow)
    refine ⟨Or.inl ⟨rfl, vs, SqL.of q4⟩, S1, g1.sh, rE.mono g1.ss, w1, fun dl ws S2 H2 j ⟨x, m, d, hdl, hx, hm, hj, hP⟩ s2 w2 r2 => ?_⟩
    subst hdl hx
    obtain ⟨w', rfl, r3⟩ := one_rep r2
    obtain ⟨jn, jo⟩ := j
    have hj : jo = some (l, ds) := hj
    subst hj
    obtain ⟨p1, p2, p3, vs2, p4, p5⟩ := w2.ow
    obtain ⟨y, hy, ry⟩ := p5.get hm
    have hml := (List.getElem?_eq_some_iff.mp hm).1
    have key : ∀ {ds : List D} {vs : List V} {m : Nat}, RepL S2 ds vs → RepL S2 (ds.eraseIdx m) (vs.eraseIdx m) := by
      intro ds
      induction ds with
      | nil => intro vs m r; rw [r.nil]; exact repL_nil
      | cons d ds ih =>
        intro vs m r
        obtain ⟨v, r', rfl, h2, h3⟩ := r.cons
        cases m with
        | zero => exact h3
        | succ m => exact repL_cons h2 (ih h3)
    obtain ⟨w3, s3⟩ := w2.wr (vs := vs2.eraseIdx m) (ds' := ds.eraseIdx m) (key p5)
    refine ⟨l, vs2, (m : Int), m, y, rfl, by rw [r3.int], p4, by omega, by omega, seqIndex_of (by omega) (by have hl5 : ds.length = vs2.length := p5.length; omega) |>.trans (by simp), hy, k d y S2 _ ⟨jn, some (l, ds.eraseIdx m)⟩ hP (g1.stp.trans (s2.trans s3)) w3 ry⟩⟩
/-- xs[i] = e -/
theorem ws_item {io ix : Expr} {sp : Pos} {P2 : D → WI → PW_} (he : Wm X u S0 H0 e ρ i P1) (ho : Em X io ρ (.val (.ref l))) (hi : ∀ d j, P1 d j → Wm X u S0 H0 ix ρ j (P2 d j)) (hd : ∀ d j x k, P1 d j → P2 d j x k → ∃ m : Nat, x = .int (m : Int) ∧ m < ds.length ∧ k.o = some (l, ds) ∧ Φ (.nx ρ ⟨k.n, some (l, ds.set m d)⟩))
    (hsub : ∀ v, assign (.Subscript io ix sp) X.env v = (do
      let ov ← holding [v] (eval io X.env)
      let iv ← holding [v, ov] (eval ix X.env)
      standAt sp
      holding [v, ov, iv] (setItem ov iv v)
      release [v, ov, iv] []) := by intro _; rfl) (hs : swapsWithSole [.Subscript io ix sp] e pos.line X.env = pure false := by rfl) (hw : swappedStores [.Subscript io ix sp] e X.env = pure none := by rfl)
    (h1 : (assignEach [.Subscript io ix sp] X.env).map (·.2) = [assign (.Subscript io ix sp) X.env] := by rfl) : Ws X u S0 H0 (.Assign [.Subscript io ix sp] e pos) ρ i Φ := by
  have hO : PE X io (fun σ H Q => ∃ S, Ex S H ∧ RepE S ρ σ ∧ ∀ S' H', Gr S H S' H' → Q (.ref l) H') := pe_mono ho fun σ H Q ⟨S, e, rE, k⟩ => ⟨S, e, rE, fun v S' H' g r => by
    rw [r.val]
    exact k S' H' g⟩
  have hI : PE X ix (fun σ H Q => ∃ q : D × WI, P1 q.1 q.2 ∧ tW u S0 H0 ρ q.2 (P2 q.1 q.2) σ H Q) := w_snd hi
  refine ps_mono (ps_asg he (pg_sub hO hI set_list hsub) hs hw h1) fun Dn σ H ⟨S, e, rE, w, kk⟩ => ⟨S, e, rE, w, fun d v S1 H1 j hp s1 w1 r1 => ⟨S1, s1.sh, rE.mono s1.ss, fun S2 H2 g2 => ⟨(d, j), hp, S2, g2.sh, rE.mono (s1.ss.trans g2.ss), w1.gr g2, fun x vx S3 H3 j3 hp3 s3 w3 r3 => ?_⟩⟩⟩
  obtain ⟨m, hx, hm, ho3, hΦ⟩ := hd d j x j3 hp hp3
  subst hx
  obtain ⟨jn, jo⟩ := j3
  have ho3 : jo = some (l, ds) := ho3
  subst ho3
  obtain ⟨p1, p2, p3, vs2, p4, p5⟩ := w3.ow
  have key : ∀ {ds : List D} {vs : List V} {m : Nat} {d : D} {v : V}, RepL S3 ds vs → Rep S3 d v → RepL S3 (ds.set m d) (vs.set m v) := by
    intro ds
    induction ds with
    | nil => intro vs m d v r _; rw [r.nil]; exact repL_nil
    | cons d ds ih =>
      intro vs m d' v' r rd
      obtain ⟨v, r', rfl, h2, h3⟩ := r.cons
      cases m with
      | zero => exact repL_cons rd h3
      | succ m => exact repL_cons h2 (ih h3 rd)
  obtain ⟨w4, s4⟩ := w3.wr (vs := vs2.set m v) (ds' := ds.set m d) (key p5 (r1.mono (g2.ss.trans s3.ss)))
  exact ⟨l, vs2, (m : Int), m, rfl, r3.int, p4, Evl.ixN_nat (by have hl5 : ds.length = vs2.length := p5.length; omega), kk.1 ρ ⟨jn, some (l, ds.set m d)⟩ σ S3 _ hΦ (s1.trans ((g2.stp.trans s3).trans s4)) w4 (rE.mono (s1.ss.trans (g2.ss.trans s3.ss)))⟩
end
/-- a def that draws k times at most -/
theorem fnW {P : Program} {w : World} {K : PySem.W.Frag} {mg : Str → Option Value} {base : Heap} {x qual : Str} {params : Arguments} {body : List Stmt} {scope : Scope} {dvs : List V} {kws : List (Str × V)} {f : Addr} {fd : FuncData} {N ps : List Str} {k dr : Nat} {pre : List D → Prop} {R : List D → D → Prop} (F : FunD K x qual params body scope dvs kws f fd) (S : FnScope N ps scope) (len : ∀ ds, pre ds → ds.length + 1 = ps.length)
    (hbody : ∀ (cdv : Value) (A : Around) (outer : List Env) (s : Shared) (H : Hp) (E : XK), Room k (A.deeper (envOfC qual scope s.heap.objs.size f cdv)) → ∀ u S0 H0 n ds, pre ds →
      Wss (cxOf C8.CX0 P w K mg base N qual scope f cdv A outer s H E).nox u S0 H0 body (some (.val (.ref u)) :: (ds.map some ++ List.replicate (N.length - (ds.length + 1)) none)) ⟨n + dr, none⟩ (fun o => ∃ d j, o = .rt d j ∧ R ds d ∧ n ≤ j.n)) : FnOk P w K mg base C8.CX0 (k + 1) f fd ps (spW dr pre R) := by
  refine F.ok S (fun vs H Q E ⟨S', ds, u, us, n, e1, _, r, h, _⟩ => by rw [e1, ← len ds h, r.length] <;> rfl) fun cdv A outer s H vs Q E hr ⟨S', ds, u, us, n, e1, e, r, h, hu, q⟩ => ?_
  subst e1
  refine ⟨_, PSs.nox (hbody cdv A outer s H E hr u S' H n ds h), S', e, repE_start (N := N) (ds := .val (.ref u) :: ds) (vs := .ref u :: us) (repL_cons rep_val r), ⟨⟨Ex.refl S', e, fun a o _ h => h, fun a o _ h _ _ => h⟩, hu, trivial⟩, fun ρ' j σ' S2 H2 ⟨d, j', ho, _⟩ => ?_, fun d j v S2 H2 ⟨d', j', ho, hR, hn⟩ s2 w2 r2 => ?_⟩
  · cases ho
  · cases ho
    exact q d v S2 H2 hR w2.gl (w2.urn.le hn) r2
end Mh
set_option maxRecDepth 100000
set_option maxHeartbeats 2000000
/-! M12: a list that is changed, read too. -/
namespace Mh
open PySem PySem.Spec PyProof.Rows L2
open Evl (Ex)
mutual
/-- no list within -/
def noL : D → Bool
  | .lst _ => false
  | .scr _ _ => false
  | .ext _ _ _ => false
  | .tup l => noLs l
  | .obj _ _ l => noLs l
  | _ => true
def noLs : List D → Bool
  | [] => true
  | d :: l => noL d && noLs l
end
mutual
theorem Rep.off {S : Hp} {l : Addr} {ws : List V} (hl : S l = some (.lst ws)) : ∀ {d : D} {v : V}, noL d = true → Rep S d v → Rep (less1 S l) d v
  | .int _, _, _, r => by rw [r.int]; exact rep_int
  | .bl _, _, _, r => by rw [r.bl]; exact rep_bl
  | .non, _, _, r => by rw [r.non]; exact rep_non
  | .str _, _, _, r => by rw [r.str]; exact rep_str
  | .val _, _, _, r => by rw [r.val]; exact rep_val
  | .lst _, _, h, _ => by
    unfold noL at h
    cases h
  | .scr _ _, _, h, _ => by
    unfold noL at h
    cases h
  | .ext _ _ _, _, h, _ => by
    unfold noL at h
    cases h
  | .tup m, _, h, r => by
    unfold noL at h
    obtain ⟨a, vs, rfl, h1, h2⟩ := r.tup
    exact rep_tup (by rw [less1_ne (fun z => by rw [z, hl] at h1; cases h1)]; exact h1) (RepL.off hl h h2)
  | .obj c ns m, _, h, r => by
    unfold noL at h
    obtain ⟨a, dx, vs, rfl, h1, h2⟩ := r.obj
    exact rep_obj (dx := dx) (by rw [less1_ne (fun z => by rw [z, hl] at h1; cases h1)]; exact h1) (RepL.off hl h h2)
theorem RepL.off {S : Hp} {l : Addr} {ws : List V} (hl : S l = some (.lst ws)) : ∀ {ds : List D} {vs : List V}, noLs ds = true → RepL S ds vs → RepL (less1 S l) ds vs
  | [], _, _, r => by rw [r.nil]; exact repL_nil
  | d :: ds, _, h, r => by
    unfold noLs at h
    rw [Bool.and_eq_true] at h
    obtain ⟨v, rs, rfl, h2, h3⟩ := r.cons
    exact repL_cons (Rep.off hl h.1 h2) (RepL.off hl h.2 h3)
end
section
variable {X : Cx} {l : Addr} {ρ ρ1 : En} {ds ds1 ms : List D} {o : OO} {st : Stmt} {rest : List Stmt} {d : D} {e a : Expr} {pos : Pos} {k : Nat}
theorem peekO {σ : St} {S H : Hp} {vs : List V} (hk : ρ[k]? = some (some (.val (.ref l)))) (e : Ex S H) (rE : RepE S ρ σ) (h3 : S l = none) (h4 : H l = some (.lst vs)) (h5 : RepL S ds vs) :
    ∃ S1, Ex S1 H ∧ RepE S1 (ρ.set k (some (.lst ds))) σ ∧ ∀ S' H', Gr S1 H S' H' → Gl l S H (less1 S' l) H' ∧ less1 S' l l = none ∧ H' l = some (.lst vs) ∧ RepL (less1 S' l) ds vs ∧ ∀ {d : D} {v : V}, noL d = true → Rep S' d v → Rep (less1 S' l) d v := by
  obtain ⟨e1, e2⟩ := Ex.fix e h3 h4
  have hl : k < ρ.length := (List.getElem?_eq_some_iff.mp hk).1
  obtain ⟨v, hv, rv⟩ := rE.at_ k _ hk
  refine ⟨upd S l (.lst vs), e2, ⟨by rw [List.length_set]; exact rE.len, fun a d' q => ?_⟩, fun S' H' g => ?_⟩
  · by_cases hij : k = a
    · subst hij
      rw [List.getElem?_set, if_pos rfl, if_pos hl] at q
      cases q
      exact ⟨v, hv, by rw [rv.val]; exact rep_lst upd_same (h5.mono e1)⟩
    · rw [List.getElem?_set_ne hij] at q
      obtain ⟨u, h3, h4⟩ := rE.at_ a d' q
      exact ⟨u, h3, h4.mono e1⟩
  · have ss : Ex S (less1 S' l) := fun a o ha => by
      have q : a ≠ l := fun z => by
        rw [z, h3] at ha
        cases ha
      rw [less1_ne q]
      exact g.ss a o (e1 a o ha)
    have sh : Ex (less1 S' l) H' := fun a o ha => by
      by_cases q : a = l
      · rw [q, less1_same] at ha
        cases ha
      · rw [less1_ne q] at ha
        exact g.sh a o ha
    exact ⟨⟨ss, sh, fun a o _ h => g.hh a o h, fun a o q h h' n => by
      rw [less1_ne q]
      exact g.fr a o (by rw [upd_ne q]; exact h) h' n⟩, less1_same, g.hh l _ h4, h5.mono ss, fun hd r => Rep.off (g.ss l _ upd_same) hd r⟩
theorem Gl.back {S H S' H' : Hp} (g : Gl l S H S' H') (h1 : S' l = none) {vs : List V} : Gl l S H S' (upd H' l (.lst vs)) := g.trans (Gl.write g.sh h1)
/-- name = e, the list read -/
theorem os_setP (k j : Nat) (nd : X.N.Nodup) {x : Str} {pos' : Pos} (he : Em X e (ρ.set k (some (.lst ds))) d) (hd : noL d = true) (hk : ρ[k]? = some (some (.val (.ref l))) := by rfl) (hi : X.N[j]? = some x := by rfl) (hx : Loc X.env.scope x := by first | exact .inl rfl | exact .inr rfl) (hs : swapsWith e (some (.Name x pos')) pos.line X.env = pure false := by rfl) (hf : X.fn x = true ∨ X.env.scope.names.lookup x = some .local := by first | exact .inl rfl | exact .inr rfl) :
    Os X (.Assign [.Name x pos'] e pos) l ρ ds (.nx (ρ.set j (some d)) ds) := ps_mono (ps_set nd hi hx he hs hf) fun Dn σ H ⟨S, vs, e, rE, h1, h2, r, kk⟩ => by
  obtain ⟨S1, e1, rE1, hg⟩ := peekO hk e rE h1 h2 r
  refine ⟨S1, e1, rE1, fun v S' H' g rv => ?_⟩
  obtain ⟨g1, g2, g3, g4, g5⟩ := hg S' H' g
  exact kk _ _ H' vs g1 ((rE.mono g1.ss).set (g5 hd rv)) g2 g3 g4
theorem os_retP (k : Nat) (he : Em X e (ρ.set k (some (.lst ds))) d) (hd : noL d = true) (hk : ρ[k]? = some (some (.val (.ref l))) := by rfl) : Os X (.Return (some e) pos) l ρ ds (.rt d) := ps_mono (ps_ret he) fun Dn σ H ⟨S, vs, e, rE, h1, h2, r, kk⟩ => by
  obtain ⟨S1, e1, rE1, hg⟩ := peekO hk e rE h1 h2 r
  refine ⟨S1, e1, rE1, fun v S' H' g rv => ?_⟩
  obtain ⟨g1, g2, g3, g4, g5⟩ := hg S' H' g
  exact kk v _ H' g1 (g5 hd rv)
theorem os_retC (k : Nat) (he : Em X e (ρ.set k (some (.lst ds))) d) (hd : noL d = true) (hk : ρ[k]? = some (some (.val (.ref l))) := by rfl) : Os X (.Return (some e) pos) l ρ ds (.rtc d ds) := ps_mono (ps_ret he) fun Dn σ H ⟨S, vs, e, rE, h1, h2, r, kk⟩ => by
  obtain ⟨S1, e1, rE1, hg⟩ := peekO hk e rE h1 h2 r
  refine ⟨S1, e1, rE1, fun v S' H' g rv => ?_⟩
  obtain ⟨g1, g2, g3, g4, g5⟩ := hg S' H' g
  exact kk v _ H' vs g1 (g5 hd rv) g2 g3 g4
theorem os_ifP (k : Nat) {c : Expr} {a b : List Stmt} {q : Bool} (hc : Et X c (ρ.set k (some (.lst ds))) q) (ha : q = true → Oss X a l ρ ds o) (hb : q = false → Oss X b l ρ ds o) (hk : ρ[k]? = some (some (.val (.ref l))) := by rfl) : Os X (.If c a b pos) l ρ ds o := by
  cases q with
  | true =>
    exact ps_mono (ps_if hc (ha rfl) pss_never) fun Dn σ H ⟨S, vs, e, rE, h1, h2, r, kk⟩ => by
      obtain ⟨S1, e1, rE1, hg⟩ := peekO hk e rE h1 h2 r
      refine ⟨S1, e1, rE1, fun S' H' g => ?_⟩
      obtain ⟨g1, g2, g3, g4, _⟩ := hg S' H' g
      exact (show tsO l ρ ds o Dn σ H' from ⟨_, vs, g1.sh, rE.mono g1.ss, g2, g3, g4, kk.step g1⟩)
  | false =>
    exact ps_mono (ps_if hc pss_never (hb rfl)) fun Dn σ H ⟨S, vs, e, rE, h1, h2, r, kk⟩ => by
      obtain ⟨S1, e1, rE1, hg⟩ := peekO hk e rE h1 h2 r
      refine ⟨S1, e1, rE1, fun S' H' g => ?_⟩
      obtain ⟨g1, g2, g3, g4, _⟩ := hg S' H' g
      exact (show tsO l ρ ds o Dn σ H' from ⟨_, vs, g1.sh, rE.mono g1.ss, g2, g3, g4, kk.step g1⟩)
theorem repL_set {S : Hp} : ∀ {ds : List D} {vs : List V} {m : Nat} {d : D} {v : V}, RepL S ds vs → Rep S d v → RepL S (ds.set m d) (vs.set m v)
  | [], _, _, _, _, r, _ => by rw [r.nil]; exact repL_nil
  | d :: ds, _, m, d', v', r, rd => by
    obtain ⟨v, r', rfl, h2, h3⟩ := r.cons
    cases m with
    | zero => exact repL_cons rd h3
    | succ m => exact repL_cons h2 (repL_set h3 rd)
/-- xs[m] = e, the list read -/
theorem os_itemP (k m : Nat) {io ix : Expr} {sp : Pos} (he : Em X e (ρ.set k (some (.lst ds))) d) (hd : noL d = true) (ho : Em X io ρ (.val (.ref l))) (hi : Em X ix ρ (.int (m : Int))) (hm : m < ds.length) (hk : ρ[k]? = some (some (.val (.ref l))) := by rfl)
    (hsub : ∀ v, assign (.Subscript io ix sp) X.env v = (do
      let ov ← holding [v] (eval io X.env)
      let iv ← holding [v, ov] (eval ix X.env)
      standAt sp
      holding [v, ov, iv] (setItem ov iv v)
      release [v, ov, iv] []) := by intro _; rfl) (hs : swapsWithSole [.Subscript io ix sp] e pos.line X.env = pure false := by rfl) (hw : swappedStores [.Subscript io ix sp] e X.env = pure none := by rfl)
    (h1 : (assignEach [.Subscript io ix sp] X.env).map (·.2) = [assign (.Subscript io ix sp) X.env] := by rfl) : Os X (.Assign [.Subscript io ix sp] e pos) l ρ ds (.nx ρ (ds.set m d)) :=
  ps_mono (ps_asg he (pg_sub ho hi set_list hsub) hs hw h1) fun Dn σ H ⟨S, vs, e, rE, h1, h2, r, kk⟩ => by
  obtain ⟨S1, e1, rE1, hg⟩ := peekO hk e rE h1 h2 r
  refine ⟨S1, e1, rE1, fun v S' H' g rv => ?_⟩
  obtain ⟨g1, g2, g3, g4, g5⟩ := hg S' H' g
  refine ⟨_, g1.sh, rE.mono g1.ss, fun w1 S2 H2 k2 r2 => ⟨S2, k2.sh, rE.mono (g1.ss.trans k2.ss), fun w2 S3 H3 k3 r3 => ?_⟩⟩
  have kk3 := k2.trans k3
  have q1 : S3 l = none := kk3.fr l _ g2 g3 ntl
  have q2 : H3 l = some (.lst vs) := kk3.hh l _ g3
  exact ⟨l, vs, (m : Int), m, r2.val, r3.int, q2, Evl.ixN_nat (by rw [← r.length]; exact hm), kk σ S3 _ (vs.set m v) ((g1.trans kk3.toGl).back q1) (rE.mono (g1.ss.trans kk3.ss)) q1 upd_same (repL_set (g4.mono kk3.ss) ((g5 hd rv).mono kk3.ss))⟩
/-- xs[m], name = e, the list read -/
theorem os_pairP (k m j : Nat) {io ix : Expr} {sp p1 p2 : Pos} {kt : Nat} {x : Str} {d1 d2 : D} (nd : X.N.Nodup) (he : Em X e (ρ.set k (some (.lst ds))) (.tup [d1, d2])) (hd : noL (.tup [d1, d2]) = true) (ho : Em X io ρ (.val (.ref l))) (hi : Em X ix ρ (.int (m : Int))) (hm : m < ds.length) (hk : ρ[k]? = some (some (.val (.ref l))) := by rfl)
    (hN : X.N[j]? = some x := by rfl) (hx : Loc X.env.scope x := by first | exact .inl rfl | exact .inr rfl) (hf : X.fn x = true ∨ X.env.scope.names.lookup x = some .local := by first | exact .inl rfl | exact .inr rfl) (hc : X.calm = true := by rfl)
    (hsub : ∀ v, assign (.Subscript io ix sp) X.env v = (do
      let ov ← holding [v] (eval io X.env)
      let iv ← holding [v, ov] (eval ix X.env)
      standAt sp
      holding [v, ov, iv] (setItem ov iv v)
      release [v, ov, iv] []) := by intro _; rfl) (hs : swapsWithSole [.Tuple [.Subscript io ix sp, .Name x p1] kt p2] e pos.line X.env = pure false := by rfl) (hw : swappedStores [.Tuple [.Subscript io ix sp, .Name x p1] kt p2] e X.env = pure none := by rfl)
    (h1 : (assignEach [.Tuple [.Subscript io ix sp, .Name x p1] kt p2] X.env).map (·.2) = [assign (.Tuple [.Subscript io ix sp, .Name x p1] kt p2) X.env] := by rfl)
    (hn : (assignEach [.Subscript io ix sp, .Name x p1] X.env).length = 2 := by rfl) (hst : (assignEach [.Subscript io ix sp, .Name x p1] X.env).findIdx? (·.1) = none := by rfl)
    (hs1 : (assignEach [.Subscript io ix sp, .Name x p1] X.env).map (·.2) = assign (.Subscript io ix sp) X.env :: (assignEach [.Name x p1] X.env).map (·.2) := by rfl) (hs2 : (assignEach [.Name x p1] X.env).map (·.2) = assign (.Name x p1) X.env :: (assignEach [] X.env).map (·.2) := by rfl) :
    Os X (.Assign [.Tuple [.Subscript io ix sp, .Name x p1] kt p2] e pos) l ρ ds (.nx (ρ.set j (some d2)) (ds.set m d1)) :=
  ps_mono (ps_asg he (pg_tup hc (pgs_cons (pg_sub ho hi set_list hsub) (pgs_cons (pg_name nd hN hx hf) pgs_nil hs2) hs1) hn hst) hs hw h1) fun Dn σ H ⟨S, vs, e, rE, h1, h2, r, kk⟩ => by
  obtain ⟨S1, e1, rE1, hg⟩ := peekO hk e rE h1 h2 r
  refine ⟨S1, e1, rE1, fun v S' H' g rv => ?_⟩
  obtain ⟨g1, g2, g3, g4, g5⟩ := hg S' H' g
  obtain ⟨a, ws, rfl, ha, hws⟩ := (g5 hd rv).tup
  obtain ⟨v1, v2, rfl, r1, r2⟩ := two_rep hws
  refine ⟨a, [v1, v2], rfl, SqT.of (g1.sh _ _ ha), rfl, v1, [v2], rfl, ⟨_, g1.sh, rE.mono g1.ss, fun w1 S2 H2 k2 q2 => ⟨S2, k2.sh, rE.mono (g1.ss.trans k2.ss), fun w2 S3 H3 k3 q3 => ?_⟩⟩⟩
  have kk3 := k2.trans k3
  have q1 : S3 l = none := kk3.fr l _ g2 g3 ntl
  have q4 : H3 l = some (.lst vs) := kk3.hh l _ g3
  exact ⟨l, vs, (m : Int), m, q2.val, q3.int, q4, Evl.ixN_nat (by rw [← r.length]; exact hm), v2, [], rfl, rfl, kk _ S3 _ (vs.set m v1) ((g1.trans kk3.toGl).back q1) ((rE.mono (g1.ss.trans kk3.ss)).set (r2.mono kk3.ss)) q1 upd_same (repL_set (g4.mono kk3.ss) (r1.mono kk3.ss))⟩
end
end Mh
set_option maxRecDepth 100000
set_option maxHeartbeats 2000000
/-! M13: list.count, list.index of flat values. -/
namespace Mh
open PySem PySem.Spec PyProof.Rows L2
open Evl (Ex)
theorem countP_eqU {x : V} : ∀ {xs : List V} {us : List Value}, Vals xs us → xs.all flatV = true → us.countP (eqU x) = xs.countP fun y => eqV y x
  | _, _, .nil, _ => rfl
  | y :: xs, u :: us, .cons r t, f => by
    rw [List.all_cons, Bool.and_eq_true] at f
    rw [List.countP_cons, List.countP_cons, eqU_of r f.1, countP_eqU t f.2]
def rCountF (K : PySem.W.Frag) : V → List V → Hp → VK → Prop := fun x vs H Q => ∃ l y xs, x = .ref l ∧ vs = [y] ∧ SqL K H l xs ∧ flatV y = true ∧ xs.all flatV = true ∧ Q (.int (xs.countP fun z => eqV z y : Nat)) H
theorem mt_countF {X : Cx} : MtR X "list.count" (rCountF X.K) := by
  intro pins s σ H x vs v us Q I rx rv h
  obtain ⟨l, y, xs, rfl, rfl, hl, fy, fs, q⟩ := h
  cases rx
  obtain ⟨u, rfl, ru⟩ := rv.one
  obtain ⟨its, r, ⟨⟨cls, dd, data, sl⟩, n, ho, hc, hd, hdt⟩, hz⟩ := I.list hl
  simp only at hc hd hdt
  subst hc hd hdt
  refine call_meets PySem.F.slot_list_count ⟨_, ho, rfl⟩ PySem.F.entry_list_count (PySem.F.args_list_count_2 _ _) (SeqAt.list_countAt l its.toArray n none sl u (eqU y)) ⟨ho, fun w hw => mem_eqAt ru fy r fs w (by simpa using hw), ?_⟩
  rw [show its.toArray.toList = its from rfl, countP_eqU r fs]
  exact ⟨.int _, H, I.tok _, ⟨_, rfl⟩, q⟩
def rIndexF (K : PySem.W.Frag) : V → List V → Hp → VK → Prop := fun x vs H Q => ∃ (l : Addr) (y : V) (xs : List V) (j : Nat) (z : V), x = .ref l ∧ vs = [y] ∧ SqL K H l xs ∧ flatV y = true ∧ xs.all flatV = true ∧ xs[j]? = some z ∧ eqV z y = true ∧ (∀ (m : Nat) (z' : V), m < j → xs[m]? = some z' → eqV z' y = false) ∧ Q (.int (j : Nat)) H
theorem flat_at {xs : List V} (f : xs.all flatV = true) {i : Nat} {z : V} (h : xs[i]? = some z) : flatV z = true := List.all_eq_true.mp f z (List.mem_of_getElem? h)
theorem mt_indexF {X : Cx} : MtR X "list.index" (rIndexF X.K) := by
  intro pins s σ H x vs v us Q I rx rv h
  obtain ⟨l, y, xs, j, z, rfl, rfl, hl, fy, fs, hz, he, hno, q⟩ := h
  cases rx
  obtain ⟨u, rfl, ru⟩ := rv.one
  obtain ⟨its, r, ⟨⟨cls, dd, data, sl⟩, n, ho, hc, hd, hdt⟩, hlen⟩ := I.list hl
  simp only at hc hd hdt
  subst hc hd hdt
  have hl2 := r.length
  have hsl := sizeLine_eq
  have hjx := (List.getElem?_eq_some_iff.mp hz).1
  have hj : j < its.toArray.size := by
    rw [List.size_toArray]
    omega
  have at_ : ∀ (m : Nat) (hm : m < its.toArray.size) (z' : V), xs[m]? = some z' → eqU y its.toArray[m] = eqV z' y := fun m hm z' hz' => by
    obtain ⟨w, hw, rw'⟩ := r.get hz'
    have hml : m < its.length := by simpa using hm
    rw [List.getElem?_eq_getElem hml] at hw
    have e : its.toArray[m] = w := by simpa using Option.some.inj hw
    rw [e]
    exact eqU_of rw' (flat_at fs hz')
  refine call_meets PySem.F.slot_list_index ⟨_, ho, rfl⟩ PySem.F.entry_list_index (PySem.F.args_list_index_2 _ _)
    (SeqAt.list_indexAt l its.toArray n none sl u (eqU y) j hj (by omega) (by rw [at_ j hj z hz]; exact he) (fun m hm hmj => ?_)) ⟨ho, fun w hw => mem_eqAt ru fy r fs w (by simpa using hw), ?_⟩
  · have hmx : m < xs.length := by omega
    have hz' : xs[m]? = some xs[m] := List.getElem?_eq_getElem hmx
    rw [at_ m hm _ hz']
    exact hno m _ hmj hz'
  · exact ⟨.int (j : Nat), H, I.tok _, ⟨_, rfl⟩, q⟩
section
variable {X : Cx} {ρ : En} {a e : Expr} {apos : Pos}
theorem eqV_str {a b : Str} : eqV (.str a) (.str b) = (a == b) := rfl
theorem countP_strs {x : Str} : ∀ {l : List Str}, (l.map V.str).countP (fun z => eqV z (.str x)) = l.count x
  | [] => rfl
  | y :: l => by rw [List.map_cons, List.countP_cons, countP_strs, List.count_cons] <;> rfl
theorem countP_bls {x : Bool} : ∀ {l : List Bool}, (l.map V.bl).countP (fun z => eqV z (.bl x)) = l.count x
  | [] => rfl
  | y :: l => by rw [List.map_cons, List.countP_cons, countP_bls, List.count_cons] <;> rfl
theorem flat_bls : ∀ {l : List Bool}, (l.map V.bl).all flatV = true
  | [] => rfl
  | y :: l => by rw [List.map_cons, List.all_cons, flat_bls] <;> rfl
theorem e_countS {l : List Str} {x : Str} {cpos : Pos} (ho : Em X a ρ (.lst (l.map D.str))) (h : Em X e ρ (.str x)) (hbase : attributeBase a "count" X.env (eval a X.env) = eval a X.env := by rfl)
    (hfew : ((backTo cpos (starEach [e] X.env)).all (fun x => !x.1) && (backToKw cpos (keywordEach [] X.env)).all (fun x => x.1.isSome) && decide ([e].length + ([] : List Keyword).length + (if ([] : List Keyword).isEmpty then 0 else 1) < 30)) = true := by rfl)
    (hline : (apos.endLine == cpos.line) = true := by rfl) (hs : starEach [e] X.env = (false, eval e X.env) :: starEach [] X.env := by rfl) (hplain : (backTo cpos (starEach [] X.env)).any (·.1) = false := by rfl) : Em X (.Call (.Attribute a "count" apos) [e] [] cpos) ρ (.int (l.count x : Nat)) :=
  em_bm ty_list PySem.F.plainAttrs_list PySem.F.slot_list_count PySem.F.type_list_count mt_countF (fun S H u us Q e r1 r2 k => by
    obtain ⟨v, rfl, r3⟩ := one_rep r2
    obtain ⟨p, vs, rfl, h1, h2⟩ := r1.lst
    rw [repL_strs h2] at h1
    exact ⟨p, v, _, rfl, rfl, SqL.of (e _ _ h1), by rw [r3.str] <;> rfl, flat_strs, by rw [r3.str, countP_strs]; exact k _ S H (Gr.refl e) rep_int⟩) ho (a1 h hs) hbase hfew hline hs hplain
theorem e_countB {l : List Bool} {x : Bool} {cpos : Pos} (ho : Em X a ρ (.lst (l.map D.bl))) (h : Em X e ρ (.bl x)) (hbase : attributeBase a "count" X.env (eval a X.env) = eval a X.env := by rfl)
    (hfew : ((backTo cpos (starEach [e] X.env)).all (fun x => !x.1) && (backToKw cpos (keywordEach [] X.env)).all (fun x => x.1.isSome) && decide ([e].length + ([] : List Keyword).length + (if ([] : List Keyword).isEmpty then 0 else 1) < 30)) = true := by rfl)
    (hline : (apos.endLine == cpos.line) = true := by rfl) (hs : starEach [e] X.env = (false, eval e X.env) :: starEach [] X.env := by rfl) (hplain : (backTo cpos (starEach [] X.env)).any (·.1) = false := by rfl) : Em X (.Call (.Attribute a "count" apos) [e] [] cpos) ρ (.int (l.count x : Nat)) :=
  em_bm ty_list PySem.F.plainAttrs_list PySem.F.slot_list_count PySem.F.type_list_count mt_countF (fun S H u us Q e r1 r2 k => by
    obtain ⟨v, rfl, r3⟩ := one_rep r2
    obtain ⟨p, vs, rfl, h1, h2⟩ := r1.lst
    rw [repL_bls h2] at h1
    exact ⟨p, v, _, rfl, rfl, SqL.of (e _ _ h1), by rw [r3.bl] <;> rfl, flat_bls, by rw [r3.bl, countP_bls]; exact k _ S H (Gr.refl e) rep_int⟩) ho (a1 h hs) hbase hfew hline hs hplain
/-- l.index(True) -/
theorem e_indexB {l : List Bool} {j : Nat} {cpos : Pos} (hj : l[j]? = some true) (hno : ∀ (m : Nat) (z : Bool), m < j → l[m]? = some z → z = false) (ho : Em X a ρ (.lst (l.map D.bl))) (h : Em X e ρ (.bl true)) (hbase : attributeBase a "index" X.env (eval a X.env) = eval a X.env := by rfl)
    (hfew : ((backTo cpos (starEach [e] X.env)).all (fun x => !x.1) && (backToKw cpos (keywordEach [] X.env)).all (fun x => x.1.isSome) && decide ([e].length + ([] : List Keyword).length + (if ([] : List Keyword).isEmpty then 0 else 1) < 30)) = true := by rfl)
    (hline : (apos.endLine == cpos.line) = true := by rfl) (hs : starEach [e] X.env = (false, eval e X.env) :: starEach [] X.env := by rfl) (hplain : (backTo cpos (starEach [] X.env)).any (·.1) = false := by rfl) : Em X (.Call (.Attribute a "index" apos) [e] [] cpos) ρ (.int (j : Int)) :=
  em_bm ty_list PySem.F.plainAttrs_list PySem.F.slot_list_index PySem.F.type_list_index mt_indexF (fun S H u us Q e r1 r2 k => by
    obtain ⟨v, rfl, r3⟩ := one_rep r2
    obtain ⟨p, vs, rfl, h1, h2⟩ := r1.lst
    rw [repL_bls h2] at h1
    refine ⟨p, v, _, j, .bl true, rfl, rfl, SqL.of (e _ _ h1), by rw [r3.bl] <;> rfl, flat_bls, by rw [List.getElem?_map, hj] <;> rfl, by rw [r3.bl] <;> rfl, fun m z hm hz => ?_, k _ S H (Gr.refl e) rep_int⟩
    rw [List.getElem?_map] at hz
    obtain ⟨b, hb, rfl⟩ := Option.map_eq_some_iff.mp hz
    rw [r3.bl, hno m b hm hb] <;> rfl) ho (a1 h hs) hbase hfew hline hs hplain
end
end Mh
set_option maxRecDepth 100000
set_option maxHeartbeats 2000000
/-! M14: comprehensions over what is drawn. -/
namespace Mh
open PySem PySem.Spec PyProof.Rows L2
open Evl (Ex)
section
variable {X : Cx} {u : Addr} {S0 H0 : Hp} {ρ ρ1 : En} {i j : WI} {P P1 : PW_} {Φ Φ1 : UO → Prop} {x y z d : D} {a b e c : Expr} {es : List Expr} {pos p : Pos} {st : Stmt} {rest : List Stmt}
section
variable {α : Type}
/-- by the turn, what is made so far, where one is -/
structure WLcG (X : Cx) (u : Addr) (S0 H0 : Hp) (elt tg iter : Expr) (ifs : List Expr) (scope : Scope) (own : List (Str × Nat)) (b : Bd) (ρ : En) (i i1 : WI) (Px : List α → Prop) (φ : α → D) (Inv : Nat → List D → WI → Prop) : Prop where
  calm : X.calm = true
  nd : X.N.Nodup
  it : Wi X u S0 H0 tg iter ρ i (fun ds j => ∃ xs, Px xs ∧ ds = xs.map φ ∧ j = i1)
  blk : BlkOk X.N X.env.scope scope own
  len : ∀ xs, Px xs → xs.length ≤ 100000
  sl : ∀ i ∈ b.slots, i ∈ own.map (·.2)
  tgt : ∀ (s : Shared) (H : Hp) (C : Addr) (cl : List (Str × Addr)) (fp : List Addr), PG (X.blk s H scope (compEnvC scope cl C X.env) fp) tg (b.tg X.K)
  start : Inv 0 [] i1
  acc : ∀ n l j, Inv n l j → l.length ≤ n
  turn : ∀ (xs : List α) (n : Nat) x l j, Px xs → xs[n]? = some x → Inv n l j → ∃ ρ', bindE b (wipeE ρ (own.map (·.2))) (φ x) = some ρ' ∧ ∃ Pt : Bool → WI → Prop, (∀ j', Pt false j' → Inv (n + 1) l j') ∧ ∀ (s : Shared) (H : Hp) (C : Addr) (cl : List (Str × Addr)) (fp : List Addr),
    PTs (X.blk s H scope (compEnvC scope cl C X.env) fp) ifs (ttW u S0 H0 ρ' j Pt) ∧ ∀ j', Pt true j' → Wm (X.blk s H scope (compEnvC scope cl C X.env) fp) u S0 H0 elt ρ' j' (fun d j2 => Inv (n + 1) (l ++ [d]) j2)
  fs : ∀ x, foldedSetIterable iter X.env x = pure x
variable {elt tg iter : Expr} {ifs : List Expr} {scope : Scope} {own : List (Str × Nat)} {bd : Bd} {Px : List α → Prop} {i1 : WI} {φ : α → D} {Inv : Nat → List D → WI → Prop}
def WTurn.okG (X : Cx) (u : Addr) (S0 H0 : Hp) (elt : Expr) (ifs : List Expr) (scope : Scope) (own : List (Str × Nat)) (b : Bd) (ρ : En) (Px : List α → Prop) (φ : α → D) (Inv : Nat → List D → WI → Prop) (t : WTurn α) : Prop := (∃ xs, Px xs ∧ xs[t.n]? = some t.x) ∧ Inv t.n t.l t.j ∧ bindE b (wipeE ρ (own.map (·.2))) (φ t.x) = some t.ρ ∧ (∀ j', t.Pt false j' → Inv (t.n + 1) t.l j') ∧ ∀ (s : Shared) (H : Hp) (C : Addr) (cl : List (Str × Addr)) (fp : List Addr),
    PTs (X.blk s H scope (compEnvC scope cl C X.env) fp) ifs (ttW u S0 H0 t.ρ t.j t.Pt) ∧ ∀ j', t.Pt true j' → Wm (X.blk s H scope (compEnvC scope cl C X.env) fp) u S0 H0 elt t.ρ j' (fun d j2 => Inv (t.n + 1) (t.l ++ [d]) j2)
def ttWG (X : Cx) (u : Addr) (S0 H0 : Hp) (elt : Expr) (ifs : List Expr) (scope : Scope) (own : List (Str × Nat)) (b : Bd) (ρ : En) (Px : List α → Prop) (φ : α → D) (Inv : Nat → List D → WI → Prop) : TT := fun σ H Q => ∃ t : WTurn α, t.okG X u S0 H0 elt ifs scope own b ρ Px φ Inv ∧ ttW u S0 H0 t.ρ t.j t.Pt σ H Q
def teWG (X : Cx) (u : Addr) (S0 H0 : Hp) (elt : Expr) (ifs : List Expr) (scope : Scope) (own : List (Str × Nat)) (b : Bd) (ρ : En) (Px : List α → Prop) (φ : α → D) (Inv : Nat → List D → WI → Prop) : TE := fun σ H Q => ∃ t : WTurn α × WI, (t.1.okG X u S0 H0 elt ifs scope own b ρ Px φ Inv ∧ t.1.Pt true t.2) ∧ tW u S0 H0 t.1.ρ t.2 (fun d j2 => Inv (t.1.n + 1) (t.1.l ++ [d]) j2) σ H Q
theorem wlcG_D (L : WLcG X u S0 H0 elt tg iter ifs scope own bd ρ i i1 Px φ Inv) {σ : St} {H S : Hp} {Q : VK} (e : Ex S H) (rE : RepE S ρ σ) (w : Wld u S0 H0 i.n i.o S H)
    (k : ∀ xs D S' H' l acc j, Px xs → Inv xs.length l j → Stp u i j S H S' H' → Wld u S0 H0 j.n j.o S' H' → H D = none → S' D = none → H' D = some (.lst acc) → RepL S' l acc → D ≠ u → (∀ q, j.o = some q → q.1 ≠ D) → Q (.ref D) H') :
    tLc (tiW u S0 H0 ρ i (fun ds j => ∃ xs, Px xs ∧ ds = xs.map φ ∧ j = i1)) (bd.tg X.K) (ttWG X u S0 H0 elt ifs scope own bd ρ Px φ Inv) (teWG X u S0 H0 elt ifs scope own bd ρ Px φ Inv) (own.map (·.2)) σ H Q := by
  refine ⟨S, e, rE, w, fun ds J S1 H1 j1 ⟨xs, hxs, hds, hj1⟩ g1 w1 it Dl hD => ?_⟩
  subst hds hj1
  have hlen : (xs.map φ).length = xs.length := List.length_map ..
  have hS1 : S1 Dl = none := none_of_ex g1.sh hD
  have hDu : Dl ≠ u := fun z => by
    obtain ⟨_, a1, a2, a3, h2, _⟩ := w1.urn
    rw [z, h2] at hD
    cases hD
  have hH : H Dl = none := by
    cases z : H Dl with
    | none => rfl
    | some o =>
      obtain ⟨o', ho'⟩ := g1.dm Dl o z
      rw [ho'] at hD
      cases hD
  have hH0 : H0 Dl = none := by
    cases z : H0 Dl with
    | none => rfl
    | some o =>
      have := w.gl.hh Dl o hDu z
      rw [hH] at this
      cases this
  let W : Nat → Hp → Prop := fun n H' => ∃ S' l acc j, Inv n l j ∧ Stp u j1 j S1 H1 S' H' ∧ Wld u S0 H0 j.n j.o S' H' ∧ S' Dl = none ∧ H' Dl = some (.lst acc) ∧ RepL S' l acc ∧ ∀ q, j.o = some q → q.1 ≠ Dl
  have own0 : ∀ q, j1.o = some q → q.1 ≠ Dl := fun q hq z => by
    have := w1.ow
    rw [hq] at this
    obtain ⟨_, _, _, vs, h4, _⟩ := this
    rw [z, hD] at h4
    cases h4
  refine ⟨fun n m H' => m = xs.length - n ∧ n ≤ xs.length ∧ W n H', ⟨xs.length, by simp, Nat.zero_le _, S1, [], [], j1, L.start, (Stp.refl g1.sh).put hD hS1, w1.put hDu hH0 hS1 own0, hS1, upd_same, repL_nil, own0⟩, ?_⟩
  rintro n m H' ⟨rfl, hn, S', l, acc, j, hI, s', w', hSD, hHD, racc, hod⟩
  obtain ⟨it1, it2, it3⟩ := it S' H' s'.ss s'.sh
  by_cases hlt : n < xs.length
  · refine .inr ⟨it1 n (by rw [hlen]; exact hlt), W (n + 1), fun H'' w => ⟨xs.length - (n + 1), by omega, rfl, hlt, w⟩, fun v H2 y => ?_⟩
    have hx : xs[n]? = some xs[n] := List.getElem?_eq_getElem hlt
    obtain ⟨S2, g2, r2⟩ := it3 n v H2 (by rw [hlen]; exact hlt) y (φ xs[n]) (by rw [List.getElem?_map, hx] <;> rfl)
    have rw2 : RepE S2 (wipeE ρ (own.map (·.2))) (wipe σ (own.map (·.2))) := (rE.mono (g1.ss.trans (s'.ss.trans g2.ss))).wipe _
    obtain ⟨ρ', hb, Pt, hpf, hturn⟩ := L.turn xs n xs[n] l j hxs hx hI
    refine bind_ok g2.sh rw2 r2 hb fun σ2 rE2 hw => ⟨by have := hw _ L.sl; rw [wipe_idem] at this; exact this, ?_⟩
    refine ⟨⟨n, xs[n], l, j, ρ', Pt⟩, ⟨⟨xs, hxs, hx⟩, hI, hb, hpf, hturn⟩, S2, g2.sh, rE2, w'.gr g2, fun q S3 H3 j3 hq s3 w3 => ?_⟩
    have s13 : Stp u j j3 S' H' S3 H3 := g2.stp.trans s3
    have hoff : ∀ q, j.o = some q → Dl ≠ q.1 := fun q hq => (hod q hq).symm
    have hS3 : S3 Dl = none := s13.fr Dl _ hDu hoff hSD hHD ntl
    have hH3 : H3 Dl = some (.lst acc) := s13.hh Dl _ hDu hoff hHD
    have hod3 : ∀ q, j3.o = some q → q.1 ≠ Dl := fun q hq z => by
      rcases s13.ow q hq with ⟨q0, h3, h4⟩ | h3
      · exact hod q0 h3 (h4.trans z)
      · rw [z, hHD] at h3
        cases h3
    cases q with
    | true =>
      show teWG X u S0 H0 elt ifs scope own bd ρ Px φ Inv σ2 H3 _
      refine ⟨(⟨n, xs[n], l, j, ρ', Pt⟩, j3), ⟨⟨⟨xs, hxs, hx⟩, hI, hb, hpf, hturn⟩, hq⟩, S3, s3.sh, rE2.mono s3.ss, w3, fun d v4 S4 H4 j4 hd s4 w4 r4 => ?_⟩
      have hoff3 : ∀ q, j3.o = some q → Dl ≠ q.1 := fun q hq => (hod3 q hq).symm
      have hS4 : S4 Dl = none := s4.fr Dl _ hDu hoff3 hS3 hH3 ntl
      have hH4 : H4 Dl = some (.lst acc) := s4.hh Dl _ hDu hoff3 hH3
      have hod4 : ∀ q, j4.o = some q → q.1 ≠ Dl := fun q hq z => by
        rcases s4.ow q hq with ⟨q0, h3, h4⟩ | h3
        · exact hod3 q0 h3 (h4.trans z)
        · rw [z, hH3] at h3
          cases h3
      refine ⟨acc, hH4, ?_, S4, l ++ [d], acc ++ [v4], j4, hd, (s'.trans (s13.trans s4)).put hD hS4, w4.put hDu hH0 hS4 hod4, hS4, upd_same, (racc.mono (s13.trans s4).ss).append (repL_cons r4 repL_nil), hod4⟩
      have q1 := racc.length
      have q2 := L.acc n l j hI
      have q3 := L.len xs hxs
      exact Nat.lt_of_lt_of_le (show acc.length < 100000 by omega) (by decide)
    | false =>
      show W (n + 1) H3
      exact ⟨S3, l, acc, j3, hpf j3 hq, s'.trans s13, w3, hS3, hH3, racc.mono s13.ss, hod3⟩
  · have e1 : n = xs.length := by omega
    subst e1
    exact .inl ⟨by rw [hlen] at it2; exact it2, k xs Dl S' H' l acc j hxs hI (g1.trans s') w' hH hSD hHD racc hDu hod⟩
theorem WLcG.get (L : WLcG X u S0 H0 elt tg iter ifs scope own bd ρ i i1 Px φ Inv) :
    (∀ (s : Shared) (H : Hp) (C : Addr) (cl : List (Str × Addr)) (fp : List Addr), PTs (X.blk s H scope (compEnvC scope cl C X.env) fp) ifs (ttWG X u S0 H0 elt ifs scope own bd ρ Px φ Inv)) ∧
      (∀ (s : Shared) (H : Hp) (C : Addr) (cl : List (Str × Addr)) (fp : List Addr), PE (X.blk s H scope (compEnvC scope cl C X.env) fp) elt (teWG X u S0 H0 elt ifs scope own bd ρ Px φ Inv)) :=
  ⟨fun s H C cl fp => pts_some (P := fun t : WTurn α => t.okG X u S0 H0 elt ifs scope own bd ρ Px φ Inv) fun t ht => (ht.2.2.2.2 s H C cl fp).1,
    fun s H C cl fp => pe_some (P := fun t : WTurn α × WI => t.1.okG X u S0 H0 elt ifs scope own bd ρ Px φ Inv ∧ t.1.Pt true t.2) fun t ht => (ht.1.2.2.2.2 s H C cl fp).2 t.2 ht.2⟩
theorem w_lcG {pos : Pos} (L : WLcG X u S0 H0 elt tg iter ifs scope own bd ρ i i1 Px φ Inv) (hP : ∀ xs l j, Px xs → Inv xs.length l j → P (.lst l) j) : Wm X u S0 H0 (.ListComp elt [⟨tg, iter, ifs, 0⟩] scope pos) ρ i P := by
  obtain ⟨h2, h3⟩ := L.get
  exact pe_mono (pe_lc L.calm L.nd L.it L.blk L.tgt h2 h3 L.fs) fun σ H Q ⟨S, e, rE, w, k⟩ => wlcG_D L e rE w fun xs D S' H' l acc j hxs hI s w' hD hS hH r hu ho =>
    k (.lst l) (.ref D) _ H' j (hP xs l j hxs hI) (s.fix hD hS hH) (w'.fix hu (w.h0 hD hu) hS hH ho) (rep_lst upd_same (r.mono (Ex.new hS)))
/-- name = [..], the name a local -/
theorem ws_setLcG {k : Nat} {y : Str} {py : Pos} {pos spos : Pos} (hy : X.N[k]? = some y) (hyl : X.env.scope.names.lookup y = some .local)
    (hsw : swapsWith (.ListComp elt [⟨tg, iter, ifs, 0⟩] scope pos) (some (.Name y py)) spos.line X.env = pure true) (L : WLcG X u S0 H0 elt tg iter ifs scope own bd ρ i i1 Px φ Inv) (hP : ∀ xs l j, Px xs → Inv xs.length l j → Φ (.nx (ρ.set k (some (.lst l))) j)) :
    Ws X u S0 H0 (.Assign [.Name y py] (.ListComp elt [⟨tg, iter, ifs, 0⟩] scope pos) spos) ρ i Φ := by
  obtain ⟨h2, h3⟩ := L.get
  exact ps_mono (L2.ps_setLc L.calm L.nd hy hyl hsw L.it L.blk L.tgt h2 h3 L.fs) fun Dn σ H ⟨S, e, rE, w, kk⟩ => wlcG_D L e rE w fun xs D S' H' l acc j hxs hI s w' hD hS hH r hu ho =>
    kk.1 _ j _ _ H' (hP xs l j hxs hI) (s.fix hD hS hH) (w'.fix hu (w.h0 hD hu) hS hH ho) ((rE.mono (s.ss.trans (Ex.new hS))).set (rep_lst upd_same (r.mono (Ex.new hS))))
end
end
end Mh
set_option maxRecDepth 100000
set_option maxHeartbeats 2000000
/-! B1: sets of things as numbers. -/
namespace Mh
open PySem
def code (T : List Str) (p : Str → Bool) : Nat := match T with
  | [] => 0
  | t :: r => (if p t = true then 1 else 0) + 2 * code r p
theorem code_nil {p : Str → Bool} : code [] p = 0 := rfl
theorem code_cons {t : Str} {r : List Str} {p : Str → Bool} : code (t :: r) p = (if p t = true then 1 else 0) + 2 * code r p := rfl
theorem code_sum {T : List Str} {p : Str → Bool} : ∀ k : Nat, (((T.zipIdx k).filter fun q => p q.1).map fun q => (1 : Int) * 2 ^ q.2).sum = 2 ^ k * (code T p : Int) := by
  induction T with
  | nil => intro k; simp [code_nil]
  | cons t r ih =>
    intro k
    rw [List.zipIdx_cons, List.filter_cons]
    have e : (2 : Int) ^ (k + 1) = 2 * 2 ^ k := by rw [Int.pow_succ, Int.mul_comm]
    by_cases h : p t = true
    · rw [if_pos h, List.map_cons, List.sum_cons, ih (k + 1), code_cons, if_pos h, e]
      push_cast
      rw [Int.mul_add, Int.mul_one, Int.one_mul, Int.mul_assoc, Int.mul_left_comm]
    · rw [if_neg h, ih (k + 1), code_cons, if_neg h, e]
      push_cast
      rw [Int.zero_add, Int.mul_assoc, Int.mul_left_comm]
theorem code_bit {p : Str → Bool} : ∀ {T : List Str} {k : Nat}, (code T p).testBit k = (T[k]?.map p).getD false
  | [], k => by simp [code_nil]
  | t :: r, 0 => by
    rw [Nat.testBit_zero, code_cons]
    show decide (((if p t = true then 1 else 0) + 2 * code r p) % 2 = 1) = p t
    cases h : p t with
    | true =>
      rw [if_pos rfl]
      exact decide_eq_true (by omega)
    | false =>
      rw [if_neg (by decide)]
      exact decide_eq_false (by omega)
  | t :: r, k + 1 => by
    rw [Nat.testBit_succ, code_cons]
    have e : ((if p t = true then 1 else 0) + 2 * code r p) / 2 = code r p := by
      split <;> omega
    rw [e, code_bit (T := r)] <;> rfl
theorem code_ext {T : List Str} {n : Nat} {p : Str → Bool} (h : ∀ k, n.testBit k = (T[k]?.map p).getD false) : n = code T p := Nat.eq_of_testBit_eq fun k => by rw [h k, code_bit]
theorem code_and {T : List Str} {p q : Str → Bool} : code T p &&& code T q = code T fun t => p t && q t := code_ext fun k => by
  rw [Nat.testBit_and, code_bit, code_bit]
  cases T[k]? <;> simp
theorem code_or {T : List Str} {p q : Str → Bool} : code T p ||| code T q = code T fun t => p t || q t := code_ext fun k => by
  rw [Nat.testBit_or, code_bit, code_bit]
  cases T[k]? <;> simp
theorem code_split {T : List Str} {p q : Str → Bool} : code T p = code T (fun t => p t && q t) + code T (fun t => p t && !q t) := by
  induction T with
  | nil => rfl
  | cons t r ih =>
    rw [code_cons, code_cons, code_cons, ih]
    cases p t <;> cases q t <;> simp <;> omega
theorem code_congr {T : List Str} {p q : Str → Bool} (h : ∀ t ∈ T, p t = q t) : code T p = code T q := by
  induction T with
  | nil => rfl
  | cons t r ih => rw [code_cons, code_cons, h t (List.mem_cons_self ..), ih fun x hx => h x (List.mem_cons_of_mem _ hx)]
theorem code_inj {T : List Str} {p q : Str → Bool} (h : code T p = code T q) : ∀ t ∈ T, p t = q t := by
  intro t ht
  obtain ⟨k, hk, e⟩ := List.mem_iff_getElem.mp ht
  have h1 := congrArg (fun n : Nat => n.testBit k) h
  simp only [code_bit, List.getElem?_eq_getElem hk, e, Option.map_some, Option.getD_some] at h1
  exact h1
theorem code_zero {T : List Str} {p : Str → Bool} : code T p = 0 ↔ T.any p = false := by
  induction T with
  | nil => simp [code_nil]
  | cons t r ih =>
    rw [code_cons, List.any_cons, Bool.or_eq_false_iff, ← ih]
    cases p t with
    | true => simp
    | false =>
      simp
      omega
theorem code_pos {T : List Str} {p : Str → Bool} : decide ((0 : Int) < (code T p : Nat)) = T.any p := by
  cases h : T.any p with
  | false =>
    rw [code_zero.mpr h]
    decide
  | true =>
    have : code T p ≠ 0 := fun e => by
      rw [code_zero.mp e] at h
      cases h
    exact decide_eq_true (by omega)
theorem bAnd {T : List Str} {p q : Str → Bool} : Builtin.bitAnd (code T p : Nat) (code T q : Nat) = (code T (fun t => p t && q t) : Nat) := by
  rw [← code_and]
  unfold Builtin.bitAnd
  rw [decide_eq_true (by omega), decide_eq_true (by omega)]
  simp
theorem bOr {T : List Str} {p q : Str → Bool} : Builtin.bitOr (code T p : Nat) (code T q : Nat) = (code T (fun t => p t || q t) : Nat) := by
  rw [← code_or]
  unfold Builtin.bitOr Builtin.bitAnd Builtin.bitNot
  rw [decide_eq_false (by omega), decide_eq_false (by omega)]
  have e1 : (-(-((code T p : Nat) : Int) - 1) - 1).toNat = code T p := by omega
  have e2 : (-(-((code T q : Nat) : Int) - 1) - 1).toNat = code T q := by omega
  simp only [e1, e2]
  omega
theorem bAndNot {T : List Str} {p q : Str → Bool} : Builtin.bitAnd (code T p : Nat) (Builtin.bitNot (code T q : Nat)) = (code T (fun t => p t && !q t) : Nat) := by
  unfold Builtin.bitAnd Builtin.bitNot
  rw [decide_eq_true (by omega), decide_eq_false (by omega)]
  have e2 : (-(-((code T q : Nat) : Int) - 1) - 1).toNat = code T q := by omega
  have e1 : ((code T p : Nat) : Int).toNat = code T p := by omega
  simp only [e1, e2, code_and]
  have := code_split (T := T) (p := p) (q := q)
  omega
theorem bEq {T : List Str} {p q : Str → Bool} : decide (((code T p : Nat) : Int) = (code T q : Nat)) = T.all fun t => p t == q t := by
  by_cases h : code T p = code T q
  · rw [h, decide_eq_true rfl]
    exact (List.all_eq_true.mpr fun t ht => beq_iff_eq.mpr (code_inj h t ht)).symm
  · rw [decide_eq_false (by omega)]
    cases q2 : T.all fun t => p t == q t with
    | false => rfl
    | true => exact absurd (code_congr fun t ht => beq_iff_eq.mp (List.all_eq_true.mp q2 t ht)) h
/-- n >> k & 1 == 1 -/
theorem bit_test {n k : Nat} : decide (Builtin.bitAnd ((n : Int) / 2 ^ k) 1 = 1) = n.testBit k := by
  rw [PyProof.Rows.bitAnd_m1, Nat.testBit_eq_decide_div_mod_eq]
  have e : ((n : Int) / 2 ^ k) % 2 = ((n / 2 ^ k % 2 : Nat) : Int) := by push_cast; rfl
  rw [e]
  by_cases h : n / 2 ^ k % 2 = 1
  · rw [h]; decide
  · rw [decide_eq_false h, decide_eq_false (by omega)]
theorem filter_idx {T : List Str} {p : Str → Bool} : ((T.zipIdx.filter fun q => (code T p).testBit q.2).map fun q => q.1) = T.filter p := by
  have e : (T.zipIdx.filter fun q => (code T p).testBit q.2) = T.zipIdx.filter fun q => p q.1 := List.filter_congr fun q hq => by
    obtain ⟨x, k⟩ := q
    have := List.mem_zipIdx_iff_getElem?.mp hq
    rw [code_bit]
    show ((T[k]?.map p).getD false) = p x
    rw [this] <;> rfl
  rw [e]
  have key : ∀ (T : List Str) (k : Nat), (((T.zipIdx k).filter fun q => p q.1).map fun q => q.1) = T.filter p := by
    intro T
    induction T with
    | nil => intro k; rfl
    | cons t r ih =>
      intro k
      rw [List.zipIdx_cons, List.filter_cons, List.filter_cons]
      by_cases h : p t = true
      · rw [if_pos h, if_pos h, List.map_cons, ih]
      · rw [if_neg h, if_neg h, ih]
  exact key T 0
end Mh
set_option maxRecDepth 100000
set_option maxHeartbeats 2000000
/-! R0: the defs of the row. -/
namespace Mh
open PySem PySem.Spec PyProof.Rows L2
/-- a def that may be called by its name -/
structure FnG (K : PySem.W.Frag) (mg : Str → Option Value) (x : Str) (st : Stmt) : Prop where
  ex : ∃ f fd, FnP K x x st f fd ∧ mg x = some (.ref f)
/-- names of texts that are allowed -/
def okSign (c : Nat) : Bool := (decide (97 ≤ c) && decide (c ≤ 122)) || (decide (48 ≤ c) && decide (c ≤ 57))
def OkName (x : Str) : Prop := ∃ c r, x.cps.toList = c :: r ∧ r.length ≤ 7 ∧ 97 ≤ c ∧ c ≤ 122 ∧ ∀ d ∈ x.cps.toList, okSign d = true
/-- nonempty, at most ten allowed names, ascending -/
structure OkNames (l : List Str) : Prop where
  ne : l ≠ []
  few : l.length ≤ 10
  all : ∀ x ∈ l, OkName x
  asc : l.Pairwise slt
end Mh
set_option maxRecDepth 100000
set_option maxHeartbeats 2000000
/-! F1: values, rows. -/
namespace Mh
open PySem PySem.Spec PyProof.Rows L2
section
variable {P : Program} {w : World} {K : PySem.W.Frag} {mg : Str → Option Value} {base : Heap} {f : Addr} {fd : FuncData}
theorem kit_ss : kitB "str" "str" = some true := by decide +kernel
theorem kit_tt : kitB "tuple" "tuple" = some true := by decide +kernel
/-! less -/
abbrev nLess : List Str := ["things", "thing", "other"]
theorem sc_less : FnScope nLess ["things", "thing"] (defScope (top 34)) := C8.fnScope_by (by decide +kernel)
def lessL (l : List Str) (x : Str) : List Str := l.filter fun y => !decide (y = x)
def lessR (ds : List D) (d : D) : Prop := ∃ (l : List Str) (x : Str), ds = [.tup (l.map D.str), .str x] ∧ l.length ≤ 1000 ∧ d = .tup ((lessL l x).map D.str)
theorem ok_less (F : FnP K "less" "less" (top 34) f fd) (B : Bi mg) : FnOk P w K mg base C8.CX0 1 f fd ["things", "thing"] (spD lessR) := by
  refine fnD F sc_less (by rintro _ _ ⟨l, x, rfl, _⟩; rfl) fun cdv A outer s H E hr ds d h => ?_
  obtain ⟨l, x, rfl, hl, rfl⟩ := h
  exact ess_one (es_ret (e_tuple B (em_lc (lc1 [("other", 2)] 2 (xs := l) (φ := D.str) (fun y => !decide (y = x)) D.str sc_less.nd (ei_tup (v 0)) (by omega) (fun _ _ _ _ _ => pn 2 sc_less.nd) (blkOk_by (N := nLess) (sc := defScope (top 34)) (by decide +kernel)) fun y hy _ _ _ _ _ => ⟨ets_one (t_neS (v 2) (v 1)), fun _ => v 2⟩))))
/-! is_part -/
abbrev nPart : List Str := ["one", "other", "thing"]
theorem sc_part : FnScope nPart ["one", "other"] (defScope (top 33)) := C8.fnScope_by (by decide +kernel)
def partR (ds : List D) (d : D) : Prop := ∃ (l m : List Str), ds = [.tup (l.map D.str), .tup (m.map D.str)] ∧ l.length ≤ 1000 ∧ d = .bl ((l.map fun x => decide (x ∈ m)).all id)
theorem ok_part (F : FnP K "is_part" "is_part" (top 33) f fd) (B : Bi mg) : FnOk P w K mg base C8.CX0 1 f fd ["one", "other"] (spD partR) := by
  refine fnD F sc_part (by rintro _ _ ⟨l, x, rfl, _⟩; rfl) fun cdv A outer s H E hr ds d h => ?_
  obtain ⟨l, m, rfl, hl, rfl⟩ := h
  exact ess_one (es_ret (e_all B (e_mapB (lc1 [("thing", 2)] 2 (xs := l) (φ := D.str) (fun _ => true) _ sc_part.nd (ei_tup (v 0)) (by omega) (fun _ _ _ _ _ => pn 2 sc_part.nd) (blkOk_by (N := nPart) (sc := defScope (top 33)) (by decide +kernel)) fun y hy _ _ _ _ _ => ⟨ets_nil, fun _ => c_inT (v 2) (v 1)⟩))))
/-! is_name -/
structure Lett (mg : Str → Option Value) : Prop where
  letters : ∃ t, mg "LETTERS" = some (.str "abcdefghijklmnopqrstuvwxyz" t)
  signs : ∃ t, mg "SIGNS" = some (.str "abcdefghijklmnopqrstuvwxyz0123456789" t)
theorem letter_in {c : Nat} (h : 97 ≤ c ∧ c ≤ 122) : decide (c ∈ (Str.ofString "abcdefghijklmnopqrstuvwxyz").cps.toList) = true := by
  obtain ⟨h1, h2⟩ := h
  have key : ∀ n : Fin 26, decide ((97 + n.val) ∈ (Str.ofString "abcdefghijklmnopqrstuvwxyz").cps.toList) = true := by decide +kernel
  have := key ⟨c - 97, by omega⟩
  have e : 97 + (c - 97) = c := by omega
  rw [e] at this
  exact this
theorem sign_in {c : Nat} (h : okSign c = true) : decide (c ∈ (Str.ofString "abcdefghijklmnopqrstuvwxyz0123456789").cps.toList) = true := by
  have key : ∀ n : Fin 123, okSign n.val = true → decide (n.val ∈ (Str.ofString "abcdefghijklmnopqrstuvwxyz0123456789").cps.toList) = true := by decide +kernel
  have hc : c < 123 := by
    unfold okSign at h
    rw [Bool.or_eq_true, Bool.and_eq_true, Bool.and_eq_true, decide_eq_true_eq, decide_eq_true_eq, decide_eq_true_eq, decide_eq_true_eq] at h
    omega
  exact key ⟨c, hc⟩ h
abbrev nName : List Str := ["value", "sign"]
theorem sc_name : FnScope nName ["value"] (defScope (top 44)) := C8.fnScope_by (by decide +kernel)
def nameR (ds : List D) (d : D) : Prop := ∃ x : Str, ds = [.str x] ∧ OkName x ∧ d = .bl true
theorem OkName.len {x : Str} (h : OkName x) : 1 ≤ x.length ∧ x.length ≤ 8 := by
  obtain ⟨c, r, h1, h2, _⟩ := h
  have e : x.length = x.cps.toList.length := by unfold Str.length; simp
  rw [e, h1, List.length_cons]
  omega
theorem ok_name (F : FnP K "is_name" "is_name" (top 44) f fd) (B : Bi mg) (L : Lett mg) : FnOk P w K mg base C8.CX0 1 f fd ["value"] (spD nameR) := by
  refine fnD F sc_name (by rintro _ _ ⟨x, rfl, _⟩; rfl) fun cdv A outer s H E hr ds d h => ?_
  obtain ⟨x, rfl, hx, rfl⟩ := h
  obtain ⟨t1, hL⟩ := L.letters
  obtain ⟨t2, hS⟩ := L.signs
  obtain ⟨h1, h2⟩ := hx.len
  have hx2 := hx
  obtain ⟨c, r, hc, hr2, hc1, hc2, hd⟩ := hx
  refine ess_nx (es_skip (et_w (ew_or (p := false) (q := false) ?_ fun _ => ew_or1 ?_))) (ess_one (es_ret (em_is (em_and (p := true) (q := true) (em_is (c_sign (e_ixS (j := 0) (z := x) (by omega) (by rw [hc] <;> rfl) (v 0) em_int) (em_glob (fun _ => rep_str) rfl hL ⟨_, rfl⟩)) (by rw [letter_in ⟨hc1, hc2⟩])) fun _ => em_one (em_is (e_all B (e_mapB (lc1 [("sign", 1)] 1 (xs := x.cps.toList) (φ := fun c => D.str ⟨#[c]⟩) (fun _ => true) _ sc_name.nd (ei_str (v 0)) (by rw [hc, List.length_cons]; omega) (fun _ _ _ _ _ => pn 1 sc_name.nd) (blkOk_by (N := nName) (sc := defScope (top 44)) (by decide +kernel)) fun y hy _ _ _ _ _ => ⟨ets_nil, fun _ => c_sign (v 1) (em_glob (fun _ => rep_str) rfl hS ⟨_, rfl⟩)⟩))) ?_)) rfl)))
  · exact et_is (et_not (et_val (e_isi (q := true) B (v 0 (d := .str x)) boot_str rfl kit_ss (B.free _ (by decide))))) rfl
  · exact et_is (et_not (t_range em_int (e_lenS B (v 0 (d := .str x)) (by omega)) em_int)) (by rw [decide_eq_true (by omega), decide_eq_true (by omega)] <;> rfl)
  rw [List.all_map]
  exact congrArg D.bl (List.all_eq_true.mpr fun y hy => sign_in (hd y hy))
end
end Mh
set_option maxRecDepth 100000
set_option maxHeartbeats 2000000
/-! F2: wrong_place, wrong_names, wrong_name, the checks. -/
namespace Mh
open PySem PySem.Spec PyProof.Rows L2
theorem asc_get {l : List Str} (h : l.Pairwise slt) {i : Nat} {x y : Str} (hx : l[i]? = some x) (hy : l[i + 1]? = some y) : slt x y := by
  obtain ⟨h1, rfl⟩ := List.getElem?_eq_some_iff.mp hx
  obtain ⟨h2, rfl⟩ := List.getElem?_eq_some_iff.mp hy
  exact List.pairwise_iff_getElem.mp h i (i + 1) h1 h2 (Nat.lt_succ_self i)
theorem str_get {l : List Str} {i : Nat} {d : D} (h : (l.map D.str)[i]? = some d) : ∃ x, l[i]? = some x ∧ d = .str x := by
  rw [List.getElem?_map] at h
  cases q : l[i]? with
  | none =>
    rw [q] at h
    cases h
  | some x =>
    rw [q] at h
    exact ⟨x, rfl, (Option.some.inj h).symm⟩
theorem get_str {l : List Str} {i : Nat} {x : Str} (h : l[i]? = some x) : (l.map D.str)[i]? = some (.str x) := by rw [List.getElem?_map, h] <;> rfl
section
variable {P : Program} {w : World} {K : PySem.W.Frag} {mg : Str → Option Value} {base : Heap} {f : Addr} {fd : FuncData}
section
variable {X : Cx} {ρ : En} {a b c : Expr} {pos : Pos}
/-- k > 0 and thing <= value[k - 1], of an ascending tuple: no -/
theorem et_desc {l : List Str} {i : Nat} {x : Str} {p1 p2 p3 p4 p5 p6 p7 : Pos} {j1 j2 : Nat} {n1 n2 n3 n4 : Expr} (hl : l.Pairwise slt) (hx : l[i]? = some x) (hk : Em X n1 ρ (.int (i : Nat))) (hk2 : Em X n4 ρ (.int (i : Nat))) (ht : Em X n2 ρ (.str x)) (hv : Em X n3 ρ (.tup (l.map D.str)))
    (hs : PlainIx (.BinOp n4 .Sub (.Constant (.int 1) j1 p1) p2)) : Et X (.BoolOp .And [.Compare n1 [.Gt] [.Constant (.int 0) j2 p3] p4, .Compare n2 [.LtE] [.Subscript n3 (.BinOp n4 .Sub (.Constant (.int 1) j1 p1) p2) p5] p6] p7) ρ false := by
  refine et_is (et_w (ew_and (p := decide ((0 : Int) < (i : Nat))) (q := false) (t_gt hk em_int) fun h => ew_and1 ?_)) (Bool.and_false _)
  have hi : 0 < i := by
    have := of_decide_eq_true h
    omega
  obtain ⟨j, rfl⟩ : ∃ j, i = j + 1 := ⟨i - 1, by omega⟩
  have hj : j < l.length := by
    have := (List.getElem?_eq_some_iff.mp hx).1
    omega
  have hy : l[j]? = some l[j] := List.getElem?_eq_getElem hj
  have hs' := asc_get hl hy hx
  exact et_is (t_leS ht (e_ixT (j := j) (get_str hy) hv (em_is (e_sub hk2 em_int) (congrArg D.int (by omega))) hs)) (by rw [decide_eq_true hs'] <;> rfl)
end
abbrev nWp : List Str := ["value", "things", "k", "thing"]
theorem sc_wp : FnScope nWp ["value", "things"] (defScope (top 45)) := C8.fnScope_by (by decide +kernel)
def wpR (ds : List D) (d : D) : Prop := ∃ (l m : List Str), ds = [.tup (l.map D.str), .tup (m.map D.str)] ∧ l ≠ [] ∧ l.length ≤ 1000 ∧ l.Pairwise slt ∧ (∀ x ∈ l, x ∈ m) ∧ d = .int (-1)
theorem ok_wp (F : FnP K "wrong_place" "wrong_place" (top 45) f fd) (B : Bi mg) : FnOk P w K mg base C8.CX0 1 f fd ["value", "things"] (spD wpR) := by
  refine fnD F sc_wp (by rintro _ _ ⟨l, x, rfl, _⟩; rfl) fun cdv A outer s H E hr ds d h => ?_
  obtain ⟨l, m, rfl, hne, hl, hasc, hin, rfl⟩ := h
  refine ess_nx (es_skip (et_w (ew_or (p := false) (q := false) ?t1 fun _ => ew_or1 ?t2))) (ess_nx (es_for (b := .two 2 3) (ds := (l.map D.str).zipIdx.map fun q => D.tup [.int (q.2 : Nat), q.1]) (fun _ => [some (.tup (l.map D.str)), some (.tup (m.map D.str)), none, none]) PassesOwn.never rfl ?it (pn2 2 3 sc_wp.nd) (Le.refl _) ?body) (ess_one (es_ret (em_un un_neg ud_int em_int))))
  case t1 => exact et_is (et_not (et_val (e_isi (q := true) B (v 0 (d := .tup (l.map D.str))) boot_tuple rfl kit_tt (B.free _ (by decide))))) rfl
  case t2 => exact et_is (t_eqI (e_lenT B (v 0 (d := .tup (l.map D.str)))) em_int) (decide_eq_false (by
    have := List.length_pos_iff.mpr hne
    rw [List.length_map]
    omega))
  case it => exact ei_enum rfl (B.free _ (by decide)) (a1 (v 0))
  case body =>
    intro i d hd
    obtain ⟨z, hz, rfl⟩ := enum_get hd
    obtain ⟨x, hx, rfl⟩ := str_get hz
    refine ⟨_, rfl, ess_to (ess_one (es_skip (et_w (ew_or (p := false) (q := false) ?_ fun _ => ew_or (p := false) (q := false) ?_ fun _ => ew_or1 ?_)))) (Le.cons (Le.cons (Le.drop (Le.drop Le.nil))))⟩
    · exact et_is (et_not (et_val (e_isi (q := true) B (v 3 (d := .str x)) boot_str rfl kit_ss (B.free _ (by decide))))) rfl
    · exact et_is (t_notInT (i := x) (l := m) (v 3) (v 1)) (by rw [decide_eq_true (hin x (List.mem_of_getElem? hx))] <;> rfl)
    · exact et_desc hasc hx (v 2) (v 2) (v 3) (v 0) (fun _ _ => rfl)
abbrev nWn : List Str := ["value", "k", "name"]
theorem sc_wn : FnScope nWn ["value"] (defScope (top 46)) := C8.fnScope_by (by decide +kernel)
def wnR (ds : List D) (d : D) : Prop := ∃ (l : List Str), ds = [.tup (l.map D.str)] ∧ OkNames l ∧ d = .int (-1)
structure Mst (mg : Str → Option Value) : Prop where
  things : ∃ t, mg "MOST_THINGS" = some (.int 10 t)
  looks : ∃ t, mg "MOST_LOOKS" = some (.int 12 t)
theorem ok_wn (F : FnP K "wrong_names" "wrong_names" (top 46) f fd) (B : Bi mg) (M : Mst mg) (cN : C8.Cal P w K mg base 1 "is_name" (spD nameR) []) : FnOk P w K mg base C8.CX0 2 f fd ["value"] (spD wnR) := by
  refine fnD F sc_wn (by rintro _ _ ⟨l, rfl, _⟩; rfl) fun cdv A outer s H E hr ds d h => ?_
  obtain ⟨l, rfl, hO, rfl⟩ := h
  obtain ⟨t, hM⟩ := M.things
  refine ess_nx (es_skip (et_w (ew_or (p := false) (q := false) ?t1 fun _ => ew_or1 ?t2))) (ess_nx (es_for (b := .two 1 2) (ds := (l.map D.str).zipIdx.map fun q => D.tup [.int (q.2 : Nat), q.1]) (fun _ => [some (.tup (l.map D.str)), none, none]) PassesOwn.never rfl ?it (pn2 1 2 sc_wn.nd) (Le.refl _) ?body) (ess_one (es_ret (em_un un_neg ud_int em_int))))
  case t1 => exact et_is (et_not (et_val (e_isi (q := true) B (v 0 (d := .tup (l.map D.str))) boot_tuple rfl kit_tt (B.free _ (by decide))))) rfl
  case t2 => exact et_is (t_eqI (e_lenT B (v 0 (d := .tup (l.map D.str)))) em_int) (decide_eq_false (by
    have := List.length_pos_iff.mpr hO.ne
    rw [List.length_map]
    omega))
  case it => exact ei_enum rfl (B.free _ (by decide)) (a1 (v 0))
  case body =>
    intro i d hd
    obtain ⟨z, hz, rfl⟩ := enum_get hd
    obtain ⟨x, hx, rfl⟩ := str_get hz
    have hlt := (List.getElem?_eq_some_iff.mp hx).1
    have hfew := hO.few
    refine ⟨_, rfl, ess_to (ess_one (es_skip (et_w (ew_or (p := false) (q := false) ?_ fun _ => ew_or (p := false) (q := false) ?_ fun _ => ew_or1 ?_)))) (Le.cons (Le.drop (Le.drop Le.nil)))⟩
    · exact et_is (et_not (et_val (em_call cN hr (Nat.le_refl _) rfl ⟨x, rfl, hO.all x (List.mem_of_getElem? hx), rfl⟩ (a1 (v 2))))) rfl
    · exact et_is (t_eqI (v 1 (d := .int (i : Nat))) (em_glob (d := .int 10) (fun _ => rep_int) rfl hM ⟨_, rfl⟩)) (decide_eq_false (by omega))
    · exact et_desc hO.asc hx (v 1) (v 1) (v 2) (v 0) (fun _ _ => rfl)
end
end Mh
set_option maxRecDepth 100000
set_option maxHeartbeats 2000000
/-! F3: the checks; Look, Looks, Ranking made; a look's parts. -/
namespace Mh
open PySem PySem.Spec PyProof.Rows L2
section
variable {P : Program} {w : World} {K : PySem.W.Frag} {mg : Str → Option Value} {base : Heap} {f : Addr} {fd : FuncData}
abbrev CalP (P : Program) (w : World) (K : PySem.W.Frag) (mg : Str → Option Value) (base : Heap) (k : Nat) (x : Str) (R : List D → D → Prop) : Prop := C8.Cal P w K mg base k x (spD R) []
/-! check_menu, check_taken, check_things, check_names -/
def chkR (ds : List D) (d : D) : Prop := wpR ds (.int (-1)) ∧ d = .non
def chnR (ds : List D) (d : D) : Prop := wnR ds (.int (-1)) ∧ d = .non
abbrev nCm : List Str := ["menu", "things", "wrong"]
theorem sc_cm : FnScope nCm ["menu", "things"] (defScope (top 47)) := C8.fnScope_by (by decide +kernel)
theorem ne_m1 {i : Int} : (!decide ((i : Int) = i)) = false := by rw [decide_eq_true rfl] <;> rfl
theorem ok_cm (F : FnP K "check_menu" "check_menu" (top 47) f fd) (c : CalP P w K mg base 1 "wrong_place" wpR) : FnOk P w K mg base C8.CX0 2 f fd ["menu", "things"] (spD chkR) := by
  refine fnN F sc_cm (by rintro _ _ ⟨⟨l, m, rfl, _⟩, _⟩; rfl) (fun _ _ h => h.2) fun cdv A outer s H E hr ds d h => ?_
  obtain ⟨hw, _⟩ := h
  have hw2 := hw
  obtain ⟨l, m, rfl, _⟩ := hw2
  exact ⟨_, ess_nx (st_ 2 sc_cm.nd (em_call c hr (Nat.le_refl _) rfl hw (a2 (v 0) (v 1)))) (ess_one (es_skip (et_is (t_neI (v 2) (em_un un_neg ud_int em_int)) ne_m1)))⟩
abbrev nCt : List Str := ["taken", "menu", "wrong"]
theorem sc_ct : FnScope nCt ["taken", "menu"] (defScope (top 48)) := C8.fnScope_by (by decide +kernel)
theorem ok_ct (F : FnP K "check_taken" "check_taken" (top 48) f fd) (c : CalP P w K mg base 1 "wrong_place" wpR) : FnOk P w K mg base C8.CX0 2 f fd ["taken", "menu"] (spD chkR) := by
  refine fnN F sc_ct (by rintro _ _ ⟨⟨l, m, rfl, _⟩, _⟩; rfl) (fun _ _ h => h.2) fun cdv A outer s H E hr ds d h => ?_
  obtain ⟨hw, _⟩ := h
  have hw2 := hw
  obtain ⟨l, m, rfl, _⟩ := hw2
  exact ⟨_, ess_nx (st_ 2 sc_ct.nd (em_call c hr (Nat.le_refl _) rfl hw (a2 (v 0) (v 1)))) (ess_one (es_skip (et_is (t_neI (v 2) (em_un un_neg ud_int em_int)) ne_m1)))⟩
abbrev nCg : List Str := ["things", "wrong"]
theorem sc_cg : FnScope nCg ["things"] (defScope (top 49)) := C8.fnScope_by (by decide +kernel)
theorem ok_cg (F : FnP K "check_things" "check_things" (top 49) f fd) (c : CalP P w K mg base 2 "wrong_names" wnR) : FnOk P w K mg base C8.CX0 3 f fd ["things"] (spD chnR) := by
  refine fnN F sc_cg (by rintro _ _ ⟨⟨l, rfl, _⟩, _⟩; rfl) (fun _ _ h => h.2) fun cdv A outer s H E hr ds d h => ?_
  obtain ⟨hw, _⟩ := h
  have hw2 := hw
  obtain ⟨l, rfl, _⟩ := hw2
  exact ⟨_, ess_nx (st_ 1 sc_cg.nd (em_call c hr (Nat.le_refl _) rfl hw (a1 (v 0)))) (ess_one (es_skip (et_is (t_neI (v 1) (em_un un_neg ud_int em_int)) ne_m1)))⟩
abbrev nCn : List Str := ["menu", "wrong"]
theorem sc_cn : FnScope nCn ["menu"] (defScope (top 70)) := C8.fnScope_by (by decide +kernel)
theorem ok_cn (F : FnP K "check_names" "check_names" (top 70) f fd) (c : CalP P w K mg base 2 "wrong_names" wnR) : FnOk P w K mg base C8.CX0 3 f fd ["menu"] (spD chnR) := by
  refine fnN F sc_cn (by rintro _ _ ⟨⟨l, rfl, _⟩, _⟩; rfl) (fun _ _ h => h.2) fun cdv A outer s H E hr ds d h => ?_
  obtain ⟨hw, _⟩ := h
  have hw2 := hw
  obtain ⟨l, rfl, _⟩ := hw2
  exact ⟨_, ess_nx (st_ 1 sc_cn.nd (em_call c hr (Nat.le_refl _) rfl hw (a1 (v 0)))) (ess_one (es_skip (et_is (t_neI (v 1) (em_un un_neg ud_int em_int)) ne_m1)))⟩
/-! is_thing, check_thing -/
abbrev nIt : List Str := ["value", "things"]
theorem sc_it : FnScope nIt ["value", "things"] (defScope (top 50)) := C8.fnScope_by (by decide +kernel)
def itR (ds : List D) (d : D) : Prop := ∃ (x : Str) (l : List Str), ds = [.str x, .tup (l.map D.str)] ∧ x ∈ l ∧ d = .bl true
theorem ok_it (F : FnP K "is_thing" "is_thing" (top 50) f fd) (B : Bi mg) : FnOk P w K mg base C8.CX0 1 f fd ["value", "things"] (spD itR) := by
  refine fnD F sc_it (by rintro _ _ ⟨l, m, rfl, _⟩; rfl) fun cdv A outer s H E hr ds d h => ?_
  obtain ⟨x, l, rfl, hx, rfl⟩ := h
  exact ess_one (es_ret (em_and (p := true) (q := true) (e_isi (q := true) B (v 0 (d := .str x)) boot_str rfl kit_ss (B.free _ (by decide))) fun _ => em_one (em_is (c_inT (i := x) (l := l) (v 0) (v 1)) (by rw [decide_eq_true hx]))))
def cthR (ds : List D) (d : D) : Prop := itR ds (.bl true) ∧ d = .non
abbrev nCth : List Str := ["thing", "things"]
theorem sc_cth : FnScope nCth ["thing", "things"] (defScope (top 51)) := C8.fnScope_by (by decide +kernel)
theorem ok_cth (F : FnP K "check_thing" "check_thing" (top 51) f fd) (c : CalP P w K mg base 1 "is_thing" itR) : FnOk P w K mg base C8.CX0 2 f fd ["thing", "things"] (spD cthR) := by
  refine fnN F sc_cth (by rintro _ _ ⟨⟨l, m, rfl, _⟩, _⟩; rfl) (fun _ _ h => h.2) fun cdv A outer s H E hr ds d h => ?_
  obtain ⟨hw, _⟩ := h
  have hw2 := hw
  obtain ⟨x, l, rfl, _⟩ := hw2
  exact ⟨_, ess_one (es_skip (et_is (et_not (et_val (em_call c hr (Nat.le_refl _) rfl hw (a2 (v 0) (v 1))))) rfl))⟩
/-! wrong_name -/
abbrev nWr : List Str := ["row", "k", "name"]
theorem sc_wr : FnScope nWr ["row"] (defScope (top 53)) := C8.fnScope_by (by decide +kernel)
structure OkRow (l : List Str) : Prop where
  ne : l ≠ []
  few : l.length ≤ 10
  all : ∀ x ∈ l, OkName x
  nd : l.Nodup
def wrR (ds : List D) (d : D) : Prop := ∃ (l : List Str), ds = [.tup (l.map D.str)] ∧ OkRow l ∧ d = .int (-1)
theorem ok_wr (F : FnP K "wrong_name" "wrong_name" (top 53) f fd) (B : Bi mg) (M : Mst mg) (cN : CalP P w K mg base 1 "is_name" nameR) : FnOk P w K mg base C8.CX0 2 f fd ["row"] (spD wrR) := by
  refine fnD F sc_wr (by rintro _ _ ⟨l, rfl, _⟩; rfl) fun cdv A outer s H E hr ds d h => ?_
  obtain ⟨l, rfl, hO, rfl⟩ := h
  obtain ⟨t, hM⟩ := M.things
  refine ess_nx (es_skip (et_w (ew_or (p := false) (q := false) ?t1 fun _ => ew_or1 ?t2))) (ess_nx (es_for (b := .two 1 2) (ds := (l.map D.str).zipIdx.map fun q => D.tup [.int (q.2 : Nat), q.1]) (fun _ => [some (.tup (l.map D.str)), none, none]) PassesOwn.never rfl ?it (pn2 1 2 sc_wr.nd) (Le.refl _) ?body) (ess_one (es_ret (em_un un_neg ud_int em_int))))
  case t1 => exact et_is (et_not (et_val (e_isi (q := true) B (v 0 (d := .tup (l.map D.str))) boot_tuple rfl kit_tt (B.free _ (by decide))))) rfl
  case t2 => exact et_is (t_eqI (e_lenT B (v 0 (d := .tup (l.map D.str)))) em_int) (decide_eq_false (by
    have := List.length_pos_iff.mpr hO.ne
    rw [List.length_map]
    omega))
  case it => exact ei_enum rfl (B.free _ (by decide)) (a1 (v 0))
  case body =>
    intro i d hd
    obtain ⟨z, hz, rfl⟩ := enum_get hd
    obtain ⟨x, hx, rfl⟩ := str_get hz
    have hlt := (List.getElem?_eq_some_iff.mp hx).1
    have hfew := hO.few
    refine ⟨_, rfl, ess_to (ess_one (es_skip (et_w (ew_or (p := false) (q := false) ?_ fun _ => ew_or (p := false) (q := false) ?_ fun _ => ew_or1 ?_)))) (Le.cons (Le.drop (Le.drop Le.nil)))⟩
    · exact et_is (et_not (et_val (em_call cN hr (Nat.le_refl _) rfl ⟨x, rfl, hO.all x (List.mem_of_getElem? hx), rfl⟩ (a1 (v 2))))) rfl
    · exact et_is (t_eqI (v 1 (d := .int (i : Nat))) (em_glob (d := .int 10) (fun _ => rep_int) rfl hM ⟨_, rfl⟩)) (decide_eq_false (by omega))
    · refine et_is (t_inT (i := x) (l := l.take i) (v 2) (em_is (em_sl sl_tupA (sl_toT (l := l.map D.str) (k := i)) (v 0) eo_none (eo_some (v 1))) (by rw [List.map_take]))) (decide_eq_false fun hm => ?_)
      obtain ⟨j, hj, e⟩ := List.mem_take_iff_getElem.mp hm
      obtain ⟨h2, e2⟩ := List.getElem?_eq_some_iff.mp hx
      have hji : j < i := by omega
      have := List.pairwise_iff_getElem.mp hO.nd j i (by omega) h2 hji
      exact this (e.trans e2.symm)
/-! are_marks -/
def OkMarks (ms : List Nat) : Prop := (∀ c ∈ ms, c = 43 ∨ c = 45 ∨ c = 63) ∧ ∃ c ∈ ms, c ≠ 45
abbrev nAm : List Str := ["value", "many", "mark"]
theorem sc_am : FnScope nAm ["value", "many"] (defScope (top 69)) := C8.fnScope_by (by decide +kernel)
def amR (ds : List D) (d : D) : Prop := ∃ (ms : List Nat), ds = [.str (SX.S ms), .int (ms.length : Nat)] ∧ ms.length ≤ 1000 ∧ OkMarks ms ∧ d = .bl true
theorem S_list {ms : List Nat} : (SX.S ms).cps.toList = ms := by simp [SX.S]
theorem mark_in {c : Nat} (h : c = 43 ∨ c = 45 ∨ c = 63) : decide (c ∈ (Str.ofString "+-?").cps.toList) = true := by
  rcases h with rfl | rfl | rfl <;> decide +kernel
theorem sign_eq {c c' : Nat} : decide ((⟨#[c]⟩ : Str) = ⟨#[c']⟩) = decide (c = c') := by
  by_cases h : c = c'
  · subst h
    rw [decide_eq_true rfl, decide_eq_true rfl]
  · rw [decide_eq_false h, decide_eq_false fun e => h (by
      have := congrArg (fun x : Str => x.cps.toList) e
      simpa using this)]
theorem ok_am (F : FnP K "are_marks" "are_marks" (top 69) f fd) (B : Bi mg) : FnOk P w K mg base C8.CX0 1 f fd ["value", "many"] (spD amR) := by
  refine fnD F sc_am (by rintro _ _ ⟨l, rfl, _⟩; rfl) fun cdv A outer s H E hr ds d h => ?_
  obtain ⟨ms, rfl, hl, ⟨ha, hb⟩, rfl⟩ := h
  refine ess_nx (es_skip (et_w (ew_or (p := false) (q := false) ?t1 fun _ => ew_or1 ?t2))) (ess_one (es_ret (em_is (em_and (p := true) (q := true) ?u1 fun _ => em_one ?u2) rfl)))
  case t1 => exact et_is (et_not (et_val (e_isi (q := true) B (v 0 (d := .str (SX.S ms))) boot_str rfl kit_ss (B.free _ (by decide))))) rfl
  case t2 => exact et_is (t_neI (e_lenS B (v 0 (d := .str (SX.S ms))) (by rw [SX.S_len]; omega)) (v 1)) (by rw [SX.S_len]; exact ne_m1)
  case u1 =>
    refine em_is (e_all B (e_mapB (lc1 [("mark", 2)] 2 (xs := (SX.S ms).cps.toList) (φ := fun c => D.str ⟨#[c]⟩) (fun _ => true) _ sc_am.nd (ei_str (v 0)) (by rw [S_list]; omega) (fun _ _ _ _ _ => pn 2 sc_am.nd) (blkOk_by (N := nAm) (sc := defScope (top 69)) (by decide +kernel)) fun y hy _ _ _ _ _ => ⟨ets_nil, fun _ => c_sign (v 2) em_str⟩))) ?_
    rw [List.all_map]
    exact congrArg D.bl (List.all_eq_true.mpr fun y hy => mark_in (ha y (by rw [S_list] at hy; exact hy)))
  case u2 =>
    refine em_is (e_any B (e_mapB (lc1 [("mark", 2)] 2 (xs := (SX.S ms).cps.toList) (φ := fun c => D.str ⟨#[c]⟩) (fun _ => true) _ sc_am.nd (ei_str (v 0)) (by rw [S_list]; omega) (fun _ _ _ _ _ => pn 2 sc_am.nd) (blkOk_by (N := nAm) (sc := defScope (top 69)) (by decide +kernel)) fun y hy _ _ _ _ _ => ⟨ets_nil, fun _ => c_neS (v 2) em_str⟩))) ?_
    obtain ⟨c, hc, hne⟩ := hb
    rw [List.any_map]
    refine congrArg D.bl (List.any_eq_true.mpr ⟨c, by rw [S_list]; exact hc, ?_⟩)
    show (!decide ((⟨#[c]⟩ : Str) = Str.ofString "-")) = true
    have e : (Str.ofString "-") = ⟨#[45]⟩ := by decide +kernel
    rw [e, sign_eq, decide_eq_false hne] <;> rfl
end
end Mh
set_option maxRecDepth 100000
set_option maxHeartbeats 2000000
/-! F4: Look, Looks, Ranking. -/
namespace Mh
open PySem PySem.Spec PyProof.Rows L2
/-- a look: the menu, its marks -/
abbrev Lk : Type := List Str × List Nat
structure OkLook (l : Lk) : Prop where
  menu : OkNames l.1
  len : l.2.length = l.1.length
  marks : OkMarks l.2
abbrev lkNs : List Str := ["menu", "marks"]
abbrev lsNs : List Str := ["named", "seen"]
abbrev rkNs : List Str := ["names"]
def lkDs (l : Lk) : List D := [.tup (l.1.map D.str), .str (SX.S l.2)]
def lkD (C : Addr) (l : Lk) : D := .obj C lkNs (lkDs l)
def lsDs (C : Addr) (named : List Str) (ls : List Lk) : List D := [.tup (named.map D.str), .tup (ls.map (lkD C))]
def lsD (Cs C : Addr) (named : List Str) (ls : List Lk) : D := .obj Cs lsNs (lsDs C named ls)
def rkD (C : Addr) (row : List Str) : D := .obj C rkNs [.tup (row.map D.str)]
/-- the things marked c -/
def marked (c : Nat) (l : Lk) : List Str := ((l.1.zip l.2).filter fun q => decide (q.2 = c)).map (·.1)
structure LookC (K : PySem.W.Frag) (mg : Str → Option Value) (C : Addr) : Prop where
  cl : Cls K C
  menu : NoAttr K C "menu"
  marks : NoAttr K C "marks"
  ins : C8.InsC K C
  mgc : mg "Look" = some (.ref C)
structure LooksC (K : PySem.W.Frag) (mg : Str → Option Value) (C : Addr) : Prop where
  cl : Cls K C
  named : NoAttr K C "named"
  seen : NoAttr K C "seen"
  mgc : mg "Looks" = some (.ref C)
structure RankC (K : PySem.W.Frag) (mg : Str → Option Value) (C : Addr) : Prop where
  cl : Cls K C
  names : NoAttr K C "names"
  ins : C8.InsC K C
  mgc : mg "Ranking" = some (.ref C)
section
variable {P : Program} {w : World} {K : PySem.W.Frag} {mg : Str → Option Value} {base : Heap} {f : Addr} {fd : FuncData} {C Cs : Addr}
/-! Look.__init__ -/
def lkR (ds : List D) : Prop := ∃ l : Lk, ds = lkDs l ∧ OkLook l
abbrev nLi : List Str := ["self", "menu", "marks"]
theorem sc_li : FnScope nLi ["self", "menu", "marks"] (defScope (mth 71 0)) := C8.fnScope_by (by decide +kernel)
theorem ok_li (F : FnP K "__init__" "Look.__init__" (mth 71 0) f fd) (B : Bi mg) (T : LookC K mg C) (c1 : CalP P w K mg base 3 "check_names" chnR) (c2 : CalP P w K mg base 1 "are_marks" amR) : FnOk P w K mg base C8.CX0 4 f fd ["self", "menu", "marks"] (spI C lkNs lkR) := by
  refine fnI F sc_li (by rintro _ ⟨l, rfl, _⟩; rfl) fun cdv A outer s H E hr x ds h => ?_
  obtain ⟨l, rfl, hO⟩ := h
  have hf := hO.menu.few
  refine ini_pre (es_expr (em_call (ρ := [some (.val (.ref x)), some (.tup (l.1.map D.str)), some (.str (SX.S l.2))]) c1 hr (Nat.le_refl _) rfl ⟨⟨l.1, rfl, hO.menu, rfl⟩, rfl⟩ (a1 (v 1)))) (ini_pre (es_skip ?t) (ini_fld T.cl T.menu (by decide) (by decide) (v 0) (v 1) (ini_fld T.cl T.marks (by decide) (by decide) (v 0) (v 2) ini_nil)))
  case t => exact et_is (et_not (et_val (em_call c2 hr (by decide) rfl ⟨l.2, rfl, by rw [hO.len]; omega, hO.marks, rfl⟩ (a2 (v 2) (em_is (e_lenT B (v 1 (d := .tup (l.1.map D.str)))) (by rw [List.length_map, hO.len])))))) rfl
/-! taken, passed -/
def tkR (C : Addr) (c : Nat) (ds : List D) (d : D) : Prop := ∃ l : Lk, ds = [lkD C l] ∧ OkLook l ∧ d = .tup ((marked c l).map D.str)
abbrev nTk : List Str := ["self", "thing", "mark"]
theorem sc_tk : FnScope nTk ["self"] (defScope (mth 71 3)) := C8.fnScope_by (by decide +kernel)
theorem sc_ps : FnScope nTk ["self"] (defScope (mth 71 4)) := C8.fnScope_by (by decide +kernel)
theorem zip_map {l : Lk} : (((l.1.map D.str).zip (SX.S l.2).cps.toList).map fun q => D.tup [q.1, .str ⟨#[q.2]⟩]) = (l.1.zip l.2).map fun q => D.tup [D.str q.1, .str ⟨#[q.2]⟩] := by
  rw [S_list, List.zip_map_left, List.map_map] <;> rfl
theorem ok_tk (F : FnP K "taken" "Look.taken" (mth 71 3) f fd) (B : Bi mg) (T : LookC K mg C) : FnOk P w K mg base C8.CX0 1 f fd ["self"] (spD (tkR C 43)) := by
  refine fnD F sc_tk (by rintro _ _ ⟨l, rfl, _⟩; rfl) fun cdv A outer s H E hr ds d h => ?_
  obtain ⟨l, rfl, hO, rfl⟩ := h
  have hf := hO.menu.few
  refine ess_one (es_ret (e_tuple B (e_lcS (lc2 [("thing", 1), ("mark", 2)] 1 2 (xs := l.1.zip l.2) (φ1 := fun q => D.str q.1) (φ2 := fun q => D.str ⟨#[q.2]⟩) (fun q => decide (q.2 = 43)) (fun q => .str q.1) sc_tk.nd ?it ?len (fun _ _ _ _ _ => pn2 1 2 sc_tk.nd) (blkOk_by (N := nTk) (sc := defScope (mth 71 3)) (by decide +kernel)) fun y hy _ _ _ _ _ => ⟨ets_one (et_is (t_eqS (v 2) em_str) sign_eq), fun _ => v 1⟩))))
  case it =>
    rw [← zip_map]
    exact ei_zip rfl (B.free _ (by decide)) (by rw [List.length_map]; show l.1.length = (SX.S l.2).length; rw [SX.S_len, hO.len]) (a2 (em_fld (v 0 (d := lkD C l)) T.cl T.menu rfl) (em_fld (v 0 (d := lkD C l)) T.cl T.marks rfl))
  case len =>
    rw [List.length_zip]
    omega
theorem ok_ps (F : FnP K "passed" "Look.passed" (mth 71 4) f fd) (B : Bi mg) (T : LookC K mg C) : FnOk P w K mg base C8.CX0 1 f fd ["self"] (spD (tkR C 45)) := by
  refine fnD F sc_ps (by rintro _ _ ⟨l, rfl, _⟩; rfl) fun cdv A outer s H E hr ds d h => ?_
  obtain ⟨l, rfl, hO, rfl⟩ := h
  have hf := hO.menu.few
  refine ess_one (es_ret (e_tuple B (e_lcS (lc2 [("thing", 1), ("mark", 2)] 1 2 (xs := l.1.zip l.2) (φ1 := fun q => D.str q.1) (φ2 := fun q => D.str ⟨#[q.2]⟩) (fun q => decide (q.2 = 45)) (fun q => .str q.1) sc_ps.nd ?it ?len (fun _ _ _ _ _ => pn2 1 2 sc_ps.nd) (blkOk_by (N := nTk) (sc := defScope (mth 71 4)) (by decide +kernel)) fun y hy _ _ _ _ _ => ⟨ets_one (et_is (t_eqS (v 2) em_str) sign_eq), fun _ => v 1⟩))))
  case it =>
    rw [← zip_map]
    exact ei_zip rfl (B.free _ (by decide)) (by rw [List.length_map]; show l.1.length = (SX.S l.2).length; rw [SX.S_len, hO.len]) (a2 (em_fld (v 0 (d := lkD C l)) T.cl T.menu rfl) (em_fld (v 0 (d := lkD C l)) T.cl T.marks rfl))
  case len =>
    rw [List.length_zip]
    omega
/-! wrong_look -/
def wlR (C : Addr) (ds : List D) (d : D) : Prop := ∃ (ls : List Lk) (named : List Str), ds = [.tup (ls.map (lkD C)), .tup (named.map D.str)] ∧ ls.length ≤ 12 ∧ (∀ l ∈ ls, OkLook l ∧ ∀ x ∈ l.1, x ∈ named) ∧ d = .int (-1)
abbrev nWl : List Str := ["looks", "things", "k", "look"]
theorem sc_wl : FnScope nWl ["looks", "things"] (defScope (top 73)) := C8.fnScope_by (by decide +kernel)
theorem e_isC {X : Cx} {ρ : En} {e : Expr} {n : Str} {p pos pn : Pos} {ns : List Str} {l : List D} (B : Bi X.mg) (ins : C8.InsC X.K C) (hm : X.mg n = some (.ref C)) (h : Em X e ρ (.obj C ns l)) (hg : L2.Gl X "isinstance" := by rfl) (hgn : L2.Gl X n := by rfl) (hdb : (n == ("__debug__" : Str)) = false := by decide) (hs : starEach [e, .Name n pn] X.env = (false, eval e X.env) :: starEach [.Name n pn] X.env := by rfl) (hs2 : starEach [.Name n pn] X.env = (false, eval (.Name n pn) X.env) :: starEach [] X.env := by rfl) (hpl : (backTo pos (starEach [.Name n pn] X.env)).any (·.1) = false := by rfl) :
    Em X (.Call (.Name "isinstance" p) [e, .Name n pn] [] pos) ρ (.bl true) :=
  em_callB (C8.call_isC ins) cd_isC hg (B.free _ (by decide)) boot_isinstance (a2 h (em_glob (fun _ => rep_val) hgn hm rfl hdb) hs hs2) (he := hs) (hpl := hpl)
theorem all_part {l m : List Str} (h : ∀ x ∈ l, x ∈ m) : (l.map fun x => decide (x ∈ m)).all id = true := by
  rw [List.all_map]
  exact List.all_eq_true.mpr fun x hx => decide_eq_true (h x hx)
theorem ok_wl (F : FnP K "wrong_look" "wrong_look" (top 73) f fd) (B : Bi mg) (M : Mst mg) (T : LookC K mg C) (c : CalP P w K mg base 1 "is_part" partR) : FnOk P w K mg base C8.CX0 2 f fd ["looks", "things"] (spD (wlR C)) := by
  refine fnD F sc_wl (by rintro _ _ ⟨l, m, rfl, _⟩; rfl) fun cdv A outer s H E hr ds d h => ?_
  obtain ⟨ls, named, rfl, hl, hO, rfl⟩ := h
  obtain ⟨t, hM⟩ := M.looks
  refine ess_nx (es_skip (et_is (et_not (et_val (e_isi (q := true) B (v 0 (d := .tup (ls.map (lkD C)))) boot_tuple rfl kit_tt (B.free _ (by decide))))) rfl)) (ess_nx (es_for (b := .two 2 3) (ds := (ls.map (lkD C)).zipIdx.map fun q => D.tup [.int (q.2 : Nat), q.1]) (fun _ => [some (.tup (ls.map (lkD C))), some (.tup (named.map D.str)), none, none]) PassesOwn.never rfl ?it (pn2 2 3 sc_wl.nd) (Le.refl _) ?body) (ess_one (es_ret (em_un un_neg ud_int em_int))))
  case it => exact ei_enum rfl (B.free _ (by decide)) (a1 (v 0))
  case body =>
    intro i d hd
    obtain ⟨z, hz, rfl⟩ := enum_get hd
    have hz2 := hz
    rw [List.getElem?_map] at hz
    obtain ⟨l, hx, rfl⟩ := Option.map_eq_some_iff.mp hz
    have hlt := (List.getElem?_eq_some_iff.mp hx).1
    obtain ⟨hO1, hO2⟩ := hO l (List.mem_of_getElem? hx)
    have hfew := hO1.menu.few
    refine ⟨_, rfl, ess_to (ess_one (es_skip (et_w (ew_or (p := false) (q := false) ?_ fun _ => ew_or (p := false) (q := false) ?_ fun _ => ew_or1 ?_)))) (Le.cons (Le.cons (Le.drop (Le.drop Le.nil))))⟩
    · exact et_is (et_not (et_val (e_isC B T.ins T.mgc (v 3 (d := lkD C l))))) rfl
    · exact et_is (t_eqI (v 2 (d := .int (i : Nat))) (em_glob (d := .int 12) (fun _ => rep_int) rfl hM ⟨_, rfl⟩)) (decide_eq_false (by omega))
    · exact et_is (et_not (et_val (em_call c hr (Nat.le_refl _) rfl ⟨l.1, named, rfl, by omega, rfl⟩ (a2 (em_fld (v 3 (d := lkD C l)) T.cl T.menu rfl) (v 1))))) (by rw [all_part hO2] <;> rfl)
/-! Looks.__init__ -/
def lsR (C : Addr) (ds : List D) : Prop := ∃ (named : List Str) (ls : List Lk), ds = lsDs C named ls ∧ OkNames named ∧ ls.length ≤ 12 ∧ ∀ l ∈ ls, OkLook l ∧ ∀ x ∈ l.1, x ∈ named
abbrev nSi : List Str := ["self", "things", "looks", "wrong"]
theorem sc_si : FnScope nSi ["self", "things", "looks"] (defScope (mth 74 0)) := C8.fnScope_by (by decide +kernel)
theorem ok_si {dvs : List V} (F : FunD K "__init__" "Looks.__init__" (defArgs (mth 74 0)) (defBody (mth 74 0)) (defScope (mth 74 0)) dvs [] f fd) (T : LooksC K mg Cs) (c1 : CalP P w K mg base 3 "check_things" chnR) (c2 : CalP P w K mg base 2 "wrong_look" (wlR C)) : FnOk P w K mg base C8.CX0 4 f fd ["self", "things", "looks"] (spI Cs lsNs (lsR C)) := by
  refine fnI F sc_si (by rintro _ ⟨l, m, rfl, _⟩; rfl) fun cdv A outer s H E hr x ds h => ?_
  obtain ⟨named, ls, rfl, hN, hl, hO⟩ := h
  exact ini_pre (es_expr (em_call (ρ := [some (.val (.ref x)), some (.tup (named.map D.str)), some (.tup (ls.map (lkD C))), none]) c1 hr (Nat.le_refl _) rfl ⟨⟨named, rfl, hN, rfl⟩, rfl⟩ (a1 (v 1)))) (ini_pre (st_ 3 sc_si.nd (em_call c2 hr (by decide) rfl ⟨ls, named, rfl, hl, hO, rfl⟩ (a2 (v 2) (v 1)))) (ini_pre (es_skip (et_is (t_neI (v 3) (em_un un_neg ud_int em_int)) ne_m1)) (ini_fld T.cl T.named (by decide) (by decide) (v 0) (v 1) (ini_fld T.cl T.seen (by decide) (by decide) (v 0) (v 2) ini_nil))))
/-! Ranking -/
def rkR (ds : List D) : Prop := ∃ row : List Str, ds = [.tup (row.map D.str)] ∧ OkRow row
abbrev nRi : List Str := ["self", "row", "wrong"]
theorem sc_ri : FnScope nRi ["self", "row"] (defScope (mth 54 0)) := C8.fnScope_by (by decide +kernel)
theorem ok_ri (F : FnP K "__init__" "Ranking.__init__" (mth 54 0) f fd) (T : RankC K mg C) (c : CalP P w K mg base 2 "wrong_name" wrR) : FnOk P w K mg base C8.CX0 3 f fd ["self", "row"] (spI C rkNs rkR) := by
  refine fnI F sc_ri (by rintro _ ⟨l, rfl, _⟩; rfl) fun cdv A outer s H E hr x ds h => ?_
  obtain ⟨row, rfl, hO⟩ := h
  exact ini_pre (st_ (ρ := [some (.val (.ref x)), some (.tup (row.map D.str)), none]) 2 sc_ri.nd (em_call c hr (Nat.le_refl _) rfl ⟨row, rfl, hO, rfl⟩ (a1 (v 1)))) (ini_pre (es_skip (et_is (t_neI (v 2) (em_un un_neg ud_int em_int)) ne_m1)) (ini_fld T.cl T.names (by decide) (by decide) (v 0) (v 1) ini_nil))
def rwR (C : Addr) (ds : List D) (d : D) : Prop := ∃ row : List Str, ds = [rkD C row] ∧ d = .tup (row.map D.str)
abbrev nRw : List Str := ["self"]
theorem sc_rw : FnScope nRw ["self"] (defScope (mth 54 3)) := C8.fnScope_by (by decide +kernel)
theorem ok_rw (F : FnP K "row" "Ranking.row" (mth 54 3) f fd) (T : RankC K mg C) : FnOk P w K mg base C8.CX0 1 f fd ["self"] (spD (rwR C)) := by
  refine fnD F sc_rw (by rintro _ _ ⟨l, rfl, _⟩; rfl) fun cdv A outer s H E hr ds d h => ?_
  obtain ⟨row, rfl, rfl⟩ := h
  exact ess_one (es_ret (em_fld (v 0 (d := rkD C row)) T.cl T.names rfl))
def srR (C : Addr) (ds : List D) (d : D) : Prop := ∃ row : List Str, ds = [rkD C row] ∧ OkRow row ∧ d = .str (Txt.join " " row)
theorem sc_sr : FnScope nRw ["self"] (defScope (mth 54 16)) := C8.fnScope_by (by decide +kernel)
theorem sum_len {row : List Str} (h : ∀ x ∈ row, OkName x) : (row.map (·.length)).sum ≤ 8 * row.length := by
  induction row with
  | nil => simp
  | cons x r ih =>
    have h1 := (h x (List.mem_cons_self ..)).len
    have h2 := ih fun y hy => h y (List.mem_cons_of_mem _ hy)
    rw [List.map_cons, List.sum_cons, List.length_cons]
    omega
theorem ok_sr (F : FnP K "__str__" "Ranking.__str__" (mth 54 16) f fd) (T : RankC K mg C) : FnOk P w K mg base C8.CX0 1 f fd ["self"] (spD (srR C)) := by
  refine fnD F sc_sr (by rintro _ _ ⟨l, rfl, _⟩; rfl) fun cdv A outer s H E hr ds d h => ?_
  obtain ⟨row, rfl, hO, rfl⟩ := h
  have h1 := sum_len hO.all
  have h2 := hO.few
  refine ess_one (es_ret (e_joinT em_str (em_fld (v 0 (d := rkD C row)) T.cl T.names rfl) ?_))
  have e : (Str.ofString " ").length = 1 := by decide +kernel
  rw [e]
  omega
end
end Mh
set_option maxRecDepth 100000
set_option maxHeartbeats 2000000
/-! F5: letting. -/
namespace Mh
open PySem PySem.Spec PyProof.Rows L2
section
variable {P : Program} {w : World} {K : PySem.W.Frag} {mg : Str → Option Value} {base : Heap} {f : Addr} {fd : FuncData} {C Cs : Addr}
theorem zipIdx_str {T : List Str} : ((T.map D.str).zipIdx.map fun q => D.tup [.int (q.2 : Nat), q.1]) = T.zipIdx.map fun q => D.tup [D.int (q.2 : Nat), D.str q.1] := by
  have key : ∀ (T : List Str) (k : Nat), (((T.map D.str).zipIdx k).map fun q => D.tup [.int (q.2 : Nat), q.1]) = (T.zipIdx k).map fun q => D.tup [D.int (q.2 : Nat), D.str q.1] := by
    intro T
    induction T with
    | nil => intro k; rfl
    | cons t r ih =>
      intro k
      rw [List.map_cons, List.zipIdx_cons, List.map_cons, ih (k + 1), List.zipIdx_cons, List.map_cons]
  exact key T 0
/-! bits_of -/
abbrev nBo : List Str := ["things", "some", "k", "thing"]
theorem sc_bo : FnScope nBo ["things", "some"] (defScope (top 57)) := C8.fnScope_by (by decide +kernel)
def boR (ds : List D) (d : D) : Prop := ∃ (T M : List Str), ds = [.tup (T.map D.str), .tup (M.map D.str)] ∧ T.length ≤ 10 ∧ d = .int (code T fun t => decide (t ∈ M) : Nat)
theorem ok_bo (F : FnP K "bits_of" "bits_of" (top 57) f fd) (B : Bi mg) : FnOk P w K mg base C8.CX0 1 f fd ["things", "some"] (spD boR) := by
  refine fnD F sc_bo (by rintro _ _ ⟨l, x, rfl, _⟩; rfl) fun cdv A outer s H E hr ds d h => ?_
  obtain ⟨T, M, rfl, hl, rfl⟩ := h
  refine ess_one (es_ret (em_is (e_sum B (e_lcI (lc2 [("k", 2), ("thing", 3)] 2 3 (xs := T.zipIdx) (φ1 := fun q => D.int (q.2 : Nat)) (φ2 := fun q => D.str q.1) (fun q => decide (q.1 ∈ M)) (fun q => .int (1 * 2 ^ q.2)) sc_bo.nd ?it ?len (fun _ _ _ _ _ => pn2 2 3 sc_bo.nd) (blkOk_by (N := nBo) (sc := defScope (top 57)) (by decide +kernel)) fun y hy _ _ _ _ _ => ⟨ets_one (t_inT (v 3) (v 1)), fun _ => e_shl em_int (v 2) ?cp⟩))) ?_))
  case it =>
    rw [← zipIdx_str]
    exact ei_enum rfl (B.free _ (by decide)) (a1 (v 0))
  case len =>
    rw [List.length_zipIdx]
    omega
  case cp =>
    obtain ⟨x, k⟩ := y
    have := List.mem_zipIdx_iff_getElem?.mp hy
    have := (List.getElem?_eq_some_iff.mp this).1
    exact ⟨by omega, by show ((k : Nat) : Int) ≤ 1000000; omega, by decide⟩
  · have := code_sum (T := T) (p := fun t => decide (t ∈ M)) 0
    refine congrArg D.int (Eq.trans ?_ (this.trans (by simp)))
    rfl
/-! things_of -/
abbrev nTo : List Str := ["things", "bits", "k", "thing"]
theorem sc_to : FnScope nTo ["things", "bits"] (defScope (top 58)) := C8.fnScope_by (by decide +kernel)
def toR (ds : List D) (d : D) : Prop := ∃ (T : List Str) (p : Str → Bool), ds = [.tup (T.map D.str), .int (code T p : Nat)] ∧ T.length ≤ 10 ∧ d = .tup ((T.filter p).map D.str)
theorem ok_to (F : FnP K "things_of" "things_of" (top 58) f fd) (B : Bi mg) : FnOk P w K mg base C8.CX0 1 f fd ["things", "bits"] (spD toR) := by
  refine fnD F sc_to (by rintro _ _ ⟨l, x, rfl, _⟩; rfl) fun cdv A outer s H E hr ds d h => ?_
  obtain ⟨T, p, rfl, hl, rfl⟩ := h
  refine ess_one (es_ret (em_is (e_tuple B (e_lcS (lc2 [("k", 2), ("thing", 3)] 2 3 (xs := T.zipIdx) (φ1 := fun q => D.int (q.2 : Nat)) (φ2 := fun q => D.str q.1) (fun q => (code T p).testBit q.2) (fun q => .str q.1) sc_to.nd ?it ?len (fun _ _ _ _ _ => pn2 2 3 sc_to.nd) (blkOk_by (N := nTo) (sc := defScope (top 58)) (by decide +kernel)) fun y hy _ _ _ _ _ => ⟨ets_one (et_is (t_eqI (e_land (e_shr (v 1) (v 2)) em_int) em_int) bit_test), fun _ => v 3⟩))) (by rw [filter_idx])))
  case it =>
    rw [← zipIdx_str]
    exact ei_enum rfl (B.free _ (by decide)) (a1 (v 0))
  case len =>
    rw [List.length_zipIdx]
    omega
/-! let_row -/
abbrev Pr : Type := List Str × List Str
def prD (q : Pr) : D := .tup [.tup (q.1.map D.str), .tup (q.2.map D.str)]
/-- what is barred while L are left -/
def bars (T : List Str) (prs : List Pr) (L : Str → Bool) : Str → Bool := prs.foldl (fun b q => if (T.all fun t => (decide (t ∈ q.1) && L t) == decide (t ∈ q.1)) = true then fun t => b t || decide (t ∈ q.2) else b) fun _ => false
def letL (T : List Str) (prs : List Pr) : Nat → (Str → Bool) → List Str → Option (List Str) × List Str
  | 0, _, row => (some row, [])
  | n + 1, L, row => if T.any L = true then
      if (T.all fun t => (L t && bars T prs L t) == L t) = true then (none, T.filter L)
      else letL T prs n (fun t => L t && bars T prs L t) (row ++ T.filter fun t => L t && !bars T prs L t)
    else (some row, [])
def letRow (T : List Str) (prs : List Pr) : Option (List Str) × List Str := letL T prs (code T (fun t => decide (t ∈ T)) + 1) (fun t => decide (t ∈ T)) []
def orow : Option (List Str) → D
  | none => .non
  | some r => .tup (r.map D.str)
def letD (q : Option (List Str) × List Str) : D := .tup [orow q.1, .tup (q.2.map D.str)]
def lrR (ds : List D) (d : D) : Prop := ∃ (T : List Str) (prs : List Pr), ds = [.tup (T.map D.str), .lst (prs.map prD)] ∧ T.length ≤ 10 ∧ prs.length ≤ 1000 ∧ d = letD (letRow T prs)
theorem letL_more {T : List Str} {prs : List Pr} : ∀ (n m : Nat) (L : Str → Bool) (row : List Str), code T L < n → code T L < m → letL T prs n L row = letL T prs m L row := by
  intro n
  induction n with
  | zero => intro m L row h _; omega
  | succ n ih =>
    intro m L row h1 h2
    cases m with
    | zero => omega
    | succ m =>
      unfold letL
      by_cases q : T.any L = true
      · rw [if_pos q, if_pos q]
        by_cases q2 : (T.all fun t => (L t && bars T prs L t) == L t) = true
        · rw [if_pos q2, if_pos q2]
        · rw [if_neg q2, if_neg q2]
          have h3 := code_split (T := T) (p := L) (q := bars T prs L)
          have h4 : code T (fun t => L t && !bars T prs L t) ≠ 0 := fun e => q2 (List.all_eq_true.mpr fun t ht => by
            have := List.any_eq_false.mp (code_zero.mp e) t ht
            cases h5 : L t <;> cases h6 : bars T prs L t <;> simp [h5, h6] at this ⊢)
          exact ih m _ _ (by omega) (by omega)
      · rw [if_neg q, if_neg q]
abbrev nLr : List Str := ["things", "pairs", "looks", "row", "left", "barred", "menu", "passed"]
theorem sc_lr : FnScope nLr ["things", "pairs"] (defScope (top 59)) := C8.fnScope_by (by decide +kernel)
def lkI (T : List Str) (q : Pr) : D := .tup [.int (code T fun t => decide (t ∈ q.1) : Nat), .int (code T fun t => decide (t ∈ q.2) : Nat)]
def eLr (T : List Str) (prs : List Pr) (l : Addr) (L : Str → Bool) : En := [some (.tup (T.map D.str)), some (.lst (prs.map prD)), some (.lst (prs.map (lkI T))), some (.val (.ref l)), some (.int (code T L : Nat)), none, none, none]
theorem bars_take {T : List Str} {prs : List Pr} {L : Str → Bool} {i : Nat} {q : Pr} (h : prs[i]? = some q) : bars T (prs.take (i + 1)) L = if (T.all fun t => (decide (t ∈ q.1) && L t) == decide (t ∈ q.1)) = true then (fun t => bars T (prs.take i) L t || decide (t ∈ q.2)) else bars T (prs.take i) L := by
  unfold bars
  rw [List.take_succ, h, List.foldl_append] <;> rfl
theorem code_false {T : List Str} : code T (fun _ => false) = 0 := code_zero.mpr (by simp)
def eB (T : List Str) (prs : List Pr) (l : Addr) (L b : Str → Bool) : En := [some (.tup (T.map D.str)), some (.lst (prs.map prD)), some (.lst (prs.map (lkI T))), some (.val (.ref l)), some (.int (code T L : Nat)), some (.int (code T b : Nat)), none, none]
def outLr (T : List Str) (prs : List Pr) (l : Addr) (s : (Str → Bool) × List Str) : OO := match (letL T prs (code T s.1 + 1) s.1 s.2).1 with
  | some r => .nx (eLr T prs l fun _ => false) (r.map D.str)
  | none => .rt (letD (letL T prs (code T s.1 + 1) s.1 s.2))
def bodyLr (T : List Str) (prs : List Pr) (l : Addr) (s : (Str → Bool) × List Str) : OO := if (T.all fun t => (s.1 t && bars T prs s.1 t) == s.1 t) = true then .rt (letD (none, T.filter s.1)) else
  .nx (eLr T prs l fun t => s.1 t && bars T prs s.1 t) ((s.2 ++ T.filter fun t => s.1 t && !bars T prs s.1 t).map D.str)
theorem letL_some {T : List Str} {prs : List Pr} : ∀ {n : Nat} {L : Str → Bool} {row r re : List Str}, letL T prs n L row = (some r, re) → re = []
  | 0, L, row, r, re, h => by
    unfold letL at h
    exact (Prod.mk.inj h).2.symm
  | n + 1, L, row, r, re, h => by
    unfold letL at h
    by_cases q : T.any L = true
    · rw [if_pos q] at h
      by_cases q2 : (T.all fun t => (L t && bars T prs L t) == L t) = true
      · rw [if_pos q2] at h
        cases (Prod.mk.inj h).1
      · rw [if_neg q2] at h
        exact letL_some h
    · rw [if_neg q] at h
      exact (Prod.mk.inj h).2.symm
theorem ok_lr (F : FnP K "let_row" "let_row" (top 59) f fd) (B : Bi mg) (c1 : CalP P w K mg base 1 "bits_of" boR) (c2 : CalP P w K mg base 1 "things_of" toR) : FnOk P w K mg base C8.CX0 2 f fd ["things", "pairs"] (spD lrR) := by
  refine fnD F sc_lr (by rintro _ _ ⟨l, x, rfl, _⟩; rfl) fun cdv A outer s H E hr ds d h => ?_
  obtain ⟨T, prs, rfl, hT, hp, rfl⟩ := h
  refine ess_nx (es_setLc (i := 2) rfl rfl (sw_true rfl rfl rfl (by decide +kernel)) (lc2 [("menu", 6), ("passed", 7)] 6 7 (xs := prs) (φ1 := fun q => D.tup (q.1.map D.str)) (φ2 := fun q => D.tup (q.2.map D.str)) (fun _ => true) (lkI T) sc_lr.nd (ei_list (v 1)) (by omega) (fun _ _ _ _ _ => pn2 6 7 sc_lr.nd) (blkOk_by (N := nLr) (sc := defScope (top 59)) (by decide +kernel)) fun q hq _ _ _ _ _ => ⟨ets_nil, fun _ => em_tup (a2 (em_call c1 hr (Nat.le_refl _) rfl ⟨T, q.1, rfl, hT, rfl⟩ (a2 (v 0) (v 6))) (em_call c1 hr (Nat.le_refl _) rfl ⟨T, q.2, rfl, hT, rfl⟩ (a2 (v 0) (v 7)))) (by show 2 ≤ 100000; decide)⟩)) ?_
  rw [filter_yes]
  refine ess_own (i := 3) sc_lr.nd fun l => ?_
  refine oss_nx (os_pre (st_ 4 sc_lr.nd (em_call c1 hr (Nat.le_refl _) rfl ⟨T, T, rfl, hT, rfl⟩ (a2 (v 0) (v 0))))) ?_
  refine oss_thn (o1 := outLr T prs l (fun t => decide (t ∈ T), [])) (os_while2 (α := (Str → Bool) × List Str) (fun st => eLr T prs l st.1) (fun st => st.2.map D.str) (fun st => T.any st.1) (fun st => code T st.1) (outLr T prs l) (bodyLr T prs l) (fun st => st.2.length + (T.filter st.1).length ≤ 10) PassesOwn.never (fun st _ => et_is (t_gt (v 4) em_int) code_pos) (fun st _ h => ?stop) (fun st hG h => ?body) (fun st hG h => ?turn) (fun t => decide (t ∈ T), []) ?ini) ?_
  case ini =>
    have := List.length_filter_le (fun t => decide (t ∈ T)) T
    show 0 + (T.filter fun t => decide (t ∈ T)).length ≤ 10
    omega
  case stop =>
    have e1 : letL T prs (code T st.1 + 1) st.1 st.2 = (some st.2, []) := by
      unfold letL
      rw [if_neg (by rw [h]; decide)]
    unfold outLr
    rw [e1]
    show OO.nx (eLr T prs l fun _ => false) (st.2.map D.str) = OO.nx (eLr T prs l st.1) (st.2.map D.str)
    unfold eLr
    rw [code_zero.mpr h, code_false]
  case turn =>
    obtain ⟨L, row⟩ := st
    have h : T.any L = true := h
    have hun : letL T prs (code T L + 1) L row = if (T.all fun t => (L t && bars T prs L t) == L t) = true then (none, T.filter L) else letL T prs (code T L) (fun t => L t && bars T prs L t) (row ++ T.filter fun t => L t && !bars T prs L t) := by
      conv => lhs; unfold letL
      rw [if_pos h]
    unfold outLr bodyLr
    by_cases hst : (T.all fun t => (L t && bars T prs L t) == L t) = true
    · refine Or.inr ⟨letD (none, T.filter L), ?_, if_pos hst⟩
      show (match (letL T prs (code T L + 1) L row).1 with | some r => OO.nx (eLr T prs l fun _ => false) (r.map D.str) | none => OO.rt (letD (letL T prs (code T L + 1) L row))) = _
      rw [hun, if_pos hst]
    · have h3 := code_split (T := T) (p := L) (q := bars T prs L)
      have h4 : code T (fun t => L t && !bars T prs L t) ≠ 0 := fun e => hst (List.all_eq_true.mpr fun t ht => by
        have := List.any_eq_false.mp (code_zero.mp e) t ht
        cases h5 : L t <;> cases h6 : bars T prs L t <;> simp [h5, h6] at this ⊢)
      have e5 : letL T prs (code T L) (fun t => L t && bars T prs L t) (row ++ T.filter fun t => L t && !bars T prs L t) = letL T prs (code T (fun t => L t && bars T prs L t) + 1) (fun t => L t && bars T prs L t) (row ++ T.filter fun t => L t && !bars T prs L t) := letL_more _ _ _ _ (by omega) (by omega)
      have h6 : (T.filter fun t => L t && !bars T prs L t).length + (T.filter fun t => L t && bars T prs L t).length = (T.filter L).length := by
        have key : ∀ (T : List Str) (p q : Str → Bool), (T.filter fun t => p t && !q t).length + (T.filter fun t => p t && q t).length = (T.filter p).length := by
          intro T p q
          induction T with
          | nil => rfl
          | cons t r ih =>
            rw [List.filter_cons, List.filter_cons, List.filter_cons]
            cases p t <;> cases q t <;> simp <;> omega
        exact key T L (bars T prs L)
      refine Or.inl ⟨(fun t => L t && bars T prs L t, row ++ T.filter fun t => L t && !bars T prs L t), ?_, ?_, ?_, if_neg hst⟩
      · show (row ++ _).length + (T.filter fun t => L t && bars T prs L t).length ≤ 10
        have hG : row.length + (T.filter L).length ≤ 10 := hG
        rw [List.length_append]
        omega
      · show code T (fun t => L t && bars T prs L t) < code T L
        omega
      show (match (letL T prs (code T L + 1) L row).1 with | some r => OO.nx (eLr T prs l fun _ => false) (r.map D.str) | none => OO.rt (letD (letL T prs (code T L + 1) L row))) = _
      rw [hun, if_neg hst, e5]
  case body =>
    obtain ⟨L, row⟩ := st
    have h : T.any L = true := h
    show PSs _ _ (tsO l (eLr T prs l L) (row.map D.str) (bodyLr T prs l (L, row)))
    refine oss_nx (os_pre (st_ 5 sc_lr.nd em_int)) (oss_nx (os_pre (es_for (b := .two 6 7) (ds := prs.map (lkI T)) (fun i => eB T prs l L (bars T (prs.take i) L)) PassesOwn.never rfl (ei_list (v 2)) (pn2 6 7 sc_lr.nd) ?z ?b)) ?r)
    case z =>
      show Le _ (eB T prs l L (bars T [] L))
      have e : bars T [] L = fun _ => false := rfl
      unfold eB
      rw [e, code_false]
      exact Le.refl _
    case b =>
      intro i d hd
      rw [List.getElem?_map] at hd
      obtain ⟨q, hq, rfl⟩ := Option.map_eq_some_iff.mp hd
      refine ⟨_, rfl, ess_one (es_if (q := T.all fun t => (decide (t ∈ q.1) && L t) == decide (t ∈ q.1)) (et_is (t_eqI (e_land (v 6) (v 4)) (v 6)) (by rw [bAnd, bEq])) (fun hT => ess_to (ess_one (st_ 5 sc_lr.nd (em_is (e_lor (v 5) (v 7)) (congrArg D.int bOr)))) ?_) (fun hF => ess_to ess_nil ?_))⟩
      · have e := bars_take (T := T) (L := L) hq
        rw [if_pos hT] at e
        rw [e]
        exact Le.cons (Le.cons (Le.cons (Le.cons (Le.cons (Le.cons (Le.drop (Le.drop Le.nil)))))))
      · have e := bars_take (T := T) (L := L) hq
        rw [if_neg (by rw [hF]; decide)] at e
        rw [e]
        exact Le.cons (Le.cons (Le.cons (Le.cons (Le.cons (Le.cons (Le.drop (Le.drop Le.nil)))))))
    case r =>
      rw [List.length_map, List.take_length]
      unfold bodyLr
      by_cases hst : (T.all fun t => (L t && bars T prs L t) == L t) = true
      · rw [if_pos hst]
        exact oss_rt (os_if (q := T.all fun t => (L t && bars T prs L t) == L t) (et_is (t_eqI (e_land (v 4) (v 5)) (v 4)) (by rw [bAnd, bEq])) (fun _ => oss_one (os_ret (em_tup (a2 em_non (em_call c2 hr (Nat.le_refl _) rfl ⟨T, L, rfl, hT, rfl⟩ (a2 (v 0) (v 4)))) (by show 2 ≤ 100000; decide)))) fun q => absurd hst (by rw [q]; decide))
      · rw [if_neg hst, List.map_append]
        have hG : row.length + (T.filter L).length ≤ 10 := hG
        have hl := List.length_filter_le (fun t => L t && !bars T prs L t) T
        refine oss_nx (os_if (q := T.all fun t => (L t && bars T prs L t) == L t) (et_is (t_eqI (e_land (v 4) (v 5)) (v 4)) (by rw [bAnd, bEq])) (fun q => absurd q hst) fun _ => oss_nil) (oss_nx (os_ext (v 3) (em_call c2 hr (Nat.le_refl _) rfl ⟨T, fun t => L t && !bars T prs L t, rfl, hT, rfl⟩ (a2 (v 0) (em_is (e_land (v 4) (e_inv (v 5))) (congrArg D.int bAndNot)))) (by rw [List.length_map, List.length_map]; omega)) (oss_to (oss_one (os_pre (st_ 4 sc_lr.nd (em_is (e_land (v 4) (v 5)) (congrArg D.int bAnd))))) (Le.cons (Le.cons (Le.cons (Le.cons (Le.cons (Le.drop (Le.cons (Le.cons Le.nil))))))))))
  · unfold outLr
    cases hlr : letL T prs (code T (fun t => decide (t ∈ T)) + 1) (fun t => decide (t ∈ T)) [] with
    | mk ro re =>
      have hR : letRow T prs = (ro, re) := hlr
      cases ro with
      | none =>
        show OO.rt _ = OO.rt _
        rw [hR]
      | some r =>
        have hre : re = [] := letL_some hlr
        subst hre
        show PSs _ _ (tsO l (eLr T prs l fun _ => false) (r.map D.str) (.rt (letD (letRow T prs))))
        rw [hR]
        exact oss_one (os_fix (i := 3) (o := .rt .non) rfl (es_ret (em_tup (a2 (e_tuple B (v 3)) (em_tup ea_nil (by show 0 ≤ 100000; decide))) (by show 2 ≤ 100000; decide))))
end
end Mh
set_option maxRecDepth 100000
set_option maxHeartbeats 2000000
/-! F6: pairs, needs, fit. -/
namespace Mh
open PySem PySem.Spec PyProof.Rows L2
theorem OkName.ok {x : Str} (h : OkName x) : PyData.strOk x = true := by
  obtain ⟨c, r, h1, _, _, _, h2⟩ := h
  unfold PyData.strOk
  rw [← Array.all_toList]
  refine List.all_eq_true.mpr fun d hd => decide_eq_true ?_
  have := h2 d hd
  unfold okSign at this
  rw [Bool.or_eq_true, Bool.and_eq_true, Bool.and_eq_true, decide_eq_true_eq, decide_eq_true_eq, decide_eq_true_eq, decide_eq_true_eq] at this
  omega
theorem marked_sub {c : Nat} {l : Lk} {x : Str} (h : x ∈ marked c l) : x ∈ l.1 := by
  unfold marked at h
  obtain ⟨q, hq, rfl⟩ := List.mem_map.mp h
  exact (List.of_mem_zip (List.mem_filter.mp hq).1).1
theorem marked_len {c : Nat} {l : Lk} : (marked c l).length ≤ l.1.length := by
  unfold marked
  rw [List.length_map]
  have := List.length_filter_le (fun q : Str × Nat => decide (q.2 = c)) (l.1.zip l.2)
  rw [List.length_zip] at this
  omega
/-- menu and what is passed -/
def prOf (l : Lk) : Pr := (l.1, marked 45 l)
abbrev Need : Type := Option (Nat × Str)
def needD : Need → D
  | none => .non
  | some q => .tup [.int (q.1 : Nat), .str q.2]
def needs0 (ls : List Lk) : List Need := ls.zipIdx.flatMap fun q => (marked 43 q.1).map fun t => some (q.2, t)
def needsOf (ls : List Lk) : List Need := if (needs0 ls).isEmpty = true then [none] else needs0 ls
def sharp (ls : List Lk) : Need → List Pr
  | none => ls.map prOf
  | some q => ls.map prOf ++ [((ls.getD q.1 ([], [])).1, lessL (ls.getD q.1 ([], [])).1 q.2)]
def OkNeed (ls : List Lk) : Need → Prop
  | none => True
  | some q => q.1 < ls.length
def fitB (named : List Str) (ls : List Lk) : Bool := (needsOf ls).all fun n => (letRow named (sharp ls n)).1.isSome
theorem needs_ok {ls : List Lk} {n : Need} (h : n ∈ needsOf ls) : OkNeed ls n := by
  unfold needsOf at h
  split at h
  · have e : n = none := by simpa using h
    rw [e]
    trivial
  · unfold needs0 at h
    obtain ⟨q, hq, hn⟩ := List.mem_flatMap.mp h
    obtain ⟨t, _, rfl⟩ := List.mem_map.mp hn
    have := List.mem_zipIdx_iff_getElem?.mp hq
    exact (List.getElem?_eq_some_iff.mp this).1
theorem first_bad {α : Type} : ∀ (l : List α) (p : α → Bool), (∀ x ∈ l, p x = true) ∨ ∃ (m : Nat) (x : α), l[m]? = some x ∧ p x = false ∧ ∀ (i : Nat) (y : α), i < m → l[i]? = some y → p y = true
  | [], _ => Or.inl fun _ h => by cases h
  | x :: r, p => by
    cases hx : p x with
    | false => exact Or.inr ⟨0, x, rfl, hx, fun i _ h => by omega⟩
    | true =>
      rcases first_bad r p with h | ⟨m, y, h1, h2, h3⟩
      · exact Or.inl fun y hy => by
          rcases List.mem_cons.mp hy with rfl | hy
          · exact hx
          · exact h y hy
      · refine Or.inr ⟨m + 1, y, by simpa using h1, h2, fun i z hi hz => ?_⟩
        cases i with
        | zero =>
          have e : x = z := by simpa using hz
          rw [← e]
          exact hx
        | succ i => exact h3 i z (by omega) (by simpa using hz)
section
variable {P : Program} {w : World} {K : PySem.W.Frag} {mg : Str → Option Value} {base : Heap} {f : Addr} {fd : FuncData} {C Cs : Addr}
abbrev PrpP (P : Program) (w : World) (K : PySem.W.Frag) (mg : Str → Option Value) (base : Heap) (k : Nat) (C : Addr) (f : Str) (R : List D → D → Prop) : Prop := Prp P w K mg base k C f (spD R)
/-! pairs_of -/
def poR (C : Addr) (ds : List D) (d : D) : Prop := ∃ ls : List Lk, ds = [.tup (ls.map (lkD C))] ∧ ls.length ≤ 12 ∧ (∀ l ∈ ls, OkLook l) ∧ d = .lst ((ls.map prOf).map prD)
abbrev nPo : List Str := ["looks", "look"]
theorem sc_po : FnScope nPo ["looks"] (defScope (top 60)) := C8.fnScope_by (by decide +kernel)
theorem ok_po (F : FnP K "pairs_of" "pairs_of" (top 60) f fd) (T : LookC K mg C) (p : PrpP P w K mg base 1 C "passed" (tkR C 45)) : FnOk P w K mg base C8.CX0 3 f fd ["looks"] (spD (poR C)) := by
  refine fnD F sc_po (by rintro _ _ ⟨l, rfl, _⟩; rfl) fun cdv A outer s H E hr ds d h => ?_
  obtain ⟨ls, rfl, hl, hO, rfl⟩ := h
  refine ess_one (es_ret (em_is (e_map (lc1 [("look", 1)] 1 (xs := ls) (φ := lkD C) (fun _ => true) (fun l => prD (prOf l)) sc_po.nd (ei_tup (v 0)) (by omega) (fun _ _ _ _ _ => pn 1 sc_po.nd) (blkOk_by (N := nPo) (sc := defScope (top 60)) (by decide +kernel)) fun l hl _ _ _ _ _ => ⟨ets_nil, fun _ => em_tup (a2 (em_fld (v 1 (d := lkD C l)) T.cl T.menu rfl) (em_prop p hr (Nat.le_refl _) (v 1 (d := lkD C l)) ⟨l, rfl, hO l hl, rfl⟩)) (by show 2 ≤ 100000; decide)⟩)) (by rw [List.map_map] <;> rfl)))
/-! needs_of -/
def noR (C : Addr) (ds : List D) (d : D) : Prop := ∃ ls : List Lk, ds = [.tup (ls.map (lkD C))] ∧ ls.length ≤ 12 ∧ (∀ l ∈ ls, OkLook l) ∧ d = .lst ((needsOf ls).map needD)
abbrev nNo : List Str := ["looks", "needs", "index", "look", "thing"]
theorem sc_no : FnScope nNo ["looks"] (defScope (top 61)) := C8.fnScope_by (by decide +kernel)
theorem zipIdx_lk {ls : List Lk} : ((ls.map (lkD C)).zipIdx.map fun q => D.tup [.int (q.2 : Nat), q.1]) = ls.zipIdx.map fun q => D.tup [D.int (q.2 : Nat), lkD C q.1] := by
  have key : ∀ (ls : List Lk) (k : Nat), (((ls.map (lkD C)).zipIdx k).map fun q => D.tup [.int (q.2 : Nat), q.1]) = (ls.zipIdx k).map fun q => D.tup [D.int (q.2 : Nat), lkD C q.1] := by
    intro T
    induction T with
    | nil => intro k; rfl
    | cons t r ih =>
      intro k
      rw [List.map_cons, List.zipIdx_cons, List.map_cons, ih (k + 1), List.zipIdx_cons, List.map_cons]
  exact key ls 0
theorem needs0_D {ls : List Lk} : ((needs0 ls).map needD) = ls.zipIdx.flatMap fun q => (marked 43 q.1).map fun t => D.tup [.int (q.2 : Nat), .str t] := by
  unfold needs0
  rw [List.map_flatMap]
  congr 1
  funext q
  rw [List.map_map] <;> rfl
theorem ok_no (F : FnP K "needs_of" "needs_of" (top 61) f fd) (B : Bi mg) (T : LookC K mg C) (p : PrpP P w K mg base 1 C "taken" (tkR C 43)) : FnOk P w K mg base C8.CX0 3 f fd ["looks"] (spD (noR C)) := by
  refine fnD F sc_no (by rintro _ _ ⟨l, rfl, _⟩; rfl) fun cdv A outer s H E hr ds d h => ?_
  obtain ⟨ls, rfl, hl, hO, rfl⟩ := h
  have hmem : ∀ q ∈ ls.zipIdx, q.1 ∈ ls := fun q hq => List.mem_of_getElem? (List.mem_zipIdx_iff_getElem?.mp hq)
  have hg : gd (.lst ((needs0 ls).map needD)) 60 = true := gd_mono (show 2 ≤ 60 by decide) (gd_lst fun d hd => by
    obtain ⟨n, hn, rfl⟩ := List.mem_map.mp hd
    unfold needs0 at hn
    obtain ⟨q, hq, hn⟩ := List.mem_flatMap.mp hn
    obtain ⟨t, ht, rfl⟩ := List.mem_map.mp hn
    have hok := ((hO q.1 (hmem q hq)).menu.all t (marked_sub ht)).ok
    exact gd_tup fun d hd => by
      rcases List.mem_cons.mp hd with rfl | hd
      · exact gd_int
      · have e : d = .str t := by simpa using hd
        rw [e]
        exact gd_str hok)
  refine ess_nx (es_setLc2 (i := 1) (n := 10) [4] (.two 2 3) (.one 4) (xs := ls.zipIdx) (fun q => marked 43 q.1) (φ := fun q => D.tup [D.int (q.2 : Nat), lkD C q.1]) D.str (fun q => [some (.tup (ls.map (lkD C))), none, some (.int (q.2 : Nat)), some (lkD C q.1), none]) (fun q t => [some (.tup (ls.map (lkD C))), none, some (.int (q.2 : Nat)), some (lkD C q.1), some (.str t)]) (fun q t => D.tup [.int (q.2 : Nat), .str t]) (own := [("index", 2), ("look", 3), ("thing", 4)]) rfl sc_no.nd rfl rfl (sw_true rfl rfl rfl (by decide +kernel)) ?it (blkOk_by (N := nNo) (sc := defScope (top 61)) (by decide +kernel)) (by decide) ?l1 ?l2 (by decide) (by decide) (fun q _ => rfl) (fun q _ t _ => rfl) (fun _ _ _ _ _ => pn2 2 3 sc_no.nd) (fun _ _ _ _ _ => pn 4 sc_no.nd) (fun q hq _ _ _ _ _ => ei_tup (em_prop p hr (Nat.le_refl _) (v 3 (d := lkD C q.1)) ⟨q.1, rfl, hO q.1 (hmem q hq), rfl⟩)) (fun q hq t ht _ _ _ _ _ => em_tup (a2 (v 2) (v 4)) (by show 2 ≤ 100000; decide))) ?_
  case it =>
    rw [← zipIdx_lk]
    exact ei_enum rfl (B.free _ (by decide)) (a1 (v 0))
  case l1 =>
    rw [List.length_zipIdx]
    omega
  case l2 => exact fun q hq => Nat.le_trans marked_len (hO q.1 (hmem q hq)).menu.few
  · rw [← needs0_D]
    refine ess_one (es_ret (em_if (p := !(needs0 ls).isEmpty) (et_is (t_neNil rfl hr (v 1) hg) (by rw [List.isEmpty_map])) (fun h => ?_) fun h => ?_))
    · have e : needsOf ls = needs0 ls := by
        unfold needsOf
        rw [if_neg (by rw [Bool.not_eq_true'] at h; rw [h]; decide)]
      rw [e]
      exact v 1
    · have e : needsOf ls = [none] := by
        unfold needsOf
        rw [if_pos (by rw [Bool.not_eq_false'] at h; exact h)]
      rw [e]
      exact em_lst (a1 em_non) (by show 1 ≤ 100000; decide)
/-! sharpened -/
def shR (C : Addr) (ds : List D) (d : D) : Prop := ∃ (ls : List Lk) (n : Need), ds = [.tup (ls.map (lkD C)), needD n] ∧ ls.length ≤ 12 ∧ (∀ l ∈ ls, OkLook l) ∧ OkNeed ls n ∧ d = .lst ((sharp ls n).map prD)
abbrev nSh : List Str := ["looks", "need", "pairs", "menu"]
theorem sc_sh : FnScope nSh ["looks", "need"] (defScope (top 62)) := C8.fnScope_by (by decide +kernel)
theorem ok_sh (F : FnP K "sharpened" "sharpened" (top 62) f fd) (T : LookC K mg C) (c1 : CalP P w K mg base 3 "pairs_of" (poR C)) (c2 : CalP P w K mg base 1 "less" lessR) : FnOk P w K mg base C8.CX0 4 f fd ["looks", "need"] (spD (shR C)) := by
  refine fnD F sc_sh (by rintro _ _ ⟨l, n, rfl, _⟩; rfl) fun cdv A outer s H E hr ds d h => ?_
  obtain ⟨ls, n, rfl, hl, hO, hn, rfl⟩ := h
  refine ess_nx (st_ 2 sc_sh.nd (em_call c1 hr (Nat.le_refl _) rfl ⟨ls, rfl, hl, hO, rfl⟩ (a1 (v 0)))) ?_
  cases n with
  | none => exact ess_rt (es_if (q := true) (t_isN (v 1 (d := .non))) (fun _ => ess_one (es_ret (v 2))) fun h => nomatch h)
  | some q =>
    obtain ⟨i, t⟩ := q
    have hi : i < ls.length := hn
    have hx : ls[i]? = some ls[i] := List.getElem?_eq_getElem hi
    have e1 : ls.getD i ([], []) = ls[i] := by rw [List.getD_eq_getElem?_getD, hx] <;> rfl
    have hO1 := hO _ (List.getElem_mem hi)
    have hf := hO1.menu.few
    have e2 : (sharp ls (some (i, t))).map prD = (ls.map prOf).map prD ++ [prD (ls[i].1, lessL ls[i].1 t)] := by
      show (ls.map prOf ++ [((ls.getD i ([], [])).1, lessL (ls.getD i ([], [])).1 t)]).map prD = _
      rw [e1, List.map_append] <;> rfl
    rw [e2]
    refine ess_nx (es_skip (t_isN (v 1 (d := needD (some (i, t)))))) (ess_nx (st_ 3 sc_sh.nd (em_fld (e_ixT (l := ls.map (lkD C)) (j := i) (d := lkD C ls[i]) (by rw [List.getElem?_map, hx] <;> rfl) (v 0) (e_ixT (j := 0) rfl (v 1) em_int)) T.cl T.menu rfl)) (ess_one (es_ret (em_lst (ea_star rfl (v 2) (a1 (em_tup (a2 (v 3) (em_call c2 hr (by decide) rfl ⟨ls[i].1, t, rfl, by omega, rfl⟩ (a2 (v 3) (e_ixT (j := 1) rfl (v 1) em_int)))) (by show 2 ≤ 100000; decide)))) ?_))))
    rw [List.length_append, List.length_map, List.length_map]
    show ls.length + 1 ≤ 100000
    omega
/-! are_fit -/
def afR (C : Addr) (ds : List D) (d : D) : Prop := ∃ (named : List Str) (ls : List Lk), ds = [.tup (named.map D.str), .tup (ls.map (lkD C))] ∧ named.length ≤ 10 ∧ ls.length ≤ 12 ∧ (∀ l ∈ ls, OkLook l) ∧ d = .bl (fitB named ls)
abbrev nAf : List Str := ["things", "looks", "need"]
theorem sc_af : FnScope nAf ["things", "looks"] (defScope (top 63)) := C8.fnScope_by (by decide +kernel)
theorem sharp_len {ls : List Lk} {n : Need} : (sharp ls n).length ≤ ls.length + 1 := by
  cases n with
  | none =>
    show (ls.map prOf).length ≤ _
    rw [List.length_map]
    omega
  | some q =>
    show (ls.map prOf ++ [_]).length ≤ _
    rw [List.length_append, List.length_map] <;> exact Nat.le_refl _
theorem orow_no (o : Option (List Str)) : isNo (orow o) = !o.isSome := by cases o <;> rfl
theorem ok_af (F : FnP K "are_fit" "are_fit" (top 63) f fd) (c1 : CalP P w K mg base 3 "needs_of" (noR C)) (c2 : CalP P w K mg base 4 "sharpened" (shR C)) (c3 : CalP P w K mg base 2 "let_row" lrR) : FnOk P w K mg base C8.CX0 5 f fd ["things", "looks"] (spD (afR C)) := by
  refine fnD F sc_af (by rintro _ _ ⟨l, n, rfl, _⟩; rfl) fun cdv A outer s H E hr ds d h => ?_
  obtain ⟨named, ls, rfl, hN, hl, hO, rfl⟩ := h
  rcases first_bad (needsOf ls) fun n => (letRow named (sharp ls n)).1.isSome with hall | ⟨m, n, hm, hbad, hgood⟩
  · have e : fitB named ls = true := List.all_eq_true.mpr hall
    rw [e]
    refine ess_nx (es_for (b := .one 2) (ds := (needsOf ls).map needD) (fun _ => [some (.tup (named.map D.str)), some (.tup (ls.map (lkD C))), none]) PassesOwn.never rfl (ei_list (em_call c1 hr (by decide) rfl ⟨ls, rfl, hl, hO, rfl⟩ (a1 (v 1)))) (pn 2 sc_af.nd) (Le.refl _) ?_) (ess_one (es_ret em_bl))
    intro i d hd
    rw [List.getElem?_map] at hd
    obtain ⟨n, hn, rfl⟩ := Option.map_eq_some_iff.mp hd
    have hmem := List.mem_of_getElem? hn
    have hlen := sharp_len (ls := ls) (n := n)
    refine ⟨_, rfl, ess_to (ess_one (es_skip (et_is (t_isN (e_ixT (j := 0) (d := orow (letRow named (sharp ls n)).1) rfl (em_call (d := letD (letRow named (sharp ls n))) c3 hr (by decide) rfl ⟨named, sharp ls n, rfl, hN, by omega, rfl⟩ (a2 (v 0) (em_call c2 hr (by decide) rfl ⟨ls, n, rfl, hl, hO, needs_ok hmem, rfl⟩ (a2 (v 1) (v 2))))) em_int)) ?_))) (Le.cons (Le.cons (Le.drop Le.nil)))⟩
    rw [orow_no, hall n hmem] <;> rfl
  · have e : fitB named ls = false := by
      cases q : fitB named ls with
      | false => rfl
      | true =>
        have := List.all_eq_true.mp q n (List.mem_of_getElem? hm)
        rw [hbad] at this
        cases this
    rw [e]
    have hml := (List.getElem?_eq_some_iff.mp hm).1
    refine ess_rt (es_forR (b := .one 2) (ds := (needsOf ls).map needD) m (fun _ => [some (.tup (named.map D.str)), some (.tup (ls.map (lkD C))), none]) PassesOwn.never rfl (ei_list (em_call c1 hr (by decide) rfl ⟨ls, rfl, hl, hO, rfl⟩ (a1 (v 1)))) (pn 2 sc_af.nd) (by rw [List.length_map]; exact hml) (Le.refl _) ?_ ?_)
    · intro i d hi hd
      rw [List.getElem?_map] at hd
      obtain ⟨n, hn, rfl⟩ := Option.map_eq_some_iff.mp hd
      have hmem := List.mem_of_getElem? hn
      have hlen := sharp_len (ls := ls) (n := n)
      refine ⟨_, rfl, ess_to (ess_one (es_skip (et_is (t_isN (e_ixT (j := 0) (d := orow (letRow named (sharp ls n)).1) rfl (em_call (d := letD (letRow named (sharp ls n))) c3 hr (by decide) rfl ⟨named, sharp ls n, rfl, hN, by omega, rfl⟩ (a2 (v 0) (em_call c2 hr (by decide) rfl ⟨ls, n, rfl, hl, hO, needs_ok hmem, rfl⟩ (a2 (v 1) (v 2))))) em_int)) ?_))) (Le.cons (Le.cons (Le.drop Le.nil)))⟩
      rw [orow_no, hgood i n hi hn] <;> rfl
    · intro d hd
      rw [List.getElem?_map, hm] at hd
      cases hd
      have hmem := List.mem_of_getElem? hm
      have hlen := sharp_len (ls := ls) (n := n)
      refine ⟨_, rfl, ess_one (es_if (q := true) (et_is (t_isN (e_ixT (j := 0) (d := orow (letRow named (sharp ls n)).1) rfl (em_call (d := letD (letRow named (sharp ls n))) c3 hr (by decide) rfl ⟨named, sharp ls n, rfl, hN, by omega, rfl⟩ (a2 (v 0) (em_call c2 hr (by decide) rfl ⟨ls, n, rfl, hl, hO, needs_ok hmem, rfl⟩ (a2 (v 1) (v 2))))) em_int)) ?_) (fun _ => ess_one (es_ret em_bl)) fun h => nomatch h)⟩
      rw [orow_no, hbad] <;> rfl
/-! Looks.fit -/
def ftR (Cs C : Addr) (ds : List D) (d : D) : Prop := ∃ (named : List Str) (ls : List Lk), ds = [lsD Cs C named ls] ∧ named.length ≤ 10 ∧ ls.length ≤ 12 ∧ (∀ l ∈ ls, OkLook l) ∧ d = .bl (fitB named ls)
abbrev nFt : List Str := ["self"]
theorem sc_ft : FnScope nFt ["self"] (defScope (mth 74 3)) := C8.fnScope_by (by decide +kernel)
theorem ok_ft (F : FnP K "fit" "Looks.fit" (mth 74 3) f fd) (T : LooksC K mg Cs) (c : CalP P w K mg base 5 "are_fit" (afR C)) : FnOk P w K mg base C8.CX0 6 f fd ["self"] (spD (ftR Cs C)) := by
  refine fnD F sc_ft (by rintro _ _ ⟨l, n, rfl, _⟩; rfl) fun cdv A outer s H E hr ds d h => ?_
  obtain ⟨named, ls, rfl, hN, hl, hO, rfl⟩ := h
  exact ess_one (es_ret (em_call c hr (Nat.le_refl _) rfl ⟨named, ls, rfl, hN, hl, hO, rfl⟩ (a2 (em_fld (v 0 (d := lsD Cs C named ls)) T.cl T.named rfl) (em_fld (v 0 (d := lsD Cs C named ls)) T.cl T.seen rfl))))
end
end Mh
set_option maxRecDepth 100000
set_option maxHeartbeats 2000000
/-! F7: the law's plain defs. -/
namespace Mh
open PySem PySem.Spec PyProof.Rows L2
abbrev Row : Type := List Str
def bestOf (row menu : List Str) : Str := (row.filter fun t => decide (t ∈ menu)).headD ""
def takes (rows : List Row) (menu : List Str) : List Str := menu.filter fun t => decide (t ∈ rows.map fun r => bestOf r menu)
def Meets (rows : List Row) (menu : List Str) : Prop := ∀ r ∈ rows, ∃ t ∈ r, t ∈ menu
def rowD (r : Row) : D := .tup (r.map D.str)
def pairD (l : Lk) : D := .tup [.tup (l.1.map D.str), .str (SX.S l.2)]
def hasK (rows : List Row) (l : Lk) (k : Nat) : Bool := decide (l.2.getD k 0 = 63) || decide (decide (l.2.getD k 0 = 43) = decide (l.1.getD k "" ∈ takes rows l.1))
def hasB (rows : List Row) (l : Lk) : Bool := (List.range l.1.length).all (hasK rows l)
def ins (t : Str) (row : Row) : List Row := (List.range (row.length + 1)).map fun k => row.take k ++ [t] ++ row.drop k
def rowsOf (names : List Str) : List Row := names.foldl (fun rows t => rows.flatMap (ins t)) [[]]
def housesF (rows : List Row) : List (List Row) := rows.foldl (fun fs row => fs ++ fs.map (· ++ [row])) [[]]
def housesOf (names : List Str) : List (List Row) := (housesF (rowsOf names)).drop 1
def preLen (rows : List Row) (ls : List Lk) : Nat := (ls.takeWhile (hasB rows)).length
def reachOf (names : List Str) (ls : List Lk) : Nat := (housesOf names).foldl (fun b rows => if preLen rows ls > b then preLen rows ls else b) 0
section
variable {P : Program} {w : World} {K : PySem.W.Frag} {mg : Str → Option Value} {base : Heap} {f : Addr} {fd : FuncData} {C Cs : Addr}
/-! _law_best -/
def lbR (ds : List D) (d : D) : Prop := ∃ (row menu : List Str), ds = [rowD row, rowD menu] ∧ row.length ≤ 1000 ∧ (∃ t ∈ row, t ∈ menu) ∧ d = .str (bestOf row menu)
abbrev nLb : List Str := ["_law_row", "_law_menu_here", "_law_thing"]
theorem sc_lb : FnScope nLb ["_law_row", "_law_menu_here"] (defScope (top 82)) := C8.fnScope_by (by decide +kernel)
theorem best_get {row menu : List Str} (h : ∃ t ∈ row, t ∈ menu) : (row.filter fun t => decide (t ∈ menu))[0]? = some (bestOf row menu) := by
  obtain ⟨t, h1, h2⟩ := h
  unfold bestOf
  cases q : row.filter fun t => decide (t ∈ menu) with
  | nil =>
    have := List.filter_eq_nil_iff.mp q t h1
    simp [h2] at this
  | cons x r => rfl
theorem ok_lb (F : FnP K "_law_best" "_law_best" (top 82) f fd) : FnOk P w K mg base C8.CX0 1 f fd ["_law_row", "_law_menu_here"] (spD lbR) := by
  refine fnD F sc_lb (by rintro _ _ ⟨l, n, rfl, _⟩; rfl) fun cdv A outer s H E hr ds d h => ?_
  obtain ⟨row, menu, rfl, hl, hm, rfl⟩ := h
  exact ess_one (es_ret (e_ixL (j := 0) (l := (row.filter fun t => decide (t ∈ menu)).map D.str) (get_str (best_get hm)) (em_lc (lc1 [("_law_thing", 2)] 2 (xs := row) (φ := D.str) (fun t => decide (t ∈ menu)) D.str sc_lb.nd (ei_tup (v 0)) (by omega) (fun _ _ _ _ _ => pn 2 sc_lb.nd) (blkOk_by (N := nLb) (sc := defScope (top 82)) (by decide +kernel)) fun y hy _ _ _ _ _ => ⟨ets_one (t_inT (v 2) (v 1)), fun _ => v 2⟩)) em_int))
/-! _law_takes -/
def ltR (ds : List D) (d : D) : Prop := ∃ (rows : List Row) (menu : List Str), ds = [.lst (rows.map rowD), rowD menu] ∧ rows.length ≤ 1000 ∧ menu.length ≤ 1000 ∧ (∀ r ∈ rows, r.length ≤ 1000) ∧ Meets rows menu ∧ d = rowD (takes rows menu)
abbrev nLt : List Str := ["_law_rows_here", "_law_menu_here", "_law_tops", "_law_row", "_law_thing"]
theorem sc_lt : FnScope nLt ["_law_rows_here", "_law_menu_here"] (defScope (top 83)) := C8.fnScope_by (by decide +kernel)
theorem ok_lt (F : FnP K "_law_takes" "_law_takes" (top 83) f fd) (B : Bi mg) (c : CalP P w K mg base 1 "_law_best" lbR) : FnOk P w K mg base C8.CX0 2 f fd ["_law_rows_here", "_law_menu_here"] (spD ltR) := by
  refine fnD F sc_lt (by rintro _ _ ⟨l, n, rfl, _⟩; rfl) fun cdv A outer s H E hr ds d h => ?_
  obtain ⟨rows, menu, rfl, hl, hml, hrl, hm, rfl⟩ := h
  refine ess_nx (st_ 2 sc_lt.nd (e_mapS (f := fun r => bestOf r menu) (lc1 [("_law_row", 3)] 3 (xs := rows) (φ := rowD) (fun _ => true) _ sc_lt.nd (ei_list (v 0)) (by omega) (fun _ _ _ _ _ => pn 3 sc_lt.nd) (blkOk_by (N := nLt) (sc := defScope (top 83)) (by decide +kernel)) fun r hr' _ _ _ _ _ => ⟨ets_nil, fun _ => em_call c hr (Nat.le_refl _) rfl ⟨r, menu, rfl, hrl r hr', hm r hr', rfl⟩ (a2 (v 3) (v 1))⟩))) (ess_one (es_ret (e_tuple B (em_lc (lc1 [("_law_thing", 4)] 4 (xs := menu) (φ := D.str) (fun t => decide (t ∈ rows.map fun r => bestOf r menu)) D.str sc_lt.nd (ei_tup (v 1)) (by omega) (fun _ _ _ _ _ => pn 4 sc_lt.nd) (blkOk_by (N := nLt) (sc := defScope (top 83)) (by decide +kernel)) fun y hy _ _ _ _ _ => ⟨ets_one (t_inL (v 4) (v 2)), fun _ => v 4⟩)))))
/-! _law_has -/
def lhR (ds : List D) (d : D) : Prop := ∃ (rows : List Row) (l : Lk), ds = [.lst (rows.map rowD), pairD l] ∧ rows.length ≤ 1000 ∧ l.1.length ≤ 1000 ∧ l.2.length = l.1.length ∧ (∀ r ∈ rows, r.length ≤ 1000) ∧ Meets rows l.1 ∧ d = .bl (hasB rows l)
abbrev nLh : List Str := ["_law_rows_here", "_law_pair", "_law_menu_here", "_law_signs", "_law_taken", "_law_k"]
theorem sc_lh : FnScope nLh ["_law_rows_here", "_law_pair"] (defScope (top 85)) := C8.fnScope_by (by decide +kernel)
theorem sign_get {ms : List Nat} {k : Nat} (h : k < ms.length) : (SX.S ms).cps.toList[k]? = some (ms.getD k 0) := by
  rw [S_list, List.getD_eq_getElem?_getD, List.getElem?_eq_getElem h] <;> rfl
theorem name_get {l : List Str} {k : Nat} (h : k < l.length) : (l.map D.str)[k]? = some (.str (l.getD k "")) := by
  rw [List.getElem?_map, List.getD_eq_getElem?_getD, List.getElem?_eq_getElem h] <;> rfl
theorem ok_lh (F : FnP K "_law_has" "_law_has" (top 85) f fd) (B : Bi mg) (c : CalP P w K mg base 2 "_law_takes" ltR) : FnOk P w K mg base C8.CX0 3 f fd ["_law_rows_here", "_law_pair"] (spD lhR) := by
  refine fnD F sc_lh (by rintro _ _ ⟨l, n, rfl, _⟩; rfl) fun cdv A outer s H E hr ds d h => ?_
  obtain ⟨rows, l, rfl, hl, hml, hsl, hrl, hm, rfl⟩ := h
  refine ess_nx (es_asg (b := .two 2 3) (v 1 (d := pairD l)) (pn2 2 3 sc_lh.nd) rfl) (ess_nx (st_ 4 sc_lh.nd (em_call c hr (Nat.le_refl _) rfl ⟨rows, l.1, rfl, hl, hml, hrl, hm, rfl⟩ (a2 (v 0) (v 2)))) (ess_one (es_ret (em_is (e_all B (e_mapB (f := hasK rows l) (lc1 [("_law_k", 5)] 5 (xs := List.range l.1.length) (φ := fun k => D.int (k : Nat)) (fun _ => true) _ sc_lh.nd (ei_range rfl (B.free _ (by decide)) (by omega) (a1 (em_is (e_lenT B (v 2 (d := .tup (l.1.map D.str)))) (by rw [List.length_map])))) (by rw [List.length_range]; omega) (fun _ _ _ _ _ => pn 5 sc_lh.nd) (blkOk_by (N := nLh) (sc := defScope (top 85)) (by decide +kernel)) fun k hk _ _ _ _ _ => ⟨ets_nil, fun _ => ?_⟩))) ?_))))
  · have hk' : k < l.1.length := List.mem_range.mp hk
    have hlz : (SX.S l.2).length ≤ 100000 := by rw [SX.S_len]; omega
    refine em_or (p := decide (l.2.getD k 0 = 63)) (em_is (c_eqS (e_ixS (j := k) (z := SX.S l.2) hlz (sign_get (by omega)) (v 3) (v 5)) em_str) (congrArg D.bl sign_eq)) fun _ => em_one (em_is (c_eqB (em_is (c_eqS (e_ixS (j := k) (z := SX.S l.2) hlz (sign_get (by omega)) (v 3) (v 5)) em_str) (congrArg D.bl sign_eq)) (c_inT (i := l.1.getD k "") (l := takes rows l.1) (e_ixT (j := k) (name_get hk') (v 2) (v 5)) (v 4))) rfl)
  · rw [List.all_map] <;> rfl
/-! _law_rows -/
theorem ins_len {t : Str} {row : Row} : (ins t row).length = row.length + 1 := by
  unfold ins
  rw [List.length_map, List.length_range]
theorem mem_ins {t : Str} {row r : Row} (h : r ∈ ins t row) : r.length = row.length + 1 := by
  unfold ins at h
  obtain ⟨k, hk, rfl⟩ := List.mem_map.mp h
  have := List.mem_range.mp hk
  rw [List.length_append, List.length_append, List.length_take, List.length_drop, List.length_singleton]
  omega
theorem rows_take {names : List Str} {i : Nat} {t : Str} (h : names[i]? = some t) : rowsOf (names.take (i + 1)) = (rowsOf (names.take i)).flatMap (ins t) := by
  unfold rowsOf
  rw [List.take_succ, h, List.foldl_append] <;> rfl
theorem rows_mem {names : List Str} : ∀ r ∈ rowsOf names, r.length = names.length := by
  have key : ∀ (names : List Str) (rows : List Row) (n : Nat), (∀ r ∈ rows, r.length = n) → ∀ r ∈ names.foldl (fun rows t => rows.flatMap (ins t)) rows, r.length = n + names.length := by
    intro names
    induction names with
    | nil => intro rows n h r hr; exact h r hr
    | cons t r ih =>
      intro rows n h q hq
      have := ih (rows.flatMap (ins t)) (n + 1) (fun z hz => by
        obtain ⟨y, hy, hz⟩ := List.mem_flatMap.mp hz
        rw [mem_ins hz, h y hy]) q hq
      rw [this, List.length_cons]
      omega
  intro r hr
  have := key names [[]] 0 (fun z hz => by
    have e : z = [] := by simpa using hz
    rw [e] <;> rfl) r hr
  omega
theorem rows_len : ∀ {names : List Str}, names.length ≤ 3 → (rowsOf names).length ≤ 6
  | [], _ => by decide
  | [a], _ => Nat.le_trans (Nat.le_of_eq (show (rowsOf [a]).length = 1 from rfl)) (by decide)
  | [a, b], _ => Nat.le_trans (Nat.le_of_eq (show (rowsOf [a, b]).length = 2 from rfl)) (by decide)
  | [a, b, c], _ => Nat.le_of_eq (show (rowsOf [a, b, c]).length = 6 from rfl)
  | _ :: _ :: _ :: _ :: _, h => by
    simp only [List.length_cons] at h
    omega
def lrwR (ds : List D) (d : D) : Prop := ∃ (names : List Str), ds = [rowD names] ∧ names.length ≤ 3 ∧ d = .lst ((rowsOf names).map rowD)
abbrev nLw : List Str := ["_law_names_here", "_law_rows_here", "_law_thing", "_law_later", "_law_row", "_law_k"]
theorem sc_lw : FnScope nLw ["_law_names_here"] (defScope (top 86)) := C8.fnScope_by (by decide +kernel)
theorem flat_len' {rows : List Row} {t : Str} {n : Nat} (h : ∀ r ∈ rows, r.length ≤ n) : (rows.flatMap (ins t)).length ≤ rows.length * (n + 1) := by
  induction rows with
  | nil => simp
  | cons x r ih =>
    rw [List.flatMap_cons, List.length_append, List.length_cons, Nat.succ_mul, ins_len]
    have h1 := h x (List.mem_cons_self ..)
    have h2 := ih fun y hy => h y (List.mem_cons_of_mem _ hy)
    omega
theorem ok_lw (F : FnP K "_law_rows" "_law_rows" (top 86) f fd) (B : Bi mg) : FnOk P w K mg base C8.CX0 1 f fd ["_law_names_here"] (spD lrwR) := by
  refine fnD F sc_lw (by rintro _ _ ⟨l, rfl, _⟩; rfl) fun cdv A outer s H E hr ds d h => ?_
  obtain ⟨names, rfl, hn, rfl⟩ := h
  refine ess_nx (st_ 1 sc_lw.nd (em_lst (a1 (em_tup ea_nil (Nat.zero_le _))) (by show 1 ≤ 100000; decide))) (ess_nx (es_for (b := .one 2) (ds := names.map D.str) (fun i => [some (rowD names), some (.lst ((rowsOf (names.take i)).map rowD)), none, none, none, none]) PassesOwn.never rfl (ei_tup (v 0)) (pn 2 sc_lw.nd) (Le.refl _) ?body) (ess_one (es_ret ?fin)))
  case fin =>
    have e : names.take (names.map D.str).length = names := by rw [List.length_map, List.take_length]
    rw [e]
    exact v 1
  case body =>
    intro i d hd
    obtain ⟨t, ht, rfl⟩ := str_get hd
    have hi := (List.getElem?_eq_some_iff.mp ht).1
    have hlen : (names.take i).length ≤ 3 := by rw [List.length_take]; omega
    have hrl := rows_len hlen
    refine ⟨_, rfl, ess_nx (st_ 3 sc_lw.nd (em_lst ea_nil (Nat.zero_le _))) (ess_nx (es_for (b := .one 4) (ds := (rowsOf (names.take i)).map rowD) (fun j => [some (rowD names), some (.lst ((rowsOf (names.take i)).map rowD)), some (.str t), some (.lst ((((rowsOf (names.take i)).take j).flatMap (ins t)).map rowD)), none, none]) PassesOwn.never rfl (ei_list (v 1)) (pn 4 sc_lw.nd) (Le.refl _) ?inner) (ess_to (ess_one (st_ 1 sc_lw.nd (v 3))) ?le))⟩
    case le =>
      have e : (rowsOf (names.take i)).take ((rowsOf (names.take i)).map rowD).length = rowsOf (names.take i) := by rw [List.length_map, List.take_length]
      rw [e, ← rows_take ht]
      exact Le.cons (Le.cons (Le.drop (Le.drop (Le.cons (Le.cons Le.nil)))))
    case inner =>
      intro j d hd
      rw [List.getElem?_map] at hd
      obtain ⟨row, hrow, rfl⟩ := Option.map_eq_some_iff.mp hd
      have hrl2 : row.length ≤ 3 := by
        rw [rows_mem row (List.mem_of_getElem? hrow)]
        exact hlen
      have hfl := flat_len' (rows := (rowsOf (names.take i)).take j) (t := t) (n := 3) fun r hr => by
        rw [rows_mem r (List.mem_of_mem_take hr)]
        exact hlen
      have hfl2 : ((rowsOf (names.take i)).take j).length ≤ 6 := by rw [List.length_take]; omega
      have e : ((rowsOf (names.take i)).take (j + 1)).flatMap (ins t) = ((rowsOf (names.take i)).take j).flatMap (ins t) ++ ins t row := by
        rw [List.take_succ, hrow, List.flatMap_append]
        simp
      refine ⟨_, rfl, ess_to (ess_one (st_ 3 sc_lw.nd (e_catL (v 3) (e_map (lc1 [("_law_k", 5)] 5 (xs := List.range (row.length + 1)) (φ := fun k => D.int (k : Nat)) (fun _ => true) (fun k => rowD (row.take k ++ [t] ++ row.drop k)) sc_lw.nd (ei_range rfl (B.free _ (by decide)) (by omega) (a1 (em_is (e_add (e_lenT B (v 4 (d := rowD row))) em_int) (congrArg D.int (by rw [List.length_map]; rfl))))) (by rw [List.length_range]; omega) (fun _ _ _ _ _ => pn 5 sc_lw.nd) (blkOk_by (N := nLw) (sc := defScope (top 86)) (by decide +kernel)) fun k hk _ _ _ _ _ => ⟨ets_nil, fun _ => ?elt⟩)) ?len))) ?le2⟩
      case elt =>
        refine em_is (e_catT (e_catT (em_sl sl_tupA (sl_toT (l := row.map D.str) (k := k)) (v 4) eo_none (eo_some (v 5))) (em_tup (a1 (v 2)) (by show 1 ≤ 100000; decide)) ?z1) (em_sl sl_tupA (sl_fromT (l := row.map D.str) (k := k)) (v 4) (eo_some (v 5)) eo_none) ?z2) ?_
        · rw [List.length_take, List.length_map]
          show min k row.length + 1 ≤ 100000
          omega
        · rw [List.length_append, List.length_take, List.length_drop, List.length_map]
          show min k row.length + 1 + (row.length - k) ≤ 100000
          omega
        · unfold rowD
          rw [List.map_append, List.map_append, List.map_take, List.map_drop] <;> rfl
      case len =>
        rw [List.length_map, List.length_map, List.length_range]
        have : ((rowsOf (names.take i)).take j).length * (3 + 1) ≤ 6 * 4 := Nat.mul_le_mul_right _ hfl2
        omega
      case le2 =>
        rw [e, List.map_append]
        unfold ins
        rw [List.map_map]
        exact Le.cons (Le.cons (Le.cons (Le.cons (Le.drop (Le.cons Le.nil)))))
/-! _law_houses -/
theorem houses_take {rows : List Row} {i : Nat} {r : Row} (h : rows[i]? = some r) : housesF (rows.take (i + 1)) = housesF (rows.take i) ++ (housesF (rows.take i)).map (· ++ [r]) := by
  unfold housesF
  rw [List.take_succ, h, List.foldl_append] <;> rfl
theorem houses_len {rows : List Row} : (housesF rows).length = 2 ^ rows.length := by
  have key : ∀ (rows : List Row) (fs : List (List Row)), (rows.foldl (fun fs row => fs ++ fs.map (· ++ [row])) fs).length = fs.length * 2 ^ rows.length := by
    intro rows
    induction rows with
    | nil => intro fs; simp
    | cons r t ih =>
      intro fs
      rw [List.foldl_cons, ih, List.length_append, List.length_map, List.length_cons, Nat.pow_succ]
      rw [← Nat.two_mul, Nat.mul_comm 2, Nat.mul_assoc, Nat.mul_comm 2]
  unfold housesF
  rw [key, List.length_singleton, Nat.one_mul]
theorem houses_mem {rows : List Row} : ∀ h ∈ housesF rows, h.length ≤ rows.length ∧ ∀ r ∈ h, r ∈ rows := by
  have key : ∀ (rows : List Row) (fs : List (List Row)) (n : Nat) (G : Row → Prop), (∀ h ∈ fs, h.length ≤ n ∧ ∀ r ∈ h, G r) → (∀ r ∈ rows, G r) → ∀ h ∈ rows.foldl (fun fs row => fs ++ fs.map (· ++ [row])) fs, h.length ≤ n + rows.length ∧ ∀ r ∈ h, G r := by
    intro rows
    induction rows with
    | nil => intro fs n G h _ q hq; exact h q hq
    | cons r t ih =>
      intro fs n G h hg q hq
      have := ih (fs ++ fs.map (· ++ [r])) (n + 1) G (fun z hz => by
        rcases List.mem_append.mp hz with hz | hz
        · exact ⟨Nat.le_succ_of_le (h z hz).1, (h z hz).2⟩
        · obtain ⟨y, hy, rfl⟩ := List.mem_map.mp hz
          refine ⟨by rw [List.length_append]; exact Nat.succ_le_succ (h y hy).1, fun x hx => ?_⟩
          rcases List.mem_append.mp hx with hx | hx
          · exact (h y hy).2 x hx
          · have e : x = r := by simpa using hx
            rw [e]
            exact hg r (List.mem_cons_self ..)) (fun x hx => hg x (List.mem_cons_of_mem _ hx)) q hq
      rw [List.length_cons]
      exact ⟨by omega, this.2⟩
  intro h hh
  have := key rows [[]] 0 (fun r => r ∈ rows) (fun z hz => by
    have e : z = [] := by simpa using hz
    rw [e]
    exact ⟨Nat.le_refl _, fun r hr => by cases hr⟩) (fun _ h => h) h hh
  exact ⟨by omega, this.2⟩
def houseD (h : List Row) : D := .lst (h.map rowD)
def lhoR (ds : List D) (d : D) : Prop := ∃ (names : List Str), ds = [rowD names] ∧ names.length ≤ 3 ∧ d = .lst ((housesOf names).map houseD)
abbrev nLo : List Str := ["_law_names_here", "_law_found", "_law_row", "_law_rows_here"]
theorem sc_lo : FnScope nLo ["_law_names_here"] (defScope (top 87)) := C8.fnScope_by (by decide +kernel)
theorem ok_lo (F : FnP K "_law_houses" "_law_houses" (top 87) f fd) (c : CalP P w K mg base 1 "_law_rows" lrwR) : FnOk P w K mg base C8.CX0 2 f fd ["_law_names_here"] (spD lhoR) := by
  refine fnD F sc_lo (by rintro _ _ ⟨l, rfl, _⟩; rfl) fun cdv A outer s H E hr ds d h => ?_
  obtain ⟨names, rfl, hn, rfl⟩ := h
  have hrl := rows_len hn
  refine ess_nx (st_ 1 sc_lo.nd (em_lst (a1 (em_lst ea_nil (Nat.zero_le _))) (by show 1 ≤ 100000; decide))) (ess_nx (es_for (b := .one 2) (ds := (rowsOf names).map rowD) (fun i => [some (rowD names), some (.lst ((housesF ((rowsOf names).take i)).map houseD)), none, none]) PassesOwn.never rfl (ei_list (em_call c hr (Nat.le_refl _) rfl ⟨names, rfl, hn, rfl⟩ (a1 (v 0)))) (pn 2 sc_lo.nd) (Le.refl _) ?body) (ess_one (es_ret ?fin)))
  case fin =>
    have e : (rowsOf names).take ((rowsOf names).map rowD).length = rowsOf names := by rw [List.length_map, List.take_length]
    rw [e]
    exact em_is (em_sl sl_list (sl_fromL (k := 1)) (v 1) (eo_some em_int) eo_none) (by unfold housesOf; rw [List.map_drop])
  case body =>
    intro i d hd
    rw [List.getElem?_map] at hd
    obtain ⟨row, hrow, rfl⟩ := Option.map_eq_some_iff.mp hd
    have hlen := houses_len (rows := (rowsOf names).take i)
    have hp : 2 ^ ((rowsOf names).take i).length ≤ 2 ^ 6 := Nat.pow_le_pow_right (by decide) (by rw [List.length_take]; omega)
    refine ⟨_, rfl, ess_to (ess_one (st_ 1 sc_lo.nd (e_catL (v 1) (e_map (lc1 [("_law_rows_here", 3)] 3 (xs := housesF ((rowsOf names).take i)) (φ := houseD) (fun _ => true) (fun h => houseD (h ++ [row])) sc_lo.nd (ei_list (v 1)) (by omega) (fun _ _ _ _ _ => pn 3 sc_lo.nd) (blkOk_by (N := nLo) (sc := defScope (top 87)) (by decide +kernel)) fun h hh _ _ _ _ _ => ⟨ets_nil, fun _ => ?elt⟩)) ?len))) ?le2⟩
    case elt =>
      have hm := (houses_mem h hh).1
      rw [List.length_take] at hm
      refine em_is (e_catL (v 3 (d := houseD h)) (em_lst (a1 (v 2)) (by show 1 ≤ 100000; decide)) ?_) (by unfold houseD; rw [List.map_append] <;> rfl)
      rw [List.length_map]
      show h.length + 1 ≤ 100000
      omega
    case len =>
      rw [List.length_map, List.length_map]
      omega
    case le2 =>
      rw [houses_take hrow, List.map_append, List.map_map]
      exact Le.cons (Le.cons (Le.drop (Le.cons Le.nil)))
/-! _law_made -/
def lmR (Cs C : Addr) (ds : List D) (d : D) : Prop := ∃ (named : List Str) (ls : List Lk), ds = [rowD named, .lst (ls.map pairD)] ∧ OkNames named ∧ ls.length ≤ 12 ∧ (∀ l ∈ ls, OkLook l ∧ ∀ x ∈ l.1, x ∈ named) ∧ d = lsD Cs C named ls
abbrev nLm : List Str := ["_law_names_here", "_law_pairs_here", "_law_menu_here", "_law_signs"]
theorem sc_lm : FnScope nLm ["_law_names_here", "_law_pairs_here"] (defScope (top 88)) := C8.fnScope_by (by decide +kernel)
theorem ok_lm (F : FnP K "_law_made" "_law_made" (top 88) f fd) (B : Bi mg) (c1 : C8.Mak P w K mg base 4 "Looks" Cs (spI Cs lsNs (lsR C)) []) (c2 : C8.Mak P w K mg base 4 "Look" C (spI C lkNs lkR) []) : FnOk P w K mg base C8.CX0 6 f fd ["_law_names_here", "_law_pairs_here"] (spD (lmR Cs C)) := by
  refine fnD F sc_lm (by rintro _ _ ⟨l, m, rfl, _⟩; rfl) fun cdv A outer s H E hr ds d h => ?_
  obtain ⟨named, ls, rfl, hN, hl, hO, rfl⟩ := h
  exact ess_one (es_ret (em_mk c1 hr (Nat.le_refl _) rfl ⟨named, ls, rfl, hN, hl, hO⟩ (a2 (v 0) (e_tuple B (e_map (lc2 [("_law_menu_here", 2), ("_law_signs", 3)] 2 3 (xs := ls) (φ1 := fun l => D.tup (l.1.map D.str)) (φ2 := fun l => D.str (SX.S l.2)) (fun _ => true) (lkD C) sc_lm.nd (ei_list (v 1)) (by omega) (fun _ _ _ _ _ => pn2 2 3 sc_lm.nd) (blkOk_by (N := nLm) (sc := defScope (top 88)) (by decide +kernel)) fun l hl' _ _ _ _ _ => ⟨ets_nil, fun _ => em_mk c2 hr (Nat.le_refl _) rfl ⟨l, rfl, (hO l hl').1⟩ (a2 (v 2) (v 3))⟩))))))
/-! _law_reach -/
def lreR (ds : List D) (d : D) : Prop := ∃ (named : List Str) (ls : List Lk), ds = [rowD named, .lst (ls.map pairD)] ∧ named.length ≤ 3 ∧ ls.length ≤ 1000 ∧ (∀ l ∈ ls, l.1 ≠ [] ∧ l.1.length ≤ 1000 ∧ l.2.length = l.1.length ∧ ∀ x ∈ l.1, x ∈ named) ∧ d = .int (reachOf named ls : Nat)
end
end Mh
set_option maxRecDepth 100000
set_option maxHeartbeats 2000000
/-! F8: _law_reach. -/
namespace Mh
open PySem PySem.Spec PyProof.Rows L2
theorem ins_perm {t : Str} {row r : Row} (h : r ∈ ins t row) : r.Perm (t :: row) := by
  unfold ins at h
  obtain ⟨k, hk, rfl⟩ := List.mem_map.mp h
  have e : row = row.take k ++ row.drop k := (List.take_append_drop k row).symm
  rw [List.append_assoc]
  refine (List.perm_middle).trans ?_
  show (t :: (row.take k ++ row.drop k)).Perm (t :: row)
  rw [← e]
theorem rows_perm {names : List Str} {r : Row} (h : r ∈ rowsOf names) : r.Perm names := by
  have key : ∀ (names : List Str) (rows : List Row) (acc : List Str), (∀ r ∈ rows, r.Perm acc) → ∀ r ∈ names.foldl (fun rows t => rows.flatMap (ins t)) rows, r.Perm (names ++ acc) := by
    intro names
    induction names with
    | nil => intro rows acc h r hr; exact h r hr
    | cons t r ih =>
      intro rows acc h q hq
      refine (ih (rows.flatMap (ins t)) (t :: acc) (fun z hz => ?_) q hq).trans List.perm_middle
      obtain ⟨y, hy, hz⟩ := List.mem_flatMap.mp hz
      exact (ins_perm hz).trans (List.Perm.cons t (h y hy))
  have := key names [[]] [] (fun z hz => by
    have e : z = [] := by simpa using hz
    rw [e]) r h
  rw [List.append_nil] at this
  exact this
theorem houses_row {names : List Str} {h : List Row} (hh : h ∈ housesOf names) : ∀ r ∈ h, r.Perm names := fun r hr => rows_perm ((houses_mem h (List.mem_of_mem_drop hh)).2 r hr)
theorem pre_le {rows : List Row} {ls : List Lk} : preLen rows ls ≤ ls.length := List.Sublist.length_le (List.takeWhile_sublist _)
theorem pre_at {rows : List Row} : ∀ {ls : List Lk} {i : Nat} {l : Lk}, i ≤ preLen rows ls → ls[i]? = some l → hasB rows l = decide (i < preLen rows ls)
  | [], i, l, _, h => by simp at h
  | a :: ls, 0, l, _, h => by
    have e : a = l := by simpa using h
    subst e
    unfold preLen
    rw [List.takeWhile_cons]
    cases q : hasB rows a with
    | true => rw [if_pos rfl, List.length_cons, decide_eq_true (by omega)]
    | false => rw [if_neg (by decide)]; rfl
  | a :: ls, i + 1, l, hi, h => by
    unfold preLen at hi ⊢
    rw [List.takeWhile_cons] at hi ⊢
    cases q : hasB rows a with
    | true =>
      rw [if_pos q] at hi
      rw [if_pos rfl, List.length_cons]
      rw [List.length_cons] at hi
      have := pre_at (rows := rows) (ls := ls) (i := i) (l := l) (by unfold preLen; omega) (by simpa using h)
      rw [this]
      unfold preLen
      by_cases z : i < (List.takeWhile (hasB rows) ls).length
      · rw [decide_eq_true z, decide_eq_true (by omega)]
      · rw [decide_eq_false z, decide_eq_false (by omega)]
    | false =>
      rw [if_neg (by rw [q]; decide)] at hi
      simp at hi
section
variable {P : Program} {w : World} {K : PySem.W.Frag} {mg : Str → Option Value} {base : Heap} {f : Addr} {fd : FuncData} {C Cs : Addr}
abbrev nRe : List Str := ["_law_named", "_law_pairs_here", "_law_best_here", "_law_rows_here", "_law_at"]
theorem sc_re : FnScope nRe ["_law_named", "_law_pairs_here"] (defScope (top 93)) := C8.fnScope_by (by decide +kernel)
theorem reach_take {hs : List (List Row)} {ls : List Lk} {i : Nat} {h : List Row} (hh : hs[i]? = some h) : (hs.take (i + 1)).foldl (fun b rows => if preLen rows ls > b then preLen rows ls else b) 0 = (if preLen h ls > (hs.take i).foldl (fun b rows => if preLen rows ls > b then preLen rows ls else b) 0 then preLen h ls else (hs.take i).foldl (fun b rows => if preLen rows ls > b then preLen rows ls else b) 0) := by
  rw [List.take_succ, hh, List.foldl_append] <;> rfl
theorem ok_re (F : FnP K "_law_reach" "_law_reach" (top 93) f fd) (B : Bi mg) (c1 : CalP P w K mg base 2 "_law_houses" lhoR) (c2 : CalP P w K mg base 3 "_law_has" lhR) : FnOk P w K mg base C8.CX0 4 f fd ["_law_named", "_law_pairs_here"] (spD lreR) := by
  refine fnD F sc_re (by rintro _ _ ⟨l, m, rfl, _⟩; rfl) fun cdv A outer s H E hr ds d h => ?_
  obtain ⟨named, ls, rfl, hn, hl, hO, rfl⟩ := h
  refine ess_nx (st_ 2 sc_re.nd em_int) (ess_nx (es_for (b := .one 3) (ds := (housesOf named).map houseD) (fun i => [some (rowD named), some (.lst (ls.map pairD)), some (.int (((housesOf named).take i).foldl (fun b rows => if preLen rows ls > b then preLen rows ls else b) 0 : Nat)), none, none]) PassesOwn.never rfl (ei_list (em_call c1 hr (by decide) rfl ⟨named, rfl, hn, rfl⟩ (a1 (v 0)))) (pn 3 sc_re.nd) (Le.refl _) ?body) (ess_one (es_ret ?fin)))
  case fin =>
    have e : (housesOf named).take ((housesOf named).map houseD).length = housesOf named := by rw [List.length_map, List.take_length]
    rw [e]
    exact v 2
  case body =>
    intro i d hd
    rw [List.getElem?_map] at hd
    obtain ⟨rows, hrows, rfl⟩ := Option.map_eq_some_iff.mp hd
    have hmem := List.mem_of_getElem? hrows
    have hperm := houses_row hmem
    have hlen : rows.length ≤ 1000 := by
      have := (houses_mem rows (List.mem_of_mem_drop hmem)).1
      have := rows_len hn
      omega
    have hrl : ∀ r ∈ rows, r.length ≤ 1000 := fun r hr => by
      have := (hperm r hr).length_eq
      omega
    have hmeet : ∀ l ∈ ls, Meets rows l.1 := fun l hl r hr => by
      obtain ⟨h1, _, _, h4⟩ := hO l hl
      obtain ⟨x, hx⟩ := List.exists_mem_of_ne_nil _ h1
      exact ⟨x, (hperm r hr).mem_iff.mpr (h4 x hx), hx⟩
    generalize hb : ((housesOf named).take i).foldl (fun b rows => if preLen rows ls > b then preLen rows ls else b) 0 = b
    refine ⟨_, rfl, ess_nx (st_ 4 sc_re.nd em_int) (ess_nx (es_while (preLen rows ls) (fun k => [some (rowD named), some (.lst (ls.map pairD)), some (.int (b : Nat)), some (houseD rows), some (.int (k : Nat))]) PassesOwn.never (Le.refl _) ?test ?step) (ess_to (ess_one (st_ 2 sc_re.nd (e_max B (v 2) (v 4)))) ?le))⟩
    case step => exact fun k hk => ess_to (ess_one (st_ 4 sc_re.nd (em_is (e_add (v 4) em_int) (congrArg D.int (show ((k : Nat) : Int) + 1 = ((k + 1 : Nat) : Int) by push_cast; rfl))))) (Le.refl _)
    case le =>
      rw [reach_take hrows, hb]
      have e : (if ((preLen rows ls : Nat) : Int) > (b : Nat) then ((preLen rows ls : Nat) : Int) else (b : Nat)) = ((if preLen rows ls > b then preLen rows ls else b : Nat) : Int) := by
        by_cases q : preLen rows ls > b
        · rw [if_pos q, if_pos (by omega)]
        · rw [if_neg q, if_neg (by omega)]
      rw [← e]
      exact Le.cons (Le.cons (Le.cons (Le.drop (Le.drop Le.nil))))
    case test =>
      intro k hk
      have hple := pre_le (rows := rows) (ls := ls)
      by_cases hkl : k < ls.length
      · have hx : ls[k]? = some ls[k] := List.getElem?_eq_getElem hkl
        obtain ⟨h1, h2, h3, _⟩ := hO _ (List.getElem_mem hkl)
        refine et_is (et_w (ew_and (p := true) (q := hasB rows ls[k]) (et_is (t_lt (v 4) (em_is (e_lenL B (v 1 (d := .lst (ls.map pairD)))) (by rw [List.length_map]))) (decide_eq_true (by omega))) fun _ => ew_and1 (et_val (em_call c2 hr (by decide) rfl ⟨rows, ls[k], rfl, hlen, h2, h3, hrl, hmeet _ (List.getElem_mem hkl), rfl⟩ (a2 (v 3) (e_ixL (j := k) (l := ls.map pairD) (d := pairD ls[k]) (by rw [List.getElem?_map, hx] <;> rfl) (v 1) (v 4))))))) ?_
        rw [Bool.true_and]
        exact pre_at hk hx
      · refine et_is (et_w (ew_and (p := false) (q := false) (et_is (t_lt (v 4) (em_is (e_lenL B (v 1 (d := .lst (ls.map pairD)))) (by rw [List.length_map]))) (decide_eq_false (by omega))) fun h => nomatch h)) ?_
        rw [decide_eq_false (by omega)] <;> rfl
end
end Mh
set_option maxRecDepth 100000
set_option maxHeartbeats 2000000
/-! F9: the urn's draws. -/
namespace Mh
open PySem PySem.Spec PyProof.Rows L2
section
variable {P : Program} {w : World} {K : PySem.W.Frag} {mg : Str → Option Value} {base : Heap} {f : Addr} {fd : FuncData} {C Cs : Addr}
section
variable {X : Cx} {ρ : En} {a b e : Expr} {pos p : Pos}
theorem e_mul {i j : Int} (h : Em X a ρ (.int i)) (k : Em X b ρ (.int j)) (hc : CMul i j) : Em X (.BinOp a .Mult b pos) ρ (.int (i * j)) := em_op op_mul (od_intC hc) h k
theorem e_mod {i j : Int} (h : Em X a ρ (.int i)) (k : Em X b ρ (.int j)) (hc : 0 < j) : Em X (.BinOp a .Mod b pos) ρ (.int (i % j)) := em_op op_mod (od_intC hc) h k
theorem e_fdiv {i j : Int} (h : Em X a ρ (.int i)) (k : Em X b ρ (.int j)) (hc : CDiv i j) : Em X (.BinOp a .FloorDiv b pos) ρ (.int (i / j)) := em_op op_fdiv (od_intC hc) h k
theorem e_fdivW {i j : Int} (h : Em X a ρ (.int i)) (k : Em X b ρ (.int j)) (hc : CDivW i j) : Em X (.BinOp a .FloorDiv b pos) ρ (.int (i / j)) := em_op op_fdivW (od_intC hc) h k
theorem e_int {i : Int} (B : Bi X.mg) (h : Em X e ρ (.int i)) (hg : L2.Gl X "int" := by rfl) (hs : starEach [e] X.env = (false, eval e X.env) :: starEach [] X.env := by rfl) : Em X (.Call (.Name "int" p) [e] [] pos) ρ (.int i) := em_callTy call_int1 cd_intI hg (B.free _ (by decide)) boot_int (a1 h hs) (he := hs)
theorem cd_divmod {i j : Int} (hc : CDiv i j) : CallD (fun xs H Q => ∃ i j, xs = [.int i, .int j] ∧ CDiv i j ∧ ∀ p, H p = none → Q (.ref p) (upd H p (.tup [.int (i / j), .int (i % j)]))) [.int i, .int j] (.tup [.int (i / j), .int (i % j)]) := fun S H us Q e r k => by
  obtain ⟨u, v, rfl, r1, r2⟩ := two_rep r
  exact ⟨i, j, by rw [r1.int, r2.int], hc, fun p hp => k _ _ _ (Gr.new e hp) (rep_tup upd_same (repL_cons rep_int (repL_cons rep_int repL_nil)))⟩
theorem e_divmod {i j : Int} (B : Bi X.mg) (h : Em X e ρ (.int i)) (h2 : Em X a ρ (.int j)) (hc : CDiv i j) (hg : L2.Gl X "divmod" := by rfl) (hs : starEach [e, a] X.env = (false, eval e X.env) :: starEach [a] X.env := by rfl) (hs2 : starEach [a] X.env = (false, eval a X.env) :: starEach [] X.env := by rfl) (hpl : (backTo pos (starEach [a] X.env)).any (·.1) = false := by rfl) :
    Em X (.Call (.Name "divmod" p) [e, a] [] pos) ρ (.tup [.int (i / j), .int (i % j)]) := em_callB call_divmod (cd_divmod hc) hg (B.free _ (by decide)) boot_divmod (a2 h h2 hs hs2) (he := hs) (hpl := hpl)
end
abbrev nDr : List Str := ["_law_urn_here", "_law_many", "_law_mixed", "_law_digit"]
theorem sc_dr : FnScope nDr ["_law_urn_here", "_law_many"] (defScope (top 77)) := C8.fnScope_by (by decide +kernel)
def drP (ds : List D) : Prop := ∃ m : Int, ds = [.int m] ∧ 1 ≤ m ∧ m ≤ 1000
def drR (ds : List D) (d : D) : Prop := ∃ m k : Int, ds = [.int m] ∧ d = .int k ∧ 0 ≤ k ∧ k < m
theorem ok_dr (F : FnP K "_law_draw" "_law_draw" (top 77) f fd) (B : Bi mg) : FnOk P w K mg base C8.CX0 1 f fd ["_law_urn_here", "_law_many"] (spW 1 drP drR) := by
  refine F.ok sc_dr (fun vs H Q E ⟨S', ds, u, us, n, e1, _, r, ⟨m, h, _⟩, _⟩ => ?_) fun cdv A outer s H vs Q E hr ⟨S', ds, u, us, n, e1, e, r, ⟨m, hds, hm1, hm2⟩, ⟨hu, g, sd, c, hH, hs1, hs2, hc1, hc2⟩, q⟩ => ?_
  · subst h
    rw [e1]
    have := r.length
    simp only [List.length_cons, List.length_nil] at this ⊢
    omega
  subst e1 hds
  have hc3 : c + 1 < 18446744073709551616 := by omega
  generalize hs' : (sd * 1442695040888963407 + 1181783497276652981 + (c + 1) * (c + 1) * 7046029254386353131) % 2305843009213693951 = s'
  have hs'1 : 0 ≤ s' := by rw [← hs']; exact Int.emod_nonneg _ (by decide)
  have hs'2 : s' < 2305843009213693951 := by rw [← hs']; exact Int.emod_lt_of_pos _ (by decide)
  have body : PSs (cxOf C8.CX0 P w K mg base nDr "_law_draw" (defScope (top 77)) f cdv A outer s H E).nox (defBody (top 77)) (tsO u [some (.val (.ref u)), some (.int m), none, none] [.int g, .int sd, .int c] (if 0 < g then .rtc (.int (g % m)) [.int (g / m), .int s', .int (c + 1)] else .rtc (.int (s' / 1073741827 % m)) [.int g, .int s', .int (c + 1)])) := by
    refine oss_nx (os_itemP 0 2 (e_add (e_ixL (j := 2) (d := .int c) rfl (v 0) em_int) em_int) (by unfold noL; rfl) (v 0) em_int (by show 2 < 3; decide)) ?_
    refine oss_nx (os_setP 0 2 sc_dr.nd (e_int B (e_add (e_mul (i := sd) (e_ixL (j := 1) (d := .int sd) rfl (v 0) em_int) em_int (.inl ⟨by omega, by omega⟩)) em_int)) (by unfold noL; rfl)) ?_
    refine oss_nx (os_setP 0 2 sc_dr.nd (e_add (v 2) (e_int B (e_mul (i := (c + 1) * (c + 1)) (e_mul (i := c + 1) (e_ixL (j := 2) (d := .int (c + 1)) rfl (v 0) em_int) (e_ixL (j := 2) (d := .int (c + 1)) rfl (v 0) em_int) (.inl ⟨by omega, by omega⟩)) em_int (.inr ⟨by decide, by decide⟩)))) (by unfold noL; rfl)) ?_
    refine oss_nx (os_itemP 0 1 (em_is (e_mod (e_int B (v 2)) em_int (by decide)) (congrArg D.int hs')) (by unfold noL; rfl) (v 0) em_int (by show 1 < 3; decide)) ?_
    by_cases hg : 0 < g
    · rw [if_pos hg]
      refine oss_rtc (os_ifP 0 (q := true) (et_is (t_gt (e_ixL (j := 0) (d := .int g) rfl (v 0) em_int) em_int) (decide_eq_true hg)) (fun _ => ?_) fun h => nomatch h)
      refine oss_nx (os_pairP 0 0 3 sc_dr.nd (e_divmod (i := g) (j := m) B (e_ixL (j := 0) (d := .int g) rfl (v 0) em_int) (v 1) ⟨by omega, by omega⟩) (by unfold noL noLs noL noLs; rfl) (v 0) em_int (by show 0 < 3; decide)) ?_
      exact oss_one (os_retC 0 (v 3) (by unfold noL; rfl))
    · rw [if_neg hg]
      refine oss_nx (os_ifP 0 (q := false) (et_is (t_gt (e_ixL (j := 0) (d := .int g) rfl (v 0) em_int) em_int) (decide_eq_false hg)) (fun h => nomatch h) fun _ => oss_nil) ?_
      exact oss_one (os_retC 0 (e_mod (e_int B (e_fdivW (e_ixL (j := 1) (d := .int s') rfl (v 0) em_int) em_int ⟨by decide, by decide⟩)) (v 1) (by omega)) (by unfold noL; rfl))
  refine ⟨_, PSs.nox body, S', [.int g, .int sd, .int c], e, repE_start (N := nDr) (ds := [.val (.ref u), .int m]) (vs := .ref u :: us) (repL_cons rep_val r), hu, hH, repL_cons rep_int (repL_cons rep_int (repL_cons rep_int repL_nil)), ?_⟩
  have fin : ∀ (k g' : Int), 0 ≤ k → k < m → KO u (.rtc (.int k) [.int g', .int s', .int (c + 1)]) S' H { nx := fun _ H' => Q .non H', rt := Q } := fun k g' hk1 hk2 v S2 H2 vs' gl rv hS hH2 rl => by
    obtain ⟨v1, r1, rfl, q1, q2⟩ := rl.cons
    obtain ⟨v2, v3, rfl, q3, q4⟩ := two_rep q2
    rw [q1.int, q3.int, q4.int] at hH2
    exact q (.int k) v S2 H2 ⟨m, k, rfl, rfl, hk1, hk2⟩ gl ⟨hS, g', s', c + 1, hH2, hs'1, hs'2, by omega, by omega⟩ rv
  by_cases hg : 0 < g
  · rw [if_pos hg]
    exact fin _ _ (Int.emod_nonneg _ (by omega)) (Int.emod_lt_of_pos _ (by omega))
  · rw [if_neg hg]
    exact fin _ _ (Int.emod_nonneg _ (by omega)) (Int.emod_lt_of_pos _ (by omega))
end
end Mh
set_option maxRecDepth 100000
set_option maxHeartbeats 2000000
/-! F10: names, rows, menus drawn. -/
namespace Mh
open PySem PySem.Spec PyProof.Rows L2
abbrev CalW (P : Program) (w : World) (K : PySem.W.Frag) (mg : Str → Option Value) (base : Heap) (k : Nat) (x : Str) (dr : Nat) (pre : List D → Prop) (R : List D → D → Prop) : Prop := C8.Cal P w K mg base k x (spW dr pre R) []
section
variable {X : Cx} {u : Addr} {S0 H0 : Hp} {ρ : En} {i : WI} {P : PW_} {a e : Expr} {pos p : Pos} {k j : Nat}
/-- _law_draw(urn, m) -/
theorem w_draw (c : CalW X.prog X.w X.K X.mg X.base k "_law_draw" 1 drP drR) (hr : Room j X.A) (hk : k ≤ j) (m : Nat) (hm1 : 1 ≤ m) (hm2 : m ≤ 1000) (hn : 1 ≤ i.n) (hu : Em X e ρ (.val (.ref u))) (ha : Em X a ρ (.int (m : Int))) (hP : ∀ q : Nat, q < m → P (.int (q : Int)) ⟨i.n - 1, i.o⟩)
    (hg : L2.Gl X "_law_draw" := by rfl) (he : starEach [e, a] X.env = (false, eval e X.env) :: starEach [a] X.env := by rfl) (he2 : starEach [a] X.env = (false, eval a X.env) :: starEach [] X.env := by rfl) (hpl : (backTo pos (starEach [a] X.env)).any (·.1) = false := by rfl) : Wm X u S0 H0 (.Call (.Name "_law_draw" p) [e, a] [] pos) ρ i P :=
  w_call2 c hr hk hg hu (w_pure ha ⟨⟨(m : Int), rfl, by omega, by omega⟩, hn, fun d ⟨m', q, h1, h2, h3, h4⟩ => by
    have e : (m : Int) = m' := by
      have := (List.cons.inj h1).1
      exact D.int.inj this
    subst h2
    have hq := hP q.toNat (by omega)
    rw [Int.toNat_of_nonneg h3] at hq
    exact hq⟩) (by decide) he he2 hpl
/-- .. len of the list that is beside the urn: read ahead -/
theorem w_drawL (c : CalW X.prog X.w X.K X.mg X.base k "_law_draw" 1 drP drR) (hr : Room j X.A) (hk : k ≤ j) (m : Nat) (hm1 : 1 ≤ m) (hm2 : m ≤ 1000) (hn : 1 ≤ i.n) (hu : Em X e ρ (.val (.ref u))) (ha : Wm X u S0 H0 a ρ i (fun d j => d = .int (m : Int) ∧ j = i)) (hP : ∀ q : Nat, q < m → P (.int (q : Int)) ⟨i.n - 1, i.o⟩)
    (hg : L2.Gl X "_law_draw" := by rfl) (he : starEach [e, a] X.env = (false, eval e X.env) :: starEach [a] X.env := by rfl) (he2 : starEach [a] X.env = (false, eval a X.env) :: starEach [] X.env := by rfl) (hpl : (backTo pos (starEach [a] X.env)).any (·.1) = false := by rfl) : Wm X u S0 H0 (.Call (.Name "_law_draw" p) [e, a] [] pos) ρ i P :=
  w_call2 c hr hk hg hu (w_mono ha fun d j ⟨h1, h2⟩ => by
    subst h1 h2
    exact ⟨⟨(m : Int), rfl, by omega, by omega⟩, hn, fun d ⟨m', q, h1, h2, h3, h4⟩ => by
      have e : (m : Int) = m' := by
        have := (List.cons.inj h1).1
        exact D.int.inj this
      subst h2
      have hq := hP q.toNat (by omega)
      rw [Int.toNat_of_nonneg h3] at hq
      exact hq⟩) (by decide) he he2 hpl
/-- text[draw], list[draw] -/
theorem w_ixS {z : Str} {b : Expr} (hz : z.length ≤ 100000) (ha : Em X a ρ (.str z)) (hb : Wm X u S0 H0 b ρ i (fun x j => ∃ (q c : Nat), x = .int (q : Int) ∧ z.cps.toList[q]? = some c ∧ P (.str ⟨#[c]⟩) j)) (hs : PlainIx b := by intro _ _; rfl) : Wm X u S0 H0 (.Subscript a b pos) ρ i P :=
  w_ix (P1 := fun x j => x = .str z ∧ j = i) (P2 := fun _ _ x j => ∃ (q c : Nat), x = .int (q : Int) ∧ z.cps.toList[q]? = some c ∧ P (.str ⟨#[c]⟩) j) ix_str (w_pure ha ⟨rfl, rfl⟩) (fun x j ⟨h1, h2⟩ => by
    subst h1 h2
    exact hb) (fun x j y k ⟨h1, h2⟩ ⟨q, c, h3, h4, h5⟩ => by
    subst h1 h2 h3
    exact ⟨_, od_ixS hz h4, h5⟩) hs
theorem w_ixL {l : List D} {b : Expr} (ha : Em X a ρ (.lst l)) (hb : Wm X u S0 H0 b ρ i (fun x j => ∃ (q : Nat) (d : D), x = .int (q : Int) ∧ l[q]? = some d ∧ P d j)) (hs : PlainIx b := by intro _ _; rfl) : Wm X u S0 H0 (.Subscript a b pos) ρ i P :=
  w_ix (P1 := fun x j => x = .lst l ∧ j = i) (P2 := fun _ _ x j => ∃ (q : Nat) (d : D), x = .int (q : Int) ∧ l[q]? = some d ∧ P d j) ix_list (w_pure ha ⟨rfl, rfl⟩) (fun x j ⟨h1, h2⟩ => by
    subst h1 h2
    exact hb) (fun x j y k ⟨h1, h2⟩ ⟨q, d, h3, h4, h5⟩ => by
    subst h1 h2 h3
    exact ⟨_, od_ixL h4, h5⟩) hs
theorem w_ixT {l : List D} {b : Expr} (ha : Em X a ρ (.tup l)) (hb : Wm X u S0 H0 b ρ i (fun x j => ∃ (q : Nat) (d : D), x = .int (q : Int) ∧ l[q]? = some d ∧ P d j)) (hs : PlainIx b := by intro _ _; rfl) : Wm X u S0 H0 (.Subscript a b pos) ρ i P :=
  w_ix (P1 := fun x j => x = .tup l ∧ j = i) (P2 := fun _ _ x j => ∃ (q : Nat) (d : D), x = .int (q : Int) ∧ l[q]? = some d ∧ P d j) ix_tup (w_pure ha ⟨rfl, rfl⟩) (fun x j ⟨h1, h2⟩ => by
    subst h1 h2
    exact hb) (fun x j y k ⟨h1, h2⟩ ⟨q, d, h3, h4, h5⟩ => by
    subst h1 h2 h3
    exact ⟨_, od_ixT h4, h5⟩) hs
/-- a drawn number == a written one -/
theorem wt_eqN {n : Int} {j1 : Nat} {p1 : Pos} {Pt : Bool → WI → Prop} (ha : Wm X u S0 H0 a ρ i (fun x j => ∃ q : Nat, x = .int (q : Int) ∧ ∀ b, Pt b j)) : Wt X u S0 H0 (.Compare a [.Eq] [.Constant (.int n) j1 p1] pos) ρ i Pt :=
  wt_eqI ha (fun _ _ _ => em_int) fun x j ⟨q, h1, h2⟩ => ⟨(q : Int), h1, h2 _⟩
end
section
variable {P : Program} {w : World} {K : PySem.W.Frag} {mg : Str → Option Value} {base : Heap} {f : Addr} {fd : FuncData}
abbrev Dr (P : Program) (w : World) (K : PySem.W.Frag) (mg : Str → Option Value) (base : Heap) : Prop := CalW P w K mg base 1 "_law_draw" 1 drP drR
/-! _law_name -/
abbrev nNm : List Str := ["_law_urn_here", "_law_signs", "_law_found", "_law_turn"]
theorem sc_nm : FnScope nNm ["_law_urn_here"] (defScope (top 78)) := C8.fnScope_by (by decide +kernel)
def nil_ (ds : List D) : Prop := ds = []
def nmR (ds : List D) (d : D) : Prop := ∃ x, d = .str x ∧ OkName x
abbrev sg : Str := "abcdefghijklmnopqrstuvwxyz0123456789"
theorem sg_len : sg.length = 36 := by decide +kernel
theorem sg_get {q : Nat} (h : q < 36) : ∃ c, sg.cps.toList[q]? = some c ∧ okSign c = true ∧ (q < 26 → 97 ≤ c ∧ c ≤ 122) := by
  have key : ∀ n : Fin 36, (match sg.cps.toList[n.val]? with
    | some c => okSign c && (!decide (n.val < 26) || (decide (97 ≤ c) && decide (c ≤ 122)))
    | none => false) = true := by decide +kernel
  have := key ⟨q, h⟩
  simp only at this
  cases hq : sg.cps.toList[q]? with
  | none =>
    rw [hq] at this
    cases this
  | some c =>
    rw [hq] at this
    simp only [Bool.and_eq_true, Bool.or_eq_true, Bool.not_eq_true', decide_eq_false_iff_not, decide_eq_true_eq] at this
    exact ⟨c, rfl, this.1, fun h => by
      rcases this.2 with z | z
      · exact absurd h z
      · exact z⟩
/-- a name of n signs -/
def NameN (n : Nat) (x : Str) : Prop := ∃ c r, x.cps.toList = c :: r ∧ x.cps.toList.length = n ∧ 97 ≤ c ∧ c ≤ 122 ∧ ∀ d ∈ x.cps.toList, okSign d = true
theorem NameN.ok {n : Nat} {x : Str} (h : NameN n x) (hn : n ≤ 8) : OkName x := by
  obtain ⟨c, r, h1, h2, h3, h4, h5⟩ := h
  refine ⟨c, r, h1, ?_, h3, h4, h5⟩
  rw [h1, List.length_cons] at h2
  omega
theorem OkName.n {x : Str} (h : OkName x) : NameN x.length x := by
  obtain ⟨c, r, h1, _, h3, h4, h5⟩ := h
  exact ⟨c, r, h1, by unfold Str.length; simp, h3, h4, h5⟩
theorem NameN.one {c : Nat} (h1 : 97 ≤ c ∧ c ≤ 122) : NameN 1 ⟨#[c]⟩ := ⟨c, [], rfl, rfl, h1.1, h1.2, fun d hd => by
  have e : d = c := by simpa using hd
  rw [e]
  unfold okSign
  rw [decide_eq_true h1.1, decide_eq_true h1.2] <;> rfl⟩
theorem NameN.add {n : Nat} {x : Str} {c : Nat} (h : NameN n x) (hc : okSign c = true) : NameN (n + 1) (x ++ ⟨#[c]⟩) := by
  obtain ⟨c0, r, h1, h2, h3, h4, h5⟩ := h
  have e : (x ++ (⟨#[c]⟩ : Str)).cps.toList = x.cps.toList ++ [c] := TL.tl_append x ⟨#[c]⟩
  refine ⟨c0, r ++ [c], ?_, ?_, h3, h4, fun d hd => ?_⟩
  · rw [e, h1] <;> rfl
  · rw [e, List.length_append, h2] <;> rfl
  · rw [e] at hd
    rcases List.mem_append.mp hd with z | z
    · exact h5 d z
    · have q : d = c := by simpa using z
      rw [q]
      exact hc
theorem NameN.len {n : Nat} {x : Str} (h : NameN n x) : x.length = n := by
  obtain ⟨c0, r, h1, h2, _⟩ := h
  rw [← h2]
  unfold Str.length
  simp
theorem one_len {c : Nat} : (⟨#[c]⟩ : Str).length = 1 := rfl
theorem ok_nm (F : FnP K "_law_name" "_law_name" (top 78) f fd) (B : Bi mg) (c : Dr P w K mg base) : FnOk P w K mg base C8.CX0 2 f fd ["_law_urn_here"] (spW 10 nil_ nmR) := by
  refine fnW F sc_nm (fun ds h => by rw [h] <;> rfl) fun cdv A outer s H E hr u S0 H0 n ds h => ?_
  have h : ds = [] := h
  subst h
  refine wss_pure (st_ 1 sc_nm.nd em_str) (wss_cons (Φ1 := fun o => ∃ ch, (97 ≤ ch ∧ ch ≤ 122) ∧ o = .nx [some (.val (.ref u)), some (.str sg), some (.str ⟨#[ch]⟩), none] ⟨n + 9, none⟩) (ws_set 2 sc_nm.nd (w_ixS (z := sg) (by rw [sg_len]; decide) (v 1) (w_draw c hr (Nat.le_refl _) 26 (by decide) (by decide) (by show 1 ≤ n + 10; omega) (v 0) em_int fun q hq => by
    obtain ⟨ch, h1, h2, h3⟩ := sg_get (q := q) (by omega)
    exact ⟨q, ch, rfl, h1, ch, h3 hq, rfl⟩))) (fun _ _ ⟨_, _, h⟩ => nomatch h) fun ρ1 j ⟨ch, hch, ho⟩ => ?_)
  cases ho
  refine wss_cons (Φ1 := fun o => ∃ x m, NameN m x ∧ m ≤ 8 ∧ ∃ k, n ≤ k ∧ o = .nx [some (.val (.ref u)), some (.str sg), some (.str x), none] ⟨k, none⟩) (ws_for (bd := .one 3) (Pl := fun ds j => ∃ N, N ≤ 7 ∧ ds = (List.range N).map (fun i => D.int (i : Nat)) ∧ j = ⟨n + 7, none⟩) (fun ds k ρ1 j => ∃ x, NameN (k + 1) x ∧ k ≤ 7 ∧ ρ1 = [some (.val (.ref u)), some (.str sg), some (.str x), none] ∧ j = ⟨n + (7 - k), none⟩) PassesOwn.never rfl ?it (pn 3 sc_nm.nd) (fun ds j ⟨N, _, _, hj⟩ => ⟨_, Le.refl _, ⟨#[ch]⟩, NameN.one hch, by decide, rfl, hj⟩) ?body ?fin) (fun _ _ ⟨_, _, _, _, _, _, h⟩ => nomatch h) fun ρ1 j ⟨x, m, hx, hm, k, hk, ho⟩ => ?_
  case it =>
    refine wi_range rfl (B.free _ (by decide)) (w_op (P1 := fun x j => ∃ q : Nat, q < 8 ∧ x = .int (q : Int) ∧ j = ⟨n + 8, none⟩) (P2 := fun _ _ y j => ∃ r : Nat, r < 3 ∧ y = .int (1 + (r : Int)) ∧ j = ⟨n + 7, none⟩) op_fdiv (w_draw c hr (Nat.le_refl _) 8 (by decide) (by decide) (by show 1 ≤ n + 9; omega) (v 0) em_int fun q hq => ⟨q, hq, rfl, rfl⟩) (fun x j ⟨q, hq, hx, hj⟩ => ?_) fun x j y k ⟨q, hq, hx, hj⟩ ⟨r, hr', hy, hk⟩ => ?_)
    · subst hj
      exact w_op (P1 := fun x j => x = .int 1 ∧ j = ⟨n + 8, none⟩) (P2 := fun _ _ y j => ∃ r : Nat, r < 3 ∧ y = .int (r : Int) ∧ j = ⟨n + 7, none⟩) op_add (w_pure em_int ⟨rfl, rfl⟩) (fun x j ⟨_, hj⟩ => by
        subst hj
        exact w_draw c hr (Nat.le_refl _) 3 (by decide) (by decide) (by show 1 ≤ n + 8; omega) (v 0) em_int fun q hq => ⟨q, hq, rfl, rfl⟩) fun x j y k ⟨hx, _⟩ ⟨r, hr', hy, hk⟩ => by
        subst hx hy
        exact ⟨_, od_int, r, hr', rfl, hk⟩
    · subst hx hy
      refine ⟨_, od_intC ⟨by omega, by omega⟩, (q / (1 + r)), ?_, ?_, (q / (1 + r)), ?_, rfl, hk⟩
      · congr 1
      · exact Nat.le_trans (Nat.div_le_self _ _) (by omega)
      · exact Nat.le_trans (Nat.div_le_self _ _) (by omega)
  case body =>
    intro ds j0 k d ρ1 j ⟨N, hN, hds, _⟩ hd ⟨x, hx, hk, hρ, hj⟩
    subst hds hρ hj
    have hkN : k < N := by
      have := (List.getElem?_eq_some_iff.mp hd).1
      rw [List.length_map, List.length_range] at this
      exact this
    refine ⟨_, rfl, wss_one (ws_set 2 sc_nm.nd (w_op (P1 := fun y j => y = .str x ∧ j = ⟨n + (7 - k), none⟩) (P2 := fun _ _ y j => ∃ ch, okSign ch = true ∧ y = .str ⟨#[ch]⟩ ∧ j = ⟨n + (7 - k) - 1, none⟩) op_add_str (w_pure (v 2) ⟨rfl, rfl⟩) (fun y j ⟨_, hj⟩ => ?_) fun y j z k' ⟨hy, _⟩ ⟨ch, hch, hz, hk'⟩ => ?_))⟩
    · subst hj
      refine w_ixS (z := sg) (by rw [sg_len]; decide) (v 1) (w_draw c hr (Nat.le_refl _) 36 (by decide) (by decide) (by show 1 ≤ n + (7 - k); omega) (v 0) em_int fun q hq => ?_)
      obtain ⟨ch, h1, h2, _⟩ := sg_get hq
      exact ⟨q, ch, rfl, h1, ch, h2, rfl, rfl⟩
    · subst hy hz hk'
      refine ⟨_, od_cat (by rw [hx.len, one_len]; omega), _, _, rfl, _, ?_, _, hx.add hch, by omega, rfl, by congr 1; omega⟩
      exact Le.cons (Le.cons (Le.cons (Le.drop Le.nil)))
  case fin =>
    intro ds j0 ρ1 j ⟨N, hN, hds, _⟩ ⟨x, hx, hk, hρ, hj⟩
    subst hρ hj
    exact ⟨x, _, hx, by omega, _, by omega, rfl⟩
  · cases ho
    exact wss_one (ws_ret (w_pure (v 2) ⟨_, _, rfl, ⟨x, rfl, hx.ok hm⟩, hk⟩))
end
end Mh
set_option maxRecDepth 100000
set_option maxHeartbeats 2000000
/-! F11: _law_names, _law_shuffled, _law_menu. -/
namespace Mh
open PySem PySem.Spec PyProof.Rows L2
section
variable {X : Cx} {ρ : En} {a e : Expr} {pos p : Pos} {d : D}
theorem od_last {K : PySem.W.Frag} {l : List D} : OpD (rIxL K) (.lst (l ++ [d])) (.int (-1)) d := fun S H u w Q e r1 r2 k => by
  obtain ⟨a, vs, rfl, h1, h2⟩ := r1.lst
  have hl := h2.length
  rw [List.length_append, List.length_singleton] at hl
  obtain ⟨ws, v, rfl⟩ : ∃ ws v, vs = ws ++ [v] := by
    have hne : vs ≠ [] := fun z => by
      rw [z] at hl
      simp at hl
    exact ⟨vs.dropLast, vs.getLast hne, (List.dropLast_concat_getLast hne).symm⟩
  have hl2 : l.length = ws.length := by
    rw [List.length_append, List.length_singleton] at hl
    omega
  obtain ⟨v', h3, h4⟩ := h2.get (i := l.length) (d := d) (by simp)
  rw [hl2] at h3
  have e1 : v = v' := by simpa using h3
  subst e1
  exact ⟨a, ws ++ [v], -1, v, rfl, r2.int, SqL.of (e _ _ h1), atI_last ws v, k v S H (Gr.refl e) h4⟩
theorem e_last {l : List D} {j : Nat} {p1 p2 : Pos} (h : Em X a ρ (.lst (l ++ [d]))) (hs : PlainIx (.UnaryOp .USub (.Constant (.int 1) j p1) p2) := by intro _ _; rfl) : Em X (.Subscript a (.UnaryOp .USub (.Constant (.int 1) j p1) p2) pos) ρ d := em_ix ix_list od_last h (em_un un_neg ud_int em_int) hs
end
theorem exists_new {cs : List Nat} {l : List Str} (nd : cs.Nodup) (h : l.length < cs.length) : ∃ c ∈ cs, (⟨#[c]⟩ : Str) ∉ l := by
  induction cs generalizing l with
  | nil => simp at h
  | cons c r ih =>
    by_cases q : (⟨#[c]⟩ : Str) ∈ l
    · obtain ⟨l1, l2, rfl⟩ := List.append_of_mem q
      obtain ⟨d, hd, hn⟩ := ih (l := l1 ++ l2) (List.nodup_cons.mp nd).2 (by
        rw [List.length_append, List.length_cons, List.length_cons] at h
        rw [List.length_append]
        omega)
      refine ⟨d, List.mem_cons_of_mem _ hd, fun z => ?_⟩
      rcases List.mem_append.mp z with z | z
      · exact hn (List.mem_append_left _ z)
      · rcases List.mem_cons.mp z with z | z
        · have e : d = c := by
            have := congrArg (fun x : Str => x.cps.toList) z
            simpa using this
          exact (List.nodup_cons.mp nd).1 (e ▸ hd)
        · exact hn (List.mem_append_right _ z)
    · exact ⟨c, List.mem_cons_self .., q⟩
section
variable {P : Program} {w : World} {K : PySem.W.Frag} {mg : Str → Option Value} {base : Heap} {f : Addr} {fd : FuncData}
/-! _law_names -/
abbrev nNs : List Str := ["_law_urn_here", "_law_many", "_law_found", "_law_k", "_law_name_here", "_law_spare", "_law_sign"]
theorem sc_ns : FnScope nNs ["_law_urn_here", "_law_many"] (defScope (top 79)) := C8.fnScope_by (by decide +kernel)
def nsP (ds : List D) : Prop := ∃ m : Nat, ds = [.int (m : Int)] ∧ 1 ≤ m ∧ m ≤ 3
def nsR (ds : List D) (d : D) : Prop := ∃ (l : List Str), d = rowD l ∧ OkNames l ∧ l.length ≤ 3
abbrev ak : Str := "abcdefghijk"
theorem ak_list : ak.cps.toList = [97, 98, 99, 100, 101, 102, 103, 104, 105, 106, 107] := by decide +kernel
theorem a0z_get {q : Nat} (h : q < 3) : ∃ c, (Str.ofString "a0z").cps.toList[q]? = some c ∧ okSign c = true := by
  have e : (Str.ofString "a0z").cps.toList = [97, 48, 122] := by decide +kernel
  rw [e]
  match q, h with
  | 0, _ => exact ⟨97, rfl, by decide⟩
  | 1, _ => exact ⟨48, rfl, by decide⟩
  | 2, _ => exact ⟨122, rfl, by decide⟩
def spare (l : List Str) : List Nat := ak.cps.toList.filter fun c => !decide ((⟨#[c]⟩ : Str) ∈ l)
theorem spare_get {l : List Str} (h : l.length ≤ 2) : ∃ c r, spare l = c :: r ∧ OkName ⟨#[c]⟩ ∧ (⟨#[c]⟩ : Str) ∉ l := by
  obtain ⟨c, hc, hn⟩ := exists_new (cs := ak.cps.toList) (l := l) (by rw [ak_list]; decide) (by rw [ak_list]; show l.length < 11; omega)
  have hm : c ∈ spare l := List.mem_filter.mpr ⟨hc, by rw [decide_eq_false hn] <;> rfl⟩
  cases q : spare l with
  | nil =>
    rw [q] at hm
    cases hm
  | cons x r =>
    have hx : x ∈ spare l := by rw [q]; exact List.mem_cons_self ..
    obtain ⟨h1, h2⟩ := List.mem_filter.mp hx
    refine ⟨x, r, rfl, (NameN.one ?_).ok (by decide), ?_⟩
    · have : ∀ y ∈ ([97, 98, 99, 100, 101, 102, 103, 104, 105, 106, 107] : List Nat), 97 ≤ y ∧ y ≤ 122 := by decide
      exact this x (by rw [← ak_list]; exact h1)
    · rw [Bool.not_eq_true', decide_eq_false_iff_not] at h2
      exact h2
theorem ok_ns (F : FnP K "_law_names" "_law_names" (top 79) f fd) (B : Bi mg) (c : Dr P w K mg base) (cn : CalW P w K mg base 2 "_law_name" 10 nil_ nmR) : FnOk P w K mg base C8.CX0 3 f fd ["_law_urn_here", "_law_many"] (spW 36 nsP nsR) := by
  refine fnW F sc_ns (fun ds ⟨m, h, _⟩ => by rw [h] <;> rfl) fun cdv A outer s H E hr u S0 H0 n ds ⟨m, h, hm1, hm2⟩ => ?_
  subst h
  refine wss_cons (Φ1 := fun o => ∃ l, o = .nx [some (.val (.ref u)), some (.int (m : Int)), some (.val (.ref l)), none, none, none, none] ⟨n + 36, some (l, [])⟩) (ws_own (k := 2) (l0 := []) sc_ns.nd (pe_lst pa_nil) (fun σ H Q ⟨S, e, rE, k⟩ => ⟨Nat.zero_le _, fun l hl => k l [] S H (Gr.refl e) hl repL_nil⟩) fun l => ⟨l, rfl⟩) (fun _ _ ⟨_, h⟩ => nomatch h) fun ρ1 j ⟨l, ho⟩ => ?_
  cases ho
  refine wss_cons (Φ1 := fun o => ∃ fl : List Str, fl.length = m ∧ fl.Nodup ∧ (∀ x ∈ fl, OkName x) ∧ ∃ k, n ≤ k ∧ o = .nx [some (.val (.ref u)), some (.int (m : Int)), some (.val (.ref l)), none, none, none, none] ⟨k, some (l, fl.map D.str)⟩) (ws_for (bd := .one 3) (Pl := fun ds j => ds = (List.range m).map (fun i => D.int (i : Nat)) ∧ j = ⟨n + 36, some (l, [])⟩) (fun ds k ρ1 j => ∃ fl : List Str, fl.length = k ∧ fl.Nodup ∧ (∀ x ∈ fl, OkName x) ∧ k ≤ 3 ∧ ρ1 = [some (.val (.ref u)), some (.int (m : Int)), some (.val (.ref l)), none, none, none, none] ∧ j.o = some (l, fl.map D.str) ∧ n + 12 * (3 - k) ≤ j.n) PassesOwn.never rfl ?it (pn 3 sc_ns.nd) (fun ds j ⟨_, hj⟩ => ⟨_, Le.refl _, [], rfl, List.nodup_nil, (fun x hx => by cases hx), by omega, rfl, by rw [hj] <;> rfl, by rw [hj]; show n + 36 ≤ n + 36; omega⟩) ?body ?fin) (fun _ _ ⟨_, _, _, _, _, _, h⟩ => nomatch h) fun ρ1 j ⟨fl, hl, hnd, hall, k, hk, ho⟩ => ?_
  case it => exact wi_pure (ei_range rfl (B.free _ (by decide)) (by omega) (a1 (v 1))) ⟨rfl, rfl⟩
  case fin =>
    intro ds j0 ρ1 j ⟨hds, _⟩ ⟨fl, hl, hnd, hall, hk, hρ, hj, hn⟩
    obtain ⟨jn, jo⟩ := j
    have hj : jo = some (l, fl.map D.str) := hj
    subst hj hρ
    have hn : n + 12 * (3 - ds.length) ≤ jn := hn
    refine ⟨fl, ?_, hnd, hall, jn, by show n ≤ jn; omega, rfl⟩
    rw [hl, hds, List.length_map, List.length_range]
  case body =>
    intro ds j0 k d ρ1 j ⟨hds, _⟩ hd ⟨fl, hl, hnd, hall, hk, hρ, hj, hn⟩
    obtain ⟨jn, jo⟩ := j
    have hj : jo = some (l, fl.map D.str) := hj
    subst hj hρ hds
    have hkm : k < m := by
      have := (List.getElem?_eq_some_iff.mp hd).1
      rw [List.length_map, List.length_range] at this
      exact this
    have hdk : d = .int (k : Int) := by
      rw [List.getElem?_map, List.getElem?_range hkm] at hd
      exact (Option.some.inj hd).symm
    subst hdk
    have hn : n + 12 * (3 - k) ≤ jn := hn
    refine ⟨_, rfl, ?_⟩
    -- the name
    refine wss_cons (Φ1 := fun o => ∃ x, OkName x ∧ o = .nx [some (.val (.ref u)), some (.int (m : Int)), some (.val (.ref l)), some (.int (k : Int)), some (.str x), none, none] ⟨jn - 10, some (l, fl.map D.str)⟩) (ws_set 4 sc_ns.nd (w_call1 cn hr (Nat.le_refl _) rfl (v 0) rfl (by show 10 ≤ jn; omega) fun d ⟨x, hd, hx⟩ => ⟨x, hx, by rw [hd] <;> rfl⟩)) (fun _ _ ⟨_, _, h⟩ => nomatch h) fun ρ1 j ⟨x, hx, ho⟩ => ?_
    cases ho
    refine wss_cons (Φ1 := fun o => ∃ x N, OkName x ∧ jn - 12 ≤ N ∧ o = .nx [some (.val (.ref u)), some (.int (m : Int)), some (.val (.ref l)), some (.int (k : Int)), some (.str x), none, none] ⟨N, some (l, fl.map D.str)⟩) (ws_if (Pt := fun b j => (b = true → ∃ z fl', fl = fl' ++ [z] ∧ OkName z ∧ z.length < 8) ∧ j.o = some (l, fl.map D.str) ∧ jn - 11 ≤ j.n) ?test ?yes ?no) (fun _ _ ⟨_, _, _, _, h⟩ => nomatch h) fun ρ1 j ⟨x, N, hx, hN, ho⟩ => ?_
    case no =>
      intro j ⟨_, hj, hn⟩
      obtain ⟨j1, jo⟩ := j
      have hj : jo = some (l, fl.map D.str) := hj
      subst hj
      have hn : jn - 11 ≤ j1 := hn
      exact wss_nil ⟨x, j1, hx, by show jn - 12 ≤ j1; omega, rfl⟩
    case yes =>
      intro j ⟨hz, hj, hn⟩
      obtain ⟨j1, jo⟩ := j
      have hj : jo = some (l, fl.map D.str) := hj
      subst hj
      obtain ⟨z, fl', hfl, hzok, hzl⟩ := hz rfl
      have hn : jn - 11 ≤ j1 := hn
      have hpk : (fl.map D.str) = fl'.map D.str ++ [D.str z] := by rw [hfl, List.map_append] <;> rfl
      refine wss_one (ws_set 4 sc_ns.nd (w_op (P1 := fun y j => y = .str z ∧ j = ⟨j1, some (l, fl.map D.str)⟩) (P2 := fun _ _ y j => ∃ ch, okSign ch = true ∧ y = .str ⟨#[ch]⟩ ∧ j = ⟨j1 - 1, some (l, fl.map D.str)⟩) op_add_str (w_peek 2 (e_last (l := fl'.map D.str) (by rw [← hpk]; exact v 2)) rfl ⟨rfl, rfl⟩) (fun y j ⟨_, hj⟩ => ?_) fun y j z' k' ⟨hy, _⟩ ⟨ch, hch, hz', hk'⟩ => ?_))
      · subst hj
        refine w_ixS (by decide +kernel) em_str (w_draw c hr (by decide) 3 (by decide) (by decide) (by show 1 ≤ j1; omega) (v 0) em_int fun q hq => ?_)
        obtain ⟨ch, h1, h2⟩ := a0z_get hq
        exact ⟨q, ch, rfl, h1, ch, h2, rfl, rfl⟩
      · subst hy hz' hk'
        have hzn := hzok.n
        exact ⟨_, od_cat (by rw [one_len]; omega), _, j1 - 1, (hzn.add hch).ok (by omega), by omega, rfl⟩
    case test =>
      rcases List.eq_nil_or_concat fl with hfl | ⟨fl', z, hfl⟩
      · have hk0 : k = 0 := by rw [← hl, hfl] <;> rfl
        refine wt_w (ww_and (P1 := fun b j => b = false ∧ j = ⟨jn - 10, some (l, fl.map D.str)⟩) (wt_pure (et_is (t_gt (v 3) em_int) (decide_eq_false (by omega))) ⟨rfl, rfl⟩) (fun j ⟨_, hj⟩ => ⟨(fun h => nomatch h), by rw [hj], by rw [hj]; show jn - 11 ≤ jn - 10; omega⟩) fun j ⟨h, _⟩ => nomatch h)
      · have hfl : fl = fl' ++ [z] := hfl.trans (List.concat_eq_append ..)
        have hpk : (fl.map D.str) = fl'.map D.str ++ [D.str z] := by rw [hfl, List.map_append] <;> rfl
        have hz : OkName z := hall z (by rw [hfl]; simp)
        have hz8 := hz.len
        refine wt_w (ww_and (P1 := fun b j => j = ⟨jn - 10, some (l, fl.map D.str)⟩) (wt_pure (t_gt (v 3) em_int) rfl) (fun j hj => ⟨(fun h => nomatch h), by rw [hj], by rw [hj]; show jn - 11 ≤ jn - 10; omega⟩) fun j hj => ?_)
        subst hj
        refine ww_and (P1 := fun b j => b = decide ((z.length : Int) < 8) ∧ j = ⟨jn - 10, some (l, fl.map D.str)⟩) (wt_peek 2 (t_lt (e_lenS B (e_last (l := fl'.map D.str) (d := .str z) (by rw [← hpk]; exact v 2)) (by omega)) em_int) ⟨rfl, rfl⟩) (fun j ⟨_, hj⟩ => ⟨(fun h => nomatch h), by rw [hj], by rw [hj]; show jn - 11 ≤ jn - 10; omega⟩) fun j ⟨hb, hj⟩ => ?_
        subst hj
        have hz7 : z.length < 8 := by
          have := of_decide_eq_true hb.symm
          omega
        exact ww_one (wt_eqN (w_draw c hr (by decide) 4 (by decide) (by decide) (by show 1 ≤ jn - 10; omega) (v 0) em_int fun q hq => ⟨q, rfl, fun b => ⟨fun _ => ⟨z, fl', hfl, hz, hz7⟩, rfl, by show jn - 11 ≤ jn - 10 - 1; omega⟩⟩))
    cases ho
    obtain ⟨c0, sr, hsp, hc0, hc1⟩ := spare_get (l := fl) (by omega)
    -- the spare ones
    refine wss_cons (Φ1 := fun o => o = .nx [some (.val (.ref u)), some (.int (m : Int)), some (.val (.ref l)), some (.int (k : Int)), some (.str x), some (.lst ((spare fl).map fun c => D.str ⟨#[c]⟩)), none] ⟨N, some (l, fl.map D.str)⟩) (ws_setLc (k := 5) (own := [("_law_sign", 6)]) (bd := .one 6) (xs := ak.cps.toList) (φ := fun c => D.str ⟨#[c]⟩) (Inv := fun n l' j => l' = ((ak.cps.toList.take n).filter fun c => !decide ((⟨#[c]⟩ : Str) ∈ fl)).map (fun c => D.str ⟨#[c]⟩) ∧ j = ⟨N, some (l, fl.map D.str)⟩) rfl rfl (sw_true rfl rfl rfl (by decide +kernel)) ⟨rfl, sc_ns.nd, ei_str em_str, blkOk_by (N := nNs) (sc := defScope (top 79)) (by decide +kernel), by rw [ak_list]; decide, by decide, fun _ _ _ _ _ => pn 6 sc_ns.nd, ⟨rfl, rfl⟩, ?acc, ?turn, fun _ => rfl⟩ fun l' j ⟨h1, h2⟩ => by rw [h1, h2, List.take_length] <;> rfl) (fun _ _ h => nomatch h) fun ρ1 j ho => ?_
    case acc =>
      intro n l' j ⟨h1, _⟩
      rw [h1, List.length_map]
      exact Nat.le_trans (List.length_filter_le _ _) (by rw [List.length_take]; omega)
    case turn =>
      intro n ch l' j hch ⟨h1, h2⟩
      subst h2
      refine ⟨_, rfl, fun b j' => b = (!decide ((⟨#[ch]⟩ : Str) ∈ fl)) ∧ j' = ⟨N, some (l, fl.map D.str)⟩, fun j' ⟨hb, hj'⟩ => ⟨?_, hj'⟩, fun _ _ _ _ _ => ⟨pts_one (wt_peek 2 (t_notInL (v 6) (v 2)) ⟨rfl, rfl⟩), fun j' ⟨hb, hj'⟩ => w_pure (v 6) ⟨?_, hj'⟩⟩⟩
      · rw [h1, List.take_succ, hch, List.filter_append]
        show _ = ((_ ++ ([ch].filter _))).map _
        rw [List.filter_cons, if_neg (by rw [← hb]; decide)]
        simp
      · rw [h1, List.take_succ, hch, List.filter_append]
        show _ = ((_ ++ ([ch].filter _))).map _
        rw [List.filter_cons, if_pos hb.symm]
        simp
    cases ho
    refine wss_one (ws_app (l := l) (ds := fl.map D.str) (v 2) (w_if (Pt := fun b j => b = decide (x ∈ fl) ∧ j = ⟨N, some (l, fl.map D.str)⟩) (wt_peek 2 (t_inL (v 4) (v 2)) ⟨rfl, rfl⟩) (fun j ⟨hb, hj⟩ => ?sp) fun j ⟨hb, hj⟩ => ?nm) (by rw [List.length_map]; omega) rfl)
    case sp =>
      subst hj
      refine w_pure (e_ixL (j := 0) (l := (spare fl).map fun c => D.str ⟨#[c]⟩) (d := .str ⟨#[c0]⟩) (by rw [hsp] <;> rfl) (v 5) em_int) ⟨rfl, _, _, rfl, _, Le.cons (Le.cons (Le.cons (Le.drop (Le.drop (Le.drop (Le.cons Le.nil)))))), fl ++ [⟨#[c0]⟩], ?_, ?_, ?_, by omega, rfl, ?_, ?_⟩
      · rw [List.length_append, hl] <;> rfl
      · exact List.nodup_append.mpr ⟨hnd, by simp, fun a ha b hb => by
          have e : b = ⟨#[c0]⟩ := by simpa using hb
          rw [e]
          exact fun z => hc1 (z ▸ ha)⟩
      · intro y hy
        rcases List.mem_append.mp hy with hy | hy
        · exact hall y hy
        · have e : y = ⟨#[c0]⟩ := by simpa using hy
          rw [e]
          exact hc0
      · rw [List.map_append] <;> rfl
      · show n + 12 * (3 - (k + 1)) ≤ N
        omega
    case nm =>
      subst hj
      have hxn : x ∉ fl := of_decide_eq_false hb.symm
      refine w_pure (v 4) ⟨rfl, _, _, rfl, _, Le.cons (Le.cons (Le.cons (Le.drop (Le.drop (Le.drop (Le.cons Le.nil)))))), fl ++ [x], ?_, ?_, ?_, by omega, rfl, ?_, ?_⟩
      · rw [List.length_append, hl] <;> rfl
      · exact List.nodup_append.mpr ⟨hnd, by simp, fun a ha b hb => by
          have e : b = x := by simpa using hb
          rw [e]
          exact fun z => hxn (z ▸ ha)⟩
      · intro y hy
        rcases List.mem_append.mp hy with hy | hy
        · exact hall y hy
        · have e : y = x := by simpa using hy
          rw [e]
          exact hx
      · rw [List.map_append] <;> rfl
      · show n + 12 * (3 - (k + 1)) ≤ N
        omega
  · cases ho
    refine wss_fix (k := 2) rfl (wss_one (ws_ret (w_pure (e_tuple B (e_sorted B (v 2) (by omega))) ⟨_, _, rfl, ⟨srt fl, rfl, ⟨?_, ?_, ?_, ?_⟩, ?_⟩, hk⟩)))
    · intro z
      have := (srt_perm fl).length_eq
      rw [z] at this
      simp at this
      omega
    · have := (srt_perm fl).length_eq
      omega
    · exact fun x hx => hall x ((srt_perm fl).mem_iff.mp hx)
    · refine List.Pairwise.imp₂ (fun a b h1 h2 => ?_) (srt_pw fl) ((srt_perm fl).nodup_iff.mpr hnd)
      by_cases q : slt a b
      · exact q
      · exact absurd (slt_anti q h1) h2
    · have := (srt_perm fl).length_eq
      omega
end
end Mh
set_option maxRecDepth 100000
set_option maxHeartbeats 2000000
/-! F12: _law_shuffled, _law_menu. -/
namespace Mh
open PySem PySem.Spec PyProof.Rows L2
section
variable {X : Cx} {u : Addr} {S0 H0 : Hp} {ρ : En} {i : WI} {P P1 : PW_} {a e : Expr} {pos p : Pos}
/-- tuple(a list that is made by drawing) -/
theorem w_tuple (B : Bi X.mg) (ha : Wm X u S0 H0 e ρ i (fun d j => ∃ l, d = .lst l ∧ P (.tup l) j)) (hg : L2.Gl X "tuple" := by rfl) (hs : starEach [e] X.env = (false, eval e X.env) :: starEach [] X.env := by rfl) : Wm X u S0 H0 (.Call (.Name "tuple" p) [e] [] pos) ρ i P :=
  w_callTy call_tuple_of hg (B.free _ (by decide)) boot_tuple ha (fun x j ⟨l, h1, h2⟩ => by
    subst h1
    exact ⟨_, cd_tupL, h2⟩) (by decide) (by decide) hs
end
section
variable {P : Program} {w : World} {K : PySem.W.Frag} {mg : Str → Option Value} {base : Heap} {f : Addr} {fd : FuncData}
/-! _law_shuffled -/
abbrev nSf : List Str := ["_law_urn_here", "_law_names_here", "_law_left", "_law_name_here"]
theorem sc_sf : FnScope nSf ["_law_urn_here", "_law_names_here"] (defScope (top 80)) := C8.fnScope_by (by decide +kernel)
def sfP (ds : List D) : Prop := ∃ l : List Str, ds = [rowD l] ∧ l.length ≤ 3
def sfR (ds : List D) (d : D) : Prop := ∃ l r : List Str, ds = [rowD l] ∧ d = rowD r ∧ r.Perm l
theorem perm_erase {l : List Str} {q : Nat} {x : Str} (h : l[q]? = some x) : l.Perm (x :: l.eraseIdx q) := by
  induction l generalizing q with
  | nil => simp at h
  | cons a l ih =>
    cases q with
    | zero =>
      have e : a = x := by simpa using h
      subst e
      exact List.Perm.refl _
    | succ q => exact (List.Perm.cons a (ih (by simpa using h))).trans (List.Perm.swap x a _)
theorem map_erase {l : List Str} {q : Nat} : (l.map D.str).eraseIdx q = (l.eraseIdx q).map D.str := by
  induction l generalizing q with
  | nil => rfl
  | cons a l ih =>
    cases q with
    | zero => rfl
    | succ q => exact congrArg (D.str a :: ·) ih
theorem ok_sf (F : FnP K "_law_shuffled" "_law_shuffled" (top 80) f fd) (B : Bi mg) (c : Dr P w K mg base) : FnOk P w K mg base C8.CX0 2 f fd ["_law_urn_here", "_law_names_here"] (spW 3 sfP sfR) := by
  refine fnW F sc_sf (fun ds ⟨m, h, _⟩ => by rw [h] <;> rfl) fun cdv A outer s H E hr u S0 H0 n ds ⟨nm, h, hn3⟩ => ?_
  subst h
  refine wss_cons (Φ1 := fun o => ∃ l, o = .nx [some (.val (.ref u)), some (rowD nm), some (.val (.ref l)), none] ⟨n + 3, some (l, nm.map D.str)⟩) (ws_own (k := 2) (l0 := nm.map D.str) sc_sf.nd (pe_callTy call_list_of rfl (B.free _ (by decide)) boot_list (a1 (v 1 (ρ := [some (.val (.ref u)), some (rowD nm), none, none])))) (fun σ H Q ⟨S, e, rE, k⟩ => ⟨S, e, rE, fun vs S' H' g r => ?_⟩) fun l => ⟨l, rfl⟩) (fun _ _ ⟨_, h⟩ => nomatch h) fun ρ1 j ⟨l, ho⟩ => ?_
  · obtain ⟨v1, rfl, r1⟩ := one_rep r
    obtain ⟨a, ws, rfl, h1, h2⟩ := r1.tup
    exact ⟨a, ws, rfl, Or.inr (SqT.of (g.sh _ _ h1)), fun l hl => k l ws S' H' g hl h2⟩
  cases ho
  refine wss_one (ws_ret (w_tuple B (w_lc (own := [("_law_name_here", 3)]) (bd := .one 3) (xs := nm) (φ := D.str) (Inv := fun k acc j => ∃ done rem : List Str, acc = done.map D.str ∧ done.length = k ∧ (done ++ rem).Perm nm ∧ j.o = some (l, rem.map D.str) ∧ n + (3 - k) ≤ j.n) ⟨rfl, sc_sf.nd, ei_tup (v 1), blkOk_by (N := nSf) (sc := defScope (top 80)) (by decide +kernel), by omega, by decide, fun _ _ _ _ _ => pn 3 sc_sf.nd, ⟨[], nm, rfl, rfl, List.Perm.refl _, rfl, by show n + 3 ≤ n + 3; omega⟩, ?acc, ?turn, fun _ => rfl⟩ fun l' j ⟨done, rem, h1, h2, h3, h4, h5⟩ => ⟨_, rfl, _, j, by rw [h1] <;> rfl, ⟨nm, done, rfl, rfl, ?perm⟩, by omega⟩)))
  case acc =>
    intro k l' j ⟨done, rem, h1, h2, _⟩
    rw [h1, List.length_map]
    omega
  case perm =>
    have hl := h3.length_eq
    rw [List.length_append] at hl
    have : rem = [] := List.length_eq_zero_iff.mp (by omega)
    rw [this, List.append_nil] at h3
    exact h3
  case turn =>
    intro k x acc j hx ⟨done, rem, h1, h2, h3, h4, h5⟩
    obtain ⟨jn, jo⟩ := j
    have h4 : jo = some (l, rem.map D.str) := h4
    subst h4
    have h5 : n + (3 - k) ≤ jn := h5
    have hk := (List.getElem?_eq_some_iff.mp hx).1
    have hl := h3.length_eq
    rw [List.length_append] at hl
    refine ⟨_, rfl, fun b j' => b = true ∧ j' = ⟨jn, some (l, rem.map D.str)⟩, (fun j' ⟨h, _⟩ => nomatch h), fun _ _ _ _ _ => ⟨pts_mono pts_nil fun σ H Q ⟨S, e, rE, w, kk⟩ => kk true S H _ ⟨rfl, rfl⟩ (Stp.refl e) w, fun j' ⟨_, hj'⟩ => ?_⟩⟩
    subst hj'
    refine w_pop (l := l) (ds := rem.map D.str) (v 2) (w_drawL c hr (Nat.le_refl _) rem.length (by omega) (by omega) (by show 1 ≤ jn; omega) (v 0) (w_peek 2 (em_is (e_lenL B (v 2)) (by rw [List.length_map])) rfl ⟨rfl, rfl⟩) fun q hq => ?_) (by rw [List.length_map]; omega) rfl
    have hq' : rem[q]? = some rem[q] := List.getElem?_eq_getElem hq
    refine ⟨q, .str rem[q], rfl, get_str hq', rfl, done ++ [rem[q]], rem.eraseIdx q, ?_, ?_, ?_, ?_, ?_⟩
    · rw [h1, List.map_append] <;> rfl
    · rw [List.length_append, h2] <;> rfl
    · rw [List.append_assoc]
      exact (List.Perm.append_left done (perm_erase hq').symm).trans h3
    · show some (l, (rem.map D.str).eraseIdx q) = _
      rw [map_erase]
    · show n + (3 - (k + 1)) ≤ jn - 1
      omega
/-! _law_menu -/
abbrev nMe : List Str := ["_law_urn_here", "_law_names_here", "_law_some", "_law_name_here"]
theorem sc_me : FnScope nMe ["_law_urn_here", "_law_names_here"] (defScope (top 81)) := C8.fnScope_by (by decide +kernel)
def meP (ds : List D) : Prop := ∃ l : List Str, ds = [rowD l] ∧ l ≠ [] ∧ l.length ≤ 3 ∧ ∀ x ∈ l, OkName x
def meR (ds : List D) (d : D) : Prop := ∃ l m : List Str, ds = [rowD l] ∧ d = rowD m ∧ m ≠ [] ∧ m.Sublist l
theorem ok_me (F : FnP K "_law_menu" "_law_menu" (top 81) f fd) (B : Bi mg) (c : Dr P w K mg base) : FnOk P w K mg base C8.CX0 2 f fd ["_law_urn_here", "_law_names_here"] (spW 4 meP meR) := by
  refine fnW F sc_me (fun ds ⟨m, h, _⟩ => by rw [h] <;> rfl) fun cdv A outer s H E hr u S0 H0 n ds ⟨nm, h, hne, hn3, hok⟩ => ?_
  subst h
  refine wss_cons (Φ1 := fun o => ∃ (m : List Str) (k : Nat), m.Sublist nm ∧ n + 1 ≤ k ∧ o = .nx [some (.val (.ref u)), some (rowD nm), some (.lst (m.map D.str)), none] ⟨k, none⟩) (ws_setLc (k := 2) (own := [("_law_name_here", 3)]) (bd := .one 3) (xs := nm) (φ := D.str) (Inv := fun k acc j => ∃ m : List Str, acc = m.map D.str ∧ m.Sublist (nm.take k) ∧ j.o = none ∧ n + 1 + (3 - k) ≤ j.n) rfl rfl (sw_true rfl rfl rfl (by decide +kernel)) ⟨rfl, sc_me.nd, ei_tup (v 1), blkOk_by (N := nMe) (sc := defScope (top 81)) (by decide +kernel), by omega, by decide, fun _ _ _ _ _ => pn 3 sc_me.nd, ⟨[], rfl, List.nil_sublist _, rfl, by show n + 1 + 3 ≤ n + 4; omega⟩, ?acc, ?turn, fun _ => rfl⟩ fun l' j ⟨m, h1, h2, h3, h4⟩ => ?fin) (fun _ _ ⟨_, _, _, _, h⟩ => nomatch h) fun ρ1 j ⟨m, k, hm, hk, ho⟩ => ?_
  case fin =>
    obtain ⟨jn, jo⟩ := j
    have h3 : jo = none := h3
    subst h3 h1
    have h4 : n + 1 + (3 - nm.length) ≤ jn := h4
    rw [List.take_length] at h2
    exact ⟨m, jn, h2, by omega, rfl⟩
  case acc =>
    intro k l' j ⟨m, h1, h2, _⟩
    rw [h1, List.length_map]
    have := h2.length_le
    rw [List.length_take] at this
    omega
  case turn =>
    intro k x acc j hx ⟨m, h1, h2, h3, h4⟩
    obtain ⟨jn, jo⟩ := j
    have h3 : jo = none := h3
    subst h3
    have h4 : n + 1 + (3 - k) ≤ jn := h4
    have hk := (List.getElem?_eq_some_iff.mp hx).1
    have ht : nm.take (k + 1) = nm.take k ++ [x] := by rw [List.take_succ, hx] <;> rfl
    refine ⟨_, rfl, fun b j' => j' = ⟨jn - 1, none⟩, fun j' hj' => ?_, fun _ _ _ _ _ => ⟨pts_one (wt_eqN (w_draw c hr (Nat.le_refl _) 2 (by decide) (by decide) (by show 1 ≤ jn; omega) (v 0) em_int fun q hq => ⟨q, rfl, fun b => rfl⟩)), fun j' hj' => w_pure (v 3) ?_⟩⟩
    · subst hj'
      exact ⟨m, h1, by rw [ht]; exact h2.trans (List.sublist_append_left _ _), rfl, by show n + 1 + (3 - (k + 1)) ≤ jn - 1; omega⟩
    · subst hj'
      exact ⟨m ++ [x], by rw [h1, List.map_append] <;> rfl, by rw [ht]; exact h2.append (List.Sublist.refl _), rfl, by show n + 1 + (3 - (k + 1)) ≤ jn - 1; omega⟩
  cases ho
  have hg : gd (.lst (m.map D.str)) 60 = true := gd_mono (show 1 ≤ 60 by decide) (gd_lst fun d hd => by
    obtain ⟨x, hx, rfl⟩ := List.mem_map.mp hd
    exact gd_str (hok x (hm.subset hx)).ok)
  refine wss_one (ws_ret (w_if (Pt := fun b j => b = !(m.map D.str).isEmpty ∧ j = ⟨k, none⟩) (wt_pure (t_neNil rfl hr (v 2) hg) ⟨rfl, rfl⟩) (fun j ⟨hb, hj⟩ => ?yes) fun j ⟨hb, hj⟩ => ?no))
  case yes =>
    subst hj
    refine w_pure (e_tuple B (v 2)) ⟨_, _, rfl, ⟨nm, m, rfl, rfl, fun z => ?_, hm⟩, by show n ≤ k; omega⟩
    rw [z] at hb
    cases hb
  case no =>
    subst hj
    have hl : 0 < nm.length := List.length_pos_iff.mpr hne
    refine w_tup (Pl := fun ds j => ∃ x, x ∈ nm ∧ ds = [.str x] ∧ j = ⟨k - 1, none⟩) (wa1 (P1 := fun d j => ∃ x, x ∈ nm ∧ d = .str x ∧ j = ⟨k - 1, none⟩) (w_ixT (v 1) (w_draw c hr (Nat.le_refl _) nm.length (by omega) (by omega) (by show 1 ≤ k; omega) (v 0) (em_is (e_lenT B (v 1 (d := rowD nm))) (by rw [List.length_map])) fun q hq => ?_)) fun d j ⟨x, h1, h2, h3⟩ => ⟨x, h1, by rw [h2], h3⟩) fun ds j ⟨x, h1, h2, h3⟩ => ?_
    · exact ⟨q, .str nm[q], rfl, get_str (List.getElem?_eq_getElem hq), nm[q], List.getElem_mem hq, rfl, rfl⟩
    · subst h2 h3
      exact ⟨by show 1 ≤ 100000; decide, _, _, rfl, ⟨nm, [x], rfl, rfl, by simp, List.singleton_sublist.mpr h1⟩, by show n ≤ k - 1; omega⟩
end
end Mh
set_option maxRecDepth 100000
set_option maxHeartbeats 2000000
/-! F13: _law_look, _law_pairs. -/
namespace Mh
open PySem PySem.Spec PyProof.Rows L2
/-- signs as texts -/
def mkS (ms : List Nat) : List Str := ms.map fun c => ⟨#[c]⟩
def mkDs (ms : List Nat) : List D := (mkS ms).map D.str
theorem mkDs_len {ms : List Nat} : (mkDs ms).length = ms.length := by unfold mkDs mkS; simp
theorem mkDs_set {ms : List Nat} {q c : Nat} : (mkDs ms).set q (.str ⟨#[c]⟩) = mkDs (ms.set q c) := by
  unfold mkDs mkS
  rw [List.map_set, List.map_set]
theorem mkDs_add {ms : List Nat} {c : Nat} : mkDs ms ++ [.str ⟨#[c]⟩] = mkDs (ms ++ [c]) := by
  unfold mkDs mkS
  rw [List.map_append, List.map_append] <;> rfl
def Mark (c : Nat) : Prop := c = 43 ∨ c = 45 ∨ c = 63
theorem join_mk : ∀ {ms : List Nat}, Txt.join "" (mkS ms) = SX.S ms := by
  intro ms
  have e0 : (Str.ofString "") = SX.S [] := by decide +kernel
  have e1 : mkS ms = (ms.map fun c => [c]).map SX.S := by
    unfold mkS
    rw [List.map_map] <;> rfl
  rw [e0, e1, SX.join_S]
  congr 1
  have key : ∀ ms : List Nat, TL.joinL [] (ms.map fun c => ([c] : List Nat)) = ms := by
    intro ms
    induction ms with
    | nil => rfl
    | cons c r ih =>
      cases r with
      | nil => rfl
      | cons d r =>
        have e : TL.joinL [] (([c] : List Nat) :: ([d] : List Nat) :: r.map fun c => [c]) = [c] ++ [] ++ TL.joinL [] (([d] : List Nat) :: r.map fun c => [c]) := rfl
        show TL.joinL [] (([c] : List Nat) :: ([d] : List Nat) :: r.map fun c => [c]) = _
        rw [e]
        have ih2 : TL.joinL [] (([d] : List Nat) :: r.map fun c => [c]) = d :: r := ih
        rw [ih2] <;> rfl
  exact key ms
theorem count_mk {c : Nat} : ∀ {ms : List Nat}, (mkS ms).count ⟨#[c]⟩ = ms.count c
  | [] => rfl
  | x :: r => by
    have ih := count_mk (c := c) (ms := r)
    show (((⟨#[x]⟩ : Str)) :: mkS r).count ⟨#[c]⟩ = _
    rw [List.count_cons, List.count_cons, ih]
    congr 1
    by_cases h : x = c
    · subst h
      simp
    · have h2 : (⟨#[x]⟩ : Str) ≠ ⟨#[c]⟩ := fun z => h (by
        have := congrArg (fun y : Str => y.cps.toList) z
        simpa using this)
      rw [if_neg (by simpa using h2), if_neg (by simpa using h)]
section
variable {P : Program} {w : World} {K : PySem.W.Frag} {mg : Str → Option Value} {base : Heap} {f : Addr} {fd : FuncData}
abbrev nLk : List Str := ["_law_urn_here", "_law_names_here", "_law_rows_here", "_law_wild", "_law_menu_here", "_law_taken", "_law_signs", "_law_thing", "_law_sign"]
theorem sc_lk : FnScope nLk ["_law_urn_here", "_law_names_here", "_law_rows_here", "_law_wild"] (defScope (top 84)) := C8.fnScope_by (by decide +kernel)
def lkP (ds : List D) : Prop := ∃ (nm : List Str) (rows : List Row) (wild : Nat), ds = [rowD nm, .lst (rows.map rowD), .int (wild : Int)] ∧ OkNames nm ∧ nm.length ≤ 3 ∧ rows.length ≤ 1000 ∧ (∀ r ∈ rows, r.Perm nm) ∧ wild ≤ 10
def lkR2 (ds : List D) (d : D) : Prop := ∃ (nm : List Str) (a b : D) (l : Lk), ds = [rowD nm, a, b] ∧ d = pairD l ∧ OkLook l ∧ l.1.Sublist nm
theorem w_mark {X : Cx} {u : Addr} {S0 H0 : Hp} {ρ : En} {P : PW_} {e : Expr} {pos p : Pos} {n : Nat} {o : Ow} {k j : Nat} (c : CalW X.prog X.w X.K X.mg X.base k "_law_draw" 1 drP drR) (hr : Room j X.A) (hk : k ≤ j) (hn : 1 ≤ n) (hu : Em X e ρ (.val (.ref u))) (hP : ∀ ch, Mark ch → P (.str ⟨#[ch]⟩) ⟨n - 1, o⟩) {jj kk : Nat} {p1 p2 p3 : Pos}
    (hg : L2.Gl X "_law_draw" := by rfl) (he : starEach [e, .Constant (.int 3) kk p2] X.env = (false, eval e X.env) :: starEach [.Constant (.int 3) kk p2] X.env := by rfl) (he2 : starEach [.Constant (.int 3) kk p2] X.env = (false, eval (.Constant (.int 3) kk p2) X.env) :: starEach [] X.env := by rfl) (hpl : (backTo pos (starEach [.Constant (.int 3) kk p2] X.env)).any (·.1) = false := by rfl) (hs : PlainIx (.Call (.Name "_law_draw" p) [e, .Constant (.int 3) kk p2] [] pos) := by intro _ _; rfl) :
    Wm X u S0 H0 (.Subscript (.Constant (.str "+-?") jj p1) (.Call (.Name "_law_draw" p) [e, .Constant (.int 3) kk p2] [] pos) p3) ρ ⟨n, o⟩ P :=
  w_ixS (by decide +kernel) em_str (w_draw c hr hk 3 (by decide) (by decide) hn hu em_int (fun q hq => by
    have e : (Str.ofString "+-?").cps.toList = [43, 45, 63] := by decide +kernel
    match q, hq with
    | 0, _ => exact ⟨0, 43, rfl, by rw [e] <;> rfl, hP 43 (.inl rfl)⟩
    | 1, _ => exact ⟨1, 45, rfl, by rw [e] <;> rfl, hP 45 (.inr (.inl rfl))⟩
    | 2, _ => exact ⟨2, 63, rfl, by rw [e] <;> rfl, hP 63 (.inr (.inr rfl))⟩) hg he he2 hpl) hs
theorem ok_lk (F : FnP K "_law_look" "_law_look" (top 84) f fd) (B : Bi mg) (c : Dr P w K mg base) (cm : CalW P w K mg base 2 "_law_menu" 4 meP meR) (ct : CalP P w K mg base 2 "_law_takes" ltR) : FnOk P w K mg base C8.CX0 3 f fd ["_law_urn_here", "_law_names_here", "_law_rows_here", "_law_wild"] (spW 12 lkP lkR2) := by
  refine fnW F sc_lk (fun ds ⟨a, b, e, h, _⟩ => by rw [h] <;> rfl) fun cdv A outer s H E hr u S0 H0 n ds ⟨nm, rows, wild, h, hN, hn3, hrl, hperm, hw⟩ => ?_
  subst h
  -- the menu
  refine wss_cons (Φ1 := fun o => ∃ m : List Str, m ≠ [] ∧ m.Sublist nm ∧ o = .nx [some (.val (.ref u)), some (rowD nm), some (.lst (rows.map rowD)), some (.int (wild : Int)), some (rowD m), none, none, none, none] ⟨n + 8, none⟩) (ws_set 4 sc_lk.nd (w_callP cm hr (Nat.le_refl _) rfl (a2 (v 0) (v 1)) ⟨nm, rfl, hN.ne, hn3, hN.all⟩ (by show 4 ≤ n + 12; omega) fun d ⟨l, m, h1, h2, h3, h4⟩ => ?_)) (fun _ _ ⟨_, _, _, h⟩ => nomatch h) fun ρ1 j ⟨m, hm, hsub, ho⟩ => ?_
  · have e : l = nm := by
      have := (List.cons.inj h1).1
      have h5 := D.tup.inj this
      have key : ∀ {a b : List Str}, a.map D.str = b.map D.str → a = b := by
        intro a
        induction a with
        | nil =>
          intro b h
          cases b with
          | nil => rfl
          | cons _ _ => cases h
        | cons x a ih =>
          intro b h
          cases b with
          | nil => cases h
          | cons y b =>
            have h1 := List.cons.inj h
            rw [D.str.inj h1.1, ih h1.2]
      exact (key h5).symm
    subst e
    subst h2
    exact ⟨m, h3, h4, rfl⟩
  cases ho
  have hml : m.length ≤ 3 := Nat.le_trans hsub.length_le hn3
  have hmpos : 0 < m.length := List.length_pos_iff.mpr hm
  have hrow : ∀ r ∈ rows, r.length ≤ 1000 := fun r hr => by
    have := (hperm r hr).length_eq
    omega
  have hmeet : Meets rows m := fun r hr => by
    obtain ⟨x, hx⟩ := List.exists_mem_of_ne_nil _ hm
    exact ⟨x, (hperm r hr).mem_iff.mpr (hsub.subset hx), hx⟩
  refine wss_pure (st_ 5 sc_lk.nd (em_call ct hr (by decide) rfl ⟨rows, m, rfl, hrl, by omega, hrow, hmeet, rfl⟩ (a2 (v 2) (v 4)))) ?_
  generalize takes rows m = tk
  let E0 (l : Addr) : En := [some (.val (.ref u)), some (rowD nm), some (.lst (rows.map rowD)), some (.int (wild : Int)), some (rowD m), some (rowD tk), some (.val (.ref l)), none, none]
  -- the signs
  refine wss_cons (Φ1 := fun o => ∃ l ms, ms.length = m.length ∧ (∀ c ∈ ms, Mark c) ∧ o = .nx (E0 l) ⟨n + 8, some (l, mkDs ms)⟩) (ws_setLcO (k := 6) (own := [("_law_thing", 7)]) (bd := .one 7) (xs := m) (φ := D.str) (Inv := fun k acc j => ∃ ms : List Nat, acc = mkDs ms ∧ ms.length = k ∧ (∀ c ∈ ms, Mark c) ∧ j = ⟨n + 8, none⟩) rfl rfl (sw_true rfl rfl rfl (by decide +kernel)) ⟨rfl, sc_lk.nd, ei_tup (v 4), blkOk_by (N := nLk) (sc := defScope (top 84)) (by decide +kernel), by omega, by decide, fun _ _ _ _ _ => pn 7 sc_lk.nd, ⟨[], rfl, rfl, (fun c hc => by cases hc), rfl⟩, ?acc, ?turn, fun _ => rfl⟩ (fun l j ⟨ms, _, _, _, hj⟩ => by rw [hj]) fun Dl l j ⟨ms, h1, h2, h3, h4⟩ => ⟨Dl, ms, h2, h3, by rw [h1, h4] <;> rfl⟩) (fun _ _ ⟨_, _, _, _, h⟩ => nomatch h) fun ρ1 j ⟨l, ms, hms, hmk, ho⟩ => ?_
  case acc =>
    intro k l j ⟨ms, h1, h2, _⟩
    rw [h1, mkDs_len]
    omega
  case turn =>
    intro k x acc j hx ⟨ms, h1, h2, h3, h4⟩
    subst h4 h1
    refine ⟨_, rfl, fun b j' => b = true ∧ j' = ⟨n + 8, none⟩, (fun j' ⟨h, _⟩ => nomatch h), fun _ _ _ _ _ => ⟨pts_mono pts_nil fun σ H Q ⟨S, e, rE, w, kk⟩ => kk true S H _ ⟨rfl, rfl⟩ (Stp.refl e) w, fun j' ⟨_, hj'⟩ => ?_⟩⟩
    subst hj'
    have ext : ∀ c, Mark c → ∃ ms' : List Nat, mkDs ms ++ [.str ⟨#[c]⟩] = mkDs ms' ∧ ms'.length = k + 1 ∧ (∀ c ∈ ms', Mark c) ∧ (⟨n + 8, none⟩ : WI) = ⟨n + 8, none⟩ := fun c hc => ⟨ms ++ [c], mkDs_add, by rw [List.length_append, h2] <;> rfl, fun d hd => by
      rcases List.mem_append.mp hd with hd | hd
      · exact h3 d hd
      · have e : d = c := by simpa using hd
        rw [e]
        exact hc, rfl⟩
    exact w_if (Pt := fun b j => j = ⟨n + 8, none⟩) (wt_pure (t_inT (v 7) (v 5)) rfl) (fun j hj => by
      subst hj
      exact w_pure em_str (ext 43 (.inl rfl))) fun j hj => by
      subst hj
      exact w_pure em_str (ext 45 (.inr (.inl rfl)))
  cases ho
  -- one put otherwise
  refine wss_cons (Φ1 := fun o => ∃ ms k, ms.length = m.length ∧ (∀ c ∈ ms, Mark c) ∧ n + 5 ≤ k ∧ o = .nx (E0 l) ⟨k, some (l, mkDs ms)⟩) (ws_if (Pt := fun b j => ∃ k, n + 7 ≤ k ∧ j = ⟨k, some (l, mkDs ms)⟩) ?test ?yes ?no) (fun _ _ ⟨_, _, _, _, _, h⟩ => nomatch h) fun ρ1 j ⟨ms2, k2, hms2, hmk2, hk2, ho⟩ => ?_
  case test =>
    by_cases hw0 : 0 < wild
    · refine wt_w (ww_and (P1 := fun b j => j = ⟨n + 8, some (l, mkDs ms)⟩) (wt_pure (t_gt (v 3) em_int) rfl) (fun j hj => ⟨n + 8, by omega, hj⟩) fun j hj => ?_)
      subst hj
      exact ww_one (wt_eqN (w_draw c hr (by decide) wild (by omega) (by omega) (by show 1 ≤ n + 8; omega) (v 0) (v 3) fun q hq => ⟨q, rfl, fun b => ⟨n + 8 - 1, by omega, rfl⟩⟩))
    · refine wt_w (ww_and (P1 := fun b j => b = false ∧ j = ⟨n + 8, some (l, mkDs ms)⟩) (wt_pure (et_is (t_gt (v 3) em_int) (decide_eq_false (by omega))) ⟨rfl, rfl⟩) (fun j ⟨_, hj⟩ => ⟨n + 8, by omega, hj⟩) (fun j ⟨h, _⟩ => nomatch h))
  case no =>
    intro j ⟨k, hk, hj⟩
    subst hj
    exact wss_nil ⟨ms, k, hms, hmk, by omega, rfl⟩
  case yes =>
    intro j ⟨k, hk, hj⟩
    subst hj
    refine wss_one (ws_item (l := l) (ds := mkDs ms) (P1 := fun d j => ∃ ch, Mark ch ∧ d = .str ⟨#[ch]⟩ ∧ j = ⟨k - 1, some (l, mkDs ms)⟩) (P2 := fun _ _ x j => ∃ q : Nat, q < m.length ∧ x = .int (q : Int) ∧ j = ⟨k - 2, some (l, mkDs ms)⟩) (w_mark c hr (by decide) (by omega) (v 0) fun ch hch => ⟨ch, hch, rfl, rfl⟩) (v 6) (fun d j ⟨ch, hch, hd, hj⟩ => ?_) fun d j x k' ⟨ch, hch, hd, _⟩ ⟨q, hq, hx, hk'⟩ => ?_)
    · subst hj
      exact w_draw c hr (by decide) m.length (by omega) (by omega) (by show 1 ≤ k - 1; omega) (v 0) (em_is (e_lenT B (v 4 (d := rowD m))) (by rw [List.length_map])) fun q hq => ⟨q, hq, rfl, by congr 1⟩
    · subst hd hx hk'
      refine ⟨q, rfl, by rw [mkDs_len, hms]; exact hq, rfl, ms.set q ch, k - 2, by rw [List.length_set, hms], fun d hd => ?_, by omega, by rw [mkDs_set]⟩
      rcases List.mem_or_eq_of_mem_set hd with hd | hd
      · exact hmk d hd
      · rw [hd]
        exact hch
  cases ho
  -- some put out
  refine wss_cons (Φ1 := fun o => ∃ l ms k, ms.length = m.length ∧ (∀ c ∈ ms, Mark c) ∧ n + 1 ≤ k ∧ o = .nx (E0 l) ⟨k, some (l, mkDs ms)⟩) (ws_if (Pt := fun b j => j = ⟨k2 - 1, some (l, mkDs ms2)⟩) (wt_eqN (w_draw c hr (by decide) 2 (by decide) (by decide) (by show 1 ≤ k2; omega) (v 0) em_int fun q hq => ⟨q, rfl, fun b => rfl⟩)) ?yes2 ?no2) (fun _ _ ⟨_, _, _, _, _, _, h⟩ => nomatch h) fun ρ1 j ⟨l3, ms3, k3, hms3, hmk3, hk3, ho⟩ => ?_
  case no2 =>
    intro j hj
    subst hj
    exact wss_nil ⟨l, ms2, k2 - 1, hms2, hmk2, by omega, rfl⟩
  case yes2 =>
    intro j hj
    subst hj
    refine wss_fix (k := 6) rfl (wss_one (ws_setLcO (k := 6) (own := [("_law_sign", 8)]) (bd := .one 8) (xs := mkS ms2) (φ := D.str) (Inv := fun k acc j => ∃ ms : List Nat, acc = mkDs ms ∧ ms.length = k ∧ (∀ c ∈ ms, Mark c) ∧ j.o = none ∧ n + 1 + (3 - k) ≤ j.n) rfl rfl (sw_true rfl rfl rfl (by decide +kernel)) ⟨rfl, sc_lk.nd, ei_list (v 6), blkOk_by (N := nLk) (sc := defScope (top 84)) (by decide +kernel), ?len3, by decide, fun _ _ _ _ _ => pn 8 sc_lk.nd, ⟨[], rfl, rfl, (fun c hc => by cases hc), rfl, by show n + 1 + 3 ≤ k2 - 1; omega⟩, ?acc3, ?turn3, fun _ => rfl⟩ (fun l j ⟨ms, _, _, _, hj, _⟩ => hj) fun Dl l' j ⟨ms, h1, h2, h3, h4, h5⟩ => ⟨Dl, ms, j.n, ?z1, h3, by omega, by rw [h1] <;> rfl⟩))
    case len3 =>
      unfold mkS
      rw [List.length_map]
      omega
    case z1 =>
      rw [h2]
      unfold mkS
      rw [List.length_map]
      exact hms2
    case acc3 =>
      intro k l j ⟨ms, h1, h2, _⟩
      rw [h1, mkDs_len]
      omega
    case turn3 =>
      intro k x acc j hx ⟨ms, h1, h2, h3, h4, h5⟩
      obtain ⟨jn, jo⟩ := j
      have h4 : jo = none := h4
      subst h4 h1
      have h5 : n + 1 + (3 - k) ≤ jn := h5
      unfold mkS at hx
      rw [List.getElem?_map] at hx
      obtain ⟨c0, hc0, rfl⟩ := Option.map_eq_some_iff.mp hx
      have hkl := (List.getElem?_eq_some_iff.mp hc0).1
      refine ⟨_, rfl, fun b j' => b = true ∧ j' = ⟨jn, none⟩, (fun j' ⟨h, _⟩ => nomatch h), fun _ _ _ _ _ => ⟨pts_mono pts_nil fun σ H Q ⟨S, e, rE, w, kk⟩ => kk true S H _ ⟨rfl, rfl⟩ (Stp.refl e) w, fun j' ⟨_, hj'⟩ => ?_⟩⟩
      subst hj'
      have ext : ∀ c, Mark c → ∃ ms' : List Nat, mkDs ms ++ [.str ⟨#[c]⟩] = mkDs ms' ∧ ms'.length = k + 1 ∧ (∀ c ∈ ms', Mark c) ∧ (⟨jn - 1, none⟩ : WI).o = none ∧ n + 1 + (3 - (k + 1)) ≤ (⟨jn - 1, none⟩ : WI).n := fun c hc => ⟨ms ++ [c], mkDs_add, by rw [List.length_append, h2] <;> rfl, (fun d hd => by
        rcases List.mem_append.mp hd with hd | hd
        · exact h3 d hd
        · have e : d = c := by simpa using hd
          rw [e]
          exact hc), rfl, by show n + 1 + (3 - (k + 1)) ≤ jn - 1; omega⟩
      exact w_if (Pt := fun b j => j = ⟨jn - 1, none⟩) (wt_eqN (w_draw c hr (by decide) 3 (by decide) (by decide) (by show 1 ≤ jn; omega) (v 0) em_int fun q hq => ⟨q, rfl, fun b => rfl⟩)) (fun j hj => by
        subst hj
        exact w_pure em_str (ext 63 (.inr (.inr rfl)))) fun j hj => by
        subst hj
        exact w_pure (v 8) (ext c0 (hmk2 c0 (List.mem_of_getElem? hc0)))
  cases ho
  -- not all passed
  have hdash : (Str.ofString "-") = ⟨#[45]⟩ := by decide +kernel
  have hcnt : (mkS ms3).count (Str.ofString "-") = ms3.count 45 := by
    rw [hdash]
    exact count_mk
  refine wss_cons (Φ1 := fun o => ∃ ms k, ms.length = m.length ∧ OkMarks ms ∧ n ≤ k ∧ o = .nx (E0 l3) ⟨k, some (l3, mkDs ms)⟩) (ws_if (Pt := fun b j => b = decide ((ms3.count 45 : Int) = (m.length : Int)) ∧ j = ⟨k3, some (l3, mkDs ms3)⟩) (wt_peek 6 (t_eqI (em_is (e_countS (l := mkS ms3) (v 6) em_str) (by rw [hcnt])) (em_is (e_lenT B (v 4 (d := rowD m))) (by rw [List.length_map]))) ⟨rfl, rfl⟩) ?yes4 ?no4) (fun _ _ ⟨_, _, _, _, _, h⟩ => nomatch h) fun ρ1 j ⟨ms5, k5, hms5, hmk5, hk5, ho⟩ => ?_
  case no4 =>
    intro j ⟨hb, hj⟩
    subst hj
    have hb := of_decide_eq_false hb.symm
    refine wss_nil ⟨ms3, k3, hms3, ⟨fun c hc => hmk3 c hc, ?_⟩, by omega, rfl⟩
    by_cases q : ∃ c ∈ ms3, c ≠ 45
    · exact q
    · have : ms3.count 45 = ms3.length := List.count_eq_length.mpr fun c hc => by
        by_cases z : c = 45
        · exact z.symm
        · exact absurd ⟨c, hc, z⟩ q
      omega
  case yes4 =>
    intro j ⟨hb, hj⟩
    subst hj
    refine wss_one (ws_item (l := l3) (ds := mkDs ms3) (P1 := fun d j => d = .str ⟨#[63]⟩ ∧ j = ⟨k3, some (l3, mkDs ms3)⟩) (P2 := fun _ _ x j => ∃ q : Nat, q < m.length ∧ x = .int (q : Int) ∧ j = ⟨k3 - 1, some (l3, mkDs ms3)⟩) (w_pure em_str ⟨rfl, rfl⟩) (v 6) (fun d j ⟨hd, hj⟩ => ?_) fun d j x k' ⟨hd, _⟩ ⟨q, hq, hx, hk'⟩ => ?_)
    · subst hj
      exact w_draw c hr (by decide) m.length (by omega) (by omega) (by show 1 ≤ k3; omega) (v 0) (em_is (e_lenT B (v 4 (d := rowD m))) (by rw [List.length_map])) fun q hq => ⟨q, hq, rfl, rfl⟩
    · subst hd hx hk'
      refine ⟨q, rfl, by rw [mkDs_len, hms3]; exact hq, rfl, ms3.set q 63, k3 - 1, by rw [List.length_set, hms3], ⟨fun d hd => ?_, 63, ?_, by decide⟩, by omega, by rw [mkDs_set]⟩
      · rcases List.mem_or_eq_of_mem_set hd with hd | hd
        · exact hmk3 d hd
        · rw [hd]
          exact .inr (.inr rfl)
      · exact List.mem_set (by omega) 63
  cases ho
  refine wss_fix (k := 6) rfl (wss_one (ws_ret (w_pure (em_tup (a2 (v 4) (e_join (l := mkS ms5) em_str (v 6) ?jl)) (by show 2 ≤ 100000; decide)) ⟨_, _, rfl, ⟨nm, _, _, (m, ms5), rfl, by rw [join_mk] <;> rfl, ⟨⟨hm, by show m.length ≤ 10; omega, fun x hx => hN.all x (hsub.subset hx), hN.asc.sublist hsub⟩, hms5, hmk5⟩, hsub⟩, hk5⟩)))
  · have : ((mkS ms5).map (·.length)).sum = ms5.length := by
      unfold mkS
      rw [List.map_map]
      have key : ∀ l : List Nat, (l.map ((fun x : Str => x.length) ∘ fun c => (⟨#[c]⟩ : Str))).sum = l.length := by
        intro l
        induction l with
        | nil => rfl
        | cons a l ih =>
          rw [List.map_cons, List.sum_cons, ih, List.length_cons]
          show 1 + l.length = l.length + 1
          omega
      exact key ms5
    rw [this]
    have e : (Str.ofString "").length = 0 := by decide +kernel
    rw [e]
    omega
end
end Mh
set_option maxRecDepth 100000
set_option maxHeartbeats 2000000
/-! F14: _law_pairs. -/
namespace Mh
open PySem PySem.Spec PyProof.Rows L2
theorem map_str_inj : ∀ {a b : List Str}, a.map D.str = b.map D.str → a = b
  | [], [], _ => rfl
  | [], _ :: _, h => by cases h
  | _ :: _, [], h => by cases h
  | x :: a, y :: b, h => by
    have h1 := List.cons.inj h
    rw [D.str.inj h1.1, map_str_inj h1.2]
theorem rowD_inj {a b : List Str} (h : rowD a = rowD b) : a = b := map_str_inj (D.tup.inj h)
section
variable {X : Cx} {ρ : En} {d x y z : D} {a b c e : Expr}
theorem a4 (h : Em X e ρ d) (h2 : Em X a ρ x) (h3 : Em X b ρ y) (h4 : Em X c ρ z) (hs : starEach [e, a, b, c] X.env = (false, eval e X.env) :: starEach [a, b, c] X.env := by rfl) (hs2 : starEach [a, b, c] X.env = (false, eval a X.env) :: starEach [b, c] X.env := by rfl) (hs3 : starEach [b, c] X.env = (false, eval b X.env) :: starEach [c] X.env := by rfl) (hs4 : starEach [c] X.env = (false, eval c X.env) :: starEach [] X.env := by rfl) : Ea X [e, a, b, c] ρ [d, x, y, z] := ea_cons h (a3 h2 h3 h4 hs2 hs3 hs4) hs
end
section
variable {P : Program} {w : World} {K : PySem.W.Frag} {mg : Str → Option Value} {base : Heap} {f : Addr} {fd : FuncData}
abbrev nPrs : List Str := ["_law_urn_here", "_law_names_here", "_law_many", "_law_rows_here", "_law_wild", "_law_k"]
theorem sc_prs : FnScope nPrs ["_law_urn_here", "_law_names_here", "_law_many"] (defScope (top 92)) := C8.fnScope_by (by decide +kernel)
def prsP (ds : List D) : Prop := ∃ (nm : List Str) (many : Nat), ds = [rowD nm, .int (many : Int)] ∧ OkNames nm ∧ nm.length ≤ 3 ∧ many ≤ 12
def prsR (ds : List D) (d : D) : Prop := ∃ (nm : List Str) (a : D) (ls : List Lk), ds = [rowD nm, a] ∧ d = .lst (ls.map pairD) ∧ ls.length ≤ 12 ∧ ∀ l ∈ ls, OkLook l ∧ l.1.Sublist nm
theorem ok_prs (F : FnP K "_law_pairs" "_law_pairs" (top 92) f fd) (B : Bi mg) (c : Dr P w K mg base) (cs : CalW P w K mg base 2 "_law_shuffled" 3 sfP sfR) (cl : CalW P w K mg base 3 "_law_look" 12 lkP lkR2) : FnOk P w K mg base C8.CX0 4 f fd ["_law_urn_here", "_law_names_here", "_law_many"] (spW 160 prsP prsR) := by
  refine fnW F sc_prs (fun ds ⟨a, b, h, _⟩ => by rw [h] <;> rfl) fun cdv A outer s H E hr u S0 H0 n ds ⟨nm, many, h, hN, hn3, hmany⟩ => ?_
  subst h
  refine wss_cons (Φ1 := fun o => ∃ (rows : List Row) (k : Nat), (∀ r ∈ rows, r.Perm nm) ∧ rows.length ≤ 1000 ∧ n + 146 ≤ k ∧ o = .nx [some (.val (.ref u)), some (rowD nm), some (.int (many : Int)), some (.lst (rows.map rowD)), none, none] ⟨k, none⟩) (ws_set 3 sc_prs.nd (w_lcG (own := [("_law_k", 5)]) (bd := .one 5) (φ := fun k : Nat => D.int (k : Int)) (Px := fun xs => ∃ m, m ≤ 4 ∧ xs = List.range m) (i1 := ⟨n + 159, none⟩) (Inv := fun k acc j => ∃ rows : List Row, acc = rows.map rowD ∧ rows.length = k ∧ (∀ r ∈ rows, r.Perm nm) ∧ j.o = none ∧ n + 159 ≤ j.n + 3 * k) ⟨rfl, sc_prs.nd, ?it, blkOk_by (N := nPrs) (sc := defScope (top 92)) (by decide +kernel), ?len, by decide, fun _ _ _ _ _ => pn 5 sc_prs.nd, ⟨[], rfl, rfl, (fun r hr => by cases hr), rfl, by show n + 159 ≤ n + 159 + 0; omega⟩, ?acc, ?turn, fun _ => rfl⟩ fun xs l j hm0 hI0 => ?fin)) (fun _ _ ⟨_, _, _, _, _, h⟩ => nomatch h) fun ρ1 j ⟨rows, k, hrows, hrl, hk, ho⟩ => ?_
  case it =>
    refine wi_range rfl (B.free _ (by decide)) (w_op (P1 := fun d j => d = .int 1 ∧ j = ⟨n + 160, none⟩) (P2 := fun _ _ y j => ∃ q : Nat, q < 4 ∧ y = .int (q : Int) ∧ j = ⟨n + 159, none⟩) op_add (w_pure em_int ⟨rfl, rfl⟩) (fun x j ⟨h1, h2⟩ => ?_) fun x j y k ⟨h1, h2⟩ ⟨q, hq, h3, h4⟩ => ?_)
    · subst h1 h2
      exact w_draw c hr (by decide) 4 (by decide) (by decide) (by show 1 ≤ n + 160; omega) (v 0) em_int fun q hq => ⟨q, hq, rfl, rfl⟩
    · subst h1 h2 h3 h4
      exact ⟨_, od_int, q + 1, by rw [Int.add_comm] <;> rfl, by omega, List.range (q + 1), ⟨q + 1, by omega, rfl⟩, rfl, rfl⟩
  case len =>
    rintro xs ⟨m, hm, rfl⟩
    rw [List.length_range]
    omega
  case acc =>
    intro k l j ⟨rows, h1, h2, _⟩
    rw [h1, List.length_map]
    omega
  case fin =>
    obtain ⟨m, hm, hxs⟩ := hm0
    obtain ⟨rows, h1, h2, h3, h4, h5⟩ := hI0
    obtain ⟨jn, jo⟩ := j
    have h4 : jo = none := h4
    have h5 : n + 159 ≤ jn + 3 * xs.length := h5
    subst h4 h1 hxs
    have hl : (List.range m).length = m := List.length_range
    exact ⟨rows, jn, h3, by omega, by omega, rfl⟩
  case turn =>
    intro xs k x acc j ⟨m, hm, hxs⟩ hx ⟨rows, h1, h2, h3, h4, h5⟩
    obtain ⟨jn, jo⟩ := j
    have h4 : jo = none := h4
    have h5 : n + 159 ≤ jn + 3 * k := h5
    subst h4 h1 hxs
    have hk := (List.getElem?_eq_some_iff.mp hx).1
    rw [List.length_range] at hk
    refine ⟨_, rfl, fun b j' => b = true ∧ j' = ⟨jn, none⟩, (fun j' ⟨h, _⟩ => nomatch h), fun _ _ _ _ _ => ⟨pts_mono pts_nil fun σ H Q ⟨S, e, rE, w, kk⟩ => kk true S H _ ⟨rfl, rfl⟩ (Stp.refl e) w, fun j' ⟨_, hj'⟩ => ?_⟩⟩
    subst hj'
    refine w_callP cs hr (by decide) rfl (a2 (v 0) (v 1)) ⟨nm, rfl, hn3⟩ (by show 3 ≤ jn; omega) fun d ⟨l, r, e1, e2, e3⟩ => ?_
    have e : nm = l := rowD_inj (List.cons.inj e1).1
    subst e e2
    refine ⟨rows ++ [r], by rw [List.map_append] <;> rfl, by rw [List.length_append, h2] <;> rfl, fun r' hr' => ?_, rfl, by show n + 159 ≤ jn - 3 + 3 * (k + 1); omega⟩
    rcases List.mem_append.mp hr' with q | q
    · exact h3 r' q
    · have e : r' = r := by simpa using q
      rw [e]
      exact e3
  cases ho
  refine wss_cons (Φ1 := fun o => ∃ wild : Nat, wild ≤ 10 ∧ o = .nx [some (.val (.ref u)), some (rowD nm), some (.int (many : Int)), some (.lst (rows.map rowD)), some (.int (wild : Int)), none] ⟨k - 1, none⟩) (ws_set 4 sc_prs.nd (w_ixL (l := [.int 0, .int 0, .int 6, .int 2]) (em_lst (a4 em_int em_int em_int em_int) (by decide)) (w_draw c hr (by decide) 4 (by decide) (by decide) (by show 1 ≤ k; omega) (v 0) em_int fun q hq => ?w))) (fun _ _ ⟨_, _, h⟩ => nomatch h) fun ρ1 j ⟨wild, hwild, ho⟩ => ?_
  case w =>
    match q, hq with
    | 0, _ => exact ⟨0, _, rfl, rfl, 0, by omega, rfl⟩
    | 1, _ => exact ⟨1, _, rfl, rfl, 0, by omega, rfl⟩
    | 2, _ => exact ⟨2, _, rfl, rfl, 6, by omega, rfl⟩
    | 3, _ => exact ⟨3, _, rfl, rfl, 2, by omega, rfl⟩
  cases ho
  refine wss_one (ws_ret (w_lc (own := [("_law_k", 5)]) (bd := .one 5) (xs := List.range many) (φ := fun k : Nat => D.int (k : Int)) (Inv := fun q acc j => ∃ ls : List Lk, acc = ls.map pairD ∧ ls.length = q ∧ (∀ l ∈ ls, OkLook l ∧ l.1.Sublist nm) ∧ j.o = none ∧ n + 145 ≤ j.n + 12 * q) ⟨rfl, sc_prs.nd, ei_range rfl (B.free _ (by decide)) (by omega) (a1 (v 2)), blkOk_by (N := nPrs) (sc := defScope (top 92)) (by decide +kernel), by rw [List.length_range]; omega, by decide, fun _ _ _ _ _ => pn 5 sc_prs.nd, ⟨[], rfl, rfl, (fun r hr => by cases hr), rfl, by show n + 145 ≤ k - 1 + 0; omega⟩, ?acc2, ?turn2, fun _ => rfl⟩ fun l j ⟨ls, h1, h2, h3, h4, h5⟩ => ?fin2))
  case acc2 =>
    intro k l j ⟨rows, h1, h2, _⟩
    rw [h1, List.length_map]
    omega
  case fin2 =>
    rw [List.length_range] at h2 h5
    exact ⟨_, j, rfl, ⟨nm, _, ls, rfl, by rw [h1], by omega, h3⟩, by omega⟩
  case turn2 =>
    intro q x acc j hx ⟨ls, h1, h2, h3, h4, h5⟩
    obtain ⟨jn, jo⟩ := j
    have h4 : jo = none := h4
    have h5 : n + 145 ≤ jn + 12 * q := h5
    subst h4 h1
    have hk := (List.getElem?_eq_some_iff.mp hx).1
    rw [List.length_range] at hk
    refine ⟨_, rfl, fun b j' => b = true ∧ j' = ⟨jn, none⟩, (fun j' ⟨h, _⟩ => nomatch h), fun _ _ _ _ _ => ⟨pts_mono pts_nil fun σ H Q ⟨S, e, rE, w, kk⟩ => kk true S H _ ⟨rfl, rfl⟩ (Stp.refl e) w, fun j' ⟨_, hj'⟩ => ?_⟩⟩
    subst hj'
    refine w_callP cl hr (by decide) rfl (a4 (v 0) (v 1) (v 3) (v 4)) ⟨nm, rows, wild, rfl, hN, hn3, hrl, hrows, hwild⟩ (by show 12 ≤ jn; omega) fun d ⟨nm2, a, b, l, e1, e2, e3, e4⟩ => ?_
    have e : nm = nm2 := rowD_inj (List.cons.inj e1).1
    subst e e2
    refine ⟨ls ++ [l], by rw [List.map_append] <;> rfl, by rw [List.length_append, h2] <;> rfl, fun r' hr' => ?_, rfl, by show n + 145 ≤ jn - 12 + 12 * (q + 1); omega⟩
    rcases List.mem_append.mp hr' with q | q
    · exact h3 r' q
    · have e : r' = l := by simpa using q
      rw [e]
      exact ⟨e3, e4⟩
end
end Mh
set_option maxRecDepth 100000
set_option maxHeartbeats 2000000
/-! F15: the cells, _law_urn. -/
namespace Mh
open PySem PySem.Spec PyProof.Rows L2
open Evl (Ex)
section
variable {X : Cx} {ρ ρ1 : En} {d x y z : D} {a b c e : Expr} {es : List Expr} {pos p : Pos} {ns : List Int} {st : Stmt} {rest : List Stmt} {ds : List D}
theorem cd_lenC {K : PySem.W.Frag} : CallD (fun xs H Q => ∃ x n, xs = [x] ∧ LenV K x H n ∧ Q (.int n) H) [.scr K ns] (.int (ns.length : Int)) := fun S H us Q e r k => by
  obtain ⟨u, rfl, r1⟩ := one_rep r
  obtain ⟨a, rfl, h1⟩ := r1.scr
  exact ⟨.ref a, ns.length, rfl, Or.inl ⟨_, Evl.ex_l e h1, by rw [List.length_map]⟩, k _ S H (Gr.refl e) rep_int⟩
theorem e_lenC (B : Bi X.mg) (h : Em X e ρ (.scr X.K ns)) (hg : L2.Gl X "len" := by rfl) (hs : starEach [e] X.env = (false, eval e X.env) :: starEach [] X.env := by rfl) : Em X (.Call (.Name "len" p) [e] [] pos) ρ (.int (ns.length : Int)) := em_callB call_len cd_lenC hg (B.free _ (by decide)) PySem.boot_len (a1 h hs) (he := hs)
theorem od_ixC {K : PySem.W.Frag} {j : Nat} {i : Int} (h : ns[j]? = some i) : OpD (rIxL K) (.scr K ns) (.int (j : Int)) (.int i) := fun S H u w Q e r1 r2 k => by
  obtain ⟨a, rfl, h1⟩ := r1.scr
  exact ⟨a, _, (j : Int), .int i, rfl, r2.int, Evl.ex_l e h1, atI_nat (by rw [List.getElem?_map, h] <;> rfl), k _ S H (Gr.refl e) rep_int⟩
theorem e_ixC {j : Nat} {i : Int} (hd : ns[j]? = some i) (h : Em X a ρ (.scr X.K ns)) (k : Em X b ρ (.int (j : Int))) (hs : PlainIx b := by intro _ _; rfl) : Em X (.Subscript a b pos) ρ (.int i) := em_ix ix_list (od_ixC hd) h k hs
theorem sl_C {K : PySem.W.Frag} {lo hi : Option Int} {m : List Int} (h : cutV (ns.map V.int) lo hi = m.map V.int) : SlD (rSlL K) (.scr K ns) lo hi (.lst (m.map D.int)) := fun S H u Q e r k => by
  obtain ⟨a, rfl, h1⟩ := r.scr
  refine ⟨a, _, rfl, Evl.ex_l e h1, fun p hp => ?_⟩
  exact k (.ref p) _ _ (Gr.new e hp) (rep_lst upd_same (by rw [h]; exact repL_of_ints))
theorem e_abs {i : Int} (B : Bi X.mg) (h : Em X e ρ (.int i)) (hg : L2.Gl X "abs" := by rfl) (hs : starEach [e] X.env = (false, eval e X.env) :: starEach [] X.env := by rfl) : Em X (.Call (.Name "abs" p) [e] [] pos) ρ (.int (if i < 0 then -i else i)) := em_callB call_abs cd_abs hg (B.free _ (by decide)) boot_abs (a1 h hs) (he := hs)
theorem e_pow {i j : Int} (h : Em X a ρ (.int i)) (k : Em X b ρ (.int j)) (hc : CPow i j) : Em X (.BinOp a .Pow b pos) ρ (.int (i ^ j.toNat)) := em_op op_pow (od_intC hc) h k
/-- a list returned that is new -/
def tU (ρ : En) (ds : List D) : TS := fun Dn σ H => ∃ S, Ex S H ∧ RepE S ρ σ ∧ ∀ u vs S' H', Gr S H S' H' → RepL S' ds vs → H' u = none → Dn.rt (.ref u) (upd H' u (.lst vs))
theorem u_nx (h1 : Es X st ρ (.nx ρ1)) (h2 : PSs X rest (tU ρ1 ds)) : PSs X (st :: rest) (tU ρ ds) :=
  pss_mono (pss_cons h1 h2) fun Dn σ H ⟨S, e, rE, k⟩ => ⟨S, e, rE, fun σ' S' H' g r => ⟨S', g.sh, r, fun u vs S2 H2 g2 r2 hu => k u vs S2 H2 (g.trans g2) r2 hu⟩⟩
theorem u_ret {p2 : Pos} (h : Ea X es ρ ds) (hl : ds.length ≤ 100000) : PSs X [.Return (some (.List es p2)) pos] (tU ρ ds) :=
  pss_one (ps_mono (ps_ret (pe_lst h)) fun Dn σ H ⟨S, e, rE, k⟩ => ⟨S, e, rE, fun vs S1 H1 g1 r1 => ⟨Evl.sz_of (by rw [← r1.length]; exact hl), fun p hp => k p vs S1 H1 g1 r1 hp⟩⟩)
end
section
variable {P : Program} {w : World} {K : PySem.W.Frag} {mg : Str → Option Value} {base : Heap} {f : Addr} {fd : FuncData}
abbrev nUr : List Str := ["_law_cells", "_law_k", "_law_seed", "_law_some", "_law_cell", "_law_great"]
theorem sc_ur : FnScope nUr ["_law_cells", "_law_k"] (defScope (top 76)) := C8.fnScope_by (by decide +kernel)
def spU (K : PySem.W.Frag) : Sp := fun vs H Q _ => ∃ (S : Hp) (ns : List Int) (k : Nat), Ex S H ∧ RepL S [.scr K ns, .int (k : Int)] vs ∧ k ≤ 1000 ∧ ∀ u S' H', Gr S H S' H' → H u = none → UrnS u 1000000000000 S' H' → Q (.ref u) H'
def seedOf (l : List Int) (s : Int) : Int := l.foldl (fun s c => (s * 1103515293 + c) % 2305843009213693921) s
theorem seed_ok : ∀ {l : List Int} {s : Int}, 0 ≤ s → s < 2305843009213693951 → 0 ≤ seedOf l s ∧ seedOf l s < 2305843009213693951
  | [], _, h1, h2 => ⟨h1, h2⟩
  | c :: l, s, _, _ => seed_ok (l := l) (Int.emod_nonneg _ (by decide)) (Int.lt_trans (Int.emod_lt_of_pos _ (by decide)) (by decide))
theorem seed_take {l : List Int} {s c : Int} {i : Nat} (h : l[i]? = some c) : seedOf (l.take (i + 1)) s = (seedOf (l.take i) s * 1103515293 + c) % 2305843009213693921 := by
  unfold seedOf
  rw [List.take_succ, h, List.foldl_append] <;> rfl
theorem ok_ur (F : FnP K "_law_urn" "_law_urn" (top 76) f fd) (B : Bi mg) : FnOk P w K mg base C8.CX0 1 f fd ["_law_cells", "_law_k"] (spU K) := by
  refine F.ok sc_ur (fun vs H Q E ⟨S, ns, k, _, r, _⟩ => by rw [← r.length] <;> rfl) fun cdv A outer s H vs Q E hr ⟨S, ns, k, e, r, hk, q⟩ => ?_
  let some_ : List Int := if k < ns.length then (ns.take (k + 1)).drop k else ns.take 5
  let s0 : Int := 69143 * (k : Int) + 17
  have hs0 : 0 ≤ s0 ∧ s0 < 2305843009213693951 := ⟨by show 0 ≤ 69143 * (k : Int) + 17; omega, by show 69143 * (k : Int) + 17 < 2305843009213693951; omega⟩
  have body : ∃ great : Int, PSs (cxOf C8.CX0 P w K mg base nUr "_law_urn" (defScope (top 76)) f cdv A outer s H E).nox (defBody (top 76)) (tU [some (.scr K ns), some (.int (k : Int)), none, none, none, none] [.int great, .int (seedOf some_ s0), .int 0]) := by
    refine ⟨if k < ns.length ∧ (10 ^ 18 : Int) ≤ (if ns.getD k 0 < 0 then - ns.getD k 0 else ns.getD k 0) then (if ns.getD k 0 < 0 then - ns.getD k 0 else ns.getD k 0) else 0, ?_⟩
    refine u_nx (st_ 2 sc_ur.nd (d := .int s0) (e_add (e_mul em_int (v 1) (.inl ⟨by decide, by decide⟩)) em_int)) ?_
    refine u_nx (st_ 3 sc_ur.nd (d := .lst (some_.map D.int)) (em_if (t_lt (v 1) (e_lenC B (v 0))) (fun h => ?y) fun h => ?n)) ?_
    case y =>
      have h := of_decide_eq_true h
      have h : k < ns.length := by omega
      have e : some_ = (ns.take (k + 1)).drop k := if_pos h
      rw [e]
      exact em_sl sl_list (sl_C (ns := ns) (by rw [show ((k : Int) + 1) = ((k + 1 : Nat) : Int) by rfl, cutV_both, List.map_drop, List.map_take])) (v 0) (eo_some (v 1)) (eo_some (e_add (v 1) em_int))
    case n =>
      have h := of_decide_eq_false h
      have h : ¬ k < ns.length := by omega
      have e : some_ = ns.take 5 := if_neg h
      rw [e]
      exact em_sl sl_list (sl_C (ns := ns) (by rw [show (5 : Int) = ((5 : Nat) : Int) by rfl, cutV_to, List.map_take])) (v 0) eo_none (eo_some em_int)
    refine u_nx (es_for (b := .one 4) (ds := some_.map D.int) (fun i => [some (.scr K ns), some (.int (k : Int)), some (.int (seedOf (some_.take i) s0)), some (.lst (some_.map D.int)), none, none]) PassesOwn.never rfl (ei_list (v 3)) (pn 4 sc_ur.nd) (Le.refl _) fun i d hd => ?_) ?_
    · rw [List.getElem?_map] at hd
      obtain ⟨c, hc, rfl⟩ := Option.map_eq_some_iff.mp hd
      have hb := seed_ok (l := some_.take i) hs0.1 hs0.2
      refine ⟨_, rfl, ess_to (ess_one (st_ 2 sc_ur.nd (em_is (e_mod (e_int B (e_add (e_mul (v 2) em_int (.inl ⟨by omega, by omega⟩)) (v 4))) em_int (by decide)) (congrArg D.int (seed_take hc).symm)))) (Le.cons (Le.cons (Le.cons (Le.cons (Le.drop (Le.refl _))))))⟩
    · rw [List.length_map, List.take_length]
      refine u_nx (st_ 5 sc_ur.nd (em_if (p := decide (k < ns.length ∧ (10 ^ 18 : Int) ≤ (if ns.getD k 0 < 0 then - ns.getD k 0 else ns.getD k 0))) ?t (fun h => ?yy) fun h => ?nn)) (u_ret (a3 (v 5) (v 2) em_int) (by show 3 ≤ 100000; decide))
      case t =>
        by_cases hk : k < ns.length
        · have hg : ns[k]? = some (ns.getD k 0) := by rw [List.getD_eq_getElem?_getD, List.getElem?_eq_getElem hk] <;> rfl
          refine et_is (et_w (ew_and (p := true) (q := decide ((10 ^ 18 : Int) ≤ (if ns.getD k 0 < 0 then - ns.getD k 0 else ns.getD k 0))) (et_is (t_lt (v 1) (e_lenC B (v 0))) (by simpa using hk)) fun _ => ew_and1 (t_ge (e_abs B (e_ixC hg (v 0) (v 1))) (e_pow em_int em_int ⟨by decide, by decide, by decide⟩)))) ?_
          simp [hk]
        · refine et_is (et_w (ew_and (p := false) (q := false) (et_is (t_lt (v 1) (e_lenC B (v 0))) (by simpa using hk)) fun h => nomatch h)) ?_
          simp [hk]
      case yy =>
        have h := of_decide_eq_true h
        have hg : ns[k]? = some (ns.getD k 0) := by rw [List.getD_eq_getElem?_getD, List.getElem?_eq_getElem h.1] <;> rfl
        rw [if_pos h]
        exact e_abs B (e_ixC hg (v 0) (v 1))
      case nn =>
        have h := of_decide_eq_false h
        rw [if_neg h]
        exact em_int
  obtain ⟨great, body⟩ := body
  refine ⟨_, PSs.nox body, S, e, repE_start (N := nUr) (ds := [.scr K ns, .int (k : Int)]) r, fun u vs' S' H' g rl hu => ?_⟩
  obtain ⟨v1, r1, rfl, q1, q2⟩ := rl.cons
  obtain ⟨v2, v3, rfl, q3, q4⟩ := two_rep q2
  rw [q1.int, q3.int, q4.int]
  have hS : S' u = none := none_of_ex g.sh hu
  have hb := seed_ok (l := some_) hs0.1 hs0.2
  have hH : H u = none := by
    cases z : H u with
    | none => rfl
    | some o =>
      rw [g.hh u o z] at hu
      cases hu
  exact q u S' _ (g.mut hH hS) hH ⟨hS, _, _, 0, upd_same, hb.1, hb.2, Int.le_refl _, by omega⟩
end
end Mh
set_option maxRecDepth 100000
set_option maxHeartbeats 2000000
/-! E1: Clash(index), an own error over NoAnswer over ArithmeticError: made, raised, its field read (the block of the worked proof 42, turned to this class and this base). -/
namespace Mh
namespace ClX
open PySem PySem.W PySem.Calls PyProof.Rows PySem.HandSPX Builtin Builtin.ObjectAttr
abbrev aeT : List Value := [.type "ArithmeticError", .type "Exception", .type "BaseException", .type "object"]
def iA (p1 p2 : Pos) : Arguments := { posonlyargs := [], args := [{ arg := "self", annotation := none, pos := p1 }, { arg := "index", annotation := none, pos := p2 }], vararg := none, kwonlyargs := [], kw_defaults := [], kwarg := none, defaults := [] }
def iB (q1 q2 q3 q4 : Pos) : List Stmt := [.Assign [.Attribute (.Name "self" q1) "index" q2] (.Name "index" q3) q4]
def iS : Scope := { kind := .function, names := [(PySem.Str.ofString "self", .local), (PySem.Str.ofString "index", .local)], isGenerator := false, isCoroutine := false, more := [] }
structure ClT (K : Frag) (mg : Str → Option Value) (C fI : Addr) : Prop where
  gC : mg "Clash" = some (.ref C)
  made : excInitIn K C aeT "ArithmeticError.__new__" = true
  over : excOver K C aeT = true
  sa : findIn K (.ref C) "__setattr__" = some (some (.builtin "object.__setattr__"))
  ga : findIn K (.ref C) "__getattribute__" = some (some (.builtin "BaseException.__getattribute__"))
  gg : findIn K (.ref C) "__getattr__" = some none
  noN : findIn K (.ref C) "index" = some none
  iC : findIn K (.ref C) "__init__" = some (some (.ref fI))
  tC : typeIn K (.ref fI) = some (.type "function")
  kC : keepIn K (.ref C) = true
  exC : subIn K (.ref C) (.type "BaseException") = some true
  tyC : typeIn K (.ref C) = some (.type "type")
  hdC : hasDictIn K C = true
  fn : ∃ (oc : Value) (od : Option Addr) (doc pm : Value) (an : Option Addr) (cdv ct : Value) (osl : Array (Option Value)) (p1 p2 q1 q2 q3 q4 : Pos),
    K.lookup fI = some ⟨oc, od, .func (fnOf "__init__" "Clash.__init__" (iA p1 p2) (iB q1 q2 q3 q4) iS .none .none doc pm an cdv ct), osl⟩ ∧ codeIn K cdv "Clash.__init__" = true
theorem one_size (v : Value) : [v].length ≤ sizeLine := by
  rw [sizeLine_eq]
  exact (by decide : 1 ≤ 16777216)
theorem ldC {M : Model} {s : Shared} {name : Str} {scope : Scope} {L a : Addr} {cd : Value} {m : Str → Option Value} {x : Str} {pos : Pos} {v : Value} {Q : Value → Shared → Prop} {A : Around} {E : Value → Shared → Prop} (hn : s.heap.Ns L m) (hv : m x = some v) (h : Q v s)
    (hk : scope.kind = .function := by rfl) (hl : (envOfC name scope L a cd).kindOf x = some .local := by rfl) (hd : (x == ("__debug__" : Str)) = false := by decide) :
    wpAny M A (eval (.Name x pos) (envOfC name scope L a cd)) Q E s := wpAny_Name (wpAny_loadName_local hk hl hn hv h) hd
structure InitEnd (h h' : Heap) (x C dx t1 : Addr) (v : Value) : Prop where
  keep : ∀ b o, b ≠ x → h.get? b = some o → h'.get? b = some o
  obj : h'.get? x = some { cls := .ref C, dict := some dx, data := .fields #[.ref t1, .none, .none, .none, .bool false, .none] }
  dbig : h.objs.size ≤ dx
  dne : dx ≠ x
  ns : h'.Ns1 dx (fun y => if y = "index" then some v else none)
structure OwnMade (h h' : Heap) (e C d : Addr) (v : Value) : Prop where
  keep : ∀ b o, h.get? b = some o → h'.get? b = some o
  new : h.objs.size ≤ e
  obj : ∃ oe vs, h'.get? e = some oe ∧ oe.cls = .ref C ∧ oe.dict = some d ∧ oe.data = .fields vs ∧ vs[1]? = some .none
  dbig : h.objs.size ≤ d
  dne : d ≠ e
  ns : h'.Ns1 d (fun y => if y = "index" then some v else none)
section
variable {prog : Program} {w : World} {A : Around} {E : Value → Shared → Prop} {R : Result → Shared → Prop} {s : Shared} {K : Frag} {mg : Str → Option Value} {C fI : Addr}
theorem cl_osa {name : Str} {tk : Tok} {v : Value} {x : Addr} {fv : Array Value} {hp : Heap} {g : Array GenState} {d : Drawn} {t : Nat} {os : OsState} (X : K.In hp) (hx : hp.get? x = some { cls := .ref C, data := .fields fv }) (hov : excOver K C aeT = true) (hdd : hasDictIn K C = true) (ha : findIn K (.ref C) name = some none)
    (hq : ∀ h' tk' dx, (∀ b o, b ≠ x → hp.get? b = some o → h'.get? b = some o) → hp.objs.size ≤ dx → dx ≠ x → h'.get? x = some { cls := .ref C, dict := some dx, data := .fields fv } →
      h'.Ns1 dx (fun y => if y = name then some v else none) → R (.ok (.ret .none)) ⟨h', g, d, tk', os⟩) :
    codeAny (model prog w) A (.call (.builtin "object.__setattr__") ⟨[.ref x, .str name tk, v], []⟩) R ⟨hp, g, d, t, os⟩ := by
  have I : InstAt hp x { cls := .ref C, data := .fields fv } C none := ⟨hx, rfl, rfl, trivial⟩
  have hxs : x ≠ hp.objs.size := Nat.ne_of_lt (Heap.lt_size hx)
  obtain ⟨cd, hcd, hh⟩ := any_some hdd
  have hcls : Looks (model prog w) hp (classData C) cd := looks_clsIn X hcd
  refine osa_openX PySem.F.store_ArithmeticError X I hov (r := none) (by unfold takerIn; rw [ha] <;> rfl) fun b => ?_
  show wpAny _ _ (storeInOwnDict (.ref x) (.ref C) (.str name tk) name v b) _ _ _
  obtain ⟨nm, bs, mro, ns, qn, hd, sn, sb, ab, col, del⟩ := cd
  dsimp only at hh
  subst hh
  unfold storeInOwnDict ownDictForStores
  repeat (first | with_reducible refine store_in_new ?_ ?_ | with_reducible refine wpAny_loadPart_at hx ?_ | with_reducible refine hcls.at ?_ | wp_step)
  · exact ⟨_, #[], _, (Heap.get?_update_ne _ _ _ _ hxs.symm).trans (Heap.get?_push_at rfl rfl), rfl, fun e he => absurd he (by simp), fun _ => rfl⟩
  · intro h' tk' hn' hs
    have hx₁ : (hp.push { cls := .type "dict", data := .dict #[] }).get? x = some { cls := .ref C, data := .fields fv } := Heap.get?_push_of_some _ hx
    refine hq h' tk' hp.objs.size (fun b o hb ho => ?_) (Nat.le_refl _) hxs.symm ?_ hn'
    · exact (hs.2 b (Nat.ne_of_lt (Heap.lt_size ho))).trans ((Heap.get?_update_ne _ _ _ _ hb).trans (Heap.get?_push_of_some _ ho))
    · exact (hs.2 x hxs).trans (Heap.get?_update_self _ hx₁ rfl)
theorem cl_init (T : ClT K mg C fI) {x t0 : Addr} {v : Value} (X : K.In s.heap) (hlim : s.heap.NoLimit) (hx : s.heap.get? x = some (excO C t0)) (hroom : A.depth < recursionLimit)
    (hq : ∀ h' tk dx, InitEnd s.heap h' x C dx t0 v → R (.ok (.ret .none)) { s with heap := h', toks := tk }) :
    codeAny (model prog w) A (.call (.ref fI) ⟨[.ref x, v], []⟩) R s := by
  obtain ⟨oc, od, doc, pm, an, cdv, ct, osl, p1, p2, q1, q2, q3, q4, ho, hcd⟩ := T.fn
  refine Att.call_fn (binds := [("self", .ref x), ("index", v)]) X hlim ho hcd hroom (BindsTo.of_eq (by first | rfl | with_unfolding_all rfl)) (by first | rfl | decide | with_unfolding_all rfl) (fun s₁ IC => ?_) rfl rfl rfl
  obtain ⟨h₁, tk₁, rfl⟩ := IC.toInCall.same
  have k : ∀ b o, s.heap.get? b = some o → h₁.get? b = some o := IC.toInCall.keep
  have hn := IC.toInCall.ns
  have hxL : s.heap.objs.size ≠ x := Nat.ne_of_gt (Heap.lt_size hx)
  have X₁ : K.In h₁ := X.keeps k
  have hx₁ := k _ _ hx
  show wpAny _ _ (execs _ _) _ _ _
  refine wpAny_execs_cons (plainObj_wpAny_Assign_Attribute ?_)
  refine ldC (v := v) hn (by first | rfl | with_unfolding_all rfl | kernel_rfl) (ldC (v := .ref x) hn (by first | rfl | with_unfolding_all rfl | kernel_rfl) ?_)
  refine set_plain X₁ (ox := excO C t0) (od := none) ⟨hx₁, rfl, rfl, trivial⟩ T.sa ?_
  refine cl_osa X₁ hx₁ T.over T.hdC T.noN (fun h₃ tk₃ dx k₃ dn dne hx₃ hn₃ => ?_)
  show wpAny _ _ (execs _ _) _ _ _
  have z : s.heap.objs.size < h₁.objs.size := hn.lt
  exact wpAny_execs_nil (hq h₃ tk₃ dx ⟨fun b o hb e => k₃ b o hb (k b o e), hx₃, Nat.le_of_lt (Nat.lt_of_lt_of_le z dn), dne, hn₃⟩)
theorem cl_made (T : ClT K mg C fI) {v : Value} (X : K.In s.heap) (hlim : s.heap.NoLimit) (hroom : A.depth + 1 < recursionLimit)
    (hq : ∀ h' tk e d, OwnMade s.heap h' e C d v → R (.ok (.ret (.ref e))) { s with heap := h', toks := tk }) :
    codeAny (model prog w) A (.call (.ref C) ⟨[v], []⟩) R s := by
  obtain ⟨nm, N, qn, bs, bm, hdct, sn, sub, ab, col, dd, k0, k1, k2, k3, k5, hC, hT⟩ := excInit_of X T.made
  obtain ⟨hp, g, dr, tk, os⟩ := s
  have k : ∀ b o, hp.get? b = some o → ((hp.push (kdv_tup [v])).push (excO C hp.objs.size)).get? b = some o := fun b o e => Heap.get?_push_of_some _ (Heap.get?_push_of_some _ e)
  have hget : ((hp.push (kdv_tup [v])).push (excO C hp.objs.size)).get? (hp.objs.size + 1) = some (excO C hp.objs.size) := by heap_get
  refine call_own PySem.F.excBase_ArithmeticError hT hC (looks_findIn X T.iC) (fun self => bind_fn X self T.tC) (one_size v) ?_
  refine cl_init (s := ⟨(hp.push (kdv_tup [v])).push (excO C hp.objs.size), g, dr, tk, os⟩) T (X.keeps k) (hlim.keeps k) hget ?_ fun h' tk' dx ⟨k', hx, dn, dne, hns⟩ => ?_
  · show A.depth + 1 < recursionLimit
    exact hroom
  · have old : ∀ b o, hp.get? b = some o → h'.get? b = some o := fun b o e => k' b o (Nat.ne_of_lt (Nat.lt_succ_of_lt (Heap.lt_size e))) (k b o e)
    have z : hp.objs.size + 1 + 1 ≤ dx := by
      first
        | (simpa only [Heap.size_push] using dn)
        | exact dn
        | (have q := dn; rw [Heap.size_push, Heap.size_push] at q; exact q)
    exact ⟨rfl, hq h' tk' (hp.objs.size + 1) dx ⟨old, Nat.le_succ _, ⟨_, _, hx, rfl, rfl, rfl, rfl⟩, Nat.le_trans (Nat.le_trans (Nat.le_succ _) (Nat.le_succ _)) z, dne, hns⟩⟩
end
end ClX
section
open PySem PySem.Spec PyProof.Rows L2
theorem relO_ix {v : V} {v' : Value} (r : RelV v v') (f : Str) : RelO (List.lookup f [(("index" : Str), v)]) (if f = "index" then some v' else none) := by
  by_cases hw : f = "index"
  · subst hw
    rw [if_pos rfl]
    have q : List.lookup ("index" : Str) [(("index" : Str), v)] = some v := by simp [List.lookup]
    rw [q]
    exact r
  · rw [if_neg hw]
    have qw : (f == ("index" : Str)) = false := by simpa using hw
    have q2 : List.lookup f [(("index" : Str), v)] = none := by simp [List.lookup, qw]
    rw [q2]
    trivial
variable {X : Cx} {C fI : Addr}
/-- Clash(e) -/
def tMkCl (C : Addr) (ta : TA) : L2.St → Hp → XK → Prop := fun σ H Q => ta σ H fun vs H1 => ∃ v, vs = [v] ∧ ∀ d, H1 d = none → Q (.ref C) (some d) (upd H1 d (.xd [(("index" : Str), v)]))
theorem pmk_cl {a : Expr} {ta : TA} {p pos : Pos} {k : Nat} (T : ClX.ClT X.K X.mg C fI) (hr : Room k X.A) (ha : PA X [a] ta) (hg : L2.Gl X "Clash" := by rfl)
    (he : starEach (a :: []) X.env = (false, eval a X.env) :: starEach [] X.env := by rfl) (hpl : (backTo pos (starEach [] X.env)).any (·.1) = false := by rfl) :
    PMk X (.Call (.Name "Clash" p) [a] [] pos) (tMkCl C ta) := by
  intro pins s σ H Q I h
  refine wpAny_Call_Name_kw (ld_glob I hg T.gC ?_)
  refine PySem.W.callWith_K (h₀ := X.base) I.ok.mod.kin T.kC (thn (ha.run pos pins s σ H _ I h) fun us s1 hh => ?_) he hpl
  obtain ⟨vs, H1, I1, r1, v, ev, q1⟩ := hh
  subst ev
  refine ⟨I1.kIn, ?_⟩
  cases r1 with
  | cons rv rn =>
    rename_i v' us'
    cases rn
    show wpAny _ _ (call (.ref C) [v']) _ _ _
    have hlim := I1.nolimit
    obtain ⟨hp, g, dr, tk, os⟩ := s1
    refine wpAny_call (ClX.cl_made T I1.kIn hlim (by have := hr.dp; omega) fun h' tk' e d M => ?_)
    show MkP X pins σ Q (.ref e) ⟨h', g, dr, tk', os⟩
    obtain ⟨oe, fv, hoe, hc, hd, hdat, h1⟩ := M.obj
    have hns := M.ns
    obtain ⟨G', g1, g2⟩ := restrict h' fun b => decide (b ≠ e)
    have gk : ∀ b, b ≠ e → G'.get? b = h'.get? b := fun b hb => g1 b (decide_eq_true hb)
    have ge : G'.get? e = none := g2 e (by simp)
    have old : ∀ b o, hp.get? b = some o → G'.get? b = some o := fun b o q => (gk b (Nat.ne_of_lt (Nat.lt_of_lt_of_le (Heap.lt_size q) M.new))).trans (M.keep b o q)
    have ob : ObjOk X.prog X.w (upd H1 d (.xd [(("index" : Str), v)])) G' d (.xd [(("index" : Str), v)]) :=
      ⟨_, hns.at (fun o q => (gk d M.dne).trans q), fun f => relO_ix rv f⟩
    have J : Inv X pins σ (upd H1 d (.xd [(("index" : Str), v)])) ⟨G', g, dr, tk', os⟩ := I1.laid (t' := tk') old M.dbig ob
    refine ⟨e, oe, fv, ⟨G', g, dr, tk', os⟩, _, .ref C, some d, rfl, J, fun b o q => ?_, ge, hoe, ⟨hc, hd⟩, hdat, h1, ?_, rfl, I1.bare, raises_own T.exC T.tyC, q1 d (I1.hok.fresh M.dbig)⟩
    · by_cases hb : b = e
      · have q' : G'.get? b = some o := q
        rw [hb, ge] at q'; cases q'
      · exact (gk b hb).symm.trans q
    · rw [upd_ne (Ne.symm M.dne)]
      exact I1.hok.fresh M.new
theorem ps_raiseCl {a : Expr} {ta : TA} {W : WX} {p pos pos2 : Pos} {k : Nat} (hc : X.calm = true) (T : ClX.ClT X.K X.mg C fI) (hr : Room k X.A) (tk : Takes X W) (ha : PA X [a] ta) (hg : L2.Gl X "Clash" := by rfl)
    (he : starEach (a :: []) X.env = (false, eval a X.env) :: starEach [] X.env := by rfl) (hpl : (backTo pos (starEach [] X.env)).any (·.1) = false := by rfl) :
    PS X (.Raise (some (.Call (.Name "Clash" p) [a] [] pos)) none pos2) (fun _ σ H => tMkCl C ta σ H fun cls d H' => W cls d σ H') := ps_raise hc tk (pmk_cl T hr ha hg he hpl)
end
end Mh
set_option maxRecDepth 100000
set_option maxHeartbeats 2000000
/-! E2: what raises Clash: judgements, check_fit, answer, look, can_be, settled. -/
namespace Mh
open PySem PySem.Spec PyProof.Rows L2
open Evl (Ex)
abbrev clH (H : Hp) (d : Addr) (k : Nat) : Hp := upd H d (.xd [(("index" : Str), V.int (k : Int))])
/-- raises Clash(k) -/
def KX (C : Addr) (E : XK) (k : Nat) (S H : Hp) : Prop := ∀ d S' H', Gr S H S' H' → H' d = none → E (.ref C) (some d) (clH H' d k)
theorem KX.step {C : Addr} {E : XK} {k : Nat} {S H S' H' : Hp} (h : KX C E k S H) (g : Gr S H S' H') : KX C E k S' H' := fun d S2 H2 g2 hd => h d S2 H2 (g.trans g2) hd
def tX (C : Addr) (E : XK) (ρ : En) (k : Nat) : TS := fun _ σ H => ∃ S, Ex S H ∧ RepE S ρ σ ∧ KX C E k S H
def teX (C : Addr) (E : XK) (ρ : En) (k : Nat) : TE := fun σ H _ => ∃ S, Ex S H ∧ RepE S ρ σ ∧ KX C E k S H
abbrev Xs (X : Cx) (C : Addr) (E : XK) (st : Stmt) (ρ : En) (k : Nat) : Prop := PS X st (tX C E ρ k)
abbrev Xss (X : Cx) (C : Addr) (E : XK) (sts : List Stmt) (ρ : En) (k : Nat) : Prop := PSs X sts (tX C E ρ k)
/-- a promise: it answers, or it raises Clash(k) -/
def spX (C : Addr) (Ro : List D → D → Prop) (Rx : List D → Nat → Prop) : Sp := fun vs H Q E => ∃ S ds, Ex S H ∧ RepL S ds vs ∧ ((∃ d, Ro ds d ∧ ∀ v S' H', Gr S H S' H' → Rep S' d v → Q v H') ∨ ∃ k, Rx ds k ∧ KX C E k S H)
section
variable {X : Cx} {C : Addr} {E : XK} {ρ ρ1 : En} {k : Nat} {st : Stmt} {rest : List Stmt} {e a c : Expr} {pos p p2 : Pos}
theorem x_nx (h1 : Es X st ρ (.nx ρ1)) (h2 : Xss X C E rest ρ1 k) : Xss X C E (st :: rest) ρ k :=
  pss_mono (pss_cons h1 h2) fun Dn σ H ⟨S, e, rE, h⟩ => ⟨S, e, rE, fun σ' S' H' g r => ⟨S', g.sh, r, h.step g⟩⟩
theorem x_hd (h1 : Xs X C E st ρ k) : Xss X C E (st :: rest) ρ k := pss_mono (pss_cons h1 pss_never) fun Dn σ H h => h
theorem x_if {c : Expr} {a b : List Stmt} {q : Bool} (hc : Et X c ρ q) (ha : q = true → Xss X C E a ρ k) (hb : q = false → Xss X C E b ρ k) : Xs X C E (.If c a b pos) ρ k := by
  cases q with
  | true => exact ps_mono (ps_if hc (ha rfl) pss_never) fun Dn σ H ⟨S, e, rE, h⟩ => ⟨S, e, rE, fun S' H' g => ⟨S', g.sh, rE.mono g.ss, h.step g⟩⟩
  | false => exact ps_mono (ps_if hc pss_never (hb rfl)) fun Dn σ H ⟨S, e, rE, h⟩ => ⟨S, e, rE, fun S' H' g => ⟨S', g.sh, rE.mono g.ss, h.step g⟩⟩
theorem x_raise {fI : Addr} {j : Nat} (hc : X.calm = true) (T : ClX.ClT X.K X.mg C fI) (hr : Room j X.A) (tk : Takes X (fun cls d _ H => E cls d H)) (ha : Em X a ρ (.int (k : Int))) (hg : L2.Gl X "Clash" := by rfl)
    (he : starEach (a :: []) X.env = (false, eval a X.env) :: starEach [] X.env := by rfl) (hpl : (backTo pos (starEach [] X.env)).any (·.1) = false := by rfl) : Xs X C E (.Raise (some (.Call (.Name "Clash" p) [a] [] pos)) none p2) ρ k :=
  ps_mono (ps_raiseCl hc T hr tk (a1 ha he) hg he hpl) fun Dn σ H ⟨S, e, rE, h⟩ => ⟨S, e, rE, fun vs S' H' g r => by
    obtain ⟨v, rfl, r1⟩ := one_rep r
    exact ⟨v, rfl, fun d hd => by
      rw [r1.int]
      exact h d S' H' g hd⟩⟩
theorem x_for {tg iter : Expr} {body : List Stmt} {b : Bd} {ds : List D} (m : Nat) (sT ρb : Nat → En) (hp : PassesOwn (model X.prog X.w) X.A X.env X.xe) (hc : X.calm = true) (hi : Ei X tg iter ρ ds) (hg : PG X tg (b.tg X.K)) (hm : m < ds.length) (h0 : Le ρ (sT 0))
    (hb : ∀ i d, i ≤ m → ds[i]? = some d → bindE b (sT i) d = some (ρb i)) (hnx : ∀ i, i < m → Ess X body (ρb i) (.nx (sT (i + 1)))) (hx : Xss X C E body (ρb m) k) (hs : ∀ x, foldedSetIterable iter X.env x = pure x := by intro _; rfl) : Xs X C E (.For tg iter body [] pos) ρ k := by
  have hB : PSs X body (fun Dn σ H => ∃ i, i ≤ m ∧ (if i < m then tsD (ρb i) (.nx (sT (i + 1))) Dn σ H else tX C E (ρb m) k Dn σ H)) := pss_some (P := fun i => i ≤ m) (t := fun i Dn σ H => if i < m then tsD (ρb i) (.nx (sT (i + 1))) Dn σ H else tX C E (ρb m) k Dn σ H) fun i hi => by
    by_cases q : i < m
    · exact pss_mono (hnx i q) fun Dn σ H h => by
        rw [if_pos q] at h
        exact h
    · exact pss_mono hx fun Dn σ H h => by
        rw [if_neg q] at h
        exact h
  refine ps_mono (ps_for hp hc hi hg hB hs) fun Dn σ H ⟨S, e, rE, kx⟩ => ⟨S, e, rE, fun J S1 H1 g1 it => ?_⟩
  let W : Nat → L2.St → Hp → Prop := fun i σ' H' => ∃ S', Gr S1 H1 S' H' ∧ RepE S' (sT i) σ'
  refine ⟨fun i mm σ' H' => mm = ds.length - i ∧ i ≤ m ∧ W i σ' H', ⟨ds.length, by simp, Nat.zero_le _, S1, Gr.refl g1.sh, (rE.mono g1.ss).le h0⟩, ?_⟩
  rintro i mm σ' H' ⟨rfl, hi', S', g', rE'⟩
  obtain ⟨it1, it2, it3⟩ := it S' H' g'.ss g'.sh
  have hil : i < ds.length := by omega
  refine .inr ⟨it1 i hil, fun σ'' H'' => i < m ∧ W (i + 1) σ'' H'', fun σ'' H'' ⟨hh, w⟩ => ⟨ds.length - (i + 1), by omega, rfl, hh, w⟩, fun v H2 y => ?_⟩
  have hd : ds[i]? = some ds[i] := List.getElem?_eq_getElem hil
  obtain ⟨S2, g2, r2⟩ := it3 i v H2 hil y _ hd
  refine bind_ok g2.sh (rE'.mono g2.ss) r2 (hb i _ hi' hd) fun σ2 rE2 _ => ?_
  refine ⟨i, hi', ?_⟩
  by_cases him : i < m
  · rw [if_pos him]
    exact ⟨S2, g2.sh, rE2, fun σ3 S3 H3 g3 r3 => ⟨him, S3, g'.trans (g2.trans g3), r3⟩⟩
  · rw [if_neg him]
    have e1 : i = m := by omega
    subst e1
    exact ⟨S2, g2.sh, rE2, kx.step (g1.trans (g'.trans g2))⟩
end
/-- a method that may raise Clash -/
structure MetX (P : Program) (w : World) (K : PySem.W.Frag) (mg : Str → Option Value) (base : Heap) (k : Nat) (C : Addr) (m : Str) (sp : Sp) : Prop where
  ex : ∃ (f : Addr) (fd : FuncData) (ps : List Str), Cls K C ∧ Meth K C m f ∧ FnOk P w K mg base (L2.CX P w) k f fd ps sp ∧ Binds K fd ps []
section
variable {X : Cx} {C Cc : Addr} {E : XK} {ρ ρ1 : En} {k j kk : Nat} {d : D} {st : Stmt} {rest : List Stmt} {e a c o : Expr} {es : List Expr} {ds : List D} {pos p p2 apos : Pos} {m : Str} {ns : List Str} {l : List D} {Ro : List D → D → Prop} {Rx : List D → Nat → Prop} {W : XK}
/-- o.m(), it raises -/
theorem x_mt0 {pl : Sem Bool} (c : MetX X.prog X.w X.K X.mg X.base kk Cc m (spX C Ro Rx)) (tk : Takes X (fun cls d _ H => E cls d H)) (hr : Room j X.A) (hk : kk ≤ j) (he : Em X o ρ (.obj Cc ns l)) (hn : (ns.all fun n => !(m == n)) = true) (h : Rx [.obj Cc ns l] k)
    (ht : eval (.Call (.Attribute o m apos) [] [] pos) X.env = (do
      let ov ← eval o X.env
      standAt apos.atName
      let (f, first) ← holding [ov] (getMethod ov m pl)
      callWith pos f first (backTo pos (starEach [] X.env)) (backToKw pos (keywordEach [] X.env))) := by rfl) : PE X (.Call (.Attribute o m apos) [] [] pos) (teX C E ρ k) := by
  obtain ⟨f, fd, ps, cl, me, F, b⟩ := c.ex
  refine pe_mono (pe_meth0 he cl me F (hr.mono hk) b .nil (E := E) (passes_call tk fun _ _ _ _ x => x) ht) fun σ H Q ⟨S, e, rE, kx⟩ => ⟨S, e, rE, fun v S1 H1 g1 r1 => ?_⟩
  obtain ⟨a, dx, vs, rfl, h1, h2⟩ := id r1.obj
  refine ⟨a, dx, _, rfl, g1.sh _ _ h1, zip_lookup_none hn, ?_⟩
  exact ⟨S1, [.obj Cc ns l], g1.sh, repL_cons r1 repL_nil, .inr ⟨k, h, kx.step g1⟩⟩
theorem x_mt {pl : Sem Bool} (c : MetX X.prog X.w X.K X.mg X.base kk Cc m (spX C Ro Rx)) (tk : Takes X (fun cls d _ H => E cls d H)) (hr : Room j X.A) (hk : kk ≤ j) (he : Em X o ρ (.obj Cc ns l)) (hn : (ns.all fun n => !(m == n)) = true) (ha : Ea X (e :: es) ρ ds) (h : Rx (.obj Cc ns l :: ds) k)
    (hst : starEach (e :: es) X.env = (false, eval e X.env) :: starEach es X.env := by rfl) (hpl : (backTo pos (starEach es X.env)).any (·.1) = false := by rfl)
    (ht : eval (.Call (.Attribute o m apos) (e :: es) [] pos) X.env = (do
      let ov ← eval o X.env
      standAt apos.atName
      let (f, first) ← holding [ov] (getMethod ov m pl)
      callWith pos f first (backTo pos (starEach (e :: es) X.env)) (backToKw pos (keywordEach [] X.env))) := by rfl) : PE X (.Call (.Attribute o m apos) (e :: es) [] pos) (teX C E ρ k) := by
  obtain ⟨f, fd, ps, cl, me, F, b⟩ := c.ex
  refine pe_mono (pe_meth he cl me F (hr.mono hk) b .nil (E := E) (passes_call tk fun _ _ _ _ x => x) ha hst hpl ht) fun σ H Q ⟨S, e, rE, kx⟩ => ⟨S, e, rE, fun v S1 H1 g1 r1 => ?_⟩
  obtain ⟨a, dx, vs, rfl, h1, h2⟩ := id r1.obj
  refine ⟨a, dx, _, rfl, g1.sh _ _ h1, zip_lookup_none hn, S1, g1.sh, rE.mono g1.ss, fun ws S2 H2 g2 r2 => ?_⟩
  show spX C Ro Rx (V.ref a :: (ws ++ [])) H2 Q E
  rw [List.append_nil]
  exact ⟨S2, .obj Cc ns l :: ds, g2.sh, repL_cons (r1.mono g2.ss) r2, .inr ⟨k, h, kx.step (g1.trans g2)⟩⟩
/-- o.m(), it answers -/
theorem em_mtX0 {pl : Sem Bool} (c : MetX X.prog X.w X.K X.mg X.base kk Cc m (spX C Ro Rx)) (tk : Takes X (fun _ _ _ _ => False)) (hr : Room j X.A) (hk : kk ≤ j) (he : Em X o ρ (.obj Cc ns l)) (hn : (ns.all fun n => !(m == n)) = true) (h : Ro [.obj Cc ns l] d)
    (ht : eval (.Call (.Attribute o m apos) [] [] pos) X.env = (do
      let ov ← eval o X.env
      standAt apos.atName
      let (f, first) ← holding [ov] (getMethod ov m pl)
      callWith pos f first (backTo pos (starEach [] X.env)) (backToKw pos (keywordEach [] X.env))) := by rfl) : Em X (.Call (.Attribute o m apos) [] [] pos) ρ d := by
  obtain ⟨f, fd, ps, cl, me, F, b⟩ := c.ex
  refine pe_mono (pe_meth0 he cl me F (hr.mono hk) b .nil (E := fun _ _ _ => False) (passes_call tk fun _ _ _ _ x => x) ht) fun σ H Q ⟨S, e, rE, kx⟩ => ⟨S, e, rE, fun v S1 H1 g1 r1 => ?_⟩
  obtain ⟨a, dx, vs, rfl, h1, h2⟩ := id r1.obj
  refine ⟨a, dx, _, rfl, g1.sh _ _ h1, zip_lookup_none hn, ?_⟩
  exact ⟨S1, [.obj Cc ns l], g1.sh, repL_cons r1 repL_nil, .inl ⟨d, h, fun v2 S2 H2 g2 r2 => kx v2 S2 H2 (g1.trans g2) r2⟩⟩
theorem xs_expr (he : PE X e (teX C E ρ k)) (hs : swapsWith e none pos.line X.env = pure false := by rfl) : Xs X C E (.Expr e pos) ρ k := ps_mono (ps_expr he hs) fun Dn σ H h => h
end
section
variable {P : Program} {w : World} {K : PySem.W.Frag} {mg : Str → Option Value} {base : Heap} {f fI : Addr} {fd : FuncData} {C Cs Cx_ : Addr}
/-- a def that answers or raises, by its body -/
theorem fnX {x qual : Str} {params : Arguments} {body : List Stmt} {scope : Scope} {dvs : List V} {kws : List (Str × V)} {N ps : List Str} {k : Nat} {Ro : List D → D → Prop} {Rx : List D → Nat → Prop} (F : FunD K x qual params body scope dvs kws f fd) (S : FnScope N ps scope) (leno : ∀ ds d, Ro ds d → ds.length = ps.length) (lenx : ∀ ds k, Rx ds k → ds.length = ps.length)
    (ho : ∀ (cdv : Value) (A : Around) (outer : List Env) (s : Shared) (H : Hp) (E : XK), Room k (A.deeper (envOfC qual scope s.heap.objs.size f cdv)) → ∀ ds d, Ro ds d →
      ∃ o, (o = .rt d ∨ ((∃ ρ1, o = .nx ρ1) ∧ d = .non)) ∧ Ess (cxOf (L2.CX P w) P w K mg base N qual scope f cdv A outer s H E) body (ds.map some ++ List.replicate (N.length - ds.length) none) o)
    (hx : ∀ (cdv : Value) (A : Around) (outer : List Env) (s : Shared) (H : Hp) (E : XK), Room k (A.deeper (envOfC qual scope s.heap.objs.size f cdv)) → Takes (cxOf (L2.CX P w) P w K mg base N qual scope f cdv A outer s H E) (fun cls d _ H => E cls d H) → ∀ ds n, Rx ds n →
      Xss (cxOf (L2.CX P w) P w K mg base N qual scope f cdv A outer s H E) C E body (ds.map some ++ List.replicate (N.length - ds.length) none) n) : FnOk P w K mg base (L2.CX P w) (k + 1) f fd ps (spX C Ro Rx) := by
  refine F.ok S (fun vs H Q E ⟨S', ds, _, r, h⟩ => ?_) fun cdv A outer s H vs Q E hr ⟨S', ds, e, r, h⟩ => ?_
  · rw [← r.length]
    rcases h with ⟨d, h, _⟩ | ⟨k, h, _⟩
    · exact leno ds d h
    · exact lenx ds k h
  · rcases h with ⟨d, h, q⟩ | ⟨n, h, q⟩
    · obtain ⟨o, ho', h2⟩ := ho cdv A outer s H E hr ds d h
      refine ⟨_, h2, S', e, repE_start r, ?_⟩
      rcases ho' with rfl | ⟨⟨ρ1, rfl⟩, rfl⟩
      · exact q
      · exact fun σ' S2 H2 g r2 => q .non S2 H2 g rep_non
    · exact ⟨_, hx cdv A outer s H E hr (takes_of rfl rfl rfl rfl) ds n h, S', e, repE_start r, q⟩
/-! check_fit -/
def leastBad (named : List Str) (ls : List Lk) (k : Nat) : Prop := k < ls.length ∧ fitB named (ls.take (k + 1)) = false ∧ ∀ i, i < k → fitB named (ls.take (i + 1)) = true
def OkLs (named : List Str) (ls : List Lk) : Prop := named.length ≤ 10 ∧ ls.length ≤ 12 ∧ ∀ l ∈ ls, OkLook l
def ckO (Cs C : Addr) (ds : List D) (d : D) : Prop := ∃ named ls, ds = [lsD Cs C named ls] ∧ OkLs named ls ∧ fitB named ls = true ∧ d = .non
def ckX (Cs C : Addr) (ds : List D) (k : Nat) : Prop := ∃ named ls, ds = [lsD Cs C named ls] ∧ OkLs named ls ∧ fitB named ls = false ∧ leastBad named ls k
abbrev nCk : List Str := ["self", "index"]
theorem sc_ck : FnScope nCk ["self"] (defScope (mth 74 6)) := C8.fnScope_by (by decide +kernel)
theorem ok_ck (F : FnP K "check_fit" "Looks.check_fit" (mth 74 6) f fd) (B : Bi mg) (T : LooksC K mg Cs) (TC : ClX.ClT K mg Cx_ fI) (cf : Prp P w K mg base 6 Cs "fit" (spD (ftR Cs C))) (ca : CalP P w K mg base 5 "are_fit" (afR C)) : FnOk P w K mg base (L2.CX P w) 8 f fd ["self"] (spX Cx_ (ckO Cs C) (ckX Cs C)) := by
  refine fnX F sc_ck (by rintro _ _ ⟨l, n, rfl, _⟩; rfl) (by rintro _ _ ⟨l, n, rfl, _⟩; rfl) (fun cdv A outer s H E hr ds d h => ?_) fun cdv A outer s H E hr tk ds k h => ?_
  · obtain ⟨named, ls, rfl, ⟨hN, hl, hO⟩, hf, rfl⟩ := h
    exact ⟨_, .inr ⟨⟨_, rfl⟩, rfl⟩, ess_one (es_skip (et_is (et_not (et_val (em_prop cf hr (by decide) (v 0 (d := lsD Cs C named ls)) ⟨named, ls, rfl, hN, hl, hO, rfl⟩))) (by rw [hf] <;> rfl)))⟩
  · obtain ⟨named, ls, rfl, ⟨hN, hl, hO⟩, hf, hk, hbad, hgood⟩ := h
    refine x_hd (x_if (q := true) (et_is (et_not (et_val (em_prop cf hr (by decide) (v 0 (d := lsD Cs C named ls)) ⟨named, ls, rfl, hN, hl, hO, rfl⟩))) (by rw [hf] <;> rfl)) (fun _ => ?_) fun h => nomatch h)
    have tst : ∀ i q, fitB named (ls.take (i + 1)) = q → i < ls.length → ∀ {p1 p2 p3 p4 p5 p6 p7 p8 p9 p10 p11 p12 : Pos} {jj : Nat}, Et (cxOf (L2.CX P w) P w K mg base nCk "Looks.check_fit" (defScope (mth 74 6)) f cdv A outer s H E) (.UnaryOp .Not (.Call (.Name "are_fit" p1) [.Attribute (.Name "self" p2) "named" p3, .Subscript (.Attribute (.Name "self" p4) "seen" p5) (.Slice none (some (.BinOp (.Name "index" p6) .Add (.Constant (.int 1) jj p7) p8)) none p9) p10] [] p11) p12) [some (lsD Cs C named ls), some (.int (i : Int))] (!q) := by
      intro i q hq hi p1 p2 p3 p4 p5 p6 p7 p8 p9 p10 p11 p12 jj
      have hb1 : Em (cxOf (L2.CX P w) P w K mg base nCk "Looks.check_fit" (defScope (mth 74 6)) f cdv A outer s H E) (.BinOp (.Name "index" p6) .Add (.Constant (.int 1) jj p7) p8) [some (lsD Cs C named ls), some (.int (i : Int))] (.int ((i + 1 : Nat) : Int)) := em_is (e_add (v 1) em_int) rfl
      have hx : Em (cxOf (L2.CX P w) P w K mg base nCk "Looks.check_fit" (defScope (mth 74 6)) f cdv A outer s H E) (.Subscript (.Attribute (.Name "self" p4) "seen" p5) (.Slice none (some (.BinOp (.Name "index" p6) .Add (.Constant (.int 1) jj p7) p8)) none p9) p10) [some (lsD Cs C named ls), some (.int (i : Int))] (.tup ((ls.take (i + 1)).map (lkD C))) :=
        em_is (em_sl sl_tupA (sl_toT (l := ls.map (lkD C)) (k := i + 1)) (em_fld (v 0 (d := lsD Cs C named ls)) T.cl T.seen rfl) eo_none (eo_some hb1)) (by rw [List.map_take])
      exact et_not (et_val (em_is (em_call ca hr (by decide) rfl ⟨named, ls.take (i + 1), rfl, hN, by rw [List.length_take]; omega, fun l hl => hO l (List.mem_of_mem_take hl), rfl⟩ (a2 (em_fld (v 0 (d := lsD Cs C named ls)) T.cl T.named rfl) hx)) (by rw [hq])))
    refine x_hd (x_for (b := .one 1) (ds := (List.range ls.length).map fun i => D.int (i : Nat)) k (fun _ => [some (lsD Cs C named ls), none]) (fun i => [some (lsD Cs C named ls), some (.int (i : Nat))]) (passes_of rfl) rfl (ei_range rfl (B.free _ (by decide)) (by omega) (a1 (em_is (e_lenT B (em_fld (v 0 (d := lsD Cs C named ls)) T.cl T.seen rfl)) (by rw [List.length_map])))) (pn 1 sc_ck.nd) (by rw [List.length_map, List.length_range]; exact hk) (Le.refl _) (fun i d hi hd => ?_) (fun i hi => ?_) ?_)
    · rw [List.getElem?_map, List.getElem?_range (by omega)] at hd
      have e : D.int (i : Nat) = d := Option.some.inj hd
      rw [← e] <;> rfl
    · exact ess_to (ess_one (es_skip (et_is (tst i _ (hgood i hi) (by omega)) rfl))) (Le.cons (Le.drop (Le.refl _)))
    · exact x_hd (x_if (q := true) (et_is (tst k _ hbad hk) rfl) (fun _ => x_hd (x_raise rfl TC hr tk (v 1))) fun h => nomatch h)
end
end Mh
set_option maxRecDepth 100000
set_option maxHeartbeats 2000000
/-! E3: answer, look, can_be, settled, where the looks fit no house. -/
namespace Mh
open PySem PySem.Spec PyProof.Rows L2
open Evl (Ex)
section
variable {P : Program} {w : World} {K : PySem.W.Frag} {mg : Str → Option Value} {base : Heap} {f fI : Addr} {fd : FuncData} {C Cs Cx_ : Addr}
def noO (_ : List D) (_ : D) : Prop := False
/-- looks that fit no house, the least bad index -/
def Bad (named : List Str) (ls : List Lk) (k : Nat) : Prop := OkLs named ls ∧ fitB named ls = false ∧ leastBad named ls k
def anX (Cs C : Addr) (ds : List D) (k : Nat) : Prop := ∃ named ls menu x, ds = [lsD Cs C named ls, rowD menu, .str x] ∧ Bad named ls k ∧ chkR [rowD menu, rowD named] .non ∧ cthR [.str x, rowD menu] .non
def loX (Cs C : Addr) (ds : List D) (k : Nat) : Prop := ∃ named ls menu, ds = [lsD Cs C named ls, rowD menu] ∧ Bad named ls k ∧ chkR [rowD menu, rowD named] .non
def cbX (Cs C : Addr) (ds : List D) (k : Nat) : Prop := ∃ named ls menu some_, ds = [lsD Cs C named ls, rowD menu, rowD some_] ∧ Bad named ls k ∧ chkR [rowD menu, rowD named] .non ∧ chkR [rowD some_, rowD menu] .non
abbrev nAn : List Str := ["self", "menu", "thing"]
theorem sc_an : FnScope nAn ["self", "menu", "thing"] (defScope (mth 74 8)) := C8.fnScope_by (by decide +kernel)
abbrev nLoo : List Str := ["self", "menu", "thing"]
theorem sc_lo2 : FnScope nLoo ["self", "menu"] (defScope (mth 74 9)) := C8.fnScope_by (by decide +kernel)
abbrev nCb : List Str := ["self", "menu", "taken"]
theorem sc_cb : FnScope nCb ["self", "menu", "taken"] (defScope (mth 74 10)) := C8.fnScope_by (by decide +kernel)
theorem ok_an (F : FnP K "answer" "Looks.answer" (mth 74 8) f fd) (T : LooksC K mg Cs) (c1 : CalP P w K mg base 2 "check_menu" chkR) (c2 : CalP P w K mg base 2 "check_thing" cthR) (ck : MetX P w K mg base 8 Cs "check_fit" (spX Cx_ (ckO Cs C) (ckX Cs C))) : FnOk P w K mg base (L2.CX P w) 9 f fd ["self", "menu", "thing"] (spX Cx_ noO (anX Cs C)) := by
  refine fnX F sc_an (fun _ _ h => h.elim) (by rintro _ _ ⟨_, _, _, _, rfl, _⟩; rfl) (fun cdv A outer s H E hr ds d h => h.elim) fun cdv A outer s H E hr tk ds k h => ?_
  obtain ⟨named, ls, menu, x, rfl, hB, h1, h2⟩ := h
  refine x_nx (es_expr (em_call c1 hr (by decide) rfl h1 (a2 (v 1) (em_fld (v 0 (d := lsD Cs C named ls)) T.cl T.named rfl)))) ?_
  refine x_nx (es_expr (em_call c2 hr (by decide) rfl h2 (a2 (v 2) (v 1)))) ?_
  exact x_hd (xs_expr (x_mt0 ck tk hr (by decide) (v 0 (d := lsD Cs C named ls)) rfl ⟨named, ls, rfl, hB.1, hB.2.1, hB.2.2⟩))
theorem ok_lo2 (F : FnP K "look" "Looks.look" (mth 74 9) f fd) (T : LooksC K mg Cs) (c1 : CalP P w K mg base 2 "check_menu" chkR) (ck : MetX P w K mg base 8 Cs "check_fit" (spX Cx_ (ckO Cs C) (ckX Cs C))) : FnOk P w K mg base (L2.CX P w) 9 f fd ["self", "menu"] (spX Cx_ noO (loX Cs C)) := by
  refine fnX F sc_lo2 (fun _ _ h => h.elim) (by rintro _ _ ⟨_, _, _, rfl, _⟩; rfl) (fun cdv A outer s H E hr ds d h => h.elim) fun cdv A outer s H E hr tk ds k h => ?_
  obtain ⟨named, ls, menu, rfl, hB, h1⟩ := h
  refine x_nx (es_expr (em_call c1 hr (by decide) rfl h1 (a2 (v 1) (em_fld (v 0 (d := lsD Cs C named ls)) T.cl T.named rfl)))) ?_
  exact x_hd (xs_expr (x_mt0 ck tk hr (by decide) (v 0 (d := lsD Cs C named ls)) rfl ⟨named, ls, rfl, hB.1, hB.2.1, hB.2.2⟩))
theorem ok_cb (F : FnP K "can_be" "Looks.can_be" (mth 74 10) f fd) (T : LooksC K mg Cs) (c1 : CalP P w K mg base 2 "check_menu" chkR) (c2 : CalP P w K mg base 2 "check_taken" chkR) (ck : MetX P w K mg base 8 Cs "check_fit" (spX Cx_ (ckO Cs C) (ckX Cs C))) : FnOk P w K mg base (L2.CX P w) 9 f fd ["self", "menu", "taken"] (spX Cx_ noO (cbX Cs C)) := by
  refine fnX F sc_cb (fun _ _ h => h.elim) (by rintro _ _ ⟨_, _, _, _, rfl, _⟩; rfl) (fun cdv A outer s H E hr ds d h => h.elim) fun cdv A outer s H E hr tk ds k h => ?_
  obtain ⟨named, ls, menu, x, rfl, hB, h1, h2⟩ := h
  refine x_nx (es_expr (em_call c1 hr (by decide) rfl h1 (a2 (v 1) (em_fld (v 0 (d := lsD Cs C named ls)) T.cl T.named rfl)))) ?_
  refine x_nx (es_expr (em_call c2 hr (by decide) rfl h2 (a2 (v 2) (v 1)))) ?_
  exact x_hd (xs_expr (x_mt0 ck tk hr (by decide) (v 0 (d := lsD Cs C named ls)) rfl ⟨named, ls, rfl, hB.1, hB.2.1, hB.2.2⟩))
abbrev nSe : List Str := ["self", "table", "thing", "below"]
theorem sc_se : FnScope nSe ["self"] (defScope (mth 74 12)) := C8.fnScope_by (by decide +kernel)
theorem ok_se (F : FnP K "settled" "Looks.settled" (mth 74 12) f fd) (ck : MetX P w K mg base 8 Cs "check_fit" (spX Cx_ (ckO Cs C) (ckX Cs C))) : FnOk P w K mg base (L2.CX P w) 9 f fd ["self"] (spX Cx_ noO (ckX Cs C)) := by
  refine fnX F sc_se (fun _ _ h => h.elim) (by rintro _ _ ⟨_, _, rfl, _⟩; rfl) (fun cdv A outer s H E hr ds d h => h.elim) fun cdv A outer s H E hr tk ds k h => ?_
  obtain ⟨named, ls, rfl, hB⟩ := h
  exact x_hd (xs_expr (x_mt0 ck tk hr (by decide) (v 0 (d := lsD Cs C named ls)) rfl ⟨named, ls, rfl, hB⟩))
end
end Mh
set_option maxRecDepth 100000
set_option maxHeartbeats 2000000
/-! E4: defs called within an except suite: _law_sort, _law_field. -/
namespace Mh
open PySem PySem.Spec PyProof.Rows L2
open Evl (Ex)
/-- a def that is called while the exception at p is handled -/
structure FnQ (P : Program) (w : World) (K : PySem.W.Frag) (mg : Str → Option Value) (base : Heap) (k : Nat) (f : Addr) (fd : FuncData) (ps : List Str) (sp : Addr × Obj → Sp) : Prop where
  len : ∀ p vs H Q E, sp p vs H Q E → vs.length = ps.length
  run : ∀ (A : Around) (outer : List Env) (s : Shared) (H : Hp) (args : Args) (us : List Value) (vs : List V) (Q : VK) (E : XK) (p : Addr × Obj), L2H.RoomH k A → L2H.PinOk outer H s p → Env0 P w K mg base A outer s H → BindsTo s fd args (ps.zip us) → Vals vs us → sp p vs H Q E →
    codeAny (model P w) A (.call (.ref f) args) (CR C8.CX0 outer P w H s Q E) s
theorem fnQ_of {P : Program} {w : World} {K : PySem.W.Frag} {mg : Str → Option Value} {base : Heap} {k : Nat} {f : Addr} {fd : FuncData} {x qual : Str} {params : Arguments} {body : List Stmt} {scope : Scope} {N ps : List Str} {sp : Addr × Obj → Sp} (F : FunD K x qual params body scope [] [] f fd) (S : FnScope N ps scope)
    (len : ∀ p vs H Q E, sp p vs H Q E → vs.length = ps.length)
    (hbody : ∀ (cdv : Value) (A : Around) (outer : List Env) (s : Shared) (H : Hp) (vs : List V) (Q : VK) (E : XK) (p : Addr × Obj), L2H.RoomH k (A.deeper (envOfC qual scope s.heap.objs.size f cdv)) → sp p vs H Q E →
      ∃ t, PSs (L2H.cxH C8.CX0 P w K mg base N qual scope f cdv A outer s H E p) body t ∧ t { nx := fun _ H' => Q .non H', rt := Q } (L2.start N vs) H) : FnQ P w K mg base (k + 1) f fd ps sp := by
  obtain ⟨oc, od, dV, kV, doc, pm, an, cdv, ct, osl, rfl, lk, hcd, _⟩ := F.ex
  refine ⟨len, fun A outer s H args us vs Q E p hr hpin e0 hb r hsp => ?_⟩
  have hl := len _ _ _ _ _ hsp
  have KX : K.In s.heap := e0.mod.kin.keeps fun b o e => (e0.bs b o e).1
  have lim : s.heap.NoLimit := e0.mod.nolimit.keeps fun b o e => (e0.bs b o e).1
  have hkind : ∀ y ∈ ps.zip us, scope.names.lookup y.1 = some .local ∨ (scope.names.lookup y.1 = some .cell ∧ ((cellsFrom (s.heap.objs.size + 1) scope.names []).lookup y.1).isSome = true) := fun ⟨n, v⟩ hy => by
    rcases S.par n (List.of_mem_zip hy).1 with q | q
    · exact .inl q
    · exact .inr ⟨q, PySem.W.cellsFrom_some _ _ _ (.inl q)⟩
  refine codeAny_call_function hr.depth (KX _ _ lk) rfl S.co S.gen rfl (PySem.W.codeRec_of KX hcd) (hb _ _ _ _ ?_)
  refine wpAny_newFunctionEnv_cells S.kind hkind fun env he s1 x => ?_
  subst he
  refine ⟨lim.keeps x.toInCall.keep, codeAny_func ?_⟩
  obtain ⟨t, ht, hq⟩ := hbody cdv A outer s H vs Q E p (hr.deeper _) hsp
  have I : Inv (L2H.cxH C8.CX0 P w K mg base N qual scope f cdv A outer s H E p) [] (L2.start N vs) H s1 := L2H.inv_startH S hpin e0 hl r x
  refine wpAny_mono (ht.run [] s1 (L2.start N vs) H _ I hq) (fun fl s' hs => ?_) fun e s' hs => hs
  have fin : ∀ {σ' : L2.St} {H' : Hp} {v : V} {u : Value}, Inv (L2H.cxH C8.CX0 P w K mg base N qual scope f cdv A outer s H E p) [] σ' H' s' → RelV v u → Q v H' → CE outer P w H s Q u s' :=
    fun {σ' H' v u} J rv q => ⟨v, H', J.os, J.bare, J.base, J.hok, rv, q⟩
  cases fl with
  | ret u =>
    obtain ⟨v, σ', H', J, rv, q⟩ := hs
    exact fin J rv q
  | next =>
    obtain ⟨σ', H', J, q⟩ := hs
    exact fin (v := V.non) (u := Value.none) J rfl q
  | brk =>
    obtain ⟨_, _, _, q⟩ := hs
    exact False.elim q
  | cont =>
    obtain ⟨_, _, _, q⟩ := hs
    exact False.elim q
section
variable {X : Cx} {k : Nat} {f : Addr} {fd : FuncData} {ps : List Str} {x : Str} {q pos : Pos} {e : Expr} {es : List Expr} {t : TA} {p : Addr × Obj}
theorem pe_callQ {sp : Addr × Obj → Sp} (F : FnQ X.prog X.w X.K X.mg X.base k f fd ps sp) (hr : L2H.RoomH k X.A) (hp : p ∈ X.pn) (hg : L2.Gl X x) (hm : X.mg x = some (.ref f)) (hk : PySem.W.keepIn X.K (.ref f) = true) (hb : L2.Binds X.K fd ps [])
    (ha : PA X (e :: es) t) (hdb : (x == ("__debug__" : Str)) = false := by decide) (he : starEach (e :: es) X.env = (false, eval e X.env) :: starEach es X.env := by rfl) (hpl : (backTo pos (starEach es X.env)).any (·.1) = false := by rfl) :
    PE X (.Call (.Name x q) (e :: es) [] pos) (fun σ H Q => t σ H fun vs H1 => sp p vs H1 Q (fun _ _ _ => False)) := by
  refine ⟨fun pins s σ H Q I h => ?_⟩
  refine wpAny_Call_Name_kw (ld_glob I hg hm ?_ hdb)
  refine PySem.W.callWith_K (h₀ := X.base) I.ok.mod.kin hk (thn (ha.run pos pins s σ H _ I h) fun us s1 ⟨vs, H1, I1, r, q⟩ => ⟨I1.kIn, ?_⟩) he hpl
  have hl : us.length = ps.length := by rw [← r.length]; exact F.len _ _ _ _ _ q
  have b := hb s1 us I1.kIn (by rw [List.append_nil]; exact hl)
  rw [List.append_nil] at b
  have P1 := I1.pin p (List.mem_append_left _ hp)
  have hpin : L2H.PinOk X.stack H1 s1 p := ⟨P1.1, P1.2.1, fun hm => (List.mem_cons.mp (I1.stkSub p.1 hm)).elim P1.2.2.1 P1.2.2.2.1, P1.2.2.2.2⟩
  refine wpAny_call (codeAny_mono (F.run X.A X.stack s1 H1 ⟨us, []⟩ us vs Q (fun _ _ _ => False) p hr hpin I1.env0 b r q) fun r s' hq => ?_)
  cases r with
  | error e => exact False.elim hq
  | ok fl =>
    cases fl with
    | ret u => exact I1.after hq
    | next => exact False.elim hq
    | brk => exact False.elim hq
    | cont => exact False.elim hq
end
/-! isinstance(e, c), e.index, e the exception that is handled -/
structure XcC (K : PySem.W.Frag) (D : Addr) : Prop where
  cl : (PySem.W.clsIn K D).isSome = true
  ha : PySem.W.findIn K (.ref D) "__class__" = some (some (.builtin "object.__class__"))
  hn : PySem.W.specialIn K (.builtin "object.__class__") "__get__" = some (some (.builtin "getset_descriptor.__get__"))
  ht : PySem.W.takesIn K (.builtin "object.__class__") = some true
  hm : PySem.W.mroIn K D (.type "object") = some true
theorem inst_of {h : Heap} {a C dd : Addr} {oe : Obj} {P : Program} {w : World} {H : Hp} {fs : List (Str × V)} (ha : h.get? a = some oe) (hz : Zc (.ref C) (some dd) oe) (hf : ∃ vs, oe.data = .fields vs) (hok : HOk P w H h) (ed : H dd = some (.xd fs)) : ∃ od, PySem.W.InstAt h a oe C (some od) := by
  obtain ⟨vs, hd⟩ := hf
  have hx : ObjOk P w H h dd (.xd fs) := hok dd _ ed
  obtain ⟨mA, hns, hr⟩ := hx
  obtain ⟨od, ho, hl⟩ := lookIn_ns hns
  exact ⟨od, ha, hz.1, by unfold PySem.W.notCls; rw [hd] <;> rfl, by rw [hz.2]; exact ho⟩
def rIsX (K : PySem.W.Frag) (C dd a : Addr) (k : Nat) : List V → Hp → VK → Prop := fun xs H Q => ∃ (c : V) (cv : Value) (b : Bool), xs = [.ref a, c] ∧ H dd = some (.xd [(("index" : Str), V.int (k : Int))]) ∧ (∀ u, RelV c u → u = cv) ∧ PySem.W.kitOne K (.ref C) cv = some b ∧ Q (.bl b) H
theorem call_isX {X : Cx} {a C dd fI : Addr} {oe : Obj} {k : Nat} (T : ClX.ClT X.K X.mg C fI) (XC : XcC X.K C) (hp : (a, oe) ∈ X.pn) (hz : Zc (.ref C) (some dd) oe) (hf : ∃ vs, oe.data = .fields vs) : CallR X (.builtin "isinstance") (rIsX X.K C dd a k) := by
  intro pins s σ H xs us Q I r h
  obtain ⟨c, cv, b, rfl, hdd, hcv, e, q⟩ := h
  cases r with
  | cons rx rr =>
    cases rr with
    | cons rt rr =>
      cases rr
      cases rx
      have ec := hcv _ rt
      subst ec
      obtain ⟨hget, _⟩ := I.pin (a, oe) (List.mem_append_left _ hp)
      obtain ⟨od, J⟩ := inst_of hget hz hf I.hok hdd
      exact PySem.W.kia_one (PySem.W.kitx_exc XC.cl T.ga T.gg T.exC XC.ha XC.hn XC.ht XC.hm) I.kIn J e (fun z => nomatch z) fun tk => ⟨.bl b, H, I.kept (t' := tk) fun _ _ z => z, rfl, q⟩
/-- e.index -/
theorem pe_ix {X : Cx} {a C dd fI : Addr} {oe : Obj} {k : Nat} {e : Expr} {te : TE} {pos : Pos} (T : ClX.ClT X.K X.mg C fI) (hp : (a, oe) ∈ X.pn) (hz : Zc (.ref C) (some dd) oe) (hf : ∃ vs, oe.data = .fields vs) (he : PE X e te) (hb : attributeBase e "index" X.env (eval e X.env) = eval e X.env := by rfl) :
    PE X (.Attribute e "index" pos) (fun σ H Q => te σ H fun x H1 => x = .ref a ∧ H1 dd = some (.xd [(("index" : Str), V.int (k : Int))]) ∧ Q (.int (k : Int)) H1) := by
  refine ⟨fun pins s σ H Q I h => ?_⟩
  refine attr_of hb (thn (he.run pins s σ H _ I h) fun u s1 hh => ?_)
  obtain ⟨x, H1, I1, rx, ex, ea, q⟩ := hh
  subst ex
  obtain rfl : u = Value.ref a := rx
  obtain ⟨ha, _⟩ := I1.pin (a, oe) (List.mem_append_left _ hp)
  obtain ⟨vs, hd⟩ := hf
  have hx : ObjOk X.prog X.w H1 s1.heap dd (.xd [(("index" : Str), V.int (k : Int))]) := I1.hok dd _ ea
  obtain ⟨mA, hns, hr⟩ := hx
  obtain ⟨od, ho, hl⟩ := lookIn_ns hns
  have l : List.lookup ("index" : Str) [(("index" : Str), V.int (k : Int))] = some (V.int (k : Int)) := by simp [List.lookup]
  obtain ⟨u, hu, ru⟩ := RelO.some_of (v := V.int (k : Int)) (o := mA "index") (by rw [← l]; exact hr "index")
  have J : PySem.W.InstAt s1.heap a oe C (some od) := ⟨ha, hz.1, by unfold PySem.W.notCls; rw [hd] <;> rfl, by rw [hz.2]; exact ho⟩
  exact HandSPX.exc_get I1.kIn J T.ga T.gg T.exC (PySem.W.findObj_own T.hdC T.noN rfl (by rw [hl, hu])) (handed_of ru) ⟨V.int (k : Int), H1, I1.tok _, ru, q⟩
/-- the heap's fixed part holds the exception's dict -/
structure Xd (S : Hp) (dd : Addr) (k : Nat) : Prop where
  at_ : S dd = some (.xd [(("index" : Str), V.int (k : Int))])
end Mh
set_option maxRecDepth 100000
set_option maxHeartbeats 2000000
/-! E5: _law_sort, _law_field of a Clash. -/
namespace Mh
open PySem PySem.Spec PyProof.Rows L2
open Evl (Ex)
/-- the exception at a with its dict at dd -/
def excD (a dd : Addr) (k : Nat) : D := .ext a (fun S => S dd = some (.xd [(("index" : Str), V.int (k : Int))])) fun _ _ e h => e _ _ h
structure ClK (K : PySem.W.Frag) (mg : Str → Option Value) (C : Addr) : Prop where
  own : ∀ q ∈ clsTab, ∃ A, mg q.1 = some (.ref A) ∧ PySem.W.kitOne K (.ref C) (.ref A) = some q.2
  ve : PySem.W.kitOne K (.ref C) (.type "ValueError") = some false
  le : PySem.W.kitOne K (.ref C) (.type "LookupError") = some false
  ae : PySem.W.kitOne K (.ref C) (.type "ArithmeticError") = some true
structure HotX (X : Cx) (C fI a dd : Addr) (oe : Obj) : Prop where
  T : ClX.ClT X.K X.mg C fI
  XC : XcC X.K C
  CK : ClK X.K X.mg C
  hp : (a, oe) ∈ X.pn
  hz : Zc (.ref C) (some dd) oe
  hf : ∃ vs, oe.data = .fields vs
section
variable {X : Cx} {ρ : En} {C fI a dd : Addr} {oe : Obj} {k : Nat} {e o : Expr} {b : Bool} {x : Str} {pos p pn apos cpos : Pos} {d d1 d2 d3 d4 d5 d6 : D}
theorem cd_isX {v : V} {cv : Value} (hv : ∀ u, RelV v u → u = cv) (hk : PySem.W.kitOne X.K (.ref C) cv = some b) : CallD (rIsX X.K C dd a k) [excD a dd k, .val v] (.bl b) := fun S H us Q e r q => by
  obtain ⟨v1, v2, rfl, r1, r2⟩ := two_rep r
  obtain ⟨h1, h2⟩ := r1.ext
  refine ⟨v, cv, b, by rw [h1, r2.val], e _ _ h2, hv, hk, q _ S H (Gr.refl e) rep_bl⟩
theorem e_isO (B : Bi X.mg) (h : HotX X C fI a dd oe) (hx : (x, b) ∈ clsTab) (he : Em X e ρ (excD a dd k)) (hg : L2.Gl X "isinstance" := by rfl) (hgn : L2.Gl X x := by rfl) (hs : starEach [e, .Name x pn] X.env = (false, eval e X.env) :: starEach [.Name x pn] X.env := by rfl) (hs2 : starEach [.Name x pn] X.env = (false, eval (.Name x pn) X.env) :: starEach [] X.env := by rfl) (hpl : (backTo pos (starEach [.Name x pn] X.env)).any (·.1) = false := by rfl) (hdb : (x == ("__debug__" : Str)) = false := by decide) :
    Em X (.Call (.Name "isinstance" p) [e, .Name x pn] [] pos) ρ (.bl b) := by
  obtain ⟨A, h1, h2⟩ := h.CK.own _ hx
  exact em_callB (call_isX h.T h.XC h.hp h.hz h.hf) (cd_isX (v := .ref A) (fun u q => q) h2) hg (B.free _ (by decide)) boot_isinstance (a2 he (em_glob (fun _ => rep_val) hgn h1 rfl hdb) hs hs2) (he := hs) (hpl := hpl)
theorem e_isT {T : String} (B : Bi X.mg) (h : HotX X C fI a dd oe) (hT : bootBuiltins x = some (.type T)) (hk : PySem.W.kitOne X.K (.ref C) (.type T) = some b) (hm : X.mg x = none) (he : Em X e ρ (excD a dd k)) (hg : L2.Gl X "isinstance" := by rfl) (hgn : L2.Gl X x := by rfl) (hs : starEach [e, .Name x pn] X.env = (false, eval e X.env) :: starEach [.Name x pn] X.env := by rfl) (hs2 : starEach [.Name x pn] X.env = (false, eval (.Name x pn) X.env) :: starEach [] X.env := by rfl) (hpl : (backTo pos (starEach [.Name x pn] X.env)).any (·.1) = false := by rfl) (hdb : (x == ("__debug__" : Str)) = false := by decide) (hnn : x ≠ "__name__" := by decide) :
    Em X (.Call (.Name "isinstance" p) [e, .Name x pn] [] pos) ρ (.bl b) :=
  em_callB (call_isX h.T h.XC h.hp h.hz h.hf) (cd_isX (v := .ty T) (fun u q => q) hk) hg (B.free _ (by decide)) boot_isinstance (a2 he (pe_mono (pe_bltn (v := .ty T) hgn hm hT rfl hnn hdb) (tC_D fun _ => rep_val)) hs hs2) (he := hs) (hpl := hpl)
theorem e_ixE (h : HotX X C fI a dd oe) (he : Em X e ρ (excD a dd k)) (hb : attributeBase e "index" X.env (eval e X.env) = eval e X.env := by rfl) : Em X (.Attribute e "index" pos) ρ (.int (k : Int)) :=
  pe_mono (pe_ix (k := k) h.T h.hp h.hz h.hf he hb) fun σ H Q ⟨S, e, rE, kk⟩ => ⟨S, e, rE, fun v S1 H1 g1 r1 => ⟨r1.ext.1, g1.sh _ _ r1.ext.2, kk _ S1 H1 g1 rep_int⟩⟩
theorem e_splitD {t s : Str} (hs' : (s.length == 0) = false) (hz : t.length + 2 ≤ 100000) (ho : Em X o ρ (.str t)) (h : Em X e ρ (.str s)) (hbase : attributeBase o "split" X.env (eval o X.env) = eval o X.env := by rfl)
    (hfew : ((backTo cpos (starEach [e] X.env)).all (fun x => !x.1) && (backToKw cpos (keywordEach [] X.env)).all (fun x => x.1.isSome) && decide ([e].length + ([] : List Keyword).length + (if ([] : List Keyword).isEmpty then 0 else 1) < 30)) = true := by rfl)
    (hline : (apos.endLine == cpos.line) = true := by rfl) (hs : starEach [e] X.env = (false, eval e X.env) :: starEach [] X.env := by rfl) (hplain : (backTo cpos (starEach [] X.env)).any (·.1) = false := by rfl) : Em X (.Call (.Attribute o "split" apos) [e] [] cpos) ρ (.lst ((Txt.split t s).map D.str)) :=
  em_bm ty_str PySem.F.plainAttrs_str PySem.F.slot_str_split PySem.F.type_str_split mt_split (fun S H u us Q e r1 r2 k => by
    obtain ⟨v, rfl, r3⟩ := one_rep r2
    exact ⟨t, s, r1.str, by rw [r3.str], hs', Nat.le_trans hz (by decide), fun p hp => k (.ref p) _ _ (Gr.new e hp) (rep_lst upd_same repL_of_strs)⟩) ho (a1 h hs) hbase hfew hline hs hplain
theorem a6 {e1 e2 e3 e4 e5 e6 : Expr} (h1 : Em X e1 ρ d1) (h2 : Em X e2 ρ d2) (h3 : Em X e3 ρ d3) (h4 : Em X e4 ρ d4) (h5 : Em X e5 ρ d5) (h6 : Em X e6 ρ d6) (hs : starEach [e1, e2, e3, e4, e5, e6] X.env = (false, eval e1 X.env) :: starEach [e2, e3, e4, e5, e6] X.env := by rfl) (hs2 : starEach [e2, e3, e4, e5, e6] X.env = (false, eval e2 X.env) :: starEach [e3, e4, e5, e6] X.env := by rfl) (hs3 : starEach [e3, e4, e5, e6] X.env = (false, eval e3 X.env) :: starEach [e4, e5, e6] X.env := by rfl) (hs4 : starEach [e4, e5, e6] X.env = (false, eval e4 X.env) :: starEach [e5, e6] X.env := by rfl) (hs5 : starEach [e5, e6] X.env = (false, eval e5 X.env) :: starEach [e6] X.env := by rfl) (hs6 : starEach [e6] X.env = (false, eval e6 X.env) :: starEach [] X.env := by rfl) : Ea X [e1, e2, e3, e4, e5, e6] ρ [d1, d2, d3, d4, d5, d6] := ea_cons h1 (ea_cons h2 (a4 h3 h4 h5 h6 hs3 hs4 hs5 hs6) hs2) hs
end
section
variable {P : Program} {w : World} {K : PySem.W.Frag} {mg : Str → Option Value} {base : Heap} {f fI C : Addr} {fd : FuncData}
def srtS (C : Addr) (p : Addr × Obj) : Sp := fun vs H Q _ => ∃ S dd k, vs = [.ref p.1] ∧ Ex S H ∧ S dd = some (.xd [(("index" : Str), V.int ((k : Nat) : Int))]) ∧ Zc (.ref C) (some dd) p.2 ∧ (∃ vs, p.2.data = .fields vs) ∧ ∀ S' H', Gr S H S' H' → Q (.str "Clash") H'
def fldS (C : Addr) (p : Addr × Obj) : Sp := fun vs H Q _ => ∃ S dd k, vs = [.str "Clash", .ref p.1] ∧ Ex S H ∧ S dd = some (.xd [(("index" : Str), V.int ((k : Nat) : Int))]) ∧ Zc (.ref C) (some dd) p.2 ∧ (∃ vs, p.2.data = .fields vs) ∧ ∀ S' H', Gr S H S' H' → Q (.int (k : Int)) H'
abbrev nSt : List Str := ["_law_e", "_law_fits", "_law_at", "_law_bases", "_law_own", "_law_words"]
theorem sc_st : FnScope nSt ["_law_e"] (defScope (top 89)) := C8.fnScope_by (by decide +kernel)
abbrev nFl : List Str := ["_law_word", "_law_e", "_law_indexed"]
theorem sc_fl : FnScope nFl ["_law_word", "_law_e"] (defScope (top 90)) := C8.fnScope_by (by decide +kernel)
def fl_ (n : Nat) : List Bool := (clsTab.take n).map (·.2)
def wds : Str := "InvalidText InvalidMarks InvalidIndex InvalidWord NotARanking NotAHouse NotALook NotLooks OtherThings InvalidRow InvalidMenu InvalidThings InvalidTaken InvalidRankings InvalidLooks InvalidTable UnknownThing TooMany NoHouse "
theorem gd_bls {l : List Bool} {n : Nat} : gd (.lst (l.map D.bl)) (n + 1) = true := gd_lst fun d hd => by
  obtain ⟨x, _, rfl⟩ := List.mem_map.mp hd
  exact gd_bl
theorem ok_st (F : FnP K "_law_sort" "_law_sort" (top 89) f fd) (B : Bi mg) (T : ClX.ClT K mg C fI) (XC : XcC K C) (CK : ClK K mg C) : FnQ P w K mg base 1 f fd ["_law_e"] (srtS C) := by
  refine fnQ_of F sc_st (fun p vs H Q E ⟨S, dd, k, h, _⟩ => by rw [h] <;> rfl) fun cdv A outer s H vs Q E p hr ⟨S, dd, k, hv, e, hdd, hz, hf, q⟩ => ?_
  subst hv
  obtain ⟨a, oe⟩ := p
  have hX : HotX (L2H.cxH C8.CX0 P w K mg base nSt "_law_sort" (defScope (top 89)) f cdv A outer s H E (a, oe)) C fI a dd oe := ⟨T, XC, CK, List.mem_singleton.mpr rfl, hz, hf⟩
  have hu : (L2H.cxH C8.CX0 P w K mg base nSt "_law_sort" (defScope (top 89)) f cdv A outer s H E (a, oe)).A.units + 64 < cLine := by
    have := hr.un
    show (A.deeper _).units + 64 < cLine
    omega
  have body : Ess (L2H.cxH C8.CX0 P w K mg base nSt "_law_sort" (defScope (top 89)) f cdv A outer s H E (a, oe)) (defBody (top 89)) [some (excD a dd k), none, none, none, none, none] (.rt (.str "Clash")) := by
    refine ess_nx (st_ 1 sc_st.nd (d := .lst ((fl_ 3).map D.bl)) (em_lst (a3 (e_isO B hX (b := false) (by decide) (v 0)) (e_isO B hX (b := false) (by decide) (v 0)) (e_isO B hX (b := false) (by decide) (v 0))) (by decide))) ?_
    refine ess_nx (st_ 1 sc_st.nd (d := .lst ((fl_ 6).map D.bl)) (em_is (e_catL (v 1) (em_lst (a3 (e_isO B hX (b := false) (by decide) (v 0)) (e_isO B hX (b := false) (by decide) (v 0)) (e_isO B hX (b := false) (by decide) (v 0))) (by decide)) (by decide)) rfl)) ?_
    refine ess_nx (st_ 1 sc_st.nd (d := .lst ((fl_ 9).map D.bl)) (em_is (e_catL (v 1) (em_lst (a3 (e_isO B hX (b := false) (by decide) (v 0)) (e_isO B hX (b := false) (by decide) (v 0)) (e_isO B hX (b := false) (by decide) (v 0))) (by decide)) (by decide)) rfl)) ?_
    refine ess_nx (st_ 1 sc_st.nd (d := .lst ((fl_ 12).map D.bl)) (em_is (e_catL (v 1) (em_lst (a3 (e_isO B hX (b := false) (by decide) (v 0)) (e_isO B hX (b := false) (by decide) (v 0)) (e_isO B hX (b := false) (by decide) (v 0))) (by decide)) (by decide)) rfl)) ?_
    refine ess_nx (st_ 1 sc_st.nd (d := .lst ((fl_ 15).map D.bl)) (em_is (e_catL (v 1) (em_lst (a3 (e_isO B hX (b := false) (by decide) (v 0)) (e_isO B hX (b := false) (by decide) (v 0)) (e_isO B hX (b := false) (by decide) (v 0))) (by decide)) (by decide)) rfl)) ?_
    refine ess_nx (st_ 1 sc_st.nd (d := .lst ((fl_ 18).map D.bl)) (em_is (e_catL (v 1) (em_lst (a3 (e_isO B hX (b := false) (by decide) (v 0)) (e_isO B hX (b := false) (by decide) (v 0)) (e_isO B hX (b := false) (by decide) (v 0))) (by decide)) (by decide)) rfl)) ?_
    refine ess_nx (st_ 1 sc_st.nd (d := .lst ((fl_ 22).map D.bl)) (em_is (e_catL (v 1) (em_lst (a4 (e_isO B hX (b := false) (by decide) (v 0)) (e_isO B hX (b := false) (by decide) (v 0)) (e_isO B hX (b := true) (by decide) (v 0)) (e_isO B hX (b := false) (by decide) (v 0))) (by decide)) (by decide)) rfl)) ?_
    refine ess_nx (st_ 1 sc_st.nd (d := .lst ((fl_ 23).map D.bl)) (em_is (e_catL (v 1) (em_lst (a1 (e_isO B hX (b := false) (by decide) (v 0))) (by decide)) (by decide)) rfl)) ?_
    refine ess_nx (es_skip (et_is (t_neI (e_countB (l := fl_ 23) (v 1) em_bl) em_int) (by decide))) ?_
    refine ess_nx (st_ 2 sc_st.nd (e_indexB (l := fl_ 23) (j := 20) (by decide) (fun m z hm hz => ?_) (v 1) em_bl)) ?_
    · have key : ∀ m, m < 20 → (fl_ 23)[m]? = some false := by decide
      rw [key m hm] at hz
      exact (Option.some.inj hz).symm
    refine ess_nx (st_ 3 sc_st.nd (d := .lst ([false, false, true].map D.bl)) (em_lst (a3 (e_isO B hX (b := false) (by decide) (v 0)) (e_isO B hX (b := false) (by decide) (v 0)) (e_isO B hX (b := true) (by decide) (v 0))) (by decide))) ?_
    refine ess_nx (st_ 4 sc_st.nd (d := .lst ([false, false, true].map D.bl)) (em_lst (a3 (e_isT B hX (b := false) (by decide +kernel) CK.ve (B.free _ (by decide)) (v 0)) (e_isT B hX (b := false) (by decide +kernel) CK.le (B.free _ (by decide)) (v 0)) (e_isT B hX (b := true) (by decide +kernel) CK.ae (B.free _ (by decide)) (v 0))) (by decide))) ?_
    have g3 : gd (.lst ([false, false, true].map D.bl)) 60 = true := gd_bls
    refine ess_nx (es_skip (et_w (ew_or (p := false) (q := false) (et_is (t_neD (x := .lst ([false, false, true].map D.bl)) (y := .lst ([false, false, true].map D.bl)) (q := true) hu (v 3) (em_is (em_lst (a3 (c_lt (v 2) em_int) (c_eqI (v 2) em_int) (c_gt (v 2) em_int)) (by show 3 ≤ 100000; decide)) rfl) (gd_plain g3) (gd_plain g3) (gd_shaped g3) (gd_shaped g3) (eqv_refl g3)) rfl) fun _ => ew_or1 (et_is (t_neD (x := .lst ([false, false, true].map D.bl)) (y := .lst ([false, false, true].map D.bl)) (q := true) hu (v 4) (v 3) (gd_plain g3) (gd_plain g3) (gd_shaped g3) (gd_shaped g3) (eqv_refl g3)) rfl)))) ?_
    refine ess_nx (st_ 5 sc_st.nd em_str) ?_
    refine ess_nx (st_ 5 sc_st.nd (e_cat (v 5) em_str (by decide +kernel))) ?_
    refine ess_nx (st_ 5 sc_st.nd (d := .str wds) (em_is (e_cat (v 5) em_str (by decide +kernel)) (congrArg D.str (by decide +kernel)))) ?_
    exact ess_one (es_ret (e_ixL (j := 20) (l := (Txt.split (wds ++ "NoTable Clash Broken NothingToUndo") " ").map D.str) (get_str (by decide +kernel)) (e_splitD (by decide +kernel) (by decide +kernel) (e_cat (v 5) em_str (by decide +kernel)) em_str) (v 2)))
  refine ⟨_, body, S, e, repE_start (N := nSt) (ds := [excD a dd k]) (vs := [.ref a]) (repL_cons (rep_ext hdd) repL_nil), fun v' S' H' g r => ?_⟩
  rw [r.str]
  exact q S' H' g
theorem ok_fl (F : FnP K "_law_field" "_law_field" (top 90) f fd) (T : ClX.ClT K mg C fI) (XC : XcC K C) (CK : ClK K mg C) : FnQ P w K mg base 1 f fd ["_law_word", "_law_e"] (fldS C) := by
  refine fnQ_of F sc_fl (fun p vs H Q E ⟨S, dd, k, h, _⟩ => by rw [h] <;> rfl) fun cdv A outer s H vs Q E p hr ⟨S, dd, k, hv, e, hdd, hz, hf, q⟩ => ?_
  subst hv
  obtain ⟨a, oe⟩ := p
  have hX : HotX (L2H.cxH C8.CX0 P w K mg base nFl "_law_field" (defScope (top 90)) f cdv A outer s H E (a, oe)) C fI a dd oe := ⟨T, XC, CK, List.mem_singleton.mpr rfl, hz, hf⟩
  have body : Ess (L2H.cxH C8.CX0 P w K mg base nFl "_law_field" (defScope (top 90)) f cdv A outer s H E (a, oe)) (defBody (top 90)) [some (.str "Clash"), some (excD a dd k), none] (.rt (.int (k : Int))) := by
    refine ess_nx (es_skip (et_is (t_inL (l := ["", "NothingToUndo"]) (v 0) (em_lst (a2 em_str em_str) (by decide))) (by decide))) ?_
    refine ess_nx (es_skip (et_is (t_inL (l := ["TooMany", "NoHouse"]) (v 0) (em_lst (a2 em_str em_str) (by decide))) (by decide))) ?_
    refine ess_nx (es_skip (et_is (t_eqS (v 0) em_str) (by decide))) ?_
    refine ess_nx (st_ 2 sc_fl.nd (d := .lst ((["InvalidRow", "InvalidMenu", "InvalidThings", "InvalidTaken", "InvalidRankings", "InvalidLooks"] : List Str).map D.str)) (em_lst (a6 em_str em_str em_str em_str em_str em_str) (by decide))) ?_
    exact ess_one (es_ret (em_if (p := true) (et_is (t_inL (l := (["InvalidRow", "InvalidMenu", "InvalidThings", "InvalidTaken", "InvalidRankings", "InvalidLooks"] : List Str) ++ (["InvalidTable", "Clash", "Broken"] : List Str)) (v 0) (em_is (e_catL (v 2) (em_lst (a3 em_str em_str em_str) (by decide)) (by decide)) rfl)) (by decide)) (fun _ => e_ixE hX (v 1)) fun h => nomatch h))
  refine ⟨_, body, S, e, repE_start (N := nFl) (ds := [.str "Clash", excD a dd k]) (vs := [.str "Clash", .ref a]) (repL_cons rep_str (repL_cons (rep_ext hdd) repL_nil)), fun v' S' H' g r => ?_⟩
  rw [r.int]
  exact q S' H' g
end
end Mh
set_option maxRecDepth 100000
set_option maxHeartbeats 2000000
/-! E6: try: .. except (X1, X2, X3) as n: .., the error is one of the three. (After the kit's rule for one class.) -/
namespace Mh
open PySem PySem.Spec PyProof.Rows L2
open Evl (Ex)
def wT3 (K : PySem.W.Frag) (cs : List Value) (i : Nat) (ts : Addr → Value → Option Addr → TS) (D : Ends) : WX := fun cls d σ H =>
  PySem.W.exmAny K cls cs = some true ∧ ∀ a, H a = none → ts a cls d { nx := fun σ' H' => D.nx (σ'.set i none) H', rt := D.rt, bk := fun σ' H' => D.bk (σ'.set i none) H', ct := fun σ' H' => D.ct (σ'.set i none) H' } (σ.set i (some (.ref a))) H
theorem flyZ_keeps {B h h' : Heap} {l : List Env} {e : Addr} {Z : Obj → Prop} (R : HandSPX.FlyingZ B l e Z h) (k : ∀ b o, h.get? b = some o → h'.get? b = some o) : HandSPX.FlyingZ B l e Z h' := by
  obtain ⟨f1, f2, f3, oe, ws, T, oT, ts, he, hz, hd, h1, hn, hne, hT, hdT, h3⟩ := R
  exact ⟨fun b o q => k b o (f1 b o q), f2, f3.of_keeps fun b o q _ => ⟨o, k b o q, rfl⟩, oe, ws, T, oT, ts, k _ _ he, hz, hd, h1, hn, hne, k _ _ hT, hdT, h3⟩
section
variable {X : Cx} {x1 x2 x3 n : Str} {c1 c2 c3 : Value} {i : Nat} {body suite : List Stmt} {b₀ : Stmt} {p1 p2 p3 tpos pos pos' : Pos} {kk : Nat} {tb : WX → TS} {ts : Addr → Value → Option Addr → TS}
theorem ps_try_tup3 (hs : X.stack = X.env :: X.outer) (hf : X.env.frame = some X.env.locals) (hN : X.N.Nodup) (hi : X.N[i]? = some n) (hln : X.env.kindOf n = some .local)
    (g1 : L2.Gl X x1) (m1 : X.mg x1 = some c1) (d1 : (x1 == ("__debug__" : Str)) = false) (g2 : L2.Gl X x2) (m2 : X.mg x2 = some c2) (d2 : (x2 == ("__debug__" : Str)) = false) (g3 : L2.Gl X x3) (m3 : X.mg x3 = some c3) (d3 : (x3 == ("__debug__" : Str)) = false)
    (hb : ∀ (W : WX) (pn : List (Addr × Obj)) (xe : Value → Shared → Prop), Takes (X.tr pn xe) W → PassesOwn (model X.prog X.w) X.A X.env xe → PSs (X.tr pn xe) body (tb W))
    (hsu : ∀ (a : Addr) (oe : Obj) (cls : Value) (d : Option Addr) (pn : List (Addr × Obj)), Zc cls d oe → (∃ vs, oe.data = .fields vs) → PSs (X.suite a ((a, oe) :: pn)) (b₀ :: suite) (ts a cls d)) :
    PS X (.Try body [.ExceptHandler (some (.Tuple [.Name x1 p1, .Name x2 p2, .Name x3 p3] kk tpos)) (some n) (b₀ :: suite) pos'] [] [] pos) (fun D σ H => tb (wT3 X.K [c1, c2, c3] i ts D) D σ H) := by
  refine ⟨fun pins s σ H D I h => ?_⟩
  have ok := I.ok
  have hfr : X.A.frames = some (X.env :: X.outer) := by rw [ok.frames, hs]
  have hloc : Loc X.env.scope n := .inl hln
  refine wpAny_Try_except ?_
  refine wpAny_mono ((hb (wT3 X.K [c1, c2, c3] i ts D) (X.pn ++ pins) (fun e s₁ => wpAny (model X.prog X.w) X.A (noteFrame e X.env) (fun _ s₂ => wpAny (model X.prog X.w) X.A (setFlight e none) (fun _ s₃ =>
    wpAny (model X.prog X.w) X.A (handleBy e X.env [.ExceptHandler (some (.Tuple [.Name x1 p1, .Name x2 p2, .Name x3 p3] kk tpos)) (some n) (b₀ :: suite) pos']) (SP X pins D) X.xe s₃) X.xe s₂) X.xe s₁) (fun u s' xx => ?_) PassesOwn.looking).run [] s σ H D (I.toTry _) h) (fun f s1 hsp => ?_) (fun e s1 he => he)
  · obtain ⟨a, B, sI, pins', σ', H', cls, d, rfl, J', nb, up, sky, na, os, ag, hb1, hyes⟩ := xx
    have J : Inv X pins σ' H' sI := J'.ofTry ok
    have sky' : Sky B (X.env :: X.outer) a (Zc cls d) X.env.locals s'.heap := by rw [← hs]; exact sky
    show wpAny (model X.prog X.w) X.A (noteFrame (.ref a) X.env) _ _ _
    refine Sky.land Zc.steady hfr hf sky' fun h3 fl3 up3 => ?_
    have J3 : Inv X pins σ' H' { s' with heap := h3 } := J.landed nb fl3.1 (up.trans up3) os ag
    obtain ⟨oe3, vs3, he3, hz3, hd3⟩ := fl3.there
    have notFr : ∀ {h : Heap} {o : Obj} {vs : Array Value}, h.FunFrames B (X.env :: X.outer) → h.get? a = some o → o.data = .fields vs → a ∉ frs (X.env :: X.outer) := fun {h o vs} ff e dd hm => by
      obtain ⟨_, o', e', hnf⟩ := ff.mem hm
      rw [e] at e'; cases e'
      exact hnf _ dd
    have nfr := notFr fl3.2.2.1 he3 hd3
    have nL : a ≠ X.env.locals := fun z => nfr (List.mem_filterMap.mpr ⟨X.env, List.mem_cons_self, by rw [hf, z]⟩)
    have nF : a ∉ X.fs := fun hm => by
      obtain ⟨e, he, q⟩ := List.mem_filterMap.mp hm
      exact nfr (List.mem_filterMap.mpr ⟨e, List.mem_cons_of_mem _ he, q⟩)
    have S3 := J3.suite he3 hd3 na nL nF
    refine wpAny_handleBy_cons (codeAny_handlers_test ?_) (by intro q; cases q)
    have LT : PySem.W.Looks (model X.prog X.w) h3 (typeOf (.ref a)) cls := fun A Q E s k q => wpAny_typeOf_ref (k _ _ he3) (by rw [hz3.1]; exact q)
    have kp : ∀ q o, h3.get? q = some o → (h3.push { cls := .type "tuple", data := .seq [c1, c2, c3].toArray }).get? q = some o := fun _ _ z => Heap.get?_push_of_some _ z
    have LM := PySem.W.exm_tup3 (M := model X.prog X.w) (J3.kIn.keeps kp) (LT.keeps kp) (Heap.get?_push_size h3 rfl) hb1
    refine wpAny_Tuple ?_
    refine wpAny_items_cons (ld_glob (X := X.suite a ((a, oe3) :: (X.pn ++ pins))) S3 g1 m1 ?_ d1)
    refine wpAny_items_cons (ld_glob (X := X.suite a ((a, oe3) :: (X.pn ++ pins))) S3 g2 m2 ?_ d2)
    refine wpAny_items_cons (ld_glob (X := X.suite a ((a, oe3) :: (X.pn ++ pins))) S3 g3 m3 ?_ d3)
    refine wpAny_items_nil ⟨by size_fits, LM.here ?_⟩
    have fl3' := flyZ_keeps fl3 kp
    have up3' : h3.UpToSlots (h3.push { cls := .type "tuple", data := .seq [c1, c2, c3].toArray }) := Heap.UpToSlots.of_keeps kp
    refine codeAny_handlers_suite_as ?_
    refine HandSPX.lands_againZ fl3' fun h4 fl4 up4 => ?_
    have J4 : Inv X pins σ' H' { s' with heap := h4 } := J.landed nb fl4.1 (((up.trans up3).trans up3').trans up4) os ag
    obtain ⟨oe4, vs4, he4, hz4, hd4⟩ := fl4.there
    have S4 := J4.suite he4 hd4 na nL nF
    refine store_ok (X := X.suite a ((a, oe4) :: (X.pn ++ pins))) (v := .ref a) S4 hN hi hloc rfl (fun s5 S5 => ?_) (.inr hln)
    refine wpAny_mono ((hsu a oe4 cls d (X.pn ++ pins) hz4 ⟨_, hd4⟩).run [] s5 _ H' _ S5 (hyes a na)) (fun f s6 hsp => ?_) (fun _ _ z => False.elim z)
    have end_ : ∀ {σ6 : L2.St} {H6 : Hp} {Q : Shared → Prop}, Inv (X.suite a ((a, oe4) :: (X.pn ++ pins))) [] σ6 H6 s6 → (∀ s7, Inv X pins (σ6.set i none) H6 s7 → Q s7) →
        wpAny (model X.prog X.w) X.A (do bindName X.env n .none; unbindBehindTheSuite X.env n pos') (fun _ s7 => Q s7) X.xe s6 := fun {σ6 H6 Q} S6 hq => gone_ok (S6.unsuite ok) hN hi hln hq
    cases f with
    | next =>
      obtain ⟨σ6, H6, S6, q6⟩ := hsp
      exact end_ S6 fun s7 J7 => ⟨_, _, J7, q6⟩
    | brk =>
      obtain ⟨σ6, H6, S6, q6⟩ := hsp
      exact end_ S6 fun s7 J7 => ⟨_, _, J7, q6⟩
    | cont =>
      obtain ⟨σ6, H6, S6, q6⟩ := hsp
      exact end_ S6 fun s7 J7 => ⟨_, _, J7, q6⟩
    | ret u =>
      obtain ⟨v6, σ6, H6, S6, r6, q6⟩ := hsp
      exact end_ S6 fun s7 J7 => ⟨_, _, _, J7, r6, q6⟩
  · cases f with
    | next =>
      obtain ⟨σ', H', J', q⟩ := hsp
      exact wpAny_execs_nil ⟨σ', H', J'.ofTry ok, q⟩
    | brk =>
      obtain ⟨σ', H', J', q⟩ := hsp
      exact ⟨σ', H', J'.ofTry ok, q⟩
    | cont =>
      obtain ⟨σ', H', J', q⟩ := hsp
      exact ⟨σ', H', J'.ofTry ok, q⟩
    | ret u =>
      obtain ⟨v, σ', H', J', r, q⟩ := hsp
      exact ⟨v, σ', H', J'.ofTry ok, r, q⟩
end
end Mh
set_option maxRecDepth 100000
set_option maxHeartbeats 2000000
/-! E7: _law_caught of an act that raises Clash. -/
namespace Mh
open PySem PySem.Spec PyProof.Rows L2
open Evl (Ex)
section
variable {X : Cx} {ρ : En} {C fI a dd fs : Addr} {oe : Obj} {k j kk : Nat} {e o : Expr} {pos p : Pos} {fd : FuncData} {ps : List Str}
theorem boot_repr : bootBuiltins "repr" = some (.builtin "repr") := by decide +kernel
theorem e_reprI {i : Int} (B : Bi X.mg) (hz : i.natAbs < 1000) (h : Em X e ρ (.int i)) (hg : L2.Gl X "repr" := by rfl) (hs : starEach [e] X.env = (false, eval e X.env) :: starEach [] X.env := by rfl) : Em X (.Call (.Name "repr" p) [e] [] pos) ρ (.str (toString i)) :=
  em_callB SkE.call_repr_int (fun S H us Q e r k => by
    obtain ⟨v, rfl, r1⟩ := one_rep r
    refine ⟨i, by rw [r1.int], ?_, k _ S H (Gr.refl e) rep_str⟩
    have : i.natAbs.log2 < 10 := by
      by_cases z : i.natAbs = 0
      · rw [z]; decide
      · exact (Nat.log2_lt z).mpr (by omega)
    omega) hg (B.free _ (by decide)) boot_repr (a1 h hs) (he := hs)
theorem e_sort (F : FnQ X.prog X.w X.K X.mg X.base kk fs fd ["_law_e"] (srtS C)) (hr : L2H.RoomH j X.A) (hk : kk ≤ j) (hp : (a, oe) ∈ X.pn) (hz : Zc (.ref C) (some dd) oe) (hf : ∃ vs, oe.data = .fields vs) (hm : X.mg "_law_sort" = some (.ref fs)) (hkp : PySem.W.keepIn X.K (.ref fs) = true) (hb : L2.Binds X.K fd ["_law_e"] []) (h : Em X e ρ (excD a dd k)) (hg : L2.Gl X "_law_sort" := by rfl) (hs : starEach [e] X.env = (false, eval e X.env) :: starEach [] X.env := by rfl) : Em X (.Call (.Name "_law_sort" p) [e] [] pos) ρ (.str "Clash") :=
  pe_mono (pe_callQ F (hr.mono hk) hp hg hm hkp hb (a1 h hs) (by decide) hs) fun σ H Q ⟨S, e, rE, kq⟩ => ⟨S, e, rE, fun vs S1 H1 g1 r1 => by
    obtain ⟨v, rfl, r2⟩ := one_rep r1
    obtain ⟨q1, q2⟩ := r2.ext
    exact ⟨S1, dd, k, by rw [q1], g1.sh, q2, hz, hf, fun S' H' g => kq _ S' H' (g1.trans g) rep_str⟩⟩
theorem e_field {w : Expr} (F : FnQ X.prog X.w X.K X.mg X.base kk fs fd ["_law_word", "_law_e"] (fldS C)) (hr : L2H.RoomH j X.A) (hk : kk ≤ j) (hp : (a, oe) ∈ X.pn) (hz : Zc (.ref C) (some dd) oe) (hf : ∃ vs, oe.data = .fields vs) (hm : X.mg "_law_field" = some (.ref fs)) (hkp : PySem.W.keepIn X.K (.ref fs) = true) (hb : L2.Binds X.K fd ["_law_word", "_law_e"] []) (hw : Em X w ρ (.str "Clash")) (h : Em X e ρ (excD a dd k)) (hg : L2.Gl X "_law_field" := by rfl) (hs : starEach [w, e] X.env = (false, eval w X.env) :: starEach [e] X.env := by rfl) (hs2 : starEach [e] X.env = (false, eval e X.env) :: starEach [] X.env := by rfl) (hpl : (backTo pos (starEach [e] X.env)).any (·.1) = false := by rfl) : Em X (.Call (.Name "_law_field" p) [w, e] [] pos) ρ (.int (k : Int)) :=
  pe_mono (pe_callQ F (hr.mono hk) hp hg hm hkp hb (a2 hw h hs hs2) (by decide) hs hpl) fun σ H Q ⟨S, e, rE, kq⟩ => ⟨S, e, rE, fun vs S1 H1 g1 r1 => by
    obtain ⟨v, v2, rfl, r2, r3⟩ := two_rep r1
    obtain ⟨q1, q2⟩ := r3.ext
    exact ⟨S1, dd, k, by rw [q1, r2.str], g1.sh, q2, hz, hf, fun S' H' g => kq _ S' H' (g1.trans g) rep_int⟩⟩
end
/-- what Clash(k) leaves, from S, H -/
def EK (C : Addr) (k : Nat) (S H : Hp) : XK := fun cls d H' => cls = .ref C ∧ ∃ dd S1 H1, d = some dd ∧ Gr S H S1 H1 ∧ H1 dd = none ∧ H' = clH H1 dd k
theorem KX.of {C : Addr} {k : Nat} {S H : Hp} : KX C (EK C k S H) k S H := fun d S' H' g hd => ⟨rfl, d, S', H', rfl, g, hd, rfl⟩
def dueD (k : Nat) : D := .tup [.str "Clash", .str (toString (k : Int))]
def TTc (C : Addr) : (XK → Hp → VK → Prop) → Hp → VK → Prop := fun tl H Q => ∃ S k, Ex S H ∧ k < 1000 ∧ (∀ Q', tl (EK C k S H) H Q') ∧ ∀ v S' H', Gr S H S' H' → Rep S' (dueD k) v → Q v H'
abbrev nCa : List Str := ["_law_act", "_law_told", "_law_e", "_law_word"]
theorem sc_ca : FnScope nCa ["_law_act"] (defScope (top 91)) := C8.fnScope_by (by decide +kernel)
theorem caught_gives {X : Cx} {C g fs ff : Addr} {fds fdf : FuncData} {cdg : Value} {q : Str} {A1 A2 A3 : Addr} {j : Nat} (B : Bi X.mg) (hr : Room (j + 2) X.A)
    (m1 : X.mg "WrongValue" = some (.ref A1)) (m2 : X.mg "WrongName" = some (.ref A2)) (m3 : X.mg "NoAnswer" = some (.ref A3)) (hex : PySem.W.exmAny X.K (.ref C) [.ref A1, .ref A2, .ref A3] = some true)
    (Fs : FnQ X.prog X.w X.K X.mg X.base 1 fs fds ["_law_e"] (srtS C)) (ms : X.mg "_law_sort" = some (.ref fs)) (ks : PySem.W.keepIn X.K (.ref fs) = true) (bs : L2.Binds X.K fds ["_law_e"] [])
    (Ff : FnQ X.prog X.w X.K X.mg X.base 1 ff fdf ["_law_word", "_law_e"] (fldS C)) (mf : X.mg "_law_field" = some (.ref ff)) (kf : PySem.W.keepIn X.K (.ref ff) = true) (bf : L2.Binds X.K fdf ["_law_word", "_law_e"] []) :
    LamX.GivesTo X nCa "_law_caught" (defScope (top 91)) g cdg (defBody (top 91)) "_law_act" q (TTc C) := by
  intro f c' s H Q tl act hc h
  obtain ⟨S, k, eS, hk, htl, hQ⟩ := h
  refine ⟨_, pss_cons (ps_try_tup3 (X := (cxOf C8.CX0 X.prog X.w X.K X.mg X.base nCa "_law_caught" (defScope (top 91)) g cdg X.A X.stack s H C8.E0).nox) (i := 2) (c1 := .ref A1) (c2 := .ref A2) (c3 := .ref A3)
    (tb := fun W D σ H0 => ∃ Ech : XK, (∀ cls d σ' H', σ'.length = 4 → Ech cls d H' → W cls d σ' H') ∧ σ[0]? = some (some (.ref f)) ∧ H0 c' = some (LamX.CodeO c' q) ∧ ∀ Q', tl Ech H0 Q')
    (ts := fun a cls d D σ H0 => ∃ p : Addr × Nat, (cls = .ref C ∧ d = some p.1 ∧ p.2 < 1000) ∧ tsD [none, none, some (excD a p.1 p.2), none] (.rt (dueD p.2)) D σ H0)
    rfl rfl sc_ca.nd rfl rfl rfl m1 rfl rfl m2 rfl rfl m3 rfl (fun W pn xe tk _ => ?body) fun a oe cls d pn hz hf => ?suite) pss_never, ?fin⟩
  case body =>
    exact pss_some (P := fun Ech : XK => ∀ cls d σ' H', σ'.length = 4 → Ech cls d H' → W cls d σ' H') (t := fun Ech D σ H0 => σ[0]? = some (some (.ref f)) ∧ H0 c' = some (LamX.CodeO c' q) ∧ ∀ Q', tl Ech H0 Q') fun Ech hW => pss_mono (pss_one (ps_set (i := 1) sc_ca.nd rfl (.inl rfl) (act (fun cls d σ' H' => σ'.length = 4 → W cls d σ' H') pn xe Ech _ _ (fun u s' ⟨a, B, sI, pins, σ, H, cls, d, e, I, nb, up, sky, na, os, ag, w⟩ => tk u s' ⟨a, B, sI, pins, σ, H, cls, d, e, I, nb, up, sky, na, os, ag, w (by have := I.len; exact this)⟩) (fun cls d σ' H' hE hl => hW cls d σ' H' hl hE)))) fun D σ H' ⟨h1, h2, h3⟩ => ⟨h1, h2, h3 _⟩
  case suite =>
    refine pss_some (P := fun p : Addr × Nat => cls = .ref C ∧ d = some p.1 ∧ p.2 < 1000) fun p ⟨h1, h2, h3⟩ => ?_
    subst h1 h2
    have hrH : L2H.RoomH (j + 1) (X.A.deeper (envOfC "_law_caught" (defScope (top 91)) s.heap.objs.size g cdg) |>.mark (some (.ref a))) := ⟨(hr.deeper (envOfC "_law_caught" (defScope (top 91)) s.heap.objs.size g cdg)).dp, (hr.deeper (envOfC "_law_caught" (defScope (top 91)) s.heap.objs.size g cdg)).un⟩
    have B' : Bi ((cxOf C8.CX0 X.prog X.w X.K X.mg X.base nCa "_law_caught" (defScope (top 91)) g cdg X.A X.stack s H C8.E0).nox.suite a ((a, oe) :: pn)).mg := B
    refine ess_nx (st_ 3 sc_ca.nd (e_sort (k := p.2) (oe := oe) (dd := p.1) Fs hrH (by omega) (List.mem_cons_self ..) hz hf ms ks bs (v 2))) ?_
    exact ess_one (es_ret (em_tup (a2 (v 3) (e_reprI B' (by omega) (e_field (k := p.2) (oe := oe) (dd := p.1) Ff hrH (by omega) (List.mem_cons_self ..) hz hf mf kf bf (v 3) (v 2)))) (by show 2 ≤ 100000; decide)))
  case fin =>
    refine ⟨EK C k S H, fun cls d σ' H' hl hE => ?_, rfl, hc, htl⟩
    obtain ⟨rfl, dd, S1, H1, rfl, g1, hn, rfl⟩ := hE
    refine ⟨hex, fun a ha => ⟨(dd, k), ⟨rfl, rfl, hk⟩, ?_⟩⟩
    have g2 : Gr S1 H1 (upd S1 dd (.xd [(("index" : Str), V.int (k : Int))])) (clH H1 dd k) := Gr.new g1.sh hn
    refine ⟨_, g2.sh, ⟨by rw [List.length_set, hl] <;> rfl, fun i d q => ?_⟩, fun v S' H' g3 r => hQ v S' H' (g1.trans (g2.trans g3)) r⟩
    match i, q with
    | 2, q =>
      cases q
      exact ⟨.ref a, by rw [List.getElem?_set_self (by rw [hl]; decide)], rep_ext upd_same⟩
    | 0, q => cases q
    | 1, q => cases q
    | 3, q => cases q
    | i + 4, q => cases q
end Mh
set_option maxRecDepth 100000
set_option maxHeartbeats 2000000
/-! E8: lambdas are made: tables of code objects change; values that stand without them. -/
namespace Mh
open PySem PySem.Spec PyProof.Rows L2
open Evl (Ex)
mutual
/-- tuples, lists, objects, flat values alone -/
def pureD : D → Bool
  | .scr _ _ => false
  | .ext _ _ _ => false
  | .tup l => pureDs l
  | .lst l => pureDs l
  | .obj _ _ l => pureDs l
  | _ => true
def pureDs : List D → Bool
  | [] => true
  | d :: l => pureD d && pureDs l
end
/-- without tables -/
def noT (S : Hp) : Hp := fun a => match S a with
  | some (.tbl _) => none
  | o => o
theorem noT_of {S : Hp} {a : Addr} {o : HO} (h : S a = some o) (hn : ∀ ps, o ≠ .tbl ps) : noT S a = some o := by
  unfold noT
  rw [h]
  cases o with
  | tbl ps => exact absurd rfl (hn ps)
  | _ => rfl
theorem noT_at {S : Hp} {a : Addr} {o : HO} (h : noT S a = some o) : S a = some o ∧ ∀ ps, o ≠ .tbl ps := by
  unfold noT at h
  cases q : S a with
  | none =>
    rw [q] at h
    cases h
  | some u =>
    rw [q] at h
    cases u with
    | tbl ps => cases h
    | _ =>
      cases h
      exact ⟨rfl, fun ps z => nomatch z⟩
theorem noT_none {S : Hp} {a : Addr} (h : S a = none) : noT S a = none := by
  unfold noT
  rw [h]
mutual
theorem Rep.noT {S : Hp} : ∀ {d : D} {v : V}, pureD d = true → Rep S d v → Rep (noT S) d v
  | .int _, _, _, r => by rw [r.int]; exact rep_int
  | .bl _, _, _, r => by rw [r.bl]; exact rep_bl
  | .non, _, _, r => by rw [r.non]; exact rep_non
  | .str _, _, _, r => by rw [r.str]; exact rep_str
  | .val _, _, _, r => by rw [r.val]; exact rep_val
  | .scr _ _, _, h, _ => by
    unfold pureD at h
    cases h
  | .ext _ _ _, _, h, _ => by
    unfold pureD at h
    cases h
  | .tup m, _, h, r => by
    unfold pureD at h
    obtain ⟨a, vs, rfl, h1, h2⟩ := r.tup
    exact rep_tup (noT_of h1 fun ps z => nomatch z) (RepL.noT h h2)
  | .lst m, _, h, r => by
    unfold pureD at h
    obtain ⟨a, vs, rfl, h1, h2⟩ := r.lst
    exact rep_lst (noT_of h1 fun ps z => nomatch z) (RepL.noT h h2)
  | .obj c ns m, _, h, r => by
    unfold pureD at h
    obtain ⟨a, dx, vs, rfl, h1, h2⟩ := r.obj
    exact rep_obj (dx := dx) (noT_of h1 fun ps z => nomatch z) (RepL.noT h h2)
theorem RepL.noT {S : Hp} : ∀ {ds : List D} {vs : List V}, pureDs ds = true → RepL S ds vs → RepL (noT S) ds vs
  | [], _, _, r => by rw [r.nil]; exact repL_nil
  | d :: ds, _, h, r => by
    unfold pureDs at h
    rw [Bool.and_eq_true] at h
    obtain ⟨v, rs, rfl, h2, h3⟩ := r.cons
    exact repL_cons (Rep.noT h.1 h2) (RepL.noT h.2 h3)
end
def pureE (ρ : En) : Bool := ρ.all fun o => match o with
  | some d => pureD d
  | none => true
theorem RepE.noT {S : Hp} {ρ : En} {σ : L2.St} (h : pureE ρ = true) (r : RepE S ρ σ) : RepE (noT S) ρ σ := ⟨r.len, fun i d q => by
  obtain ⟨v, h1, h2⟩ := r.at_ i d q
  have hd : pureD d = true := List.all_eq_true.mp h (some d) (List.mem_of_getElem? q)
  exact ⟨v, h1, Rep.noT hd h2⟩⟩
theorem noT_ext {S H H' : Hp} (e : Ex S H) (x : LamX.ExtN H H') : Ex (noT S) H' := fun a o h => by
  obtain ⟨h1, h2⟩ := noT_at h
  exact x a o (e a o h1) h2
/-- all but what is exempt stays -/
def HX (ex : Addr → Prop) (H H' : Hp) : Prop := ∀ a o, ¬ ex a → (∀ ps, o ≠ .tbl ps) → H a = some o → H' a = some o
theorem HX.refl {ex : Addr → Prop} {H : Hp} : HX ex H H := fun _ _ _ _ h => h
theorem HX.trans {ex : Addr → Prop} {H H1 H2 : Hp} (a : HX ex H H1) (b : HX ex H1 H2) : HX ex H H2 := fun x o h1 h2 h3 => b x o h1 h2 (a x o h1 h2 h3)
theorem HX.mono {ex ex' : Addr → Prop} {H H1 : Hp} (a : HX ex H H1) (h : ∀ x, ex x → ex' x) : HX ex' H H1 := fun x o h1 h2 h3 => a x o (fun z => h1 (h x z)) h2 h3
theorem HX.ofN {ex : Addr → Prop} {H H1 : Hp} (x : LamX.ExtN H H1) : HX ex H H1 := fun a o _ h2 h3 => x a o h3 h2
theorem HX.ofEx {ex : Addr → Prop} {H H1 : Hp} (x : Ex H H1) : HX ex H H1 := fun a o _ _ h3 => x a o h3
theorem HX.upd {ex : Addr → Prop} {H : Hp} {a : Addr} {o : HO} (h : ex a) : HX ex H (upd H a o) := fun x o' h1 _ h3 => by
  rw [upd_ne (fun z => h1 (by rw [z]; exact h))]
  exact h3
/-- the urn in the heap -/
def UrnH (u : Addr) (n : Nat) (H : Hp) : Prop := ∃ g s c : Int, H u = some (.lst [.int g, .int s, .int c]) ∧ 0 ≤ s ∧ s < 2305843009213693951 ∧ 0 ≤ c ∧ c + n ≤ 1000000000000
theorem UrnH.of {u : Addr} {n : Nat} {S H : Hp} (h : UrnS u n S H) : UrnH u n H := h.2
theorem UrnH.s {u : Addr} {n : Nat} {S H : Hp} (h : UrnH u n H) (hs : S u = none) : UrnS u n S H := ⟨hs, h⟩
theorem UrnH.x {ex : Addr → Prop} {u : Addr} {n : Nat} {H H' : Hp} (h : UrnH u n H) (hx : HX ex H H') (he : ¬ ex u) : UrnH u n H' := by
  obtain ⟨g, s, c, h1, h2⟩ := h
  exact ⟨g, s, c, hx u _ he (fun ps z => nomatch z) h1, h2⟩
theorem codeO_ne_lst {c : Addr} {q : Str} {vs : List V} : LamX.CodeO c q ≠ .lst vs := fun z => by
  unfold LamX.CodeO at z
  cases z
theorem Tabs.upd {T : List (Addr × Str)} {H : Hp} {a : Addr} {vs ws : List V} (t : LamX.Tabs T H) (ha : H a = some (.lst vs)) : LamX.Tabs T (upd H a (.lst ws)) := fun p hp => by
  obtain ⟨ps, h1, h2, h3⟩ := t p hp
  refine ⟨ps, ?_, h2, fun pos cv hc => ?_⟩
  · rw [upd_ne (fun z => by rw [z, ha] at h1; cases h1)]
    exact h1
  · obtain ⟨c, e1, e2⟩ := h3 pos cv hc
    exact ⟨c, e1, by rw [upd_ne (fun z => by rw [z, ha] at e2; exact absurd (Option.some.inj e2).symm codeO_ne_lst)]; exact e2⟩
/-- tables stay where nothing but lists is touched -/
theorem Tabs.keep {T : List (Addr × Str)} {H H' : Hp} (t : LamX.Tabs T H) (k : ∀ b o, (∀ vs, o ≠ .lst vs) → H b = some o → H' b = some o) : LamX.Tabs T H' := fun p hp => by
  obtain ⟨ps, h1, h2, h3⟩ := t p hp
  refine ⟨ps, k _ _ (fun vs z => nomatch z) h1, h2, fun pos cv hc => ?_⟩
  obtain ⟨c, e1, e2⟩ := h3 pos cv hc
  exact ⟨c, e1, k _ _ (fun vs => codeO_ne_lst) e2⟩
end Mh
set_option maxRecDepth 100000
set_option maxHeartbeats 2000000
/-! E9: _law_refused_right: the acts. -/
namespace Mh
open PySem PySem.Spec PyProof.Rows L2
open Evl (Ex)
theorem tLam_of {C : Addr} {T : List (Addr × Str)} {S H : Hp} {ρ : En} {σ : L2.St} {k : Nat} {Q : VK} (e : Ex S H) (rE : RepE S ρ σ) (hp : pureE ρ = true) (t : LamX.Tabs T H) (hk : k < 1000)
    (q : ∀ v S' H2 H', LamX.ExtN H H2 → LamX.Tabs T H2 → Gr (noT S) H2 S' H' → Rep S' (dueD k) v → Q v H') : LamX.tLam T (TTc C) (fun E => teX C E ρ k) σ H Q :=
  ⟨t, fun H2 x t2 => ⟨noT S, k, noT_ext e x, hk, fun _ => ⟨noT S, noT_ext e x, rE.noT hp, KX.of⟩, fun v S' H' g r => q v S' H2 H' x t2 g r⟩⟩
/-- the acts, the list of what is found at fl -/
def tF (T : List (Addr × Str)) (u fl : Addr) (n m k : Nat) (ρ : En) : TS := fun Dn σ H => ∃ S, Ex S H ∧ RepE S ρ σ ∧ UrnH u n H ∧ LamX.Tabs T H ∧ S fl = none ∧ fl ≠ u ∧ (∃ vs, H fl = some (.lst vs) ∧ RepL S (List.replicate m (dueD k)) vs) ∧
  ∀ v H', HX (fun a => a = u ∨ a = fl) H H' → UrnH u n H' → LamX.Tabs T H' → v = .bl true → Dn.rt v H'
def tF0 (T : List (Addr × Str)) (u : Addr) (n : Nat) (ρ : En) : TS := fun Dn σ H => ∃ S, Ex S H ∧ RepE S ρ σ ∧ UrnH u n H ∧ LamX.Tabs T H ∧
  ∀ v H', HX (fun a => a = u) H H' → UrnH u n H' → LamX.Tabs T H' → v = .bl true → Dn.rt v H'
section
variable {X : Cx} {C u fl : Addr} {T : List (Addr × Str)} {ρ : En} {n m k j : Nat} {e a : Expr} {pos cpos apos : Pos} {rest : List Stmt}
theorem dueD_pure : pureD (dueD k) = true := rfl
theorem pure_rep : ∀ m, pureDs (List.replicate m (dueD k)) = true
  | 0 => rfl
  | m + 1 => by
    rw [List.replicate_succ]
    unfold pureDs
    rw [dueD_pure, pure_rep m] <;> rfl
theorem rep_snoc {S : Hp} {vs : List V} {v : V} {d : D} (r : RepL S (List.replicate m d) vs) (h : Rep S d v) : RepL S (List.replicate (m + 1) d) (vs ++ [v]) := by
  rw [List.replicate_succ']
  exact r.append (repL_cons h repL_nil)
theorem f_app (hp : pureE ρ = true) (hk : k < 1000) (hm : m < 1000) (ho : Em X a ρ (.val (.ref fl))) (he : PE X e (LamX.tLam T (TTc C) fun E => teX C E ρ k)) (hr : PSs X rest (tF T u fl n (m + 1) k ρ)) (hbase : attributeBase a "append" X.env (eval a X.env) = eval a X.env := by rfl)
    (hfew : ((backTo cpos (starEach [e] X.env)).all (fun x => !x.1) && (backToKw cpos (keywordEach [] X.env)).all (fun x => x.1.isSome) && decide ([e].length + ([] : List Keyword).length + (if ([] : List Keyword).isEmpty then 0 else 1) < 30)) = true := by rfl)
    (hline : (apos.endLine == cpos.line) = true := by rfl) (hs : starEach [e] X.env = (false, eval e X.env) :: starEach [] X.env := by rfl) (hplain : (backTo cpos (starEach [] X.env)).any (·.1) = false := by rfl) (hsw : swapsWith (.Call (.Attribute a "append" apos) [e] [] cpos) none pos.line X.env = pure false := by rfl) :
    PSs X (.Expr (.Call (.Attribute a "append" apos) [e] [] cpos) pos :: rest) (tF T u fl n m k ρ) :=
  pss_mono (pss_cons (ps_expr (pe_bm PySem.F.plainAttrs_list PySem.F.slot_list_append PySem.F.type_list_append mt_append ho (pa_cons he pa_nil hs) hbase hfew hline hs hplain) hsw) hr) fun Dn σ H ⟨S, e, rE, hu, ht, hfl, hne, ⟨vs, h1, h2⟩, K⟩ => ⟨S, e, rE, fun v S1 H1 g1 r1 => by
    rw [r1.val]
    refine ⟨Or.inl ⟨rfl, vs, SqL.of (g1.hh _ _ h1)⟩, ?_⟩
    refine tLam_of g1.sh (rE.mono g1.ss) hp (ht.ext g1.hh) hk fun v S' H2 H3 x t2 g r => ?_
    have f2 : H2 fl = some (.lst vs) := x fl _ (g1.hh _ _ h1) fun ps z => nomatch z
    have f3 : H3 fl = some (.lst vs) := g.hh _ _ f2
    have s1 : S1 fl = none := g1.fr _ _ hfl h1 ntl
    have s3 : S' fl = none := g.fr _ _ (noT_none s1) f2 ntl
    have rv : RepL S' (List.replicate m (dueD k)) vs := (RepL.noT (pure_rep m) (h2.mono g1.ss)).mono g.ss
    have hx : HX (fun a => a = u ∨ a = fl) H H3 := ((HX.ofEx g1.hh).trans (HX.ofN x)).trans (HX.ofEx g.hh)
    have hx0 : HX (fun _ => False) H H3 := ((HX.ofEx g1.hh).trans (HX.ofN x)).trans (HX.ofEx g.hh)
    have hlen := h2.length
    rw [List.length_replicate] at hlen
    have rE3 : RepE S' ρ σ := ((rE.mono g1.ss).noT hp).mono g.ss
    have ex3 : Ex S' (upd H3 fl (.lst (vs ++ [v]))) := fun a o ha => by
      rw [upd_ne (fun z => by rw [z, s3] at ha; cases ha)]
      exact g.sh a o ha
    have hux : HX (fun a => a = u ∨ a = fl) H (upd H3 fl (.lst (vs ++ [v]))) := hx.trans (HX.upd (.inr rfl))
    have hu3 : UrnH u n (upd H3 fl (.lst (vs ++ [v]))) := by
      obtain ⟨g', s', c', q1, q2⟩ := hu.x hx0 (fun z => z)
      exact ⟨g', s', c', by rw [upd_ne (Ne.symm hne)]; exact q1, q2⟩
    refine ⟨fl, vs, v, rfl, rfl, f3, Evl.sz_lt (by omega), S', ex3, rE3, hu3, Tabs.upd (t2.ext g.hh) f3, s3, hne, ⟨_, upd_same, rep_snoc rv r⟩, fun v' H' hx' hu' ht' hv => K v' H' (hux.trans hx') hu' ht' hv⟩⟩
/-- found = [..] -/
theorem f_new {i : Nat} {x : Str} {p' p2 : Pos} (nd : X.N.Nodup) (hp : pureE ρ = true) (hk : k < 1000) (he : PE X e (LamX.tLam T (TTc C) fun E => teX C E ρ k)) (hr : ∀ fl, PSs X rest (tF T u fl n 1 k (ρ.set i (some (.val (.ref fl)))))) (hi : X.N[i]? = some x := by rfl) (hx : Loc X.env.scope x := by first | exact .inl rfl | exact .inr rfl)
    (hs : swapsWith (.List [e] p2) (some (.Name x p')) pos.line X.env = pure false := by rfl) (hf : X.fn x = true ∨ X.env.scope.names.lookup x = some .local := by first | exact .inl rfl | exact .inr rfl) (hst : starEach [e] X.env = (false, eval e X.env) :: starEach [] X.env := by rfl) :
    PSs X (.Assign [.Name x p'] (.List [e] p2) pos :: rest) (tF0 T u n ρ) :=
  pss_mono (pss_cons (ps_set nd hi hx (pe_lst (pa_cons he pa_nil hst)) hs hf) (pss_some (P := fun _ : Addr => True) fun fl _ => hr fl)) fun Dn σ H ⟨S, e, rE, hu, ht, K⟩ => by
    refine tLam_of e rE hp ht hk fun v S' H2 H3 x t2 g r => ?_
    refine ⟨by show 1 ≤ sizeLine; decide, fun fl hfl => ⟨fl, trivial, ?_⟩⟩
    have hx0 : HX (fun _ => False) H H3 := (HX.ofN x).trans (HX.ofEx g.hh)
    have s3 : S' fl = none := none_of_ex g.sh hfl
    have hu1 := hu.x hx0 (fun z => z)
    have hne : fl ≠ u := fun z => by
      obtain ⟨g', s', c', q1, q2⟩ := hu1
      rw [z, q1] at hfl
      cases hfl
    have ex3 : Ex S' (upd H3 fl (.lst [v])) := fun a o ha => by
      rw [upd_ne (fun z => by rw [z, s3] at ha; cases ha)]
      exact g.sh a o ha
    have kx : Ex H3 (upd H3 fl (.lst [v])) := Ex.new hfl
    refine ⟨S', ex3, ((rE.noT hp).mono g.ss).set rep_val, hu1.x (HX.ofEx (ex := fun _ => False) kx) (fun z => z), (t2.ext g.hh).ext kx, s3, hne, ⟨_, upd_same, repL_cons r repL_nil⟩, fun v' H' hx' hu' ht' hv => K v' H' (fun a o h1 h2 h3 => ?_) hu' ht' hv⟩
    have q3 : H3 a = some o := hx0 a o (fun z => z) h2 h3
    exact hx' a o (fun z => z.elim h1 fun z => by rw [z, hfl] at q3; cases q3) h2 (kx a o q3)
theorem f_ret {i : Nat} (he : Em X e (ρ.set i (some (.lst (List.replicate m (dueD k))))) (.bl true)) (hi : ρ[i]? = some (some (.val (.ref fl)))) : PSs X [.Return (some e) pos] (tF T u fl n m k ρ) :=
  pss_one (ps_mono (ps_ret he) fun Dn σ H ⟨S, e, rE, hu, ht, hfl, hne, ⟨vs, h1, h2⟩, K⟩ => by
    obtain ⟨S1, e1, rE1, hg⟩ := peekO hi e rE hfl h1 h2
    refine ⟨S1, e1, rE1, fun v S' H' g rv => ?_⟩
    exact K v H' (HX.ofEx g.hh) (hu.x (HX.ofEx (ex := fun _ => False) g.hh) fun z => z) (ht.ext g.hh) rv.bl)
end
end Mh
set_option maxRecDepth 100000
set_option maxHeartbeats 2000000
/-! E10: _law_refused_right. -/
namespace Mh
open PySem PySem.Spec PyProof.Rows L2
open Evl (Ex)
/-- what is known of the handlers -/
structure ExF (P : Program) (w : World) (K : PySem.W.Frag) (mg : Str → Option Value) (base : Heap) (C : Addr) : Prop where
  cg : ∃ g fdg, FnP K "_law_caught" "_law_caught" (top 91) g fdg ∧ mg "_law_caught" = some (.ref g)
  cl : ∃ A1 A2 A3, mg "WrongValue" = some (.ref A1) ∧ mg "WrongName" = some (.ref A2) ∧ mg "NoAnswer" = some (.ref A3) ∧ PySem.W.exmAny K (.ref C) [.ref A1, .ref A2, .ref A3] = some true
  st : ∃ fs fds, FnQ P w K mg base 1 fs fds ["_law_e"] (srtS C) ∧ mg "_law_sort" = some (.ref fs) ∧ PySem.W.keepIn K (.ref fs) = true ∧ L2.Binds K fds ["_law_e"] []
  fl : ∃ ff fdf, FnQ P w K mg base 1 ff fdf ["_law_word", "_law_e"] (fldS C) ∧ mg "_law_field" = some (.ref ff) ∧ PySem.W.keepIn K (.ref ff) = true ∧ L2.Binds K fdf ["_law_word", "_law_e"] []
section
variable {X : Cx} {C u fl c P : Addr} {T : List (Addr × Str)} {ρ : En} {n m k j : Nat} {e a : Expr} {p lpos pos cpos apos : Pos} {rest : List Stmt} {params : Arguments} {body : Expr} {scope : Scope}
theorem e_act (B : Bi X.mg) (Q : ExF X.prog X.w X.K X.mg X.base C) (TB : LamX.TabB X.base X.mg c P) (hcode : X.env.code = .ref c) (hr : Room (j + 2) X.A)
    (hbody : ∀ (A : Around) (outer : List Env) (s : Shared) (H : Hp) (E : XK) (f c' : Addr), Room j (A.deeper (LamX.lamEnv X scope s.heap.objs.size f c')) → PE (LamX.lamCx X A outer s H E scope f c') body (teX C E ρ k))
    (L : LamX.lamSB X.env.scope scope = true) (hg : L2.Gl X "_law_caught" := by rfl) (hdef : defaultsOf params X.env = ([], []) := by rfl)
    (hbind : ∀ (q : Str) (cl : List (Str × Addr)) (pm cv ctv : Value), bindArgs (PySem.W.kla_fn "<lambda>" q params body scope cl pm cv ctv) ⟨[], []⟩ = pure [] := by intros; rfl) :
    PE X (.Call (.Name "_law_caught" p) [.Lambda params body scope lpos] [] pos) (LamX.tLam [(P, X.env.qual ++ "<lambda>")] (TTc C) fun E => teX C E ρ k) := by
  obtain ⟨g, fdg, F, mg⟩ := Q.cg
  obtain ⟨A1, A2, A3, m1, m2, m3, hex⟩ := Q.cl
  obtain ⟨fs, fds, Fs, ms, ks, bs⟩ := Q.st
  obtain ⟨ff, fdf, Ff, mf, kf, bf⟩ := Q.fl
  have kg := F.kp
  have bg : L2.Binds X.K fdg ["_law_act"] [] := F.bindsN (fun _ _ _ _ _ _ us hl => match us, hl with | [_], _ => rfl)
  obtain ⟨oc, od, dV, kV, doc, pm, an, cdv, ct, osl, rfl, lk, hcd, _⟩ := F.ex
  exact LamX.pe_lamcall (c := c) (P := P) (k := j) hg mg kg lk hcd bg sc_ca rfl (.inl rfl) (caught_gives (cdg := cdv) B hr m1 m2 m3 hex Fs ms ks bs Ff mf kf bf) TB hcode (List.mem_singleton.mpr rfl) (fun q hq _ => by rw [List.mem_singleton.mp hq]) hr (LamX.lamS_by L) hdef hbind hbody
variable {S0 H0 : Hp} {i : WI} {PP : PW_} {Φ : UO → Prop} {b : Bd} {tg : Expr} {st : Stmt}
theorem ws_asg (he : Wm X u S0 H0 e ρ i PP) (hg : PG X tg (b.tg X.K)) (hP : ∀ d j, PP d j → ∃ ρ1, bindE b ρ d = some ρ1 ∧ Φ (.nx ρ1 j)) (hs : swapsWithSole [tg] e pos.line X.env = pure false := by rfl) (hw : swappedStores [tg] e X.env = pure none := by rfl)
    (h1 : (assignEach [tg] X.env).map (·.2) = [assign tg X.env] := by rfl) : Ws X u S0 H0 (.Assign [tg] e pos) ρ i Φ :=
  ps_mono (ps_asg he hg hs hw h1) fun Dn σ H ⟨S, e, rE, w, kk⟩ => ⟨S, e, rE, w, fun d v S' H' j hp s w' r => by
    obtain ⟨ρ1, hb, hΦ⟩ := hP d j hp
    exact bind_ok s.sh (rE.mono s.ss) r hb fun σ' r' _ => kk.1 ρ1 j σ' S' H' hΦ s w' r'⟩
/-- first the draws, then the acts -/
def tM (T : List (Addr × Str)) (u : Addr) (S0 H0 : Hp) (n : Nat) (ρ : En) (i : WI) : TS := fun Dn σ H => ∃ S, Ex S H ∧ RepE S ρ σ ∧ Wld u S0 H0 i.n i.o S H ∧ LamX.Tabs T H ∧ ∀ v H', HX (fun a => a = u) H H' → UrnH u n H' → LamX.Tabs T H' → v = .bl true → Dn.rt v H'
theorem m_cons {Φ1 : En → Nat → Prop} (h1 : Ws X u S0 H0 st ρ ⟨m, none⟩ (fun o => ∃ ρ1 k, o = .nx ρ1 ⟨k, none⟩ ∧ Φ1 ρ1 k)) (h2 : ∀ ρ1 k, Φ1 ρ1 k → PSs X rest (tM T u S0 H0 n ρ1 ⟨k, none⟩)) : PSs X (st :: rest) (tM T u S0 H0 n ρ ⟨m, none⟩) :=
  pss_mono (pss_cons h1 (pss_some (P := fun q : En × Nat => Φ1 q.1 q.2) fun q hq => h2 q.1 q.2 hq)) fun Dn σ H ⟨S, e, rE, w, ht, K⟩ => ⟨S, e, rE, w, fun ρ1 j σ' S' H' ⟨ρ2, k, ho, hΦ⟩ s w' r => by
    cases ho
    have hx : HX (fun a => a = u) H H' := fun a o q1 q2 q3 => s.hh a o q1 (fun q hq => nomatch hq) q3
    refine ⟨(_, k), hΦ, S', s.sh, r, w', Tabs.keep ht fun b o hb h => s.hh b o (fun z => ?_) (fun q hq => nomatch hq) h, fun v H2 x2 => K v H2 (hx.trans x2)⟩
    obtain ⟨_, g', s', c', q1, _⟩ := w.urn
    rw [z, q1] at h
    exact hb _ (Option.some.inj h).symm, fun d j v S' H' ⟨_, _, ho, _⟩ => nomatch ho⟩
theorem m_end {sts : List Stmt} (h : PSs X sts (tF0 T u n ρ)) (hn : n ≤ m) : PSs X sts (tM T u S0 H0 n ρ ⟨m, none⟩) :=
  pss_mono h fun Dn σ H ⟨S, e, rE, w, ht, K⟩ => ⟨S, e, rE, (w.urn.le hn).2, ht, K⟩
end
section
variable {P : Program} {w : World} {K : PySem.W.Frag} {mg : Str → Option Value} {base : Heap} {f fI : Addr} {fd : FuncData} {C Cs Cl c Pt : Addr}
abbrev nRr : List Str := ["_law_urn_here", "_law_seen", "_law_named", "_law_due", "_law_menu_here", "_law_thing", "_law_some", "_law_found"]
theorem sc_rr : FnScope nRr ["_law_urn_here", "_law_seen", "_law_named", "_law_due"] (defScope (top 95)) := C8.fnScope_by (by decide +kernel)
def rrT (Pt : Addr) : List (Addr × Str) := [(Pt, (envOfC "_law_refused_right" (defScope (top 95)) 0 0 .none).qual ++ "<lambda>")]
def rrS (Cs C Pt : Addr) : Sp := fun vs H Q _ => ∃ S named ls u us n k, vs = .ref u :: us ∧ Ex S H ∧ RepL S [lsD Cs C named ls, rowD named, dueD k] us ∧ UrnS u (n + 9) S H ∧ OkNames named ∧ named.length ≤ 3 ∧ Bad named ls k ∧ LamX.Tabs (rrT Pt) H ∧
  ∀ v H', HX (fun a => a = u) H H' → UrnH u n H' → LamX.Tabs (rrT Pt) H' → v = .bl true → Q v H'
theorem tl_all : ∀ k : Nat, k < 13 → PyData.strOk (toString (k : Int)) = true := by decide +kernel
theorem ok_rr (F : FnP K "_law_refused_right" "_law_refused_right" (top 95) f fd) (hc : fd.code = .ref c) (TB : LamX.TabB base mg c Pt) (B : Bi mg) (Q : ExF P w K mg base Cl) (cd : Dr P w K mg base) (cm : CalW P w K mg base 2 "_law_menu" 4 meP meR)
    (an : MetX P w K mg base 9 Cs "answer" (spX Cl noO (anX Cs C))) (lo : MetX P w K mg base 9 Cs "look" (spX Cl noO (loX Cs C))) (cb : MetX P w K mg base 9 Cs "can_be" (spX Cl noO (cbX Cs C))) (se : MetX P w K mg base 9 Cs "settled" (spX Cl noO (ckX Cs C))) {peo : List D → D → Prop} (pe : MetX P w K mg base 12 Cs "people" (spX Cl peo (ckX Cs C))) :
    FnOk P w K mg base C8.CX0 15 f fd ["_law_urn_here", "_law_seen", "_law_named", "_law_due"] (rrS Cs C Pt) := by
  obtain ⟨oc, od, dV, kV, doc, pm, an', cdv, ct, osl, rfl, lk, hcd, _⟩ := F.ex
  have hc : cdv = .ref c := hc
  subst hc
  refine fn_of lk hcd sc_rr (fun vs H Q E ⟨S, named, ls, u, us, n, k, h, _, r, _⟩ => by rw [h]; have := r.length; simp only [List.length_cons, List.length_nil] at this ⊢; omega) fun A outer s H vs QQ E hr ⟨S, named, ls, u, us, n, k, hv, e, r, hu, hN, hn3, hB, ht, q⟩ => ?_
  subst hv
  have hk12 : k < 13 := by
    have := hB.1.2.1
    have := hB.2.2.1
    omega
  refine ⟨_, PSs.nox (X := cxOf C8.CX0 P w K mg base nRr "_law_refused_right" (defScope (top 95)) f (.ref c) A outer s H E) (m_cons (S0 := S) (H0 := H) (m := n + 9) (n := n) (T := rrT Pt) (ρ := [some (.val (.ref u)), some (lsD Cs C named ls), some (rowD named), some (dueD k), none, none, none, none]) (Φ1 := fun ρ1 k1 => ∃ m : List Str, m ≠ [] ∧ m.Sublist named ∧ k1 = n + 5 ∧ ρ1 = [some (.val (.ref u)), some (lsD Cs C named ls), some (rowD named), some (dueD k), some (rowD m), none, none, none]) ?s1 ?r1), S, e, repE_start (N := nRr) (ds := [.val (.ref u), lsD Cs C named ls, rowD named, dueD k]) (vs := .ref u :: us) (repL_cons rep_val r), ⟨⟨Ex.refl S, e, fun a o _ h => h, fun a o _ h _ _ => h⟩, hu, trivial⟩, ht, q⟩
  case s1 =>
    refine ws_set 4 sc_rr.nd (w_callP cm hr (by decide) rfl (a2 (v 0) (v 2)) ⟨named, rfl, hN.ne, hn3, hN.all⟩ (by show 4 ≤ n + 9; omega) fun d ⟨l, m, h1, h2, h3, h4⟩ => ?_)
    have e : named = l := rowD_inj (List.cons.inj h1).1
    subst e h2
    exact ⟨_, _, rfl, m, h3, h4, rfl, rfl⟩
  case r1 =>
    intro ρ1 k1 ⟨m, hm, hsub, hk1, hρ⟩
    subst hk1 hρ
    have hml : m.length ≤ 3 := Nat.le_trans hsub.length_le hn3
    have hmp : 0 < m.length := List.length_pos_iff.mpr hm
    refine m_cons (Φ1 := fun ρ1 k1 => ∃ (x : Str) (m2 : List Str), x ∈ m ∧ m2 ≠ [] ∧ m2.Sublist m ∧ k1 = n ∧ ρ1 = [some (.val (.ref u)), some (lsD Cs C named ls), some (rowD named), some (dueD k), some (rowD m), some (.str x), some (rowD m2), none]) (ws_asg (b := .two 5 6) (PP := fun d j => ∃ x m2, x ∈ m ∧ m2 ≠ [] ∧ m2.Sublist m ∧ d = .tup [.str x, rowD m2] ∧ j = ⟨n, none⟩) (w_tup (wa2 (P1 := fun d j => ∃ x, x ∈ m ∧ d = .str x ∧ j = ⟨n + 4, none⟩) (P2 := fun _ _ y j => ∃ m2, m2 ≠ [] ∧ m2.Sublist m ∧ y = rowD m2 ∧ j = ⟨n, none⟩) (w_ixT (v 4) (w_draw cd hr (by decide) m.length (by omega) (by omega) (by show 1 ≤ n + 5; omega) (v 0) (em_is (e_lenT B (v 4 (d := rowD m))) (by rw [List.length_map])) fun q hq => ⟨q, .str m[q], rfl, get_str (List.getElem?_eq_getElem hq), m[q], List.getElem_mem hq, rfl, rfl⟩)) (fun x j ⟨y, h1, h2, h3⟩ => ?c2) (Pl := fun ds j => ∃ x m2, x ∈ m ∧ m2 ≠ [] ∧ m2.Sublist m ∧ ds = [.str x, rowD m2] ∧ j = ⟨n, none⟩) fun x j y k ⟨x1, h1, h2, h3⟩ ⟨m2, h4, h5, h6, h7⟩ => ⟨x1, m2, h1, h4, h5, by rw [h2, h6], h7⟩) fun ds j ⟨x, m2, h1, h2, h3, h4, h5⟩ => ⟨by rw [h4]; show 2 ≤ 100000; decide, x, m2, h1, h2, h3, by rw [h4], h5⟩) (pn2 5 6 sc_rr.nd) fun d j ⟨x, m2, h1, h2, h3, h4, h5⟩ => ?b2) ?r2
    case c2 =>
      subst h2 h3
      refine w_callP cm hr (by decide) rfl (a2 (v 0) (v 4)) ⟨m, rfl, hm, hml, fun x hx => hN.all x (hsub.subset hx)⟩ (by show 4 ≤ n + 4; omega) fun d ⟨l, m2, h1, h2, h3, h4⟩ => ?_
      have e : m = l := rowD_inj (List.cons.inj h1).1
      subst e h2
      exact ⟨m2, h3, h4, rfl, rfl⟩
    case b2 =>
      subst h4 h5
      exact ⟨_, rfl, _, _, rfl, x, m2, h1, h2, h3, rfl, rfl⟩
    case r2 =>
      intro ρ1 k1 ⟨x, m2, hx, hm2, hs2, hk1, hρ⟩
      subst hk1 hρ
      have asc : named.Pairwise slt := hN.asc
      have hchk : chkR [rowD m, rowD named] .non := ⟨⟨m, named, rfl, hm, by omega, asc.sublist hsub, fun y hy => hsub.subset hy, rfl⟩, rfl⟩
      have hchk2 : chkR [rowD m2, rowD m] .non := ⟨⟨m2, m, rfl, hm2, by have := hs2.length_le; omega, (asc.sublist hsub).sublist hs2, fun y hy => hs2.subset hy, rfl⟩, rfl⟩
      have hcth : cthR [.str x, rowD m] .non := ⟨⟨x, m, rfl, hx, rfl⟩, rfl⟩
      have hbad : ckX Cs C [lsD Cs C named ls] k := ⟨named, ls, rfl, hB.1, hB.2.1, hB.2.2⟩
      have hrow : ∀ l : List Str, pureD (rowD l) = true := fun l => by
        show pureDs (l.map D.str) = true
        induction l with
        | nil => rfl
        | cons a l ih =>
          show pureDs (D.str a :: l.map D.str) = true
          unfold pureDs
          rw [ih] <;> rfl
      have hlss : ∀ ls : List Lk, pureDs (ls.map (lkD C)) = true := fun ls => by
        induction ls with
        | nil => rfl
        | cons a l ih =>
          show pureDs (lkD C a :: l.map (lkD C)) = true
          unfold pureDs
          rw [ih]
          have h1 := hrow a.1
          have h2 : pureD (lkD C a) = pureDs [.tup (a.1.map D.str), .str (SX.S a.2)] := rfl
          rw [h2]
          unfold pureDs
          have h3 : pureD (.tup (a.1.map D.str)) = true := h1
          rw [h3] <;> rfl
      have hls : pureD (lsD Cs C named ls) = true := by
        have h2 : pureD (lsD Cs C named ls) = pureDs [.tup (named.map D.str), .tup (ls.map (lkD C))] := rfl
        rw [h2]
        unfold pureDs
        have h3 : pureD (.tup (named.map D.str)) = true := hrow named
        rw [h3]
        unfold pureDs
        have h4 : pureD (.tup (ls.map (lkD C))) = true := hlss ls
        rw [h4] <;> rfl
      have hpu : ∀ o : Option D, (∀ d, o = some d → pureD d = true) → pureE [some (.val (.ref u)), some (lsD Cs C named ls), some (rowD named), some (dueD k), some (rowD m), some (.str x), some (rowD m2), o] = true := fun o ho => by
        unfold pureE
        rw [List.all_eq_true]
        intro y hy
        simp only [List.mem_cons, List.not_mem_nil, or_false] at hy
        rcases hy with rfl | rfl | rfl | rfl | rfl | rfl | rfl | rfl
        · rfl
        · exact hls
        · exact hrow _
        · rfl
        · exact hrow _
        · rfl
        · exact hrow _
        · cases y with
          | none => rfl
          | some d => exact ho d rfl
      have hrk : Room 14 (A.deeper (envOfC "_law_refused_right" (defScope (top 95)) s.heap.objs.size f (.ref c))) := hr
      refine m_end (f_new (i := 7) (C := Cl) (k := k) sc_rr.nd (hpu none (fun _ h => nomatch h)) (by omega) (e_act (j := 12) (k := k) B Q TB rfl hr ?l1 (by show LamX.lamSB (defScope (top 95)) _ = true; decide +kernel)) fun fl => ?r3) (Nat.le_refl _)
      case l1 =>
        intro A' outer' s' H' E' f' c' hr'
        exact x_mt an (takes_of rfl rfl rfl rfl) hr' (by decide) (v 1 (d := lsD Cs C named ls)) rfl (a2 (v 4) (v 5)) ⟨named, ls, m, x, rfl, hB, hchk, hcth⟩
      case r3 =>
        have hpf := hpu (some (.val (.ref fl))) (fun d h => by cases h; rfl)
        refine f_app (C := Cl) hpf (by omega) (by omega) (v 7) (e_act (j := 12) (k := k) B Q TB rfl hr ?l2 (by show LamX.lamSB (defScope (top 95)) _ = true; decide +kernel)) ?r4
        case l2 =>
          intro A' outer' s' H' E' f' c' hr'
          exact x_mt lo (takes_of rfl rfl rfl rfl) hr' (by decide) (v 1 (d := lsD Cs C named ls)) rfl (a1 (v 4)) ⟨named, ls, m, rfl, hB, hchk⟩
        refine f_app (C := Cl) hpf (by omega) (by omega) (v 7) (e_act (j := 12) (k := k) B Q TB rfl hr ?l3 (by show LamX.lamSB (defScope (top 95)) _ = true; decide +kernel)) ?r5
        case l3 =>
          intro A' outer' s' H' E' f' c' hr'
          exact x_mt cb (takes_of rfl rfl rfl rfl) hr' (by decide) (v 1 (d := lsD Cs C named ls)) rfl (a2 (v 4) (v 6)) ⟨named, ls, m, m2, rfl, hB, hchk, hchk2⟩
        refine f_app (C := Cl) hpf (by omega) (by omega) (v 7) (e_act (j := 12) (k := k) B Q TB rfl hr ?l4 (by show LamX.lamSB (defScope (top 95)) _ = true; decide +kernel)) ?r6
        case l4 =>
          intro A' outer' s' H' E' f' c' hr'
          exact x_mt0 se (takes_of rfl rfl rfl rfl) hr' (by decide) (v 1 (d := lsD Cs C named ls)) rfl hbad
        refine f_app (C := Cl) hpf (by omega) (by omega) (v 7) (e_act (j := 12) (k := k) B Q TB rfl hr ?l5 (by show LamX.lamSB (defScope (top 95)) _ = true; decide +kernel)) ?r7
        case l5 =>
          intro A' outer' s' H' E' f' c' hr'
          exact x_mt0 pe (takes_of rfl rfl rfl rfl) hr' (by decide) (v 1 (d := lsD Cs C named ls)) rfl hbad
        have gdue : gd (dueD k) 10 = true := gd_tup fun d hd => by
          simp only [List.mem_cons, List.not_mem_nil, or_false] at hd
          rcases hd with rfl | rfl
          · exact gd_str (by decide +kernel)
          · exact gd_str (tl_all k hk12)
        have g5 : gd (.lst (List.replicate 5 (dueD k))) 60 = true := gd_mono (show 11 ≤ 60 by decide) (gd_lst fun d hd => by
          rw [List.eq_of_mem_replicate hd]
          exact gdue)
        exact f_ret (i := 7) (c_eqD (x := .lst (List.replicate 5 (dueD k))) (y := .lst (List.replicate 5 (dueD k))) (q := true) (hu64 hr) (v 7) (em_is (e_rep (l := [dueD k]) (n := 5) (em_lst (a1 (v 3)) (by show 1 ≤ 100000; decide)) em_int (by show 1 * 5 ≤ 100000; decide) (by decide)) rfl) (gd_plain g5) (gd_plain g5) (gd_shaped g5) (gd_shaped g5) (eqv_refl g5)) rfl
end
end Mh
set_option maxRecDepth 100000
set_option maxHeartbeats 2000000
/-! E11: {k: v for x in xs}, the keys tuples (after the kit's rule for keys that are ints or texts). -/
namespace Mh
open PySem PySem.Spec PyProof.Rows L2
open Evl (Ex)
theorem d_dictSetT {X : Cx} {pins : List (Addr × Obj)} {σ : L2.St} {H : Hp} {s : Shared} {E : Value → Shared → Prop} {D b : Addr} {kvs : List (List Key × V)} {k : List Key} {v : V} {u r : Value} {Q : Unit → Shared → Prop} (hu : X.A.units + 1 < cLine) (I : Inv X pins σ H s) (hD : H D = some (.dT kvs)) (hz : kvs.length < sizeLine)
    (eb : H b = some (.tup (k.map kV))) (ry : RelV (.ref b) u) (rv : RelV v r) (h : ∀ s', Inv X pins σ (upd H D (.dT (putK kvs k v))) s' → Q () s') : wpAny (model X.prog X.w) X.A (dictSet D u r) Q E s := by
  cases (show u = Value.ref b from ry)
  obtain ⟨z, hd, xs, rel, dd⟩ := dt_of I.hok hD
  have hzv : xs.length ≤ sizeLine := by rw [← Paired.length rel]; exact z
  have hl : (putK kvs k v).length ≤ sizeLine := by have := length_putK kvs k v; omega
  refine wpAny_dictSet_heap (hsz := hzv) (show (tupleKind (mixKind X.prog X.w)).room X.A from Nat.lt_of_succ_lt hu) (key_of I.hok eb) dd fun h' dd' hs => h _ ?_
  obtain ⟨q, es, ep, hq, h2, h3, h4, _, h5⟩ := dd'
  refine d_write I (by rw [hD]; exact True.intro) hs ⟨q, hq⟩ ⟨hl, hd, _, (rel.put k eb rv).keeps fun c ys ec => ?_, q, es, ep, hq, h2, h3, h4, h5⟩
  rw [upd_ne (ne_of ec hD (fun z => nomatch z))]
  exact ec
section
variable {X : Cx}
def tDcT (wi : TI) (g : TG) (tk tv : TE) (vs : List Nat) : TE := fun σ H Q => wi σ H fun J H1 => ∀ D, H1 D = none → ∃ W : Nat → Nat → Hp → Prop, (∃ m, W 0 m (upd H1 D (.dT []))) ∧ ∀ i m H, W i m H →
  (J.stop i H ∧ Q (.ref D) H) ∨ (J.go i H ∧ ∃ Nx : Hp → Prop, (∀ H', Nx H' → ∃ m', m' < m ∧ W (i + 1) m' H') ∧ ∀ x H', J.yld i H x H' → g x (wipe σ vs) H' fun σ2 H2 => wipe σ2 vs = wipe σ vs ∧
    tk σ2 H2 fun y H4 => tv σ2 H4 fun z H5 => ∃ kvs k b, y = .ref b ∧ H5 b = some (.tup (k.map kV)) ∧ H5 D = some (.dT kvs) ∧ kvs.length < sizeLine ∧ Nx (upd H5 D (.dT (putK kvs k z))))
theorem dcT_core {pins : List (Addr × Obj)} {s : Shared} {σ : L2.St} {H : Hp} {Q : VK} {kx vx tg iter : Expr} {scope : Scope} {own : List (Str × Nat)} {pos pos' : Pos} {wi : TI} {g : TG} {tk tv : TE} {use : Option (Value → Sem Unit)} {Qf : Value → Shared → Prop}
    (hu : X.A.units + 1 < cLine) (hc : X.calm = true) (hN : X.N.Nodup) (I : Inv X pins σ H s) (hi : PI X tg iter wi) (ok : BlkOk X.N X.env.scope scope own)
    (hg : ∀ (s : Shared) (H : Hp) (C : Addr) (cl : List (Str × Addr)) (fp : List Addr), PG (X.blk s H scope (compEnvC scope cl C X.env) fp) tg g)
    (hk : ∀ (s : Shared) (H : Hp) (C : Addr) (cl : List (Str × Addr)) (fp : List Addr), PE (X.blk s H scope (compEnvC scope cl C X.env) fp) kx tk)
    (he : ∀ (s : Shared) (H : Hp) (C : Addr) (cl : List (Str × Addr)) (fp : List Addr), PE (X.blk s H scope (compEnvC scope cl C X.env) fp) vx tv) (hs : ∀ x, foldedSetIterable iter X.env x = pure x)
    (h : tDcT wi g tk tv (own.map (·.2)) σ H Q)
    (hRR : ∀ D C s' m H', Inv X pins σ H' s' → Q (.ref D) H' → s'.heap.Ns C m → FpOk X pins H' C → compPost (model X.prog X.w) X.A X.xe use Qf (.ref D) C (.ok .next) s') :
    wpAny (model X.prog X.w) X.A (comprehension (.DictComp kx vx [⟨tg, iter, [], 0⟩] scope pos) scope X.env pos' newDict false (eval iter X.env) use) Qf X.xe s := by
  have hfree : ∀ y ∈ scope.names, y.2 = .free → ∃ c, X.env.cells.lookup y.1 = some c := fun y hy e => by
    rcases ok.free y hy e with k | k
    · exact I.ok.has _ (.inl k)
    · exact I.ok.has _ (.inr k)
  refine wpAny_comprehension_free (use := use) rfl hs (closure_ok hfree) ok.kind (fun y hy e => by rw [ok.uniq y hy, e])
    (thn (hi.run pins s σ H _ I h) fun xv s1 hx => thn hx fun itv s2 h2 => ?_)
  obtain ⟨it, fp, tn, J, H2, e, I2, T, st2, f2, q⟩ := h2
  subst e
  refine wpAny_newObj_type (newEnv_comp ?_)
  generalize hD : s2.heap.objs.size = D
  have hDn : H2 D = none := I2.hok.fresh (Nat.le_of_eq hD)
  obtain ⟨W, ⟨m0, w0⟩, turn⟩ := q D hDn
  generalize hs3 : ({ s2 with heap := s2.heap.push { cls := .type "dict", data := .dict #[] } } : Shared) = s3
  have I3 : Inv X pins σ (upd H2 D (.dT [])) s3 := by
    rw [← hs3]
    refine I2.laid (t' := s2.toks) (fun b o e => Heap.get?_push_of_some _ e) (Nat.le_of_eq hD) ?_
    rw [← hD]
    exact dt_empty s2.heap I2.big
  have h3 : s3.heap = s2.heap.push { cls := .type "dict", data := .dict #[] } := by rw [← hs3]
  have sz : ∀ b ∈ fp, b < s2.heap.objs.size := fun b hb => by
    obtain ⟨o, e, _⟩ := T.obj _ _ st2 b hb
    exact Heap.lt_size e
  have f3 : ∀ b ∈ fp, FpOk X pins (upd H2 D (.dT [])) b ∧ b < s3.heap.objs.size := fun b hb => by
    have hlt := sz b hb
    refine ⟨⟨?_, (f2 b hb).2⟩, by rw [h3, Heap.size_push]; exact Nat.lt_succ_of_lt hlt⟩
    rw [upd_ne (by rw [← hD]; exact Nat.ne_of_lt hlt)]
    exact (f2 b hb).1
  have st3 : tn 0 s3.heap := T.keep _ _ _ st2 fun b _ o e => by rw [h3]; exact Heap.get?_push_of_some _ e
  have I4 := block_start I3 ok hN f3
  have pg := hg s3 (upd H2 D (.dT [])) s3.heap.objs.size (cellsFrom (s3.heap.objs.size + 1) scope.names (cloFrom X.env.cells scope.names [])) fp
  have pk := hk s3 (upd H2 D (.dT [])) s3.heap.objs.size (cellsFrom (s3.heap.objs.size + 1) scope.names (cloFrom X.env.cells scope.names [])) fp
  have pe := he s3 (upd H2 D (.dT [])) s3.heap.objs.size (cellsFrom (s3.heap.objs.size + 1) scope.names (cloFrom X.env.cells scope.names [])) fp
  have pt : PTs (X.blk s3 (upd H2 D (.dT [])) scope (compEnvC scope (cellsFrom (s3.heap.objs.size + 1) scope.names (cloFrom X.env.cells scope.names [])) s3.heap.objs.size X.env) fp) [] _ := pts_nil
  show codeAny _ _ (.compStart (.DictComp kx vx [⟨tg, iter, [], 0⟩] scope pos) 0 (.ref it) (.ref D) (compEnvC scope (cellsFrom (s3.heap.objs.size + 1) scope.names (cloFrom X.env.cells scope.names [])) s3.heap.objs.size X.env)) (compPost (model X.prog X.w) X.A X.xe use Qf (.ref D) s3.heap.objs.size) { s3 with heap := pushCells (s3.heap.push { cls := .type "dict", data := .dict #[] }) scope.names }
  have nfp : ∀ b ∈ fp, (upd H2 D (.dT [])) b = none := fun b hb => (f3 b hb).1.1
  generalize hce : compEnvC scope (cellsFrom (s3.heap.objs.size + 1) scope.names (cloFrom X.env.cells scope.names [])) s3.heap.objs.size X.env = ce at I4 pg pt pk pe ⊢
  have cL : ce.locals = s3.heap.objs.size := by subst hce; rfl
  generalize hH3 : upd H2 D (.dT []) = H3 at I3 I4 pg pt pk pe w0 nfp f3
  generalize hs4 : ({ s3 with heap := pushCells (s3.heap.push { cls := .type "dict", data := .dict #[] }) scope.names } : Shared) = s4 at I4 ⊢
  have st4 : tn 0 s4.heap := T.keep _ _ _ st3 fun b _ o e => by rw [← hs4]; exact pushCells_keeps _ _ _ _ (Heap.get?_push_of_some _ e)
  have stat : ∀ {σ' : L2.St} {H' : Hp} {s' : Shared}, Inv (X.blk s3 H3 scope ce fp) [] σ' H' s' → (∀ b ∈ fp, H' b = none) → ∀ b ∈ fp, FpOk (X.blk s3 H3 scope ce fp) [] H' b := fun {σ' H' s'} I' hn b hb =>
    ⟨hn b hb, (I'.ok.exf b hb).1, I'.ok.exfs b hb, .inl hb, fun x c e => (I'.ok.exf b hb).2 x c e, fun p hp => absurd (show p ∈ ([] : List (Addr × Obj)) ++ [] from hp) (by simp)⟩
  have loop : codeAny (model X.prog X.w) X.A (.compLoop (.DictComp kx vx [⟨tg, iter, [], 0⟩] scope pos) 0 (.ref it) (.ref D) ce) (compPost (model X.prog X.w) X.A X.xe use Qf (.ref D) s3.heap.objs.size) s4 := by
    refine compLoop_anyD (fun n s' => ∃ i H', Inv (X.blk s3 H3 scope ce fp) [] (wipe σ (own.map (·.2))) H' s' ∧ tn i s'.heap ∧ (∀ b ∈ fp, H' b = none) ∧ W i n H') ?_ m0 ⟨0, H3, I4, st4, nfp, w0⟩
    rintro n s5 ⟨i, H5, I5, st5, n5, w5⟩
    rcases turn i n H5 w5 with ⟨stop, qq⟩ | ⟨go, Nx, hNx, step⟩
    · have td := T.done (X.blk s3 H3 scope ce fp) rfl rfl rfl hc i [] s5 _ H5 (fun _ _ => False) I5 (stat I5 n5) st5 stop
      refine thnF td fun r s6 ⟨hr, I6⟩ => ?_
      subst hr
      have I7 : Inv X pins σ H5 s6 := I3.call' (ch := fp) I6.os I6.base I6.hok I6.bare fun b hb => ⟨(f3 b hb).1.2.2.2.1, (f3 b hb).1.2.1, (f3 b hb).1.2.2.2.2.1, (f3 b hb).1.2.2.2.2.2⟩
      have nC : H5 s3.heap.objs.size = none := by
        have z : H5 ce.locals = none := I6.free
        rw [cL] at z
        exact z
      obtain ⟨m, hn, _⟩ := I6.loc
      have hn : s6.heap.Ns ce.locals m := hn
      rw [cL] at hn
      exact hRR D s3.heap.objs.size s6 m H5 I7 qq hn (I3.fpOk (Nat.le_refl _) nC)
    · have ti := T.item (X.blk s3 H3 scope ce fp) rfl rfl rfl hc i [] s5 _ H5 (fun _ _ => False) I5 (stat I5 n5) st5 go
      refine thnF ti fun r s6 ⟨u, hr, h6⟩ => ?_
      subst hr
      refine thnF h6 fun _ s7 ⟨x, H7, I7, r7, y7, st7, n7⟩ => ?_
      have I7' := I7.pinned (stat I7 n7) (T.obj _ _ st7)
      refine thnF (pg.run _ s7 _ H7 x u _ I7' r7 (step x H7 y7)) fun _ s8 ⟨σ8, H8, I8, hw8, q8⟩ => ?_
      refine thnF (pt.run _ s8 σ8 H8 (fun b H' => b = true ∧ tk σ8 H' _) I8 ⟨rfl, q8⟩) fun b s9 ⟨H9, I9, hb9, q9⟩ => ?_
      subst hb9
      have fin : ∀ {s' : Shared} {H' : Hp}, Inv (X.blk s3 H3 scope ce fp) ([] ++ pinsAt fp s7.heap) σ8 H' s' → Nx H' → ∃ m, m < n ∧ ∃ i H', Inv (X.blk s3 H3 scope ce fp) [] (wipe σ (own.map (·.2))) H' s' ∧ tn i s'.heap ∧ (∀ b ∈ fp, H' b = none) ∧ W i m H' := fun {s' H'} I' nx => by
        obtain ⟨m', hm, w'⟩ := hNx H' nx
        have pin' : ∀ b ∈ fp, ∀ o, s7.heap.get? b = some o → s'.heap.get? b = some o ∧ H' b = none := fun b hb o e =>
          let z := I'.pin (b, o) (List.mem_append_right _ (List.mem_append_right _ (mem_pinsAt hb e)))
          ⟨z.1, z.2.1⟩
        have hl : (wipe σ (own.map (·.2))).length = σ8.length := by rw [← hw8, wipe_length]
        refine ⟨m', hm, i + 1, H', (I'.unpinned (pins := [])).weak hl (fun j v e => ?_), T.keep _ _ _ st7 fun b hb o e => (pin' b hb o e).1, fun b hb => ?_, w'⟩
        · rw [← hw8] at e
          exact (wipe_some e).1
        · obtain ⟨o, e, _⟩ := T.obj _ _ st7 b hb
          exact (pin' b hb o e).2
      simp only [if_true]
      refine thnF (pk.run _ s9 σ8 H9 _ I9 q9) fun z s10 ⟨yk, H10, I10, r10, q10⟩ => ?_
      refine thnF (pe.run _ s10 σ8 H10 _ I10 q10) fun z2 s11 ⟨yv, H11, I11, r11, kvs, k, b, ek, eb, hD11, hz11, nx⟩ => ?_
      subst ek
      exact d_dictSetT (X := X.blk s3 H3 scope ce fp) hu I11 hD11 hz11 eb r10 r11 fun s12 I12 => fin I12 nx
  exact codeAny_compStart_dict loop (T.self X.A 0 _ _ _ st4 loop)
theorem pe_dcT {kx vx tg iter : Expr} {scope : Scope} {own : List (Str × Nat)} {pos : Pos} {wi : TI} {g : TG} {tk tv : TE} (hu : X.A.units + 1 < cLine) (hc : X.calm = true) (hN : X.N.Nodup) (hi : PI X tg iter wi) (ok : BlkOk X.N X.env.scope scope own)
    (hg : ∀ (s : Shared) (H : Hp) (C : Addr) (cl : List (Str × Addr)) (fp : List Addr), PG (X.blk s H scope (compEnvC scope cl C X.env) fp) tg g)
    (hk : ∀ (s : Shared) (H : Hp) (C : Addr) (cl : List (Str × Addr)) (fp : List Addr), PE (X.blk s H scope (compEnvC scope cl C X.env) fp) kx tk)
    (he : ∀ (s : Shared) (H : Hp) (C : Addr) (cl : List (Str × Addr)) (fp : List Addr), PE (X.blk s H scope (compEnvC scope cl C X.env) fp) vx tv) (hs : ∀ x, foldedSetIterable iter X.env x = pure x := by intro _; rfl) :
    PE X (.DictComp kx vx [⟨tg, iter, [], 0⟩] scope pos) (tDcT wi g tk tv (own.map (·.2))) := by
  refine ⟨fun pins s σ H Q I h => ?_⟩
  rw [arm_eval_DictComp]
  refine dcT_core hu hc hN I hi ok hg hk he hs h fun D C s' m H' I' q hn f => ⟨m, hn, fun h'' sb => ?_⟩
  obtain ⟨f0, f1, f2, f3, f4, f5⟩ := f
  exact ⟨.ref D, H', I'.turned (t' := s'.toks) (fun b o hb e => (sb.2 b hb).trans e) f0 f1 f3 f4 f5, rfl, q⟩
end
end Mh
set_option maxRecDepth 100000
set_option maxHeartbeats 2000000
/-! L1: the plain law: let_row finds a row if there is one. -/
namespace Mh
open PySem
/-- the row's best of the menu is not passed -/
def Sat (r : Row) (q : Pr) : Prop := bestOf r q.1 ∉ q.2
def OkPr (T : List Str) (q : Pr) : Prop := q.1 ≠ [] ∧ (∀ x ∈ q.1, x ∈ T) ∧ ∀ x ∈ q.2, x ∈ q.1
theorem best_app {a b : Row} {m : List Str} : bestOf (a ++ b) m = if (∃ t ∈ a, t ∈ m) then bestOf a m else bestOf b m := by
  unfold bestOf
  rw [List.filter_append]
  by_cases h : ∃ t ∈ a, t ∈ m
  · rw [if_pos h]
    obtain ⟨t, h1, h2⟩ := h
    have : a.filter (fun t => decide (t ∈ m)) ≠ [] := List.ne_nil_of_mem (List.mem_filter.mpr ⟨h1, decide_eq_true h2⟩)
    cases q : a.filter (fun t => decide (t ∈ m)) with
    | nil => exact absurd q this
    | cons x l => rfl
  · rw [if_neg h]
    have : a.filter (fun t => decide (t ∈ m)) = [] := List.filter_eq_nil_iff.mpr fun t ht hm => h ⟨t, ht, of_decide_eq_true hm⟩
    rw [this, List.nil_append]
theorem best_mem {r : Row} {m : List Str} (h : ∃ t ∈ r, t ∈ m) : bestOf r m ∈ r ∧ bestOf r m ∈ m := by
  obtain ⟨t, h1, h2⟩ := h
  unfold bestOf
  cases q : r.filter (fun t => decide (t ∈ m)) with
  | nil => exact absurd (List.mem_filter.mpr ⟨h1, decide_eq_true h2⟩) (by rw [q]; exact List.not_mem_nil)
  | cons x l =>
    have hx : x ∈ r.filter (fun t => decide (t ∈ m)) := by rw [q]; exact List.mem_cons_self
    obtain ⟨h3, h4⟩ := List.mem_filter.mp hx
    exact ⟨h3, of_decide_eq_true h4⟩
theorem bars_iff {T : List Str} {prs : List Pr} {L : Str → Bool} {x : Str} : bars T prs L x = true ↔ ∃ q ∈ prs, (∀ t ∈ T, t ∈ q.1 → L t = true) ∧ x ∈ q.2 := by
  unfold bars
  have cond : ∀ q : Pr, ((T.all fun t => (decide (t ∈ q.1) && L t) == decide (t ∈ q.1)) = true) ↔ ∀ t ∈ T, t ∈ q.1 → L t = true := fun q => by
    rw [List.all_eq_true]
    constructor
    · intro h t ht hq
      have := h t ht
      rw [decide_eq_true hq] at this
      simpa using this
    · intro h t ht
      by_cases hq : t ∈ q.1
      · rw [decide_eq_true hq, h t ht hq] <;> rfl
      · rw [decide_eq_false hq] <;> rfl
  have key : ∀ (prs : List Pr) (b : Str → Bool), (prs.foldl (fun b q => if (T.all fun t => (decide (t ∈ q.1) && L t) == decide (t ∈ q.1)) = true then fun t => b t || decide (t ∈ q.2) else b) b) x = true ↔ (b x = true ∨ ∃ q ∈ prs, (∀ t ∈ T, t ∈ q.1 → L t = true) ∧ x ∈ q.2) := by
    intro prs
    induction prs with
    | nil => intro b; simp
    | cons q prs ih =>
      intro b
      rw [List.foldl_cons, ih]
      by_cases h : ∀ t ∈ T, t ∈ q.1 → L t = true
      · rw [if_pos ((cond q).mpr h)]
        constructor
        · rintro (h1 | ⟨q', h1, h2⟩)
          · rcases Bool.or_eq_true_iff.mp h1 with h1 | h1
            · exact .inl h1
            · exact .inr ⟨q, List.mem_cons_self, h, of_decide_eq_true h1⟩
          · exact .inr ⟨q', List.mem_cons_of_mem _ h1, h2⟩
        · rintro (h1 | ⟨q', h1, h2⟩)
          · exact .inl (Bool.or_eq_true_iff.mpr (.inl h1))
          · rcases List.mem_cons.mp h1 with rfl | h1
            · exact .inl (Bool.or_eq_true_iff.mpr (.inr (decide_eq_true h2.2)))
            · exact .inr ⟨q', h1, h2⟩
      · rw [if_neg (fun z => h ((cond q).mp z))]
        constructor
        · rintro (h1 | ⟨q', h1, h2⟩)
          · exact .inl h1
          · exact .inr ⟨q', List.mem_cons_of_mem _ h1, h2⟩
        · rintro (h1 | ⟨q', h1, h2⟩)
          · exact .inl h1
          · rcases List.mem_cons.mp h1 with rfl | h1
            · exact absurd h2.1 h
            · exact .inr ⟨q', h1, h2⟩
  rw [key]
  simp
theorem code_less {T : List Str} {L b : Str → Bool} {n : Nat} (h : ¬ (T.all fun t => (L t && b t) == L t) = true) (hn : code T L < n + 1) : code T (fun t => L t && b t) < n := by
  have hs := code_split (T := T) (p := L) (q := b)
  have hp : 0 < code T (fun t => L t && !b t) := by
    rcases Nat.eq_zero_or_pos (code T (fun t => L t && !b t)) with z | z
    · exfalso
      apply h
      have h0 := code_zero.mp z
      rw [List.all_eq_true]
      intro t ht
      have h1 : (L t && !b t) = false := by
        cases q : (L t && !b t) with
        | false => rfl
        | true =>
          have : T.any (fun t => L t && !b t) = true := List.any_eq_true.mpr ⟨t, ht, q⟩
          rw [h0] at this
          cases this
      cases hl : L t <;> cases hb : b t <;> rw [hl, hb] at h1 <;> first | rfl | cases h1
    · exact z
  omega
theorem letL_sound {T : List Str} {prs : List Pr} (hp : ∀ q ∈ prs, OkPr T q) : ∀ (n : Nat) (L : Str → Bool) (row r : List Str), code T L < n → (∀ t ∈ row, L t = false) → row.Perm (T.filter fun t => !L t) →
    (∀ q ∈ prs, (∃ t ∈ q.1, L t = false) → (∃ t ∈ row, t ∈ q.1) ∧ Sat row q) → (letL T prs n L row).1 = some r → r.Perm T ∧ ∀ q ∈ prs, (∃ t ∈ r, t ∈ q.1) ∧ Sat r q
  | 0, _, _, _, h, _, _, _, _ => absurd h (Nat.not_lt_zero _)
  | n + 1, L, row, r, hn, hrow, hperm, hsat, hr => by
    unfold letL at hr
    by_cases ha : T.any L = true
    · rw [if_pos ha] at hr
      by_cases hb : (T.all fun t => (L t && bars T prs L t) == L t) = true
      · rw [if_pos hb] at hr
        cases hr
      · rw [if_neg hb] at hr
        refine letL_sound hp n _ _ r (code_less hb hn) (fun t ht => ?_) ?_ (fun q hq ⟨t, ht, hLt⟩ => ?_) hr
        · rcases List.mem_append.mp ht with ht | ht
          · rw [hrow t ht] <;> rfl
          · have := (List.mem_filter.mp ht).2
            cases hl : L t <;> cases hbb : bars T prs L t <;> rw [hl, hbb] at this <;> first | rfl | cases this
        · have e1 : (T.filter fun t => !(L t && bars T prs L t)).Perm ((T.filter fun t => !L t) ++ T.filter fun t => L t && !bars T prs L t) := by
            generalize hT0 : T = T0
            have key : ∀ T : List Str, (T.filter fun t => !(L t && bars T0 prs L t)).Perm ((T.filter fun t => !L t) ++ T.filter fun t => L t && !bars T0 prs L t) := by
              intro T
              induction T with
              | nil => exact List.Perm.refl _
              | cons t T ih =>
                rw [List.filter_cons, List.filter_cons, List.filter_cons]
                cases hl : L t with
                | false =>
                  simp only [Bool.false_and, Bool.not_false, if_true, Bool.false_eq_true, if_false]
                  exact ih.cons t
                | true =>
                  cases hbb : bars T0 prs L t with
                  | false =>
                    simp only [Bool.true_and, Bool.not_false, if_true, Bool.not_true, Bool.false_eq_true, if_false]
                    exact (ih.cons t).trans List.perm_middle.symm
                  | true =>
                    simp only [Bool.true_and, Bool.not_true, Bool.false_eq_true, if_false]
                    exact ih
            exact key T0
          exact (hperm.append (List.Perm.refl _)).trans e1.symm
        · by_cases h : ∃ t ∈ q.1, L t = false
          · obtain ⟨⟨t1, h1, h2⟩, h3⟩ := hsat q hq h
            refine ⟨⟨t1, List.mem_append_left _ h1, h2⟩, ?_⟩
            unfold Sat
            rw [best_app, if_pos ⟨t1, h1, h2⟩]
            exact h3
          · have hall : ∀ t ∈ q.1, L t = true := fun t ht => by
              cases z : L t with
              | true => rfl
              | false => exact absurd ⟨t, ht, z⟩ h
            have hno : ¬ ∃ t ∈ row, t ∈ q.1 := fun ⟨t, h1, h2⟩ => by
              have z := hrow t h1
              rw [hall t h2] at z
              cases z
            have hbt : bars T prs L t = false := by
              rw [hall t ht] at hLt
              simpa using hLt
            have hex : ∃ t ∈ T.filter (fun t => L t && !bars T prs L t), t ∈ q.1 := ⟨t, List.mem_filter.mpr ⟨(hp q hq).2.1 t ht, by rw [hall t ht, hbt] <;> rfl⟩, ht⟩
            obtain ⟨t1, h1, h2⟩ := hex
            refine ⟨⟨t1, List.mem_append_right _ h1, h2⟩, ?_⟩
            unfold Sat
            rw [best_app, if_neg hno]
            intro hx
            have hm := (List.mem_filter.mp (best_mem ⟨t1, h1, h2⟩).1).2
            have hb2 : bars T prs L (bestOf (T.filter fun t => L t && !bars T prs L t) q.1) = true := bars_iff.mpr ⟨q, hq, fun t _ ht => hall t ht, hx⟩
            rw [hb2] at hm
            simp at hm
    · rw [if_neg ha] at hr
      have e : r = row := (Option.some.inj hr).symm
      subst e
      have hL : ∀ t ∈ T, L t = false := fun t ht => by
        cases q : L t with
        | false => rfl
        | true => exact absurd (List.any_eq_true.mpr ⟨t, ht, q⟩) ha
      have e2 : (T.filter fun t => !L t) = T := List.filter_eq_self.mpr fun t ht => by rw [hL t ht] <;> rfl
      rw [e2] at hperm
      refine ⟨hperm, fun q hq => hsat q hq ?_⟩
      obtain ⟨x, hx⟩ := List.exists_mem_of_ne_nil _ (hp q hq).1
      exact ⟨x, hx, hL x ((hp q hq).2.1 x hx)⟩
theorem letL_full {T : List Str} {prs : List Pr} (hp : ∀ q ∈ prs, OkPr T q) {r0 : Row} (h0 : r0.Perm T) (hs : ∀ q ∈ prs, Sat r0 q) : ∀ (n : Nat) (L : Str → Bool) (row : List Str), code T L < n → (letL T prs n L row).1.isSome = true
  | 0, _, _, h => absurd h (Nat.not_lt_zero _)
  | n + 1, L, row, hn => by
    unfold letL
    by_cases ha : T.any L = true
    · rw [if_pos ha]
      by_cases hb : (T.all fun t => (L t && bars T prs L t) == L t) = true
      · exfalso
        obtain ⟨t0, ht0, hL0⟩ := List.any_eq_true.mp ha
        cases hl : r0.filter L with
        | nil => exact absurd (List.mem_filter.mpr ⟨h0.mem_iff.mpr ht0, hL0⟩) (by rw [hl]; exact List.not_mem_nil)
        | cons t l =>
          have htm : t ∈ r0.filter L := by rw [hl]; exact List.mem_cons_self
          obtain ⟨h1, h2⟩ := List.mem_filter.mp htm
          have htT := h0.mem_iff.mp h1
          have h3 := List.all_eq_true.mp hb t htT
          rw [h2] at h3
          have h4 : bars T prs L t = true := by simpa using h3
          obtain ⟨q, hq, h5, h6⟩ := bars_iff.mp h4
          have htq := (hp q hq).2.2 t h6
          have e : bestOf r0 q.1 = t := by
            unfold bestOf
            have e1 : r0.filter (fun t => decide (t ∈ q.1)) = (r0.filter L).filter fun t => decide (t ∈ q.1) := by
              rw [List.filter_filter]
              apply List.filter_congr
              intro x hx
              by_cases hxq : x ∈ q.1
              · rw [h5 x (h0.mem_iff.mp hx) hxq, decide_eq_true hxq] <;> rfl
              · rw [decide_eq_false hxq] <;> rfl
            rw [e1, hl, List.filter_cons, if_pos (decide_eq_true htq)] <;> rfl
          have := hs q hq
          unfold Sat at this
          rw [e] at this
          exact this h6
      · rw [if_neg hb]
        exact letL_full hp h0 hs n _ _ (code_less hb hn)
    · rw [if_neg ha] <;> rfl
theorem letRow_sound {T : List Str} {prs : List Pr} {r : List Str} (hp : ∀ q ∈ prs, OkPr T q) (h : (letRow T prs).1 = some r) : r.Perm T ∧ ∀ q ∈ prs, (∃ t ∈ r, t ∈ q.1) ∧ Sat r q := by
  unfold letRow at h
  refine letL_sound hp _ _ _ r (Nat.lt_succ_self _) (fun t ht => by cases ht) ?_ (fun q hq ⟨t, ht, hL⟩ => ?_) h
  · have e : (T.filter fun t => !decide (t ∈ T)) = [] := List.filter_eq_nil_iff.mpr fun t ht => by simp [ht]
    rw [e]
  · exact absurd ((hp q hq).2.1 t ht) (of_decide_eq_false hL)
theorem letRow_full {T : List Str} {prs : List Pr} (hp : ∀ q ∈ prs, OkPr T q) {r0 : Row} (h0 : r0.Perm T) (hs : ∀ q ∈ prs, Sat r0 q) : (letRow T prs).1.isSome = true := letL_full hp h0 hs _ _ _ (Nat.lt_succ_self _)
end Mh
set_option maxRecDepth 100000
set_option maxHeartbeats 2000000
/-! L2: the plain law: houses. -/
namespace Mh
open PySem
theorem rows_all {names : List Str} {r : Row} (h : r.Perm names) : r ∈ rowsOf names := by
  have key : ∀ (names : List Str) (rows : List Row) (A : List Str), (∀ r : Row, r.Perm A → r ∈ rows) → ∀ r : Row, r.Perm (names ++ A) → r ∈ names.foldl (fun rows t => rows.flatMap (ins t)) rows := by
    intro names
    induction names with
    | nil => intro rows A h r hr; exact h r hr
    | cons t ns ih =>
      intro rows A h r hr
      rw [List.foldl_cons]
      refine ih _ (t :: A) (fun r' hr' => ?_) r (hr.trans List.perm_middle.symm)
      have ht : t ∈ r' := hr'.mem_iff.mpr List.mem_cons_self
      obtain ⟨x, y, rfl⟩ := List.append_of_mem ht
      have hxy : (x ++ y).Perm A := (List.perm_middle.symm.trans hr').cons_inv
      refine List.mem_flatMap.mpr ⟨x ++ y, h _ hxy, ?_⟩
      unfold ins
      refine List.mem_map.mpr ⟨x.length, List.mem_range.mpr (by rw [List.length_append]; omega), ?_⟩
      rw [List.take_left, List.drop_left, List.append_assoc] <;> rfl
  exact key names [[]] [] (fun r hr => by rw [List.perm_nil.mp hr]; exact List.mem_singleton.mpr rfl) r (by rw [List.append_nil]; exact h)
theorem houses_sub {rows s : List Row} (h : s.Sublist rows) : s ∈ housesF rows := by
  have key : ∀ (rows s : List Row) (fs : List (List Row)) (p : List Row), p ∈ fs → s.Sublist rows → p ++ s ∈ rows.foldl (fun fs row => fs ++ fs.map (· ++ [row])) fs := by
    intro rows
    induction rows with
    | nil =>
      intro s fs p hp hs
      rw [List.sublist_nil.mp hs, List.append_nil]
      exact hp
    | cons r rows ih =>
      intro s fs p hp hs
      rw [List.foldl_cons]
      cases hs with
      | cons _ hs => exact ih s _ p (List.mem_append_left _ hp) hs
      | cons_cons _ hs =>
        rename_i s'
        have := ih s' (fs ++ fs.map (· ++ [r])) (p ++ [r]) (List.mem_append_right _ (List.mem_map.mpr ⟨p, hp, rfl⟩)) hs
        rw [List.append_assoc] at this
        exact this
  exact key rows s [[]] [] (List.mem_singleton.mpr rfl) h
theorem houses_hd (rows : List Row) : ∃ t, housesF rows = [] :: t ∧ ∀ x ∈ t, x ≠ [] := by
  have key : ∀ (rows : List Row) (t : List (List Row)), (∀ x ∈ t, x ≠ []) → ∃ t', rows.foldl (fun fs row => fs ++ fs.map (· ++ [row])) ([] :: t) = [] :: t' ∧ ∀ x ∈ t', x ≠ [] := by
    intro rows
    induction rows with
    | nil => intro t h; exact ⟨t, rfl, h⟩
    | cons r rows ih =>
      intro t h
      refine ih (t ++ (([] :: t).map (· ++ [r]))) fun x hx => ?_
      rcases List.mem_append.mp hx with hx | hx
      · exact h x hx
      · obtain ⟨y, _, rfl⟩ := List.mem_map.mp hx
        simp
  exact key rows [] fun x hx => by cases hx
theorem house_of {names : List Str} {s : List Row} (h : s.Sublist (rowsOf names)) (hne : s ≠ []) : s ∈ housesOf names := by
  obtain ⟨t, h1, _⟩ := houses_hd (rowsOf names)
  have := houses_sub h
  unfold housesOf
  rw [h1] at this ⊢
  rcases List.mem_cons.mp this with h2 | h2
  · exact absurd h2 hne
  · exact h2
theorem house_ne {names : List Str} {s : List Row} (h : s ∈ housesOf names) : s ≠ [] := by
  obtain ⟨t, h1, h2⟩ := houses_hd (rowsOf names)
  unfold housesOf at h
  rw [h1] at h
  exact h2 s h
theorem marked_iff {c : Nat} {l : Lk} {t : Str} : t ∈ marked c l ↔ ∃ k : Nat, l.1[k]? = some t ∧ l.2[k]? = some c := by
  unfold marked
  constructor
  · intro h
    obtain ⟨q, hq, rfl⟩ := List.mem_map.mp h
    obtain ⟨h1, h2⟩ := List.mem_filter.mp hq
    obtain ⟨k, hk⟩ := List.getElem?_of_mem h1
    rw [List.getElem?_zip_eq_some] at hk
    exact ⟨k, hk.1, by rw [hk.2, of_decide_eq_true h2]⟩
  · rintro ⟨k, h1, h2⟩
    exact List.mem_map.mpr ⟨(t, c), List.mem_filter.mpr ⟨List.mem_of_getElem? (List.getElem?_zip_eq_some.mpr ⟨h1, h2⟩), decide_eq_true rfl⟩, rfl⟩
theorem takes_iff {rows : List Row} {m : List Str} {t : Str} : t ∈ takes rows m ↔ t ∈ m ∧ ∃ r ∈ rows, bestOf r m = t := by
  unfold takes
  rw [List.mem_filter]
  constructor
  · rintro ⟨h1, h2⟩
    obtain ⟨r, h3, h4⟩ := List.mem_map.mp (of_decide_eq_true h2)
    exact ⟨h1, r, h3, h4⟩
  · rintro ⟨h1, r, h2, h3⟩
    exact ⟨h1, decide_eq_true (List.mem_map.mpr ⟨r, h2, h3⟩)⟩
def HasP (rows : List Row) (l : Lk) : Prop := (∀ t ∈ marked 43 l, ∃ r ∈ rows, bestOf r l.1 = t) ∧ ∀ t ∈ marked 45 l, ∀ r ∈ rows, bestOf r l.1 ≠ t
theorem has_iff {rows : List Row} {l : Lk} (ho : OkLook l) : hasB rows l = true ↔ HasP rows l := by
  obtain ⟨hn, hlen, hm⟩ := ho
  unfold hasB
  rw [List.all_eq_true]
  constructor
  · intro h
    refine ⟨fun t ht => ?_, fun t ht r hr hb => ?_⟩
    · obtain ⟨k, h1, h2⟩ := marked_iff.mp ht
      have hk := (List.getElem?_eq_some_iff.mp h1).1
      have h3 := h k (List.mem_range.mpr hk)
      unfold hasK at h3
      rw [List.getD_eq_getElem?_getD, List.getD_eq_getElem?_getD, h1, h2] at h3
      simp at h3
      exact (takes_iff.mp h3).2
    · obtain ⟨k, h1, h2⟩ := marked_iff.mp ht
      have hk := (List.getElem?_eq_some_iff.mp h1).1
      have h3 := h k (List.mem_range.mpr hk)
      unfold hasK at h3
      rw [List.getD_eq_getElem?_getD, List.getD_eq_getElem?_getD, h1, h2] at h3
      simp at h3
      exact h3 (takes_iff.mpr ⟨List.mem_of_getElem? h1, r, hr, hb⟩)
  · rintro ⟨h1, h2⟩ k hk
    have hk := List.mem_range.mp hk
    have e1 : l.1[k]? = some l.1[k] := List.getElem?_eq_getElem hk
    have hk2 : k < l.2.length := by rw [hlen]; exact hk
    have e2 : l.2[k]? = some l.2[k] := List.getElem?_eq_getElem hk2
    unfold hasK
    rw [List.getD_eq_getElem?_getD, List.getD_eq_getElem?_getD, e1, e2]
    have hmem : l.1[k] ∈ l.1 := List.getElem_mem hk
    rcases hm.1 l.2[k] (List.getElem_mem hk2) with hc | hc | hc
    · obtain ⟨r, hr, hb⟩ := h1 l.1[k] (marked_iff.mpr ⟨k, e1, by rw [e2, hc]⟩)
      have : l.1[k] ∈ takes rows l.1 := takes_iff.mpr ⟨hmem, r, hr, hb⟩
      simp [hc, this]
    · have : l.1[k] ∉ takes rows l.1 := fun z => by
        obtain ⟨_, r, hr, hb⟩ := takes_iff.mp z
        exact h2 l.1[k] (marked_iff.mpr ⟨k, e1, by rw [e2, hc]⟩) r hr hb
      simp [hc, this]
    · simp [hc]
end Mh
set_option maxRecDepth 100000
set_option maxHeartbeats 2000000
/-! L3: the plain law: fit exactly if a house has all looks; reach; people. -/
namespace Mh
open PySem
def OkAll (named : List Str) (ls : List Lk) : Prop := ∀ l ∈ ls, OkLook l ∧ ∀ x ∈ l.1, x ∈ named
theorem needs0_iff {ls : List Lk} {n : Need} : n ∈ needs0 ls ↔ ∃ (i : Nat) (l : Lk) (t : Str), ls[i]? = some l ∧ t ∈ marked 43 l ∧ n = some (i, t) := by
  unfold needs0
  rw [List.mem_flatMap]
  constructor
  · rintro ⟨q, hq, hn⟩
    obtain ⟨t, ht, rfl⟩ := List.mem_map.mp hn
    exact ⟨q.2, q.1, t, by rw [List.mem_zipIdx_iff_getElem?] at hq; exact hq, ht, rfl⟩
  · rintro ⟨i, l, t, h1, h2, rfl⟩
    exact ⟨(l, i), by rw [List.mem_zipIdx_iff_getElem?]; exact h1, List.mem_map.mpr ⟨t, h2, rfl⟩⟩
theorem needs_ne {ls : List Lk} : needsOf ls ≠ [] := by
  unfold needsOf
  split
  · simp
  · rename_i h
    intro z
    rw [z] at h
    simp at h
theorem needs_in {ls : List Lk} {n : Need} (h : n ∈ needs0 ls) : n ∈ needsOf ls := by
  unfold needsOf
  split
  · rename_i z
    rw [List.isEmpty_iff.mp z] at h
    cases h
  · exact h
theorem needs_or {ls : List Lk} {n : Need} (h : n ∈ needsOf ls) : n = none ∨ n ∈ needs0 ls := by
  unfold needsOf at h
  split at h
  · exact .inl (by simpa using h)
  · exact .inr h
theorem marked_in {c : Nat} {l : Lk} {t : Str} (h : t ∈ marked c l) : t ∈ l.1 := by
  obtain ⟨k, h1, _⟩ := marked_iff.mp h
  exact List.mem_of_getElem? h1
theorem prOf_ok {named : List Str} {ls : List Lk} (ho : OkAll named ls) {l : Lk} (hl : l ∈ ls) : OkPr named (prOf l) := ⟨(ho l hl).1.menu.ne, (ho l hl).2, fun x hx => marked_in hx⟩
theorem less_mem {l : List Str} {x t : Str} : x ∈ lessL l t ↔ x ∈ l ∧ x ≠ t := by
  unfold lessL
  rw [List.mem_filter]
  constructor
  · rintro ⟨h1, h2⟩
    exact ⟨h1, by simpa using h2⟩
  · rintro ⟨h1, h2⟩
    exact ⟨h1, by simpa using h2⟩
theorem sharp_ok {named : List Str} {ls : List Lk} (ho : OkAll named ls) {n : Need} (hn : n ∈ needsOf ls) : ∀ q ∈ sharp ls n, OkPr named q := by
  intro q hq
  rcases needs_or hn with rfl | hn
  · obtain ⟨l, hl, rfl⟩ := List.mem_map.mp hq
    exact prOf_ok ho hl
  · obtain ⟨i, l, t, h1, h2, rfl⟩ := needs0_iff.mp hn
    rcases List.mem_append.mp hq with hq | hq
    · obtain ⟨l, hl, rfl⟩ := List.mem_map.mp hq
      exact prOf_ok ho hl
    · have e : q = ((ls.getD i ([], [])).1, lessL (ls.getD i ([], [])).1 t) := by simpa using hq
      have hd : ls.getD i ([], []) = l := by rw [List.getD_eq_getElem?_getD, h1] <;> rfl
      rw [hd] at e
      subst e
      have hl := List.mem_of_getElem? h1
      exact ⟨(ho l hl).1.menu.ne, (ho l hl).2, fun x hx => (less_mem.mp hx).1⟩
theorem sharp_pr {ls : List Lk} {l : Lk} (hl : l ∈ ls) : ∀ n : Need, prOf l ∈ sharp ls n
  | none => List.mem_map.mpr ⟨l, hl, rfl⟩
  | some _ => List.mem_append_left _ (List.mem_map.mpr ⟨l, hl, rfl⟩)
theorem sharp_at {ls : List Lk} {l : Lk} {i : Nat} {t : Str} (h : ls[i]? = some l) : (l.1, lessL l.1 t) ∈ sharp ls (some (i, t)) := by
  have hd : ls.getD i ([], []) = l := by rw [List.getD_eq_getElem?_getD, h] <;> rfl
  refine List.mem_append_right _ ?_
  show _ ∈ [((ls.getD i ([], [])).1, lessL (ls.getD i ([], [])).1 t)]
  rw [hd]
  exact List.mem_singleton.mpr rfl
/-- the rows by need -/
def rowsFor (named : List Str) (ls : List Lk) : List Row := (needsOf ls).filterMap fun n => (letRow named (sharp ls n)).1
theorem for_mem {named : List Str} {ls : List Lk} (ho : OkAll named ls) {r : Row} (h : r ∈ rowsFor named ls) : ∃ n ∈ needsOf ls, r.Perm named ∧ ∀ q ∈ sharp ls n, (∃ t ∈ r, t ∈ q.1) ∧ Sat r q := by
  obtain ⟨n, hn, hr⟩ := List.mem_filterMap.mp h
  obtain ⟨h1, h2⟩ := letRow_sound (sharp_ok ho hn) hr
  exact ⟨n, hn, h1, h2⟩
theorem for_has {named : List Str} {ls : List Lk} (ho : OkAll named ls) (hf : fitB named ls = true) {h : List Row} (hh : ∀ r, r ∈ h ↔ r ∈ rowsFor named ls) {l : Lk} (hl : l ∈ ls) : hasB h l = true := by
  refine (has_iff (ho l hl).1).mpr ⟨fun t ht => ?_, fun t ht r hr hb => ?_⟩
  · obtain ⟨i, hi⟩ := List.getElem?_of_mem hl
    have hn : (some (i, t) : Need) ∈ needsOf ls := needs_in (needs0_iff.mpr ⟨i, l, t, hi, ht, rfl⟩)
    have hs := List.all_eq_true.mp hf _ hn
    obtain ⟨r, hr⟩ := Option.isSome_iff_exists.mp hs
    obtain ⟨h1, h2⟩ := letRow_sound (sharp_ok ho hn) hr
    refine ⟨r, (hh r).mpr (List.mem_filterMap.mpr ⟨_, hn, hr⟩), ?_⟩
    obtain ⟨h3, h4⟩ := h2 _ (sharp_at (t := t) hi)
    have h5 := (best_mem h3).2
    unfold Sat at h4
    rw [less_mem] at h4
    by_cases z : bestOf r l.1 = t
    · exact z
    · exact absurd ⟨h5, z⟩ h4
  · obtain ⟨n, hn, h1, h2⟩ := for_mem ho ((hh r).mp hr)
    have h3 := (h2 _ (sharp_pr hl n)).2
    unfold Sat at h3
    apply h3
    show bestOf r l.1 ∈ marked 45 l
    rw [hb]
    exact ht
theorem for_ne {named : List Str} {ls : List Lk} (hf : fitB named ls = true) : rowsFor named ls ≠ [] := by
  obtain ⟨n, hn⟩ := List.exists_mem_of_ne_nil _ (needs_ne (ls := ls))
  obtain ⟨r, hr⟩ := Option.isSome_iff_exists.mp (List.all_eq_true.mp hf n hn)
  intro z
  have : r ∈ rowsFor named ls := List.mem_filterMap.mpr ⟨n, hn, hr⟩
  rw [z] at this
  cases this
theorem fit_iff {named : List Str} {ls : List Lk} (ho : OkAll named ls) : fitB named ls = true ↔ ∃ h ∈ housesOf named, ∀ l ∈ ls, hasB h l = true := by
  constructor
  · intro hf
    have hmem : ∀ r, r ∈ (rowsOf named).filter (fun r => decide (r ∈ rowsFor named ls)) ↔ r ∈ rowsFor named ls := fun r => by
      rw [List.mem_filter]
      constructor
      · rintro ⟨_, h⟩
        exact of_decide_eq_true h
      · intro h
        obtain ⟨n, hn, h1, _⟩ := for_mem ho h
        exact ⟨rows_all h1, decide_eq_true h⟩
    refine ⟨(rowsOf named).filter (fun r => decide (r ∈ rowsFor named ls)), house_of List.filter_sublist (fun z => ?_), fun l hl => for_has ho hf hmem hl⟩
    obtain ⟨r, hr⟩ := List.exists_mem_of_ne_nil _ (for_ne hf)
    have := (hmem r).mpr hr
    rw [z] at this
    cases this
  · rintro ⟨h, hh, hall⟩
    unfold fitB
    rw [List.all_eq_true]
    intro n hn
    have hpass : ∀ r ∈ h, ∀ l ∈ ls, Sat r (prOf l) := fun r hr l hl hb => ((has_iff (ho l hl).1).mp (hall l hl)).2 _ hb r hr rfl
    rcases needs_or hn with rfl | hn'
    · obtain ⟨r, hr⟩ := List.exists_mem_of_ne_nil _ (house_ne hh)
      refine letRow_full (sharp_ok ho hn) (houses_row hh r hr) fun q hq => ?_
      obtain ⟨l, hl, rfl⟩ := List.mem_map.mp hq
      exact hpass r hr l hl
    · obtain ⟨i, l, t, h1, h2, rfl⟩ := needs0_iff.mp hn'
      have hl := List.mem_of_getElem? h1
      obtain ⟨r, hr, hb⟩ := ((has_iff (ho l hl).1).mp (hall l hl)).1 t h2
      refine letRow_full (sharp_ok ho hn) (houses_row hh r hr) fun q hq => ?_
      rcases List.mem_append.mp hq with hq | hq
      · obtain ⟨l, hl, rfl⟩ := List.mem_map.mp hq
        exact hpass r hr l hl
      · have e : q = ((ls.getD i ([], [])).1, lessL (ls.getD i ([], [])).1 t) := by simpa using hq
        have hd : ls.getD i ([], []) = l := by rw [List.getD_eq_getElem?_getD, h1] <;> rfl
        rw [hd] at e
        subst e
        intro z
        exact (less_mem.mp z).2 hb
theorem reach_iff {named : List Str} {ls : List Lk} {k : Nat} (hk : 0 < k) : k ≤ reachOf named ls ↔ ∃ h ∈ housesOf named, k ≤ preLen h ls := by
  have key : ∀ (hs : List (List Row)) (b : Nat), k ≤ hs.foldl (fun b rows => if preLen rows ls > b then preLen rows ls else b) b ↔ (k ≤ b ∨ ∃ h ∈ hs, k ≤ preLen h ls) := by
    intro hs
    induction hs with
    | nil => intro b; simp
    | cons h hs ih =>
      intro b
      rw [List.foldl_cons, ih]
      by_cases z : preLen h ls > b
      · rw [if_pos z]
        constructor
        · rintro (h1 | ⟨x, h1, h2⟩)
          · exact .inr ⟨h, List.mem_cons_self, h1⟩
          · exact .inr ⟨x, List.mem_cons_of_mem _ h1, h2⟩
        · rintro (h1 | ⟨x, h1, h2⟩)
          · exact .inl (by omega)
          · rcases List.mem_cons.mp h1 with rfl | h1
            · exact .inl h2
            · exact .inr ⟨x, h1, h2⟩
      · rw [if_neg z]
        constructor
        · rintro (h1 | ⟨x, h1, h2⟩)
          · exact .inl h1
          · exact .inr ⟨x, List.mem_cons_of_mem _ h1, h2⟩
        · rintro (h1 | ⟨x, h1, h2⟩)
          · exact .inl h1
          · rcases List.mem_cons.mp h1 with rfl | h1
            · exact .inl (by omega)
            · exact .inr ⟨x, h1, h2⟩
  unfold reachOf
  rw [key]
  constructor
  · rintro (h | h)
    · omega
    · exact h
  · exact .inr
theorem pre_iff {rows : List Row} : ∀ {ls : List Lk} {k : Nat}, k ≤ ls.length → (k ≤ preLen rows ls ↔ ∀ l ∈ ls.take k, hasB rows l = true)
  | ls, 0, _ => by simp
  | [], k + 1, h => by simp at h
  | l :: ls, k + 1, h => by
    unfold preLen
    rw [List.takeWhile_cons, List.take_succ_cons]
    cases z : hasB rows l with
    | false =>
      simp only [Bool.false_eq_true, if_false, List.length_nil]
      constructor
      · intro h; omega
      · intro h
        have := h l List.mem_cons_self
        rw [z] at this
        cases this
    | true =>
      simp only [if_true, List.length_cons]
      have ih := pre_iff (rows := rows) (ls := ls) (k := k) (by simpa using h)
      unfold preLen at ih
      rw [Nat.add_le_add_iff_right, ih]
      constructor
      · intro h x hx
        rcases List.mem_cons.mp hx with rfl | hx
        · exact z
        · exact h x hx
      · intro h x hx
        exact h x (List.mem_cons_of_mem _ hx)
/-- a prefix fits exactly if it is within reach -/
theorem fit_take {named : List Str} {ls : List Lk} (ho : OkAll named ls) {k : Nat} (hk : k ≤ ls.length) : fitB named (ls.take k) = decide (k ≤ reachOf named ls) := by
  have ho' : OkAll named (ls.take k) := fun l hl => ho l (List.mem_of_mem_take hl)
  have h1 := fit_iff ho'
  by_cases z : k = 0
  · subst z
    rw [decide_eq_true (Nat.zero_le _)]
    refine h1.mpr ?_
    have hr : rowsOf named ≠ [] := List.ne_nil_of_mem (rows_all (List.Perm.refl named))
    exact ⟨rowsOf named, house_of (List.Sublist.refl _) hr, fun l hl => by simp at hl⟩
  · have h2 := reach_iff (named := named) (ls := ls) (k := k) (by omega)
    have h3 : (k ≤ reachOf named ls) ↔ fitB named (ls.take k) = true := by
      rw [h1, h2]
      constructor
      · rintro ⟨h, a, b⟩
        exact ⟨h, a, (pre_iff hk).mp b⟩
      · rintro ⟨h, a, b⟩
        exact ⟨h, a, (pre_iff hk).mpr b⟩
    cases q : fitB named (ls.take k) with
    | true => rw [decide_eq_true (h3.mpr q)]
    | false => rw [decide_eq_false (fun z => by rw [h3.mp z] at q; cases q)]
theorem reach_le {named : List Str} {ls : List Lk} : reachOf named ls ≤ ls.length := by
  rcases Nat.eq_zero_or_pos (reachOf named ls) with z | z
  · omega
  · obtain ⟨h, _, h2⟩ := (reach_iff z).mp (Nat.le_refl _)
    exact Nat.le_trans h2 pre_le
theorem fit_all {named : List Str} {ls : List Lk} (ho : OkAll named ls) : fitB named ls = decide (reachOf named ls = ls.length) := by
  have h := fit_take ho (Nat.le_refl ls.length)
  rw [List.take_length] at h
  rw [h]
  have := reach_le (named := named) (ls := ls)
  by_cases z : reachOf named ls = ls.length
  · rw [decide_eq_true z, decide_eq_true (by omega)]
  · rw [decide_eq_false z, decide_eq_false (by omega)]
theorem fit_rev {named : List Str} {ls : List Lk} (ho : OkAll named ls) : fitB named ls.reverse = fitB named ls := by
  have ho' : OkAll named ls.reverse := fun l hl => ho l (List.mem_reverse.mp hl)
  have h1 := fit_iff ho
  have h2 := fit_iff ho'
  have e : fitB named ls.reverse = true ↔ fitB named ls = true := by
    rw [h1, h2]
    constructor
    · rintro ⟨h, a, b⟩
      exact ⟨h, a, fun l hl => b l (List.mem_reverse.mpr hl)⟩
    · rintro ⟨h, a, b⟩
      exact ⟨h, a, fun l hl => b l (List.mem_reverse.mp hl)⟩
  cases q : fitB named ls with
  | true => exact e.mpr q
  | false =>
    cases q2 : fitB named ls.reverse with
    | false => rfl
    | true => rw [e.mp q2] at q; cases q
end Mh
set_option maxRecDepth 100000
set_option maxHeartbeats 2000000
/-! E12: sorted(a list of rows of texts). -/
namespace Mh
open PySem PySem.Spec PyProof.Rows L2
open Evl (Ex)
def encR (r : List Str) : PyData := .tuple (r.map PyData.str)
def leR : List Str → List Str → Bool := PySem.W.dataLe false encR
def srtRows (rows : List (List Str)) : List (List Str) := rows.mergeSort leR
theorem alikes_strs : ∀ xs ys : List Str, PySem.W.alikeAll (xs.map PyData.str) (ys.map PyData.str) = true
  | [], _ => by simp [PySem.W.alikeAll]
  | _ :: _, [] => by simp [PySem.W.alikeAll]
  | x :: xs, y :: ys => by
    show PySem.W.alikeAll (.str x :: xs.map PyData.str) (.str y :: ys.map PyData.str) = true
    rw [PySem.W.alikeAll, alikes_strs xs ys]
    simp [PySem.W.alike]
theorem encR_alike (a b : List Str) : PySem.W.alike (encR a) (encR b) = true := by
  unfold encR
  rw [PySem.W.alike]
  exact alikes_strs a b
theorem depths_strs : ∀ xs : List Str, PyData.depthAll (xs.map PyData.str) = 0
  | [] => by simp [PyData.depthAll]
  | x :: xs => by
    show PyData.depthAll (.str x :: xs.map PyData.str) = 0
    rw [PyData.depthAll, depths_strs xs]
    simp [PyData.depth]
theorem encR_depth (a : List Str) : (encR a).depth ≤ 1 := by
  unfold encR
  rw [PyData.depth, depths_strs] <;> omega
theorem leR_total : PySem.W.TotalLe leR := by
  unfold leR PySem.W.dataLe
  exact PySem.W.sortLe_total _ _ _
theorem srtR_perm (rows : List (List Str)) : (srtRows rows).Perm rows := List.mergeSort_perm _ _
/-- x stands for the row r -/
def RowV (H : Hp) (x : V) (r : List Str) : Prop := ∃ t, x = .ref t ∧ H t = some (.tup (r.map V.str))
def rSortR (K : PySem.W.Frag) : List V → Hp → VK → Prop := fun vs H Q => ∃ (a : Addr) (xs : List V) (rows : List (List Str)), vs = [V.ref a] ∧ SqL K H a xs ∧ rows.length < 64 ∧ PySem.W.EachIs (RowV H) xs rows ∧ (∀ r ∈ rows, r ≠ []) ∧
  ∀ (ys : List V) (p : Addr), PySem.W.EachIs (RowV H) ys (srtRows rows) → H p = none → Q (.ref p) (upd H p (.lst ys))
theorem rowV_vals {P : Program} {w : World} {H : Hp} : ∀ {xs : List V} {us : List Value} {rows : List (List Str)}, Vals xs us → PySem.W.EachIs (RowV H) xs rows → PySem.W.EachIs (fun u r => ∃ t, u = Value.ref t ∧ H t = some (.tup (r.map V.str))) us rows
  | _, _, _, .nil, .nil => .nil
  | _, _, _, .cons r rs, .cons h hs => .cons (by
      obtain ⟨t, e, ht⟩ := h
      subst e
      exact ⟨t, r, ht⟩) (rowV_vals (P := P) (w := w) rs hs)
theorem rowV_back {H : Hp} : ∀ {us : List Value} {rows : List (List Str)}, PySem.W.EachIs (fun u r => ∃ t, u = Value.ref t ∧ H t = some (.tup (r.map V.str))) us rows → ∃ ys : List V, Vals ys us ∧ PySem.W.EachIs (RowV H) ys rows
  | _, _, .nil => ⟨[], .nil, .nil⟩
  | _, _, .cons h hs => by
    obtain ⟨t, e, ht⟩ := h
    obtain ⟨ys, h1, h2⟩ := rowV_back hs
    subst e
    exact ⟨.ref t :: ys, .cons rfl h1, .cons ⟨t, rfl, ht⟩ h2⟩
theorem each_len {α β : Type} {R : α → β → Prop} : ∀ {as : List α} {bs : List β}, PySem.W.EachIs R as bs → as.length = bs.length
  | _, _, .nil => rfl
  | _, _, .cons _ hs => congrArg (· + 1) (each_len hs)
theorem each_map {α β : Type} {R R' : α → β → Prop} {P : β → Prop} (h : ∀ a b, P b → R a b → R' a b) : ∀ {as : List α} {bs : List β}, (∀ b ∈ bs, P b) → PySem.W.EachIs R as bs → PySem.W.EachIs R' as bs
  | _, _, _, .nil => .nil
  | _, _, hp, .cons x hs => .cons (h _ _ (hp _ List.mem_cons_self) x) (each_map h (fun b hb => hp b (List.mem_cons_of_mem _ hb)) hs)
theorem pys_strs : ∀ r : List Str, D.pys (r.map D.str) = r.map PyData.str
  | [] => pys_nil
  | x :: r => by
    show D.pys (D.str x :: r.map D.str) = _
    rw [pys_cons, pys_strs r]
    unfold D.py
    rfl
theorem plains_strs : ∀ r : List Str, D.plains (r.map D.str) = true
  | [] => by
    show D.plains [] = true
    unfold D.plains
    rfl
  | x :: r => by
    show D.plains (D.str x :: r.map D.str) = true
    unfold D.plains
    rw [plains_strs r]
    unfold D.plain
    rfl
theorem cr_sortR {X : Cx} (hu : X.A.units + 64 < cLine) : CallR X (.builtin "sorted") (rSortR X.K) := by
  intro pins s σ H vs us Q I r h
  obtain ⟨a, xs, rows, rfl, hs, h64, he, hne, q⟩ := h
  obtain ⟨its, rv, hl, _⟩ := I.list hs
  rw [Vals.ref1 r]
  have e1 := rowV_vals (P := X.prog) (w := X.w) rv he
  have e2 : PySem.W.EachIs (fun v b => ∃ as, Reads s.heap v (encR b) as) its rows := each_map (P := fun _ => True) (fun u r _ ⟨t, hu', ht⟩ => by
    subst hu'
    refine Dp.reads I (encR r) (.ref t) (.ref t) ?_ rfl
    have z := Rep.dp (K := X.K) (d := .tup (r.map D.str)) (S := H) (Ex.refl H) (by unfold D.plain; exact plains_strs r) (rep_tup ht repL_of_strs)
    rw [py_tup, pys_strs] at z
    exact z) (fun _ _ => trivial) e1
  have hk : PySem.W.Sortable (rows.map encR) := .inl fun d hd => by
    obtain ⟨b, hb, rfl⟩ := List.mem_map.mp hd
    cases b with
    | nil => exact absurd rfl (hne [] hb)
    | cons x r => exact ⟨_, _, rfl⟩
  refine PySem.W.sorted_data (bs := rows) (enc := encR) hl.isList e1 e2 (PySem.W.AllAlike.of encR_alike) hk (by rw [sizeLine_eq]; omega) (fun b _ => by have := encR_depth b; omega) fun out h1 h2 => ?_
  obtain ⟨ys, h3, h4⟩ := rowV_back h2
  obtain ⟨ep, he'⟩ := PyProof.Rows.sortedAll_at s.heap its (List.toArray out)
  have hlen : ys.length ≤ sizeLine := by
    rw [h3.length, h1, sizeLine_eq]
    omega
  exact ⟨.ref _, upd H (s.heap.objs.size + 1) (.lst ys), I.laid (t' := s.toks) (fun _ _ => PyProof.Rows.sortedAll_old) (Nat.le_succ _) ⟨hlen, out, ep, h3, by simpa using he'⟩, rfl, q ys _ h4 (I.hok.fresh (Nat.le_succ _))⟩
end Mh
set_option maxRecDepth 100000
set_option maxHeartbeats 2000000
/-! E13: the tuples of H taken into S; Looks.people. -/
namespace Mh
open PySem PySem.Spec PyProof.Rows L2
open Evl (Ex)
/-- S and all tuples of H -/
def tupsOf (S H : Hp) : Hp := fun a => match H a with
  | some (.tup xs) => some (.tup xs)
  | _ => S a
theorem tupsOf_tup {S H : Hp} {a : Addr} {xs : List V} (h : H a = some (.tup xs)) : tupsOf S H a = some (.tup xs) := by
  unfold tupsOf
  rw [h]
theorem tupsOf_not {S H : Hp} {a : Addr} {o : HO} (h : H a = some o) (n : NT o) : tupsOf S H a = S a := by
  unfold tupsOf
  rw [h]
  cases o with
  | tup xs => exact absurd rfl (n xs)
  | _ => rfl
theorem tupsOf_none {S H : Hp} {a : Addr} (h : H a = none) : tupsOf S H a = S a := by
  unfold tupsOf
  rw [h]
theorem Gr.tups {S H : Hp} (e : Ex S H) : Gr S H (tupsOf S H) H := by
  refine ⟨fun a o h => ?_, fun a o h => ?_, Ex.refl H, fun a o h h' n => by rw [tupsOf_not h' n]; exact h⟩
  · have h2 := e a o h
    cases o with
    | tup xs => exact tupsOf_tup h2
    | _ =>
      rw [tupsOf_not h2 (fun xs z => nomatch z)]
      exact h
  · cases h2 : H a with
    | none =>
      rw [tupsOf_none h2] at h
      have := e a o h
      rw [h2] at this
      cases this
    | some u =>
      cases u with
      | tup xs =>
        rw [tupsOf_tup h2] at h
        exact h
      | _ =>
        rw [tupsOf_not h2 (fun xs z => nomatch z)] at h
        rw [← h2]
        exact e a o h
theorem rowV_mono {H H' : Hp} (k : ∀ a xs, H a = some (.tup xs) → H' a = some (.tup xs)) : ∀ {xs : List V} {rows : List (List Str)}, PySem.W.EachIs (RowV H) xs rows → PySem.W.EachIs (RowV H') xs rows
  | _, _, .nil => .nil
  | _, _, .cons ⟨t, e, ht⟩ hs => .cons ⟨t, e, k _ _ ht⟩ (rowV_mono k hs)
theorem rowV_rep {S : Hp} : ∀ {vs : List V} {rows : List (List Str)}, PySem.W.EachIs (RowV S) vs rows → RepL S (rows.map rowD) vs
  | _, _, .nil => repL_nil
  | _, _, .cons ⟨t, e, ht⟩ hs => by
    subst e
    exact repL_cons (rep_tup ht repL_of_strs) (rowV_rep hs)
theorem rep_rowV {S : Hp} : ∀ {rows : List (List Str)} {vs : List V}, RepL S (rows.map rowD) vs → PySem.W.EachIs (RowV S) vs rows
  | [], _, r => by rw [r.nil]; exact .nil
  | x :: rows, _, r => by
    obtain ⟨v, r', rfl, h2, h3⟩ := RepL.cons r
    obtain ⟨a, ws, rfl, h4, h5⟩ := h2.tup
    rw [repL_strs h5] at h4
    exact .cons ⟨a, rfl, h4⟩ (rep_rowV h3)
theorem cd_sortR {K : PySem.W.Frag} {rows : List (List Str)} (h64 : rows.length < 64) (hne : ∀ r ∈ rows, r ≠ []) : CallD (rSortR K) [.lst (rows.map rowD)] (.lst ((srtRows rows).map rowD)) := fun S H us Q e r k => by
  obtain ⟨u, rfl, r1⟩ := one_rep r
  obtain ⟨a, vs, rfl, h1, h2⟩ := r1.lst
  refine ⟨a, vs, rows, rfl, SqL.of (e _ _ h1), h64, rowV_mono (fun b xs h => e _ _ h) (rep_rowV h2), hne, fun ys p hy hp => ?_⟩
  have g1 := Gr.tups e
  have g2 : Gr (tupsOf S H) H (upd (tupsOf S H) p (.lst ys)) (upd H p (.lst ys)) := Gr.new g1.sh hp
  exact k (.ref p) _ _ (g1.trans g2) (rep_lst upd_same ((rowV_rep (rowV_mono (fun b xs h => tupsOf_tup h) hy)).mono g2.ss))
section
variable {X : Cx} {ρ : En} {e : Expr} {pos p : Pos} {rows : List (List Str)}
theorem e_sortR (B : Bi X.mg) (hu : X.A.units + 64 < cLine) (h64 : rows.length < 64) (hne : ∀ r ∈ rows, r ≠ []) (h : Em X e ρ (.lst (rows.map rowD))) (hg : L2.Gl X "sorted" := by rfl) (hs : starEach [e] X.env = (false, eval e X.env) :: starEach [] X.env := by rfl) : Em X (.Call (.Name "sorted" p) [e] [] pos) ρ (.lst ((srtRows rows).map rowD)) :=
  em_callB (cr_sortR hu) (cd_sortR h64 hne) hg (B.free _ (by decide)) boot_sorted (a1 h hs) (he := hs)
end
end Mh
set_option maxRecDepth 100000
set_option maxHeartbeats 2000000
/-! E14: {row: True for x in xs}. -/
namespace Mh
open PySem PySem.Spec PyProof.Rows L2
open Evl (Ex)
def kyR (r : List Str) : List Key := r.map Sum.inr
theorem kyR_v (r : List Str) : (kyR r).map kV = r.map V.str := by
  unfold kyR
  rw [List.map_map] <;> rfl
def dkR (rows : List (List Str)) : List (List Key × V) := rows.foldl (fun kvs r => putK kvs (kyR r) (.bl true)) []
theorem dkR_more {rows : List (List Str)} {i : Nat} {r : List Str} (h : rows[i]? = some r) : dkR (rows.take (i + 1)) = putK (dkR (rows.take i)) (kyR r) (.bl true) := by
  unfold dkR
  rw [List.take_succ, h, List.foldl_append] <;> rfl
theorem dkR_len (rows : List (List Str)) : (dkR rows).length ≤ rows.length := by
  have key : ∀ (rows : List (List Str)) (kvs : List (List Key × V)), (rows.foldl (fun kvs r => putK kvs (kyR r) (.bl true)) kvs).length ≤ kvs.length + rows.length := by
    intro rows
    induction rows with
    | nil => intro kvs; exact Nat.le_refl _
    | cons r rows ih =>
      intro kvs
      have h1 := ih (putK kvs (kyR r) (.bl true))
      have h2 := length_putK kvs (kyR r) (.bl true)
      rw [List.foldl_cons, List.length_cons]
      omega
  have := key rows []
  rw [List.length_nil, Nat.zero_add] at this
  exact this
section
variable {X : Cx} {ρ : En} {α : Type} {kx vx tg iter : Expr} {scope : Scope} {own : List (Str × Nat)} {b : Bd} {xs : List α} {φ : α → D} {f : α → List Str} {pos : Pos}
theorem ps_setDcT {i : Nat} {y : Str} {py : Pos} {spos : Pos} {wi : TI} {g : TG} {tk tv : TE} (hu : X.A.units + 1 < cLine) (hc : X.calm = true) (hN : X.N.Nodup) (hy : X.N[i]? = some y) (hyl : X.env.scope.names.lookup y = some .local)
    (hsw : swapsWith (.DictComp kx vx [⟨tg, iter, [], 0⟩] scope pos) (some (.Name y py)) spos.line X.env = pure true) (hi : PI X tg iter wi) (ok : BlkOk X.N X.env.scope scope own)
    (hg : ∀ (s : Shared) (H : Hp) (C : Addr) (cl : List (Str × Addr)) (fp : List Addr), PG (X.blk s H scope (compEnvC scope cl C X.env) fp) tg g)
    (hk : ∀ (s : Shared) (H : Hp) (C : Addr) (cl : List (Str × Addr)) (fp : List Addr), PE (X.blk s H scope (compEnvC scope cl C X.env) fp) kx tk)
    (he : ∀ (s : Shared) (H : Hp) (C : Addr) (cl : List (Str × Addr)) (fp : List Addr), PE (X.blk s H scope (compEnvC scope cl C X.env) fp) vx tv) (hs : ∀ x, foldedSetIterable iter X.env x = pure x := by intro _; rfl) :
    PS X (.Assign [.Name y py] (.DictComp kx vx [⟨tg, iter, [], 0⟩] scope pos) spos) (tAsg (tDcT wi g tk tv (own.map (·.2))) (gName i)) := by
  refine ⟨fun pins s σ H D I h => ?_⟩
  rw [exec_Assign_Name_used _ _ _ _ hsw]
  refine wpAny_bind (wpAny_standAt (wpAny_bind ?_))
  show wpAny _ X.A (do let _ ← comprehension (.DictComp kx vx [⟨tg, iter, [], 0⟩] scope pos) scope X.env (firstIterPos [⟨tg, iter, [], 0⟩] pos) newDict false (eval iter X.env) (some (assign (.Name y py) X.env))) _ _ s
  have h : tDcT wi g tk tv (own.map (·.2)) σ H (fun x H1 => gName i x σ H1 D.nx) := h
  refine wpAny_bind (thn (dcT_core (Qf := fun _ s' => SP X pins D .next s') hu hc hN I hi ok hg hk he hs h fun L C s' m H' I' q hn f => ?_) fun _ s' hq => wpAny_pure (wpAny_pure hq))
  show wpAny _ _ (assign (.Name y py) X.env (.ref L)) _ _ _
  refine wpAny_assign_Name (store_ok2 (v := V.ref L) I' hN hy (.inl hyl) rfl (fun s2 I2 ⟨a, sb, ha⟩ => ?_) (.inr hyl))
  obtain ⟨f0, f1, f2, f3, f4, f5⟩ := f
  have haC : C ≠ a := by
    rcases ha with z | z
    · rw [z]; exact f1
    · exact fun e => f4 y a z e.symm
  refine ⟨m, hn.sameBut sb haC, fun h3 sb3 => ?_⟩
  exact ⟨_, H', I2.turned (t' := s2.toks) (fun b o hb e => (sb3.2 b hb).trans e) f0 f1 f3 f4 f5, q⟩
def tDR (ρ : En) (rows : List (List Str)) : TE := fun σ H Q => ∃ S, Ex S H ∧ RepE S ρ σ ∧ ∀ D S' H', Gr S H S' H' → S' D = none → H D = none → H' D = some (.dT (dkR rows)) → Q (.ref D) H'
theorem dcR_D (hu : X.A.units + 1 < cLine) (hc : X.calm = true) (hN : X.N.Nodup) (it : Ei X tg iter ρ (xs.map φ)) (ok : BlkOk X.N X.env.scope scope own) (hl : xs.length ≤ 1000) (sl : ∀ i ∈ b.slots, i ∈ own.map (·.2))
    (hg : ∀ (s : Shared) (H : Hp) (C : Addr) (cl : List (Str × Addr)) (fp : List Addr), PG (X.blk s H scope (compEnvC scope cl C X.env) fp) tg (b.tg X.K))
    (turn : ∀ x ∈ xs, ∃ ρ', bindE b (wipeE ρ (own.map (·.2))) (φ x) = some ρ' ∧ ∀ (s : Shared) (H : Hp) (C : Addr) (cl : List (Str × Addr)) (fp : List Addr), Em (X.blk s H scope (compEnvC scope cl C X.env) fp) kx ρ' (rowD (f x)) ∧ Em (X.blk s H scope (compEnvC scope cl C X.env) fp) vx ρ' (.bl true))
    (hs : ∀ x, foldedSetIterable iter X.env x = pure x) : ∃ (tk tv : TE), (∀ (s : Shared) (H : Hp) (C : Addr) (cl : List (Str × Addr)) (fp : List Addr), PE (X.blk s H scope (compEnvC scope cl C X.env) fp) kx tk) ∧ (∀ (s : Shared) (H : Hp) (C : Addr) (cl : List (Str × Addr)) (fp : List Addr), PE (X.blk s H scope (compEnvC scope cl C X.env) fp) vx tv) ∧ ∀ σ H Q, tDR ρ (xs.map f) σ H Q → tDcT (tiD ρ (xs.map φ)) (b.tg X.K) tk tv (own.map (·.2)) σ H Q := by
  have turn' : ∀ x : α, ∃ ρ', x ∈ xs → bindE b (wipeE ρ (own.map (·.2))) (φ x) = some ρ' ∧ ∀ (s : Shared) (H : Hp) (C : Addr) (cl : List (Str × Addr)) (fp : List Addr), Em (X.blk s H scope (compEnvC scope cl C X.env) fp) kx ρ' (rowD (f x)) ∧ Em (X.blk s H scope (compEnvC scope cl C X.env) fp) vx ρ' (.bl true) := fun x => by
    by_cases h : x ∈ xs
    · obtain ⟨ρ', h1⟩ := turn x h
      exact ⟨ρ', fun _ => h1⟩
    · exact ⟨[], fun z => absurd z h⟩
  obtain ⟨R, hR⟩ := Classical.axiomOfChoice turn'
  refine ⟨fun σ H Q => ∃ x, x ∈ xs ∧ tD (R x) (rowD (f x)) σ H Q, fun σ H Q => ∃ x, x ∈ xs ∧ tD (R x) (.bl true) σ H Q, fun s H C cl fp => pe_some (P := fun x => x ∈ xs) fun x hx => ((hR x hx).2 s H C cl fp).1, fun s H C cl fp => pe_some (P := fun x => x ∈ xs) fun x hx => ((hR x hx).2 s H C cl fp).2, fun σ H Q ⟨S, e, rE, k⟩ => ⟨S, e, rE, fun J S1 H1 g1 it D hD => ?_⟩⟩
  have hlen : (xs.map φ).length = xs.length := List.length_map ..
  have hS1 : S1 D = none := none_of_ex g1.sh hD
  have hH : H D = none := by
    cases z : H D with
    | none => rfl
    | some o =>
      rw [g1.hh D o z] at hD
      cases hD
  have g0 : Gl D S1 (upd H1 D (.dT [])) S1 (upd H1 D (.dT [])) := ⟨Ex.refl S1, fun a o h => by
    rw [upd_ne (fun z => by rw [z, hS1] at h; cases h)]
    exact g1.sh a o h, fun a o _ h => h, fun a o _ h _ _ => h⟩
  refine ⟨fun n m H' => m = xs.length - n ∧ n ≤ xs.length ∧ ∃ S', Gl D S1 (upd H1 D (.dT [])) S' H' ∧ S' D = none ∧ H' D = some (.dT (dkR ((xs.map f).take n))), ⟨xs.length, by simp, Nat.zero_le _, S1, g0, hS1, by rw [upd_same, List.take_zero] <;> rfl⟩, ?_⟩
  rintro n m H' ⟨rfl, hn, S', g', hSD, hHD⟩
  obtain ⟨it1, it2, it3⟩ := it S' H' g'.ss g'.sh
  by_cases hlt : n < xs.length
  · refine .inr ⟨it1 n (by rw [hlen]; exact hlt), fun H'' => ∃ S'', Gl D S1 (upd H1 D (.dT [])) S'' H'' ∧ S'' D = none ∧ H'' D = some (.dT (dkR ((xs.map f).take (n + 1)))), fun H'' w => ⟨xs.length - (n + 1), by omega, rfl, hlt, w⟩, fun v H2 y => ?_⟩
    have hx : xs[n]? = some xs[n] := List.getElem?_eq_getElem hlt
    have hm := List.mem_of_getElem? hx
    obtain ⟨S2, g2, r2⟩ := it3 n v H2 (by rw [hlen]; exact hlt) y (φ xs[n]) (by rw [List.getElem?_map, hx] <;> rfl)
    have rw2 : RepE S2 (wipeE ρ (own.map (·.2))) (wipe σ (own.map (·.2))) := (rE.mono (g1.ss.trans (g'.ss.trans g2.ss))).wipe _
    refine bind_ok g2.sh rw2 r2 (hR _ hm).1 fun σ2 rE2 hw => ⟨by have := hw _ sl; rw [wipe_idem] at this; exact this, xs[n], hm, S2, g2.sh, rE2, fun y S4 H4 g4 r4 => ⟨xs[n], hm, S4, g4.sh, rE2.mono g4.ss, fun z S5 H5 g5 r5 => ?_⟩⟩
    obtain ⟨q, ws, rfl, h6, h7⟩ := (r4.mono g5.ss).tup
    rw [repL_strs h7] at h6
    have g25 := g2.trans (g4.trans g5)
    have s5 : S5 D = none := g25.fr D _ hSD hHD (fun _ z => nomatch z)
    have hx2 : (xs.map f)[n]? = some (f xs[n]) := by rw [List.getElem?_map, hx] <;> rfl
    refine ⟨dkR ((xs.map f).take n), kyR (f xs[n]), q, rfl, by rw [kyR_v]; exact g5.sh _ _ h6, g25.hh D _ hHD, ?_, S5, (g'.trans g25.toGl).trans (Gl.write g25.sh s5), s5, ?_⟩
    · have := dkR_len ((xs.map f).take n)
      rw [List.length_take, List.length_map] at this
      rw [sizeLine_eq]
      omega
    · rw [upd_same, r5.bl, dkR_more hx2]
  · have e1 : n = xs.length := by omega
    subst e1
    have et : (xs.map f).take xs.length = xs.map f := List.take_of_length_le (by rw [List.length_map]; exact Nat.le_refl _)
    rw [et] at hHD
    exact .inl ⟨by rw [hlen] at it2; exact it2, k D S' H' (g1.trans (g'.toGr hD)) hSD hH hHD⟩
theorem es_dcR {i : Nat} {y : Str} {py spos : Pos} (hu : X.A.units + 1 < cLine) (hc : X.calm = true) (hN : X.N.Nodup) (hy : X.N[i]? = some y) (hyl : X.env.scope.names.lookup y = some .local) (hsw : swapsWith (.DictComp kx vx [⟨tg, iter, [], 0⟩] scope pos) (some (.Name y py)) spos.line X.env = pure true) (it : Ei X tg iter ρ (xs.map φ)) (ok : BlkOk X.N X.env.scope scope own) (hl : xs.length ≤ 1000) (sl : ∀ i ∈ b.slots, i ∈ own.map (·.2))
    (hg : ∀ (s : Shared) (H : Hp) (C : Addr) (cl : List (Str × Addr)) (fp : List Addr), PG (X.blk s H scope (compEnvC scope cl C X.env) fp) tg (b.tg X.K))
    (turn : ∀ x ∈ xs, ∃ ρ', bindE b (wipeE ρ (own.map (·.2))) (φ x) = some ρ' ∧ ∀ (s : Shared) (H : Hp) (C : Addr) (cl : List (Str × Addr)) (fp : List Addr), Em (X.blk s H scope (compEnvC scope cl C X.env) fp) kx ρ' (rowD (f x)) ∧ Em (X.blk s H scope (compEnvC scope cl C X.env) fp) vx ρ' (.bl true))
    (hs : ∀ x, foldedSetIterable iter X.env x = pure x := by intro _; rfl) : PS X (.Assign [.Name y py] (.DictComp kx vx [⟨tg, iter, [], 0⟩] scope pos) spos) (fun Dn σ H => tDR ρ (xs.map f) σ H fun v H1 => gName i v σ H1 Dn.nx) := by
  obtain ⟨tk, tv, h1, h2, h3⟩ := dcR_D (f := f) hu hc hN it ok hl sl hg turn hs
  exact ps_mono (ps_setDcT hu hc hN hy hyl hsw it ok hg h1 h2 hs) fun Dn σ H h => h3 σ H _ h
theorem sw_trueD {gs : List Comprehension} {py : Pos} {y : Str} {l : Nat} {env : Env} (hk : env.scope.kind = .function) (hy : env.scope.names.lookup y = some .local) (hl : (py.line == pos.line) = true)
    (ha : (scope.names.any fun (n, k) => n == y && (k == .local || k == .cell)) = false) : swapsWith (.DictComp kx vx gs scope pos) (some (.Name y py)) l env = pure true := by
  have ky : env.kindOf y = some .local := hy
  have hb : env.blockKind = .function := by unfold Env.blockKind; rw [hk]; rfl
  unfold swapsWith
  simp only [hb, ky, ha, Expr.pos, hl]
  rfl
end
end Mh
set_option maxRecDepth 100000
set_option maxHeartbeats 2000000
/-! E15: a dict with tuple keys, locked, gone over. -/
namespace Mh
open PySem PySem.Spec PyProof.Rows L2
open Evl (Ex)
/-- the locked dict at d -/
def dicD (d : Addr) (od : Obj) (kvs : List (List Key × V)) : D := .ext d (fun S => S d = some (.frz od (.dT kvs))) fun _ _ e h => e _ _ h
mutual
theorem Rep.unlock {S : Hp} {l : Addr} {od : Obj} {u : HO} (hl : S l = some (.frz od u)) : ∀ {d : D} {v : V}, pureD d = true → Rep S d v → Rep (less1 S l) d v
  | .int _, _, _, r => by rw [r.int]; exact rep_int
  | .bl _, _, _, r => by rw [r.bl]; exact rep_bl
  | .non, _, _, r => by rw [r.non]; exact rep_non
  | .str _, _, _, r => by rw [r.str]; exact rep_str
  | .val _, _, _, r => by rw [r.val]; exact rep_val
  | .scr _ _, _, h, _ => by
    unfold pureD at h
    cases h
  | .ext _ _ _, _, h, _ => by
    unfold pureD at h
    cases h
  | .tup m, _, h, r => by
    unfold pureD at h
    obtain ⟨a, vs, rfl, h1, h2⟩ := r.tup
    exact rep_tup (by rw [less1_ne (fun z => by rw [z, hl] at h1; cases h1)]; exact h1) (RepL.unlock hl h h2)
  | .lst m, _, h, r => by
    unfold pureD at h
    obtain ⟨a, vs, rfl, h1, h2⟩ := r.lst
    exact rep_lst (by rw [less1_ne (fun z => by rw [z, hl] at h1; cases h1)]; exact h1) (RepL.unlock hl h h2)
  | .obj c ns m, _, h, r => by
    unfold pureD at h
    obtain ⟨a, dx, vs, rfl, h1, h2⟩ := r.obj
    exact rep_obj (dx := dx) (by rw [less1_ne (fun z => by rw [z, hl] at h1; cases h1)]; exact h1) (RepL.unlock hl h h2)
theorem RepL.unlock {S : Hp} {l : Addr} {od : Obj} {u : HO} (hl : S l = some (.frz od u)) : ∀ {ds : List D} {vs : List V}, pureDs ds = true → RepL S ds vs → RepL (less1 S l) ds vs
  | [], _, _, r => by rw [r.nil]; exact repL_nil
  | d :: ds, _, h, r => by
    unfold pureDs at h
    rw [Bool.and_eq_true] at h
    obtain ⟨v, rs, rfl, h2, h3⟩ := r.cons
    exact repL_cons (Rep.unlock hl h.1 h2) (RepL.unlock hl h.2 h3)
end
section
variable {X : Cx} {ρ : En} {e tg : Expr} {pos : Pos} {d : D} {D' : Addr} {od : Obj} {kvs : List (List Key × V)} {rows : List (List Str)} {k : Nat}
theorem ei_keysR (hk : kvs.map (·.1) = rows.map kyR) (he : Em X e ρ (dicD D' od kvs)) : Ei X tg e ρ (rows.map rowD) :=
  pi_mono (pi_keys he) fun _ _ R ⟨S, e, rE, kk⟩ => ⟨S, e, rE, fun u S1 H1 g1 r1 => by
    obtain ⟨h1, h2⟩ := r1.ext
    have hlen : kvs.length = rows.length := by
      have := congrArg List.length hk
      simpa using this
    refine ⟨D', od, h1, .inr ⟨kvs, g1.sh _ _ h2, kk _ S1 H1 g1 (isIt_of_walk (walk_keysT (kvs := kvs)) (by rw [List.length_map, hlen]) (fun S' H e1 e2 => e2 _ _ (e1 _ _ h2)) fun i S' H x H' d hi e1 e2 y hd => ?_)⟩⟩
    obtain ⟨rfl, ky, v, q, h3, rfl, h4⟩ := y
    refine ⟨tupsOf S' _, Gr.tups e2, ?_⟩
    rw [List.getElem?_map] at hd
    obtain ⟨r, hr, rfl⟩ := Option.map_eq_some_iff.mp hd
    have h5 : (kvs.map (·.1))[i]? = some ky := by rw [List.getElem?_map, h3] <;> rfl
    rw [hk, List.getElem?_map, hr] at h5
    have h6 : kyR r = ky := Option.some.inj h5
    rw [← h6, kyR_v] at h4
    exact rep_tup (tupsOf_tup h4) repL_of_strs⟩
/-- the dict at D', in slot k -/
def tsK (k : Nat) (ρ : En) (D' : Addr) (kvs : List (List Key × V)) (o : O) : TS := fun Dn σ H => ∃ S, Ex S H ∧ RepE S ρ σ ∧ ρ[k]? = some (some (.val (.ref D'))) ∧ S D' = none ∧ H D' = some (.dT kvs) ∧ Kont o S H Dn
theorem k_ret (hd : pureD d = true) (he : ∀ od, Em X e (ρ.set k (some (dicD D' od kvs))) d) : PS X (.Return (some e) pos) (tsK k ρ D' kvs (.rt d)) := by
  have hE : PE X e (tLockE fun σ H Q => ∃ od, tD (ρ.set k (some (dicD D' od kvs))) d σ H Q) := pe_lock ⟨fun pins s σ H Q I ⟨od, h⟩ => (he od).run pins s σ H Q I h⟩
  refine ps_mono (ps_ret hE) fun Dn σ H ⟨S, e, rE, hk, hS, hH, kk⟩ => ⟨D', .dT kvs, hH, trivial, fun od => ⟨od, upd S D' (.frz od (.dT kvs)), ?_, ?_, fun v S' H' g r => ?_⟩⟩
  · intro a o h
    by_cases q : a = D'
    · rw [q, upd_same] at h ⊢
      exact h
    · rw [upd_ne q] at h ⊢
      exact e a o h
  · have hl : k < ρ.length := (List.getElem?_eq_some_iff.mp hk).1
    obtain ⟨v, hv, rv⟩ := rE.at_ k _ hk
    have e1 : Ex S (upd S D' (.frz od (.dT kvs))) := Ex.new hS
    refine ⟨by rw [List.length_set]; exact rE.len, fun a d' q => ?_⟩
    by_cases hij : k = a
    · subst hij
      rw [List.getElem?_set, if_pos rfl, if_pos hl] at q
      cases q
      exact ⟨v, hv, by rw [rv.val]; exact rep_ext upd_same⟩
    · rw [List.getElem?_set_ne hij] at q
      obtain ⟨u, h3, h4⟩ := rE.at_ a d' q
      exact ⟨u, h3, h4.mono e1⟩
  · have hD : S' D' = some (.frz od (.dT kvs)) := g.ss _ _ upd_same
    refine ⟨g.sh _ _ hD, kk v (less1 S' D') _ ⟨fun a o h => ?_, fun a o h => ?_, fun a o h => ?_, fun a o h h' n => ?_⟩ (Rep.unlock hD hd r)⟩
    · have q : a ≠ D' := fun z => by rw [z, hS] at h; cases h
      rw [less1_ne q]
      exact g.ss a o (by rw [upd_ne q]; exact h)
    · by_cases q : a = D'
      · rw [q, less1_same] at h
        cases h
      · rw [less1_ne q] at h
        rw [upd_ne q]
        exact g.sh a o h
    · by_cases q : a = D'
      · rw [q, upd_same]
        rw [q, hH] at h
        exact h
      · rw [upd_ne q]
        exact g.hh a o (by rw [upd_ne q]; exact h)
    · by_cases q : a = D'
      · rw [q, less1_same]
      · rw [less1_ne q]
        exact g.fr a o (by rw [upd_ne q]; exact h) (by rw [upd_ne q]; exact h') n
end
end Mh
set_option maxRecDepth 100000
set_option maxHeartbeats 2000000
/-! E16: Looks.people. -/
namespace Mh
open PySem PySem.Spec PyProof.Rows L2
open Evl (Ex)
def uniq (rows : List (List Str)) : List (List Str) := rows.foldl (fun acc r => if r ∈ acc then acc else acc ++ [r]) []
theorem kyR_inj : ∀ {a b : List Str}, kyR a = kyR b → a = b
  | [], [], _ => rfl
  | [], _ :: _, h => by cases h
  | _ :: _, [], h => by cases h
  | x :: a, y :: b, h => by
    have h1 := List.cons.inj (show (Sum.inr x : Key) :: kyR a = Sum.inr y :: kyR b from h)
    rw [Sum.inr.inj h1.1, kyR_inj h1.2]
theorem putK_in {kvs : List (List Key × V)} {k : List Key} {v : V} (h : k ∈ kvs.map (·.1)) : (putK kvs k v).map (·.1) = kvs.map (·.1) := by
  unfold putK
  have h2 : (kvs.any fun kv => decide (kv.1 = k)) = true := by
    obtain ⟨p, h3, h4⟩ := List.mem_map.mp h
    exact List.any_eq_true.mpr ⟨p, h3, decide_eq_true h4⟩
  rw [if_pos h2, List.map_map]
  apply List.map_congr_left
  intro p _
  show (if p.1 = k then (p.1, v) else p).1 = p.1
  split <;> rfl
theorem putK_out {kvs : List (List Key × V)} {k : List Key} {v : V} (h : k ∉ kvs.map (·.1)) : (putK kvs k v).map (·.1) = kvs.map (·.1) ++ [k] := by
  unfold putK
  have h2 : ¬ (kvs.any fun kv => decide (kv.1 = k)) = true := fun z => by
    obtain ⟨p, h3, h4⟩ := List.any_eq_true.mp z
    exact h (List.mem_map.mpr ⟨p, h3, of_decide_eq_true h4⟩)
  rw [if_neg h2, List.map_append] <;> rfl
theorem dkR_keys (rows : List (List Str)) : (dkR rows).map (·.1) = (uniq rows).map kyR := by
  have key : ∀ (rows : List (List Str)) (kvs : List (List Key × V)) (acc : List (List Str)), kvs.map (·.1) = acc.map kyR → (rows.foldl (fun kvs r => putK kvs (kyR r) (.bl true)) kvs).map (·.1) = (rows.foldl (fun acc r => if r ∈ acc then acc else acc ++ [r]) acc).map kyR := by
    intro rows
    induction rows with
    | nil => intro kvs acc h; exact h
    | cons r rows ih =>
      intro kvs acc h
      rw [List.foldl_cons, List.foldl_cons]
      apply ih
      by_cases hm : r ∈ acc
      · rw [if_pos hm, putK_in (by rw [h]; exact List.mem_map.mpr ⟨r, hm, rfl⟩), h]
      · rw [if_neg hm, putK_out (fun z => by
          rw [h] at z
          obtain ⟨x, h1, h2⟩ := List.mem_map.mp z
          rw [kyR_inj h2] at h1
          exact hm h1), h, List.map_append] <;> rfl
  exact key rows [] [] rfl
theorem uniq_mem {rows : List (List Str)} {r : List Str} : r ∈ uniq rows ↔ r ∈ rows := by
  have key : ∀ (rows acc : List (List Str)), r ∈ rows.foldl (fun acc r => if r ∈ acc then acc else acc ++ [r]) acc ↔ (r ∈ acc ∨ r ∈ rows) := by
    intro rows
    induction rows with
    | nil => intro acc; simp
    | cons x rows ih =>
      intro acc
      rw [List.foldl_cons, ih]
      by_cases hm : x ∈ acc
      · rw [if_pos hm]
        constructor
        · rintro (h | h)
          · exact .inl h
          · exact .inr (List.mem_cons_of_mem _ h)
        · rintro (h | h)
          · exact .inl h
          · rcases List.mem_cons.mp h with rfl | h
            · exact .inl hm
            · exact .inr h
      · rw [if_neg hm]
        simp only [List.mem_append, List.mem_cons, List.not_mem_nil, or_false]
        constructor
        · rintro ((h | h) | h)
          · exact .inl h
          · exact .inr (.inl h)
          · exact .inr (.inr h)
        · rintro (h | h | h)
          · exact .inl (.inl h)
          · exact .inl (.inr h)
          · exact .inr h
  have := key rows []
  simpa [uniq] using this
theorem uniq_nd (rows : List (List Str)) : (uniq rows).Nodup := by
  have key : ∀ (rows acc : List (List Str)), acc.Nodup → (rows.foldl (fun acc r => if r ∈ acc then acc else acc ++ [r]) acc).Nodup := by
    intro rows
    induction rows with
    | nil => intro acc h; exact h
    | cons x rows ih =>
      intro acc h
      rw [List.foldl_cons]
      apply ih
      by_cases hm : x ∈ acc
      · rw [if_pos hm]
        exact h
      · rw [if_neg hm]
        exact List.nodup_append.mpr ⟨h, by simp, fun a ha b hb z => by
          have e : b = x := by simpa using hb
          rw [z, e] at ha
          exact hm ha⟩
  exact key rows [] List.nodup_nil
theorem uniq_len (rows : List (List Str)) : (uniq rows).length ≤ rows.length := by
  have key : ∀ (rows acc : List (List Str)), (rows.foldl (fun acc r => if r ∈ acc then acc else acc ++ [r]) acc).length ≤ acc.length + rows.length := by
    intro rows
    induction rows with
    | nil => intro acc; exact Nat.le_refl _
    | cons x rows ih =>
      intro acc
      rw [List.foldl_cons]
      refine Nat.le_trans (ih _) ?_
      rw [List.length_cons]
      split
      · omega
      · rw [List.length_append, List.length_singleton]
        omega
  have := key rows []
  rw [List.length_nil, Nat.zero_add] at this
  exact this
end Mh
set_option maxRecDepth 100000
set_option maxHeartbeats 2000000
/-! E17: Looks.people. -/
namespace Mh
open PySem PySem.Spec PyProof.Rows L2
open Evl (Ex)
def pplOf (named : List Str) (ls : List Lk) : List Row := srtRows (uniq (rowsFor named ls))
theorem nd_le {α : Type} [DecidableEq α] : ∀ {l m : List α}, l.Nodup → (∀ x ∈ l, x ∈ m) → l.length ≤ m.length
  | [], _, _, _ => Nat.zero_le _
  | x :: l, m, hn, h => by
    have hx := h x List.mem_cons_self
    obtain ⟨h1, h2⟩ := List.nodup_cons.mp hn
    have ih := nd_le (l := l) (m := m.erase x) h2 fun y hy => (List.mem_erase_of_ne (fun z => h1 (by rw [← z]; exact hy))).mpr (h y (List.mem_cons_of_mem _ hy))
    rw [List.length_erase_of_mem hx] at ih
    have := List.length_pos_of_mem hx
    rw [List.length_cons]
    omega
theorem rowsOf_six : ∀ {named : List Str}, named.length ≤ 3 → (rowsOf named).length ≤ 6
  | [], _ => by decide
  | [a], _ => by
    show 1 ≤ 6
    decide
  | [a, b], _ => by
    show 2 ≤ 6
    decide
  | [a, b, c], _ => by
    show 6 ≤ 6
    decide
  | _ :: _ :: _ :: _ :: _, h => by
    simp only [List.length_cons] at h
    omega
theorem needs_len {ls : List Lk} (hl : ls.length ≤ 12) (hO : ∀ l ∈ ls, OkLook l) : (needsOf ls).length ≤ 1000 := by
  have h0 : (needs0 ls).length ≤ 10 * ls.length := by
    unfold needs0
    rw [List.length_flatMap]
    have key : ∀ l : List (Lk × Nat), (∀ q ∈ l, OkLook q.1) → (l.map fun q => ((marked 43 q.1).map fun t => (some (q.2, t) : Need)).length).sum ≤ 10 * l.length := by
      intro l
      induction l with
      | nil => intro _; simp
      | cons q l ih =>
        intro h
        have h1 := ih fun x hx => h x (List.mem_cons_of_mem _ hx)
        have h2 : (marked 43 q.1).length ≤ 10 := by
          have hq := h q List.mem_cons_self
          unfold marked
          rw [List.length_map]
          have h3 := List.length_filter_le (fun x : Str × Nat => decide (x.2 = 43)) (q.1.1.zip q.1.2)
          rw [List.length_zip] at h3
          have := hq.menu.few
          omega
        rw [List.map_cons, List.sum_cons, List.length_map, List.length_cons]
        omega
    have := key ls.zipIdx fun q hq => hO q.1 (by
      obtain ⟨x, i⟩ := q
      exact List.mem_of_getElem? (List.mem_zipIdx_iff_getElem?.mp hq))
    rw [List.length_zipIdx] at this
    exact this
  unfold needsOf
  split
  · simp
  · omega
theorem perm_row {named r : List Str} (hN : OkNames named) (h : r.Perm named) : OkRow r := by
  exact ⟨fun z => hN.ne (by rw [z] at h; exact List.nil_perm.mp h), by rw [h.length_eq]; exact hN.few, fun x hx => hN.all x (h.mem_iff.mp hx), h.nodup_iff.mpr (hN.asc.imp fun {a b} hab e => by
    subst e
    exact slt_irrefl hab)⟩
theorem for_map {named : List Str} {ls : List Lk} (hf : fitB named ls = true) : (needsOf ls).map (fun n => (letRow named (sharp ls n)).1.getD []) = rowsFor named ls := by
  unfold rowsFor
  have key : ∀ l : List Need, (∀ n ∈ l, (letRow named (sharp ls n)).1.isSome = true) → l.map (fun n => (letRow named (sharp ls n)).1.getD []) = l.filterMap fun n => (letRow named (sharp ls n)).1 := by
    intro l
    induction l with
    | nil => intro _; rfl
    | cons n l ih =>
      intro h
      obtain ⟨r, hr⟩ := Option.isSome_iff_exists.mp (h n List.mem_cons_self)
      rw [List.map_cons, List.filterMap_cons, hr, ih fun m hm => h m (List.mem_cons_of_mem _ hm)] <;> rfl
  exact key _ fun n hn => List.all_eq_true.mp hf n hn
section
variable {P : Program} {w : World} {K : PySem.W.Frag} {mg : Str → Option Value} {base : Heap} {f fI : Addr} {fd : FuncData} {C Cs Cr Cx_ : Addr}
def ppO (Cs C Cr : Addr) (ds : List D) (d : D) : Prop := ∃ named ls, ds = [lsD Cs C named ls] ∧ OkNames named ∧ named.length ≤ 3 ∧ OkLs named ls ∧ OkAll named ls ∧ fitB named ls = true ∧ d = .tup ((pplOf named ls).map (rkD Cr))
abbrev nPp : List Str := ["self", "rows", "need", "row"]
theorem sc_pp : FnScope nPp ["self"] (defScope (mth 74 13)) := C8.fnScope_by (by decide +kernel)
theorem pure_rks {rows : List Row} : pureDs (rows.map (rkD Cr)) = true := by
  induction rows with
  | nil => rfl
  | cons r rows ih =>
    show pureDs (rkD Cr r :: rows.map (rkD Cr)) = true
    unfold pureDs
    rw [ih]
    have hr : ∀ r : List Str, pureDs (r.map D.str) = true := fun r => by
      induction r with
      | nil => rfl
      | cons a l ih =>
        show pureDs (D.str a :: l.map D.str) = true
        unfold pureDs
        rw [ih] <;> rfl
    have h1 : pureD (rkD Cr r) = pureDs [.tup (r.map D.str)] := rfl
    rw [h1]
    unfold pureDs
    have h2 : pureD (.tup (r.map D.str)) = pureDs (r.map D.str) := rfl
    rw [h2, hr] <;> rfl
theorem ok_pp (F : FnP K "people" "Looks.people" (mth 74 13) f fd) (B : Bi mg) (T : LooksC K mg Cs) (ck : MetX P w K mg base 8 Cs "check_fit" (spX Cx_ (ckO Cs C) (ckX Cs C))) (c1 : CalP P w K mg base 3 "needs_of" (noR C)) (c2 : CalP P w K mg base 4 "sharpened" (shR C)) (c3 : CalP P w K mg base 2 "let_row" lrR) (cr : C8.Mak P w K mg base 3 "Ranking" Cr (spI Cr rkNs rkR) []) :
    FnOk P w K mg base (L2.CX P w) 12 f fd ["self"] (spX Cx_ (ppO Cs C Cr) (ckX Cs C)) := by
  refine fnX F sc_pp (by rintro _ _ ⟨_, _, rfl, _⟩; rfl) (by rintro _ _ ⟨_, _, rfl, _⟩; rfl) (fun cdv A outer s H E hr ds d h => ?_) fun cdv A outer s H E hr tk ds k h => ?_
  · obtain ⟨named, ls, rfl, hN, hn3, ⟨hN10, hl, hO⟩, ho, hf, rfl⟩ := h
    refine ⟨_, .inl rfl, ess_nx (es_expr (em_mtX0 ck LamX.takes0 hr (by decide) (v 0 (d := lsD Cs C named ls)) rfl ⟨named, ls, rfl, ⟨hN10, hl, hO⟩, hf, rfl⟩)) ?_⟩
    have hu := hu64 hr
    have hnl : (needsOf ls).length ≤ 1000 := needs_len hl hO
    refine pss_mono (pss_cons (es_dcR (i := 1) (ρ := [some (lsD Cs C named ls), none, none, none]) (own := [("need", 2)]) (b := .one 2) (xs := needsOf ls) (φ := needD) (f := fun n => (letRow named (sharp ls n)).1.getD []) (Nat.lt_of_le_of_lt (Nat.add_le_add_left (by decide : 1 ≤ 64) _) hu) rfl sc_pp.nd rfl rfl (sw_trueD rfl rfl rfl (by decide +kernel)) (ei_list (em_call c1 hr (by decide) rfl ⟨ls, rfl, hl, hO, rfl⟩ (a1 (em_fld (v 0 (d := lsD Cs C named ls)) T.cl T.seen rfl)))) (blkOk_by (N := nPp) (sc := defScope (mth 74 13)) (by decide +kernel)) hnl (by decide) (fun _ _ _ _ _ => pn 2 sc_pp.nd) ?turn) (pss_some (P := fun _ : Addr => True) fun D' _ => pss_one (k_ret (k := 1) (D' := D') (kvs := dkR (rowsFor named ls)) (ρ := [some (lsD Cs C named ls), some (.val (.ref D')), none, none]) (d := .tup ((pplOf named ls).map (rkD Cr))) pure_rks fun od => ?ret))) fun Dn σ H ⟨S, e, rE, k⟩ => ?_
    case turn =>
      intro n hn
      have hs := List.all_eq_true.mp hf n hn
      obtain ⟨r, hr'⟩ := Option.isSome_iff_exists.mp hs
      have hlen := sharp_len (ls := ls) (n := n)
      refine ⟨_, rfl, fun _ _ _ _ _ => ⟨?_, em_bl⟩⟩
      rw [hr']
      exact e_ixT (j := 0) (d := rowD r) (l := [orow (letRow named (sharp ls n)).1, .tup ((letRow named (sharp ls n)).2.map D.str)]) (by rw [hr'] <;> rfl) (em_call (d := letD (letRow named (sharp ls n))) c3 hr (by decide) rfl ⟨named, sharp ls n, rfl, hN10, by omega, rfl⟩ (a2 (em_fld (v 0 (d := lsD Cs C named ls)) T.cl T.named rfl) (em_call c2 hr (by decide) rfl ⟨ls, n, rfl, hl, hO, needs_ok hn, rfl⟩ (a2 (em_fld (v 0 (d := lsD Cs C named ls)) T.cl T.seen rfl) (v 2))))) em_int
    case ret =>
      have hB : ∀ r ∈ uniq (rowsFor named ls), OkRow r := fun r hr' => by
        obtain ⟨n, _, h1, _⟩ := for_mem ho (uniq_mem.mp hr')
        exact perm_row hN h1
      have h64 : (uniq (rowsFor named ls)).length < 64 := by
        have h1 := nd_le (uniq_nd (rowsFor named ls)) (m := rowsOf named) fun x hx => by
          obtain ⟨n, _, h1, _⟩ := for_mem ho (uniq_mem.mp hx)
          exact rows_all h1
        have h2 := rowsOf_six hn3
        omega
      refine e_tuple B (e_map (lc1 [("row", 3)] 3 (xs := pplOf named ls) (φ := rowD) (fun _ => true) (rkD Cr) sc_pp.nd (ei_list (e_sortR B hu h64 (fun r hr' => (hB r hr').ne) (em_is (e_map (lc1 [("row", 3)] 3 (xs := uniq (rowsFor named ls)) (φ := rowD) (fun _ => true) rowD sc_pp.nd (ei_keysR (rows := uniq (rowsFor named ls)) (dkR_keys _) (v 1)) (by omega) (fun _ _ _ _ _ => pn 3 sc_pp.nd) (blkOk_by (N := nPp) (sc := defScope (mth 74 13)) (by decide +kernel)) fun x hx _ _ _ _ _ => ⟨ets_nil, fun _ => v 3⟩)) rfl))) ?len (fun _ _ _ _ _ => pn 3 sc_pp.nd) (blkOk_by (N := nPp) (sc := defScope (mth 74 13)) (by decide +kernel)) fun x hx _ _ _ _ _ => ⟨ets_nil, fun _ => em_mk cr hr (by decide) rfl ⟨x, rfl, hB x ((srtR_perm _).mem_iff.mp hx)⟩ (a1 (v 3))⟩))
      case len =>
        have := (srtR_perm (uniq (rowsFor named ls))).length_eq
        show (srtRows (uniq (rowsFor named ls))).length ≤ 100000
        omega
    refine ⟨S, e, rE, fun D' S' H' g hS hH hd => ?_⟩
    rw [for_map hf] at hd
    exact ⟨D', trivial, S', g.sh, RepE.set (ρ := [some (lsD Cs C named ls), none, none, none]) (i := 1) (rE.mono g.ss) rep_val, rfl, hS, hd, k.step g⟩
  · obtain ⟨named, ls, rfl, hB⟩ := h
    exact x_hd (xs_expr (x_mt0 ck tk hr (by decide) (v 0 (d := lsD Cs C named ls)) rfl ⟨named, ls, rfl, hB⟩))
end
end Mh
set_option maxRecDepth 100000
set_option maxHeartbeats 2000000
/-! E18: repr of a bool. -/
namespace Mh
open PySem PySem.Spec PyProof.Rows L2
open Evl (Ex)
theorem call_repr_bool {X : Cx} : CallR X (.builtin "repr") (fun xs H Q => ∃ b, xs = [.bl b] ∧ Q (.str (if b then "True" else "False")) H) := by
  intro pins s σ H xs us Q I r h
  obtain ⟨b, rfl, q⟩ := h
  cases r with
  | cons rx rr =>
    cases rr
    cases rx
    exact PySem.P.repr_of_bool ⟨.str _, H, I.tok _, ⟨_, rfl⟩, q⟩
section
variable {X : Cx} {ρ : En} {e : Expr} {pos p : Pos}
theorem e_reprB {b : Bool} (B : Bi X.mg) (h : Em X e ρ (.bl b)) (hg : L2.Gl X "repr" := by rfl) (hs : starEach [e] X.env = (false, eval e X.env) :: starEach [] X.env := by rfl) : Em X (.Call (.Name "repr" p) [e] [] pos) ρ (.str (if b then "True" else "False")) :=
  em_callB call_repr_bool (fun S H us Q e r k => by
    obtain ⟨v, rfl, r1⟩ := one_rep r
    exact ⟨b, by rw [r1.bl], k _ S H (Gr.refl e) rep_str⟩) hg (B.free _ (by decide)) boot_repr (a1 h hs) (he := hs)
end
end Mh
set_option maxRecDepth 100000
set_option maxHeartbeats 2000000
/-! E20: defs that are called where the guards are known to be none. -/
namespace Mh
open PySem PySem.Spec PyProof.Rows L2
open Evl (Ex)
structure FnGd (P : Program) (w : World) (K : PySem.W.Frag) (mg : Str → Option Value) (base : Heap) (k : Nat) (f : Addr) (fd : FuncData) (ps : List Str) (sp : Sp) : Prop where
  len : ∀ vs H Q E, sp vs H Q E → vs.length = ps.length
  run : ∀ (A : Around) (outer : List Env) (s : Shared) (H : Hp) (args : Args) (us : List Value) (vs : List V) (Q : VK) (E : XK), Room k A → A.guards = some [] → Env0 P w K mg base A outer s H → BindsTo s fd args (ps.zip us) → Vals vs us → sp vs H Q E →
    codeAny (model P w) A (.call (.ref f) args) (CR C8.CX0 outer P w H s Q E) s
theorem deeper_guards {A : Around} {env : Env} (h : A.guards = some []) : (A.deeper env).guards = some [] := h
theorem fnGd_of {P : Program} {w : World} {K : PySem.W.Frag} {mg : Str → Option Value} {base : Heap} {k : Nat} {f : Addr} {fd : FuncData} {x qual : Str} {params : Arguments} {body : List Stmt} {scope : Scope} {N ps : List Str} {sp : Sp} (F : FunD K x qual params body scope [] [] f fd) (S : FnScope N ps scope)
    (len : ∀ vs H Q E, sp vs H Q E → vs.length = ps.length)
    (hbody : ∀ (cdv : Value) (A : Around) (outer : List Env) (s : Shared) (H : Hp) (vs : List V) (Q : VK) (E : XK), A.guards = some [] → Room k (A.deeper (envOfC qual scope s.heap.objs.size f cdv)) → sp vs H Q E →
      ∃ t, PSs (cxOf C8.CX0 P w K mg base N qual scope f cdv A outer s H E) body t ∧ t { nx := fun _ H' => Q .non H', rt := Q } (L2.start N vs) H) : FnGd P w K mg base (k + 1) f fd ps sp := by
  obtain ⟨oc, od, dV, kV, doc, pm, an, cdv, ct, osl, rfl, lk, hcd, _⟩ := F.ex
  exact ⟨len, fun A outer s H args us vs Q E hr hg e0 hb r h => LamX.run_ofS lk hcd S hr e0 hb r (len _ _ _ _ h) fun hr' => hbody cdv A outer s H vs Q E hg hr' h⟩
section
variable {X : Cx} {k : Nat} {f : Addr} {fd : FuncData} {ps : List Str} {sp : Sp} {x : Str} {q pos : Pos} {e : Expr} {es : List Expr} {t : TA}
theorem pe_callGd (F : FnGd X.prog X.w X.K X.mg X.base k f fd ps sp) (hr : Room k X.A) (hgd : X.A.guards = some []) (hg : L2.Gl X x) (hm : X.mg x = some (.ref f)) (hk : PySem.W.keepIn X.K (.ref f) = true) (hb : L2.Binds X.K fd ps [])
    (ha : PA X (e :: es) t) (hdb : (x == ("__debug__" : Str)) = false := by decide) (he : starEach (e :: es) X.env = (false, eval e X.env) :: starEach es X.env := by rfl) (hpl : (backTo pos (starEach es X.env)).any (·.1) = false := by rfl) :
    PE X (.Call (.Name x q) (e :: es) [] pos) (fun σ H Q => t σ H fun vs H1 => sp vs H1 Q (fun _ _ _ => False)) := by
  refine ⟨fun pins s σ H Q I h => ?_⟩
  refine wpAny_Call_Name_kw (ld_glob I hg hm ?_ hdb)
  refine PySem.W.callWith_K (h₀ := X.base) I.ok.mod.kin hk (thn (ha.run pos pins s σ H _ I h) fun us s1 ⟨vs, H1, I1, r, q⟩ => ⟨I1.kIn, ?_⟩) he hpl
  have hl : us.length = ps.length := by rw [← r.length]; exact F.len _ _ _ _ q
  have b := hb s1 us I1.kIn (by rw [List.append_nil]; exact hl)
  rw [List.append_nil] at b
  refine wpAny_call (codeAny_mono (F.run X.A X.stack s1 H1 ⟨us, []⟩ us vs Q (fun _ _ _ => False) hr hgd I1.env0 b r q) fun r s' hq => ?_)
  cases r with
  | error e => exact False.elim hq
  | ok fl =>
    cases fl with
    | ret u => exact I1.after hq
    | next => exact False.elim hq
    | brk => exact False.elim hq
    | cont => exact False.elim hq
end
end Mh
set_option maxRecDepth 100000
set_option maxHeartbeats 2000000
/-! E21: repr of a list of data, where the guards are none. -/
namespace Mh
open PySem PySem.Spec PyProof.Rows L2
open Evl (Ex)
def rReprD (K : PySem.W.Frag) (d : PyData) : List V → Hp → VK → Prop := fun xs H Q => ∃ a : Addr, xs = [.ref a] ∧ Dp K H (.ref a) d ∧ Q (.str d.shown) H
theorem call_reprD {X : Cx} {d : PyData} (hgd : X.A.guards = some []) (hu : X.A.units + 64 < cLine) (hs : d.showable = true) (hd : d.hasDict = false) (hdep : d.depth ≤ 10) (hz : d.shown.length ≤ sizeLine) : CallR X (.builtin "repr") (rReprD X.K d) := by
  intro pins s σ H xs us Q I r h
  obtain ⟨a, rfl, dp, q⟩ := h
  rw [Vals.ref1 r]
  obtain ⟨as, rd⟩ := Dp.reads I d (.ref a) (.ref a) dp rfl
  exact repr_of_reads' (h₀ := s.heap) rd hs (fun z => by rw [hd] at z; cases z) hgd (by omega) (fun _ _ e => e) (fun h' u tk k => ⟨.str _, H, I.kept (t' := tk) k, ⟨_, rfl⟩, q⟩) hz
def blsP (a b : Bool) : PyData := .list [.bool a, .bool b]
theorem bls_py (a b : Bool) : (D.lst [.bl a, .bl b]).py = blsP a b := by
  rw [py_lst, pys_cons, pys_cons, pys_nil]
  unfold D.py
  rfl
section
variable {X : Cx} {ρ : En} {e : Expr} {pos p : Pos}
theorem e_reprBB {a b : Bool} (B : Bi X.mg) (hgd : X.A.guards = some []) (hu : X.A.units + 64 < cLine) (h : Em X e ρ (.lst [.bl a, .bl b])) (hg : L2.Gl X "repr" := by rfl) (hs : starEach [e] X.env = (false, eval e X.env) :: starEach [] X.env := by rfl) : Em X (.Call (.Name "repr" p) [e] [] pos) ρ (.str (blsP a b).shown) := by
  have h1 : (blsP a b).showable = true := by cases a <;> cases b <;> decide +kernel
  have h2 : (blsP a b).hasDict = false := by cases a <;> cases b <;> decide +kernel
  have h3 : (blsP a b).depth ≤ 10 := by cases a <;> cases b <;> decide +kernel
  have h4 : (blsP a b).shown.length ≤ sizeLine := by cases a <;> cases b <;> decide +kernel
  refine em_callB (call_reprD hgd hu h1 h2 h3 h4) (fun S H us Q e r k => ?_) hg (B.free _ (by decide)) boot_repr (a1 h hs) (he := hs)
  obtain ⟨v, rfl, r1⟩ := one_rep r
  have r0 := r1
  obtain ⟨q, vs, rfl, _, _⟩ := r0.lst
  have z := Rep.dp (K := X.K) e (d := .lst [.bl a, .bl b]) (by cases a <;> cases b <;> (unfold D.plain D.plains D.plains D.plains D.plain; rfl)) r1
  rw [bls_py] at z
  exact ⟨q, rfl, z, k _ S H (Gr.refl e) rep_str⟩
end
end Mh
set_option maxRecDepth 100000
set_option maxHeartbeats 2000000
/-! E22: the order of rows: two rows of one rank are one row. -/
namespace Mh
open PySem PySem.Spec PyProof.Rows L2
open Evl (Ex)
abbrev cpsR (r : List Str) : List (List Nat) := r.map fun x => x.cps.toList
theorem cpsR_inj : ∀ {a b : List Str}, cpsR a = cpsR b → a = b
  | [], [], _ => rfl
  | [], _ :: _, h => by cases h
  | _ :: _, [], h => by cases h
  | x :: a, y :: b, h => by
    obtain ⟨h1, h2⟩ := List.cons.inj h
    rw [str_ext h1, cpsR_inj h2]
theorem rowLt_strs : ∀ xs ys : List Str, PySem.W.rowLt (xs.map PyData.str) (ys.map PyData.str) = decide (cpsR xs < cpsR ys)
  | [], [] => by
    show PySem.W.rowLt [] [] = decide (([] : List (List Nat)) < [])
    have h1 : PySem.W.rowLt [] [] = false := PyProof.Rows.lex_irrefl _
    rw [h1] <;> rfl
  | [], y :: ys => by
    have h1 : PySem.W.rowLt [] (PyData.str y :: ys.map PyData.str) = true := by
      unfold PySem.W.rowLt
      rw [PySem.W.toks_all_cons]
      simp only [PySem.W.keyToksAll]
      rw [PyProof.Rows.lex_diff (O := itemOrd) (by simp)] <;> rfl
    show PySem.W.rowLt [] (PyData.str y :: ys.map PyData.str) = decide ([] < y.cps.toList :: cpsR ys)
    rw [h1]
    simp
  | x :: xs, [] => by
    have h1 : PySem.W.rowLt (PyData.str x :: xs.map PyData.str) [] = false := by
      unfold PySem.W.rowLt
      rw [PySem.W.toks_all_cons]
      simp only [PySem.W.keyToksAll]
      rw [PyProof.Rows.lex_diff (O := itemOrd) (by simp)] <;> rfl
    show PySem.W.rowLt (PyData.str x :: xs.map PyData.str) [] = decide (x.cps.toList :: cpsR xs < [])
    rw [h1]
    simp
  | x :: xs, y :: ys => by
    have h1 : PySem.W.rowLt (PyData.str x :: xs.map PyData.str) (PyData.str y :: ys.map PyData.str) = if x = y then PySem.W.rowLt (xs.map PyData.str) (ys.map PyData.str) else decide (x.cps.toList < y.cps.toList) := by
      unfold PySem.W.rowLt
      rw [PySem.W.dataLt_cons (by simp [PySem.W.alike]), PySem.W.dataLt_str]
      simp only [PyData.eqv, beq_iff_eq]
    show PySem.W.rowLt (PyData.str x :: xs.map PyData.str) (PyData.str y :: ys.map PyData.str) = decide (x.cps.toList :: cpsR xs < y.cps.toList :: cpsR ys)
    rw [h1]
    by_cases h : x = y
    · rw [if_pos h, rowLt_strs xs ys, h]
      simp [List.cons_lt_cons_iff]
    · have h' : ¬ x.cps.toList = y.cps.toList := fun z => h (str_ext z)
      rw [if_neg h]
      simp [h', List.cons_lt_cons_iff]
theorem leR_eq (a b : List Str) : leR a b = !decide (cpsR b < cpsR a) := by
  show (!PySem.W.dataLt (encR b) (encR a)) = _
  unfold encR
  rw [PySem.W.dataLt_tuple]
  exact congrArg (!·) (rowLt_strs b a)
theorem leR_anti {a b : List Str} (h : leR a b = true) (k : leR b a = true) : a = b := by
  rw [leR_eq, Bool.not_eq_true', decide_eq_false_iff_not] at h k
  exact cpsR_inj (List.le_antisymm h k)
theorem srtR_of_perm {l m : List (List Str)} (h : l.Perm m) : srtRows l = srtRows m :=
  List.Perm.eq_of_pairwise (fun a b _ _ h1 h2 => leR_anti h1 h2) (PySem.W.sort_pairwise leR_total l) (PySem.W.sort_pairwise leR_total m) (((srtR_perm l).trans h).trans (srtR_perm m).symm)
theorem srtR_srt (l : List (List Str)) : srtRows (srtRows l) = srtRows l := srtR_of_perm (srtR_perm l)
end Mh
set_option maxRecDepth 100000
set_option maxHeartbeats 4000000
/-! E23: a set that is made of a few different rows of texts (the table's own lemmas are the kit's: TabOk, go_spec, relaid_ok). -/
namespace Mh
open PySem PySem.Spec PyProof.Rows L2
abbrev Rw : Type := Addr × List Str
abbrev hashRw (P : Program) (w : World) (p : Rw) : Int := tupleKeyHash (strKind P w) p.2
abbrev IsRw (P : Program) (w : World) (h : Heap) (p : Rw) : Prop := IsTupleKey (strKind P w) h p.2 p.1
section
variable {P : Program} {w : World} {A : Around} {E : Value → Shared → Prop} {s : Shared}
theorem rw_texts : ∀ {k : List Str} {vs : List Value}, ItemsAre (strKind P w) k vs → ∀ v ∈ vs, ∃ x t, v = Value.str x t
  | _, _, .nil, _, hv => by cases hv
  | _, _, .cons h hs, v, hv => by
    cases hv with
    | head =>
      obtain ⟨t, e⟩ := Value.isStrOf_shape h
      exact ⟨_, t, e⟩
    | tail _ m => exact rw_texts hs v m
theorem text_noClass (n : Nat) (x : Str) (t : Tok) : ofAClassStatement n (.str x t) = pure false := by cases n <;> rfl
theorem text_hashBy (n : Nat) (x : Str) (t : Tok) : hashByValue n (.str x t) = pure false := by cases n <;> rfl
theorem rw_noClass {p : Rw} {Q : Bool → Shared → Prop} (hp : IsRw P w s.heap p) (q : Q false s) : wpAny (model P w) A (ofAClassStatement 8 (.ref p.1)) Q E s := by
  have ty := hp.typeIs
  obtain ⟨o, its, n, ho, _, hd, hi⟩ := hp
  unfold ofAClassStatement
  refine wpAny_bind (wpAny_typeOf ty ?_)
  dsimp only
  simp only [show (("tuple" : String) == "tuple") = true from by decide, if_true, Bool.not_true, Bool.false_eq_true, if_false]
  try refine wpAny_bind (wpAny_pure ?_)
  try simp only [Bool.not_true, Bool.false_eq_true, if_false]
  show wpAny _ _ (seqItems? (.ref p.1) >>= _) Q E s
  refine wpAny_bind (wpAny_seqItems ho hd ?_)
  dsimp only
  refine wpAny_bind ?_
  show wpAny _ _ (forIn its _ _) _ E s
  rw [← Array.forIn_toList]
  refine wpAny_forIn_list _ (fun l r s2 => s2 = s ∧ r.1 = none ∧ ∀ v ∈ l, ∃ x t, v = Value.str x t) _ (fun v l r s2 hI => ?_) (fun r s2 hI => ?_) _ _ ⟨rfl, rfl, rw_texts hi⟩
  · obtain ⟨e, hr, hv⟩ := hI
    subst e
    obtain ⟨x, t, e⟩ := hv v List.mem_cons_self
    subst e
    rw [text_noClass]
    refine wpAny_bind (wpAny_pure ?_)
    simp only [Bool.false_eq_true, if_false]
    exact wpAny_pure ⟨rfl, rfl, fun u m => hv u (List.mem_cons_of_mem _ m)⟩
  · obtain ⟨r1, r2⟩ := r
    obtain ⟨e, hr, _⟩ := hI
    subst e
    have hr : r1 = none := hr
    subst hr
    exact wpAny_pure q
theorem rw_hashBy {p : Rw} {Q : Bool → Shared → Prop} (hp : IsRw P w s.heap p) (q : ∀ b, Q b s) : wpAny (model P w) A (hashByValue 8 (.ref p.1)) Q E s := by
  have ty := hp.typeIs
  obtain ⟨o, its, n, ho, _, hd, hi⟩ := hp
  unfold hashByValue
  refine wpAny_bind (wpAny_specialOf ty F.slot_tuple_hash.lookup ?_)
  show wpAny _ _ (seqItems? (.ref p.1) >>= _) Q E s
  refine wpAny_bind (wpAny_seqItems ho hd ?_)
  refine wpAny_bind ?_
  show wpAny _ _ (forIn its _ _) _ E s
  rw [← Array.forIn_toList]
  refine wpAny_forIn_list _ (fun l r s2 => s2 = s ∧ r.1 = none ∧ ∀ v ∈ l, ∃ x t, v = Value.str x t) _ (fun v l r s2 hI => ?_) (fun r s2 hI => ?_) _ _ ⟨rfl, rfl, rw_texts hi⟩
  · obtain ⟨e, hr, hv⟩ := hI
    subst e
    obtain ⟨x, t, e⟩ := hv v List.mem_cons_self
    subst e
    rw [text_hashBy]
    refine wpAny_bind (wpAny_pure ?_)
    simp only [Bool.not_false, if_true]
    exact wpAny_pure (wpAny_pure (q false))
  · obtain ⟨r1, r2⟩ := r
    obtain ⟨e, hr, _⟩ := hI
    subst e
    have hr : r1 = none := hr
    subst hr
    exact wpAny_pure (q true)
theorem rw_unseen {p : Rw} {Q : Bool → Shared → Prop} (hp : IsRw P w s.heap p) {ys : List Value} (hy : ∀ y ∈ ys, ∃ z : Rw, y = Value.ref z.1 ∧ IsRw P w s.heap z) (q : Q false s) : wpAny (model P w) A (searchCouldBeSeen (.ref p.1) ys) Q E s := by
  unfold searchCouldBeSeen
  refine wpAny_bind ?_
  refine wpAny_forIn_list _ (fun l r s2 => s2 = s ∧ r.1 = none ∧ ∀ y ∈ l, ∃ z : Rw, y = Value.ref z.1 ∧ IsRw P w s.heap z) _ (fun v l r s2 hI => ?_) (fun r s2 hI => ?_) _ _ ⟨rfl, rfl, hy⟩
  · obtain ⟨e, hr, hv⟩ := hI
    subst e
    obtain ⟨z, e, hz⟩ := hv v List.mem_cons_self
    subst e
    have more : ∀ y ∈ l, ∃ z : Rw, y = Value.ref z.1 ∧ IsRw P w s2.heap z := fun u m => hv u (List.mem_cons_of_mem _ m)
    dsimp only
    by_cases c : (p.1 == z.1 || (carriedByValue (.ref p.1) && carriedByValue (.ref z.1))) = true
    · exact wp_if_pos c (wpAny_pure ⟨rfl, rfl, more⟩)
    · refine wp_if_neg c (wpAny_bind (wpAny_eqIsQuiet_tuple hp ?_))
      simp only [Bool.not_true, Bool.false_eq_true, if_false]
      refine wpAny_bind (wpAny_eqIsQuiet_tuple hz ?_)
      simp only [Bool.not_true, Bool.false_eq_true, if_false]
      refine wpAny_bind (rw_noClass hp ?_)
      simp only [Bool.false_eq_true, if_false]
      refine wpAny_bind (rw_noClass hz ?_)
      simp only [Bool.false_eq_true, if_false]
      exact wpAny_pure ⟨rfl, rfl, more⟩
  · obtain ⟨r1, r2⟩ := r
    obtain ⟨e, hr, _⟩ := hI
    subst e
    have hr : r1 = none := hr
    subst hr
    exact wpAny_pure q
/-- the set at a holds the rows L, in its table's order -/
structure SetRw (P : Program) (w : World) (h : Heap) (a : Addr) (L : List Rw) (es : Array (Int × Value)) (ep : Nat) (t : SetTable) : Prop where
  at_ : ∃ o, h.get? a = some o ∧ o.ExactSet ∧ o.data = .set es ep t
  ent : es.toList = L.map fun p => (hashRw P w p, Value.ref p.1)
  tab : TabOk t (L.map (hashRw P w))
  rows : ∀ p ∈ L, IsRw P w h p
  led : w.params.followText "set-order" = true ∨ t.led = true
  room : L.length * 5 < t.mask * 3
variable {a : Addr} {L : List Rw} {es : Array (Int × Value)} {ep : Nat} {t : SetTable}
theorem ent_size {L : List Rw} {es : Array (Int × Value)} (h : es.toList = L.map fun p => (hashRw P w p, Value.ref p.1)) : es.size = L.length := by
  rw [← Array.length_toList, h, List.length_map]
theorem ent_at {L : List Rw} {es : Array (Int × Value)} (h : es.toList = L.map fun p => (hashRw P w p, Value.ref p.1)) {i : Nat} {p : Rw} (hp : L[i]? = some p) : es[i]? = some (hashRw P w p, Value.ref p.1) := by
  rw [← Array.getElem?_toList, h, List.getElem?_map, hp] <;> rfl
theorem fits_of {t : SetTable} {hs : List Int} {n : Nat} (T : TabOk t hs) (hn : hs.length = n) (hm : n * 5 < t.mask * 3) : t.fits n = true := by
  have h1 := T.sz
  unfold SetTable.fits SetTable.fill
  rw [T.dm, Bool.and_eq_true, beq_iff_eq, decide_eq_true_eq]
  show t.place.size = n ∧ t.place.size + 0 ≤ t.mask
  omega
theorem SetRw.fits (R : SetRw P w s.heap a L es ep t) : t.fits es.size = true := by
  rw [ent_size R.ent]
  exact fits_of R.tab (by rw [List.length_map]) R.room
theorem keepsWay (T : TabOk t (L.map (hashRw P w))) : ¬ t.gaveWay = true := by
  unfold SetTable.gaveWay
  rw [mask_odd T.mok]
  decide
theorem nth_dummy (m : Nat) : ∀ (n : Nat) (p : SetTable.Probe), p.dummy = none → (nth m p n).dummy = none
  | 0, _, h => h
  | n + 1, p, h => nth_dummy m n (adv m p) (by unfold adv; split <;> exact h)
/-- where the search for a hash stands after c steps -/
abbrev stp (t : SetTable) (h : Int) (c : Nat) : SetTable.Probe := nth t.mask (runAt t.mask (SetTable.bits h % (t.mask + 1)) (SetTable.bits h)) c
/-- a row that is not there yet: the search ends at the first free slot K -/
theorem SetRw.seek (R : SetRw P w s.heap a L es ep t) {x : Rw} (hx : IsRw P w s.heap x) (new : ∀ p ∈ L, p.2 ≠ x.2) (hu : A.units < cLine) {K : Nat} (hKf : K < 10 * SetTable.turns t.mask)
    (hK : way t.mask (hashRw P w x) K ∉ t.place.toList) (hb : ∀ c, c < K → way t.mask (hashRw P w x) c ∈ t.place.toList) {Q : SetFound → Shared → Prop} (q : Q (.free (way t.mask (hashRw P w x) K) false) s) :
    ∀ (f c : Nat) (st : Option SetTable.Probe), st.getD (t.probeStart (hashRw P w x)) = stp t (hashRw P w x) c → c ≤ K → K - c < f → wpAny (model P w) A (setSearchFrom a (.ref x.1) (hashRw P w x) true f st) Q E s
  | 0, _, _, _, _, hf => absurd hf (Nat.not_lt_zero _)
  | f + 1, c, st, hst, hc, hf => by
    obtain ⟨o, ho, _, hd⟩ := R.at_
    have add : ∀ q, nth t.mask (stp t (hashRw P w x) c) q = stp t (hashRw P w x) (c + q) := fun q => (nth_add t.mask c _ q).symm
    have addj : ∀ q, (nth t.mask (stp t (hashRw P w x) c) q).j = way t.mask (hashRw P w x) (c + q) := fun q => congrArg SetTable.Probe.j (add q)
    have toK : c + (K - c) = K := by omega
    rw [setSearchFrom_succ]
    refine wpAny_bind (wpAny_setState_of ho hd R.fits ?_)
    dsimp only
    refine wp_if_neg (keepsWay R.tab) ?_
    try refine wpAny_bind (wpAny_pure ?_)
    rcases go_spec t R.tab.ris R.tab.dm (fun i => (es[i]?.map (·.1)).getD 0) (hashRw P w x) (10 * SetTable.turns t.mask) (K - c) (stp t (hashRw P w x) c) (nth_dummy _ _ _ rfl) (by omega)
      (fun q hq => by rw [addj]; exact hb _ (by omega)) (by rw [addj, toK]; exact hK) with ⟨q1, i, hq1, hi, _, _, hgo⟩ | ⟨_, hgo⟩
    · have hpr : t.probe (fun i => (es[i]?.map (·.1)).getD 0) (hashRw P w x) (st.getD (t.probeStart (hashRw P w x))) = some (.candidate (way t.mask (hashRw P w x) (c + q1)) i (stp t (hashRw P w x) (c + (q1 + 1)))) := by
        rw [hst, ← addj, ← add]
        exact hgo
      rw [hpr]
      dsimp only
      rw [addj] at hi
      have hil : i < L.length := by
        have h1 := (List.getElem?_eq_some_iff.mp hi).1
        have h2 := R.tab.sz
        rw [List.length_map] at h2
        rw [Array.length_toList] at h1
        omega
      obtain ⟨p, hp⟩ : ∃ p, L[i]? = some p := ⟨L[i], List.getElem?_eq_getElem hil⟩
      have pm : p ∈ L := List.mem_of_getElem? hp
      have ne := new p pm
      have go : wpAny (model P w) A (searchRest a (.ref x.1) (hashRw P w x) true f es t (way t.mask (hashRw P w x) (c + q1)) i (stp t (hashRw P w x) (c + (q1 + 1)))) Q E s := by
        unfold searchRest
        rw [ent_at R.ent hp]
        dsimp only
        refine wpAny_bind (wpAny_holding (wpAny_eqBool_tuple hu (R.rows p pm) hx ?_))
        refine wpAny_bind (wpAny_setState_of ho hd R.fits ?_)
        dsimp only
        refine wp_if_neg (by simp [ne]) ?_
        try refine wpAny_bind (wpAny_pure ?_)
        rw [sameMem]
        dsimp only
        have hsl := slot_live R.tab.ris hi
        simp only [if_true, hsl, ent_at R.ent hp]
        refine wpAny_bind (wpAny_isSame_ref_self (wpAny_bind (wpAny_pure ?_)))
        simp only [if_true]
        refine wp_if_neg (by simp [ne]) ?_
        exact SetRw.seek R hx new hu hKf hK hb q f (c + (q1 + 1)) _ rfl (by omega) (by omega)
      by_cases hl : t.led = true
      · refine wp_if_neg (by simp [hl]) ?_
        try refine wpAny_bind (wpAny_pure ?_)
        exact go
      · refine wp_if_pos (by simp [hl]) ?_
        refine wpAny_bind (rw_unseen hx (fun y hy => ?_) ?_)
        · obtain ⟨e, he, ee⟩ := List.mem_map.mp hy
          have m1 : e ∈ es ∧ e.1 = hashRw P w x := by simpa using he
          have m2 : e ∈ es.toList := by simpa using m1.1
          rw [R.ent] at m2
          obtain ⟨z, hz, e2⟩ := List.mem_map.mp m2
          exact ⟨z, by rw [← ee, ← e2], R.rows z hz⟩
        · refine wp_if_neg (by decide) ?_
          try refine wpAny_bind (wpAny_pure ?_)
          exact go
    · have hpr : t.probe (fun i => (es[i]?.map (·.1)).getD 0) (hashRw P w x) (st.getD (t.probeStart (hashRw P w x))) = some (.empty (way t.mask (hashRw P w x) K) none) := by
        have e2 := addj (K - c)
        rw [toK] at e2
        rw [hst, ← e2]
        exact hgo
      rw [hpr]
      dsimp only
      exact wpAny_pure q
theorem SetRw.search (R : SetRw P w s.heap a L es ep t) {x : Rw} (hx : IsRw P w s.heap x) (new : ∀ p ∈ L, p.2 ≠ x.2) (hu : A.units < cLine) {Q : SetFound → Shared → Prop}
    (q : ∀ K, way t.mask (hashRw P w x) K ∉ t.place.toList → (∀ c, c < K → way t.mask (hashRw P w x) c ∈ t.place.toList) → Q (.free (way t.mask (hashRw P w x) K) false) s) :
    wpAny (model P w) A (setSearch a (.ref x.1) (hashRw P w x) true) Q E s := by
  have rm := R.room
  obtain ⟨K, h1, h2, h3⟩ := R.tab.first (by rw [List.length_map]; omega) (hashRw P w x)
  have big : 10 * SetTable.turns t.mask ≤ 1420 := by
    unfold SetTable.turns
    rcases R.tab.mok with e | e | e <;> omega
  unfold setSearch
  exact R.seek hx new hu h1 h2 h3 (q K h2 h3) 100000 0 none rfl (Nat.zero_le _) (by omega)
/-- a row is no set -/
theorem IsRw.but {h h' : Heap} {p : Rw} {o : Obj} (hp : IsRw P w h p) (ho : h.get? a = some o) (hd : o.data = .set es ep t) (sb : Heap.SameBut a h h') : IsRw P w h' p := by
  obtain ⟨u, its, n, hu, r1, r2, r3⟩ := hp
  refine ⟨u, its, n, (sb.2 p.1 fun z => ?_).trans hu, r1, r2, r3⟩
  rw [z, ho] at hu
  cases hu
  rw [hd] at r2
  cases r2
/-- the entries by an order of the places -/
theorem ent_order {L : List Rw} {es : Array (Int × Value)} (h : es.toList = L.map fun p => (hashRw P w p, Value.ref p.1)) : ∀ {l : List Nat}, (∀ i ∈ l, i < L.length) →
    ∃ M : List Rw, M = l.filterMap (fun i => L[i]?) ∧ l.filterMap (fun i => es[i]?) = M.map (fun p => (hashRw P w p, Value.ref p.1)) ∧ M.map (hashRw P w) = l.map fun i => (es.map (·.1)).getD i 0
  | [], _ => ⟨[], rfl, rfl, rfl⟩
  | i :: l, hl => by
    obtain ⟨M, e1, e2, e3⟩ := ent_order h (l := l) fun j hj => hl j (List.mem_cons_of_mem _ hj)
    have hp : L[i]? = some (L[i]'(hl i List.mem_cons_self)) := List.getElem?_eq_getElem _
    generalize L[i]'(hl i List.mem_cons_self) = p at hp
    have he := ent_at h hp
    refine ⟨p :: M, by rw [List.filterMap_cons_some hp, e1], by rw [List.filterMap_cons_some he, e2, List.map_cons], ?_⟩
    have e5 : (es.map (·.1))[i]? = some (hashRw P w p) := by rw [Array.getElem?_map, he] <;> rfl
    have e4 : (es.map (·.1)).getD i 0 = hashRw P w p := by simp [Array.getD_eq_getD_getElem?, e5]
    rw [List.map_cons, List.map_cons, e3, e4]
theorem places_all {α : Type} (L : List α) : (List.range L.length).filterMap (fun i => L[i]?) = L := by
  have key : ∀ n, n ≤ L.length → (List.range n).filterMap (fun i => L[i]?) = L.take n := by
    intro n
    induction n with
    | zero => intro _; rfl
    | succ n ih =>
      intro hn
      have e : L[n]? = some L[n] := List.getElem?_eq_getElem hn
      rw [List.range_succ, List.filterMap_append, ih (by omega), List.take_succ, e, List.filterMap_cons_some e] <;> rfl
  rw [key _ (Nat.le_refl _), List.take_length]
/-- the table grows from 8 slots to 32 -/
theorem grow_at {o : Obj} (ho : s.heap.get? a = some o) (hex : o.ExactSet) (hd : o.data = .set es ep t) (he : es.toList = L.map fun p => (hashRw P w p, Value.ref p.1)) (T : TabOk t (L.map (hashRw P w)))
    (hm : t.mask = 7) (h5 : L.length = 5) (hr : ∀ p ∈ L, IsRw P w s.heap p) (hl : w.params.followText "set-order" = true ∨ t.led = true) {Q : Unit → Shared → Prop}
    (q : ∀ h' L' es' ep' t', Heap.SameBut a s.heap h' → SetRw P w h' a L' es' ep' t' → L'.Perm L → Q () { s with heap := h' }) : wpAny (model P w) A (setRelay a (SetTable.grown 5)) Q E s := by
  have sz := ent_size he
  have hf : t.fits es.size = true := by
    have h1 := T.sz
    rw [List.length_map] at h1
    unfold SetTable.fits SetTable.fill
    rw [T.dm, Bool.and_eq_true, beq_iff_eq, decide_eq_true_eq]
    show t.place.size = es.size ∧ t.place.size + 0 ≤ t.mask
    omega
  obtain ⟨t2, ord, e1, hp, T2, em, el, _, _⟩ := relaid_ok t (hs := es.map (·.1)) (wanted := SetTable.grown 5) (M := 31) (by rw [size_20]) (.inr (.inl rfl)) (by rw [Array.size_map, sz]; omega)
  rw [Array.size_map, sz] at hp
  obtain ⟨M, m1, m2, m3⟩ := ent_order he (l := ord.toList) fun i hi => List.mem_range.mp (hp.mem_iff.mp hi)
  have pm : M.Perm L := by
    have z := hp.filterMap fun i => L[i]?
    rw [places_all] at z
    rw [m1]
    exact z
  have en : (ord.filterMap fun i => es[i]?).toList = M.map fun p => (hashRw P w p, Value.ref p.1) := by first | (rw [Array.toList_filterMap]; exact m2) | simpa using m2
  rw [← m3] at T2
  have s2 : (ord.filterMap fun i => es[i]?).size = es.size := by rw [ent_size en, pm.length_eq, sz]
  rw [setRelay_eq]
  refine wpAny_bind (wpAny_setState_of ho hd hf ?_)
  dsimp only
  refine wp_if_neg (by rw [size_20, sizeLine_eq]; omega) ?_
  try refine wpAny_bind (wpAny_pure ?_)
  rw [e1]
  dsimp only
  refine wpAny_bind ?_
  refine wp_if_neg (by rw [s2]; simp) ?_
  try refine wpAny_bind (wpAny_pure ?_)
  refine wpAny_pure ?_
  dsimp only
  refine wpAny_storeSet_of ho hd ?_ (by rw [s2, sz, sizeLine_eq]; omega)
  have sb : Heap.SameBut a s.heap (s.heap.update a (Obj.putSet (ord.filterMap fun i => es[i]?) t2)) := Heap.SameBut.update ..
  exact q _ M _ (ep + 1) t2 sb ⟨⟨_, store_at ho hd, ⟨hex.1, hex.2.1, hex.2.2⟩, rfl⟩, en, T2, fun p m => IsRw.but (hr p (pm.mem_iff.mp m)) ho hd sb, by rw [el]; exact hl, by rw [pm.length_eq, em]; omega⟩ pm
/-- a new row comes into the set -/
theorem SetRw.add (R : SetRw P w s.heap a L es ep t) {x : Rw} (hx : IsRw P w s.heap x) (new : ∀ p ∈ L, p.2 ≠ x.2) (hu : A.units < cLine) (few : L.length < 6) {Q : Bool → Shared → Prop}
    (q : ∀ h' L' es' ep' t', Heap.SameBut a s.heap h' → SetRw P w h' a L' es' ep' t' → L'.Perm (x :: L) → Q true { s with heap := h' }) : wpAny (model P w) A (setAddHashed a (.ref x.1) (hashRw P w x)) Q E s := by
  obtain ⟨o, ho, hex, hd⟩ := R.at_
  have sz := ent_size R.ent
  have rm := R.room
  unfold setAddHashed
  refine wpAny_holding ?_
  rw [show (100000 : Nat) = 99999 + 1 from rfl, setAddHashedIn_succ]
  refine wpAny_bind (wpAny_setState_of ho hd R.fits ?_)
  dsimp only
  refine wp_if_neg (by simp [byScan, Value.scannable]) ?_
  try refine wpAny_bind (wpAny_pure ?_)
  refine wpAny_bind (R.search hx new hu fun K hK hb => ?_)
  dsimp only
  refine wpAny_bind (wpAny_setState_of ho hd R.fits ?_)
  dsimp only
  obtain ⟨q1, q2, q3, q4, q5, q6, q7, q8, q9⟩ := R.tab.put hK hb
  generalize t.put (way t.mask (hashRw P w x) K) = pt at q1 q3 q4 q5 q6 q7 q8 q9 ⊢
  obtain ⟨t1, n⟩ := pt
  dsimp only at q1 q3 q4 q5 q6 q7 q8 q9 ⊢
  subst q1
  rw [List.length_map] at q2 q9
  have en : (SetTable.insertAt es (SetTable.below t.place (way t.mask (hashRw P w x) K)) (hashRw P w x, Value.ref x.1)).toList = (L.take (SetTable.below t.place (way t.mask (hashRw P w x) K)) ++ x :: L.drop (SetTable.below t.place (way t.mask (hashRw P w x) K))).map fun p => (hashRw P w p, Value.ref p.1) := by
    rw [SetTable.toList_insertAt, R.ent, List.map_append, List.map_cons, List.map_take, List.map_drop]
  generalize SetTable.below t.place (way t.mask (hashRw P w x) K) = n at q2 q3 en ⊢
  have q3' : TabOk t1 ((L.take n ++ x :: L.drop n).map (hashRw P w)) := by
    rw [List.map_append, List.map_cons, List.map_take, List.map_drop]
    exact q3
  have pm : (L.take n ++ x :: L.drop n).Perm (x :: L) := by
    have z : (L.take n ++ x :: L.drop n).Perm (x :: (L.take n ++ L.drop n)) := List.perm_middle
    rw [List.take_append_drop] at z
    exact z
  generalize L.take n ++ x :: L.drop n = L1 at q3' en pm
  have l1 : L1.length = L.length + 1 := pm.length_eq
  generalize SetTable.insertAt es n (hashRw P w x, Value.ref x.1) = es1 at en ⊢
  have sz1 : es1.size = L.length + 1 := by rw [ent_size en, l1]
  -- behind the question whether the table stays plain: t2 is t1 but for that
  have rest : ∀ t2 : SetTable, TabOk t2 (L1.map (hashRw P w)) → t2.mask = t.mask → t2.led = t.led → t2.fill = L.length + 1 →
      wpAny (model P w) A (storeSet a es1 t2 >>= fun _ => if (!false && t2.tooFull) = true then (setRelay a (SetTable.grown (es.size + 1)) >>= fun _ => pure true) else pure true) Q E s := fun t2 T2 k1 k2 k3 => by
    refine wpAny_bind (wpAny_storeSet_of ho hd ?_ (by rw [sz1, sizeLine_eq]; omega))
    have sb : Heap.SameBut a s.heap (s.heap.update a (Obj.putSet es1 t2)) := Heap.SameBut.update ..
    have ho1 := store_at (es' := es1) (t' := t2) ho hd
    generalize s.heap.update a (Obj.putSet es1 t2) = h1 at sb ho1 ⊢
    have rows1 : ∀ p ∈ L1, IsRw P w h1 p := fun p m => by
      rcases List.mem_cons.mp (pm.mem_iff.mp m) with e | m
      · rw [e]
        exact IsRw.but hx ho hd sb
      · exact IsRw.but (R.rows p m) ho hd sb
    have led1 : w.params.followText "set-order" = true ∨ t2.led = true := by rw [k2]; exact R.led
    have hex1 : ({ o with data := .set es1 (ep + 1) t2 } : Obj).ExactSet := ⟨hex.1, hex.2.1, hex.2.2⟩
    by_cases hf : t2.tooFull = true
    · have full : (L.length + 1) * 5 ≥ t.mask * 3 := by
        unfold SetTable.tooFull at hf
        rw [decide_eq_true_eq, k3, k1] at hf
        exact hf
      have m7 : t.mask = 7 ∧ L.length = 4 := by
        rcases R.tab.mok with e | e | e
        · rw [e] at full rm; exact ⟨e, by omega⟩
        · rw [e] at full; omega
        · rw [e] at full; omega
      rw [sz, m7.2]
      refine wp_if_pos (by simp [hf]) (wpAny_bind ?_)
      refine grow_at (s := { s with heap := h1 }) ho1 hex1 rfl en T2 (by rw [k1]; exact m7.1) (by rw [l1, m7.2]) rows1 led1 fun h2 L2 es2 ep2 t3 sb2 R2 pm2 => ?_
      exact wpAny_pure (q h2 L2 es2 ep2 t3 (sb.trans sb2) R2 (pm2.trans pm))
    · refine wp_if_neg (by simp [hf]) ?_
      refine wpAny_pure (q h1 L1 es1 (ep + 1) t2 sb ⟨⟨_, ho1, hex1, rfl⟩, en, T2, rows1, led1, ?_⟩ pm)
      unfold SetTable.tooFull at hf
      rw [decide_eq_true_eq, k3, k1] at hf
      rw [l1, k1]
      omega
  have fill1 : ∀ b : Bool, ({ t1 with plain := b } : SetTable).fill = L.length + 1 := fun _ => q9
  by_cases hpl : t1.plain = true
  · refine wp_if_pos hpl (wpAny_bind (rw_hashBy hx fun b => ?_))
    cases b with
    | true => exact rest t1 q3' q4 q5 q9
    | false => exact rest { t1 with plain := false } ⟨q3'.ris, q3'.dm, q3'.sz, q3'.mok, q3'.bd, q3'.reach⟩ q4 q5 (fill1 _)
  · exact wp_if_neg hpl (wpAny_bind (wpAny_pure (rest t1 q3' q4 q5 q9)))
end
end Mh
set_option maxRecDepth 100000
set_option maxHeartbeats 4000000
/-! E24: set(a list of a few different rows), sorted of it. -/
namespace Mh
open PySem PySem.Spec PyProof.Rows L2
theorem take_new {ks : List Rw} (nd : (ks.map (·.2)).Nodup) {i : Nat} {p z : Rw} (hp : ks[i]? = some p) (hz : z ∈ ks.take i) : z.2 ≠ p.2 := by
  obtain ⟨j, hj, e⟩ := List.getElem_of_mem hz
  obtain ⟨hi, ep⟩ := List.getElem?_eq_some_iff.mp hp
  have hj2 : j < i ∧ j < ks.length := by
    rw [List.length_take] at hj
    omega
  rw [List.getElem_take] at e
  have h1 := List.pairwise_iff_getElem.mp (List.pairwise_map.mp nd) j i hj2.2 hi hj2.1
  rw [e, ep] at h1
  exact h1
theorem perm_pull {α β : Type} {f : α → β} : ∀ {vs m : List β}, vs.Perm m → ∀ {L : List α}, m = L.map f → ∃ L1 : List α, vs = L1.map f ∧ L1.Perm L := by
  intro vs m h
  induction h with
  | nil =>
    intro L e
    rw [List.map_eq_nil_iff.mp e.symm]
    exact ⟨[], rfl, .nil⟩
  | cons x _ ih =>
    intro L e
    cases L with
    | nil => cases e
    | cons z L =>
      obtain ⟨e1, e2⟩ := List.cons.inj e
      obtain ⟨L1, h1, h2⟩ := ih e2
      exact ⟨z :: L1, by rw [List.map_cons, h1, e1], h2.cons z⟩
  | swap x y l =>
    intro L e
    cases L with
    | nil => cases e
    | cons z L =>
      cases L with
      | nil => cases (List.cons.inj e).2
      | cons z2 L =>
        obtain ⟨e1, e2⟩ := List.cons.inj e
        obtain ⟨e3, e4⟩ := List.cons.inj e2
        exact ⟨z2 :: z :: L, by rw [List.map_cons, List.map_cons, e1, e3, e4], .swap z z2 L⟩
  | trans _ _ ih1 ih2 =>
    intro L e
    obtain ⟨L1, h1, h2⟩ := ih2 e
    obtain ⟨L2, h3, h4⟩ := ih1 h1
    exact ⟨L2, h3, h4.trans h2⟩
theorem each_maps {α β γ : Type} {R : β → γ → Prop} {f : α → β} {g : α → γ} : ∀ {l : List α}, (∀ z ∈ l, R (f z) (g z)) → PySem.W.EachIs R (l.map f) (l.map g)
  | [], _ => .nil
  | z :: l, h => .cons (h z List.mem_cons_self) (each_maps fun y hy => h y (List.mem_cons_of_mem _ hy))
section
variable {P : Program} {w : World} {A : Around} {E : Value → Shared → Prop} {s : Shared}
theorem IsRw.kept {h h' : Heap} {p : Rw} (hp : IsRw P w h p) (k : ∀ b o, h.get? b = some o → h'.get? b = some o) : IsRw P w h' p := by
  obtain ⟨o, its, n, ho, r⟩ := hp
  exact ⟨o, its, n, k _ _ ho, r⟩
theorem SetRw.kept {h h' : Heap} {a : Addr} {L : List Rw} {es : Array (Int × Value)} {ep : Nat} {t : SetTable} (R : SetRw P w h a L es ep t) (k : ∀ o, h.get? a = some o → h'.get? a = some o) (r : ∀ p ∈ L, IsRw P w h' p) : SetRw P w h' a L es ep t := by
  obtain ⟨o, ho, q⟩ := R.at_
  exact ⟨⟨o, k o ho, q⟩, R.ent, R.tab, r, R.led, R.room⟩
abbrev freshT (w : World) : SetTable := .fresh 0 0 (!w.params.followText "set-order")
abbrev freshS (w : World) : Obj := { cls := .type "set", dict := none, data := .set #[] 0 (freshT w) }
theorem set_fresh {h : Heap} {a : Addr} (ho : h.get? a = some (freshS w)) : SetRw P w h a [] #[] 0 (freshT w) := by
  refine ⟨⟨_, ho, ⟨rfl, rfl, rfl⟩, rfl⟩, rfl, ⟨List.Pairwise.nil, rfl, rfl, .inl rfl, fun x hx => (by cases hx), fun i h j hi => (by simp at hi)⟩, fun p hp => (by cases hp), ?_, by show 0 * 5 < 7 * 3; decide⟩
  show _ ∨ (!w.params.followText "set-order") = true
  cases w.params.followText "set-order"
  · exact .inr rfl
  · exact .inl rfl
/-- the rows of a list come into the set at S, one after another -/
theorem loopRw {I S l : Addr} {items : Array Value} (hh : A.in1.handled = none) (hl : l ≠ I) (hS : S ≠ I) (hSl : S ≠ l) (ks : List Rw) (hit : items.toList = ks.map fun p => Value.ref p.1) (few : ks.length ≤ 6) (nd : (ks.map (·.2)).Nodup)
    (h0 : Heap) (hk : ∀ p ∈ ks, IsRw P w h0 p) (hS0 : h0.get? S = none) (hI0 : h0.get? I = none) (hu : A.in1.units < cLine) {R : Result → Shared → Prop} :
    ∀ (k i : Nat) (s : Shared), ks.length - i = k → i ≤ ks.length → (s.heap.IsListIter I l i ∧ s.heap.IsList l items) → (∀ b o, h0.get? b = some o → s.heap.get? b = some o) → (∃ L es ep t, SetRw P w s.heap S L es ep t ∧ L.Perm (ks.take i)) →
      (∀ h' tk L es ep t, SetRw P w h' S L es ep t → L.Perm ks → (∀ b o, h0.get? b = some o → h'.get? b = some o) → R (.ok (.ret .none)) { s with heap := h', toks := tk }) →
      codeAny (model P w) A (.builtin "set.update.loop" ⟨[.ref S, .ref I], []⟩) R s := by
  have isz : items.size = ks.length := by rw [← Array.length_toList, hit, List.length_map]
  have W := Walks.list (prog := P) (w := w) (A := A.in1) hh I l hl items
  intro k
  induction k with
  | zero =>
    intro i s hki hi st kp ⟨L, es, ep, t, hL, pm⟩ hR
    have ei : i = items.size := by omega
    refine codeAny_builtin F.entry_set_update_loop ?_
    rw [Around.under_plainId F.plain_set_update_loop _]
    show wpAny _ A.in1 (pyNext (.ref I) >>= _) _ _ s
    rw [ei] at st
    refine wpAny_bind (W.done s _ _ st fun h1 tk hm => ?_)
    show wpAny _ A.in1 (ret Value.none) _ _ _
    have kp1 : ∀ b o, h0.get? b = some o → h1.get? b = some o := fun b o e => hm b o (fun z => by rw [List.mem_singleton.mp z, hI0] at e; cases e) (kp b o e)
    have pm1 : L.Perm ks := by
      rw [ei, isz, List.take_length] at pm
      exact pm
    exact wpAny_pure (hR h1 tk L es ep t (hL.kept (fun o e => hm S o (fun z => hS (List.mem_singleton.mp z)) e) fun p hp => (hk p (pm1.mem_iff.mp hp)).kept kp1) pm1 kp1)
  | succ k ih =>
    intro i s hki hi st kp ⟨L, es, ep, t, hL, pm⟩ hR
    have hlt : i < ks.length := by omega
    refine codeAny_builtin F.entry_set_update_loop ?_
    rw [Around.under_plainId F.plain_set_update_loop _]
    show wpAny _ A.in1 (pyNext (.ref I) >>= _) _ _ s
    refine wpAny_bind (W.item i s _ _ (by omega) st fun v h1 tk hv st1 hm => ?_)
    have hp : ks[i]? = some ks[i] := List.getElem?_eq_getElem hlt
    generalize ks[i] = p at hp
    have ev : v = Value.ref p.1 := by
      have z : items.toList[i]? = some v := by rw [Array.getElem?_toList]; exact hv
      rw [hit, List.getElem?_map, hp] at z
      exact (Option.some.inj z).symm
    subst ev
    have kp1 : ∀ b o, h0.get? b = some o → h1.get? b = some o := fun b o e => hm b o (fun z => by rw [List.mem_singleton.mp z, hI0] at e; cases e) (kp b o e)
    have sub : ∀ z ∈ L, z ∈ ks.take i := fun z hz => pm.mem_iff.mp hz
    have hL1 : SetRw P w h1 S L es ep t := hL.kept (fun o e => hm S o (fun z => hS (List.mem_singleton.mp z)) e) fun z hz => (hk z (List.mem_of_mem_take (sub z hz))).kept kp1
    have hx1 : IsRw P w h1 p := (hk p (List.mem_of_getElem? hp)).kept kp1
    have len : L.length < 6 := by rw [pm.length_eq, List.length_take]; omega
    show wpAny _ A.in1 (holding [Value.ref p.1] (setAdd S (.ref p.1)) >>= _) _ _ _
    refine wpAny_bind (wpAny_holding ?_)
    unfold setAdd
    refine wpAny_holding ?_
    refine wpAny_bind (wpAny_pyHash_tuple (knd := strKind P w) hu hx1 ?_)
    refine SetRw.add (s := { s with heap := h1, toks := tk + (p.2.length + 1) }) hL1 hx1 (fun z hz => take_new nd hp (sub z hz)) hu len fun h2 L2 es2 ep2 t2 sb hL2 pm2 => ?_
    have kp2 : ∀ b o, h0.get? b = some o → h2.get? b = some o := fun b o e => (sb.2 b (fun z => by rw [z, hS0] at e; cases e)).trans (kp1 b o e)
    refine wpAny_pure ⟨plainId_quiet F.plain_set_update_loop _, ih (i + 1) _ (by omega) hlt (W.frame (i + 1) h1 h2 st1 fun b hb o e => ?_) kp2 ⟨L2, es2, ep2, t2, hL2, ?_⟩ fun h3 tk3 L3 es3 ep3 t3 => hR h3 tk3 L3 es3 ep3 t3⟩
    · refine (sb.2 b fun z => ?_).trans e
      simp only [List.mem_cons, List.not_mem_nil, or_false] at hb
      rcases hb with q | q
      · exact hS (z.symm.trans q)
      · exact hSl (z.symm.trans q)
    · rw [take_next hp]
      exact (pm2.trans (pm.cons p)).trans (List.perm_append_singleton p _).symm
set_option maxHeartbeats 8000000 in
/-- set(a list of rows) -/
theorem call_setRw {l : Addr} {items : Array Value} (ks : List Rw) {Q : Value → Shared → Prop} (hh : A.handled = none) (hl : s.heap.IsList l items) (hit : items.toList = ks.map fun p => Value.ref p.1) (hk : ∀ p ∈ ks, IsRw P w s.heap p) (few : ks.length ≤ 6) (nd : (ks.map (·.2)).Nodup) (hu : A.units + 3 < cLine)
    (q : ∀ (h' : Heap) (tk : Nat) L es ep t, SetRw P w h' s.heap.objs.size L es ep t → L.Perm ks → (∀ b o, s.heap.get? b = some o → h'.get? b = some o) → Q (.ref s.heap.objs.size) { s with heap := h', toks := tk }) :
    wpAny (model P w) A (call (.type "set") [.ref l]) Q E s := by
  obtain ⟨c, tl, hmro⟩ := F.called_set.mro
  have hmade := F.called_set.made
  have hsub := F.called_set.sub
  have h1 := F.called_set.notType
  have h2 := F.called_set.canCreate
  have hct := F.typeCall_set_1 (.ref l)
  refine wpAny_call (codeAny_of_tree ?_)
  show wpAny _ _ (callAny (.type "set") _) _ _ _
  refine wpAny_pure ⟨Code.quiet_builtin _ (by decide +kernel), codeAny_builtin F.entry_type_call ?_⟩
  rw [Around.under_plain (weight_type_call_type "set" [.ref l] []) rfl]
  repeat (any_goals (first | assumption | wp_step))
  refine codeAny_mono (code_set_led1 (.ref l) (E := E) (Q₁ := fun v s1 => v = .ref s.heap.objs.size ∧ s1 = { s with heap := s.heap.push (freshS w) }) ⟨rfl, rfl⟩) fun r s1 hr => ?_
  cases r with
  | error e => exact hr
  | ok fl =>
    cases fl with
    | ret v =>
      obtain ⟨rfl, rfl⟩ := hr
      have hS : (s.heap.push (freshS w)).get? s.heap.objs.size = some (freshS w) := Heap.get?_push_size _ rfl
      have hT : Shared.TypeIs { s with heap := s.heap.push (freshS w) } (.ref s.heap.objs.size) "set" := ⟨_, hS, rfl⟩
      have hli := F.called_set.init.lookup
      have hbi := F.called_set.init.bind (.ref s.heap.objs.size)
      repeat (any_goals (first | assumption | wp_step))
      refine codeAny_mono (codeAny_call_builtin (R := wants (fun r s2 => r = .none ∧ ∃ h' tk L es ep t, s2 = { s with heap := h', toks := tk } ∧ SetRw P w h' s.heap.objs.size L es ep t ∧ L.Perm ks ∧ ∀ b o, s.heap.get? b = some o → h'.get? b = some o) E)
        F.called_set.init.plain F.entry_set_init (check_set_init_1 hT ?_)) fun r2 s2 hr2 => ?_
      · obtain ⟨ol, hol, hcl, nl, hdl⟩ := hl
        obtain ⟨ocls, odict, odata, oslots⟩ := ol
        simp only at hcl hdl
        subst hcl hdl
        have lt : l < s.heap.objs.size := Heap.lt_size hol
        have none_at : ∀ b, s.heap.objs.size ≤ b → s.heap.get? b = none := fun b hb => by
          cases z : s.heap.get? b with
          | none => rfl
          | some o => exact absurd (Heap.lt_size z) (Nat.not_lt.mpr hb)
        have hol' : (s.heap.push (freshS w)).get? l = some { cls := .type "list", dict := odict, data := .seq items nl, slots := oslots } := Heap.get?_push_of_some _ hol
        have hl1 : (s.heap.push (freshS w)).IsList l items := ⟨_, hol', rfl, nl, rfl⟩
        have hsls := F.sub_list_set
        have hslf := F.sub_list_frozenset
        have hne : (Value.type "list" == Value.type "dict") = false := by decide
        unfold Builtin.«set.__init__» noKeywords Builtin.Frozenset.updateFrom
        generalize hPI : pyIter = PI
        wp_walk
        subst hPI
        refine wpAny_pyIter_list hl1 ?_
        refine wpAny_bind (wpAny_runValue ?_)
        have h1z : (s.heap.push (freshS w)).objs.size = s.heap.objs.size + 1 := Heap.size_push ..
        refine loopRw (by simp [hh]) (by rw [h1z]; exact Nat.ne_of_lt (Nat.lt_succ_of_lt lt)) (by rw [h1z]; exact Nat.ne_of_lt (Nat.lt_succ_self _)) (Nat.ne_of_gt lt) ks hit few nd s.heap hk (none_at _ (Nat.le_refl _)) (none_at _ (by rw [h1z]; exact Nat.le_succ _)) hu (ks.length - 0) 0 _ rfl (Nat.zero_le _)
          ⟨⟨_, Heap.get?_push_size _ rfl, rfl, rfl⟩, (hl1.push _)⟩ (fun b o e => Heap.get?_push_of_some _ (Heap.get?_push_of_some _ e)) ⟨[], #[], 0, _, set_fresh (Heap.get?_push_of_some _ hS), .nil⟩ fun h' tk L es ep t hL pm kp => ?_
        refine wpAny_pure ?_
        show wpAny _ _ (ret Value.none) _ _ _
        exact wpAny_pure ⟨rfl, h', tk, L, es, ep, t, rfl, hL, pm, kp⟩
      · cases r2 with
        | error e => exact hr2
        | ok fl2 =>
          cases fl2 with
          | ret r =>
            obtain ⟨rfl, h', tk, L, es, ep, t, rfl, hL, pm, kp⟩ := hr2
            repeat (any_goals (first | assumption | wp_step))
            exact q _ _ _ _ _ _ hL pm kp
          | _ => exact hr2.elim
    | _ => exact hr.elim
theorem strs_reads {h : Heap} : ∀ {k : List Str} {vs : List Value}, ItemsAre (strKind P w) k vs → ReadsAll h vs (k.map PyData.str) []
  | _, _, .nil => .nil
  | _, _, .cons e hs => by
    obtain ⟨t, e⟩ := Value.isStrOf_shape e
    subst e
    exact .cons (as := []) (.str _ t) (strs_reads hs)
theorem IsRw.reads {h : Heap} {p : Rw} (hp : IsRw P w h p) : Reads h (.ref p.1) (encR p.2) [] := by
  obtain ⟨o, its, n, h1, h2, h3, h4⟩ := hp
  exact .tuple h1 h2 h3 (strs_reads h4)
/-- sorted(the set) -/
theorem sort_setRw {a : Addr} {L : List Rw} {es : Array (Int × Value)} {ep : Nat} {t : SetTable} {Q : Value → Shared → Prop} (R : SetRw P w s.heap a L es ep t) (hh : A.handled = none) (few : L.length ≤ 6) (ne : ∀ p ∈ L, p.2 ≠ []) (hu : A.units + 64 < cLine)
    (q : ∀ s' p (out : List Value) (c : Nat), (∀ b o, s.heap.get? b = some o → s'.heap.get? b = some o) → s'.gens = s.gens → s'.os = s.os → s.heap.objs.size ≤ p → s'.heap.get? p = some (seqObj "list" out.toArray c) → out.length = L.length →
      PySem.W.EachIs (fun v r => ∃ z ∈ L, v = Value.ref z.1 ∧ z.2 = r) out (srtRows (L.map (·.2))) → Q (.ref p) s') :
    wpAny (model P w) A (call (.builtin "sorted") [.ref a]) Q E s := by
  obtain ⟨o, ho, hex, hd⟩ := R.at_
  have sz := ent_size R.ent
  refine Calls.call_function_entry kind_sorted plain_sorted entry_sorted (args_sorted1 _) ?_
  unfold Builtin.«sorted»
  refine wpAny_bind (m := checkCount "sorted" 1 1 _) (wpAny_pure ?_)
  refine wpAny_bind (collect_set (A := A.in1) hh ⟨o, ho, hex.1, hd⟩ R.fits (by unfold scanBound; omega) R.tab.ris R.led fun s1 vs k1 hz g1 o1 pm => ?_)
  have em : es.toList.map (·.2) = L.map fun p => Value.ref p.1 := by
    rw [R.ent, List.map_map] <;> rfl
  obtain ⟨L1, e1, p1⟩ := perm_pull pm em
  have vl : vs.length = L.length := by rw [e1, List.length_map, p1.length_eq]
  refine wpAny_bind (wpAny_newList ?_ (by rw [vl, sizeLine_eq]; omega))
  have hoL : (s1.heap.push (seqObj "list" vs.toArray 0)).get? s1.heap.objs.size = some (seqObj "list" vs.toArray 0) := Heap.get?_push_size _ rfl
  have hr : ∀ p ∈ L, IsRw P w (s1.heap.push (seqObj "list" vs.toArray 0)) p := fun p hp => (R.rows p hp).kept fun b u e => Heap.get?_push_of_some _ (k1 b u e)
  have hb : (L1.map (·.2)).length = L.length := by rw [List.length_map, p1.length_eq]
  refine wpAny_bind (wpAny_holding (PySem.W.list_sort_data (s := { s1 with heap := s1.heap.push (seqObj "list" vs.toArray 0) }) (vs := vs) (bs := L1.map (·.2)) (enc := encR) (R := fun v r => ∃ z ∈ L, v = Value.ref z.1 ∧ z.2 = r) hoL ?ea ?er (PySem.W.AllAlike.of encR_alike) ?hk (by rw [hb, sizeLine_eq]; omega) (fun b _ => ?hd) fun out h1 h2 => ?fin))
  case ea =>
    rw [e1]
    exact each_maps fun z hz => ⟨z, p1.mem_iff.mp hz, rfl, rfl⟩
  case er =>
    have z0 := each_maps (R := fun v b => ∃ as, Reads (s1.heap.push (seqObj "list" vs.toArray 0)) v (encR b) as ∧ s1.heap.objs.size ∉ as) (f := fun p : Rw => Value.ref p.1) (g := fun p : Rw => p.2) (l := L1) fun z hz => ⟨[], (hr z (p1.mem_iff.mp hz)).reads, by simp⟩
    rw [← e1] at z0
    exact z0
  case hk =>
    refine .inl fun d hd => ?_
    obtain ⟨b, hb, rfl⟩ := List.mem_map.mp hd
    obtain ⟨z, hz, rfl⟩ := List.mem_map.mp hb
    have := ne z (p1.mem_iff.mp hz)
    cases h : z.2 with
    | nil => exact absurd h this
    | cons x r => exact ⟨_, _, rfl⟩
  case hd =>
    have := encR_depth b
    show A.in1.units + 1 + _ < cLine
    have e : A.in1.units = A.units + 1 := rfl
    omega
  case fin =>
    obtain ⟨c, hc⟩ := sortedHeap_at (vs := vs) (out := out.toArray) hoL
    refine wpAny_pure ⟨_, rfl, q _ s1.heap.objs.size out c (fun b u e => ?_) g1 o1 hz hc (h1.trans hb) ?_⟩
    · have e2 := k1 b u e
      have lt := Heap.lt_size e2
      show (sortedHeap (s1.heap.push (seqObj "list" vs.toArray 0)) s1.heap.objs.size vs out.toArray).get? b = some u
      rw [sortedHeap_old (Nat.ne_of_lt lt) (by rw [size_push']; exact Nat.lt_succ_of_lt lt)]
      exact Heap.get?_push_of_some _ e2
    · have e3 : srtRows (L.map (·.2)) = srtRows (L1.map (·.2)) := srtR_of_perm (p1.map (·.2)).symm
      rw [e3]
      exact h2
end
end Mh
set_option maxRecDepth 100000
set_option maxHeartbeats 4000000
/-! E25: sorted(a tuple of texts); sorted(set(a list of rows)). -/
namespace Mh
open PySem PySem.Spec PyProof.Rows L2
open Evl (Ex)
section
variable {P : Program} {w : World} {A : Around} {E : Value → Shared → Prop} {s : Shared}
/-- the items of a tuple, gathered -/
theorem collect_tupV {l : Addr} {vs : List Value} {Q : List Value → Shared → Prop} (hl : s.heap.IsTuple l vs.toArray) (hz : vs.length < 64)
    (q : Q vs { s with heap := (s.heap.push (seqObj "list" #[] 0)).update s.heap.objs.size (Obj.mapSeq (· ++ vs.toArray)) }) : wpAny (model P w) A (collect (.ref l)) Q E s := by
  obtain ⟨o, ho, hc, n, hd⟩ := id hl
  have fit : vs.length ≤ sizeLine := by rw [sizeLine_eq]; omega
  have hS : (s.heap.push (seqObj "list" #[] 0)).get? s.heap.objs.size = some (seqObj "list" #[] 0) := Heap.get?_push_size _ rfl
  have hT : (s.heap.push (seqObj "list" #[] 0)).get? l = some o := Heap.get?_push_of_some _ ho
  unfold collect
  refine wpAny_bind (wpAny_runValue (codeAny_builtin entry_proto_collect' ?_))
  show wpAny _ _ (newList [] >>= fun l2 => again (.builtin "list.__iadd__" ⟨[l2, .ref l], []⟩)) _ _ s
  refine wpAny_bind (wpAny_newList (wpAny_pure ⟨Code.quiet_builtin _ (by decide +kernel), codeAny_builtin entry_list_iadd' ?_⟩))
  show wpAny _ _ (Builtin.List.listExtendWith (.ref s.heap.objs.size) (.ref l) (.ref s.heap.objs.size)) _ _ { s with heap := s.heap.push (seqObj "list" #[] 0) }
  unfold Builtin.List.listExtendWith
  refine wpAny_bind (wpAny_typeOf (T := "tuple") ⟨o, hT, hc⟩ ?_)
  rw [if_pos (by rw [show (Value.type "tuple" == Value.type "tuple") = true from rfl]; simp)]
  refine wpAny_bind (listItems_at hT hd (wpAny_bind (listItems_at (xs := #[]) (n := 0) hS rfl ?_)))
  rw [if_neg (by simp)]
  refine wpAny_bind (listUpdate_at (xs := #[]) (n := 0) hS rfl ?_ (Nat.zero_le _) (by show (#[] ++ vs.toArray).size ≤ sizeLine + 1; simp only [Array.size_append, List.size_toArray, List.length_nil]; omega))
  refine wpAny_pure ?_
  show wpAny _ _ (load s.heap.objs.size >>= _) Q E _
  refine wpAny_bind (wpAny_load (get?_update_seq hS _) ?_)
  show wpAny _ _ (pure ((#[] : Array Value) ++ vs.toArray).toList) Q E _
  rw [show ((#[] : Array Value) ++ vs.toArray).toList = vs by simp]
  exact wpAny_pure q
theorem srt_data (xs : List Str) : xs.mergeSort (PySem.W.dataLe false PyData.str) = srt xs := by
  have e : PySem.W.dataLe false PyData.str = sle := by
    have h := PySem.W.dataLe_str (β := Str) fun x => x
    rw [h]
    funext a b
    show decide (a.cps.toList ≤ b.cps.toList) = !decide (slt b a)
    by_cases c : slt b a
    · rw [decide_eq_true c, decide_eq_false (fun z => List.not_lt.mpr z c)] <;> rfl
    · rw [decide_eq_false c, decide_eq_true (List.not_lt.mp c)] <;> rfl
  unfold srt
  rw [e]
theorem sorted_tupV {l : Addr} {vs : List Value} {xs : List Str} {Q : Value → Shared → Prop} (hl : s.heap.IsTuple l vs.toArray) (e : PySem.W.EachIs (fun v x => ∃ t, v = Value.str x t) vs xs) (hx : xs.length < 64) (hu : A.units + 64 < cLine)
    (q : ∀ out : List Value, out.length = xs.length → PySem.W.EachIs (fun v x => ∃ t, v = Value.str x t) out (srt xs) → Q (.ref (s.heap.objs.size + 1)) { s with heap := sortedAll s.heap vs (List.toArray out) }) :
    wpAny (model P w) A (call (.builtin "sorted") [.ref l]) Q E s := by
  have hv : vs.length = xs.length := each_len e
  refine Calls.call_function_entry kind_sorted plain_sorted entry_sorted (args_sorted1 _) ?_
  unfold Builtin.«sorted»
  refine wpAny_bind (m := checkCount "sorted" 1 1 _) (wpAny_pure ?_)
  refine wpAny_bind (collect_tupV hl (by omega) ?_)
  refine wpAny_bind (wpAny_newList ?_ (by rw [sizeLine_eq]; omega))
  have sz : ((s.heap.push (seqObj "list" #[] 0)).update s.heap.objs.size (Obj.mapSeq (· ++ vs.toArray))).objs.size = s.heap.objs.size + 1 := by rw [Heap.size_update, size_push']
  have hoL : (((s.heap.push (seqObj "list" #[] 0)).update s.heap.objs.size (Obj.mapSeq (· ++ vs.toArray))).push (seqObj "list" vs.toArray 0)).get? (s.heap.objs.size + 1) = some (seqObj "list" vs.toArray 0) := by
    rw [← sz]
    exact Heap.get?_push_size _ rfl
  show wpAny _ _ _ _ _ { s with heap := ((s.heap.push (seqObj "list" #[] 0)).update s.heap.objs.size (Obj.mapSeq (· ++ vs.toArray))).push (seqObj "list" vs.toArray 0) }
  rw [sz]
  refine wpAny_bind (wpAny_holding (PySem.W.list_sort_data (vs := vs) (bs := xs) (enc := PyData.str) hoL e (e.mono fun v x ⟨t, z⟩ => ⟨[], by rw [z]; exact .str x t, by simp⟩) (PySem.W.AllAlike.of fun a b => by simp [PySem.W.alike]) (.inr fun d hd => ?_) (by rw [sizeLine_eq]; omega) (fun b _ => ?_) fun out h1 h2 => ?_))
  · obtain ⟨b, _, rfl⟩ := List.mem_map.mp hd
    exact ⟨fun z => (nomatch z), fun _ z => (nomatch z)⟩
  · have e1 : A.in1.units = A.units + 1 := rfl
    have e2 : (PyData.str b).depth = 0 := by simp [PyData.depth]
    omega
  · rw [srt_data] at h2
    exact wpAny_pure ⟨_, rfl, q out h1 h2⟩
end
/-! over the layer -/
def rSortTS (K : PySem.W.Frag) : List V → Hp → VK → Prop := fun vs H Q => ∃ (a : Addr) (xs : List Str), vs = [V.ref a] ∧ SqT K H a (xs.map V.str) ∧ xs.length < 64 ∧ ∀ p, H p = none → Q (.ref p) (upd H p (.lst ((srt xs).map V.str)))
theorem vals_each : ∀ {xs : List Str} {us : List Value}, Vals (xs.map V.str) us → PySem.W.EachIs (fun v x => ∃ t, v = Value.str x t) us xs
  | [], _, .nil => .nil
  | _ :: _, _, .cons r rs => by
    obtain ⟨t, e⟩ := r
    exact .cons ⟨t, e⟩ (vals_each rs)
theorem each_vals : ∀ {xs : List Str} {us : List Value}, PySem.W.EachIs (fun v x => ∃ t, v = Value.str x t) us xs → Vals (xs.map V.str) us
  | _, _, .nil => .nil
  | _, _, .cons ⟨t, e⟩ rs => .cons ⟨t, e⟩ (each_vals rs)
theorem cr_sortTS {X : Cx} (hu : X.A.units + 64 < cLine) : CallR X (.builtin "sorted") (rSortTS X.K) := by
  intro pins s σ H vs us Q I r h
  obtain ⟨a, xs, rfl, hs, h64, q⟩ := h
  obtain ⟨its, rv, hT, _⟩ := I.tuple hs
  rw [Vals.ref1 r]
  refine sorted_tupV (vs := its) (xs := xs) hT (vals_each rv) h64 hu fun out h1 h2 => ?_
  obtain ⟨ep, he'⟩ := PyProof.Rows.sortedAll_at s.heap its (List.toArray out)
  have hlen : ((srt xs).map V.str).length ≤ sizeLine := by
    rw [List.length_map, (srt_perm xs).length_eq, sizeLine_eq]
    omega
  exact ⟨.ref _, upd H (s.heap.objs.size + 1) (.lst ((srt xs).map V.str)), I.laid (t' := s.toks) (fun _ _ => PyProof.Rows.sortedAll_old) (Nat.le_succ _) ⟨hlen, out, ep, each_vals h2, by simpa using he'⟩, rfl, q _ (I.hok.fresh (Nat.le_succ _))⟩
theorem cd_sortTS {K : PySem.W.Frag} {xs : List Str} (h64 : xs.length < 64) : CallD (rSortTS K) [.tup (xs.map D.str)] (.lst ((srt xs).map D.str)) := fun S H us Q e r k => by
  obtain ⟨u, rfl, r1⟩ := one_rep r
  obtain ⟨a, vs, rfl, h1, h2⟩ := r1.tup
  rw [repL_strs h2] at h1
  exact ⟨a, xs, rfl, SqT.of (e _ _ h1), h64, fun p hp => k _ _ _ (Gr.new e hp) (rep_lst upd_same repL_of_strs)⟩
/-- sorted(set(e)), e a list of different rows -/
def tSetSort (K : PySem.W.Frag) (ta : TE) : TE := fun σ H Q => ta σ H fun x H1 => ∃ (l : Addr) (xs : List V) (rows : List (List Str)), x = V.ref l ∧ SqL K H1 l xs ∧ PySem.W.EachIs (RowV H1) xs rows ∧ rows.length ≤ 6 ∧ rows.Nodup ∧ (∀ r ∈ rows, r ≠ []) ∧
  ∀ (ys : List V) (p : Addr), PySem.W.EachIs (RowV H1) ys (srtRows rows) → H1 p = none → Q (.ref p) (upd H1 p (.lst ys))
theorem items_strs {P : Program} {w : World} : ∀ {k : List Str} {us : List Value}, Vals (k.map V.str) us → ItemsAre (strKind P w) k us
  | [], _, .nil => .nil
  | x :: k, _, .cons r t => by
    obtain ⟨tk, rfl⟩ := r
    exact .cons (strKind_is P w x tk) (items_strs t)
section
variable {X : Cx} {pins : List (Addr × Obj)} {σ : L2.St} {H : Hp} {s : Shared}
theorem rowV_is (I : Inv X pins σ H s) {t : Addr} {r : List Str} (h : H t = some (.tup (r.map V.str))) : IsRw X.prog X.w s.heap (t, r) := by
  obtain ⟨its, rv, ⟨o, ho, hc, n, hd⟩, _⟩ := I.tuple (SqT.of h)
  exact ⟨o, its.toArray, n, ho, hc, hd, by simpa using items_strs rv⟩
/-- the rows with their places -/
theorem rowV_rw (I : Inv X pins σ H s) : ∀ {xs : List V} {us : List Value} {rows : List (List Str)}, Vals xs us → PySem.W.EachIs (RowV H) xs rows → ∃ ks : List Rw, us = ks.map (fun p => Value.ref p.1) ∧ ks.map (·.2) = rows ∧ ∀ p ∈ ks, H p.1 = some (.tup (p.2.map V.str))
  | _, _, _, .nil, .nil => ⟨[], rfl, rfl, fun _ h => nomatch h⟩
  | _, _, _, .cons r rs, .cons h hs => by
    obtain ⟨t, e, ht⟩ := h
    subst e
    obtain ⟨ks, h1, h2, h3⟩ := rowV_rw I rs hs
    have r : _ = Value.ref t := r
    subst r
    refine ⟨(t, _) :: ks, by rw [List.map_cons, ← h1], by rw [List.map_cons, h2], fun p hp => ?_⟩
    rcases List.mem_cons.mp hp with e | hp
    · rw [e]
      exact ht
    · exact h3 p hp
theorem rw_back {L : List Rw} (hL : ∀ p ∈ L, H p.1 = some (.tup (p.2.map V.str))) : ∀ {us : List Value} {rows : List (List Str)}, PySem.W.EachIs (fun v r => ∃ z ∈ L, v = Value.ref z.1 ∧ z.2 = r) us rows → ∃ ys : List V, Vals ys us ∧ PySem.W.EachIs (RowV H) ys rows
  | _, _, .nil => ⟨[], .nil, .nil⟩
  | _, _, .cons ⟨z, hz, e1, e2⟩ hs => by
    obtain ⟨ys, h1, h2⟩ := rw_back hL hs
    subst e1 e2
    exact ⟨.ref z.1 :: ys, .cons rfl h1, .cons ⟨z.1, rfl, hL z hz⟩ h2⟩
theorem pe_setSort {a : Expr} {ta : TE} {p p2 q pos : Pos} (hc : X.calm = true) (hu : X.A.units + 64 < cLine) (hg : L2.Gl X "sorted") (hm : X.mg "sorted" = none) (hg2 : L2.Gl X "set") (hm2 : X.mg "set" = none) (ha : PE X a ta)
    (na : starEach [a] X.env = (false, eval a X.env) :: starEach [] X.env := by rfl) : PE X (.Call (.Name "sorted" p) [.Call (.Name "set" p2) [a] [] q] [] pos) (tSetSort X.K ta) := by
  refine ⟨fun pins s σ H Q I h => ?_⟩
  refine Call_ (ld_blt I hg hm PyProof.Rows.boot_sorted ?_)
  refine PyProof.Rows.callWith_builtin1 (PyProof.Rows.args_cons ?_ rfl) rfl rfl
  refine Call_ (ld_blt I hg2 hm2 PyProof.Rows.boot_set ?_)
  refine PyProof.Rows.callWith_type1 (PyProof.Rows.args_cons (thn (ha.run pins s σ H _ I h) fun v s1 ⟨x, H1, I1, r1, q1⟩ => PyProof.Rows.args_nil ?_) na) na rfl
  obtain ⟨l, xs, rows, rfl, hl, he, h6, nd, hne, q1⟩ := q1
  cases r1
  obtain ⟨its, rv, pl, hz⟩ := I1.list hl
  obtain ⟨ks, e1, e2, hks⟩ := rowV_rw I1 rv he
  have lk : ks.length = rows.length := by rw [← e2, List.length_map]
  refine call_setRw (P := X.prog) (w := X.w) ks (I1.ok.hd hc) pl.isList (by simpa using e1) (fun z hz => rowV_is I1 (hks z hz)) (by omega) (by rw [e2]; exact nd) (by omega) fun h1 tk L es ep t hL pm k1 => ?_
  refine PyProof.Rows.args_nil ?_
  have hLt : ∀ z ∈ L, H1 z.1 = some (.tup (z.2.map V.str)) := fun z hz => hks z (pm.mem_iff.mp hz)
  have hrows : srtRows (L.map (·.2)) = srtRows rows := srtR_of_perm (by rw [← e2]; exact pm.map _)
  refine sort_setRw hL (I1.ok.hd hc) (by rw [pm.length_eq]; omega) (fun z hz => hne z.2 (by rw [← e2]; exact List.mem_map.mpr ⟨z, pm.mem_iff.mp hz, rfl⟩)) hu fun s2 p out c k2 g o hp hpo hlen hout => ?_
  rw [hrows] at hout
  obtain ⟨ys, vy, ey⟩ := rw_back hLt hout
  have ylen : ys.length ≤ sizeLine := by
    rw [vy.length, hlen, pm.length_eq, sizeLine_eq]
    omega
  have k12 : ∀ b u, s1.heap.get? b = some u → s2.heap.get? b = some u := fun b u e => k2 b u (k1 b u e)
  have sz1 : s1.heap.objs.size ≤ p := by
    have lt : s1.heap.objs.size < h1.objs.size := by
      obtain ⟨o', ho', _⟩ := hL.at_
      exact Heap.lt_size ho'
    exact Nat.le_of_lt (Nat.lt_of_lt_of_le lt hp)
  have hn : H1 p = none := I1.hok.fresh sz1
  have J : Inv X pins σ (upd H1 p (.lst ys)) { s1 with heap := s2.heap, gens := s2.gens, drawn := s2.drawn, toks := s2.toks } :=
    I1.call (ch := []) (Un.laid k12 sz1 hn) (I1.hok.laid k12 sz1 ⟨ylen, out, c, vy, hpo⟩) (by rw [g]; exact I1.bare) (fun _ z => nomatch z)
  have e : s2 = { s1 with heap := s2.heap, gens := s2.gens, drawn := s2.drawn, toks := s2.toks } := by
    cases s2
    cases s1
    cases o
    rfl
  rw [e]
  exact ⟨.ref p, _, J, rfl, q1 ys p ey hn⟩
end
section
variable {X : Cx} {ρ : En} {e : Expr} {pos p p2 pos2 : Pos}
theorem e_sortTS {xs : List Str} (B : Bi X.mg) (hu : X.A.units + 64 < cLine) (h64 : xs.length < 64) (h : Em X e ρ (.tup (xs.map D.str))) (hg : L2.Gl X "sorted" := by rfl) (hs : starEach [e] X.env = (false, eval e X.env) :: starEach [] X.env := by rfl) : Em X (.Call (.Name "sorted" p) [e] [] pos) ρ (.lst ((srt xs).map D.str)) :=
  em_callB (cr_sortTS hu) (cd_sortTS h64) hg (B.free _ (by decide)) boot_sorted (a1 h hs) (he := hs)
theorem e_setSort {rows : List (List Str)} (B : Bi X.mg) (hc : X.calm = true) (hu : X.A.units + 64 < cLine) (h6 : rows.length ≤ 6) (nd : rows.Nodup) (hne : ∀ r ∈ rows, r ≠ []) (h : Em X e ρ (.lst (rows.map rowD))) (hg : L2.Gl X "sorted" := by rfl) (hg2 : L2.Gl X "set" := by rfl) (hs : starEach [e] X.env = (false, eval e X.env) :: starEach [] X.env := by rfl) :
    Em X (.Call (.Name "sorted" p) [.Call (.Name "set" p2) [e] [] pos2] [] pos) ρ (.lst ((srtRows rows).map rowD)) :=
  pe_mono (pe_setSort hc hu hg (B.free _ (by decide)) hg2 (B.free _ (by decide)) h hs) fun σ H Q ⟨S, e, rE, k⟩ => ⟨S, e, rE, fun u S1 H1 g1 r1 => by
    obtain ⟨a, vs, rfl, h1, h2⟩ := r1.lst
    refine ⟨a, vs, rows, rfl, SqL.of (g1.sh _ _ h1), rowV_mono (fun b xs h => g1.sh _ _ h) (rep_rowV h2), h6, nd, hne, fun ys p hy hp => ?_⟩
    have g2 := Gr.tups g1.sh
    have g3 : Gr (tupsOf S1 H1) H1 (upd (tupsOf S1 H1) p (.lst ys)) (upd H1 p (.lst ys)) := Gr.new g2.sh hp
    exact k (.ref p) _ _ (g1.trans (g2.trans g3)) (rep_lst upd_same ((rowV_rep (rowV_mono (fun b xs h => tupsOf_tup h) hy)).mono g3.ss))⟩
end
end Mh
set_option maxRecDepth 100000
set_option maxHeartbeats 2000000
/-! E26: _law_people_right. -/
namespace Mh
open PySem PySem.Spec PyProof.Rows L2
open Evl (Ex)
/-! the people, plainly -/
section
variable {named : List Str} {ls : List Lk}
theorem ppl_perm : (pplOf named ls).Perm (uniq (rowsFor named ls)) := srtR_perm _
theorem ppl_mem {r : Row} : r ∈ pplOf named ls ↔ r ∈ rowsFor named ls := ppl_perm.mem_iff.trans uniq_mem
theorem ppl_nd : (pplOf named ls).Nodup := ppl_perm.nodup_iff.mpr (uniq_nd _)
theorem ppl_ne (hf : fitB named ls = true) : pplOf named ls ≠ [] := fun z => by
  cases h : rowsFor named ls with
  | nil => exact for_ne hf h
  | cons r l =>
    have hm : r ∈ pplOf named ls := ppl_mem.mpr (by rw [h]; exact List.mem_cons_self)
    rw [z] at hm
    cases hm
theorem ppl_row (ho : OkAll named ls) {r : Row} (h : r ∈ pplOf named ls) : r.Perm named := by
  obtain ⟨n, _, h1, _⟩ := for_mem ho (ppl_mem.mp h)
  exact h1
theorem ppl_six (hn : named.length ≤ 3) (ho : OkAll named ls) : (pplOf named ls).length ≤ 6 := by
  have h1 := nd_le (ppl_nd (named := named) (ls := ls)) (m := rowsOf named) fun x hx => rows_all (ppl_row ho hx)
  have h2 := rowsOf_six hn
  omega
theorem ppl_srt : srtRows (pplOf named ls) = pplOf named ls := srtR_srt _
theorem zip_count {c : Nat} : ∀ {a : List Str} {b : List Nat}, b.length = a.length → ((a.zip b).filter fun q => decide (q.2 = c)).length = b.count c
  | [], [], _ => rfl
  | [], _ :: _, h => by simp at h
  | _ :: _, [], h => by simp at h
  | x :: a, y :: b, h => by
    have ih := zip_count (c := c) (a := a) (b := b) (by simpa using h)
    rw [List.zip_cons_cons, List.count_cons]
    by_cases q : y = c
    · rw [List.filter_cons, if_pos (by simpa using q), List.length_cons, ih]
      simp [q]
    · rw [List.filter_cons, if_neg (by simpa using q), ih]
      simp [q]
theorem marked_count {c : Nat} {l : Lk} (h : l.2.length = l.1.length) : (marked c l).length = l.2.count c := by
  unfold marked
  rw [List.length_map]
  exact zip_count h
theorem needs_sum (hO : ∀ l ∈ ls, OkLook l) : (needs0 ls).length = (ls.map fun l => l.2.count 43).sum := by
  have key : ∀ (ls : List Lk) (k : Nat), (∀ l ∈ ls, OkLook l) → ((ls.zipIdx k).map fun q => ((marked 43 q.1).map fun t => (some (q.2, t) : Need)).length).sum = (ls.map fun l => l.2.count 43).sum := by
    intro ls
    induction ls with
    | nil => intro k _; rfl
    | cons l ls ih =>
      intro k h
      rw [List.zipIdx_cons, List.map_cons, List.map_cons, List.sum_cons, List.sum_cons, ih _ fun x hx => h x (List.mem_cons_of_mem _ hx)]
      rw [List.length_map, marked_count (h l List.mem_cons_self).len]
  unfold needs0
  rw [List.length_flatMap]
  exact key ls 0 hO
theorem ppl_few (hO : ∀ l ∈ ls, OkLook l) : (pplOf named ls).length ≤ 1 ∨ (pplOf named ls).length ≤ (ls.map fun l => l.2.count 43).sum := by
  have h1 : (pplOf named ls).length ≤ (needsOf ls).length := by
    rw [ppl_perm.length_eq]
    refine Nat.le_trans (uniq_len _) ?_
    unfold rowsFor
    exact List.length_filterMap_le _ _
  unfold needsOf at h1
  split at h1
  · left
    simpa using h1
  · right
    rw [needs_sum hO] at h1
    exact h1
end
theorem cnt_nat {c : Nat} : ∀ {l : List Nat}, PyProof.Rows.cnt c l = (l.count c : Nat)
  | [] => rfl
  | x :: l => by
    rw [PyProof.Rows.cnt_cons, cnt_nat (l := l), List.count_cons]
    by_cases h : x = c
    · rw [if_pos h]
      simp [h]
      omega
    · rw [if_neg h]
      simp [h]
theorem count_sign {ms : List Nat} {c : Nat} : Txt.count (SX.S ms) ⟨#[c]⟩ = (ms.count c : Nat) := by
  rw [PyProof.Rows.count_cnt, S_list, cnt_nat]
theorem gd_row {r : Row} (h : ∀ x ∈ r, OkName x) : gd (rowD r) 2 = true := gd_tup fun d hd => by
  obtain ⟨x, hx, rfl⟩ := List.mem_map.mp hd
  exact gd_str (h x hx).ok
theorem gd_rows {rows : List Row} (h : ∀ r ∈ rows, ∀ x ∈ r, OkName x) : gd (.lst (rows.map rowD)) 3 = true := gd_lst fun d hd => by
  obtain ⟨r, hr, rfl⟩ := List.mem_map.mp hd
  exact gd_row (h r hr)
theorem t_eqNil {X : Cx} {ρ : En} {a : Expr} {pos : Pos} {k : Nat} {l : List D} {p : Pos} {A : Around} (hA : X.A = A) (hr : Room k A) (h : Em X a ρ (.lst l)) (g : gd (.lst l) 60 = true) : Et X (.Compare a [.Eq] [.List [] p] pos) ρ l.isEmpty := by
  subst hA
  have e : PyData.eqv (D.lst l).py (D.lst []).py = l.isEmpty := by
    rw [py_lst, py_lst, pys_nil]
    unfold PyData.eqv
    exact eqvAll_nil
  exact t_eqD (hu64 hr) h (em_lst ea_nil (Nat.zero_le _)) (gd_plain g) (by unfold D.plain D.plains; rfl) (gd_shaped g) (gd_shaped (by unfold gd gds; rfl)) e
section
variable {P : Program} {w : World} {K : PySem.W.Frag} {mg : Str → Option Value} {base : Heap} {f : Addr} {fd : FuncData} {C Cr : Addr}
def prR (Cr : Addr) (ds : List D) (d : D) : Prop := ∃ named ls, ds = [.tup ((pplOf named ls).map (rkD Cr)), rowD named, .lst (ls.map pairD)] ∧ OkNames named ∧ named.length ≤ 3 ∧ OkLs named ls ∧ OkAll named ls ∧ fitB named ls = true ∧ d = .bl true
abbrev nPr : List Str := ["_law_told", "_law_named", "_law_pairs_here", "_law_one", "_law_rows_here", "_law_row", "_law_needs", "_law_pair"]
theorem sc_pr : FnScope nPr ["_law_told", "_law_named", "_law_pairs_here"] (defScope (top 94)) := C8.fnScope_by (by decide +kernel)
theorem ok_pr (F : FnP K "_law_people_right" "_law_people_right" (top 94) f fd) (B : Bi mg) (T : RankC K mg Cr) (rw_ : PrpP P w K mg base 1 Cr "row" (rwR Cr)) (c : CalP P w K mg base 3 "_law_has" lhR) :
    FnOk P w K mg base C8.CX0 4 f fd ["_law_told", "_law_named", "_law_pairs_here"] (spD (prR Cr)) := by
  refine fnD F sc_pr (by rintro _ _ ⟨_, _, rfl, _⟩; rfl) fun cdv A outer s H E hr ds d h => ?_
  obtain ⟨named, ls, rfl, hN, hn3, ⟨hN10, hl, hO⟩, ho, hf, rfl⟩ := h
  have hu := hu64 hr
  have six := ppl_six hn3 ho
  have perm : ∀ r ∈ pplOf named ls, r.Perm named := fun r hr' => ppl_row ho hr'
  have okn : ∀ r ∈ pplOf named ls, ∀ x ∈ r, OkName x := fun r hr' x hx => hN.all x ((perm r hr').mem_iff.mp hx)
  have srtn : ∀ r ∈ pplOf named ls, srt r = named := fun r hr' => srt_asc (perm r hr') hN.asc
  have gR : gd (.lst ((pplOf named ls).map rowD)) 60 = true := gd_mono (by decide) (gd_rows okn)
  have gN : gd (rowD named) 60 = true := gd_mono (by decide) (gd_row hN.all)
  have rlen : ∀ r ∈ pplOf named ls, r.length ≤ 3 := fun r hr' => by rw [(perm r hr').length_eq]; exact hn3
  -- the people are Rankings
  refine ess_nx (es_skip (et_is (et_w (ew_or (et_not (et_val (e_isi B (v 0 (d := .tup ((pplOf named ls).map (rkD Cr)))) boot_tuple rfl kit_tt (B.free _ (by decide))))) fun _ => ew_or1 (et_not (et_val (e_all B (e_mapB (f := fun _ => true) (lc1 [("_law_one", 3)] 3 (xs := pplOf named ls) (φ := rkD Cr) (fun _ => true) _ sc_pr.nd (ei_tup (v 0)) (by omega) (fun _ _ _ _ _ => pn 3 sc_pr.nd) (blkOk_by (N := nPr) (sc := defScope (top 94)) (by decide +kernel)) fun r hr' _ _ _ _ _ => ⟨ets_nil, fun _ => e_isC B T.ins T.mgc (v 3)⟩))))))) ?e1)) ?_
  case e1 =>
    have z : ((pplOf named ls).map fun _ => true).all id = true := by simp
    rw [z] <;> rfl
  -- their rows
  refine ess_nx (st_ 4 sc_pr.nd (e_map (lc1 [("_law_one", 3)] 3 (xs := pplOf named ls) (φ := rkD Cr) (fun _ => true) rowD sc_pr.nd (ei_tup (v 0)) (by omega) (fun _ _ _ _ _ => pn 3 sc_pr.nd) (blkOk_by (N := nPr) (sc := defScope (top 94)) (by decide +kernel)) fun r hr' _ _ _ _ _ => ⟨ets_nil, fun _ => em_prop rw_ hr (by decide) (v 3 (d := rkD Cr r)) ⟨r, rfl, rfl⟩⟩))) ?_
  refine ess_nx (es_skip (et_is (et_w (ew_or (p := false) (et_is (t_eqNil rfl hr (v 4 (d := .lst ((pplOf named ls).map rowD))) gR) ?e2) fun _ => ew_or1 (p := false) (t_neNil (l := []) rfl hr (em_is (em_lc (lc1 [("_law_row", 5)] 5 (xs := pplOf named ls) (φ := rowD) (fun _ => false) rowD sc_pr.nd (ei_list (v 4)) (by omega) (fun _ _ _ _ _ => pn 5 sc_pr.nd) (blkOk_by (N := nPr) (sc := defScope (top 94)) (by decide +kernel)) fun r hr' _ _ _ _ _ => ⟨ets_one (et_is (t_neD (x := rowD named) (y := rowD named) (q := true) hu (em_is (e_tuple B (e_sortTS B hu (by have := rlen r hr'; omega) (v 5 (d := rowD r)))) ?e3) (v 1) (gd_plain gN) (gd_plain gN) (gd_shaped gN) (gd_shaped gN) (eqv_refl gN)) rfl), fun z => nomatch z⟩)) ?e4) (by rfl)))) rfl)) ?_
  case e2 =>
    have := ppl_ne hf
    cases h : pplOf named ls with
    | nil => exact absurd h this
    | cons r l => rfl
  case e3 =>
    rw [srtn r hr'] <;> rfl
  case e4 => simp
  -- how many they are
  refine ess_nx (st_ 6 sc_pr.nd (e_sum B (e_lcI (f := fun l : Lk => (l.2.count 43 : Nat)) (lc1 [("_law_pair", 7)] 7 (xs := ls) (φ := pairD) (fun _ => true) _ sc_pr.nd (ei_list (v 2)) (by omega) (fun _ _ _ _ _ => pn 7 sc_pr.nd) (blkOk_by (N := nPr) (sc := defScope (top 94)) (by decide +kernel)) fun l hl' _ _ _ _ _ => ⟨ets_nil, fun _ => em_is (e_count (s := SX.S l.2) (e_ixT (j := 1) (l := [.tup (l.1.map D.str), .str (SX.S l.2)]) rfl (v 7) em_int) em_str) (congrArg D.int count_sign)⟩)))) ?_
  refine ess_nx (es_skip (et_is (et_w (ew_or (p := false) (et_is (t_neD (x := .lst ((pplOf named ls).map rowD)) (y := .lst ((pplOf named ls).map rowD)) (q := true) hu (v 4) (em_is (e_setSort B rfl hu six ppl_nd ?ne (v 4)) ?e5) (gd_plain gR) (gd_plain gR) (gd_shaped gR) (gd_shaped gR) (eqv_refl gR)) rfl) fun _ => ew_or1 (et_is (t_gt (e_lenL B (v 4 (d := .lst ((pplOf named ls).map rowD)))) (e_max B (v 6) em_int)) ?e6))) rfl)) ?_
  case ne =>
    intro r hr' z
    have h1 := (perm r hr').length_eq
    rw [z] at h1
    have h2 := List.length_pos_iff.mpr hN.ne
    simp only [List.length_nil] at h1
    omega
  case e5 => rw [ppl_srt]
  case e6 =>
    have hs : ∀ l : List Lk, ((l.filter fun _ => true).map fun l : Lk => ((l.2.count 43 : Nat) : Int)).sum = ((l.map fun l : Lk => l.2.count 43).sum : Nat) := fun l => by
      rw [filter_yes]
      induction l with
      | nil => rfl
      | cons a l ih => rw [List.map_cons, List.map_cons, List.sum_cons, List.sum_cons, ih]; omega
    rw [hs, List.length_map]
    refine decide_eq_false fun z => ?_
    rcases ppl_few (named := named) hO with h | h
    · split at z <;> omega
    · split at z <;> omega
  -- they have all looks
  refine ess_one (es_ret (em_is (e_all B (e_mapB (f := hasB (pplOf named ls)) (lc1 [("_law_pair", 7)] 7 (xs := ls) (φ := pairD) (fun _ => true) _ sc_pr.nd (ei_list (v 2)) (by omega) (fun _ _ _ _ _ => pn 7 sc_pr.nd) (blkOk_by (N := nPr) (sc := defScope (top 94)) (by decide +kernel)) fun l hl' _ _ _ _ _ => ⟨ets_nil, fun _ => em_call c hr (by decide) rfl ⟨pplOf named ls, l, rfl, by omega, ?k1, (hO l hl').len, fun r hr' => by have := rlen r hr'; omega, fun r hr' => ?k2, rfl⟩ (a2 (v 4) (v 7))⟩))) ?e7))
  case k1 =>
    have := (hO l hl').menu.few
    omega
  case k2 =>
    obtain ⟨x, rest, hx⟩ := List.exists_cons_of_ne_nil (hO l hl').menu.ne
    have hm : x ∈ l.1 := by rw [hx]; exact List.mem_cons_self
    exact ⟨x, (perm r hr').mem_iff.mpr ((ho l hl').2 x hm), hm⟩
  case e7 =>
    refine congrArg D.bl (List.all_eq_true.mpr fun b hb => ?_)
    obtain ⟨l, hl', rfl⟩ := List.mem_map.mp hb
    exact for_has ho hf (fun r => ppl_mem) hl'
end
end Mh
set_option maxRecDepth 100000
set_option maxHeartbeats 2000000
/-! E27: Ranking.__repr__; repr of a tuple of Rankings. -/
namespace Mh
open PySem PySem.Spec PyProof.Rows L2
open Evl (Ex)
/-- what format asks of an own class -/
structure ShowC (K : PySem.W.Frag) (C : Addr) : Prop where
  fm : PySem.W.findIn K (.ref C) "__format__" = some (some (.builtin "object.__format__"))
  ob : PySem.W.mroIn K C (.type "object") = some true
theorem env0_at {P : Program} {w : World} {K : PySem.W.Frag} {mg : Str → Option Value} {base : Heap} {A A' : Around} {outer : List Env} {s : Shared} {H : Hp} (e : Env0 P w K mg base A outer s H) (h : A'.frames = A.frames) : Env0 P w K mg base A' outer s H :=
  ⟨h.trans e.frames, e.mod, e.bs, e.bsz, e.funs, e.frf, e.hok, e.bare⟩
section
variable {X : Cx} {pins : List (Addr × Obj)} {σ : L2.St} {H : Hp} {s : Shared} {k : Nat} {f a : Addr} {fd : FuncData} {R : List D → D → Prop}
/-- a special method is called with the instance alone -/
theorem spec_run (F : FnOk X.prog X.w X.K X.mg X.base C8.CX0 k f fd ["self"] (spD R)) (hb : L2.Binds X.K fd ["self"] []) {A' : Around} (hf : A'.frames = X.A.frames) (hr : Room k A') (I : Inv X pins σ H s) {S : Hp} {x d : D} (e : Ex S H) (r : Rep S x (.ref a)) (hR : R [x] d)
    {Q : VK} (q : ∀ v S' H', Gr S H S' H' → Rep S' d v → Q v H') {E' : Value → Shared → Prop} : wpAny (model X.prog X.w) A' (call (.ref f) [.ref a]) (EP X pins σ Q) E' s := by
  have b := hb s [.ref a] I.kIn rfl
  rw [List.append_nil] at b
  refine wpAny_call (codeAny_mono (F.run A' X.stack s H ⟨[.ref a], []⟩ [.ref a] [.ref a] Q (fun _ _ _ => False) hr (env0_at I.env0 hf) b (.cons rfl .nil) ⟨S, [x], d, e, repL_cons r repL_nil, hR, q⟩) fun r s' hq => ?_)
  cases r with
  | error e => exact False.elim hq
  | ok fl =>
    cases fl with
    | ret u => exact I.after hq
    | next => exact False.elim hq
    | brk => exact False.elim hq
    | cont => exact False.elim hq
end
section
variable {X : Cx} {ρ : En} {C : Addr} {ns : List Str} {l : List D} {k j : Nat} {f : Addr} {fd : FuncData} {R : List D → D → Prop} {e v1 v2 : Expr} {pos : Pos} {y a b : Str}
/-- {e}, e an instance with an own __str__ -/
theorem em_fmtO (m : Meth X.K C "__str__" f) (F : FnOk X.prog X.w X.K X.mg X.base C8.CX0 k f fd ["self"] (spD R)) (hb : L2.Binds X.K fd ["self"] []) (T : ShowC X.K C) (hr : Room j X.A) (hk : k + 1 ≤ j) (he : Em X e ρ (.obj C ns l)) (hR : R [.obj C ns l] (.str y)) : Em X (.FormattedValue e (-1) none pos) ρ (.str y) :=
  ⟨fun pins s σ H Q I ⟨S, ex, rE, kk⟩ => by
    refine wpAny_FormattedValue_plain (thn (he.run pins s σ H (fun v H1 => ∃ S1, Gr S H S1 H1 ∧ Rep S1 (.obj C ns l) v) I ⟨S, ex, rE, fun v S1 H1 g r => ⟨S1, g, r⟩⟩) fun u s1 ⟨x, H1, I1, r1, S1, g1, rp⟩ => ?_)
    have rp0 := rp
    obtain ⟨p, dx, vs, rfl, h1, h2⟩ := rp.obj
    obtain rfl : u = Value.ref p := r1
    obtain ⟨mA, O, _⟩ := ins_get I1.hok (g1.sh _ _ h1)
    obtain ⟨od, J, _⟩ := O.look
    have hu := hr.un
    have hr1 : Room k X.A.in1 := (hr.mono hk).in1
    refine PySem.W.kfo_fieldS (by show X.A.units + 1 < cLine; omega) I1.kIn J T.fm T.ob m.at_ m.fn (wpAny_mono (spec_run F hb (A' := X.A.in1) rfl hr1 (I1.tok (s1.toks + 1)) g1.sh rp0 hR (Q := fun v H2 => ∃ S2, Gr S1 H1 S2 H2 ∧ v = .str y) (fun v S2 H2 g2 r2 => ⟨S2, g2, r2.str⟩)) (fun v s2 hv => ?_) fun _ _ z => z)
    obtain ⟨w, H2, I2, r2, S2, g2, e2⟩ := hv
    subst e2
    obtain ⟨t, e3⟩ := r2
    subst e3
    exact ⟨.str y, H2, I2, ⟨t, rfl⟩, kk _ S2 H2 (g1.trans g2) rep_str⟩⟩
theorem em_joined2 (h1 : Em X v1 ρ (.str a)) (h2 : Em X v2 ρ (.str b)) (hz : a.length + b.length ≤ 100000) : Em X (.JoinedStr [v1, v2] pos) ρ (.str (Str.empty ++ a ++ b)) :=
  pe_mono (pe_joined (PJ.cons h1 (PJ.cons h2 PJ.nil))) fun σ H Q ⟨S, e, rE, k⟩ => ⟨S, e, rE, fun u S1 H1 g1 r1 => ⟨a, r1.str, Evl.sz_of (by rw [strLen_append]; show 0 + a.length ≤ 100000; omega), S1, g1.sh, rE.mono g1.ss, fun u2 S2 H2 g2 r2 => ⟨b, r2.str, Evl.sz_of (by rw [strLen_append, strLen_append]; show 0 + a.length + b.length ≤ 100000; omega), k _ S2 H2 (g1.trans g2) rep_str⟩⟩⟩
end
def rkWord : Str := "Ranking "
def rpText (row : Row) : Str := Str.empty ++ rkWord ++ Txt.join " " row
theorem join_len (s : Str) : ∀ l : List Str, (Str.join s l).length ≤ (l.map (·.length)).sum + l.length * s.length
  | [] => Nat.zero_le _
  | [x] => by
    show x.length ≤ (x.length + 0) + 1 * s.length
    omega
  | x :: y :: l => by
    have ih := join_len s (y :: l)
    show (x ++ s ++ Str.join s (y :: l)).length ≤ (x.length + ((y :: l).map (·.length)).sum) + ((y :: l).length + 1) * s.length
    rw [strLen_append, strLen_append, Nat.add_mul]
    omega
theorem join_row {row : Row} (h : OkRow row) : (Txt.join " " row).length ≤ 90 := by
  have e : Txt.join " " row = Str.join " " row := StrLaws.glued_eq_join _ _
  have h1 := join_len " " row
  have h2 := sum_len h.all
  have h3 := h.few
  have h4 : (Str.ofString " ").length = 1 := by decide +kernel
  rw [e]
  rw [h4] at h1
  omega
theorem rp_len {row : Row} (h : OkRow row) : (rpText row).length ≤ 100 := by
  have h1 := join_row h
  have h2 : rkWord.length = 8 := by decide +kernel
  unfold rpText
  rw [strLen_append, strLen_append]
  show 0 + rkWord.length + _ ≤ 100
  omega
section
variable {P : Program} {w : World} {K : PySem.W.Frag} {mg : Str → Option Value} {base : Heap} {f fS : Addr} {fd fdS : FuncData} {C : Addr}
def rpR (C : Addr) (ds : List D) (d : D) : Prop := ∃ row : Row, ds = [rkD C row] ∧ OkRow row ∧ d = .str (rpText row)
theorem sc_rp : FnScope nRw ["self"] (defScope (mth 54 17)) := C8.fnScope_by (by decide +kernel)
theorem ok_rp (F : FnP K "__repr__" "Ranking.__repr__" (mth 54 17) f fd) (m : Meth K C "__str__" fS) (FS : FnOk P w K mg base C8.CX0 1 fS fdS ["self"] (spD (srR C))) (hb : L2.Binds K fdS ["self"] []) (T : ShowC K C) : FnOk P w K mg base C8.CX0 3 f fd ["self"] (spD (rpR C)) := by
  refine fnD F sc_rp (by rintro _ _ ⟨l, rfl, _⟩; rfl) fun cdv A outer s H E hr ds d h => ?_
  obtain ⟨row, rfl, hO, rfl⟩ := h
  have h1 := join_row hO
  refine ess_one (es_ret (em_joined2 em_str (em_fmtO (k := 1) m FS hb T hr (by decide) (v 0 (d := rkD C row)) ⟨row, rfl, hO, rfl⟩) ?z))
  case z =>
    have h2 : rkWord.length = 8 := by decide +kernel
    show rkWord.length + _ ≤ 100000
    omega
end
/-! repr of a tuple of them, where the guards are none -/
section
variable {prog : Program} {w : World} {A : Around} {E : Value → Shared → Prop} {s : Shared}
/-- the repr of an instance with an own __repr__ -/
theorem under_own {M : Model} {K : PySem.W.Frag} {x C f : Addr} {ox : Obj} {od : Option Obj} {n : Nat} {Q : Str → Shared → Prop} (hn : n ≤ sizeLine) (hu : A.units < cLine) (KX : K.In s.heap) (J : PySem.W.InstAt s.heap x ox C od) (m : Meth K C "__repr__" f)
    (h : wpAny M A (call (.ref f) [.ref x]) (fun v s' => ∃ y t, v = .str y t ∧ Q y s') E s) : wpAny M A (pyReprUnder n (.ref x)) Q E s := by
  refine wpAny_pyReprUnder_ref hn ?_
  unfold pyReprObjUnder pyReprObjBy
  refine wpAny_bind (wpAny_cRoomFor hu ?_)
  refine wpAny_bind (wpAny_bind (J.type.here ((PySem.W.looks_findIn KX m.at_).here ?_)))
  have e1 : (some (Value.ref f)).isNone = false := rfl
  simp only [e1, Bool.false_eq_true, if_false]
  refine wpAny_bind ?_
  simp only [callSpecialIfBoundBy?, bindSpecialIfBound?]
  refine wpAny_holding (wpAny_bind (wpAny_bind (wpAny_bind (J.type.here ((PySem.W.looks_findIn KX m.at_).here ?_)))))
  refine wpAny_bind (wpAny_askSetting (wpAny_ite ?_))
  have fin : wpAny M A (call (.ref f) ([.ref x] ++ [])) (fun v s' => ∃ y t, v = .str y t ∧ Q y s') E s := h
  split
  · refine wpAny_bind ((PySem.W.bind_fn KX _ (beq_iff_eq.mp m.fn)).here (wpAny_pure ?_))
    show wpAny M A (call (.ref f) ([.ref x] ++ []) >>= fun v => pure (some v)) _ E s
    refine wpAny_bind (wpAny_mono fin (fun v s' hv => ?_) fun _ _ z => z)
    obtain ⟨y, t, rfl, q⟩ := hv
    refine wpAny_pure ?_
    exact wpAny_bind (wpAny_isInstance (T := "str") (b := true) rfl isSubtype_str_str (wpAny_pure ⟨y, t, rfl, q⟩))
  · refine wpAny_tryCatch (wpAny_bind ((PySem.W.bind_fn KX _ (beq_iff_eq.mp m.fn)).here (wpAny_pure ?_)))
    show wpAny M A (call (.ref f) ([.ref x] ++ []) >>= fun v => pure (some v)) _ E s
    refine wpAny_bind (wpAny_mono fin (fun v s' hv => ?_) fun _ _ z => z)
    obtain ⟨y, t, rfl, q⟩ := hv
    refine wpAny_pure ?_
    exact wpAny_bind (wpAny_isInstance (T := "str") (b := true) rfl isSubtype_str_str (wpAny_pure ⟨y, t, rfl, q⟩))
/-- repr of a tuple whose items' texts are told by a walk -/
theorem tuple_repr_by {a : Addr} {o : Obj} {items : Array Value} {n : Nat} {Q : Value → Shared → Prop} (hT : s.TypeIs (.ref a) "tuple") (hg : A.guards = some []) (ho : s.heap.get? a = some o) (hd : o.data = .seq items n)
    (h : wpAny (model prog w) (A.under (.builtin "tuple.__repr__" ⟨[.ref a], []⟩)) (forIn items.toList (⟨#[], 0⟩ : Array Str × Nat) tupBody) (fun r s' => ∃ ts : List Str, r.1 = ts.toArray ∧ ts.length = items.size ∧ (tupleText ts).length ≤ sizeLine ∧ ∀ u tk, Q (.str (tupleText ts) u) { s' with toks := tk }) E s) :
    wpAny (model prog w) A (call (.builtin "tuple.__repr__") [.ref a]) Q E s := by
  refine wpAny_call (codeAny_call_builtin_own (Code.quiet_builtin _ (by decide +kernel)) F.entry_tuple_repr (F.slot_tuple_repr.check _ _ _ _ _ _ _ _ hT (F.args_tuple_repr_1 _) ?_))
  show wpOwn _ _ _ (Builtin.tupleReprAt 0 ⟨[.ref a], []⟩) _ _ _
  rw [tuple_repr_tree, tupleReprUnderWay_eq]
  refine wpOwn_bind (wpOwn_stackTailAny hg (tupGuardF_off _) (tupGuardF_pos _) ?_)
  refine wpOwn_of_wpAny ?_
  show wpAny _ _ (tupleReprRest 0 (.ref a)) _ _ s
  unfold tupleReprRest Builtin.Tuple.tupleItemsOf
  refine wpAny_bind (wpAny_bind (wpAny_seqItems ho hd (wpAny_pure ?_)))
  rw [← Array.forIn_toList]
  refine wpAny_bind (wpAny_mono h (fun r s' hr => ?_) fun _ _ z => z)
  obtain ⟨ts, e, hl, hz, q⟩ := hr
  have tx : Str.ofString "(" ++ Str.join ", " r.1.toList ++ (Str.ofString (if items.size == 1 then ",)" else ")")) = tupleText ts := by
    rw [e, ← hl]
    rfl
  refine wpAny_bind (wpAny_mkStr (wpAny_pure ?_) ?_)
  · have q1 := q s'.toks (s'.toks + 1)
    rw [← tx] at q1
    exact q1
  · rw [← tx] at hz
    exact hz
end
section
variable {X : Cx} {pins : List (Addr × Obj)} {σ : L2.St} {k : Nat} {f C : Addr} {fd : FuncData}
/-- the texts of Rankings, one after another -/
theorem fold_ranks (m : Meth X.K C "__repr__" f) (F : FnOk X.prog X.w X.K X.mg X.base C8.CX0 k f fd ["self"] (spD (rpR C))) (hb : L2.Binds X.K fd ["self"] []) {A' : Around} (hfr : A'.frames = X.A.frames) (hr : Room k A') {Q : (Array Str × Nat) → Shared → Prop} {E' : Value → Shared → Prop} :
    ∀ (rows : List Row) (us : List Value) (vs : List V) (acc : Array Str) (n : Nat) (s : Shared) (S H : Hp), (∀ r ∈ rows, OkRow r) → n + rows.length * 102 ≤ 100000 → Vals vs us → Inv X pins σ H s → Ex S H → RepL S (rows.map (rkD C)) vs →
      (∀ n' s' S' H', Inv X pins σ H' s' → Gr S H S' H' → Q ⟨acc ++ (rows.map rpText).toArray, n'⟩ s') → wpAny (model X.prog X.w) A' (forIn us (⟨acc, n⟩ : Array Str × Nat) tupBody) Q E' s
  | [], _, _, acc, n, s, S, H, _, _, rv, I, e, r, q => by
    rw [r.nil] at rv
    cases rv
    rw [List.forIn_nil]
    have q1 := q n s S H I (Gr.refl e)
    simp only [List.map_nil, List.append_toArray, Array.append_empty] at q1
    exact wpAny_pure q1
  | row :: rows, us, vs, acc, n, s, S, H, ho, hn, rv, I, e, r, q => by
    obtain ⟨v, vs', rfl, r1, r2⟩ := RepL.cons r
    cases rv with
    | cons rx rr =>
      have r0 := r1
      obtain ⟨p, dx, ws, rfl, h1, h2⟩ := r1.obj
      obtain rfl : _ = Value.ref p := rx
      obtain ⟨mA, O, _⟩ := ins_get I.hok (e _ _ h1)
      obtain ⟨od, J, _⟩ := O.look
      have hu := hr.un
      have hrow := ho row List.mem_cons_self
      have hlen := rp_len hrow
      rw [List.length_cons] at hn
      rw [List.forIn_cons]
      refine wpAny_bind (wpAny_bind (under_own (n := n + 1) (by rw [sizeLine_eq]; omega) (by omega) I.kIn J m (wpAny_mono (spec_run F hb hfr hr I e r0 ⟨row, rfl, hrow, rfl⟩ (Q := fun v H2 => ∃ S2, Gr S H S2 H2 ∧ v = .str (rpText row)) (fun v S2 H2 g2 r2 => ⟨S2, g2, r2.str⟩)) (fun v s2 hv => ?_) fun _ _ z => z)))
      obtain ⟨w, H2, I2, rw2, S2, g2, e2⟩ := hv
      subst e2
      obtain ⟨t, e3⟩ := rw2
      subst e3
      refine ⟨rpText row, t, rfl, wpAny_pure ?_⟩
      refine fold_ranks m F hb hfr hr rows _ vs' (acc.push (rpText row)) (n + ((rpText row).length + 2)) s2 S2 H2 (fun r hr' => ho r (List.mem_cons_of_mem _ hr')) (by omega) rr I2 g2.sh (r2.mono g2.ss) fun n' s' S' H' I' g' => ?_
      have q1 := q n' s' S' H' I' (g2.trans g')
      simpa using q1
theorem tupleText_len {ts : List Str} {b : Nat} (h : ∀ t ∈ ts, t.length ≤ b) : (tupleText ts).length ≤ 3 + ts.length * (b + 2) := by
  have hp : piled ts ≤ ts.length * (b + 2) := by
    unfold piled
    induction ts with
    | nil => simp
    | cons t ts ih =>
      have h1 := h t List.mem_cons_self
      have h2 := ih fun x hx => h x (List.mem_cons_of_mem _ hx)
      rw [List.map_cons, List.sum_cons, List.length_cons, Nat.add_mul]
      omega
  unfold tupleText
  rw [strLen_append, strLen_append]
  have e1 : ((("(" : String) : Str)).length = 1 := rfl
  have e3 : (((if ts.length == 1 then ",)" else ")" : String) : Str)).length ≤ 2 := by split <;> decide
  rw [e1]
  by_cases c : ts = []
  · subst c
    have : (Str.join ", " []).length = 0 := rfl
    omega
  · have := join_length_add ts c
    omega
def rReprRk (C : Addr) : List V → Hp → VK → Prop := fun xs H Q => ∃ (S : Hp) (rows : List Row), Ex S H ∧ RepL S [.tup (rows.map (rkD C))] xs ∧ (∀ r ∈ rows, OkRow r) ∧ rows.length ≤ 6 ∧ ∀ S' H', Gr S H S' H' → Q (.str (tupleText (rows.map rpText))) H'
theorem under_frames (A : Around) (args : Args) : (A.under (.builtin "tuple.__repr__" args)).frames = A.frames := by
  first | rfl | simp [Around.under, Code.envs, Code.isFrame, pushEnvs]
theorem under_room {j : Nat} {A : Around} (args : Args) (h : Room (j + 1) A) : Room j (A.under (.builtin "tuple.__repr__" args)) := by
  have h1 := h.dp
  have h2 := h.un
  have e1 : (A.under (.builtin "tuple.__repr__" args)).depth = A.depth + 1 := by
    have hw : (Code.builtin "tuple.__repr__" args).weight = 1 := by
      have hg := isGuard_tuple_repr args
      unfold Code.weight
      rw [hg]
      rfl
    show A.depth + (Code.builtin "tuple.__repr__" args).weight = _
    rw [hw]
  have e2 := units_under_tuple_repr A args
  exact ⟨h.hd, by omega, by omega⟩
theorem call_reprRk (m : Meth X.K C "__repr__" f) (F : FnOk X.prog X.w X.K X.mg X.base C8.CX0 k f fd ["self"] (spD (rpR C))) (hb : L2.Binds X.K fd ["self"] []) (hgd : X.A.guards = some []) (hr : Room (k + 2) X.A) : CallR X (.builtin "repr") (rReprRk C) := by
  intro pins s σ H xs us Q I r h
  obtain ⟨S, rows, e, rp, ho, h6, q⟩ := h
  obtain ⟨v, rfl, r1⟩ := one_rep rp
  obtain ⟨p, vs, rfl, h1, h2⟩ := r1.tup
  rw [Vals.ref1 r]
  obtain ⟨its, rv, ⟨o, ho1, hc, n, hd⟩, _⟩ := I.tuple (SqT.of (e _ _ h1))
  have hu := hr.un
  have isz : its.toArray.size = rows.length := by rw [List.size_toArray, ← rv.length, ← h2.length, List.length_map]
  have hlt : (tupleText (rows.map rpText)).length ≤ sizeLine := by
    have h3 := tupleText_len (ts := rows.map rpText) (b := 100) fun t ht => by
      obtain ⟨r, hr', rfl⟩ := List.mem_map.mp ht
      exact rp_len (ho r hr')
    rw [List.length_map] at h3
    rw [sizeLine_eq]
    omega
  refine call_repr_slot (by omega) ⟨o, ho1, hc⟩ PySem.F.slot_tuple_repr (tuple_repr_by (A := X.A.in1) ⟨o, ho1, hc⟩ hgd ho1 hd ?_)
  have hrr : Room k ((X.A.in1).under (.builtin "tuple.__repr__" ⟨[.ref p], []⟩)) := under_room _ (Room.in1 hr)
  rw [show its.toArray.toList = its from by simp]
  refine fold_ranks m F hb (A' := (X.A.in1).under (.builtin "tuple.__repr__" ⟨[.ref p], []⟩)) (under_frames X.A.in1 _) hrr rows its vs #[] 0 s S H ho (by omega) rv I e h2 fun n' s' S' H' I' g' => ?_
  refine ⟨rows.map rpText, by simp, by rw [List.length_map, isz], hlt, fun u tk => ?_⟩
  exact ⟨_, _, rfl, .str _, H', I'.tok tk, ⟨u, rfl⟩, q S' H' g'⟩
end
section
variable {X : Cx} {ρ : En} {e : Expr} {pos p : Pos} {k : Nat} {f C : Addr} {fd : FuncData} {rows : List Row}
theorem e_reprRk (B : Bi X.mg) (m : Meth X.K C "__repr__" f) (F : FnOk X.prog X.w X.K X.mg X.base C8.CX0 k f fd ["self"] (spD (rpR C))) (hb : L2.Binds X.K fd ["self"] []) (hgd : X.A.guards = some []) (hr : Room (k + 2) X.A) (ho : ∀ r ∈ rows, OkRow r) (h6 : rows.length ≤ 6)
    (h : Em X e ρ (.tup (rows.map (rkD C)))) (hg : L2.Gl X "repr" := by rfl) (hs : starEach [e] X.env = (false, eval e X.env) :: starEach [] X.env := by rfl) : Em X (.Call (.Name "repr" p) [e] [] pos) ρ (.str (tupleText (rows.map rpText))) :=
  em_callB (call_reprRk m F hb hgd hr) (fun S H us Q e r k => ⟨S, rows, e, r, ho, h6, fun S' H' g => k _ S' H' g rep_str⟩) hg (B.free _ (by decide)) boot_repr (a1 h hs) (he := hs)
end
end Mh
set_option maxRecDepth 100000
set_option maxHeartbeats 4000000
/-! E28: _law_right. -/
namespace Mh
open PySem PySem.Spec PyProof.Rows L2
open Evl (Ex)
section
variable {X : Cx} {T : List (Addr × Str)} {u : Addr} {S0 H0 : Hp} {n m k j : Nat} {ρ ρ1 : En} {st : Stmt} {rest : List Stmt} {c e a b : Expr} {pos p pos2 : Pos} {body : List Stmt}
theorem m_pure (h1 : Es X st ρ (.nx ρ1)) (h2 : PSs X rest (tM T u S0 H0 n ρ1 ⟨m, none⟩)) : PSs X (st :: rest) (tM T u S0 H0 n ρ ⟨m, none⟩) :=
  m_cons (Φ1 := fun r q => r = ρ1 ∧ q = m) (ws_pure h1 ⟨ρ1, m, rfl, rfl, rfl⟩) fun r q ⟨h, h'⟩ => by
    subst h h'
    exact h2
/-- x, y = a, b for two plain local names -/
theorem es_par {i i2 : Nat} {x y : Str} {d1 d2 : D} {px py pt : Pos} {kt k2 pt2} (hN : X.N.Nodup) (ha : Ea X [a, b] ρ [d1, d2]) (hi : X.N[i]? = some x) (hj : X.N[i2]? = some y) (hij : i ≠ i2) (hc : X.calm = true) (hx : X.env.scope.names.lookup x = some .local) (hy : X.env.scope.names.lookup y = some .local)
    (hw : swappedStores [.Tuple [.Name x px, .Name y py] kt pt] (.Tuple [a, b] k2 pt2) X.env = pure (some [x, y])) (hs : swapsWithSole [.Tuple [.Name x px, .Name y py] kt pt] (.Tuple [a, b] k2 pt2) pos.line X.env = pure false := by rfl) :
    Es X (.Assign [.Tuple [.Name x px, .Name y py] kt pt] (.Tuple [a, b] k2 pt2) pos) ρ (.nx ((ρ.set i (some d1)).set i2 (some d2))) :=
  ps_mono (ps_par hc hN hi hj hij hx hy ha hw hs) fun Dn σ H ⟨S, e, rE, k⟩ => ⟨S, e, rE, fun vs S1 H1 g1 r1 => by
    obtain ⟨v, w, rfl, r2, r3⟩ := two_rep r1
    exact ⟨v, w, rfl, k _ S1 H1 g1 (((rE.mono g1.ss).set r2).set r3)⟩⟩
/-- an if that is gone into and returns -/
theorem m_if1 (hc : Et X c ρ true) (h : PSs X body (tM T u S0 H0 n ρ ⟨m, none⟩)) : PSs X (.If c body [] pos :: rest) (tM T u S0 H0 n ρ ⟨m, none⟩) :=
  pss_mono (pss_cons (ps_if hc h pss_never) pss_never) fun Dn σ H ⟨S, e, rE, w, ht, K⟩ => ⟨S, e, rE, fun S1 H1 g =>
    ⟨S1, g.sh, rE.mono g.ss, w.gr g, ht.ext g.hh, fun v H' hx => K v H' ((HX.ofEx g.hh).trans hx)⟩⟩
theorem m_ret (h : Em X e ρ (.bl true)) (hn : n ≤ m) : PSs X [.Return (some e) pos] (tM T u S0 H0 n ρ ⟨m, none⟩) :=
  pss_one (ps_mono (ps_ret h) fun Dn σ H ⟨S, e, rE, w, ht, K⟩ => ⟨S, e, rE, fun v S1 H1 g r => K v H1 (HX.ofEx g.hh) (((w.gr g).urn.le hn).2) (ht.ext g.hh) r.bl⟩)
/-- a call that answers True, the urn drawn from, tables grown -/
def tR (T : List (Addr × Str)) (u : Addr) (n : Nat) (ρ : En) : TE := fun σ H Q => ∃ S, Ex S H ∧ RepE S ρ σ ∧ UrnS u (n + 9) S H ∧ LamX.Tabs T H ∧ ∀ H', HX (fun a => a = u) H H' → UrnH u n H' → LamX.Tabs T H' → Q (.bl true) H'
/-- two of them, joined by and, returned -/
theorem m_rr (hp : pureE ρ = true) (ha : PE X a (tR T u (n + 9) ρ)) (hb : PE X b (tR T u n ρ)) : PSs X [.Return (some (.BoolOp .And [a, b] pos2)) pos] (tM T u S0 H0 n ρ ⟨n + 18, none⟩) :=
  pss_one (ps_mono (ps_ret (pe_and ha (pe_one hb))) fun Dn σ H ⟨S, e, rE, w, ht, K⟩ => ⟨S, e, rE, w.urn, ht, fun H1 hx hu1 ht1 => ⟨true, rfl, by
    show tR T u n ρ σ H1 Dn.rt
    refine ⟨noT S, fun a o h => ?_, rE.noT hp, hu1.s (noT_none w.urn.1), ht1, fun H2 hx2 hu2 ht2 => K (.bl true) H2 (hx.trans hx2) hu2 ht2 rfl⟩
    obtain ⟨h1, h2⟩ := noT_at h
    exact hx a o (fun z => by rw [z, w.urn.1] at h1; cases h1) h2 (e a o h1)⟩⟩)
end
section
variable {X : Cx} {u Cs C Pt : Addr} {n k j kk : Nat} {ρ : En} {e1 e2 e3 e4 : Expr} {p pos : Pos} {named : List Str} {ls : List Lk}
theorem e_rr (c : C8.Cal X.prog X.w X.K X.mg X.base kk "_law_refused_right" (rrS Cs C Pt) []) (hr : Room j X.A) (hk : kk ≤ j) (hN : OkNames named) (hn3 : named.length ≤ 3) (hB : Bad named ls k) (ha : Ea X [e1, e2, e3, e4] ρ [.val (.ref u), lsD Cs C named ls, rowD named, dueD k]) (hg : L2.Gl X "_law_refused_right" := by rfl)
    (he : starEach [e1, e2, e3, e4] X.env = (false, eval e1 X.env) :: starEach [e2, e3, e4] X.env := by rfl) (hpl : (backTo pos (starEach [e2, e3, e4] X.env)).any (·.1) = false := by rfl) : PE X (.Call (.Name "_law_refused_right" p) [e1, e2, e3, e4] [] pos) (tR (rrT Pt) u n ρ) :=
  pe_mono (C8.pe_c c hr hk hg ha (by decide) he hpl) fun σ H Q ⟨S, e, rE, hu, ht, K⟩ => ⟨S, e, rE, fun vs S1 H1 g1 r1 => by
    obtain ⟨v0, us, rfl, r2, r3⟩ := r1.cons
    rw [r2.val, List.append_nil]
    exact ⟨S1, named, ls, u, us, n, k, rfl, g1.sh, r3, hu.gr g1, hN, hn3, hB, ht.ext g1.hh, fun v H' hx hu' ht' hv => by
      subst hv
      exact K H' ((HX.ofEx g1.hh).trans hx) hu' ht'⟩⟩
end
theorem row_pure : ∀ l : List Str, pureDs (l.map D.str) = true
  | [] => rfl
  | a :: l => by
    show pureDs (D.str a :: l.map D.str) = true
    unfold pureDs
    rw [row_pure l] <;> rfl
theorem rowD_pure (l : List Str) : pureD (rowD l) = true := row_pure l
theorem lks_pure {C : Addr} : ∀ ls : List Lk, pureDs (ls.map (lkD C)) = true
  | [] => rfl
  | a :: l => by
    show pureDs (lkD C a :: l.map (lkD C)) = true
    unfold pureDs
    rw [lks_pure l]
    have h1 : pureD (lkD C a) = pureDs [.tup (a.1.map D.str), .str (SX.S a.2)] := rfl
    have h2 : pureD (.tup (a.1.map D.str)) = true := row_pure a.1
    rw [h1]
    unfold pureDs
    rw [h2] <;> rfl
theorem lsD_pure {Cs C : Addr} {named : List Str} {ls : List Lk} : pureD (lsD Cs C named ls) = true := by
  have h1 : pureD (lsD Cs C named ls) = pureDs [.tup (named.map D.str), .tup (ls.map (lkD C))] := rfl
  have h2 : pureD (.tup (named.map D.str)) = true := row_pure named
  have h3 : pureD (.tup (ls.map (lkD C))) = true := lks_pure ls
  rw [h1]
  unfold pureDs
  rw [h2]
  unfold pureDs
  rw [h3] <;> rfl
theorem pairs_pure : ∀ ls : List Lk, pureDs (ls.map pairD) = true
  | [] => rfl
  | a :: l => by
    show pureDs (pairD a :: l.map pairD) = true
    unfold pureDs
    rw [pairs_pure l]
    have h1 : pureD (pairD a) = pureDs [.tup (a.1.map D.str), .str (SX.S a.2)] := rfl
    have h2 : pureD (.tup (a.1.map D.str)) = true := row_pure a.1
    rw [h1]
    unfold pureDs
    rw [h2] <;> rfl
/-! the plain law, as _law_right asks it -/
section
variable {named : List Str} {ls : List Lk}
theorem bad_reach (hN : named.length ≤ 10) (hl : ls.length ≤ 12) (ho : OkAll named ls) (h : reachOf named ls < ls.length) : Bad named ls (reachOf named ls) := by
  refine ⟨⟨hN, hl, fun l hl' => (ho l hl').1⟩, ?_, h, ?_, fun i hi => ?_⟩
  · rw [fit_all ho]
    exact decide_eq_false (by omega)
  · rw [fit_take ho h]
    exact decide_eq_false (by omega)
  · rw [fit_take ho (by omega)]
    exact decide_eq_true hi
end
section
variable {P : Program} {w : World} {K : PySem.W.Frag} {mg : Str → Option Value} {base : Heap} {f fR : Addr} {fd fdR : FuncData} {C Cs Cr Cl Pt : Addr}
abbrev nRt : List Str := ["_law_urn_here", "_law_named", "_law_pairs_here", "_law_best_here", "_law_seen", "_law_k", "_law_due"]
theorem sc_rt : FnScope nRt ["_law_urn_here"] (defScope (top 96)) := C8.fnScope_by (by decide +kernel)
def rtS (Pt : Addr) : Sp := fun vs H Q _ => ∃ S u n, vs = [.ref u] ∧ Ex S H ∧ UrnS u (n + 216) S H ∧ LamX.Tabs (rrT Pt) H ∧ ∀ v H', HX (fun a => a = u) H H' → UrnH u n H' → LamX.Tabs (rrT Pt) H' → v = .bl true → Q v H'
abbrev eRt (u : Addr) (a b c d e f : Option D) : En := [some (.val (.ref u)), a, b, c, d, e, f]
theorem ok_rt (F : FnP K "_law_right" "_law_right" (top 96) f fd) (B : Bi mg) (cd : Dr P w K mg base) (cn : CalW P w K mg base 3 "_law_names" 36 nsP nsR) (cp : CalW P w K mg base 4 "_law_pairs" 160 prsP prsR) (cr : CalP P w K mg base 4 "_law_reach" lreR) (cm : CalP P w K mg base 6 "_law_made" (lmR Cs C))
    (cf : Prp P w K mg base 6 Cs "fit" (spD (ftR Cs C))) (rr : C8.Cal P w K mg base 15 "_law_refused_right" (rrS Cs C Pt) []) (pe : MetX P w K mg base 12 Cs "people" (spX Cl (ppO Cs C Cr) (ckX Cs C))) (pr : CalP P w K mg base 4 "_law_people_right" (prR Cr))
    (mR : Meth K Cr "__repr__" fR) (FR : FnOk P w K mg base C8.CX0 3 fR fdR ["self"] (spD (rpR Cr))) (bR : L2.Binds K fdR ["self"] []) : FnGd P w K mg base 17 f fd ["_law_urn_here"] (rtS Pt) := by
  refine fnGd_of F sc_rt (fun vs H Q E ⟨S, u, n, h, _⟩ => by rw [h] <;> rfl) fun cdv A outer s H vs Q E hg hr h => ?_
  obtain ⟨S, u, n, rfl, e, hu, ht, q⟩ := h
  refine ⟨_, PSs.nox (X := cxOf C8.CX0 P w K mg base nRt "_law_right" (defScope (top 96)) f cdv A outer s H E) (m_cons (S0 := S) (H0 := H) (m := n + 216) (n := n) (T := rrT Pt) (ρ := eRt u none none none none none none) (Φ1 := fun ρ1 k1 => ∃ named : List Str, OkNames named ∧ named.length ≤ 3 ∧ k1 = n + 179 ∧ ρ1 = eRt u (some (rowD named)) none none none none none) ?s1 ?r1), S, e, repE_start (N := nRt) (ds := [.val (.ref u)]) (vs := [.ref u]) (repL_cons rep_val repL_nil), ⟨⟨Ex.refl S, e, fun a o _ h => h, fun a o _ h _ _ => h⟩, hu, trivial⟩, ht, q⟩
  case s1 =>
    refine ws_set 1 sc_rt.nd (w_call2 cn hr (by decide) rfl (v 0) (w_ixL (l := [.int 3, .int 3, .int 3, .int 2, .int 1]) (em_lst (ea_cons em_int (a4 em_int em_int em_int em_int)) (by decide)) (w_draw cd hr (by decide) 5 (by decide) (by decide) (by show 1 ≤ n + 216; omega) (v 0) em_int fun q hq => ?_)))
    have fin : ∀ m : Nat, 1 ≤ m → m ≤ 3 → (nsP [.int (m : Int)] ∧ 36 ≤ n + 215 ∧ ∀ d, nsR [.int (m : Int)] d → ∃ ρ1 k1, UO.nx ((eRt u none none none none none none).set 1 (some d)) ⟨n + 215 - 36, none⟩ = .nx ρ1 ⟨k1, none⟩ ∧ ∃ named : List Str, OkNames named ∧ named.length ≤ 3 ∧ k1 = n + 179 ∧ ρ1 = eRt u (some (rowD named)) none none none none none) := fun m h1 h2 =>
      ⟨⟨m, rfl, h1, h2⟩, by omega, fun d ⟨l, h3, h4, h5⟩ => ⟨_, _, rfl, l, h4, h5, by omega, by rw [h3] <;> rfl⟩⟩
    match q, hq with
    | 0, _ => exact ⟨0, _, rfl, rfl, fin 3 (by decide) (by decide)⟩
    | 1, _ => exact ⟨1, _, rfl, rfl, fin 3 (by decide) (by decide)⟩
    | 2, _ => exact ⟨2, _, rfl, rfl, fin 3 (by decide) (by decide)⟩
    | 3, _ => exact ⟨3, _, rfl, rfl, fin 2 (by decide) (by decide)⟩
    | 4, _ => exact ⟨4, _, rfl, rfl, fin 1 (by decide) (by decide)⟩
  case r1 =>
    rintro ρ1 k1 ⟨named, hN, hn3, rfl, rfl⟩
    refine m_cons (Φ1 := fun ρ1 k1 => ∃ ls : List Lk, ls.length ≤ 12 ∧ (∀ l ∈ ls, OkLook l ∧ l.1.Sublist named) ∧ k1 = n + 18 ∧ ρ1 = eRt u (some (rowD named)) (some (.lst (ls.map pairD))) none none none none) (ws_set 2 sc_rt.nd (w_call cp hr (by decide) rfl (wa_cons (P1 := fun d j => d = .val (.ref u) ∧ j = ⟨n + 179, none⟩) (P2 := fun _ _ ds j => ∃ many : Nat, many ≤ 12 ∧ ds = [rowD named, .int (many : Int)] ∧ j = ⟨n + 178, none⟩) (w_pure (v 0) ⟨rfl, rfl⟩) (fun x j ⟨h1, h2⟩ => ?ar) (fun x j ds k ⟨h1, h2⟩ ⟨many, h3, h4, h5⟩ => ?fin)))) ?r2
    case ar =>
      subst h1 h2
      refine wa2 (P1 := fun d j => d = rowD named ∧ j = ⟨n + 179, none⟩) (P2 := fun _ _ y j => ∃ many : Nat, many ≤ 12 ∧ y = .int (many : Int) ∧ j = ⟨n + 178, none⟩) (w_pure (v 1) ⟨rfl, rfl⟩) (fun x j ⟨h1, h2⟩ => ?dr) fun x j y k ⟨h1, h2⟩ ⟨many, h3, h4, h5⟩ => ⟨many, h3, by rw [h1, h4], h5⟩
      subst h1 h2
      refine w_ixL (l := [.int 0, .int 1, .int 2, .int 3, .int 4, .int 6, .int 9, .int 12]) (em_lst (ea_cons em_int (ea_cons em_int (ea_cons em_int (ea_cons em_int (a4 em_int em_int em_int em_int))))) (by decide)) (w_draw cd hr (by decide) 8 (by decide) (by decide) (by show 1 ≤ n + 179; omega) (v 0) em_int fun q hq => ?_)
      match q, hq with
      | 0, _ => exact ⟨0, _, rfl, rfl, 0, by omega, rfl, rfl⟩
      | 1, _ => exact ⟨1, _, rfl, rfl, 1, by omega, rfl, rfl⟩
      | 2, _ => exact ⟨2, _, rfl, rfl, 2, by omega, rfl, rfl⟩
      | 3, _ => exact ⟨3, _, rfl, rfl, 3, by omega, rfl, rfl⟩
      | 4, _ => exact ⟨4, _, rfl, rfl, 4, by omega, rfl, rfl⟩
      | 5, _ => exact ⟨5, _, rfl, rfl, 6, by omega, rfl, rfl⟩
      | 6, _ => exact ⟨6, _, rfl, rfl, 9, by omega, rfl, rfl⟩
      | 7, _ => exact ⟨7, _, rfl, rfl, 12, by omega, rfl, rfl⟩
    case fin =>
      subst h1 h4 h5
      refine ⟨_, rfl, ⟨named, many, rfl, hN, hn3, h3⟩, by show 160 ≤ n + 178; omega, fun d ⟨nm, a, ls, e1, e2, e3, e4⟩ => ⟨_, _, rfl, ls, e3, ?_, by show n + 178 - 160 = n + 18; omega, by rw [e2] <;> rfl⟩⟩
      have e : named = nm := rowD_inj (List.cons.inj e1).1
      subst e
      exact e4
    case r2 =>
      rintro ρ1 k1 ⟨ls, hl, hls, rfl, rfl⟩
      have ho : OkAll named ls := fun l hl' => ⟨(hls l hl').1, fun x hx => (hls l hl').2.subset hx⟩
      have hO : ∀ l ∈ ls, OkLook l := fun l hl' => (ho l hl').1
      have hlre : lreR [rowD named, .lst (ls.map pairD)] (.int (reachOf named ls : Nat)) := ⟨named, ls, rfl, hn3, by omega, fun l hl' => ⟨(hO l hl').menu.ne, by have := (hO l hl').menu.few; omega, (hO l hl').len, (ho l hl').2⟩, rfl⟩
      have hmade : ∀ ms : List Lk, ms.length ≤ 12 → (∀ l ∈ ms, l ∈ ls) → lmR Cs C [rowD named, .lst (ms.map pairD)] (lsD Cs C named ms) := fun ms h1 h2 => ⟨named, ms, rfl, hN, h1, fun l hl' => ho l (h2 l hl'), rfl⟩
      have hfit : ∀ ms : List Lk, ms.length ≤ 12 → (∀ l ∈ ms, l ∈ ls) → ftR Cs C [lsD Cs C named ms] (.bl (fitB named ms)) := fun ms h1 h2 => ⟨named, ms, rfl, by omega, h1, fun l hl' => hO l (h2 l hl'), rfl⟩
      have hrl := reach_le (named := named) (ls := ls)
      have hu : (A.deeper (envOfC "_law_right" (defScope (top 96)) s.heap.objs.size f cdv)).units + 64 < cLine := hu64 hr
      refine m_pure (es_par (i := 3) (i2 := 4) sc_rt.nd (a2 (em_call cr hr (by decide) rfl hlre (a2 (v 1) (v 2))) (em_call cm hr (by decide) rfl (hmade ls hl fun _ h => h) (a2 (v 1) (v 2)))) rfl rfl (by decide) rfl rfl rfl (by rfl)) ?_
      -- the first 0, 1, .. of them
      refine m_pure (es_for (b := .one 5) (ds := (List.range (ls.length + 1)).map fun i => D.int (i : Nat)) (fun _ => eRt u (some (rowD named)) (some (.lst (ls.map pairD))) (some (.int (reachOf named ls : Nat))) (some (lsD Cs C named ls)) none none) PassesOwn.never rfl (ei_range rfl (B.free _ (by decide)) (by omega) (a1 (em_is (e_add (e_lenL B (v 2 (d := .lst (ls.map pairD)))) em_int) ?el))) (pn 5 sc_rt.nd) (Le.refl _) fun i d hd => ?turn) ?_
      case el => rw [List.length_map] <;> rfl
      case turn =>
        have hi : i < ls.length + 1 := by
          have := (List.getElem?_eq_some_iff.mp hd).1
          simpa using this
        have ed : d = .int (i : Nat) := by
          rw [List.getElem?_map, List.getElem?_range hi] at hd
          exact (Option.some.inj hd).symm
        subst ed
        have ht12 : (ls.take i).length ≤ 12 := by rw [List.length_take]; omega
        have hts : ∀ l ∈ ls.take i, l ∈ ls := fun l h => List.mem_of_mem_take h
        refine ⟨_, rfl, ess_to (ess_one (es_skip (et_is (t_neS (e_reprB B (em_prop cf hr (by decide) (em_call cm hr (by decide) rfl (hmade (ls.take i) ht12 hts) (a2 (v 1) (em_is (em_sl sl_list (sl_toL (l := ls.map pairD) (k := i)) (v 2) eo_none (eo_some (v 5))) ?et))) (hfit (ls.take i) ht12 hts))) (e_reprB B (c_le (v 5) (v 3)))) ?eb))) (Le.cons (Le.cons (Le.cons (Le.cons (Le.cons (Le.drop (Le.refl _)))))))⟩
        case et => rw [List.map_take]
        case eb =>
          have e1 : fitB named (ls.take i) = decide (((i : Nat) : Int) ≤ ((reachOf named ls : Nat) : Int)) := by
            rw [fit_take ho (by omega)]
            by_cases c : i ≤ reachOf named ls
            · rw [decide_eq_true c, decide_eq_true (by omega)]
            · rw [decide_eq_false c, decide_eq_false (by omega)]
          rw [e1, decide_eq_true rfl] <;> rfl
      -- all of them, and turned about
      refine m_pure (es_skip (et_is (t_neS (e_reprBB B (a := fitB named ls) (b := fitB named ls.reverse) hg hu (em_lst (a2 (em_prop cf hr (by decide) (v 4 (d := lsD Cs C named ls)) (hfit ls hl fun _ h => h)) (em_prop cf hr (by decide) (em_call cm hr (by decide) rfl (hmade ls.reverse (by rw [List.length_reverse]; exact hl) fun l h => List.mem_reverse.mp h) (a2 (v 1) (em_is (em_rev (l := ls.map pairD) (v 2)) ?er))) (hfit ls.reverse (by rw [List.length_reverse]; exact hl) fun l h => List.mem_reverse.mp h))) (by show 2 ≤ 100000; decide))) (e_reprBB B (a := decide (((reachOf named ls : Nat) : Int) = ((ls.map pairD).length : Int))) (b := decide (((reachOf named ls : Nat) : Int) = ((ls.map pairD).length : Int))) hg hu (em_is (e_rep (l := [.bl (decide (((reachOf named ls : Nat) : Int) = ((ls.map pairD).length : Int)))]) (n := 2) (em_lst (a1 (c_eqI (v 3) (e_lenL B (v 2)))) (by show 1 ≤ 100000; decide)) em_int (by show 1 * 2 ≤ 100000; decide) (by decide)) rfl))) ?e2)) ?_
      case er => rw [List.map_reverse]
      case e2 =>
        have e1 : fitB named ls = decide (((reachOf named ls : Nat) : Int) = ((ls.map pairD).length : Int)) := by
          rw [fit_all ho, List.length_map]
          by_cases c : reachOf named ls = ls.length
          · rw [decide_eq_true c, decide_eq_true (by omega)]
          · rw [decide_eq_false c, decide_eq_false (by omega)]
        rw [fit_rev ho, ← e1, decide_eq_true rfl] <;> rfl
      have ht : ∀ b : Bool, decide (reachOf named ls < ls.length) = b → decide (((reachOf named ls : Nat) : Int) < ((ls.map pairD).length : Int)) = b := fun b h => by
        rw [← h, List.length_map]
        by_cases c : reachOf named ls < ls.length
        · rw [decide_eq_true c, decide_eq_true (by omega)]
        · rw [decide_eq_false c, decide_eq_false (by omega)]
      by_cases hlt : reachOf named ls < ls.length
      · have hB := bad_reach (named := named) (ls := ls) (by omega) hl ho hlt
        refine m_if1 (et_is (t_lt (v 3) (e_lenL B (v 2))) (ht true (decide_eq_true hlt))) (m_pure (st_ 6 sc_rt.nd (em_tup (a2 em_str (e_reprI B (by show ((reachOf named ls : Nat) : Int).natAbs < 1000; omega) (v 3))) (by show 2 ≤ 100000; decide))) ?_)
        refine m_rr ?hp (e_rr rr hr (by decide) hN hn3 hB (a4 (v 0) (v 4) (v 1) (v 6))) (e_rr rr hr (by decide) hN hn3 hB (a4 (v 0) (v 4) (v 1) (v 6)))
        case hp =>
          unfold pureE
          rw [List.all_eq_true]
          intro y hy
          simp only [List.set_cons_succ, List.set_cons_zero, List.mem_cons, List.not_mem_nil, or_false] at hy
          rcases hy with rfl | rfl | rfl | rfl | rfl | rfl | rfl
          · rfl
          · exact rowD_pure _
          · exact pairs_pure _
          · rfl
          · exact lsD_pure
          · rfl
          · rfl
      · have hf : fitB named ls = true := by
          rw [fit_all ho]
          exact decide_eq_true (by omega)
        refine m_pure (es_skip (et_is (t_lt (v 3) (e_lenL B (v 2))) (ht false (decide_eq_false hlt)))) ?_
        have hpp : ppO Cs C Cr [lsD Cs C named ls] (.tup ((pplOf named ls).map (rkD Cr))) := ⟨named, ls, rfl, hN, hn3, ⟨by omega, hl, hO⟩, ho, hf, rfl⟩
        have hrep : ∀ r ∈ pplOf named ls, OkRow r := fun r hr' => perm_row hN (ppl_row ho hr')
        refine m_ret (em_is (em_and (p := true) (q := true) (em_call pr hr (by decide) rfl ⟨named, ls, rfl, hN, hn3, ⟨by omega, hl, hO⟩, ho, hf, rfl⟩ (ea_cons (em_mtX0 pe LamX.takes0 hr (by decide) (v 4 (d := lsD Cs C named ls)) rfl hpp) (a2 (v 1) (v 2)))) fun _ => em_one (em_is (c_eqS (e_reprRk B mR FR bR hg (hr.mono (by decide)) hrep (ppl_six hn3 ho) (em_mtX0 pe LamX.takes0 hr (by decide) (v 4 (d := lsD Cs C named ls)) rfl hpp)) (e_reprRk B mR FR bR hg (hr.mono (by decide)) hrep (ppl_six hn3 ho) (em_mtX0 pe LamX.takes0 hr (by decide) (v 4 (d := lsD Cs C named ls)) rfl hpp))) (congrArg D.bl (decide_eq_true rfl)))) rfl) (by omega)
end
end Mh
set_option maxRecDepth 100000
set_option maxHeartbeats 4000000
/-! E29: law. -/
namespace Mh
open PySem PySem.Spec PyProof.Rows L2
open Evl (Ex)
/-- a turn of law: the cells and the index in, True out; only tables change -/
def teLw (T : List (Addr × Str)) (ρ : En) : TE := fun σ H Q => ∃ S, Ex S H ∧ RepE S ρ σ ∧ LamX.Tabs T H ∧ ∀ H', LamX.ExtN H H' → LamX.Tabs T H' → Q (.bl true) H'
section
variable {X : Cx} {ρ : En} {e1 e2 : Expr} {p p2 p3 pos : Pos} {ns : List Int} {i j : Nat} {fr Pt : Addr} {fdr : FuncData}
theorem e_turn (F : FnGd X.prog X.w X.K X.mg X.base 17 fr fdr ["_law_urn_here"] (rtS Pt)) (cu : C8.Cal X.prog X.w X.K X.mg X.base 1 "_law_urn" (spU X.K) []) (hr : Room j X.A) (hk : 17 ≤ j) (hgd : X.A.guards = some []) (hm : X.mg "_law_right" = some (.ref fr)) (hkp : PySem.W.keepIn X.K (.ref fr) = true) (hb : L2.Binds X.K fdr ["_law_urn_here"] [])
    (hc : Em X e1 ρ (.scr X.K ns)) (hi : Em X e2 ρ (.int (i : Int))) (h1000 : i ≤ 1000) (hg : L2.Gl X "_law_right" := by rfl) (hg2 : L2.Gl X "_law_urn" := by rfl)
    (hs : starEach [.Call (.Name "_law_urn" p2) [e1, e2] [] p3] X.env = (false, eval (.Call (.Name "_law_urn" p2) [e1, e2] [] p3) X.env) :: starEach [] X.env := by rfl) (hs1 : starEach [e1, e2] X.env = (false, eval e1 X.env) :: starEach [e2] X.env := by rfl) (hs2 : starEach [e2] X.env = (false, eval e2 X.env) :: starEach [] X.env := by rfl) (hpl : (backTo p3 (starEach [e2] X.env)).any (·.1) = false := by rfl) :
    PE X (.Call (.Name "_law_right" p) [.Call (.Name "_law_urn" p2) [e1, e2] [] p3] [] pos) (teLw (rrT Pt) ρ) :=
  pe_mono (pe_callGd F (hr.mono hk) hgd hg hm hkp hb (pa_cons (C8.pe_c cu hr (by omega) hg2 (a2 hc hi hs1 hs2) (by decide) hs1 hpl) pa_nil hs) (by decide) hs) fun σ H Q ⟨S, e, rE, ht, K⟩ => ⟨S, e, rE, fun vs S1 H1 g1 r1 => ⟨S1, ns, i, g1.sh, by rw [List.append_nil]; exact r1, h1000, fun u S2 H2 g2 hu hU => by
    have g12 := g1.hh.trans g2.hh
    refine ⟨S2, u, 1000000000000 - 216, rfl, g2.sh, hU.le (by omega), ht.ext g12, fun v H3 hx hu3 ht3 hv => ?_⟩
    subst hv
    exact K H3 (fun a o h hn => hx a o (fun z => by
      have h1 := g1.hh a o h
      rw [z, hu] at h1
      cases h1) hn (g12 a o h)) ht3⟩⟩
end
theorem sqL_extN {K : PySem.W.Frag} {H H' : Hp} {a : Addr} {xs : List V} (x : LamX.ExtN H H') (h : SqL K H a xs) : SqL K H' a xs := by
  rcases h with h | h
  · rcases h with h | ⟨o, h⟩
    · exact .inl (.inl (x a _ h fun ps z => nomatch z))
    · exact .inl (.inr ⟨o, x a _ h fun ps z => nomatch z⟩)
  · exact .inr h
section
variable {P : Program} {w : World} {K : PySem.W.Frag} {mg : Str → Option Value} {base : Heap} {f fr Pt : Addr} {fd fdr : FuncData}
abbrev nLw2 : List Str := ["_law_cells", "_law_k"]
theorem sc_lw2 : FnScope nLw2 ["_law_cells"] (defScope (top 97)) := C8.fnScope_by (by decide +kernel)
def lwS (K : PySem.W.Frag) (Pt : Addr) : Sp := fun vs H Q _ => ∃ (a : Addr) (ns : List Int), vs = [.ref a] ∧ SqL K H a (ns.map V.int) ∧ LamX.Tabs (rrT Pt) H ∧ ∀ H', Q (.bl true) H'
theorem ok_lw2 (F : FnP K "law" "law" (top 97) f fd) (B : Bi mg) (FR : FnGd P w K mg base 17 fr fdr ["_law_urn_here"] (rtS Pt)) (hm : mg "_law_right" = some (.ref fr)) (hkp : PySem.W.keepIn K (.ref fr) = true) (hb : L2.Binds K fdr ["_law_urn_here"] []) (cu : C8.Cal P w K mg base 1 "_law_urn" (spU K) []) :
    FnGd P w K mg base 18 f fd ["_law_cells"] (lwS K Pt) := by
  refine fnGd_of F sc_lw2 (fun vs H Q E ⟨a, ns, h, _⟩ => by rw [h] <;> rfl) fun cdv A outer s H vs Q E hg hr h => ?_
  obtain ⟨a, ns, rfl, hs, ht, q⟩ := h
  have hgd : (A.deeper (envOfC "law" (defScope (top 97)) s.heap.objs.size f cdv)).guards = some [] := hg
  let X := (cxOf C8.CX0 P w K mg base nLw2 "law" (defScope (top 97)) f cdv A outer s H E).nox
  let ρ : En := [some (.scr K ns), none]
  let ρi : Nat → En := fun i => [some (.scr K ns), some (.int (i : Int))]
  have hseq : RepE H ρ (L2.start nLw2 [.ref a]) := repE_start (N := nLw2) (ds := [.scr K ns]) (vs := [.ref a]) (repL_cons (rep_scr hs) repL_nil)
  refine ⟨_, PSs.nox (X := cxOf C8.CX0 P w K mg base nLw2 "law" (defScope (top 97)) f cdv A outer s H E) (pss_one (ps_ret (pe_callB (cr_all rfl) rfl (B.free _ (by decide)) PyProof.Rows.boot_all (pa_cons (pe_lc (own := [("_law_k", 1)]) (g := gName 1) (tt := tYes) (te := fun σ H Q => ∃ i : Nat, i ≤ 1000 ∧ teLw (rrT Pt) (ρi i) σ H Q) rfl sc_lw2.nd (pi_range1 rfl (B.free _ (by decide)) (a1 (e_max B em_int (e_min B (e_lenC B (v (X := X) (ρ := ρ) 0)) em_int))))
    (blkOk_by (N := nLw2) (sc := defScope (top 97)) (by decide +kernel)) (fun _ _ _ _ _ => pn 1 sc_lw2.nd) (fun _ _ _ _ _ => pts_nil) (fun _ _ _ _ _ => pe_some fun i hi => e_turn (i := i) FR cu hr (by decide) hgd hm hkp hb (v 0) (v 1) hi)) pa_nil)))), ?_⟩
  refine ⟨H, Ex.refl H, hseq, fun vs S1 H1 g1 r1 => ?_⟩
  obtain ⟨u, rfl, r2⟩ := one_rep r1
  rw [r2.int]
  generalize hM : (if (if (4 : Int) < ((ns.length : Nat) : Int) then (4 : Int) else ((ns.length : Nat) : Int)) > 2 then (if (4 : Int) < ((ns.length : Nat) : Int) then (4 : Int) else ((ns.length : Nat) : Int)) else (2 : Int)) = M
  have hM1 : 0 ≤ M ∧ M ≤ 4 := by
    rw [← hM]
    constructor <;> (split <;> (try split) <;> omega)
  refine ⟨M, rfl, by omega, by omega, fun D hD => ?_⟩
  have x0 : Ex H1 (upd H1 D (.lst [])) := Ex.new hD
  have aD : a ≠ D ∨ ∀ H, SqL K H a (ns.map V.int) := by
    rcases hs with h | h
    · refine .inl fun z => ?_
      rcases h with h | ⟨o, h⟩
      · rw [← z, g1.hh _ _ h] at hD
        cases hD
      · rw [← z, g1.hh _ _ h] at hD
        cases hD
    · exact .inr fun H => .inr h
  refine ⟨fun i m H' => m = M.toNat - i ∧ i ≤ M.toNat ∧ SqL K H' a (ns.map V.int) ∧ LamX.Tabs (rrT Pt) H' ∧ H' D = some (.lst (List.replicate i (.bl true))), ⟨M.toNat, rfl, Nat.zero_le _, Evl.ex_l (g1.hh.trans x0) hs, ht.ext (g1.hh.trans x0), upd_same⟩, ?_⟩
  rintro i m H' ⟨rfl, hi, hs', ht', hD'⟩
  by_cases hlt : i < M.toNat
  · refine .inr ⟨walk_range.goes i H' hlt trivial, fun H'' => i + 1 ≤ M.toNat ∧ SqL K H'' a (ns.map V.int) ∧ LamX.Tabs (rrT Pt) H'' ∧ H'' D = some (.lst (List.replicate (i + 1) (.bl true))), fun H'' hw => ⟨M.toNat - (i + 1), by omega, rfl, hw⟩, fun x H2 y => ?_⟩
    obtain ⟨rfl, rfl⟩ := walk_range.yields i _ _ _ hlt trivial y
    refine ⟨rfl, ?_⟩
    show ∃ k : Nat, k ≤ 1000 ∧ teLw (rrT Pt) (ρi k) _ H2 _
    refine ⟨i, by omega, H2, Ex.refl H2, ?_, ht', fun H3 hx ht3 => ?_⟩
    · have e0 : (0 : Int) + ((i : Nat) : Int) = ((i : Nat) : Int) := Int.zero_add _
      show RepE H2 (ρi i) (L2.start nLw2 [.ref a, .int ((0 : Int) + ((i : Nat) : Int))])
      rw [e0]
      exact repE_start (N := nLw2) (ds := [.scr K ns, .int (i : Int)]) (vs := [.ref a, .int (i : Int)]) (repL_cons (rep_scr hs') (repL_cons rep_int repL_nil))
    · have hD3 := hx D _ hD' fun ps z => nomatch z
      have hs3 := sqL_extN hx hs'
      refine ⟨_, hD3, Evl.sz_lt (by rw [List.length_replicate]; omega), hlt, ?_, Tabs.upd ht3 hD3, ?_⟩
      · rcases aD with ne | hk
        · rcases hs3 with h | h
          · rcases h with h | ⟨o, h⟩
            · exact .inl (.inl (by rw [upd_ne ne]; exact h))
            · exact .inl (.inr ⟨o, by rw [upd_ne ne]; exact h⟩)
          · exact .inr h
        · exact hk _
      · rw [upd_same, List.replicate_succ']
  · have e1 : i = M.toNat := by omega
    refine .inl ⟨by rw [e1]; exact walk_range.stops H' trivial, ?_⟩
    refine ⟨D, List.replicate i true, rfl, SqL.of (by rw [List.map_replicate]; exact hD'), ?_⟩
    have ha : (List.replicate i true).all id = true := by simp
    rw [ha]
    exact q H'
end
end Mh
set_option maxRecDepth 100000
set_option maxHeartbeats 2000000
/-! E30: the end: law is called by the caller, whose guards are none; one table of code objects may grow. -/
namespace Mh
open PySem PySem.Spec PyProof.Rows L2
abbrev scrO (vs : List Value) : Obj := { cls := .type "list", data := .seq vs.toArray }
abbrev tabO : Obj := { cls := .none, data := .fields #[] }
/-- what is told of the heap at the call: the table is empty; the script, if it is none of the top's objects -/
def lawHp (K : PySem.W.Frag) (Pt a : Addr) (vs : List Value) (ns : List Int) : Hp := fun b => if b = Pt then some (.tbl #[]) else if b = a ∧ K.lookup a = none then some (.frz (scrO vs) (.lst (ns.map V.int))) else none
section
variable {K : PySem.W.Frag} {Pt a b : Addr} {vs : List Value} {ns : List Int} {h : Heap} {o : Obj} {P : Program} {w : World}
theorem lawHp_tab : lawHp K Pt a vs ns Pt = some (.tbl #[]) := if_pos rfl
theorem lawHp_cases {u : HO} (e : lawHp K Pt a vs ns b = some u) : (b = Pt ∧ u = .tbl #[]) ∨ (b = a ∧ K.lookup a = none ∧ u = .frz (scrO vs) (.lst (ns.map V.int))) := by
  unfold lawHp at e
  by_cases c1 : b = Pt
  · rw [if_pos c1] at e
    exact .inl ⟨c1, (Option.some.inj e).symm⟩
  · rw [if_neg c1] at e
    by_cases c2 : b = a ∧ K.lookup a = none
    · rw [if_pos c2] at e
      exact .inr ⟨c2.1, c2.2, (Option.some.inj e).symm⟩
    · rw [if_neg c2] at e
      cases e
/-- an object that is neither is not told of -/
theorem lawHp_off (hT : h.get? Pt = some tabO) (ha : h.get? a = some (scrO vs)) (e : h.get? b = some o) (n1 : o ≠ tabO) (n2 : o ≠ scrO vs) : lawHp K Pt a vs ns b = none := by
  cases q : lawHp K Pt a vs ns b with
  | none => rfl
  | some u =>
    rcases lawHp_cases q with ⟨z, _⟩ | ⟨z, _, _⟩
    · rw [z, hT] at e
      exact absurd (Option.some.inj e).symm n1
    · rw [z, ha] at e
      exact absurd (Option.some.inj e).symm n2
theorem lawHp_ok (hT : h.get? Pt = some tabO) (ha : h.get? a = some (scrO vs)) (hi : IntsAre vs ns) (hl : ns.length ≤ sizeLine) : HOk P w (lawHp K Pt a vs ns) h := fun b u e => by
  rcases lawHp_cases e with ⟨z, z2⟩ | ⟨z, _, z2⟩
  · subst z2
    rw [z]
    exact hT
  · subst z2
    rw [z]
    exact ⟨ha, by rw [List.length_map]; exact hl, vs, _, vals_ints hi, ha⟩
theorem lawHp_seq (KX : K.In h) (hT : h.get? Pt = some tabO) (ha : h.get? a = some (scrO vs)) (hi : IntsAre vs ns) (hl : ns.length ≤ sizeLine) : SqL K (lawHp K Pt a vs ns) a (ns.map V.int) := by
  cases hk : K.lookup a with
  | some o =>
    have e := KX a o hk
    rw [ha] at e
    cases e
    have lv := hi.length
    exact .inr ⟨_, vs.toArray, _, hk, rfl, rfl, rfl, by rw [List.size_toArray, lv]; exact hl, by simpa using vals_ints hi⟩
  | none =>
    refine .inl (.inr ⟨scrO vs, ?_⟩)
    unfold lawHp
    rw [if_neg (fun z => by rw [z, hT] at ha; cases ha), if_pos ⟨rfl, hk⟩]
end
/-- law's def, called by the caller -/
theorem law_end {P : Program} {w : World} {K : PySem.W.Frag} {mg mb : Str → Option Value} {fa a c Pt : Addr} {fd : FuncData} {x : Str} {s₁ : Shared} {vs : List Value} {ns : List Int}
    (KX : K.In s₁.heap) (G : s₁.heap.Ns mainGlobals mg) (Bn : s₁.heap.Ns builtinsNs mb) (Bb : ∀ x : Str, x ≠ "__name__" → mb x = bootBuiltins x) (NL : s₁.heap.NoLimit) (g0 : s₁.gens = #[])
    (hT : s₁.heap.get? Pt = some tabO) (nT : K.lookup Pt = none) (hcd : PySem.W.codeHdIn K c Pt = true)
    (bm : ∃ (bm : Addr) (ob : Obj), mg "__builtins__" = some (.ref bm) ∧ bm ≠ builtinsNs ∧ s₁.heap.get? bm = some ob ∧ ob.cls = .type "module" ∧ ob.dict = some builtinsNs ∧ ob.data = .plain)
    (ha : s₁.heap.get? a = some (scrO vs)) (hi : IntsAre vs ns) (hl : ns.length ≤ sizeLine) (F : ∀ base : Heap, K.In base → base.Ns mainGlobals mg → LamX.TabB base mg c Pt → FnGd P w K mg base 18 fa fd [x] (lwS K Pt)) (hb : ∀ (s : Shared) (u : Value), BindsTo s fd ⟨[u], []⟩ [(x, u)]) (hr : Room 18 callerA) :
    codeAny (model P w) callerA (.call (.ref fa) ⟨[.ref a], []⟩) (fun r s' => r = .ok (.ret (.bool true)) ∧ OldK s₁.heap s'.heap ∧ s'.os = s₁.os ∧ AllBare s'.gens) s₁ := by
  -- the heap without what is told of it: the base
  have stay : ∀ {b : Addr} {o : Obj}, s₁.heap.get? b = some o → o ≠ tabO → o ≠ scrO vs → (hidT s₁.heap (lawHp K Pt a vs ns)).get? b = some o := fun e n1 n2 => hidT_get e (lawHp_off hT ha e n1 n2)
  have dict : ∀ {o : Obj} {es : Array DictEntry} {ep : Nat}, o.data = .dict es ep → o ≠ tabO ∧ o ≠ scrO vs := fun {o es ep} d => ⟨fun z => (by rw [z] at d; cases d), fun z => (by rw [z] at d; cases d)⟩
  have ns_ : ∀ {b : Addr} {m : Str → Option Value}, s₁.heap.Ns b m → (hidT s₁.heap (lawHp K Pt a vs ns)).Ns b m := fun {b m} ⟨o, es, ep, e, d, r⟩ => ⟨o, es, ep, stay e (dict d).1 (dict d).2, d, r⟩
  have KB : K.In (hidT s₁.heap (lawHp K Pt a vs ns)) := fun b o e => by
    refine hidT_get (KX b o e) ?_
    cases q : lawHp K Pt a vs ns b with
    | none => rfl
    | some u =>
      rcases lawHp_cases q with ⟨z, _⟩ | ⟨z, z2, _⟩
      · rw [z, nT] at e
        cases e
      · rw [z, z2] at e
        cases e
  have M : L2.Mod K mg (hidT s₁.heap (lawHp K Pt a vs ns)) := ⟨KB, ns_ G, ⟨mb, ns_ Bn, Bb⟩, let ⟨mc, h1, h2⟩ := NL; ⟨mc, ns_ h1, h2⟩⟩
  have gP : mainGlobals ≠ Pt := fun z => by
    obtain ⟨o, es, ep, e, d, _⟩ := G
    rw [z, hT] at e
    cases e
    cases d
  have TB : LamX.TabB (hidT s₁.heap (lawHp K Pt a vs ns)) mg c Pt := by
    refine ⟨PySem.W.codeHd_of_K KB hcd, ?_, gP⟩
    obtain ⟨bm, ob, b1, b2, b3, b4, b5, b6⟩ := bm
    refine ⟨bm, ob, b1, b2, fun q => ?_, fun q => ?_, stay b3 (fun z => by rw [z] at b6; cases b6) (fun z => by rw [z] at b6; cases b6), b4, b5, b6⟩
    · obtain ⟨o, es, ep, e, d, _⟩ := G
      rw [q, e] at b3
      cases b3
      rw [d] at b6
      cases b6
    · rw [q, hT] at b3
      cases b3
      cases b6
  have e0 : Env0 P w K mg (hidT s₁.heap (lawHp K Pt a vs ns)) callerA [] s₁ (lawHp K Pt a vs ns) :=
    ⟨rfl, M, fun b o e => of_hidT e, Nat.le_of_eq (hidT_size _ _), trivial, fun b hb => absurd (show b ∈ ([] : List Addr) from hb) (by simp), lawHp_ok hT ha hi hl, .of_eq g0⟩
  have hT0 : LamX.Tabs (rrT Pt) (lawHp K Pt a vs ns) := fun p hp => by
    rw [List.mem_singleton.mp hp]
    exact LamX.TabS.nil lawHp_tab
  have run := (F _ KB (ns_ G) TB).run callerA [] s₁ (lawHp K Pt a vs ns) ⟨[.ref a], []⟩ [.ref a] [.ref a] (fun v _ => v = .bl true) (fun _ _ _ => False) hr rfl e0 (hb s₁ (.ref a)) (.cons rfl .nil) ⟨a, ns, rfl, lawHp_seq KX hT ha hi hl, hT0, fun _ => rfl⟩
  refine codeAny_mono run fun r s' hq => ?_
  cases r with
  | error e => exact False.elim hq
  | ok fl =>
    cases fl with
    | next => exact False.elim hq
    | brk => exact False.elim hq
    | cont => exact False.elim hq
    | ret u =>
      obtain ⟨v, H', os, bare, un, hok, rv, q⟩ := hq
      have q' : v = .bl true := q
      subst q'
      obtain rfl : u = Value.bool true := rv
      have nofs : ∀ b : Addr, b ∉ frs ([] : List Env) := fun b hb => absurd (show b ∈ ([] : List Addr) from hb) (by simp)
      have kept : ∀ b o, b ≠ Pt → s₁.heap.get? b = some o → s'.heap.get? b = some o := fun b o nb e => by
        cases z : lawHp K Pt a vs ns b with
        | none => exact un.keep b o e z (nofs b) (by simp)
        | some u =>
          rcases lawHp_cases z with ⟨z1, _⟩ | ⟨z1, _, z2⟩
          · exact absurd z1 nb
          · subst z2
            have h1 := (hok b _ (un.frzs b _ _ z)).1
            rw [z1, ha] at e
            cases e
            exact h1
      obtain ⟨more, hm⟩ := un.tbls Pt #[] lawHp_tab
      have grown : s'.heap.get? Pt = some { cls := .none, data := .fields (#[] ++ more) } := hok Pt _ hm
      refine ⟨rfl, ⟨fun b o e => ?_, fun b o e => ?_⟩, os, bare⟩
      · by_cases hb : b = Pt
        · subst hb
          rw [hT] at e
          cases e
          exact .inr (.inl ⟨((PySem.W.codeHd_of_K KX hcd).tab hT).isCodeTable, rfl, #[], more, rfl, grown⟩)
        · exact .inl (kept b o hb e)
      · by_cases hb : b = Pt
        · subst hb
          exact ⟨_, grown⟩
        · exact ⟨o, kept b o hb e⟩
/-- .. over a row of a law -/
theorem law_walk {l : PySem.W.OpenLaw} {n : Nat} {q : Program} {loose : List Str} {XP : (Str → Option Value) → Heap → Prop} {YP : World → Heap → Prop} {d : DefRec} {x : Str} (hn : l.most = some n) (hn2 : n ≤ sizeLine) (hdf : d.params.defaults = []) (hr : Room 18 callerA)
    (F : ∀ (w : World) (mg : Str → Option Value) (fa : Addr) (h : Heap), YP w h → h.Ns mainGlobals mg → mg d.name = some (.ref fa) → ∃ (K : PySem.W.Frag) (c Pt : Addr) (fd : FuncData), K.In h ∧ h.get? Pt = some tabO ∧ K.lookup Pt = none ∧ PySem.W.codeHdIn K c Pt = true ∧ (∀ (s : Shared) (u : Value), BindsTo s fd ⟨[u], []⟩ [(x, u)]) ∧
      ∀ base : Heap, K.In base → base.Ns mainGlobals mg → LamX.TabB base mg c Pt → FnGd l.prog w K mg base 18 fa fd [x] (lwS K Pt)) :
    PySem.W.WalkO q loose XP YP l.row.toRowW d [] (fun f vs => PySem.call f vs) := by
  refine Att.attach_callB hn hdf fun w s₀ s mg mb fa o pm cd doc a vs ns T Y h1 h2 h3 hmg hobj hints hlen _ hg => ?_
  obtain ⟨K, c, Pt, fd, KX, hT, nT, hcd, hb, hF⟩ := F w mg fa _ Y T.T.g hmg
  exact law_end KX T.T.g T.T.b T.T.builtins T.T.nolimit hg hT nT hcd T.T.bmain hobj hints (Nat.le_trans hlen hn2) hF hb hr
end Mh
set_option maxRecDepth 100000
set_option maxHeartbeats 2000000
/-! E32: from what is read to what each def asks. -/
namespace Mh
open PySem PySem.Spec PyProof.Rows L2
section
variable {h : Heap} {K : PySem.W.Frag} {mg : Str → Option Value}
theorem s_bi (X : K.In h) (G : h.Ns mainGlobals mg) (c : SaysG h K) : Bi mg := ⟨fun x hx => He.free_ok X G (c.d.facts (List.mem_append_left _ (List.mem_map_of_mem hx)))⟩
theorem s_glo (X : K.In h) (G : h.Ns mainGlobals mg) (c : SaysG h K) (i : Nat) (x : Str) (hm : (i, x) ∈ tops := by decide) : mg x = some (.ref (He.ga K x)) := He.glo_ok X G (c.d.facts (f := .glo x) (List.mem_append_right _ (List.mem_append_left _ (List.mem_map_of_mem (f := fun q : Nat × Str => He.Fa.glo q.2) hm))))
theorem s_cls (X : K.In h) (G : h.Ns mainGlobals mg) (c : SaysG h K) (x : Str) (hm : x ∈ clss := by decide) : mg x = some (.ref (He.ga K x)) := He.glo_ok X G (c.d.facts (f := .glo x) (List.mem_append_right _ (List.mem_append_right _ (List.mem_append_left _ (List.mem_map_of_mem (f := He.Fa.glo) hm)))))
theorem s_met (c : SaysG h K) (C m : Str) (hm : (C, m) ∈ called := by decide) : Meth K (He.ga K C) m (He.ma K (He.ga K C) m) := He.meth_ok (c.d.facts (f := .meth C m) (List.mem_append_right _ (List.mem_append_right _ (List.mem_append_right _ (List.mem_append_left _ (List.mem_map_of_mem (f := fun q : Str × Str => He.Fa.meth q.1 q.2) hm))))))
theorem s_rest (c : SaysG h K) (i : Nat) {f : He.Fa} (e : fRest[i]? = some f := by rfl) : f.ok K = true := c.d.facts (List.mem_append_right _ (List.mem_append_right _ (List.mem_append_right _ (List.mem_append_right _ (List.mem_of_getElem? e)))))
theorem s_top (c : SaysG h K) (i : Nat) (x : Str) (hm : (i, x) ∈ tops := by decide) : ∃ fd, FnP K x x (top i) (He.ga K x) fd := c.d.defs (d := dTop (i, x)) (List.mem_cons_of_mem _ (List.mem_append_left _ (List.mem_map_of_mem hm)))
theorem s_mth (c : SaysG h K) (i j : Nat) (C m q : Str) (hm : (i, j, C, m, q) ∈ meths := by decide) : ∃ fd, FnP K m q (mth i j) (He.ma K (He.ga K C) m) fd := c.d.defs (d := dMth (i, j, C, m, q)) (List.mem_cons_of_mem _ (List.mem_append_right _ (List.mem_map_of_mem hm)))
theorem s_lks (c : SaysG h K) : ∃ fd, FunD K "__init__" "Looks.__init__" (defArgs (mth 74 0)) (defBody (mth 74 0)) (defScope (mth 74 0)) [V.ref (He.dflAt ("Looks", some "__init__") 0 K)] [] (He.ma K (He.ga K "Looks") "__init__") fd := c.d.defs (d := dLooks) List.mem_cons_self
theorem s_get (c : SaysG h K) (i : Nat) {g : GetD} (hg : gets[i]? = some g := by rfl) : ∃ fd, FnP K g.fld g.qual g.st (gAt K g.cls g.fld) fd := by
  have e3 : (gets.map fun g => seeF K (gAt K g.cls g.fld))[i]? = (gets.map GetD.val)[i]? := by rw [c.see]
  rw [List.getElem?_map, List.getElem?_map, hg] at e3
  exact GetD.fn (Option.some.inj e3) (List.all_eq_true.mp c.gets g (List.mem_of_getElem? hg))
theorem more_at {l : List Bool} (h : l.all id = true) (i : Nat) {b : Bool} (e : l[i]? = some b := by rfl) : b = true := List.all_eq_true.mp h b (List.mem_of_getElem? e)
theorem s_one (c : SaysG h K) : (oneL K).all id = true := (He.ba c.more).1
theorem s_cl (c : SaysG h K) : (clL K).all id = true := (He.ba (He.ba c.more).2).1
theorem s_cn (c : SaysG h K) : (clN K).all id = true := (He.ba (He.ba (He.ba c.more).2).2).1
theorem s_il (c : SaysG h K) : (insL K (He.ga K "Look")).all id = true := (He.ba (He.ba (He.ba (He.ba c.more).2).2).2).1
theorem s_ir (c : SaysG h K) : (insL K (He.ga K "Ranking")).all id = true := (He.ba (He.ba (He.ba (He.ba (He.ba c.more).2).2).2).2).1
theorem s_pr (c : SaysG h K) (i : Nat) {g : GetD} (hg : gets[i]? = some g := by rfl) : (prL K g).all id = true := List.all_eq_true.mp (He.ba (He.ba (He.ba (He.ba (He.ba c.more).2).2).2).2).2 g (List.mem_of_getElem? hg)
theorem s_ins (c : SaysG h K) {C : Addr} (k : Cls K C) (l : (insL K C).all id = true) : C8.InsC K C := ⟨k, He.eqO_ok (more_at l 0), He.eqO_ok (more_at (s_one c) 0), of_decide_eq_true (more_at (s_one c) 1), of_decide_eq_true (more_at l 1), of_decide_eq_true (more_at l 2)⟩
theorem s_prop (c : SaysG h K) (i : Nat) {g : GetD} (hg : gets[i]? = some g := by rfl) : PropOf K (He.ga K g.cls) g.fld (He.ma K (He.ga K g.cls) g.fld) (gAt K g.cls g.fld) := by
  have l := s_pr c i hg
  refine ⟨He.eqO_ok (more_at l 0), He.eqO_ok (more_at l 1), of_decide_eq_true (more_at l 2), ?_⟩
  have l3 : (match PySem.W.recIn K (He.ma K (He.ga K g.cls) g.fld) "property" with
    | some (.ref _ :: _) => true
    | _ => false) = true := more_at l 3
  unfold gAt
  split at l3
  · rename_i a r q
    rw [q]
    exact ⟨r, rfl⟩
  · exact Bool.noConfusion l3
theorem s_look (X : K.In h) (G : h.Ns mainGlobals mg) (c : SaysG h K) : LookC K mg (He.ga K "Look") := ⟨He.cls_ok (s_rest c 4), He.noat_ok (s_rest c 7), He.noat_ok (s_rest c 8), s_ins c (He.cls_ok (s_rest c 4)) (s_il c), s_cls X G c "Look"⟩
theorem s_looks (X : K.In h) (G : h.Ns mainGlobals mg) (c : SaysG h K) : LooksC K mg (He.ga K "Looks") := ⟨He.cls_ok (s_rest c 5), He.noat_ok (s_rest c 9), He.noat_ok (s_rest c 10), s_cls X G c "Looks"⟩
theorem s_rank (X : K.In h) (G : h.Ns mainGlobals mg) (c : SaysG h K) : RankC K mg (He.ga K "Ranking") := ⟨He.cls_ok (s_rest c 6), He.noat_ok (s_rest c 11), s_ins c (He.cls_ok (s_rest c 6)) (s_ir c), s_cls X G c "Ranking"⟩
theorem s_show (c : SaysG h K) : ShowC K (He.ga K "Ranking") := ⟨He.eqO_ok (more_at (s_one c) 2), of_decide_eq_true (more_at (s_ir c) 1)⟩
theorem s_clt (X : K.In h) (G : h.Ns mainGlobals mg) (c : SaysG h K) : ClX.ClT K mg (gC K) (He.ma K (gC K) "__init__") := by
  have l := s_cl c
  obtain ⟨fd, F⟩ := s_mth c 25 0 "Clash" "__init__" "Clash.__init__"
  obtain ⟨oc, od, dV, kV, doc, pm, an, cdv, ct, osl, rfl, lk, hcd, hD, _⟩ := F.ex
  have hk : kV = .none := kwN_ok lk (more_at l 19)
  rcases hD with ⟨_, hd⟩ | ⟨z, _⟩
  · subst hk hd
    exact ⟨s_cls X G c "Clash", more_at l 0, more_at l 1, He.eqO_ok (more_at l 2), He.eqO_ok (more_at l 3), He.eqO_ok (more_at l 4), He.eqO_ok (more_at l 5), He.eqO_ok (more_at l 6), of_decide_eq_true (more_at l 7), more_at l 8, of_decide_eq_true (more_at l 9), of_decide_eq_true (more_at l 10), more_at l 11, oc, od, doc, pm, an, cdv, ct, osl, _, _, _, _, _, _, lk, hcd⟩
  · exact absurd rfl z
theorem s_xc (c : SaysG h K) : XcC K (gC K) := ⟨more_at (s_cl c) 12, He.eqO_ok (more_at (s_cl c) 13), He.eqO_ok (more_at (s_one c) 0), of_decide_eq_true (more_at (s_one c) 1), of_decide_eq_true (more_at (s_cl c) 14)⟩
theorem s_ck (X : K.In h) (G : h.Ns mainGlobals mg) (c : SaysG h K) : ClK K mg (gC K) := ⟨fun q hq => ⟨_, s_cls X G c q.1 (List.mem_append_right _ (List.mem_map_of_mem (f := Prod.fst) hq)), of_decide_eq_true (List.all_eq_true.mp (s_cn c) _ (List.mem_map_of_mem (f := fun q : Str × Bool => samB (PySem.W.kitOne K (.ref (gC K)) (.ref (He.ga K q.1))) (some q.2)) hq))⟩, of_decide_eq_true (more_at (s_cl c) 15), of_decide_eq_true (more_at (s_cl c) 16), of_decide_eq_true (more_at (s_cl c) 17)⟩
end
end Mh
set_option maxRecDepth 100000
set_option maxHeartbeats 4000000
/-! E33: every def keeps its promise. -/
namespace Mh
open PySem PySem.Spec PyProof.Rows L2
abbrev cC (K : PySem.W.Frag) : Addr := He.ga K "Look"
abbrev cS (K : PySem.W.Frag) : Addr := He.ga K "Looks"
abbrev cR (K : PySem.W.Frag) : Addr := He.ga K "Ranking"
theorem law_fn {P : Program} {w : World} {h : Heap} {K : PySem.W.Frag} {mg : Str → Option Value} (X : K.In h) (G : h.Ns mainGlobals mg) (c : SaysG h K) :
    ∃ fd : FuncData, (∀ (s : Shared) (u : Value), BindsTo s fd ⟨[u], []⟩ [(("_law_cells" : Str), u)]) ∧ ∀ base : Heap, K.In base → base.Ns mainGlobals mg → LamX.TabB base mg (He.cT K pT).1 (He.cT K pT).2 → FnGd P w K mg base 18 (He.ga K "law") fd ["_law_cells"] (lwS K (He.cT K pT).2) := by
  have B := s_bi X G c
  have Lt : Lett mg := ⟨He.str_ok X G (s_rest c 2), He.str_ok X G (s_rest c 3)⟩
  have M : Mst mg := ⟨He.int_ok X G (s_rest c 0), He.int_ok X G (s_rest c 1)⟩
  have TC := s_look X G c
  have TS_ := s_looks X G c
  have TR := s_rank X G c
  have TK := s_clt X G c
  have XC := s_xc c
  have CK := s_ck X G c
  obtain ⟨d33, F33⟩ := s_top c 33 "is_part"
  have g33 := s_glo X G c 33 "is_part"
  have b33 : L2.Binds K d33 ["one", "other"] [] := F33.bindsN fun _ _ _ _ _ _ us hl => match us, hl with | [_, _], _ => rfl
  obtain ⟨d34, F34⟩ := s_top c 34 "less"
  have g34 := s_glo X G c 34 "less"
  have b34 : L2.Binds K d34 ["things", "thing"] [] := F34.bindsN fun _ _ _ _ _ _ us hl => match us, hl with | [_, _], _ => rfl
  obtain ⟨d44, F44⟩ := s_top c 44 "is_name"
  have g44 := s_glo X G c 44 "is_name"
  have b44 : L2.Binds K d44 ["value"] [] := F44.bindsN fun _ _ _ _ _ _ us hl => match us, hl with | [_], _ => rfl
  obtain ⟨d45, F45⟩ := s_top c 45 "wrong_place"
  have g45 := s_glo X G c 45 "wrong_place"
  have b45 : L2.Binds K d45 ["value", "things"] [] := F45.bindsN fun _ _ _ _ _ _ us hl => match us, hl with | [_, _], _ => rfl
  obtain ⟨d46, F46⟩ := s_top c 46 "wrong_names"
  have g46 := s_glo X G c 46 "wrong_names"
  have b46 : L2.Binds K d46 ["value"] [] := F46.bindsN fun _ _ _ _ _ _ us hl => match us, hl with | [_], _ => rfl
  obtain ⟨d47, F47⟩ := s_top c 47 "check_menu"
  have g47 := s_glo X G c 47 "check_menu"
  have b47 : L2.Binds K d47 ["menu", "things"] [] := F47.bindsN fun _ _ _ _ _ _ us hl => match us, hl with | [_, _], _ => rfl
  obtain ⟨d48, F48⟩ := s_top c 48 "check_taken"
  have g48 := s_glo X G c 48 "check_taken"
  have b48 : L2.Binds K d48 ["taken", "menu"] [] := F48.bindsN fun _ _ _ _ _ _ us hl => match us, hl with | [_, _], _ => rfl
  obtain ⟨d49, F49⟩ := s_top c 49 "check_things"
  have g49 := s_glo X G c 49 "check_things"
  have b49 : L2.Binds K d49 ["things"] [] := F49.bindsN fun _ _ _ _ _ _ us hl => match us, hl with | [_], _ => rfl
  obtain ⟨d50, F50⟩ := s_top c 50 "is_thing"
  have g50 := s_glo X G c 50 "is_thing"
  have b50 : L2.Binds K d50 ["value", "things"] [] := F50.bindsN fun _ _ _ _ _ _ us hl => match us, hl with | [_, _], _ => rfl
  obtain ⟨d51, F51⟩ := s_top c 51 "check_thing"
  have g51 := s_glo X G c 51 "check_thing"
  have b51 : L2.Binds K d51 ["thing", "things"] [] := F51.bindsN fun _ _ _ _ _ _ us hl => match us, hl with | [_, _], _ => rfl
  obtain ⟨d53, F53⟩ := s_top c 53 "wrong_name"
  have g53 := s_glo X G c 53 "wrong_name"
  have b53 : L2.Binds K d53 ["row"] [] := F53.bindsN fun _ _ _ _ _ _ us hl => match us, hl with | [_], _ => rfl
  obtain ⟨d57, F57⟩ := s_top c 57 "bits_of"
  have g57 := s_glo X G c 57 "bits_of"
  have b57 : L2.Binds K d57 ["things", "some"] [] := F57.bindsN fun _ _ _ _ _ _ us hl => match us, hl with | [_, _], _ => rfl
  obtain ⟨d58, F58⟩ := s_top c 58 "things_of"
  have g58 := s_glo X G c 58 "things_of"
  have b58 : L2.Binds K d58 ["things", "bits"] [] := F58.bindsN fun _ _ _ _ _ _ us hl => match us, hl with | [_, _], _ => rfl
  obtain ⟨d59, F59⟩ := s_top c 59 "let_row"
  have g59 := s_glo X G c 59 "let_row"
  have b59 : L2.Binds K d59 ["things", "pairs"] [] := F59.bindsN fun _ _ _ _ _ _ us hl => match us, hl with | [_, _], _ => rfl
  obtain ⟨d60, F60⟩ := s_top c 60 "pairs_of"
  have g60 := s_glo X G c 60 "pairs_of"
  have b60 : L2.Binds K d60 ["looks"] [] := F60.bindsN fun _ _ _ _ _ _ us hl => match us, hl with | [_], _ => rfl
  obtain ⟨d61, F61⟩ := s_top c 61 "needs_of"
  have g61 := s_glo X G c 61 "needs_of"
  have b61 : L2.Binds K d61 ["looks"] [] := F61.bindsN fun _ _ _ _ _ _ us hl => match us, hl with | [_], _ => rfl
  obtain ⟨d62, F62⟩ := s_top c 62 "sharpened"
  have g62 := s_glo X G c 62 "sharpened"
  have b62 : L2.Binds K d62 ["looks", "need"] [] := F62.bindsN fun _ _ _ _ _ _ us hl => match us, hl with | [_, _], _ => rfl
  obtain ⟨d63, F63⟩ := s_top c 63 "are_fit"
  have g63 := s_glo X G c 63 "are_fit"
  have b63 : L2.Binds K d63 ["things", "looks"] [] := F63.bindsN fun _ _ _ _ _ _ us hl => match us, hl with | [_, _], _ => rfl
  obtain ⟨d69, F69⟩ := s_top c 69 "are_marks"
  have g69 := s_glo X G c 69 "are_marks"
  have b69 : L2.Binds K d69 ["value", "many"] [] := F69.bindsN fun _ _ _ _ _ _ us hl => match us, hl with | [_, _], _ => rfl
  obtain ⟨d70, F70⟩ := s_top c 70 "check_names"
  have g70 := s_glo X G c 70 "check_names"
  have b70 : L2.Binds K d70 ["menu"] [] := F70.bindsN fun _ _ _ _ _ _ us hl => match us, hl with | [_], _ => rfl
  obtain ⟨d73, F73⟩ := s_top c 73 "wrong_look"
  have g73 := s_glo X G c 73 "wrong_look"
  have b73 : L2.Binds K d73 ["looks", "things"] [] := F73.bindsN fun _ _ _ _ _ _ us hl => match us, hl with | [_, _], _ => rfl
  obtain ⟨d76, F76⟩ := s_top c 76 "_law_urn"
  have g76 := s_glo X G c 76 "_law_urn"
  have b76 : L2.Binds K d76 ["_law_cells", "_law_k"] [] := F76.bindsN fun _ _ _ _ _ _ us hl => match us, hl with | [_, _], _ => rfl
  obtain ⟨d77, F77⟩ := s_top c 77 "_law_draw"
  have g77 := s_glo X G c 77 "_law_draw"
  have b77 : L2.Binds K d77 ["_law_urn_here", "_law_many"] [] := F77.bindsN fun _ _ _ _ _ _ us hl => match us, hl with | [_, _], _ => rfl
  obtain ⟨d78, F78⟩ := s_top c 78 "_law_name"
  have g78 := s_glo X G c 78 "_law_name"
  have b78 : L2.Binds K d78 ["_law_urn_here"] [] := F78.bindsN fun _ _ _ _ _ _ us hl => match us, hl with | [_], _ => rfl
  obtain ⟨d79, F79⟩ := s_top c 79 "_law_names"
  have g79 := s_glo X G c 79 "_law_names"
  have b79 : L2.Binds K d79 ["_law_urn_here", "_law_many"] [] := F79.bindsN fun _ _ _ _ _ _ us hl => match us, hl with | [_, _], _ => rfl
  obtain ⟨d80, F80⟩ := s_top c 80 "_law_shuffled"
  have g80 := s_glo X G c 80 "_law_shuffled"
  have b80 : L2.Binds K d80 ["_law_urn_here", "_law_names_here"] [] := F80.bindsN fun _ _ _ _ _ _ us hl => match us, hl with | [_, _], _ => rfl
  obtain ⟨d81, F81⟩ := s_top c 81 "_law_menu"
  have g81 := s_glo X G c 81 "_law_menu"
  have b81 : L2.Binds K d81 ["_law_urn_here", "_law_names_here"] [] := F81.bindsN fun _ _ _ _ _ _ us hl => match us, hl with | [_, _], _ => rfl
  obtain ⟨d82, F82⟩ := s_top c 82 "_law_best"
  have g82 := s_glo X G c 82 "_law_best"
  have b82 : L2.Binds K d82 ["_law_row", "_law_menu_here"] [] := F82.bindsN fun _ _ _ _ _ _ us hl => match us, hl with | [_, _], _ => rfl
  obtain ⟨d83, F83⟩ := s_top c 83 "_law_takes"
  have g83 := s_glo X G c 83 "_law_takes"
  have b83 : L2.Binds K d83 ["_law_rows_here", "_law_menu_here"] [] := F83.bindsN fun _ _ _ _ _ _ us hl => match us, hl with | [_, _], _ => rfl
  obtain ⟨d84, F84⟩ := s_top c 84 "_law_look"
  have g84 := s_glo X G c 84 "_law_look"
  have b84 : L2.Binds K d84 ["_law_urn_here", "_law_names_here", "_law_rows_here", "_law_wild"] [] := F84.bindsN fun _ _ _ _ _ _ us hl => match us, hl with | [_, _, _, _], _ => rfl
  obtain ⟨d85, F85⟩ := s_top c 85 "_law_has"
  have g85 := s_glo X G c 85 "_law_has"
  have b85 : L2.Binds K d85 ["_law_rows_here", "_law_pair"] [] := F85.bindsN fun _ _ _ _ _ _ us hl => match us, hl with | [_, _], _ => rfl
  obtain ⟨d86, F86⟩ := s_top c 86 "_law_rows"
  have g86 := s_glo X G c 86 "_law_rows"
  have b86 : L2.Binds K d86 ["_law_names_here"] [] := F86.bindsN fun _ _ _ _ _ _ us hl => match us, hl with | [_], _ => rfl
  obtain ⟨d87, F87⟩ := s_top c 87 "_law_houses"
  have g87 := s_glo X G c 87 "_law_houses"
  have b87 : L2.Binds K d87 ["_law_names_here"] [] := F87.bindsN fun _ _ _ _ _ _ us hl => match us, hl with | [_], _ => rfl
  obtain ⟨d88, F88⟩ := s_top c 88 "_law_made"
  have g88 := s_glo X G c 88 "_law_made"
  have b88 : L2.Binds K d88 ["_law_names_here", "_law_pairs_here"] [] := F88.bindsN fun _ _ _ _ _ _ us hl => match us, hl with | [_, _], _ => rfl
  obtain ⟨d89, F89⟩ := s_top c 89 "_law_sort"
  have g89 := s_glo X G c 89 "_law_sort"
  have b89 : L2.Binds K d89 ["_law_e"] [] := F89.bindsN fun _ _ _ _ _ _ us hl => match us, hl with | [_], _ => rfl
  obtain ⟨d90, F90⟩ := s_top c 90 "_law_field"
  have g90 := s_glo X G c 90 "_law_field"
  have b90 : L2.Binds K d90 ["_law_word", "_law_e"] [] := F90.bindsN fun _ _ _ _ _ _ us hl => match us, hl with | [_, _], _ => rfl
  obtain ⟨d91, F91⟩ := s_top c 91 "_law_caught"
  have g91 := s_glo X G c 91 "_law_caught"
  have b91 : L2.Binds K d91 ["_law_act"] [] := F91.bindsN fun _ _ _ _ _ _ us hl => match us, hl with | [_], _ => rfl
  obtain ⟨d92, F92⟩ := s_top c 92 "_law_pairs"
  have g92 := s_glo X G c 92 "_law_pairs"
  have b92 : L2.Binds K d92 ["_law_urn_here", "_law_names_here", "_law_many"] [] := F92.bindsN fun _ _ _ _ _ _ us hl => match us, hl with | [_, _, _], _ => rfl
  obtain ⟨d93, F93⟩ := s_top c 93 "_law_reach"
  have g93 := s_glo X G c 93 "_law_reach"
  have b93 : L2.Binds K d93 ["_law_named", "_law_pairs_here"] [] := F93.bindsN fun _ _ _ _ _ _ us hl => match us, hl with | [_, _], _ => rfl
  obtain ⟨d94, F94⟩ := s_top c 94 "_law_people_right"
  have g94 := s_glo X G c 94 "_law_people_right"
  have b94 : L2.Binds K d94 ["_law_told", "_law_named", "_law_pairs_here"] [] := F94.bindsN fun _ _ _ _ _ _ us hl => match us, hl with | [_, _, _], _ => rfl
  obtain ⟨d95, F95⟩ := s_top c 95 "_law_refused_right"
  have g95 := s_glo X G c 95 "_law_refused_right"
  obtain ⟨d96, F96⟩ := s_top c 96 "_law_right"
  have g96 := s_glo X G c 96 "_law_right"
  obtain ⟨d97, F97⟩ := s_top c 97 "law"
  have g97 := s_glo X G c 97 "law"
  have b97 : L2.Binds K d97 ["_law_cells"] [] := F97.bindsN fun _ _ _ _ _ _ us hl => match us, hl with | [_], _ => rfl
  have b95 : L2.Binds K d95 ["_law_urn_here", "_law_seen", "_law_named", "_law_due"] [] := F95.bindsN fun _ _ _ _ _ _ us hl => match us, hl with | [_, _, _, _], _ => rfl
  have b96 : L2.Binds K d96 ["_law_urn_here"] [] := F96.bindsN fun _ _ _ _ _ _ us hl => match us, hl with | [_], _ => rfl
  obtain ⟨dLi, FLi⟩ := s_mth c 71 0 "Look" "__init__" "Look.__init__"
  have bLi : L2.Binds K dLi ["self", "menu", "marks"] [] := FLi.bindsN fun _ _ _ _ _ _ us hl => match us, hl with | [_, _, _], _ => rfl
  obtain ⟨dRi, FRi⟩ := s_mth c 54 0 "Ranking" "__init__" "Ranking.__init__"
  have bRi : L2.Binds K dRi ["self", "row"] [] := FRi.bindsN fun _ _ _ _ _ _ us hl => match us, hl with | [_, _], _ => rfl
  obtain ⟨dSr, FSr⟩ := s_mth c 54 16 "Ranking" "__str__" "Ranking.__str__"
  have bSr : L2.Binds K dSr ["self"] [] := FSr.bindsN fun _ _ _ _ _ _ us hl => match us, hl with | [_], _ => rfl
  obtain ⟨dRp, FRp⟩ := s_mth c 54 17 "Ranking" "__repr__" "Ranking.__repr__"
  have bRp : L2.Binds K dRp ["self"] [] := FRp.bindsN fun _ _ _ _ _ _ us hl => match us, hl with | [_], _ => rfl
  obtain ⟨dCk, FCk⟩ := s_mth c 74 6 "Looks" "check_fit" "Looks.check_fit"
  have bCk : L2.Binds K dCk ["self"] [] := FCk.bindsN fun _ _ _ _ _ _ us hl => match us, hl with | [_], _ => rfl
  obtain ⟨dAn, FAn⟩ := s_mth c 74 8 "Looks" "answer" "Looks.answer"
  have bAn : L2.Binds K dAn ["self", "menu", "thing"] [] := FAn.bindsN fun _ _ _ _ _ _ us hl => match us, hl with | [_, _, _], _ => rfl
  obtain ⟨dLo, FLo⟩ := s_mth c 74 9 "Looks" "look" "Looks.look"
  have bLo : L2.Binds K dLo ["self", "menu"] [] := FLo.bindsN fun _ _ _ _ _ _ us hl => match us, hl with | [_, _], _ => rfl
  obtain ⟨dCb, FCb⟩ := s_mth c 74 10 "Looks" "can_be" "Looks.can_be"
  have bCb : L2.Binds K dCb ["self", "menu", "taken"] [] := FCb.bindsN fun _ _ _ _ _ _ us hl => match us, hl with | [_, _, _], _ => rfl
  obtain ⟨dSe, FSe⟩ := s_mth c 74 12 "Looks" "settled" "Looks.settled"
  have bSe : L2.Binds K dSe ["self"] [] := FSe.bindsN fun _ _ _ _ _ _ us hl => match us, hl with | [_], _ => rfl
  obtain ⟨dPp, FPp⟩ := s_mth c 74 13 "Looks" "people" "Looks.people"
  have bPp : L2.Binds K dPp ["self"] [] := FPp.bindsN fun _ _ _ _ _ _ us hl => match us, hl with | [_], _ => rfl
  obtain ⟨dFt, FFt⟩ := s_get c 0
  have bFt : L2.Binds K dFt ["self"] [] := FFt.bindsN fun _ _ _ _ _ _ us hl => match us, hl with | [_], _ => rfl
  obtain ⟨dTk, FTk⟩ := s_get c 1
  have bTk : L2.Binds K dTk ["self"] [] := FTk.bindsN fun _ _ _ _ _ _ us hl => match us, hl with | [_], _ => rfl
  obtain ⟨dPs, FPs⟩ := s_get c 2
  have bPs : L2.Binds K dPs ["self"] [] := FPs.bindsN fun _ _ _ _ _ _ us hl => match us, hl with | [_], _ => rfl
  obtain ⟨dRw, FRw⟩ := s_get c 3
  have bRw : L2.Binds K dRw ["self"] [] := FRw.bindsN fun _ _ _ _ _ _ us hl => match us, hl with | [_], _ => rfl
  obtain ⟨dSi, FSi⟩ := s_lks c
  have bSi : L2.Binds K dSi ["self", "things", "looks"] [] := by
    obtain ⟨ds, r, b⟩ := FSi.binds1 (ps := ["self", "things", "looks"]) 3 1 (List.cons_ne_nil _ _) rfl fun T kV doc pm an cdv ct us its hl hi => match us, hl, its, hi with
      | [_, _, _], _, [_], _ => ⟨_, rfl, rfl⟩
    cases r
    exact b
  refine ⟨d97, fun s u => F97.bindsA (ps := ["_law_cells"]) (fun _ _ _ _ _ _ us hl => match us, hl with | [_], _ => rfl) s [u] rfl, fun base _ _ TB => ?_⟩
  have c34 : CalP P w K mg base 1 "less" lessR := ⟨_, d34, _, [], ok_less F34 B, g34, F34.kp, b34, .nil⟩
  have c33 : CalP P w K mg base 1 "is_part" partR := ⟨_, d33, _, [], ok_part F33 B, g33, F33.kp, b33, .nil⟩
  have c44 : CalP P w K mg base 1 "is_name" nameR := ⟨_, d44, _, [], ok_name F44 B Lt, g44, F44.kp, b44, .nil⟩
  have c45 : CalP P w K mg base 1 "wrong_place" wpR := ⟨_, d45, _, [], ok_wp F45 B, g45, F45.kp, b45, .nil⟩
  have c46 : CalP P w K mg base 2 "wrong_names" wnR := ⟨_, d46, _, [], ok_wn F46 B M c44, g46, F46.kp, b46, .nil⟩
  have c47 : CalP P w K mg base 2 "check_menu" chkR := ⟨_, d47, _, [], ok_cm F47 c45, g47, F47.kp, b47, .nil⟩
  have c48 : CalP P w K mg base 2 "check_taken" chkR := ⟨_, d48, _, [], ok_ct F48 c45, g48, F48.kp, b48, .nil⟩
  have c49 : CalP P w K mg base 3 "check_things" chnR := ⟨_, d49, _, [], ok_cg F49 c46, g49, F49.kp, b49, .nil⟩
  have c70 : CalP P w K mg base 3 "check_names" chnR := ⟨_, d70, _, [], ok_cn F70 c46, g70, F70.kp, b70, .nil⟩
  have c50 : CalP P w K mg base 1 "is_thing" itR := ⟨_, d50, _, [], ok_it F50 B, g50, F50.kp, b50, .nil⟩
  have c51 : CalP P w K mg base 2 "check_thing" cthR := ⟨_, d51, _, [], ok_cth F51 c50, g51, F51.kp, b51, .nil⟩
  have c53 : CalP P w K mg base 2 "wrong_name" wrR := ⟨_, d53, _, [], ok_wr F53 B M c44, g53, F53.kp, b53, .nil⟩
  have c69 : CalP P w K mg base 1 "are_marks" amR := ⟨_, d69, _, [], ok_am F69 B, g69, F69.kp, b69, .nil⟩
  have mLi : C8.Mak P w K mg base 4 "Look" (cC K) (spI (cC K) lkNs lkR) [] := ⟨_, dLi, _, [], He.mkr_ok (s_rest c 12), ok_li FLi B TC c70 c69, TC.mgc, bLi, .nil⟩
  have pTk : PrpP P w K mg base 1 (cC K) "taken" (tkR (cC K) 43) := ⟨_, _, dTk, _, TC.cl, s_prop c 1, ok_tk FTk B TC, bTk⟩
  have pPs : PrpP P w K mg base 1 (cC K) "passed" (tkR (cC K) 45) := ⟨_, _, dPs, _, TC.cl, s_prop c 2, ok_ps FPs B TC, bPs⟩
  have c73 : CalP P w K mg base 2 "wrong_look" (wlR (cC K)) := ⟨_, d73, _, [], ok_wl F73 B M TC c33, g73, F73.kp, b73, .nil⟩
  have mSi : C8.Mak P w K mg base 4 "Looks" (cS K) (spI (cS K) lsNs (lsR (cC K))) [] := ⟨_, dSi, _, [], He.mkr_ok (s_rest c 13), ok_si FSi TS_ c49 c73, TS_.mgc, bSi, .nil⟩
  have mRi : C8.Mak P w K mg base 3 "Ranking" (cR K) (spI (cR K) rkNs rkR) [] := ⟨_, dRi, _, [], He.mkr_ok (s_rest c 14), ok_ri FRi TR c53, TR.mgc, bRi, .nil⟩
  have pRw : PrpP P w K mg base 1 (cR K) "row" (rwR (cR K)) := ⟨_, _, dRw, _, TR.cl, s_prop c 3, ok_rw FRw TR, bRw⟩
  have c57 : CalP P w K mg base 1 "bits_of" boR := ⟨_, d57, _, [], ok_bo F57 B, g57, F57.kp, b57, .nil⟩
  have c58 : CalP P w K mg base 1 "things_of" toR := ⟨_, d58, _, [], ok_to F58 B, g58, F58.kp, b58, .nil⟩
  have c59 : CalP P w K mg base 2 "let_row" lrR := ⟨_, d59, _, [], ok_lr F59 B c57 c58, g59, F59.kp, b59, .nil⟩
  have c60 : CalP P w K mg base 3 "pairs_of" (poR (cC K)) := ⟨_, d60, _, [], ok_po F60 TC pPs, g60, F60.kp, b60, .nil⟩
  have c61 : CalP P w K mg base 3 "needs_of" (noR (cC K)) := ⟨_, d61, _, [], ok_no F61 B TC pTk, g61, F61.kp, b61, .nil⟩
  have c62 : CalP P w K mg base 4 "sharpened" (shR (cC K)) := ⟨_, d62, _, [], ok_sh F62 TC c60 c34, g62, F62.kp, b62, .nil⟩
  have c63 : CalP P w K mg base 5 "are_fit" (afR (cC K)) := ⟨_, d63, _, [], ok_af F63 c61 c62 c59, g63, F63.kp, b63, .nil⟩
  have pFt : PrpP P w K mg base 6 (cS K) "fit" (ftR (cS K) (cC K)) := ⟨_, _, dFt, _, TS_.cl, s_prop c 0, ok_ft FFt TS_ c63, bFt⟩
  have c82 : CalP P w K mg base 1 "_law_best" lbR := ⟨_, d82, _, [], ok_lb F82, g82, F82.kp, b82, .nil⟩
  have c83 : CalP P w K mg base 2 "_law_takes" ltR := ⟨_, d83, _, [], ok_lt F83 B c82, g83, F83.kp, b83, .nil⟩
  have c85 : CalP P w K mg base 3 "_law_has" lhR := ⟨_, d85, _, [], ok_lh F85 B c83, g85, F85.kp, b85, .nil⟩
  have c86 : CalP P w K mg base 1 "_law_rows" lrwR := ⟨_, d86, _, [], ok_lw F86 B, g86, F86.kp, b86, .nil⟩
  have c87 : CalP P w K mg base 2 "_law_houses" lhoR := ⟨_, d87, _, [], ok_lo F87 c86, g87, F87.kp, b87, .nil⟩
  have c88 : CalP P w K mg base 6 "_law_made" (lmR (cS K) (cC K)) := ⟨_, d88, _, [], ok_lm F88 B mSi mLi, g88, F88.kp, b88, .nil⟩
  have c93 : CalP P w K mg base 4 "_law_reach" lreR := ⟨_, d93, _, [], ok_re F93 B c87 c85, g93, F93.kp, b93, .nil⟩
  have c77 : CalW P w K mg base 1 "_law_draw" 1 drP drR := ⟨_, d77, _, [], ok_dr F77 B, g77, F77.kp, b77, .nil⟩
  have c78 : CalW P w K mg base 2 "_law_name" 10 nil_ nmR := ⟨_, d78, _, [], ok_nm F78 B c77, g78, F78.kp, b78, .nil⟩
  have c79 : CalW P w K mg base 3 "_law_names" 36 nsP nsR := ⟨_, d79, _, [], ok_ns F79 B c77 c78, g79, F79.kp, b79, .nil⟩
  have c80 : CalW P w K mg base 2 "_law_shuffled" 3 sfP sfR := ⟨_, d80, _, [], ok_sf F80 B c77, g80, F80.kp, b80, .nil⟩
  have c81 : CalW P w K mg base 2 "_law_menu" 4 meP meR := ⟨_, d81, _, [], ok_me F81 B c77, g81, F81.kp, b81, .nil⟩
  have c84 : CalW P w K mg base 3 "_law_look" 12 lkP lkR2 := ⟨_, d84, _, [], ok_lk F84 B c77 c81 c83, g84, F84.kp, b84, .nil⟩
  have c92 : CalW P w K mg base 4 "_law_pairs" 160 prsP prsR := ⟨_, d92, _, [], ok_prs F92 B c77 c80 c84, g92, F92.kp, b92, .nil⟩
  have c76 : C8.Cal P w K mg base 1 "_law_urn" (spU K) [] := ⟨_, d76, _, [], ok_ur F76 B, g76, F76.kp, b76, .nil⟩
  have xCk : MetX P w K mg base 8 (cS K) "check_fit" (spX (gC K) (ckO (cS K) (cC K)) (ckX (cS K) (cC K))) := ⟨_, dCk, _, TS_.cl, s_met c "Looks" "check_fit", ok_ck FCk B TS_ TK pFt c63, bCk⟩
  have xAn : MetX P w K mg base 9 (cS K) "answer" (spX (gC K) noO (anX (cS K) (cC K))) := ⟨_, dAn, _, TS_.cl, s_met c "Looks" "answer", ok_an FAn TS_ c47 c51 xCk, bAn⟩
  have xLo : MetX P w K mg base 9 (cS K) "look" (spX (gC K) noO (loX (cS K) (cC K))) := ⟨_, dLo, _, TS_.cl, s_met c "Looks" "look", ok_lo2 FLo TS_ c47 xCk, bLo⟩
  have xCb : MetX P w K mg base 9 (cS K) "can_be" (spX (gC K) noO (cbX (cS K) (cC K))) := ⟨_, dCb, _, TS_.cl, s_met c "Looks" "can_be", ok_cb FCb TS_ c47 c48 xCk, bCb⟩
  have xSe : MetX P w K mg base 9 (cS K) "settled" (spX (gC K) noO (ckX (cS K) (cC K))) := ⟨_, dSe, _, TS_.cl, s_met c "Looks" "settled", ok_se FSe xCk, bSe⟩
  have xPp : MetX P w K mg base 12 (cS K) "people" (spX (gC K) (ppO (cS K) (cC K) (cR K)) (ckX (cS K) (cC K))) := ⟨_, dPp, _, TS_.cl, s_met c "Looks" "people", ok_pp FPp B TS_ xCk c61 c62 c59 mRi, bPp⟩
  have Q : ExF P w K mg base (gC K) := ⟨⟨_, _, F91, g91⟩, ⟨_, _, _, s_cls X G c "WrongValue", s_cls X G c "WrongName", s_cls X G c "NoAnswer", of_decide_eq_true (more_at (s_cl c) 18)⟩, ⟨_, _, ok_st F89 B TK XC CK, g89, F89.kp, b89⟩, ⟨_, _, ok_fl F90 TK XC CK, g90, F90.kp, b90⟩⟩
  have c94 : CalP P w K mg base 4 "_law_people_right" (prR (cR K)) := ⟨_, d94, _, [], ok_pr F94 B TR pRw c85, g94, F94.kp, b94, .nil⟩
  have fSr : FnOk P w K mg base C8.CX0 1 _ dSr ["self"] (spD (srR (cR K))) := ok_sr FSr TR
  have fRp : FnOk P w K mg base C8.CX0 3 _ dRp ["self"] (spD (rpR (cR K))) := ok_rp FRp (s_met c "Ranking" "__str__") fSr bSr (s_show c)
  have hc : d95.code = .ref (He.cT K pT).1 := by
    obtain ⟨oc, od, dV, kV, doc, pm, an, cdv, ct, osl, rfl, lk, hcd, _⟩ := F95.ex
    obtain ⟨cc, rfl⟩ := He.codeIn_ref hcd
    exact congrArg Value.ref (He.codeOf_eq (p := pT) lk rfl).symm
  have c95 : C8.Cal P w K mg base 15 "_law_refused_right" (rrS (cS K) (cC K) (He.cT K pT).2) [] := ⟨_, d95, _, [], ok_rr F95 hc TB B Q c77 c81 xAn xLo xCb xSe xPp, g95, F95.kp, b95, .nil⟩
  have f96 : FnGd P w K mg base 17 _ d96 ["_law_urn_here"] (rtS (He.cT K pT).2) := ok_rt F96 B c77 c79 c92 c93 c88 pFt c95 xPp c94 (s_met c "Ranking" "__repr__") fRp bRp
  exact ok_lw2 F97 B f96 g96 F96.kp b96 c76
end Mh
set_option maxRecDepth 100000
set_option maxHeartbeats 0
/-! E35: the law. -/
open PySem PySem.W PySem.Calls PyProof.Rows
theorem PySem.Challenge.cw_menuhouses_k51_whole_fit_of_three_things_holds : PySem.Challenge.rw_menuhouses_k51_whole_fit_of_three_things.Holds := by
  w_on; o_law
  refine HandSHeadRun.head_any (r := OpenLaw.row PySem.Challenge.rw_menuhouses_k51_whole_fit_of_three_things) (q := view (OpenLaw.row PySem.Challenge.rw_menuhouses_k51_whole_fit_of_three_things).prog [97]) (H := Mh.hookG) (ob := Mh.ob) (M := 16000) (loose := Mh.looseN) (d := HandSHeadRun.topDef (OpenLaw.row PySem.Challenge.rw_menuhouses_k51_whole_fit_of_three_things).prog 97) (kwd := []) Mh.ob_eq
    (by kernel_rfl) (fun s => by kernel_rfl) Mh.run_w (by kernel_rfl) (by kernel_rfl) (by kernel_rfl) (by rfl) (by first | assumption | decide +kernel) (by decide +kernel) ⟨rfl, rfl, rfl, rfl, rfl, by decide +kernel⟩ ?hw ?hc
  case hw => w_witness2
  case hc =>
    refine Mh.law_walk (l := PySem.Challenge.rw_menuhouses_k51_whole_fit_of_three_things) (n := 63) (x := "_law_cells") rfl (by decide) (by kernel_rfl) ⟨rfl, by decide, by decide⟩ ?F
    intro w mg fa h Y G hmg0
    obtain ⟨K, KX, c⟩ := Y
    have hmg : mg ("law" : PySem.Str) = some (.ref fa) := by
      have e : (HandSHeadRun.topDef (OpenLaw.row PySem.Challenge.rw_menuhouses_k51_whole_fit_of_three_things).prog 97).name = ("law" : PySem.Str) := by kernel_rfl
      rw [← e]
      exact hmg0
    have e := hmg.symm.trans (Mh.s_glo KX G c 97 "law")
    cases e
    obtain ⟨fd, hb, hF⟩ := Mh.law_fn (P := (PySem.Challenge.rw_menuhouses_k51_whole_fit_of_three_things).prog) (w := w) KX G c
    exact ⟨K, _, _, fd, KX, c.empty, c.out, c.hd, hb, hF⟩
