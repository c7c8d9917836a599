import PyProof.Rows.All
import Wide.All
import OpenK.AllK
import Wide.FinOn
import HandS.ForMost
import HandS.ForExc
import HandS.Lambda
import HandS.ExcCtx
import HandS.ExcField
import HandS.Defaults
import HandS.HeadHook1
import HandS.HeadHook2
import HandS.HeadHook3
import HandS.HeadHook4
import KE.KStateDown
import HandS.Head0
import HandS.Head1
import HandS.Head2
import PySem.Challenge.RW_soonestkept_k90_rows_by_names
import HandS.HotCalls
import HandS.TupAny
import HandS.TupMul
import HandS.IsInst
import HandS.Codes
import HandS.Wide
import KE.GoesMore
import HandS.Strs
import HandS.DictComp
import KE.KExcSuper
import HandS.ExcInit
import HandS.ClsMeth
import HandS.Hot
import HandS.ExcIs
import HandS.Style
import HandS.HeadWalk
import HandS.HeadEnd
set_option Elab.async false
set_option linter.all false
set_option maxRecDepth 100000
set_option maxHeartbeats 0
namespace ME
open PySem PySem.Spec PyProof.Rows L2 LamX He

/-- the class C is an own exception class whose objects are made by ValueError.__new__ -/
def oexB (K : PySem.W.Frag) (C : Addr) : Bool := (match K.lookup C with
  | some ⟨.type t, _, .cls cd, sl⟩ => (match cd.mro, sl.toList with
    | .ref C' :: bm, [_, _, _, _, some (.builtin n), _] => decide (t = "type") && (decide (C' = C) && (PySem.HandSPX.refsVE bm && (cd.hasDict && (!cd.hasDel && decide (n = "ValueError.__new__")))))
    | _, _ => false)
  | _ => false) && (eqO (PySem.W.findIn K (.ref C) "__setattr__") (some (some (.builtin "object.__setattr__"))) && (decide (PySem.W.subIn K (.ref C) (.type "BaseException") = some true) && (decide (PySem.W.typeIn K (.ref C) = some (.type "type")) && PySem.W.keepIn K (.ref C))))
def excB (K : PySem.W.Frag) (D : Addr) : Bool := eqO (PySem.W.findIn K (.ref D) "__getattribute__") (some (some (.builtin "BaseException.__getattribute__"))) && (eqO (PySem.W.findIn K (.ref D) "__getattr__") (some none) && (decide (PySem.W.subIn K (.ref D) (.type "BaseException") = some true) && (PySem.W.hasDictIn K D &&
  (eqO (PySem.W.findIn K (.ref D) "__class__") (some (some (.builtin "object.__class__"))) && (eqO (PySem.W.specialIn K (.builtin "object.__class__") "__get__") (some (some (.builtin "getset_descriptor.__get__"))) && (decide (PySem.W.takesIn K (.builtin "object.__class__") = some true) && decide (PySem.W.mroIn K D (.type "object") = some true)))))))
def rfB (K : PySem.W.Frag) (R C : Addr) : Bool := oexB K C && (decide (PySem.W.mroIn K C (.ref R) = some true) && (decide (PySem.W.subIn K (.ref C) (.type "ValueError") = some true) && (eqO (PySem.W.findIn K (.ref C) "what") (some none) && (eqO (PySem.W.findIn K (.ref C) "word") (some none) && eqO (PySem.W.ks_superIn K C R "__init__") (some (some (.builtin "ValueError.__init__")))))))
/-- all that is asked of a raised class C below Refused -/
def badB (K : PySem.W.Frag) (R C : Addr) : Bool := rfB K R C && (eqO (PySem.W.findIn K (.ref C) "__init__") (some (some (.ref (ma K C "__init__")))) && (decide (PySem.W.typeIn K (.ref (ma K C "__init__")) = some (.type "function")) && (decide (PySem.W.mroIn K C (.ref C) = some true) && (eqO (PySem.W.ks_superIn K C C "__init__") (some (some (.ref (ma K R "__init__")))) && (excB K C && (xfB K C && decide (PySem.W.exmOne K (.ref C) (.ref R) = some true)))))))
/-- the raised class c against all classes: isinstance -/
def kitB (K : PySem.W.Frag) (C : Addr) (names : List Str) (c : Str) : Bool := names.all fun y => decide (PySem.W.kitOne K (.ref C) (.ref (ga K y)) = some (c == y))
theorem kitB_ok {K : PySem.W.Frag} {C : Addr} {names : List Str} {c y : Str} (h : kitB K C names c = true) (hy : y ∈ names) : PySem.W.kitOne K (.ref C) (.ref (ga K y)) = some (c == y) := of_decide_eq_true (List.all_eq_true.mp h y hy)
/-! ### inits that speak of super() -/
abbrev FnY : Type := Option (Str × Str × Arguments × FuncBody × Scope × Addr × List Str × Addr)
def iniW (K : PySem.W.Frag) (c : Str) : FnY := match K.lookup (ma K (ga K c) "__init__") with
  | some ⟨_, _, .func fd, _⟩ => some (fd.name, fd.qualname, fd.params, fd.body, fd.scope, fd.globals, fd.closure.map (·.1), fd.builtins)
  | _ => none
structure IniD where
  cls : Str
  qual : Str
  st : Stmt
  dfl : List Dv
def IniD.val (d : IniD) : FnY := some ("__init__", d.qual, defArgs d.st, .stmts (defBody d.st), defScope d.st, mainGlobals, ["__class__"], builtinsNs)
def fileB (mf : Str) (K : PySem.W.Frag) (cd : Value) : Bool := match cd with
  | .ref c => (match K.lookup c with
    | some ⟨_, _, .fields vs, _⟩ => (match (vs[2]? : Option Value) with
      | some (.str file _) => mf == file
      | _ => false)
    | _ => false)
  | _ => false
def cellB (K : PySem.W.Frag) (D : Addr) (cl : List (Str × Addr)) : Bool := match cl with
  | [(_, cc)] => (match K.lookup cc with
    | some ⟨_, _, .cell (some (.ref D')), _⟩ => decide (D' = D)
    | _ => false)
  | _ => false
def iniF (mf : Str) (K : PySem.W.Frag) (d : IniD) (fd : FuncData) : Bool := PySem.W.codeIn K fd.code d.qual && (dflB K fd.defaults (d.dfl.map (Dv.v K)) && (fileB mf K fd.code && cellB K (ga K d.cls) fd.closure))
def iniB (mf : Str) (K : PySem.W.Frag) (d : IniD) : Bool := (PySem.W.clsIn K (ga K d.cls)).isSome && (decide ((((defArgs d.st).posonlyargs ++ (defArgs d.st).args).head?).map (·.arg) = some ("self" : Str)) && (match K.lookup (ma K (ga K d.cls) "__init__") with
  | some ⟨_, _, .func fd, _⟩ => iniF mf K d fd
  | _ => false))
/-! ### the Hook -/
/-- what an object names: a table's values, a function's code, defaults and cells, a class's names -/
def refsC (o : Obj) : List Addr := match o.data with
  | .dict es _ => es.toList.flatMap fun e => refV e.val
  | .func fd => refV fd.code ++ (refV fd.defaults ++ fd.closure.map (·.2))
  | .cls cd => [cd.ns]
  | _ => []
def levG (g : Addr → Option Obj) (as : List Addr) : List Addr := as.flatMap fun a => match g a with
  | some o => refsC o
  | none => []
def levs (g : Addr → Option Obj) : Nat → List Addr → List Addr
  | 0, as => as
  | n + 1, as => as ++ levs g n (levG g as)
/-- what the module's names reach in n steps, and the names of the static part -/
def asY (g : Addr → Option Obj) (n : Nat) : List Addr := cStatics :: levs g n [mainGlobals]
structure SaysY (fa : List Fa) (fn : List DefD) (tf : List Defn) (ini : List IniD) (ex : PySem.W.Frag → Bool) (w : World) (h : Heap) (K : PySem.W.Frag) : Prop where
  x : SaysX fa fn [] tf ex w h K
  i : (ini.map fun d => iniW K d.cls) = ini.map IniD.val
abbrev AlY : Type := AlX × List FnY
def obsYK (fa : List Fa) (fn : List DefD) (tf : List Defn) (ini : List IniD) (ex : PySem.W.Frag → Bool) (g : Addr → Option Obj) (K : PySem.W.Frag) : AlY := ((obsT fa fn [] K, ex K && tabsB g tf K), ini.map fun d => iniW K d.cls)
def obsY (n : Nat) (fa : List Fa) (fn : List DefD) (tf : List Defn) (ini : List IniD) (ex : PySem.W.Frag → Bool) (g : Addr → Option Obj) : AlY := obsYK fa fn tf ini ex g (frT g (asY g n))
def valY (fn : List DefD) (ini : List IniD) (w : World) : AlY := (valX fn [] w, ini.map IniD.val)
theorem saysY_of {n : Nat} {fa : List Fa} {fn : List DefD} {tf : List Defn} {ini : List IniD} {ex : PySem.W.Frag → Bool} {w : World} {h : Heap} (e : obsY n fa fn tf ini ex h.get? = valY fn ini w) : SaysY fa fn tf ini ex w h (frT h.get? (asY h.get? n)) := by
  generalize hK : asY h.get? n = as at *
  have e' : obsYK fa fn tf ini ex h.get? (frT h.get? as) = valY fn ini w := by rw [← hK]; exact e
  have e1 : obsT fa fn [] (frT h.get? as) = valT fn [] w := congrArg (fun z : AlY => z.1.1) e'
  have e2 : (ex (frT h.get? as) && tabsB h.get? tf (frT h.get? as)) = true := congrArg (fun z : AlY => z.1.2) e'
  have e3 := congrArg (fun z : AlY => z.2) e'
  obtain ⟨h1, h2⟩ := ba e2
  have key : ∀ p ∈ tf, PySem.W.codeHdIn (frT h.get? as) (cT (frT h.get? as) p).1 (cT (frT h.get? as) p).2 = true ∧ ∃ o, h.get? (cT (frT h.get? as) p).2 = some o ∧ emptyTab o = true := fun p hp => by
    obtain ⟨h3, h4⟩ := ba (List.all_eq_true.mp h2 p hp)
    refine ⟨h3, ?_⟩
    cases q : h.get? (cT (frT h.get? as) p).2 with
    | none => rw [q] at h4; cases h4
    | some o => rw [q] at h4; exact ⟨o, rfl, h4⟩
  exact ⟨⟨e1, h1, fun p hp => (key p hp).1, fun p hp => by
    obtain ⟨_, o, q, z⟩ := key p hp
    exact frT_none q z, fun p hp => by
    obtain ⟨_, o, q, z⟩ := key p hp
    rw [q, emptyTab_eq z]⟩, e3⟩
def hookY (n : Nat) (fa : List Fa) (fn : List DefD) (tf : List Defn) (ini : List IniD) (ex : PySem.W.Frag → Bool) : PySem.W.Hook where
  α := AlY
  obs := fun s => obsY n fa fn tf ini ex s.heap.get?
  val := fun w => valY fn ini w
  says := fun w h => ∃ K : PySem.W.Frag, K.In h ∧ SaysY fa fn tf ini ex w h K
  of := fun _ _ e => ⟨_, frT_in, saysY_of e⟩
  keeps := fun _ _ _ ⟨K, hK, c⟩ k => ⟨K, PySem.W.Frag.In.keeps hK k, ⟨⟨c.x.t, c.x.more, c.x.hd, c.x.out, fun p hp => k _ _ (c.x.empty p hp)⟩, c.i⟩⟩
theorem obsY_eq {n : Nat} {fa : List Fa} {fn : List DefD} {tf : List Defn} {ini : List IniD} {ex : PySem.W.Frag → Bool} {g : Addr → Option Obj} {s : Shared} (h : ∀ a, g a = s.heap.get? a) : obsY n fa fn tf ini ex g = (hookY n fa fn tf ini ex).obs s := by
  have e : g = s.heap.get? := funext h
  rw [e] <;> rfl
theorem SaysY.ini {fa : List Fa} {fn : List DefD} {tf : List Defn} {ini : List IniD} {ex : PySem.W.Frag → Bool} {w : World} {h : Heap} {K : PySem.W.Frag} (c : SaysY fa fn tf ini ex w h K) (j : Nat) {d : IniD} (hj : ini[j]? = some d := by rfl) : iniW K d.cls = d.val := by
  have e2 : (ini.map fun d => iniW K d.cls)[j]? = (ini.map IniD.val)[j]? := by rw [c.i]
  rw [List.getElem?_map, List.getElem?_map, hj] at e2
  exact Option.some.inj e2
/-- a def without defaults, as the own layer takes it -/
theorem fun_of {K : PySem.W.Frag} {x qual : Str} {st : Stmt} {f : Addr} {fd : FuncData} (F : FunD K x qual (defArgs st) (defBody st) (defScope st) [] [] f fd) : L2.Fun K x qual st f fd := by
  obtain ⟨oc, od, dV, kV, doc, pm, an, cdv, ct, osl, e, lk, hc, hd, hk⟩ := F.ex
  rcases hd with ⟨_, e2⟩ | ⟨ne, _⟩
  · subst e2
    exact ⟨⟨oc, od, kV, doc, pm, an, cdv, ct, osl, e, lk, hc⟩, F.kp⟩
  · exact absurd rfl ne
end ME
namespace HF
open PySem PySem.Spec PyProof.Rows L2 LamX ME
abbrev R : PySem.W.OpenRow := PySem.W.OpenLaw.row PySem.Challenge.rw_soonestkept_k90_rows_by_names
abbrev qv : Program := PySem.W.view R.prog [89]
def top (i : Nat) : Stmt := PySem.Challenge.pw_soonestkept_k90_rows_by_names.main.body.getD i (.Pass ⟨0, 0, 0, 0⟩)
def n0 : List PySem.Str := ["Refused", "BadBook", "BadThings", "BadBars", "BadLot", "BadMany", "BadIndex", "BadOrder", "BadThing", "BadRooms", "BadRoom", "BadApart", "BadRow", "BadRule", "BadSight", "BadOther", "BadOwners", "BadCosts", "BadPrices", "BadKnown", "BadNumbers", "BadDeed", "BadRates", "BadHits", "BadOwner", "BadAmount", "BadClerk", "BadStamp", "BadDeeds", "BadNames"]
def n1 : List PySem.Str := ["BadPaper", "BadText", "WrongLine", "WrongPlan", "WrongUnlike", "NotHoldable", "NotOneForOne", "NoFull", "NotDone", "TooFew", "NotRoomed", "NotHeld", "Harm", "NothingToUndo", "NothingToRedo", "Same", "TooMany", "whole", "MOST_SIGNS", "all_lines", "words_of", "MOST_NAMES", "MOST_LETTERS", "MOST_ASKS", "LETTERS", "KEPT_WORDS", "is_name", "made_names", "named_row", "read_named_row"]
def n2 : List PySem.Str := ["_law_is_whole", "_law_same", "_law_classes", "_law_heard", "_law_tells", "_law_refuses", "_law_pool", "_law_take", "_law_one", "_law_wrong_row", "_law_text_wrong", "_law_is_name", "_law_wrong_names", "_law_named_text", "_law_read_named_row", "_law_drawn_name", "_law_bent_text", "_law_some_names", "_law_names_right", "_law_odd_names", "_law_text_right", "_law_texts_of", "_law_rows_right", "_law_long_right", "_law_refused_right"]
def names : List PySem.Str := n0 ++ n1 ++ n2
abbrev s_whole : Stmt := top 48
def d_whole : He.DefD := ⟨("whole", none), "whole", "whole", defArgs s_whole, defBody s_whole, defScope s_whole, [], []⟩
abbrev s_all_lines : Stmt := top 51
def d_all_lines : He.DefD := ⟨("all_lines", none), "all_lines", "all_lines", defArgs s_all_lines, defBody s_all_lines, defScope s_all_lines, [], []⟩
abbrev s_words_of : Stmt := top 52
def d_words_of : He.DefD := ⟨("words_of", none), "words_of", "words_of", defArgs s_words_of, defBody s_words_of, defScope s_words_of, [], []⟩
abbrev s_is_name : Stmt := top 59
def d_is_name : He.DefD := ⟨("is_name", none), "is_name", "is_name", defArgs s_is_name, defBody s_is_name, defScope s_is_name, [], []⟩
abbrev s_made_names : Stmt := top 60
def d_made_names : He.DefD := ⟨("made_names", none), "made_names", "made_names", defArgs s_made_names, defBody s_made_names, defScope s_made_names, [], []⟩
abbrev s_named_row : Stmt := top 61
def d_named_row : He.DefD := ⟨("named_row", none), "named_row", "named_row", defArgs s_named_row, defBody s_named_row, defScope s_named_row, [], []⟩
abbrev s_read_named_row : Stmt := top 62
def d_read_named_row : He.DefD := ⟨("read_named_row", none), "read_named_row", "read_named_row", defArgs s_read_named_row, defBody s_read_named_row, defScope s_read_named_row, [], []⟩
abbrev s__law_is_whole : Stmt := top 64
def d__law_is_whole : He.DefD := ⟨("_law_is_whole", none), "_law_is_whole", "_law_is_whole", defArgs s__law_is_whole, defBody s__law_is_whole, defScope s__law_is_whole, [], []⟩
abbrev s__law_same : Stmt := top 65
def d__law_same : He.DefD := ⟨("_law_same", none), "_law_same", "_law_same", defArgs s__law_same, defBody s__law_same, defScope s__law_same, [], []⟩
abbrev s__law_classes : Stmt := top 66
def d__law_classes : He.DefD := ⟨("_law_classes", none), "_law_classes", "_law_classes", defArgs s__law_classes, defBody s__law_classes, defScope s__law_classes, [], []⟩
abbrev s__law_heard : Stmt := top 67
def d__law_heard : He.DefD := ⟨("_law_heard", none), "_law_heard", "_law_heard", defArgs s__law_heard, defBody s__law_heard, defScope s__law_heard, [], []⟩
abbrev s__law_tells : Stmt := top 68
def d__law_tells : He.DefD := ⟨("_law_tells", none), "_law_tells", "_law_tells", defArgs s__law_tells, defBody s__law_tells, defScope s__law_tells, [], []⟩
abbrev s__law_refuses : Stmt := top 69
def d__law_refuses : He.DefD := ⟨("_law_refuses", none), "_law_refuses", "_law_refuses", defArgs s__law_refuses, defBody s__law_refuses, defScope s__law_refuses, [], []⟩
abbrev s__law_pool : Stmt := top 70
def d__law_pool : He.DefD := ⟨("_law_pool", none), "_law_pool", "_law_pool", defArgs s__law_pool, defBody s__law_pool, defScope s__law_pool, [], []⟩
abbrev s__law_take : Stmt := top 71
def d__law_take : He.DefD := ⟨("_law_take", none), "_law_take", "_law_take", defArgs s__law_take, defBody s__law_take, defScope s__law_take, [], []⟩
abbrev s__law_one : Stmt := top 72
def d__law_one : He.DefD := ⟨("_law_one", none), "_law_one", "_law_one", defArgs s__law_one, defBody s__law_one, defScope s__law_one, [], []⟩
abbrev s__law_wrong_row : Stmt := top 73
def d__law_wrong_row : He.DefD := ⟨("_law_wrong_row", none), "_law_wrong_row", "_law_wrong_row", defArgs s__law_wrong_row, defBody s__law_wrong_row, defScope s__law_wrong_row, [], []⟩
abbrev s__law_text_wrong : Stmt := top 74
def d__law_text_wrong : He.DefD := ⟨("_law_text_wrong", none), "_law_text_wrong", "_law_text_wrong", defArgs s__law_text_wrong, defBody s__law_text_wrong, defScope s__law_text_wrong, [], []⟩
abbrev s__law_is_name : Stmt := top 75
def d__law_is_name : He.DefD := ⟨("_law_is_name", none), "_law_is_name", "_law_is_name", defArgs s__law_is_name, defBody s__law_is_name, defScope s__law_is_name, [], []⟩
abbrev s__law_wrong_names : Stmt := top 76
def d__law_wrong_names : He.DefD := ⟨("_law_wrong_names", none), "_law_wrong_names", "_law_wrong_names", defArgs s__law_wrong_names, defBody s__law_wrong_names, defScope s__law_wrong_names, [], []⟩
abbrev s__law_named_text : Stmt := top 77
def d__law_named_text : He.DefD := ⟨("_law_named_text", none), "_law_named_text", "_law_named_text", defArgs s__law_named_text, defBody s__law_named_text, defScope s__law_named_text, [], []⟩
abbrev s__law_read_named_row : Stmt := top 78
def d__law_read_named_row : He.DefD := ⟨("_law_read_named_row", none), "_law_read_named_row", "_law_read_named_row", defArgs s__law_read_named_row, defBody s__law_read_named_row, defScope s__law_read_named_row, [], []⟩
abbrev s__law_drawn_name : Stmt := top 79
def d__law_drawn_name : He.DefD := ⟨("_law_drawn_name", none), "_law_drawn_name", "_law_drawn_name", defArgs s__law_drawn_name, defBody s__law_drawn_name, defScope s__law_drawn_name, [], []⟩
abbrev s__law_bent_text : Stmt := top 80
def d__law_bent_text : He.DefD := ⟨("_law_bent_text", none), "_law_bent_text", "_law_bent_text", defArgs s__law_bent_text, defBody s__law_bent_text, defScope s__law_bent_text, [], []⟩
abbrev s__law_some_names : Stmt := top 81
def d__law_some_names : He.DefD := ⟨("_law_some_names", none), "_law_some_names", "_law_some_names", defArgs s__law_some_names, defBody s__law_some_names, defScope s__law_some_names, [], []⟩
abbrev s__law_names_right : Stmt := top 82
def d__law_names_right : He.DefD := ⟨("_law_names_right", none), "_law_names_right", "_law_names_right", defArgs s__law_names_right, defBody s__law_names_right, defScope s__law_names_right, [], []⟩
abbrev s__law_odd_names : Stmt := top 83
def d__law_odd_names : He.DefD := ⟨("_law_odd_names", none), "_law_odd_names", "_law_odd_names", defArgs s__law_odd_names, defBody s__law_odd_names, defScope s__law_odd_names, [], []⟩
abbrev s__law_text_right : Stmt := top 84
def d__law_text_right : He.DefD := ⟨("_law_text_right", none), "_law_text_right", "_law_text_right", defArgs s__law_text_right, defBody s__law_text_right, defScope s__law_text_right, [], []⟩
abbrev s__law_texts_of : Stmt := top 85
def d__law_texts_of : He.DefD := ⟨("_law_texts_of", none), "_law_texts_of", "_law_texts_of", defArgs s__law_texts_of, defBody s__law_texts_of, defScope s__law_texts_of, [], []⟩
abbrev s__law_rows_right : Stmt := top 86
def d__law_rows_right : He.DefD := ⟨("_law_rows_right", none), "_law_rows_right", "_law_rows_right", defArgs s__law_rows_right, defBody s__law_rows_right, defScope s__law_rows_right, [], []⟩
abbrev s__law_long_right : Stmt := top 87
def d__law_long_right : He.DefD := ⟨("_law_long_right", none), "_law_long_right", "_law_long_right", defArgs s__law_long_right, defBody s__law_long_right, defScope s__law_long_right, [], []⟩
abbrev s__law_refused_right : Stmt := top 88
def d__law_refused_right : He.DefD := ⟨("_law_refused_right", none), "_law_refused_right", "_law_refused_right", defArgs s__law_refused_right, defBody s__law_refused_right, defScope s__law_refused_right, [], []⟩
abbrev s_law : Stmt := top 89
def d_law : He.DefD := ⟨("law", none), "law", "law", defArgs s_law, defBody s_law, defScope s_law, [], []⟩
def fn : List He.DefD := [d_whole, d_all_lines, d_words_of, d_is_name, d_made_names, d_named_row, d_read_named_row, d__law_is_whole, d__law_same, d__law_classes, d__law_heard, d__law_tells, d__law_refuses, d__law_pool, d__law_take, d__law_one, d__law_wrong_row, d__law_text_wrong, d__law_is_name, d__law_wrong_names, d__law_named_text, d__law_read_named_row, d__law_drawn_name, d__law_bent_text, d__law_some_names, d__law_names_right, d__law_odd_names, d__law_text_right, d__law_texts_of, d__law_rows_right, d__law_long_right, d__law_refused_right, d_law]
def fa0 : List He.Fa := [.glo "whole", .glo "all_lines", .glo "words_of", .glo "is_name", .glo "made_names", .glo "named_row", .glo "read_named_row", .glo "_law_is_whole", .glo "_law_same", .glo "_law_classes", .glo "_law_heard", .glo "_law_tells", .glo "_law_refuses", .glo "_law_pool", .glo "_law_take", .glo "_law_one", .glo "_law_wrong_row", .glo "_law_text_wrong", .glo "_law_is_name", .glo "_law_wrong_names", .glo "_law_named_text", .glo "_law_read_named_row", .glo "_law_drawn_name", .glo "_law_bent_text", .glo "_law_some_names", .glo "_law_names_right", .glo "_law_odd_names", .glo "_law_text_right", .glo "_law_texts_of", .glo "_law_rows_right"]
def fa1 : List He.Fa := [.glo "_law_long_right", .glo "_law_refused_right", .glo "law", .glo "Refused", .glo "BadBook", .glo "BadThings", .glo "BadBars", .glo "BadLot", .glo "BadMany", .glo "BadIndex", .glo "BadOrder", .glo "BadThing", .glo "BadRooms", .glo "BadRoom", .glo "BadApart", .glo "BadRow", .glo "BadRule", .glo "BadSight", .glo "BadOther", .glo "BadOwners", .glo "BadCosts", .glo "BadPrices", .glo "BadKnown", .glo "BadNumbers", .glo "BadDeed", .glo "BadRates", .glo "BadHits", .glo "BadOwner", .glo "BadAmount", .glo "BadClerk"]
def fa2 : List He.Fa := [.glo "BadStamp", .glo "BadDeeds", .glo "BadNames", .glo "BadPaper", .glo "BadText", .glo "WrongLine", .glo "WrongPlan", .glo "WrongUnlike", .glo "NotHoldable", .glo "NotOneForOne", .glo "NoFull", .glo "NotDone", .glo "TooFew", .glo "NotRoomed", .glo "NotHeld", .glo "Harm", .glo "NothingToUndo", .glo "NothingToRedo", .glo "Same", .glo "TooMany", .free "ValueError", .free "all", .free "bool", .free "enumerate", .free "int", .free "isinstance", .free "len", .free "list", .free "max", .free "range"]
def fa3 : List He.Fa := [.free "str", .free "super", .free "tuple", .int "MOST_SIGNS" 400000, .int "MOST_NAMES" 24, .int "MOST_LETTERS" 12, .int "MOST_ASKS" 300, .str "LETTERS" "abcdefghijklmnopqrstuvwxyz", .glo "KEPT_WORDS"]
def fa : List He.Fa := fa0 ++ fa1 ++ fa2 ++ fa3
def cls0 : List PySem.Str := ["BadBook", "BadThings", "BadBars", "BadLot", "BadMany", "BadIndex", "BadOrder", "BadThing", "BadRooms", "BadRoom", "BadApart", "BadRow", "BadRule", "BadSight", "BadOther", "BadOwners", "BadCosts", "BadPrices", "BadKnown", "BadNumbers", "BadDeed", "BadRates", "BadHits", "BadOwner", "BadAmount", "BadClerk", "BadStamp", "BadDeeds", "BadNames", "BadPaper"]
def cls1 : List PySem.Str := ["BadText", "WrongLine", "WrongPlan", "WrongUnlike", "NotHoldable", "NotOneForOne", "NoFull", "NotDone", "TooFew", "NotRoomed", "NotHeld", "Harm", "NothingToUndo", "NothingToRedo", "Same", "TooMany"]
def clsN : List PySem.Str := cls0 ++ cls1
def raisedN : List PySem.Str := ["BadNames", "BadRow", "BadText", "TooMany", "WrongLine"]
def tf : List He.Defn := [("_law_names_right", none), ("_law_text_right", none), ("_law_rows_right", none), ("_law_long_right", none), ("_law_refused_right", none)]
abbrev c_Refused : Stmt := inClass (top 1) 0
def i_Refused : IniD := ⟨"Refused", "Refused.__init__", c_Refused, [.str "Refused"]⟩
abbrev c_BadRow : Stmt := inClass (top 13) 0
def i_BadRow : IniD := ⟨"BadRow", "BadRow.__init__", c_BadRow, []⟩
abbrev c_BadNames : Stmt := inClass (top 30) 0
def i_BadNames : IniD := ⟨"BadNames", "BadNames.__init__", c_BadNames, []⟩
abbrev c_BadText : Stmt := inClass (top 32) 0
def i_BadText : IniD := ⟨"BadText", "BadText.__init__", c_BadText, []⟩
abbrev c_WrongLine : Stmt := inClass (top 33) 0
def i_WrongLine : IniD := ⟨"WrongLine", "WrongLine.__init__", c_WrongLine, []⟩
abbrev c_TooMany : Stmt := inClass (top 47) 0
def i_TooMany : IniD := ⟨"TooMany", "TooMany.__init__", c_TooMany, []⟩
def ini : List IniD := [i_Refused, i_BadNames, i_BadRow, i_BadText, i_TooMany, i_WrongLine]
def tabF (K : PySem.W.Frag) : List (Addr × Str) := tf.map fun p => ((He.cT K p).2, p.1 ++ ".<locals>." ++ "<lambda>")
def tupT : List (PySem.Str × List PySem.Str) := [("KEPT_WORDS", ["none", "from", "of", "out", "with", "apart"])]
def noL (K : PySem.W.Frag) : Bool := K.all fun p => match p.2.cls with
  | .type t => !(t == "list")
  | _ => true
def ex (K : PySem.W.Frag) : Bool := (noL K && decide ((tabF K).map (·.1)).Nodup) && ( He.eqO (PySem.W.nsIn K cStatics "thirdparty.any") (some none) && (PySem.W.fnIn K (He.ma K (He.ga K "Refused") "__init__") && (decide (PySem.W.typeIn K (.ref (He.ma K (He.ga K "Refused") "__init__")) = some (.type "function")) &&
  ((raisedN.all fun c => badB K (He.ga K "Refused") (He.ga K c)) && ((raisedN.all fun c => kitB K (He.ga K c) clsN c) && ((ini.all fun d => iniB PySem.Challenge.pw_soonestkept_k90_rows_by_names.main.file K d) && (tupT.all fun p => He.tupB K p.1 (p.2.map He.Dv.str))))))))
abbrev hk : PySem.W.Hook := hookY 4 fa fn tf ini ex
def ob (s : PySem.W.SharedT) : AlY := obsY 4 fa fn tf ini ex (HandSHeadRun.getT s)
theorem ob_eq (s : PySem.W.SharedT) : ob s = hk.obs s.abs := obsY_eq (HandSHeadRun.getT_eq s)
theorem run1 (w : World) (os : OsState) : (HandSHeadRun.endF (HandSHeadRun.stepQ (HandSHeadRun.denQ HandSHeadRun.tabQ) R.prog w) 20000 R.prog w os).map (fun s => (HandSHeadRun.looksF R.prog (PySem.W.boot_heap w.params) s.abs, HandSHeadRun.seenQ qv names (importedModules R.prog.main.body) (fun s => PySem.W.xlAt qv [] s && PySem.W.recOk R.toRowW.records s) s.abs)) = some (true, PySem.W.openGood qv names) := by
  kernel_rfl
theorem run2 (w : World) (os : OsState) : (HandSHeadRun.endF (HandSHeadRun.stepQ (HandSHeadRun.denQ HandSHeadRun.tabQ) R.prog w) 20000 R.prog w os).map ob = some (hk.val w) := by
  kernel_rfl
theorem run (w : World) : HandSHeadRun.RunEq R qv hk ob 20000 names w := by
  intro os
  have h1 := run1 w os
  have h2 := run2 w os
  cases e : HandSHeadRun.endF (HandSHeadRun.stepQ (HandSHeadRun.denQ HandSHeadRun.tabQ) R.prog w) 20000 R.prog w os with
  | none =>
    rw [e] at h1
    cases h1
  | some s =>
    rw [e] at h1 h2
    have g1 := Option.some.inj h1
    have g2 := Option.some.inj h2
    have k1 := congrArg Prod.fst g1
    have k2 := congrArg Prod.snd g1
    show some _ = some _
    exact congrArg some (Prod.ext k1 (Prod.ext k2 g2))
end HF
namespace ME
open PySem PySem.Spec PyProof.Rows L2 LamX

/-! ### data -/
inductive D where
  | non | bl (b : Bool) | int (i : Int) | str (s : Str) | fn (x : Str) | tup (ds : List D) | lst (ds : List D) | dic (ks : List Key) (vs : List D)
/-- a slot: nothing that is known, frozen data, a list of its own (p: a parameter's, lent by the caller), a tuple whose record is known to have no dict -/
inductive Sl where
  | no | fz (d : D) | ow (p : Bool) (ds : List D) | nt (ds : List D) | exn (a dx : Addr) (c : Str) (w : D)
abbrev Env := List Sl
inductive Res (α : Type) where
  | ok (a : α) (ρ : Env) | ex (c : Str) (w : D) (ρ : Env) | no
abbrev M (α : Type) := Env → Res α
def mpure {α : Type} (a : α) : M α := fun ρ => .ok a ρ
def mbind {α β : Type} (f : M α) (g : α → M β) : M β := fun ρ => match f ρ with
  | .ok a ρ' => g a ρ'
  | .ex c w ρ' => .ex c w ρ'
  | .no => .no
/-- of an option: stuck where it is none -/
def mopt {α : Type} (o : Option α) : M α := fun ρ => match o with
  | some a => .ok a ρ
  | none => .no

section
variable (K : PySem.W.Frag) (G : Str → Option Value) (H : Hp)
/-- a list that no one writes any more -/
def Fzl (a : Addr) (vs : List V) : Prop := ∃ o, H a = some (.frz o (.lst vs))
/-- a tuple without a dict -/
def Ndt (a : Addr) (vs : List V) : Prop := ∃ o, H a = some (.frz o (.tup vs)) ∧ o.dict = none
mutual
inductive Dz : V → D → Prop
  | non : Dz .non .non
  | bl (b : Bool) : Dz (.bl b) (.bl b)
  | int (i : Int) : Dz (.int i) (.int i)
  | str (s : Str) : Dz (.str s) (.str s)
  | fn {x : Str} {a : Addr} : G x = some (.ref a) → Dz (.ref a) (.fn x)
  | tup {a : Addr} {vs : List V} {ds : List D} : SqT K H a vs → vs.length ≤ sizeLine → DzL vs ds → Dz (.ref a) (.tup ds)
  | lst {a : Addr} {vs : List V} {ds : List D} : Fzl H a vs → vs.length ≤ sizeLine → DzL vs ds → Dz (.ref a) (.lst ds)
  | dic {a : Addr} {o : Obj} {kvs : List (Key × V)} {vs : List V} {ds : List D} : H a = some (.frz o (.dK kvs)) → kvs.map (·.2) = vs → DzL vs ds → Dz (.ref a) (.dic (kvs.map (·.1)) ds)
inductive DzL : List V → List D → Prop
  | nil : DzL [] []
  | cons {v : V} {vs : List V} {d : D} {ds : List D} : Dz v d → DzL vs ds → DzL (v :: vs) (d :: ds)
end
inductive SlR : Option V → Sl → List Addr → Prop
  | no {v : Option V} : SlR v .no []
  | fz {v : V} {d : D} : Dz K G H v d → SlR (some v) (.fz d) []
  | ow {a : Addr} {vs : List V} {p : Bool} {ds : List D} : H a = some (.lst vs) → vs.length ≤ sizeLine → DzL K G H vs ds → SlR (some (.ref a)) (.ow p ds) [a]
  | nt {a : Addr} {vs : List V} {ds : List D} : Ndt H a vs → vs.length ≤ sizeLine → DzL K G H vs ds → SlR (some (.ref a)) (.nt ds) []
  | exn {a dx : Addr} {fs : List (Str × V)} {v : V} {c : Str} {w : D} : H dx = some (.xd fs) → fs.lookup ("what" : Str) = some v → Dz K G H v w → fs.lookup ("word" : Str) = some (V.str c) → SlR (some (.ref a)) (.exn a dx c w) []
inductive SlRs : List (Option V) → List Sl → List Addr → Prop
  | nil : SlRs [] [] []
  | cons {v : Option V} {vs : List (Option V)} {s : Sl} {ss : List Sl} {A B : List Addr} : SlR K G H v s A → SlRs vs ss B → SlRs (v :: vs) (s :: ss) (A ++ B)
end
/-- nothing but a table of code objects stands there -/
def Nw (H : Hp) (a : Addr) : Prop := ∀ o, H a = some o → ∃ ps, o = .tbl ps
theorem Nw.none {H : Hp} {a : Addr} (h : H a = none) : Nw H a := fun o e => by rw [h] at e; cases e
/-- what changes: the owned ones alone; what is owned behind is owned ahead or new -/
structure Step (A : List Addr) (H : Hp) (A' : List Addr) (H' : Hp) : Prop where
  fr : ∀ a o, H a = some o → a ∉ A → (∀ ps, o ≠ .tbl ps) → H' a = some o
  ow : ∀ a ∈ A', a ∈ A ∨ Nw H a
  dom : ∀ a, Nw H' a → Nw H a
theorem Step.refl {A : List Addr} {H : Hp} : Step A H A H := ⟨fun _ _ e _ _ => e, fun _ h => .inl h, fun _ e => e⟩
theorem Step.trans {A A1 A2 : List Addr} {H H1 H2 : Hp} (s : Step A H A1 H1) (t : Step A1 H1 A2 H2) : Step A H A2 H2 where
  fr := fun a o e n nt => t.fr a o (s.fr a o e n nt) (fun z => (s.ow a z).elim n fun q => by obtain ⟨ps, h⟩ := q _ e; exact nt ps h) nt
  ow := fun a h => (t.ow a h).elim (fun z => s.ow a z) fun q => .inr (s.dom a q)
  dom := fun a e => s.dom a (t.dom a e)
/-- the heap only grows -/
def Ext (H H' : Hp) : Prop := ∀ a o, H a = some o → H' a = some o
theorem Ext.refl {H : Hp} : Ext H H := fun _ _ e => e
theorem Ext.trans {H H1 H2 : Hp} (a : Ext H H1) (b : Ext H1 H2) : Ext H H2 := fun c o e => b c o (a c o e)
theorem Ext.upd {H : Hp} {p : Addr} {o : HO} (n : H p = none) : Ext H (upd H p o) := fun a u e => by rw [upd_ne (ne_of_none e n)]; exact e
theorem Ext.dom {H H' : Hp} (e : Ext H H') (a : Addr) (h : Nw H' a) : Nw H a := fun o q => h o (e a o q)
theorem Ext.step {A : List Addr} {H H' : Hp} (e : Ext H H') : Step A H A H' := ⟨fun a o h _ _ => e a o h, fun _ h => .inl h, e.dom⟩
/-- what data leans on stays -/
def Keep (H H' : Hp) : Prop := (∀ a xs, H a = some (.tup xs) → H' a = some (.tup xs)) ∧ (∀ a o u, H a = some (.frz o u) → H' a = some (.frz o u)) ∧ ∀ a fs, H a = some (.xd fs) → H' a = some (.xd fs)
theorem Keep.refl {H : Hp} : Keep H H := ⟨fun _ _ e => e, fun _ _ _ e => e, fun _ _ e => e⟩
theorem Ext.keep {H H' : Hp} (e : Ext H H') : Keep H H' := ⟨fun a xs h => e a _ h, fun a o u h => e a _ h, fun a fs h => e a _ h⟩
theorem Keep.trans {H H1 H2 : Hp} (a : Keep H H1) (b : Keep H1 H2) : Keep H H2 := ⟨fun c x h => b.1 c x (a.1 c x h), fun c o u h => b.2.1 c o u (a.2.1 c o u h), fun c x h => b.2.2 c x (a.2.2 c x h)⟩
section
variable {K : PySem.W.Frag} {G : Str → Option Value} {H H' : Hp}
theorem Keep.rdT (k : Keep H H') {a : Addr} {vs : List V} (h : SqT K H a vs) : SqT K H' a vs := by
  rcases h with (h | ⟨o, h⟩) | h
  · exact .inl (.inl (k.1 _ _ h))
  · exact .inl (.inr ⟨o, k.2.1 _ _ _ h⟩)
  · exact .inr h
theorem Keep.fzl (k : Keep H H') {a : Addr} {vs : List V} (h : Fzl H a vs) : Fzl H' a vs := by
  obtain ⟨o, h⟩ := h
  exact ⟨o, k.2.1 _ _ _ h⟩
mutual
theorem Dz.keep (k : Keep H H') : ∀ {v : V} {d : D}, Dz K G H v d → Dz K G H' v d
  | _, _, .non => .non
  | _, _, .bl b => .bl b
  | _, _, .int i => .int i
  | _, _, .str s => .str s
  | _, _, .fn h => .fn h
  | _, _, .tup h z l => .tup (k.rdT h) z (DzL.keep k l)
  | _, _, .lst h z l => .lst (k.fzl h) z (DzL.keep k l)
  | _, _, .dic h e l => .dic (k.2.1 _ _ _ h) e (DzL.keep k l)
theorem DzL.keep (k : Keep H H') : ∀ {vs : List V} {ds : List D}, DzL K G H vs ds → DzL K G H' vs ds
  | _, _, .nil => .nil
  | _, _, .cons h l => .cons (Dz.keep k h) (DzL.keep k l)
end
theorem Keep.ndt (k : Keep H H') {a : Addr} {vs : List V} (h : Ndt H a vs) : Ndt H' a vs := by
  obtain ⟨o, h, n⟩ := h
  exact ⟨o, k.2.1 _ _ _ h, n⟩
theorem Ndt.sq {a : Addr} {vs : List V} (h : Ndt H a vs) : SqT K H a vs := by
  obtain ⟨o, h, n⟩ := h
  exact .inl (.inr ⟨o, h⟩)
theorem Fzl.rd {a : Addr} {vs : List V} (h : Fzl H a vs) : Rd H a (.lst vs) := .inr h
theorem DzL.length : ∀ {vs : List V} {ds : List D}, DzL K G H vs ds → vs.length = ds.length
  | _, _, .nil => rfl
  | _, _, .cons _ l => by rw [List.length_cons, List.length_cons, DzL.length l]
theorem DzL.append : ∀ {vs us : List V} {ds es : List D}, DzL K G H vs ds → DzL K G H us es → DzL K G H (vs ++ us) (ds ++ es)
  | _, _, _, _, .nil, q => q
  | _, _, _, _, .cons h l, q => .cons h (DzL.append l q)
theorem DzL.get : ∀ {vs : List V} {ds : List D} {i : Nat} {d : D}, DzL K G H vs ds → ds[i]? = some d → ∃ v, vs[i]? = some v ∧ Dz K G H v d
  | _, _, _, _, .nil, e => by simp at e
  | _, _, 0, _, .cons h _, e => by simp at e; subst e; exact ⟨_, rfl, h⟩
  | _, _, i + 1, d, .cons _ l, e => by
    obtain ⟨v, e1, e2⟩ := DzL.get (i := i) (d := d) l (by simpa using e)
    exact ⟨v, by simpa using e1, e2⟩
theorem DzL.getV : ∀ {vs : List V} {ds : List D} {i : Nat} {v : V}, DzL K G H vs ds → vs[i]? = some v → ∃ d, ds[i]? = some d ∧ Dz K G H v d
  | _, _, _, _, .nil, e => by simp at e
  | _, _, 0, _, .cons h _, e => by simp at e; subst e; exact ⟨_, rfl, h⟩
  | _, _, i + 1, d, .cons _ l, e => by
    obtain ⟨v, e1, e2⟩ := DzL.getV (i := i) (v := d) l (by simpa using e)
    exact ⟨v, by simpa using e1, e2⟩
theorem DzL.take : ∀ {vs : List V} {ds : List D} (n : Nat), DzL K G H vs ds → DzL K G H (vs.take n) (ds.take n)
  | _, _, 0, _ => .nil
  | _, _, _ + 1, .nil => .nil
  | _, _, n + 1, .cons h l => .cons h (DzL.take n l)
theorem DzL.drop : ∀ {vs : List V} {ds : List D} (n : Nat), DzL K G H vs ds → DzL K G H (vs.drop n) (ds.drop n)
  | _, _, 0, r => r
  | _, _, _ + 1, .nil => .nil
  | _, _, n + 1, .cons h l => DzL.drop n l
theorem DzL.set {v : V} {d : D} (r : Dz K G H v d) : ∀ {vs : List V} {ds : List D} (i : Nat), DzL K G H vs ds → DzL K G H (vs.set i v) (ds.set i d)
  | _, _, _, .nil => .nil
  | _, _, 0, .cons _ l => .cons r l
  | _, _, i + 1, .cons h l => .cons h (DzL.set r i l)
theorem DzL.eraseIdx : ∀ {vs : List V} {ds : List D} (i : Nat), DzL K G H vs ds → DzL K G H (vs.eraseIdx i) (ds.eraseIdx i)
  | _, _, _, .nil => .nil
  | _, _, 0, .cons _ l => l
  | _, _, i + 1, .cons h l => .cons h (DzL.eraseIdx i l)
theorem DzL.reverse {vs : List V} {ds : List D} (l : DzL K G H vs ds) : DzL K G H vs.reverse ds.reverse := by
  induction vs generalizing ds with
  | nil => cases l; exact .nil
  | cons v vs ih =>
    cases l with
    | cons h l =>
      rw [List.reverse_cons, List.reverse_cons]
      exact (ih l).append (.cons h .nil)
/-! ### slots -/
theorem SlR.mut {v : Option V} {s : Sl} {A : List Addr} (h : SlR K G H v s A) : ∀ a ∈ A, ∃ vs, H a = some (.lst vs) := by
  cases h with
  | no => intro a z; cases z
  | fz _ => intro a z; cases z
  | nt _ _ _ => intro a z; cases z
  | exn _ _ _ _ => intro a z; cases z
  | ow e _ _ => intro a z; rw [List.mem_singleton.mp z]; exact ⟨_, e⟩
theorem SlRs.mut : ∀ {vs : List (Option V)} {ss : List Sl} {A : List Addr}, SlRs K G H vs ss A → ∀ a ∈ A, ∃ xs, H a = some (.lst xs)
  | _, _, _, .nil => fun a z => by cases z
  | _, _, _, .cons h l => fun a z => (List.mem_append.mp z).elim (fun q => h.mut a q) fun q => SlRs.mut l a q
/-- the slot's own lists stand -/
theorem SlR.keep (k : Keep H H') {v : Option V} {s : Sl} {A : List Addr} (h : SlR K G H v s A) (st : ∀ a ∈ A, H' a = H a) : SlR K G H' v s A := by
  cases h with
  | no => exact .no
  | fz d => exact .fz (d.keep k)
  | nt h z l => exact .nt (k.ndt h) z (l.keep k)
  | exn h1 h2 h3 h4 => exact .exn (k.2.2 _ _ h1) h2 (h3.keep k) h4
  | ow e z l => exact .ow ((st _ (List.mem_singleton.mpr rfl)).trans e) z (l.keep k)
theorem SlRs.keep (k : Keep H H') : ∀ {vs : List (Option V)} {ss : List Sl} {A : List Addr}, SlRs K G H vs ss A → (∀ a ∈ A, H' a = H a) → SlRs K G H' vs ss A
  | _, _, _, .nil, _ => .nil
  | _, _, _, .cons h l, st => .cons (h.keep k fun a z => st a (List.mem_append.mpr (.inl z))) (SlRs.keep k l fun a z => st a (List.mem_append.mpr (.inr z)))
theorem SlRs.length : ∀ {vs : List (Option V)} {ss : List Sl} {A : List Addr}, SlRs K G H vs ss A → vs.length = ss.length
  | _, _, _, .nil => rfl
  | _, _, _, .cons _ l => by rw [List.length_cons, List.length_cons, SlRs.length l]
theorem SlRs.get : ∀ {vs : List (Option V)} {ss : List Sl} {A : List Addr} {i : Nat} {s : Sl}, SlRs K G H vs ss A → ss[i]? = some s → ∃ v A1, vs[i]? = some v ∧ SlR K G H v s A1 ∧ ∀ a ∈ A1, a ∈ A
  | _, _, _, _, _, .nil, e => by simp at e
  | _, _, _, 0, _, .cons h _, e => by
    simp at e; subst e
    exact ⟨_, _, rfl, h, fun a z => List.mem_append.mpr (.inl z)⟩
  | _, _, _, i + 1, s, .cons _ l, e => by
    obtain ⟨v, A1, e1, e2, e3⟩ := SlRs.get (i := i) (s := s) l (by simpa using e)
    exact ⟨v, A1, by simpa using e1, e2, fun a z => List.mem_append.mpr (.inr (e3 a z))⟩
theorem nd_app {A B : List Addr} : (A ++ B).Nodup ↔ A.Nodup ∧ B.Nodup ∧ ∀ a ∈ A, ∀ b ∈ B, a ≠ b := List.nodup_append
/-- a slot is stored -/
theorem SlRs.set : ∀ {vs : List (Option V)} {ss : List Sl} {A A1 : List Addr} (i : Nat) {v : Option V} {s : Sl}, SlRs K G H vs ss A → SlR K G H v s A1 → (A1 ++ A).Nodup →
    ∃ B, SlRs K G H (vs.set i v) (ss.set i s) B ∧ B.Nodup ∧ ∀ a ∈ B, a ∈ A1 ++ A
  | _, _, _, _, _, _, _, .nil, _, _ => ⟨[], .nil, List.nodup_nil, fun a z => by cases z⟩
  | _, _, _, A1, 0, _, _, .cons (A := X) (B := Y) h l, r, nd => by
    refine ⟨A1 ++ Y, .cons r l, ?_, fun a z => ?_⟩
    · obtain ⟨n1, n2, n3⟩ := nd_app.mp nd
      obtain ⟨m1, m2, m3⟩ := nd_app.mp n2
      exact nd_app.mpr ⟨n1, m2, fun a ha b hb => n3 a ha b (List.mem_append.mpr (.inr hb))⟩
    · rcases List.mem_append.mp z with z | z
      · exact List.mem_append.mpr (.inl z)
      · exact List.mem_append.mpr (.inr (List.mem_append.mpr (.inr z)))
  | _, _, _, A1, i + 1, _, _, .cons (A := X) (B := Y) h l, r, nd => by
    obtain ⟨n1, n2, n3⟩ := nd_app.mp nd
    obtain ⟨m1, m2, m3⟩ := nd_app.mp n2
    obtain ⟨B, e1, e2, e3⟩ := SlRs.set i l r (nd_app.mpr ⟨n1, m2, fun a ha b hb => n3 a ha b (List.mem_append.mpr (.inr hb))⟩)
    refine ⟨X ++ B, .cons h e1, nd_app.mpr ⟨m1, e2, fun a ha b hb => ?_⟩, fun a z => ?_⟩
    · rcases List.mem_append.mp (e3 b hb) with q | q
      · exact fun z => n3 b q a (List.mem_append.mpr (.inl ha)) z.symm
      · exact m3 a ha b q
    · rcases List.mem_append.mp z with z | z
      · exact List.mem_append.mpr (.inr (List.mem_append.mpr (.inl z)))
      · rcases List.mem_append.mp (e3 a z) with q | q
        · exact List.mem_append.mpr (.inl q)
        · exact List.mem_append.mpr (.inr (List.mem_append.mpr (.inr q)))
/-- the owned list of slot i goes out -/
theorem SlRs.take : ∀ {vs : List (Option V)} {ss : List Sl} {A : List Addr} {i : Nat} {p : Bool} {ds : List D} {a : Addr}, SlRs K G H vs ss A → A.Nodup → ss[i]? = some (.ow p ds) → vs[i]? = some (some (.ref a)) →
    ∃ B, SlRs K G H vs (ss.set i .no) B ∧ ([a] ++ B).Nodup ∧ ∀ b ∈ [a] ++ B, b ∈ A
  | _, _, _, _, _, _, _, .nil, _, e, _ => by simp at e
  | _, _, _, 0, p, ds, a, .cons (A := X) (B := Y) h l, nd, e, e2 => by
    simp at e e2; subst e; subst e2
    cases h with
    | ow h1 h2 h3 => exact ⟨Y, .cons (A := []) .no l, nd, fun b z => z⟩
  | _, _, _, i + 1, p, ds, a, .cons (v := v) (A := X) (B := Y) h l, nd, e, e2 => by
    obtain ⟨n1, n2, n3⟩ := nd_app.mp nd
    obtain ⟨B, b1, b2, b3⟩ := SlRs.take l n2 (by simpa using e : _[i]? = some (Sl.ow p ds)) (by simpa using e2 : _[i]? = some (some (V.ref a)))
    obtain ⟨m1, m2, m3⟩ := nd_app.mp b2
    have ha : a ∈ Y := b3 a (List.mem_append.mpr (.inl (List.mem_singleton.mpr rfl)))
    refine ⟨X ++ B, .cons h b1, nd_app.mpr ⟨by simp, nd_app.mpr ⟨n1, m2, fun x hx y hy => n3 x hx y (b3 y (List.mem_append.mpr (.inr hy)))⟩, fun x hx y hy => ?_⟩, fun b z => ?_⟩
    · rw [List.mem_singleton.mp hx]
      rcases List.mem_append.mp hy with q | q
      · exact fun z => n3 y q a ha z.symm
      · exact m3 a (List.mem_singleton.mpr rfl) y q
    · rcases List.mem_append.mp z with z | z
      · rw [List.mem_singleton.mp z]; exact List.mem_append.mpr (.inr ha)
      · rcases List.mem_append.mp z with z | z
        · exact List.mem_append.mpr (.inl z)
        · exact List.mem_append.mpr (.inr (b3 b (List.mem_append.mpr (.inr z))))
/-- the owned list of slot i is written: its slot alone turns -/
theorem SlRs.write : ∀ {vs : List (Option V)} {ss : List Sl} {A : List Addr} {i : Nat} {p : Bool} {ds es : List D} {a : Addr} {us : List V}, SlRs K G H vs ss A → A.Nodup → ss[i]? = some (.ow p ds) → vs[i]? = some (some (.ref a)) → Keep H H' →
    (∀ b, b ≠ a → H' b = H b) → H' a = some (.lst us) → us.length ≤ sizeLine → DzL K G H' us es → SlRs K G H' vs (ss.set i (.ow p es)) A
  | _, _, _, _, _, _, _, _, _, .nil, _, e, _, _, _, _, _, _ => by simp at e
  | _, _, _, 0, p, ds, es, a, us, .cons (A := X) (B := Y) h l, nd, e, e2, k, ke, ha, hz, hd => by
    simp at e e2; subst e; subst e2
    obtain ⟨n1, n2, n3⟩ := nd_app.mp nd
    cases h with
    | ow h1 h2 h3 =>
      refine .cons (.ow ha hz hd) (SlRs.keep k l fun b z => ke b fun q => ?_)
      exact n3 a (List.mem_singleton.mpr rfl) b z q.symm
  | _, _, _, i + 1, p, ds, es, a, us, .cons (v := v) (A := X) (B := Y) h l, nd, e, e2, k, ke, ha, hz, hd => by
    obtain ⟨n1, n2, n3⟩ := nd_app.mp nd
    have e' := (by simpa using e : _[i]? = some (Sl.ow p ds))
    have e2' := (by simpa using e2 : _[i]? = some (some (V.ref a)))
    obtain ⟨v1, A1, q1, q2, q3⟩ := SlRs.get l e'
    have haY : a ∈ Y := by
      rw [e2'] at q1; cases q1
      cases q2 with
      | ow _ _ _ => exact q3 a (List.mem_singleton.mpr rfl)
    refine .cons (h.keep k fun b z => ke b fun q => ?_) (SlRs.write l n2 e' e2' k ke ha hz hd)
    exact n3 b z a haY q
end
end ME
namespace ME
open PySem PySem.Spec PyProof.Rows L2 LamX
/-! ### the relation of a frame, its steps -/
/-- the tables of code objects; the slots that are lent: which, where their lists stand -/
structure Gh where
  tab : List (Addr × Str)
  P : List (Nat × Addr)
structure Rel (K : PySem.W.Frag) (G : Str → Option Value) (T : Gh) (σ : L2.St) (H : Hp) (ρ : Env) (A : List Addr) : Prop where
  as : SlRs K G H σ ρ A
  nd : A.Nodup
  tab : Tabs T.tab H
  pro : ∀ p ∈ T.P, σ[p.1]? = some (some (V.ref p.2)) ∧ ∃ ds, ρ[p.1]? = some (Sl.ow true ds)
/-- an own exception's own dict: what, word -/
def ExR (K : PySem.W.Frag) (G : Str → Option Value) (H : Hp) (dx : Addr) (c : Str) (w : D) : Prop :=
  ∃ fs v, H dx = some (.xd fs) ∧ fs.lookup ("what" : Str) = some v ∧ Dz K G H v w ∧ fs.lookup ("word" : Str) = some (V.str c)
section
variable {K : PySem.W.Frag} {G : Str → Option Value} {T : Gh} {σ : L2.St} {H H1 H2 : Hp} {ρ : Env} {A A1 A2 : List Addr}
theorem Step.keepM (m : ∀ a ∈ A, ∃ vs, H a = some (.lst vs)) (s : Step A H A1 H1) : Keep H H1 := by
  refine ⟨fun a xs e => s.fr a _ e (fun z => ?_) (fun _ q => by cases q), fun a o u e => s.fr a _ e (fun z => ?_) (fun _ q => by cases q), fun a fs e => s.fr a _ e (fun z => ?_) (fun _ q => by cases q)⟩
  · obtain ⟨vs, q⟩ := m a z; rw [e] at q; cases q
  · obtain ⟨vs, q⟩ := m a z; rw [e] at q; cases q
  · obtain ⟨vs, q⟩ := m a z; rw [e] at q; cases q
theorem Rel.keep (r : Rel K G T σ H ρ A) (s : Step A H A1 H1) : Keep H H1 := s.keepM r.as.mut
theorem Rel.ext (r : Rel K G T σ H ρ A) (e : Ext H H1) : Rel K G T σ H1 ρ A :=
  ⟨r.as.keep e.keep fun a z => by obtain ⟨vs, q⟩ := r.as.mut a z; rw [e a _ q, q], r.nd, r.tab.ext e, r.pro⟩
/-- more that is owned aside -/
theorem Step.frame (B : List Addr) (s : Step A H A1 H1) : Step (B ++ A) H (B ++ A1) H1 :=
  ⟨fun a o e n nt => s.fr a o e (fun z => n (List.mem_append.mpr (.inr z))) nt, fun a z => (List.mem_append.mp z).elim (fun q => .inl (List.mem_append.mpr (.inl q))) fun q => (s.ow a q).elim (fun q => .inl (List.mem_append.mpr (.inr q))) .inr, s.dom⟩
theorem Step.sub (s : Step A H A1 H1) (h : ∀ a ∈ A2, a ∈ A1) : Step A H A2 H1 := ⟨s.fr, fun a z => s.ow a (h a z), s.dom⟩
theorem Step.more (s : Step A H A1 H1) (h : ∀ a ∈ A, a ∈ A2) : Step A2 H A1 H1 := ⟨fun a o e n nt => s.fr a o e (fun z => n (h a z)) nt, fun a z => (s.ow a z).imp_left (h a), s.dom⟩
/-- what is owned aside stands, and stands apart -/
theorem Step.aside {B : List Addr} (s : Step A H A1 H1) (nd : (B ++ A).Nodup) (m : ∀ a ∈ B, ∃ vs, H a = some (.lst vs)) : (∀ a ∈ B, H1 a = H a) ∧ ∀ a ∈ B, ∀ b ∈ A1, a ≠ b := by
  obtain ⟨n1, n2, n3⟩ := nd_app.mp nd
  refine ⟨fun a z => ?_, fun a ha b hb e => ?_⟩
  · obtain ⟨vs, q⟩ := m a z
    rw [q]
    exact s.fr a _ q (fun y => n3 a z a y rfl) fun _ q => by cases q
  · obtain ⟨vs, q⟩ := m a ha
    rcases s.ow b hb with y | y
    · exact n3 a ha b y e
    · rw [← e] at y
      obtain ⟨ps, z⟩ := y _ q
      cases z
end
/-! ### what is wanted behind an expression -/
section
variable (K : PySem.W.Frag) (G : Str → Option Value) (T : Gh)
def Post {α β : Type} (R : L2.St → Hp → β → α → List Addr → Prop) (W : WX) (σ : L2.St) (H0 : Hp) (A0 : List Addr) (Q : β → Hp → Prop) : Res α → Prop
  | .ok a ρ => ∀ b H A1 A, Step A0 H0 (A1 ++ A) H → Rel K G T σ H ρ A → R σ H b a A1 → (A1 ++ A).Nodup → Q b H
  | .ex c w ρ => ∀ C dx H A, Step A0 H0 A H → Rel K G T σ H ρ A → G c = some (.ref C) → ExR K G H dx c w → W (.ref C) (some dx) σ H
  | .no => False
def tG {α β : Type} (R : L2.St → Hp → β → α → List Addr → Prop) (f : M α) (W : WX) : L2.St → Hp → (β → Hp → Prop) → Prop := fun σ H Q => ∃ ρ A, Rel K G T σ H ρ A ∧ Post K G T R W σ H A Q (f ρ)
end
/-- an operand: data, or what a slot holds when it is used -/
inductive Rv where
  | val (d : D) | slot (i : Nat)
def rres (ρ : Env) : Rv → Option D
  | .val d => some d
  | .slot i => match ρ[i]? with
    | some (.fz d) => some d
    | some (.ow _ ds) => some (.lst ds)
    | some (.nt ds) => some (.tup ds)
    | _ => none
section
variable (K : PySem.W.Frag) (G : Str → Option Value)
/-- read as d: data, or a list that someone owns -/
def Dq (H : Hp) (v : V) (d : D) : Prop := Dz K G H v d ∨ ∃ a vs ds, v = .ref a ∧ d = .lst ds ∧ H a = some (.lst vs) ∧ vs.length ≤ sizeLine ∧ DzL K G H vs ds
inductive DqL (H : Hp) : List V → List D → Prop
  | nil : DqL H [] []
  | cons {v : V} {vs : List V} {d : D} {ds : List D} : Dq K G H v d → DqL H vs ds → DqL H (v :: vs) (d :: ds)
def RD : L2.St → Hp → V → D → List Addr → Prop := fun _ H v d A => A = [] ∧ Dz K G H v d
def RS : L2.St → Hp → V → Sl → List Addr → Prop := fun _ H v s A => SlR K G H (some v) s A
def RvOk (σ : L2.St) (H : Hp) (v : V) : Rv → Prop
  | .val d => Dz K G H v d
  | .slot i => σ[i]? = some (some v)
inductive RvOks (σ : L2.St) (H : Hp) : List V → List Rv → Prop
  | nil : RvOks σ H [] []
  | cons {v : V} {vs : List V} {r : Rv} {rs : List Rv} : RvOk K G σ H v r → RvOks σ H vs rs → RvOks σ H (v :: vs) (r :: rs)
def RR : L2.St → Hp → V → Rv → List Addr → Prop := fun σ H v r A => A = [] ∧ RvOk K G σ H v r
def RA : L2.St → Hp → List V → List Rv → List Addr → Prop := fun σ H vs rs A => A = [] ∧ RvOks K G σ H vs rs
def RT : L2.St → Hp → Bool → Bool → List Addr → Prop := fun _ _ b c A => A = [] ∧ b = c
end
theorem takesN0 {X : Cx} : L2N.Takes X (fun _ _ _ _ => False) := fun _ _ x => by
  obtain ⟨_, _, _, _, _, _, _, _, _, _, _, _, _, _, _, _, z⟩ := x
  exact z.elim
/-- the expression computes f: data -/
def DE (T : Gh) (X : Cx) (e : Expr) (f : M D) : Prop := ∀ W, L2N.Takes X W → PE X e (tG X.K X.mg T (RD X.K X.mg) f W)
/-- .. a slot's content -/
def DX (T : Gh) (X : Cx) (e : Expr) (f : M Sl) : Prop := ∀ W, L2N.Takes X W → PE X e (tG X.K X.mg T (RS X.K X.mg) f W)
/-- .. an operand -/
def DR (T : Gh) (X : Cx) (e : Expr) (f : M Rv) : Prop := ∀ W, L2N.Takes X W → PE X e (tG X.K X.mg T (RR X.K X.mg) f W)
def DT (T : Gh) (X : Cx) (e : Expr) (f : M Bool) : Prop := ∀ W, L2N.Takes X W → PT X e (tG X.K X.mg T RT f W)
def DA (T : Gh) (X : Cx) (es : List Expr) (f : M (List Rv)) : Prop := ∀ W, L2N.Takes X W → PA X es (tG X.K X.mg T (RA X.K X.mg) f W)
theorem PE.imp {X : Cx} {e : Expr} {t u : TE} (h : PE X e t) (i : ∀ σ H Q, u σ H Q → t σ H Q) : PE X e u := ⟨fun pins s σ H Q I q => h.run pins s σ H Q I (i σ H Q q)⟩
theorem PT.imp {X : Cx} {e : Expr} {t u : TT} (h : PT X e t) (i : ∀ σ H Q, u σ H Q → t σ H Q) : PT X e u := ⟨fun pins s σ H Q I q => h.run pins s σ H Q I (i σ H Q q)⟩
theorem PA.imp {X : Cx} {e : List Expr} {t u : TA} (h : PA X e t) (i : ∀ σ H Q, u σ H Q → t σ H Q) : PA X e u := ⟨fun pos pins s σ H Q I q => h.run pos pins s σ H Q I (i σ H Q q)⟩
theorem PS.imp {X : Cx} {e : Stmt} {t u : TS} (h : PS X e t) (i : ∀ D σ H, u D σ H → t D σ H) : PS X e u := ⟨fun pins s σ H D I q => h.run pins s σ H D I (i D σ H q)⟩
theorem PSs.imp {X : Cx} {e : List Stmt} {t u : TS} (h : PSs X e t) (i : ∀ D σ H, u D σ H → t D σ H) : PSs X e u := ⟨fun pins s σ H D I q => h.run pins s σ H D I (i D σ H q)⟩
section
variable {K : PySem.W.Frag} {G : Str → Option Value} {T : Gh} {W : WX} {σ : L2.St} {H H1 H2 : Hp} {ρ : Env} {A A1 : List Addr} {α β γ δ : Type}
variable {R : L2.St → Hp → β → α → List Addr → Prop} {R1 : L2.St → Hp → δ → γ → List Addr → Prop} {Q : β → Hp → Prop} {Q1 : δ → Hp → Prop}
theorem Dq.of {v : V} {d : D} (h : Dz K G H v d) : Dq K G H v d := .inl h
theorem RvOk.keep (k : Keep H H1) {v : V} {r : Rv} (h : RvOk K G σ H v r) : RvOk K G σ H1 v r := by
  cases r with
  | val d => exact Dz.keep k h
  | slot i => exact h
theorem RvOks.keep (k : Keep H H1) : ∀ {vs : List V} {rs : List Rv}, RvOks K G σ H vs rs → RvOks K G σ H1 vs rs
  | _, _, .nil => .nil
  | _, _, .cons h l => .cons (h.keep k) (RvOks.keep k l)
/-- an operand, used -/
theorem RvOk.dq {v : V} {r : Rv} {d : D} (h : RvOk K G σ H v r) (rl : Rel K G T σ H ρ A) (e : rres ρ r = some d) : Dq K G H v d := by
  cases r with
  | val x => cases e; exact .inl h
  | slot i =>
    have e' : (match ρ[i]? with
      | some (.fz d) => some d
      | some (.ow _ ds) => some (.lst ds)
      | some (.nt ds) => some (.tup ds)
      | _ => none) = some d := e
    split at e'
    · rename_i d' q
      cases e'
      obtain ⟨v', A1, e1, e2, _⟩ := rl.as.get q
      rw [show σ[i]? = some (some v) from h] at e1
      cases e1
      cases e2 with
      | fz z => exact .inl z
    · rename_i p ds q
      cases e'
      obtain ⟨v', A1, e1, e2, _⟩ := rl.as.get q
      rw [show σ[i]? = some (some v) from h] at e1
      cases e1
      cases e2 with
      | ow z zl l => exact .inr ⟨_, _, _, rfl, rfl, z, zl, l⟩
    · rename_i ds q
      cases e'
      obtain ⟨v', A1, e1, e2, _⟩ := rl.as.get q
      rw [show σ[i]? = some (some v) from h] at e1
      cases e1
      cases e2 with
      | nt z zl l => exact .inl (.tup z.sq zl l)
    · cases e'
/-- first f, then g -/
theorem Post.seq {f : M γ} {g : γ → M α} (h : Post K G T R W σ H A Q (mbind f g ρ))
    (use : ∀ b a ρ1 H1 A1 A', Step A H (A1 ++ A') H1 → Rel K G T σ H1 ρ1 A' → R1 σ H1 b a A1 → (A1 ++ A').Nodup → Post K G T R W σ H A Q (g a ρ1) → Q1 b H1) : Post K G T R1 W σ H A Q1 (f ρ) := by
  unfold mbind at h
  cases e : f ρ with
  | ok a ρ1 => rw [e] at h; exact fun b H1 A1 A' st rl r nd => use b a ρ1 H1 A1 A' st rl r nd h
  | ex c w ρ1 => rw [e] at h; exact h
  | no => rw [e] at h; exact h
/-- another wish -/
theorem Post.mono {r : Res γ} {Q0 : δ → Hp → Prop} (h : Post K G T R1 W σ H A Q0 r) (use : ∀ b H, Q0 b H → Q1 b H) : Post K G T R1 W σ H A Q1 r := by
  cases r with
  | ok a ρ1 => exact fun b H1 A1 A' st rl r nd => use b H1 (h b H1 A1 A' st rl r nd)
  | ex c w ρ1 => exact h
  | no => exact h
/-- g goes on from H1 -/
theorem Post.goes {f : M γ} {g : γ → M α} (st : Step A H A1 H1) (h : Post K G T R W σ H A Q (mbind f g ρ))
    (use : ∀ b a ρ2 H2 B1 B, Step A1 H1 (B1 ++ B) H2 → Rel K G T σ H2 ρ2 B → R1 σ H2 b a B1 → (B1 ++ B).Nodup → Post K G T R W σ H A Q (g a ρ2) → Q1 b H2) : Post K G T R1 W σ H1 A1 Q1 (f ρ) := by
  unfold mbind at h
  cases e : f ρ with
  | ok a ρ1 => rw [e] at h; exact fun b H2 B1 B s2 rl q nd => use b a ρ1 H2 B1 B s2 rl q nd h
  | ex c w ρ1 => rw [e] at h; exact fun C dx H2 B s2 rl gc x => h C dx H2 B (st.trans s2) rl gc x
  | no => rw [e] at h; exact h
/-- a value is there -/
theorem Post.fin {d : D} {Q : VK} {v : V} (h : Post K G T (RD K G) W σ H A Q (.ok d ρ)) (st : Step A H A1 H1) (rl : Rel K G T σ H1 ρ A1) (e : Ext H1 H2) (r : Dz K G H2 v d) : Q v H2 :=
  h v H2 [] A1 (st.trans e.step) (rl.ext e) ⟨rfl, r⟩ (by simpa using rl.nd)
theorem mopt_some {o : Option α} (h : Post K G T R W σ H A Q (mopt o ρ)) : ∃ z, o = some z ∧ Post K G T R W σ H A Q (.ok z ρ) := by
  cases o with
  | none => exact h.elim
  | some z => exact ⟨z, rfl, h⟩
end
/-! ### operands, used -/
/-- the operands' values now -/
def muse (r : Rv) : M D := fun ρ => mopt (rres ρ r) ρ
section
variable {K : PySem.W.Frag} {G : Str → Option Value} {T : Gh} {W : WX} {σ : L2.St} {H H1 : Hp} {ρ : Env} {A A1 : List Addr} {α β : Type}
variable {R : L2.St → Hp → β → α → List Addr → Prop} {Q : β → Hp → Prop}
/-- what an operation comes to: from H and A at the start to H1 and A1 now -/
structure Now (K : PySem.W.Frag) (G : Str → Option Value) (T : Gh) (R : L2.St → Hp → β → α → List Addr → Prop) (W : WX) (σ : L2.St) (Q : β → Hp → Prop) (H1 : Hp) (r : Env → Res α) : Prop where
  ex : ∃ H A ρ1 A1, Step A H A1 H1 ∧ Rel K G T σ H1 ρ1 A1 ∧ Post K G T R W σ H A Q (r ρ1)
def m1 (k : D → M α) (f : M Rv) : M α := mbind f fun r => mbind (muse r) k
def m2 (k : D → D → M α) (f g : M Rv) : M α := mbind f fun r => mbind g fun s => mbind (muse r) fun x => mbind (muse s) fun y => k x y
theorem one {f : M Rv} {k : D → M α} (h : tG K G T R (m1 k f) W σ H Q) : tG K G T (RR K G) f W σ H fun v H1 => ∃ x, Dq K G H1 v x ∧ Now K G T R W σ Q H1 (k x) := by
  obtain ⟨ρ, A, rl, h⟩ := h
  refine ⟨ρ, A, rl, h.seq fun v r ρ1 H1 A1 A' st r1 rd nd p => ?_⟩
  obtain ⟨rfl, ok⟩ := rd
  have st' : Step A H A' H1 := by simpa using st
  have p' : Post K G T R W σ H A Q (mbind (mopt (rres ρ1 r)) k ρ1) := p
  cases e : rres ρ1 r with
  | none => rw [e] at p'; exact p'.elim
  | some x =>
    rw [e] at p'
    exact ⟨x, ok.dq r1 e, ⟨H, A, ρ1, A', st', r1, p'⟩⟩
theorem two {f g : M Rv} {k : D → D → M α} (h : tG K G T R (m2 k f g) W σ H Q) :
    tG K G T (RR K G) f W σ H fun v H1 => tG K G T (RR K G) g W σ H1 fun u H2 => ∃ x y, Dq K G H2 v x ∧ Dq K G H2 u y ∧ Now K G T R W σ Q H2 (k x y) := by
  obtain ⟨ρ, A, rl, h⟩ := h
  refine ⟨ρ, A, rl, h.seq fun v r ρ1 H1 A1 A' st r1 rd nd p => ?_⟩
  obtain ⟨rfl, ok⟩ := rd
  have st' : Step A H A' H1 := by simpa using st
  refine ⟨ρ1, A', r1, Post.goes st' p fun u s ρ2 H2 B1 B s2 r2 rd2 nd2 p2 => ?_⟩
  obtain ⟨rfl, ok2⟩ := rd2
  have s2' : Step A' H1 B H2 := by simpa using s2
  have p' : Post K G T R W σ H A Q (mbind (mopt (rres ρ2 r)) (fun x => mbind (muse s) fun y => k x y) ρ2) := p2
  cases e : rres ρ2 r with
  | none => rw [e] at p'; exact p'.elim
  | some x =>
    rw [e] at p'
    have p3 : Post K G T R W σ H A Q (mbind (mopt (rres ρ2 s)) (fun y => k x y) ρ2) := p'
    cases e2 : rres ρ2 s with
    | none => rw [e2] at p3; exact p3.elim
    | some y =>
      rw [e2] at p3
      exact ⟨x, y, (ok.keep (r1.keep s2')).dq r2 e, ok2.dq r2 e2, ⟨H, A, ρ2, B, st'.trans s2', r2, p3⟩⟩
/-- the operands of a list -/
def muses : List Rv → M (List D)
  | [] => mpure []
  | r :: rs => mbind (muse r) fun x => mbind (muses rs) fun xs => mpure (x :: xs)
theorem RvOks.dq : ∀ {rs : List Rv} {vs : List V} {k : List D → M α}, RvOks K G σ H1 vs rs → Rel K G T σ H1 ρ A1 → Post K G T R W σ H A Q (mbind (muses rs) k ρ) → ∃ xs, DqL K G H1 vs xs ∧ Post K G T R W σ H A Q (k xs ρ)
  | [], _, k, .nil, _, p => ⟨[], .nil, p⟩
  | r :: rs, _, k, .cons h l, rl, p => by
    have p' : Post K G T R W σ H A Q (mbind (mbind (mopt (rres ρ r)) fun x => mbind (muses rs) fun xs => mpure (x :: xs)) k ρ) := p
    cases e : rres ρ r with
    | none => rw [e] at p'; exact p'.elim
    | some x =>
      rw [e] at p'
      have p2 : Post K G T R W σ H A Q (mbind (muses rs) (fun xs => k (x :: xs)) ρ) := by
        have p3 : Post K G T R W σ H A Q (mbind (mbind (muses rs) fun xs => mpure (x :: xs)) k ρ) := p'
        unfold mbind at p3 ⊢
        cases e2 : muses rs ρ with
        | ok a ρ' => rw [e2] at p3; exact p3
        | ex c w ρ' => rw [e2] at p3; exact p3
        | no => rw [e2] at p3; exact p3
      obtain ⟨xs, a, b⟩ := RvOks.dq l rl p2
      exact ⟨x :: xs, .cons (h.dq rl e) a, b⟩
def mL (k : List D → M α) (f : M (List Rv)) : M α := mbind f fun rs => mbind (muses rs) k
theorem oneL {f : M (List Rv)} {k : List D → M α} (h : tG K G T R (mL k f) W σ H Q) : tG K G T (RA K G) f W σ H fun vs H1 => ∃ xs, DqL K G H1 vs xs ∧ Now K G T R W σ Q H1 (k xs) := by
  obtain ⟨ρ, A, rl, h⟩ := h
  refine ⟨ρ, A, rl, h.seq fun v r ρ1 H1 A1 A' st r1 rd nd p => ?_⟩
  obtain ⟨rfl, ok⟩ := rd
  have st' : Step A H A' H1 := by simpa using st
  obtain ⟨xs, a, b⟩ := ok.dq r1 p
  exact ⟨xs, a, ⟨H, A, ρ1, A', st', r1, b⟩⟩
/-- the operation gives data -/
theorem Now.data {Q : VK} {H1 : Hp} {o : Option D} (n : Now K G T (RD K G) W σ Q H1 (mopt o)) : ∃ z, o = some z ∧ ∀ v H2, Ext H1 H2 → Dz K G H2 v z → Q v H2 := by
  obtain ⟨H, A, ρ, A1, st, rl, p⟩ := n.ex
  obtain ⟨z, e, p⟩ := mopt_some p
  exact ⟨z, e, fun v H2 e d => p.fin st rl e d⟩
theorem Now.test {Q : Bool → Hp → Prop} {H1 : Hp} {o : Option Bool} (n : Now K G T RT W σ Q H1 (mopt o)) : ∃ z, o = some z ∧ ∀ H2, Ext H1 H2 → Q z H2 := by
  obtain ⟨H, A, ρ, A1, st, rl, p⟩ := n.ex
  obtain ⟨z, e, p⟩ := mopt_some p
  exact ⟨z, e, fun H2 e => p z H2 [] A1 (st.trans e.step) (rl.ext e) ⟨rfl, rfl⟩ (by simpa using rl.nd)⟩
/-- .. a new list of its own -/
theorem Now.own {Q : VK} {H1 : Hp} {o : Option (List D)} (n : Now K G T (RS K G) W σ Q H1 (mopt (o.map (Sl.ow false)))) : ∃ ds, o = some ds ∧ ∀ p vs H2, Ext H1 H2 → H1 p = none → H2 p = some (.lst vs) → ds.length ≤ sizeLine → DzL K G H2 vs ds → Q (.ref p) H2 := by
  obtain ⟨H, A, ρ, A1, st, rl, p⟩ := n.ex
  obtain ⟨z, e, p⟩ := mopt_some p
  cases o with
  | none => cases e
  | some ds =>
    cases e
    refine ⟨ds, rfl, fun a vs H2 e hn hp hz d => p _ H2 [a] A1 ?_ (rl.ext e) (.ow hp (by rw [d.length]; exact hz) d) ?_⟩
    · refine ⟨(st.trans e.step).fr, fun b hb => ?_, (st.trans e.step).dom⟩
      rcases List.mem_append.mp hb with z | z
      · rw [List.mem_singleton.mp z]; exact .inr (st.dom _ (Nw.none hn))
      · exact st.ow b z
    · refine nd_app.mpr ⟨by simp, rl.nd, fun b hb c hc => ?_⟩
      rw [List.mem_singleton.mp hb]
      obtain ⟨us, q⟩ := rl.as.mut c hc
      exact fun z => by rw [← z, hn] at q; cases q
end
/-! ### names, constants -/
section
variable {T : Gh} {X : Cx}
theorem const {e : Expr} {v : V} {d : D} (h : PE X e (tC v)) (r : ∀ H, Dz X.K X.mg H v d) : DE T X e (mpure d) := fun W _ => PE.imp h fun σ H Q q => by
  obtain ⟨ρ, A, rl, p⟩ := q
  exact Post.fin p Step.refl rl Ext.refl (r H)
theorem de_int {i j pos} : DE T X (.Constant (.int i) j pos) (mpure (.int i)) := const pe_int fun _ => .int i
theorem de_bl {b j pos} : DE T X (.Constant (.bool b) j pos) (mpure (.bl b)) := const pe_bl fun _ => .bl b
theorem de_non {j pos} : DE T X (.Constant .none j pos) (mpure .non) := const pe_non fun _ => .non
theorem de_str {x j pos} : DE T X (.Constant (.str x) j pos) (mpure (.str x)) := const pe_str fun _ => .str x
/-- the slot's data -/
def mvar (i : Nat) : M D := fun ρ => match ρ[i]? with
  | some (.fz d) => .ok d ρ
  | some (.nt ds) => .ok (.tup ds) ρ
  | _ => .no
theorem de_var (i : Nat) {x : Str} {pos : Pos} (hN : X.N[i]? = some x := by rfl) (hv : Vis X.env.scope x := by first | exact Or.inl rfl | exact Or.inr (Or.inl rfl) | exact Or.inr (Or.inr rfl)) (hd : (x == ("__debug__" : Str)) = false := by decide)
    (hcd : (x == ("__classdict__" : Str)) = false := by decide) : DE T X (.Name x pos) (mvar i) := fun W _ => PE.imp (pe_var hN hv hd hcd) fun σ H Q q => by
  obtain ⟨ρ, A, rl, p⟩ := q
  unfold mvar at p
  split at p
  · rename_i d e
    obtain ⟨v, A1, e1, e2, e3⟩ := rl.as.get e
    cases e2 with
    | fz dz => exact ⟨_, e1, p.fin Step.refl rl Ext.refl dz⟩
  · rename_i ds e
    obtain ⟨v, A1, e1, e2, e3⟩ := rl.as.get e
    cases e2 with
    | nt z zl l => exact ⟨_, e1, p.fin Step.refl rl Ext.refl (.tup z.sq zl l)⟩
  · exact p.elim
/-- a function of the module as a value -/
theorem de_fn {x : Str} {a : Addr} {pos : Pos} (hg : Gl X x) (hm : X.mg x = some (.ref a)) (hd : (x == ("__debug__" : Str)) = false := by decide) : DE T X (.Name x pos) (mpure (.fn x)) := const (v := .ref a) (pe_glob hg hm rfl hd) fun _ => .fn hm
/-- an operand that is data -/
def mval (f : M D) : M Rv := mbind f fun d => mpure (.val d)
theorem dr_val {e : Expr} {f : M D} (h : DE T X e f) : DR T X e (mval f) := fun W tk => PE.imp (h W tk) fun σ H Q q => by
  obtain ⟨ρ, A, rl, p⟩ := q
  refine ⟨ρ, A, rl, p.seq fun v d ρ1 H1 A1 A' st r1 rd nd p => ?_⟩
  obtain ⟨rfl, dz⟩ := rd
  exact p v H1 [] A' st r1 ⟨rfl, dz⟩ nd
/-- an operand that is a name: what the slot holds when it is used; the name must be bound -/
def mslot (i : Nat) : M Rv := fun ρ => match ρ[i]? with
  | some (.fz _) => .ok (.slot i) ρ
  | some (.ow _ _) => .ok (.slot i) ρ
  | some (.nt _) => .ok (.slot i) ρ
  | _ => .no
theorem dr_var (i : Nat) {x : Str} {pos : Pos} (hN : X.N[i]? = some x := by rfl) (hv : Vis X.env.scope x := by first | exact Or.inl rfl | exact Or.inr (Or.inl rfl) | exact Or.inr (Or.inr rfl)) (hd : (x == ("__debug__" : Str)) = false := by decide)
    (hcd : (x == ("__classdict__" : Str)) = false := by decide) : DR T X (.Name x pos) (mslot i) := fun W _ => PE.imp (pe_var hN hv hd hcd) fun σ H Q q => by
  obtain ⟨ρ, A, rl, p⟩ := q
  unfold mslot at p
  split at p
  · rename_i d e
    obtain ⟨v, A1, e1, e2, e3⟩ := rl.as.get e
    cases e2 with
    | fz dz => exact ⟨_, e1, p _ H [] A Step.refl rl ⟨rfl, e1⟩ (by simpa using rl.nd)⟩
  · rename_i b ds e
    obtain ⟨v, A1, e1, e2, e3⟩ := rl.as.get e
    cases e2 with
    | ow z zl l => exact ⟨_, e1, p _ H [] A Step.refl rl ⟨rfl, e1⟩ (by simpa using rl.nd)⟩
  · rename_i ds e
    obtain ⟨v, A1, e1, e2, e3⟩ := rl.as.get e
    cases e2 with
    | nt z zl l => exact ⟨_, e1, p _ H [] A Step.refl rl ⟨rfl, e1⟩ (by simpa using rl.nd)⟩
  · exact p.elim
/-! ### argument lists -/
def mnil : M (List Rv) := mpure []
def mcons (f : M Rv) (g : M (List Rv)) : M (List Rv) := mbind f fun r => mbind g fun rs => mpure (r :: rs)
theorem da_nil : DA T X [] mnil := fun W _ => PA.imp pa_nil fun σ H Q q => by
  obtain ⟨ρ, A, rl, p⟩ := q
  exact p [] H [] A Step.refl rl ⟨rfl, .nil⟩ (by simpa using rl.nd)
theorem da_cons {e : Expr} {es : List Expr} {f : M Rv} {g : M (List Rv)} (h : DR T X e f) (l : DA T X es g) (hs : starEach (e :: es) X.env = (false, eval e X.env) :: starEach es X.env := by rfl) : DA T X (e :: es) (mcons f g) :=
  fun W tk => PA.imp (pa_cons (h W tk) (l W tk) hs) fun σ H Q q => by
    obtain ⟨ρ, A, rl, p⟩ := q
    refine ⟨ρ, A, rl, p.seq fun v r ρ1 H1 A1 A' st r1 rd nd p => ?_⟩
    obtain ⟨rfl, ok⟩ := rd
    have st' : Step A H A' H1 := by simpa using st
    refine ⟨ρ1, A', r1, Post.goes st' p fun vs rs ρ2 H2 B1 B s2 r2 rd2 nd2 p2 => ?_⟩
    obtain ⟨rfl, ok2⟩ := rd2
    have s2' : Step A' H1 B H2 := by simpa using s2
    exact p2 (v :: vs) H2 [] B (by simpa using st'.trans s2') r2 ⟨rfl, .cons (ok.keep (r1.keep s2')) ok2⟩ (by simpa using r2.nd)
end
/-! ### operations by values -/
/-- what an operation gives: data, or a new list -/
def Gives (K : PySem.W.Frag) (G : Str → Option Value) (H : Hp) (s : Sl) (Q : VK) : Prop := match s with
  | .no => True
  | .fz z => ∀ v' H', Ext H H' → Dz K G H' v' z → Q v' H'
  | .ow _ zs => ∀ p us H', Ext H H' → H p = none → H' p = some (.lst us) → zs.length ≤ sizeLine → DzL K G H' us zs → Q (.ref p) H'
  | .exn _ _ _ _ => True
  | .nt zs => ∀ p us H', Ext H H' → Ndt H' p us → zs.length ≤ sizeLine → DzL K G H' us zs → Q (.ref p) H'
def unown : Sl → Option Sl
  | .no => none
  | .fz d => some (.fz d)
  | .ow _ ds => some (.ow false ds)
  | .nt ds => some (.nt ds)
  | .exn _ _ _ _ => none
section
variable {K : PySem.W.Frag} {G : Str → Option Value} {T : Gh} {W : WX} {σ : L2.St} {H H1 : Hp} {ρ : Env} {A A1 : List Addr}
theorem Now.gives {Q : VK} {H1 : Hp} {o : Option Sl} (n : Now K G T (RS K G) W σ Q H1 (mopt (o.bind unown))) : ∃ s, o = some s ∧ s ≠ .no ∧ Gives K G H1 s Q := by
  obtain ⟨H, A, ρ, A1, st, rl, p⟩ := n.ex
  obtain ⟨z, e, p⟩ := mopt_some p
  cases o with
  | none => cases e
  | some s =>
    cases s with
    | no => cases e
    | fz d =>
      cases e
      exact ⟨_, rfl, by simp, fun v H2 e dz => p v H2 [] A1 (st.trans e.step) (rl.ext e) (.fz dz) (by simpa using rl.nd)⟩
    | exn _ _ _ _ => cases e
    | nt ds =>
      cases e
      exact ⟨_, rfl, by simp, fun a vs H2 e nd hz d => p _ H2 [] A1 (st.trans e.step) (rl.ext e) (.nt nd (by rw [d.length]; exact hz) d) (by simpa using rl.nd)⟩
    | ow b ds =>
      cases e
      refine ⟨_, rfl, by simp, fun a vs H2 e hn hp hz d => p _ H2 [a] A1 ?_ (rl.ext e) (.ow hp (by rw [d.length]; exact hz) d) ?_⟩
      · refine ⟨(st.trans e.step).fr, fun b hb => ?_, (st.trans e.step).dom⟩
        rcases List.mem_append.mp hb with z | z
        · rw [List.mem_singleton.mp z]; exact .inr (st.dom _ (Nw.none hn))
        · exact st.ow b z
      · refine nd_app.mpr ⟨by simp, rl.nd, fun b hb c hc => ?_⟩
        rw [List.mem_singleton.mp hb]
        obtain ⟨us, q⟩ := rl.as.mut c hc
        exact fun z => by rw [← z, hn] at q; cases q
end
def OpX (K : PySem.W.Frag) (G : Str → Option Value) (r : R2) (op : D → D → Option Sl) : Prop :=
  ∀ (x y : D) (s : Sl) (v u : V) (H : Hp) (Q : VK), op x y = some s → Dq K G H v x → Dq K G H u y → Gives K G H s Q → s ≠ .no → r v u H Q
def OpS (K : PySem.W.Frag) (G : Str → Option Value) (r : R2) (op : D → D → Option D) : Prop :=
  ∀ (x y z : D) (v u : V) (H : Hp) (Q : VK), op x y = some z → Dq K G H v x → Dq K G H u y → (∀ v' H', Ext H H' → Dz K G H' v' z → Q v' H') → r v u H Q
def UnS (K : PySem.W.Frag) (G : Str → Option Value) (r : V → Hp → VK → Prop) (op : D → Option D) : Prop :=
  ∀ (x z : D) (v : V) (H : Hp) (Q : VK), op x = some z → Dq K G H v x → (∀ v' H', Ext H H' → Dz K G H' v' z → Q v' H') → r v H Q
def FnX (K : PySem.W.Frag) (G : Str → Option Value) (r : List V → Hp → VK → Prop) (op : List D → Option Sl) : Prop :=
  ∀ (xs : List D) (s : Sl) (vs : List V) (H : Hp) (Q : VK), op xs = some s → DqL K G H vs xs → Gives K G H s Q → s ≠ .no → r vs H Q
def FnS (K : PySem.W.Frag) (G : Str → Option Value) (r : List V → Hp → VK → Prop) (op : List D → Option D) : Prop :=
  ∀ (xs : List D) (z : D) (vs : List V) (H : Hp) (Q : VK), op xs = some z → DqL K G H vs xs → (∀ v' H', Ext H H' → Dz K G H' v' z → Q v' H') → r vs H Q
section
variable {T : Gh} {X : Cx} {f g : M Rv} {fl : M (List Rv)} {a b : Expr} {es : List Expr} {pos p : Pos}
theorem two_imp {r : R2} {W : WX} {σ : L2.St} {H : Hp} {Q : VK} {α : Type} {R : L2.St → Hp → V → α → List Addr → Prop} {k : D → D → M α} (q : tG X.K X.mg T R (m2 k f g) W σ H Q)
    (s : ∀ v u H2 x y, Dq X.K X.mg H2 v x → Dq X.K X.mg H2 u y → Now X.K X.mg T R W σ Q H2 (k x y) → r v u H2 Q) : tOp r (tG X.K X.mg T (RR X.K X.mg) f W) (tG X.K X.mg T (RR X.K X.mg) g W) σ H Q := by
  obtain ⟨ρ, A, rl, p⟩ := two q
  refine ⟨ρ, A, rl, p.mono fun v H1 q1 => ?_⟩
  obtain ⟨ρ1, A1, rl1, p1⟩ := q1
  refine ⟨ρ1, A1, rl1, p1.mono fun u H2 q2 => ?_⟩
  obtain ⟨x, y, dx, dy, n⟩ := q2
  exact s v u H2 x y dx dy n
def mbin (op : D → D → Option D) (f g : M Rv) : M D := m2 (fun x y => mopt (op x y)) f g
def mbinX (op : D → D → Option Sl) (f g : M Rv) : M Sl := m2 (fun x y => mopt ((op x y).bind unown)) f g
theorem de_bin {op : Operator} {r : R2} {g' : D → D → Option D} (ho : OpR X (binaryOp op) r) (s : OpS X.K X.mg r g') (ha : DR T X a f) (hb : DR T X b g) : DE T X (.BinOp a op b pos) (mbin g' f g) :=
  fun W tk => PE.imp (pe_op ho (ha W tk) (hb W tk)) fun σ H Q q => two_imp q fun v u H2 x y dx dy n => by
    obtain ⟨z, e, k⟩ := n.data
    exact s x y z v u H2 Q e dx dy k
theorem dx_bin {op : Operator} {r : R2} {g' : D → D → Option Sl} (ho : OpR X (binaryOp op) r) (s : OpX X.K X.mg r g') (ha : DR T X a f) (hb : DR T X b g) : DX T X (.BinOp a op b pos) (mbinX g' f g) :=
  fun W tk => PE.imp (pe_op ho (ha W tk) (hb W tk)) fun σ H Q q => two_imp q fun v u H2 x y dx dy n => by
    obtain ⟨z, e, nz, k⟩ := n.gives
    exact s x y z v u H2 Q e dx dy k nz
theorem de_cmp {op : CmpOp} {r : R2} {g' : D → D → Option D} (ho : OpR X (compareOp op) r) (s : OpS X.K X.mg r g') (ha : DR T X a f) (hb : DR T X b g) (hm : behindInMarks op b = false := by rfl) : DE T X (.Compare a [op] [b] pos) (mbin g' f g) :=
  fun W tk => PE.imp (pe_cmpR ho (ha W tk) (hb W tk) hm) fun σ H Q q => two_imp q fun v u H2 x y dx dy n => by
    obtain ⟨z, e, k⟩ := n.data
    exact s x y z v u H2 Q e dx dy k
def mun (op : D → Option D) (f : M Rv) : M D := m1 (fun x => mopt (op x)) f
theorem de_un {op : UnaryOp} {r : V → Hp → VK → Prop} {g' : D → Option D} (ho : UnR X (unaryOp op) r) (s : UnS X.K X.mg r g') (ha : DR T X a f) : DE T X (.UnaryOp op a pos) (mun g' f) :=
  fun W tk => PE.imp (pe_un ho (ha W tk)) fun σ H Q q => by
    obtain ⟨ρ, A, rl, p⟩ := one q
    refine ⟨ρ, A, rl, p.mono fun v H1 q1 => ?_⟩
    obtain ⟨x, dx, n⟩ := q1
    obtain ⟨z, e, k⟩ := n.data
    exact s x z v H1 Q e dx k
/-- a built-in function called -/
def mfn (op : List D → Option D) (f : M (List Rv)) : M D := mL (fun xs => mopt (op xs)) f
def mfnX (op : List D → Option Sl) (f : M (List Rv)) : M Sl := mL (fun xs => mopt ((op xs).bind unown)) f
theorem callS_imp {r : List V → Hp → VK → Prop} {g' : List D → Option D} (s : FnS X.K X.mg r g') {W : WX} {σ : L2.St} {H : Hp} {Q : VK} (q : tG X.K X.mg T (RD X.K X.mg) (mfn g' fl) W σ H Q) : tCB r (tG X.K X.mg T (RA X.K X.mg) fl W) σ H Q := by
  obtain ⟨ρ, A, rl, p⟩ := oneL q
  refine ⟨ρ, A, rl, p.mono fun vs H1 q1 => ?_⟩
  obtain ⟨xs, dx, n⟩ := q1
  obtain ⟨z, e, k⟩ := n.data
  exact s xs z vs H1 Q e dx k
theorem callX_imp {r : List V → Hp → VK → Prop} {g' : List D → Option Sl} (s : FnX X.K X.mg r g') {W : WX} {σ : L2.St} {H : Hp} {Q : VK} (q : tG X.K X.mg T (RS X.K X.mg) (mfnX g' fl) W σ H Q) : tCB r (tG X.K X.mg T (RA X.K X.mg) fl W) σ H Q := by
  obtain ⟨ρ, A, rl, p⟩ := oneL q
  refine ⟨ρ, A, rl, p.mono fun vs H1 q1 => ?_⟩
  obtain ⟨xs, dx, n⟩ := q1
  obtain ⟨z, e, nz, k⟩ := n.gives
  exact s xs z vs H1 Q e dx k nz
variable {r : List V → Hp → VK → Prop} {x : Str} {id : String} {e : Expr}
theorem de_callB {g' : List D → Option D} (hc : CallR X (.builtin id) r) (s : FnS X.K X.mg r g') (hg : Gl X x) (hm : X.mg x = none) (hv : bootBuiltins x = some (.builtin id)) (ha : DA T X (e :: es) fl) (hn : x ≠ "__name__" := by decide) (hdb : (x == ("__debug__" : Str)) = false := by decide)
    (he : starEach (e :: es) X.env = (false, eval e X.env) :: starEach es X.env := by rfl) (hpl : (backTo pos (starEach es X.env)).any (·.1) = false := by rfl) : DE T X (.Call (.Name x p) (e :: es) [] pos) (mfn g' fl) :=
  fun W tk => PE.imp (pe_callB hc hg hm hv (ha W tk) hn hdb he hpl) fun σ H Q q => callS_imp s q
theorem dx_callB {g' : List D → Option Sl} (hc : CallR X (.builtin id) r) (s : FnX X.K X.mg r g') (hg : Gl X x) (hm : X.mg x = none) (hv : bootBuiltins x = some (.builtin id)) (ha : DA T X (e :: es) fl) (hn : x ≠ "__name__" := by decide) (hdb : (x == ("__debug__" : Str)) = false := by decide)
    (he : starEach (e :: es) X.env = (false, eval e X.env) :: starEach es X.env := by rfl) (hpl : (backTo pos (starEach es X.env)).any (·.1) = false := by rfl) : DX T X (.Call (.Name x p) (e :: es) [] pos) (mfnX g' fl) :=
  fun W tk => PE.imp (pe_callB hc hg hm hv (ha W tk) hn hdb he hpl) fun σ H Q q => callX_imp s q
theorem de_callTy {g' : List D → Option D} (hc : CallR X (.type id) r) (s : FnS X.K X.mg r g') (hg : Gl X x) (hm : X.mg x = none) (hv : bootBuiltins x = some (.type id)) (ha : DA T X (e :: es) fl) (hn : x ≠ "__name__" := by decide) (hdb : (x == ("__debug__" : Str)) = false := by decide)
    (he : starEach (e :: es) X.env = (false, eval e X.env) :: starEach es X.env := by rfl) (hpl : (backTo pos (starEach es X.env)).any (·.1) = false := by rfl) : DE T X (.Call (.Name x p) (e :: es) [] pos) (mfn g' fl) :=
  fun W tk => PE.imp (pe_callTy hc hg hm hv (ha W tk) hn hdb he hpl) fun σ H Q q => callS_imp s q
theorem dx_callTy {g' : List D → Option Sl} (hc : CallR X (.type id) r) (s : FnX X.K X.mg r g') (hg : Gl X x) (hm : X.mg x = none) (hv : bootBuiltins x = some (.type id)) (ha : DA T X (e :: es) fl) (hn : x ≠ "__name__" := by decide) (hdb : (x == ("__debug__" : Str)) = false := by decide)
    (he : starEach (e :: es) X.env = (false, eval e X.env) :: starEach es X.env := by rfl) (hpl : (backTo pos (starEach es X.env)).any (·.1) = false := by rfl) : DX T X (.Call (.Name x p) (e :: es) [] pos) (mfnX g' fl) :=
  fun W tk => PE.imp (pe_callTy hc hg hm hv (ha W tk) hn hdb he hpl) fun σ H Q q => callX_imp s q
end
/-! ### tests -/
section
variable {T : Gh} {X : Cx} {f g h : M D} {a b c : Expr} {es : List Expr} {pos : Pos} {t u : M Bool}
def mtst (f : M D) : M Bool := mbind f fun d => match d with
  | .bl b => mpure b
  | _ => fun _ => .no
theorem dt_val (ha : DE T X a f) (he : ∀ whole, isTrue a X.env whole = (do let v ← whole; standAt a.pos; holding [v] (truthy v)) := by intro _; rfl) : DT T X a (mtst f) := fun W tk => PT.imp (pt_val (ha W tk) he) fun σ H Q q => by
  obtain ⟨ρ, A, rl, p⟩ := q
  refine ⟨ρ, A, rl, p.seq fun v d ρ1 H1 A1 A' st r1 rd nd p => ?_⟩
  obtain ⟨rfl, dz⟩ := rd
  cases dz with
  | bl b => exact ⟨b, rfl, p b H1 [] A' st r1 ⟨rfl, rfl⟩ nd⟩
  | _ => exact p.elim
end
end ME
namespace ME
open PySem PySem.Spec PyProof.Rows L2 LamX
section
variable {α β γ : Type}
theorem mbind_assoc (f : M α) (g : α → M β) (h : β → M γ) : mbind (mbind f g) h = mbind f fun a => mbind (g a) h := by
  funext ρ
  unfold mbind
  cases f ρ <;> rfl
theorem mbind_pure (a : α) (g : α → M β) : mbind (mpure a) g = g a := rfl
theorem m1_bind (k : D → M α) (f : M Rv) (h : α → M β) : mbind (m1 k f) h = m1 (fun x => mbind (k x) h) f := by
  unfold m1
  rw [mbind_assoc]
  congr 1; funext r
  rw [mbind_assoc]
theorem m2_bind (k : D → D → M α) (f g : M Rv) (h : α → M β) : mbind (m2 k f g) h = m2 (fun x y => mbind (k x y) h) f g := by
  unfold m2
  rw [mbind_assoc]
  congr 1; funext r
  rw [mbind_assoc]
  congr 1; funext s
  rw [mbind_assoc]
  congr 1; funext x
  rw [mbind_assoc]
theorem mL_bind (k : List D → M α) (f : M (List Rv)) (h : α → M β) : mbind (mL k f) h = mL (fun x => mbind (k x) h) f := by
  unfold mL
  rw [mbind_assoc]
  congr 1; funext r
  rw [mbind_assoc]
end
/-- .. whatever the whole of the test is -/
def DW (T : Gh) (X : Cx) (e : Expr) (f : M Bool) : Prop := ∀ W, L2N.Takes X W → PW X e (tG X.K X.mg T RT f W)
theorem PW.imp {X : Cx} {e : Expr} {t u : TT} (h : PW X e t) (i : ∀ σ H Q, u σ H Q → t σ H Q) : PW X e u := ⟨fun wh pins s σ H Q I q => h.run wh pins s σ H Q I (i σ H Q q)⟩
section
variable {T : Gh} {X : Cx} {f g h : M Rv} {a b c : Expr} {es rest : List Expr} {pos : Pos} {t u : M Bool} {fa fb : M D}
def asB : D → Option Bool
  | .bl b => some b
  | _ => none
theorem mtst_eq (f : M D) : mtst f = mbind f fun d => mopt (asB d) := by
  unfold mtst
  congr 1; funext d
  cases d <;> rfl
theorem dt_cmp {op : CmpOp} {r : R2} {g' : D → D → Option D} (ho : OpR X (compareOp op) r) (s : OpS X.K X.mg r g') (ha : DR T X a f) (hb : DR T X b g) (hm : behindInMarks op b = false := by rfl) : DT T X (.Compare a [op] [b] pos) (mtst (mbin g' f g)) :=
  fun W tk => PT.imp (pt_cmpR ho (ha W tk) (hb W tk) hm) fun σ H Q q => by
    rw [mtst_eq] at q
    unfold mbin at q
    rw [m2_bind] at q
    obtain ⟨ρ, A, rl, p⟩ := two q
    refine ⟨ρ, A, rl, p.mono fun v H1 q1 => ?_⟩
    obtain ⟨ρ1, A1, rl1, p1⟩ := q1
    refine ⟨ρ1, A1, rl1, p1.mono fun u H2 q2 => ?_⟩
    obtain ⟨x, y, dx, dy, n⟩ := q2
    have n' : Now X.K X.mg T RT W σ Q H2 (mopt ((g' x y).bind asB)) := by
      cases e : g' x y with
      | none => rw [e] at n; exact n
      | some z => rw [e] at n; exact n
    obtain ⟨z, e, k⟩ := n'.test
    cases e' : g' x y with
    | none => rw [e'] at e; cases e
    | some d =>
      rw [e'] at e
      cases d with
      | bl b' =>
        cases e
        refine s x y _ v u H2 _ e' dx dy fun v' H' ex dz => ?_
        cases dz
        exact ⟨_, rfl, k H' ex⟩
      | _ => cases e
def mnot (t : M Bool) : M Bool := mbind t fun b => mpure (!b)
theorem dt_not (ha : DT T X a t) : DT T X (.UnaryOp .Not a pos) (mnot t) := fun W tk => PT.imp (pt_not (ha W tk)) fun σ H Q q => by
  obtain ⟨ρ, A, rl, p⟩ := q
  refine ⟨ρ, A, rl, p.seq fun b b' ρ1 H1 A1 A' st r1 rd nd p => ?_⟩
  obtain ⟨rfl, rfl⟩ := rd
  exact p (!b) H1 [] A' st r1 ⟨rfl, rfl⟩ nd
def mand (t u : M Bool) : M Bool := mbind t fun b => if b = true then u else mpure false
def mor (t u : M Bool) : M Bool := mbind t fun b => if b = true then mpure true else u
theorem dw_and1 (ha : DT T X a t) : DW T X (.BoolOp .And [a] pos) t := fun W tk => pw_and1 (ha W tk)
theorem dw_or1 (ha : DT T X a t) : DW T X (.BoolOp .Or [a] pos) t := fun W tk => pw_or1 (ha W tk)
theorem dw_and (ha : DT T X a t) (hb : DW T X (.BoolOp .And (b :: rest) pos) u) : DW T X (.BoolOp .And (a :: b :: rest) pos) (mand t u) := fun W tk => PW.imp (pw_and (ha W tk) (hb W tk)) fun σ H Q q => by
  obtain ⟨ρ, A, rl, p⟩ := q
  refine ⟨ρ, A, rl, p.seq fun b b' ρ1 H1 A1 A' st r1 rd nd p => ?_⟩
  obtain ⟨rfl, rfl⟩ := rd
  have st' : Step A H A' H1 := by simpa using st
  cases b with
  | true =>
    have p' : Post X.K X.mg T RT W σ H A Q (u ρ1) := p
    refine ⟨ρ1, A', r1, ?_⟩
    cases e : u ρ1 with
    | ok z ρ2 => rw [e] at p'; exact fun b H2 B1 B s2 rl2 rd2 nd2 => p' b H2 B1 B (st'.trans s2) rl2 rd2 nd2
    | ex c w ρ2 => rw [e] at p'; exact fun C dx H2 B s2 rl2 gc x => p' C dx H2 B (st'.trans s2) rl2 gc x
    | no => rw [e] at p'; exact p'
  | false => exact p false H1 [] A' st r1 ⟨rfl, rfl⟩ nd
theorem dw_or (ha : DT T X a t) (hb : DW T X (.BoolOp .Or (b :: rest) pos) u) : DW T X (.BoolOp .Or (a :: b :: rest) pos) (mor t u) := fun W tk => PW.imp (pw_or (ha W tk) (hb W tk)) fun σ H Q q => by
  obtain ⟨ρ, A, rl, p⟩ := q
  refine ⟨ρ, A, rl, p.seq fun b b' ρ1 H1 A1 A' st r1 rd nd p => ?_⟩
  obtain ⟨rfl, rfl⟩ := rd
  have st' : Step A H A' H1 := by simpa using st
  cases b with
  | false =>
    have p' : Post X.K X.mg T RT W σ H A Q (u ρ1) := p
    refine ⟨ρ1, A', r1, ?_⟩
    cases e : u ρ1 with
    | ok z ρ2 => rw [e] at p'; exact fun b H2 B1 B s2 rl2 rd2 nd2 => p' b H2 B1 B (st'.trans s2) rl2 rd2 nd2
    | ex c w ρ2 => rw [e] at p'; exact fun C dx H2 B s2 rl2 gc x => p' C dx H2 B (st'.trans s2) rl2 gc x
    | no => rw [e] at p'; exact p'
  | true => exact p true H1 [] A' st r1 ⟨rfl, rfl⟩ nd
theorem dt_w (h : DW T X a t) : DT T X a t := fun W tk => (h W tk).pt
/-- going on from H1, another step of the same wish -/
theorem Post.go {K : PySem.W.Frag} {G : Str → Option Value} {W : WX} {σ : L2.St} {H H1 : Hp} {A A1 : List Addr} {α β : Type} {R : L2.St → Hp → β → α → List Addr → Prop} {Q : β → Hp → Prop} {r : Res α} (st : Step A H A1 H1) (p : Post K G T R W σ H A Q r) : Post K G T R W σ H1 A1 Q r := by
  cases r with
  | ok z ρ2 => exact fun b H2 B1 B s2 rl2 rd2 nd2 => p b H2 B1 B (st.trans s2) rl2 rd2 nd2
  | ex c w ρ2 => exact fun C dx H2 B s2 rl2 gc x => p C dx H2 B (st.trans s2) rl2 gc x
  | no => exact p
/-! ### and, or, not as values -/
def mandV (f g : M D) : M D := mbind f fun d => match d with
  | .bl true => g
  | .bl false => mpure (.bl false)
  | _ => fun _ => .no
def morV (f g : M D) : M D := mbind f fun d => match d with
  | .bl true => mpure (.bl true)
  | .bl false => g
  | _ => fun _ => .no
theorem de_one {op} (ha : DE T X a fa) : DE T X (.BoolOp op [a] pos) fa := fun W tk => pe_one (ha W tk)
theorem de_and (ha : DE T X a fa) (hb : DE T X (.BoolOp .And (b :: rest) pos) fb) : DE T X (.BoolOp .And (a :: b :: rest) pos) (mandV fa fb) := fun W tk => PE.imp (pe_and (ha W tk) (hb W tk)) fun σ H Q q => by
  obtain ⟨ρ, A, rl, p⟩ := q
  refine ⟨ρ, A, rl, p.seq fun v d ρ1 H1 A1 A' st r1 rd nd p => ?_⟩
  obtain ⟨rfl, dz⟩ := rd
  have st' : Step A H A' H1 := by simpa using st
  cases dz with
  | bl b =>
    refine ⟨b, rfl, ?_⟩
    cases b with
    | true => exact ⟨ρ1, A', r1, Post.go st' p⟩
    | false => exact p (.bl false) H1 [] A' st r1 ⟨rfl, .bl false⟩ nd
  | _ => exact p.elim
theorem de_or (ha : DE T X a fa) (hb : DE T X (.BoolOp .Or (b :: rest) pos) fb) : DE T X (.BoolOp .Or (a :: b :: rest) pos) (morV fa fb) := fun W tk => PE.imp (pe_or (ha W tk) (hb W tk)) fun σ H Q q => by
  obtain ⟨ρ, A, rl, p⟩ := q
  refine ⟨ρ, A, rl, p.seq fun v d ρ1 H1 A1 A' st r1 rd nd p => ?_⟩
  obtain ⟨rfl, dz⟩ := rd
  have st' : Step A H A' H1 := by simpa using st
  cases dz with
  | bl b =>
    refine ⟨b, rfl, ?_⟩
    cases b with
    | false => exact ⟨ρ1, A', r1, Post.go st' p⟩
    | true => exact p (.bl true) H1 [] A' st r1 ⟨rfl, .bl true⟩ nd
  | _ => exact p.elim
def mnotV (f : M D) : M D := mbind f fun d => match d with
  | .bl b => mpure (.bl (!b))
  | _ => fun _ => .no
theorem de_not (ha : DE T X a fa) : DE T X (.UnaryOp .Not a pos) (mnotV fa) := fun W tk => PE.imp (pe_not (ha W tk)) fun σ H Q q => by
  obtain ⟨ρ, A, rl, p⟩ := q
  refine ⟨ρ, A, rl, p.seq fun v d ρ1 H1 A1 A' st r1 rd nd p => ?_⟩
  obtain ⟨rfl, dz⟩ := rd
  cases dz with
  | bl b => exact ⟨b, rfl, p (.bl (!b)) H1 [] A' st r1 ⟨rfl, .bl _⟩ nd⟩
  | _ => exact p.elim
/-! ### a if t else b -/
def mif {α : Type} (t : M Bool) (f g : M α) : M α := mbind t fun b => if b = true then f else g
theorem de_if (hc : DT T X c t) (ha : DE T X a fa) (hb : DE T X b fb) : DE T X (.IfExp c a b pos) (mif t fa fb) := fun W tk => PE.imp (pe_ifExp (hc W tk) (ha W tk) (hb W tk)) fun σ H Q q => by
  obtain ⟨ρ, A, rl, p⟩ := q
  refine ⟨ρ, A, rl, p.seq fun b b' ρ1 H1 A1 A' st r1 rd nd p => ?_⟩
  obtain ⟨rfl, rfl⟩ := rd
  have st' : Step A H A' H1 := by simpa using st
  cases b with
  | true => exact ⟨ρ1, A', r1, Post.go st' p⟩
  | false => exact ⟨ρ1, A', r1, Post.go st' p⟩
theorem dx_if {fa fb : M Sl} (hc : DT T X c t) (ha : DX T X a fa) (hb : DX T X b fb) : DX T X (.IfExp c a b pos) (mif t fa fb) := fun W tk => PE.imp (pe_ifExp (hc W tk) (ha W tk) (hb W tk)) fun σ H Q q => by
  obtain ⟨ρ, A, rl, p⟩ := q
  refine ⟨ρ, A, rl, p.seq fun b b' ρ1 H1 A1 A' st r1 rd nd p => ?_⟩
  obtain ⟨rfl, rfl⟩ := rd
  have st' : Step A H A' H1 := by simpa using st
  cases b with
  | true => exact ⟨ρ1, A', r1, Post.go st' p⟩
  | false => exact ⟨ρ1, A', r1, Post.go st' p⟩
/-! ### a chain a < b < c -/
def mchain (g1 g2 : D → D → Option D) (f g h : M Rv) : M D := mbind f fun r => mbind g fun s => mbind (muse r) fun x => mbind (muse s) fun y => mbind (mopt (g1 x y)) fun z => match z with
  | .bl true => mbind h fun t => mbind (muse s) fun y => mbind (muse t) fun w => mopt (g2 y w)
  | .bl false => mpure (.bl false)
  | _ => fun _ => .no
theorem chain_imp {op op' : CmpOp} {r r' : R2} {g1 g2 : D → D → Option D} (s1 : OpS X.K X.mg r g1) (s2 : OpS X.K X.mg r' g2) {W : WX} {σ : L2.St} {H : Hp} {Q : VK} (q : tG X.K X.mg T (RD X.K X.mg) (mchain g1 g2 f g h) W σ H Q) :
    tChain r r' (tG X.K X.mg T (RR X.K X.mg) f W) (tG X.K X.mg T (RR X.K X.mg) g W) (tG X.K X.mg T (RR X.K X.mg) h W) σ H Q := by
  obtain ⟨ρ, A, rl, p⟩ := q
  refine ⟨ρ, A, rl, p.seq fun v rv ρ1 H1 A1 A' st r1 rd nd p => ?_⟩
  obtain ⟨rfl, ok⟩ := rd
  have st' : Step A H A' H1 := by simpa using st
  refine ⟨ρ1, A', r1, Post.goes st' p fun u sv ρ2 H2 B1 B s2' r2 rd2 nd2 p2 => ?_⟩
  obtain ⟨rfl, ok2⟩ := rd2
  have st2 : Step A' H1 B H2 := by simpa using s2'
  unfold muse at p2
  cases e : rres ρ2 rv with
  | none =>
    have p3 : Post X.K X.mg T (RD X.K X.mg) W σ H A Q (mbind (fun ρ => mopt (rres ρ rv) ρ) _ ρ2) := p2
    unfold mbind at p3
    simp only [e, mopt] at p3
    exact p3.elim
  | some x =>
    cases e2 : rres ρ2 sv with
    | none =>
      have p3 : Post X.K X.mg T (RD X.K X.mg) W σ H A Q (mbind (fun ρ => mopt (rres ρ rv) ρ) _ ρ2) := p2
      unfold mbind at p3
      simp only [e, e2, mopt] at p3
      exact p3.elim
    | some y =>
      have p3 : Post X.K X.mg T (RD X.K X.mg) W σ H A Q (mbind (mopt (g1 x y)) (fun z => match z with
        | .bl true => mbind h fun t => mbind (muse sv) fun y => mbind (muse t) fun w => mopt (g2 y w)
        | .bl false => mpure (.bl false)
        | _ => fun _ => .no) ρ2) := by
        have p4 : Post X.K X.mg T (RD X.K X.mg) W σ H A Q (mbind (fun ρ => mopt (rres ρ rv) ρ) _ ρ2) := p2
        unfold mbind at p4
        simp only [e, e2, mopt] at p4
        exact p4
      cases e3 : g1 x y with
      | none => rw [e3] at p3; exact p3.elim
      | some z =>
        rw [e3] at p3
        have dx := (ok.keep (r1.keep st2)).dq r2 e
        have dy := ok2.dq r2 e2
        refine s1 x y z v u H2 _ e3 dx dy fun v' H' ex dz => ?_
        have rl' := r2.ext ex
        have st3 : Step A H B H' := (st'.trans st2).trans ex.step
        cases z with
        | bl b =>
          cases dz
          refine ⟨b, rfl, ?_⟩
          cases b with
          | true =>
            rw [if_pos rfl]
            refine ⟨ρ2, B, rl', Post.goes st3 p3 fun w t ρ4 H4 C1 C s4 r4 rd4 nd4 p5 => ?_⟩
            obtain ⟨rfl, ok4⟩ := rd4
            have st4 : Step B H' C H4 := by simpa using s4
            have p6 : Post X.K X.mg T (RD X.K X.mg) W σ H A Q (mbind (mopt (rres ρ4 sv)) (fun y => mbind (muse t) fun w => mopt (g2 y w)) ρ4) := p5
            cases e5 : rres ρ4 sv with
            | none => rw [e5] at p6; exact p6.elim
            | some y' =>
              rw [e5] at p6
              have p7 : Post X.K X.mg T (RD X.K X.mg) W σ H A Q (mbind (mopt (rres ρ4 t)) (fun w => mopt (g2 y' w)) ρ4) := p6
              cases e6 : rres ρ4 t with
              | none => rw [e6] at p7; exact p7.elim
              | some w' =>
                rw [e6] at p7
                obtain ⟨z', e7, p8⟩ := mopt_some (show Post X.K X.mg T (RD X.K X.mg) W σ H A Q (mopt (g2 y' w') ρ4) from p7)
                exact s2 y' w' z' u w H4 Q e7 (((ok2.keep ex.keep).keep (rl'.keep st4)).dq r4 e5) (ok4.dq r4 e6) fun v2 H5 ex2 dz2 => p8.fin (st3.trans st4) r4 ex2 dz2
          | false =>
            rw [if_neg Bool.false_ne_true]
            exact p3 (.bl false) H' [] B (by simpa using st3) rl' ⟨rfl, .bl false⟩ (by simpa using rl'.nd)
        | _ => exact p3.elim
theorem de_chain {op op' : CmpOp} {r r' : R2} {g1 g2 : D → D → Option D} (ho : OpR X (compareOp op) r) (ho' : OpR X (compareOp op') r') (s1 : OpS X.K X.mg r g1) (s2 : OpS X.K X.mg r' g2) (ha : DR T X a f) (hb : DR T X b g) (hc : DR T X c h)
    (hm : lastMarks [op, op'] [b, c] = false := by with_unfolding_all rfl) : DE T X (.Compare a [op, op'] [b, c] pos) (mchain g1 g2 f g h) := fun W tk => PE.imp (pe_chain ho ho' (ha W tk) (hb W tk) (hc W tk) hm) fun σ H Q q => chain_imp (op := op) (op' := op') s1 s2 q
theorem dt_chain {op op' : CmpOp} {r r' : R2} {g1 g2 : D → D → Option D} (ho : OpR X (compareOp op) r) (ho' : OpR X (compareOp op') r') (s1 : OpS X.K X.mg r g1) (s2 : OpS X.K X.mg r' g2) (ha : DR T X a f) (hb : DR T X b g) (hc : DR T X c h)
    (hm : lastMarks [op, op'] [b, c] = false := by with_unfolding_all rfl) : DT T X (.Compare a [op, op'] [b, c] pos) (mtst (mchain g1 g2 f g h)) := fun W tk => PT.imp (pt_chain ho ho' (ha W tk) (hb W tk) (hc W tk) hm) fun σ H Q q => by
  show tChain r r' (tG X.K X.mg T (RR X.K X.mg) f W) (tG X.K X.mg T (RR X.K X.mg) g W) (tG X.K X.mg T (RR X.K X.mg) h W) σ H fun x H' => ∃ k, x = .bl k ∧ Q k H'
  refine chain_imp (op := op) (op' := op') s1 s2 ?_
  obtain ⟨ρ, A, rl, p⟩ := q
  refine ⟨ρ, A, rl, p.seq fun v d ρ1 H1 A1 A' st r1 rd nd p => ?_⟩
  obtain ⟨rfl, dz⟩ := rd
  cases dz with
  | bl b => exact ⟨b, rfl, p b H1 [] A' st r1 ⟨rfl, rfl⟩ nd⟩
  | _ => exact p.elim
end
end ME
namespace ME
open PySem PySem.Spec PyProof.Rows L2 LamX
/-! ### data as the library's -/
mutual
def D.py : D → Option PyData
  | .non => some .none
  | .bl b => some (.bool b)
  | .int i => some (.int i)
  | .str s => some (.str s)
  | .fn _ => none
  | .tup ds => (D.pyAll ds).map .tuple
  | .lst ds => (D.pyAll ds).map .list
  | .dic _ _ => none
def D.pyAll : List D → Option (List PyData)
  | [] => some []
  | d :: ds => match D.py d with
    | some x => (D.pyAll ds).map (x :: ·)
    | none => none
end
section
variable {K : PySem.W.Frag} {G : Str → Option Value} {H : Hp}
mutual
theorem Dz.dp : ∀ {d : D} {v : V} {x : PyData}, Dz K G H v d → d.py = some x → Dp K H v x
  | _, _, _, .non, e => by cases e; exact .non
  | _, _, _, .bl b, e => by cases e; exact .bl b
  | _, _, _, .int i, e => by cases e; exact .int i
  | _, _, _, .str s, e => by cases e; exact .str s
  | _, _, _, .fn h, e => by cases e
  | _, _, _, .dic _ _ _, e => by
    have e' : (none : Option PyData) = some _ := e
    cases e'
  | _, _, _, .tup (ds := ds) h _ l, e => by
    have e' : (D.pyAll ds).map PyData.tuple = some _ := e
    cases q : D.pyAll ds with
    | none => rw [q] at e'; cases e'
    | some xs => rw [q] at e'; cases e'; exact .tup h (DzL.dp l q)
  | _, _, _, .lst (ds := ds) h _ l, e => by
    have e' : (D.pyAll ds).map PyData.list = some _ := e
    cases q : D.pyAll ds with
    | none => rw [q] at e'; cases e'
    | some xs => rw [q] at e'; cases e'; exact .lst (.inl h.rd) (DzL.dp l q)
theorem DzL.dp : ∀ {ds : List D} {vs : List V} {xs : List PyData}, DzL K G H vs ds → D.pyAll ds = some xs → DpAll K H vs xs
  | _, _, _, .nil, e => by cases e; exact .nil
  | _, _, _, .cons (d := d) (ds := ds) h l, e => by
    have e' : (match D.py d with
      | some x => (D.pyAll ds).map (x :: ·)
      | none => none) = some _ := e
    cases q : D.py d with
    | none => rw [q] at e'; cases e'
    | some x =>
      rw [q] at e'
      have e2 : (D.pyAll ds).map (x :: ·) = some _ := e'
      cases q2 : D.pyAll ds with
      | none => rw [q2] at e2; cases e2
      | some xs => rw [q2] at e2; cases e2; exact .cons (Dz.dp h q) (DzL.dp l q2)
end
theorem Dq.dp {d : D} {v : V} {x : PyData} (h : Dq K G H v d) (e : d.py = some x) : Dp K H v x := by
  rcases h with h | ⟨a, vs, ds, rfl, rfl, hl, _, l⟩
  · exact h.dp e
  · have e' : (D.pyAll ds).map PyData.list = some _ := e
    cases q : D.pyAll ds with
    | none => rw [q] at e'; cases e'
    | some xs => rw [q] at e'; cases e'; exact .lst (.inl (.inl hl)) (l.dp q)
theorem Dq.int {v : V} {i : Int} (h : Dq K G H v (.int i)) : v = .int i := by
  rcases h with h | ⟨_, _, _, _, e, _, _⟩
  · cases h; rfl
  · cases e
theorem Dq.str {v : V} {i : Str} (h : Dq K G H v (.str i)) : v = .str i := by
  rcases h with h | ⟨_, _, _, _, e, _, _⟩
  · cases h; rfl
  · cases e
theorem Dq.bl {v : V} {i : Bool} (h : Dq K G H v (.bl i)) : v = .bl i := by
  rcases h with h | ⟨_, _, _, _, e, _, _⟩
  · cases h; rfl
  · cases e
theorem Dq.non {v : V} (h : Dq K G H v .non) : v = .non := by
  rcases h with h | ⟨_, _, _, _, e, _, _⟩
  · cases h; rfl
  · cases e
theorem Dq.tup {v : V} {ds : List D} (h : Dq K G H v (.tup ds)) : ∃ a vs, v = .ref a ∧ SqT K H a vs ∧ DzL K G H vs ds ∧ ds.length ≤ sizeLine := by
  rcases h with h | ⟨_, _, _, _, e, _, _⟩
  · cases h with
    | tup h z l => exact ⟨_, _, rfl, h, l, by rw [← l.length]; exact z⟩
  · cases e
theorem Dq.lst {v : V} {ds : List D} (h : Dq K G H v (.lst ds)) : ∃ a vs, v = .ref a ∧ Rd H a (.lst vs) ∧ DzL K G H vs ds ∧ ds.length ≤ sizeLine := by
  rcases h with h | ⟨a, vs, ds', rfl, e, hl, z, l⟩
  · cases h with
    | lst h z l => exact ⟨_, _, rfl, h.rd, l, by rw [← l.length]; exact z⟩
  · cases e; exact ⟨a, vs, rfl, .inl hl, l, by rw [← l.length]; exact z⟩
theorem Dq.dzT {v : V} {ds : List D} (h : Dq K G H v (.tup ds)) : Dz K G H v (.tup ds) := by
  rcases h with h | ⟨_, _, _, _, e, _, _⟩
  · exact h
  · cases e
end
/-! ### operators -/
def aInt (f : Int → Int → Int) : D → D → Option D
  | .int i, .int j => some (.int (f i j))
  | _, _ => none
def aIntC (C : Int → Int → Prop) [∀ i j, Decidable (C i j)] (f : Int → Int → Int) : D → D → Option D
  | .int i, .int j => if C i j then some (.int (f i j)) else none
  | _, _ => none
def aCmp (f : Int → Int → Bool) : D → D → Option D
  | .int i, .int j => some (.bl (f i j))
  | _, _ => none
section
variable {K : PySem.W.Frag} {G : Str → Option Value}
theorem s_int (f : Int → Int → Int) : OpS K G (rI0 fun i j => .int (f i j)) (aInt f) := by
  intro x y z v u H Q e dx dy k
  cases x <;> cases y <;> cases e
  rw [dx.int, dy.int]
  exact ⟨_, _, rfl, rfl, k _ H Ext.refl (.int _)⟩
theorem s_intC (C : Int → Int → Prop) [∀ i j, Decidable (C i j)] (f : Int → Int → Int) : OpS K G (rI C fun i j => .int (f i j)) (aIntC C f) := by
  intro x y z v u H Q e dx dy k
  cases x <;> cases y <;> first | cases e | skip
  rename_i i j
  have e' : (if C i j then some (D.int (f i j)) else none) = some z := e
  by_cases c : C i j
  · rw [if_pos c] at e'; cases e'
    rw [dx.int, dy.int]
    exact ⟨_, _, rfl, rfl, c, k _ H Ext.refl (.int _)⟩
  · rw [if_neg c] at e'; cases e'
theorem s_cmp (f : Int → Int → Bool) : OpS K G (rI0 fun i j => .bl (f i j)) (aCmp f) := by
  intro x y z v u H Q e dx dy k
  cases x <;> cases y <;> cases e
  rw [dx.int, dy.int]
  exact ⟨_, _, rfl, rfl, k _ H Ext.refl (.bl _)⟩
end
instance (i j : Int) : Decidable (CDiv i j) := by unfold CDiv; infer_instance
instance (i j : Int) : Decidable (CPow i j) := by unfold CPow; infer_instance
instance (i j : Int) : Decidable (CMul i j) := by unfold CMul; infer_instance
abbrev aSub := aInt (· - ·)
abbrev aFdiv := aIntC CDiv (· / ·)
abbrev aMod := aIntC (fun _ j => 0 < j) (· % ·)
abbrev aPow := aIntC CPow fun i j => i ^ j.toNat
abbrev aShl := aIntC CPow fun i j => i * 2 ^ j.toNat
abbrev aShr := aIntC (fun _ j => 0 ≤ j) fun i j => i / 2 ^ j.toNat
abbrev aAnd := aInt Builtin.bitAnd
abbrev aOr := aInt Builtin.bitOr
abbrev aLt := aCmp fun i j => decide (i < j)
abbrev aLe := aCmp fun i j => decide (i ≤ j)
abbrev aGt := aCmp fun i j => decide (j < i)
abbrev aGe := aCmp fun i j => decide (j ≤ i)
/-- + : ints, texts, tuples, lists -/
def aAdd : D → D → Option Sl
  | .int i, .int j => some (.fz (.int (i + j)))
  | .str a, .str b => if a.length + b.length ≤ sizeLine then some (.fz (.str (a ++ b))) else none
  | .tup xs, .tup ys => if xs.length + ys.length ≤ sizeLine then some (.fz (.tup (xs ++ ys))) else none
  | .lst xs, .lst ys => if xs.length + ys.length ≤ sizeLine then some (.ow false (xs ++ ys)) else none
  | _, _ => none
section
variable {X : Cx}
theorem ext_new {K : PySem.W.Frag} {G : Str → Option Value} {H : Hp} {p : Addr} {vs : List V} {ds : List D} (n : H p = none) (z : ds.length ≤ sizeLine) (l : DzL K G H vs ds) : Ext H (upd H p (.tup vs)) ∧ Dz K G (upd H p (.tup vs)) (.ref p) (.tup ds) :=
  ⟨Ext.upd n, .tup (.inl (.inl upd_same)) (by rw [l.length]; exact z) (l.keep (Ext.upd n).keep)⟩
theorem ext_newL {K : PySem.W.Frag} {G : Str → Option Value} {H : Hp} {p : Addr} {vs : List V} {ds : List D} (n : H p = none) (l : DzL K G H vs ds) : Ext H (upd H p (.lst vs)) ∧ upd H p (.lst vs) p = some (.lst vs) ∧ DzL K G (upd H p (.lst vs)) vs ds :=
  ⟨Ext.upd n, upd_same, l.keep (Ext.upd n).keep⟩
/-- a list that may be read: its very object -/
theorem Inv.lstR {pins : List (Addr × Obj)} {σ : L2.St} {H : Hp} {s : Shared} {l : Addr} {xs : List V} (I : Inv X pins σ H s) (hH : Rd H l (.lst xs)) : xs.length ≤ sizeLine ∧ ∃ (its : List Value) (n : Nat), Vals xs its ∧ xs.length = its.length ∧ s.heap.get? l = some { cls := .type "list", data := .seq its.toArray n } := by
  obtain ⟨z, its, n, r, e⟩ := hH.ok I.hok
  exact ⟨z, its, n, r, r.length, e⟩
def rCatR : R2 := fun x y H Q => ∃ l b xs zs, x = .ref l ∧ y = .ref b ∧ Rd H l (.lst xs) ∧ Rd H b (.lst zs) ∧ xs.length + zs.length ≤ sizeLine ∧ ∀ p, H p = none → Q (.ref p) (upd H p (.lst (xs ++ zs)))
theorem op_catR : OpR X (binaryOp .Add) rCatR := by
  intro pins s σ H x y v u Q I rx ry h
  obtain ⟨l, b, xs, zs, rfl, rfl, hH, hB, hz, q⟩ := h
  cases rx
  cases ry
  obtain ⟨z, its, n, r, hl, e⟩ := Inv.lstR I hH
  obtain ⟨z2, its2, n2, r2, hl2, e2⟩ := Inv.lstR I hB
  refine PySem.P.add_list e e2 ?_ (by rw [List.size_toArray, List.size_toArray]; omega)
  have ea : its.toArray ++ its2.toArray = (its ++ its2).toArray := by simp
  rw [ea]
  exact ⟨.ref _, _, I.lnew (t' := s.toks) (r.append r2) (by rw [List.length_append]; omega), rfl, q _ I.fresh⟩
abbrev rAddA (K : PySem.W.Frag) : R2 := fun x y H Q => rI0 (fun i j => .int (i + j)) x y H Q ∨ (∃ i j, x = .str i ∧ y = .str j ∧ i.length + j.length ≤ sizeLine ∧ Q (.str (i ++ j)) H) ∨ rCatA K x y H Q ∨ rCatR x y H Q
theorem op_addA : OpR X (binaryOp .Add) (rAddA X.K) := OpR.or op_add (OpR.or op_add_str (OpR.or op_catA op_catR))
theorem s_addA {K : PySem.W.Frag} {G : Str → Option Value} : OpX K G (rAddA K) aAdd := by
  intro x y s v u H Q e dx dy k nz
  cases x <;> cases y <;> first | cases e | skip
  · rw [dx.int, dy.int]
    exact .inl ⟨_, _, rfl, rfl, k _ H Ext.refl (.int _)⟩
  · rename_i a b
    have e' : (if a.length + b.length ≤ sizeLine then some (Sl.fz (.str (a ++ b))) else none) = some s := e
    by_cases c : a.length + b.length ≤ sizeLine
    · rw [if_pos c] at e'; cases e'
      rw [dx.str, dy.str]
      exact .inr (.inl ⟨_, _, rfl, rfl, c, k _ H Ext.refl (.str _)⟩)
    · rw [if_neg c] at e'; cases e'
  · rename_i xs ys
    have e' : (if xs.length + ys.length ≤ sizeLine then some (Sl.fz (.tup (xs ++ ys))) else none) = some s := e
    by_cases c : xs.length + ys.length ≤ sizeLine
    · rw [if_pos c] at e'; cases e'
      obtain ⟨a, vs, rfl, ha, la, za⟩ := dx.tup
      obtain ⟨b, us, rfl, hb, lb, zb⟩ := dy.tup
      refine .inr (.inr (.inl ⟨a, b, vs, us, rfl, rfl, ha, hb, by rw [la.length, lb.length]; exact c, fun z => ?_, fun z z2 => ?_, fun z z2 p n => ?_⟩))
      · subst z; cases la; exact k _ H Ext.refl (.tup hb (by rw [lb.length]; exact zb) lb)
      · subst z2; cases lb; rw [List.append_nil] at k; exact k _ H Ext.refl (.tup ha (by rw [la.length]; exact za) la)
      · exact k _ _ (Ext.upd n) (ext_new n (by rw [List.length_append]; exact c) (la.append lb)).2
    · rw [if_neg c] at e'; cases e'
  · rename_i xs ys
    have e' : (if xs.length + ys.length ≤ sizeLine then some (Sl.ow false (xs ++ ys)) else none) = some s := e
    by_cases c : xs.length + ys.length ≤ sizeLine
    · rw [if_pos c] at e'; cases e'
      obtain ⟨a, vs, rfl, ha, la, za⟩ := dx.lst
      obtain ⟨b, us, rfl, hb, lb, zb⟩ := dy.lst
      refine .inr (.inr (.inr ⟨a, b, vs, us, rfl, rfl, ha, hb, by rw [la.length, lb.length]; exact c, fun p n => ?_⟩))
      exact k p _ _ (Ext.upd n) n upd_same (by rw [List.length_append]; exact c) ((la.append lb).keep (Ext.upd n).keep)
    · rw [if_neg c] at e'; cases e'
/-! ### == -/
def dEq (x y : D) : Option Bool := match x.py, y.py with
  | some a, some b => if SeqAt.shaped a && SeqAt.shaped b then some (PyData.eqv a b) else none
  | _, _ => none
def aEq (x y : D) : Option D := (dEq x y).map .bl
def aNe (x y : D) : Option D := (dEq x y).map fun b => .bl (!b)
theorem dEq_some {x y : D} {c : Bool} (e : dEq x y = some c) : ∃ a b, x.py = some a ∧ y.py = some b ∧ SeqAt.shaped a = true ∧ SeqAt.shaped b = true ∧ c = PyData.eqv a b := by
  unfold dEq at e
  split at e
  · rename_i a b h1 h2
    split at e
    · rename_i h3
      cases e
      obtain ⟨h4, h5⟩ := Bool.and_eq_true_iff.mp h3
      exact ⟨a, b, h1, h2, h4, h5, rfl⟩
    · cases e
  · cases e
theorem s_eq {K : PySem.W.Frag} {G : Str → Option Value} : OpS K G (rEqD K) aEq := by
  intro x y z v u H Q e dx dy k
  unfold aEq at e
  obtain ⟨c, e1, e2⟩ := Option.map_eq_some_iff.mp e
  obtain ⟨a, b, h1, h2, h3, h4, rfl⟩ := dEq_some e1
  subst e2
  exact ⟨a, b, dx.dp h1, dy.dp h2, h3, h4, k _ H Ext.refl (.bl _)⟩
theorem s_ne {K : PySem.W.Frag} {G : Str → Option Value} : OpS K G (rNeD K) aNe := by
  intro x y z v u H Q e dx dy k
  unfold aNe at e
  obtain ⟨c, e1, e2⟩ := Option.map_eq_some_iff.mp e
  obtain ⟨a, b, h1, h2, h3, h4, rfl⟩ := dEq_some e1
  subst e2
  exact ⟨a, b, dx.dp h1, dy.dp h2, h3, h4, k _ H Ext.refl (.bl _)⟩
/-! ### is None -/
def isNon : D → Bool
  | .non => true
  | _ => false
def aIsN : D → D → Option D
  | x, .non => some (.bl (isNon x))
  | _, _ => none
def aNotN : D → D → Option D
  | x, .non => some (.bl (!isNon x))
  | _, _ => none
theorem isNon_v {K : PySem.W.Frag} {G : Str → Option Value} {H : Hp} {v : V} {d : D} (h : Dq K G H v d) : decide (v = .non) = isNon d := by
  rcases h with h | ⟨a, vs, ds, rfl, rfl, _, _, _⟩
  · cases h <;> rfl
  · rfl
theorem s_isN {K : PySem.W.Frag} {G : Str → Option Value} : OpS K G (fun x y H Q => y = .non ∧ Q (.bl (decide (x = .non))) H) aIsN := by
  intro x y z v u H Q e dx dy k
  cases y <;> cases e
  refine ⟨dy.non, ?_⟩
  rw [isNon_v dx]
  exact k _ H Ext.refl (.bl _)
theorem s_notN {K : PySem.W.Frag} {G : Str → Option Value} : OpS K G (fun x y H Q => y = .non ∧ Q (.bl (!decide (x = .non))) H) aNotN := by
  intro x y z v u H Q e dx dy k
  cases y <;> cases e
  refine ⟨dy.non, ?_⟩
  rw [isNon_v dx]
  exact k _ H Ext.refl (.bl _)
/-! ### in -/
def dFlat : D → Bool
  | .non => true
  | .bl _ => true
  | .int _ => true
  | .str _ => true
  | _ => false
def dEqV : D → D → Bool
  | .non, .non => true
  | .bl a, .bl b => a == b
  | .bl a, .int b => (if a then 1 else 0) == b
  | .int a, .bl b => a == (if b then 1 else 0)
  | .int a, .int b => a == b
  | .str a, .str b => a == b
  | _, _ => false
theorem flat_v {K : PySem.W.Frag} {G : Str → Option Value} {H : Hp} {v : V} {d : D} (h : Dq K G H v d) (f : dFlat d = true) : flatV v = true := by
  rcases h with h | ⟨a, vs, ds, rfl, rfl, _, _, _⟩
  · cases h <;> first | rfl | cases f
  · cases f
theorem eqV_v {K : PySem.W.Frag} {G : Str → Option Value} {H : Hp} {v u : V} {d e : D} (h : Dq K G H v d) (k : Dq K G H u e) (f : dFlat d = true) (g : dFlat e = true) : eqV v u = dEqV d e := by
  cases d <;> first | cases f | skip
  all_goals cases e <;> first | cases g | skip
  all_goals first
    | rw [h.non] | rw [h.bl] | rw [h.int] | rw [h.str]
  all_goals first
    | (rw [k.non]; rfl) | (rw [k.bl]; rfl) | (rw [k.int]; rfl) | (rw [k.str]; rfl)
theorem flat_vs {K : PySem.W.Frag} {G : Str → Option Value} {H : Hp} : ∀ {vs : List V} {ds : List D}, DzL K G H vs ds → ds.all dFlat = true → vs.all flatV = true
  | _, _, .nil, _ => rfl
  | _, _, .cons h l, f => by
    rw [List.all_cons, Bool.and_eq_true] at f
    rw [List.all_cons, flat_v (.inl h) f.1, flat_vs l f.2]; rfl
theorem any_vs {K : PySem.W.Frag} {G : Str → Option Value} {H : Hp} {v : V} {d : D} (hv : Dq K G H v d) (fd : dFlat d = true) : ∀ {vs : List V} {ds : List D}, DzL K G H vs ds → ds.all dFlat = true → inV v vs = ds.any fun y => dEqV y d
  | _, _, .nil, _ => rfl
  | _, _, .cons h l, f => by
    rw [List.all_cons, Bool.and_eq_true] at f
    have ih := any_vs hv fd l f.2
    unfold inV at ih ⊢
    rw [List.any_cons, List.any_cons, ih, eqV_v (.inl h) hv f.1 fd]
/-- x in y: items that are flat; one sign of a text -/
def dIn (x y : D) : Option Bool := match y with
  | .tup ds => if dFlat x && ds.all dFlat then some (ds.any fun y => dEqV y x) else none
  | .lst ds => if dFlat x && ds.all dFlat then some (ds.any fun y => dEqV y x) else none
  | .str z => match x with
    | .str ⟨⟨[c]⟩⟩ => some (decide (c ∈ z.cps.toList))
    | _ => none
  | _ => none
def aIn (x y : D) : Option D := (dIn x y).map .bl
def aNotIn (x y : D) : Option D := (dIn x y).map fun b => .bl (!b)
abbrev rInA (K : PySem.W.Frag) : R2 := fun x y H Q => rIn K false x y H Q ∨ (∃ (c : Nat) (z : Str), x = .str ⟨#[c]⟩ ∧ y = .str z ∧ Q (.bl (decide (c ∈ z.cps.toList))) H)
abbrev rNotInA (K : PySem.W.Frag) : R2 := fun x y H Q => rIn K true x y H Q ∨ (∃ (c : Nat) (z : Str), x = .str ⟨#[c]⟩ ∧ y = .str z ∧ Q (.bl (!decide (c ∈ z.cps.toList))) H)
theorem op_inA : OpR X (compareOp .In) (rInA X.K) := OpR.or op_in_seq op_in_sign
theorem op_notInA : OpR X (compareOp .NotIn) (rNotInA X.K) := OpR.or op_notIn_seq op_notIn_sign
theorem dIn_some {K : PySem.W.Frag} {G : Str → Option Value} {H : Hp} {v u : V} {x y : D} {c : Bool} (e : dIn x y = some c) (dx : Dq K G H v x) (dy : Dq K G H u y) :
    (∃ p xs, u = .ref p ∧ (SqL K H p xs ∨ SqT K H p xs) ∧ flatV v = true ∧ xs.all flatV = true ∧ inV v xs = c) ∨ ∃ (k : Nat) (z : Str), v = .str ⟨#[k]⟩ ∧ u = .str z ∧ decide (k ∈ z.cps.toList) = c := by
  unfold dIn at e
  split at e
  · rename_i ds
    split at e
    · rename_i h
      cases e
      obtain ⟨h1, h2⟩ := Bool.and_eq_true_iff.mp h
      obtain ⟨a, vs, rfl, ha, la, za⟩ := dy.tup
      exact .inl ⟨a, vs, rfl, .inr ha, flat_v dx h1, flat_vs la h2, any_vs dx h1 la h2⟩
    · cases e
  · rename_i ds
    split at e
    · rename_i h
      cases e
      obtain ⟨h1, h2⟩ := Bool.and_eq_true_iff.mp h
      obtain ⟨a, vs, rfl, ha, la, za⟩ := dy.lst
      exact .inl ⟨a, vs, rfl, .inl (.inl ha), flat_v dx h1, flat_vs la h2, any_vs dx h1 la h2⟩
    · cases e
  · rename_i z
    split at e
    · rename_i c
      cases e
      exact .inr ⟨c, z, dx.str, dy.str, rfl⟩
    · cases e
  · cases e
theorem s_in {K : PySem.W.Frag} {G : Str → Option Value} : OpS K G (rInA K) aIn := by
  intro x y z v u H Q e dx dy k
  unfold aIn at e
  obtain ⟨c, e1, rfl⟩ := Option.map_eq_some_iff.mp e
  have kk := k (.bl c) H Ext.refl (.bl _)
  rcases dIn_some e1 dx dy with ⟨p, xs, h1, h2, h3, h4, h5⟩ | ⟨n, t, h1, h2, h3⟩
  · refine .inl ⟨p, xs, h1, h2, h3, h4, ?_⟩
    rw [h5]; exact kk
  · refine .inr ⟨n, t, h1, h2, ?_⟩
    rw [h3]; exact kk
theorem s_notIn {K : PySem.W.Frag} {G : Str → Option Value} : OpS K G (rNotInA K) aNotIn := by
  intro x y z v u H Q e dx dy k
  unfold aNotIn at e
  obtain ⟨c, e1, rfl⟩ := Option.map_eq_some_iff.mp e
  have kk := k (.bl (!c)) H Ext.refl (.bl _)
  rcases dIn_some e1 dx dy with ⟨p, xs, h1, h2, h3, h4, h5⟩ | ⟨n, t, h1, h2, h3⟩
  · refine .inl ⟨p, xs, h1, h2, h3, h4, ?_⟩
    rw [h5]; exact kk
  · refine .inr ⟨n, t, h1, h2, ?_⟩
    rw [h3]; exact kk
/-! ### a[i] -/
def dIx (x y : D) : Option D := match x, y with
  | .tup ds, .int i => atI ds i
  | .lst ds, .int i => atI ds i
  | .str z, .int i => if z.length ≤ sizeLine then (atI z.cps.toList i).map fun c => .str ⟨#[c]⟩ else none
  | _, _ => none
theorem DzL.atI {K : PySem.W.Frag} {G : Str → Option Value} {H : Hp} {vs : List V} {ds : List D} {i : Int} {d : D} (l : DzL K G H vs ds) (e : L2.atI ds i = some d) : ∃ v, L2.atI vs i = some v ∧ Dz K G H v d := by
  unfold L2.atI at e ⊢
  obtain ⟨j, e1, e2⟩ := Option.bind_eq_some_iff.mp e
  obtain ⟨v, e3, e4⟩ := l.get e2
  exact ⟨v, Option.bind_eq_some_iff.mpr ⟨j, by rw [l.length]; exact e1, e3⟩, e4⟩
theorem s_ix {K : PySem.W.Frag} {G : Str → Option Value} : OpS K G (rIx K) dIx := by
  intro x y z v u H Q e dx dy k
  cases x <;> cases y <;> first | cases e | skip
  · rename_i a i
    have e' : (if a.length ≤ sizeLine then (L2.atI a.cps.toList i).map fun c => D.str ⟨#[c]⟩ else none) = some z := e
    by_cases c : a.length ≤ sizeLine
    · rw [if_pos c] at e'
      obtain ⟨n, e1, rfl⟩ := Option.map_eq_some_iff.mp e'
      rw [dx.str, dy.int]
      exact .inr (.inr ⟨a, i, n, rfl, rfl, c, e1, k _ H Ext.refl (.str _)⟩)
    · rw [if_neg c] at e'; cases e'
  · obtain ⟨a, vs, rfl, ha, la, za⟩ := dx.tup
    obtain ⟨w, e1, e2⟩ := DzL.atI la e
    rw [dy.int]
    exact .inr (.inl ⟨a, vs, _, w, rfl, rfl, ha, e1, k _ H Ext.refl e2⟩)
  · obtain ⟨a, vs, rfl, ha, la, za⟩ := dx.lst
    obtain ⟨w, e1, e2⟩ := DzL.atI la e
    rw [dy.int]
    exact .inl ⟨a, vs, _, w, rfl, rfl, .inl ha, e1, k _ H Ext.refl e2⟩
theorem de_ix {T : Gh} {f g : M Rv} {a b : Expr} {pos : Pos} (ha : DR T X a f) (hb : DR T X b g) (hs : PlainIx b) : DE T X (.Subscript a b pos) (mbin dIx f g) :=
  fun W tk => PE.imp (pe_ix ix_seq (ha W tk) (hb W tk) hs) fun σ H Q q => two_imp q fun v u H2 x y dx dy n => by
    obtain ⟨z, e, k⟩ := n.data
    exact s_ix x y z v u H2 Q e dx dy k
end
end ME
namespace ME
open PySem PySem.Spec PyProof.Rows L2 LamX C8
/-! ### data in a row -/
def RN (K : PySem.W.Frag) (G : Str → Option Value) (n : Nat) : L2.St → Hp → List V → List D → List Addr → Prop := fun _ H vs ds A => A = [] ∧ DzL K G H vs ds ∧ vs.length = n
def DL (T : Gh) (X : Cx) (es : List Expr) (n : Nat) (f : M (List D)) : Prop := ∀ W, L2N.Takes X W → PA X es (tG X.K X.mg T (RN X.K X.mg n) f W)
def mlnil : M (List D) := mpure []
def mlcons (f : M D) (g : M (List D)) : M (List D) := mbind f fun d => mbind g fun ds => mpure (d :: ds)
section
variable {T : Gh} {X : Cx} {f : M D} {g : M (List D)} {e : Expr} {es : List Expr} {n : Nat} {pos : Pos}
theorem dl_nil : DL T X [] 0 mlnil := fun W _ => PA.imp pa_nil fun σ H Q q => by
  obtain ⟨ρ, A, rl, p⟩ := q
  exact p [] H [] A Step.refl rl ⟨rfl, .nil, rfl⟩ (by simpa using rl.nd)
theorem dl_cons (h : DE T X e f) (l : DL T X es n g) (hs : starEach (e :: es) X.env = (false, eval e X.env) :: starEach es X.env := by rfl) : DL T X (e :: es) (n + 1) (mlcons f g) :=
  fun W tk => PA.imp (pa_cons (h W tk) (l W tk) hs) fun σ H Q q => by
    obtain ⟨ρ, A, rl, p⟩ := q
    refine ⟨ρ, A, rl, p.seq fun v d ρ1 H1 A1 A' st r1 rd nd p => ?_⟩
    obtain ⟨rfl, dz⟩ := rd
    have st' : Step A H A' H1 := by simpa using st
    refine ⟨ρ1, A', r1, Post.goes st' p fun vs ds ρ2 H2 B1 B s2 r2 rd2 nd2 p2 => ?_⟩
    obtain ⟨rfl, dl, ln⟩ := rd2
    have s2' : Step A' H1 B H2 := by simpa using s2
    exact p2 (v :: vs) H2 [] B (by simpa using st'.trans s2') r2 ⟨rfl, .cons (dz.keep (r1.keep s2')) dl, by rw [List.length_cons, ln]⟩ (by simpa using r2.nd)
/-- (a, b, ..) -/
def mtup (g : M (List D)) : M D := mbind g fun ds => mpure (.tup ds)
theorem de_tup {k : Nat} (h : DL T X es n g) (hn : n ≤ sizeLine := by decide) : DE T X (.Tuple es k pos) (mtup g) := fun W tk => PE.imp (pe_tup (h W tk)) fun σ H Q q => by
  obtain ⟨ρ, A, rl, p⟩ := q
  refine ⟨ρ, A, rl, p.seq fun vs ds ρ1 H1 A1 A' st r1 rd nd p => ?_⟩
  obtain ⟨rfl, dl, ln⟩ := rd
  refine ⟨by rw [ln]; exact hn, fun a na => ?_⟩
  exact Post.fin p (by simpa using st) r1 (Ext.upd na) (ext_new na (by rw [← dl.length, ln]; exact hn) dl).2
/-- [a, b, ..] -/
def mlst (g : M (List D)) : M Sl := mbind g fun ds => mpure (.ow false ds)
theorem Post.newL {K : PySem.W.Frag} {G : Str → Option Value} {W : WX} {σ : L2.St} {H H1 H2 : Hp} {A A1 : List Addr} {ρ : Env} {Q : VK} {ds : List D} {a : Addr} {vs : List V} (p : Post K G T (RS K G) W σ H A Q (.ok (.ow false ds) ρ)) (st : Step A H A1 H1) (rl : Rel K G T σ H1 ρ A1)
    (e : Ext H1 H2) (na : H1 a = none) (ha : H2 a = some (.lst vs)) (z : ds.length ≤ sizeLine) (l : DzL K G H2 vs ds) : Q (.ref a) H2 := by
  refine p _ H2 [a] A1 ?_ (rl.ext e) (.ow ha (by rw [l.length]; exact z) l) ?_
  · refine ⟨(st.trans e.step).fr, fun b hb => ?_, (st.trans e.step).dom⟩
    rcases List.mem_append.mp hb with z | z
    · rw [List.mem_singleton.mp z]; exact .inr (st.dom _ (Nw.none na))
    · exact st.ow b z
  · refine nd_app.mpr ⟨by simp, rl.nd, fun b hb c hc => ?_⟩
    rw [List.mem_singleton.mp hb]
    obtain ⟨us, q⟩ := rl.as.mut c hc
    exact fun z => by rw [← z, na] at q; cases q
theorem dx_lst (h : DL T X es n g) (hn : n ≤ sizeLine := by decide) : DX T X (.List es pos) (mlst g) := fun W tk => PE.imp (pe_lst (h W tk)) fun σ H Q q => by
  obtain ⟨ρ, A, rl, p⟩ := q
  refine ⟨ρ, A, rl, p.seq fun vs ds ρ1 H1 A1 A' st r1 rd nd p => ?_⟩
  obtain ⟨rfl, dl, ln⟩ := rd
  refine ⟨by rw [ln]; exact hn, fun a na => ?_⟩
  exact Post.newL p (by simpa using st) r1 (Ext.upd na) na upd_same (by rw [← dl.length, ln]; exact hn) (dl.keep (Ext.upd na).keep)
/-! ### a list is frozen -/
theorem Tabs.keepN {T : List (Addr × Str)} {H H' : Hp} (t : Tabs T H) (e : ∀ b o, H b = some o → (∀ vs, o ≠ .lst vs) → H' b = some o) : Tabs T H' := fun p hp => by
  obtain ⟨ps, h1, h2, h3⟩ := t p hp
  refine ⟨ps, e _ _ h1 (fun vs z => by cases z), h2, fun pos cv hc => ?_⟩
  obtain ⟨c, e1, e2⟩ := h3 pos cv hc
  exact ⟨c, e1, e _ _ e2 (fun vs z => by unfold CodeO at z; cases z)⟩
theorem frz_keep {H : Hp} {a : Addr} {vs : List V} {o : Obj} (h : H a = some (.lst vs)) : Keep H (upd H a (.frz o (.lst vs))) :=
  ⟨fun b xs e => by rw [upd_ne (fun z => by rw [z, h] at e; cases e)]; exact e, fun b ob u e => by rw [upd_ne (fun z => by rw [z, h] at e; cases e)]; exact e, fun b ob e => by rw [upd_ne (fun z => by rw [z, h] at e; cases e)]; exact e⟩
theorem pe_ghost {t : TE} (h : PE X e t) : PE X e (fun σ H Q => t σ H fun v H1 => Q v H1 ∨ ∃ a vs, H1 a = some (.lst vs) ∧ ∀ od, Q v (upd H1 a (.frz od (.lst vs)))) := by
  refine ⟨fun pins s σ H Q I q => thn (h.run pins s σ H _ I q) fun u s' ⟨v, H1, I1, r, q⟩ => ?_⟩
  rcases q with q | ⟨a, vs, ha, q⟩
  · exact ⟨v, H1, I1, r, q⟩
  · obtain ⟨od, I2⟩ := I1.lock ha trivial
    exact ⟨v, _, I2, r, q od⟩
def mfrz (f : M Sl) : M D := mbind f fun s => match s with
  | .no => fun _ => .no
  | .fz d => mpure d
  | .ow _ ds => mpure (.lst ds)
  | .nt ds => mpure (.tup ds)
  | .exn _ _ _ _ => fun _ => .no
theorem de_frz {f : M Sl} (h : DX T X e f) : DE T X e (mfrz f) := fun W tk => PE.imp (pe_ghost (h W tk)) fun σ H Q q => by
  obtain ⟨ρ, A, rl, p⟩ := q
  refine ⟨ρ, A, rl, p.seq fun v s ρ1 H1 A1 A' st r1 rd nd p => ?_⟩
  cases rd with
  | no => exact p.elim
  | fz dz => exact .inl (Post.fin p (by simpa using st) r1 Ext.refl dz)
  | exn _ _ _ _ => exact p.elim
  | nt h z l => exact .inl (Post.fin p (by simpa using st) r1 Ext.refl (.tup h.sq z l))
  | ow ha hz l =>
    rename_i a vs b ds
    refine .inr ⟨a, vs, ha, fun od => ?_⟩
    obtain ⟨n1, n2, n3⟩ := nd_app.mp nd
    have kp := frz_keep (o := od) ha
    have r2 : Rel X.K X.mg T σ (upd H1 a (.frz od (.lst vs))) ρ1 A' := ⟨r1.as.keep kp fun b hb => upd_ne fun z => n3 a (List.mem_singleton.mpr rfl) b hb z.symm, r1.nd,
      Tabs.keepN r1.tab fun b o e nl => by rw [upd_ne (fun z => by rw [z, ha] at e; cases e; exact nl vs rfl)]; exact e, r1.pro⟩
    have st2 : Step A H A' (upd H1 a (.frz od (.lst vs))) := by
      refine ⟨fun b o e nb nt => ?_, fun b hb => st.ow b (List.mem_append.mpr (.inr hb)), fun b e => ?_⟩
      · have q := st.fr b o e nb nt
        rw [upd_ne (fun z => ?_)]
        · exact q
        · subst z
          rcases st.ow b (List.mem_append.mpr (.inl (List.mem_singleton.mpr rfl))) with y | y
          · exact nb y
          · obtain ⟨ps, q⟩ := y _ e
            exact nt ps q
      · by_cases z : b = a
        · rw [z] at e
          obtain ⟨ps, q⟩ := e _ upd_same
          cases q
        · exact st.dom b fun o q => e o (by rw [upd_ne z]; exact q)
    exact Post.fin p st2 r2 Ext.refl (.lst ⟨od, upd_same⟩ hz (l.keep kp))
/-- data as a slot's content -/
def mfz (f : M D) : M Sl := mbind f fun d => mpure (.fz d)
theorem dx_of {f : M D} (h : DE T X e f) : DX T X e (mfz f) := fun W tk => PE.imp (h W tk) fun σ H Q q => by
  obtain ⟨ρ, A, rl, p⟩ := q
  refine ⟨ρ, A, rl, p.seq fun v d ρ1 H1 A1 A' st r1 rd nd p => ?_⟩
  obtain ⟨rfl, dz⟩ := rd
  exact p v H1 [] A' st r1 (.fz dz) nd
theorem dr_x {f : M Sl} (h : DX T X e f) : DR T X e (mval (mfrz f)) := dr_val (de_frz h)
/-! ### slices -/
def asI : D → Option Int
  | .int i => some i
  | _ => none
def DO (T : Gh) (X : Cx) (e : Option Expr) (f : M (Option Int)) : Prop := ∀ W, L2N.Takes X W → PO X e (tG X.K X.mg T (fun _ _ b c A => A = [] ∧ b = c) f W)
theorem PO.imp {e : Option Expr} {t u : TO} (h : PO X e t) (i : ∀ σ H Q, u σ H Q → t σ H Q) : PO X e u := ⟨fun pins s σ H Q I q => h.run pins s σ H Q I (i σ H Q q)⟩
theorem do_none : DO T X none (mpure none) := fun W _ => PO.imp po_none fun σ H Q q => by
  obtain ⟨ρ, A, rl, p⟩ := q
  exact p none H [] A Step.refl rl ⟨rfl, rfl⟩ (by simpa using rl.nd)
def mpart (f : M D) : M (Option Int) := mbind f fun d => mbind (mopt (asI d)) fun i => mpure (some i)
theorem do_some (h : DE T X e f) : DO T X (some e) (mpart f) := fun W tk => PO.imp (po_some (h W tk)) fun σ H Q q => by
  obtain ⟨ρ, A, rl, p⟩ := q
  refine ⟨ρ, A, rl, p.seq fun v d ρ1 H1 A1 A' st r1 rd nd p => ?_⟩
  obtain ⟨rfl, dz⟩ := rd
  cases dz with
  | int i => exact ⟨i, rfl, p (some i) H1 [] A' st r1 ⟨rfl, rfl⟩ nd⟩
  | _ => exact p.elim
def cutD (ds : List D) (lo hi : Option Int) : List D := (ds.drop (HT.sIx ds.length 0 lo)).take (HT.sIx ds.length ds.length hi - HT.sIx ds.length 0 lo)
def aSl (x : D) (lo hi : Option Int) : Option Sl := match x with
  | .str z => if z.length ≤ sizeLine then some (.fz (.str (Txt.slice z lo hi))) else none
  | .tup ds => some (.fz (.tup (cutD ds lo hi)))
  | .lst ds => some (.ow false (cutD ds lo hi))
  | _ => none
abbrev rSlAll (K : PySem.W.Frag) : V → Option Int → Option Int → Hp → VK → Prop := fun x lo hi H Q => rSlX x lo hi H Q ∨ rSlA K x lo hi H Q ∨ rSlL K x lo hi H Q
theorem sl_all : L2.SlR X (rSlAll X.K) := L2.SlR.or sl_txt (L2.SlR.or sl_tupA sl_list)
theorem DzL.cut {K : PySem.W.Frag} {G : Str → Option Value} {H : Hp} {vs : List V} {ds : List D} {lo hi : Option Int} (l : DzL K G H vs ds) : DzL K G H (cutV vs lo hi) (cutD ds lo hi) := by
  unfold cutV cutD
  rw [l.length]
  exact (l.drop _).take _
theorem cutD_le {ds : List D} {lo hi : Option Int} (h : ds.length ≤ sizeLine) : (cutD ds lo hi).length ≤ sizeLine := by
  unfold cutD
  rw [List.length_take, List.length_drop]
  exact Nat.le_trans (Nat.min_le_right _ _) (Nat.le_trans (Nat.sub_le _ _) h)
theorem s_sl {K : PySem.W.Frag} {G : Str → Option Value} {x : D} {lo hi : Option Int} {s : Sl} {v : V} {H : Hp} {Q : VK} (e : aSl x lo hi = some s) (dx : Dq K G H v x) (k : Gives K G H s Q) : rSlAll K v lo hi H Q := by
  cases x <;> first | cases e | skip
  · rename_i z
    have e' : (if z.length ≤ sizeLine then some (Sl.fz (.str (Txt.slice z lo hi))) else none) = some s := e
    by_cases c : z.length ≤ sizeLine
    · rw [if_pos c] at e'; cases e'
      rw [dx.str]
      exact .inl ⟨z, rfl, c, k _ H Ext.refl (.str _)⟩
    · rw [if_neg c] at e'; cases e'
  · rename_i ds
    obtain ⟨a, vs, rfl, ha, la, za⟩ := dx.tup
    refine .inr (.inl ⟨a, vs, rfl, ha, fun z => ?_, fun z p n => ?_⟩)
    · have e2 : cutD ds lo hi = ds := by
        unfold cutD
        rw [← la.length, z.1, z.2, List.drop_zero, Nat.sub_zero, la.length, List.take_length]
      rw [e2] at k
      exact k _ H Ext.refl (.tup ha (by rw [la.length]; exact za) la)
    · exact k _ _ (Ext.upd n) (ext_new n (cutD_le za) la.cut).2
  · obtain ⟨a, vs, rfl, ha, la, za⟩ := dx.lst
    refine .inr (.inr ⟨a, vs, rfl, .inl ha, fun p n => ?_⟩)
    exact k p _ _ (Ext.upd n) n upd_same (cutD_le za) (la.cut.keep (Ext.upd n).keep)
def mslice (f : M Rv) (lo hi : M (Option Int)) : M Sl := mbind f fun r => mbind lo fun l => mbind hi fun u => mbind (muse r) fun x => mopt ((aSl x l u).bind unown)
theorem dx_slice {r : M Rv} {lo hi : Option Expr} {fl fh : M (Option Int)} {p2 : Pos} (h : DR T X e r) (hl : DO T X lo fl) (hh : DO T X hi fh) : DX T X (.Subscript e (.Slice lo hi none p2) pos) (mslice r fl fh) :=
  fun W tk => PE.imp (pe_slice sl_all (h W tk) (hl W tk) (hh W tk)) fun σ H Q q => by
    obtain ⟨ρ, A, rl, p⟩ := q
    refine ⟨ρ, A, rl, p.seq fun v rv ρ1 H1 A1 A' st r1 rd nd p => ?_⟩
    obtain ⟨rfl, ok⟩ := rd
    have st' : Step A H A' H1 := by simpa using st
    refine ⟨ρ1, A', r1, Post.goes st' p fun l l' ρ2 H2 B1 B s2 r2 rd2 nd2 p2 => ?_⟩
    obtain ⟨rfl, rfl⟩ := rd2
    have s2' : Step A' H1 B H2 := by simpa using s2
    refine ⟨ρ2, B, r2, Post.goes (st'.trans s2') p2 fun u u' ρ3 H3 C1 C s3 r3 rd3 nd3 p3 => ?_⟩
    obtain ⟨rfl, rfl⟩ := rd3
    have s3' : Step B H2 C H3 := by simpa using s3
    have p4 : Post X.K X.mg T (RS X.K X.mg) W σ H A Q (mbind (mopt (rres ρ3 rv)) (fun x => mopt ((aSl x l u).bind unown)) ρ3) := p3
    cases e1 : rres ρ3 rv with
    | none => rw [e1] at p4; exact p4.elim
    | some x =>
      rw [e1] at p4
      have n : Now X.K X.mg T (RS X.K X.mg) W σ Q H3 (mopt ((aSl x l u).bind unown)) := ⟨⟨H, A, ρ3, C, (st'.trans s2').trans s3', r3, p4⟩⟩
      obtain ⟨s, e2, nz, k⟩ := n.gives
      exact s_sl e2 (((ok.keep (r1.keep s2')).keep (r2.keep s3')).dq r3 e1) k
/-! ### a slot's list goes out of the slot -/
def mmove (i : Nat) : M Sl := fun ρ => match ρ[i]? with
  | some (.ow false ds) => .ok (.ow false ds) (ρ.set i .no)
  | some (.fz d) => .ok (.fz d) ρ
  | some (.nt ds) => .ok (.nt ds) ρ
  | _ => .no
theorem dx_move (i : Nat) {x : Str} {pos : Pos} (hN : X.N[i]? = some x := by rfl) (hv : Vis X.env.scope x := by first | exact Or.inl rfl | exact Or.inr (Or.inl rfl) | exact Or.inr (Or.inr rfl)) (hd : (x == ("__debug__" : Str)) = false := by decide)
    (hcd : (x == ("__classdict__" : Str)) = false := by decide) : DX T X (.Name x pos) (mmove i) := fun W _ => PE.imp (pe_var hN hv hd hcd) fun σ H Q q => by
  obtain ⟨ρ, A, rl, p⟩ := q
  unfold mmove at p
  split at p
  · rename_i ds e
    obtain ⟨v, A1, e1, e2, e3⟩ := rl.as.get e
    cases e2 with
    | ow ha hz l =>
      rename_i a vs
      obtain ⟨B, b1, b2, b3⟩ := rl.as.take rl.nd e e1
      refine ⟨_, e1, p _ H [a] B (Step.refl.sub b3) ⟨b1, (nd_app.mp b2).2.1, rl.tab, fun q hq => ?_⟩ (.ow ha hz l) b2⟩
      obtain ⟨p1, ds', p2⟩ := rl.pro q hq
      refine ⟨p1, ds', ?_⟩
      rw [List.getElem?_set_ne (fun z => by rw [← z, e] at p2; cases p2)]
      exact p2
  · rename_i d e
    obtain ⟨v, A1, e1, e2, e3⟩ := rl.as.get e
    cases e2 with
    | fz dz => exact ⟨_, e1, p _ H [] A Step.refl rl (.fz dz) (by simpa using rl.nd)⟩
  · rename_i ds e
    obtain ⟨v, A1, e1, e2, e3⟩ := rl.as.get e
    cases e2 with
    | nt h z l => exact ⟨_, e1, p _ H [] A Step.refl rl (.nt h z l) (by simpa using rl.nd)⟩
  · exact p.elim
end
end ME
namespace ME
open PySem PySem.Spec PyProof.Rows L2 LamX
/-! ### what a statement comes to -/
inductive Out where
  | nx (ρ : Env) | rt (s : Sl) (ρ : Env) | bk (ρ : Env) | ct (ρ : Env) | ex (c : Str) (w : D) (ρ : Env) | no
abbrev MS := Env → Out
section
variable (K : PySem.W.Frag) (G : Str → Option Value) (T : Gh)
def PostS (W : WX) (H0 : Hp) (A0 : List Addr) (E : Ends) : Out → Prop
  | .nx ρ => ∀ σ H A, Step A0 H0 A H → Rel K G T σ H ρ A → E.nx σ H
  | .bk ρ => ∀ σ H A, Step A0 H0 A H → Rel K G T σ H ρ A → E.bk σ H
  | .ct ρ => ∀ σ H A, Step A0 H0 A H → Rel K G T σ H ρ A → E.ct σ H
  | .rt s ρ => ∀ v σ H A1 A, Step A0 H0 (A1 ++ A) H → Rel K G T σ H ρ A → SlR K G H (some v) s A1 → (A1 ++ A).Nodup → E.rt v H
  | .ex c w ρ => ∀ C dx σ H A, Step A0 H0 A H → Rel K G T σ H ρ A → G c = some (.ref C) → ExR K G H dx c w → W (.ref C) (some dx) σ H
  | .no => False
def tS (f : MS) (W : WX) : TS := fun E σ H => ∃ ρ A, Rel K G T σ H ρ A ∧ PostS K G T W H A E (f ρ)
end
def DS (T : Gh) (X : Cx) (st : Stmt) (f : MS) : Prop := ∀ W, L2N.Takes X W → PS X st (tS X.K X.mg T f W)
def DSs (T : Gh) (X : Cx) (st : List Stmt) (f : MS) : Prop := ∀ W, L2N.Takes X W → PSs X st (tS X.K X.mg T f W)
section
variable {K : PySem.W.Frag} {G : Str → Option Value} {T : Gh} {W : WX} {σ : L2.St} {H H1 : Hp} {ρ : Env} {A A1 : List Addr} {E : Ends} {α : Type}
theorem PostS.go {o : Out} (st : Step A H A1 H1) (p : PostS K G T W H A E o) : PostS K G T W H1 A1 E o := by
  cases o with
  | nx ρ => exact fun σ H B s r => p σ H B (st.trans s) r
  | bk ρ => exact fun σ H B s r => p σ H B (st.trans s) r
  | ct ρ => exact fun σ H B s r => p σ H B (st.trans s) r
  | rt s ρ => exact fun v σ H B1 B s r x n => p v σ H B1 B (st.trans s) r x n
  | ex c w ρ => exact fun C dx σ H B s r g x => p C dx σ H B (st.trans s) r g x
  | no => exact p
/-- an expression, then what is made of its value -/
def sBind (f : M α) (k : α → MS) : MS := fun ρ => match f ρ with
  | .ok a ρ' => k a ρ'
  | .ex c w ρ' => .ex c w ρ'
  | .no => .no
theorem PostS.seq {β : Type} {R : L2.St → Hp → β → α → List Addr → Prop} {Q : β → Hp → Prop} {f : M α} {k : α → MS} (h : PostS K G T W H A E (sBind f k ρ))
    (use : ∀ b a ρ1 H1 A1 A', Step A H (A1 ++ A') H1 → Rel K G T σ H1 ρ1 A' → R σ H1 b a A1 → (A1 ++ A').Nodup → PostS K G T W H A E (k a ρ1) → Q b H1) : Post K G T R W σ H A Q (f ρ) := by
  unfold sBind at h
  cases e : f ρ with
  | ok a ρ1 => rw [e] at h; exact fun b H1 A1 A' st rl r nd => use b a ρ1 H1 A1 A' st rl r nd h
  | ex c w ρ1 => rw [e] at h; exact fun C dx H1 A' st rl g x => h C dx σ H1 A' st rl g x
  | no => rw [e] at h; exact h
theorem PostS.goes {β : Type} {R : L2.St → Hp → β → α → List Addr → Prop} {Q : β → Hp → Prop} {f : M α} {k : α → MS} (st : Step A H A1 H1) (h : PostS K G T W H A E (sBind f k ρ))
    (use : ∀ b a ρ2 H2 B1 B, Step A1 H1 (B1 ++ B) H2 → Rel K G T σ H2 ρ2 B → R σ H2 b a B1 → (B1 ++ B).Nodup → PostS K G T W H A E (k a ρ2) → Q b H2) : Post K G T R W σ H1 A1 Q (f ρ) := by
  unfold sBind at h
  cases e : f ρ with
  | ok a ρ1 => rw [e] at h; exact fun b H2 B1 B s2 rl q nd => use b a ρ1 H2 B1 B s2 rl q nd h
  | ex c w ρ1 => rw [e] at h; exact fun C dx H2 B s2 rl gc x => h C dx σ H2 B (st.trans s2) rl gc x
  | no => rw [e] at h; exact h
/-- the list of slot i is written -/
theorem Rel.write {i : Nat} {p : Bool} {ds es : List D} {a : Addr} {us : List V} (st : Step A H A1 H1) (r : Rel K G T σ H1 ρ A1) (e : ρ[i]? = some (.ow p ds)) (e2 : σ[i]? = some (some (.ref a))) (z : es.length ≤ sizeLine) (l : DzL K G H1 us es) :
    Step A H A1 (upd H1 a (.lst us)) ∧ Rel K G T σ (upd H1 a (.lst us)) (ρ.set i (.ow p es)) A1 := by
  obtain ⟨v, B, b1, b2, b3⟩ := r.as.get e
  rw [e2] at b1; cases b1
  cases b2 with
  | ow ha hz0 l0 =>
    rename_i vs
    have haA : a ∈ A1 := b3 a (List.mem_singleton.mpr rfl)
    have kp : Keep H1 (upd H1 a (.lst us)) := ⟨fun b xs q => by rw [upd_ne (fun z => by rw [z, ha] at q; cases q)]; exact q, fun b o u q => by rw [upd_ne (fun z => by rw [z, ha] at q; cases q)]; exact q, fun b o q => by rw [upd_ne (fun z => by rw [z, ha] at q; cases q)]; exact q⟩
    refine ⟨⟨fun b o q n nt => ?_, st.ow, fun b q => ?_⟩, ⟨r.as.write r.nd e e2 kp (fun b hb => upd_ne hb) upd_same (by rw [l.length]; exact z) (l.keep kp), r.nd, Tabs.keepN r.tab fun b o q nl => by rw [upd_ne (fun z => by rw [z, ha] at q; cases q; exact nl vs rfl)]; exact q, fun q hq => ?_⟩⟩
    · have q1 := st.fr b o q n nt
      rw [upd_ne (fun z => ?_)]
      · exact q1
      · subst z
        rcases st.ow b haA with y | y
        · exact n y
        · obtain ⟨ps, h⟩ := y _ q
          exact nt ps h
    · by_cases z : b = a
      · rw [z] at q
        obtain ⟨ps, h⟩ := q _ upd_same
        cases h
      · exact st.dom b fun o e => q o (by rw [upd_ne z]; exact e)
    · obtain ⟨p1, ds', p2⟩ := r.pro q hq
      refine ⟨p1, ?_⟩
      by_cases z : q.1 = i
      · rw [z, e] at p2; cases p2
        exact ⟨es, by rw [z, List.getElem?_set_self (by obtain ⟨h, _⟩ := List.getElem?_eq_some_iff.mp e; exact h)]⟩
      · exact ⟨ds', by rw [List.getElem?_set_ne (Ne.symm z)]; exact p2⟩
/-- slot i is stored -/
theorem Rel.store {i : Nat} {v : V} {s : Sl} {B : List Addr} (st : Step A H (B ++ A1) H1) (r : Rel K G T σ H1 ρ A1) (x : SlR K G H1 (some v) s B) (nd : (B ++ A1).Nodup) (np : ∀ ds, ρ[i]? ≠ some (.ow true ds)) :
    ∃ C, Step A H C H1 ∧ Rel K G T (σ.set i (some v)) H1 (ρ.set i s) C ∧ ∀ a ∈ C, a ∈ B ++ A1 := by
  obtain ⟨C, c1, c2, c3⟩ := r.as.set i x nd
  refine ⟨C, st.sub c3, ⟨c1, c2, r.tab, fun q hq => ?_⟩, c3⟩
  obtain ⟨p1, ds', p2⟩ := r.pro q hq
  have ne : i ≠ q.1 := fun z => np ds' (by rw [z]; exact p2)
  exact ⟨by rw [List.getElem?_set_ne ne]; exact p1, ds', by rw [List.getElem?_set_ne ne]; exact p2⟩
end
/-! ### blocks -/
def sSeq (f g : MS) : MS := fun ρ => match f ρ with
  | .nx ρ' => g ρ'
  | o => o
def sNil : MS := fun ρ => .nx ρ
section
variable {T : Gh} {X : Cx} {st : Stmt} {rest : List Stmt} {f g : MS} {e : Expr} {pos : Pos}
theorem dss_nil : DSs T X [] sNil := fun W _ => PSs.imp pss_nil fun E σ H q => by
  obtain ⟨ρ, A, rl, p⟩ := q
  exact p σ H A Step.refl rl
theorem seq_imp {W : WX} {E : Ends} {σ : L2.St} {H : Hp} (q : tS X.K X.mg T (sSeq f g) W E σ H) : tSeq (tS X.K X.mg T f W) (tS X.K X.mg T g W) E σ H := by
  obtain ⟨ρ, A, rl, p⟩ := q
  refine ⟨ρ, A, rl, ?_⟩
  unfold sSeq at p
  cases e : f ρ with
  | nx ρ1 => rw [e] at p; exact fun σ1 H1 A1 s r => ⟨ρ1, A1, r, PostS.go s p⟩
  | bk ρ1 => rw [e] at p; exact p
  | ct ρ1 => rw [e] at p; exact p
  | rt s ρ1 => rw [e] at p; exact p
  | ex c w ρ1 => rw [e] at p; exact p
  | no => rw [e] at p; exact p
theorem dss_cons (h : DS T X st f) (l : DSs T X rest g) : DSs T X (st :: rest) (sSeq f g) := fun W tk => PSs.imp (pss_cons (h W tk) (l W tk)) fun E σ H q => seq_imp q
theorem dss_one (h : DS T X st f) : DSs T X [st] f := fun W tk => pss_one (h W tk)
theorem ds_doc {x j pos'} : DS T X (.Expr (.Constant (.str x) j pos) pos') sNil := fun W _ => PS.imp ps_doc fun E σ H q => by
  obtain ⟨ρ, A, rl, p⟩ := q
  exact p σ H A Step.refl rl
theorem ds_pass : DS T X (.Pass pos) sNil := fun W _ => PS.imp ps_pass fun E σ H q => by
  obtain ⟨ρ, A, rl, p⟩ := q
  exact p σ H A Step.refl rl
def sBrk : MS := fun ρ => .bk ρ
def sCnt : MS := fun ρ => .ct ρ
theorem ds_break : DS T X (.Break pos) sBrk := fun W _ => PS.imp ps_break fun E σ H q => by
  obtain ⟨ρ, A, rl, p⟩ := q
  exact p σ H A Step.refl rl
theorem ds_continue : DS T X (.Continue pos) sCnt := fun W _ => PS.imp ps_continue fun E σ H q => by
  obtain ⟨ρ, A, rl, p⟩ := q
  exact p σ H A Step.refl rl
/-- an expression whose value is dropped -/
def sExpr (f : M D) : MS := sBind f fun _ => sNil
theorem ds_expr {f : M D} (h : DE T X e f) (hs : swapsWith e none pos.line X.env = pure false := by rfl) : DS T X (.Expr e pos) (sExpr f) := fun W tk => PS.imp (ps_expr (h W tk) hs) fun E σ H q => by
  obtain ⟨ρ, A, rl, p⟩ := q
  refine ⟨ρ, A, rl, p.seq fun v d ρ1 H1 A1 A' st r1 rd nd p => ?_⟩
  obtain ⟨rfl, dz⟩ := rd
  exact p σ H1 A' (by simpa using st) r1
def sRet (f : M Sl) : MS := sBind f fun s ρ => .rt s ρ
theorem ds_ret {f : M Sl} (h : DX T X e f) : DS T X (.Return (some e) pos) (sRet f) := fun W tk => PS.imp (ps_ret (h W tk)) fun E σ H q => by
  obtain ⟨ρ, A, rl, p⟩ := q
  exact ⟨ρ, A, rl, p.seq fun v s ρ1 H1 A1 A' st r1 rd nd p => p v σ H1 A1 A' st r1 rd nd⟩
def sRetN : MS := fun ρ => .rt (.fz .non) ρ
theorem ds_retN : DS T X (.Return none pos) sRetN := fun W _ => PS.imp ps_retN fun E σ H q => by
  obtain ⟨ρ, A, rl, p⟩ := q
  exact p .non σ H [] A Step.refl rl (.fz .non) (by simpa using rl.nd)
def sIf (t : M Bool) (f g : MS) : MS := sBind t fun b => if b = true then f else g
theorem ds_if {c : Expr} {a b : List Stmt} {t : M Bool} (hc : DT T X c t) (ha : DSs T X a f) (hb : DSs T X b g) : DS T X (.If c a b pos) (sIf t f g) := fun W tk => PS.imp (ps_if (hc W tk) (ha W tk) (hb W tk)) fun E σ H q => by
  obtain ⟨ρ, A, rl, p⟩ := q
  refine ⟨ρ, A, rl, p.seq fun b b' ρ1 H1 A1 A' st r1 rd nd p => ?_⟩
  obtain ⟨rfl, rfl⟩ := rd
  have st' : Step A H A' H1 := by simpa using st
  cases b with
  | true => exact ⟨ρ1, A', r1, PostS.go st' p⟩
  | false => exact ⟨ρ1, A', r1, PostS.go st' p⟩
/-! ### stores -/
def setSl (i : Nat) (s : Sl) (ρ : Env) : Option Env := match ρ[i]? with
  | some (.ow true _) => none
  | some _ => some (ρ.set i s)
  | none => none
theorem setSl_some {i : Nat} {s : Sl} {ρ ρ' : Env} (h : setSl i s ρ = some ρ') : ρ' = ρ.set i s ∧ ∀ ds, ρ[i]? ≠ some (.ow true ds) := by
  unfold setSl at h
  split at h
  · cases h
  · rename_i s0 hs e
    cases h
    exact ⟨rfl, fun ds z => by rw [e] at z; exact hs ds (Option.some.inj z)⟩
  · cases h
def sSet (i : Nat) (f : M Sl) : MS := sBind f fun s ρ => match setSl i s ρ with
  | some ρ' => .nx ρ'
  | none => .no
theorem ds_set (i : Nat) {x : Str} {f : M Sl} {pos' : Pos} (h : DX T X e f) (hN : X.N.Nodup) (hi : X.N[i]? = some x := by rfl) (hx : Loc X.env.scope x := by first | exact Or.inl rfl | exact Or.inr rfl) (hs : swapsWith e (some (.Name x pos')) pos.line X.env = pure false := by rfl)
    (hf : X.fn x = true ∨ X.env.scope.names.lookup x = some .local := by first | exact .inl rfl | exact .inr rfl | assumption) : DS T X (.Assign [.Name x pos'] e pos) (sSet i f) := fun W tk => PS.imp (ps_set (i := i) hN hi hx (h W tk) hs hf) fun E σ H q => by
  obtain ⟨ρ, A, rl, p⟩ := q
  refine ⟨ρ, A, rl, p.seq fun v s ρ1 H1 A1 A' st r1 rd nd p => ?_⟩
  cases e1 : setSl i s ρ1 with
  | none => rw [e1] at p; exact p.elim
  | some ρ' =>
    rw [e1] at p
    obtain ⟨rfl, np⟩ := setSl_some e1
    obtain ⟨C, c1, c2, c3⟩ := Rel.store st r1 rd nd np
    exact p _ H1 C c1 c2
/-! ### targets -/
/-- the target takes data; is: the slots that it stores -/
def Apart (is : List Nat) (σ σ' : L2.St) : Prop := σ'.length = σ.length ∧ ∀ j, j ∉ is → σ'[j]? = σ[j]?
def DG (T : Gh) (X : Cx) (tg : Expr) (t : TG) (is : List Nat) (g : D → Env → Option Env) : Prop := PG X tg t ∧
  ∀ v d σ H ρ A ρ' (Q : L2.St → Hp → Prop), Dz X.K X.mg H v d → Rel X.K X.mg T σ H ρ A → g d ρ = some ρ' → (∀ σ' A', Rel X.K X.mg T σ' H ρ' A' → (∀ a ∈ A', a ∈ A) → Apart is σ σ' → Q σ' H) → t v σ H Q
def DGs (T : Gh) (X : Cx) (tgs : List Expr) (t : TGs) (n : Nat) (is : List Nat) (g : List D → Env → Option Env) : Prop := (∀ ds ρ ρ', g ds ρ = some ρ' → ds.length = n) ∧ PGs X tgs t ∧
  ∀ vs ds σ H ρ A ρ' (Q : L2.St → Hp → Prop), DzL X.K X.mg H vs ds → Rel X.K X.mg T σ H ρ A → g ds ρ = some ρ' → (∀ σ' A', Rel X.K X.mg T σ' H ρ' A' → (∀ a ∈ A', a ∈ A) → Apart is σ σ' → Q σ' H) → t vs σ H Q
theorem Apart.refl {is : List Nat} {σ : L2.St} : Apart is σ σ := ⟨rfl, fun _ _ => rfl⟩
theorem Apart.trans {is js : List Nat} {σ σ1 σ2 : L2.St} (a : Apart is σ σ1) (b : Apart js σ1 σ2) : Apart (is ++ js) σ σ2 := ⟨b.1.trans a.1, fun j h => (b.2 j fun z => h (List.mem_append.mpr (.inr z))).trans (a.2 j fun z => h (List.mem_append.mpr (.inl z)))⟩
def gNm (i : Nat) : D → Env → Option Env := fun d ρ => setSl i (.fz d) ρ
theorem dg_name (i : Nat) {x : Str} (hN : X.N.Nodup) (hi : X.N[i]? = some x := by rfl) (hx : Loc X.env.scope x := by first | exact Or.inl rfl | exact Or.inr rfl) (hf : X.fn x = true ∨ X.env.scope.names.lookup x = some .local := by first | exact .inl rfl | exact .inr rfl | assumption) : DG T X (.Name x pos) (gName i) [i] (gNm i) := by
  refine ⟨pg_name hN hi hx hf, fun v d σ H ρ A ρ' Q dz rl e k => ?_⟩
  obtain ⟨rfl, np⟩ := setSl_some e
  obtain ⟨C, c1, c2, c3⟩ := Rel.store (B := []) (A := A) (by simpa using Step.refl) rl (.fz dz) (by simpa using rl.nd) np
  exact k _ C c2 (by simpa using c3) ⟨List.length_set, fun j h => List.getElem?_set_ne (fun z => h (List.mem_singleton.mpr z.symm))⟩
def gNl : List D → Env → Option Env := fun ds ρ => match ds with
  | [] => some ρ
  | _ => none
def gCs (g : D → Env → Option Env) (h : List D → Env → Option Env) : List D → Env → Option Env := fun ds ρ => match ds with
  | d :: r => (g d ρ).bind (h r)
  | [] => none
theorem dgs_nil : DGs T X [] gNil 0 [] gNl := by
  refine ⟨fun ds ρ ρ' e => ?_, pgs_nil, fun vs ds σ H ρ A ρ' Q l rl e k => ?_⟩
  · cases ds with
    | nil => rfl
    | cons _ _ => cases e
  · cases l with
    | nil => cases e; exact ⟨rfl, k σ A rl (fun a h => h) Apart.refl⟩
    | cons _ _ => cases e
theorem dgs_cons {tg : Expr} {tgs : List Expr} {t : TG} {u : TGs} {n : Nat} {is js : List Nat} {g : D → Env → Option Env} {h : List D → Env → Option Env} (a : DG T X tg t is g) (b : DGs T X tgs u n js h) (hs : (assignEach (tg :: tgs) X.env).map (·.2) = assign tg X.env :: (assignEach tgs X.env).map (·.2) := by rfl) : DGs T X (tg :: tgs) (gCons t u) (n + 1) (is ++ js) (gCs g h) := by
  obtain ⟨h1, h2⟩ := a
  obtain ⟨ln, k1, k2⟩ := b
  refine ⟨fun ds ρ ρ' e => ?_, pgs_cons h1 k1 hs, fun vs ds σ H ρ A ρ' Q l rl e k => ?_⟩
  · cases ds with
    | nil => cases e
    | cons d r =>
      obtain ⟨ρ1, e1, e2⟩ := Option.bind_eq_some_iff.mp (show (g d ρ).bind (h r) = some ρ' from e)
      rw [List.length_cons, ln r ρ1 ρ' e2]
  · cases l with
    | nil => cases e
    | cons dz l =>
      rename_i v vs d ds
      obtain ⟨ρ1, e1, e2⟩ := Option.bind_eq_some_iff.mp (show (g d ρ).bind (h ds) = some ρ' from e)
      refine ⟨v, vs, rfl, h2 v d σ H ρ A ρ1 _ dz rl e1 fun σ1 A1 r1 s1 a1 => ?_⟩
      exact k2 vs ds σ1 H ρ1 A1 ρ' Q l r1 e2 fun σ2 A2 r2 s2 a2 => k σ2 A2 r2 (fun a z => s1 a (s2 a z)) (a1.trans a2)
def gTp (h : List D → Env → Option Env) : D → Env → Option Env := fun d ρ => match d with
  | .tup ds => h ds ρ
  | _ => none
theorem dg_tup {tgs : List Expr} {u : TGs} {k n : Nat} {is : List Nat} {h : List D → Env → Option Env} (hc : X.calm = true) (b : DGs T X tgs u n is h) (hn : (assignEach tgs X.env).length = n := by rfl) (hst : (assignEach tgs X.env).findIdx? (·.1) = none := by rfl) : DG T X (.Tuple tgs k pos) (gTup X.K n u) is (gTp h) := by
  obtain ⟨ln, k1, k2⟩ := b
  refine ⟨pg_tup hc k1 hn hst, fun v d σ H ρ A ρ' Q dz rl e kk => ?_⟩
  cases dz with
  | tup hs hz0 l =>
    rename_i a vs ds
    exact ⟨a, vs, rfl, hs, by rw [l.length]; exact ln ds ρ ρ' e, k2 vs ds σ H ρ A ρ' Q l rl e kk⟩
  | _ => cases e
/-- target = data -/
def sAsg (g : D → Env → Option Env) (f : M D) : MS := sBind f fun d ρ => match g d ρ with
  | some ρ' => .nx ρ'
  | none => .no
theorem ds_asg {tg : Expr} {t : TG} {is : List Nat} {g : D → Env → Option Env} {f : M D} (h : DE T X e f) (hg : DG T X tg t is g) (hs : swapsWithSole [tg] e pos.line X.env = pure false := by rfl) (hw : swappedStores [tg] e X.env = pure none := by rfl)
    (h1 : (assignEach [tg] X.env).map (·.2) = [assign tg X.env] := by rfl) : DS T X (.Assign [tg] e pos) (sAsg g f) := fun W tk => by
  obtain ⟨g1, g2⟩ := hg
  refine PS.imp (ps_asg (h W tk) g1 hs hw h1) fun E σ H q => ?_
  obtain ⟨ρ, A, rl, p⟩ := q
  refine ⟨ρ, A, rl, p.seq fun v d ρ1 H1 A1 A' st r1 rd nd p => ?_⟩
  obtain ⟨rfl, dz⟩ := rd
  cases e1 : g d ρ1 with
  | none => rw [e1] at p; exact p.elim
  | some ρ' =>
    rw [e1] at p
    exact g2 v d σ H1 ρ1 A' ρ' _ dz r1 e1 fun σ' A'' r2 sb _ => p σ' H1 A'' ((show Step A H A' H1 by simpa using st).sub sb) r2
/-! ### several slots' contents in a row -/
def RX (K : PySem.W.Frag) (G : Str → Option Value) (n : Nat) : L2.St → Hp → List V → List Sl → List Addr → Prop := fun _ H vs ss A => SlRs K G H (vs.map some) ss A ∧ vs.length = n
def DXs (T : Gh) (X : Cx) (es : List Expr) (n : Nat) (f : M (List Sl)) : Prop := ∀ W, L2N.Takes X W → PA X es (tG X.K X.mg T (RX X.K X.mg n) f W)
def mxnil : M (List Sl) := mpure []
def mxcons (f : M Sl) (g : M (List Sl)) : M (List Sl) := mbind f fun d => mbind g fun ds => mpure (d :: ds)
theorem dxs_nil : DXs T X [] 0 mxnil := fun W _ => PA.imp pa_nil fun σ H Q q => by
  obtain ⟨ρ, A, rl, p⟩ := q
  exact p [] H [] A Step.refl rl ⟨.nil, rfl⟩ (by simpa using rl.nd)
theorem dxs_cons {es : List Expr} {n : Nat} {f : M Sl} {g : M (List Sl)} (h : DX T X e f) (l : DXs T X es n g) (hs : starEach (e :: es) X.env = (false, eval e X.env) :: starEach es X.env := by rfl) : DXs T X (e :: es) (n + 1) (mxcons f g) :=
  fun W tk => PA.imp (pa_cons (h W tk) (l W tk) hs) fun σ H Q q => by
    obtain ⟨ρ, A, rl, p⟩ := q
    refine ⟨ρ, A, rl, p.seq fun v s ρ1 H1 A1 A' st r1 rd nd p => ?_⟩
    have nd' := nd_app.mp nd
    unfold mbind at p
    refine ⟨ρ1, A', r1, ?_⟩
    cases e1 : g ρ1 with
    | no => rw [e1] at p; exact p
    | ex c w ρ2 =>
      rw [e1] at p
      intro C dx H2 B s2 r2 gc x
      exact p C dx H2 B ((st.trans (s2.frame A1)).sub fun a z => List.mem_append.mpr (.inr z)) r2 gc x
    | ok ss ρ2 =>
      rw [e1] at p
      intro vs H2 B1 B s2 r2 rd2 nd2
      obtain ⟨hs2, ln⟩ := rd2
      have md : ∀ a ∈ A1, ∃ xs, H1 a = some (.lst xs) := SlR.mut rd
      obtain ⟨as1, as2⟩ := s2.aside nd md
      have kp := r1.keep s2
      refine p (v :: vs) H2 (A1 ++ B1) B ?_ r2 ⟨.cons (rd.keep kp as1) hs2, by rw [List.length_cons, ln]⟩ ?_
      · rw [List.append_assoc]; exact st.trans (s2.frame A1)
      · rw [List.append_assoc]
        exact nd_app.mpr ⟨nd'.1, nd2, as2⟩
/-- several slots are stored -/
def setSls : List Nat → List Sl → Env → Option Env
  | [], [], ρ => some ρ
  | i :: is, s :: ss, ρ => (setSl i s ρ).bind (setSls is ss)
  | _, _, _ => none
def setVs : List Nat → List V → L2.St → L2.St
  | i :: is, v :: vs, σ => setVs is vs (σ.set i (some v))
  | _, _, σ => σ
theorem setSls_ok {K : PySem.W.Frag} {G : Str → Option Value} : ∀ {is : List Nat} {ss : List Sl} {vs : List V} {σ : L2.St} {H0 H : Hp} {ρ ρ' : Env} {A0 A B : List Addr}, SlRs K G H (vs.map some) ss B → Step A0 H0 (B ++ A) H → Rel K G T σ H ρ A → (B ++ A).Nodup → setSls is ss ρ = some ρ' →
    ∃ C, Step A0 H0 C H ∧ Rel K G T (setVs is vs σ) H ρ' C
  | [], ss, vs, σ, H0, H, ρ, ρ', A0, A, B, l, st, rl, nd, e => by
    cases ss with
    | cons _ _ => cases e
    | nil =>
      cases e
      exact ⟨A, st.sub fun a z => List.mem_append.mpr (.inr z), rl⟩
  | i :: is, [], vs, σ, H0, H, ρ, ρ', A0, A, _, l, st, rl, nd, e => by cases e
  | i :: is, s :: ss, [], σ, H0, H, ρ, ρ', A0, A, _, l, st, rl, nd, e => by cases l
  | i :: is, s :: ss, v :: vs, σ, H0, H, ρ, ρ', A0, A, _, .cons (A := B1) (B := B2) h l, st, rl, nd, e => by
    obtain ⟨ρ1, e1, e2⟩ := Option.bind_eq_some_iff.mp (show (setSl i s ρ).bind (setSls is ss) = some ρ' from e)
    obtain ⟨rfl, np⟩ := setSl_some e1
    rw [List.append_assoc] at st nd
    obtain ⟨n1, n2, n3⟩ := nd_app.mp nd
    obtain ⟨m1, m2, m3⟩ := nd_app.mp n2
    have nd1 : (B1 ++ A).Nodup := nd_app.mpr ⟨n1, m2, fun a ha b hb => n3 a ha b (List.mem_append.mpr (.inr hb))⟩
    obtain ⟨C, c1, c2, c3⟩ := rl.as.set i h nd1
    have rl' : Rel K G T (σ.set i (some v)) H (ρ.set i s) C := ⟨c1, c2, rl.tab, fun q hq => by
      obtain ⟨p1, ds', p2⟩ := rl.pro q hq
      have ne : i ≠ q.1 := fun z => np ds' (by rw [z]; exact p2)
      exact ⟨by rw [List.getElem?_set_ne ne]; exact p1, ds', by rw [List.getElem?_set_ne ne]; exact p2⟩⟩
    have sub : ∀ a ∈ B2 ++ C, a ∈ B1 ++ (B2 ++ A) := fun a z => by
      rcases List.mem_append.mp z with z | z
      · exact List.mem_append.mpr (.inr (List.mem_append.mpr (.inl z)))
      · rcases List.mem_append.mp (c3 a z) with z | z
        · exact List.mem_append.mpr (.inl z)
        · exact List.mem_append.mpr (.inr (List.mem_append.mpr (.inr z)))
    show ∃ C, Step A0 H0 C H ∧ Rel K G T (setVs is vs (σ.set i (some v))) H ρ' C
    refine setSls_ok (is := is) (ss := ss) (vs := vs) l (st.sub sub) rl' (nd_app.mpr ⟨m1, c2, fun a ha b hb => ?_⟩) e2
    rcases List.mem_append.mp (c3 b hb) with z | z
    · exact fun q => n3 b z a (List.mem_append.mpr (.inl ha)) q.symm
    · exact m3 a ha b z
def sPar (is : List Nat) (f : M (List Sl)) : MS := sBind f fun ss ρ => match setSls is ss ρ with
  | some ρ' => .nx ρ'
  | none => .no
/-- a, b = x, y -/
theorem ds_par2 (i j : Nat) {x y : Str} {a b : Expr} {f : M (List Sl)} {px py pt : Pos} {kt k2 pt2} (ha : DXs T X [a, b] 2 f) (hc : X.calm = true) (hN : X.N.Nodup) (hi : X.N[i]? = some x := by rfl) (hj : X.N[j]? = some y := by rfl) (hij : i ≠ j := by decide)
    (hx : X.env.scope.names.lookup x = some .local := by rfl) (hy : X.env.scope.names.lookup y = some .local := by rfl)
    (hw : swappedStores [.Tuple [.Name x px, .Name y py] kt pt] (.Tuple [a, b] k2 pt2) X.env = pure (some [x, y]) := by rfl)
    (hs : swapsWithSole [.Tuple [.Name x px, .Name y py] kt pt] (.Tuple [a, b] k2 pt2) pos.line X.env = pure false := by rfl) :
    DS T X (.Assign [.Tuple [.Name x px, .Name y py] kt pt] (.Tuple [a, b] k2 pt2) pos) (sPar [i, j] f) := fun W tk => PS.imp (ps_par hc hN hi hj hij hx hy (ha W tk) hw hs) fun E σ H q => by
  obtain ⟨ρ, A, rl, p⟩ := q
  refine ⟨ρ, A, rl, p.seq fun vs ss ρ1 H1 A1 A' st r1 rd nd p => ?_⟩
  obtain ⟨rd, ln⟩ := rd
  cases e1 : setSls [i, j] ss ρ1 with
  | none => rw [e1] at p; exact p.elim
  | some ρ' =>
    rw [e1] at p
    obtain ⟨C, c1, c2⟩ := setSls_ok rd st r1 nd e1
    match vs, ln with
    | [v, w], _ => exact ⟨v, w, rfl, p _ H1 C c1 c2⟩
/-- names in a row take values in a row -/
def DVs (X : Cx) (tgs : List Expr) (is : List Nat) : Prop := ∃ t : TGs, PGs X tgs t ∧ ∀ vs σ H (Q : L2.St → Hp → Prop), vs.length = is.length → Q (setVs is vs σ) H → t vs σ H Q
theorem dvs_nil : DVs X [] [] := ⟨gNil, pgs_nil, fun vs σ H Q ln k => by
  cases vs with
  | nil => exact ⟨rfl, k⟩
  | cons _ _ => cases ln⟩
theorem dvs_cons (i : Nat) {x : Str} {tgs : List Expr} {is : List Nat} {p : Pos} (b : DVs X tgs is) (hN : X.N.Nodup) (hi : X.N[i]? = some x := by rfl) (hx : Loc X.env.scope x := by first | exact Or.inl rfl | exact Or.inr rfl) (hf : X.fn x = true ∨ X.env.scope.names.lookup x = some .local := by first | exact .inl rfl | exact .inr rfl | assumption)
    (hs : (assignEach (.Name x p :: tgs) X.env).map (·.2) = assign (.Name x p) X.env :: (assignEach tgs X.env).map (·.2) := by rfl) : DVs X (.Name x p :: tgs) (i :: is) := by
  obtain ⟨u, k1, k2⟩ := b
  refine ⟨gCons (gName i) u, pgs_cons (pg_name hN hi hx hf) k1 hs, fun vs σ H Q ln k => ?_⟩
  cases vs with
  | nil => cases ln
  | cons v vs => exact ⟨v, vs, rfl, k2 vs _ H Q (by simpa using ln) k⟩
/-- a, b, c, d = w, x, y, z: by a tuple -/
theorem ds_parN {tgs es : List Expr} {is : List Nat} {n : Nat} {f : M (List Sl)} {kt k2 : Nat} {pt pt2 : Pos} (ha : DXs T X es n f) (hg : DVs X tgs is) (hc : X.calm = true) (hn : is.length = n := by rfl) (hz : n ≤ sizeLine := by decide)
    (hl : (assignEach tgs X.env).length = n := by rfl) (hst : (assignEach tgs X.env).findIdx? (·.1) = none := by rfl)
    (hs : swapsWithSole [.Tuple tgs kt pt] (.Tuple es k2 pt2) pos.line X.env = pure false := by rfl) (hw : swappedStores [.Tuple tgs kt pt] (.Tuple es k2 pt2) X.env = pure none := by rfl)
    (h1 : (assignEach [.Tuple tgs kt pt] X.env).map (·.2) = [assign (.Tuple tgs kt pt) X.env] := by rfl) : DS T X (.Assign [.Tuple tgs kt pt] (.Tuple es k2 pt2) pos) (sPar is f) := fun W tk => by
  obtain ⟨t, g1, g2⟩ := hg
  refine PS.imp (ps_asg (pe_tup (ha W tk)) (pg_tup hc g1 hl hst) hs hw h1) fun E σ H q => ?_
  obtain ⟨ρ, A, rl, p⟩ := q
  refine ⟨ρ, A, rl, p.seq fun vs ss ρ1 H1 A1 A' st r1 rd nd p => ?_⟩
  obtain ⟨rd, ln⟩ := rd
  cases e1 : setSls is ss ρ1 with
  | none => rw [e1] at p; exact p.elim
  | some ρ' =>
    rw [e1] at p
    refine ⟨by rw [ln]; exact hz, fun a na => ⟨a, vs, rfl, .inl (.inl upd_same), ln, g2 vs σ _ _ (by rw [hn]; exact ln) ?_⟩⟩
    have ex : Ext H1 (upd H1 a (.tup vs)) := Ext.upd na
    have md := rd.mut
    obtain ⟨C, c1, c2⟩ := setSls_ok (rd.keep ex.keep fun b hb => by obtain ⟨us, q⟩ := md b hb; rw [ex b _ q, q]) (st.trans ex.step) (r1.ext ex) nd e1
    exact p _ _ C c1 c2
def sApp (i : Nat) (f : M D) : MS := fun ρ => match ρ[i]? with
  | some (.ow _ _) => sBind f (fun d ρ => match ρ[i]? with
    | some (.ow p ds) => if ds.length < sizeLine then .nx (ρ.set i (.ow p (ds ++ [d]))) else .no
    | _ => .no) ρ
  | _ => .no
/-- x.append(e) -/
theorem ds_append (i : Nat) {x : Str} {f : M D} {apos cpos px : Pos} (h : DE T X e f) (hN : X.N[i]? = some x := by rfl) (hv : Vis X.env.scope x := by first | exact Or.inl rfl | exact Or.inr (Or.inl rfl) | exact Or.inr (Or.inr rfl)) (hd : (x == ("__debug__" : Str)) = false := by decide)
    (hcd : (x == ("__classdict__" : Str)) = false := by decide) (hse : starEach [e] X.env = (false, eval e X.env) :: starEach [] X.env := by rfl)
    (hbase : attributeBase (.Name x px) "append" X.env (eval (.Name x px) X.env) = eval (.Name x px) X.env := by rfl)
    (hfew : ((backTo cpos (starEach (e :: []) X.env)).all (fun x => !x.1) && (backToKw cpos (keywordEach [] X.env)).all (fun x => x.1.isSome)
      && decide ((e :: []).length + ([] : List Keyword).length + (if ([] : List Keyword).isEmpty then 0 else 1) < 30)) = true := by rfl)
    (hline : (apos.endLine == cpos.line) = true := by rfl) (hplain : (backTo cpos (starEach [] X.env)).any (·.1) = false := by rfl)
    (hsw : swapsWith (.Call (.Attribute (.Name x px) "append" apos) [e] [] cpos) none pos.line X.env = pure false := by rfl) :
    DS T X (.Expr (.Call (.Attribute (.Name x px) "append" apos) [e] [] cpos) pos) (sApp i f) := fun W tk =>
  PS.imp (ps_expr (pe_bm PySem.F.plainAttrs_list PySem.F.slot_list_append PySem.F.type_list_append mt_append (pe_var hN hv hd hcd) (pa_cons (h W tk) pa_nil hse) hbase hfew hline hse hplain) hsw) fun E σ H q => by
    obtain ⟨ρ, A, rl, p⟩ := q
    unfold sApp at p
    split at p
    · rename_i b ds e0
      obtain ⟨v, B, b1, b2, b3⟩ := rl.as.get e0
      cases b2 with
      | ow ha hz0 l =>
        rename_i a vs
        refine ⟨_, b1, .inl ⟨rfl, _, .inl (.inl ha)⟩, ρ, A, rl, p.seq fun u d ρ1 H1 A1 A' st r1 rd nd p => ?_⟩
        obtain ⟨rfl, dz⟩ := rd
        have st' : Step A H A' H1 := by simpa using st
        split at p
        · rename_i b' ds' e1
          split at p
          · rename_i hz
            obtain ⟨v2, B2, c1, c2, c3⟩ := r1.as.get e1
            rw [b1] at c1; cases c1
            cases c2 with
            | ow ha2 hz2 l2 =>
              rename_i vs2
              obtain ⟨s2, r2⟩ := Rel.write (us := vs2 ++ [u]) (es := ds' ++ [d]) st' r1 e1 b1 (by rw [List.length_append]; exact hz) (l2.append (.cons dz .nil))
              exact ⟨a, vs2, u, rfl, rfl, ha2, by rw [l2.length]; exact hz, p σ _ A' s2 r2⟩
          · exact p.elim
        · exact p.elim
    · exact p.elim
end
end ME
namespace PySem
theorem meets_enumerate_newB1 {v : Value} {o : Obj} {H : Heap → Prop} (B : Begins v o H) :
    Meets (Builtin.«enumerate.__new__» ⟨[.type "enumerate", v], []⟩) (fun _ R s => H s.heap ∧
      R (.ok (.ret (.ref (s.heap.push o).objs.size))) { s with heap := (s.heap.push o).push { cls := .type "enumerate", data := .fields #[.none, .bool false, .ref s.heap.objs.size, rawInt 0, .none, .none] } }) :=
  .of_wp fun prog w A R s h => by
    obtain ⟨hp, g, d, tk, os⟩ := s; obtain ⟨h1, h⟩ := h
    have hsub := sub_enumerate
    have q1 : ∀ {A' : Around} {E : Value → Shared → Prop} {Q : Value → Shared → Prop}, Q (.ref hp.objs.size) ⟨hp.push o, g, d, tk, os⟩ → wpAny (model prog w) A' (pyIter v) Q E ⟨hp, g, d, tk, os⟩ :=
      fun q => B.iter prog w _ _ ⟨hp, g, d, tk, os⟩ _ h1 q
    wp_walk using q1
    refine wpAny_stack_any fun st => wpAny_pure ?_
    split
    · rename_i c _ _ _ _ _
      cases (c == Value.type "enumerate")
      · wp_walk using q1
        exact ⟨_, rfl, h⟩
      · wp_walk using q1
        exact ⟨_, rfl, h⟩
    · wp_walk using q1
      exact ⟨_, rfl, h⟩
theorem enum_begins1 {prog : Program} {w : World} {A : Around} {E : Value → Shared → Prop} {s : Shared} {v : Value} {o : Obj} {H : Heap → Prop} {Q : Value → Shared → Prop} (B : Begins v o H) (h1 : H s.heap)
    (h : ∀ h', IsEnum h' (s.heap.objs.size + 1) s.heap.objs.size 0 .none → h'.get? s.heap.objs.size = some o → h'.objs.size = s.heap.objs.size + 2 →
      (∀ b o, s.heap.get? b = some o → h'.get? b = some o) → Q (.ref (s.heap.objs.size + 1)) { s with heap := h' }) :
    wpAny (model prog w) A (call (.type "enumerate") [v]) Q E s := by
  refine callType_new F.called_enumerate (by decide) (F.typeCall_enumerate_1 _) (F.newCall_enumerate_1 _) (fun obj => F.args_object_init_2 obj _) F.entry_enumerate_new
    (meets_enumerate_newB1 B) ⟨h1, ?_⟩
  have hz : (s.heap.push o).objs.size = s.heap.objs.size + 1 := Heap.size_push ..
  show _ ∧ _
  rw [hz]
  have he : IsEnum ((s.heap.push o).push { cls := .type "enumerate", data := .fields #[.none, .bool false, .ref s.heap.objs.size, rawInt 0, .none, .none] }) (s.heap.objs.size + 1) s.heap.objs.size 0 .none := by
    have := Heap.get?_push_size (s.heap.push o) (o := { cls := .type "enumerate", data := .fields #[.none, .bool false, .ref s.heap.objs.size, rawInt 0, .none, .none] }) rfl
    rw [hz] at this; exact this
  refine ⟨⟨_, he, rfl⟩, h _ he (Heap.get?_push_of_some _ (Heap.get?_push_size _ B.free)) (by rw [Heap.size_push, hz]) fun b o x => Heap.get?_push_of_some _ (Heap.get?_push_of_some _ x)⟩
end PySem
namespace ME
open PySem PySem.Spec PyProof.Rows L2 LamX
/-! ### enumerate(a tuple of n) -/
def IteT (K : PySem.W.Frag) (a : Addr) (n : Nat) : It :=
  ⟨fun i H => ∃ (xs : List V) (x : V), SqT K H a xs ∧ xs.length = n ∧ xs[i]? = some x, fun i H v H' => ∃ T x, v = .ref T ∧ H T = none ∧ H' = upd H T (.tup [.int (i : Nat), x]) ∧ ∀ xs, SqT K H a xs → xs[i]? = some x, fun i H => ∃ xs : List V, SqT K H a xs ∧ xs.length = n ∧ i = n⟩
theorem turn_enumT {P : Program} {w : World} {K : PySem.W.Frag} {elts : List Expr} {kk : Nat} {tpos : Pos} (a e it : Addr) (n : Nat) (hai : a ≠ it) (hae : a ≠ e) :
    Turn P w K (.Tuple elts kk tpos) (IteT K a n) [e, it] e (fun i h => (∃ old, IsEnum h e it ((i : Nat) : Int) old) ∧ h.IsTupleIter it a i ∧ e ≠ it) where
  mem := by simp
  obj := fun i h st b hb => by
    obtain ⟨⟨old, he⟩, ⟨o, ho, hc, hd⟩, _⟩ := st
    have e' : b = e ∨ b = it := by simpa using hb
    rcases e' with z | z
    · rw [z]; exact ⟨_, he, fun v q => nomatch q⟩
    · rw [z]; exact ⟨o, ho, fun v q => by rw [hd] at q; cases q⟩
  keep := fun i h h' st k => let ⟨⟨old, he⟩, hi, hne⟩ := st; ⟨⟨old, k e (by simp) _ he⟩, hi.at fun o q => k it (by simp) o q, hne⟩
  item := by
    intro X hP hw hK hc i pins s σ H E I hf st hg
    subst hP hw hK
    obtain ⟨⟨old, he⟩, hit, hne⟩ := st
    obtain ⟨xs, x, hq, hxl, hx⟩ := hg
    obtain ⟨its, rv, p, hz⟩ := I.tuple hq
    obtain ⟨u, hu, ru⟩ := rv.get hx
    have hel : e < s.heap.objs.size := Heap.lt_size he
    have hil : it < s.heap.objs.size := by obtain ⟨_, q, _⟩ := hit; exact Heap.lt_size q
    have D := Draws.tuple (prog := X.prog) (w := X.w) (A := X.A.in1) (I.ok.hd hc) it a hai its.toArray
    have hlt : i < its.toArray.size := by
      have := (List.getElem?_eq_some_iff.mp hu).1
      simpa using this
    refine wpAny_pyNext_enum_itemD D he ⟨hit, p⟩ hlt hne (by simp; exact ⟨hne, fun z => hae z.symm⟩) fun x' h' tk hP' ho hit' hT hsz hk => ?_
    have ex : x' = u := by
      have q1 : its.toArray[i]? = some x' := hP'
      rw [List.getElem?_toArray, hu] at q1
      exact (Option.some.inj q1).symm
    subst ex
    refine ⟨_, rfl, wpAny_letOwnedTupleGo_enum (s := { s with heap := h', toks := tk + 1 }) ho fun h'' he' sb => ?_⟩
    have hT2 : h''.get? s.heap.objs.size = some { cls := .type "tuple", data := .seq #[.int i tk, x'] } := (sb.2 _ (Nat.ne_of_gt hel)).trans hT
    have new : ObjOk X.prog X.w (upd H s.heap.objs.size (.tup [.int (i : Nat), x])) h'' s.heap.objs.size (.tup [.int (i : Nat), x]) :=
      ⟨by show 2 ≤ sizeLine; decide, [.int i tk, x'], .cons ⟨_, rfl⟩ (.cons ru .nil), ⟨_, hT2, rfl, _, rfl⟩⟩
    have I1 : Inv X pins σ (upd H s.heap.objs.size (.tup [.int (i : Nat), x])) { s with heap := h'', toks := tk + 1 } :=
      I.turnedNew (ch := [e, it]) (fun b ob hb q => (sb.2 b (fun z => hb (by simp [z]))).trans (hk b ob (fun z => hb (by simp [z])) (fun z => hb (by simp [z])) q)) hf (Nat.le_refl _) new
    refine ⟨.ref s.heap.objs.size, _, I1, rfl, ⟨_, x, rfl, I.hok.fresh (Nat.le_refl _), rfl, fun ys hy => by rw [I.tuple_inj hy hq]; exact hx⟩, ⟨⟨x', ?_⟩, hit'.1.at fun o q => (sb.2 it (Ne.symm hne)).trans q, hne⟩, fun b hb => ?_⟩
    · have e1 : ((i + 1 : Nat) : Int) = (i : Int) + 1 := by omega
      rw [e1]; exact he'
    · have hb' : b < s.heap.objs.size := by
        have e' : b = e ∨ b = it := by simpa using hb
        rcases e' with z | z
        · rw [z]; exact hel
        · rw [z]; exact hil
      rw [upd_ne (Nat.ne_of_lt hb')]
      exact (hf b hb).1
  done := by
    intro X hP hw hK hc i pins s σ H E I hf st hg
    subst hP hw hK
    obtain ⟨⟨old, he⟩, hit, hne⟩ := st
    obtain ⟨xs, hq, hxl, hx⟩ := hg
    obtain ⟨its, rv, p, hz⟩ := I.tuple hq
    obtain ⟨f0, f1, f2, f3, f4, f5⟩ := hf it (by simp)
    have hl := rv.length
    have D := Draws.tuple (prog := X.prog) (w := X.w) (A := X.A.in1) (I.ok.hd hc) it a hai its.toArray
    have e2 : i = its.toArray.size := by simp; omega
    exact wpAny_pyNext_enum_endD D he ⟨by rw [← e2]; exact hit, p⟩ fun h' eb => ⟨rfl, I.turned (t' := s.toks) (fun b o hb q => eb b o hb q) f0 f1 f3 f4 f5⟩
  self := fun A i s Q E st h => let ⟨⟨_, he⟩, _⟩ := st; wpAny_pyIter_enum he h
def iEnumT (K : PySem.W.Frag) (ta : TA) : TI := fun σ H R => ta σ H fun vs H1 => ∃ a xs, vs = [.ref a] ∧ SqT K H1 a xs ∧ R (IteT K a xs.length) H1
theorem pi_enumT {X : Cx} {e : Expr} {ta : TA} {p pos tpos : Pos} {elts : List Expr} {kk : Nat} (hg : Gl X "enumerate") (hm : X.mg "enumerate" = none) (ha : PA X [e] ta) (hs : starEach [e] X.env = [(false, eval e X.env)] := by rfl) :
    PI X (.Tuple elts kk tpos) (.Call (.Name "enumerate" p) [e] [] pos) (iEnumT X.K ta) := by
  refine ⟨fun pins s σ H R I h => ?_⟩
  refine Call_ (ld_blt I hg hm boot_enumerate (PyProof.Rows.callWith_type1 (thn (ha.run pos pins s σ H _ I h) fun us s1 ⟨vs, H1, I1, r1, q1⟩ => ?_) hs rfl))
  obtain ⟨a, xs, ex, hq, q⟩ := q1
  subst ex
  cases r1 with
  | cons r rr =>
    cases rr
    cases r
    obtain ⟨its, rv, p', hz⟩ := I1.tuple hq
    have hal : a < s1.heap.objs.size := by obtain ⟨o, ho, _⟩ := p'; exact Heap.lt_size ho
    refine enum_begins1 (begins_tuple a its.toArray) p' fun h' he hit hsz hk => wpAny_pyIter_enum he ?_
    have I2 : Inv X pins σ H1 { s1 with heap := h' } := I1.kept (t' := s1.toks) hk
    refine ⟨s1.heap.objs.size + 1, [s1.heap.objs.size + 1, s1.heap.objs.size], _, _, H1, rfl, I2, turn_enumT a (s1.heap.objs.size + 1) s1.heap.objs.size xs.length (Nat.ne_of_lt hal) (Nat.ne_of_lt (Nat.lt_succ_of_lt hal)), ⟨⟨.none, he⟩, ⟨_, hit, rfl, rfl⟩, Nat.succ_ne_self _⟩, fun b hb => ?_, q⟩
    have e' : b = s1.heap.objs.size + 1 ∨ b = s1.heap.objs.size := by simpa using hb
    have hle : s1.heap.objs.size ≤ b := by
      rcases e' with z | z
      · rw [z]; exact Nat.le_add_right _ _
      · rw [z]; exact Nat.le_refl _
    exact I1.fpOk hle (I1.hok.fresh hle)
/-! ### what an iterator draws -/
structure ItOk (K : PySem.W.Frag) (G : Str → Option Value) (J : It) (H : Hp) (ds : List D) : Prop where
  go : ∀ H' i, Keep H H' → i < ds.length → J.go i H'
  stop : ∀ H', Keep H H' → J.stop ds.length H'
  yld : ∀ H' i x H'', Keep H H' → J.yld i H' x H'' → i < ds.length → Ext H' H'' ∧ ∃ d, ds[i]? = some d ∧ Dz K G H'' x d
def RI (K : PySem.W.Frag) (G : Str → Option Value) : L2.St → Hp → It → List D → List Addr → Prop := fun _ H J ds A => A = [] ∧ ItOk K G J H ds
def DI (T : Gh) (X : Cx) (tg it : Expr) (f : M (List D)) : Prop := ∀ W, L2N.Takes X W → PI X tg it (tG X.K X.mg T (RI X.K X.mg) f W)
theorem PI.imp {X : Cx} {tg e : Expr} {t u : TI} (h : PI X tg e t) (i : ∀ σ H Q, u σ H Q → t σ H Q) : PI X tg e u := ⟨fun pins s σ H Q I q => h.run pins s σ H Q I (i σ H Q q)⟩
section
variable {K : PySem.W.Frag} {G : Str → Option Value} {H : Hp}
theorem ok_lst {a : Addr} {vs : List V} {ds : List D} (h : Fzl H a vs) (l : DzL K G H vs ds) : ItOk K G (Itl K a) H ds where
  go := fun H' i k hi => by
    obtain ⟨v, e, _⟩ := l.get (i := i) (d := ds[i]) (by simp [hi])
    exact ⟨vs, v, .inl (k.fzl h).rd, e⟩
  stop := fun H' k => ⟨vs, .inl (k.fzl h).rd, by rw [l.length]; exact Nat.le_refl _⟩
  yld := fun H' i x H'' k y hi => by
    obtain ⟨rfl, y⟩ := y
    obtain ⟨v, e, z⟩ := l.get (i := i) (d := ds[i]) (by simp [hi])
    rw [y vs (.inl (k.fzl h).rd)] at e
    cases e
    exact ⟨Ext.refl, _, by simp [hi], z.keep k⟩
theorem ok_tup {a : Addr} {vs : List V} {ds : List D} (h : SqT K H a vs) (l : DzL K G H vs ds) : ItOk K G (Itt K a) H ds where
  go := fun H' i k hi => by
    obtain ⟨v, e, _⟩ := l.get (i := i) (d := ds[i]) (by simp [hi])
    exact ⟨vs, v, k.rdT h, e⟩
  stop := fun H' k => ⟨vs, k.rdT h, by rw [l.length]; exact Nat.le_refl _⟩
  yld := fun H' i x H'' k y hi => by
    obtain ⟨rfl, y⟩ := y
    obtain ⟨v, e, z⟩ := l.get (i := i) (d := ds[i]) (by simp [hi])
    rw [y vs (k.rdT h)] at e
    cases e
    exact ⟨Ext.refl, _, by simp [hi], z.keep k⟩
/-- the numbers lo, lo + c, .. -/
def rngD (lo c : Int) (n : Nat) : List D := (List.range n).map fun k => .int (lo + (k : Nat) * c)
theorem ok_rng {lo : Int} {n : Nat} : ItOk K G (Itr lo n) H (rngD lo 1 n) where
  go := fun H' i k hi => show i < n by simpa [rngD] using hi
  stop := fun H' k => by simp [rngD, Itr]
  yld := fun H' i x H'' k y hi => by
    obtain ⟨rfl, rfl⟩ := y
    refine ⟨Ext.refl, .int (lo + i), ?_, .int _⟩
    have hi' : i < n := by simpa [rngD] using hi
    simp [rngD, hi']
theorem ok_rngC {lo c : Int} {n : Nat} : ItOk K G (Itc lo c n) H (rngD lo c n) where
  go := fun H' i k hi => show i < n by simpa [rngD] using hi
  stop := fun H' k => by simp [rngD, Itc]
  yld := fun H' i x H'' k y hi => by
    obtain ⟨rfl, rfl⟩ := y
    refine ⟨Ext.refl, .int (lo + i * c), ?_, .int _⟩
    have hi' : i < n := by simpa [rngD] using hi
    simp [rngD, hi']
def strD (x : Str) : List D := x.cps.toList.map fun c => .str ⟨#[c]⟩
theorem ok_str {x : Str} : ItOk K G (Its x) H (strD x) where
  go := fun H' i k hi => show i < x.cps.size by simpa [strD] using hi
  stop := fun H' k => by simp [strD, Its]
  yld := fun H' i v H'' k y hi => by
    obtain ⟨rfl, c, hc, rfl⟩ := y
    refine ⟨Ext.refl, .str ⟨#[c]⟩, ?_, .str _⟩
    have hi' : i < x.cps.size := by simpa [strD] using hi
    have e := Array.getElem?_eq_getElem hi'
    rw [e] at hc
    cases hc
    simp [strD, hi']
/-- pairs of index and item -/
def enumD : Nat → List D → List D
  | _, [] => []
  | k, d :: ds => .tup [.int (k : Nat), d] :: enumD (k + 1) ds
theorem enumD_length : ∀ {k : Nat} {ds : List D}, (enumD k ds).length = ds.length
  | _, [] => rfl
  | k, d :: ds => by rw [enumD, List.length_cons, List.length_cons, enumD_length]
theorem enumD_get : ∀ {k i : Nat} {ds : List D} {d : D}, ds[i]? = some d → (enumD k ds)[i]? = some (.tup [.int ((k + i : Nat) : Int), d])
  | _, _, [], _, e => by simp at e
  | k, 0, _ :: ds, d, e => by simp at e; subst e; rfl
  | k, i + 1, _ :: ds, d, e => by
    rw [enumD, List.getElem?_cons_succ, enumD_get (k := k + 1) (i := i) (d := d) (by simpa using e)]
    have : k + 1 + i = k + (i + 1) := by omega
    rw [this]
theorem pair_dz {T : Addr} {x : V} {i : Nat} {d : D} (hT : H T = none) (z : Dz K G H x d) : Ext H (upd H T (.tup [.int (i : Nat), x])) ∧ Dz K G (upd H T (.tup [.int (i : Nat), x])) (.ref T) (.tup [.int (i : Nat), d]) :=
  ⟨Ext.upd hT, .tup (.inl (.inl upd_same)) (by show 2 ≤ sizeLine; decide) (.cons (.int _) (.cons (z.keep (Ext.upd hT).keep) .nil))⟩
theorem ok_enum {a : Addr} {vs : List V} {ds : List D} (h : Fzl H a vs) (l : DzL K G H vs ds) : ItOk K G (Ite K a) H (enumD 0 ds) where
  go := fun H' i k hi => by
    rw [enumD_length] at hi
    obtain ⟨v, e, _⟩ := l.get (i := i) (d := ds[i]) (by simp [hi])
    exact ⟨vs, v, .inl (k.fzl h).rd, e⟩
  stop := fun H' k => ⟨vs, .inl (k.fzl h).rd, by rw [enumD_length, l.length]; exact Nat.le_refl _⟩
  yld := fun H' i x H'' k y hi => by
    rw [enumD_length] at hi
    obtain ⟨T, x, rfl, hT, rfl, y⟩ := y
    obtain ⟨v, e, z⟩ := l.get (i := i) (d := ds[i]) (by simp [hi])
    rw [y vs (.inl (k.fzl h).rd)] at e
    cases e
    obtain ⟨p, q⟩ := pair_dz (i := i) hT (z.keep k)
    exact ⟨p, _, by rw [enumD_get (d := ds[i]) (by simp [hi]), Nat.zero_add], q⟩
theorem ok_enumT {a : Addr} {vs : List V} {ds : List D} (h : SqT K H a vs) (l : DzL K G H vs ds) : ItOk K G (IteT K a vs.length) H (enumD 0 ds) where
  go := fun H' i k hi => by
    rw [enumD_length] at hi
    obtain ⟨v, e, _⟩ := l.get (i := i) (d := ds[i]) (by simp [hi])
    exact ⟨vs, v, k.rdT h, rfl, e⟩
  stop := fun H' k => ⟨vs, k.rdT h, rfl, by rw [enumD_length, l.length]⟩
  yld := fun H' i x H'' k y hi => by
    rw [enumD_length] at hi
    obtain ⟨T, x, rfl, hT, rfl, y⟩ := y
    obtain ⟨v, e, z⟩ := l.get (i := i) (d := ds[i]) (by simp [hi])
    rw [y vs (k.rdT h)] at e
    cases e
    obtain ⟨p, q⟩ := pair_dz (i := i) hT (z.keep k)
    exact ⟨p, _, by rw [enumD_get (d := ds[i]) (by simp [hi]), Nat.zero_add], q⟩
end
section
variable {T : Gh} {X : Cx} {tg e : Expr} {f : M D} {p pos : Pos}
def asL : D → M (List D)
  | .lst ds => mpure ds
  | _ => fun _ => .no
def asT : D → M (List D)
  | .tup ds => mpure ds
  | _ => fun _ => .no
def asC : D → M (List D)
  | .str x => mpure (strD x)
  | _ => fun _ => .no
def mItL (f : M D) : M (List D) := mbind f asL
def mItT (f : M D) : M (List D) := mbind f asT
def mItC (f : M D) : M (List D) := mbind f asC
theorem itL_imp {W : WX} {σ : L2.St} {H : Hp} {Q : It → Hp → Prop} (q : tG X.K X.mg T (RI X.K X.mg) (mItL f) W σ H Q) : iList X.K (tG X.K X.mg T (RD X.K X.mg) f W) σ H Q := by
  obtain ⟨ρ, A, rl, p⟩ := q
  refine ⟨ρ, A, rl, p.seq fun v d ρ1 H1 A1 A' st r1 rd nd p => ?_⟩
  obtain ⟨rfl, dz⟩ := rd
  cases dz with
  | lst hs hz l => exact ⟨_, rfl, ⟨_, .inl hs.rd⟩, p _ H1 [] A' st r1 ⟨rfl, ok_lst hs l⟩ nd⟩
  | _ => exact p.elim
theorem di_lst (h : DE T X e f) : DI T X tg e (mItL f) := fun W tk => PI.imp (pi_list (h W tk)) fun σ H Q q => itL_imp q
theorem di_tup (h : DE T X e f) : DI T X tg e (mItT f) := fun W tk => PI.imp (pi_tup (h W tk)) fun σ H Q q => by
  obtain ⟨ρ, A, rl, p⟩ := q
  refine ⟨ρ, A, rl, p.seq fun v d ρ1 H1 A1 A' st r1 rd nd p => ?_⟩
  obtain ⟨rfl, dz⟩ := rd
  cases dz with
  | tup hs hz l => exact ⟨_, rfl, ⟨_, hs⟩, p _ H1 [] A' st r1 ⟨rfl, ok_tup hs l⟩ nd⟩
  | _ => exact p.elim
theorem di_str (h : DE T X e f) : DI T X tg e (mItC f) := fun W tk => PI.imp (pi_str (h W tk)) fun σ H Q q => by
  obtain ⟨ρ, A, rl, p⟩ := q
  refine ⟨ρ, A, rl, p.seq fun v d ρ1 H1 A1 A' st r1 rd nd p => ?_⟩
  obtain ⟨rfl, dz⟩ := rd
  cases dz with
  | str x => exact ⟨_, rfl, p _ H1 [] A' st r1 ⟨rfl, ok_str⟩ nd⟩
  | _ => exact p.elim
def asEL : D → M (List D)
  | .lst ds => mpure (enumD 0 ds)
  | _ => fun _ => .no
def asET : D → M (List D)
  | .tup ds => mpure (enumD 0 ds)
  | _ => fun _ => .no
theorem di_enumL {elts : List Expr} {kk : Nat} {tpos : Pos} (h : DE T X e f) (hg : Gl X "enumerate") (hm : X.mg "enumerate" = none) (hs : starEach [e] X.env = [(false, eval e X.env)] := by rfl) :
    DI T X (.Tuple elts kk tpos) (.Call (.Name "enumerate" p) [e] [] pos) (mbind f asEL) := fun W tk => PI.imp (pi_enum hg hm (pa_cons (h W tk) pa_nil hs) hs) fun σ H Q q => by
  obtain ⟨ρ, A, rl, p⟩ := q
  refine ⟨ρ, A, rl, p.seq fun v d ρ1 H1 A1 A' st r1 rd nd p => ?_⟩
  obtain ⟨rfl, dz⟩ := rd
  cases dz with
  | lst hs hz l => exact ⟨_, _, rfl, .inl hs.rd, p _ H1 [] A' st r1 ⟨rfl, ok_enum hs l⟩ nd⟩
  | _ => exact p.elim
theorem di_enumT {elts : List Expr} {kk : Nat} {tpos : Pos} (h : DE T X e f) (hg : Gl X "enumerate") (hm : X.mg "enumerate" = none) (hs : starEach [e] X.env = [(false, eval e X.env)] := by rfl) :
    DI T X (.Tuple elts kk tpos) (.Call (.Name "enumerate" p) [e] [] pos) (mbind f asET) := fun W tk => PI.imp (pi_enumT hg hm (pa_cons (h W tk) pa_nil hs) hs) fun σ H Q q => by
  obtain ⟨ρ, A, rl, p⟩ := q
  refine ⟨ρ, A, rl, p.seq fun v d ρ1 H1 A1 A' st r1 rd nd p => ?_⟩
  obtain ⟨rfl, dz⟩ := rd
  cases dz with
  | tup hs hz l => exact ⟨_, _, rfl, hs, p _ H1 [] A' st r1 ⟨rfl, ok_enumT hs l⟩ nd⟩
  | _ => exact p.elim
/-- small: a bound of range -/
def Sm (j : Int) : Prop := -(2 ^ 62) ≤ j ∧ j < 2 ^ 62
instance (j : Int) : Decidable (Sm j) := inferInstanceAs (Decidable (_ ∧ _))
def asR1 : D → M (List D)
  | .int j => fun ρ => if Sm j then .ok (rngD 0 1 j.toNat) ρ else .no
  | _ => fun _ => .no
theorem di_rng1 {b : Expr} (h : DE T X e f) (hg : Gl X "range") (hm : X.mg "range" = none) (hs : starEach [e] X.env = [(false, eval e X.env)] := by rfl) :
    DI T X tg (.Call (.Name "range" p) [e] [] pos) (mbind f asR1) := fun W tk => PI.imp (pi_range1 hg hm (pa_cons (h W tk) pa_nil hs) hs) fun σ H Q q => by
  obtain ⟨ρ, A, rl, p⟩ := q
  refine ⟨ρ, A, rl, p.seq fun v d ρ1 H1 A1 A' st r1 rd nd p => ?_⟩
  obtain ⟨rfl, dz⟩ := rd
  cases dz with
  | int j =>
    have p' : Post X.K X.mg T (RI X.K X.mg) W σ H A Q (if Sm j then .ok (rngD 0 1 j.toNat) ρ1 else .no) := p
    by_cases hj : Sm j
    · rw [if_pos hj] at p'
      exact ⟨j, rfl, hj.1, hj.2, p' _ H1 [] A' st r1 ⟨rfl, ok_rng⟩ nd⟩
    · rw [if_neg hj] at p'; exact p'.elim
  | _ => exact p.elim
def asR2 : D → D → M (List D)
  | .int i, .int j => fun ρ => if Sm i ∧ Sm j then .ok (rngD i 1 (j - i).toNat) ρ else .no
  | _, _ => fun _ => .no
theorem di_rng2 {b : Expr} {g : M D} (h : DE T X e f) (h2 : DE T X b g) (hg : Gl X "range") (hm : X.mg "range" = none) (hs : starEach [e, b] X.env = [(false, eval e X.env), (false, eval b X.env)] := by rfl) (hs2 : starEach [b] X.env = [(false, eval b X.env)] := by rfl) :
    DI T X tg (.Call (.Name "range" p) [e, b] [] pos) (mbind f fun x => mbind g fun y => asR2 x y) := fun W tk => PI.imp (pi_range2 hg hm (pa_cons (h W tk) (pa_cons (h2 W tk) pa_nil hs2) (by rw [hs, hs2])) hs hs2) fun σ H Q q => by
  obtain ⟨ρ, A, rl, p⟩ := q
  refine ⟨ρ, A, rl, p.seq fun v d ρ1 H1 A1 A' st r1 rd nd p => ?_⟩
  obtain ⟨rfl, dz⟩ := rd
  have st' : Step A H A' H1 := by simpa using st
  refine ⟨ρ1, A', r1, Post.goes st' p fun v2 d2 ρ2 H2 B1 B s2 r2 rd2 nd2 p2 => ?_⟩
  obtain ⟨rfl, dz2⟩ := rd2
  have s2' : Step A' H1 B H2 := by simpa using s2
  cases dz with
  | int i =>
    cases dz2 with
    | int j =>
      have p' : Post X.K X.mg T (RI X.K X.mg) W σ H A Q (if Sm i ∧ Sm j then .ok (rngD i 1 (j - i).toNat) ρ2 else .no) := p2
      by_cases hj : Sm i ∧ Sm j
      · rw [if_pos hj] at p'
        exact ⟨i, j, rfl, ⟨hj.1.1, hj.1.2, hj.2.1, hj.2.2⟩, p' _ H2 [] B (by simpa using st'.trans s2') r2 ⟨rfl, ok_rng⟩ nd2⟩
      · rw [if_neg hj] at p'; exact p'.elim
    | _ => exact p2.elim
  | _ => exact p2.elim
end
/-! ### for -/
def sLoop (g : D → Env → Option Env) (body : MS) : List D → MS
  | [] => fun ρ => .nx ρ
  | d :: ds => fun ρ => match g d ρ with
    | none => .no
    | some ρ1 => match body ρ1 with
      | .nx ρ2 => sLoop g body ds ρ2
      | .ct ρ2 => sLoop g body ds ρ2
      | .bk ρ2 => .nx ρ2
      | o => o
def sFor (it : M (List D)) (g : D → Env → Option Env) (body : MS) : MS := sBind it fun ds => sLoop g body ds
theorem ds_for {T : Gh} {X : Cx} {tg iter : Expr} {body : List Stmt} {pos : Pos} {it : M (List D)} {t : TG} {is : List Nat} {g : D → Env → Option Env} {f : MS} (hp : PassesOwn (model X.prog X.w) X.A X.env X.xe) (hc : X.calm = true) (hi : DI T X tg iter it) (hg : DG T X tg t is g) (hb : DSs T X body f)
    (hs : ∀ x, foldedSetIterable iter X.env x = pure x := by intro _; rfl) : DS T X (.For tg iter body [] pos) (sFor it g f) := fun W tk => by
  obtain ⟨g1, g2⟩ := hg
  refine PS.imp (ps_for hp hc (hi W tk) g1 (hb W tk) hs) fun E σ H q => ?_
  obtain ⟨ρ, A, rl, p⟩ := q
  refine ⟨ρ, A, rl, p.seq fun J ds ρ1 H1 A1 A' st r1 rd nd p => ?_⟩
  obtain ⟨rfl, ok⟩ := rd
  have st' : Step A H A' H1 := by simpa using st
  refine ⟨fun i m σ2 H2 => m = ds.length - i ∧ i ≤ ds.length ∧ ∃ ρ2 A2, Step A H A2 H2 ∧ Rel X.K X.mg T σ2 H2 ρ2 A2 ∧ Keep H1 H2 ∧ PostS X.K X.mg T W H A E (sLoop g f (ds.drop i) ρ2), ⟨ds.length, by simp, Nat.zero_le _, ρ1, A', st', r1, Keep.refl, by simpa using p⟩, ?_⟩
  rintro i m σ2 H2 ⟨rfl, hi2, ρ2, A2, s2, r2, kp, p2⟩
  by_cases hlt : i < ds.length
  · right
    refine ⟨ok.go H2 i kp hlt, fun σ3 H3 => ∃ ρ3 A3, Step A H A3 H3 ∧ Rel X.K X.mg T σ3 H3 ρ3 A3 ∧ Keep H1 H3 ∧ PostS X.K X.mg T W H A E (sLoop g f (ds.drop (i + 1)) ρ3), fun σ' H' n => ⟨ds.length - (i + 1), by omega, rfl, hlt, n⟩, fun x H3 y => ?_⟩
    obtain ⟨ex, d, e1, dz⟩ := ok.yld H2 i x H3 kp y hlt
    have ed : ds.drop i = d :: ds.drop (i + 1) := by
      obtain ⟨h0, h1⟩ := List.getElem?_eq_some_iff.mp e1
      rw [List.drop_eq_getElem_cons h0, h1]
    rw [ed] at p2
    unfold sLoop at p2
    cases e2 : g d ρ2 with
    | none => rw [e2] at p2; exact p2.elim
    | some ρ3 =>
      rw [e2] at p2
      dsimp only at p2
      have r3 := r2.ext ex
      refine g2 x d σ2 H3 ρ2 A2 ρ3 _ dz r3 e2 fun σ4 A4 r4 sb _ => ?_
      have s4 : Step A H A4 H3 := (s2.trans ex.step).sub sb
      have k4 : Keep H1 H3 := kp.trans ex.keep
      refine ⟨ρ3, A4, r4, ?_⟩
      cases e3 : f ρ3 with
      | nx ρ5 => rw [e3] at p2; exact fun σ5 H5 A5 s5 r5 => ⟨ρ5, A5, s4.trans s5, r5, k4.trans (r4.keep s5), p2⟩
      | ct ρ5 => rw [e3] at p2; exact fun σ5 H5 A5 s5 r5 => ⟨ρ5, A5, s4.trans s5, r5, k4.trans (r4.keep s5), p2⟩
      | bk ρ5 => rw [e3] at p2; exact fun σ5 H5 A5 s5 r5 => p2 σ5 H5 A5 (s4.trans s5) r5
      | rt s ρ5 => rw [e3] at p2; exact fun v σ5 H5 B1 B s5 r5 x n => p2 v σ5 H5 B1 B (s4.trans s5) r5 x n
      | ex c w ρ5 => rw [e3] at p2; exact fun C dx σ5 H5 B s5 r5 gc x => p2 C dx σ5 H5 B (s4.trans s5) r5 gc x
      | no => rw [e3] at p2; exact p2.elim
  · left
    have e : i = ds.length := by omega
    subst e
    refine ⟨ok.stop H2 kp, ?_⟩
    rw [List.drop_length] at p2
    exact p2 σ2 H2 A2 s2 r2
end ME
namespace ME
open PySem PySem.Spec PyProof.Rows L2 LamX
/-! ### slots forgotten -/
def wipeR : List Nat → Env → Option Env
  | [], ρ => some ρ
  | i :: is, ρ => (wipeR is ρ).bind fun ρ' => match ρ'[i]? with
    | some (.ow _ _) => none
    | none => none
    | some _ => some (ρ'.set i .no)
section
variable {K : PySem.W.Frag} {G : Str → Option Value} {T : Gh} {σ : L2.St} {H : Hp} {ρ ρ' : Env} {A : List Addr}
theorem wipe_out {σ : L2.St} {j : Nat} : ∀ {vs : List Nat}, j ∉ vs → (L2.wipe σ vs)[j]? = σ[j]?
  | [], _ => rfl
  | v :: vs, h => by
    unfold L2.wipe
    rw [List.getElem?_set_ne (fun z => h (by simp [z])), wipe_out (fun z => h (List.mem_cons_of_mem _ z))]
theorem wipe_in {σ : L2.St} {j : Nat} : ∀ {vs : List Nat}, j ∈ vs → j < σ.length → (L2.wipe σ vs)[j]? = some none
  | [], h, _ => by cases h
  | v :: vs, h, hl => by
    unfold L2.wipe
    by_cases e : v = j
    · subst e
      rw [List.getElem?_set_self (by rw [L2.wipe_length]; exact hl)]
    · rw [List.getElem?_set_ne e, wipe_in (by simpa [Ne.symm e] using h) hl]
theorem wipe_eq {σ σ' : L2.St} {vs : List Nat} (h : Apart vs σ σ') : L2.wipe σ' vs = L2.wipe σ vs := by
  apply List.ext_getElem?
  intro j
  by_cases hj : j ∈ vs
  · by_cases hl : j < σ.length
    · rw [wipe_in hj hl, wipe_in hj (by rw [h.1]; exact hl)]
    · rw [List.getElem?_eq_none (by rw [L2.wipe_length, h.1]; omega), List.getElem?_eq_none (by rw [L2.wipe_length]; omega)]
  · rw [wipe_out hj, wipe_out hj, h.2 j hj]
theorem wipe_twice {σ : L2.St} {vs : List Nat} : L2.wipe (L2.wipe σ vs) vs = L2.wipe σ vs := by
  apply List.ext_getElem?
  intro j
  by_cases hj : j ∈ vs
  · by_cases hl : j < σ.length
    · rw [wipe_in hj hl, wipe_in hj (by rw [L2.wipe_length]; exact hl)]
    · rw [List.getElem?_eq_none (by rw [L2.wipe_length, L2.wipe_length]; omega), List.getElem?_eq_none (by rw [L2.wipe_length]; omega)]
  · rw [wipe_out hj]
theorem Rel.wipe : ∀ {is : List Nat} {ρ' : Env}, Rel K G T σ H ρ A → wipeR is ρ = some ρ' → ∃ B, Rel K G T (L2.wipe σ is) H ρ' B ∧ ∀ a ∈ B, a ∈ A
  | [], _, r, e => by cases e; exact ⟨A, r, fun _ h => h⟩
  | i :: is, ρ', r, e => by
    obtain ⟨ρ1, e1, e2⟩ := Option.bind_eq_some_iff.mp (show (wipeR is ρ).bind _ = some ρ' from e)
    obtain ⟨B, r1, s1⟩ := Rel.wipe r e1
    have ns : (∀ p ds, ρ1[i]? ≠ some (.ow p ds)) ∧ ρ' = ρ1.set i .no := by
      revert e2
      split
      · intro e2; cases e2
      · intro e2; cases e2
      · rename_i s hs e0
        intro e2
        cases e2
        exact ⟨fun p ds z => by rw [e0] at z; cases z; exact hs p ds rfl, rfl⟩
    obtain ⟨nw, rfl⟩ := ns
    obtain ⟨C, c1, c2, c3⟩ := r1.as.set (A1 := []) i (v := none) (s := .no) .no (by simpa using r1.nd)
    refine ⟨C, ⟨c1, c2, r1.tab, fun q hq => ?_⟩, fun a h => s1 a (by simpa using c3 a h)⟩
    obtain ⟨p1, ds', p2⟩ := r1.pro q hq
    have ne : i ≠ q.1 := fun z => nw true ds' (by rw [z]; exact p2)
    exact ⟨by unfold L2.wipe; rw [List.getElem?_set_ne ne]; exact p1, ds', by rw [List.getElem?_set_ne ne]; exact p2⟩
theorem wipeR_no : ∀ {is : List Nat} {ρ ρ' : Env} {i : Nat}, wipeR is ρ = some ρ' → i ∈ is → ρ'[i]? = some .no
  | [], _, _, _, _, h => by cases h
  | k :: is, ρ, ρ', i, e, h => by
    obtain ⟨ρ1, e1, e2⟩ := Option.bind_eq_some_iff.mp (show (wipeR is ρ).bind _ = some ρ' from e)
    have ns : (∃ s, ρ1[k]? = some s) ∧ ρ' = ρ1.set k .no := by
      revert e2
      split
      · intro e2; cases e2
      · intro e2; cases e2
      · rename_i s hs e0
        intro e2
        cases e2
        exact ⟨⟨s, e0⟩, rfl⟩
    obtain ⟨⟨s, hk⟩, rfl⟩ := ns
    by_cases z : k = i
    · subst z
      exact List.getElem?_set_self (List.getElem?_eq_some_iff.mp hk).1
    · rw [List.getElem?_set_ne z]
      exact wipeR_no e1 (by simpa [Ne.symm z] using h)
theorem SlRs.repl : ∀ {vs us : List (Option V)} {ss : List Sl} {A : List Addr}, SlRs K G H vs ss A → us.length = vs.length → (∀ j : Nat, us[j]? = vs[j]? ∨ ss[j]? = some Sl.no) → SlRs K G H us ss A
  | _, [], _, _, .nil, _, _ => .nil
  | _, _ :: _, _, _, .nil, e, _ => by cases e
  | _, [], _, _, .cons _ _, e, _ => by cases e
  | _, u :: us, _, _, .cons h l, e, k => by
    refine .cons ?_ (SlRs.repl l (by simpa using e) fun j => by simpa using k (j + 1))
    rcases k 0 with z | z
    · have z' := Option.some.inj (show some u = some _ from z)
      rw [z']
      exact h
    · have z' := (by simpa using z)
      subst z'
      cases h
      exact .no
/-- back outside: the block's own slots are unknown -/
theorem Rel.unwipe {is : List Nat} (r : Rel K G T (L2.wipe σ is) H ρ A) (h : ∀ i ∈ is, ρ[i]? = some .no) : Rel K G T σ H ρ A := by
  refine ⟨r.as.repl (L2.wipe_length σ is).symm fun j => ?_, r.nd, r.tab, fun q hq => ?_⟩
  · by_cases hj : j ∈ is
    · exact .inr (h j hj)
    · exact .inl (wipe_out hj).symm
  · obtain ⟨p1, p2⟩ := r.pro q hq
    exact ⟨(L2.wipe_some p1).1, p2⟩
end
/-! ### list comprehensions -/
def DTs (T : Gh) (X : Cx) (cs : List Expr) (f : M Bool) : Prop := ∀ W, L2N.Takes X W → PTs X cs (tG X.K X.mg T RT f W)
theorem PTs.imp {X : Cx} {e : List Expr} {t u : TT} (h : PTs X e t) (i : ∀ σ H Q, u σ H Q → t σ H Q) : PTs X e u := ⟨fun pins s σ H Q I q => h.run pins s σ H Q I (i σ H Q q)⟩
theorem dts_nil {T : Gh} {X : Cx} : DTs T X [] (mpure true) := fun W _ => PTs.imp pts_nil fun σ H Q q => by
  obtain ⟨ρ, A, rl, p⟩ := q
  exact p true H [] A Step.refl rl ⟨rfl, rfl⟩ (by simpa using rl.nd)
theorem dts_one {T : Gh} {X : Cx} {c : Expr} {f : M Bool} (h : DT T X c f) : DTs T X [c] f := fun W tk => pts_one (h W tk)
def cTurn (g : D → Env → Option Env) (ft : M Bool) (fe : M D) (d : D) (as : List D) : M (List D) := fun ρ => match g d ρ with
  | none => .no
  | some ρ1 => match ft ρ1 with
    | .ok true ρ2 => (match fe ρ2 with
      | .ok y ρ3 => if as.length < sizeLine then .ok (as ++ [y]) ρ3 else .no
      | _ => .no)
    | .ok false ρ2 => .ok as ρ2
    | _ => .no
def cLoop (own : List Nat) (turn : D → List D → M (List D)) : List D → List D → M (List D)
  | [], as => mpure as
  | d :: ds, as => fun ρ => match turn d as ρ with
    | .ok as' ρ1 => (match wipeR own ρ1 with
      | some ρ2 => cLoop own turn ds as' ρ2
      | none => .no)
    | _ => .no
def mComp (own : List Nat) (it : M (List D)) (g : D → Env → Option Env) (ft : M Bool) (fe : M D) : M Sl := mbind it fun ds ρ => match wipeR own ρ with
  | none => .no
  | some ρ' => match cLoop own (cTurn g ft fe) ds [] ρ' with
    | .ok as ρ2 => .ok (.ow false as) ρ2
    | _ => .no
theorem cLoop_own {own : List Nat} {turn : D → List D → M (List D)} : ∀ {ds as bs : List D} {ρ ρ' : Env}, cLoop own turn ds as ρ = .ok bs ρ' → (∀ i ∈ own, ρ[i]? = some .no) → ∀ i ∈ own, ρ'[i]? = some .no
  | [], as, bs, ρ, ρ', e, h => by
    have e' : (Res.ok as ρ : Res (List D)) = .ok bs ρ' := e
    cases e'; exact h
  | d :: ds, as, bs, ρ, ρ', e, h => by
    unfold cLoop at e
    split at e
    · split at e
      · rename_i ρ2 e2
        exact cLoop_own e fun i hi => wipeR_no e2 hi
      · cases e
    · cases e
/-- a new address aside -/
theorem Step.new {A A1 : List Addr} {H H1 : Hp} {D : Addr} {o : HO} (st : Step A H A1 H1) (n : H1 D = none) : Step A H ([D] ++ A1) (upd H1 D o) := by
  refine ⟨fun a u e h nt => ?_, fun a h => ?_, fun a e => ?_⟩
  · have q := st.fr a u e h nt
    rw [upd_ne (ne_of_none q n)]
    exact q
  · rcases List.mem_append.mp h with z | z
    · rw [List.mem_singleton.mp z]; exact .inr (st.dom D (Nw.none n))
    · exact st.ow a z
  · by_cases z : a = D
    · rw [z]; exact st.dom D (Nw.none n)
    · exact st.dom a fun o q => e o (by rw [upd_ne z]; exact q)
/-- one that is aside is written -/
theorem Step.put {A A1 : List Addr} {H H1 : Hp} {D : Addr} {o : HO} (st : Step A H ([D] ++ A1) H1) (n : ∃ u, H1 D = some u) (ht : ∀ ps, o ≠ .tbl ps := by intro _ z; cases z) : Step A H ([D] ++ A1) (upd H1 D o) := by
  refine ⟨fun a u e h nt => ?_, st.ow, fun a e => ?_⟩
  · have q := st.fr a u e h nt
    rw [upd_ne (fun z => ?_)]
    · exact q
    · subst z
      rcases st.ow a (by simp) with y | y
      · exact h y
      · obtain ⟨ps, q⟩ := y _ e
        exact nt ps q
  · by_cases z : a = D
    · rw [z] at e
      obtain ⟨ps, q⟩ := e _ upd_same
      exact (ht ps q).elim
    · exact st.dom a fun o q => e o (by rw [upd_ne z]; exact q)
section
variable {T : Gh} {X : Cx}
theorem Rel.put {K : PySem.W.Frag} {G : Str → Option Value} {σ : L2.St} {H : Hp} {ρ : Env} {A : List Addr} {D : Addr} {xs ys : List V} (r : Rel K G T σ H ρ A) (hD : H D = some (.lst xs)) (hn : D ∉ A) : Rel K G T σ (upd H D (.lst ys)) ρ A := by
  have kp : Keep H (upd H D (.lst ys)) := ⟨fun b xs q => by rw [upd_ne (fun z => by rw [z, hD] at q; cases q)]; exact q, fun b o u q => by rw [upd_ne (fun z => by rw [z, hD] at q; cases q)]; exact q, fun b o q => by rw [upd_ne (fun z => by rw [z, hD] at q; cases q)]; exact q⟩
  exact ⟨r.as.keep kp fun a h => upd_ne (fun z => hn (z ▸ h)), r.nd, Tabs.keepN r.tab fun b o q nl => by rw [upd_ne (fun z => by rw [z, hD] at q; cases q; exact nl xs rfl)]; exact q, r.pro⟩
theorem keep_put {H : Hp} {D : Addr} {xs ys : List V} (hD : H D = some (.lst xs)) : Keep H (upd H D (.lst ys)) := ⟨fun b xs q => by rw [upd_ne (fun z => by rw [z, hD] at q; cases q)]; exact q, fun b o u q => by rw [upd_ne (fun z => by rw [z, hD] at q; cases q)]; exact q, fun b o q => by rw [upd_ne (fun z => by rw [z, hD] at q; cases q)]; exact q⟩
/-- the loop's reading -/
theorem lc_imp {it : M (List D)} {t : TG} {is vs : List Nat} {g : D → Env → Option Env} {ft : M Bool} {fe : M D} {W : WX} {σ : L2.St} {H : Hp} {Q : VK}
    (g2 : ∀ v d σ H ρ A ρ' (Q : L2.St → Hp → Prop), Dz X.K X.mg H v d → Rel X.K X.mg T σ H ρ A → g d ρ = some ρ' → (∀ σ' A', Rel X.K X.mg T σ' H ρ' A' → (∀ a ∈ A', a ∈ A) → Apart is σ σ' → Q σ' H) → t v σ H Q) (his : ∀ i ∈ is, i ∈ vs)
    (q : tG X.K X.mg T (RS X.K X.mg) (mComp vs it g ft fe) W σ H Q) : tLc (tG X.K X.mg T (RI X.K X.mg) it W) t (tG X.K X.mg T RT ft fun _ _ _ _ => False) (tG X.K X.mg T (RD X.K X.mg) fe fun _ _ _ _ => False) vs σ H Q := by
  obtain ⟨ρ, A, rl, p⟩ := q
  refine ⟨ρ, A, rl, p.seq fun J ds ρ1 H1 A1 A' st r1 rd nd p => ?_⟩
  obtain ⟨rfl, okI⟩ := rd
  have st' : Step A H A' H1 := by simpa using st
  cases ew : wipeR vs ρ1 with
  | none => rw [ew] at p; exact p.elim
  | some ρw =>
  rw [ew] at p
  dsimp only at p
  intro Dn hDn
  obtain ⟨Aw, rw1, sw⟩ := r1.wipe ew
  have hDA : ∀ {B : List Addr} {σ : L2.St} {ρ : Env}, Rel X.K X.mg T σ H1 ρ B → Dn ∉ B := fun r z => by
    obtain ⟨us, e⟩ := r.as.mut _ z
    rw [hDn] at e; cases e
  refine ⟨fun i m H2 => m = ds.length - i ∧ i ≤ ds.length ∧ ∃ ρ2 A2 acc as, Step A H ([Dn] ++ A2) H2 ∧ Rel X.K X.mg T (L2.wipe σ vs) H2 ρ2 A2 ∧ Dn ∉ A2 ∧ H2 Dn = some (.lst acc) ∧ DzL X.K X.mg H2 acc as ∧ as.length ≤ sizeLine ∧ Keep H1 H2 ∧ (∀ j ∈ vs, ρ2[j]? = some .no) ∧
      Post X.K X.mg T (RS X.K X.mg) W σ H A Q (match cLoop vs (cTurn g ft fe) (ds.drop i) as ρ2 with
        | .ok as ρ2 => .ok (.ow false as) ρ2
        | _ => .no), ⟨ds.length, by simp, Nat.zero_le _, ρw, Aw, [], [], ?_, ?_, hDA rw1, upd_same, .nil, Nat.zero_le _, (Ext.upd hDn).keep, fun j hj => wipeR_no ew hj, by simpa using p⟩, ?_⟩
  · exact Step.sub (Step.new st' hDn) fun a z => by
      rcases List.mem_append.mp z with z | z
      · exact List.mem_append.mpr (.inl z)
      · exact List.mem_append.mpr (.inr (sw a z))
  · exact rw1.ext (Ext.upd hDn)
  rintro i m H2 ⟨rfl, hi2, ρ2, A2, acc, as, s2, r2, nD, hD2, dl, zl, kp, nos, p2⟩
  by_cases hlt : i < ds.length
  · right
    refine ⟨okI.go H2 i kp hlt, fun H3 => ∃ ρ2 A2 acc as, Step A H ([Dn] ++ A2) H3 ∧ Rel X.K X.mg T (L2.wipe σ vs) H3 ρ2 A2 ∧ Dn ∉ A2 ∧ H3 Dn = some (.lst acc) ∧ DzL X.K X.mg H3 acc as ∧ as.length ≤ sizeLine ∧ Keep H1 H3 ∧ (∀ j ∈ vs, ρ2[j]? = some .no) ∧
      Post X.K X.mg T (RS X.K X.mg) W σ H A Q (match cLoop vs (cTurn g ft fe) (ds.drop (i + 1)) as ρ2 with
        | .ok as ρ2 => .ok (.ow false as) ρ2
        | _ => .no), fun H' n => ⟨ds.length - (i + 1), by omega, rfl, hlt, n⟩, fun x H3 y => ?_⟩
    obtain ⟨ex, d, e1, dz⟩ := okI.yld H2 i x H3 kp y hlt
    have ed : ds.drop i = d :: ds.drop (i + 1) := by
      obtain ⟨h0, h1⟩ := List.getElem?_eq_some_iff.mp e1
      rw [List.drop_eq_getElem_cons h0, h1]
    rw [ed] at p2
    unfold cLoop at p2
    cases e2 : g d ρ2 with
    | none => simp only [cTurn, e2] at p2; exact p2.elim
    | some ρ3 =>
      simp only [cTurn, e2] at p2
      have r3 := r2.ext ex
      refine g2 x d (L2.wipe σ vs) H3 ρ2 A2 ρ3 _ dz r3 e2 fun σ4 A4 r4 sb ap => ?_
      have ap' : Apart vs (L2.wipe σ vs) σ4 := ⟨ap.1, fun j hj => ap.2 j fun z => hj (his j z)⟩
      have ew4 : L2.wipe σ4 vs = L2.wipe σ vs := (wipe_eq ap').trans wipe_twice
      have s4 : Step A H ([Dn] ++ A4) H3 := (s2.trans ex.step).sub fun a z => by
        rcases List.mem_append.mp z with z | z
        · exact List.mem_append.mpr (.inl z)
        · exact List.mem_append.mpr (.inr (sb a z))
      have nD4 : Dn ∉ A4 := fun z => nD (sb _ z)
      have hD3 : H3 Dn = some (.lst acc) := ex _ _ hD2
      have k4 : Keep H1 H3 := kp.trans ex.keep
      refine ⟨ew4, ρ3, A4, r4, ?_⟩
      cases e3 : ft ρ3 with
      | no => rw [e3] at p2; exact p2.elim
      | ex c w ρ5 => rw [e3] at p2; exact p2.elim
      | ok b ρ5 =>
        rw [e3] at p2
        intro b' H5 B1 A5 s5 r5 rt n5
        obtain ⟨rfl, rfl⟩ := rt
        have s5' : Step A4 H3 A5 H5 := by simpa using s5
        have nd4 : ([Dn] ++ A4).Nodup := nd_app.mpr ⟨by simp, r4.nd, fun a ha b hb z => nD4 (by rw [List.mem_singleton.mp ha] at z; rw [z]; exact hb)⟩
        obtain ⟨as1, as2⟩ := s5'.aside nd4 (fun a ha => ⟨acc, by rw [List.mem_singleton.mp ha]; exact hD3⟩)
        have hD5 : H5 Dn = some (.lst acc) := (as1 Dn (by simp)).trans hD3
        have nD5 : Dn ∉ A5 := fun z => as2 Dn (by simp) Dn z rfl
        have k35 : Keep H3 H5 := r4.keep s5'
        have s05 : Step A H ([Dn] ++ A5) H5 := s4.trans (s5'.frame [Dn])
        cases b' with
        | false =>
          simp only [Bool.false_eq_true, if_false] at p2 ⊢
          cases e6 : wipeR vs ρ5 with
          | none => rw [e6] at p2; exact p2.elim
          | some ρ6 =>
            rw [e6] at p2
            obtain ⟨A6, r6, s6⟩ := r5.wipe e6
            rw [ew4] at r6
            exact ⟨ρ6, A6, acc, as, s05.sub (fun a z => (List.mem_append.mp z).elim (fun z => List.mem_append.mpr (.inl z)) fun z => List.mem_append.mpr (.inr (s6 a z))), r6, fun z => nD5 (s6 _ z), hD5, (dl.keep ex.keep).keep k35, zl, k4.trans k35, fun j hj => wipeR_no e6 hj, p2⟩
        | true =>
          simp only [if_true] at p2 ⊢
          refine ⟨ρ5, A5, r5, ?_⟩
          cases e7 : fe ρ5 with
          | no => rw [e7] at p2; exact p2.elim
          | ex c w ρ7 => rw [e7] at p2; exact p2.elim
          | ok yd ρ7 =>
            rw [e7] at p2
            intro yv H7 B7 A7 s7 r7 rt7 n7
            obtain ⟨rfl, dz7⟩ := rt7
            have s7' : Step A5 H5 A7 H7 := by simpa using s7
            have nd5 : ([Dn] ++ A5).Nodup := nd_app.mpr ⟨by simp, r5.nd, fun a ha b hb z => nD5 (by rw [List.mem_singleton.mp ha] at z; rw [z]; exact hb)⟩
            obtain ⟨bs1, bs2⟩ := s7'.aside nd5 (fun a ha => ⟨acc, by rw [List.mem_singleton.mp ha]; exact hD5⟩)
            have hD7 : H7 Dn = some (.lst acc) := (bs1 Dn (by simp)).trans hD5
            have nD7 : Dn ∉ A7 := fun z => bs2 Dn (by simp) Dn z rfl
            have k57 : Keep H5 H7 := r5.keep s7'
            have s07 : Step A H ([Dn] ++ A7) H7 := s05.trans (s7'.frame [Dn])
            have dl7 : DzL X.K X.mg H7 acc as := ((dl.keep ex.keep).keep k35).keep k57
            by_cases hz : as.length < sizeLine
            · simp only [hz, if_true] at p2
              refine ⟨acc, hD7, by rw [dl7.length]; exact hz, ?_⟩
              cases e8 : wipeR vs ρ7 with
              | none => rw [e8] at p2; exact p2.elim
              | some ρ8 =>
                rw [e8] at p2
                obtain ⟨A8, r8, s8⟩ := r7.wipe e8
                rw [ew4] at r8
                have kpu := keep_put (ys := acc ++ [yv]) hD7
                refine ⟨ρ8, A8, acc ++ [yv], as ++ [yd], (Step.put s07 ⟨_, hD7⟩).sub (fun a z => (List.mem_append.mp z).elim (fun z => List.mem_append.mpr (.inl z)) fun z => List.mem_append.mpr (.inr (s8 a z))), r8.put hD7 (fun z => nD7 (s8 _ z)), fun z => nD7 (s8 _ z), upd_same, (dl7.keep kpu).append (.cons (dz7.keep kpu) .nil), ?_, ((k4.trans k35).trans k57).trans kpu, fun j hj => wipeR_no e8 hj, p2⟩
                rw [List.length_append]; exact hz
            · simp only [hz, if_false] at p2
              exact p2.elim
  · left
    have e : i = ds.length := by omega
    subst e
    refine ⟨okI.stop H2 kp, ?_⟩
    rw [List.drop_length] at p2
    have p3 : Post X.K X.mg T (RS X.K X.mg) W σ H A Q (.ok (.ow false as) ρ2) := p2
    refine p3 _ H2 [Dn] A2 s2 (r2.unwipe nos) (.ow hD2 (by rw [dl.length]; exact zl) dl) ?_
    exact nd_app.mpr ⟨by simp, r2.nd, fun a ha b hb z => nD (by rw [List.mem_singleton.mp ha] at z; rw [z]; exact hb)⟩
theorem dx_lc {elt tg iter : Expr} {ifs : List Expr} {scope : Scope} {own : List (Str × Nat)} {pos : Pos} {it : M (List D)} {t : TG} {is : List Nat} {g : D → Env → Option Env} {ft : M Bool} {fe : M D} (hc : X.calm = true) (hN : X.N.Nodup) (hi : DI T X tg iter it) (ok : BlkOk X.N X.env.scope scope own)
    (hg : ∀ (s : Shared) (H : Hp) (C : Addr) (cl : List (Str × Addr)) (fp : List Addr), DG T (X.blk s H scope (compEnvC scope cl C X.env) fp) tg t is g) (ht : ∀ (s : Shared) (H : Hp) (C : Addr) (cl : List (Str × Addr)) (fp : List Addr), DTs T (X.blk s H scope (compEnvC scope cl C X.env) fp) ifs ft)
    (he : ∀ (s : Shared) (H : Hp) (C : Addr) (cl : List (Str × Addr)) (fp : List Addr), DE T (X.blk s H scope (compEnvC scope cl C X.env) fp) elt fe) (his : ∀ i ∈ is, i ∈ own.map (·.2) := by decide) (hs : ∀ x, foldedSetIterable iter X.env x = pure x := by intro _; rfl) :
    DX T X (.ListComp elt [⟨tg, iter, ifs, 0⟩] scope pos) (mComp (own.map (·.2)) it g ft fe) := fun W tk => by
  refine PE.imp (pe_lc (tt := tG X.K X.mg T RT ft fun _ _ _ _ => False) (te := tG X.K X.mg T (RD X.K X.mg) fe fun _ _ _ _ => False) hc hN (hi W tk) ok (fun s H C cl fp => (hg s H C cl fp).1) (fun s H C cl fp => ht s H C cl fp _ takesN0) (fun s H C cl fp => he s H C cl fp _ takesN0) hs) fun σ H Q q => ?_
  exact lc_imp (hg X.s_0 X.H_0 0 [] []).2 his q
end
end ME
namespace ME
open PySem PySem.Spec PyProof.Rows L2 LamX
section
variable {K : PySem.W.Frag} {G : Str → Option Value} {H : Hp}
theorem DqL.one {vs : List V} {d : D} (h : DqL K G H vs [d]) : ∃ v, vs = [v] ∧ Dq K G H v d := by
  cases h with
  | cons a b => cases b; exact ⟨_, rfl, a⟩
theorem DqL.two {vs : List V} {d e : D} (h : DqL K G H vs [d, e]) : ∃ v u, vs = [v, u] ∧ Dq K G H v d ∧ Dq K G H u e := by
  cases h with
  | cons a b =>
    obtain ⟨u, rfl, q⟩ := b.one
    exact ⟨_, _, rfl, a, q⟩
theorem Dq.sqL {v : V} {ds : List D} (h : Dq K G H v (.lst ds)) : ∃ a vs, v = .ref a ∧ SqL K H a vs ∧ DzL K G H vs ds ∧ ds.length ≤ sizeLine := by
  obtain ⟨a, vs, e, r, l, z⟩ := h.lst
  exact ⟨a, vs, e, .inl r, l, z⟩
/-! ### len, int, max, min, list, tuple, all -/
def fLen : List D → Option D
  | [.str z] => if z.length ≤ sizeLine then some (.int z.length) else none
  | [.tup ds] => some (.int ds.length)
  | [.lst ds] => some (.int ds.length)
  | _ => none
theorem s_len : FnS K G (fun xs H Q => ∃ x n, xs = [x] ∧ LenV K x H n ∧ Q (.int n) H) fLen := by
  intro xs z vs H Q e d k
  match xs, e, d with
  | [.str s], e, d =>
    obtain ⟨v, rfl, q⟩ := d.one
    have e' : (if s.length ≤ sizeLine then some (D.int s.length) else none) = some z := e
    by_cases c : s.length ≤ sizeLine
    · rw [if_pos c] at e'; cases e'
      rw [q.str]
      exact ⟨_, _, rfl, ⟨c, rfl⟩, k _ H Ext.refl (.int _)⟩
    · rw [if_neg c] at e'; cases e'
  | [.tup ds], e, d =>
    obtain ⟨v, rfl, q⟩ := d.one
    cases e
    obtain ⟨a, us, rfl, hs, l, _⟩ := q.tup
    exact ⟨_, us.length, rfl, .inr ⟨us, hs, rfl⟩, k _ H Ext.refl (by rw [l.length]; exact .int _)⟩
  | [.lst ds], e, d =>
    obtain ⟨v, rfl, q⟩ := d.one
    cases e
    obtain ⟨a, us, rfl, hs, l, _⟩ := q.sqL
    exact ⟨_, us.length, rfl, .inl ⟨us, hs, rfl⟩, k _ H Ext.refl (by rw [l.length]; exact .int _)⟩
def fInt : List D → Option D
  | [.int i] => some (.int i)
  | [.bl b] => some (.int (if b then 1 else 0))
  | _ => none
theorem s_toInt : FnS K G (fun xs H Q => (∃ i, xs = [.int i] ∧ Q (.int i) H) ∨ ∃ k, xs = [.bl k] ∧ Q (.int (if k then 1 else 0)) H) fInt := by
  intro xs z vs H Q e d k
  match xs, e, d with
  | [.int s], e, d =>
    obtain ⟨v, rfl, q⟩ := d.one
    cases e
    rw [q.int]
    exact .inl ⟨_, rfl, k _ H Ext.refl (.int _)⟩
  | [.bl b], e, d =>
    obtain ⟨v, rfl, q⟩ := d.one
    cases e
    rw [q.bl]
    exact .inr ⟨_, rfl, k _ H Ext.refl (.int _)⟩
def fMax : List D → Option D
  | [.int i, .int j] => some (.int (if j > i then j else i))
  | _ => none
def fMin : List D → Option D
  | [.int i, .int j] => some (.int (if j < i then j else i))
  | _ => none
theorem s_max : FnS K G (fun xs H Q => ∃ i j, xs = [.int i, .int j] ∧ Q (.int (if j > i then j else i)) H) fMax := by
  intro xs z vs H Q e d k
  match xs, e, d with
  | [.int i, .int j], e, d =>
    obtain ⟨v, u, rfl, q, r⟩ := d.two
    cases e
    rw [q.int, r.int]
    exact ⟨_, _, rfl, k _ H Ext.refl (.int _)⟩
theorem s_min : FnS K G (fun xs H Q => ∃ i j, xs = [.int i, .int j] ∧ Q (.int (if j < i then j else i)) H) fMin := by
  intro xs z vs H Q e d k
  match xs, e, d with
  | [.int i, .int j], e, d =>
    obtain ⟨v, u, rfl, q, r⟩ := d.two
    cases e
    rw [q.int, r.int]
    exact ⟨_, _, rfl, k _ H Ext.refl (.int _)⟩
def fList : List D → Option Sl
  | [.tup ds] => some (.ow false ds)
  | [.lst ds] => some (.ow false ds)
  | _ => none
theorem s_list : FnX K G (fun xs H Q => ∃ p ys, xs = [.ref p] ∧ (SqL K H p ys ∨ SqT K H p ys) ∧ ∀ l, H l = none → Q (.ref l) (upd H l (.lst ys))) fList := by
  intro xs s vs H Q e d k nz
  match xs, e, d with
  | [.tup ds], e, d =>
    obtain ⟨v, rfl, q⟩ := d.one
    cases e
    obtain ⟨a, us, rfl, hs, l, z⟩ := q.tup
    exact ⟨a, us, rfl, .inr hs, fun p n => k p us _ (Ext.upd n) n upd_same z (l.keep (Ext.upd n).keep)⟩
  | [.lst ds], e, d =>
    obtain ⟨v, rfl, q⟩ := d.one
    cases e
    obtain ⟨a, us, rfl, hs, l, z⟩ := q.sqL
    exact ⟨a, us, rfl, .inl hs, fun p n => k p us _ (Ext.upd n) n upd_same z (l.keep (Ext.upd n).keep)⟩
def fTup : List D → Option D
  | [.tup ds] => some (.tup ds)
  | [.lst ds] => some (.tup ds)
  | _ => none
theorem s_tuple : FnS K G (fun xs H Q => ∃ p ys, xs = [.ref p] ∧ ((SqL K H p ys ∧ ∀ l, H l = none → Q (.ref l) (upd H l (.tup ys))) ∨ (SqT K H p ys ∧ Q (.ref p) H))) fTup := by
  intro xs z vs H Q e d k
  match xs, e, d with
  | [.tup ds], e, d =>
    obtain ⟨v, rfl, q⟩ := d.one
    cases e
    obtain ⟨a, us, rfl, hs, l, zz⟩ := q.tup
    exact ⟨a, us, rfl, .inr ⟨hs, k _ H Ext.refl (.tup hs (by rw [l.length]; exact zz) l)⟩⟩
  | [.lst ds], e, d =>
    obtain ⟨v, rfl, q⟩ := d.one
    cases e
    obtain ⟨a, us, rfl, hs, l, zz⟩ := q.sqL
    refine ⟨a, us, rfl, .inl ⟨hs, fun p n => ?_⟩⟩
    obtain ⟨x1, x2⟩ := ext_new n zz l
    exact k _ _ x1 x2
def blsD : List D → Option (List Bool)
  | [] => some []
  | .bl b :: ds => (blsD ds).map (b :: ·)
  | _ => none
theorem DzL.bls : ∀ {ds : List D} {vs : List V} {bs : List Bool}, DzL K G H vs ds → blsD ds = some bs → vs = bs.map V.bl
  | [], _, _, .nil, e => by cases e; rfl
  | .bl b :: ds, _, _, .cons h l, e => by
    obtain ⟨cs, e1, rfl⟩ := Option.map_eq_some_iff.mp (show (blsD ds).map (b :: ·) = some _ from e)
    cases h
    rw [DzL.bls l e1]; rfl
def fAll : List D → Option D
  | [.lst ds] => (blsD ds).map fun bs => .bl (bs.all id)
  | _ => none
def fAny : List D → Option D
  | [.lst ds] => (blsD ds).map fun bs => .bl (bs.any id)
  | _ => none
theorem s_all : FnS K G (rAll K) fAll := by
  intro xs z vs H Q e d k
  match xs, e, d with
  | [.lst ds], e, d =>
    obtain ⟨v, rfl, q⟩ := d.one
    obtain ⟨bs, e1, rfl⟩ := Option.map_eq_some_iff.mp (show (blsD ds).map (fun bs => D.bl (bs.all id)) = some _ from e)
    obtain ⟨a, us, rfl, hs, l, zz⟩ := q.sqL
    rw [l.bls e1] at hs
    exact ⟨a, bs, rfl, hs, k _ H Ext.refl (.bl _)⟩
theorem s_any : FnS K G (rAny K) fAny := by
  intro xs z vs H Q e d k
  match xs, e, d with
  | [.lst ds], e, d =>
    obtain ⟨v, rfl, q⟩ := d.one
    obtain ⟨bs, e1, rfl⟩ := Option.map_eq_some_iff.mp (show (blsD ds).map (fun bs => D.bl (bs.any id)) = some _ from e)
    obtain ⟨a, us, rfl, hs, l, zz⟩ := q.sqL
    rw [l.bls e1] at hs
    exact ⟨a, bs, rfl, hs, k _ H Ext.refl (.bl _)⟩
end
/-! ### isinstance -/
def tyN : D → Option String
  | .non => some "NoneType"
  | .bl _ => some "bool"
  | .int _ => some "int"
  | .str _ => some "str"
  | .tup _ => some "tuple"
  | .lst _ => some "list"
  | _ => none
def tys : List String := ["NoneType", "bool", "int", "str", "tuple", "list"]
def isTy (n : String) (d : D) : Option D := (tyN d).map fun t => .bl (t == n || (t == "bool" && n == "int"))
theorem kit_ty {K : PySem.W.Frag} {t n : String} (ht : t ∈ tys) (hn : n ∈ ["bool", "int", "str", "tuple", "list"]) : PySem.W.kitOne K (.type t) (.type n) = some (t == n || (t == "bool" && n == "int")) := by
  simp only [tys, List.mem_cons, List.not_mem_nil, or_false] at ht hn
  rcases ht with rfl | rfl | rfl | rfl | rfl | rfl <;> rcases hn with rfl | rfl | rfl | rfl | rfl <;> rfl
theorem tyx_of {K : PySem.W.Frag} {G : Str → Option Value} {H : Hp} {v : V} {d : D} {t : String} (h : Dq K G H v d) (e : tyN d = some t) : TyX K H v (.type t) ∧ t ∈ tys := by
  cases d with
  | non => cases e; rw [h.non]; exact ⟨.base .non, by decide⟩
  | bl b => cases e; rw [h.bl]; exact ⟨.base (.bl b), by decide⟩
  | int b => cases e; rw [h.int]; exact ⟨.base (.int b), by decide⟩
  | str b => cases e; rw [h.str]; exact ⟨.base (.str b), by decide⟩
  | tup ds =>
    cases e
    obtain ⟨a, us, rfl, hs, l, _⟩ := h.tup
    refine ⟨?_, by decide⟩
    rcases hs with (hs | ⟨o, hs⟩) | ⟨o, its, n, h1, h2, _⟩
    · exact .base (.tup hs)
    · exact .fTuple hs
    · exact .kTuple h1 h2
  | lst ds =>
    cases e
    obtain ⟨a, us, rfl, hs, l, _⟩ := h.lst
    refine ⟨?_, by decide⟩
    rcases hs with hs | ⟨o, hs⟩
    · exact .base (.lst hs)
    · exact .base (.frz hs)
  | _ => cases e
theorem de_isi {T : Gh} {X : Cx} {a : Expr} {f : M Rv} {n : String} {c : Str} {p p2 pos : Pos} (ha : DR T X a f) (hg : Gl X "isinstance") (hm : X.mg "isinstance" = none) (hg2 : Gl X c) (hm2 : X.mg c = none) (hv2 : bootBuiltins c = some (.type n)) (hn : n ∈ ["bool", "int", "str", "tuple", "list"] := by decide)
    (hnn : c ≠ "__name__" := by decide) (hdb : (c == ("__debug__" : Str)) = false := by decide)
    (he : starEach [a, .Name c p2] X.env = (false, eval a X.env) :: starEach [.Name c p2] X.env := by rfl) (he2 : starEach [.Name c p2] X.env = (false, eval (.Name c p2) X.env) :: starEach [] X.env := by rfl) (hpl : (backTo pos (starEach [.Name c p2] X.env)).any (·.1) = false := by rfl) :
    DE T X (.Call (.Name "isinstance" p) [a, .Name c p2] [] pos) (mun (isTy n) f) := fun W tk =>
  PE.imp (pe_callB call_isi hg hm (by decide +kernel) (pa_cons (ha W tk) (pa_cons (pe_bltn hg2 hm2 hv2 (show RelV (.ty n) (.type n) from rfl) hnn hdb) pa_nil he2) he) (by decide) (by decide) he hpl) fun σ H Q q => by
    obtain ⟨ρ, A, rl, p⟩ := one q
    refine ⟨ρ, A, rl, p.mono fun v H1 q1 => ?_⟩
    obtain ⟨x, dx, nw⟩ := q1
    obtain ⟨z, e, k⟩ := nw.data
    obtain ⟨t, e1, rfl⟩ := Option.map_eq_some_iff.mp (show (tyN x).map _ = some z from e)
    obtain ⟨ty, tm⟩ := tyx_of dx e1
    exact ⟨v, .ty n, _, _, _, rfl, .ty n, ty, kit_ty tm hn, k _ H1 Ext.refl (.bl _)⟩
end ME
namespace ME
open PySem PySem.Spec PyProof.Rows L2 LamX
/-! ### methods of texts -/
def SpM1 (K : PySem.W.Frag) (G : Str → Option Value) (r : V → List V → Hp → VK → Prop) (op : Str → D → Option Sl) : Prop :=
  ∀ (a : Str) (y : D) (s : Sl) (u : V) (H : Hp) (Q : VK), op a y = some s → Dq K G H u y → Gives K G H s Q → s ≠ .no → r (.str a) [u] H Q
def SpM0 (K : PySem.W.Frag) (G : Str → Option Value) (r : V → List V → Hp → VK → Prop) (op : Str → Option Sl) : Prop :=
  ∀ (a : Str) (s : Sl) (H : Hp) (Q : VK), op a = some s → Gives K G H s Q → s ≠ .no → r (.str a) [] H Q
def mm1 (op : Str → D → Option Sl) (f : M D) (g : M Rv) : M Sl := mbind f fun d => match d with
  | .str a => mbind g fun r => mbind (muse r) fun y => mopt ((op a y).bind unown)
  | _ => fun _ => .no
def mm0 (op : Str → Option Sl) (f : M D) : M Sl := mbind f fun d => match d with
  | .str a => mopt ((op a).bind unown)
  | _ => fun _ => .no
section
variable {T : Gh} {X : Cx} {o e : Expr} {f : M D} {g : M Rv} {id : String} {name : Str} {apos pos : Pos} {r : V → List V → Hp → VK → Prop}
theorem dx_m1 {op : Str → D → Option Sl} (slot : Slot "str" name id) (ty : typeOf (.builtin id) = pure (.type "method_descriptor")) (rule : MtR X id r) (sp : SpM1 X.K X.mg r op) (ho : DE T X o f) (he : DR T X e g)
    (hs : starEach [e] X.env = [(false, eval e X.env)] := by rfl) (hbase : attributeBase o name X.env (eval o X.env) = eval o X.env := by rfl) (hline : (apos.endLine == pos.line) = true := by rfl) :
    DX T X (.Call (.Attribute o name apos) [e] [] pos) (mm1 op f g) := fun W tk => PE.imp (pe_m1 slot ty rule (ho W tk) (he W tk) hs hbase hline) fun σ H Q q => by
  obtain ⟨ρ, A, rl, p⟩ := q
  refine ⟨ρ, A, rl, p.seq fun v d ρ1 H1 A1 A' st r1 rd nd p => ?_⟩
  obtain ⟨rfl, dz⟩ := rd
  have st' : Step A H A' H1 := by simpa using st
  cases dz with
  | str a =>
    refine ⟨⟨a, rfl⟩, ρ1, A', r1, Post.goes st' p fun u s ρ2 H2 B1 B s2 r2 rd2 nd2 p2 => ?_⟩
    obtain ⟨rfl, ok2⟩ := rd2
    have s2' : Step A' H1 B H2 := by simpa using s2
    have p3 : Post X.K X.mg T (RS X.K X.mg) W σ H A Q (mbind (mopt (rres ρ2 s)) (fun y => mopt ((op a y).bind unown)) ρ2) := p2
    cases e2 : rres ρ2 s with
    | none => rw [e2] at p3; exact p3.elim
    | some y =>
      rw [e2] at p3
      have nw : Now X.K X.mg T (RS X.K X.mg) W σ Q H2 (mopt ((op a y).bind unown)) := ⟨H, A, ρ2, B, st'.trans s2', r2, p3⟩
      obtain ⟨s', e3, nz, k⟩ := nw.gives
      exact sp a y s' u H2 Q e3 (ok2.dq r2 e2) k nz
  | _ => exact p.elim
theorem dx_m0 {op : Str → Option Sl} (slot : Slot "str" name id) (ty : typeOf (.builtin id) = pure (.type "method_descriptor")) (rule : MtR X id r) (sp : SpM0 X.K X.mg r op) (ho : DE T X o f)
    (hbase : attributeBase o name X.env (eval o X.env) = eval o X.env := by rfl) (hline : (apos.endLine == pos.line) = true := by rfl) :
    DX T X (.Call (.Attribute o name apos) [] [] pos) (mm0 op f) := fun W tk => PE.imp (pe_m0 slot ty rule (ho W tk) hbase hline) fun σ H Q q => by
  obtain ⟨ρ, A, rl, p⟩ := q
  refine ⟨ρ, A, rl, p.seq fun v d ρ1 H1 A1 A' st r1 rd nd p => ?_⟩
  obtain ⟨rfl, dz⟩ := rd
  have st' : Step A H A' H1 := by simpa using st
  cases dz with
  | str a =>
    have nw : Now X.K X.mg T (RS X.K X.mg) W σ Q H1 (mopt ((op a).bind unown)) := ⟨H, A, ρ1, A', st', r1, p⟩
    obtain ⟨s', e3, nz, k⟩ := nw.gives
    exact ⟨⟨a, rfl⟩, sp a s' H1 Q e3 k nz⟩
  | _ => exact p.elim
end
/-- a list of texts -/
def strsD : List D → Option (List Str)
  | [] => some []
  | .str b :: ds => (strsD ds).map (b :: ·)
  | _ => none
section
variable {K : PySem.W.Frag} {G : Str → Option Value} {H : Hp}
theorem DzL.strs : ∀ {ds : List D} {vs : List V} {bs : List Str}, DzL K G H vs ds → strsD ds = some bs → vs = bs.map V.str
  | [], _, _, .nil, e => by cases e; rfl
  | .str b :: ds, _, _, .cons h l, e => by
    obtain ⟨cs, e1, rfl⟩ := Option.map_eq_some_iff.mp (show (strsD ds).map (b :: ·) = some _ from e)
    cases h
    rw [DzL.strs l e1]; rfl
theorem DzL.ofStrs : ∀ (ys : List Str), DzL K G H (ys.map V.str) (ys.map D.str)
  | [] => .nil
  | y :: ys => .cons (.str y) (DzL.ofStrs ys)
def oSplit (a : Str) (y : D) : Option Sl := match y with
  | .str b => if (b.length == 0) = false ∧ a.length + 2 ≤ sizeLine ∧ (Txt.split a b).length ≤ sizeLine then some (.ow false ((Txt.split a b).map D.str)) else none
  | _ => none
theorem sp_split : SpM1 K G (fun x xs H Q => ∃ a b, x = .str a ∧ xs = [.str b] ∧ (b.length == 0) = false ∧ a.length + 2 ≤ sizeLine ∧ rNewStrs (Txt.split a b) H Q) oSplit := by
  intro a y s u H Q e d k nz
  cases y with
  | str b =>
    have e' : (if (b.length == 0) = false ∧ a.length + 2 ≤ sizeLine ∧ (Txt.split a b).length ≤ sizeLine then some (Sl.ow false ((Txt.split a b).map D.str)) else none) = some s := e
    by_cases c : (b.length == 0) = false ∧ a.length + 2 ≤ sizeLine ∧ (Txt.split a b).length ≤ sizeLine
    · rw [if_pos c] at e'; cases e'
      rw [d.str]
      exact ⟨a, b, rfl, rfl, c.1, c.2.1, fun p n => k p _ _ (Ext.upd n) n upd_same (by rw [List.length_map]; exact c.2.2) (DzL.ofStrs _)⟩
    · rw [if_neg c] at e'; cases e'
  | _ => cases e
def itemsD : D → Option (List D)
  | .lst ds => some ds
  | .tup ds => some ds
  | _ => none
def oJoin (a : Str) (y : D) : Option Sl := (itemsD y).bind fun ds => (strsD ds).bind fun ys => if (ys.map (·.length)).sum + ys.length * a.length ≤ 16777216 then some (.fz (.str (Txt.join a ys))) else none
theorem sp_join : SpM1 K G (fun x xs H Q => ∃ a p, ∃ ys : List Str, x = .str a ∧ xs = [.ref p] ∧ (SqL K H p (ys.map V.str) ∨ SqT K H p (ys.map V.str)) ∧
    (ys.map (·.length)).sum + ys.length * a.length ≤ 16777216 ∧ Q (.str (Txt.join a ys)) H) oJoin := by
  intro a y s u H Q e d k nz
  obtain ⟨ds, e1, e2⟩ := Option.bind_eq_some_iff.mp (show (itemsD y).bind _ = some s from e)
  obtain ⟨ys, e3, e4⟩ := Option.bind_eq_some_iff.mp (show (strsD ds).bind _ = some s from e2)
  by_cases c : (ys.map (·.length)).sum + ys.length * a.length ≤ 16777216
  · rw [if_pos c] at e4; cases e4
    have kk := k _ H Ext.refl (.str (Txt.join a ys))
    cases y with
    | lst _ =>
      cases e1
      obtain ⟨p, vs, rfl, hs, l, _⟩ := d.sqL
      rw [l.strs e3] at hs
      exact ⟨a, p, ys, rfl, rfl, .inl hs, c, kk⟩
    | tup _ =>
      cases e1
      obtain ⟨p, vs, rfl, hs, l, _⟩ := d.tup
      rw [l.strs e3] at hs
      exact ⟨a, p, ys, rfl, rfl, .inr hs, c, kk⟩
    | _ => cases e1
  · rw [if_neg c] at e4; cases e4
def oUpper (a : Str) : Option Sl := if a.length ≤ 5592405 then some (.fz (.str (Txt.upper a))) else none
theorem sp_upper : SpM0 K G (fun x xs H Q => ∃ a, x = .str a ∧ xs = [] ∧ a.length ≤ 5592405 ∧ Q (.str (Txt.upper a)) H) oUpper := by
  intro a s H Q e k nz
  have e' : (if a.length ≤ 5592405 then some (Sl.fz (.str (Txt.upper a))) else none) = some s := e
  by_cases c : a.length ≤ 5592405
  · rw [if_pos c] at e'; cases e'
    exact ⟨a, rfl, rfl, c, k _ H Ext.refl (.str _)⟩
  · rw [if_neg c] at e'; cases e'
end
/-! ### multiplication -/
def repS (a : Str) (n : Nat) : Str := ⟨(List.replicate n a.cps).foldl (· ++ ·) #[]⟩
def rRepS : R2 := fun x y H Q => ∃ a k, x = .str a ∧ y = .int k ∧ 2 ≤ k ∧ k < 2 ^ 32 ∧ 1 ≤ a.length ∧ a.length * k.toNat ≤ sizeLine ∧ (repS a k.toNat).length ≤ sizeLine ∧ Q (.str (repS a k.toNat)) H
def rRepR : R2 := fun x y H Q => ∃ a k us, x = .ref a ∧ y = .int k ∧ Rd H a (.lst us) ∧ 0 ≤ k ∧ k < 2 ^ 32 ∧ us.length * k.toNat ≤ sizeLine ∧ ∀ p, H p = none → Q (.ref p) (upd H p (.lst (List.replicate k.toNat us).flatten))
section
variable {X : Cx}
theorem op_repS : OpR X (binaryOp .Mult) rRepS := by
  intro pins s σ H x y v u Q I rx ry ⟨a, k, ex, ey, k2, k3, a1, sz, sz2, q⟩
  subst ex ey
  obtain ⟨t, rfl⟩ := rx
  obtain ⟨t2, rfl⟩ := ry
  have n1 : ¬ k < 1 := by omega
  have n2 : (k == 1 || a.length == 0) = false := by simp; omega
  refine PySem.P.mul_str (by simp; omega) (fun _ _ => ?_) (fun _ _ => ?_) ?_
  · have h : (a.length : Int) ≤ 2 ^ 24 := by
      have : a.length ≤ a.length * k.toNat := Nat.le_mul_of_pos_right _ (by omega)
      have e : sizeLine = 2 ^ 24 := rfl
      omega
    have h2 : (2 : Int) ^ 24 ≤ (2 ^ 63 - 1) / k := by
      rw [Int.le_ediv_iff_mul_le (by omega)]
      omega
    omega
  · unfold Builtin.Str.tooLong
    simp; omega
  · rw [if_neg n1, n2]
    exact ⟨sz2, .str (repS a k.toNat), H, I.tok _, ⟨_, rfl⟩, q⟩
theorem flat_rep (its : List Value) (n : Nat) : List.foldl (fun x1 x2 => x1 ++ x2) #[] (List.replicate (if its.toArray.isEmpty = true then 0 else n) its.toArray) = (List.replicate n its).flatten.toArray := by
  by_cases h : its = []
  · subst h; simp
  · rw [if_neg (by simpa using h)]
    simpa using foldl_rep its n []
theorem op_repR : OpR X (binaryOp .Mult) rRepR := by
  intro pins s σ H x y v u Q I rx ry ⟨a, k, us, ex, ey, hr, k0, k1, sz, q⟩
  subst ex ey
  cases rx
  obtain ⟨t, rfl⟩ := ry
  obtain ⟨_, its, n, rv, hl, ho⟩ := Inv.lstR I hr
  have sz' : its.toArray.size * k.toNat ≤ sizeLine := by simpa [← hl] using sz
  have big : (sizeLine : Nat) ≤ (2 ^ 63 - 1) / 8 := by decide
  have mul := AutoListH.list___mul___list_int_3 a its.toArray n k t (by rw [fitsIndex_both (by omega) (by omega)]; decide) (fun z => absurd sz' (by omega)) (by rw [notLongL sz']; decide)
  refine wpAny_binaryOp_repeat_ref (T := "list") (U := "int") (by decide) ⟨_, ho, rfl⟩ (fun s' => typeIs_int s' k t) noFill_list_mul F.fills_int_mul F.slot_int_rmul repeat_list F.slot_int_index.lookup ?_
  refine call_meets F.slot_int_rmul (typeIs_int s k t) F.entry_int_rmul (F.args_int_rmul_2 _ _) (int___rmul___int_list k t a its.toArray n) ⟨ho, rfl, ⟨_, ho, rfl⟩, ?_⟩
  refine call_meets F.slot_list_mul ⟨_, ho, rfl⟩ F.entry_list_mul (F.args_list_mul_2 _ _) mul ⟨ho, ?_⟩
  rw [flat_rep]
  have I2 := I.lnew (t' := s.toks) (rv.rep k.toNat) (by rw [PyProof.Rows.lm_len_rep_flat, Nat.mul_comm]; exact sz)
  exact ⟨.ref _, _, I2, rfl, q _ I.fresh⟩
end
def repD (ds : List D) (n : Nat) : List D := (List.replicate n ds).flatten
theorem DzL.rep {K : PySem.W.Frag} {G : Str → Option Value} {H : Hp} {vs : List V} {ds : List D} (l : DzL K G H vs ds) : ∀ n, DzL K G H (List.replicate n vs).flatten (repD ds n)
  | 0 => .nil
  | n + 1 => by
    unfold repD
    rw [List.replicate_succ, List.replicate_succ, List.flatten_cons, List.flatten_cons]
    exact l.append (DzL.rep l n)
def aMul : D → D → Option Sl
  | .int i, .int j => if CMul i j then some (.fz (.int (i * j))) else none
  | .str a, .int k => if 2 ≤ k ∧ k < 2 ^ 32 ∧ 1 ≤ a.length ∧ a.length * k.toNat ≤ sizeLine ∧ (repS a k.toNat).length ≤ sizeLine then some (.fz (.str (repS a k.toNat))) else none
  | .tup ds, .int k => if ds.length ≠ 0 ∧ 2 ≤ k ∧ k ≤ 1000 ∧ ds.length ≤ 1000 ∧ (repD ds k.toNat).length ≤ sizeLine then some (.fz (.tup (repD ds k.toNat))) else none
  | .lst ds, .int k => if 0 ≤ k ∧ k < 2 ^ 32 ∧ ds.length * k.toNat ≤ sizeLine ∧ (repD ds k.toNat).length ≤ sizeLine then some (.ow false (repD ds k.toNat)) else none
  | _, _ => none
abbrev rMulA (K : PySem.W.Frag) : R2 := fun x y H Q => rI CMul (fun i j => .int (i * j)) x y H Q ∨ rRepS x y H Q ∨ rRepT K x y H Q ∨ rRepR x y H Q
theorem op_mulA {X : Cx} : OpR X (binaryOp .Mult) (rMulA X.K) := OpR.or op_mul (OpR.or op_repS (OpR.or op_repT op_repR))
theorem s_mulA {K : PySem.W.Frag} {G : Str → Option Value} : OpX K G (rMulA K) aMul := by
  intro x y s v u H Q e dx dy k nz
  unfold aMul at e
  split at e
  · rename_i i j
    split at e
    · rename_i c
      cases e
      rw [dx.int, dy.int]
      exact .inl ⟨_, _, rfl, rfl, c, k _ H Ext.refl (.int _)⟩
    · cases e
  · rename_i a j
    split at e
    · rename_i c
      cases e
      rw [dx.str, dy.int]
      exact .inr (.inl ⟨_, _, rfl, rfl, c.1, c.2.1, c.2.2.1, c.2.2.2.1, c.2.2.2.2, k _ H Ext.refl (.str _)⟩)
    · cases e
  · rename_i ds j
    split at e
    · rename_i c
      cases e
      obtain ⟨a, vs, rfl, ha, la, za⟩ := dx.tup
      rw [dy.int]
      refine .inr (.inr (.inl ⟨a, _, vs, rfl, rfl, ha, fun z => c.1 (by rw [← la.length, z]; rfl), c.2.1, c.2.2.1, by rw [la.length]; exact c.2.2.2.1, fun p n => ?_⟩))
      obtain ⟨x1, x2⟩ := ext_new n c.2.2.2.2 (la.rep j.toNat)
      exact k _ _ x1 x2
    · cases e
  · rename_i ds j
    split at e
    · rename_i c
      cases e
      obtain ⟨a, vs, rfl, ha, la, za⟩ := dx.lst
      rw [dy.int]
      refine .inr (.inr (.inr ⟨a, _, vs, rfl, rfl, ha, c.1, c.2.1, by rw [la.length]; exact c.2.2.1, fun p n => ?_⟩))
      exact k p _ _ (Ext.upd n) n upd_same c.2.2.2 ((la.rep j.toNat).keep (Ext.upd n).keep)
    · cases e
  · cases e
/-! ### x[i] = v -/
def sPut (i : Nat) (fi f : M D) : MS := sBind f fun d ρ => match ρ[i]? with
  | some (.ow _ _) => sBind fi (fun k ρ => match ρ[i]? with
    | some (.ow p ds) => (match k with
      | .int k => (match ixN ds.length k with
        | some j => .nx (ρ.set i (.ow p (ds.set j d)))
        | none => .no)
      | _ => .no)
    | _ => .no) ρ
  | _ => .no
section
variable {T : Gh} {X : Cx}
theorem ds_put (i : Nat) {x : Str} {ei e : Expr} {fi f : M D} {px p2 pos : Pos} (he : DE T X e f) (hi : DE T X ei fi) (hN : X.N[i]? = some x := by rfl) (hv : Vis X.env.scope x := by first | exact Or.inl rfl | exact Or.inr (Or.inl rfl) | exact Or.inr (Or.inr rfl)) (hd : (x == ("__debug__" : Str)) = false := by decide)
    (hcd : (x == ("__classdict__" : Str)) = false := by decide)
    (ha : ∀ v, assign (.Subscript (.Name x px) ei p2) X.env v = (do
      let ov ← holding [v] (eval (.Name x px) X.env)
      let iv ← holding [v, ov] (eval ei X.env)
      standAt p2
      holding [v, ov, iv] (setItem ov iv v)
      release [v, ov, iv] []) := by intro _; rfl)
    (hs : swapsWithSole [.Subscript (.Name x px) ei p2] e pos.line X.env = pure false := by rfl) (hw : swappedStores [.Subscript (.Name x px) ei p2] e X.env = pure none := by rfl)
    (h1 : (assignEach [.Subscript (.Name x px) ei p2] X.env).map (·.2) = [assign (.Subscript (.Name x px) ei p2) X.env] := by rfl) :
    DS T X (.Assign [.Subscript (.Name x px) ei p2] e pos) (sPut i fi f) := fun W tk =>
  PS.imp (ps_asg (he W tk) (pg_sub (pe_var hN hv hd hcd) (hi W tk) set_list ha) hs hw h1) fun E σ H q => by
    obtain ⟨ρ, A, rl, p⟩ := q
    refine ⟨ρ, A, rl, p.seq fun v d ρ1 H1 A1 A' st r1 rd nd p => ?_⟩
    obtain ⟨rfl, dz⟩ := rd
    have st' : Step A H A' H1 := by simpa using st
    split at p
    · rename_i b ds e0
      obtain ⟨w, B, b1, b2, b3⟩ := r1.as.get e0
      cases b2 with
      | ow ha0 hz0 l0 =>
        rename_i a vs
        refine ⟨_, b1, ρ1, A', r1, PostS.goes st' p fun u k ρ2 H2 B1 B s2 r2 rd2 nd2 p2 => ?_⟩
        obtain ⟨rfl, dk⟩ := rd2
        have s2' : Step A' H1 B H2 := by simpa using s2
        split at p2
        · rename_i b' ds' e1
          split at p2
          · rename_i k'
            split at p2
            · rename_i j ej
              obtain ⟨v2, B2, c1, c2, c3⟩ := r2.as.get e1
              rw [b1] at c1; cases c1
              cases c2 with
              | ow ha2 hz2 l2 =>
                rename_i vs2
                cases dk
                have dz2 := dz.keep (r1.keep s2')
                obtain ⟨s3, r3⟩ := Rel.write (us := vs2.set j v) (es := ds'.set j d) (st'.trans s2') r2 e1 b1 (by rw [List.length_set, ← l2.length]; exact hz2) (l2.set dz2 j)
                exact ⟨a, vs2, _, j, rfl, rfl, ha2, by rw [l2.length]; exact ej, p2 σ _ B s3 r3⟩
            · exact p2.elim
          · exact p2.elim
        · exact p2.elim
    · exact p.elim
end
end ME
namespace ME
open PySem PySem.Spec PyProof.Rows L2 LamX
/-! ### tuple(a list): a new record -/
def rTupN (K : PySem.W.Frag) : List V → Hp → VK → Prop := fun xs H Q => ∃ p ys, xs = [.ref p] ∧ SqL K H p ys ∧ ∀ (o : Obj) l, H l = none → o.dict = none → Q (.ref l) (upd H l (.frz o (.tup ys)))
theorem call_tupN {X : Cx} : CallR X (.type "tuple") (rTupN X.K) := by
  intro pins s σ H xs us Q I r ⟨p, ys, ex, hq, q⟩
  subst ex
  obtain ⟨u, rfl, rx⟩ := vals1 r
  cases rx
  obtain ⟨its, rv, pl, hz⟩ := I.list hq
  have hlen := rv.length
  refine call_tuple_list pl.isList (fun h' kp => ?_) (by simp only [List.size_toArray]; omega)
  have I1 := I.kept (t' := s.toks) kp
  have fr := I1.hok.fresh (Nat.le_refl _)
  have I2 : Inv X pins σ (upd H h'.objs.size (.frz { cls := .type "tuple", data := .seq its.toArray } (.tup ys))) { s with heap := h'.push { cls := .type "tuple", data := .seq its.toArray } } :=
    I1.laid (t' := s.toks) (fun b o e => Heap.get?_push_of_some _ e) (Nat.le_refl _) ⟨Heap.get?_push_size _ rfl, hz, its, rv, IsTup.new _ _⟩
  exact ⟨.ref h'.objs.size, _, I2, rfl, q _ _ fr rfl⟩
def fTupN : List D → Option Sl
  | [.lst ds] => some (.nt ds)
  | _ => none
theorem s_tupN {K : PySem.W.Frag} {G : Str → Option Value} : FnX K G (rTupN K) fTupN := by
  intro xs s vs H Q e d k nz
  match xs, e, d with
  | [.lst ds], e, d =>
    obtain ⟨v, rfl, q⟩ := d.one
    cases e
    obtain ⟨a, us, rfl, hs, l, z⟩ := q.sqL
    exact ⟨a, us, rfl, hs, fun o p n hd => k p us _ (Ext.upd n) ⟨o, upd_same, hd⟩ z (l.keep (Ext.upd n).keep)⟩
/-! ### t.index(x) -/
def tNIx (K : PySem.W.Frag) (to te : TE) : TE := fun σ H Q => to σ H fun x H1 => ∃ a vs, x = .ref a ∧ Ndt H1 a vs ∧ te σ H1 fun y H2 => ∃ (ys : List Str) (z : Str) (j : Nat), y = .str z ∧ SqT K H2 a (ys.map V.str) ∧ ys[j]? = some z ∧ (∀ m, m < j → ys[m]? ≠ some z) ∧ Q (.int (j : Nat)) H2
section
variable {T : Gh} {X : Cx}
theorem pe_tindex {o e : Expr} {to te : TE} {apos cpos : Pos} (ho : PE X o to) (he : PE X e te)
    (hbase : attributeBase o "index" X.env (eval o X.env) = eval o X.env := by rfl)
    (hfew : ((backTo cpos (starEach [e] X.env)).all (fun x => !x.1) && (backToKw cpos (keywordEach [] X.env)).all (fun x => x.1.isSome)
      && decide (([e] : List Expr).length + ([] : List Keyword).length + (if ([] : List Keyword).isEmpty then 0 else 1) < 30)) = true := by rfl)
    (hline : (apos.endLine == cpos.line) = true := by rfl) (hs : starEach [e] X.env = (false, eval e X.env) :: starEach [] X.env := by rfl) (hplain : (backTo cpos (starEach [] X.env)).any (·.1) = false := by rfl) :
    PE X (.Call (.Attribute o "index" apos) [e] [] cpos) (tNIx X.K to te) := by
  refine ⟨fun pins s σ H Q I h => ?_⟩
  refine wpAny_Call_method_late hbase hfew hline rfl (thn (ho.run pins s σ H _ I h) fun v s1 ⟨x, H1, I1, r1, a, vs, ex, ⟨ob, hob, hd⟩, q1⟩ => ?_)
  subst ex
  cases (show v = Value.ref a from r1)
  obtain ⟨g1, _, its, _, ob', g2, hc, _⟩ := (show ObjOk X.prog X.w H1 s1.heap a (.frz ob (.tup vs)) from I1.hok a _ hob)
  rw [g1] at g2
  cases g2
  have hA := (pa_cons he pa_nil hs).run cpos pins s1 σ H1 (fun xs H2 => match xs with
    | [y] => ∃ (ys : List Str) (z : Str) (j : Nat), y = .str z ∧ SqT X.K H2 a (ys.map V.str) ∧ ys[j]? = some z ∧ (∀ m, m < j → ys[m]? ≠ some z) ∧ Q (.int (j : Nat)) H2
    | _ => False) I1 q1
  refine ⟨"tuple", "tuple.index", PySem.F.plainAttrs_tuple, PySem.F.slot_tuple_index, PySem.F.type_tuple_index, ⟨_, g1, hc⟩, fun b e => by cases e; exact ⟨_, g1, hd⟩, ?_⟩
  rw [hs] at hA ⊢
  refine Calls.callWith_builtin (by show (false || (backTo cpos (starEach [] X.env)).any (·.1)) = false; rw [hplain]; rfl) (Calls.evalArgs_plain ?_)
  refine thn hA fun us s2 ⟨ws, H2, I2, r2, q2⟩ => ?_
  match ws, q2 with
  | [y], ⟨ys, z, j, ey, hq, e1, e2, q3⟩ =>
    subst ey
    exact mt_tup_index pins s2 σ H2 (.ref a) [.str z] (.ref a) us Q I2 rfl r2 ⟨a, ys, z, j, rfl, rfl, hq, e1, e2, q3⟩
/-- the place of the first such text -/
def idxS (z : Str) : List Str → Option Nat
  | [] => none
  | y :: ys => if y = z then some 0 else (idxS z ys).map (· + 1)
theorem idxS_some {z : Str} : ∀ {ys : List Str} {j : Nat}, idxS z ys = some j → ys[j]? = some z ∧ ∀ m, m < j → ys[m]? ≠ some z
  | [], _, e => by cases e
  | y :: ys, j, e => by
    unfold idxS at e
    split at e
    · rename_i h
      cases e
      exact ⟨by rw [← h]; rfl, fun m hm => by omega⟩
    · rename_i h
      obtain ⟨k, e1, rfl⟩ := Option.map_eq_some_iff.mp e
      obtain ⟨h1, h2⟩ := idxS_some e1
      refine ⟨by simpa using h1, fun m hm => ?_⟩
      cases m with
      | zero => simpa using h
      | succ m => simpa using h2 m (by omega)
def mTIx (i : Nat) (f : M D) : M D := fun ρ => match ρ[i]? with
  | some (.nt ds) => mbind f (fun d => match d with
    | .str z => mopt ((strsD ds).bind fun ys => (idxS z ys).map fun j => .int (j : Nat))
    | _ => fun _ => .no) ρ
  | _ => .no
theorem de_tindex (i : Nat) {x : Str} {e : Expr} {f : M D} {px apos cpos : Pos} (he : DE T X e f) (hN : X.N[i]? = some x := by rfl) (hv : Vis X.env.scope x := by first | exact Or.inl rfl | exact Or.inr (Or.inl rfl) | exact Or.inr (Or.inr rfl)) (hd : (x == ("__debug__" : Str)) = false := by decide)
    (hcd : (x == ("__classdict__" : Str)) = false := by decide)
    (hbase : attributeBase (.Name x px) "index" X.env (eval (.Name x px) X.env) = eval (.Name x px) X.env := by rfl)
    (hfew : ((backTo cpos (starEach [e] X.env)).all (fun x => !x.1) && (backToKw cpos (keywordEach [] X.env)).all (fun x => x.1.isSome)
      && decide (([e] : List Expr).length + ([] : List Keyword).length + (if ([] : List Keyword).isEmpty then 0 else 1) < 30)) = true := by rfl)
    (hline : (apos.endLine == cpos.line) = true := by rfl) (hs : starEach [e] X.env = (false, eval e X.env) :: starEach [] X.env := by rfl) (hplain : (backTo cpos (starEach [] X.env)).any (·.1) = false := by rfl) :
    DE T X (.Call (.Attribute (.Name x px) "index" apos) [e] [] cpos) (mTIx i f) := fun W tk => PE.imp (pe_tindex (pe_var hN hv hd hcd) (he W tk) hbase hfew hline hs hplain) fun σ H Q q => by
  obtain ⟨ρ, A, rl, p⟩ := q
  unfold mTIx at p
  split at p
  · rename_i ds e0
    obtain ⟨v, A1, e1, e2, e3⟩ := rl.as.get e0
    cases e2 with
    | nt hn hz l =>
      rename_i a vs
      refine ⟨_, e1, a, vs, rfl, hn, ρ, A, rl, p.seq fun u d ρ1 H1 A1 A' st r1 rd nd p => ?_⟩
      obtain ⟨rfl, dz⟩ := rd
      have st' : Step A H A' H1 := by simpa using st
      cases dz with
      | str z =>
        obtain ⟨w, ew, p2⟩ := mopt_some p
        obtain ⟨ys, e4, e5⟩ := Option.bind_eq_some_iff.mp ew
        obtain ⟨j, e6, rfl⟩ := Option.map_eq_some_iff.mp e5
        obtain ⟨h1, h2⟩ := idxS_some e6
        have hs' : SqT X.K H1 a vs := ((rl.keep st').ndt hn).sq
        rw [l.strs e4] at hs'
        exact ⟨ys, z, j, rfl, hs', h1, h2, p2.fin st' r1 Ext.refl (.int _)⟩
      | _ => exact p.elim
  · exact p.elim
end
/-! ### dicts -/
def keyD : D → Option Key
  | .int i => some (.inl i)
  | .str s => some (.inr s)
  | _ => none
def dGet : List Key → List D → Key → Option D
  | k :: ks, d :: ds, x => if k = x then some d else dGet ks ds x
  | _, _, _ => none
section
variable {K : PySem.W.Frag} {G : Str → Option Value} {H : Hp}
theorem keyD_v {v : V} {d : D} {k : Key} (h : Dz K G H v d) (e : keyD d = some k) : v = kV k := by
  cases h with
  | int i => cases e; rfl
  | str s => cases e; rfl
  | _ => cases e
theorem dGet_v {k : Key} : ∀ {kvs : List (Key × V)} {ds : List D}, DzL K G H (kvs.map (·.2)) ds → (∀ d, dGet (kvs.map (·.1)) ds k = some d → ∃ v, valV kvs k = some v ∧ Dz K G H v d) ∧ (dGet (kvs.map (·.1)) ds k = none → valV kvs k = none)
  | [], [], _ => ⟨fun d e => (nomatch e), fun _ => rfl⟩
  | (x, v) :: kvs, d :: ds, .cons h l => by
    obtain ⟨i1, i2⟩ := dGet_v (k := k) l
    unfold valV
    simp only [List.map_cons, dGet, List.find?_cons]
    by_cases c : x = k
    · simp only [c, if_true, decide_true]
      exact ⟨fun d' e => (by cases e; exact ⟨v, rfl, h⟩), fun e => (by cases e)⟩
    · simp only [c, if_false, decide_false]
      exact ⟨i1, i2⟩
end
def aKeyIn (x y : D) : Option Bool := match y with
  | .dic ks ds => (keyD x).map fun k => (dGet ks ds k).isSome
  | _ => none
def aKeyGet (y x : D) : Option D := match y with
  | .dic ks ds => (keyD x).bind fun k => dGet ks ds k
  | _ => none
def mdd (op : D → D → Option D) (f g : M D) : M D := mbind f fun x => mbind g fun y => mopt (op x y)
section
variable {T : Gh} {X : Cx} {i o : Expr} {f g : M D} {pos : Pos}
theorem mdd_two {op : D → D → Option D} {W : WX} {σ : L2.St} {H : Hp} {Q : VK} (q : tG X.K X.mg T (RD X.K X.mg) (mdd op f g) W σ H Q) :
    tG X.K X.mg T (RD X.K X.mg) f W σ H fun v H1 => tG X.K X.mg T (RD X.K X.mg) g W σ H1 fun u H2 => ∃ x y z, Dz X.K X.mg H2 v x ∧ Dz X.K X.mg H2 u y ∧ op x y = some z ∧ ∀ v' H3, Ext H2 H3 → Dz X.K X.mg H3 v' z → Q v' H3 := by
  obtain ⟨ρ, A, rl, p⟩ := q
  refine ⟨ρ, A, rl, p.seq fun v d ρ1 H1 A1 A' st r1 rd nd p => ?_⟩
  obtain ⟨rfl, dz⟩ := rd
  have st' : Step A H A' H1 := by simpa using st
  refine ⟨ρ1, A', r1, Post.goes st' p fun u d2 ρ2 H2 B1 B s2 r2 rd2 nd2 p2 => ?_⟩
  obtain ⟨rfl, dz2⟩ := rd2
  have s2' : Step A' H1 B H2 := by simpa using s2
  obtain ⟨z, e, p3⟩ := mopt_some p2
  exact ⟨d, d2, z, dz.keep (r1.keep s2'), dz2, e, fun v' H3 ex h => p3.fin (st'.trans s2') r2 ex h⟩
theorem key_use {x y : D} {v u : V} {H : Hp} {b : Bool} (dx : Dz X.K X.mg H v x) (dy : Dz X.K X.mg H u y) (e : aKeyIn x y = some b) : ∃ a o, u = .ref a ∧ DGet H a v o ∧ o.isSome = b := by
  cases dy with
  | dic h em l =>
    rename_i a ob kvs vs ds
    subst em
    obtain ⟨k, e1, rfl⟩ := Option.map_eq_some_iff.mp (show (keyD x).map _ = some b from e)
    refine ⟨a, valV kvs k, rfl, .inl ⟨kvs, k, .inr ⟨_, h⟩, keyD_v dx e1, rfl⟩, ?_⟩
    obtain ⟨g1, g2⟩ := dGet_v (k := k) l
    cases q : dGet (kvs.map (·.1)) ds k with
    | none => rw [g2 q]; rfl
    | some d =>
      obtain ⟨w, ew, _⟩ := g1 d q
      rw [ew]; rfl
  | _ => cases e
theorem de_kin (hu : X.A.units + 1 < cLine) (hi : DE T X i f) (ho : DE T X o g) (h1 : behindInMarks .In o = false := by rfl) : DE T X (.Compare i [.In] [o] pos) (mdd (fun x y => (aKeyIn x y).map .bl) f g) :=
  fun W tk => PE.imp (L2.pe_cmp (pc_din hu (hi W tk) (ho W tk)) h1) fun σ H Q q => by
    obtain ⟨ρ, A, rl, p⟩ := mdd_two q
    refine ⟨ρ, A, rl, p.mono fun v H1 ⟨ρ1, A1, r1, p1⟩ => ⟨ρ1, A1, r1, p1.mono fun u H2 ⟨x, y, z, dx, dy, e, k⟩ => ?_⟩⟩
    obtain ⟨b, e1, rfl⟩ := Option.map_eq_some_iff.mp e
    obtain ⟨a, oo, e2, e3, e4⟩ := key_use dx dy e1
    exact ⟨a, oo, e2, e3, by rw [e4]; exact k _ H2 Ext.refl (.bl _)⟩
theorem de_knotin (hu : X.A.units + 1 < cLine) (hi : DE T X i f) (ho : DE T X o g) (h1 : behindInMarks .NotIn o = false := by rfl) : DE T X (.Compare i [.NotIn] [o] pos) (mdd (fun x y => (aKeyIn x y).map fun b => .bl (!b)) f g) :=
  fun W tk => PE.imp (L2.pe_cmp (pc_dnotin hu (hi W tk) (ho W tk)) h1) fun σ H Q q => by
    obtain ⟨ρ, A, rl, p⟩ := mdd_two q
    refine ⟨ρ, A, rl, p.mono fun v H1 ⟨ρ1, A1, r1, p1⟩ => ⟨ρ1, A1, r1, p1.mono fun u H2 ⟨x, y, z, dx, dy, e, k⟩ => ?_⟩⟩
    obtain ⟨b, e1, rfl⟩ := Option.map_eq_some_iff.mp e
    obtain ⟨a, oo, e2, e3, e4⟩ := key_use dx dy e1
    exact ⟨a, oo, e2, e3, by rw [e4]; exact k _ H2 Ext.refl (.bl _)⟩
theorem de_kget (hu : X.A.units + 1 < cLine) (ho : DE T X o g) (hi : DE T X i f) (hs : NoSl i) : DE T X (.Subscript o i pos) (mdd aKeyGet g f) :=
  fun W tk => PE.imp (pe_dget hu (ho W tk) (hi W tk) hs) fun σ H Q q => by
    obtain ⟨ρ, A, rl, p⟩ := mdd_two q
    refine ⟨ρ, A, rl, p.mono fun v H1 ⟨ρ1, A1, r1, p1⟩ => ⟨ρ1, A1, r1, p1.mono fun u H2 ⟨y, x, z, dy, dx, e, k⟩ => ?_⟩⟩
    cases dy with
    | @dic a ob kvs vs ds h em l =>
      subst em
      obtain ⟨kk, e1, e2⟩ := Option.bind_eq_some_iff.mp (show (keyD x).bind _ = some z from e)
      obtain ⟨w, ew, dw⟩ := (dGet_v (k := kk) l).1 z e2
      exact ⟨a, w, rfl, .inl ⟨kvs, kk, .inr ⟨_, h⟩, keyD_v dx e1, ew.symm⟩, k _ H2 Ext.refl dw⟩
    | _ => cases e
end
end ME
namespace ME
open PySem PySem.Spec PyProof.Rows L2 LamX
/-! ### dict comprehensions -/
inductive DzK (K : PySem.W.Frag) (G : Str → Option Value) (H : Hp) : List (Key × V) → List (Key × D) → Prop
  | nil : DzK K G H [] []
  | cons {k : Key} {v : V} {d : D} {vs : List (Key × V)} {ds : List (Key × D)} : Dz K G H v d → DzK K G H vs ds → DzK K G H ((k, v) :: vs) ((k, d) :: ds)
section
variable {K : PySem.W.Frag} {G : Str → Option Value} {H H' : Hp}
theorem DzK.keep (kp : Keep H H') {vs : List (Key × V)} {ds : List (Key × D)} (h : DzK K G H vs ds) : DzK K G H' vs ds := by
  induction h with
  | nil => exact .nil
  | cons d _ ih => exact .cons (d.keep kp) ih
theorem DzK.length {vs : List (Key × V)} {ds : List (Key × D)} (h : DzK K G H vs ds) : vs.length = ds.length := by
  induction h with
  | nil => rfl
  | cons d _ ih => rw [List.length_cons, List.length_cons, ih]
theorem DzK.keys {vs : List (Key × V)} {ds : List (Key × D)} (h : DzK K G H vs ds) : vs.map (·.1) = ds.map (·.1) ∧ DzL K G H (vs.map (·.2)) (ds.map (·.2)) := by
  induction h with
  | nil => exact ⟨rfl, .nil⟩
  | cons d _ ih => exact ⟨by rw [List.map_cons, List.map_cons, ih.1], .cons d ih.2⟩
theorem DzK.any {vs : List (Key × V)} {ds : List (Key × D)} {x : Key} (h : DzK K G H vs ds) : (vs.any fun kv => decide (kv.1 = x)) = ds.any fun kv => decide (kv.1 = x) := by
  induction h with
  | nil => rfl
  | cons d _ ih => rw [List.any_cons, List.any_cons, ih]
theorem DzK.append {vs us : List (Key × V)} {ds es : List (Key × D)} (h : DzK K G H vs ds) (g : DzK K G H us es) : DzK K G H (vs ++ us) (ds ++ es) := by
  induction h with
  | nil => exact g
  | cons d _ ih => exact .cons d ih
theorem DzK.set {vs : List (Key × V)} {ds : List (Key × D)} {x : Key} {v : V} {d : D} (z : Dz K G H v d) (h : DzK K G H vs ds) : DzK K G H (vs.map fun kv => if kv.1 = x then (kv.1, v) else kv) (ds.map fun kv => if kv.1 = x then (kv.1, d) else kv) := by
  induction h with
  | nil => exact .nil
  | @cons k _ _ _ _ q _ ih =>
    rw [List.map_cons, List.map_cons]
    by_cases c : k = x
    · simp only [c, if_true]; exact .cons z ih
    · simp only [c, if_false]; exact .cons q ih
end
/-- in its place, or at the end -/
def putD (kvs : List (Key × D)) (k : Key) (v : D) : List (Key × D) :=
  if (kvs.any fun kv => decide (kv.1 = k)) = true then kvs.map (fun kv => if kv.1 = k then (kv.1, v) else kv) else kvs ++ [(k, v)]
theorem DzK.put {K : PySem.W.Frag} {G : Str → Option Value} {H : Hp} {vs : List (Key × V)} {ds : List (Key × D)} {x : Key} {v : V} {d : D} (z : Dz K G H v d) (h : DzK K G H vs ds) : DzK K G H (putK vs x v) (putD ds x d) := by
  unfold putK putD
  rw [h.any]
  split
  · exact h.set z
  · exact h.append (.cons z .nil)
def kTurn (g : D → Env → Option Env) (ft : M Bool) (fk fe : M D) (d : D) (as : List (Key × D)) : M (List (Key × D)) := fun ρ => match g d ρ with
  | none => .no
  | some ρ1 => match ft ρ1 with
    | .ok true ρ2 => (match fk ρ2 with
      | .ok x ρ3 => (match fe ρ3 with
        | .ok y ρ4 => (match keyD x with
          | some k => if as.length < sizeLine then .ok (putD as k y) ρ4 else .no
          | none => .no)
        | _ => .no)
      | _ => .no)
    | .ok false ρ2 => .ok as ρ2
    | _ => .no
def kLoop (own : List Nat) (turn : D → List (Key × D) → M (List (Key × D))) : List D → List (Key × D) → M (List (Key × D))
  | [], as => mpure as
  | d :: ds, as => fun ρ => match turn d as ρ with
    | .ok as' ρ1 => (match wipeR own ρ1 with
      | some ρ2 => kLoop own turn ds as' ρ2
      | none => .no)
    | _ => .no
def mDict (own : List Nat) (it : M (List D)) (g : D → Env → Option Env) (ft : M Bool) (fk fe : M D) : M D := mbind it fun ds ρ => match wipeR own ρ with
  | none => .no
  | some ρ' => match kLoop own (kTurn g ft fk fe) ds [] ρ' with
    | .ok as ρ2 => .ok (.dic (as.map (·.1)) (as.map (·.2))) ρ2
    | _ => .no
theorem pe_ghostK {X : Cx} {e : Expr} {t : TE} (h : PE X e t) : PE X e (fun σ H Q => t σ H fun v H1 => ∃ a kvs, v = .ref a ∧ H1 a = some (.dK kvs) ∧ ∀ od, Q v (upd H1 a (.frz od (.dK kvs)))) := by
  refine ⟨fun pins s σ H Q I q => thn (h.run pins s σ H _ I q) fun u s' ⟨v, H1, I1, r, a, kvs, ev, ha, q⟩ => ?_⟩
  obtain ⟨od, I2⟩ := I1.lock ha trivial
  exact ⟨v, _, I2, r, q od⟩
section
variable {T : Gh} {X : Cx}
theorem keep_putO {H : Hp} {D : Addr} {kvs : List (Key × V)} {o : HO} (hD : H D = some (.dK kvs)) : Keep H (upd H D o) := ⟨fun b xs q => by rw [upd_ne (fun z => by rw [z, hD] at q; cases q)]; exact q, fun b o u q => by rw [upd_ne (fun z => by rw [z, hD] at q; cases q)]; exact q, fun b o q => by rw [upd_ne (fun z => by rw [z, hD] at q; cases q)]; exact q⟩
theorem Rel.putO {K : PySem.W.Frag} {G : Str → Option Value} {σ : L2.St} {H : Hp} {ρ : Env} {A : List Addr} {D : Addr} {kvs : List (Key × V)} {o : HO} (r : Rel K G T σ H ρ A) (hD : H D = some (.dK kvs)) (hn : D ∉ A) : Rel K G T σ (upd H D o) ρ A := by
  refine ⟨r.as.keep (keep_putO hD) fun a h => upd_ne (fun z => hn (z ▸ h)), r.nd, fun p hp => ?_, r.pro⟩
  obtain ⟨ps, e1, e2, e3⟩ := r.tab p hp
  refine ⟨ps, by rw [upd_ne (fun z => by rw [z, hD] at e1; cases e1)]; exact e1, e2, fun pos cv hc => ?_⟩
  obtain ⟨c, e4, e5⟩ := e3 pos cv hc
  exact ⟨c, e4, by rw [upd_ne (fun z => by rw [z, hD] at e5; cases e5)]; exact e5⟩
theorem dc_imp {it : M (List D)} {t : TG} {is vs : List Nat} {g : D → Env → Option Env} {ft : M Bool} {fk fe : M D} {W : WX} {σ : L2.St} {H : Hp} {Q : VK} (g2 : ∀ v d σ H ρ A ρ' (Q : L2.St → Hp → Prop), Dz X.K X.mg H v d → Rel X.K X.mg T σ H ρ A → g d ρ = some ρ' → (∀ σ' A', Rel X.K X.mg T σ' H ρ' A' → (∀ a ∈ A', a ∈ A) → Apart is σ σ' → Q σ' H) → t v σ H Q)
    (his : ∀ i ∈ is, i ∈ vs) (q : tG X.K X.mg T (RD X.K X.mg) (mDict vs it g ft fk fe) W σ H Q) : tDc (tG X.K X.mg T (RI X.K X.mg) it W) t (tG X.K X.mg T RT ft fun _ _ _ _ => False) (tG X.K X.mg T (RD X.K X.mg) fk fun _ _ _ _ => False) (tG X.K X.mg T (RD X.K X.mg) fe fun _ _ _ _ => False) vs σ H
      (fun v H1 => ∃ a kvs, v = .ref a ∧ H1 a = some (.dK kvs) ∧ ∀ od, Q v (upd H1 a (.frz od (.dK kvs)))) := by
  obtain ⟨ρ, A, rl, p⟩ := q
  refine ⟨ρ, A, rl, p.seq fun J ds ρ1 H1 A1 A' st r1 rd nd p => ?_⟩
  obtain ⟨rfl, okI⟩ := rd
  have st' : Step A H A' H1 := by simpa using st
  cases ew : wipeR vs ρ1 with
  | none => rw [ew] at p; exact p.elim
  | some ρw =>
  rw [ew] at p
  dsimp only at p
  intro Dn hDn
  obtain ⟨Aw, rw1, sw⟩ := r1.wipe ew
  have hDA : ∀ {B : List Addr} {σ : L2.St} {ρ : Env}, Rel X.K X.mg T σ H1 ρ B → Dn ∉ B := fun r z => by
    obtain ⟨us, e⟩ := r.as.mut _ z
    rw [hDn] at e; cases e
  let Fin : List (Key × D) → Env → List D → Prop := fun as ρ2 rest => Post X.K X.mg T (RD X.K X.mg) W σ H A Q (match kLoop vs (kTurn g ft fk fe) rest as ρ2 with
        | .ok as ρ2 => .ok (.dic (as.map (·.1)) (as.map (·.2))) ρ2
        | _ => .no)
  refine ⟨fun i m H2 => m = ds.length - i ∧ i ≤ ds.length ∧ ∃ ρ2 A2 acc as, Step A H ([Dn] ++ A2) H2 ∧ Rel X.K X.mg T (L2.wipe σ vs) H2 ρ2 A2 ∧ Dn ∉ A2 ∧ H2 Dn = some (.dK acc) ∧ DzK X.K X.mg H2 acc as ∧ Keep H1 H2 ∧ (∀ j ∈ vs, ρ2[j]? = some .no) ∧
      Fin as ρ2 (ds.drop i), ⟨ds.length, by simp, Nat.zero_le _, ρw, Aw, [], [], ?_, ?_, hDA rw1, upd_same, .nil, (Ext.upd hDn).keep, fun j hj => wipeR_no ew hj, by simpa using p⟩, ?_⟩
  · exact Step.sub (Step.new st' hDn) fun a z => by
      rcases List.mem_append.mp z with z | z
      · exact List.mem_append.mpr (.inl z)
      · exact List.mem_append.mpr (.inr (sw a z))
  · exact rw1.ext (Ext.upd hDn)
  rintro i m H2 ⟨rfl, hi2, ρ2, A2, acc, as, s2, r2, nD, hD2, dl, kp, nos, p2⟩
  by_cases hlt : i < ds.length
  · right
    refine ⟨okI.go H2 i kp hlt, fun H3 => ∃ ρ2 A2 acc as, Step A H ([Dn] ++ A2) H3 ∧ Rel X.K X.mg T (L2.wipe σ vs) H3 ρ2 A2 ∧ Dn ∉ A2 ∧ H3 Dn = some (.dK acc) ∧ DzK X.K X.mg H3 acc as ∧ Keep H1 H3 ∧ (∀ j ∈ vs, ρ2[j]? = some .no) ∧
      Fin as ρ2 (ds.drop (i + 1)), fun H' n => ⟨ds.length - (i + 1), by omega, rfl, hlt, n⟩, fun x H3 y => ?_⟩
    obtain ⟨ex, d, e1, dz⟩ := okI.yld H2 i x H3 kp y hlt
    have ed : ds.drop i = d :: ds.drop (i + 1) := by
      obtain ⟨h0, h1⟩ := List.getElem?_eq_some_iff.mp e1
      rw [List.drop_eq_getElem_cons h0, h1]
    rw [ed] at p2
    dsimp only [Fin] at p2
    unfold kLoop at p2
    cases e2 : g d ρ2 with
    | none => simp only [kTurn, e2] at p2; exact p2.elim
    | some ρ3 =>
      simp only [kTurn, e2] at p2
      have r3 := r2.ext ex
      refine g2 x d (L2.wipe σ vs) H3 ρ2 A2 ρ3 _ dz r3 e2 fun σ4 A4 r4 sb ap => ?_
      have ap' : Apart vs (L2.wipe σ vs) σ4 := ⟨ap.1, fun j hj => ap.2 j fun z => hj (his j z)⟩
      have ew4 : L2.wipe σ4 vs = L2.wipe σ vs := (wipe_eq ap').trans wipe_twice
      have s4 : Step A H ([Dn] ++ A4) H3 := (s2.trans ex.step).sub fun a z => by
        rcases List.mem_append.mp z with z | z
        · exact List.mem_append.mpr (.inl z)
        · exact List.mem_append.mpr (.inr (sb a z))
      have nD4 : Dn ∉ A4 := fun z => nD (sb _ z)
      have hD3 : H3 Dn = some (.dK acc) := ex _ _ hD2
      have k4 : Keep H1 H3 := kp.trans ex.keep
      -- what an expression in the block leaves
      have go : ∀ {Ha Hb : Hp} {Aa Ab : List Addr}, Step A H ([Dn] ++ Aa) Ha → Dn ∉ Aa → Ha Dn = some (.dK acc) → Step Aa Ha Ab Hb → Hb Dn = some (.dK acc) ∧ Dn ∉ Ab ∧ Step A H ([Dn] ++ Ab) Hb := fun sa na ha sb => by
        refine ⟨sb.fr Dn _ ha na (fun _ q => by cases q), fun z => ?_, sa.trans (sb.frame [Dn])⟩
        rcases sb.ow Dn z with y | y
        · exact na y
        · obtain ⟨ps, q⟩ := y _ ha
          cases q
      refine ⟨ew4, ρ3, A4, r4, ?_⟩
      cases e3 : ft ρ3 with
      | no => rw [e3] at p2; exact p2.elim
      | ex c w ρ5 => rw [e3] at p2; exact p2.elim
      | ok b ρ5 =>
        rw [e3] at p2
        intro b' H5 B1 A5 s5 r5 rt n5
        obtain ⟨rfl, rfl⟩ := rt
        have s5' : Step A4 H3 A5 H5 := by simpa using s5
        obtain ⟨hD5, nD5, s05⟩ := go s4 nD4 hD3 s5'
        have k35 : Keep H3 H5 := r4.keep s5'
        cases b' with
        | false =>
          simp only [Bool.false_eq_true, if_false] at p2 ⊢
          cases e6 : wipeR vs ρ5 with
          | none => rw [e6] at p2; exact p2.elim
          | some ρ6 =>
            rw [e6] at p2
            obtain ⟨A6, r6, s6⟩ := r5.wipe e6
            rw [ew4] at r6
            exact ⟨ρ6, A6, acc, as, s05.sub (fun a z => (List.mem_append.mp z).elim (fun z => List.mem_append.mpr (.inl z)) fun z => List.mem_append.mpr (.inr (s6 a z))), r6, fun z => nD5 (s6 _ z), hD5, (dl.keep ex.keep).keep k35, k4.trans k35, fun j hj => wipeR_no e6 hj, p2⟩
        | true =>
          simp only [if_true] at p2 ⊢
          refine ⟨ρ5, A5, r5, ?_⟩
          cases e6 : fk ρ5 with
          | no => rw [e6] at p2; exact p2.elim
          | ex c w ρ7 => rw [e6] at p2; exact p2.elim
          | ok xd ρ6 =>
            simp only [e6] at p2
            intro xv H6 B6 A6 s6 r6 rt6 n6
            obtain ⟨rfl, dz6⟩ := rt6
            have s6' : Step A5 H5 A6 H6 := by simpa using s6
            obtain ⟨hD6, nD6, s06⟩ := go s05 nD5 hD5 s6'
            have k56 : Keep H5 H6 := r5.keep s6'
            refine ⟨ρ6, A6, r6, ?_⟩
            cases e7 : fe ρ6 with
            | no => rw [e7] at p2; exact p2.elim
            | ex c w ρ7 => rw [e7] at p2; exact p2.elim
            | ok yd ρ7 =>
              simp only [e7] at p2
              intro yv H7 B7 A7 s7 r7 rt7 n7
              obtain ⟨rfl, dz7⟩ := rt7
              have s7' : Step A6 H6 A7 H7 := by simpa using s7
              obtain ⟨hD7, nD7, s07⟩ := go s06 nD6 hD6 s7'
              have k67 : Keep H6 H7 := r6.keep s7'
              have dl7 : DzK X.K X.mg H7 acc as := (((dl.keep ex.keep).keep k35).keep k56).keep k67
              cases ek : keyD xd with
              | none => simp only [ek] at p2; exact p2.elim
              | some k =>
                simp only [ek] at p2
                by_cases hz : as.length < sizeLine
                · simp only [hz, if_true] at p2
                  refine ⟨acc, k, keyD_v (dz6.keep k67) ek, hD7, by rw [dl7.length]; exact hz, ?_⟩
                  cases e8 : wipeR vs ρ7 with
                  | none => rw [e8] at p2; exact p2.elim
                  | some ρ8 =>
                    rw [e8] at p2
                    obtain ⟨A8, r8, s8⟩ := r7.wipe e8
                    rw [ew4] at r8
                    have kpu := keep_putO (o := .dK (putK acc k yv)) hD7
                    refine ⟨ρ8, A8, putK acc k yv, putD as k yd, (Step.put s07 ⟨_, hD7⟩).sub (fun a z => (List.mem_append.mp z).elim (fun z => List.mem_append.mpr (.inl z)) fun z => List.mem_append.mpr (.inr (s8 a z))), r8.putO hD7 (fun z => nD7 (s8 _ z)), fun z => nD7 (s8 _ z), upd_same, (dl7.keep kpu).put (dz7.keep kpu), (((k4.trans k35).trans k56).trans k67).trans kpu, fun j hj => wipeR_no e8 hj, p2⟩
                · simp only [hz, if_false] at p2
                  exact p2.elim
  · left
    have e : i = ds.length := by omega
    subst e
    refine ⟨okI.stop H2 kp, ?_⟩
    rw [List.drop_length] at p2
    have p3 : Post X.K X.mg T (RD X.K X.mg) W σ H A Q (.ok (.dic (as.map (·.1)) (as.map (·.2))) ρ2) := p2
    refine ⟨Dn, acc, rfl, hD2, fun od => ?_⟩
    have kpu := keep_putO (o := .frz od (.dK acc)) hD2
    have rr := (r2.putO (o := .frz od (.dK acc)) hD2 nD).unwipe nos
    have ss := (Step.put (o := .frz od (.dK acc)) s2 ⟨_, hD2⟩).sub (fun a z => List.mem_append.mpr (.inr z) : ∀ a ∈ A2, a ∈ [Dn] ++ A2)
    obtain ⟨q1, q2⟩ := (dl.keep kpu).keys
    refine p3 _ _ [] A2 ss rr ⟨rfl, ?_⟩ (by simpa using r2.nd)
    rw [← q1]
    exact .dic upd_same rfl q2
theorem de_dc {kx vx tg iter : Expr} {ifs : List Expr} {scope : Scope} {own : List (Str × Nat)} {pos : Pos} {it : M (List D)} {t : TG} {is : List Nat} {g : D → Env → Option Env} {ft : M Bool} {fk fe : M D} (hc : X.calm = true) (hN : X.N.Nodup) (hi : DI T X tg iter it) (ok : BlkOk X.N X.env.scope scope own)
    (hg : ∀ (s : Shared) (H : Hp) (C : Addr) (cl : List (Str × Addr)) (fp : List Addr), DG T (X.blk s H scope (compEnvC scope cl C X.env) fp) tg t is g) (ht : ∀ (s : Shared) (H : Hp) (C : Addr) (cl : List (Str × Addr)) (fp : List Addr), DTs T (X.blk s H scope (compEnvC scope cl C X.env) fp) ifs ft)
    (hk : ∀ (s : Shared) (H : Hp) (C : Addr) (cl : List (Str × Addr)) (fp : List Addr), DE T (X.blk s H scope (compEnvC scope cl C X.env) fp) kx fk)
    (he : ∀ (s : Shared) (H : Hp) (C : Addr) (cl : List (Str × Addr)) (fp : List Addr), DE T (X.blk s H scope (compEnvC scope cl C X.env) fp) vx fe) (his : ∀ i ∈ is, i ∈ own.map (·.2) := by decide) (hs : ∀ x, foldedSetIterable iter X.env x = pure x := by intro _; rfl) :
    DE T X (.DictComp kx vx [⟨tg, iter, ifs, 0⟩] scope pos) (mDict (own.map (·.2)) it g ft fk fe) := fun W tk =>
  PE.imp (pe_ghostK (pe_dc (tt := tG X.K X.mg T RT ft fun _ _ _ _ => False) (tk := tG X.K X.mg T (RD X.K X.mg) fk fun _ _ _ _ => False) (tv := tG X.K X.mg T (RD X.K X.mg) fe fun _ _ _ _ => False) hc hN (hi W tk) ok (fun s H C cl fp => (hg s H C cl fp).1) (fun s H C cl fp => ht s H C cl fp _ takesN0) (fun s H C cl fp => hk s H C cl fp _ takesN0) (fun s H C cl fp => he s H C cl fp _ takesN0) hs)) fun σ H Q q => dc_imp (hg X.s_0 X.H_0 0 [] []).2 his q
end
end ME
namespace ME
open PySem PySem.Spec PyProof.Rows L2 LamX
/-! ### what a def does: the result, the arguments behind it -/
inductive FR where
  | ret (s : Sl) (ss : List Sl) | ex (c : Str) (w : D) (ss : List Sl) | no
abbrev FM := List Sl → FR
/-- the arguments behind the call: the lent lists as they stand -/
def outS : List Sl → Env → List Sl
  | .ow true _ :: ss, r :: ρ => r :: outS ss ρ
  | s :: ss, _ :: ρ => s :: outS ss ρ
  | ss, [] => ss
  | [], _ => []
/-- a body as a def: n names -/
def fnOf (n : Nat) (f : MS) : FM := fun ss => match f (ss ++ List.replicate (n - ss.length) .no) with
  | .nx ρ => .ret (.fz .non) (outS ss ρ)
  | .rt s ρ => .ret s (outS ss ρ)
  | .ex c w ρ => .ex c w (outS ss ρ)
  | _ => .no
def okArg : Sl → Bool
  | .no => false
  | .ow p _ => p
  | _ => true
section
variable (K : PySem.W.Frag) (G : Str → Option Value) (tab : List (Addr × Str))
def FPost (vs : List V) (H0 : Hp) (A0 : List Addr) (Q : VK) (E : XK) : FR → Prop
  | .ret s ss => ∀ v H A1, Step A0 H0 (A1 ++ A0) H → SlRs K G H (vs.map some) ss A0 → SlR K G H (some v) s A1 → (A1 ++ A0).Nodup → Tabs tab H → Q v H
  | .ex c w ss => ∀ C dx H, Step A0 H0 A0 H → SlRs K G H (vs.map some) ss A0 → G c = some (.ref C) → ExR K G H dx c w → Tabs tab H → E (.ref C) (some dx) H
  | .no => False
/-- the promise: n arguments -/
def spF (n : Nat) (F : FM) : Sp := fun vs H Q E => vs.length = n ∧ ∃ ss A, SlRs K G H (vs.map some) ss A ∧ A.Nodup ∧ Tabs tab H ∧ ss.all okArg = true ∧ FPost K G tab vs H A Q E (F ss)
end
section
variable {K : PySem.W.Frag} {G : Str → Option Value}
/-- where the lent lists stand -/
def lentAt : Nat → List (Option V) → List Sl → List (Nat × Addr)
  | n, some (.ref a) :: vs, .ow true _ :: ss => (n, a) :: lentAt (n + 1) vs ss
  | n, _ :: vs, _ :: ss => lentAt (n + 1) vs ss
  | _, _, _ => []
theorem start_rel {H : Hp} {n : Nat} : ∀ {vs : List (Option V)} {ss : List Sl} {A : List Addr}, SlRs K G H vs ss A → SlRs K G H (vs ++ List.replicate n none) (ss ++ List.replicate n .no) A
  | _, _, _, .nil => by
    induction n with
    | zero => exact .nil
    | succ n ih => exact .cons (A := []) .no ih
  | _, _, _, .cons h l => .cons h (start_rel l)
theorem lentAt_mem {H : Hp} {q : Nat × Addr} : ∀ {n : Nat} {vs : List (Option V)} {ss : List Sl} {A : List Addr}, SlRs K G H vs ss A → q ∈ lentAt n vs ss → ∃ j ds, q.1 = n + j ∧ vs[j]? = some (some (.ref q.2)) ∧ ss[j]? = some (.ow true ds)
  | n, _, _, _, .nil, h => by simp [lentAt] at h
  | n, v :: vs, s :: ss, _, .cons (A := A1) h l, hq => by
    have rest : q ∈ lentAt (n + 1) vs ss → ∃ j ds, q.1 = n + j ∧ (v :: vs)[j]? = some (some (.ref q.2)) ∧ (s :: ss)[j]? = some (.ow true ds) := fun hq => by
      obtain ⟨j, ds, e1, e2, e3⟩ := lentAt_mem l hq
      exact ⟨j + 1, ds, by omega, by simpa using e2, by simpa using e3⟩
    unfold lentAt at hq
    split at hq
    · rename_i e1 e2
      cases e1; cases e2
      rcases List.mem_cons.mp hq with rfl | hq
      · exact ⟨0, _, rfl, rfl, rfl⟩
      · exact rest hq
    · rename_i e1 e2
      cases e1; cases e2
      exact rest hq
    · cases hq
theorem end_nil {H0 H : Hp} (kp : Keep H0 H) : ∀ {n : Nat} {vs : List (Option V)} {ss : List Sl} {A : List Addr}, SlRs K G H0 vs ss A → ss.all okArg = true → (∀ q, q ∉ lentAt n vs ss) → SlRs K G H vs ss A
  | _, _, _, _, .nil, _, _ => .nil
  | n, v :: vs, s :: ss, _, .cons (A := A1) (B := B1) h l, ok, no => by
    have ok' : okArg s = true ∧ ss.all okArg = true := by simpa using ok
    cases h with
    | no => simp [okArg] at ok'
    | fz d => exact .cons (.fz (d.keep kp)) (end_nil kp (n := n + 1) l ok'.2 fun q hq => no q (by simpa [lentAt] using hq))
    | exn h1 h2 h3 h4 => exact .cons (.exn (kp.2.2 _ _ h1) h2 (h3.keep kp) h4) (end_nil kp (n := n + 1) l ok'.2 fun q hq => no q (by simpa [lentAt] using hq))
    | nt hn hz hl => exact .cons (.nt (kp.ndt hn) hz (hl.keep kp)) (end_nil kp (n := n + 1) l ok'.2 fun q hq => no q (by simpa [lentAt] using hq))
    | @ow a us p ds ha hz hl =>
      have ep : p = true := ok'.1
      subst ep
      exact absurd (by simp [lentAt]) (no (n, a))
/-- each owned argument is lent -/
theorem lent_of {H : Hp} : ∀ {n : Nat} {vs : List (Option V)} {ss : List Sl} {A : List Addr}, SlRs K G H vs ss A → ss.all okArg = true → ∀ a ∈ A, ∃ q ∈ lentAt n vs ss, q.2 = a
  | _, _, _, _, .nil, _, a, h => by cases h
  | n, v :: vs, s :: ss, _, .cons (A := A1) (B := B1) h l, ok, a, ha => by
    have ok' : okArg s = true ∧ ss.all okArg = true := by simpa using ok
    have rest : a ∈ B1 → ∃ q ∈ lentAt n (v :: vs) (s :: ss), q.2 = a := fun hb => by
      obtain ⟨q, hq, e⟩ := lent_of (n := n + 1) l ok'.2 a hb
      refine ⟨q, ?_, e⟩
      unfold lentAt
      split
      · rename_i e1 e2; cases e1; cases e2; exact List.mem_cons_of_mem _ hq
      · rename_i e1 e2; cases e1; cases e2; exact hq
      · rename_i h1 h2; exact (h2 _ _ _ _ rfl rfl).elim
    rcases List.mem_append.mp ha with z | z
    · cases h with
      | no => cases z
      | fz _ => cases z
      | nt _ _ _ => cases z
      | exn _ _ _ _ => cases z
      | @ow b us p ds e _ _ =>
        have ep : p = true := ok'.1
        subst ep
        have : a = b := by simpa using z
        subst this
        exact ⟨(n, a), by simp [lentAt], rfl⟩
    · exact rest z
/-- behind the body: the arguments as they stand -/
theorem end_rel {H0 H : Hp} {σ : L2.St} {ρ : Env} {A' : List Addr} (kp : Keep H0 H) : ∀ {n : Nat} {vs : List (Option V)} {ss : List Sl} {A : List Addr}, SlRs K G H0 vs ss A → ss.all okArg = true →
    SlRs K G H σ ρ A' → (∀ q ∈ lentAt n vs ss, ∃ j, q.1 = n + j ∧ σ[j]? = some (some (.ref q.2)) ∧ ∃ ds, ρ[j]? = some (.ow true ds)) → SlRs K G H vs (outS ss ρ) A
  | n, [], [], _, .nil, _, _, _ => by
    cases ρ with
    | nil => exact .nil
    | cons _ _ => exact .nil
  | n, v :: vs, s :: ss, _, .cons (A := A1) (B := B1) h l, ok, r, pro => by
    cases r with
    | nil =>
      have eo : outS (s :: ss) [] = s :: ss := by cases s with
        | ow p ds => cases p <;> rfl
        | _ => rfl
      rw [eo]
      refine end_nil kp (n := n) (.cons h l) ok fun q hq => ?_
      obtain ⟨j, _, e, _⟩ := pro q hq
      simp at e
    | @cons w σ t ρ C1 C2 hr lr =>
    have ok' : okArg s = true ∧ ss.all okArg = true := by simpa using ok
    have next : (∀ q ∈ lentAt (n + 1) vs ss, q ∈ lentAt n (v :: vs) (s :: ss)) → SlRs K G H vs (outS ss ρ) B1 := fun sub => by
      refine end_rel kp (n := n + 1) l ok'.2 lr (fun q hq => ?_)
      obtain ⟨j, e1, e2, ds, e3⟩ := pro q (sub q hq)
      obtain ⟨j', ds', f1, f2, f3⟩ := lentAt_mem l hq
      have : j = j' + 1 := by omega
      subst this
      exact ⟨j', by omega, by simpa using e2, ds, by simpa using e3⟩
    cases h with
    | no => simp [okArg] at ok'
    | fz d =>
      have e : ∀ x, outS (Sl.fz x :: ss) (t :: ρ) = Sl.fz x :: outS ss ρ := fun _ => rfl
      rw [e]
      exact .cons (.fz (d.keep kp)) (next fun q hq => by simpa [lentAt] using hq)
    | exn h1 h2 h3 h4 =>
      have e : ∀ x1 x2 x3 x4, outS (Sl.exn x1 x2 x3 x4 :: ss) (t :: ρ) = Sl.exn x1 x2 x3 x4 :: outS ss ρ := fun _ _ _ _ => rfl
      rw [e]
      exact .cons (.exn (kp.2.2 _ _ h1) h2 (h3.keep kp) h4) (next fun q hq => by simpa [lentAt] using hq)
    | nt hn hz hl =>
      have e : ∀ x, outS (Sl.nt x :: ss) (t :: ρ) = Sl.nt x :: outS ss ρ := fun _ => rfl
      rw [e]
      exact .cons (.nt (kp.ndt hn) hz (hl.keep kp)) (next fun q hq => by simpa [lentAt] using hq)
    | @ow a us p ds ha hz hl =>
      have ep : p = true := ok'.1
      subst ep
      have e : outS (Sl.ow true ds :: ss) (t :: ρ) = t :: outS ss ρ := rfl
      rw [e]
      obtain ⟨j, e1, e2, ds', e3⟩ := pro (n, a) (by simp [lentAt])
      have : j = 0 := by simpa using e1
      subst this
      simp at e2 e3
      subst e2; subst e3
      cases hr with
      | ow h1 h2 h3 => exact .cons (.ow h1 h2 h3) (next fun q hq => by simp [lentAt]; exact .inr hq)
end
section
variable {P : Program} {w : World} {K : PySem.W.Frag} {mg : Str → Option Value} {base : Heap} {tab : List (Addr × Str)}
theorem body_post {T : Gh} {N : List Str} {vs : List V} {ss : List Sl} {H : Hp} {A : List Addr} {Q : VK} {E : XK} {m : MS} {W : WX} (hT : T = ⟨tab, lentAt 0 (vs.map some) ss⟩) (hW : ∀ c d σ H, E c d H → W c d σ H)
    (hs : SlRs K mg H (vs.map some) ss A) (nd : A.Nodup) (ht : Tabs tab H) (ok : ss.all okArg = true) (fp : FPost K mg tab vs H A Q E (fnOf N.length m ss)) :
    tS K mg T m W { nx := fun _ H' => Q .non H', rt := Q } (L2.start N vs) H := by
  subst hT
  have el : vs.length = ss.length := by have := hs.length; simpa using this
  refine ⟨ss ++ List.replicate (N.length - ss.length) .no, A, ⟨?_, nd, ht, fun q hq => ?_⟩, ?_⟩
  · unfold L2.start
    rw [el]
    exact start_rel hs
  · obtain ⟨j, ds, e1, e2, e3⟩ := lentAt_mem hs hq
    have ej : q.1 = j := by omega
    obtain ⟨h1, _⟩ := List.getElem?_eq_some_iff.mp e2
    obtain ⟨h3, _⟩ := List.getElem?_eq_some_iff.mp e3
    refine ⟨?_, ds, ?_⟩
    · rw [ej]; unfold L2.start; rw [List.getElem?_append_left h1]; exact e2
    · rw [ej, List.getElem?_append_left h3]; exact e3
  · have back : ∀ {σ : L2.St} {H' : Hp} {ρ : Env} {A' : List Addr}, Step A H A' H' → Rel K mg ⟨tab, lentAt 0 (vs.map some) ss⟩ σ H' ρ A' → SlRs K mg H' (vs.map some) (outS ss ρ) A ∧ ∀ a ∈ A, a ∈ A' := fun {σ H' ρ A'} st rl => by
      refine ⟨end_rel (n := 0) (st.keepM hs.mut) hs ok rl.as fun q hq => ?_, fun a ha => ?_⟩
      · obtain ⟨p1, p2⟩ := rl.pro q hq
        exact ⟨q.1, by omega, p1, p2⟩
      · obtain ⟨q, hq, rfl⟩ := lent_of (n := 0) hs ok a ha
        obtain ⟨p1, ds, p2⟩ := rl.pro q hq
        obtain ⟨v, B, b1, b2, b3⟩ := rl.as.get p2
        rw [p1] at b1
        cases b1
        cases b2 with
        | ow _ _ _ => exact b3 _ (by simp)
    unfold fnOf at fp
    cases e : m (ss ++ List.replicate (N.length - ss.length) .no) with
    | nx ρ =>
      rw [e] at fp
      intro σ H' A' st rl
      obtain ⟨b1, b2⟩ := back st rl
      exact fp .non H' [] ⟨st.fr, fun a h => .inl h, st.dom⟩ b1 (.fz .non) (by simpa using nd) rl.tab
    | rt s ρ =>
      rw [e] at fp
      intro v σ H' A1 A' st rl sr nd'
      have st' : Step A H A' H' := st.sub fun a h => List.mem_append.mpr (.inr h)
      obtain ⟨b1, b2⟩ := back st' rl
      obtain ⟨n1, n2, n3⟩ := nd_app.mp nd'
      exact fp v H' A1 ⟨st.fr, fun a h => (List.mem_append.mp h).elim (fun z => st.ow a (List.mem_append.mpr (.inl z))) .inl, st.dom⟩ b1 sr (nd_app.mpr ⟨n1, nd, fun a ha b hb => n3 a ha b (b2 b hb)⟩) rl.tab
    | ex c w ρ =>
      rw [e] at fp
      intro C dx σ H' A' st rl gc x
      obtain ⟨b1, b2⟩ := back st rl
      exact hW _ _ _ _ (fp C dx H' ⟨st.fr, fun a h => .inl h, st.dom⟩ b1 gc x rl.tab)
    | bk ρ => rw [e] at fp; exact fp.elim
    | ct ρ => rw [e] at fp; exact fp.elim
    | no => rw [e] at fp; exact fp.elim
/-- a def by its body -/
theorem fn_ok {x qual : Str} {st : Stmt} {f : Addr} {fd : FuncData} {N ps : List Str} {k n : Nat} {m : MS} (F : L2.Fun K x qual st f fd) (S : FnScope N ps (defScope st)) (hn : ps.length = n := by rfl)
    (hbody : ∀ (T : Gh) (cdv : Value) (A : Around) (outer : List PySem.Env) (s : Shared) (H : Hp) (E : XK), T.tab = tab → Room k (A.deeper (envOfC qual (defScope st) s.heap.objs.size f cdv)) →
      DSs T (cxOf (L2N.CX P w) P w K mg base N qual (defScope st) f cdv A outer s H E) (defBody st) m) : FnOk P w K mg base (L2N.CX P w) (k + 1) f fd ps (spF K mg tab n (fnOf N.length m)) := by
  obtain ⟨oc, od, kV, doc, pm, an, cdv, ct, osl, rfl, lk, hcd⟩ := F.ex
  refine fn_of lk hcd S (fun vs H Q E h => h.1.trans hn.symm) fun A outer s H vs Q E hr hsp => ?_
  obtain ⟨hl, ss, B, hs, nd, ht, ok, fp⟩ := hsp
  refine ⟨tS K mg ⟨tab, lentAt 0 (vs.map some) ss⟩ m fun c d _ H => E c d H, hbody ⟨tab, lentAt 0 (vs.map some) ss⟩ cdv A outer s H E rfl hr _ (L2N.takes_of rfl rfl rfl rfl), ?_⟩
  exact body_post rfl (fun _ _ _ _ h => h) hs nd ht ok fp
end
end ME
namespace ME
open PySem PySem.Spec PyProof.Rows L2 LamX
/-! ### arguments -/
inductive Ag where
  | dat (s : Sl) | lend (i : Nat)
def lends : List Ag → List Nat
  | [] => []
  | .dat _ :: as => lends as
  | .lend i :: as => i :: lends as
def resA (ρ : Env) : List Ag → Option (List Sl)
  | [] => some []
  | .dat s :: as => (resA ρ as).map (s :: ·)
  | .lend i :: as => match ρ[i]? with
    | some (.ow _ ds) => (resA ρ as).map (.ow true ds :: ·)
    | _ => none
def setOw (i : Nat) (ds : List D) (ρ : Env) : Env := match ρ[i]? with
  | some (.ow p _) => ρ.set i (.ow p ds)
  | _ => ρ
def backA : List Ag → List Sl → Env → Option Env
  | [], [], ρ => some ρ
  | .dat _ :: as, _ :: ss, ρ => backA as ss ρ
  | .lend i :: as, .ow _ ds :: ss, ρ => backA as ss (setOw i ds ρ)
  | _, _, _ => none
section
variable {K : PySem.W.Frag} {G : Str → Option Value} {T : Gh}
inductive AgOk (K : PySem.W.Frag) (G : Str → Option Value) (σ : L2.St) (H : Hp) : List V → List Ag → Prop
  | nil : AgOk K G σ H [] []
  | dat {v : V} {s : Sl} {vs : List V} {as : List Ag} : SlR K G H (some v) s [] → okArg s = true → AgOk K G σ H vs as → AgOk K G σ H (v :: vs) (.dat s :: as)
  | lend {v : V} {i : Nat} {vs : List V} {as : List Ag} : σ[i]? = some (some v) → AgOk K G σ H vs as → AgOk K G σ H (v :: vs) (.lend i :: as)
theorem AgOk.keep {σ : L2.St} {H H' : Hp} (k : Keep H H') {vs : List V} {as : List Ag} (h : AgOk K G σ H vs as) : AgOk K G σ H' vs as := by
  induction h with
  | nil => exact .nil
  | dat a b _ ih => exact .dat (a.keep k fun _ z => by cases z) b ih
  | lend a _ ih => exact .lend a ih
def RG (K : PySem.W.Frag) (G : Str → Option Value) : L2.St → Hp → List V → List Ag → List Addr → Prop := fun σ H vs as A => A = [] ∧ AgOk K G σ H vs as
/-- one owner -/
theorem owner {H : Hp} {vs : List (Option V)} {ss : List Sl} {A : List Addr} {i j : Nat} {a : Addr} {p q : Bool} {ds es : List D} (h : SlRs K G H vs ss A) (nd : A.Nodup) (vi : vs[i]? = some (some (.ref a))) (vj : vs[j]? = some (some (.ref a)))
    (si : ss[i]? = some (.ow p ds)) (sj : ss[j]? = some (.ow q es)) : i = j := by
  by_cases e : i = j
  · exact e
  · obtain ⟨B, b1, b2, b3⟩ := h.take nd si vi
    have sj' : (ss.set i .no)[j]? = some (.ow q es) := by rw [List.getElem?_set_ne e]; exact sj
    obtain ⟨v, C, c1, c2, c3⟩ := b1.get sj'
    rw [vj] at c1
    cases c1
    cases c2 with
    | ow _ _ _ =>
      have := (nd_app.mp b2).2.2 a (by simp) a (c3 a (by simp))
      exact absurd rfl this
theorem res_rel {σ : L2.St} {H : Hp} {ρ : Env} {A : List Addr} (rl : Rel K G T σ H ρ A) : ∀ {as : List Ag} {vs : List V} {ss : List Sl}, AgOk K G σ H vs as → resA ρ as = some ss → (lends as).Nodup →
    ∃ C, SlRs K G H (vs.map some) ss C ∧ C.Nodup ∧ ss.all okArg = true ∧ (∀ a ∈ C, a ∈ A) ∧ ∀ a ∈ C, ∃ i ∈ lends as, σ[i]? = some (some (.ref a)) ∧ ∃ p ds, ρ[i]? = some (.ow p ds)
  | [], _, _, .nil, e, _ => by cases e; exact ⟨[], .nil, List.nodup_nil, rfl, fun a h => (by cases h), fun a h => (by cases h)⟩
  | .dat s :: as, _, _, .dat h1 h2 h3, e, nd => by
    obtain ⟨ts, e1, rfl⟩ := Option.map_eq_some_iff.mp (show (resA ρ as).map (s :: ·) = some _ from e)
    obtain ⟨C, c1, c2, c3, c4, c5⟩ := res_rel rl h3 e1 nd
    exact ⟨[] ++ C, .cons h1 c1, c2, by rw [List.all_cons, h2, c3]; rfl, c4, c5⟩
  | .lend i :: as, _, _, .lend (v := v) h1 h3, e, nd => by
    have e' : (match ρ[i]? with
      | some (.ow _ ds) => (resA ρ as).map (Sl.ow true ds :: ·)
      | _ => none) = some _ := e
    split at e'
    · rename_i p ds ei
      obtain ⟨ts, e1, rfl⟩ := Option.map_eq_some_iff.mp e'
      have nd' : i ∉ lends as ∧ (lends as).Nodup := by simpa [lends] using nd
      obtain ⟨C, c1, c2, c3, c4, c5⟩ := res_rel rl h3 e1 nd'.2
      obtain ⟨v', B, b1, b2, b3⟩ := rl.as.get ei
      rw [h1] at b1
      cases b1
      cases b2 with
      | ow x1 x2 x3 =>
        rename_i a us
        refine ⟨[a] ++ C, .cons (.ow x1 x2 x3) c1, nd_app.mpr ⟨by simp, c2, fun x hx y hy z => ?_⟩, by rw [List.all_cons, c3]; rfl, fun x hx => ?_, fun x hx => ?_⟩
        · have hxa : x = a := by simpa using hx
          subst hxa; subst z
          obtain ⟨k, k1, k2, q, es, k3⟩ := c5 x hy
          exact nd'.1 (by rw [owner rl.as rl.nd h1 k2 ei k3]; exact k1)
        · rcases List.mem_append.mp hx with z | z
          · exact b3 x z
          · exact c4 x z
        · rcases List.mem_append.mp hx with z | z
          · have : x = a := by simpa using z
            subst this
            exact ⟨i, by simp [lends], h1, p, ds, ei⟩
          · obtain ⟨k, k1, k2⟩ := c5 x z
            exact ⟨k, by simp [lends, k1], k2⟩
    · cases e'
theorem setOw_len {i : Nat} {ds : List D} {ρ : Env} : (setOw i ds ρ).length = ρ.length := by
  unfold setOw
  split <;> simp
theorem backA_len : ∀ {as : List Ag} {ss : List Sl} {ρ ρ' : Env}, backA as ss ρ = some ρ' → ρ'.length = ρ.length
  | [], [], _, _, e => by cases e; rfl
  | .dat _ :: as, _ :: ss, ρ, ρ', e => backA_len (as := as) (ss := ss) e
  | .lend i :: as, .ow _ ds :: ss, ρ, ρ', e => by
    have := backA_len (as := as) (ss := ss) (ρ := setOw i ds ρ) e
    rw [this, setOw_len]
theorem backA_out : ∀ {as : List Ag} {ss : List Sl} {ρ ρ' : Env} {j : Nat}, backA as ss ρ = some ρ' → j ∉ lends as → ρ'[j]? = ρ[j]?
  | [], [], _, _, _, e, _ => by cases e; rfl
  | .dat _ :: as, _ :: ss, ρ, ρ', j, e, h => backA_out (as := as) (ss := ss) e h
  | .lend i :: as, .ow _ ds :: ss, ρ, ρ', j, e, h => by
    have h' : j ≠ i ∧ j ∉ lends as := by simpa [lends] using h
    rw [backA_out (as := as) (ss := ss) (ρ := setOw i ds ρ) e h'.2]
    unfold setOw
    split
    · rw [List.getElem?_set_ne (Ne.symm h'.1)]
    · rfl
theorem backA_in {H : Hp} {σ : L2.St} {j : Nat} {p : Bool} {ds0 : List D} : ∀ {as : List Ag} {ss : List Sl} {vs : List V} {ρ ρ' : Env} {C : List Addr}, backA as ss ρ = some ρ' → (lends as).Nodup → j ∈ lends as → ρ[j]? = some (.ow p ds0) →
    AgOk K G σ H vs as → ∀ {H2 : Hp}, SlRs K G H2 (vs.map some) ss C → ∃ v ds q B, σ[j]? = some (some v) ∧ ρ'[j]? = some (.ow p ds) ∧ SlR K G H2 (some v) (.ow q ds) B
  | [], _, _, _, _, _, _, _, hj, _, _, _, _ => by cases hj
  | .dat s :: as, t :: ss, _, ρ, ρ', _, e, nd, hj, hr, .dat a1 a2 a3, _, .cons h l => backA_in (as := as) (ss := ss) e nd hj hr a3 l
  | .lend i :: as, .ow q ds :: ss, _, ρ, ρ', _, e, nd, hj, hr, .lend (v := v) a1 a3, H2, .cons h l => by
    have nd' : i ∉ lends as ∧ (lends as).Nodup := by simpa [lends] using nd
    by_cases c : j = i
    · subst c
      have o := backA_out (as := as) (ss := ss) (ρ := setOw j ds ρ) e nd'.1
      refine ⟨v, ds, q, _, a1, ?_, h⟩
      rw [o]
      unfold setOw
      rw [hr]
      exact List.getElem?_set_self (List.getElem?_eq_some_iff.mp hr).1
    · have hj' : j ∈ lends as := by simpa [lends, c] using hj
      have hr' : (setOw i ds ρ)[j]? = some (.ow p ds0) := by
        unfold setOw
        split
        · rw [List.getElem?_set_ne (Ne.symm c)]; exact hr
        · exact hr
      exact backA_in (as := as) (ss := ss) (ρ := setOw i ds ρ) e nd'.2 hj' hr' a3 l
theorem SlRs.turn {H1 H2 : Hp} : ∀ {vs : List (Option V)} {ss ts : List Sl} {A : List Addr}, SlRs K G H1 vs ss A → ts.length = ss.length →
    (∀ (j : Nat) (v : Option V) (s t : Sl) (B : List Addr), vs[j]? = some v → ss[j]? = some s → ts[j]? = some t → SlR K G H1 v s B → (∀ a ∈ B, a ∈ A) → SlR K G H2 v t B) → SlRs K G H2 vs ts A
  | _, _, [], _, .nil, _, _ => .nil
  | _, _, _ :: _, _, .nil, e, _ => by cases e
  | _, _, [], _, .cons _ _, e, _ => by cases e
  | v :: vs, s :: ss, t :: ts, _, .cons h l, e, k => by
    refine .cons (k 0 v s t _ rfl rfl rfl h fun a z => List.mem_append.mpr (.inl z)) (SlRs.turn l (by simpa using e) fun j w x y B h1 h2 h3 h4 h5 => ?_)
    exact k (j + 1) w x y B (by simpa using h1) (by simpa using h2) (by simpa using h3) h4 fun a z => List.mem_append.mpr (.inr (h5 a z))
/-- behind a call: the caller's frame -/
theorem back_rel {σ : L2.St} {H1 H2 : Hp} {ρ ρ' : Env} {A A1 C : List Addr} {as : List Ag} {vs : List V} {ts : List Sl} (rl : Rel K G T σ H1 ρ A) (ok : AgOk K G σ H1 vs as) (nd : (lends as).Nodup) (sub : ∀ a ∈ C, a ∈ A)
    (own : ∀ a ∈ C, ∃ i ∈ lends as, σ[i]? = some (some (.ref a)) ∧ ∃ p ds, ρ[i]? = some (.ow p ds)) (st : Step C H1 (A1 ++ C) H2) (h2 : SlRs K G H2 (vs.map some) ts C) (tb : Tabs T.tab H2) (hm : ∀ a ∈ C, ∃ us, H1 a = some (.lst us)) (e : backA as ts ρ = some ρ') (n1 : (A1 ++ C).Nodup)
    (hl : ∀ i ∈ lends as, ∃ p ds, ρ[i]? = some (.ow p ds)) :
    Step A H1 (A1 ++ A) H2 ∧ Rel K G T σ H2 ρ' A ∧ (A1 ++ A).Nodup := by
  have kp : Keep H1 H2 := st.keepM hm
  refine ⟨⟨fun a o e n nt => st.fr a o e (fun z => n (sub a z)) nt, fun a h => ?_, st.dom⟩, ⟨rl.as.turn (backA_len e) fun j v s t B hv hs ht hsr hB => ?_, rl.nd, tb, fun q hq => ?_⟩, ?_⟩
  · rcases List.mem_append.mp h with z | z
    · exact (st.ow a (List.mem_append.mpr (.inl z))).imp_left (sub a)
    · exact .inl z
  · by_cases hj : j ∈ lends as
    · obtain ⟨p, ds0, hr⟩ := hl j hj
      obtain ⟨v', ds, q, B', k1, k2, k3⟩ := backA_in e nd hj hr ok h2
      rw [hs] at hr
      cases hr
      rw [hv] at k1
      cases k1
      rw [ht] at k2
      cases k2
      cases hsr with
      | ow x1 x2 x3 =>
        cases k3 with
        | ow y1 y2 y3 => exact .ow y1 y2 y3
    · rw [backA_out e hj, hs] at ht
      cases ht
      refine hsr.keep kp fun a ha => ?_
      obtain ⟨us, hu⟩ := hsr.mut a ha
      rw [hu]
      refine st.fr a _ hu (fun z => ?_) (fun _ q => by cases q)
      obtain ⟨i, i1, i2, p, ds, i3⟩ := own a z
      cases hsr with
      | no => cases ha
      | fz _ => cases ha
      | nt _ _ _ => cases ha
      | exn _ _ _ _ => cases ha
      | ow x1 x2 x3 =>
        have ea := List.mem_singleton.mp ha
        subst ea
        have := owner rl.as rl.nd i2 hv i3 hs
        subst this
        exact hj i1
  · obtain ⟨p1, ds, p2⟩ := rl.pro q hq
    refine ⟨p1, ?_⟩
    by_cases hj : q.1 ∈ lends as
    · obtain ⟨v', ds', q', B', k1, k2, k3⟩ := backA_in e nd hj p2 ok h2
      exact ⟨ds', k2⟩
    · exact ⟨ds, by rw [backA_out e hj]; exact p2⟩
  · obtain ⟨m1, m2, m3⟩ := nd_app.mp n1
    refine nd_app.mpr ⟨m1, rl.nd, fun a ha b hb z => ?_⟩
    subst z
    rcases st.ow a (List.mem_append.mpr (.inl ha)) with y | y
    · exact m3 a ha a y rfl
    · obtain ⟨us, hu⟩ := rl.as.mut a hb
      obtain ⟨ps, q⟩ := y _ hu
      cases q
theorem res_lends {ρ : Env} : ∀ {as : List Ag} {ss : List Sl}, resA ρ as = some ss → ∀ i ∈ lends as, ∃ p ds, ρ[i]? = some (.ow p ds)
  | [], _, _, i, h => by cases h
  | .dat s :: as, _, e, i, h => by
    obtain ⟨ts, e1, rfl⟩ := Option.map_eq_some_iff.mp (show (resA ρ as).map (s :: ·) = some _ from e)
    exact res_lends e1 i h
  | .lend k :: as, _, e, i, h => by
    have e' : (match ρ[k]? with
      | some (.ow _ ds) => (resA ρ as).map (Sl.ow true ds :: ·)
      | _ => none) = some _ := e
    split at e'
    · rename_i p ds ek
      obtain ⟨ts, e1, rfl⟩ := Option.map_eq_some_iff.mp e'
      have h' : i = k ∨ i ∈ lends as := by simpa [lends] using h
      rcases h' with rfl | h'
      · exact ⟨p, ds, ek⟩
      · exact res_lends e1 i h'
    · cases e'
end
/-! ### the call -/
def mRun (F : FM) (as : List Ag) : M Sl := fun ρ => if (lends as).Nodup then match resA ρ as with
  | none => .no
  | some ss => (match F ss with
    | .ret s ts => (match backA as ts ρ with
      | some ρ' => .ok s ρ'
      | none => .no)
    | .ex c w ts => (match backA as ts ρ with
      | some ρ' => .ex c w ρ'
      | none => .no)
    | .no => .no) else .no
def mCall (F : FM) (f : M (List Ag)) : M Sl := mbind f (mRun F)
def DAg (T : Gh) (X : Cx) (es : List Expr) (n : Nat) (f : M (List Ag)) : Prop := ∀ W, L2N.Takes X W → PA X es (tG X.K X.mg T (fun σ H vs as A => RG X.K X.mg σ H vs as A ∧ vs.length = n) f W)
def DA1 (T : Gh) (X : Cx) (e : Expr) (f : M Ag) : Prop := ∀ W, L2N.Takes X W → PE X e (tG X.K X.mg T (fun σ H v a A => RG X.K X.mg σ H [v] [a] A) f W)
section
variable {T : Gh} {X : Cx} {e : Expr} {es : List Expr} {n : Nat}
def mdat (f : M D) : M Ag := mbind f fun d => mpure (.dat (.fz d))
theorem da1_val {f : M D} (h : DE T X e f) : DA1 T X e (mdat f) := fun W tk => PE.imp (h W tk) fun σ H Q q => by
  obtain ⟨ρ, A, rl, p⟩ := q
  refine ⟨ρ, A, rl, p.seq fun v d ρ1 H1 A1 A' st r1 rd nd p => ?_⟩
  obtain ⟨rfl, dz⟩ := rd
  exact p v H1 [] A' st r1 ⟨rfl, .dat (.fz dz) rfl .nil⟩ nd
def mAg (i : Nat) : M Ag := fun ρ => match ρ[i]? with
  | some (.fz d) => .ok (.dat (.fz d)) ρ
  | some (.nt ds) => .ok (.dat (.nt ds)) ρ
  | some (.ow _ _) => .ok (.lend i) ρ
  | _ => .no
theorem da1_name (i : Nat) {x : Str} {pos : Pos} (hN : X.N[i]? = some x := by rfl) (hv : Vis X.env.scope x := by first | exact Or.inl rfl | exact Or.inr (Or.inl rfl) | exact Or.inr (Or.inr rfl)) (hd : (x == ("__debug__" : Str)) = false := by decide)
    (hcd : (x == ("__classdict__" : Str)) = false := by decide) : DA1 T X (.Name x pos) (mAg i) := fun W _ => PE.imp (pe_var hN hv hd hcd) fun σ H Q q => by
  obtain ⟨ρ, A, rl, p⟩ := q
  unfold mAg at p
  split at p
  · rename_i d e
    obtain ⟨v, A1, e1, e2, e3⟩ := rl.as.get e
    cases e2 with
    | fz dz => exact ⟨_, e1, p _ H [] A Step.refl rl ⟨rfl, .dat (.fz dz) rfl .nil⟩ (by simpa using rl.nd)⟩
  · rename_i d e
    obtain ⟨v, A1, e1, e2, e3⟩ := rl.as.get e
    cases e2 with
    | nt h z l => exact ⟨_, e1, p _ H [] A Step.refl rl ⟨rfl, .dat (.nt h z l) rfl .nil⟩ (by simpa using rl.nd)⟩
  · rename_i b ds e
    obtain ⟨v, A1, e1, e2, e3⟩ := rl.as.get e
    cases e2 with
    | ow h z l => exact ⟨_, e1, p _ H [] A Step.refl rl ⟨rfl, .lend e1 .nil⟩ (by simpa using rl.nd)⟩
  · exact p.elim
def mgnil : M (List Ag) := mpure []
def mgcons (f : M Ag) (g : M (List Ag)) : M (List Ag) := mbind f fun a => mbind g fun as => mpure (a :: as)
theorem dag_nil : DAg T X [] 0 mgnil := fun W _ => PA.imp pa_nil fun σ H Q q => by
  obtain ⟨ρ, A, rl, p⟩ := q
  exact p [] H [] A Step.refl rl ⟨⟨rfl, .nil⟩, rfl⟩ (by simpa using rl.nd)
theorem dag_cons {f : M Ag} {g : M (List Ag)} (h : DA1 T X e f) (l : DAg T X es n g) (hs : starEach (e :: es) X.env = (false, eval e X.env) :: starEach es X.env := by rfl) : DAg T X (e :: es) (n + 1) (mgcons f g) :=
  fun W tk => PA.imp (pa_cons (h W tk) (l W tk) hs) fun σ H Q q => by
    obtain ⟨ρ, A, rl, p⟩ := q
    refine ⟨ρ, A, rl, p.seq fun v a ρ1 H1 A1 A' st r1 rd nd p => ?_⟩
    obtain ⟨rfl, ok⟩ := rd
    have st' : Step A H A' H1 := by simpa using st
    refine ⟨ρ1, A', r1, Post.goes st' p fun vs as ρ2 H2 B1 B s2 r2 rd2 nd2 p2 => ?_⟩
    obtain ⟨⟨rfl, ok2⟩, ln⟩ := rd2
    have s2' : Step A' H1 B H2 := by simpa using s2
    have ok' := ok.keep (r1.keep s2')
    refine p2 (v :: vs) H2 [] B (by simpa using st'.trans s2') r2 ⟨⟨rfl, ?_⟩, by rw [List.length_cons, ln]⟩ (by simpa using r2.nd)
    cases ok' with
    | dat a b _ => exact .dat a b ok2
    | lend a _ => exact .lend a ok2
/-- what a call with these arguments comes to -/
theorem run_spF {K : PySem.W.Frag} {G : Str → Option Value} {W : WX} {σ : L2.St} {H H1 : Hp} {ρ1 : Env} {A A' : List Addr} {Q : VK} {F : FM} {as : List Ag} {vs : List V} (st : Step A H A' H1) (r1 : Rel K G T σ H1 ρ1 A') (ok : AgOk K G σ H1 vs as) (ln : vs.length = n)
    (p : Post K G T (RS K G) W σ H A Q (mRun F as ρ1)) : spF K G T.tab n F vs H1 Q (WE W σ) := by
  unfold mRun at p
  by_cases nd : (lends as).Nodup
  · rw [if_pos nd] at p
    cases e : resA ρ1 as with
    | none => rw [e] at p; exact p.elim
    | some ss =>
      rw [e] at p
      obtain ⟨C, c1, c2, c3, c4, c5⟩ := res_rel r1 ok e nd
      refine ⟨ln, ss, C, c1, c2, r1.tab, c3, ?_⟩
      cases eF : F ss with
      | no => simp only [eF] at p; exact p.elim
      | ret s ts =>
        simp only [eF] at p
        cases eb : backA as ts ρ1 with
        | none => rw [eb] at p; exact p.elim
        | some ρ' =>
          rw [eb] at p
          intro v H2 A1 s2 h2 sr n1 tb
          obtain ⟨x1, x2, x3⟩ := back_rel r1 ok nd c4 c5 s2 h2 tb c1.mut eb n1 (res_lends e)
          exact p v H2 A1 A' (st.trans x1) x2 sr x3
      | ex c w ts =>
        simp only [eF] at p
        cases eb : backA as ts ρ1 with
        | none => rw [eb] at p; exact p.elim
        | some ρ' =>
          rw [eb] at p
          intro Cc dx H2 s2 h2 gc x tb
          obtain ⟨x1, x2, x3⟩ := back_rel (A1 := []) r1 ok nd c4 c5 (by simpa using s2) h2 tb c1.mut eb (by simpa using c2) (res_lends e)
          exact p Cc dx H2 A' (st.trans (by simpa using x1)) x2 gc x
  · rw [if_neg nd] at p; exact p.elim
/-- f(..), f a def of the module -/
theorem dx_call {f : Addr} {fd : FuncData} {ps : List Str} {x : Str} {k : Nat} {F : FM} {g : M (List Ag)} {p pos : Pos} (Fo : FnOk X.prog X.w X.K X.mg X.base (L2N.CX X.prog X.w) k f fd ps (spF X.K X.mg T.tab (n + 1) F)) (hr : Room k X.A) (hg : Gl X x) (hm : X.mg x = some (.ref f)) (hk : PySem.W.keepIn X.K (.ref f) = true) (hb : Binds X.K fd ps [])
    (ha : DAg T X (e :: es) (n + 1) g) (hdb : (x == ("__debug__" : Str)) = false := by decide) (he : starEach (e :: es) X.env = (false, eval e X.env) :: starEach es X.env := by rfl) (hpl : (backTo pos (starEach es X.env)).any (·.1) = false := by rfl) :
    DX T X (.Call (.Name x p) (e :: es) [] pos) (mCall F g) := fun W tk => PE.imp (L2.pe_callS Fo hr hg hm hk hb (L2N.passAt tk) (ha W tk) hdb he hpl) fun σ H Q q => by
  obtain ⟨ρ, A, rl, p⟩ := q
  refine ⟨ρ, A, rl, p.seq fun vs as ρ1 H1 A1 A' st r1 rd nd p => ?_⟩
  obtain ⟨⟨rfl, ok⟩, ln⟩ := rd
  exact run_spF (by simpa using st) r1 ok ln p
end
end ME
namespace ME
open PySem PySem.Spec PyProof.Rows L2 LamX
/-! ### a def that speaks of super() -/
abbrev kEnv (qual : Str) (scope : Scope) (L f : Addr) (cd : Value) (cc : Addr) : PySem.Env := PySem.W.ksEnv qual scope L f cd cc
/-- the context of its body: nothing is let out -/
def cxK (P : Program) (w : World) (K : PySem.W.Frag) (mg : Str → Option Value) (base : Heap) (N : List Str) (qual : Str) (scope : Scope) (f : Addr) (cd : Value) (cc : Addr) (A : Around) (outer : List PySem.Env) (s : Shared) (H : Hp) : Cx where
  prog := P
  w := w
  K := K
  mg := mg
  base := base
  A := A.deeper (kEnv qual scope s.heap.objs.size f cd cc)
  N := N
  s_0 := s
  H_0 := H
  env := kEnv qual scope s.heap.objs.size f cd cc
  outer := outer
  stack := kEnv qual scope s.heap.objs.size f cd cc :: outer
  ex := []
  calm := true
  fn := fun y => y != "__class__"
  pn := []
  xe := fun _ _ => False
theorem lookup_nd {α : Type} {x : Str} {u : α} : ∀ {l : List (Str × α)}, (l.map (·.1)).Nodup → (x, u) ∈ l → l.lookup x = some u
  | [], _, h => by cases h
  | (y, v) :: l, nd, h => by
    have nd' := List.nodup_cons.mp (show (y :: l.map (·.1)).Nodup from nd)
    rcases List.mem_cons.mp h with e | e
    · cases e; simp [List.lookup]
    · have hne : x ≠ y := fun z => nd'.1 (z ▸ List.mem_map.mpr ⟨_, e, rfl⟩)
      have : (x == y) = false := by simpa using hne
      simp [List.lookup, this, lookup_nd nd'.2 e]
theorem binds_get {N : List Str} {us : List Value} {i : Nat} {x : Str} {u : Value} (nd : N.Nodup) (hl : us.length = N.length) (hx : N[i]? = some x) (hu : us[i]? = some u) : (N.zip us).reverse.lookup x = some u := by
  refine lookup_nd ?_ (List.mem_reverse.mpr ?_)
  · rw [List.map_reverse, List.map_fst_zip (by omega)]
    exact List.pairwise_reverse.mpr (nd.imp fun h => Ne.symm h)
  · refine List.mem_of_getElem? (i := i) ?_
    rw [List.getElem?_zip_eq_some]
    exact ⟨hx, hu⟩
section
variable {P : Program} {w : World} {K : PySem.W.Frag} {mg : Str → Option Value} {base : Heap} {N : List Str} {qual : Str} {scope : Scope} {f cc D : Addr} {cd cl : Value} {cld : Option Addr} {csl : Array (Option Value)} {A : Around} {outer : List PySem.Env} {s : Shared} {H : Hp}
theorem inv_startK {h₁ : Heap} {tk : Nat} {us : List Value} {vs : List V} (e0 : Env0 P w K mg base A outer s H) (hd : A.handled = none) (hk : scope.kind = .function) (hfree : ∀ y ∈ scope.names, y.2 = .free → y.1 = "__class__") (hnc : ∀ y ∈ scope.names, y.2 ≠ .cell)
    (lcc : K.lookup cc = some ⟨cl, cld, .cell (some (.ref D)), csl⟩) (hns : h₁.Ns s.heap.objs.size (fun x => (N.zip us).reverse.lookup x)) (kp : ∀ b o, s.heap.get? b = some o → h₁.get? b = some o) (nd : N.Nodup) (hloc : ∀ x ∈ N, scope.names.lookup x = some .local) (r : Vals vs us) (hl : us.length = N.length) :
    Inv (cxK P w K mg base N qual scope f cd cc A outer s H) [] (vs.map some) H { s with heap := h₁, toks := tk } := by
  have noA : ∀ b : Addr, b ∉ (cxK P w K mg base N qual scope f cd cc A outer s H).ex := fun b z => absurd (show b ∈ ([] : List Addr) from z) (by simp)
  have lk : ∀ x c, (cxK P w K mg base N qual scope f cd cc A outer s H).env.cells.lookup x = some c → x = "__class__" ∧ c = cc := fun x c h => by
    have h' : ([("__class__", cc)] : List (Str × Addr)).lookup x = some c := h
    by_cases e : x = "__class__"
    · subst e
      have : cc = c := by simpa using h'
      exact ⟨rfl, this.symm⟩
    · have : (x == ("__class__" : Str)) = false := by simpa using e
      simp [List.lookup, this] at h'
  have kc : K.In s.heap := e0.mod.kin.keeps fun b o e => (e0.bs b o e).1
  have bcc := e0.mod.kin _ _ lcc
  refine ⟨⟨e0.mod, hk, rfl, rfl, Nat.le_refl _, fun x y c h1 h2 => (lk x c h1).1.trans (lk y c h2).1.symm, fun x hx => ?_, fun x c h1 h2 => ?_, fun _ => hd, Around.frames_deeper e0.frames, .inr ⟨rfl, rfl⟩, fun b z => absurd z (noA b), e0.bs, e0.bsz, fun b _ _ => noA b, fun b z => absurd z (noA b), e0.funs, e0.frf⟩,
    rfl, e0.bare, Un.kept kp, ⟨_, hns, fun i x v h1 h2 h3 => ?_⟩, fun x c h => ?_, e0.hok.fresh (Nat.le_refl _), fun x c h => ?_, fun p hp => absurd (show p ∈ ([] : List (Addr × Obj)) from hp) (by simp), e0.hok.kept kp, ?_⟩
  · have hx' : scope.names.lookup x = some .cell ∨ scope.names.lookup x = some .free := hx
    rcases hx' with e | e
    · exact absurd rfl (hnc _ (PySem.mem_of_lookup e))
    · have e' : x = "__class__" := hfree _ (PySem.mem_of_lookup e) rfl
      subst e'
      exact ⟨cc, rfl⟩
  · have e := (lk x c h2).1
    subst e
    have : (("__class__" : Str) != "__class__") = true := h1
    simp at this
  · have h2' : vs[i]? = some v := by
      rw [List.getElem?_map] at h2
      cases e : vs[i]? with
      | none => rw [e] at h2; cases h2
      | some a => rw [e] at h2; cases h2; rfl
    obtain ⟨u, hu, rv⟩ := r.get h2'
    exact ⟨u, rv, .inl ⟨hloc x (List.mem_of_getElem? h1), binds_get nd hl h1 hu⟩⟩
  · obtain ⟨_, rfl⟩ := lk x c h
    exact ⟨_, _, kp _ _ (kc _ _ lcc), rfl⟩
  · obtain ⟨_, rfl⟩ := lk x c h
    exact (e0.bs _ _ bcc).2
  · show (vs.map some).length = N.length
    rw [List.length_map, r.length, hl]
end
/-- what the written part says of such a def of the class at D -/
structure SDef (P : Program) (K : PySem.W.Frag) (mg : Str → Option Value) (name qual : Str) (st : Stmt) (sf : Str) (D f cc : Addr) (fd : FuncData) (dV cd : Value) : Prop where
  ex : ∃ (oc : Value) (od : Option Addr) (kV doc pm : Value) (an : Option Addr) (ct : Value) (osl : Array (Option Value)) (cda : Addr) (ccl : Value) (cdd : Option Addr) (vs : Array Value) (ccs : Array (Option Value)) (file : Str) (tf : Tok) (cl : Value) (cld : Option Addr) (csl : Array (Option Value)) (cdD : ClassData) (ar : Arg),
    cd = .ref cda ∧ fd = PySem.W.ksFn name qual (defArgs st) (defBody st) (defScope st) dV kV doc pm an cd ct cc ∧ K.lookup f = some ⟨oc, od, .func fd, osl⟩ ∧ PySem.W.codeIn K cd qual = true ∧
      K.lookup cda = some ⟨ccl, cdd, .fields vs, ccs⟩ ∧ vs[2]? = some (.str file tf) ∧ ((P.main.file : Str) == file) = true ∧
      K.lookup cc = some ⟨cl, cld, .cell (some (.ref D)), csl⟩ ∧ PySem.W.clsIn K D = some cdD ∧ ((defArgs st).posonlyargs ++ (defArgs st).args).head? = some ar ∧ ar.arg = sf
  sup : mg "super" = none
  top : (P.main.scope.names.lookup ("super" : Str)).isSome = false
/-- what its scope says -/
structure SScope (scope : Scope) (N : List Str) (sf : Str) : Prop where
  kind : scope.kind = .function
  co : scope.isCoroutine = false
  gen : scope.isGenerator = false
  nd : N.Nodup
  h0 : N[0]? = some sf
  loc : ∀ x ∈ N, scope.names.lookup x = some .local
  free : ∀ y ∈ scope.names, y.2 = .free → y.1 = "__class__"
  ncell : ∀ y ∈ scope.names, y.2 ≠ .cell
  sup : scope.names.lookup ("super" : Str) = some .globalImplicit
  cls : scope.names.lookup ("__class__" : Str) = some .free
section
variable {P : Program} {w : World} {K : PySem.W.Frag} {mg : Str → Option Value} {base : Heap} {N : List Str} {name qual sf : Str} {st : Stmt} {f cc D C a : Addr} {fd : FuncData} {dV cd : Value} {A : Around} {outer : List PySem.Env} {s s0 : Shared} {H H0 : Hp} {σ : L2.St} {d : Option Addr}
/-- super() -/
theorem super_at {body : List Stmt} {p0 p1 : Pos} {attr : Str} {whole : Sem Value} {E : Value → Shared → Prop} {Q : Value → Shared → Prop} (S : SDef P K mg name qual st sf D f cc fd dV cd) (Z : SScope (defScope st) N sf) (I : Inv (cxK P w K mg base N qual (defScope st) f cd cc A outer s0 H0) [] σ H s)
    (h0 : σ[0]? = some (some (.ref a))) (hx : H a = some (exo a C d)) (hsub : PySem.W.mroIn K C (.ref D) = some true) (hat : (attr == ("__class__" : Str)) = false)
    (h : ∀ so h', Inv (cxK P w K mg base N qual (defScope st) f cd cc A outer s0 H0) [] σ H { s with heap := h' } → h'.get? so = some (PySem.W.ks_superObj D a C) → Q (.ref so) { s with heap := h' }) :
    _root_.PySem.wpAt (model P w) (A.deeper (kEnv qual (defScope st) s0.heap.objs.size f cd cc)) (.func body (kEnv qual (defScope st) s0.heap.objs.size f cd cc)) (attributeBase (.Call (.Name "super" p0) [] [] p1) attr (kEnv qual (defScope st) s0.heap.objs.size f cd cc) whole) Q E s := by
  obtain ⟨oc, od, kV, doc, pm, an, ct, osl, cda, ccl, cdd, vs, ccs, file, tf, cl, cld, csl, cdD, ar, e1, e2, lf, hcd, lcd, hvs, hfile, lcc, hD, hp, hsf⟩ := S.ex
  subst e1
  subst e2
  have X : K.In s.heap := I.kIn
  obtain ⟨t1, hxo⟩ := exo_at I.hok hx
  obtain ⟨hh, g, dr, t, os⟩ := s
  obtain ⟨oD, hD1, hD2⟩ : ∃ oD, hh.get? D = some oD ∧ oD.data = .cls cdD := by
    unfold PySem.W.clsIn at hD
    split at hD
    · rename_i lo
      cases hD
      exact ⟨_, X _ _ lo, rfl⟩
    · cases hD
  obtain ⟨m, hn, hl⟩ := I.loc
  obtain ⟨mb, hb1, hb2⟩ := I.mod.blt
  have hv : m ar.arg = some (.ref a) := by
    obtain ⟨u, ru, l⟩ := hl 0 sf _ Z.h0 h0 (.inl (Z.loc sf (List.mem_of_getElem? Z.h0)))
    cases (show u = Value.ref a from ru)
    rw [hsf]
    rcases l with l | ⟨l, _⟩
    · exact l.2
    · have k : (defScope st).names.lookup sf = some .cell ∨ (defScope st).names.lookup sf = some .free := l
      have k2 := Z.loc sf (List.mem_of_getElem? Z.h0)
      rcases k with k | k <;> (rw [k2] at k; cases k)
  have hk : (kEnv qual (defScope st) s0.heap.objs.size f (.ref cda) cc).kindOf ar.arg = some .local := by rw [hsf]; exact Z.loc sf (List.mem_of_getElem? Z.h0)
  refine ks_wpAt_super_base (env := kEnv qual (defScope st) s0.heap.objs.size f (.ref cda) cc) Z.sup Z.cls hat rfl (X _ _ lf) rfl hp rfl (X _ _ lcd) rfl hvs hfile S.top ?_
  refine PySem.W.ks_loadName_global Z.kind Z.sup (Calls.loadGlobal_builtin (env := kEnv qual (defScope st) s0.heap.objs.size f (.ref cda) cc) (I.mod.glob.keeps I.bk) S.sup (hb1.keeps I.bk) ((hb2 _ (by decide)).trans (by decide +kernel)) ⟨rfl, ?_⟩)
  refine wpAny_loadName_free Z.kind Z.cls rfl ⟨_, X _ _ lcc, rfl⟩ ?_
  refine wpAny_loadName_local Z.kind hk hn hv ?_
  refine ks_wpAny_isType_cls hD1 hD2 ⟨rfl, ?_⟩
  exact ks_wpAny_call_super hD1 hD2 hxo rfl (fun c e => by cases e) (PySem.W.looks_mroIn X hsub) fun h' e k => h _ _ (I.kept k) e
end
end ME
namespace ME
open PySem PySem.Spec PyProof.Rows L2 LamX
def CXn : CXT := fun _ _ _ _ _ _ => False
theorem passN {X : Cx} {E : XK} : Passes CXn X E := fun _ _ _ _ _ _ _ h => h.elim
section
variable {P : Program} {w : World} {K : PySem.W.Frag} {mg : Str → Option Value} {base : Heap} {N : List Str} {name qual sf : Str} {st : Stmt} {f cc D C a : Addr} {fd : FuncData} {dV cd : Value} {d : Option Addr} {k : Nat} {sp : Sp}
/-- such a def, by its body -/
theorem fn_super (S : SDef P K mg name qual st sf D f cc fd dV cd) (Z : SScope (defScope st) N sf) (hb : ∀ (s : Shared) (us : List Value), K.In s.heap → us.length = N.length → BindsTo s fd ⟨us, []⟩ (N.zip us)) (len : ∀ vs H Q E, sp vs H Q E → vs.length = N.length)
    (hbody : ∀ (A : Around) (outer : List PySem.Env) (s0 s : Shared) (H : Hp) (vs : List V) (Q : VK) (E : XK), Room k (A.deeper (kEnv qual (defScope st) s0.heap.objs.size f cd cc)) → Inv (cxK P w K mg base N qual (defScope st) f cd cc A outer s0 H) [] (vs.map some) H s → sp vs H Q E →
      _root_.PySem.wpAt (model P w) (A.deeper (kEnv qual (defScope st) s0.heap.objs.size f cd cc)) (.func (defBody st) (kEnv qual (defScope st) s0.heap.objs.size f cd cc)) (execs (defBody st) (kEnv qual (defScope st) s0.heap.objs.size f cd cc))
        (fun fl s' => fl = .next ∧ ∃ σ H', Inv (cxK P w K mg base N qual (defScope st) f cd cc A outer s0 H) [] σ H' s' ∧ Q .non H') (fun _ _ => False) s) : FnR P w K mg base CXn (k + 1) f sp := by
  intro A outer s H us vs Q E hr e0 r hsp
  obtain ⟨oc, od, kV, doc, pm, an, ct, osl, cda, ccl, cdd, ws, ccs, file, tf, cl, cld, csl, cdD, ar, e1, e2, lf, hcd, lcd, hvs, hfile, lcc, hD, hp, hsf⟩ := S.ex
  subst e2
  have kx : K.In s.heap := e0.mod.kin.keeps fun b o e => (e0.bs b o e).1
  have lim : s.heap.NoLimit := e0.mod.nolimit.keeps fun b o e => (e0.bs b o e).1
  have hl : us.length = N.length := by rw [← r.length]; exact len _ _ _ _ hsp
  refine ks_codeAny_call_defAt (binds := N.zip us) (body := defBody st) hr.depth (kx _ _ lf) rfl lim (PySem.W.codeRec_of kx hcd) rfl (hb s us kx hl) Z.ncell (fun x hx => Z.loc x.1 (List.of_mem_zip hx).1) (fun h₁ hns kp => ?_) Z.co Z.gen Z.kind
  have I : Inv (cxK P w K mg base N qual (defScope st) f cd cc A outer s H) [] (vs.map some) H { s with heap := h₁, toks := s.toks + (N.zip us).length } := inv_startK e0 hr.hd Z.kind Z.free Z.ncell lcc hns kp Z.nd Z.loc r hl
  refine ks_wpAt_mono (hbody A outer s _ H vs Q E (hr.deeper _) I hsp) (fun fl s' hq => ?_) fun _ _ z => z.elim
  obtain ⟨rfl, σ, H', J, q⟩ := hq
  exact ⟨.non, H', J.os, J.bare, J.base, J.hok, rfl, q⟩
end
/-- what the written part says of a class C below the class R -/
structure RfC (K : PySem.W.Frag) (R C : Addr) : Prop where
  oex : OexC K C
  sub : PySem.W.mroIn K C (.ref R) = some true
  sv : PySem.W.subIn K (.ref C) (.type "ValueError") = some true
  nw : PySem.W.findIn K (.ref C) "what" = some none
  nd : PySem.W.findIn K (.ref C) "word" = some none
  si : PySem.W.ks_superIn K C R "__init__" = some (some (.builtin "ValueError.__init__"))
/-- an exception's fields: what, then word -/
def exFs (v : V) (c : Str) : List (Str × V) := [("word", .str c), ("what", v)]
/-- the heap behind Refused.__init__ -/
def hMade (H : Hp) (a C dx : Addr) (v : V) (c : Str) : Hp := upd (upd (upd H dx (exd dx [("what", v)])) a (exo a C (some dx))) dx (exd dx (exFs v c))
def spRef (K : PySem.W.Frag) (R : Addr) : Sp := fun vs H Q _ => ∃ a C v c, vs = [.ref a, v, .str c] ∧ RfC K R C ∧ H a = some (exo a C none) ∧ ∀ dx, H dx = none → dx ≠ a → Q .non (hMade H a C dx v c)
def spBad (K : PySem.W.Frag) (R C : Addr) (c : Str) : Sp := fun vs H Q _ => ∃ a v, vs = [.ref a, v] ∧ RfC K R C ∧ H a = some (exo a C none) ∧ ∀ dx, H dx = none → dx ≠ a → Q .non (hMade H a C dx v c)
section
variable {P : Program} {w : World} {K : PySem.W.Frag} {mg : Str → Option Value} {base : Heap} {name qual : Str} {st : Stmt} {f cc C R : Addr} {fd : FuncData} {dV cd : Value} {k : Nat}
/-- BadX.__init__ -/
theorem fn_bad {c : Str} {fR : Addr} {p0 p1 p2 p3 p4 p5 p6 : Pos} (S : SDef P K mg name qual st "self" C f cc fd dV cd) (Z : SScope (defScope st) ["self", "what"] "self")
    (hbd : defBody st = [.Expr (.Call (.Attribute (.Call (.Name "super" p0) [] [] p1) "__init__" p2) [.Name "what" p3, .Constant (.str c) 0 p4] [] p5) p6])
    (hb : ∀ (s : Shared) (us : List Value), K.In s.heap → us.length = 2 → BindsTo s fd ⟨us, []⟩ ((["self", "what"] : List Str).zip us))
    (F2 : FnR P w K mg base CXn k fR (spRef K R)) (hcc : PySem.W.mroIn K C (.ref C) = some true) (hsi : PySem.W.ks_superIn K C C "__init__" = some (some (.ref fR))) (hf : PySem.W.fnIn K fR = true) (hft : PySem.W.typeIn K (.ref fR) = some (.type "function"))
    (ho : PySem.W.nsIn K cStatics "thirdparty.any" = some none) {pl : Addr → Sem Bool} (he : ∀ L, eval (.Call (.Attribute (.Call (.Name "super" p0) [] [] p1) "__init__" p2) [.Name "what" p3, .Constant (.str c) 0 p4] [] p5) (kEnv qual (defScope st) L f cd cc) = (do
      let ov ← attributeBase (.Call (.Name "super" p0) [] [] p1) "__init__" (kEnv qual (defScope st) L f cd cc) (eval (.Call (.Name "super" p0) [] [] p1) (kEnv qual (defScope st) L f cd cc))
      standAt p2.atName
      let (f', first) ← holding [ov] (getMethod ov "__init__" (pl L))
      callWith p5 f' first (backTo p5 (starEach [.Name "what" p3, .Constant (.str c) 0 p4] (kEnv qual (defScope st) L f cd cc))) [])) : FnR P w K mg base CXn (k + 1) f (spBad K R C c) := by
  refine fn_super S Z hb (fun vs H Q E ⟨a, v, e, _⟩ => by rw [e]; rfl) fun A outer s0 s H vs Q E hr I ⟨a, v, ev, rc, hx, q⟩ => ?_
  subst ev
  rw [hbd]
  refine ks_wpAt_execs_cons (ks_wpAt_mono (Q := fun fl s' => fl = .next ∧ ∃ σ H', Inv (cxK P w K mg base ["self", "what"] qual (defScope st) f cd cc A outer s0 H) [] σ H' s' ∧ Q .non H') (E := fun _ _ => False) ?_ (fun fl s' ⟨e, h⟩ => by subst e; exact wpAt_of_wpAny (wpAny_execs_nil ⟨rfl, h⟩)) fun _ _ z => z)
  refine ks_wpAt_Expr_any (ks_wpAt_MethodCall (he := he _) ?_) (by unfold interactive; rw [show (kEnv qual (defScope st) s0.heap.objs.size f cd cc).scope.kind = _ from Z.kind]; rfl) rfl
  refine super_at S Z I rfl hx hcc rfl fun so h' I1 hso => ?_
  have X : K.In h' := I1.kIn
  obtain ⟨t1, hxo⟩ := exo_at I1.hok hx
  unfold PySem.W.ks_superIn at hsi
  cases hc : PySem.W.clsIn K C with
  | none => rw [hc] at hsi; cases hsi
  | some cdC =>
  rw [hc] at hsi
  obtain ⟨of, hof, hofc⟩ : ∃ of, h'.get? fR = some of ∧ of.cls = .type "function" := by
    have e : (K.lookup fR).map (·.cls) = some (.type "function") := hft
    cases z : K.lookup fR with
    | none => rw [z] at e; cases e
    | some of => rw [z] at e; exact ⟨of, X _ _ z, Option.some.inj e⟩
  have ia : PySem.W.InstAt h' a { cls := .ref C, dict := none, data := .fields #[.ref t1, .none, .none, .none, .bool false, .none] } C none := ⟨hxo, rfl, rfl, trivial⟩
  refine ks_wpAny_getMethod_super hso (PySem.W.looks_opaque X ho) (l₀ := cdC.mro) (fun A Q E s k q => wpAny_bind ((PySem.W.looks_clsIn X hc) A _ E s k (wpAny_pure q))) rfl X hsi hof hofc (PySem.W.ks_ne X ia hc) rfl ?_
  have I2 := ClX.met_new (g := fR) (C := a) I1
  refine ClX.callwith_cm I2 (ClX.base_none I1 (Nat.le_refl _)) hf ?_ rfl rfl
  have ha : PA (cxK P w K mg base ["self", "what"] qual (defScope st) f cd cc A outer s0 H) [.Name "what" p3, .Constant (.str c) 0 p4] (tCons (tVar 1) (tCons (tC (.str c)) tNil)) := pa_cons (pe_var (i := 1) rfl (.inl (Z.loc _ (by simp))) (by decide) (by decide)) (pa_cons pe_str pa_nil)
  refine thn (ha.run p5 _ _ _ H (fun vs H2 => vs = [v, .str c] ∧ H2 = H) I2 ⟨v, rfl, rfl, rfl⟩) fun us s3 ⟨ws, H2, I3, rv, ew, eH⟩ => ⟨⟨ClX.pin_at I3, I3.kIn⟩, ?_⟩
  subst ew
  subst eH
  refine thn (ClX.run_cm (E := E) (Q := fun _ H6 => Q .non H6) F2 hr passN I3 rv ⟨a, C, v, c, rfl, rc, hx, q⟩) fun u s4 ⟨_, H4, I4, _, q4⟩ => ?_
  exact ⟨rfl, _, _, I4, q4⟩
end
end ME
namespace ME
open PySem PySem.Spec PyProof.Rows L2 LamX
section
variable {X : Cx} {pins : List (Addr × Obj)} {σ : L2.St} {H : Hp} {s : Shared} {C a u : Addr}
/-- the wrapper of ValueError.__init__ at the exception, called -/
theorem call_mw {us : List Value} {Q : Value → Shared → Prop} {A : Around} {E : Value → Shared → Prop} (T : OexC X.K C) (I : Inv X pins σ H s) (hu : s.heap.get? u = some (PySem.W.kxs_mw "ValueError.__init__" a)) (e : H a = some (exo a C none)) (hl : us.length ≤ sizeLine) (h : ∀ s', Inv X pins σ H s' → Q .none s') :
    wpAny (model X.prog X.w) A (call (.ref u) us) Q E s := by
  obtain ⟨nm, q, N, bs, bm, sn, sub, ab, col, dd, k0, k1, k2, k3, k5, hC, hbm⟩ := T.cls
  obtain ⟨t1, ho⟩ := exo_at I.hok e
  have FB := F.excBase_ValueError
  obtain ⟨hp, g, d, t, os⟩ := s
  refine wpAny_call (codeAny_of_tree ?_)
  show wpAny _ A.in1 (callAny (.ref u) ⟨us, []⟩) _ _ _
  simp only [callAny]
  refine wpAny_bind (wpAny_load hu ?_)
  simp only [PySem.W.kxs_mw, show (Value.type "method-wrapper" == Value.type "method" || Value.type "method-wrapper" == Value.type "builtin_function_or_method" || Value.type "method-wrapper" == Value.type "method-wrapper") = true by decide, if_true]
  refine PySem.W.KFB.if_so (by decide) ?_
  refine wpAny_bind (PySem.W.check_bound_init FB.toExcCallFacts (I.kIn _ _ hC) ho rfl ?_)
  refine wpAny_bind (wpAny_pure (wpAny_pure ?_))
  refine ⟨plainId_quiet FB.init.plain _, codeAny_builtin FB.initEntry ?_⟩
  refine PySem.W.exc_init_tree (cls := .ref C) (t0 := t1) (dv := none) (c2 := .none) (c3 := .none) (b4 := .bool false) ho hl fun h' k hx _ => ?_
  have J := I.write (t' := t) (x := a) (e := a) (o := exo a C none) (by rw [e]; exact True.intro) (.inl rfl) k ⟨_, hx⟩ (exo_ok hx)
  have eu : upd H a (exo a C none) = H := by
    funext b
    by_cases hb : b = a
    · rw [hb, upd_same, e]
    · rw [upd_ne hb]
  rw [eu] at J
  exact h _ J
end
section
variable {P : Program} {w : World} {K : PySem.W.Frag} {mg : Str → Option Value} {base : Heap} {name qual : Str} {st : Stmt} {f cc R : Addr} {fd : FuncData} {dV cd : Value}
/-- Refused.__init__ -/
theorem fn_ref {p0 p1 p2 p3 p5 p6 q1 q2 q3 q4 q5 q6 q7 q8 : Pos} (S : SDef P K mg name qual st "self" R f cc fd dV cd) (Z : SScope (defScope st) ["self", "what", "word"] "self")
    (hbd : defBody st = [.Expr (.Call (.Attribute (.Call (.Name "super" p0) [] [] p1) "__init__" p2) [.Name "what" p3] [] p5) p6,
      .Assign [.Attribute (.Name "self" q1) "what" q2] (.Name "what" q3) q4, .Assign [.Attribute (.Name "self" q5) "word" q6] (.Name "word" q7) q8])
    (hb : ∀ (s : Shared) (us : List Value), K.In s.heap → us.length = 3 → BindsTo s fd ⟨us, []⟩ ((["self", "what", "word"] : List Str).zip us))
    (ho : PySem.W.nsIn K cStatics "thirdparty.any" = some none) {pl : Addr → Sem Bool} (he : ∀ L, eval (.Call (.Attribute (.Call (.Name "super" p0) [] [] p1) "__init__" p2) [.Name "what" p3] [] p5) (kEnv qual (defScope st) L f cd cc) = (do
      let ov ← attributeBase (.Call (.Name "super" p0) [] [] p1) "__init__" (kEnv qual (defScope st) L f cd cc) (eval (.Call (.Name "super" p0) [] [] p1) (kEnv qual (defScope st) L f cd cc))
      standAt p2.atName
      let (f', first) ← holding [ov] (getMethod ov "__init__" (pl L))
      callWith p5 f' first (backTo p5 (starEach [.Name "what" p3] (kEnv qual (defScope st) L f cd cc))) [])) : FnR P w K mg base CXn 1 f (spRef K R) := by
  refine fn_super S Z hb (fun vs H Q E ⟨a, C, v, c, e, _⟩ => by rw [e]; rfl) fun A outer s0 s H vs Q E hr I ⟨a, C, v, c, ev, rc, hx, q⟩ => ?_
  subst ev
  rw [hbd]
  refine ks_wpAt_execs_cons (ks_wpAt_mono (Q := fun fl s' => fl = .next ∧ Inv (cxK P w K mg base ["self", "what", "word"] qual (defScope st) f cd cc A outer s0 H) [] [some (V.ref a), some v, some (V.str c)] H s') (E := fun _ _ => False) ?_ (fun fl s' ⟨e, J⟩ => ?_) fun _ _ z => z)
  · refine ks_wpAt_Expr_any (ks_wpAt_MethodCall (he := he _) ?_) (by unfold interactive; rw [show (kEnv qual (defScope st) s0.heap.objs.size f cd cc).scope.kind = _ from Z.kind]; rfl) rfl
    refine super_at S Z I rfl hx rc.sub rfl fun so h' I1 hso => ?_
    have X : K.In h' := I1.kIn
    obtain ⟨t1, hxo⟩ := exo_at I1.hok hx
    have hsi := rc.si
    unfold PySem.W.ks_superIn at hsi
    cases hc : PySem.W.clsIn K C with
    | none => rw [hc] at hsi; cases hsi
    | some cdC =>
    rw [hc] at hsi
    have ia : PySem.W.InstAt h' a { cls := .ref C, dict := none, data := .fields #[.ref t1, .none, .none, .none, .bool false, .none] } C none := ⟨hxo, rfl, rfl, trivial⟩
    refine PySem.W.kxs_getMethod PySem.W.kxs_ValueError hso (PySem.W.looks_opaque X ho) (l₀ := cdC.mro) (fun A Q E s k q => wpAny_bind ((PySem.W.looks_clsIn X hc) A _ E s k (wpAny_pure q))) rfl X hsi (ia.type.andThen (PySem.W.looks_subIn X rc.sv)) (PySem.W.ks_ne X ia hc) rfl ?_
    have I2 : Inv (cxK P w K mg base ["self", "what", "word"] qual (defScope st) f cd cc A outer s0 H) ((h'.objs.size, PySem.W.kxs_mw "ValueError.__init__" a) :: []) _ H ⟨h'.push (PySem.W.kxs_mw "ValueError.__init__" a), s.gens, s.drawn, s.toks + 1, s.os⟩ :=
      ClX.pin_new (s := { s with heap := h' }) (t' := s.toks + 1) I1 (fun _ _ z => Heap.get?_push_of_some _ z) (Nat.le_refl _) (Heap.get?_push_size _ rfl) (fun v z => nomatch z)
    refine PySem.W.kxs_callWith (i := "ValueError.__init__") (x := a) rfl (Calls.evalArgs_plain ?_)
    have ha : PA (cxK P w K mg base ["self", "what", "word"] qual (defScope st) f cd cc A outer s0 H) [.Name "what" p3] (tCons (tVar 1) tNil) := pa_cons (pe_var (i := 1) rfl (.inl (Z.loc _ (by simp))) (by decide) (by decide)) pa_nil
    refine thn (ha.run p5 _ _ _ H (fun vs H2 => vs = [v] ∧ H2 = H) I2 ⟨v, rfl, rfl, rfl⟩) fun us s3 ⟨ws, H2, I3, rv, ew, eH⟩ => ⟨ClX.pin_at I3, ?_⟩
    subst ew
    subst eH
    have hl : us.length ≤ sizeLine := by rw [← rv.length]; show 1 ≤ sizeLine; decide
    exact call_mw rc.oex I3 (ClX.pin_at I3) hx hl fun s' J => ⟨rfl, ClX.unpin J⟩
  · subst e
    have e1 : PS (cxK P w K mg base ["self", "what", "word"] qual (defScope st) f cd cc A outer s0 H) (.Assign [.Attribute (.Name "self" q1) "what" q2] (.Name "what" q3) q4) (tOst K "what" (tVar 0) (tVar 1)) :=
      ps_ost (pe_var (i := 0) rfl (.inl (Z.loc _ (by simp))) (by decide) (by decide)) (pe_var (i := 1) rfl (.inl (Z.loc _ (by simp))) (by decide) (by decide))
    have e2 : PS (cxK P w K mg base ["self", "what", "word"] qual (defScope st) f cd cc A outer s0 H) (.Assign [.Attribute (.Name "self" q5) "word" q6] (.Name "word" q7) q8) (tOst K "word" (tVar 0) (tVar 2)) :=
      ps_ost (pe_var (i := 0) rfl (.inl (Z.loc _ (by simp))) (by decide) (by decide)) (pe_var (i := 2) rfl (.inl (Z.loc _ (by simp))) (by decide) (by decide))
    refine wpAt_of_wpAny (thn ((pss_cons e1 (pss_one e2)).run [] s' _ H { nx := fun _ H' => Q .non H', rt := fun _ _ => False } J ?_) fun fl s2 h2 => ?_)
    · refine ⟨v, rfl, .ref a, rfl, a, C, rfl, rc.oex, rc.nw, .inl ⟨hx, fun dx hd hda => ?_⟩⟩
      have nx : H dx = none := hd
      refine ⟨.str c, rfl, .ref a, rfl, a, C, rfl, rc.oex, rc.nd, .inr ⟨dx, [("what", v)], upd_same, by rw [upd_ne hda, upd_same], by simp, ?_⟩⟩
      exact q dx hd hda
    · cases fl with
      | next => obtain ⟨σ', H', J2, q2⟩ := h2; exact ⟨rfl, σ', H', J2, q2⟩
      | ret u => obtain ⟨_, _, _, _, _, z⟩ := h2; exact z.elim
      | brk => obtain ⟨_, _, _, z⟩ := h2; exact z.elim
      | cont => obtain ⟨_, _, _, z⟩ := h2; exact z.elim
end
end ME
namespace ME
open PySem PySem.Spec PyProof.Rows L2 LamX
/-- an own class below Refused, as the module knows it -/
structure BadC (P : Program) (w : World) (K : PySem.W.Frag) (mg : Str → Option Value) (base : Heap) (k : Nat) (R : Addr) (c : Str) (C fI : Addr) : Prop where
  gl : mg c = some (.ref C)
  rf : RfC K R C
  iC : PySem.W.findIn K (.ref C) "__init__" = some (some (.ref fI))
  tI : PySem.W.typeIn K (.ref fI) = some (.type "function")
  fn : FnR P w K mg base CXn k fI (spBad K R C c)
section
variable {X : Cx} {k : Nat} {R C fI : Addr} {c : Str} {e : Expr} {te : TE} {p pos : Pos}
theorem made_heap {H : Hp} {a dx : Addr} {v : V} (na : H a = none) (nd : H dx = none) (ne : dx ≠ a) : upd (L2.del (hMade (upd H a (exo a C none)) a C dx v c) a) dx (.xd (exFs v c)) = upd H dx (.xd (exFs v c)) := by
  funext b
  by_cases h1 : b = dx
  · subst h1; rw [upd_same, upd_same]
  · rw [upd_ne h1, upd_ne h1]
    by_cases h2 : b = a
    · subst h2; rw [L2.del_same, na]
    · rw [L2.del_ne h2]
      unfold hMade
      rw [upd_ne h1, upd_ne h2, upd_ne h1, upd_ne h2]
/-- BadX(e) -/
theorem pmk_bad (B : BadC X.prog X.w X.K X.mg X.base k R c C fI) (hr : Room (k + 1) X.A) (hg : Gl X c) (he : PE X e te) (hdb : (c == ("__debug__" : Str)) = false := by decide) (hs : starEach [e] X.env = (false, eval e X.env) :: starEach [] X.env := by rfl) (hpl : (backTo pos (starEach [] X.env)).any (·.1) = false := by rfl) :
    L2N.PMk X (.Call (.Name c p) [e] [] pos) (fun σ H Q => te σ H fun v H1 => ∀ d, H1 d = none → Q (.ref C) (some d) (upd H1 d (.xd (exFs v c)))) := by
  intro pins s σ H Q I h
  have T := B.rf.oex
  obtain ⟨nm, q, N, bs, bm, sn, sub, ab, col, dd, k0, k1, k2, k3, k5, hC, hbm⟩ := T.cls
  refine wpAny_Call_Name_kw (ld_glob I hg B.gl ?_ hdb)
  have ha : PA X [e] (tCons te tNil) := pa_cons he pa_nil hs
  refine PySem.W.callWith_K (h₀ := X.base) I.ok.mod.kin T.kC (thn (ha.run pos pins s σ H (fun vs H1 => match vs with
    | [v] => ∀ d, H1 d = none → Q (.ref C) (some d) (upd H1 d (.xd (exFs v c)))
    | _ => False) I h) fun us s1 ⟨vs, H1, I1, r1, q1⟩ => ⟨I1.kIn, ?_⟩) hs hpl
  match vs, q1 with
  | [v], q1 =>
  show wpAny _ _ (call (.ref C) us) _ _ _
  obtain ⟨hp, g, dr, tk, os⟩ := s1
  have fresh : H1 (hp.objs.size + 1) = none := I1.hok.fresh (Nat.le_succ _)
  have kk : ∀ b o, hp.get? b = some o → ((hp.push (PySem.W.kdv_tup us)).push (PySem.HandSPX.excO C hp.objs.size)).get? b = some o := fun b o e => Heap.get?_push_of_some _ (Heap.get?_push_of_some _ e)
  have hget : ((hp.push (PySem.W.kdv_tup us)).push (PySem.HandSPX.excO C hp.objs.size)).get? (hp.objs.size + 1) = some (PySem.HandSPX.excO C hp.objs.size) := by heap_get
  have I2 := I1.laid (t' := tk) (a := hp.objs.size + 1) (o := exo (hp.objs.size + 1) C none) kk (Nat.le_succ _) (exo_ok hget)
  have r2 : Vals [V.ref (hp.objs.size + 1), v] (Value.ref (hp.objs.size + 1) :: us) := .cons rfl r1
  have hus : us.length ≤ sizeLine := by rw [← Paired.length r1]; show 1 ≤ sizeLine; decide
  have hq : spBad X.K R C c [V.ref (hp.objs.size + 1), v] (upd H1 (hp.objs.size + 1) (exo (hp.objs.size + 1) C none))
      (fun u H2 => u = .non ∧ ∃ d, H1 d = none ∧ d ≠ hp.objs.size + 1 ∧ H2 = hMade (upd H1 (hp.objs.size + 1) (exo (hp.objs.size + 1) C none)) (hp.objs.size + 1) C d v c) (fun _ _ _ => False) :=
    ⟨_, v, rfl, B.rf, upd_same, fun dx hd hda => ⟨rfl, dx, by rw [upd_ne hda] at hd; exact hd, hda, rfl⟩⟩
  refine wpAny_call (PySem.HandSPX.call_own F.excBase_ValueError (fun Y => PySem.HandSPX.refsVE_contains Y bm hbm) (I1.kIn _ _ hC) (PySem.W.looks_findIn I1.kIn B.iC) (fun self => PySem.W.bind_fn I1.kIn self B.tI) hus
    (codeAny_mono (B.fn _ X.stack _ _ (Value.ref (hp.objs.size + 1) :: us) _ _ (fun _ _ _ => False) (hr.make C us []) (I2.env0.make C us []) r2 hq) fun r s' hq' => ?_))
  cases r with
  | error er => exact hq'.elim
  | ok fl =>
    cases fl with
    | ret u =>
      obtain ⟨w', H2, os2, bare2, un2, hok2, rv, rfl, d, hd1, hda, rfl⟩ := hq'
      obtain ⟨h2, g2, d2, t2, os'⟩ := s'
      obtain ⟨t0, Gh', J, kG, ge, hoe, na⟩ := mk_end0 (fs := exFs v c) (d := d) (d2 := d2) (t2 := t2) I1 (Nat.le_succ _) kk un2 hok2 os2 bare2 (by unfold hMade; rw [upd_ne (Ne.symm hda), upd_same]) upd_same hd1
      refine ⟨rv, _, _, _, ⟨Gh', g2, d2, t2, os'⟩, _, .ref C, some d, rfl, J, kG, ge, hoe, ⟨rfl, rfl, fun vs e => by cases e; rfl⟩, rfl, rfl, na, rfl, bare2, raises_own T.exC T.tyC, ?_⟩
      rw [made_heap fresh hd1 hda]
      exact q1 d hd1
    | next => exact False.elim hq'
    | brk => exact False.elim hq'
    | cont => exact False.elim hq'
def sRaise (c : Str) (f : M D) : MS := sBind f fun d ρ => .ex c d ρ
theorem ds_raise {T : Gh} {f : M D} {pos' : Pos} (B : BadC X.prog X.w X.K X.mg X.base k R c C fI) (hr : Room (k + 1) X.A) (hc : X.calm = true) (hg : Gl X c) (he : DE T X e f) (hdb : (c == ("__debug__" : Str)) = false := by decide) (hs : starEach [e] X.env = (false, eval e X.env) :: starEach [] X.env := by rfl) (hpl : (backTo pos (starEach [] X.env)).any (·.1) = false := by rfl) :
    DS T X (.Raise (some (.Call (.Name c p) [e] [] pos)) none pos') (sRaise c f) := fun W tk => PS.imp (L2N.ps_raise hc tk (pmk_bad B hr hg (he W tk) hdb hs hpl)) fun E σ H q => by
  obtain ⟨ρ, A, rl, p⟩ := q
  refine ⟨ρ, A, rl, p.seq fun v d ρ1 H1 A1 A' st r1 rd nd p => ?_⟩
  obtain ⟨rfl, dz⟩ := rd
  have st' : Step A H A' H1 := by simpa using st
  intro dn hd
  have ex : Ext H1 (upd H1 dn (.xd (exFs v c))) := Ext.upd hd
  exact p C dn σ _ A' (st'.trans ex.step) (r1.ext ex) B.gl ⟨exFs v c, v, upd_same, rfl, dz.keep ex.keep, rfl⟩
end
end ME
namespace ME
open PySem PySem.Spec PyProof.Rows L2 LamX
/-! ### a list comprehension while an exception is handled -/
section
variable {prog : Program} {w : World} {A : Around} {E : Value → Shared → Prop} {s : Shared}
theorem list_end_hot {it l x1 : Addr} {i : Nat} {items : Array Value} {Q : Option Value → Shared → Prop} (hot : HotX.HotAt A x1 s.heap) (hne : x1 ≠ it) (hit : s.heap.IsListIter it l i) (hl : s.heap.IsList l items) (hx : items[i]? = none)
    (hQ : ∀ h', (∀ b o, b ≠ it → s.heap.get? b = some o → h'.get? b = some o) → Q none { s with heap := h' }) : wpAny (model prog w) A (pyNext (.ref it)) Q E s := by
  obtain ⟨o, ho, hc, hd⟩ := id hit
  obtain ⟨ol, hol, _, nl, hdl⟩ := hl
  obtain ⟨hh, o1, vs1, h1, d1, c1⟩ := hot
  unfold pyNext
  refine wpAny_bind (wpAny_attempt (wpAny_callSpecial?_slot (name := Str.ofString "__next__") hit.typeIs slot_listiter_next (wpAny_call_entry slot_listiter_next hit.typeIs entry_listiter_next ?_ (args_listiter_next _))))
  show wpAny _ _ (field (.ref it) 0 >>= _) _ _ s
  refine wpAny_bind (wpAny_field ho hd (x := .ref l) rfl ?_)
  show wpAny _ _ (if (Value.ref l == Value.none) = true then _ else _) _ _ s
  rw [if_neg (show ¬ ((Value.ref l == Value.none) = true) from Bool.false_ne_true)]
  show wpAny _ _ (field (.ref it) 1 >>= _) _ _ s
  refine wpAny_bind (wpAny_field ho hd (x := .int i 0) rfl ?_)
  show wpAny _ _ (seqItems? (.ref l) >>= _) _ _ s
  refine wpAny_bind (wpAny_seqItems hol hdl ?_)
  simp only [Int.toNat_natCast, hx]
  refine wpAny_bind (wpAny_rule (wpAny_bind (wpAny_setField ho hd (by simp) ?_)))
  show wpAny _ _ (newExc (.type "StopIteration") [] >>= _) _ _ _
  refine wpAny_bind ?_
  simp only [newExc, newTuple]
  refine wpAny_bind (wpAny_newObj_type ?_ (by size_fits))
  refine wpAny_bind (m := firstArgMember _ _) (wpAny_of_eq (a := Value.none) (by first | rfl | (simp only [firstArgMember]; rfl)) ?_)
  refine wpAny_newObj_type ?_ (by size_fits)
  have h1' := (Heap.get?_update_other s.heap (Obj.mapFields (·.setIfInBounds 0 .none)) (Ne.symm hne)).trans h1
  refine HotX.raiseNew_hot ⟨hh, o1, vs1, Heap.get?_push_of_some _ (Heap.get?_push_of_some _ h1'), d1, c1⟩ (Nat.ne_of_lt (Heap.lt_size (Heap.get?_push_of_some _ h1'))) (Heap.get?_push_size _ rfl) rfl (by first | (simp; done) | (simp; omega)) ?_
  refine wpAny_bind (wpAny_isInstance (T := "StopIteration") (b := true) ⟨_, Heap.get?_update_self _ (Heap.get?_push_size _ rfl) rfl, rfl⟩ isSubtype_stop ?_)
  refine wpAny_pure (hQ _ fun b o hb e => ?_)
  have e' := (Heap.get?_update_other s.heap (Obj.mapFields (·.setIfInBounds 0 .none)) (Ne.symm hb)).trans e
  rw [Heap.get?_update_other _ _ (Nat.ne_of_gt (Heap.lt_size (Heap.get?_push_of_some _ e')))]
  exact Heap.get?_push_of_some _ (Heap.get?_push_of_some _ e')
end
/-- the pinned object of the exception that is handled -/
def HotP (A : Around) (p : Addr × Obj) : Prop := L2H.Hot1 A p
section
variable {Y : Cx} {pins : List (Addr × Obj)} {σ : L2.St} {H : Hp} {s : Shared} {a it : Addr} {i : Nat} {E : Value → Shared → Prop} {tg : Expr}
theorem hot_item (I : Inv Y pins σ H s) (hf : FpOk Y pins H it) (st : s.heap.IsListIter it a i) {xs : List V} {x : V} (hq : SqL Y.K H a xs) (hx : xs[i]? = some x) :
    wpAny (model Y.prog Y.w) Y.A (pyNext (.ref it)) (fun r s1 => ∃ u, r = some u ∧ wpAny (model Y.prog Y.w) Y.A (letOwnedTupleGo tg (.ref it) u) (fun _ s2 => Inv Y pins σ H s2 ∧ RelV x u ∧ s2.heap.IsListIter it a (i + 1)) E s1) E s := by
  obtain ⟨its, rv, p, hz⟩ := I.list hq
  obtain ⟨u, hu, ru⟩ := rv.get hx
  obtain ⟨f0, f1, f2, f3, f4, f5⟩ := hf
  refine wpAny_pyNext_list_item st p.isList (x := u) (by simpa using hu) fun h' st' sb => ?_
  have I1 : Inv Y pins σ H { s with heap := h' } := I.turned (t' := s.toks) (fun b o hb e => (sb.2 b hb).trans e) f0 f1 f3 f4 f5
  obtain ⟨o, e, c, d⟩ := id st'
  exact ⟨u, rfl, go_of (s := { s with heap := h' }) e c d (by decide) ⟨I1, ru, st'⟩⟩
theorem hot_done {p : Addr × Obj} (I : Inv Y pins σ H s) (hp : p ∈ Y.pn ++ pins) (hot : L2H.Hot1 Y.A p) (hf : FpOk Y pins H it) (st : s.heap.IsListIter it a i) {xs : List V} (hq : SqL Y.K H a xs) (hx : xs.length ≤ i) :
    wpAny (model Y.prog Y.w) Y.A (pyNext (.ref it)) (fun r s1 => r = none ∧ Inv Y pins σ H s1) E s := by
  obtain ⟨its, rv, pl, hz⟩ := I.list hq
  obtain ⟨f0, f1, f2, f3, f4, f5⟩ := hf
  obtain ⟨hh, vs, e1, c1⟩ := hot
  have hl := rv.length
  refine list_end_hot (x1 := p.1) ⟨hh, p.2, vs, (I.pin p hp).1, e1, c1⟩ (f5 p hp) st pl.isList (by simp; omega) fun h' k => ⟨rfl, I.turned (t' := s.toks) (fun b o hb e => k b o hb e) f0 f1 f3 f4 f5⟩
end
section
variable {X : Cx}
theorem pe_lc_hot {elt tg iter : Expr} {ifs : List Expr} {scope : Scope} {own : List (Str × Nat)} {pos : Pos} {tl : TE} {g : TG} {tt : TT} {te : TE} {p : Addr × Obj} (hp : p ∈ X.pn) (hot : L2H.Hot1 X.A p) (hN : X.N.Nodup) (hi : PE X iter tl) (ok : BlkOk X.N X.env.scope scope own)
    (hg : ∀ (s : Shared) (H : Hp) (C : Addr) (cl : List (Str × Addr)) (fp : List Addr), PG (X.blk s H scope (compEnvC scope cl C X.env) fp) tg g) (ht : ∀ (s : Shared) (H : Hp) (C : Addr) (cl : List (Str × Addr)) (fp : List Addr), PTs (X.blk s H scope (compEnvC scope cl C X.env) fp) ifs tt)
    (he : ∀ (s : Shared) (H : Hp) (C : Addr) (cl : List (Str × Addr)) (fp : List Addr), PE (X.blk s H scope (compEnvC scope cl C X.env) fp) elt te) (hs : ∀ x, foldedSetIterable iter X.env x = pure x := by intro _; rfl) :
    PE X (.ListComp elt [⟨tg, iter, ifs, 0⟩] scope pos) (tLc (iList X.K tl) g tt te (own.map (·.2))) := by
  refine ⟨fun pins s σ H Q I h => ?_⟩
  rw [eval_ListComp]
  have hfree : ∀ y ∈ scope.names, y.2 = .free → ∃ c, X.env.cells.lookup y.1 = some c := fun y hy e => (ok.free y hy e).elim (fun k => I.ok.has _ (.inl k)) fun k => I.ok.has _ (.inr k)
  refine wpAny_comprehension_free (use := none) rfl hs (closure_ok hfree) ok.kind (fun y hy e => by rw [ok.uniq y hy, e]) (thn (hi.run pins s σ H _ I h) fun xv s1 ⟨xl, H1, I1, r1, al, ex, ⟨xs0, hq0⟩, q⟩ => ?_)
  subst ex
  cases (show xv = Value.ref al from r1)
  obtain ⟨its0, rv0, p0, hz0⟩ := I1.list hq0
  refine wpAny_pyIter_list p0.isList ?_
  generalize eit : s1.heap.objs.size = it
  generalize es2 : ({ s1 with heap := s1.heap.push { cls := .type "list_iterator", data := .fields #[.ref al, .int 0 0] } } : Shared) = s2
  have kp2 : ∀ b o, s1.heap.get? b = some o → s2.heap.get? b = some o := fun b o e => by rw [← es2]; exact Heap.get?_push_of_some _ e
  have I2 : Inv X pins σ H1 s2 := by rw [← es2]; exact I1.kept (t' := s1.toks) fun b o e => Heap.get?_push_of_some _ e
  have st2 : s2.heap.IsListIter it al 0 := by rw [← es2, ← eit]; exact ⟨_, Heap.get?_push_size _ rfl, rfl, rfl⟩
  have f2 : FpOk X pins H1 it := by rw [← eit]; exact I1.fpOk (Nat.le_refl _) (I1.hok.fresh (Nat.le_refl _))
  refine wpAny_newObj_type (newEnv_comp ?_) (by show 0 ≤ sizeLine; decide)
  generalize hD : s2.heap.objs.size = Dn
  have hDn : H1 Dn = none := I2.hok.fresh (Nat.le_of_eq hD)
  obtain ⟨W, ⟨m0, w0⟩, turn⟩ := q Dn hDn
  generalize hs3 : ({ s2 with heap := s2.heap.push { cls := .type "list", data := .seq ([] : List Value).toArray } } : Shared) = s3
  have h3 : s3.heap = s2.heap.push { cls := .type "list", data := .seq ([] : List Value).toArray } := by rw [← hs3]
  have I3 : Inv X pins σ (upd H1 Dn (.lst [])) s3 := by
    rw [← hs3]
    exact I2.laid (t' := s2.toks) (fun b o e => Heap.get?_push_of_some _ e) (Nat.le_of_eq hD) ⟨Nat.zero_le _, [], 0, .nil, by rw [← hD]; exact Heap.get?_push_size _ rfl⟩
  have itlt : it < s2.heap.objs.size := by obtain ⟨o, e, _⟩ := st2; exact Heap.lt_size e
  have f3 : FpOk X pins (upd H1 Dn (.lst [])) it := ⟨by rw [upd_ne (by rw [← hD]; exact Nat.ne_of_lt itlt)]; exact f2.1, f2.2⟩
  have st3 : s3.heap.IsListIter it al 0 := st2.at fun o e => by rw [h3]; exact Heap.get?_push_of_some _ e
  have I4 := block_start (fp := [it]) I3 ok hN fun b hb => by
    rw [List.mem_singleton.mp hb]
    exact ⟨f3, by rw [h3, Heap.size_push]; exact Nat.lt_succ_of_lt itlt⟩
  have pg := hg s3 (upd H1 Dn (.lst [])) s3.heap.objs.size (cellsFrom (s3.heap.objs.size + 1) scope.names (cloFrom X.env.cells scope.names [])) [it]
  have pt := ht s3 (upd H1 Dn (.lst [])) s3.heap.objs.size (cellsFrom (s3.heap.objs.size + 1) scope.names (cloFrom X.env.cells scope.names [])) [it]
  have pe := he s3 (upd H1 Dn (.lst [])) s3.heap.objs.size (cellsFrom (s3.heap.objs.size + 1) scope.names (cloFrom X.env.cells scope.names [])) [it]
  show codeAny _ _ (.compStart (.ListComp elt [⟨tg, iter, ifs, 0⟩] scope pos) 0 (.ref it) (.ref Dn) (compEnvC scope (cellsFrom (s3.heap.objs.size + 1) scope.names (cloFrom X.env.cells scope.names [])) s3.heap.objs.size X.env)) (compPost (model X.prog X.w) X.A X.xe none _ (.ref Dn) s3.heap.objs.size) { s3 with heap := pushCells (s3.heap.push { cls := .type "dict", data := .dict #[] }) scope.names }
  generalize hce : compEnvC scope (cellsFrom (s3.heap.objs.size + 1) scope.names (cloFrom X.env.cells scope.names [])) s3.heap.objs.size X.env = ce at I4 pg pt pe ⊢
  have cL : ce.locals = s3.heap.objs.size := by subst hce; rfl
  generalize hH3 : upd H1 Dn (.lst []) = H3 at I3 I4 pg pt pe w0 f3
  generalize hs4 : ({ s3 with heap := pushCells (s3.heap.push { cls := .type "dict", data := .dict #[] }) scope.names } : Shared) = s4 at I4 ⊢
  have st4 : s4.heap.IsListIter it al 0 := st3.at fun o e => by rw [← hs4]; exact pushCells_keeps _ _ _ _ (Heap.get?_push_of_some _ e)
  have pp := I3.pin p (List.mem_append_left _ hp)
  have nstk : p.1 ∉ frs X.stack := fun z => (List.mem_cons.mp (I3.stkSub p.1 z)).elim pp.2.2.1 pp.2.2.2.1
  -- the exception's object is pinned in the block
  have I5 : Inv (X.blk s3 H3 scope ce [it]) [p] (L2.wipe σ (own.map (·.2))) H3 s4 := I4.pins_of fun r hr => by
    rw [List.mem_singleton.mp hr]
    refine ⟨?_, pp.2.1, ?_, nstk, pp.2.2.2.2⟩
    · rw [← hs4]; exact pushCells_keeps _ _ _ _ (Heap.get?_push_of_some _ pp.1)
    · show p.1 ≠ ce.locals
      rw [cL]; exact Nat.ne_of_lt (Heap.lt_size pp.1)
  have pit : p.1 ≠ it := f3.2.2.2.2.2 p (List.mem_append_left _ hp)
  have stat : ∀ {σ' : L2.St} {H' : Hp} {s' : Shared}, Inv (X.blk s3 H3 scope ce [it]) [p] σ' H' s' → H' it = none → FpOk (X.blk s3 H3 scope ce [it]) [p] H' it := fun {σ' H' s'} I' hn =>
    ⟨hn, (I'.ok.exf it (by simp)).1, I'.ok.exfs it (by simp), .inl (by simp), fun x c e => (I'.ok.exf it (by simp)).2 x c e, fun r hr => by
      have hr' : r = p := by simpa using hr
      rw [hr']; exact pit⟩
  have loop : codeAny (model X.prog X.w) X.A (.compLoop (.ListComp elt [⟨tg, iter, ifs, 0⟩] scope pos) 0 (.ref it) (.ref Dn) ce) (compPost (model X.prog X.w) X.A X.xe none (EP X pins σ Q) (.ref Dn) s3.heap.objs.size) s4 := by
    refine compLoop_any (fun n s' => ∃ i H', Inv (X.blk s3 H3 scope ce [it]) [p] (L2.wipe σ (own.map (·.2))) H' s' ∧ s'.heap.IsListIter it al i ∧ H' it = none ∧ W i n H') ?_ m0 ⟨0, H3, I5, st4, f3.1, w0⟩
    rintro n s5 ⟨i, H5, J5, st5, n5, w5⟩
    rcases turn i n H5 w5 with ⟨⟨xs, hxs, hle⟩, qq⟩ | ⟨⟨xs, x, hxs, hx⟩, Nx, hNx, step⟩
    · refine thnF (hot_done (Y := X.blk s3 H3 scope ce [it]) (E := fun _ _ => False) J5 (by simp) hot (stat J5 n5) st5 hxs hle) fun r s6 ⟨hr, I6⟩ => ?_
      subst hr
      have I7 : Inv X pins σ H5 s6 := I3.call' (ch := [it]) I6.os I6.base I6.hok I6.bare fun b hb => by rw [List.mem_singleton.mp hb]; exact ⟨f3.2.2.2.1, f3.2.1, f3.2.2.2.2.1, f3.2.2.2.2.2⟩
      have nC : H5 s3.heap.objs.size = none := by
        have z : H5 ce.locals = none := I6.free
        rw [cL] at z
        exact z
      obtain ⟨m, hn, _⟩ := I6.loc
      have hn : s6.heap.Ns ce.locals m := hn
      rw [cL] at hn
      refine ⟨m, hn, fun h'' sb => ?_⟩
      obtain ⟨f0, f1, f2, f3, f4, f5⟩ := I3.fpOk (Nat.le_refl _) nC
      exact ⟨.ref Dn, H5, I7.turned (t' := s6.toks) (fun b o hb e => (sb.2 b hb).trans e) f0 f1 f3 f4 f5, rfl, qq⟩
    · refine thnF (hot_item (Y := X.blk s3 H3 scope ce [it]) (E := fun _ _ => False) (tg := tg) J5 (stat J5 n5) st5 hxs hx) fun r s6 ⟨u, hr, h6⟩ => ?_
      subst hr
      refine thnF h6 fun _ s7 ⟨I7, r7, st7⟩ => ?_
      obtain ⟨oi, eo, ec, ed⟩ := id st7
      have I7' : Inv (X.blk s3 H3 scope ce [it]) ([p] ++ pinsAt [it] s7.heap) (L2.wipe σ (own.map (·.2))) H5 s7 := I7.pinned (fun b hb => by rw [List.mem_singleton.mp hb]; exact stat I7 n5) fun b hb => by
        rw [List.mem_singleton.mp hb]
        exact ⟨oi, eo, fun v z => by rw [ed] at z; cases z⟩
      refine thnF (pg.run _ s7 _ H5 x u _ I7' r7 (step x H5 ⟨rfl, fun ys hy => by rw [J5.list_inj hy hxs]; exact hx⟩)) fun _ s8 ⟨σ8, H8, I8, hw8, q8⟩ => ?_
      refine thnF (pt.run _ s8 σ8 H8 _ I8 q8) fun b s9 ⟨H9, I9, q9⟩ => ?_
      have fin : ∀ {s' : Shared} {H' : Hp}, Inv (X.blk s3 H3 scope ce [it]) ([p] ++ pinsAt [it] s7.heap) σ8 H' s' → Nx H' → ∃ m, m < n ∧ ∃ i H', Inv (X.blk s3 H3 scope ce [it]) [p] (L2.wipe σ (own.map (·.2))) H' s' ∧ s'.heap.IsListIter it al i ∧ H' it = none ∧ W i m H' := fun {s' H'} I' nx => by
        obtain ⟨m', hm, w'⟩ := hNx H' nx
        have z := I'.pin (it, oi) (List.mem_append_right _ (List.mem_append_right _ (mem_pinsAt (by simp) eo)))
        have hl : (L2.wipe σ (own.map (·.2))).length = σ8.length := by rw [← hw8, L2.wipe_length]
        refine ⟨m', hm, i + 1, H', (I'.unpinned (pins := [p])).weak hl (fun j v e => ?_), ⟨oi, z.1, ec, ed⟩, z.2.1, w'⟩
        rw [← hw8] at e
        exact (wipe_some e).1
      cases b with
      | false =>
        simp only [Bool.false_eq_true, if_false] at q9 ⊢
        exact fin I9 q9
      | true =>
        simp only [if_true] at q9 ⊢
        refine thnF (pe.run _ s9 σ8 H9 _ I9 q9) fun z s10 ⟨yv, H10, I10, r10, acc, hD10, hz10, nx⟩ => ?_
        exact app_ok (X := X.blk s3 H3 scope ce [it]) I10 hD10 hz10 r10 fun s11 I11 => fin I11 nx
  exact codeAny_compStart_list loop (wpAny_pyIter_listiter st4 loop)
end
end ME
namespace ME
open PySem PySem.Spec PySem.Calls PyProof.Rows L2 LamX
/-! ### isinstance of an exception that has its dict -/
section
open PySem.W
variable {prog : Program} {w : World} {A : Around} {E : Value → Shared → Prop} {s : Shared} {K : Frag} {x D : Addr} {ox : Obj} {od : Option Obj}
theorem exc_class (C : ExcC K D) (X : K.In s.heap) (I : InstAt s.heap x ox D od) {Q : Option Value → Shared → Prop} (h : Q (some (.ref D)) { s with toks := s.toks + 1 }) : wpAny (model prog w) A (getAttr? (.ref x) "__class__") Q E s := by
  have hf : findObj K D od "__class__" = some (.bind (.builtin "getset_descriptor.__get__") (.builtin "object.__class__")) := by
    obtain ⟨cd, hc, _⟩ := any_some C.hd
    unfold findObj
    rw [hc, Option.bind_some, C.ha, Option.bind_some]
    simp [C.hn, C.ht]
  obtain ⟨hp, g, d, t, os⟩ := s
  have ty := I.type (M := model prog w)
  have l1 := looks_findIn (M := model prog w) X C.hg
  have l2 := looks_findIn (M := model prog w) X C.hk
  have l3 := looks_find (M := model prog w) X I hf
  have sub : Looks (model prog w) hp (isInstance (.ref x) (.type "BaseException")) true := ty.andThen (looks_subIn X C.hs)
  have no2 : (Value.builtin "BaseException.__getattribute__" == Value.builtin "object.__getattribute__") = false := by decide +kernel
  have no1 : (onTheHeap (Value.ref D) && Value.builtin "BaseException.__getattribute__" == Value.builtin "object.__getattribute__") = false := by rw [no2]; rfl
  unfold getAttr? getAttrBy? getAttrBy
  refine wpAny_bind (wpAny_mkText (wpAny_bind (wpAny_attempt (wpAny_holding (wpAny_bind (ty.at (wpAny_bind (l1.at ?_))))))))
  show wpAny _ _ (if (onTheHeap (Value.ref D) && Value.builtin "BaseException.__getattribute__" == Value.builtin "object.__getattribute__") = true then _ else _) _ _ _
  rw [no1, if_neg Bool.false_ne_true]
  unfold getAttrByItsOwn hookBefore
  refine wpAny_bind ?_
  rw [if_pos (show onTheHeap (Value.ref D) = true from rfl)]
  refine l2.at (wpAny_bind (wpAny_attempt (wpAny_holding ?_)))
  unfold callGetattribute
  rw [show (false && onTheHeap (Value.builtin "BaseException.__getattribute__")) = false from rfl, if_neg Bool.false_ne_true]
  unfold boundAndCalled
  rw [PySem.F.excAttr_ValueError.ga.bind (.ref x)]
  refine wpAny_bind (wpAny_pure ?_)
  show wpAny _ _ (call (.builtin "BaseException.__getattribute__") [.ref x, .str "__class__" t]) _ _ _
  refine wpAny_call (codeAny_call_builtin PySem.F.excAttr_ValueError.ga.plain PySem.F.entry_bexc_ga ?_)
  refine @check_slot (model prog w) _ _ ⟨hp, g, d, t + 1, os⟩ "BaseException.__getattribute__" "BaseException" "__getattribute__" (.ref x) [.str "__class__" t] [] _ (by decide +kernel) (by decide +kernel) sub (PySem.F.args_bexc_ga (.ref x) (.str "__class__" t)) ?_
  unfold Builtin.«object.__getattribute__»
  refine wpAny_bind (wpAny_of_eq (a := ((Value.ref x : Value), [Value.str "__class__" t])) (by first | rfl | (simp only [slotArgs]; rfl)) ?_)
  refine wpAny_bind (wpAny_pure (wpAny_bind (ty.at (wpAny_bind (l3.at ?_)))))
  show wpAny _ _ (holding [Value.builtin "object.__class__"] (call (.builtin "getset_descriptor.__get__") [.builtin "object.__class__", .ref x, .ref D]) >>= ret) _ _ _
  refine wpAny_bind (wpAny_holding (wpAny_call (class_get (s := ⟨hp, g, d, t + 1, os⟩) (ox := ox) (od := od) X I C.hm (wpAny_pure ?_))))
  show wpAny _ _ (handedOut (.ref D)) _ _ _
  rw [handedOut_of (v := .ref D) rfl]
  first
    | exact wpAny_pure (wpAny_pure h)
    | exact wpAny_pure h
    | exact wpAny_pure (wpAny_bind (wpAny_pure (wpAny_pure h)))
theorem kitx_excD (C : ExcC K D) : KitX K (.ref x) (.ref D) (fun h => InstAt h x ox D od) where
  ty := fun _ _ _ I => I.type
  it := fun M h X _ => by
    obtain ⟨cdD, hcD, _⟩ := any_some C.hd
    unfold clsIn at hcD
    split at hcD
    · rename_i ho
      intro A' Q' E' s' k q
      unfold isType loadHead
      exact wpAny_bind (wpAny_loadPart (k _ _ (X _ _ ho)) (wpAny_pure q))
    · cases hcD
  ne := fun h tp dd its n sl X htp => (handS_kitx_exc (x := x) (ox := ox) C.hg C.hk C.hs C.hd C.ha C.hn C.ht C.hm).ne h tp dd its n sl X htp
  ca := fun X I k => exc_class C X I k
end
/-- isinstance(e, C'), e a pinned exception -/
def rIsX (K : PySem.W.Frag) (C a dx : Addr) : List V → Hp → VK → Prop := fun xs H Q => ∃ (c : V) (cv : Value) (b : Bool) (fs : List (Str × V)), xs = [.ref a, c] ∧ ClsV c cv ∧ PySem.W.kitOne K (.ref C) cv = some b ∧ H dx = some (.xd fs) ∧ Q (.bl b) H
theorem inst_exc {Y : Cx} {pins : List (Addr × Obj)} {σ : L2.St} {H : Hp} {s : Shared} {p : Addr × Obj} {C dx : Addr} {fs : List (Str × V)} (I : Inv Y pins σ H s) (hp : p ∈ Y.pn) (hc : p.2.cls = .ref C) (hd : p.2.dict = some dx) (hf : ∃ vs, p.2.data = .fields vs) (hx : H dx = some (.xd fs)) :
    ∃ od, PySem.W.InstAt s.heap p.1 p.2 C (some od) ∧ s.heap.get? dx = some od := by
  have g := (I.pin p (List.mem_append_left _ hp)).1
  obtain ⟨mA, ⟨o, es, ep, ho, hr⟩, rel⟩ := (show ObjOk Y.prog Y.w H s.heap dx (.xd fs) from I.hok dx _ hx)
  obtain ⟨vs, hv⟩ := hf
  obtain ⟨a, ⟨oc, od, oda, osl⟩⟩ := p
  dsimp only at hc hd hv g
  subst hc hd hv
  exact ⟨o, ⟨g, rfl, rfl, ho⟩, ho⟩
theorem call_isX {Y : Cx} {p : Addr × Obj} {C dx : Addr} (EC : ExcC Y.K C) (hp : p ∈ Y.pn) (hc : p.2.cls = .ref C) (hd : p.2.dict = some dx) (hf : ∃ vs, p.2.data = .fields vs) : CallR Y (.builtin "isinstance") (rIsX Y.K C p.1 dx) := by
  intro pins s σ H xs us Q I r h
  obtain ⟨c, cv, b, fs, rfl, k, e, hx, q⟩ := h
  obtain ⟨u1, u2, rfl, r1, r2⟩ := vals2 r
  cases (show u1 = Value.ref p.1 from r1)
  have e2 := k.eq r2
  subst e2
  obtain ⟨od, J, _⟩ := inst_exc I hp hc hd hf hx
  exact PySem.W.kia_one (kitx_excD EC) I.kIn J e (fun z => nomatch z) fun tk => ⟨.bl b, H, I.kept (t' := tk) fun _ _ z => z, rfl, q⟩
/-- the slot holds this exception: the answer is b -/
def mIsX (i : Nat) (a dx : Addr) (b : Bool) : M D := fun ρ => match ρ[i]? with
  | some (.exn a' dx' _ _) => if a' = a ∧ dx' = dx then .ok (.bl b) ρ else .no
  | _ => .no
theorem de_isX {T : Gh} {X : Cx} {p : Addr × Obj} {C C' dx : Addr} {b : Bool} (i : Nat) {x c : Str} {p1 p2 p3 pos : Pos} (EC : ExcC X.K C) (hp : p ∈ X.pn) (hc : p.2.cls = .ref C) (hd : p.2.dict = some dx) (hf : ∃ vs, p.2.data = .fields vs)
    (hg : Gl X "isinstance") (hm : X.mg "isinstance" = none) (hg2 : Gl X c) (hm2 : X.mg c = some (.ref C')) (hk : PySem.W.kitOne X.K (.ref C) (.ref C') = some b)
    (hN : X.N[i]? = some x) (hv : Vis X.env.scope x) (hdx : (x == ("__debug__" : Str)) = false := by decide) (hcd : (x == ("__classdict__" : Str)) = false := by decide) (hdc : (c == ("__debug__" : Str)) = false := by decide)
    (he : starEach [.Name x p1, .Name c p2] X.env = (false, eval (.Name x p1) X.env) :: starEach [.Name c p2] X.env := by rfl) (he2 : starEach [.Name c p2] X.env = (false, eval (.Name c p2) X.env) :: starEach [] X.env := by rfl) (hpl : (backTo pos (starEach [.Name c p2] X.env)).any (·.1) = false := by rfl) :
    DE T X (.Call (.Name "isinstance" p3) [.Name x p1, .Name c p2] [] pos) (mIsX i p.1 dx b) := fun W tk =>
  PE.imp (pe_callB (call_isX EC hp hc hd hf) hg hm (by decide +kernel) (pa_cons (pe_var hN hv hdx hcd) (pa_cons (pe_glob (v := .ref C') hg2 hm2 rfl hdc) pa_nil he2) he) (by decide) (by decide) he hpl) fun σ H Q q => by
    obtain ⟨ρ, A, rl, pp⟩ := q
    unfold mIsX at pp
    split at pp
    · rename_i a' dx' c' w' e0
      split at pp
      · rename_i hcond
        obtain ⟨rfl, rfl⟩ := hcond
        obtain ⟨v, A1, e1, e2, e3⟩ := rl.as.get e0
        cases e2 with
        | exn h1 h2 h3 h4 => exact ⟨_, e1, .ref C', .ref C', b, _, rfl, .own C', hk, h1, pp.fin Step.refl rl Ext.refl (.bl b)⟩
      · exact pp.elim
    · exact pp.elim
end ME
namespace ME
open PySem PySem.Spec PyProof.Rows L2 LamX
/-! ### calls while an exception is handled -/
/-- the promise of a def, called while p's exception is handled -/
def RunH (P : Program) (w : World) (K : PySem.W.Frag) (mg : Str → Option Value) (base : Heap) (k : Nat) (f : Addr) (fd : FuncData) (ps : List Str) (p : Addr × Obj) (sp : Sp) : Prop :=
  ∀ (A : Around) (outer : List PySem.Env) (s : Shared) (H : Hp) (args : Args) (us : List Value) (vs : List V) (Q : VK) (E : XK), L2H.RoomH k A → L2H.Hot1 A p → L2H.PinOk outer H s p → Env0 P w K mg base A outer s H → BindsTo s fd args (ps.zip us) → Vals vs us → sp vs H Q E →
    codeAny (model P w) A (.call (.ref f) args) (CR (L2N.CX P w) outer P w H s Q E) s
section
variable {P : Program} {w : World} {K : PySem.W.Frag} {mg : Str → Option Value} {base : Heap} {tab : List (Addr × Str)}
theorem fnH_ok {x qual : Str} {st : Stmt} {f : Addr} {fd : FuncData} {N ps : List Str} {k n : Nat} {m : MS} {p : Addr × Obj} (F : L2.Fun K x qual st f fd) (S : FnScope N ps (defScope st)) (hn : ps.length = n := by rfl)
    (hbody : ∀ (T : Gh) (cdv : Value) (A : Around) (outer : List PySem.Env) (s : Shared) (H : Hp) (E : XK), T.tab = tab → L2H.Hot1 A p → L2H.RoomH k (A.deeper (envOfC qual (defScope st) s.heap.objs.size f cdv)) →
      DSs T (L2H.cxH (L2N.CX P w) P w K mg base N qual (defScope st) f cdv A outer s H E p) (defBody st) m) : RunH P w K mg base (k + 1) f fd ps p (spF K mg tab n (fnOf N.length m)) := by
  intro A outer s H args us vs Q E hr hot hpin e0 hb r hsp
  obtain ⟨hl0, ss, B, hs, nd, ht, ok, fp⟩ := hsp
  have hl : vs.length = ps.length := hl0.trans hn.symm
  obtain ⟨oc, od, kV, doc, pm, an, cdv, ct, osl, rfl, lk, hcd⟩ := F.ex
  have kx : K.In s.heap := e0.mod.kin.keeps fun b o e => (e0.bs b o e).1
  have lim : s.heap.NoLimit := e0.mod.nolimit.keeps fun b o e => (e0.bs b o e).1
  have hkind : ∀ y ∈ ps.zip us, (defScope st).names.lookup y.1 = some .local ∨ ((defScope st).names.lookup y.1 = some .cell ∧ ((cellsFrom (s.heap.objs.size + 1) (defScope st).names []).lookup y.1).isSome = true) := fun y hy =>
    (S.par y.1 (List.of_mem_zip hy).1).imp id fun q => ⟨q, PySem.W.cellsFrom_some _ _ _ (.inl q)⟩
  refine codeAny_call_function hr.depth (kx _ _ lk) rfl S.co S.gen rfl (PySem.W.codeRec_of kx hcd) (hb _ _ _ _ (wpAny_newFunctionEnv_cells S.kind hkind fun env he s1 x => ?_))
  subst he
  refine ⟨lim.keeps x.toInCall.keep, codeAny_func ?_⟩
  have ht' := hbody ⟨tab, lentAt 0 (vs.map some) ss⟩ cdv A outer s H E rfl hot (hr.deeper _) _ (L2N.takes_of rfl rfl rfl rfl)
  have hq : tS K mg ⟨tab, lentAt 0 (vs.map some) ss⟩ m (fun c d _ H => E c d H) { nx := fun _ H' => Q .non H', rt := Q } (L2.start N vs) H := body_post rfl (fun _ _ _ _ h => h) hs nd ht ok fp
  have I := L2H.inv_startH (CX := L2N.CX P w) (E := E) S hpin e0 hl r x
  refine wpAny_mono (ht'.run [] s1 (L2.start N vs) H _ I hq) (fun fl s' hs => ?_) fun e s' hs => hs
  cases fl with
  | ret u => obtain ⟨v, σ', H', J, rv, q⟩ := hs; exact ⟨v, H', J.os, J.bare, J.base, J.hok, rv, q⟩
  | next => obtain ⟨σ', H', J, q⟩ := hs; exact ⟨.non, H', J.os, J.bare, J.base, J.hok, rfl, q⟩
  | brk => obtain ⟨_, _, _, z⟩ := hs; exact z.elim
  | cont => obtain ⟨_, _, _, z⟩ := hs; exact z.elim
end
section
variable {T : Gh} {X : Cx} {e : Expr} {es : List Expr} {n : Nat}
theorem dx_callH {f : Addr} {fd : FuncData} {ps : List Str} {x : Str} {k : Nat} {F : FM} {g : M (List Ag)} {p : Addr × Obj} {p1 pos : Pos} (Fo : RunH X.prog X.w X.K X.mg X.base k f fd ps p (spF X.K X.mg T.tab (n + 1) F)) (hps : ps.length = n + 1) (hr : L2H.RoomH k X.A) (hot : L2H.Hot1 X.A p) (hp : p ∈ X.pn) (hg : Gl X x) (hm : X.mg x = some (.ref f)) (hk : PySem.W.keepIn X.K (.ref f) = true) (hb : Binds X.K fd ps [])
    (ha : DAg T X (e :: es) (n + 1) g) (hdb : (x == ("__debug__" : Str)) = false := by decide) (he : starEach (e :: es) X.env = (false, eval e X.env) :: starEach es X.env := by rfl) (hpl : (backTo pos (starEach es X.env)).any (·.1) = false := by rfl) :
    DX T X (.Call (.Name x p1) (e :: es) [] pos) (mCall F g) := fun W tk => by
  have pe : PE X (.Call (.Name x p1) (e :: es) [] pos) (tCallS (spF X.K X.mg T.tab (n + 1) F) (WE W) (tG X.K X.mg T (fun σ H vs as A => RG X.K X.mg σ H vs as A ∧ vs.length = n + 1) g W)) := by
    refine ⟨fun pins s σ H Q I h => ?_⟩
    refine wpAny_Call_Name_kw (ld_glob I hg hm ?_ hdb)
    refine PySem.W.callWith_K (h₀ := X.base) I.ok.mod.kin hk (thn ((ha W tk).run pos pins s σ H _ I h) fun us s1 ⟨vs, H1, I1, r, q⟩ => ⟨I1.kIn, ?_⟩) he hpl
    have hl : (us ++ []).length = ps.length := by rw [List.append_nil, ← r.length, hps]; exact q.1
    have b := hb s1 us I1.kIn hl
    rw [List.append_nil] at b
    have pp := I1.pin p (List.mem_append_left _ hp)
    have hpin : L2H.PinOk X.stack H1 s1 p := ⟨pp.1, pp.2.1, fun z => (List.mem_cons.mp (I1.stkSub p.1 z)).elim pp.2.2.1 pp.2.2.2.1, pp.2.2.2.2⟩
    refine wpAny_call (codeAny_mono (Fo X.A X.stack s1 H1 ⟨us, []⟩ us vs Q (WE W σ) hr hot hpin I1.env0 b r q) fun rr s' hq => ?_)
    cases rr with
    | error e => exact L2N.passAt tk σ pins H1 s1 e s' I1 hq
    | ok fl =>
      cases fl with
      | ret u => exact I1.after hq
      | next => exact False.elim hq
      | brk => exact False.elim hq
      | cont => exact False.elim hq
  refine PE.imp pe fun σ H Q q => ?_
  obtain ⟨ρ, A, rl, pp⟩ := q
  refine ⟨ρ, A, rl, pp.seq fun vs as ρ1 H1 A1 A' st r1 rd nd p2 => ?_⟩
  obtain ⟨⟨rfl, ok⟩, ln⟩ := rd
  exact run_spF (by simpa using st) r1 ok ln p2
theorem dx_lc_hot {elt tg iter : Expr} {ifs : List Expr} {scope : Scope} {own : List (Str × Nat)} {pos : Pos} {f : M D} {t : TG} {is : List Nat} {g : D → Env → Option Env} {ft : M Bool} {fe : M D} {p : Addr × Obj} (hp : p ∈ X.pn) (hot : L2H.Hot1 X.A p) (hN : X.N.Nodup) (hi : DE T X iter f) (ok : BlkOk X.N X.env.scope scope own)
    (hg : ∀ (s : Shared) (H : Hp) (C : Addr) (cl : List (Str × Addr)) (fp : List Addr), DG T (X.blk s H scope (compEnvC scope cl C X.env) fp) tg t is g) (ht : ∀ (s : Shared) (H : Hp) (C : Addr) (cl : List (Str × Addr)) (fp : List Addr), DTs T (X.blk s H scope (compEnvC scope cl C X.env) fp) ifs ft)
    (he : ∀ (s : Shared) (H : Hp) (C : Addr) (cl : List (Str × Addr)) (fp : List Addr), DE T (X.blk s H scope (compEnvC scope cl C X.env) fp) elt fe) (his : ∀ i ∈ is, i ∈ own.map (·.2) := by decide) (hs : ∀ x, foldedSetIterable iter X.env x = pure x := by intro _; rfl) :
    DX T X (.ListComp elt [⟨tg, iter, ifs, 0⟩] scope pos) (mComp (own.map (·.2)) (mItL f) g ft fe) := fun W tk => by
  refine PE.imp (pe_lc_hot (tt := tG X.K X.mg T RT ft fun _ _ _ _ => False) (te := tG X.K X.mg T (RD X.K X.mg) fe fun _ _ _ _ => False) hp hot hN (hi W tk) ok (fun s H C cl fp => (hg s H C cl fp).1) (fun s H C cl fp => ht s H C cl fp _ takesN0) (fun s H C cl fp => he s H C cl fp _ takesN0) hs) fun σ H Q q => ?_
  exact itL_imp (lc_imp (hg X.s_0 X.H_0 0 [] []).2 his q)
/-- the arguments of a call: an exception goes on -/
theorem da1_exn (i : Nat) {x : Str} {pos : Pos} (hN : X.N[i]? = some x := by rfl) (hv : Vis X.env.scope x := by first | exact Or.inl rfl | exact Or.inr (Or.inl rfl) | exact Or.inr (Or.inr rfl)) (hd : (x == ("__debug__" : Str)) = false := by decide)
    (hcd : (x == ("__classdict__" : Str)) = false := by decide) : DA1 T X (.Name x pos) (fun ρ => match ρ[i]? with
      | some (.exn a dx c w) => .ok (.dat (.exn a dx c w)) ρ
      | _ => .no) := fun W _ => PE.imp (pe_var hN hv hd hcd) fun σ H Q q => by
  obtain ⟨ρ, A, rl, p⟩ := q
  dsimp only at p
  split at p
  · rename_i a dx c w e
    obtain ⟨v, A1, e1, e2, e3⟩ := rl.as.get e
    cases e2 with
    | exn h1 h2 h3 h4 => exact ⟨_, e1, p _ H [] A Step.refl rl ⟨rfl, .dat (.exn h1 h2 h3 h4) rfl .nil⟩ (by simpa using rl.nd)⟩
  · exact p.elim
/-- e.what in the suite -/
def mWhat (i : Nat) (a dx : Addr) : M D := fun ρ => match ρ[i]? with
  | some (.exn a' dx' _ w) => if a' = a ∧ dx' = dx then .ok w ρ else .no
  | _ => .no
theorem de_what (i : Nat) {a dx C : Addr} {oe : Obj} {pn : List (Addr × Obj)} {x : Str} {p1 pos : Pos} (F : XfC X.K C) (hno : PySem.W.findIn X.K (.ref C) "what" = some none) (hz : oe.cls = .ref C ∧ oe.dict = some dx) (hf : ∃ vs, oe.data = .fields vs)
    (hN : X.N[i]? = some x := by rfl) (hv : Vis X.env.scope x := by first | exact Or.inl rfl | exact Or.inr (Or.inl rfl) | exact Or.inr (Or.inr rfl)) (hd : (x == ("__debug__" : Str)) = false := by decide) (hcd : (x == ("__classdict__" : Str)) = false := by decide)
    (hb : attributeBase (.Name x p1) "what" X.env (eval (.Name x p1) X.env) = eval (.Name x p1) X.env := by rfl) :
    DE T (X.suite a ((a, oe) :: pn)) (.Attribute (.Name x p1) "what" pos) (mWhat i a dx) := fun W tk =>
  PE.imp (pe_xf (cls := .ref C) (d := some dx) F hno hz hf (pe_var (X := X.suite a ((a, oe) :: pn)) hN hv hd hcd) hb) fun σ H Q q => by
    obtain ⟨ρ, A, rl, p⟩ := q
    unfold mWhat at p
    split at p
    · rename_i a' dx' c w e
      split at p
      · rename_i hc
        obtain ⟨rfl, rfl⟩ := hc
        obtain ⟨v, A1, e1, e2, e3⟩ := rl.as.get e
        cases e2 with
        | exn h1 h2 h3 h4 => exact ⟨_, e1, rfl, rfl, dx', _, _, rfl, h1, h2, p.fin Step.refl rl Ext.refl h3⟩
      · exact p.elim
    · exact p.elim
end
end ME
namespace ME
open PySem PySem.Spec PyProof.Rows L2 LamX
/-! ### a lambda, called -/
/-- the context of its body: what it lets out lies as L2N.CX says -/
def lamN (X : Cx) (A : Around) (outer : List PySem.Env) (s : Shared) (H : Hp) (E : XK) (scope : Scope) (f c' : Addr) : Cx :=
  (lamCx X A outer s H E scope f c').wish fun e s' => wpAny (model X.prog X.w) (A.deeper (lamEnv X scope s.heap.objs.size f c')) (leaving (lamEnv X scope s.heap.objs.size f c') e) (fun _ s'' => L2N.CX X.prog X.w outer H s E e s'') (fun e' s'' => L2N.CX X.prog X.w outer H s E e' s'') s'
/-- what may be done with the lambda at f: it is called at a later state, from anywhere -/
def Act (P : Program) (w : World) (K : PySem.W.Frag) (mg : Str → Option Value) (base : Heap) (k : Nat) (fs : List Addr) (H0 : Hp) (h0 : Heap) (f c' : Addr) (q : Str) (tl : XK → Hp → VK → Prop) : Prop :=
  ∀ (A : Around) (outer : List PySem.Env) (s : Shared) (H : Hp) (Q : VK) (E : XK), Room k A → Env0 P w K mg base A outer s H → Un fs [] H0 H h0 s.heap → H c' = some (CodeO c' q) → tl E H Q →
    codeAny (model P w) A (.call (.ref f) ⟨[], []⟩) (CR (L2N.CX P w) outer P w H s Q E) s
section
variable {X : Cx} {pins : List (Addr × Obj)} {σ : L2.St} {H : Hp} {s : Shared}
theorem lam_act {params : Arguments} {body : Expr} {scope : Scope} {f c' : Addr} {pm ctv : Value} {k : Nat} {tb : XK → TE} (I : Inv X ((f, PySem.W.kla_obj "<lambda>" (X.env.qual ++ "<lambda>") params body scope (cloFrom X.env.cells scope.names []) pm c' ctv) :: pins) σ H s) (hfr : f ∉ frs X.stack) (L : LamS X.env.scope scope)
    (hbind : bindArgs (PySem.W.kla_fn "<lambda>" (X.env.qual ++ "<lambda>") params body scope (cloFrom X.env.cells scope.names []) pm (.ref c') ctv) ⟨[], []⟩ = pure [])
    (hbody : ∀ (A : Around) (outer : List PySem.Env) (s : Shared) (H : Hp) (E : XK), Room k (A.deeper (lamEnv X scope s.heap.objs.size f c')) → PE (lamN X A outer s H E scope f c') body (tb E)) :
    Act X.prog X.w X.K X.mg X.base (k + 1) (frs X.stack) H s.heap f c' (X.env.qual ++ "<lambda>") fun E H' Q' => tb E σ H' Q' := by
  intro A outer s1 HZ Q E hr e0 un hc ht
  have pf := I.pin _ (List.mem_append_right _ List.mem_cons_self)
  have of1 : s1.heap.get? f = some (PySem.W.kla_obj "<lambda>" (X.env.qual ++ "<lambda>") params body scope (cloFrom X.env.cells scope.names []) pm c' ctv) := un.keep f _ pf.1 pf.2.1 hfr (by simp)
  obtain ⟨⟨oc, vs, t, hoc, hdc, hvc⟩, _, _⟩ := e0.hok c' _ hc
  have lim : s1.heap.NoLimit := e0.mod.nolimit.keeps fun b o e => (e0.bs b o e).1
  refine PySem.W.kla_callFunE hr.depth of1 rfl L.co L.gen rfl ⟨c', oc, vs, t, rfl, hoc, hdc, hvc⟩ ?_
  rw [hbind]
  refine wpAny_pure (wpAny_newFunctionEnv (fun y hy => (L.own y hy).2) (fun y hy => absurd hy (by simp)) (fun h₁ hns hsb => ⟨lim.fresh _ hsb, ?_⟩) L.kind)
  show codeAny _ _ (.expr body (lamEnv X scope s1.heap.objs.size f c')) _ _
  have kp : ∀ b o, s1.heap.get? b = some o → h₁.get? b = some o := fun b o e => hsb.extBut b o (Nat.ne_of_lt (Heap.lt_size e)) (Heap.get?_push_of_some _ e)
  have J := (lam_start2 (E := E) (f := f) (c' := c') (tk := s1.toks + ([] : List (Str × Value)).length) I L e0 hr.hd un hns kp).wish fun e s' => wpAny (model X.prog X.w) (A.deeper (lamEnv X scope s1.heap.objs.size f c')) (leaving (lamEnv X scope s1.heap.objs.size f c') e) (fun _ s'' => L2N.CX X.prog X.w outer HZ s1 E e s'') (fun e' s'' => L2N.CX X.prog X.w outer HZ s1 E e' s'') s'
  refine PySem.W.kla_codeExpr (wpAny_mono ((hbody A outer s1 HZ E (hr.deeper _)).run [] _ _ HZ Q J ht) (fun v s' hq => ?_) fun e s' hq => hq)
  obtain ⟨w', H', J', rv, q⟩ := hq
  exact ⟨w', H', J'.os, J'.bare, J'.base, J'.hok, rv, q⟩
/-- the body's exceptions -/
theorem takes_lam {A : Around} {outer : List PySem.Env} {E : XK} {scope : Scope} {f c' : Addr} : L2N.Takes (lamN X A outer s H E scope f c') (fun cls d _ H => E cls d H) := L2N.takes_of rfl rfl rfl rfl
/-- from an earlier state -/
theorem Act.later {P : Program} {w : World} {K : PySem.W.Frag} {mg : Str → Option Value} {base : Heap} {k : Nat} {fs fs' : List Addr} {H0 H1 : Hp} {h0 h1 : Heap} {f c' : Addr} {q : Str} {tl : XK → Hp → VK → Prop} (a : Act P w K mg base k fs H0 h0 f c' q tl) (un : Un fs [] H0 H1 h0 h1)
    (hfs : ∀ b o, h0.get? b = some o → b ∈ fs' → b ∈ fs) : Act P w K mg base k fs' H1 h1 f c' q tl := by
  intro A outer s H Q E hr e0 un2 hc ht
  refine a A outer s H Q E hr e0 ⟨fun b o e n hb hx => ?_, fun b o e n hb hx => ?_, fun b o e n hx => ?_, fun b o e hx => ?_, fun b xs e => un2.tups b xs (un.tups b xs e), fun b o u e => un2.frzs b o u (un.frzs b o u e), fun b ps e => ?_⟩ hc ht
  · exact un2.keep b o (un.keep b o e n hb hx) (un.free b o e n hx) (fun z => hb (hfs b o e z)) hx
  · obtain ⟨sl, e1⟩ := un.slot b o e n hb hx
    by_cases hb' : b ∈ fs'
    · obtain ⟨sl', e2⟩ := un2.slot b _ e1 (un.free b o e n hx) hb' hx
      exact ⟨sl', e2⟩
    · exact ⟨sl, un2.keep b _ e1 (un.free b o e n hx) hb' hx⟩
  · obtain ⟨o', e1⟩ := un.there b o e hx
    exact un2.free b o' e1 (un.free b o e n hx) hx
  · obtain ⟨o', e1⟩ := un.there b o e hx
    exact un2.there b o' e1 hx
  · obtain ⟨m1, e1⟩ := un.tbls b ps e
    obtain ⟨m2, e2⟩ := un2.tbls b _ e1
    exact ⟨m1 ++ m2, by rw [e2, Array.append_assoc]⟩
end
end ME
namespace ME
open PySem PySem.Spec PyProof.Rows L2 LamX
/-! ### a def that hears what it got: its result, or the class and what of the own exception -/
/-- f's record stands -/
def FRec (outer : List PySem.Env) (H : Hp) (h : Heap) (f : Addr) : Prop := (∃ (oc : Value) (od : Option Addr) (fd : FuncData) (osl : Array (Option Value)), h.get? f = some ⟨oc, od, .func fd, osl⟩) ∧ H f = none ∧ f ∉ frs outer
section
variable (K : PySem.W.Frag) (mg : Str → Option Value) (tab : List (Addr × Str)) (Known : Str → Addr → Prop)
/-- what is wished of an exception that is heard -/
def EHeard (Q : VK) : XK := fun cls d H => ∃ C dx c w, cls = .ref C ∧ d = some dx ∧ Known c C ∧ ExR K mg H dx c w ∧ Tabs tab H ∧ ∀ v H3, Step [] H [] H3 → Tabs tab H3 → Dz K mg H3 v (.tup [.str c, w]) → Q v H3
def THeard (tl : XK → Hp → VK → Prop) (H : Hp) (Q : VK) : Prop := tl (EHeard K mg tab Known Q) H fun v H1 => ([V.str "told", v] : List V).length ≤ sizeLine ∧ ∀ p, H1 p = none → Q (.ref p) (upd H1 p (.tup [.str "told", v]))
end
/-- the promise of _law_heard -/
def HeardP (P : Program) (w : World) (K : PySem.W.Frag) (mg : Str → Option Value) (base : Heap) (tab : List (Addr × Str)) (Known : Str → Addr → Prop) (k : Nat) (g : Addr) : Prop :=
  ∀ (A : Around) (outer : List PySem.Env) (s : Shared) (H : Hp) (f c' : Addr) (q : Str) (Q : VK) (E : XK) (tl : XK → Hp → VK → Prop), Room (k + 1) A → Env0 P w K mg base A outer s H → FRec outer H s.heap f → Act P w K mg base k (frs outer) H s.heap f c' q tl → H c' = some (CodeO c' q) → THeard K mg tab Known tl H Q →
    codeAny (model P w) A (.call (.ref g) ⟨[.ref f], []⟩) (CR CXn outer P w H s Q E) s
abbrev hN : List Str := ["deed", "refused_one", "line"]
section
variable {P : Program} {w : World} {K : PySem.W.Frag} {mg : Str → Option Value} {base : Heap} {tab : List (Addr × Str)} {Known : Str → Addr → Prop}
theorem heard_ok {st : Stmt} {g R : Addr} {fd : FuncData} {k : Nat} {b0 : Stmt} {suite : List Stmt} {q1 q2 q3 q4 q5 q6 q7 q8 : Pos} {hSuite : Addr → Addr → Str → MS} (F : L2.Fun K "_law_heard" "_law_heard" st g fd) (S : FnScope hN ["deed"] (defScope st)) (hb : Binds K fd ["deed"] [])
    (hbd : defBody st = [.Try [.Return (some (.Tuple [.Constant (.str "told") 0 q1, .Call (.Name "deed" q2) [] [] q3] 0 q4)) q5] [.ExceptHandler (some (.Name "Refused" q6)) (some "refused_one") (b0 :: suite) q7] [] [] q8])
    (gR : mg "Refused" = some (.ref R)) (sR : (defScope st).names.lookup ("Refused" : Str) = some NameKind.globalImplicit) (sx : (defScope st).names.lookup ("refused_one" : Str) = some NameKind.local) (sd : Vis (defScope st) "deed")
    (hk : ∀ c C, Known c C → PySem.W.exmOne K (.ref C) (.ref R) = some true)
    (hsuite : ∀ a dx c C w, Known c C → hSuite a dx c [.no, .exn a dx c w, .no] = .rt (.fz (.tup [.str c, w])) [.no, .exn a dx c w, .no])
    (hds : ∀ (a dx C : Addr) (c : Str) (oe : Obj) (pn : List (Addr × Obj)) (cdv : Value) (A : Around) (outer : List PySem.Env) (s : Shared) (H : Hp) (E : XK), Known c C → Room k (A.deeper (envOfC "_law_heard" (defScope st) s.heap.objs.size g cdv)) → L2N.Zn (.ref C) (some dx) oe → (∃ vs, oe.data = .fields vs) →
      DSs ⟨tab, []⟩ ((cxOf CXn P w K mg base hN "_law_heard" (defScope st) g cdv A outer s H E).suite a ((a, oe) :: pn)) (b0 :: suite) (hSuite a dx c)) : HeardP P w K mg base tab Known k g := by
  intro A outer s H f c' q Q E tl hr e0 hf act hc ht
  obtain ⟨oc, od, kV, doc, pm, an, cdv, ct, osl, rfl, lk, hcd⟩ := F.ex
  have kx : K.In s.heap := e0.mod.kin.keeps fun b o e => (e0.bs b o e).1
  refine LamX.run_ofS (CX := CXn) (N := hN) (us := [.ref f]) (vs := [.ref f]) lk hcd S hr e0 (hb s [.ref f] kx rfl) (.cons rfl .nil) rfl fun hr' => ?_
  rw [hbd]
  let tbH : WX → TS := fun W D σ H => ∃ Ech : XK, (∀ cls d σ' H', Ech cls d H' → W cls d σ' H') ∧ σ[0]? = some (some (.ref f)) ∧ H c' = some (CodeO c' q) ∧ tl Ech H fun v H1 => ([V.str "told", v] : List V).length ≤ sizeLine ∧ ∀ p, H1 p = none → D.rt (.ref p) (upd H1 p (.tup [.str "told", v]))
  let tsH : Addr → Value → Option Addr → TS := fun a cls d D σ H => ∃ C dx c w σ0, cls = .ref C ∧ d = some dx ∧ Known c C ∧ ExR K mg H dx c w ∧ Tabs tab H ∧ σ = List.set σ0 1 (some (V.ref a)) ∧ ∀ v H3, Step [] H [] H3 → Tabs tab H3 → Dz K mg H3 v (.tup [.str c, w]) → D.rt v H3
  refine ⟨_, pss_one (L2N.ps_try_as (X := cxOf CXn P w K mg base hN "_law_heard" (defScope st) g cdv A outer s H E) (i := 1) (c := .ref R) (tb := tbH) (ts := tsH) rfl rfl S.nd rfl sx ⟨sR, by decide, .inl gR⟩ takesN0 (fun W pn xe tk _ => ?_) (fun a oe cls d pn hz hdat => ?_)), ?_⟩
  · refine ⟨fun pins s' σ H' D I ⟨Ech, hW, h1, h2, h3⟩ => ?_⟩
    have pa : PE ((cxOf CXn P w K mg base hN "_law_heard" (defScope st) g cdv A outer s H E).tr pn xe) (.Call (.Name "deed" q2) [] [] q3) (fun σZ HZ Q => σZ[0]? = some (some (.ref f)) ∧ HZ c' = some (CodeO c' q) ∧ tl Ech HZ Q) := by
      refine ⟨fun pinsZ sZ σZ HZ QZ IZ ⟨z1, z2, z3⟩ => ?_⟩
      refine wpAny_Call_Name_kw (thn ((pe_var (pos := q2) (i := 0) rfl sd (by decide) (by decide)).run pinsZ sZ σZ HZ (fun v H1 => v = .ref f ∧ H1 = HZ) IZ ⟨.ref f, z1, rfl, rfl⟩) fun u s1 ⟨v, H1, I1, r1, ev, eH⟩ => ?_)
      subst ev
      rw [eH] at I1
      obtain rfl : u = Value.ref f := r1
      obtain ⟨⟨oc', od', fd', osl', of0⟩, hfn, hfr⟩ := hf
      have of1 : s1.heap.get? f = some ⟨oc', od', .func fd', osl'⟩ := I1.base.keep f _ of0 hfn hfr (fun z => nomatch (show f ∈ ([] : List Addr) from z))
      refine PySem.W.callWith_F0 ⟨_, _, _, _, of1⟩ ?_
      refine wpAny_call (codeAny_mono (act _ _ s1 HZ QZ Ech (hr'.mono (Nat.le_refl _)) I1.env0 I1.base z2 z3) fun r s2 hq => ?_)
      cases r with
      | error e => exact L2N.passes_call tk hW pinsZ σZ HZ s1 e s2 I1 hq
      | ok fl =>
        cases fl with
        | ret u => exact I1.after hq
        | next => exact False.elim hq
        | brk => exact False.elim hq
        | cont => exact False.elim hq
    exact (pss_one (ps_ret (pos := q5) (pe_tup (x1 := 0) (pos := q4) (pa_cons pe_str (pa_cons pa pa_nil))))).run pins s' σ H' D I ⟨h1, h2, h3⟩
  · refine ⟨fun pins s5 σ5 H5 D I ⟨C, dx, c, w, σ0, ec, ed, kn, ex, tb, eσ, wish⟩ => ?_⟩
    subst ec; subst ed
    refine (hds a dx C c oe pn _ A outer s H E kn (hr'.mono (Nat.le_refl _)) hz hdat _ takesN0).run pins s5 σ5 H5 D I ?_
    have len : σ5.length = 3 := I.len
    have e1 : σ5[1]? = some (some (V.ref a)) := by
      rw [eσ] at len ⊢
      rw [List.length_set] at len
      exact List.getElem?_set_self (by omega)
    match σ5, len, e1 with
    | [x, y, z], _, e1 =>
    have ey : y = some (V.ref a) := by simpa using e1
    subst ey
    obtain ⟨fs, v0, x1, x2, x3, x4⟩ := ex
    refine ⟨[.no, .exn a dx c w, .no], [], ⟨.cons (A := []) .no (.cons (A := []) (.exn x1 x2 x3 x4) (.cons (A := []) .no .nil)), List.nodup_nil, tb, fun q hq => by cases hq⟩, ?_⟩
    rw [hsuite a dx c C w kn]
    intro v σ6 H6 A1 A6 st rl sr nd
    cases sr with
    | fz dz =>
      have hA : A6 = [] := by
        obtain ⟨as, _, _, _⟩ := rl
        cases as with
        | cons h l =>
          cases h
          cases l with
          | cons h l =>
            cases h
            cases l with
            | cons h l =>
              cases h
              cases l
              rfl
      subst hA
      exact wish v H6 (by simpa using st) rl.tab dz
  · refine ⟨EHeard K mg tab Known Q, fun cls d σ' H' ⟨C, dx, c, w, e1, e2, kn, ex, tb, wish⟩ => ?_, rfl, hc, ht⟩
    subst e1; subst e2
    exact ⟨true, hk c C kn, fun _ a _ => ⟨C, dx, c, w, σ', rfl, rfl, kn, ex, tb, rfl, wish⟩, fun z => by cases z⟩
end
end ME
namespace ME
open PySem PySem.Spec PyProof.Rows L2 LamX
/-! ### _law_heard(lambda: ..) -/
/-- all but the tables stay -/
theorem Step.extN {A : List Addr} {H H' : Hp} (e : ExtN H H') : Step A H A H' := ⟨fun a o h _ nt => e a o h nt, fun _ h => .inl h, fun a h o q => by
  by_cases t : ∃ ps, o = .tbl ps
  · exact t
  · exact h o (e a o q fun ps z => t ⟨ps, z⟩)⟩
theorem keep_extN {H H' : Hp} (e : ExtN H H') : Keep H H' := ⟨fun a xs h => e a _ h (fun _ z => by cases z), fun a o u h => e a _ h (fun _ z => by cases z), fun a fs h => e a _ h (fun _ z => by cases z)⟩
theorem Rel.extN {K : PySem.W.Frag} {G : Str → Option Value} {T : Gh} {σ : L2.St} {H H' : Hp} {ρ : Env} {A : List Addr} (r : Rel K G T σ H ρ A) (e : ExtN H H') (t : Tabs T.tab H') : Rel K G T σ H' ρ A :=
  ⟨r.as.keep (keep_extN e) fun a z => by obtain ⟨vs, q⟩ := r.as.mut a z; rw [e a _ q (fun _ z => by cases z), q], r.nd, t, r.pro⟩
/-- what a foreign call that owns nothing leaves -/
theorem Rel.far {K : PySem.W.Frag} {G : Str → Option Value} {T : Gh} {σ : L2.St} {H H' : Hp} {ρ : Env} {A : List Addr} (r : Rel K G T σ H ρ A) (s : Step [] H [] H') (t : Tabs T.tab H') : Step A H A H' ∧ Rel K G T σ H' ρ A := by
  have fr : ∀ a o, H a = some o → (∀ ps, o ≠ .tbl ps) → H' a = some o := fun a o e nt => s.fr a o e (by simp) nt
  exact ⟨⟨fun a o e _ nt => fr a o e nt, fun a h => .inl h, s.dom⟩, r.extN (fun b o e nt => fr b o e nt) t⟩
/-- heard: told, or the class and what of an exception among names -/
def mHeard (names : List Str) (fb : M D) : M D := fun ρ => match fb ρ with
  | .ok d ρ' => .ok (.tup [.str "told", d]) ρ'
  | .ex c w ρ' => if c ∈ names then .ok (.tup [.str c, w]) ρ' else .no
  | .no => .no
section
variable {T : Gh} {X : Cx} {Known : Str → Addr → Prop} {names : List Str}
/-- the wish about what is heard -/
theorem heard_wish {fb : M D} {W : WX} {σ : L2.St} {H0 H : Hp} {ρ : Env} {A0 A : List Addr} {Q : VK} (hkn : ∀ c ∈ names, ∀ C, X.mg c = some (.ref C) → Known c C) (hall : ∀ c ∈ names, ∃ C, X.mg c = some (.ref C)) (st : Step A0 H0 A H) (rl : Rel X.K X.mg T σ H ρ A)
    (p : Post X.K X.mg T (RD X.K X.mg) W σ H0 A0 Q (mHeard names fb ρ)) : THeard X.K X.mg T.tab Known (fun E H' Q' => tG X.K X.mg T (RD X.K X.mg) fb (fun cls d _ H => E cls d H) σ H' Q') H Q := by
  refine ⟨ρ, A, rl, ?_⟩
  unfold mHeard at p
  cases e : fb ρ with
  | no => rw [e] at p; exact p.elim
  | ok d ρ' =>
    rw [e] at p
    intro v H1 A1 A' s1 r1 rd nd
    obtain ⟨rfl, dz⟩ := rd
    have s1' : Step A H A' H1 := by simpa using s1
    refine ⟨by show 2 ≤ sizeLine; decide, fun q hq => ?_⟩
    have ex : Ext H1 (upd H1 q (.tup [.str "told", v])) := Ext.upd hq
    exact Post.fin p (st.trans s1') r1 ex (.tup (.inl (.inl upd_same)) (by show 2 ≤ sizeLine; decide) (.cons (.str _) (.cons (dz.keep ex.keep) .nil)))
  | ex c w ρ' =>
    rw [e] at p
    dsimp only at p
    intro C dx H1 A' s1 r1 gc x
    by_cases hc : c ∈ names
    · rw [if_pos hc] at p
      refine ⟨C, dx, c, w, rfl, rfl, hkn c hc C gc, x, r1.tab, fun v H3 s3 t3 dz => ?_⟩
      obtain ⟨f1, f2⟩ := r1.far s3 t3
      exact Post.fin p ((st.trans s1).trans f1) f2 Ext.refl dz
    · rw [if_neg hc] at p; exact p.elim
theorem de_heard {fb : M D} {g c P : Addr} {k : Nat} {params : Arguments} {body : Expr} {scope : Scope} {p lpos pos : Pos} (hkn : ∀ c ∈ names, ∀ C, X.mg c = some (.ref C) → Known c C) (hall : ∀ c ∈ names, ∃ C, X.mg c = some (.ref C))
    (HP : HeardP X.prog X.w X.K X.mg X.base T.tab Known (k + 1) g) (hg : Gl X "_law_heard") (hm : X.mg "_law_heard" = some (.ref g)) (hkp : PySem.W.keepIn X.K (.ref g) = true)
    (TB : TabB X.base X.mg c P) (hcode : X.env.code = .ref c) (hmT : (P, X.env.qual ++ "<lambda>") ∈ T.tab) (hu : ∀ p ∈ T.tab, p.1 = P → p.2 = X.env.qual ++ "<lambda>") (hr : Room (k + 2) X.A) (L : LamS X.env.scope scope) (hdef : defaultsOf params X.env = ([], []))
    (hbind : ∀ (q : Str) (cl : List (Str × Addr)) (pm cv ctv : Value), bindArgs (PySem.W.kla_fn "<lambda>" q params body scope cl pm cv ctv) ⟨[], []⟩ = pure [])
    (hbody : ∀ (A : Around) (outer : List PySem.Env) (s : Shared) (H : Hp) (E : XK) (f c' : Addr), Room k (A.deeper (lamEnv X scope s.heap.objs.size f c')) → DE T (lamN X A outer s H E scope f c') body fb) :
    DE T X (.Call (.Name "_law_heard" p) [.Lambda params body scope lpos] [] pos) (mHeard names fb) := fun W tk => by
  refine ⟨fun pins s σ H Q I ⟨ρ, A, rl, pp⟩ => ?_⟩
  refine wpAny_Call_Name_kw (ld_glob I hg hm ?_ (by decide))
  refine PySem.W.callWith_K (h₀ := X.base) I.ok.mod.kin hkp ?_ (by rfl) (by rfl)
  show wpAny _ _ (spliced ((false, eval (.Lambda params body scope lpos) X.env) :: backTo pos (starEach [] X.env))) _ _ s
  refine Calls.spliced_cons (lam_make2 I TB hcode hmT hu rl.tab hdef (L.has I.ok) fun f c' pm' ctv H1 s' I1 eN T1 hf hfn hfr hco => ?_)
  refine Calls.spliced_nil ⟨I1.kIn, ?_⟩
  have nL : f ≠ X.env.locals := fun z => by
    obtain ⟨m, ⟨o, es, ep, ho, hd, _⟩, _⟩ := I1.loc
    rw [← z, hf] at ho
    cases ho
    cases hd
  have nF : f ∉ X.fs := fun z => by
    rcases I1.ok.stk with e | ⟨e, _⟩
    · exact hfr (by rw [e]; exact z)
    · obtain ⟨en, h1, h2⟩ := List.mem_filterMap.mp z
      exact hfr (by rw [e]; exact List.mem_filterMap.mpr ⟨en, List.mem_cons_of_mem _ h1, h2⟩)
  have I1p : Inv X ((f, PySem.W.kla_obj "<lambda>" (X.env.qual ++ "<lambda>") params body scope (cloFrom X.env.cells scope.names []) pm' c' ctv) :: pins) σ H1 s' := I1.pins_of fun r hr => by
    rcases List.mem_cons.mp hr with rfl | hr
    · exact ⟨hf, hfn, nL, nF, fun v z => by cases z⟩
    · exact I1.pin r (List.mem_append_right _ hr)
  have act := lam_act (tb := fun E => tG X.K X.mg T (RD X.K X.mg) fb fun cls d _ H => E cls d H) I1p hfr L (hbind _ _ _ _ _) fun A outer s H E hr2 => hbody A outer s H E f c' hr2 _ takes_lam
  have wish := heard_wish (Known := Known) hkn hall (Step.extN eN) (rl.extN eN T1) pp
  refine wpAny_call (codeAny_mono (HP X.A X.stack s' H1 f c' _ Q (fun _ _ _ => False) _ hr I1.env0 ⟨⟨_, _, _, _, hf⟩, hfn, hfr⟩ act hco wish) fun r s2 hq => ?_)
  cases r with
  | error e => exact False.elim hq
  | ok fl =>
    cases fl with
    | ret u => exact I1.after hq
    | next => exact False.elim hq
    | brk => exact False.elim hq
    | cont => exact False.elim hq
end
end ME
namespace ME
open PySem PySem.Spec PyProof.Rows L2 LamX
/-! ### a def that hands the lambda on: return same(heard(deed), tuple) -/
abbrev noW : WX := fun _ _ _ _ => False
def WrapP (P : Program) (w : World) (K : PySem.W.Frag) (mg : Str → Option Value) (base : Heap) (tab : List (Addr × Str)) (Known : Str → Addr → Prop) (k n : Nat) (N : List Str) (ft : M D) (Fs : FM) (g : Addr) : Prop :=
  ∀ (A : Around) (outer : List PySem.Env) (s : Shared) (H : Hp) (f c' : Addr) (q : Str) (Q : VK) (E : XK) (tl : XK → Hp → VK → Prop) (us : List Value) (vs : List V), Room (k + 3) A → Env0 P w K mg base A outer s H → FRec outer H s.heap f → Act P w K mg base (k + 1) (frs outer) H s.heap f c' q tl → H c' = some (CodeO c' q) → Vals vs us → vs.length = n →
    THeard K mg tab Known tl H (fun r H1 => tG K mg ⟨tab, []⟩ (RD K mg) ft noW (L2.start N (.ref f :: vs)) H1 fun t H2 => spF K mg tab 2 Fs [r, t] H2 Q fun _ _ _ => False) →
    codeAny (model P w) A (.call (.ref g) ⟨.ref f :: us, []⟩) (CR CXn outer P w H s Q E) s
section
variable {P : Program} {w : World} {K : PySem.W.Frag} {mg : Str → Option Value} {base : Heap} {tab : List (Addr × Str)} {Known : Str → Addr → Prop}
theorem wrap_ok {x : Str} {st : Stmt} {g gh gs : Addr} {fd fds : FuncData} {pss : List Str} {k n : Nat} {N : List Str} {ft : M D} {Fs : FM} {els : List Expr} {k0 : Nat} {q1 q2 q3 q4 q5 q6 q7 : Pos} (F : L2.Fun K x x st g fd) (S : FnScope N N (defScope st)) (hb : Binds K fd N []) (hN : N.length = n + 1) (h0 : N[0]? = some ("deed" : Str))
    (hbd : defBody st = [.Return (some (.Call (.Name "_law_same" q1) [.Call (.Name "_law_heard" q2) [.Name "deed" q3] [] q4, .Tuple els k0 q7] [] q5)) q6])
    (HP : HeardP P w K mg base tab Known (k + 1) gh) (gH : mg "_law_heard" = some (.ref gh)) (kH : PySem.W.keepIn K (.ref gh) = true) (sH : (defScope st).names.lookup ("_law_heard" : Str) = some NameKind.globalImplicit)
    (Fo : FnOk P w K mg base (L2N.CX P w) (k + 2) gs fds pss (spF K mg tab 2 Fs)) (gS : mg "_law_same" = some (.ref gs)) (kS : PySem.W.keepIn K (.ref gs) = true) (sS : (defScope st).names.lookup ("_law_same" : Str) = some NameKind.globalImplicit) (bS : Binds K fds pss [])
    (sd : Vis (defScope st) "deed")
    (he : ∀ (cdv : Value) (A : Around) (outer : List PySem.Env) (s : Shared) (H : Hp) (E : XK), DE ⟨tab, []⟩ (cxOf CXn P w K mg base N x (defScope st) g cdv A outer s H E) (.Tuple els k0 q7) ft) : WrapP P w K mg base tab Known k n N ft Fs g := by
  intro A outer s H f c' q Q E tl us vs hr e0 hf act hc rv hl ht
  obtain ⟨oc, od, kV, doc, pm, an, cdv, ct, osl, rfl, lk, hcd⟩ := F.ex
  have kx : K.In s.heap := e0.mod.kin.keeps fun b o e => (e0.bs b o e).1
  have hul : us.length = n := by rw [← rv.length]; exact hl
  refine LamX.run_ofS (CX := CXn) (N := N) (ps := N) (us := .ref f :: us) (vs := .ref f :: vs) lk hcd S (k := k + 2) hr e0 ?_ (.cons rfl rv) (by rw [List.length_cons, hl, hN]) fun hr' => ?_
  · have := hb s (.ref f :: us) kx (by simp [hul, hN])
    simpa using this
  rw [hbd]
  have pH : PE (cxOf CXn P w K mg base N x (defScope st) g cdv A outer s H E) (.Call (.Name "_law_heard" q2) [.Name "deed" q3] [] q4) (fun σZ HZ QZ => σZ[0]? = some (some (.ref f)) ∧ HZ c' = some (CodeO c' q) ∧ THeard K mg tab Known tl HZ QZ) := by
    refine ⟨fun pins sZ σZ HZ QZ IZ ⟨z1, z2, z3⟩ => ?_⟩
    refine wpAny_Call_Name_kw (ld_glob IZ sH gH ?_ (by decide))
    refine PySem.W.callWith_K (h₀ := base) IZ.ok.mod.kin kH (thn ((pa_cons (pe_var (pos := q3) (i := 0) h0 sd (by decide) (by decide)) pa_nil).run q4 pins sZ σZ HZ (fun ws H1 => ws = [.ref f] ∧ H1 = HZ) IZ ⟨.ref f, z1, rfl, rfl⟩) fun us1 s1 ⟨ws, H1, I1, r1, ew, eH⟩ => ⟨I1.kIn, ?_⟩) rfl rfl
    subst ew
    rw [eH] at I1
    obtain ⟨u1, rfl, ru⟩ := vals1 r1
    cases (show u1 = Value.ref f from ru)
    obtain ⟨⟨oc', od', fd', osl', of0⟩, hfn, hfr⟩ := hf
    have of1 : s1.heap.get? f = some ⟨oc', od', .func fd', osl'⟩ := I1.base.keep f _ of0 hfn hfr (fun z => nomatch (show f ∈ ([] : List Addr) from z))
    have pf : f ≠ (envOfC x (defScope st) s.heap.objs.size g cdv).locals := Nat.ne_of_lt (Heap.lt_size of0)
    have frc : FRec (envOfC x (defScope st) s.heap.objs.size g cdv :: outer) HZ s1.heap f := by
      refine ⟨⟨_, _, _, _, of1⟩, I1.base.free f _ of0 hfn (by intro z; cases z), fun z => ?_⟩
      have z' : f ∈ s.heap.objs.size :: frs outer := z
      rcases List.mem_cons.mp z' with e | e
      · exact pf e
      · exact hfr e
    have act2 := act.later (fs' := frs (envOfC x (defScope st) s.heap.objs.size g cdv :: outer)) I1.base fun b o eb hm => by
      have z' : b ∈ s.heap.objs.size :: frs outer := hm
      rcases List.mem_cons.mp z' with e | e
      · exact absurd (Heap.lt_size eb) (by rw [e]; exact Nat.lt_irrefl _)
      · exact e
    refine wpAny_call (codeAny_mono (HP _ _ s1 HZ f c' q QZ (fun _ _ _ => False) tl hr' I1.env0 frc act2 z2 z3) fun r s2 hq => ?_)
    cases r with
    | error e => exact False.elim hq
    | ok fl =>
      cases fl with
      | ret u => exact I1.after hq
      | next => exact False.elim hq
      | brk => exact False.elim hq
      | cont => exact False.elim hq
  refine ⟨_, pss_one (ps_ret (L2.pe_callS (E := WE noW) Fo hr' sS gS kS bS (L2N.passAt takesN0) (pa_cons pH (pa_cons (he cdv A outer s H E noW takesN0) pa_nil)))), ?_⟩
  exact ⟨rfl, hc, ht⟩
end
def mWrap (names : List Str) (fb : M D) (fa : M (List D)) (tf : List D → D) (Fs : FM) : M D := mbind fa fun ds => mbind (mHeard names fb) fun r => mopt (match Fs [.fz r, .fz (tf ds)] with
  | .ret (.fz z) _ => some z
  | _ => none)
section
variable {T : Gh} {X : Cx} {Known : Str → Addr → Prop} {names : List Str}
theorem start_full {N : List Str} {vs : List V} (h : vs.length = N.length) : L2.start N vs = vs.map some := by
  unfold L2.start
  rw [h, Nat.sub_self]
  simp
theorem fz_rel {K : PySem.W.Frag} {G : Str → Option Value} {H : Hp} : ∀ {vs : List V} {ds : List D}, DzL K G H vs ds → SlRs K G H (vs.map some) (ds.map .fz) []
  | _, _, .nil => .nil
  | _, _, .cons h l => .cons (A := []) (.fz h) (fz_rel l)
theorem de_wrap {fb : M D} {g c P : Addr} {k n : Nat} {x : Str} {N : List Str} {ft : M D} {tf : List D → D} {Fs : FM} {fa : M (List D)} {es : List Expr} {params : Arguments} {body : Expr} {scope : Scope} {p lpos pos : Pos} (hkn : ∀ c ∈ names, ∀ C, X.mg c = some (.ref C) → Known c C) (hall : ∀ c ∈ names, ∃ C, X.mg c = some (.ref C))
    (HP : WrapP X.prog X.w X.K X.mg X.base T.tab Known k n N ft Fs g) (hN : N.length = n + 1) (hft : ∀ ds, ds.length = n → ft (.no :: ds.map .fz) = .ok (tf ds) (.no :: ds.map .fz)) (hg : Gl X x) (hm : X.mg x = some (.ref g)) (hkp : PySem.W.keepIn X.K (.ref g) = true)
    (TB : TabB X.base X.mg c P) (hcode : X.env.code = .ref c) (hmT : (P, X.env.qual ++ "<lambda>") ∈ T.tab) (hu : ∀ p ∈ T.tab, p.1 = P → p.2 = X.env.qual ++ "<lambda>") (hr : Room (k + 3) X.A) (L : LamS X.env.scope scope) (hdef : defaultsOf params X.env = ([], []))
    (hbind : ∀ (q : Str) (cl : List (Str × Addr)) (pm cv ctv : Value), bindArgs (PySem.W.kla_fn "<lambda>" q params body scope cl pm cv ctv) ⟨[], []⟩ = pure [])
    (hbody : ∀ (A : Around) (outer : List PySem.Env) (s : Shared) (H : Hp) (E : XK) (f c' : Addr), Room k (A.deeper (lamEnv X scope s.heap.objs.size f c')) → DE T (lamN X A outer s H E scope f c') body fb)
    (ha : DL T X es n fa) (hdb : (x == ("__debug__" : Str)) = false := by decide) (he : starEach (.Lambda params body scope lpos :: es) X.env = (false, eval (.Lambda params body scope lpos) X.env) :: starEach es X.env := by rfl) (hpl : (backTo pos (starEach es X.env)).any (·.1) = false := by rfl) :
    DE T X (.Call (.Name x p) (.Lambda params body scope lpos :: es) [] pos) (mWrap names fb fa tf Fs) := fun W tk => by
  refine ⟨fun pins s σ H Q I ⟨ρ, A, rl, pp⟩ => ?_⟩
  refine wpAny_Call_Name_kw (ld_glob I hg hm ?_ hdb)
  refine PySem.W.callWith_K (h₀ := X.base) I.ok.mod.kin hkp ?_ he hpl
  rw [he]
  show wpAny _ _ (spliced ((false, eval (.Lambda params body scope lpos) X.env) :: backTo pos (starEach es X.env))) _ _ s
  refine Calls.spliced_cons (lam_make2 I TB hcode hmT hu rl.tab hdef (L.has I.ok) fun f c' pm' ctv H1 s' I1 eN T1 hf hfn hfr hco => ?_)
  have nL : f ≠ X.env.locals := fun z => by
    obtain ⟨m, ⟨o, es, ep, ho, hd, _⟩, _⟩ := I1.loc
    rw [← z, hf] at ho
    cases ho
    cases hd
  have nF : f ∉ X.fs := fun z => by
    rcases I1.ok.stk with e | ⟨e, _⟩
    · exact hfr (by rw [e]; exact z)
    · obtain ⟨en, h1, h2⟩ := List.mem_filterMap.mp z
      exact hfr (by rw [e]; exact List.mem_filterMap.mpr ⟨en, List.mem_cons_of_mem _ h1, h2⟩)
  have I1p : Inv X ((f, PySem.W.kla_obj "<lambda>" (X.env.qual ++ "<lambda>") params body scope (cloFrom X.env.cells scope.names []) pm' c' ctv) :: pins) σ H1 s' := I1.pins_of fun r hr => by
    rcases List.mem_cons.mp hr with rfl | hr
    · exact ⟨hf, hfn, nL, nF, fun v z => by cases z⟩
    · exact I1.pin r (List.mem_append_right _ hr)
  have rl1 := rl.extN eN T1
  have st1 : Step A H A H1 := Step.extN eN
  -- the other arguments
  have hA := (ha W tk).run pos _ s' σ H1 (fun vs H2 => H2 c' = some (CodeO c' (X.env.qual ++ "<lambda>")) ∧ vs.length = n ∧ THeard X.K X.mg T.tab Known (fun E H' Q' => tG X.K X.mg T (RD X.K X.mg) fb (fun cls d _ H => E cls d H) σ H' Q') H2
      (fun r H1 => tG X.K X.mg ⟨T.tab, []⟩ (RD X.K X.mg) ft noW (L2.start N (.ref f :: vs)) H1 fun t H2 => spF X.K X.mg T.tab 2 Fs [r, t] H2 Q fun _ _ _ => False)) I1p ⟨ρ, A, rl1, by
    refine Post.goes st1 pp fun vs ds ρ2 H2 B1 B s2 r2 rd2 nd2 p2 => ?_
    obtain ⟨rfl, dl, hln⟩ := rd2
    have s2' : Step A H1 B H2 := by simpa using s2
    have hlv : vs.length = n := hln
    have hld : ds.length = n := by rw [← dl.length]; exact hlv
    refine ⟨?_, hlv, ?_⟩
    · refine s2'.fr c' _ hco (fun z => ?_) codeO_ne
      obtain ⟨us, e⟩ := rl1.as.mut c' z
      rw [hco] at e
      unfold CodeO at e
      cases e
    · refine heard_wish (W := W) (H0 := H2) (A0 := B) hkn hall Step.refl r2 ?_
      refine Post.goes (st1.trans s2') p2 fun r dr ρ3 H3 C1 C s3 r3 rd3 nd3 p3 => ?_
      obtain ⟨rfl, dr3⟩ := rd3
      have s3' : Step B H2 C H3 := by simpa using s3
      have dl3 := dl.keep (r2.keep s3')
      obtain ⟨z, ez, p4⟩ := mopt_some p3
      refine ⟨.no :: ds.map .fz, [], ⟨?_, List.nodup_nil, r3.tab, fun q hq => by cases hq⟩, ?_⟩
      · rw [start_full (by rw [List.length_cons, hlv, hN])]
        exact .cons (A := []) .no (fz_rel dl3)
      · rw [hft ds hld]
        intro t H4 A4 A5 s4 r4 rd4 nd4
        obtain ⟨rfl, dt⟩ := rd4
        have hA5 : A5 = [] := List.eq_nil_iff_forall_not_mem.mpr fun a ha => by
          have nof : ∀ {vs : List (Option V)} {ss : List D} {A : List Addr}, SlRs X.K X.mg H4 vs (ss.map .fz) A → A = [] := by
            intro vs ss
            induction ss generalizing vs with
            | nil => intro A h; cases h; rfl
            | cons d ss ih =>
              intro A h
              cases h with
              | cons h l =>
                cases h
                rw [ih l]; rfl
          have as := r4.as
          cases as with
          | cons h l =>
            cases h
            rw [nof l] at ha
            cases ha
        subst hA5
        have s4' : Step [] H3 [] H4 := by simpa using s4
        obtain ⟨w1, w2⟩ := r3.far s4' r4.tab
        refine ⟨rfl, [.fz dr, .fz (tf ds)], [], .cons (A := []) (.fz (dr3.keep (r3.keep w1))) (.cons (A := []) (.fz dt) .nil), List.nodup_nil, r4.tab, rfl, ?_⟩
        cases eF : Fs [.fz dr, .fz (tf ds)] with
        | no => rw [eF] at ez; cases ez
        | ex c w ss => rw [eF] at ez; cases ez
        | ret sl ss =>
          rw [eF] at ez
          cases sl with
          | fz z' =>
            cases ez
            intro v H5 A6 s5 _ sr nd5 tb5
            cases sr with
            | fz dz =>
              obtain ⟨w3, w4⟩ := w2.far (by simpa using s5) tb5
              exact p4.fin ((((st1.trans s2').trans s3').trans w1).trans w3) w4 Ext.refl dz
          | _ => cases ez⟩
  refine thn hA fun us s2 ⟨vs, H2, I2, rv, hc2, hlv, wish⟩ => ⟨I2.kIn, ?_⟩
  have pf := I2.pin _ (List.mem_append_right _ List.mem_cons_self)
  have act := lam_act (tb := fun E => tG X.K X.mg T (RD X.K X.mg) fb fun cls d _ H => E cls d H) I2 hfr L (hbind _ _ _ _ _) fun A outer s H E hr2 => hbody A outer s H E f c' hr2 _ takes_lam
  refine wpAny_call (codeAny_mono (HP X.A X.stack s2 H2 f c' _ Q (fun _ _ _ => False) _ us vs hr I2.env0 ⟨⟨_, _, _, _, pf.1⟩, pf.2.1, hfr⟩ act hc2 rv hlv wish) fun r s3 hq => ?_)
  cases r with
  | error e => exact False.elim hq
  | ok fl =>
    cases fl with
    | ret u => exact ClX.unpinE (I2.after hq)
    | next => exact False.elim hq
    | brk => exact False.elim hq
    | cont => exact False.elim hq
end
end ME
namespace ME
open PySem PySem.Spec PyProof.Rows L2 LamX
/-! ### a name that holds a def of the module, called -/
def mCallV (i : Nat) (tbl : List (Str × FM)) (g : M (List Ag)) : M Sl := fun ρ => match ρ[i]? with
  | some (.fz (.fn x)) => (match tbl.lookup x with
    | some F => mCall F g ρ
    | none => .no)
  | _ => .no
section
variable {T : Gh} {X : Cx} {e : Expr} {es : List Expr} {n : Nat}
theorem dx_callV (i : Nat) {tbl : List (Str × FM)} {x : Str} {k : Nat} {g : M (List Ag)} {p pos : Pos} (ht : ∀ y F, tbl.lookup y = some F → ∃ f fd ps, X.mg y = some (.ref f) ∧ FnOk X.prog X.w X.K X.mg X.base (L2N.CX X.prog X.w) k f fd ps (spF X.K X.mg T.tab (n + 1) F) ∧ PySem.W.keepIn X.K (.ref f) = true ∧ Binds X.K fd ps []) (hr : Room k X.A)
    (ha : DAg T X (e :: es) (n + 1) g) (hN : X.N[i]? = some x := by rfl) (hv : Vis X.env.scope x := by first | exact Or.inl rfl | exact Or.inr (Or.inl rfl) | exact Or.inr (Or.inr rfl)) (hd : (x == ("__debug__" : Str)) = false := by decide) (hcd : (x == ("__classdict__" : Str)) = false := by decide)
    (he : starEach (e :: es) X.env = (false, eval e X.env) :: starEach es X.env := by rfl) (hpl : (backTo pos (starEach es X.env)).any (·.1) = false := by rfl) :
    DX T X (.Call (.Name x p) (e :: es) [] pos) (mCallV i tbl g) := fun W tk => by
  refine ⟨fun pins s σ H Q I ⟨ρ, A, rl, pp⟩ => ?_⟩
  unfold mCallV at pp
  split at pp
  · rename_i y e0
    cases eF : tbl.lookup y with
    | none => rw [eF] at pp; exact pp.elim
    | some F =>
      rw [eF] at pp
      obtain ⟨v, A1, e1, e2, e3⟩ := rl.as.get e0
      cases e2 with
      | fz dz =>
        cases dz with
        | fn hG =>
          rename_i a
          obtain ⟨f, fd, ps, gm, Fo, hk, hb⟩ := ht y F eF
          rw [hG] at gm
          have ea : a = f := by cases gm; rfl
          subst ea
          refine wpAny_Call_Name_kw (thn ((pe_var (pos := p) hN hv hd hcd).run pins s σ H (fun v H1 => v = .ref a ∧ H1 = H) I ⟨_, e1, rfl, rfl⟩) fun u s1 ⟨v, H1, I1, r1, ev, eH⟩ => ?_)
          subst ev
          rw [eH] at I1
          cases (show u = Value.ref a from r1)
          refine PySem.W.callWith_K (h₀ := X.base) I1.ok.mod.kin hk (thn ((ha W tk).run pos pins s1 σ H (fun vs H2 => spF X.K X.mg T.tab (n + 1) F vs H2 Q (WE W σ)) I1 ⟨ρ, A, rl, pp.seq fun vs as ρ1 H1 A1 A' st r1 rd nd p2 => ?_⟩) fun us s2 ⟨vs, H2, I2, r2, q2⟩ => ⟨I2.kIn, ?_⟩) he hpl
          · obtain ⟨⟨rfl, ok⟩, ln⟩ := rd
            exact run_spF (by simpa using st) r1 ok ln p2
          · exact run_fnS Fo hr hb (L2N.passAt tk σ) I2 r2 q2
  · exact pp.elim
/-! ### constants of the module -/
theorem de_gint {x : Str} {i : Int} {t : Tok} {pos : Pos} (hg : Gl X x) (hm : X.mg x = some (.int i t)) (hd : (x == ("__debug__" : Str)) = false := by decide) : DE T X (.Name x pos) (mpure (.int i)) := const (v := .int i) (pe_glob hg hm ⟨t, rfl⟩ hd) fun _ => .int i
theorem de_gstr {x y : Str} {t : Tok} {pos : Pos} (hg : Gl X x) (hm : X.mg x = some (.str y t)) (hd : (x == ("__debug__" : Str)) = false := by decide) : DE T X (.Name x pos) (mpure (.str y)) := const (v := .str y) (pe_glob hg hm ⟨t, rfl⟩ hd) fun _ => .str y
/-- what K says of a tuple of texts -/
def TupK (K : PySem.W.Frag) (a : Addr) (ys : List Str) : Prop := ∃ (o : Obj) (its : Array Value) (n : Nat), K.lookup a = some o ∧ o.cls = .type "tuple" ∧ o.data = .seq its n ∧ its.size ≤ sizeLine ∧ Vals (ys.map V.str) its.toList
theorem de_gtup {x : Str} {a : Addr} {ys : List Str} {pos : Pos} (hg : Gl X x) (hm : X.mg x = some (.ref a)) (hk : TupK X.K a ys) (hz : ys.length ≤ sizeLine) (hd : (x == ("__debug__" : Str)) = false := by decide) : DE T X (.Name x pos) (mpure (.tup (ys.map D.str))) :=
  const (v := .ref a) (pe_glob hg hm rfl hd) fun H => .tup (vs := ys.map V.str) (.inr hk) (by simpa using hz) (DzL.ofStrs ys)
end
end ME
namespace ME
open PySem PySem.Spec PyProof.Rows L2 LamX He
theorem oexB_ok {K : PySem.W.Frag} {C : Addr} (h : oexB K C = true) : OexC K C := by
  obtain ⟨h1, h⟩ := ba h
  obtain ⟨h2, h⟩ := ba h
  obtain ⟨h3, h⟩ := ba h
  obtain ⟨h4, h5⟩ := ba h
  refine ⟨?_, eqO_ok h2, of_decide_eq_true h3, of_decide_eq_true h4, h5⟩
  split at h1
  · rename_i t dd cd sl ho
    split at h1
    · rename_i C' bm k0 k1 k2 k3 n k5 hm hs
      obtain ⟨g1, h1⟩ := ba h1
      obtain ⟨g2, h1⟩ := ba h1
      obtain ⟨g3, h1⟩ := ba h1
      obtain ⟨g4, h1⟩ := ba h1
      obtain ⟨g5, g6⟩ := ba h1
      have e1 := of_decide_eq_true g1
      have e2 := of_decide_eq_true g2
      have e6 := of_decide_eq_true g6
      obtain ⟨nm, bs, mro, ns, qn, hd, sn, sub, ab, col, del⟩ := cd
      dsimp only at hm g4 g5
      have e5 : del = false := by cases del <;> simp_all
      subst hm e1 e2 e6 g4 e5
      have hsl : sl = #[k0, k1, k2, k3, some (.builtin "ValueError.__new__"), k5] := by
        obtain ⟨l⟩ := sl
        simp only at hs
        rw [hs]
      subst hsl
      exact ⟨_, _, _, _, _, _, _, _, _, _, _, _, _, _, _, ho, g3⟩
    · cases h1
  · cases h1
theorem excB_ok {K : PySem.W.Frag} {D : Addr} (h : excB K D = true) : ExcC K D := by
  obtain ⟨h1, h⟩ := ba h
  obtain ⟨h2, h⟩ := ba h
  obtain ⟨h3, h⟩ := ba h
  obtain ⟨h4, h⟩ := ba h
  obtain ⟨h5, h⟩ := ba h
  obtain ⟨h6, h⟩ := ba h
  obtain ⟨h7, h8⟩ := ba h
  exact ⟨eqO_ok h1, eqO_ok h2, of_decide_eq_true h3, h4, eqO_ok h5, eqO_ok h6, of_decide_eq_true h7, of_decide_eq_true h8⟩
theorem rfB_ok {K : PySem.W.Frag} {R C : Addr} (h : rfB K R C = true) : RfC K R C := by
  obtain ⟨h1, h⟩ := ba h
  obtain ⟨h2, h⟩ := ba h
  obtain ⟨h3, h⟩ := ba h
  obtain ⟨h4, h⟩ := ba h
  obtain ⟨h5, h6⟩ := ba h
  exact ⟨oexB_ok h1, of_decide_eq_true h2, of_decide_eq_true h3, eqO_ok h4, eqO_ok h5, eqO_ok h6⟩
structure BadK (K : PySem.W.Frag) (R C : Addr) : Prop where
  rf : RfC K R C
  iC : PySem.W.findIn K (.ref C) "__init__" = some (some (.ref (ma K C "__init__")))
  tI : PySem.W.typeIn K (.ref (ma K C "__init__")) = some (.type "function")
  mC : PySem.W.mroIn K C (.ref C) = some true
  sC : PySem.W.ks_superIn K C C "__init__" = some (some (.ref (ma K R "__init__")))
  ec : ExcC K C
  xf : XfC K C
  xm : PySem.W.exmOne K (.ref C) (.ref R) = some true
theorem badB_ok {K : PySem.W.Frag} {R C : Addr} (h : badB K R C = true) : BadK K R C := by
  obtain ⟨h1, h⟩ := ba h
  obtain ⟨h2, h⟩ := ba h
  obtain ⟨h3, h⟩ := ba h
  obtain ⟨h4, h⟩ := ba h
  obtain ⟨h5, h⟩ := ba h
  obtain ⟨h6, h⟩ := ba h
  obtain ⟨h7, h8⟩ := ba h
  exact ⟨rfB_ok h1, eqO_ok h2, of_decide_eq_true h3, of_decide_eq_true h4, eqO_ok h5, excB_ok h6, xfB_ok h7, of_decide_eq_true h8⟩
theorem ini_ok {P : Program} {K : PySem.W.Frag} {mg : Str → Option Value} {d : IniD} (e : iniW K d.cls = d.val) (c : iniB P.main.file K d = true) (hs : mg "super" = none) (ht : (P.main.scope.names.lookup ("super" : Str)).isSome = false) :
    ∃ cc fd dV cd, SDef P K mg "__init__" d.qual d.st "self" (ga K d.cls) (ma K (ga K d.cls) "__init__") cc fd dV cd ∧ DflV K dV (d.dfl.map (Dv.v K)) := by
  obtain ⟨c1, c⟩ := ba c
  obtain ⟨c2, c⟩ := ba c
  have c2' := of_decide_eq_true c2
  obtain ⟨cdD, hD⟩ := Option.isSome_iff_exists.mp c1
  obtain ⟨ar, har, hself⟩ := Option.map_eq_some_iff.mp c2'
  unfold iniW at e
  cases q : K.lookup (ma K (ga K d.cls) "__init__") with
  | none =>
    rw [q] at c
    cases c
  | some o =>
    obtain ⟨oc, od, dt, osl⟩ := o
    rw [q] at c e
    cases dt with
    | func fd =>
      obtain ⟨n1, n2, n3, n4, n5, n6, n7, n8, n9, n10, n11, n12, n13, n14, n15⟩ := fd
      have e2 : (some (n1, n2, n3, n4, n5, n6, n7.map (·.1), n15) : FnY) = (some ("__init__", d.qual, defArgs d.st, .stmts (defBody d.st), defScope d.st, mainGlobals, ["__class__"], builtinsNs) : FnY) := e
      simp only [Option.some.injEq, Prod.mk.injEq] at e2
      obtain ⟨h1, h2, h3, h4, h5, h6, h7, h8⟩ := e2
      subst h1 h2 h3 h4 h5 h6 h8
      obtain ⟨k1, k⟩ := ba (show (PySem.W.codeIn K n13 d.qual && (dflB K n8 (d.dfl.map (Dv.v K)) && (fileB P.main.file K n13 && cellB K (ga K d.cls) n7))) = true from c)
      obtain ⟨k2, k⟩ := ba k
      obtain ⟨k3, k4⟩ := ba k
      unfold fileB at k3
      unfold cellB at k4
      split at k3
      · rename_i cda _
        split at k3
        · rename_i ccl cdd vs ccs lcd
          split at k3
          · rename_i file tf hvs
            rcases n7 with _ | ⟨⟨x0, cc⟩, _ | ⟨y, r⟩⟩
            · cases k4
            · have ex0 : x0 = ("__class__" : Str) := by
                have h7' : ([x0] : List Str) = (["__class__"] : List Str) := h7
                cases h7'
                rfl
              subst ex0
              dsimp only at k4
              split at k4
              · rename_i cl cld D csl lcc
                have eD := of_decide_eq_true k4
                subst eD
                exact ⟨cc, _, n8, .ref cda, ⟨⟨oc, od, n9, n10, n11, n12, n14, osl, cda, ccl, cdd, vs, ccs, file, tf, cl, cld, csl, cdD, ar, rfl, rfl, q, k1, lcd, hvs, k3, lcc, hD, har, hself⟩, hs, ht⟩, dflB_ok k2⟩
              · cases k4
            · cases k4
          · cases k3
        · cases k3
      · cases k3
    | _ => cases c
end ME
namespace ME
open PySem PySem.Spec PyProof.Rows L2 LamX He
section
variable {P : Program} {K : PySem.W.Frag} {mg : Str → Option Value} {N : List Str} {name qual sf : Str} {st : Stmt} {f cc D : Addr} {fd : FuncData} {dV cd : Value}
/-- such a def without defaults: what a call binds -/
theorem SDef.binds0 {n : Nat} (S : SDef P K mg name qual st sf D f cc fd dV cd) (hd : DflV K dV [])
    (h : ∀ (kV doc pm : Value) (an : Option Addr) (cdv ct : Value) (cc : Addr) (us : List Value), us.length = n → bindArgs (PySem.W.ksFn name qual (defArgs st) (defBody st) (defScope st) .none kV doc pm an cdv ct cc) ⟨us, []⟩ = pure (N.zip us))
    (s : Shared) (us : List Value) (X : K.In s.heap) (hl : us.length = n) : BindsTo s fd ⟨us, []⟩ (N.zip us) := by
  obtain ⟨oc, od, kV, doc, pm, an, ct, osl, cda, ccl, cdd, ws, ccs, file, tf, cl, cld, csl, cdD, ar, e1, e2, rest⟩ := S.ex
  rcases hd with ⟨_, rfl⟩ | ⟨e, _⟩
  · rw [e2]
    exact .of_eq (h kV doc pm an cd ct cc us hl)
  · exact absurd rfl e
/-- such a def with defaults, every parameter written -/
theorem SDef.binds1 {n : Nat} {dvs : List V} (S : SDef P K mg name qual st sf D f cc fd dV cd) (hd : DflV K dV dvs) (hne : dvs ≠ [])
    (h : ∀ (T : Addr) (kV doc pm : Value) (an : Option Addr) (cdv ct : Value) (cc : Addr) (us its : List Value), us.length = n → its.length = dvs.length →
      ∃ k, bindArgs (PySem.W.ksFn name qual (defArgs st) (defBody st) (defScope st) (.ref T) kV doc pm an cdv ct cc) ⟨us, []⟩ = seqItems? (.ref T) >>= k ∧ k (some its.toArray) = pure (N.zip us))
    (s : Shared) (us : List Value) (X : K.In s.heap) (hl : us.length = n) : BindsTo s fd ⟨us, []⟩ (N.zip us) := by
  obtain ⟨oc, od, kV, doc, pm, an, ct, osl, cda, ccl, cdd, ws, ccs, file, tf, cl, cld, csl, cdD, ar, e1, e2, rest⟩ := S.ex
  rcases hd with ⟨e, _⟩ | ⟨_, T, o, its, m, rfl, lT, oT, rT⟩
  · exact absurd e hne
  · rw [e2]
    obtain ⟨k, e3, e4⟩ := h T kV doc pm an cd ct cc us its hl rT.length.symm
    refine BindsTo.of_looks fun M => ?_
    rw [e3]
    exact looks_items X lT oT (.of_pure e4)
end
end ME
namespace ME
open PySem PySem.Spec PyProof.Rows L2 LamX
/-! ### is True, -x -/
def aIsB : D → D → Option D
  | .bl a, .bl b => some (.bl (decide (a = b)))
  | _, _ => none
def aNotB : D → D → Option D
  | .bl a, .bl b => some (.bl (!decide (a = b)))
  | _, _ => none
def aNeg : D → Option D
  | .int i => some (.int (-i))
  | _ => none
section
variable {K : PySem.W.Frag} {G : Str → Option Value}
theorem s_isB : OpS K G rIsB aIsB := fun x y z v u H Q e dx dy k => by
  cases x with
  | bl a =>
    cases y with
    | bl b => cases e; rw [dx.bl, dy.bl]; exact ⟨a, b, rfl, rfl, k _ H Ext.refl (.bl _)⟩
    | _ => cases e
  | _ => cases e
theorem s_notB : OpS K G rNotB aNotB := fun x y z v u H Q e dx dy k => by
  cases x with
  | bl a =>
    cases y with
    | bl b => cases e; rw [dx.bl, dy.bl]; exact ⟨a, b, rfl, rfl, k _ H Ext.refl (.bl _)⟩
    | _ => cases e
  | _ => cases e
theorem s_neg : UnS K G (rU fun i => .int (-i)) aNeg := fun x z v H Q e dx k => by
  cases x with
  | int a => cases e; rw [dx.int]; exact ⟨a, rfl, k _ H Ext.refl (.int _)⟩
  | _ => cases e
end
/-! ### a slot's list is frozen in its place -/
def mfrzV (i : Nat) : M D := fun ρ => match ρ[i]? with
  | some (.ow false ds) => .ok (.lst ds) (ρ.set i (.fz (.lst ds)))
  | some (.fz d) => .ok d ρ
  | some (.nt ds) => .ok (.tup ds) ρ
  | _ => .no
section
variable {T : Gh} {X : Cx}
theorem de_frzV (i : Nat) {x : Str} {pos : Pos} (hN : X.N[i]? = some x := by rfl) (hv : Vis X.env.scope x := by first | exact Or.inl rfl | exact Or.inr (Or.inl rfl) | exact Or.inr (Or.inr rfl)) (hd : (x == ("__debug__" : Str)) = false := by decide)
    (hcd : (x == ("__classdict__" : Str)) = false := by decide) : DE T X (.Name x pos) (mfrzV i) := fun W _ => PE.imp (pe_ghost (pe_var hN hv hd hcd)) fun σ H Q q => by
  obtain ⟨ρ, A, rl, p⟩ := q
  unfold mfrzV at p
  split at p
  · rename_i ds e
    obtain ⟨v, A1, e1, e2, e3⟩ := rl.as.get e
    cases e2 with
    | ow ha hz l =>
      rename_i a vs
      refine ⟨_, e1, .inr ⟨a, vs, ha, fun od => ?_⟩⟩
      obtain ⟨B, b1, b2, b3⟩ := rl.as.take rl.nd e e1
      obtain ⟨n1, n2, n3⟩ := nd_app.mp b2
      have kp := frz_keep (o := od) ha
      have r2 : Rel X.K X.mg T σ (upd H a (.frz od (.lst vs))) (ρ.set i .no) B := ⟨b1.keep kp fun b hb => upd_ne fun z => n3 a (List.mem_singleton.mpr rfl) b hb z.symm, n2,
        Tabs.keepN rl.tab fun b o e nl => by rw [upd_ne (fun z => by rw [z, ha] at e; cases e; exact nl vs rfl)]; exact e, fun q hq => by
          obtain ⟨p1, ds', p2⟩ := rl.pro q hq
          refine ⟨p1, ds', ?_⟩
          rw [List.getElem?_set_ne (fun z => by rw [← z, e] at p2; cases p2)]
          exact p2⟩
      have hdz : Dz X.K X.mg (upd H a (.frz od (.lst vs))) (.ref a) (.lst ds) := .lst ⟨od, upd_same⟩ hz (l.keep kp)
      have st2 : Step A H B (upd H a (.frz od (.lst vs))) := by
        refine ⟨fun b o e0 nb nt => ?_, fun b hb => .inl (b3 b (List.mem_append.mpr (.inr hb))), fun b e0 => ?_⟩
        · rw [upd_ne (fun z => nb (by rw [z]; exact b3 a (List.mem_append.mpr (.inl (List.mem_singleton.mpr rfl)))))]
          exact e0
        · by_cases z : b = a
          · subst z
            obtain ⟨ps, hp⟩ := e0 _ upd_same
            cases hp
          · intro o q
            exact e0 o (by rw [upd_ne z]; exact q)
      obtain ⟨C, c1, c2, c3⟩ := SlRs.set (i := i) r2.as (SlR.fz (v := V.ref a) hdz) (by simpa using n2)
      have es : σ.set i (some (V.ref a)) = σ := by
        apply List.ext_getElem?
        intro j
        by_cases hj : i = j
        · subst hj
          rw [List.getElem?_set_self (by
            have := (List.getElem?_eq_some_iff.mp e1).1
            exact this), e1]
        · rw [List.getElem?_set_ne hj]
      rw [es, List.set_set] at c1
      have r3 : Rel X.K X.mg T σ (upd H a (.frz od (.lst vs))) (ρ.set i (.fz (.lst ds))) C := ⟨c1, c2, r2.tab, fun q hq => by
        obtain ⟨p1, ds', p2⟩ := rl.pro q hq
        refine ⟨p1, ds', ?_⟩
        rw [List.getElem?_set_ne (fun z => by rw [← z, e] at p2; cases p2)]
        exact p2⟩
      exact Post.fin p (st2.sub fun b hb => by simpa using c3 b hb) r3 Ext.refl hdz
  · rename_i d e
    obtain ⟨v, A1, e1, e2, e3⟩ := rl.as.get e
    cases e2 with
    | fz dz => exact ⟨_, e1, .inl (Post.fin p Step.refl rl Ext.refl dz)⟩
  · rename_i ds e
    obtain ⟨v, A1, e1, e2, e3⟩ := rl.as.get e
    cases e2 with
    | nt h z l => exact ⟨_, e1, .inl (Post.fin p Step.refl rl Ext.refl (.tup h.sq z l))⟩
  · exact p.elim
end
/-! ### a def whose code object is known -/
theorem fn_okL {P : Program} {w : World} {K : PySem.W.Frag} {mg : Str → Option Value} {base : Heap} {tab : List (Addr × Str)} {x qual : Str} {st : Stmt} {f : Addr} {fd : FuncData} {N ps : List Str} {k n : Nat} {m : MS} (F : L2.Fun K x qual st f fd) (S : FnScope N ps (defScope st)) (hn : ps.length = n := by rfl)
    (hbody : ∀ (T : Gh) (cdv : Value) (A : Around) (outer : List PySem.Env) (s : Shared) (H : Hp) (E : XK), T.tab = tab → fd.code = cdv → Room k (A.deeper (envOfC qual (defScope st) s.heap.objs.size f cdv)) →
      DSs T (cxOf (L2N.CX P w) P w K mg base N qual (defScope st) f cdv A outer s H E) (defBody st) m) : FnOk P w K mg base (L2N.CX P w) (k + 1) f fd ps (spF K mg tab n (fnOf N.length m)) := by
  obtain ⟨oc, od, kV, doc, pm, an, cdv, ct, osl, rfl, lk, hcd⟩ := F.ex
  refine fn_of lk hcd S (fun vs H Q E h => h.1.trans hn.symm) fun A outer s H vs Q E hr hsp => ?_
  obtain ⟨hl, ss, B, hs, nd, ht, ok, fp⟩ := hsp
  refine ⟨tS K mg ⟨tab, lentAt 0 (vs.map some) ss⟩ m fun c d _ H => E c d H, hbody ⟨tab, lentAt 0 (vs.map some) ss⟩ cdv A outer s H E rfl rfl hr _ (L2N.takes_of rfl rfl rfl rfl), ?_⟩
  exact body_post rfl (fun _ _ _ _ h => h) hs nd ht ok fp
end ME
namespace ME
open PySem PySem.Spec PyProof.Rows L2 LamX
/-! ### a call whose first argument is a new list, which the def may write -/
def lendSl : Sl → Option Sl
  | .ow false ds => some (.ow true ds)
  | .fz d => some (.fz d)
  | .nt ds => some (.nt ds)
  | _ => none
def alike : Sl → Sl → Bool
  | .ow _ _, .ow _ _ => true
  | .fz _, .fz _ => true
  | .fz _, .nt _ => true
  | .nt _, .nt _ => true
  | .nt _, .fz _ => true
  | _, _ => false
def mRunT (F : FM) (s : Sl) (as : List Ag) : M Sl := fun ρ => match lendSl s with
  | none => .no
  | some s' => if (lends as).Nodup then match resA ρ as with
    | none => .no
    | some ss => (match F (s' :: ss) with
      | .ret r (t :: ts) => if alike s' t = true then (match backA as ts ρ with
        | some ρ' => .ok r ρ'
        | none => .no) else .no
      | .ex c w (t :: ts) => if alike s' t = true then (match backA as ts ρ with
        | some ρ' => .ex c w ρ'
        | none => .no) else .no
      | _ => .no) else .no
def mCallT (F : FM) (fx : M Sl) (g : M (List Ag)) : M Sl := mbind fx fun s => mbind g fun as => mRunT F s as
section
variable {K : PySem.W.Frag} {G : Str → Option Value} {T : Gh}
theorem back_rel2 {σ : L2.St} {H1 H2 : Hp} {ρ ρ' : Env} {A C : List Addr} {as : List Ag} {vs : List V} {ts : List Sl} (rl : Rel K G T σ H1 ρ A) (ok : AgOk K G σ H1 vs as) (nd : (lends as).Nodup)
    (own : ∀ a ∈ C, ∃ i ∈ lends as, σ[i]? = some (some (.ref a)) ∧ ∃ p ds, ρ[i]? = some (.ow p ds)) (kp : Keep H1 H2) (fr : ∀ a ∈ A, a ∉ C → ∀ us, H1 a = some (.lst us) → H2 a = some (.lst us))
    (h2 : SlRs K G H2 (vs.map some) ts C) (tb : Tabs T.tab H2) (e : backA as ts ρ = some ρ') (hl : ∀ i ∈ lends as, ∃ p ds, ρ[i]? = some (.ow p ds)) : Rel K G T σ H2 ρ' A := by
  refine ⟨rl.as.turn (backA_len e) fun j v s t B hv hs ht hsr hB => ?_, rl.nd, tb, fun q hq => ?_⟩
  · by_cases hj : j ∈ lends as
    · obtain ⟨p, ds0, hr⟩ := hl j hj
      obtain ⟨v', ds, q, B', k1, k2, k3⟩ := backA_in e nd hj hr ok h2
      rw [hs] at hr
      cases hr
      rw [hv] at k1
      cases k1
      rw [ht] at k2
      cases k2
      cases hsr with
      | ow x1 x2 x3 =>
        cases k3 with
        | ow y1 y2 y3 => exact .ow y1 y2 y3
    · rw [backA_out e hj, hs] at ht
      cases ht
      refine hsr.keep kp fun a ha => ?_
      obtain ⟨us, hu⟩ := hsr.mut a ha
      rw [hu]
      refine fr a (hB a ha) (fun z => ?_) us hu
      obtain ⟨i, i1, i2, p, ds, i3⟩ := own a z
      cases hsr with
      | no => cases ha
      | fz _ => cases ha
      | nt _ _ _ => cases ha
      | exn _ _ _ _ => cases ha
      | ow x1 x2 x3 =>
        have ea := List.mem_singleton.mp ha
        subst ea
        have := owner rl.as rl.nd i2 hv i3 hs
        subst this
        exact hj i1
  · obtain ⟨p1, ds, p2⟩ := rl.pro q hq
    refine ⟨p1, ?_⟩
    by_cases hj : q.1 ∈ lends as
    · obtain ⟨v', ds', q', B', k1, k2, k3⟩ := backA_in e nd hj p2 ok h2
      exact ⟨ds', k2⟩
    · exact ⟨ds, by rw [backA_out e hj]; exact p2⟩
theorem SlRs.cons_inv {H : Hp} {v : Option V} {vs : List (Option V)} {t : Sl} {ts : List Sl} {A : List Addr} (h : SlRs K G H (v :: vs) (t :: ts) A) : ∃ X Y, A = X ++ Y ∧ SlR K G H v t X ∧ SlRs K G H vs ts Y := by
  cases h with
  | cons a b => exact ⟨_, _, rfl, a, b⟩
theorem alike_own {H2 H3 : Hp} {v : V} {s t : Sl} {A X : List Addr} (a : SlR K G H2 (some v) s A) (b : SlR K G H3 (some v) t X) (h : alike s t = true) : X = A := by
  cases a with
  | fz _ => cases b with
    | ow _ _ _ => cases h
    | _ => rfl
  | nt _ _ _ => cases b with
    | ow _ _ _ => cases h
    | _ => rfl
  | exn _ _ _ _ => cases b <;> cases h
  | no => cases h
  | ow _ _ _ => cases b with
    | ow _ _ _ => rfl
    | _ => cases h
theorem lend_rel {H : Hp} {v : V} {s s' : Sl} {A : List Addr} (h : SlR K G H (some v) s A) (e : lendSl s = some s') : SlR K G H (some v) s' A ∧ okArg s' = true := by
  cases h with
  | no => cases e
  | fz d => cases e; exact ⟨.fz d, rfl⟩
  | nt a b c => cases e; exact ⟨.nt a b c, rfl⟩
  | exn _ _ _ _ => cases e
  | @ow a vs p ds h1 h2 h3 =>
    cases p with
    | true => cases e
    | false => cases e; exact ⟨.ow h1 h2 h3, rfl⟩
end
section
variable {T : Gh} {X : Cx} {e : Expr} {es : List Expr} {n : Nat}
theorem dx_callT {f : Addr} {fd : FuncData} {ps : List Str} {x : Str} {k : Nat} {F : FM} {fx : M Sl} {g : M (List Ag)} {p pos : Pos} (Fo : FnOk X.prog X.w X.K X.mg X.base (L2N.CX X.prog X.w) k f fd ps (spF X.K X.mg T.tab (n + 1) F)) (hr : Room k X.A) (hg : Gl X x) (hm : X.mg x = some (.ref f)) (hk : PySem.W.keepIn X.K (.ref f) = true) (hb : Binds X.K fd ps [])
    (hx : DX T X e fx) (ha : DAg T X es n g) (hdb : (x == ("__debug__" : Str)) = false := by decide) (he : starEach (e :: es) X.env = (false, eval e X.env) :: starEach es X.env := by rfl) (hpl : (backTo pos (starEach es X.env)).any (·.1) = false := by rfl) :
    DX T X (.Call (.Name x p) (e :: es) [] pos) (mCallT F fx g) := fun W tk => PE.imp (L2.pe_callS Fo hr hg hm hk hb (L2N.passAt tk) (pa_cons (hx W tk) (ha W tk) he) hdb he hpl) fun σ H Q q => by
  obtain ⟨ρ, A, rl, p⟩ := q
  refine ⟨ρ, A, rl, p.seq fun v s ρ1 H1 A1 A' st r1 rd nd p => ?_⟩
  have nd' := nd_app.mp nd
  refine ⟨ρ1, A', r1, ?_⟩
  unfold mbind at p
  cases e1 : g ρ1 with
  | no => rw [e1] at p; exact p
  | ex c w ρ2 =>
    rw [e1] at p
    intro C dx H2 B s2 r2 gc x
    exact p C dx H2 B ((st.trans (s2.frame A1)).sub fun a z => List.mem_append.mpr (.inr z)) r2 gc x
  | ok as ρ2 =>
    rw [e1] at p
    intro vs H2 B1 B s2 r2 rd2 nd2
    obtain ⟨⟨rfl, ok⟩, ln⟩ := rd2
    have s2' : Step A' H1 B H2 := by simpa using s2
    have md : ∀ a ∈ A1, ∃ xs, H1 a = some (.lst xs) := SlR.mut rd
    obtain ⟨as1, as2⟩ := s2'.aside nd md
    have kp := r1.keep s2'
    have rd' := rd.keep kp as1
    have p' : Post X.K X.mg T (RS X.K X.mg) W σ H A Q (mRunT F s as ρ2) := p
    unfold mRunT at p'
    cases el : lendSl s with
    | none => rw [el] at p'; exact p'.elim
    | some s' =>
      rw [el] at p'
      dsimp only at p'
      obtain ⟨rd2, oks⟩ := lend_rel rd' el
      by_cases ndl : (lends as).Nodup
      · rw [if_pos ndl] at p'
        cases er : resA ρ2 as with
        | none => rw [er] at p'; exact p'.elim
        | some ss =>
          rw [er] at p'
          dsimp only at p'
          obtain ⟨C, c1, c2, c3, c4, c5⟩ := res_rel r2 ok er ndl
          have ndC : (A1 ++ C).Nodup := nd_app.mpr ⟨nd'.1, c2, fun a ha b hb => as2 a ha b (c4 b hb)⟩
          have hs0 : SlRs X.K X.mg H2 ((v :: vs).map some) (s' :: ss) (A1 ++ C) := .cons rd2 c1
          have st0 : Step A H (A1 ++ B) H2 := st.trans (s2'.frame A1)
          have key : ∀ (H3 : Hp) (D1 : List Addr) (t : Sl) (ts : List Sl) (ρ' : Env), Step (A1 ++ C) H2 (D1 ++ (A1 ++ C)) H3 → SlRs X.K X.mg H3 ((v :: vs).map some) (t :: ts) (A1 ++ C) → (D1 ++ (A1 ++ C)).Nodup → Tabs T.tab H3 → alike s' t = true → backA as ts ρ2 = some ρ' →
              Step A H (D1 ++ B) H3 ∧ Rel X.K X.mg T σ H3 ρ' B ∧ (D1 ++ B).Nodup := by
            intro H3 D1 t ts ρ' s3 h3 n1 tb al eb
            obtain ⟨U, Y, eU, hU, hY⟩ := SlRs.cons_inv h3
            have e2 := alike_own rd2 hU al
            subst e2
            have e3 : Y = C := (List.append_cancel_left eU).symm
            subst e3
            have kp3 : Keep H2 H3 := s3.keepM hs0.mut
            have more : Step (U ++ B) H2 (D1 ++ (U ++ Y)) H3 := s3.more fun a ha => (List.mem_append.mp ha).elim (fun z => List.mem_append.mpr (.inl z)) fun z => List.mem_append.mpr (.inr (c4 a z))
            have tr := st0.trans more
            obtain ⟨m1, m2, m3⟩ := nd_app.mp n1
            refine ⟨⟨tr.fr, fun a ha => ?_, tr.dom⟩, ?_, ?_⟩
            · rcases List.mem_append.mp ha with z | z
              · exact tr.ow a (List.mem_append.mpr (.inl z))
              · exact st0.ow a (List.mem_append.mpr (.inr z))
            · refine back_rel2 r2 ok ndl c5 kp3 (fun a ha nc us hu => ?_) hY tb eb (res_lends er)
              refine s3.fr a _ hu (fun z => ?_) (fun _ q => by cases q)
              rcases List.mem_append.mp z with z | z
              · exact as2 a z a ha rfl
              · exact nc z
            · refine nd_app.mpr ⟨m1, r2.nd, fun a ha b hb => ?_⟩
              rcases s3.ow a (List.mem_append.mpr (.inl ha)) with z | z
              · exact absurd rfl (m3 a ha a z)
              · obtain ⟨us, hu⟩ := r2.as.mut b hb
                intro eab
                rw [eab] at z
                obtain ⟨ps, q⟩ := z _ hu
                cases q
          refine ⟨by rw [List.length_cons, ln], s' :: ss, A1 ++ C, hs0, ndC, r2.tab, by simp [oks, c3], ?_⟩
          cases eF : F (s' :: ss) with
          | no => simp only [eF] at p'; exact p'.elim
          | ret r tts =>
            cases tts with
            | nil => simp only [eF] at p'; exact p'.elim
            | cons t ts =>
              simp only [eF] at p'
              by_cases al : alike s' t = true
              · rw [if_pos al] at p'
                cases eb : backA as ts ρ2 with
                | none => rw [eb] at p'; exact p'.elim
                | some ρ' =>
                  rw [eb] at p'
                  intro v2 H3 D1 s3 h3 sr n1 tb
                  obtain ⟨x1, x2, x3⟩ := key H3 D1 t ts ρ' s3 h3 n1 tb al eb
                  exact p' v2 H3 D1 B x1 x2 sr x3
              · rw [if_neg al] at p'; exact p'.elim
          | ex c w tts =>
            cases tts with
            | nil => simp only [eF] at p'; exact p'.elim
            | cons t ts =>
              simp only [eF] at p'
              by_cases al : alike s' t = true
              · rw [if_pos al] at p'
                cases eb : backA as ts ρ2 with
                | none => rw [eb] at p'; exact p'.elim
                | some ρ' =>
                  rw [eb] at p'
                  intro Cc dx H3 s3 h3 gc x tb
                  obtain ⟨x1, x2, x3⟩ := key H3 [] t ts ρ' (by simpa using s3) h3 (by simpa using ndC) tb al eb
                  exact p' Cc dx H3 B (by simpa using x1) x2 gc x
              · rw [if_neg al] at p'; exact p'.elim
      · rw [if_neg ndl] at p'; exact p'.elim
end
/-- a def that promises nothing -/
theorem fn_no {P : Program} {w : World} {K : PySem.W.Frag} {mg : Str → Option Value} {base : Heap} {CX : CXT} {tab : List (Addr × Str)} {k n : Nat} {f : Addr} {fd : FuncData} {ps : List Str} (hn : ps.length = n := by rfl) : FnOk P w K mg base CX k f fd ps (spF K mg tab n fun _ => .no) :=
  ⟨fun vs H Q E h => h.1.trans hn.symm, fun A outer s H args us vs Q E _ _ _ _ h => by obtain ⟨_, _, _, _, _, _, _, z⟩ := h; exact z.elim⟩
theorem un1 {k : Nat} {A : Around} (h : Room k A) : A.units + 1 < cLine := by have := h.units; omega
end ME
namespace ME
open PySem PySem.Spec PyProof.Rows L2 LamX
section
variable {T : Gh} {X : Cx}
/-! ### key in a dict, as a test -/
theorem tst_imp {f : M D} {W : WX} {σ : L2.St} {H : Hp} {Q : Bool → Hp → Prop} (q : tG X.K X.mg T RT (mtst f) W σ H Q) : tG X.K X.mg T (RD X.K X.mg) f W σ H fun v H1 => ∃ c, v = .bl c ∧ Q c H1 := by
  obtain ⟨ρ, A, rl, p⟩ := q
  refine ⟨ρ, A, rl, p.seq fun v d ρ1 H1 A1 A' st r1 rd nd p => ?_⟩
  obtain ⟨rfl, dz⟩ := rd
  cases dz with
  | bl b => exact ⟨b, rfl, p b H1 [] A' st r1 ⟨rfl, rfl⟩ nd⟩
  | _ => exact p.elim
theorem dt_kin {i o : Expr} {f g : M D} {pos : Pos} (hu : X.A.units + 1 < cLine) (hi : DE T X i f) (ho : DE T X o g) (h1 : behindInMarks .In o = false := by rfl) : DT T X (.Compare i [.In] [o] pos) (mtst (mdd (fun x y => (aKeyIn x y).map .bl) f g)) :=
  fun W tk => PT.imp (L2.pt_cmp (pc_din hu (hi W tk) (ho W tk)) h1) fun σ H Q q => by
    obtain ⟨ρ, A, rl, p⟩ := mdd_two (tst_imp q)
    refine ⟨ρ, A, rl, p.mono fun v H1 ⟨ρ1, A1, r1, p1⟩ => ⟨ρ1, A1, r1, p1.mono fun u H2 ⟨x, y, z, dx, dy, e, k⟩ => ?_⟩⟩
    obtain ⟨b, e1, rfl⟩ := Option.map_eq_some_iff.mp e
    obtain ⟨a, oo, e2, e3, e4⟩ := key_use dx dy e1
    exact ⟨a, oo, e2, e3, by rw [e4]; exact k _ H2 Ext.refl (.bl _)⟩
theorem dt_knotin {i o : Expr} {f g : M D} {pos : Pos} (hu : X.A.units + 1 < cLine) (hi : DE T X i f) (ho : DE T X o g) (h1 : behindInMarks .NotIn o = false := by rfl) : DT T X (.Compare i [.NotIn] [o] pos) (mtst (mdd (fun x y => (aKeyIn x y).map fun b => .bl (!b)) f g)) :=
  fun W tk => PT.imp (L2.pt_cmp (pc_dnotin hu (hi W tk) (ho W tk)) h1) fun σ H Q q => by
    obtain ⟨ρ, A, rl, p⟩ := mdd_two (tst_imp q)
    refine ⟨ρ, A, rl, p.mono fun v H1 ⟨ρ1, A1, r1, p1⟩ => ⟨ρ1, A1, r1, p1.mono fun u H2 ⟨x, y, z, dx, dy, e, k⟩ => ?_⟩⟩
    obtain ⟨b, e1, rfl⟩ := Option.map_eq_some_iff.mp e
    obtain ⟨a, oo, e2, e3, e4⟩ := key_use dx dy e1
    exact ⟨a, oo, e2, e3, by rw [e4]; exact k _ H2 Ext.refl (.bl _)⟩
theorem dg_tupK {K' : PySem.W.Frag} {tgs : List Expr} {u : TGs} {k n : Nat} {is : List Nat} {h : List D → Env → Option Env} {pos : Pos} (hK : X.K = K') (hc : X.calm = true) (b : DGs T X tgs u n is h) (hn : (assignEach tgs X.env).length = n := by rfl) (hst : (assignEach tgs X.env).findIdx? (·.1) = none := by rfl) : DG T X (.Tuple tgs k pos) (gTup K' n u) is (gTp h) := by
  subst hK
  exact dg_tup hc b hn hst
/-! ### name = a comprehension on one line, the name a local -/
theorem set_imp {i : Nat} {f : M Sl} {W : WX} {E : Ends} {σ : L2.St} {H : Hp} (q : tS X.K X.mg T (sSet i f) W E σ H) : tG X.K X.mg T (RS X.K X.mg) f W σ H fun v H1 => gName i v σ H1 E.nx := by
  obtain ⟨ρ, A, rl, p⟩ := q
  refine ⟨ρ, A, rl, p.seq fun v s ρ1 H1 A1 A' st r1 rd nd p => ?_⟩
  cases e1 : setSl i s ρ1 with
  | none => rw [e1] at p; exact p.elim
  | some ρ' =>
    rw [e1] at p
    obtain ⟨rfl, np⟩ := setSl_some e1
    obtain ⟨C, c1, c2, c3⟩ := Rel.store st r1 rd nd np
    exact p _ H1 C c1 c2
theorem ds_setLc (i : Nat) {y : Str} {py : Pos} {elt tg iter : Expr} {ifs : List Expr} {scope : Scope} {own : List (Str × Nat)} {pos spos : Pos} {it : M (List D)} {t : TG} {is : List Nat} {g : D → Env → Option Env} {ft : M Bool} {fe : M D} (hc : X.calm = true) (hN : X.N.Nodup) (hi : DI T X tg iter it) (ok : BlkOk X.N X.env.scope scope own)
    (hg : ∀ (s : Shared) (H : Hp) (C : Addr) (cl : List (Str × Addr)) (fp : List Addr), DG T (X.blk s H scope (compEnvC scope cl C X.env) fp) tg t is g) (ht : ∀ (s : Shared) (H : Hp) (C : Addr) (cl : List (Str × Addr)) (fp : List Addr), DTs T (X.blk s H scope (compEnvC scope cl C X.env) fp) ifs ft)
    (he : ∀ (s : Shared) (H : Hp) (C : Addr) (cl : List (Str × Addr)) (fp : List Addr), DE T (X.blk s H scope (compEnvC scope cl C X.env) fp) elt fe) (hy : X.N[i]? = some y := by rfl) (hyl : X.env.scope.names.lookup y = some .local := by rfl)
    (hsw : swapsWith (.ListComp elt [⟨tg, iter, ifs, 0⟩] scope pos) (some (.Name y py)) spos.line X.env = pure true := by rfl) (his : ∀ i ∈ is, i ∈ own.map (·.2) := by decide) (hs : ∀ x, foldedSetIterable iter X.env x = pure x := by intro _; rfl) :
    DS T X (.Assign [.Name y py] (.ListComp elt [⟨tg, iter, ifs, 0⟩] scope pos) spos) (sSet i (mComp (own.map (·.2)) it g ft fe)) := fun W tk =>
  PS.imp (ps_setLc (tt := tG X.K X.mg T RT ft fun _ _ _ _ => False) (te := tG X.K X.mg T (RD X.K X.mg) fe fun _ _ _ _ => False) hc hN hy hyl hsw (hi W tk) ok (fun s H C cl fp => (hg s H C cl fp).1) (fun s H C cl fp => ht s H C cl fp _ takesN0) (fun s H C cl fp => he s H C cl fp _ takesN0) hs) fun E σ H q =>
    lc_imp (hg X.s_0 X.H_0 0 [] []).2 his (set_imp q)
theorem ps_setDc {i : Nat} {y : Str} {py : Pos} {kx vx tg iter : Expr} {ifs : List Expr} {scope : Scope} {own : List (Str × Nat)} {pos spos : Pos} {wi : TI} {g : TG} {tt : TT} {tk tv : TE} (hc : X.calm = true) (hN : X.N.Nodup) (hy : X.N[i]? = some y) (hyl : X.env.scope.names.lookup y = some .local)
    (hsw : swapsWith (.DictComp kx vx [⟨tg, iter, ifs, 0⟩] scope pos) (some (.Name y py)) spos.line X.env = pure true) (hi : PI X tg iter wi) (ok : BlkOk X.N X.env.scope scope own)
    (hg : ∀ (s : Shared) (H : Hp) (C : Addr) (cl : List (Str × Addr)) (fp : List Addr), PG (X.blk s H scope (compEnvC scope cl C X.env) fp) tg g) (ht : ∀ (s : Shared) (H : Hp) (C : Addr) (cl : List (Str × Addr)) (fp : List Addr), PTs (X.blk s H scope (compEnvC scope cl C X.env) fp) ifs tt)
    (hk : ∀ (s : Shared) (H : Hp) (C : Addr) (cl : List (Str × Addr)) (fp : List Addr), PE (X.blk s H scope (compEnvC scope cl C X.env) fp) kx tk) (he : ∀ (s : Shared) (H : Hp) (C : Addr) (cl : List (Str × Addr)) (fp : List Addr), PE (X.blk s H scope (compEnvC scope cl C X.env) fp) vx tv) (hs : ∀ x, foldedSetIterable iter X.env x = pure x := by intro _; rfl) :
    PS X (.Assign [.Name y py] (.DictComp kx vx [⟨tg, iter, ifs, 0⟩] scope pos) spos) (tAsg (fun σ H Q => tDc wi g tt tk tv (own.map (·.2)) σ H (fun v H1 => ∃ a kvs, v = .ref a ∧ H1 a = some (.dK kvs) ∧ ∀ od, Q v (upd H1 a (.frz od (.dK kvs))))) (gName i)) := by
  refine ⟨fun pins s σ H D I h => ?_⟩
  rw [exec_Assign_Name_used _ _ _ _ hsw]
  refine wpAny_bind (wpAny_standAt (wpAny_bind ?_))
  show wpAny _ X.A (do let _ ← comprehension (.DictComp kx vx [⟨tg, iter, ifs, 0⟩] scope pos) scope X.env (firstIterPos [⟨tg, iter, ifs, 0⟩] pos) newDict false (eval iter X.env) (some (assign (.Name y py) X.env))) _ _ s
  have h : tDc wi g tt tk tv (own.map (·.2)) σ H (fun v H1 => ∃ a kvs, v = .ref a ∧ H1 a = some (.dK kvs) ∧ ∀ od, gName i v σ (upd H1 a (.frz od (.dK kvs))) D.nx) := h
  refine wpAny_bind (thn (dc_core (Qf := fun _ s' => SP X pins D .next s') hc hN I hi ok hg ht hk he hs h fun L C s' m H' I' q hn f => ?_) fun _ s' hq => wpAny_pure (wpAny_pure hq))
  show wpAny _ _ (assign (.Name y py) X.env (.ref L)) _ _ _
  obtain ⟨a, kvs, ev, ha, q⟩ := q
  cases ev
  obtain ⟨od, I2⟩ := I'.lock ha trivial
  obtain ⟨f0, f1, f2, f3, f4, f5⟩ := f
  have f0' : upd H' L (.frz od (.dK kvs)) C = none := by
    rw [upd_ne (fun z => by rw [z, ha] at f0; cases f0)]
    exact f0
  refine wpAny_assign_Name (store_ok2 (v := V.ref L) I2 hN hy (.inl hyl) rfl (fun s2 I3 ⟨a, sb, ha⟩ => ?_) (.inr hyl))
  have haC : C ≠ a := by
    rcases ha with z | z
    · rw [z]; exact f1
    · exact fun e => f4 y a z e.symm
  refine ⟨m, hn.sameBut sb haC, fun h3 sb3 => ?_⟩
  exact ⟨_, _, I3.turned (t' := s2.toks) (fun b o hb e => (sb3.2 b hb).trans e) f0' f1 f3 f4 f5, q od⟩
theorem ds_setDc (i : Nat) {y : Str} {py : Pos} {kx vx tg iter : Expr} {ifs : List Expr} {scope : Scope} {own : List (Str × Nat)} {pos spos : Pos} {it : M (List D)} {t : TG} {is : List Nat} {g : D → Env → Option Env} {ft : M Bool} {fk fe : M D} (hc : X.calm = true) (hN : X.N.Nodup) (hi : DI T X tg iter it) (ok : BlkOk X.N X.env.scope scope own)
    (hg : ∀ (s : Shared) (H : Hp) (C : Addr) (cl : List (Str × Addr)) (fp : List Addr), DG T (X.blk s H scope (compEnvC scope cl C X.env) fp) tg t is g) (ht : ∀ (s : Shared) (H : Hp) (C : Addr) (cl : List (Str × Addr)) (fp : List Addr), DTs T (X.blk s H scope (compEnvC scope cl C X.env) fp) ifs ft)
    (hk : ∀ (s : Shared) (H : Hp) (C : Addr) (cl : List (Str × Addr)) (fp : List Addr), DE T (X.blk s H scope (compEnvC scope cl C X.env) fp) kx fk)
    (he : ∀ (s : Shared) (H : Hp) (C : Addr) (cl : List (Str × Addr)) (fp : List Addr), DE T (X.blk s H scope (compEnvC scope cl C X.env) fp) vx fe) (hy : X.N[i]? = some y := by rfl) (hyl : X.env.scope.names.lookup y = some .local := by rfl)
    (hsw : swapsWith (.DictComp kx vx [⟨tg, iter, ifs, 0⟩] scope pos) (some (.Name y py)) spos.line X.env = pure true := by rfl) (his : ∀ i ∈ is, i ∈ own.map (·.2) := by decide) (hs : ∀ x, foldedSetIterable iter X.env x = pure x := by intro _; rfl) :
    DS T X (.Assign [.Name y py] (.DictComp kx vx [⟨tg, iter, ifs, 0⟩] scope pos) spos) (sSet i (mfz (mDict (own.map (·.2)) it g ft fk fe))) := fun W tk =>
  PS.imp (ps_setDc (tt := tG X.K X.mg T RT ft fun _ _ _ _ => False) (tk := tG X.K X.mg T (RD X.K X.mg) fk fun _ _ _ _ => False) (tv := tG X.K X.mg T (RD X.K X.mg) fe fun _ _ _ _ => False) hc hN hy hyl hsw (hi W tk) ok (fun s H C cl fp => (hg s H C cl fp).1) (fun s H C cl fp => ht s H C cl fp _ takesN0) (fun s H C cl fp => hk s H C cl fp _ takesN0) (fun s H C cl fp => he s H C cl fp _ takesN0) hs) fun E σ H q => by
    refine dc_imp (X := X) (Q := fun v H1 => gName i v σ H1 E.nx) (hg X.s_0 X.H_0 0 [] []).2 his ?_
    obtain ⟨ρ, A, rl, p⟩ := set_imp q
    refine ⟨ρ, A, rl, p.seq fun v d ρ1 H1 A1 A' st r1 rd nd p => ?_⟩
    obtain ⟨rfl, dz⟩ := rd
    exact p v H1 [] A' st r1 (.fz dz) nd
end
end ME
namespace ME
open PySem PySem.Spec PyProof.Rows L2 LamX
/-! ### evaluation of the mirrors: rows for simp -/
def Res.bnd {α β : Type} (r : Res α) (g : α → M β) : Res β := match r with
  | .ok a ρ => g a ρ
  | .ex c w ρ => .ex c w ρ
  | .no => .no
def Res.bnS {α : Type} (r : Res α) (g : α → MS) : Out := match r with
  | .ok a ρ => g a ρ
  | .ex c w ρ => .ex c w ρ
  | .no => .no
def Out.sq (o : Out) (g : MS) : Out := match o with
  | .nx ρ => g ρ
  | .rt s ρ => .rt s ρ
  | .bk ρ => .bk ρ
  | .ct ρ => .ct ρ
  | .ex c w ρ => .ex c w ρ
  | .no => .no
section
variable {α β : Type} {ρ : Env}
@[simp] theorem bnd_ok (a : α) (ρ : Env) (g : α → M β) : (Res.ok a ρ).bnd g = g a ρ := Eq.trans rfl rfl
@[simp] theorem bnd_ex (c : Str) (w : D) (ρ : Env) (g : α → M β) : (Res.ex c w ρ : Res α).bnd g = .ex c w ρ := Eq.trans rfl rfl
@[simp] theorem bnd_no (g : α → M β) : (Res.no : Res α).bnd g = .no := Eq.trans rfl rfl
@[simp] theorem bnS_ok (a : α) (ρ : Env) (g : α → MS) : (Res.ok a ρ).bnS g = g a ρ := Eq.trans rfl rfl
@[simp] theorem bnS_ex (c : Str) (w : D) (ρ : Env) (g : α → MS) : (Res.ex c w ρ : Res α).bnS g = .ex c w ρ := Eq.trans rfl rfl
@[simp] theorem bnS_no (g : α → MS) : (Res.no : Res α).bnS g = .no := Eq.trans rfl rfl
@[simp] theorem sq_nx (ρ : Env) (g : MS) : (Out.nx ρ).sq g = g ρ := Eq.trans rfl rfl
@[simp] theorem sq_rt (s : Sl) (ρ : Env) (g : MS) : (Out.rt s ρ).sq g = .rt s ρ := Eq.trans rfl rfl
@[simp] theorem sq_bk (ρ : Env) (g : MS) : (Out.bk ρ).sq g = .bk ρ := Eq.trans rfl rfl
@[simp] theorem sq_ct (ρ : Env) (g : MS) : (Out.ct ρ).sq g = .ct ρ := Eq.trans rfl rfl
@[simp] theorem sq_ex (c : Str) (w : D) (ρ : Env) (g : MS) : (Out.ex c w ρ).sq g = .ex c w ρ := Eq.trans rfl rfl
@[simp] theorem ev_pure (a : α) : mpure a ρ = .ok a ρ := Eq.trans rfl rfl
@[simp] theorem ev_bind (f : M α) (g : α → M β) : mbind f g ρ = (f ρ).bnd g := Eq.trans rfl rfl
@[simp] theorem ev_opt (a : α) : mopt (some a) ρ = .ok a ρ := Eq.trans rfl rfl
def vD : Option Sl → Option D
  | some (.fz d) => some d
  | some (.nt ds) => some (.tup ds)
  | _ => none
@[simp] theorem vD_fz (d : D) : vD (some (.fz d)) = some d := Eq.trans rfl rfl
@[simp] theorem vD_nt (d : List D) : vD (some (.nt d)) = some (.tup d) := Eq.trans rfl rfl
@[simp] theorem ev_var (i : Nat) : mvar i ρ = mopt (vD ρ[i]?) ρ := by
  unfold mvar
  split <;> rename_i h <;> first | rw [h]; rfl | skip
  cases e : ρ[i]? with
  | none => rfl
  | some s => cases s <;> first | rfl | exact absurd e (h _) | skip
              all_goals first | rfl | (rename_i d; exact absurd e (by assumption)) | skip
              all_goals simp_all [vD, mopt]
def sD : Option Sl → Option D
  | some (.fz d) => some d
  | some (.ow _ ds) => some (.lst ds)
  | some (.nt ds) => some (.tup ds)
  | _ => none
@[simp] theorem sD_fz (d : D) : sD (some (.fz d)) = some d := Eq.trans rfl rfl
@[simp] theorem sD_nt (d : List D) : sD (some (.nt d)) = some (.tup d) := Eq.trans rfl rfl
@[simp] theorem sD_ow (p : Bool) (d : List D) : sD (some (.ow p d)) = some (.lst d) := Eq.trans rfl rfl
@[simp] theorem ev_useV (d : D) : muse (.val d) ρ = .ok d ρ := Eq.trans rfl rfl
@[simp] theorem ev_useS (i : Nat) : muse (.slot i) ρ = mopt (sD ρ[i]?) ρ := by
  show mopt (rres ρ (.slot i)) ρ = _
  have : rres ρ (.slot i) = sD ρ[i]? := by
    show (match ρ[i]? with
      | some (.fz d) => some d
      | some (.ow _ ds) => some (.lst ds)
      | some (.nt ds) => some (.tup ds)
      | _ => none) = _
    cases ρ[i]? with
    | none => rfl
    | some s => cases s <;> rfl
  rw [this]
@[simp] theorem ev_val (f : M D) : mval f ρ = (f ρ).bnd fun d => mpure (.val d) := Eq.trans rfl rfl
def gS : Option Sl → Nat → Env → Res Rv
  | some (.fz _), i, ρ => .ok (.slot i) ρ
  | some (.ow _ _), i, ρ => .ok (.slot i) ρ
  | some (.nt _), i, ρ => .ok (.slot i) ρ
  | _, _, _ => .no
@[simp] theorem gS_fz (d : D) (i : Nat) : gS (some (.fz d)) i ρ = .ok (.slot i) ρ := Eq.trans rfl rfl
@[simp] theorem gS_ow (p : Bool) (d : List D) (i : Nat) : gS (some (.ow p d)) i ρ = .ok (.slot i) ρ := Eq.trans rfl rfl
@[simp] theorem gS_nt (d : List D) (i : Nat) : gS (some (.nt d)) i ρ = .ok (.slot i) ρ := Eq.trans rfl rfl
@[simp] theorem ev_slot (i : Nat) : mslot i ρ = gS ρ[i]? i ρ := by
  unfold mslot gS
  cases ρ[i]? with
  | none => rfl
  | some s => cases s <;> rfl
@[simp] theorem ev_nil : mnil ρ = .ok [] ρ := Eq.trans rfl rfl
@[simp] theorem ev_cons (f : M Rv) (g : M (List Rv)) : mcons f g ρ = (f ρ).bnd fun r => mbind g fun rs => mpure (r :: rs) := Eq.trans rfl rfl
@[simp] theorem ev_uses0 : muses [] ρ = .ok [] ρ := Eq.trans rfl rfl
@[simp] theorem ev_uses1 (r : Rv) (rs : List Rv) : muses (r :: rs) ρ = (muse r ρ).bnd fun x => mbind (muses rs) fun xs => mpure (x :: xs) := Eq.trans rfl rfl
@[simp] theorem unown_fz (d : D) : unown (.fz d) = some (.fz d) := Eq.trans rfl rfl
@[simp] theorem unown_ow (p : Bool) (d : List D) : unown (.ow p d) = some (.ow false d) := Eq.trans rfl rfl
@[simp] theorem unown_nt (d : List D) : unown (.nt d) = some (.nt d) := Eq.trans rfl rfl
@[simp] theorem ev_bin (op : D → D → Option D) (f g : M Rv) : mbin op f g ρ = (f ρ).bnd fun r => mbind g fun s => mbind (muse r) fun x => mbind (muse s) fun y => mopt (op x y) := Eq.trans rfl rfl
@[simp] theorem ev_binX (op : D → D → Option Sl) (f g : M Rv) : mbinX op f g ρ = (f ρ).bnd fun r => mbind g fun s => mbind (muse r) fun x => mbind (muse s) fun y => mopt ((op x y).bind unown) := Eq.trans rfl rfl
@[simp] theorem ev_un (op : D → Option D) (f : M Rv) : mun op f ρ = (f ρ).bnd fun r => mbind (muse r) fun x => mopt (op x) := Eq.trans rfl rfl
@[simp] theorem ev_fn (op : List D → Option D) (f : M (List Rv)) : mfn op f ρ = (f ρ).bnd fun rs => mbind (muses rs) fun xs => mopt (op xs) := Eq.trans rfl rfl
@[simp] theorem ev_fnX (op : List D → Option Sl) (f : M (List Rv)) : mfnX op f ρ = (f ρ).bnd fun rs => mbind (muses rs) fun xs => mopt ((op xs).bind unown) := Eq.trans rfl rfl
def toB (d : D) : M Bool := match d with
  | .bl b => mpure b
  | _ => fun _ => .no
@[simp] theorem toB_bl (b : Bool) : toB (.bl b) ρ = .ok b ρ := Eq.trans rfl rfl
@[simp] theorem ev_tst (f : M D) : mtst f ρ = (f ρ).bnd toB := Eq.trans rfl rfl
@[simp] theorem ev_not (t : M Bool) : mnot t ρ = (t ρ).bnd fun b => mpure (!b) := Eq.trans rfl rfl
theorem ite_app {α β : Type} {c : Prop} [Decidable c] (f g : α → β) (x : α) : (if c then f else g) x = if c then f x else g x := by split <;> rfl
@[simp] theorem ev_and (t u : M Bool) : mand t u ρ = (t ρ).bnd fun b ρ => if b = true then u ρ else .ok false ρ := by
  show (t ρ).bnd _ = _
  congr; funext b ρ; split <;> rfl
@[simp] theorem ev_or (t u : M Bool) : mor t u ρ = (t ρ).bnd fun b ρ => if b = true then .ok true ρ else u ρ := by
  show (t ρ).bnd _ = _
  congr; funext b ρ; split <;> rfl
@[simp] theorem ev_if (t : M Bool) (f g : M α) : mif t f g ρ = (t ρ).bnd fun b ρ => if b = true then f ρ else g ρ := by
  show (t ρ).bnd _ = _
  congr; funext b ρ; split <;> rfl
def kAnd (g : M D) (d : D) : M D := match d with
  | .bl true => g
  | .bl false => mpure (.bl false)
  | _ => fun _ => .no
def kOr (g : M D) (d : D) : M D := match d with
  | .bl true => mpure (.bl true)
  | .bl false => g
  | _ => fun _ => .no
def kNot (d : D) : M D := match d with
  | .bl b => mpure (.bl (!b))
  | _ => fun _ => .no
@[simp] theorem kAnd_bl (g : M D) (b : Bool) : kAnd g (.bl b) ρ = if b = true then g ρ else .ok (.bl false) ρ := by cases b <;> rfl
@[simp] theorem kOr_bl (g : M D) (b : Bool) : kOr g (.bl b) ρ = if b = true then .ok (.bl true) ρ else g ρ := by cases b <;> rfl
@[simp] theorem kNot_bl (b : Bool) : kNot (.bl b) ρ = .ok (.bl (!b)) ρ := Eq.trans rfl rfl
@[simp] theorem ev_andV (f g : M D) : mandV f g ρ = (f ρ).bnd (kAnd g) := Eq.trans rfl rfl
@[simp] theorem ev_orV (f g : M D) : morV f g ρ = (f ρ).bnd (kOr g) := Eq.trans rfl rfl
@[simp] theorem ev_notV (f : M D) : mnotV f ρ = (f ρ).bnd kNot := Eq.trans rfl rfl
def kCh (g2 : D → D → Option D) (h : M Rv) (s : Rv) (z : D) : M D := match z with
  | .bl true => mbind h fun t => mbind (muse s) fun y => mbind (muse t) fun w => mopt (g2 y w)
  | .bl false => mpure (.bl false)
  | _ => fun _ => .no
@[simp] theorem kCh_bl (g2 : D → D → Option D) (h : M Rv) (s : Rv) (b : Bool) : kCh g2 h s (.bl b) ρ = if b = true then (h ρ).bnd (fun t => mbind (muse s) fun y => mbind (muse t) fun w => mopt (g2 y w)) else .ok (.bl false) ρ := by cases b <;> rfl
@[simp] theorem ev_chain (g1 g2 : D → D → Option D) (f g h : M Rv) : mchain g1 g2 f g h ρ = (f ρ).bnd fun r => mbind g fun s => mbind (muse r) fun x => mbind (muse s) fun y => mbind (mopt (g1 x y)) (kCh g2 h s) := Eq.trans rfl rfl
@[simp] theorem ev_lnil : mlnil ρ = .ok [] ρ := Eq.trans rfl rfl
@[simp] theorem ev_lcons (f : M D) (g : M (List D)) : mlcons f g ρ = (f ρ).bnd fun d => mbind g fun ds => mpure (d :: ds) := Eq.trans rfl rfl
@[simp] theorem ev_tup (g : M (List D)) : mtup g ρ = (g ρ).bnd fun ds => mpure (.tup ds) := Eq.trans rfl rfl
@[simp] theorem ev_lst (g : M (List D)) : mlst g ρ = (g ρ).bnd fun ds => mpure (.ow false ds) := Eq.trans rfl rfl
def kFrz (s : Sl) : M D := match s with
  | .no => fun _ => .no
  | .fz d => mpure d
  | .ow _ ds => mpure (.lst ds)
  | .nt ds => mpure (.tup ds)
  | .exn _ _ _ _ => fun _ => .no
@[simp] theorem kFrz_fz (d : D) : kFrz (.fz d) ρ = .ok d ρ := Eq.trans rfl rfl
@[simp] theorem kFrz_ow (p : Bool) (d : List D) : kFrz (.ow p d) ρ = .ok (.lst d) ρ := Eq.trans rfl rfl
@[simp] theorem kFrz_nt (d : List D) : kFrz (.nt d) ρ = .ok (.tup d) ρ := Eq.trans rfl rfl
@[simp] theorem ev_frz (f : M Sl) : mfrz f ρ = (f ρ).bnd kFrz := Eq.trans rfl rfl
@[simp] theorem ev_fz (f : M D) : mfz f ρ = (f ρ).bnd fun d => mpure (.fz d) := Eq.trans rfl rfl
@[simp] theorem asI_int (i : Int) : asI (.int i) = some i := Eq.trans rfl rfl
@[simp] theorem ev_part (f : M D) : mpart f ρ = (f ρ).bnd fun d => mbind (mopt (asI d)) fun i => mpure (some i) := Eq.trans rfl rfl
@[simp] theorem ev_slice (f : M Rv) (lo hi : M (Option Int)) : mslice f lo hi ρ = (f ρ).bnd fun r => mbind lo fun l => mbind hi fun u => mbind (muse r) fun x => mopt ((aSl x l u).bind unown) := Eq.trans rfl rfl
def gMv : Option Sl → Nat → Env → Res Sl
  | some (.ow false ds), i, ρ => .ok (.ow false ds) (ρ.set i .no)
  | some (.fz d), _, ρ => .ok (.fz d) ρ
  | some (.nt ds), _, ρ => .ok (.nt ds) ρ
  | _, _, _ => .no
@[simp] theorem gMv_ow (ds : List D) (i : Nat) : gMv (some (.ow false ds)) i ρ = .ok (.ow false ds) (ρ.set i .no) := Eq.trans rfl rfl
@[simp] theorem gMv_fz (d : D) (i : Nat) : gMv (some (.fz d)) i ρ = .ok (.fz d) ρ := Eq.trans rfl rfl
@[simp] theorem gMv_nt (d : List D) (i : Nat) : gMv (some (.nt d)) i ρ = .ok (.nt d) ρ := Eq.trans rfl rfl
@[simp] theorem ev_move (i : Nat) : mmove i ρ = gMv ρ[i]? i ρ := by
  unfold mmove gMv
  cases ρ[i]? with
  | none => rfl
  | some s => cases s <;> first | rfl | (rename_i p ds; cases p <;> rfl)
def gFv : Option Sl → Nat → Env → Res D
  | some (.ow false ds), i, ρ => .ok (.lst ds) (ρ.set i (.fz (.lst ds)))
  | some (.fz d), _, ρ => .ok d ρ
  | some (.nt ds), _, ρ => .ok (.tup ds) ρ
  | _, _, _ => .no
@[simp] theorem gFv_ow (ds : List D) (i : Nat) : gFv (some (.ow false ds)) i ρ = .ok (.lst ds) (ρ.set i (.fz (.lst ds))) := Eq.trans rfl rfl
@[simp] theorem gFv_fz (d : D) (i : Nat) : gFv (some (.fz d)) i ρ = .ok d ρ := Eq.trans rfl rfl
@[simp] theorem gFv_nt (d : List D) (i : Nat) : gFv (some (.nt d)) i ρ = .ok (.tup d) ρ := Eq.trans rfl rfl
@[simp] theorem ev_frzV (i : Nat) : mfrzV i ρ = gFv ρ[i]? i ρ := by
  unfold mfrzV gFv
  cases ρ[i]? with
  | none => rfl
  | some s => cases s <;> first | rfl | (rename_i p ds; cases p <;> rfl)
/-! statements -/
@[simp] theorem ev_sBind (f : M α) (k : α → MS) : sBind f k ρ = (f ρ).bnS k := Eq.trans rfl rfl
@[simp] theorem ev_seq (f g : MS) : sSeq f g ρ = (f ρ).sq g := by
  unfold sSeq
  cases f ρ <;> rfl
@[simp] theorem ev_sNil : sNil ρ = .nx ρ := Eq.trans rfl rfl
@[simp] theorem ev_brk : sBrk ρ = .bk ρ := Eq.trans rfl rfl
@[simp] theorem ev_cnt : sCnt ρ = .ct ρ := Eq.trans rfl rfl
@[simp] theorem ev_expr (f : M D) : sExpr f ρ = (f ρ).bnS fun _ => sNil := Eq.trans rfl rfl
@[simp] theorem ev_ret (f : M Sl) : sRet f ρ = (f ρ).bnS fun s ρ => .rt s ρ := Eq.trans rfl rfl
@[simp] theorem ev_retN : sRetN ρ = .rt (.fz .non) ρ := Eq.trans rfl rfl
@[simp] theorem ev_sIf (t : M Bool) (f g : MS) : sIf t f g ρ = (t ρ).bnS fun b ρ => if b = true then f ρ else g ρ := by
  show (t ρ).bnS _ = _
  congr; funext b ρ; split <;> rfl
@[simp] theorem ev_raise (c : Str) (f : M D) : sRaise c f ρ = (f ρ).bnS fun d ρ => .ex c d ρ := Eq.trans rfl rfl
def gSt : Option Sl → Nat → Sl → Env → Option Env
  | some (.ow true _), _, _, _ => none
  | some _, i, s, ρ => some (ρ.set i s)
  | none, _, _, _ => none
@[simp] theorem gSt_no (i : Nat) (s : Sl) : gSt (some .no) i s ρ = some (ρ.set i s) := Eq.trans rfl rfl
@[simp] theorem gSt_fz (d : D) (i : Nat) (s : Sl) : gSt (some (.fz d)) i s ρ = some (ρ.set i s) := Eq.trans rfl rfl
@[simp] theorem gSt_nt (d : List D) (i : Nat) (s : Sl) : gSt (some (.nt d)) i s ρ = some (ρ.set i s) := Eq.trans rfl rfl
@[simp] theorem gSt_ow (d : List D) (i : Nat) (s : Sl) : gSt (some (.ow false d)) i s ρ = some (ρ.set i s) := Eq.trans rfl rfl
@[simp] theorem ev_setSl (i : Nat) (s : Sl) : setSl i s ρ = gSt ρ[i]? i s ρ := by
  unfold setSl gSt
  cases ρ[i]? with
  | none => rfl
  | some s => cases s <;> first | rfl | (rename_i p ds; cases p <;> rfl)
def oNx : Option Env → Out
  | some ρ => .nx ρ
  | none => .no
@[simp] theorem oNx_some (ρ : Env) : oNx (some ρ) = .nx ρ := Eq.trans rfl rfl
@[simp] theorem ev_set (i : Nat) (f : M Sl) : sSet i f ρ = (f ρ).bnS fun s ρ => oNx (setSl i s ρ) := by
  exact congrArg (fun k => (f ρ).bnS k) (funext fun s => funext fun ρ => by cases setSl i s ρ <;> rfl)
@[simp] theorem ev_xnil : mxnil ρ = .ok [] ρ := Eq.trans rfl rfl
@[simp] theorem ev_xcons (f : M Sl) (g : M (List Sl)) : mxcons f g ρ = (f ρ).bnd fun d => mbind g fun ds => mpure (d :: ds) := Eq.trans rfl rfl
@[simp] theorem setSls0 : setSls [] [] ρ = some ρ := Eq.trans rfl rfl
@[simp] theorem setSls1 (i : Nat) (is : List Nat) (s : Sl) (ss : List Sl) : setSls (i :: is) (s :: ss) ρ = (setSl i s ρ).bind (setSls is ss) := Eq.trans rfl rfl
@[simp] theorem ev_par (is : List Nat) (f : M (List Sl)) : sPar is f ρ = (f ρ).bnS fun ss ρ => oNx (setSls is ss ρ) := by
  exact congrArg (fun k => (f ρ).bnS k) (funext fun s => funext fun ρ => by cases setSls is s ρ <;> rfl)
def kApp : Option Sl → Nat → D → Env → Out
  | some (.ow p ds), i, d, ρ => if ds.length < sizeLine then .nx (ρ.set i (.ow p (ds ++ [d]))) else .no
  | _, _, _, _ => .no
@[simp] theorem kApp_ow (p : Bool) (ds : List D) (i : Nat) (d : D) : kApp (some (.ow p ds)) i d ρ = if ds.length < sizeLine then .nx (ρ.set i (.ow p (ds ++ [d]))) else .no := Eq.trans rfl rfl
def gApp (o : Option Sl) (i : Nat) (f : M D) (ρ : Env) : Out := match o with
  | some (.ow _ _) => (f ρ).bnS fun d ρ => kApp ρ[i]? i d ρ
  | _ => .no
@[simp] theorem gApp_ow (p : Bool) (ds : List D) (i : Nat) (f : M D) : gApp (some (.ow p ds)) i f ρ = (f ρ).bnS fun d ρ => kApp ρ[i]? i d ρ := Eq.trans rfl rfl
@[simp] theorem ev_app (i : Nat) (f : M D) : sApp i f ρ = gApp ρ[i]? i f ρ := by
  have e : ∀ (d : D) (ρ : Env), (match ρ[i]? with
    | some (.ow p ds) => if ds.length < sizeLine then Out.nx (ρ.set i (.ow p (ds ++ [d]))) else .no
    | _ => .no) = kApp ρ[i]? i d ρ := fun d ρ => by
    unfold kApp
    cases ρ[i]? with
    | none => rfl
    | some s => cases s <;> rfl
  unfold sApp gApp
  cases ρ[i]? with
  | none => rfl
  | some s =>
    cases s with
    | ow p ds => exact congrArg (fun k => (f ρ).bnS k) (funext fun d => funext fun ρ => e d ρ)
    | _ => rfl
def kPut : Option Sl → Nat → D → D → Env → Out
  | some (.ow p ds), i, .int k, d, ρ => (match ixN ds.length k with
    | some j => .nx (ρ.set i (.ow p (ds.set j d)))
    | none => .no)
  | _, _, _, _, _ => .no
theorem kPut_ow {p : Bool} {ds : List D} {i j : Nat} {k : Int} {d : D} (h : ixN ds.length k = some j) : kPut (some (.ow p ds)) i (.int k) d ρ = .nx (ρ.set i (.ow p (ds.set j d))) := by
  simp [kPut, h]
def gPut (o : Option Sl) (i : Nat) (fi : M D) (d : D) (ρ : Env) : Out := match o with
  | some (.ow _ _) => (fi ρ).bnS fun k ρ => kPut ρ[i]? i k d ρ
  | _ => .no
@[simp] theorem gPut_ow (p : Bool) (ds : List D) (i : Nat) (fi : M D) (d : D) : gPut (some (.ow p ds)) i fi d ρ = (fi ρ).bnS fun k ρ => kPut ρ[i]? i k d ρ := Eq.trans rfl rfl
@[simp] theorem ev_put (i : Nat) (fi f : M D) : sPut i fi f ρ = (f ρ).bnS fun d ρ => gPut ρ[i]? i fi d ρ := by
  have e : ∀ (d k : D) (ρ : Env), (match ρ[i]? with
    | some (.ow p ds) => (match k with
      | .int k => (match ixN ds.length k with
        | some j => Out.nx (ρ.set i (.ow p (ds.set j d)))
        | none => .no)
      | _ => .no)
    | _ => .no) = kPut ρ[i]? i k d ρ := fun d k ρ => by
    cases ρ[i]? with
    | none => cases k <;> rfl
    | some s => cases s <;> cases k <;> rfl
  unfold sPut
  refine congrArg (fun k => (f ρ).bnS k) (funext fun d => funext fun ρ => ?_)
  unfold gPut
  cases ρ[i]? with
  | none => rfl
  | some s =>
    cases s with
    | ow p ds => exact congrArg (fun k => (fi ρ).bnS k) (funext fun k => funext fun ρ => e d k ρ)
    | _ => rfl
/-! iteration -/
def kL : D → M (List D) := asL
def kT : D → M (List D) := asT
@[simp] theorem asL_lst (ds : List D) : asL (.lst ds) ρ = .ok ds ρ := Eq.trans rfl rfl
@[simp] theorem asT_tup (ds : List D) : asT (.tup ds) ρ = .ok ds ρ := Eq.trans rfl rfl
@[simp] theorem asC_str (x : Str) : asC (.str x) ρ = .ok (strD x) ρ := Eq.trans rfl rfl
@[simp] theorem asEL_lst (ds : List D) : asEL (.lst ds) ρ = .ok (enumD 0 ds) ρ := Eq.trans rfl rfl
@[simp] theorem asET_tup (ds : List D) : asET (.tup ds) ρ = .ok (enumD 0 ds) ρ := Eq.trans rfl rfl
theorem asR1_of {j : Int} (h : Sm j) : asR1 (.int j) ρ = .ok (rngD 0 1 j.toNat) ρ := if_pos h
theorem asR1_nat {n : Nat} (h : Sm (n : Int)) : asR1 (.int (n : Nat)) ρ = .ok (rngD 0 1 n) ρ := by
  rw [asR1_of h, Int.toNat_natCast]
@[simp] theorem ev_itL (f : M D) : mItL f ρ = (f ρ).bnd asL := Eq.trans rfl rfl
@[simp] theorem ev_itT (f : M D) : mItT f ρ = (f ρ).bnd asT := Eq.trans rfl rfl
@[simp] theorem ev_itC (f : M D) : mItC f ρ = (f ρ).bnd asC := Eq.trans rfl rfl
@[simp] theorem ev_for (it : M (List D)) (g : D → Env → Option Env) (body : MS) : sFor it g body ρ = (it ρ).bnS fun ds => sLoop g body ds := Eq.trans rfl rfl
@[simp] theorem ev_loop0 (g : D → Env → Option Env) (body : MS) : sLoop g body [] ρ = .nx ρ := Eq.trans rfl rfl
def loopK (g : D → Env → Option Env) (body : MS) (ds : List D) : Out → Out
  | .nx ρ => sLoop g body ds ρ
  | .ct ρ => sLoop g body ds ρ
  | .bk ρ => .nx ρ
  | .rt s ρ => .rt s ρ
  | .ex c w ρ => .ex c w ρ
  | .no => .no
@[simp] theorem loopK_nx (g : D → Env → Option Env) (body : MS) (ds : List D) : loopK g body ds (.nx ρ) = sLoop g body ds ρ := Eq.trans rfl rfl
@[simp] theorem loopK_ct (g : D → Env → Option Env) (body : MS) (ds : List D) : loopK g body ds (.ct ρ) = sLoop g body ds ρ := Eq.trans rfl rfl
@[simp] theorem loopK_bk (g : D → Env → Option Env) (body : MS) (ds : List D) : loopK g body ds (.bk ρ) = .nx ρ := Eq.trans rfl rfl
@[simp] theorem loopK_rt (g : D → Env → Option Env) (body : MS) (ds : List D) (s : Sl) : loopK g body ds (.rt s ρ) = .rt s ρ := Eq.trans rfl rfl
@[simp] theorem loopK_ex (g : D → Env → Option Env) (body : MS) (ds : List D) (c : Str) (w : D) : loopK g body ds (.ex c w ρ) = .ex c w ρ := Eq.trans rfl rfl
theorem ev_loop1 (g : D → Env → Option Env) (body : MS) (d : D) (ds : List D) {ρ1 : Env} (e : g d ρ = some ρ1) : sLoop g body (d :: ds) ρ = loopK g body ds (body ρ1) := by
  conv => lhs; unfold sLoop
  simp only [e]
  cases body ρ1 <;> rfl
@[simp] theorem ev_gNm (i : Nat) (d : D) : gNm i d ρ = setSl i (.fz d) ρ := Eq.trans rfl rfl
@[simp] theorem ev_gTp (h : List D → Env → Option Env) (ds : List D) : gTp h (.tup ds) ρ = h ds ρ := Eq.trans rfl rfl
@[simp] theorem ev_gCs (g : D → Env → Option Env) (h : List D → Env → Option Env) (d : D) (ds : List D) : gCs g h (d :: ds) ρ = (g d ρ).bind (h ds) := Eq.trans rfl rfl
@[simp] theorem ev_gNl : gNl [] ρ = some ρ := Eq.trans rfl rfl
/-! comprehensions by a function of the item -/
def gWp : Option Sl → Nat → Env → Option Env
  | some (.ow _ _), _, _ => none
  | none, _, _ => none
  | some _, i, ρ => some (ρ.set i .no)
@[simp] theorem gWp_no (i : Nat) : gWp (some .no) i ρ = some (ρ.set i .no) := Eq.trans rfl rfl
@[simp] theorem gWp_fz (d : D) (i : Nat) : gWp (some (.fz d)) i ρ = some (ρ.set i .no) := Eq.trans rfl rfl
@[simp] theorem gWp_nt (d : List D) (i : Nat) : gWp (some (.nt d)) i ρ = some (ρ.set i .no) := Eq.trans rfl rfl
@[simp] theorem wipe0 : wipeR [] ρ = some ρ := Eq.trans rfl rfl
@[simp] theorem wipe1 (i : Nat) (is : List Nat) : wipeR (i :: is) ρ = (wipeR is ρ).bind fun ρ' => gWp ρ'[i]? i ρ' := by
  show (wipeR is ρ).bind _ = _
  congr; funext ρ'
  cases ρ'[i]? with
  | none => rfl
  | some s => cases s <;> rfl
/-- one turn of a comprehension that keeps its frame: what it adds -/
def turnIs (g : D → Env → Option Env) (ft : M Bool) (fe : M D) (own : List Nat) (ρ : Env) (d : D) (r : Option D) : Prop :=
  ∃ ρ1 ρ2 b, g d ρ = some ρ1 ∧ ft ρ1 = .ok b ρ2 ∧ (match r with
    | none => b = false ∧ wipeR own ρ2 = some ρ
    | some y => b = true ∧ ∃ ρ3, fe ρ2 = .ok y ρ3 ∧ wipeR own ρ3 = some ρ)
theorem cLoop_map {g : D → Env → Option Env} {ft : M Bool} {fe : M D} {own : List Nat} {ρ : Env} (F : D → Option D) : ∀ {ds as : List D}, (∀ d ∈ ds, turnIs g ft fe own ρ d (F d)) → as.length + ds.length ≤ sizeLine → cLoop own (cTurn g ft fe) ds as ρ = .ok (as ++ ds.filterMap F) ρ
  | [], as, _, _ => by simp [cLoop]
  | d :: ds, as, h, hz => by
    obtain ⟨ρ1, ρ2, b, e1, e2, e3⟩ := h d (.head _)
    have hlt : as.length < sizeLine := by simp at hz; omega
    unfold cLoop
    cases q : F d with
    | none =>
      rw [q] at e3
      obtain ⟨rfl, e4⟩ := e3
      have : cTurn g ft fe d as ρ = .ok as ρ2 := by simp [cTurn, e1, e2]
      simp only [this, e4]
      rw [cLoop_map F (fun x hx => h x (List.mem_cons_of_mem _ hx)) (by simp at hz; omega), List.filterMap_cons, q]
    | some y =>
      rw [q] at e3
      obtain ⟨rfl, ρ3, e4, e5⟩ := e3
      have : cTurn g ft fe d as ρ = .ok (as ++ [y]) ρ3 := by simp [cTurn, e1, e2, e4, hlt]
      simp only [this, e5]
      rw [cLoop_map F (fun x hx => h x (List.mem_cons_of_mem _ hx)) (by simp at hz ⊢; omega), List.filterMap_cons, q]
      simp
theorem ev_comp {own : List Nat} {it : M (List D)} {g : D → Env → Option Env} {ft : M Bool} {fe : M D} {ds : List D} {ρ1 ρ2 : Env} (F : D → Option D) (e1 : it ρ = .ok ds ρ1) (e2 : wipeR own ρ1 = some ρ2) (h : ∀ d ∈ ds, turnIs g ft fe own ρ2 d (F d)) (hz : ds.length ≤ sizeLine) : mComp own it g ft fe ρ = .ok (.ow false (ds.filterMap F)) ρ2 := by
  unfold mComp
  simp only [ev_bind, e1, bnd_ok, e2]
  rw [cLoop_map F h (by simpa using hz)]
  rfl
/-! calls -/
@[simp] theorem lends0 : lends [] = [] := Eq.trans rfl rfl
@[simp] theorem lends1 (s : Sl) (as : List Ag) : lends (.dat s :: as) = lends as := Eq.trans rfl rfl
@[simp] theorem lends2 (i : Nat) (as : List Ag) : lends (.lend i :: as) = i :: lends as := Eq.trans rfl rfl
@[simp] theorem resA0 : resA ρ [] = some [] := Eq.trans rfl rfl
@[simp] theorem resA1 (s : Sl) (as : List Ag) : resA ρ (.dat s :: as) = (resA ρ as).map (s :: ·) := Eq.trans rfl rfl
def gLd : Option Sl → Option Sl
  | some (.ow _ ds) => some (.ow true ds)
  | _ => none
@[simp] theorem gLd_ow (p : Bool) (ds : List D) : gLd (some (.ow p ds)) = some (.ow true ds) := Eq.trans rfl rfl
@[simp] theorem setOw_ow {i : Nat} {es : List D} : setOw i es ρ = (match ρ[i]? with
  | some (.ow p _) => ρ.set i (.ow p es)
  | _ => ρ) := rfl
@[simp] theorem backA0 : backA [] [] ρ = some ρ := Eq.trans rfl rfl
@[simp] theorem backA1 (s t : Sl) (as : List Ag) (ss : List Sl) : backA (.dat s :: as) (t :: ss) ρ = backA as ss ρ := Eq.trans rfl rfl
@[simp] theorem backA2 (i : Nat) (p : Bool) (ds : List D) (as : List Ag) (ss : List Sl) : backA (.lend i :: as) (.ow p ds :: ss) ρ = backA as ss (setOw i ds ρ) := Eq.trans rfl rfl
def kRet (as : List Ag) (ρ : Env) : FR → Res Sl
  | .ret s ts => (match backA as ts ρ with
    | some ρ' => .ok s ρ'
    | none => .no)
  | .ex c w ts => (match backA as ts ρ with
    | some ρ' => .ex c w ρ'
    | none => .no)
  | .no => .no
def oRes : Option Env → (Env → Res Sl) → Res Sl
  | some ρ, k => k ρ
  | none, _ => .no
@[simp] theorem oRes_some (ρ : Env) (k : Env → Res Sl) : oRes (some ρ) k = k ρ := Eq.trans rfl rfl
@[simp] theorem kRet_ret (as : List Ag) (s : Sl) (ts : List Sl) : kRet as ρ (.ret s ts) = oRes (backA as ts ρ) (.ok s) := by
  show (match backA as ts ρ with | some ρ' => Res.ok s ρ' | none => .no) = _
  cases backA as ts ρ <;> rfl
@[simp] theorem kRet_ex (as : List Ag) (c : Str) (w : D) (ts : List Sl) : kRet as ρ (.ex c w ts) = oRes (backA as ts ρ) (.ex c w) := by
  show (match backA as ts ρ with | some ρ' => Res.ex c w ρ' | none => .no) = _
  cases backA as ts ρ <;> rfl
def oRun : Option (List Sl) → (List Sl → Res Sl) → Res Sl
  | some ss, k => k ss
  | none, _ => .no
@[simp] theorem oRun_some (ss : List Sl) (k : List Sl → Res Sl) : oRun (some ss) k = k ss := Eq.trans rfl rfl
@[simp] theorem ev_run (F : FM) (as : List Ag) : mRun F as ρ = if (lends as).Nodup then oRun (resA ρ as) fun ss => kRet as ρ (F ss) else .no := by
  show (if (lends as).Nodup then _ else _) = _
  split
  · cases resA ρ as with
    | none => rfl
    | some ss => show (match F ss with | .ret s ts => _ | .ex c w ts => _ | .no => _) = kRet as ρ (F ss); cases F ss <;> rfl
  · rfl
@[simp] theorem ev_call (F : FM) (f : M (List Ag)) : mCall F f ρ = (f ρ).bnd (mRun F) := Eq.trans rfl rfl
@[simp] theorem ev_gnil : mgnil ρ = .ok [] ρ := Eq.trans rfl rfl
@[simp] theorem ev_gcons (f : M Ag) (g : M (List Ag)) : mgcons f g ρ = (f ρ).bnd fun a => mbind g fun as => mpure (a :: as) := Eq.trans rfl rfl
@[simp] theorem ev_dat (f : M D) : mdat f ρ = (f ρ).bnd fun d => mpure (.dat (.fz d)) := Eq.trans rfl rfl
def gAg : Option Sl → Nat → Env → Res Ag
  | some (.fz d), _, ρ => .ok (.dat (.fz d)) ρ
  | some (.nt ds), _, ρ => .ok (.dat (.nt ds)) ρ
  | some (.ow _ _), i, ρ => .ok (.lend i) ρ
  | _, _, _ => .no
@[simp] theorem gAg_fz (d : D) (i : Nat) : gAg (some (.fz d)) i ρ = .ok (.dat (.fz d)) ρ := Eq.trans rfl rfl
@[simp] theorem gAg_nt (d : List D) (i : Nat) : gAg (some (.nt d)) i ρ = .ok (.dat (.nt d)) ρ := Eq.trans rfl rfl
@[simp] theorem gAg_ow (p : Bool) (d : List D) (i : Nat) : gAg (some (.ow p d)) i ρ = .ok (.lend i) ρ := Eq.trans rfl rfl
@[simp] theorem ev_ag (i : Nat) : mAg i ρ = gAg ρ[i]? i ρ := by
  unfold mAg gAg
  cases ρ[i]? with
  | none => rfl
  | some s => cases s <;> rfl
@[simp] theorem resA2 (i : Nat) (as : List Ag) : resA ρ (.lend i :: as) = (gLd ρ[i]?).bind fun s => (resA ρ as).map (s :: ·) := by
  show (match ρ[i]? with | some (.ow _ ds) => _ | _ => _) = _
  cases ρ[i]? with
  | none => rfl
  | some s => cases s <;> first | rfl | (show (resA ρ as).map _ = _; rfl)
/-! operators -/
@[simp] theorem aInt_int (f : Int → Int → Int) (i j : Int) : aInt f (.int i) (.int j) = some (.int (f i j)) := Eq.trans rfl rfl
@[simp] theorem aIntC_int (C : Int → Int → Prop) [∀ i j, Decidable (C i j)] (f : Int → Int → Int) (i j : Int) : aIntC C f (.int i) (.int j) = if C i j then some (.int (f i j)) else none := Eq.trans rfl rfl
@[simp] theorem aCmp_int (f : Int → Int → Bool) (i j : Int) : aCmp f (.int i) (.int j) = some (.bl (f i j)) := Eq.trans rfl rfl
@[simp] theorem aNeg_int (i : Int) : aNeg (.int i) = some (.int (-i)) := Eq.trans rfl rfl
@[simp] theorem fInt_int (i : Int) : fInt [.int i] = some (.int i) := Eq.trans rfl rfl
@[simp] theorem fInt_bl (b : Bool) : fInt [.bl b] = some (.int (if b then 1 else 0)) := Eq.trans rfl rfl
@[simp] theorem fMax_int (i j : Int) : fMax [.int i, .int j] = some (.int (if j > i then j else i)) := Eq.trans rfl rfl
@[simp] theorem fMin_int (i j : Int) : fMin [.int i, .int j] = some (.int (if j < i then j else i)) := Eq.trans rfl rfl
@[simp] theorem fLen_tup (ds : List D) : fLen [.tup ds] = some (.int ds.length) := Eq.trans rfl rfl
@[simp] theorem fLen_lst (ds : List D) : fLen [.lst ds] = some (.int ds.length) := Eq.trans rfl rfl
theorem fLen_str {z : Str} (h : z.length ≤ sizeLine) : fLen [.str z] = some (.int z.length) := if_pos h
@[simp] theorem dIx_tup (ds : List D) (i : Int) : dIx (.tup ds) (.int i) = atI ds i := Eq.trans rfl rfl
@[simp] theorem dIx_lst (ds : List D) (i : Int) : dIx (.lst ds) (.int i) = atI ds i := Eq.trans rfl rfl
@[simp] theorem aAdd_int (i j : Int) : aAdd (.int i) (.int j) = some (.fz (.int (i + j))) := Eq.trans rfl rfl
@[simp] theorem aAdd_str (a b : Str) : aAdd (.str a) (.str b) = if a.length + b.length ≤ sizeLine then some (.fz (.str (a ++ b))) else none := Eq.trans rfl rfl
@[simp] theorem aAdd_tup (a b : List D) : aAdd (.tup a) (.tup b) = if a.length + b.length ≤ sizeLine then some (.fz (.tup (a ++ b))) else none := Eq.trans rfl rfl
@[simp] theorem aAdd_lst (a b : List D) : aAdd (.lst a) (.lst b) = if a.length + b.length ≤ sizeLine then some (.ow false (a ++ b)) else none := Eq.trans rfl rfl
@[simp] theorem aMul_int (i j : Int) : aMul (.int i) (.int j) = if CMul i j then some (.fz (.int (i * j))) else none := Eq.trans rfl rfl
@[simp] theorem aIsN_non (x : D) : aIsN x .non = some (.bl (isNon x)) := Eq.trans rfl rfl
@[simp] theorem aNotN_non (x : D) : aNotN x .non = some (.bl (!isNon x)) := Eq.trans rfl rfl
@[simp] theorem isNon_non : isNon .non = true := Eq.trans rfl rfl
@[simp] theorem isNon_bl (b : Bool) : isNon (.bl b) = false := Eq.trans rfl rfl
@[simp] theorem isNon_int (b : Int) : isNon (.int b) = false := Eq.trans rfl rfl
@[simp] theorem isNon_str (b : Str) : isNon (.str b) = false := Eq.trans rfl rfl
@[simp] theorem isNon_tup (b : List D) : isNon (.tup b) = false := Eq.trans rfl rfl
@[simp] theorem isNon_lst (b : List D) : isNon (.lst b) = false := Eq.trans rfl rfl
@[simp] theorem isTy_eq (n t : String) (d : D) (h : tyN d = some t) : isTy n d = some (.bl (t == n || (t == "bool" && n == "int"))) := by unfold isTy; rw [h]; rfl
@[simp] theorem tyN_non : tyN .non = some "NoneType" := Eq.trans rfl rfl
@[simp] theorem tyN_bl (b : Bool) : tyN (.bl b) = some "bool" := Eq.trans rfl rfl
@[simp] theorem tyN_int (b : Int) : tyN (.int b) = some "int" := Eq.trans rfl rfl
@[simp] theorem tyN_str (b : Str) : tyN (.str b) = some "str" := Eq.trans rfl rfl
@[simp] theorem tyN_tup (b : List D) : tyN (.tup b) = some "tuple" := Eq.trans rfl rfl
@[simp] theorem tyN_lst (b : List D) : tyN (.lst b) = some "list" := Eq.trans rfl rfl
@[simp] theorem fTupN_lst (ds : List D) : fTupN [.lst ds] = some (.nt ds) := Eq.trans rfl rfl
@[simp] theorem fList_tup (ds : List D) : fList [.tup ds] = some (.ow false ds) := Eq.trans rfl rfl
@[simp] theorem fList_lst (ds : List D) : fList [.lst ds] = some (.ow false ds) := Eq.trans rfl rfl
@[simp] theorem fTup_tup (ds : List D) : fTup [.tup ds] = some (.tup ds) := Eq.trans rfl rfl
@[simp] theorem fTup_lst (ds : List D) : fTup [.lst ds] = some (.tup ds) := Eq.trans rfl rfl
/-! texts -/
def kM1 (op : Str → D → Option Sl) (g : M Rv) (d : D) : M Sl := match d with
  | .str a => mbind g fun r => mbind (muse r) fun y => mopt ((op a y).bind unown)
  | _ => fun _ => .no
@[simp] theorem kM1_str (op : Str → D → Option Sl) (g : M Rv) (a : Str) : kM1 op g (.str a) ρ = (g ρ).bnd fun r => mbind (muse r) fun y => mopt ((op a y).bind unown) := Eq.trans rfl rfl
@[simp] theorem ev_m1 (op : Str → D → Option Sl) (f : M D) (g : M Rv) : mm1 op f g ρ = (f ρ).bnd (kM1 op g) := Eq.trans rfl rfl
def kM0 (op : Str → Option Sl) (d : D) : M Sl := match d with
  | .str a => mopt ((op a).bind unown)
  | _ => fun _ => .no
@[simp] theorem kM0_str (op : Str → Option Sl) (a : Str) : kM0 op (.str a) ρ = mopt ((op a).bind unown) ρ := Eq.trans rfl rfl
@[simp] theorem ev_m0 (op : Str → Option Sl) (f : M D) : mm0 op f ρ = (f ρ).bnd (kM0 op) := Eq.trans rfl rfl
theorem atI_nat {α : Type} {xs : List α} {i : Int} (h0 : 0 ≤ i) (h1 : i < xs.length) : atI xs i = xs[i.toNat]? := by
  unfold atI ixN
  rw [if_pos h0, if_pos h1]
  rfl
@[simp] theorem atI0 {α : Type} (x : α) (xs : List α) : atI (x :: xs) 0 = some x := by
  rw [atI_nat (by omega) (by simp only [List.length_cons]; omega)]
  rfl
@[simp] theorem atI1 {α : Type} (x y : α) (xs : List α) : atI (x :: y :: xs) 1 = some y := by
  rw [atI_nat (by omega) (by simp only [List.length_cons]; omega)]
  rfl
@[simp] theorem kPut0 {p : Bool} {x : D} {xs : List D} {i : Nat} {d : D} : kPut (some (.ow p (x :: xs))) i (.int 0) d ρ = .nx (ρ.set i (.ow p (d :: xs))) :=
  kPut_ow (j := 0) (by unfold ixN; rw [if_pos (by omega), if_pos (by simp only [List.length_cons]; omega)]; rfl)
@[simp] theorem kPut1 {p : Bool} {x y : D} {xs : List D} {i : Nat} {d : D} : kPut (some (.ow p (x :: y :: xs))) i (.int 1) d ρ = .nx (ρ.set i (.ow p (x :: d :: xs))) :=
  kPut_ow (j := 1) (by unfold ixN; rw [if_pos (by omega), if_pos (by simp only [List.length_cons]; omega)]; rfl)
/-! def -/
@[simp] theorem outS_fz (d : D) (ss : List Sl) (r : Sl) (ρ : Env) : outS (.fz d :: ss) (r :: ρ) = .fz d :: outS ss ρ := Eq.trans rfl rfl
@[simp] theorem outS_nt (d : List D) (ss : List Sl) (r : Sl) (ρ : Env) : outS (.nt d :: ss) (r :: ρ) = .nt d :: outS ss ρ := Eq.trans rfl rfl
@[simp] theorem outS_ow (d : List D) (ss : List Sl) (r : Sl) (ρ : Env) : outS (.ow true d :: ss) (r :: ρ) = r :: outS ss ρ := Eq.trans rfl rfl
@[simp] theorem outS_exn (a b : Addr) (c : Str) (w : D) (ss : List Sl) (r : Sl) (ρ : Env) : outS (.exn a b c w :: ss) (r :: ρ) = .exn a b c w :: outS ss ρ := Eq.trans rfl rfl
@[simp] theorem outS_nil (ρ : Env) : outS [] ρ = [] := by cases ρ <;> rfl
def Out.fr (ss : List Sl) : Out → FR
  | .nx ρ => .ret (.fz .non) (outS ss ρ)
  | .rt s ρ => .ret s (outS ss ρ)
  | .ex c w ρ => .ex c w (outS ss ρ)
  | _ => .no
@[simp] theorem fr_nx (ss : List Sl) : (Out.nx ρ).fr ss = .ret (.fz .non) (outS ss ρ) := Eq.trans rfl rfl
@[simp] theorem fr_rt (ss : List Sl) (s : Sl) : (Out.rt s ρ).fr ss = .ret s (outS ss ρ) := Eq.trans rfl rfl
@[simp] theorem fr_ex (ss : List Sl) (c : Str) (w : D) : (Out.ex c w ρ).fr ss = .ex c w (outS ss ρ) := Eq.trans rfl rfl
theorem ev_def (n : Nat) (f : MS) (ss : List Sl) : fnOf n f ss = (f (ss ++ List.replicate (n - ss.length) .no)).fr ss := by
  unfold fnOf
  cases f (ss ++ List.replicate (n - ss.length) .no) <;> rfl
end
end ME
namespace HF
open PySem PySem.Spec PyProof.Rows L2 LamX ME He
abbrev P : Program := (PySem.Challenge.rw_soonestkept_k90_rows_by_names).prog
structure ExOk (K : PySem.W.Frag) : Prop where
  nol : noL K = true
  tnd : ((tabF K).map (·.1)).Nodup
  ho : PySem.W.nsIn K cStatics "thirdparty.any" = some none
  fR : PySem.W.fnIn K (ma K (ga K "Refused") "__init__") = true
  tR : PySem.W.typeIn K (.ref (ma K (ga K "Refused") "__init__")) = some (.type "function")
  bad : ∀ c ∈ raisedN, BadK K (ga K "Refused") (ga K c)
  kit : ∀ c ∈ raisedN, ∀ y ∈ clsN, PySem.W.kitOne K (.ref (ga K c)) (.ref (ga K y)) = some (c == y)
  ini : ∀ d ∈ ini, iniB PySem.Challenge.pw_soonestkept_k90_rows_by_names.main.file K d = true
  tup : ∀ p ∈ tupT, tupB K p.1 (p.2.map Dv.str) = true
theorem ex_ok {K : PySem.W.Frag} (h : ex K = true) : ExOk K := by
  obtain ⟨h0, h⟩ := ba h
  obtain ⟨h00, h01⟩ := ba h0
  obtain ⟨h1, h⟩ := ba h
  obtain ⟨h2, h⟩ := ba h
  obtain ⟨h3, h⟩ := ba h
  obtain ⟨h4, h⟩ := ba h
  obtain ⟨h5, h⟩ := ba h
  obtain ⟨h6, h7⟩ := ba h
  exact ⟨h00, of_decide_eq_true h01, eqO_ok h1, h2, of_decide_eq_true h3, fun c hc => badB_ok (List.all_eq_true.mp h4 c hc), fun c hc y hy => kitB_ok (List.all_eq_true.mp h5 c hc) hy, fun d hd => List.all_eq_true.mp h6 d hd, fun p hp => List.all_eq_true.mp h7 p hp⟩
section
variable {w : World} {K : PySem.W.Frag} {mg : Str → Option Value} {h base : Heap}
theorem fRef (X : K.In h) (G : h.Ns mainGlobals mg) (c : SaysY fa fn tf ini ex w h K) (hs : mg "super" = none) : FnR P w K mg base CXn 1 (ma K (ga K "Refused") "__init__") (spRef K (ga K "Refused")) := by
  have o := ex_ok c.x.more
  obtain ⟨cc, fd, dV, cd, S, hD⟩ := ini_ok (P := P) (d := i_Refused) (c.ini 0) (o.ini _ (.head _)) hs (by decide +kernel)
  refine fn_ref S ⟨rfl, rfl, rfl, by decide +kernel, rfl, by decide +kernel, by decide +kernel, by decide +kernel, rfl, rfl⟩ rfl (fun s us X hl => S.binds1 hD (List.cons_ne_nil _ _) (fun T kV doc pm an cdv ct cc us its hl hi => ?_) s us X hl) o.ho fun L => rfl
  match us, its, hl, hi with
  | [_, _, _], [_], _, _ => exact ⟨_, rfl, rfl⟩
theorem bad_of {c : Str} {j : Nat} {d : IniD} (X : K.In h) (G : h.Ns mainGlobals mg) (cs : SaysY fa fn tf ini ex w h K) (hs : mg "super" = none) (hj : ini[j]? = some d) (hd : d.cls = c) (hc : c ∈ raisedN) (hg : (Fa.glo c).ok K = true)
    (hF : ∀ {cc fd dV cd}, SDef P K mg "__init__" d.qual d.st "self" (ga K d.cls) (ma K (ga K d.cls) "__init__") cc fd dV cd → DflV K dV (d.dfl.map (Dv.v K)) → BadK K (ga K "Refused") (ga K d.cls) → ExOk K → FnR P w K mg base CXn 1 (ma K (ga K "Refused") "__init__") (spRef K (ga K "Refused")) → FnR P w K mg base CXn 2 (ma K (ga K d.cls) "__init__") (spBad K (ga K "Refused") (ga K d.cls) c)) :
    BadC P w K mg base 2 (ga K "Refused") c (ga K c) (ma K (ga K c) "__init__") := by
  subst hd
  have o := ex_ok cs.x.more
  have B := o.bad d.cls hc
  obtain ⟨cc, fd, dV, cd, S, hD⟩ := ini_ok (P := P) (d := d) (cs.ini j hj) (o.ini _ (List.mem_of_getElem? hj)) hs (by decide +kernel)
  exact ⟨glo_ok X G hg, B.rf, B.iC, B.tI, hF S hD B o (fRef X G cs hs)⟩
theorem bad_BadNames (X : K.In h) (G : h.Ns mainGlobals mg) (cs : SaysY fa fn tf ini ex w h K) (hs : mg "super" = none) (hg : (Fa.glo "BadNames").ok K = true) : BadC P w K mg base 2 (ga K "Refused") "BadNames" (ga K "BadNames") (ma K (ga K "BadNames") "__init__") :=
  bad_of (j := 1) (d := i_BadNames) X G cs hs rfl rfl (by decide) hg fun S hD B o F2 =>
    fn_bad S ⟨rfl, rfl, rfl, by decide +kernel, rfl, by decide +kernel, by decide +kernel, by decide +kernel, rfl, rfl⟩ rfl
      (fun s us X hl => S.binds0 hD (fun kV doc pm an cdv ct cc us hl => match us, hl with | [_, _], _ => rfl) s us X hl) F2 B.mC B.sC o.fR o.tR o.ho fun L => rfl
theorem bad_BadRow (X : K.In h) (G : h.Ns mainGlobals mg) (cs : SaysY fa fn tf ini ex w h K) (hs : mg "super" = none) (hg : (Fa.glo "BadRow").ok K = true) : BadC P w K mg base 2 (ga K "Refused") "BadRow" (ga K "BadRow") (ma K (ga K "BadRow") "__init__") :=
  bad_of (j := 2) (d := i_BadRow) X G cs hs rfl rfl (by decide) hg fun S hD B o F2 =>
    fn_bad S ⟨rfl, rfl, rfl, by decide +kernel, rfl, by decide +kernel, by decide +kernel, by decide +kernel, rfl, rfl⟩ rfl
      (fun s us X hl => S.binds0 hD (fun kV doc pm an cdv ct cc us hl => match us, hl with | [_, _], _ => rfl) s us X hl) F2 B.mC B.sC o.fR o.tR o.ho fun L => rfl
theorem bad_BadText (X : K.In h) (G : h.Ns mainGlobals mg) (cs : SaysY fa fn tf ini ex w h K) (hs : mg "super" = none) (hg : (Fa.glo "BadText").ok K = true) : BadC P w K mg base 2 (ga K "Refused") "BadText" (ga K "BadText") (ma K (ga K "BadText") "__init__") :=
  bad_of (j := 3) (d := i_BadText) X G cs hs rfl rfl (by decide) hg fun S hD B o F2 =>
    fn_bad S ⟨rfl, rfl, rfl, by decide +kernel, rfl, by decide +kernel, by decide +kernel, by decide +kernel, rfl, rfl⟩ rfl
      (fun s us X hl => S.binds0 hD (fun kV doc pm an cdv ct cc us hl => match us, hl with | [_, _], _ => rfl) s us X hl) F2 B.mC B.sC o.fR o.tR o.ho fun L => rfl
theorem bad_TooMany (X : K.In h) (G : h.Ns mainGlobals mg) (cs : SaysY fa fn tf ini ex w h K) (hs : mg "super" = none) (hg : (Fa.glo "TooMany").ok K = true) : BadC P w K mg base 2 (ga K "Refused") "TooMany" (ga K "TooMany") (ma K (ga K "TooMany") "__init__") :=
  bad_of (j := 4) (d := i_TooMany) X G cs hs rfl rfl (by decide) hg fun S hD B o F2 =>
    fn_bad S ⟨rfl, rfl, rfl, by decide +kernel, rfl, by decide +kernel, by decide +kernel, by decide +kernel, rfl, rfl⟩ rfl
      (fun s us X hl => S.binds0 hD (fun kV doc pm an cdv ct cc us hl => match us, hl with | [_, _], _ => rfl) s us X hl) F2 B.mC B.sC o.fR o.tR o.ho fun L => rfl
theorem bad_WrongLine (X : K.In h) (G : h.Ns mainGlobals mg) (cs : SaysY fa fn tf ini ex w h K) (hs : mg "super" = none) (hg : (Fa.glo "WrongLine").ok K = true) : BadC P w K mg base 2 (ga K "Refused") "WrongLine" (ga K "WrongLine") (ma K (ga K "WrongLine") "__init__") :=
  bad_of (j := 5) (d := i_WrongLine) X G cs hs rfl rfl (by decide) hg fun S hD B o F2 =>
    fn_bad S ⟨rfl, rfl, rfl, by decide +kernel, rfl, by decide +kernel, by decide +kernel, by decide +kernel, rfl, rfl⟩ rfl
      (fun s us X hl => S.binds0 hD (fun kV doc pm an cdv ct cc us hl => match us, hl with | [_, _], _ => rfl) s us X hl) F2 B.mC B.sC o.fR o.tR o.ho fun L => rfl
end
end HF
namespace HF
open PySem PySem.Spec PyProof.Rows L2 LamX ME He
theorem blk (N : List Str) (sc : Scope) {scope : Scope} {own : List (Str × Nat)} (h : scope.kind = .function ∧ (∀ y ∈ scope.names, scope.names.lookup y.1 = some y.2) ∧ (∀ p ∈ own, N[p.2]? = some p.1) ∧ (∀ y ∈ scope.names, y.2 = .free → sc.names.lookup y.1 = some .cell ∨ sc.names.lookup y.1 = some .free) ∧ ∀ y ∈ scope.names, y.2 = .local ∨ y.2 = .cell → y.1 ∈ own.map (·.1) ∨ y.1 ∉ N) : BlkOk N sc scope own := ⟨h.1, h.2.1, h.2.2.1, h.2.2.2.1, h.2.2.2.2⟩
def fdN : FuncData := PySem.W.fnOf "" "" ⟨[], [], none, [], [], none, []⟩ [] { kind := .function, names := [], isGenerator := false, isCoroutine := false } .none .none .none .none none .none .none
def fdOf (K : PySem.W.Frag) (x : Str) : FuncData := match K.lookup (ga K x) with
  | some ⟨_, _, .func fd, _⟩ => fd
  | _ => fdN
structure DefI where
  nm : Str
  st : Stmt
  ps : List Str
def dfs0 : List DefI := [⟨"whole", s_whole, ["thing", "low", "high"]⟩, ⟨"all_lines", s_all_lines, ["text", "bound"]⟩, ⟨"words_of", s_words_of, ["line"]⟩, ⟨"is_name", s_is_name, ["word"]⟩, ⟨"made_names", s_made_names, ["thing"]⟩, ⟨"named_row", s_named_row, ["names", "row"]⟩, ⟨"read_named_row", s_read_named_row, ["names", "text"]⟩, ⟨"_law_is_whole", s__law_is_whole, ["thing"]⟩, ⟨"_law_same", s__law_same, ["told", "owed"]⟩, ⟨"_law_classes", s__law_classes, ["refused_one"]⟩, ⟨"_law_heard", s__law_heard, ["deed"]⟩, ⟨"_law_tells", s__law_tells, ["deed", "owed"]⟩, ⟨"_law_refuses", s__law_refuses, ["deed", "name", "what"]⟩, ⟨"_law_pool", s__law_pool, ["script", "k"]⟩, ⟨"_law_take", s__law_take, ["jar", "top"]⟩, ⟨"_law_one", s__law_one, ["jar", "things"]⟩, ⟨"_law_wrong_row", s__law_wrong_row, ["things", "thing"]⟩, ⟨"_law_text_wrong", s__law_text_wrong, ["thing", "most"]⟩, ⟨"_law_is_name", s__law_is_name, ["thing"]⟩, ⟨"_law_wrong_names", s__law_wrong_names, ["thing"]⟩, ⟨"_law_named_text", s__law_named_text, ["names_of", "row"]⟩, ⟨"_law_read_named_row", s__law_read_named_row, ["names_of", "text"]⟩, ⟨"_law_drawn_name", s__law_drawn_name, ["jar", "most"]⟩, ⟨"_law_bent_text", s__law_bent_text, ["jar", "text"]⟩, ⟨"_law_some_names", s__law_some_names, ["jar"]⟩]
def dfs1 : List DefI := [⟨"_law_names_right", s__law_names_right, ["thing"]⟩, ⟨"_law_odd_names", s__law_odd_names, ["jar", "called"]⟩, ⟨"_law_text_right", s__law_text_right, ["called", "text"]⟩, ⟨"_law_texts_of", s__law_texts_of, ["jar", "called", "text"]⟩, ⟨"_law_rows_right", s__law_rows_right, ["jar", "called"]⟩, ⟨"_law_long_right", s__law_long_right, ["jar", "called"]⟩, ⟨"_law_refused_right", s__law_refused_right, ["jar", "called"]⟩, ⟨"law", s_law, ["script"]⟩]
def dfs : List DefI := dfs0 ++ dfs1
def freeL : List Str := ["ValueError", "all", "bool", "enumerate", "int", "isinstance", "len", "list", "max", "range", "str", "super", "tuple"]
def intL : List (Str × Int) := [("MOST_SIGNS", 400000), ("MOST_NAMES", 24), ("MOST_LETTERS", 12), ("MOST_ASKS", 300)]
def strL : List (Str × Str) := [("LETTERS", "abcdefghijklmnopqrstuvwxyz")]
def k_KEPT_WORDS : List Str := ["none", "from", "of", "out", "with", "apart"]
def tupL : List (Str × List Str) := [("KEPT_WORDS", k_KEPT_WORDS)]
def mkL : List Str := ["_law_names_right", "_law_text_right", "_law_rows_right", "_law_long_right", "_law_refused_right"]
structure DefOk (K : PySem.W.Frag) (mg : Str → Option Value) (d : DefI) : Prop where
  F : L2.Fun K d.nm d.nm d.st (ga K d.nm) (fdOf K d.nm)
  g : mg d.nm = some (.ref (ga K d.nm))
  b : Binds K (fdOf K d.nm) d.ps []
structure Md (w : World) (K : PySem.W.Frag) (mg : Str → Option Value) (base : Heap) : Prop where
  d : ∀ (i : Nat) (d : DefI), dfs[i]? = some d → DefOk K mg d
  free : ∀ (i : Nat) (x : Str), freeL[i]? = some x → mg x = none
  bad : ∀ (i : Nat) (c : Str), raisedN[i]? = some c → BadC P w K mg base 2 (ga K "Refused") c (ga K c) (ma K (ga K c) "__init__")
  int : ∀ (i : Nat) (p : Str × Int), intL[i]? = some p → ∃ t, mg p.1 = some (.int p.2 t)
  str : ∀ (i : Nat) (p : Str × Str), strL[i]? = some p → ∃ t, mg p.1 = some (.str p.2 t)
  tup : ∀ (i : Nat) (p : Str × List Str), tupL[i]? = some p → mg p.1 = some (.ref (ga K p.1)) ∧ TupK K (ga K p.1) p.2
  tab : ∀ (i : Nat) (x : Str), mkL[i]? = some x → TabB base mg (cT K (x, none)).1 (cT K (x, none)).2
  cd : ∀ (i : Nat) (x : Str), mkL[i]? = some x → (fdOf K x).code = .ref (cT K (x, none)).1
  cls : ∀ y ∈ clsN, mg y = some (.ref (ga K y))
  gR : mg "Refused" = some (.ref (ga K "Refused"))
  ex : ExOk K
abbrev Ok (w : World) (K : PySem.W.Frag) (mg : Str → Option Value) (base : Heap) (k : Nat) (x : Str) (ps : List Str) (n : Nat) (F : FM) : Prop := FnOk P w K mg base (L2N.CX P w) k (ga K x) (fdOf K x) ps (spF K mg (tabF K) n F)
section
variable {w : World} {K : PySem.W.Frag} {mg : Str → Option Value} {h base : Heap}
theorem b_whole {fd : FuncData} {f : Addr} (F : L2.Fun K "whole" "whole" s_whole f fd) : Binds K fd ["thing", "low", "high"] [] := F.binds fun _ _ _ _ _ _ us hl => match us, hl with | [_, _, _], _ => rfl
theorem b_all_lines {fd : FuncData} {f : Addr} (F : L2.Fun K "all_lines" "all_lines" s_all_lines f fd) : Binds K fd ["text", "bound"] [] := F.binds fun _ _ _ _ _ _ us hl => match us, hl with | [_, _], _ => rfl
theorem b_words_of {fd : FuncData} {f : Addr} (F : L2.Fun K "words_of" "words_of" s_words_of f fd) : Binds K fd ["line"] [] := F.binds fun _ _ _ _ _ _ us hl => match us, hl with | [_], _ => rfl
theorem b_is_name {fd : FuncData} {f : Addr} (F : L2.Fun K "is_name" "is_name" s_is_name f fd) : Binds K fd ["word"] [] := F.binds fun _ _ _ _ _ _ us hl => match us, hl with | [_], _ => rfl
theorem b_made_names {fd : FuncData} {f : Addr} (F : L2.Fun K "made_names" "made_names" s_made_names f fd) : Binds K fd ["thing"] [] := F.binds fun _ _ _ _ _ _ us hl => match us, hl with | [_], _ => rfl
theorem b_named_row {fd : FuncData} {f : Addr} (F : L2.Fun K "named_row" "named_row" s_named_row f fd) : Binds K fd ["names", "row"] [] := F.binds fun _ _ _ _ _ _ us hl => match us, hl with | [_, _], _ => rfl
theorem b_read_named_row {fd : FuncData} {f : Addr} (F : L2.Fun K "read_named_row" "read_named_row" s_read_named_row f fd) : Binds K fd ["names", "text"] [] := F.binds fun _ _ _ _ _ _ us hl => match us, hl with | [_, _], _ => rfl
theorem b__law_is_whole {fd : FuncData} {f : Addr} (F : L2.Fun K "_law_is_whole" "_law_is_whole" s__law_is_whole f fd) : Binds K fd ["thing"] [] := F.binds fun _ _ _ _ _ _ us hl => match us, hl with | [_], _ => rfl
theorem b__law_same {fd : FuncData} {f : Addr} (F : L2.Fun K "_law_same" "_law_same" s__law_same f fd) : Binds K fd ["told", "owed"] [] := F.binds fun _ _ _ _ _ _ us hl => match us, hl with | [_, _], _ => rfl
theorem b__law_classes {fd : FuncData} {f : Addr} (F : L2.Fun K "_law_classes" "_law_classes" s__law_classes f fd) : Binds K fd ["refused_one"] [] := F.binds fun _ _ _ _ _ _ us hl => match us, hl with | [_], _ => rfl
theorem b__law_heard {fd : FuncData} {f : Addr} (F : L2.Fun K "_law_heard" "_law_heard" s__law_heard f fd) : Binds K fd ["deed"] [] := F.binds fun _ _ _ _ _ _ us hl => match us, hl with | [_], _ => rfl
theorem b__law_tells {fd : FuncData} {f : Addr} (F : L2.Fun K "_law_tells" "_law_tells" s__law_tells f fd) : Binds K fd ["deed", "owed"] [] := F.binds fun _ _ _ _ _ _ us hl => match us, hl with | [_, _], _ => rfl
theorem b__law_refuses {fd : FuncData} {f : Addr} (F : L2.Fun K "_law_refuses" "_law_refuses" s__law_refuses f fd) : Binds K fd ["deed", "name", "what"] [] := F.binds fun _ _ _ _ _ _ us hl => match us, hl with | [_, _, _], _ => rfl
theorem b__law_pool {fd : FuncData} {f : Addr} (F : L2.Fun K "_law_pool" "_law_pool" s__law_pool f fd) : Binds K fd ["script", "k"] [] := F.binds fun _ _ _ _ _ _ us hl => match us, hl with | [_, _], _ => rfl
theorem b__law_take {fd : FuncData} {f : Addr} (F : L2.Fun K "_law_take" "_law_take" s__law_take f fd) : Binds K fd ["jar", "top"] [] := F.binds fun _ _ _ _ _ _ us hl => match us, hl with | [_, _], _ => rfl
theorem b__law_one {fd : FuncData} {f : Addr} (F : L2.Fun K "_law_one" "_law_one" s__law_one f fd) : Binds K fd ["jar", "things"] [] := F.binds fun _ _ _ _ _ _ us hl => match us, hl with | [_, _], _ => rfl
theorem b__law_wrong_row {fd : FuncData} {f : Addr} (F : L2.Fun K "_law_wrong_row" "_law_wrong_row" s__law_wrong_row f fd) : Binds K fd ["things", "thing"] [] := F.binds fun _ _ _ _ _ _ us hl => match us, hl with | [_, _], _ => rfl
theorem b__law_text_wrong {fd : FuncData} {f : Addr} (F : L2.Fun K "_law_text_wrong" "_law_text_wrong" s__law_text_wrong f fd) : Binds K fd ["thing", "most"] [] := F.binds fun _ _ _ _ _ _ us hl => match us, hl with | [_, _], _ => rfl
theorem b__law_is_name {fd : FuncData} {f : Addr} (F : L2.Fun K "_law_is_name" "_law_is_name" s__law_is_name f fd) : Binds K fd ["thing"] [] := F.binds fun _ _ _ _ _ _ us hl => match us, hl with | [_], _ => rfl
theorem b__law_wrong_names {fd : FuncData} {f : Addr} (F : L2.Fun K "_law_wrong_names" "_law_wrong_names" s__law_wrong_names f fd) : Binds K fd ["thing"] [] := F.binds fun _ _ _ _ _ _ us hl => match us, hl with | [_], _ => rfl
theorem b__law_named_text {fd : FuncData} {f : Addr} (F : L2.Fun K "_law_named_text" "_law_named_text" s__law_named_text f fd) : Binds K fd ["names_of", "row"] [] := F.binds fun _ _ _ _ _ _ us hl => match us, hl with | [_, _], _ => rfl
theorem b__law_read_named_row {fd : FuncData} {f : Addr} (F : L2.Fun K "_law_read_named_row" "_law_read_named_row" s__law_read_named_row f fd) : Binds K fd ["names_of", "text"] [] := F.binds fun _ _ _ _ _ _ us hl => match us, hl with | [_, _], _ => rfl
theorem b__law_drawn_name {fd : FuncData} {f : Addr} (F : L2.Fun K "_law_drawn_name" "_law_drawn_name" s__law_drawn_name f fd) : Binds K fd ["jar", "most"] [] := F.binds fun _ _ _ _ _ _ us hl => match us, hl with | [_, _], _ => rfl
theorem b__law_bent_text {fd : FuncData} {f : Addr} (F : L2.Fun K "_law_bent_text" "_law_bent_text" s__law_bent_text f fd) : Binds K fd ["jar", "text"] [] := F.binds fun _ _ _ _ _ _ us hl => match us, hl with | [_, _], _ => rfl
theorem b__law_some_names {fd : FuncData} {f : Addr} (F : L2.Fun K "_law_some_names" "_law_some_names" s__law_some_names f fd) : Binds K fd ["jar"] [] := F.binds fun _ _ _ _ _ _ us hl => match us, hl with | [_], _ => rfl
theorem b__law_names_right {fd : FuncData} {f : Addr} (F : L2.Fun K "_law_names_right" "_law_names_right" s__law_names_right f fd) : Binds K fd ["thing"] [] := F.binds fun _ _ _ _ _ _ us hl => match us, hl with | [_], _ => rfl
theorem b__law_odd_names {fd : FuncData} {f : Addr} (F : L2.Fun K "_law_odd_names" "_law_odd_names" s__law_odd_names f fd) : Binds K fd ["jar", "called"] [] := F.binds fun _ _ _ _ _ _ us hl => match us, hl with | [_, _], _ => rfl
theorem b__law_text_right {fd : FuncData} {f : Addr} (F : L2.Fun K "_law_text_right" "_law_text_right" s__law_text_right f fd) : Binds K fd ["called", "text"] [] := F.binds fun _ _ _ _ _ _ us hl => match us, hl with | [_, _], _ => rfl
theorem b__law_texts_of {fd : FuncData} {f : Addr} (F : L2.Fun K "_law_texts_of" "_law_texts_of" s__law_texts_of f fd) : Binds K fd ["jar", "called", "text"] [] := F.binds fun _ _ _ _ _ _ us hl => match us, hl with | [_, _, _], _ => rfl
theorem b__law_rows_right {fd : FuncData} {f : Addr} (F : L2.Fun K "_law_rows_right" "_law_rows_right" s__law_rows_right f fd) : Binds K fd ["jar", "called"] [] := F.binds fun _ _ _ _ _ _ us hl => match us, hl with | [_, _], _ => rfl
theorem b__law_long_right {fd : FuncData} {f : Addr} (F : L2.Fun K "_law_long_right" "_law_long_right" s__law_long_right f fd) : Binds K fd ["jar", "called"] [] := F.binds fun _ _ _ _ _ _ us hl => match us, hl with | [_, _], _ => rfl
theorem b__law_refused_right {fd : FuncData} {f : Addr} (F : L2.Fun K "_law_refused_right" "_law_refused_right" s__law_refused_right f fd) : Binds K fd ["jar", "called"] [] := F.binds fun _ _ _ _ _ _ us hl => match us, hl with | [_, _], _ => rfl
theorem b_law {fd : FuncData} {f : Addr} (F : L2.Fun K "law" "law" s_law f fd) : Binds K fd ["script"] [] := F.binds fun _ _ _ _ _ _ us hl => match us, hl with | [_], _ => rfl
theorem all_b (hF : ∀ (i : Nat) (d : DefI), dfs[i]? = some d → L2.Fun K d.nm d.nm d.st (ga K d.nm) (fdOf K d.nm)) : ∀ (i : Nat) (d : DefI), dfs[i]? = some d → Binds K (fdOf K d.nm) d.ps []
  | 0, d, h => by obtain rfl := Option.some.inj (show some (⟨"whole", s_whole, ["thing", "low", "high"]⟩ : DefI) = some d from h); exact b_whole (hF 0 _ h)
  | 1, d, h => by obtain rfl := Option.some.inj (show some (⟨"all_lines", s_all_lines, ["text", "bound"]⟩ : DefI) = some d from h); exact b_all_lines (hF 1 _ h)
  | 2, d, h => by obtain rfl := Option.some.inj (show some (⟨"words_of", s_words_of, ["line"]⟩ : DefI) = some d from h); exact b_words_of (hF 2 _ h)
  | 3, d, h => by obtain rfl := Option.some.inj (show some (⟨"is_name", s_is_name, ["word"]⟩ : DefI) = some d from h); exact b_is_name (hF 3 _ h)
  | 4, d, h => by obtain rfl := Option.some.inj (show some (⟨"made_names", s_made_names, ["thing"]⟩ : DefI) = some d from h); exact b_made_names (hF 4 _ h)
  | 5, d, h => by obtain rfl := Option.some.inj (show some (⟨"named_row", s_named_row, ["names", "row"]⟩ : DefI) = some d from h); exact b_named_row (hF 5 _ h)
  | 6, d, h => by obtain rfl := Option.some.inj (show some (⟨"read_named_row", s_read_named_row, ["names", "text"]⟩ : DefI) = some d from h); exact b_read_named_row (hF 6 _ h)
  | 7, d, h => by obtain rfl := Option.some.inj (show some (⟨"_law_is_whole", s__law_is_whole, ["thing"]⟩ : DefI) = some d from h); exact b__law_is_whole (hF 7 _ h)
  | 8, d, h => by obtain rfl := Option.some.inj (show some (⟨"_law_same", s__law_same, ["told", "owed"]⟩ : DefI) = some d from h); exact b__law_same (hF 8 _ h)
  | 9, d, h => by obtain rfl := Option.some.inj (show some (⟨"_law_classes", s__law_classes, ["refused_one"]⟩ : DefI) = some d from h); exact b__law_classes (hF 9 _ h)
  | 10, d, h => by obtain rfl := Option.some.inj (show some (⟨"_law_heard", s__law_heard, ["deed"]⟩ : DefI) = some d from h); exact b__law_heard (hF 10 _ h)
  | 11, d, h => by obtain rfl := Option.some.inj (show some (⟨"_law_tells", s__law_tells, ["deed", "owed"]⟩ : DefI) = some d from h); exact b__law_tells (hF 11 _ h)
  | 12, d, h => by obtain rfl := Option.some.inj (show some (⟨"_law_refuses", s__law_refuses, ["deed", "name", "what"]⟩ : DefI) = some d from h); exact b__law_refuses (hF 12 _ h)
  | 13, d, h => by obtain rfl := Option.some.inj (show some (⟨"_law_pool", s__law_pool, ["script", "k"]⟩ : DefI) = some d from h); exact b__law_pool (hF 13 _ h)
  | 14, d, h => by obtain rfl := Option.some.inj (show some (⟨"_law_take", s__law_take, ["jar", "top"]⟩ : DefI) = some d from h); exact b__law_take (hF 14 _ h)
  | 15, d, h => by obtain rfl := Option.some.inj (show some (⟨"_law_one", s__law_one, ["jar", "things"]⟩ : DefI) = some d from h); exact b__law_one (hF 15 _ h)
  | 16, d, h => by obtain rfl := Option.some.inj (show some (⟨"_law_wrong_row", s__law_wrong_row, ["things", "thing"]⟩ : DefI) = some d from h); exact b__law_wrong_row (hF 16 _ h)
  | 17, d, h => by obtain rfl := Option.some.inj (show some (⟨"_law_text_wrong", s__law_text_wrong, ["thing", "most"]⟩ : DefI) = some d from h); exact b__law_text_wrong (hF 17 _ h)
  | 18, d, h => by obtain rfl := Option.some.inj (show some (⟨"_law_is_name", s__law_is_name, ["thing"]⟩ : DefI) = some d from h); exact b__law_is_name (hF 18 _ h)
  | 19, d, h => by obtain rfl := Option.some.inj (show some (⟨"_law_wrong_names", s__law_wrong_names, ["thing"]⟩ : DefI) = some d from h); exact b__law_wrong_names (hF 19 _ h)
  | 20, d, h => by obtain rfl := Option.some.inj (show some (⟨"_law_named_text", s__law_named_text, ["names_of", "row"]⟩ : DefI) = some d from h); exact b__law_named_text (hF 20 _ h)
  | 21, d, h => by obtain rfl := Option.some.inj (show some (⟨"_law_read_named_row", s__law_read_named_row, ["names_of", "text"]⟩ : DefI) = some d from h); exact b__law_read_named_row (hF 21 _ h)
  | 22, d, h => by obtain rfl := Option.some.inj (show some (⟨"_law_drawn_name", s__law_drawn_name, ["jar", "most"]⟩ : DefI) = some d from h); exact b__law_drawn_name (hF 22 _ h)
  | 23, d, h => by obtain rfl := Option.some.inj (show some (⟨"_law_bent_text", s__law_bent_text, ["jar", "text"]⟩ : DefI) = some d from h); exact b__law_bent_text (hF 23 _ h)
  | 24, d, h => by obtain rfl := Option.some.inj (show some (⟨"_law_some_names", s__law_some_names, ["jar"]⟩ : DefI) = some d from h); exact b__law_some_names (hF 24 _ h)
  | 25, d, h => by obtain rfl := Option.some.inj (show some (⟨"_law_names_right", s__law_names_right, ["thing"]⟩ : DefI) = some d from h); exact b__law_names_right (hF 25 _ h)
  | 26, d, h => by obtain rfl := Option.some.inj (show some (⟨"_law_odd_names", s__law_odd_names, ["jar", "called"]⟩ : DefI) = some d from h); exact b__law_odd_names (hF 26 _ h)
  | 27, d, h => by obtain rfl := Option.some.inj (show some (⟨"_law_text_right", s__law_text_right, ["called", "text"]⟩ : DefI) = some d from h); exact b__law_text_right (hF 27 _ h)
  | 28, d, h => by obtain rfl := Option.some.inj (show some (⟨"_law_texts_of", s__law_texts_of, ["jar", "called", "text"]⟩ : DefI) = some d from h); exact b__law_texts_of (hF 28 _ h)
  | 29, d, h => by obtain rfl := Option.some.inj (show some (⟨"_law_rows_right", s__law_rows_right, ["jar", "called"]⟩ : DefI) = some d from h); exact b__law_rows_right (hF 29 _ h)
  | 30, d, h => by obtain rfl := Option.some.inj (show some (⟨"_law_long_right", s__law_long_right, ["jar", "called"]⟩ : DefI) = some d from h); exact b__law_long_right (hF 30 _ h)
  | 31, d, h => by obtain rfl := Option.some.inj (show some (⟨"_law_refused_right", s__law_refused_right, ["jar", "called"]⟩ : DefI) = some d from h); exact b__law_refused_right (hF 31 _ h)
  | 32, d, h => by obtain rfl := Option.some.inj (show some (⟨"law", s_law, ["script"]⟩ : DefI) = some d from h); exact b_law (hF 32 _ h)
  | n + 33, d, h => by cases h
theorem fd_of {x : Str} {st : Stmt} {fd : FuncData} (F : L2.Fun K x x st (ga K x) fd) : fdOf K x = fd := by
  obtain ⟨oc, od, kV, doc, pm, an, cdv, ct, osl, rfl, lk, hcd⟩ := F.ex
  unfold fdOf
  rw [lk]
theorem tupK_of {x : Str} {ys : List Str} (hb : tupB K x (ys.map Dv.str) = true) : TupK K (ga K x) ys := by
  rcases tupB_ok hb (fun _ => none) with (z | ⟨_, z⟩) | ⟨o, its, n, h1, h2, h3, h4, h5⟩
  · cases z
  · cases z
  · refine ⟨o, its, n, h1, h2, h3, h4, ?_⟩
    have : (ys.map Dv.str).map (Dv.v K) = ys.map V.str := by rw [List.map_map]; rfl
    rw [this] at h5
    exact h5
def fnD (d : DefI) : DefD := ⟨(d.nm, none), d.nm, d.nm, defArgs d.st, defBody d.st, defScope d.st, [], []⟩
theorem fn_eq : fn = dfs.map fnD := rfl
theorem fa_glo : ∀ (i : Nat) (d : DefI), dfs[i]? = some d → Fa.glo d.nm ∈ fa := by
  have e : (dfs.map fun d => Fa.glo d.nm) = fa.take 33 := rfl
  intro i d h
  have h2 : Fa.glo d.nm ∈ dfs.map fun d => Fa.glo d.nm := List.mem_map.mpr ⟨d, List.mem_of_getElem? h, rfl⟩
  rw [e] at h2
  exact List.mem_of_mem_take h2
theorem fa_free : ∀ (i : Nat) (x : Str), freeL[i]? = some x → Fa.free x ∈ fa := by
  have e : freeL.map Fa.free = (fa.drop 80).take 13 := rfl
  intro i x h
  have h2 : Fa.free x ∈ freeL.map Fa.free := List.mem_map.mpr ⟨x, List.mem_of_getElem? h, rfl⟩
  rw [e] at h2
  exact List.mem_of_mem_drop (List.mem_of_mem_take h2)
theorem fa_cls : ∀ y ∈ clsN, Fa.glo y ∈ fa := by
  have e : clsN.map Fa.glo = (fa.drop 34).take 46 := rfl
  intro y h
  have h2 : Fa.glo y ∈ clsN.map Fa.glo := List.mem_map.mpr ⟨y, h, rfl⟩
  rw [e] at h2
  exact List.mem_of_mem_drop (List.mem_of_mem_take h2)
theorem raised_glo : ∀ c ∈ raisedN, Fa.glo c ∈ fa := by
  have e : (raisedN.all fun c => decide (c ∈ clsN)) = true := by decide +kernel
  intro c hc
  exact fa_cls c (of_decide_eq_true (List.all_eq_true.mp e c hc))
theorem mk_sub : ∀ x ∈ mkL, x ∈ dfs.map (·.nm) := by
  have e : (mkL.all fun c => decide (c ∈ dfs.map (·.nm))) = true := by decide +kernel
  exact fun c hc => of_decide_eq_true (List.all_eq_true.mp e c hc)
theorem md_of (X : K.In h) (G : h.Ns mainGlobals mg) (c : SaysY fa fn tf ini ex w h K) (bX : K.In base) (bG : base.Ns mainGlobals mg) (TB : ∀ p ∈ tf, TabB base mg (cT K p).1 (cT K p).2) : Md w K mg base := by
  have hs : mg "super" = none := free_ok X G (c.x.t.d.fact 91 (f := .free "super") rfl)
  have hF : ∀ (i : Nat) (d : DefI), dfs[i]? = some d → L2.Fun K d.nm d.nm d.st (ga K d.nm) (fdOf K d.nm) := fun i d hd => by
    obtain ⟨fd, F⟩ := c.x.t.d.def_ i (d := fnD d) (by rw [fn_eq, List.getElem?_map, hd]; rfl)
    have F2 : L2.Fun K d.nm d.nm d.st (ga K d.nm) fd := fun_of F
    rw [fd_of F2]
    exact F2
  refine ⟨fun i d hd => ⟨hF i d hd, glo_ok X G (c.x.t.d.facts (fa_glo i d hd)), all_b hF i d hd⟩, fun i x hx => free_ok X G (c.x.t.d.facts (fa_free i x hx)), fun i r hr => ?_, ?_, ?_, ?_, fun i x hx => ?_, fun i x hx => ?_, fun y hy => glo_ok X G (c.x.t.d.facts (fa_cls y hy)), glo_ok X G (c.x.t.d.fact 33 (f := .glo "Refused") rfl), ex_ok c.x.more⟩
  · match i, hr with
    | 0, hr => obtain rfl := Option.some.inj (show some ("BadNames" : Str) = some r from hr); exact bad_BadNames X G c hs (c.x.t.d.facts (raised_glo _ (by decide))) 
    | 1, hr => obtain rfl := Option.some.inj (show some ("BadRow" : Str) = some r from hr); exact bad_BadRow X G c hs (c.x.t.d.facts (raised_glo _ (by decide))) 
    | 2, hr => obtain rfl := Option.some.inj (show some ("BadText" : Str) = some r from hr); exact bad_BadText X G c hs (c.x.t.d.facts (raised_glo _ (by decide))) 
    | 3, hr => obtain rfl := Option.some.inj (show some ("TooMany" : Str) = some r from hr); exact bad_TooMany X G c hs (c.x.t.d.facts (raised_glo _ (by decide))) 
    | 4, hr => obtain rfl := Option.some.inj (show some ("WrongLine" : Str) = some r from hr); exact bad_WrongLine X G c hs (c.x.t.d.facts (raised_glo _ (by decide))) 
    | n + 5, hr => cases hr
  · intro i p hp
    match i, hp with
    | 0, hp => obtain rfl := Option.some.inj (show some (("MOST_SIGNS", 400000) : Str × Int) = some p from hp); exact int_ok X G (c.x.t.d.fact 93 (f := .int "MOST_SIGNS" 400000) rfl)
    | 1, hp => obtain rfl := Option.some.inj (show some (("MOST_NAMES", 24) : Str × Int) = some p from hp); exact int_ok X G (c.x.t.d.fact 94 (f := .int "MOST_NAMES" 24) rfl)
    | 2, hp => obtain rfl := Option.some.inj (show some (("MOST_LETTERS", 12) : Str × Int) = some p from hp); exact int_ok X G (c.x.t.d.fact 95 (f := .int "MOST_LETTERS" 12) rfl)
    | 3, hp => obtain rfl := Option.some.inj (show some (("MOST_ASKS", 300) : Str × Int) = some p from hp); exact int_ok X G (c.x.t.d.fact 96 (f := .int "MOST_ASKS" 300) rfl)
    | n + 4, hp => cases hp
  · intro i p hp
    match i, hp with
    | 0, hp => obtain rfl := Option.some.inj (show some (("LETTERS", "abcdefghijklmnopqrstuvwxyz") : Str × Str) = some p from hp); exact str_ok X G (c.x.t.d.fact 97 (f := .str "LETTERS" "abcdefghijklmnopqrstuvwxyz") rfl)
    | n + 1, hp => cases hp
  · intro i p hp
    match i, hp with
    | 0, hp => obtain rfl := Option.some.inj (show some (("KEPT_WORDS", k_KEPT_WORDS) : Str × List Str) = some p from hp); exact ⟨glo_ok X G (c.x.t.d.fact 98 (f := .glo "KEPT_WORDS") rfl), tupK_of ((ex_ok c.x.more).tup _ (by decide +kernel))⟩
    | n + 1, hp => cases hp
  · have e : tf = mkL.map fun x => (x, none) := rfl
    exact TB (x, none) (by rw [e]; exact List.mem_map.mpr ⟨x, List.mem_of_getElem? hx, rfl⟩)
  · have hm : x ∈ dfs.map (·.nm) := mk_sub x (List.mem_of_getElem? hx)
    obtain ⟨d, hd, rfl⟩ := List.mem_map.mp hm
    obtain ⟨j, hj, e⟩ := List.mem_iff_getElem.mp hd
    have F := hF j d (by rw [List.getElem?_eq_getElem hj, e])
    obtain ⟨oc, od, kV, doc, pm, an, cdv, ct, osl, ef, lk, hcd⟩ := F.ex
    obtain ⟨cc, rfl⟩ := codeIn_ref hcd
    have ec : (fdOf K d.nm).code = .ref cc := by rw [ef]
    rw [ec]
    exact congrArg Value.ref (codeOf_eq (p := (d.nm, none)) lk ec).symm
end
end HF
namespace HF
open PySem PySem.Spec PyProof.Rows L2 LamX ME He
section
variable {w : World} {K : PySem.W.Frag} {mg : Str → Option Value} {base : Heap}
abbrev nN_whole : List Str := ["thing", "low", "high"]
def m_whole : MS := (sSeq (sIf (mor (mnot (mtst (mun (isTy "int") (mslot 0)))) (mtst (mun (isTy "bool") (mslot 0)))) (sRet (mfz (mpure (.bl false)))) sNil) (sRet (mfz (mandV (mbin (aCmp fun i j => decide (i ≤ j)) (mslot 1) (mslot 0)) (morV (mbin aIsN (mslot 2) (mval (mpure .non))) (mbin (aCmp fun i j => decide (i ≤ j)) (mslot 0) (mslot 2)))))))
def F_whole : FM := fnOf 3 m_whole
theorem ok_whole (M : Md w K mg base) : Ok w K mg base 1 "whole" ["thing", "low", "high"] 3 F_whole := by
  have nd : (nN_whole).Nodup := by decide +kernel
  refine ME.fn_ok (N := nN_whole) (M.d 0 _ rfl).F ⟨rfl, rfl, rfl, by decide +kernel, rfl, by decide +kernel, by decide +kernel⟩ rfl fun T cdv A outer s H E hT hr => ?_
  obtain ⟨T1, T2⟩ := T
  obtain rfl : T1 = tabF K := hT
  exact (dss_cons (ds_if (dt_w (dw_or (dt_not (dt_val (de_isi (dr_var 0) rfl (M.free 5 _ rfl) rfl (M.free 4 _ rfl) rfl))) (dw_or1 (dt_val (de_isi (dr_var 0) rfl (M.free 5 _ rfl) rfl (M.free 2 _ rfl) rfl))))) (dss_one (ds_ret (dx_of de_bl))) dss_nil) (dss_one (ds_ret (dx_of (de_and (de_cmp op_le (s_cmp _) (dr_var 1) (dr_var 0)) (de_one (de_or (de_cmp op_isN s_isN (dr_var 2) (dr_val de_non)) (de_one (de_cmp op_le (s_cmp _) (dr_var 0) (dr_var 2))))))))))
abbrev nN_all_lines : List Str := ["text", "bound"]
def m_all_lines : MS := (sSeq (sIf (mnot (mtst (mun (isTy "str") (mslot 0)))) (sRaise "BadText" (mun aNeg (mval (mpure (.int 1))))) sNil) (sSeq (sIf (mtst (mbin (aCmp fun i j => decide (j < i)) (mval (mfn fLen (mcons (mslot 0) mnil))) (mslot 1))) (sRaise "TooMany" (mfn fLen (mcons (mslot 0) mnil))) sNil) (sRet (mm1 oSplit (mvar 0) (mval (mpure (.str "\n")))))))
def F_all_lines : FM := fnOf 2 m_all_lines
theorem ok_all_lines (M : Md w K mg base) : Ok w K mg base 4 "all_lines" ["text", "bound"] 2 F_all_lines := by
  have nd : (nN_all_lines).Nodup := by decide +kernel
  refine ME.fn_ok (N := nN_all_lines) (M.d 1 _ rfl).F ⟨rfl, rfl, rfl, by decide +kernel, rfl, by decide +kernel, by decide +kernel⟩ rfl fun T cdv A outer s H E hT hr => ?_
  obtain ⟨T1, T2⟩ := T
  obtain rfl : T1 = tabF K := hT
  exact (dss_cons (ds_if (dt_not (dt_val (de_isi (dr_var 0) rfl (M.free 5 _ rfl) rfl (M.free 10 _ rfl) rfl))) (dss_one (ds_raise (M.bad 2 _ rfl) (hr.mono (by omega)) rfl rfl (de_un un_neg s_neg (dr_val de_int)))) dss_nil) (dss_cons (ds_if (dt_cmp op_gt (s_cmp _) (dr_val (de_callB call_len s_len rfl (M.free 6 _ rfl) rfl (da_cons (dr_var 0) da_nil))) (dr_var 1)) (dss_one (ds_raise (M.bad 3 _ rfl) (hr.mono (by omega)) rfl rfl (de_callB call_len s_len rfl (M.free 6 _ rfl) rfl (da_cons (dr_var 0) da_nil)))) dss_nil) (dss_one (ds_ret (dx_m1 PySem.F.slot_str_split rfl mt_split sp_split (de_var 0) (dr_val de_str))))))
abbrev nN_words_of : List Str := ["line"]
def m_words_of : MS := (sRet (mm1 oSplit (mvar 0) (mval (mpure (.str " ")))))
def F_words_of : FM := fnOf 1 m_words_of
theorem ok_words_of (M : Md w K mg base) : Ok w K mg base 1 "words_of" ["line"] 1 F_words_of := by
  have nd : (nN_words_of).Nodup := by decide +kernel
  refine ME.fn_ok (N := nN_words_of) (M.d 2 _ rfl).F ⟨rfl, rfl, rfl, by decide +kernel, rfl, by decide +kernel, by decide +kernel⟩ rfl fun T cdv A outer s H E hT hr => ?_
  obtain ⟨T1, T2⟩ := T
  obtain rfl : T1 = tabF K := hT
  exact (dss_one (ds_ret (dx_m1 PySem.F.slot_str_split rfl mt_split sp_split (de_var 0) (dr_val de_str))))
abbrev nN_is_name_p : List Str := ["word", "letter"]
def m_is_name_p : MS := (sSeq (sIf (mor (mnot (mtst (mun (isTy "str") (mslot 0)))) (mor (mnot (mtst (mchain (aCmp fun i j => decide (i ≤ j)) (aCmp fun i j => decide (i ≤ j)) (mval (mpure (.int 1))) (mval (mfn fLen (mcons (mslot 0) mnil))) (mval (mpure (.int 12)))))) (mtst (mbin aIn (mslot 0) (mval (mpure (.tup (k_KEPT_WORDS.map D.str)))))))) (sRet (mfz (mpure (.bl false)))) sNil) (sRet (mfz (mfn fAll (mcons (mval (mfrz (mComp [1] (mItC (mvar 0)) (gNm 1) (mpure true) (mbin aIn (mslot 1) (mval (mpure (.str "abcdefghijklmnopqrstuvwxyz"))))))) mnil)))))
def F_is_name_p : FM := fnOf 2 m_is_name_p
theorem ok_is_name_p (M : Md w K mg base) : Ok w K mg base 1 "is_name" ["word"] 1 F_is_name_p := by
  have nd : (nN_is_name_p).Nodup := by decide +kernel
  refine ME.fn_ok (N := nN_is_name_p) (M.d 3 _ rfl).F ⟨rfl, rfl, rfl, by decide +kernel, rfl, by decide +kernel, by decide +kernel⟩ rfl fun T cdv A outer s H E hT hr => ?_
  obtain ⟨T1, T2⟩ := T
  obtain rfl : T1 = tabF K := hT
  exact (dss_cons (ds_if (dt_w (dw_or (dt_not (dt_val (de_isi (dr_var 0) rfl (M.free 5 _ rfl) rfl (M.free 10 _ rfl) rfl))) (dw_or (dt_not (dt_chain op_le op_le (s_cmp _) (s_cmp _) (dr_val de_int) (dr_val (de_callB call_len s_len rfl (M.free 6 _ rfl) rfl (da_cons (dr_var 0) da_nil))) (dr_val (de_gint rfl (M.int 2 _ rfl).choose_spec)))) (dw_or1 (dt_cmp op_inA s_in (dr_var 0) (dr_val (de_gtup rfl (M.tup 0 _ rfl).1 (M.tup 0 _ rfl).2 (by decide)))))))) (dss_one (ds_ret (dx_of de_bl))) dss_nil) (dss_one (ds_ret (dx_of (de_callB (cr_all rfl) s_all rfl (M.free 1 _ rfl) rfl (da_cons (dr_x (dx_lc rfl nd (di_str (de_var 0)) (own := [("letter", 1)]) (blk nN_is_name_p (defScope s_is_name) (by decide +kernel)) (fun s H C cl fp => by exact (dg_name 1 nd)) (fun s H C cl fp => dts_nil) (fun s H C cl fp => (de_cmp op_inA s_in (dr_var 1) (dr_val (de_gstr rfl (M.str 0 _ rfl).choose_spec)))))) da_nil))))))
abbrev nN_made_names : List Str := ["thing", "found", "index", "word"]
def m_made_names : MS := (sSeq (sIf (mnot (mtst (mun (isTy "tuple") (mslot 0)))) (sRaise "BadNames" (mun aNeg (mval (mpure (.int 1))))) sNil) (sSeq (sIf (mtst (mbin (aCmp fun i j => decide (j < i)) (mval (mfn fLen (mcons (mslot 0) mnil))) (mval (mpure (.int 24))))) (sRaise "TooMany" (mfn fLen (mcons (mslot 0) mnil))) sNil) (sSeq (sSet 1 (mlst mlnil)) (sSeq (sFor (mbind (mvar 0) asET) (gTp (gCs (gNm 2) (gCs (gNm 3) gNl))) (sSeq (sIf (mor (mnot (mtst (mfrz (mCall F_is_name_p (mgcons (mAg 3) mgnil))))) (mtst (mbin aIn (mslot 3) (mslot 1)))) (sRaise "BadNames" (mvar 2)) sNil) (sApp 1 (mvar 3)))) (sRet (mfnX fTupN (mcons (mslot 1) mnil)))))))
def F_made_names : FM := fnOf 4 m_made_names
theorem ok_made_names (M : Md w K mg base) : Ok w K mg base 4 "made_names" ["thing"] 1 F_made_names := by
  have nd : (nN_made_names).Nodup := by decide +kernel
  refine ME.fn_ok (N := nN_made_names) (M.d 4 _ rfl).F ⟨rfl, rfl, rfl, by decide +kernel, rfl, by decide +kernel, by decide +kernel⟩ rfl fun T cdv A outer s H E hT hr => ?_
  obtain ⟨T1, T2⟩ := T
  obtain rfl : T1 = tabF K := hT
  exact (dss_cons (ds_if (dt_not (dt_val (de_isi (dr_var 0) rfl (M.free 5 _ rfl) rfl (M.free 12 _ rfl) rfl))) (dss_one (ds_raise (M.bad 0 _ rfl) (hr.mono (by omega)) rfl rfl (de_un un_neg s_neg (dr_val de_int)))) dss_nil) (dss_cons (ds_if (dt_cmp op_gt (s_cmp _) (dr_val (de_callB call_len s_len rfl (M.free 6 _ rfl) rfl (da_cons (dr_var 0) da_nil))) (dr_val (de_gint rfl (M.int 1 _ rfl).choose_spec))) (dss_one (ds_raise (M.bad 3 _ rfl) (hr.mono (by omega)) rfl rfl (de_callB call_len s_len rfl (M.free 6 _ rfl) rfl (da_cons (dr_var 0) da_nil)))) dss_nil) (dss_cons (ds_set 1 (dx_lst dl_nil) nd) (dss_cons (ds_for (passes_of rfl) rfl (di_enumT (de_var 0) rfl (M.free 3 _ rfl)) (dg_tupK (K' := K) rfl rfl (dgs_cons (dg_name 2 nd) (dgs_cons (dg_name 3 nd) dgs_nil))) (dss_cons (ds_if (dt_w (dw_or (dt_not (dt_val (de_frz (dx_call (ok_is_name_p M) (hr.mono (by omega)) rfl (M.d 3 _ rfl).g (M.d 3 _ rfl).F.kp (M.d 3 _ rfl).b (dag_cons (da1_name 3) dag_nil))))) (dw_or1 (dt_cmp op_inA s_in (dr_var 3) (dr_var 1))))) (dss_one (ds_raise (M.bad 0 _ rfl) (hr.mono (by omega)) rfl rfl (de_var 2))) dss_nil) (dss_one (ds_append 1 (de_var 3))))) (dss_one (ds_ret (dx_callTy call_tupN s_tupN rfl (M.free 12 _ rfl) rfl (da_cons (dr_var 1) da_nil))))))))
abbrev nN_named_row : List Str := ["names", "row", "known", "index", "v"]
def m_named_row : MS := (sSeq (sSet 2 (mCall F_made_names (mgcons (mAg 0) mgnil))) (sSeq (sIf (mnot (mtst (mun (isTy "tuple") (mslot 1)))) (sRaise "BadRow" (mun aNeg (mval (mpure (.int 1))))) sNil) (sSeq (sIf (mtst (mbin (aCmp fun i j => decide (j < i)) (mval (mfn fLen (mcons (mslot 1) mnil))) (mval (mpure (.int 300))))) (sRaise "TooMany" (mfn fLen (mcons (mslot 1) mnil))) sNil) (sSeq (sFor (mbind (mvar 1) asET) (gTp (gCs (gNm 3) (gCs (gNm 4) gNl))) (sIf (mnot (mtst (mfrz (mCall F_whole (mgcons (mAg 4) (mgcons (mdat (mpure (.int 0))) (mgcons (mdat (mbin aSub (mval (mfn fLen (mcons (mslot 2) mnil))) (mval (mpure (.int 1))))) mgnil))))))) (sRaise "BadRow" (mvar 3)) sNil)) (sRet (mm1 oJoin (mpure (.str " ")) (mval (mfrz (mComp [4] (mItT (mvar 1)) (gNm 4) (mpure true) (mbin dIx (mslot 2) (mslot 4)))))))))))
def F_named_row : FM := fnOf 5 m_named_row
theorem ok_named_row (M : Md w K mg base) : Ok w K mg base 5 "named_row" ["names", "row"] 2 F_named_row := by
  have nd : (nN_named_row).Nodup := by decide +kernel
  refine ME.fn_ok (N := nN_named_row) (M.d 5 _ rfl).F ⟨rfl, rfl, rfl, by decide +kernel, rfl, by decide +kernel, by decide +kernel⟩ rfl fun T cdv A outer s H E hT hr => ?_
  obtain ⟨T1, T2⟩ := T
  obtain rfl : T1 = tabF K := hT
  exact (dss_cons (ds_set 2 (dx_call (ok_made_names M) (hr.mono (by omega)) rfl (M.d 4 _ rfl).g (M.d 4 _ rfl).F.kp (M.d 4 _ rfl).b (dag_cons (da1_name 0) dag_nil)) nd) (dss_cons (ds_if (dt_not (dt_val (de_isi (dr_var 1) rfl (M.free 5 _ rfl) rfl (M.free 12 _ rfl) rfl))) (dss_one (ds_raise (M.bad 1 _ rfl) (hr.mono (by omega)) rfl rfl (de_un un_neg s_neg (dr_val de_int)))) dss_nil) (dss_cons (ds_if (dt_cmp op_gt (s_cmp _) (dr_val (de_callB call_len s_len rfl (M.free 6 _ rfl) rfl (da_cons (dr_var 1) da_nil))) (dr_val (de_gint rfl (M.int 3 _ rfl).choose_spec))) (dss_one (ds_raise (M.bad 3 _ rfl) (hr.mono (by omega)) rfl rfl (de_callB call_len s_len rfl (M.free 6 _ rfl) rfl (da_cons (dr_var 1) da_nil)))) dss_nil) (dss_cons (ds_for (passes_of rfl) rfl (di_enumT (de_var 1) rfl (M.free 3 _ rfl)) (dg_tupK (K' := K) rfl rfl (dgs_cons (dg_name 3 nd) (dgs_cons (dg_name 4 nd) dgs_nil))) (dss_one (ds_if (dt_not (dt_val (de_frz (dx_call (ok_whole M) (hr.mono (by omega)) rfl (M.d 0 _ rfl).g (M.d 0 _ rfl).F.kp (M.d 0 _ rfl).b (dag_cons (da1_name 4) (dag_cons (da1_val de_int) (dag_cons (da1_val (de_bin op_sub (s_int _) (dr_val (de_callB call_len s_len rfl (M.free 6 _ rfl) rfl (da_cons (dr_var 2) da_nil))) (dr_val de_int))) dag_nil))))))) (dss_one (ds_raise (M.bad 1 _ rfl) (hr.mono (by omega)) rfl rfl (de_var 3))) dss_nil))) (dss_one (ds_ret (dx_m1 PySem.F.slot_str_join rfl mt_join sp_join de_str (dr_x (dx_lc rfl nd (di_tup (de_var 1)) (own := [("v", 4)]) (blk nN_named_row (defScope s_named_row) (by decide +kernel)) (fun s H C cl fp => by exact (dg_name 4 nd)) (fun s H C cl fp => dts_nil) (fun s H C cl fp => (de_ix (dr_var 2) (dr_var 4) fun _ _ => rfl)))))))))))
abbrev nN_read_named_row_p : List Str := ["names", "text", "known", "lines", "numbers", "found", "at", "word", "v"]
def m_read_named_row_p : MS := (sSeq (sSet 2 (mCall F_made_names (mgcons (mAg 0) mgnil))) (sSeq (sSet 3 (mCall F_all_lines (mgcons (mAg 1) (mgcons (mdat (mpure (.int 400000))) mgnil)))) (sSeq (sIf (mtst (mbin aEq (mslot 3) (mval (mfrz (mlst (mlcons (mpure (.str "")) mlnil)))))) (sRet (mfz (mtup mlnil))) sNil) (sSeq (sSet 4 (mfz (mDict [8, 7] (mbind (mvar 2) asET) (gTp (gCs (gNm 8) (gCs (gNm 7) gNl))) (mpure true) (mvar 7) (mvar 8)))) (sSeq (sSet 5 (mlst mlnil)) (sSeq (sFor (mbind (mfrz (mCall F_words_of (mgcons (mdat (mbin dIx (mslot 3) (mval (mpure (.int 0))))) mgnil))) asEL) (gTp (gCs (gNm 6) (gCs (gNm 7) gNl))) (sSeq (sIf (mor (mtst (mbin aEq (mslot 6) (mval (mpure (.int 300))))) (mtst (mdd (fun x y => (aKeyIn x y).map fun b => .bl (!b)) (mvar 7) (mvar 4)))) (sRaise "WrongLine" (mtup (mlcons (mpure (.int 0)) (mlcons (mvar 6) mlnil)))) sNil) (sApp 5 (mdd aKeyGet (mvar 4) (mvar 7))))) (sSeq (sIf (mtst (mbin (aCmp fun i j => decide (j < i)) (mval (mfn fLen (mcons (mslot 3) mnil))) (mval (mpure (.int 1))))) (sRaise "WrongLine" (mtup (mlcons (mpure (.int 1)) (mlcons (mpure (.int 0)) mlnil)))) sNil) (sRet (mfnX fTupN (mcons (mslot 5) mnil))))))))))
def F_read_named_row_p : FM := fnOf 9 m_read_named_row_p
theorem ok_read_named_row_p (M : Md w K mg base) : Ok w K mg base 5 "read_named_row" ["names", "text"] 2 F_read_named_row_p := by
  have nd : (nN_read_named_row_p).Nodup := by decide +kernel
  refine ME.fn_ok (N := nN_read_named_row_p) (M.d 6 _ rfl).F ⟨rfl, rfl, rfl, by decide +kernel, rfl, by decide +kernel, by decide +kernel⟩ rfl fun T cdv A outer s H E hT hr => ?_
  obtain ⟨T1, T2⟩ := T
  obtain rfl : T1 = tabF K := hT
  exact (dss_cons (ds_set 2 (dx_call (ok_made_names M) (hr.mono (by omega)) rfl (M.d 4 _ rfl).g (M.d 4 _ rfl).F.kp (M.d 4 _ rfl).b (dag_cons (da1_name 0) dag_nil)) nd) (dss_cons (ds_set 3 (dx_call (ok_all_lines M) (hr.mono (by omega)) rfl (M.d 1 _ rfl).g (M.d 1 _ rfl).F.kp (M.d 1 _ rfl).b (dag_cons (da1_name 1) (dag_cons (da1_val (de_gint rfl (M.int 0 _ rfl).choose_spec)) dag_nil))) nd) (dss_cons (ds_if (dt_cmp (op_eqD hr.units) s_eq (dr_var 3) (dr_x (dx_lst (dl_cons de_str dl_nil)))) (dss_one (ds_ret (dx_of (de_tup dl_nil)))) dss_nil) (dss_cons (ds_setDc 4 rfl nd (di_enumT (de_var 2) rfl (M.free 3 _ rfl)) (own := [("v", 8), ("word", 7)]) (blk nN_read_named_row_p (defScope s_read_named_row) (by decide +kernel)) (fun s H C cl fp => by exact (dg_tupK (K' := K) rfl rfl (dgs_cons (dg_name 8 nd) (dgs_cons (dg_name 7 nd) dgs_nil)))) (fun s H C cl fp => by exact dts_nil) (fun s H C cl fp => (de_var 7)) (fun s H C cl fp => (de_var 8))) (dss_cons (ds_set 5 (dx_lst dl_nil) nd) (dss_cons (ds_for (passes_of rfl) rfl (di_enumL (de_frz (dx_call (ok_words_of M) (hr.mono (by omega)) rfl (M.d 2 _ rfl).g (M.d 2 _ rfl).F.kp (M.d 2 _ rfl).b (dag_cons (da1_val (de_ix (dr_var 3) (dr_val de_int) fun _ _ => rfl)) dag_nil))) rfl (M.free 3 _ rfl)) (dg_tupK (K' := K) rfl rfl (dgs_cons (dg_name 6 nd) (dgs_cons (dg_name 7 nd) dgs_nil))) (dss_cons (ds_if (dt_w (dw_or (dt_cmp (op_eqD hr.units) s_eq (dr_var 6) (dr_val (de_gint rfl (M.int 3 _ rfl).choose_spec))) (dw_or1 (dt_knotin (un1 hr) (de_var 7) (de_var 4))))) (dss_one (ds_raise (M.bad 4 _ rfl) (hr.mono (by omega)) rfl rfl (de_tup (dl_cons de_int (dl_cons (de_var 6) dl_nil))))) dss_nil) (dss_one (ds_append 5 (de_kget (un1 hr) (de_var 4) (de_var 7) fun _ _ => rfl))))) (dss_cons (ds_if (dt_cmp op_gt (s_cmp _) (dr_val (de_callB call_len s_len rfl (M.free 6 _ rfl) rfl (da_cons (dr_var 3) da_nil))) (dr_val de_int)) (dss_one (ds_raise (M.bad 4 _ rfl) (hr.mono (by omega)) rfl rfl (de_tup (dl_cons de_int (dl_cons de_int dl_nil))))) dss_nil) (dss_one (ds_ret (dx_callTy call_tupN s_tupN rfl (M.free 12 _ rfl) rfl (da_cons (dr_var 5) da_nil)))))))))))
abbrev nN_is_whole : List Str := ["thing"]
def m_is_whole : MS := (sRet (mfz (mandV (mun (isTy "int") (mslot 0)) (mnotV (mun (isTy "bool") (mslot 0))))))
def F_is_whole : FM := fnOf 1 m_is_whole
theorem ok_is_whole (M : Md w K mg base) : Ok w K mg base 1 "_law_is_whole" ["thing"] 1 F_is_whole := by
  have nd : (nN_is_whole).Nodup := by decide +kernel
  refine ME.fn_ok (N := nN_is_whole) (M.d 7 _ rfl).F ⟨rfl, rfl, rfl, by decide +kernel, rfl, by decide +kernel, by decide +kernel⟩ rfl fun T cdv A outer s H E hT hr => ?_
  obtain ⟨T1, T2⟩ := T
  obtain rfl : T1 = tabF K := hT
  exact (dss_one (ds_ret (dx_of (de_and (de_isi (dr_var 0) rfl (M.free 5 _ rfl) rfl (M.free 4 _ rfl) rfl) (de_one (de_not (de_isi (dr_var 0) rfl (M.free 5 _ rfl) rfl (M.free 2 _ rfl) rfl)))))))
abbrev nN_same : List Str := ["told", "owed", "at"]
def m_same (F_same : FM) : MS := (sSeq (sIf (mtst (mbin aIsN (mslot 1) (mval (mpure .non)))) (sRet (mfz (mbin aIsN (mslot 0) (mval (mpure .non))))) sNil) (sSeq (sIf (mtst (mun (isTy "bool") (mslot 1))) (sRet (mfz (mif (mtst (mvar 1)) (mbin aIsB (mslot 0) (mval (mpure (.bl true)))) (mbin aIsB (mslot 0) (mval (mpure (.bl false))))))) sNil) (sSeq (sIf (mtst (mun (isTy "int") (mslot 1))) (sRet (mfz (mandV (mfrz (mCall F_is_whole (mgcons (mAg 0) mgnil))) (mbin aEq (mslot 0) (mslot 1))))) sNil) (sSeq (sIf (mtst (mun (isTy "str") (mslot 1))) (sRet (mfz (mandV (mun (isTy "str") (mslot 0)) (mbin aEq (mslot 0) (mslot 1))))) sNil) (sSeq (sIf (mor (mand (mtst (mun (isTy "tuple") (mslot 1))) (mnot (mtst (mun (isTy "tuple") (mslot 0))))) (mand (mtst (mun (isTy "list") (mslot 1))) (mnot (mtst (mun (isTy "list") (mslot 0)))))) (sRet (mfz (mpure (.bl false)))) sNil) (sSeq (sIf (mtst (mbin aNe (mval (mfn fLen (mcons (mslot 0) mnil))) (mval (mfn fLen (mcons (mslot 1) mnil))))) (sRet (mfz (mpure (.bl false)))) sNil) (sSeq (sFor (mbind (mfn fLen (mcons (mslot 1) mnil)) asR1) (gNm 2) (sIf (mnot (mtst (mfrz (mCall F_same (mgcons (mdat (mbin dIx (mslot 0) (mslot 2))) (mgcons (mdat (mbin dIx (mslot 1) (mslot 2))) mgnil)))))) (sRet (mfz (mpure (.bl false)))) sNil)) (sRet (mfz (mpure (.bl true)))))))))))
def F_same : Nat → FM
  | 0 => fun _ => .no
  | d + 1 => fnOf 3 (m_same (F_same d))
theorem ok_same (M : Md w K mg base) : ∀ d, Ok w K mg base (d + 2) "_law_same" ["told", "owed"] 2 (F_same d)
  | 0 => fn_no
  | d + 1 => by
    have ih := ok_same M d
    have nd : (nN_same).Nodup := by decide +kernel
    refine ME.fn_ok (N := nN_same) (M.d 8 _ rfl).F ⟨rfl, rfl, rfl, by decide +kernel, rfl, by decide +kernel, by decide +kernel⟩ rfl fun T cdv A outer s H E hT hr => ?_
    obtain ⟨T1, T2⟩ := T
    obtain rfl : T1 = tabF K := hT
    exact (dss_cons (ds_if (dt_cmp op_isN s_isN (dr_var 1) (dr_val de_non)) (dss_one (ds_ret (dx_of (de_cmp op_isN s_isN (dr_var 0) (dr_val de_non))))) dss_nil) (dss_cons (ds_if (dt_val (de_isi (dr_var 1) rfl (M.free 5 _ rfl) rfl (M.free 2 _ rfl) rfl)) (dss_one (ds_ret (dx_of (de_if (dt_val (de_var 1)) (de_cmp op_isBl s_isB (dr_var 0) (dr_val de_bl)) (de_cmp op_isBl s_isB (dr_var 0) (dr_val de_bl)))))) dss_nil) (dss_cons (ds_if (dt_val (de_isi (dr_var 1) rfl (M.free 5 _ rfl) rfl (M.free 4 _ rfl) rfl)) (dss_one (ds_ret (dx_of (de_and (de_frz (dx_call (ok_is_whole M) (hr.mono (by omega)) rfl (M.d 7 _ rfl).g (M.d 7 _ rfl).F.kp (M.d 7 _ rfl).b (dag_cons (da1_name 0) dag_nil))) (de_one (de_cmp (op_eqD hr.units) s_eq (dr_var 0) (dr_var 1))))))) dss_nil) (dss_cons (ds_if (dt_val (de_isi (dr_var 1) rfl (M.free 5 _ rfl) rfl (M.free 10 _ rfl) rfl)) (dss_one (ds_ret (dx_of (de_and (de_isi (dr_var 0) rfl (M.free 5 _ rfl) rfl (M.free 10 _ rfl) rfl) (de_one (de_cmp (op_eqD hr.units) s_eq (dr_var 0) (dr_var 1))))))) dss_nil) (dss_cons (ds_if (dt_w (dw_or (dt_w (dw_and (dt_val (de_isi (dr_var 1) rfl (M.free 5 _ rfl) rfl (M.free 12 _ rfl) rfl)) (dw_and1 (dt_not (dt_val (de_isi (dr_var 0) rfl (M.free 5 _ rfl) rfl (M.free 12 _ rfl) rfl)))))) (dw_or1 (dt_w (dw_and (dt_val (de_isi (dr_var 1) rfl (M.free 5 _ rfl) rfl (M.free 7 _ rfl) rfl)) (dw_and1 (dt_not (dt_val (de_isi (dr_var 0) rfl (M.free 5 _ rfl) rfl (M.free 7 _ rfl) rfl))))))))) (dss_one (ds_ret (dx_of de_bl))) dss_nil) (dss_cons (ds_if (dt_cmp (op_neD hr.units) s_ne (dr_val (de_callB call_len s_len rfl (M.free 6 _ rfl) rfl (da_cons (dr_var 0) da_nil))) (dr_val (de_callB call_len s_len rfl (M.free 6 _ rfl) rfl (da_cons (dr_var 1) da_nil)))) (dss_one (ds_ret (dx_of de_bl))) dss_nil) (dss_cons (ds_for (passes_of rfl) rfl (di_rng1 (b := .Constant .none 0 ⟨0, 0, 0, 0⟩) (de_callB call_len s_len rfl (M.free 6 _ rfl) rfl (da_cons (dr_var 1) da_nil)) rfl (M.free 9 _ rfl)) (dg_name 2 nd) (dss_one (ds_if (dt_not (dt_val (de_frz (dx_call ih (hr.mono (by omega)) rfl (M.d 8 _ rfl).g (M.d 8 _ rfl).F.kp (M.d 8 _ rfl).b (dag_cons (da1_val (de_ix (dr_var 0) (dr_var 2) fun _ _ => rfl)) (dag_cons (da1_val (de_ix (dr_var 1) (dr_var 2) fun _ _ => rfl)) dag_nil)))))) (dss_one (ds_ret (dx_of de_bl))) dss_nil))) (dss_one (ds_ret (dx_of de_bl))))))))))
abbrev F_same_ : FM := F_same 5
abbrev nN_pool : List Str := ["script", "k", "cell", "big", "mixed"]
def m_pool : MS := (sSeq (sSet 2 (mfz (mpure (.int 0)))) (sSeq (sIf (mtst (mbin (aCmp fun i j => decide (i < j)) (mslot 1) (mval (mfn fLen (mcons (mslot 0) mnil))))) (sSet 2 (mfz (mbin dIx (mslot 0) (mslot 1)))) (sIf (mtst (mbin aNe (mslot 0) (mval (mfrz (mlst mlnil))))) (sSet 2 (mfz (mbin dIx (mslot 0) (mval (mpure (.int 0)))))) sNil)) (sSeq (sSet 3 (mfz (mfn fMax (mcons (mval (mfn fInt (mcons (mslot 2) mnil))) (mcons (mval (mfn fInt (mcons (mval (mbin aSub (mval (mun aNeg (mval (mpure (.int 1))))) (mslot 2))) mnil))) mnil))))) (sSeq (sSet 4 (mfz (mbin aMod (mval (mfn fInt (mcons (mval (mfrz (mbinX aMul (mval (mfrz (mbinX aAdd (mval (mfrz (mbinX aAdd (mval (mfrz (mbinX aAdd (mval (mbin aMod (mval (mfn fInt (mcons (mslot 3) mnil))) (mval (mpure (.int 2147483629))))) (mval (mfrz (mbinX aMul (mval (mfrz (mbinX aMul (mval (mpure (.int 7919))) (mslot 1)))) (mslot 1))))))) (mval (mfrz (mbinX aMul (mval (mpure (.int 31))) (mslot 1))))))) (mval (mpure (.int 17)))))) (mval (mpure (.int 48271)))))) mnil))) (mval (mpure (.int 2147483647)))))) (sRet (mlst (mlcons (mfrz (mbinX aMul (mslot 3) (mval (mfn fInt (mcons (mval (mandV (mbin (aCmp fun i j => decide (j ≤ i)) (mslot 3) (mval (mbin aPow (mval (mpure (.int 10))) (mval (mpure (.int 18)))))) (mbin (aCmp fun i j => decide (i < j)) (mslot 1) (mval (mfn fLen (mcons (mslot 0) mnil)))))) mnil))))) (mlcons (mvar 4) mlnil))))))))
def F_pool : FM := fnOf 5 m_pool
theorem ok_pool (M : Md w K mg base) : Ok w K mg base 1 "_law_pool" ["script", "k"] 2 F_pool := by
  have nd : (nN_pool).Nodup := by decide +kernel
  refine ME.fn_ok (N := nN_pool) (M.d 13 _ rfl).F ⟨rfl, rfl, rfl, by decide +kernel, rfl, by decide +kernel, by decide +kernel⟩ rfl fun T cdv A outer s H E hT hr => ?_
  obtain ⟨T1, T2⟩ := T
  obtain rfl : T1 = tabF K := hT
  exact (dss_cons (ds_set 2 (dx_of de_int) nd) (dss_cons (ds_if (dt_cmp op_lt (s_cmp _) (dr_var 1) (dr_val (de_callB call_len s_len rfl (M.free 6 _ rfl) rfl (da_cons (dr_var 0) da_nil)))) (dss_one (ds_set 2 (dx_of (de_ix (dr_var 0) (dr_var 1) fun _ _ => rfl)) nd)) (dss_one (ds_if (dt_cmp (op_neD hr.units) s_ne (dr_var 0) (dr_x (dx_lst dl_nil))) (dss_one (ds_set 2 (dx_of (de_ix (dr_var 0) (dr_val de_int) fun _ _ => rfl)) nd)) dss_nil))) (dss_cons (ds_set 3 (dx_of (de_callB (call_max2 rfl) s_max rfl (M.free 8 _ rfl) rfl (da_cons (dr_val (de_callTy call_int1 s_toInt rfl (M.free 4 _ rfl) rfl (da_cons (dr_var 2) da_nil))) (da_cons (dr_val (de_callTy call_int1 s_toInt rfl (M.free 4 _ rfl) rfl (da_cons (dr_val (de_bin op_sub (s_int _) (dr_val (de_un un_neg s_neg (dr_val de_int))) (dr_var 2))) da_nil))) da_nil)))) nd) (dss_cons (ds_set 4 (dx_of (de_bin op_mod (s_intC _ _) (dr_val (de_callTy call_int1 s_toInt rfl (M.free 4 _ rfl) rfl (da_cons (dr_x (dx_bin op_mulA s_mulA (dr_x (dx_bin op_addA s_addA (dr_x (dx_bin op_addA s_addA (dr_x (dx_bin op_addA s_addA (dr_val (de_bin op_mod (s_intC _ _) (dr_val (de_callTy call_int1 s_toInt rfl (M.free 4 _ rfl) rfl (da_cons (dr_var 3) da_nil))) (dr_val de_int))) (dr_x (dx_bin op_mulA s_mulA (dr_x (dx_bin op_mulA s_mulA (dr_val de_int) (dr_var 1))) (dr_var 1))))) (dr_x (dx_bin op_mulA s_mulA (dr_val de_int) (dr_var 1))))) (dr_val de_int))) (dr_val de_int))) da_nil))) (dr_val de_int))) nd) (dss_one (ds_ret (dx_lst (dl_cons (de_frz (dx_bin op_mulA s_mulA (dr_var 3) (dr_val (de_callTy call_int1 s_toInt rfl (M.free 4 _ rfl) rfl (da_cons (dr_val (de_and (de_cmp op_ge (s_cmp _) (dr_var 3) (dr_val (de_bin op_pow (s_intC _ _) (dr_val de_int) (dr_val de_int)))) (de_one (de_cmp op_lt (s_cmp _) (dr_var 1) (dr_val (de_callB call_len s_len rfl (M.free 6 _ rfl) rfl (da_cons (dr_var 0) da_nil))))))) da_nil))))) (dl_cons (de_var 4) dl_nil)))))))))
abbrev nN_take : List Str := ["jar", "top", "number"]
def m_take : MS := (sSeq (sIf (mtst (mbin (aCmp fun i j => decide (j < i)) (mval (mbin dIx (mslot 0) (mval (mpure (.int 0))))) (mval (mpure (.int 0))))) (sSeq (sSet 2 (mfz (mbin aMod (mval (mfn fInt (mcons (mval (mbin dIx (mslot 0) (mval (mpure (.int 0))))) mnil))) (mslot 1)))) (sSeq (sPut 0 (mpure (.int 0)) (mbin aFdiv (mval (mbin dIx (mslot 0) (mval (mpure (.int 0))))) (mslot 1))) (sRet (mmove 2)))) sNil) (sSeq (sPut 0 (mpure (.int 1)) (mbin aMod (mval (mfn fInt (mcons (mval (mfrz (mbinX aAdd (mval (mfrz (mbinX aMul (mval (mbin dIx (mslot 0) (mval (mpure (.int 1))))) (mval (mpure (.int 39373)))))) (mval (mpure (.int 7)))))) mnil))) (mval (mpure (.int 2147483647))))) (sRet (mfz (mbin aMod (mval (mfn fInt (mcons (mval (mbin aFdiv (mval (mbin aMod (mval (mfn fInt (mcons (mval (mfrz (mbinX aMul (mval (mbin dIx (mslot 0) (mval (mpure (.int 1))))) (mval (mbin dIx (mslot 0) (mval (mpure (.int 1)))))))) mnil))) (mval (mpure (.int 2147483629))))) (mval (mpure (.int 32))))) mnil))) (mslot 1))))))
def F_take : FM := fnOf 3 m_take
theorem ok_take (M : Md w K mg base) : Ok w K mg base 1 "_law_take" ["jar", "top"] 2 F_take := by
  have nd : (nN_take).Nodup := by decide +kernel
  refine ME.fn_ok (N := nN_take) (M.d 14 _ rfl).F ⟨rfl, rfl, rfl, by decide +kernel, rfl, by decide +kernel, by decide +kernel⟩ rfl fun T cdv A outer s H E hT hr => ?_
  obtain ⟨T1, T2⟩ := T
  obtain rfl : T1 = tabF K := hT
  exact (dss_cons (ds_if (dt_cmp op_gt (s_cmp _) (dr_val (de_ix (dr_var 0) (dr_val de_int) fun _ _ => rfl)) (dr_val de_int)) (dss_cons (ds_set 2 (dx_of (de_bin op_mod (s_intC _ _) (dr_val (de_callTy call_int1 s_toInt rfl (M.free 4 _ rfl) rfl (da_cons (dr_val (de_ix (dr_var 0) (dr_val de_int) fun _ _ => rfl)) da_nil))) (dr_var 1))) nd) (dss_cons (ds_put 0 (de_bin op_fdiv (s_intC _ _) (dr_val (de_ix (dr_var 0) (dr_val de_int) fun _ _ => rfl)) (dr_var 1)) de_int) (dss_one (ds_ret (dx_move 2))))) dss_nil) (dss_cons (ds_put 0 (de_bin op_mod (s_intC _ _) (dr_val (de_callTy call_int1 s_toInt rfl (M.free 4 _ rfl) rfl (da_cons (dr_x (dx_bin op_addA s_addA (dr_x (dx_bin op_mulA s_mulA (dr_val (de_ix (dr_var 0) (dr_val de_int) fun _ _ => rfl)) (dr_val de_int))) (dr_val de_int))) da_nil))) (dr_val de_int)) de_int) (dss_one (ds_ret (dx_of (de_bin op_mod (s_intC _ _) (dr_val (de_callTy call_int1 s_toInt rfl (M.free 4 _ rfl) rfl (da_cons (dr_val (de_bin op_fdiv (s_intC _ _) (dr_val (de_bin op_mod (s_intC _ _) (dr_val (de_callTy call_int1 s_toInt rfl (M.free 4 _ rfl) rfl (da_cons (dr_x (dx_bin op_mulA s_mulA (dr_val (de_ix (dr_var 0) (dr_val de_int) fun _ _ => rfl)) (dr_val (de_ix (dr_var 0) (dr_val de_int) fun _ _ => rfl)))) da_nil))) (dr_val de_int))) (dr_val de_int))) da_nil))) (dr_var 1)))))))
abbrev nN_one : List Str := ["jar", "things"]
def m_one : MS := (sRet (mfz (mbin dIx (mslot 1) (mval (mfrz (mCall F_take (mgcons (mAg 0) (mgcons (mdat (mfn fLen (mcons (mslot 1) mnil))) mgnil))))))))
def F_one : FM := fnOf 2 m_one
theorem ok_one (M : Md w K mg base) : Ok w K mg base 2 "_law_one" ["jar", "things"] 2 F_one := by
  have nd : (nN_one).Nodup := by decide +kernel
  refine ME.fn_ok (N := nN_one) (M.d 15 _ rfl).F ⟨rfl, rfl, rfl, by decide +kernel, rfl, by decide +kernel, by decide +kernel⟩ rfl fun T cdv A outer s H E hT hr => ?_
  obtain ⟨T1, T2⟩ := T
  obtain rfl : T1 = tabF K := hT
  exact (dss_one (ds_ret (dx_of (de_ix (dr_var 1) (dr_x (dx_call (ok_take M) (hr.mono (by omega)) rfl (M.d 14 _ rfl).g (M.d 14 _ rfl).F.kp (M.d 14 _ rfl).b (dag_cons (da1_name 0) (dag_cons (da1_val (de_callB call_len s_len rfl (M.free 6 _ rfl) rfl (da_cons (dr_var 1) da_nil))) dag_nil)))) fun _ _ => rfl))))
abbrev nN_wrong_row : List Str := ["things", "thing", "bad", "at"]
def m_wrong_row : MS := (sSeq (sIf (mnot (mtst (mun (isTy "tuple") (mslot 1)))) (sRet (mfz (mtup (mlcons (mpure (.str "BadRow")) (mlcons (mun aNeg (mval (mpure (.int 1)))) mlnil))))) sNil) (sSeq (sIf (mtst (mbin (aCmp fun i j => decide (j < i)) (mval (mfn fLen (mcons (mslot 1) mnil))) (mval (mpure (.int 300))))) (sRet (mfz (mtup (mlcons (mpure (.str "TooMany")) (mlcons (mfn fLen (mcons (mslot 1) mnil)) mlnil))))) sNil) (sSeq (sSet 2 (mComp [3] (mbind (mfn fLen (mcons (mslot 1) mnil)) asR1) (gNm 3) (mor (mnot (mtst (mfrz (mCall F_is_whole (mgcons (mdat (mbin dIx (mslot 1) (mslot 3))) mgnil))))) (mor (mtst (mbin (aCmp fun i j => decide (i < j)) (mval (mbin dIx (mslot 1) (mslot 3))) (mval (mpure (.int 0))))) (mtst (mbin (aCmp fun i j => decide (j ≤ i)) (mval (mbin dIx (mslot 1) (mslot 3))) (mslot 0))))) (mvar 3))) (sRet (mfz (mif (mtst (mbin aNe (mslot 2) (mval (mfrz (mlst mlnil))))) (mtup (mlcons (mpure (.str "BadRow")) (mlcons (mbin dIx (mslot 2) (mval (mpure (.int 0)))) mlnil))) (mpure .non)))))))
def F_wrong_row : FM := fnOf 4 m_wrong_row
theorem ok_wrong_row (M : Md w K mg base) : Ok w K mg base 2 "_law_wrong_row" ["things", "thing"] 2 F_wrong_row := by
  have nd : (nN_wrong_row).Nodup := by decide +kernel
  refine ME.fn_ok (N := nN_wrong_row) (M.d 16 _ rfl).F ⟨rfl, rfl, rfl, by decide +kernel, rfl, by decide +kernel, by decide +kernel⟩ rfl fun T cdv A outer s H E hT hr => ?_
  obtain ⟨T1, T2⟩ := T
  obtain rfl : T1 = tabF K := hT
  exact (dss_cons (ds_if (dt_not (dt_val (de_isi (dr_var 1) rfl (M.free 5 _ rfl) rfl (M.free 12 _ rfl) rfl))) (dss_one (ds_ret (dx_of (de_tup (dl_cons de_str (dl_cons (de_un un_neg s_neg (dr_val de_int)) dl_nil)))))) dss_nil) (dss_cons (ds_if (dt_cmp op_gt (s_cmp _) (dr_val (de_callB call_len s_len rfl (M.free 6 _ rfl) rfl (da_cons (dr_var 1) da_nil))) (dr_val de_int)) (dss_one (ds_ret (dx_of (de_tup (dl_cons de_str (dl_cons (de_callB call_len s_len rfl (M.free 6 _ rfl) rfl (da_cons (dr_var 1) da_nil)) dl_nil)))))) dss_nil) (dss_cons (ds_setLc 2 rfl nd (di_rng1 (b := .Constant .none 0 ⟨0, 0, 0, 0⟩) (de_callB call_len s_len rfl (M.free 6 _ rfl) rfl (da_cons (dr_var 1) da_nil)) rfl (M.free 9 _ rfl)) (own := [("at", 3)]) (blk nN_wrong_row (defScope s__law_wrong_row) (by decide +kernel)) (fun s H C cl fp => by exact (dg_name 3 nd)) (fun s H C cl fp => (dts_one (dt_w (dw_or (dt_not (dt_val (de_frz (dx_call (ok_is_whole M) (hr.mono (by omega)) rfl (M.d 7 _ rfl).g (M.d 7 _ rfl).F.kp (M.d 7 _ rfl).b (dag_cons (da1_val (de_ix (dr_var 1) (dr_var 3) fun _ _ => rfl)) dag_nil))))) (dw_or (dt_cmp op_lt (s_cmp _) (dr_val (de_ix (dr_var 1) (dr_var 3) fun _ _ => rfl)) (dr_val de_int)) (dw_or1 (dt_cmp op_ge (s_cmp _) (dr_val (de_ix (dr_var 1) (dr_var 3) fun _ _ => rfl)) (dr_var 0)))))))) (fun s H C cl fp => (de_var 3))) (dss_one (ds_ret (dx_of (de_if (dt_cmp (op_neD hr.units) s_ne (dr_var 2) (dr_x (dx_lst dl_nil))) (de_tup (dl_cons de_str (dl_cons (de_ix (dr_var 2) (dr_val de_int) fun _ _ => rfl) dl_nil))) de_non)))))))
abbrev nN_text_wrong : List Str := ["thing", "most"]
def m_text_wrong : MS := (sSeq (sIf (mnot (mtst (mun (isTy "str") (mslot 0)))) (sRet (mfz (mtup (mlcons (mpure (.str "BadText")) (mlcons (mun aNeg (mval (mpure (.int 1)))) mlnil))))) sNil) (sRet (mfz (mif (mtst (mbin (aCmp fun i j => decide (j < i)) (mval (mfn fLen (mcons (mslot 0) mnil))) (mslot 1))) (mtup (mlcons (mpure (.str "TooMany")) (mlcons (mfn fLen (mcons (mslot 0) mnil)) mlnil))) (mpure .non)))))
def F_text_wrong : FM := fnOf 2 m_text_wrong
theorem ok_text_wrong (M : Md w K mg base) : Ok w K mg base 1 "_law_text_wrong" ["thing", "most"] 2 F_text_wrong := by
  have nd : (nN_text_wrong).Nodup := by decide +kernel
  refine ME.fn_ok (N := nN_text_wrong) (M.d 17 _ rfl).F ⟨rfl, rfl, rfl, by decide +kernel, rfl, by decide +kernel, by decide +kernel⟩ rfl fun T cdv A outer s H E hT hr => ?_
  obtain ⟨T1, T2⟩ := T
  obtain rfl : T1 = tabF K := hT
  exact (dss_cons (ds_if (dt_not (dt_val (de_isi (dr_var 0) rfl (M.free 5 _ rfl) rfl (M.free 10 _ rfl) rfl))) (dss_one (ds_ret (dx_of (de_tup (dl_cons de_str (dl_cons (de_un un_neg s_neg (dr_val de_int)) dl_nil)))))) dss_nil) (dss_one (ds_ret (dx_of (de_if (dt_cmp op_gt (s_cmp _) (dr_val (de_callB call_len s_len rfl (M.free 6 _ rfl) rfl (da_cons (dr_var 0) da_nil))) (dr_var 1)) (de_tup (dl_cons de_str (dl_cons (de_callB call_len s_len rfl (M.free 6 _ rfl) rfl (da_cons (dr_var 0) da_nil)) dl_nil))) de_non)))))
abbrev nN_is_name : List Str := ["thing", "sign"]
def m_is_name : MS := (sSeq (sIf (mor (mnot (mtst (mun (isTy "str") (mslot 0)))) (mnot (mtst (mchain (aCmp fun i j => decide (i ≤ j)) (aCmp fun i j => decide (i ≤ j)) (mval (mpure (.int 1))) (mval (mfn fLen (mcons (mslot 0) mnil))) (mval (mpure (.int 12))))))) (sRet (mfz (mpure (.bl false)))) sNil) (sSeq (sIf (mtst (mbin aIn (mslot 0) (mval (mfrz (mlst (mlcons (mpure (.str "none")) (mlcons (mpure (.str "from")) (mlcons (mpure (.str "of")) (mlcons (mpure (.str "out")) (mlcons (mpure (.str "with")) (mlcons (mpure (.str "apart")) mlnil))))))))))) (sRet (mfz (mpure (.bl false)))) sNil) (sRet (mfz (mbin aEq (mval (mfrz (mComp [1] (mItC (mvar 0)) (gNm 1) (mtst (mbin aNotIn (mslot 1) (mval (mpure (.str "abcdefghijklmnopqrstuvwxyz"))))) (mvar 1)))) (mval (mfrz (mlst mlnil))))))))
def F_is_name : FM := fnOf 2 m_is_name
theorem ok_is_name (M : Md w K mg base) : Ok w K mg base 1 "_law_is_name" ["thing"] 1 F_is_name := by
  have nd : (nN_is_name).Nodup := by decide +kernel
  refine ME.fn_ok (N := nN_is_name) (M.d 18 _ rfl).F ⟨rfl, rfl, rfl, by decide +kernel, rfl, by decide +kernel, by decide +kernel⟩ rfl fun T cdv A outer s H E hT hr => ?_
  obtain ⟨T1, T2⟩ := T
  obtain rfl : T1 = tabF K := hT
  exact (dss_cons (ds_if (dt_w (dw_or (dt_not (dt_val (de_isi (dr_var 0) rfl (M.free 5 _ rfl) rfl (M.free 10 _ rfl) rfl))) (dw_or1 (dt_not (dt_chain op_le op_le (s_cmp _) (s_cmp _) (dr_val de_int) (dr_val (de_callB call_len s_len rfl (M.free 6 _ rfl) rfl (da_cons (dr_var 0) da_nil))) (dr_val de_int)))))) (dss_one (ds_ret (dx_of de_bl))) dss_nil) (dss_cons (ds_if (dt_cmp op_inA s_in (dr_var 0) (dr_x (dx_lst (dl_cons de_str (dl_cons de_str (dl_cons de_str (dl_cons de_str (dl_cons de_str (dl_cons de_str dl_nil))))))))) (dss_one (ds_ret (dx_of de_bl))) dss_nil) (dss_one (ds_ret (dx_of (de_cmp (op_eqD hr.units) s_eq (dr_x (dx_lc rfl nd (di_str (de_var 0)) (own := [("sign", 1)]) (blk nN_is_name (defScope s__law_is_name) (by decide +kernel)) (fun s H C cl fp => by exact (dg_name 1 nd)) (fun s H C cl fp => (dts_one (dt_cmp op_notInA s_notIn (dr_var 1) (dr_val de_str)))) (fun s H C cl fp => (de_var 1)))) (dr_x (dx_lst dl_nil))))))))
abbrev nN_wrong_names : List Str := ["thing", "at"]
def m_wrong_names : MS := (sSeq (sIf (mnot (mtst (mun (isTy "tuple") (mslot 0)))) (sRet (mfz (mtup (mlcons (mpure (.str "BadNames")) (mlcons (mun aNeg (mval (mpure (.int 1)))) mlnil))))) sNil) (sSeq (sIf (mtst (mbin (aCmp fun i j => decide (j < i)) (mval (mfn fLen (mcons (mslot 0) mnil))) (mval (mpure (.int 24))))) (sRet (mfz (mtup (mlcons (mpure (.str "TooMany")) (mlcons (mfn fLen (mcons (mslot 0) mnil)) mlnil))))) sNil) (sSeq (sFor (mbind (mfn fLen (mcons (mslot 0) mnil)) asR1) (gNm 1) (sIf (mor (mnot (mtst (mfrz (mCall F_is_name (mgcons (mdat (mbin dIx (mslot 0) (mslot 1))) mgnil))))) (mtst (mbin aIn (mval (mbin dIx (mslot 0) (mslot 1))) (mval (mfrz (mslice (mslot 0) (mpure none) (mpart (mvar 1)))))))) (sRet (mfz (mtup (mlcons (mpure (.str "BadNames")) (mlcons (mvar 1) mlnil))))) sNil)) (sRet (mfz (mpure .non))))))
def F_wrong_names : FM := fnOf 2 m_wrong_names
theorem ok_wrong_names (M : Md w K mg base) : Ok w K mg base 2 "_law_wrong_names" ["thing"] 1 F_wrong_names := by
  have nd : (nN_wrong_names).Nodup := by decide +kernel
  refine ME.fn_ok (N := nN_wrong_names) (M.d 19 _ rfl).F ⟨rfl, rfl, rfl, by decide +kernel, rfl, by decide +kernel, by decide +kernel⟩ rfl fun T cdv A outer s H E hT hr => ?_
  obtain ⟨T1, T2⟩ := T
  obtain rfl : T1 = tabF K := hT
  exact (dss_cons (ds_if (dt_not (dt_val (de_isi (dr_var 0) rfl (M.free 5 _ rfl) rfl (M.free 12 _ rfl) rfl))) (dss_one (ds_ret (dx_of (de_tup (dl_cons de_str (dl_cons (de_un un_neg s_neg (dr_val de_int)) dl_nil)))))) dss_nil) (dss_cons (ds_if (dt_cmp op_gt (s_cmp _) (dr_val (de_callB call_len s_len rfl (M.free 6 _ rfl) rfl (da_cons (dr_var 0) da_nil))) (dr_val de_int)) (dss_one (ds_ret (dx_of (de_tup (dl_cons de_str (dl_cons (de_callB call_len s_len rfl (M.free 6 _ rfl) rfl (da_cons (dr_var 0) da_nil)) dl_nil)))))) dss_nil) (dss_cons (ds_for (passes_of rfl) rfl (di_rng1 (b := .Constant .none 0 ⟨0, 0, 0, 0⟩) (de_callB call_len s_len rfl (M.free 6 _ rfl) rfl (da_cons (dr_var 0) da_nil)) rfl (M.free 9 _ rfl)) (dg_name 1 nd) (dss_one (ds_if (dt_w (dw_or (dt_not (dt_val (de_frz (dx_call (ok_is_name M) (hr.mono (by omega)) rfl (M.d 18 _ rfl).g (M.d 18 _ rfl).F.kp (M.d 18 _ rfl).b (dag_cons (da1_val (de_ix (dr_var 0) (dr_var 1) fun _ _ => rfl)) dag_nil))))) (dw_or1 (dt_cmp op_inA s_in (dr_val (de_ix (dr_var 0) (dr_var 1) fun _ _ => rfl)) (dr_x (dx_slice (dr_var 0) do_none (do_some (de_var 1)))))))) (dss_one (ds_ret (dx_of (de_tup (dl_cons de_str (dl_cons (de_var 1) dl_nil)))))) dss_nil))) (dss_one (ds_ret (dx_of de_non))))))
abbrev nN_named_text : List Str := ["names_of", "row", "v"]
def m_named_text : MS := (sRet (mm1 oJoin (mpure (.str " ")) (mval (mfrz (mComp [2] (mItT (mvar 1)) (gNm 2) (mpure true) (mbin dIx (mslot 0) (mslot 2)))))))
def F_named_text : FM := fnOf 3 m_named_text
theorem ok_named_text (M : Md w K mg base) : Ok w K mg base 1 "_law_named_text" ["names_of", "row"] 2 F_named_text := by
  have nd : (nN_named_text).Nodup := by decide +kernel
  refine ME.fn_ok (N := nN_named_text) (M.d 20 _ rfl).F ⟨rfl, rfl, rfl, by decide +kernel, rfl, by decide +kernel, by decide +kernel⟩ rfl fun T cdv A outer s H E hT hr => ?_
  obtain ⟨T1, T2⟩ := T
  obtain rfl : T1 = tabF K := hT
  exact (dss_one (ds_ret (dx_m1 PySem.F.slot_str_join rfl mt_join sp_join de_str (dr_x (dx_lc rfl nd (di_tup (de_var 1)) (own := [("v", 2)]) (blk nN_named_text (defScope s__law_named_text) (by decide +kernel)) (fun s H C cl fp => by exact (dg_name 2 nd)) (fun s H C cl fp => dts_nil) (fun s H C cl fp => (de_ix (dr_var 0) (dr_var 2) fun _ _ => rfl)))))))
abbrev nN_read_named_row : List Str := ["names_of", "text", "wrong", "lines_now", "said", "bad", "at", "word"]
def m_read_named_row : MS := (sSeq (sSet 2 (mCall F_text_wrong (mgcons (mAg 1) (mgcons (mdat (mpure (.int 400000))) mgnil)))) (sSeq (sIf (mtst (mbin aNotN (mslot 2) (mval (mpure .non)))) (sRet (mmove 2)) sNil) (sSeq (sIf (mtst (mbin aEq (mslot 1) (mval (mpure (.str ""))))) (sRet (mfz (mtup (mlcons (mpure (.str "told")) (mlcons (mtup mlnil) mlnil))))) sNil) (sSeq (sSet 3 (mm1 oSplit (mvar 1) (mval (mpure (.str "\n"))))) (sSeq (sSet 4 (mm1 oSplit (mbin dIx (mslot 3) (mval (mpure (.int 0)))) (mval (mpure (.str " "))))) (sSeq (sSet 5 (mComp [6] (mbind (mfn fLen (mcons (mslot 4) mnil)) asR1) (gNm 6) (mor (mtst (mbin aNotIn (mval (mbin dIx (mslot 4) (mslot 6))) (mslot 0))) (mtst (mbin (aCmp fun i j => decide (j < i)) (mslot 6) (mval (mpure (.int 299)))))) (mvar 6))) (sSeq (sIf (mtst (mbin aNe (mslot 5) (mval (mfrz (mlst mlnil))))) (sRet (mfz (mtup (mlcons (mpure (.str "WrongLine")) (mlcons (mtup (mlcons (mpure (.int 0)) (mlcons (mbin dIx (mslot 5) (mval (mpure (.int 0)))) mlnil))) mlnil))))) sNil) (sRet (mfz (mif (mtst (mbin aEq (mval (mfn fLen (mcons (mslot 3) mnil))) (mval (mpure (.int 1))))) (mtup (mlcons (mpure (.str "told")) (mlcons (mfrz (mfnX fTupN (mcons (mval (mfrz (mComp [7] (mItL (mfrzV 4)) (gNm 7) (mpure true) (mTIx 0 (mvar 7))))) mnil))) mlnil))) (mtup (mlcons (mpure (.str "WrongLine")) (mlcons (mtup (mlcons (mpure (.int 1)) (mlcons (mpure (.int 0)) mlnil))) mlnil)))))))))))))
def F_read_named_row : FM := fnOf 8 m_read_named_row
theorem ok_read_named_row (M : Md w K mg base) : Ok w K mg base 2 "_law_read_named_row" ["names_of", "text"] 2 F_read_named_row := by
  have nd : (nN_read_named_row).Nodup := by decide +kernel
  refine ME.fn_ok (N := nN_read_named_row) (M.d 21 _ rfl).F ⟨rfl, rfl, rfl, by decide +kernel, rfl, by decide +kernel, by decide +kernel⟩ rfl fun T cdv A outer s H E hT hr => ?_
  obtain ⟨T1, T2⟩ := T
  obtain rfl : T1 = tabF K := hT
  exact (dss_cons (ds_set 2 (dx_call (ok_text_wrong M) (hr.mono (by omega)) rfl (M.d 17 _ rfl).g (M.d 17 _ rfl).F.kp (M.d 17 _ rfl).b (dag_cons (da1_name 1) (dag_cons (da1_val de_int) dag_nil))) nd) (dss_cons (ds_if (dt_cmp op_notN s_notN (dr_var 2) (dr_val de_non)) (dss_one (ds_ret (dx_move 2))) dss_nil) (dss_cons (ds_if (dt_cmp (op_eqD hr.units) s_eq (dr_var 1) (dr_val de_str)) (dss_one (ds_ret (dx_of (de_tup (dl_cons de_str (dl_cons (de_tup dl_nil) dl_nil)))))) dss_nil) (dss_cons (ds_set 3 (dx_m1 PySem.F.slot_str_split rfl mt_split sp_split (de_var 1) (dr_val de_str)) nd) (dss_cons (ds_set 4 (dx_m1 PySem.F.slot_str_split rfl mt_split sp_split (de_ix (dr_var 3) (dr_val de_int) fun _ _ => rfl) (dr_val de_str)) nd) (dss_cons (ds_setLc 5 rfl nd (di_rng1 (b := .Constant .none 0 ⟨0, 0, 0, 0⟩) (de_callB call_len s_len rfl (M.free 6 _ rfl) rfl (da_cons (dr_var 4) da_nil)) rfl (M.free 9 _ rfl)) (own := [("at", 6)]) (blk nN_read_named_row (defScope s__law_read_named_row) (by decide +kernel)) (fun s H C cl fp => by exact (dg_name 6 nd)) (fun s H C cl fp => (dts_one (dt_w (dw_or (dt_cmp op_notInA s_notIn (dr_val (de_ix (dr_var 4) (dr_var 6) fun _ _ => rfl)) (dr_var 0)) (dw_or1 (dt_cmp op_gt (s_cmp _) (dr_var 6) (dr_val de_int))))))) (fun s H C cl fp => (de_var 6))) (dss_cons (ds_if (dt_cmp (op_neD hr.units) s_ne (dr_var 5) (dr_x (dx_lst dl_nil))) (dss_one (ds_ret (dx_of (de_tup (dl_cons de_str (dl_cons (de_tup (dl_cons de_int (dl_cons (de_ix (dr_var 5) (dr_val de_int) fun _ _ => rfl) dl_nil))) dl_nil)))))) dss_nil) (dss_one (ds_ret (dx_of (de_if (dt_cmp (op_eqD hr.units) s_eq (dr_val (de_callB call_len s_len rfl (M.free 6 _ rfl) rfl (da_cons (dr_var 3) da_nil))) (dr_val de_int)) (de_tup (dl_cons de_str (dl_cons (de_frz (dx_callTy call_tupN s_tupN rfl (M.free 12 _ rfl) rfl (da_cons (dr_x (dx_lc rfl nd (di_lst (de_frzV 4)) (own := [("word", 7)]) (blk nN_read_named_row (defScope s__law_read_named_row) (by decide +kernel)) (fun s H C cl fp => by exact (dg_name 7 nd)) (fun s H C cl fp => dts_nil) (fun s H C cl fp => (de_tindex 0 (de_var 7))))) da_nil))) dl_nil))) (de_tup (dl_cons de_str (dl_cons (de_tup (dl_cons de_int (dl_cons de_int dl_nil))) dl_nil))))))))))))))
abbrev nN_drawn_name : List Str := ["jar", "most", "many", "name", "go"]
def m_drawn_name : MS := (sSeq (sSet 2 (mbinX aAdd (mval (mpure (.int 1))) (mval (mfrz (mCall F_take (mgcons (mAg 0) (mgcons (mAg 1) mgnil))))))) (sSeq (sSet 3 (mm1 oJoin (mpure (.str "")) (mval (mfrz (mComp [4] (mbind (mvar 2) asR1) (gNm 4) (mpure true) (mfrz (mCall F_one (mgcons (mAg 0) (mgcons (mdat (mfrz (mlst (mlcons (mpure (.str "a")) (mlcons (mpure (.str "b")) (mlcons (mpure (.str "e")) (mlcons (mpure (.str "o")) (mlcons (mpure (.str "z")) mlnil)))))))) mgnil))))))))) (sRet (mif (mtst (mfrz (mCall F_is_name (mgcons (mAg 3) mgnil)))) (mmove 3) (mbinX aAdd (mslot 3) (mval (mpure (.str "x"))))))))
def F_drawn_name : FM := fnOf 5 m_drawn_name
theorem ok_drawn_name (M : Md w K mg base) : Ok w K mg base 3 "_law_drawn_name" ["jar", "most"] 2 F_drawn_name := by
  have nd : (nN_drawn_name).Nodup := by decide +kernel
  refine ME.fn_ok (N := nN_drawn_name) (M.d 22 _ rfl).F ⟨rfl, rfl, rfl, by decide +kernel, rfl, by decide +kernel, by decide +kernel⟩ rfl fun T cdv A outer s H E hT hr => ?_
  obtain ⟨T1, T2⟩ := T
  obtain rfl : T1 = tabF K := hT
  exact (dss_cons (ds_set 2 (dx_bin op_addA s_addA (dr_val de_int) (dr_x (dx_call (ok_take M) (hr.mono (by omega)) rfl (M.d 14 _ rfl).g (M.d 14 _ rfl).F.kp (M.d 14 _ rfl).b (dag_cons (da1_name 0) (dag_cons (da1_name 1) dag_nil))))) nd) (dss_cons (ds_set 3 (dx_m1 PySem.F.slot_str_join rfl mt_join sp_join de_str (dr_x (dx_lc rfl nd (di_rng1 (b := .Constant .none 0 ⟨0, 0, 0, 0⟩) (de_var 2) rfl (M.free 9 _ rfl)) (own := [("go", 4)]) (blk nN_drawn_name (defScope s__law_drawn_name) (by decide +kernel)) (fun s H C cl fp => by exact (dg_name 4 nd)) (fun s H C cl fp => dts_nil) (fun s H C cl fp => (de_frz (dx_call (ok_one M) (hr.mono (by omega)) rfl (M.d 15 _ rfl).g (M.d 15 _ rfl).F.kp (M.d 15 _ rfl).b (dag_cons (da1_name 0) (dag_cons (da1_val (de_frz (dx_lst (dl_cons de_str (dl_cons de_str (dl_cons de_str (dl_cons de_str (dl_cons de_str dl_nil)))))))) dag_nil)))))))) nd) (dss_one (ds_ret (dx_if (dt_val (de_frz (dx_call (ok_is_name M) (hr.mono (by omega)) rfl (M.d 18 _ rfl).g (M.d 18 _ rfl).F.kp (M.d 18 _ rfl).b (dag_cons (da1_name 3) dag_nil)))) (dx_move 3) (dx_bin op_addA s_addA (dr_var 3) (dr_val de_str)))))))
abbrev nN_bent_text : List Str := ["jar", "text", "form", "at", "lines_now", "k", "sign"]
def m_bent_text : MS := (sSeq (sPar [2, 3] (mxcons (mCall F_take (mgcons (mAg 0) (mgcons (mdat (mpure (.int 6))) mgnil))) (mxcons (mCall F_take (mgcons (mAg 0) (mgcons (mdat (mfrz (mbinX aAdd (mval (mfn fLen (mcons (mslot 1) mnil))) (mval (mpure (.int 1)))))) mgnil))) mxnil))) (sSeq (sSet 4 (mm1 oSplit (mvar 1) (mval (mpure (.str "\n"))))) (sSeq (sSet 5 (mCall F_take (mgcons (mAg 0) (mgcons (mdat (mfn fLen (mcons (mslot 4) mnil))) mgnil)))) (sSeq (sIf (mtst (mbin aEq (mslot 2) (mval (mpure (.int 0))))) (sRet (mbinX aAdd (mval (mfrz (mslice (mslot 1) (mpure none) (mpart (mvar 3))))) (mval (mfrz (mslice (mslot 1) (mpart (mfrz (mbinX aAdd (mslot 3) (mval (mpure (.int 1)))))) (mpure none)))))) sNil) (sSeq (sIf (mtst (mbin (aCmp fun i j => decide (i < j)) (mslot 2) (mval (mpure (.int 4))))) (sSeq (sSet 6 (mCall F_one (mgcons (mAg 0) (mgcons (mdat (mfrz (mlst (mlcons (mpure (.str " ")) (mlcons (mpure (.str "\n")) (mlcons (mpure (.str "-")) (mlcons (mpure (.str "0")) (mlcons (mpure (.str "1")) (mlcons (mpure (.str "7")) (mlcons (mpure (.str ",")) (mlcons (mpure (.str "a")) (mlcons (mpure (.str "none")) (mlcons (mpure (.str "x")) (mlcons (mpure (.str "+")) (mlcons (mpure (.str "of")) (mlcons (mpure (.str "2")) (mlcons (mpure (.str "from")) mlnil))))))))))))))))) mgnil)))) (sRet (mbinX aAdd (mval (mfrz (mbinX aAdd (mval (mfrz (mslice (mslot 1) (mpure none) (mpart (mvar 3))))) (mslot 6)))) (mval (mfrz (mslice (mslot 1) (mpart (mfrz (mbinX aAdd (mslot 3) (mval (mfn fInt (mcons (mval (mbin aEq (mslot 2) (mval (mpure (.int 3))))) mnil)))))) (mpure none))))))) sNil) (sRet (mif (mtst (mbin aEq (mslot 2) (mval (mpure (.int 4))))) (mm1 oJoin (mpure (.str "\n")) (mval (mfrz (mbinX aAdd (mval (mfrz (mslice (mslot 4) (mpure none) (mpart (mfrz (mbinX aAdd (mslot 5) (mval (mpure (.int 1))))))))) (mval (mfrz (mslice (mslot 4) (mpart (mvar 5)) (mpure none)))))))) (mm1 oJoin (mpure (.str "\n")) (mval (mfrz (mbinX aAdd (mval (mfrz (mslice (mslot 4) (mpure none) (mpart (mvar 5))))) (mval (mfrz (mslice (mslot 4) (mpart (mfrz (mbinX aAdd (mslot 5) (mval (mpure (.int 1)))))) (mpure none)))))))))))))))
def F_bent_text : FM := fnOf 7 m_bent_text
theorem ok_bent_text (M : Md w K mg base) : Ok w K mg base 3 "_law_bent_text" ["jar", "text"] 2 F_bent_text := by
  have nd : (nN_bent_text).Nodup := by decide +kernel
  refine ME.fn_ok (N := nN_bent_text) (M.d 23 _ rfl).F ⟨rfl, rfl, rfl, by decide +kernel, rfl, by decide +kernel, by decide +kernel⟩ rfl fun T cdv A outer s H E hT hr => ?_
  obtain ⟨T1, T2⟩ := T
  obtain rfl : T1 = tabF K := hT
  exact (dss_cons (ds_par2 2 3 (dxs_cons (dx_call (ok_take M) (hr.mono (by omega)) rfl (M.d 14 _ rfl).g (M.d 14 _ rfl).F.kp (M.d 14 _ rfl).b (dag_cons (da1_name 0) (dag_cons (da1_val de_int) dag_nil))) (dxs_cons (dx_call (ok_take M) (hr.mono (by omega)) rfl (M.d 14 _ rfl).g (M.d 14 _ rfl).F.kp (M.d 14 _ rfl).b (dag_cons (da1_name 0) (dag_cons (da1_val (de_frz (dx_bin op_addA s_addA (dr_val (de_callB call_len s_len rfl (M.free 6 _ rfl) rfl (da_cons (dr_var 1) da_nil))) (dr_val de_int)))) dag_nil))) dxs_nil)) rfl nd) (dss_cons (ds_set 4 (dx_m1 PySem.F.slot_str_split rfl mt_split sp_split (de_var 1) (dr_val de_str)) nd) (dss_cons (ds_set 5 (dx_call (ok_take M) (hr.mono (by omega)) rfl (M.d 14 _ rfl).g (M.d 14 _ rfl).F.kp (M.d 14 _ rfl).b (dag_cons (da1_name 0) (dag_cons (da1_val (de_callB call_len s_len rfl (M.free 6 _ rfl) rfl (da_cons (dr_var 4) da_nil))) dag_nil))) nd) (dss_cons (ds_if (dt_cmp (op_eqD hr.units) s_eq (dr_var 2) (dr_val de_int)) (dss_one (ds_ret (dx_bin op_addA s_addA (dr_x (dx_slice (dr_var 1) do_none (do_some (de_var 3)))) (dr_x (dx_slice (dr_var 1) (do_some (de_frz (dx_bin op_addA s_addA (dr_var 3) (dr_val de_int)))) do_none))))) dss_nil) (dss_cons (ds_if (dt_cmp op_lt (s_cmp _) (dr_var 2) (dr_val de_int)) (dss_cons (ds_set 6 (dx_call (ok_one M) (hr.mono (by omega)) rfl (M.d 15 _ rfl).g (M.d 15 _ rfl).F.kp (M.d 15 _ rfl).b (dag_cons (da1_name 0) (dag_cons (da1_val (de_frz (dx_lst (dl_cons de_str (dl_cons de_str (dl_cons de_str (dl_cons de_str (dl_cons de_str (dl_cons de_str (dl_cons de_str (dl_cons de_str (dl_cons de_str (dl_cons de_str (dl_cons de_str (dl_cons de_str (dl_cons de_str (dl_cons de_str dl_nil))))))))))))))))) dag_nil))) nd) (dss_one (ds_ret (dx_bin op_addA s_addA (dr_x (dx_bin op_addA s_addA (dr_x (dx_slice (dr_var 1) do_none (do_some (de_var 3)))) (dr_var 6))) (dr_x (dx_slice (dr_var 1) (do_some (de_frz (dx_bin op_addA s_addA (dr_var 3) (dr_val (de_callTy call_int1 s_toInt rfl (M.free 4 _ rfl) rfl (da_cons (dr_val (de_cmp (op_eqD hr.units) s_eq (dr_var 2) (dr_val de_int))) da_nil)))))) do_none)))))) dss_nil) (dss_one (ds_ret (dx_if (dt_cmp (op_eqD hr.units) s_eq (dr_var 2) (dr_val de_int)) (dx_m1 PySem.F.slot_str_join rfl mt_join sp_join de_str (dr_x (dx_bin op_addA s_addA (dr_x (dx_slice (dr_var 4) do_none (do_some (de_frz (dx_bin op_addA s_addA (dr_var 5) (dr_val de_int)))))) (dr_x (dx_slice (dr_var 4) (do_some (de_var 5)) do_none))))) (dx_m1 PySem.F.slot_str_join rfl mt_join sp_join de_str (dr_x (dx_bin op_addA s_addA (dr_x (dx_slice (dr_var 4) do_none (do_some (de_var 5)))) (dr_x (dx_slice (dr_var 4) (do_some (de_frz (dx_bin op_addA s_addA (dr_var 5) (dr_val de_int)))) do_none)))))))))))))
abbrev nN_some_names : List Str := ["jar", "found", "go", "name", "near", "some"]
def m_some_names : MS := (sSeq (sSet 1 (mlst mlnil)) (sSeq (sFor (mbind (mfrz (mbinX aMul (mval (mfrz (mCall F_one (mgcons (mAg 0) (mgcons (mdat (mfrz (mlst (mlcons (mpure (.int 0)) (mlcons (mpure (.int 1)) (mlcons (mpure (.int 2)) (mlcons (mpure (.int 3)) (mlcons (mpure (.int 5)) (mlcons (mpure (.int 8)) (mlcons (mpure (.int 24)) mlnil)))))))))) mgnil))))) (mval (mpure (.int 2))))) asR1) (gNm 2) (sSeq (sSet 3 (mCall F_drawn_name (mgcons (mAg 0) (mgcons (mdat (mfrz (mCall F_one (mgcons (mAg 0) (mgcons (mdat (mfrz (mlst (mlcons (mpure (.int 1)) (mlcons (mpure (.int 2)) (mlcons (mpure (.int 3)) (mlcons (mpure (.int 12)) mlnil))))))) mgnil))))) mgnil)))) (sSeq (sSet 4 (mif (mtst (mbin aNe (mslot 1) (mval (mfrz (mlst mlnil))))) (mCall F_one (mgcons (mAg 0) (mgcons (mAg 1) mgnil))) (mmove 3))) (sSeq (sSet 5 (mlst (mlcons (mvar 3) (mlcons (mvar 3) (mlcons (mfrz (mbinX aAdd (mslot 4) (mval (mpure (.str "a"))))) (mlcons (mfrz (mslice (mslot 4) (mpart (mpure (.int 1))) (mpure none))) (mlcons (mfrz (mbinX aAdd (mval (mfrz (mCall F_one (mgcons (mAg 0) (mgcons (mdat (mfrz (mlst (mlcons (mpure (.str "none")) (mlcons (mpure (.str "from")) (mlcons (mpure (.str "of")) (mlcons (mpure (.str "out")) (mlcons (mpure (.str "with")) (mlcons (mpure (.str "apart")) mlnil))))))))) mgnil))))) (mval (mfrz (mCall F_one (mgcons (mAg 0) (mgcons (mdat (mfrz (mlst (mlcons (mpure (.str "")) (mlcons (mpure (.str "a")) (mlcons (mpure (.str "s")) mlnil)))))) mgnil))))))) mlnil))))))) (sSeq (sSet 3 (mCall F_one (mgcons (mAg 0) (mgcons (mAg 5) mgnil)))) (sIf (mand (mtst (mfrz (mCall F_is_name (mgcons (mAg 3) mgnil)))) (mtst (mbin aNotIn (mslot 3) (mslot 1)))) (sApp 1 (mvar 3)) sNil)))))) (sRet (mfnX fTupN (mcons (mval (mfrz (mslice (mslot 1) (mpure none) (mpart (mpure (.int 24)))))) mnil)))))
def F_some_names : FM := fnOf 6 m_some_names
theorem ok_some_names (M : Md w K mg base) : Ok w K mg base 4 "_law_some_names" ["jar"] 1 F_some_names := by
  have nd : (nN_some_names).Nodup := by decide +kernel
  refine ME.fn_ok (N := nN_some_names) (M.d 24 _ rfl).F ⟨rfl, rfl, rfl, by decide +kernel, rfl, by decide +kernel, by decide +kernel⟩ rfl fun T cdv A outer s H E hT hr => ?_
  obtain ⟨T1, T2⟩ := T
  obtain rfl : T1 = tabF K := hT
  exact (dss_cons (ds_set 1 (dx_lst dl_nil) nd) (dss_cons (ds_for (passes_of rfl) rfl (di_rng1 (b := .Constant .none 0 ⟨0, 0, 0, 0⟩) (de_frz (dx_bin op_mulA s_mulA (dr_x (dx_call (ok_one M) (hr.mono (by omega)) rfl (M.d 15 _ rfl).g (M.d 15 _ rfl).F.kp (M.d 15 _ rfl).b (dag_cons (da1_name 0) (dag_cons (da1_val (de_frz (dx_lst (dl_cons de_int (dl_cons de_int (dl_cons de_int (dl_cons de_int (dl_cons de_int (dl_cons de_int (dl_cons de_int dl_nil)))))))))) dag_nil)))) (dr_val de_int))) rfl (M.free 9 _ rfl)) (dg_name 2 nd) (dss_cons (ds_set 3 (dx_call (ok_drawn_name M) (hr.mono (by omega)) rfl (M.d 22 _ rfl).g (M.d 22 _ rfl).F.kp (M.d 22 _ rfl).b (dag_cons (da1_name 0) (dag_cons (da1_val (de_frz (dx_call (ok_one M) (hr.mono (by omega)) rfl (M.d 15 _ rfl).g (M.d 15 _ rfl).F.kp (M.d 15 _ rfl).b (dag_cons (da1_name 0) (dag_cons (da1_val (de_frz (dx_lst (dl_cons de_int (dl_cons de_int (dl_cons de_int (dl_cons de_int dl_nil))))))) dag_nil))))) dag_nil))) nd) (dss_cons (ds_set 4 (dx_if (dt_cmp (op_neD hr.units) s_ne (dr_var 1) (dr_x (dx_lst dl_nil))) (dx_call (ok_one M) (hr.mono (by omega)) rfl (M.d 15 _ rfl).g (M.d 15 _ rfl).F.kp (M.d 15 _ rfl).b (dag_cons (da1_name 0) (dag_cons (da1_name 1) dag_nil))) (dx_move 3)) nd) (dss_cons (ds_set 5 (dx_lst (dl_cons (de_var 3) (dl_cons (de_var 3) (dl_cons (de_frz (dx_bin op_addA s_addA (dr_var 4) (dr_val de_str))) (dl_cons (de_frz (dx_slice (dr_var 4) (do_some de_int) do_none)) (dl_cons (de_frz (dx_bin op_addA s_addA (dr_x (dx_call (ok_one M) (hr.mono (by omega)) rfl (M.d 15 _ rfl).g (M.d 15 _ rfl).F.kp (M.d 15 _ rfl).b (dag_cons (da1_name 0) (dag_cons (da1_val (de_frz (dx_lst (dl_cons de_str (dl_cons de_str (dl_cons de_str (dl_cons de_str (dl_cons de_str (dl_cons de_str dl_nil))))))))) dag_nil)))) (dr_x (dx_call (ok_one M) (hr.mono (by omega)) rfl (M.d 15 _ rfl).g (M.d 15 _ rfl).F.kp (M.d 15 _ rfl).b (dag_cons (da1_name 0) (dag_cons (da1_val (de_frz (dx_lst (dl_cons de_str (dl_cons de_str (dl_cons de_str dl_nil)))))) dag_nil)))))) dl_nil)))))) nd) (dss_cons (ds_set 3 (dx_call (ok_one M) (hr.mono (by omega)) rfl (M.d 15 _ rfl).g (M.d 15 _ rfl).F.kp (M.d 15 _ rfl).b (dag_cons (da1_name 0) (dag_cons (da1_name 5) dag_nil))) nd) (dss_one (ds_if (dt_w (dw_and (dt_val (de_frz (dx_call (ok_is_name M) (hr.mono (by omega)) rfl (M.d 18 _ rfl).g (M.d 18 _ rfl).F.kp (M.d 18 _ rfl).b (dag_cons (da1_name 3) dag_nil)))) (dw_and1 (dt_cmp op_notInA s_notIn (dr_var 3) (dr_var 1))))) (dss_one (ds_append 1 (de_var 3))) dss_nil))))))) (dss_one (ds_ret (dx_callTy call_tupN s_tupN rfl (M.free 12 _ rfl) rfl (da_cons (dr_x (dx_slice (dr_var 1) do_none (do_some de_int))) da_nil))))))
abbrev nN_odd_names : List Str := ["jar", "called", "at", "odd", "found"]
def m_odd_names : MS := (sSeq (sSet 2 (mCall F_one (mgcons (mAg 0) (mgcons (mdat (mfrz (mlst (mlcons (mfn fLen (mcons (mslot 1) mnil)) (mlcons (mfrz (mCall F_take (mgcons (mAg 0) (mgcons (mdat (mfrz (mbinX aAdd (mval (mfn fLen (mcons (mslot 1) mnil))) (mval (mpure (.int 1)))))) mgnil)))) mlnil))))) mgnil)))) (sSeq (sSet 3 (mCall F_one (mgcons (mAg 0) (mgcons (mdat (mfrz (mlst (mlcons (mpure (.str "")) (mlcons (mpure (.str "A")) (mlcons (mpure (.str "a1")) (mlcons (mpure (.str "a b")) (mlcons (mfrz (mbinX aMul (mval (mpure (.str "a"))) (mval (mpure (.int 13))))) (mlcons (mpure (.str "none")) (mlcons (mpure (.str "from")) (mlcons (mpure (.str "of")) (mlcons (mpure (.str "out")) (mlcons (mpure (.str "with")) (mlcons (mpure (.str "apart")) (mlcons (mpure (.str " a")) (mlcons (mpure (.str "a\n")) (mlcons (mpure (.str "a-b")) (mlcons (mpure .non) (mlcons (mpure (.int 0)) (mlcons (mpure (.bl true)) (mlcons (mtup (mlcons (mpure (.str "a")) mlnil)) (mlcons (mfrz (mlst (mlcons (mpure (.str "a")) mlnil))) (mlcons (mfrz (mif (mtst (mbin aNe (mslot 1) (mval (mtup mlnil)))) (mCall F_one (mgcons (mAg 0) (mgcons (mAg 1) mgnil))) (mfz (mpure (.str "of"))))) mlnil))))))))))))))))))))))) mgnil)))) (sSeq (sSet 4 (mlst (mlcons (mfrz (mbinX aAdd (mval (mfrz (mbinX aAdd (mval (mfrz (mslice (mslot 1) (mpure none) (mpart (mvar 2))))) (mval (mtup (mlcons (mvar 3) mlnil)))))) (mval (mfrz (mslice (mslot 1) (mpart (mvar 2)) (mpure none)))))) (mlcons (mfrz (mfnX fList (mcons (mslot 1) mnil))) (mlcons (mpure .non) (mlcons (mpure (.str "ab")) (mlcons (mfrz (mbinX aAdd (mslot 1) (mval (mfrz (mslice (mslot 1) (mpure none) (mpart (mpure (.int 1)))))))) (mlcons (mfrz (mbinX aAdd (mval (mfrz (mbinX aAdd (mval (mfrz (mslice (mslot 1) (mpure none) (mpart (mvar 2))))) (mval (mtup (mlcons (mvar 3) (mlcons (mpure (.str "of")) mlnil))))))) (mval (mfrz (mslice (mslot 1) (mpart (mvar 2)) (mpure none)))))) (mlcons (mfrz (mbinX aMul (mval (mtup (mlcons (mpure (.str "of")) mlnil))) (mval (mpure (.int 25))))) (mlcons (mpure (.int 0)) mlnil)))))))))) (sRet (mCall F_one (mgcons (mAg 0) (mgcons (mAg 4) mgnil)))))))
def F_odd_names : FM := fnOf 5 m_odd_names
theorem ok_odd_names (M : Md w K mg base) : Ok w K mg base 3 "_law_odd_names" ["jar", "called"] 2 F_odd_names := by
  have nd : (nN_odd_names).Nodup := by decide +kernel
  refine ME.fn_ok (N := nN_odd_names) (M.d 26 _ rfl).F ⟨rfl, rfl, rfl, by decide +kernel, rfl, by decide +kernel, by decide +kernel⟩ rfl fun T cdv A outer s H E hT hr => ?_
  obtain ⟨T1, T2⟩ := T
  obtain rfl : T1 = tabF K := hT
  exact (dss_cons (ds_set 2 (dx_call (ok_one M) (hr.mono (by omega)) rfl (M.d 15 _ rfl).g (M.d 15 _ rfl).F.kp (M.d 15 _ rfl).b (dag_cons (da1_name 0) (dag_cons (da1_val (de_frz (dx_lst (dl_cons (de_callB call_len s_len rfl (M.free 6 _ rfl) rfl (da_cons (dr_var 1) da_nil)) (dl_cons (de_frz (dx_call (ok_take M) (hr.mono (by omega)) rfl (M.d 14 _ rfl).g (M.d 14 _ rfl).F.kp (M.d 14 _ rfl).b (dag_cons (da1_name 0) (dag_cons (da1_val (de_frz (dx_bin op_addA s_addA (dr_val (de_callB call_len s_len rfl (M.free 6 _ rfl) rfl (da_cons (dr_var 1) da_nil))) (dr_val de_int)))) dag_nil)))) dl_nil))))) dag_nil))) nd) (dss_cons (ds_set 3 (dx_call (ok_one M) (hr.mono (by omega)) rfl (M.d 15 _ rfl).g (M.d 15 _ rfl).F.kp (M.d 15 _ rfl).b (dag_cons (da1_name 0) (dag_cons (da1_val (de_frz (dx_lst (dl_cons de_str (dl_cons de_str (dl_cons de_str (dl_cons de_str (dl_cons (de_frz (dx_bin op_mulA s_mulA (dr_val de_str) (dr_val de_int))) (dl_cons de_str (dl_cons de_str (dl_cons de_str (dl_cons de_str (dl_cons de_str (dl_cons de_str (dl_cons de_str (dl_cons de_str (dl_cons de_str (dl_cons de_non (dl_cons de_int (dl_cons de_bl (dl_cons (de_tup (dl_cons de_str dl_nil)) (dl_cons (de_frz (dx_lst (dl_cons de_str dl_nil))) (dl_cons (de_frz (dx_if (dt_cmp (op_neD hr.units) s_ne (dr_var 1) (dr_val (de_tup dl_nil))) (dx_call (ok_one M) (hr.mono (by omega)) rfl (M.d 15 _ rfl).g (M.d 15 _ rfl).F.kp (M.d 15 _ rfl).b (dag_cons (da1_name 0) (dag_cons (da1_name 1) dag_nil))) (dx_of de_str))) dl_nil))))))))))))))))))))))) dag_nil))) nd) (dss_cons (ds_set 4 (dx_lst (dl_cons (de_frz (dx_bin op_addA s_addA (dr_x (dx_bin op_addA s_addA (dr_x (dx_slice (dr_var 1) do_none (do_some (de_var 2)))) (dr_val (de_tup (dl_cons (de_var 3) dl_nil))))) (dr_x (dx_slice (dr_var 1) (do_some (de_var 2)) do_none)))) (dl_cons (de_frz (dx_callTy call_list_of s_list rfl (M.free 7 _ rfl) rfl (da_cons (dr_var 1) da_nil))) (dl_cons de_non (dl_cons de_str (dl_cons (de_frz (dx_bin op_addA s_addA (dr_var 1) (dr_x (dx_slice (dr_var 1) do_none (do_some de_int))))) (dl_cons (de_frz (dx_bin op_addA s_addA (dr_x (dx_bin op_addA s_addA (dr_x (dx_slice (dr_var 1) do_none (do_some (de_var 2)))) (dr_val (de_tup (dl_cons (de_var 3) (dl_cons de_str dl_nil)))))) (dr_x (dx_slice (dr_var 1) (do_some (de_var 2)) do_none)))) (dl_cons (de_frz (dx_bin op_mulA s_mulA (dr_val (de_tup (dl_cons de_str dl_nil))) (dr_val de_int))) (dl_cons de_int dl_nil))))))))) nd) (dss_one (ds_ret (dx_call (ok_one M) (hr.mono (by omega)) rfl (M.d 15 _ rfl).g (M.d 15 _ rfl).F.kp (M.d 15 _ rfl).b (dag_cons (da1_name 0) (dag_cons (da1_name 4) dag_nil))))))))
abbrev nN_texts_of : List Str := ["jar", "called", "text", "said", "at", "word", "found"]
def m_texts_of : MS := (sSeq (sSet 3 (mm1 oSplit (mvar 2) (mval (mpure (.str " "))))) (sSeq (sSet 4 (mCall F_take (mgcons (mAg 0) (mgcons (mdat (mfn fLen (mcons (mslot 3) mnil))) mgnil)))) (sSeq (sSet 5 (mCall F_one (mgcons (mAg 0) (mgcons (mdat (mfrz (mlst (mlcons (mpure (.str "")) (mlcons (mpure (.str "of")) (mlcons (mpure (.str "none")) (mlcons (mpure (.str "xyz")) (mlcons (mpure (.str "A")) (mlcons (mfrz (mbinX aAdd (mval (mbin dIx (mslot 3) (mslot 4))) (mval (mpure (.str "a"))))) (mlcons (mfrz (mslice (mval (mbin dIx (mslot 3) (mslot 4))) (mpart (mpure (.int 1))) (mpure none))) (mlcons (mfrz (mm0 oUpper (mbin dIx (mslot 3) (mslot 4)))) (mlcons (mfrz (mbinX aAdd (mval (mbin dIx (mslot 3) (mslot 4))) (mval (mpure (.str ","))))) (mlcons (mpure (.str "0")) (mlcons (mfrz (mbinX aAdd (mval (mbin dIx (mslot 3) (mslot 4))) (mval (mpure (.str "\t"))))) (mlcons (mfrz (mbinX aAdd (mval (mpure (.str "\n"))) (mval (mbin dIx (mslot 3) (mslot 4))))) mlnil))))))))))))))) mgnil)))) (sSeq (sSet 6 (mlst (mlcons (mfrz (mm1 oJoin (mpure (.str " ")) (mval (mfrz (mbinX aAdd (mval (mfrz (mbinX aAdd (mval (mfrz (mslice (mslot 3) (mpure none) (mpart (mvar 4))))) (mval (mfrz (mlst (mlcons (mvar 5) mlnil))))))) (mval (mfrz (mslice (mslot 3) (mpart (mfrz (mbinX aAdd (mslot 4) (mval (mpure (.int 1)))))) (mpure none))))))))) (mlcons (mfrz (mm1 oJoin (mpure (.str " ")) (mval (mfrz (mbinX aAdd (mval (mfrz (mbinX aAdd (mval (mfrz (mslice (mslot 3) (mpure none) (mpart (mvar 4))))) (mval (mfrz (mlst (mlcons (mvar 5) mlnil))))))) (mval (mfrz (mslice (mslot 3) (mpart (mvar 4)) (mpure none))))))))) (mlcons (mfrz (mbinX aAdd (mslot 2) (mval (mpure (.str " "))))) (mlcons (mfrz (mbinX aAdd (mval (mpure (.str " "))) (mslot 2))) (mlcons (mfrz (mbinX aAdd (mslot 2) (mval (mpure (.str "\n"))))) (mlcons (mfrz (mbinX aAdd (mval (mfrz (mbinX aAdd (mslot 2) (mval (mpure (.str "\n")))))) (mslot 2))) (mlcons (mpure (.str "\n")) (mlcons (mpure (.str " ")) (mlcons (mpure (.str "")) (mlcons (mfrz (mm0 oUpper (mvar 2))) (mlcons (mpure (.str "none")) (mlcons (mfrz (mbinX aAdd (mval (mfrz (mbinX aAdd (mslot 2) (mval (mpure (.str "  ")))))) (mslot 2))) mlnil)))))))))))))) (sRet (mbinX aAdd (mslot 6) (mval (mfrz (mlst (mlcons (mfrz (mCall F_bent_text (mgcons (mAg 0) (mgcons (mAg 2) mgnil)))) (mlcons (mfrz (mCall F_bent_text (mgcons (mAg 0) (mgcons (mdat (mfrz (mCall F_bent_text (mgcons (mAg 0) (mgcons (mAg 2) mgnil))))) mgnil)))) mlnil)))))))))))
def F_texts_of : FM := fnOf 7 m_texts_of
theorem ok_texts_of (M : Md w K mg base) : Ok w K mg base 4 "_law_texts_of" ["jar", "called", "text"] 3 F_texts_of := by
  have nd : (nN_texts_of).Nodup := by decide +kernel
  refine ME.fn_ok (N := nN_texts_of) (M.d 28 _ rfl).F ⟨rfl, rfl, rfl, by decide +kernel, rfl, by decide +kernel, by decide +kernel⟩ rfl fun T cdv A outer s H E hT hr => ?_
  obtain ⟨T1, T2⟩ := T
  obtain rfl : T1 = tabF K := hT
  exact (dss_cons (ds_set 3 (dx_m1 PySem.F.slot_str_split rfl mt_split sp_split (de_var 2) (dr_val de_str)) nd) (dss_cons (ds_set 4 (dx_call (ok_take M) (hr.mono (by omega)) rfl (M.d 14 _ rfl).g (M.d 14 _ rfl).F.kp (M.d 14 _ rfl).b (dag_cons (da1_name 0) (dag_cons (da1_val (de_callB call_len s_len rfl (M.free 6 _ rfl) rfl (da_cons (dr_var 3) da_nil))) dag_nil))) nd) (dss_cons (ds_set 5 (dx_call (ok_one M) (hr.mono (by omega)) rfl (M.d 15 _ rfl).g (M.d 15 _ rfl).F.kp (M.d 15 _ rfl).b (dag_cons (da1_name 0) (dag_cons (da1_val (de_frz (dx_lst (dl_cons de_str (dl_cons de_str (dl_cons de_str (dl_cons de_str (dl_cons de_str (dl_cons (de_frz (dx_bin op_addA s_addA (dr_val (de_ix (dr_var 3) (dr_var 4) fun _ _ => rfl)) (dr_val de_str))) (dl_cons (de_frz (dx_slice (dr_val (de_ix (dr_var 3) (dr_var 4) fun _ _ => rfl)) (do_some de_int) do_none)) (dl_cons (de_frz (dx_m0 PySem.F.slot_str_upper rfl mt_upper sp_upper (de_ix (dr_var 3) (dr_var 4) fun _ _ => rfl))) (dl_cons (de_frz (dx_bin op_addA s_addA (dr_val (de_ix (dr_var 3) (dr_var 4) fun _ _ => rfl)) (dr_val de_str))) (dl_cons de_str (dl_cons (de_frz (dx_bin op_addA s_addA (dr_val (de_ix (dr_var 3) (dr_var 4) fun _ _ => rfl)) (dr_val de_str))) (dl_cons (de_frz (dx_bin op_addA s_addA (dr_val de_str) (dr_val (de_ix (dr_var 3) (dr_var 4) fun _ _ => rfl)))) dl_nil))))))))))))))) dag_nil))) nd) (dss_cons (ds_set 6 (dx_lst (dl_cons (de_frz (dx_m1 PySem.F.slot_str_join rfl mt_join sp_join de_str (dr_x (dx_bin op_addA s_addA (dr_x (dx_bin op_addA s_addA (dr_x (dx_slice (dr_var 3) do_none (do_some (de_var 4)))) (dr_x (dx_lst (dl_cons (de_var 5) dl_nil))))) (dr_x (dx_slice (dr_var 3) (do_some (de_frz (dx_bin op_addA s_addA (dr_var 4) (dr_val de_int)))) do_none)))))) (dl_cons (de_frz (dx_m1 PySem.F.slot_str_join rfl mt_join sp_join de_str (dr_x (dx_bin op_addA s_addA (dr_x (dx_bin op_addA s_addA (dr_x (dx_slice (dr_var 3) do_none (do_some (de_var 4)))) (dr_x (dx_lst (dl_cons (de_var 5) dl_nil))))) (dr_x (dx_slice (dr_var 3) (do_some (de_var 4)) do_none)))))) (dl_cons (de_frz (dx_bin op_addA s_addA (dr_var 2) (dr_val de_str))) (dl_cons (de_frz (dx_bin op_addA s_addA (dr_val de_str) (dr_var 2))) (dl_cons (de_frz (dx_bin op_addA s_addA (dr_var 2) (dr_val de_str))) (dl_cons (de_frz (dx_bin op_addA s_addA (dr_x (dx_bin op_addA s_addA (dr_var 2) (dr_val de_str))) (dr_var 2))) (dl_cons de_str (dl_cons de_str (dl_cons de_str (dl_cons (de_frz (dx_m0 PySem.F.slot_str_upper rfl mt_upper sp_upper (de_var 2))) (dl_cons de_str (dl_cons (de_frz (dx_bin op_addA s_addA (dr_x (dx_bin op_addA s_addA (dr_var 2) (dr_val de_str))) (dr_var 2))) dl_nil))))))))))))) nd) (dss_one (ds_ret (dx_bin op_addA s_addA (dr_var 6) (dr_x (dx_lst (dl_cons (de_frz (dx_call (ok_bent_text M) (hr.mono (by omega)) rfl (M.d 23 _ rfl).g (M.d 23 _ rfl).F.kp (M.d 23 _ rfl).b (dag_cons (da1_name 0) (dag_cons (da1_name 2) dag_nil)))) (dl_cons (de_frz (dx_call (ok_bent_text M) (hr.mono (by omega)) rfl (M.d 23 _ rfl).g (M.d 23 _ rfl).F.kp (M.d 23 _ rfl).b (dag_cons (da1_name 0) (dag_cons (da1_val (de_frz (dx_call (ok_bent_text M) (hr.mono (by omega)) rfl (M.d 23 _ rfl).g (M.d 23 _ rfl).F.kp (M.d 23 _ rfl).b (dag_cons (da1_name 0) (dag_cons (da1_name 2) dag_nil))))) dag_nil)))) dl_nil)))))))))))
end
end HF
namespace HF
open PySem PySem.Spec PyProof.Rows L2 LamX ME He
def co0 : List Str := ["BadBook", "BadThings", "BadBars", "BadLot", "BadMany", "BadIndex", "BadOrder", "BadThing", "BadRooms", "BadRoom", "BadApart", "BadRow", "BadRule", "BadSight", "BadOther", "BadOwners", "BadCosts", "BadPrices", "BadKnown", "BadNumbers", "BadDeed", "BadRates", "BadHits", "BadOwner", "BadAmount"]
def co1 : List Str := ["BadClerk", "BadStamp", "BadDeeds", "BadNames", "BadPaper", "BadText", "WrongLine", "WrongPlan", "WrongUnlike", "NotHoldable", "NotOneForOne", "NoFull", "NotDone", "TooFew", "NotRoomed", "NotHeld", "Harm", "NothingToUndo", "NothingToRedo", "Same", "TooMany"]
def clsO : List Str := co0 ++ co1
def mCls (a dx : Addr) (c : Str) : List Str → M (List D)
  | [] => mlnil
  | y :: ys => mlcons (mtup (mlcons (mpure (.str y)) (mlcons (mIsX 0 a dx (c == y)) mlnil))) (mCls a dx c ys)
def m_classes (a dx : Addr) (c : Str) : MS := sRet (mlst (mCls a dx c clsO))
def F_classes (a dx : Addr) (c : Str) : FM := fnOf 1 (m_classes a dx c)
def Kn (K : PySem.W.Frag) : Str → Addr → Prop := fun c C => c ∈ raisedN ∧ C = ga K c
def mAgX (i : Nat) : M Ag := fun ρ => match ρ[i]? with
  | some (.exn a dx c w) => .ok (.dat (.exn a dx c w)) ρ
  | _ => .no
def hSuite (a dx : Addr) (c : Str) : MS := sRet (mfz (mtup (mlcons (mfrz (mm1 oJoin (mpure (.str " ")) (mval (mfrz (mComp [2] (mItL (mfrz (mCall (F_classes a dx c) (mgcons (mAgX 1) mgnil)))) (gNm 2) (mtst (mbin dIx (mslot 2) (mval (mpure (.int 1))))) (mbin dIx (mslot 2) (mval (mpure (.int 0))))))))) (mlcons (mWhat 1 a dx) mlnil))))
section
variable {w : World} {K : PySem.W.Frag} {mg : Str → Option Value} {base : Heap}
theorem kitAt (M : Md w K mg base) {c : Str} (hc : c ∈ raisedN) (i : Nat) {y : Str} (hi : clsN[i]? = some y) : mg y = some (.ref (ga K y)) ∧ PySem.W.kitOne K (.ref (ga K c)) (.ref (ga K y)) = some (c == y) := ⟨M.cls y (List.mem_of_getElem? hi), M.ex.kit c hc y (List.mem_of_getElem? hi)⟩
theorem nofree : ∀ c ∈ raisedN, (c == ("__debug__" : Str)) = false := by decide +kernel
theorem ok_classes (M : Md w K mg base) {p : Addr × Obj} {dx : Addr} {c : Str} (hc : c ∈ raisedN) (hcl : p.2.cls = .ref (ga K c)) (hd : p.2.dict = some dx) (hf : ∃ vs, p.2.data = .fields vs) : RunH P w K mg base 1 (ga K "_law_classes") (fdOf K "_law_classes") ["refused_one"] p (spF K mg (tabF K) 1 (F_classes p.1 dx c)) := by
  have EC := (M.ex.bad c hc).ec
  refine fnH_ok (N := ["refused_one"]) (M.d 9 _ rfl).F ⟨rfl, rfl, rfl, by decide +kernel, rfl, by decide +kernel, by decide +kernel⟩ rfl fun T cdv A outer s H E hT hot hr => ?_
  have hp : p ∈ [p] := .head _
  exact dss_one (ds_ret (dx_lst (dl_cons (de_tup (dl_cons de_str (dl_cons (de_isX 0 EC hp hcl hd hf rfl (M.free 5 _ rfl) rfl (kitAt M hc 0 rfl).1 (kitAt M hc 0 rfl).2 rfl (.inl rfl)) dl_nil))) (dl_cons (de_tup (dl_cons de_str (dl_cons (de_isX 0 EC hp hcl hd hf rfl (M.free 5 _ rfl) rfl (kitAt M hc 1 rfl).1 (kitAt M hc 1 rfl).2 rfl (.inl rfl)) dl_nil))) (dl_cons (de_tup (dl_cons de_str (dl_cons (de_isX 0 EC hp hcl hd hf rfl (M.free 5 _ rfl) rfl (kitAt M hc 2 rfl).1 (kitAt M hc 2 rfl).2 rfl (.inl rfl)) dl_nil))) (dl_cons (de_tup (dl_cons de_str (dl_cons (de_isX 0 EC hp hcl hd hf rfl (M.free 5 _ rfl) rfl (kitAt M hc 3 rfl).1 (kitAt M hc 3 rfl).2 rfl (.inl rfl)) dl_nil))) (dl_cons (de_tup (dl_cons de_str (dl_cons (de_isX 0 EC hp hcl hd hf rfl (M.free 5 _ rfl) rfl (kitAt M hc 4 rfl).1 (kitAt M hc 4 rfl).2 rfl (.inl rfl)) dl_nil))) (dl_cons (de_tup (dl_cons de_str (dl_cons (de_isX 0 EC hp hcl hd hf rfl (M.free 5 _ rfl) rfl (kitAt M hc 5 rfl).1 (kitAt M hc 5 rfl).2 rfl (.inl rfl)) dl_nil))) (dl_cons (de_tup (dl_cons de_str (dl_cons (de_isX 0 EC hp hcl hd hf rfl (M.free 5 _ rfl) rfl (kitAt M hc 6 rfl).1 (kitAt M hc 6 rfl).2 rfl (.inl rfl)) dl_nil))) (dl_cons (de_tup (dl_cons de_str (dl_cons (de_isX 0 EC hp hcl hd hf rfl (M.free 5 _ rfl) rfl (kitAt M hc 7 rfl).1 (kitAt M hc 7 rfl).2 rfl (.inl rfl)) dl_nil))) (dl_cons (de_tup (dl_cons de_str (dl_cons (de_isX 0 EC hp hcl hd hf rfl (M.free 5 _ rfl) rfl (kitAt M hc 8 rfl).1 (kitAt M hc 8 rfl).2 rfl (.inl rfl)) dl_nil))) (dl_cons (de_tup (dl_cons de_str (dl_cons (de_isX 0 EC hp hcl hd hf rfl (M.free 5 _ rfl) rfl (kitAt M hc 9 rfl).1 (kitAt M hc 9 rfl).2 rfl (.inl rfl)) dl_nil))) (dl_cons (de_tup (dl_cons de_str (dl_cons (de_isX 0 EC hp hcl hd hf rfl (M.free 5 _ rfl) rfl (kitAt M hc 10 rfl).1 (kitAt M hc 10 rfl).2 rfl (.inl rfl)) dl_nil))) (dl_cons (de_tup (dl_cons de_str (dl_cons (de_isX 0 EC hp hcl hd hf rfl (M.free 5 _ rfl) rfl (kitAt M hc 11 rfl).1 (kitAt M hc 11 rfl).2 rfl (.inl rfl)) dl_nil))) (dl_cons (de_tup (dl_cons de_str (dl_cons (de_isX 0 EC hp hcl hd hf rfl (M.free 5 _ rfl) rfl (kitAt M hc 12 rfl).1 (kitAt M hc 12 rfl).2 rfl (.inl rfl)) dl_nil))) (dl_cons (de_tup (dl_cons de_str (dl_cons (de_isX 0 EC hp hcl hd hf rfl (M.free 5 _ rfl) rfl (kitAt M hc 13 rfl).1 (kitAt M hc 13 rfl).2 rfl (.inl rfl)) dl_nil))) (dl_cons (de_tup (dl_cons de_str (dl_cons (de_isX 0 EC hp hcl hd hf rfl (M.free 5 _ rfl) rfl (kitAt M hc 14 rfl).1 (kitAt M hc 14 rfl).2 rfl (.inl rfl)) dl_nil))) (dl_cons (de_tup (dl_cons de_str (dl_cons (de_isX 0 EC hp hcl hd hf rfl (M.free 5 _ rfl) rfl (kitAt M hc 15 rfl).1 (kitAt M hc 15 rfl).2 rfl (.inl rfl)) dl_nil))) (dl_cons (de_tup (dl_cons de_str (dl_cons (de_isX 0 EC hp hcl hd hf rfl (M.free 5 _ rfl) rfl (kitAt M hc 16 rfl).1 (kitAt M hc 16 rfl).2 rfl (.inl rfl)) dl_nil))) (dl_cons (de_tup (dl_cons de_str (dl_cons (de_isX 0 EC hp hcl hd hf rfl (M.free 5 _ rfl) rfl (kitAt M hc 17 rfl).1 (kitAt M hc 17 rfl).2 rfl (.inl rfl)) dl_nil))) (dl_cons (de_tup (dl_cons de_str (dl_cons (de_isX 0 EC hp hcl hd hf rfl (M.free 5 _ rfl) rfl (kitAt M hc 18 rfl).1 (kitAt M hc 18 rfl).2 rfl (.inl rfl)) dl_nil))) (dl_cons (de_tup (dl_cons de_str (dl_cons (de_isX 0 EC hp hcl hd hf rfl (M.free 5 _ rfl) rfl (kitAt M hc 19 rfl).1 (kitAt M hc 19 rfl).2 rfl (.inl rfl)) dl_nil))) (dl_cons (de_tup (dl_cons de_str (dl_cons (de_isX 0 EC hp hcl hd hf rfl (M.free 5 _ rfl) rfl (kitAt M hc 20 rfl).1 (kitAt M hc 20 rfl).2 rfl (.inl rfl)) dl_nil))) (dl_cons (de_tup (dl_cons de_str (dl_cons (de_isX 0 EC hp hcl hd hf rfl (M.free 5 _ rfl) rfl (kitAt M hc 21 rfl).1 (kitAt M hc 21 rfl).2 rfl (.inl rfl)) dl_nil))) (dl_cons (de_tup (dl_cons de_str (dl_cons (de_isX 0 EC hp hcl hd hf rfl (M.free 5 _ rfl) rfl (kitAt M hc 22 rfl).1 (kitAt M hc 22 rfl).2 rfl (.inl rfl)) dl_nil))) (dl_cons (de_tup (dl_cons de_str (dl_cons (de_isX 0 EC hp hcl hd hf rfl (M.free 5 _ rfl) rfl (kitAt M hc 23 rfl).1 (kitAt M hc 23 rfl).2 rfl (.inl rfl)) dl_nil))) (dl_cons (de_tup (dl_cons de_str (dl_cons (de_isX 0 EC hp hcl hd hf rfl (M.free 5 _ rfl) rfl (kitAt M hc 24 rfl).1 (kitAt M hc 24 rfl).2 rfl (.inl rfl)) dl_nil))) (dl_cons (de_tup (dl_cons de_str (dl_cons (de_isX 0 EC hp hcl hd hf rfl (M.free 5 _ rfl) rfl (kitAt M hc 25 rfl).1 (kitAt M hc 25 rfl).2 rfl (.inl rfl)) dl_nil))) (dl_cons (de_tup (dl_cons de_str (dl_cons (de_isX 0 EC hp hcl hd hf rfl (M.free 5 _ rfl) rfl (kitAt M hc 26 rfl).1 (kitAt M hc 26 rfl).2 rfl (.inl rfl)) dl_nil))) (dl_cons (de_tup (dl_cons de_str (dl_cons (de_isX 0 EC hp hcl hd hf rfl (M.free 5 _ rfl) rfl (kitAt M hc 27 rfl).1 (kitAt M hc 27 rfl).2 rfl (.inl rfl)) dl_nil))) (dl_cons (de_tup (dl_cons de_str (dl_cons (de_isX 0 EC hp hcl hd hf rfl (M.free 5 _ rfl) rfl (kitAt M hc 28 rfl).1 (kitAt M hc 28 rfl).2 rfl (.inl rfl)) dl_nil))) (dl_cons (de_tup (dl_cons de_str (dl_cons (de_isX 0 EC hp hcl hd hf rfl (M.free 5 _ rfl) rfl (kitAt M hc 29 rfl).1 (kitAt M hc 29 rfl).2 rfl (.inl rfl)) dl_nil))) (dl_cons (de_tup (dl_cons de_str (dl_cons (de_isX 0 EC hp hcl hd hf rfl (M.free 5 _ rfl) rfl (kitAt M hc 30 rfl).1 (kitAt M hc 30 rfl).2 rfl (.inl rfl)) dl_nil))) (dl_cons (de_tup (dl_cons de_str (dl_cons (de_isX 0 EC hp hcl hd hf rfl (M.free 5 _ rfl) rfl (kitAt M hc 31 rfl).1 (kitAt M hc 31 rfl).2 rfl (.inl rfl)) dl_nil))) (dl_cons (de_tup (dl_cons de_str (dl_cons (de_isX 0 EC hp hcl hd hf rfl (M.free 5 _ rfl) rfl (kitAt M hc 32 rfl).1 (kitAt M hc 32 rfl).2 rfl (.inl rfl)) dl_nil))) (dl_cons (de_tup (dl_cons de_str (dl_cons (de_isX 0 EC hp hcl hd hf rfl (M.free 5 _ rfl) rfl (kitAt M hc 33 rfl).1 (kitAt M hc 33 rfl).2 rfl (.inl rfl)) dl_nil))) (dl_cons (de_tup (dl_cons de_str (dl_cons (de_isX 0 EC hp hcl hd hf rfl (M.free 5 _ rfl) rfl (kitAt M hc 34 rfl).1 (kitAt M hc 34 rfl).2 rfl (.inl rfl)) dl_nil))) (dl_cons (de_tup (dl_cons de_str (dl_cons (de_isX 0 EC hp hcl hd hf rfl (M.free 5 _ rfl) rfl (kitAt M hc 35 rfl).1 (kitAt M hc 35 rfl).2 rfl (.inl rfl)) dl_nil))) (dl_cons (de_tup (dl_cons de_str (dl_cons (de_isX 0 EC hp hcl hd hf rfl (M.free 5 _ rfl) rfl (kitAt M hc 36 rfl).1 (kitAt M hc 36 rfl).2 rfl (.inl rfl)) dl_nil))) (dl_cons (de_tup (dl_cons de_str (dl_cons (de_isX 0 EC hp hcl hd hf rfl (M.free 5 _ rfl) rfl (kitAt M hc 37 rfl).1 (kitAt M hc 37 rfl).2 rfl (.inl rfl)) dl_nil))) (dl_cons (de_tup (dl_cons de_str (dl_cons (de_isX 0 EC hp hcl hd hf rfl (M.free 5 _ rfl) rfl (kitAt M hc 38 rfl).1 (kitAt M hc 38 rfl).2 rfl (.inl rfl)) dl_nil))) (dl_cons (de_tup (dl_cons de_str (dl_cons (de_isX 0 EC hp hcl hd hf rfl (M.free 5 _ rfl) rfl (kitAt M hc 39 rfl).1 (kitAt M hc 39 rfl).2 rfl (.inl rfl)) dl_nil))) (dl_cons (de_tup (dl_cons de_str (dl_cons (de_isX 0 EC hp hcl hd hf rfl (M.free 5 _ rfl) rfl (kitAt M hc 40 rfl).1 (kitAt M hc 40 rfl).2 rfl (.inl rfl)) dl_nil))) (dl_cons (de_tup (dl_cons de_str (dl_cons (de_isX 0 EC hp hcl hd hf rfl (M.free 5 _ rfl) rfl (kitAt M hc 41 rfl).1 (kitAt M hc 41 rfl).2 rfl (.inl rfl)) dl_nil))) (dl_cons (de_tup (dl_cons de_str (dl_cons (de_isX 0 EC hp hcl hd hf rfl (M.free 5 _ rfl) rfl (kitAt M hc 42 rfl).1 (kitAt M hc 42 rfl).2 rfl (.inl rfl)) dl_nil))) (dl_cons (de_tup (dl_cons de_str (dl_cons (de_isX 0 EC hp hcl hd hf rfl (M.free 5 _ rfl) rfl (kitAt M hc 43 rfl).1 (kitAt M hc 43 rfl).2 rfl (.inl rfl)) dl_nil))) (dl_cons (de_tup (dl_cons de_str (dl_cons (de_isX 0 EC hp hcl hd hf rfl (M.free 5 _ rfl) rfl (kitAt M hc 44 rfl).1 (kitAt M hc 44 rfl).2 rfl (.inl rfl)) dl_nil))) (dl_cons (de_tup (dl_cons de_str (dl_cons (de_isX 0 EC hp hcl hd hf rfl (M.free 5 _ rfl) rfl (kitAt M hc 45 rfl).1 (kitAt M hc 45 rfl).2 rfl (.inl rfl)) dl_nil))) dl_nil))))))))))))))))))))))))))))))))))))))))))))))))
theorem cls_eval (a dx : Addr) (c : Str) (w : D) : ∀ ys : List Str, mCls a dx c ys [.exn a dx c w] = .ok (ys.map fun y => .tup [.str y, .bl (c == y)]) [.exn a dx c w]
  | [] => rfl
  | y :: ys => by
    have e : mIsX 0 a dx (c == y) [.exn a dx c w] = .ok (.bl (c == y)) [.exn a dx c w] := by simp [mIsX]
    unfold mCls
    simp only [ev_lcons, ev_tup, ev_bind, ev_pure, bnd_ok, ev_lnil, e, cls_eval a dx c w ys, List.map_cons]
theorem only (c : Str) (h : c ∈ raisedN) : clsO.filter (fun y => c == y) = [c] ∧ c.length ≤ 1000 := by
  have e : (raisedN.all fun c => decide (clsO.filter (fun y => c == y) = [c] ∧ c.length ≤ 1000)) = true := by decide +kernel
  exact of_decide_eq_true (List.all_eq_true.mp e c h)
theorem join1 (s c : Str) : Txt.join s [c] = c := by
  show Builtin.Str.glued s [c] = c
  rw [StrLaws.glued_eq_join]
  rfl
theorem F_classes_eq (a dx : Addr) (c : Str) (w : D) : F_classes a dx c [.exn a dx c w] = .ret (.ow false (clsO.map fun y => .tup [.str y, .bl (c == y)])) [.exn a dx c w] := by
  unfold F_classes m_classes
  rw [ev_def]
  show (sRet (mlst (mCls a dx c clsO)) [.exn a dx c w]).fr _ = _
  simp only [ev_ret, ev_lst, cls_eval, bnd_ok, ev_pure, bnS_ok, fr_rt, outS_exn, outS_nil]
theorem suite_ok (a dx : Addr) (c : Str) (w : D) (h : c ∈ raisedN) : hSuite a dx c [.no, .exn a dx c w, .no] = .rt (.fz (.tup [.str c, w])) [.no, .exn a dx c w, .no] := by
  obtain ⟨o1, o2⟩ := only c h
  have e1 : mAgX 1 [.no, .exn a dx c w, .no] = .ok (.dat (.exn a dx c w)) [.no, .exn a dx c w, .no] := rfl
  have e2 : mWhat 1 a dx [.no, .exn a dx c w, .no] = .ok w [.no, .exn a dx c w, .no] := by simp [mWhat]
  have e3 : mComp [2] (mItL (mfrz (mCall (F_classes a dx c) (mgcons (mAgX 1) mgnil)))) (gNm 2) (mtst (mbin dIx (mslot 2) (mval (mpure (.int 1))))) (mbin dIx (mslot 2) (mval (mpure (.int 0)))) [.no, .exn a dx c w, .no] = .ok (.ow false [.str c]) [.no, .exn a dx c w, .no] := by
    rw [ev_comp (own := [2]) (ds := clsO.map fun y => .tup [.str y, .bl (c == y)]) (ρ1 := [.no, .exn a dx c w, .no]) (ρ2 := [.no, .exn a dx c w, .no]) (fun d => match d with
      | .tup [x, .bl true] => some x
      | _ => none)]
    · congr 2
      have : ∀ ys : List Str, (ys.map fun y => D.tup [.str y, .bl (c == y)]).filterMap (fun d => match d with
          | .tup [x, .bl true] => some x
          | _ => none) = (ys.filter fun y => c == y).map D.str := by
        intro ys
        induction ys with
        | nil => rfl
        | cons y ys ih =>
          rw [List.map_cons, List.filterMap_cons, List.filter_cons, ih]
          cases c == y <;> rfl
      rw [this, o1]
      rfl
    · simp [e1, F_classes_eq]
    · simp
    · intro d hd
      obtain ⟨y, hy, rfl⟩ := List.mem_map.mp hd
      cases e : c == y with
      | true => exact ⟨_, _, true, rfl, rfl, rfl, _, rfl, rfl⟩
      | false => exact ⟨_, _, false, rfl, rfl, rfl, rfl⟩
    · rw [List.length_map]; decide
  unfold hSuite
  simp only [ev_ret, ev_fz, ev_tup, ev_lcons, ev_frz, ev_m1, ev_pure, bnd_ok, kM1_str, ev_val, ev_bind, e3, kFrz_ow, ev_useV]
  have e4 : oJoin " " (.lst [.str c]) = some (.fz (.str c)) := by
    have : ([c].map (·.length)).sum + [c].length * (" " : Str).length ≤ 16777216 := by
      show c.length + 0 + 1 * 1 ≤ 16777216
      omega
    show (if _ then some _ else none) = _
    rw [if_pos this, join1]
  simp only [e4, Option.bind_some, unown_fz, ev_opt, bnd_ok, kFrz_fz, ev_bind, e2, ev_lcons, ev_lnil, ev_pure, bnS_ok]
theorem ok_heard (M : Md w K mg base) (k : Nat) : HeardP P w K mg base (tabF K) (Kn K) (k + 1) (ga K "_law_heard") := by
  have nd : (["deed", "refused_one", "line"] : List Str).Nodup := by decide +kernel
  refine heard_ok (hSuite := hSuite) (M.d 10 _ rfl).F ⟨rfl, rfl, rfl, by decide +kernel, rfl, by decide +kernel, by decide +kernel⟩ (M.d 10 _ rfl).b rfl M.gR rfl rfl (.inl rfl) (fun c C h => ?_) (fun a dx c C w h => suite_ok a dx c w h.1) (fun a dx C c oe pn cdv A outer s H E hk hr hz hf => ?_)
  · obtain ⟨h1, rfl⟩ := h
    exact (M.ex.bad c h1).xm
  · obtain ⟨h1, rfl⟩ := hk
    have hot : L2H.Hot1 ((cxOf CXn P w K mg base hN "_law_heard" (defScope s__law_heard) (ga K "_law_heard") cdv A outer s H E).suite a ((a, oe) :: pn)).A (a, oe) := by
      obtain ⟨vs, e⟩ := hf
      exact ⟨rfl, vs, e, hz.2.2 vs e⟩
    have hp : (a, oe) ∈ (a, oe) :: pn := .head _
    have B := M.ex.bad c h1
    have rH : L2H.RoomH 1 ((cxOf CXn P w K mg base hN "_law_heard" (defScope s__law_heard) (ga K "_law_heard") cdv A outer s H E).suite a ((a, oe) :: pn)).A := by
      have r1 := (L2H.roomH_of (k := k + 1) hr).mono (show 1 ≤ k + 1 by omega)
      exact ⟨r1.dp, r1.un⟩
    exact dss_one (ds_ret (dx_of (de_tup (dl_cons (de_frz (dx_m1 PySem.F.slot_str_join rfl mt_join sp_join de_str (dr_x (dx_lc_hot hp hot nd (de_frz (dx_callH (ok_classes M (p := (a, oe)) (dx := dx) (c := c) h1 hz.1 hz.2.1 hf) rfl rH hot hp rfl (M.d 9 _ rfl).g (M.d 9 _ rfl).F.kp (M.d 9 _ rfl).b (dag_cons (da1_exn 1) dag_nil))) (own := [("line", 2)]) (blk ["deed", "refused_one", "line"] (defScope s__law_heard) (by decide +kernel)) (fun s H C cl fp => dg_name 2 nd) (fun s H C cl fp => dts_one (dt_val (de_ix (dr_var 2) (dr_val de_int) fun _ _ => rfl))) (fun s H C cl fp => de_ix (dr_var 2) (dr_val de_int) fun _ _ => rfl))))) (dl_cons (de_what 1 B.xf B.rf.nw ⟨hz.1, hz.2.1⟩ hf) dl_nil)))))
theorem hkn : ∀ c ∈ raisedN, ∀ C, mg c = some (.ref C) → (Md w K mg base) → Kn K c C := fun c hc C e M => by
  obtain ⟨i, hi, ei⟩ := List.mem_iff_getElem.mp hc
  have B := M.bad i c (by rw [List.getElem?_eq_getElem hi, ei])
  have := B.gl
  rw [e] at this
  cases this
  exact ⟨hc, rfl⟩
theorem hall (M : Md w K mg base) : ∀ c ∈ raisedN, ∃ C, mg c = some (.ref C) := fun c hc => by
  obtain ⟨i, hi, ei⟩ := List.mem_iff_getElem.mp hc
  exact ⟨_, (M.bad i c (by rw [List.getElem?_eq_getElem hi, ei])).gl⟩
theorem tab_in (i : Nat) {x : Str} (hi : mkL[i]? = some x) : ((cT K (x, none)).2, x ++ ".<locals>." ++ "<lambda>") ∈ tabF K := by
  have e : tf = mkL.map fun x => (x, none) := rfl
  unfold tabF
  rw [e, List.map_map]
  exact List.mem_map.mpr ⟨x, List.mem_of_getElem? hi, rfl⟩
theorem nd_fst {α β : Type} {l : List (α × β)} (h : (l.map (·.1)).Nodup) {p q : α × β} (hp : p ∈ l) (hq : q ∈ l) (e : p.1 = q.1) : p.2 = q.2 := by
  induction l with
  | nil => cases hp
  | cons x l ih =>
    rw [List.map_cons, List.nodup_cons] at h
    rcases List.mem_cons.mp hp with rfl | hp'
    · rcases List.mem_cons.mp hq with rfl | hq'
      · rfl
      · exact absurd (List.mem_map.mpr ⟨q, hq', e.symm⟩) h.1
    · rcases List.mem_cons.mp hq with rfl | hq'
      · exact absurd (List.mem_map.mpr ⟨p, hp', e⟩) h.1
      · exact ih h.2 hp' hq'
theorem tab_un (M : Md w K mg base) (i : Nat) {x : Str} (hi : mkL[i]? = some x) : ∀ p ∈ tabF K, p.1 = (cT K (x, none)).2 → p.2 = x ++ ".<locals>." ++ "<lambda>" := fun p hp e => nd_fst M.ex.tnd hp (tab_in i hi) e
variable {T2 : List (Nat × Addr)} {N : List Str} {x : Str} {st : Stmt} {cdv : Value} {A : Around} {outer : List PySem.Env} {s : Shared} {H : Hp} {E : XK} {params : Arguments} {body : Expr} {scope : Scope} {p lpos pos : Pos} {fb : M D}
abbrev CxL (w : World) (K : PySem.W.Frag) (mg : Str → Option Value) (base : Heap) (N : List Str) (x : Str) (st : Stmt) (cdv : Value) (A : Around) (outer : List PySem.Env) (s : Shared) (H : Hp) (E : XK) : Cx := cxOf (L2N.CX P w) P w K mg base N x (defScope st) (ga K x) cdv A outer s H E
theorem heardR (M : Md w K mg base) (i : Nat) (k : Nat) (hi : mkL[i]? = some x) (hcd : (fdOf K x).code = cdv) (hr : Room (k + 2) (CxL w K mg base N x st cdv A outer s H E).A) (L : LamS (defScope st) scope) (hg : Gl (CxL w K mg base N x st cdv A outer s H E) "_law_heard")
    (hdef : defaultsOf params (CxL w K mg base N x st cdv A outer s H E).env = ([], [])) (hbind : ∀ (q : Str) (cl : List (Str × Addr)) (pm cv ctv : Value), bindArgs (PySem.W.kla_fn "<lambda>" q params body scope cl pm cv ctv) ⟨[], []⟩ = pure [])
    (hbody : ∀ (A' : Around) (outer' : List PySem.Env) (s' : Shared) (H' : Hp) (E' : XK) (f c' : Addr), Room k (A'.deeper (lamEnv (CxL w K mg base N x st cdv A outer s H E) scope s'.heap.objs.size f c')) → DE ⟨tabF K, T2⟩ (lamN (CxL w K mg base N x st cdv A outer s H E) A' outer' s' H' E' scope f c') body fb) :
    DE ⟨tabF K, T2⟩ (CxL w K mg base N x st cdv A outer s H E) (.Call (.Name "_law_heard" p) [.Lambda params body scope lpos] [] pos) (mHeard raisedN fb) := by
  have TB := M.tab i x hi
  have cd : cdv = .ref (cT K (x, none)).1 := hcd.symm.trans (M.cd i x hi)
  exact de_heard (Known := Kn K) (fun c hc C e => hkn c hc C e M) (hall M) (ok_heard M k) hg (M.d 10 _ rfl).g (M.d 10 _ rfl).F.kp TB cd (tab_in i hi) (tab_un M i hi) hr L hdef hbind hbody
def t_tells (ds : List D) : D := match ds with
  | [d] => .tup [.str "told", d]
  | _ => .non
def t_refuses (ds : List D) : D := .tup ds
theorem ok_tells (M : Md w K mg base) (k : Nat) : WrapP P w K mg base (tabF K) (Kn K) (k + 5) 1 ["deed", "owed"] (mtup (mlcons (mpure (.str "told")) (mlcons (mvar 1) mlnil))) (F_same 5) (ga K "_law_tells") :=
  wrap_ok (M.d 11 _ rfl).F ⟨rfl, rfl, rfl, by decide +kernel, rfl, by decide +kernel, by decide +kernel⟩ (M.d 11 _ rfl).b rfl rfl rfl (ok_heard M (k + 5)) (M.d 10 _ rfl).g (M.d 10 _ rfl).F.kp rfl ((ok_same M 5).mono (by omega)) (M.d 8 _ rfl).g (M.d 8 _ rfl).F.kp rfl (M.d 8 _ rfl).b (.inl rfl)
    (fun cdv A outer s H E => de_tup (dl_cons de_str (dl_cons (de_var 1) dl_nil)))
theorem ok_refuses (M : Md w K mg base) (k : Nat) : WrapP P w K mg base (tabF K) (Kn K) (k + 5) 2 ["deed", "name", "what"] (mtup (mlcons (mvar 1) (mlcons (mvar 2) mlnil))) (F_same 5) (ga K "_law_refuses") :=
  wrap_ok (M.d 12 _ rfl).F ⟨rfl, rfl, rfl, by decide +kernel, rfl, by decide +kernel, by decide +kernel⟩ (M.d 12 _ rfl).b rfl rfl rfl (ok_heard M (k + 5)) (M.d 10 _ rfl).g (M.d 10 _ rfl).F.kp rfl ((ok_same M 5).mono (by omega)) (M.d 8 _ rfl).g (M.d 8 _ rfl).F.kp rfl (M.d 8 _ rfl).b (.inl rfl)
    (fun cdv A outer s H E => de_tup (dl_cons (de_var 1) (dl_cons (de_var 2) dl_nil)))
theorem tellsR (M : Md w K mg base) (i : Nat) (k : Nat) (hi : mkL[i]? = some x) (hcd : (fdOf K x).code = cdv) (hr : Room (k + 5 + 3) (CxL w K mg base N x st cdv A outer s H E).A) (L : LamS (defScope st) scope) (hg : Gl (CxL w K mg base N x st cdv A outer s H E) "_law_tells")
    (hdef : defaultsOf params (CxL w K mg base N x st cdv A outer s H E).env = ([], [])) (hbind : ∀ (q : Str) (cl : List (Str × Addr)) (pm cv ctv : Value), bindArgs (PySem.W.kla_fn "<lambda>" q params body scope cl pm cv ctv) ⟨[], []⟩ = pure [])
    (hbody : ∀ (A' : Around) (outer' : List PySem.Env) (s' : Shared) (H' : Hp) (E' : XK) (f c' : Addr), Room (k + 5) (A'.deeper (lamEnv (CxL w K mg base N x st cdv A outer s H E) scope s'.heap.objs.size f c')) → DE ⟨tabF K, T2⟩ (lamN (CxL w K mg base N x st cdv A outer s H E) A' outer' s' H' E' scope f c') body fb)
    {es : List Expr} {fa : ME.M (List D)} (ha : DL ⟨tabF K, T2⟩ (CxL w K mg base N x st cdv A outer s H E) es 1 fa) (he : starEach (.Lambda params body scope lpos :: es) (CxL w K mg base N x st cdv A outer s H E).env = (false, eval (.Lambda params body scope lpos) (CxL w K mg base N x st cdv A outer s H E).env) :: starEach es (CxL w K mg base N x st cdv A outer s H E).env := by rfl) (hpl : (backTo pos (starEach es (CxL w K mg base N x st cdv A outer s H E).env)).any (·.1) = false := by rfl) :
    DE ⟨tabF K, T2⟩ (CxL w K mg base N x st cdv A outer s H E) (.Call (.Name "_law_tells" p) (.Lambda params body scope lpos :: es) [] pos) (mWrap raisedN fb fa t_tells (F_same 5)) := by
  have TB := M.tab i x hi
  have cd : cdv = .ref (cT K (x, none)).1 := hcd.symm.trans (M.cd i x hi)
  exact de_wrap (Known := Kn K) (N := ["deed", "owed"]) (tf := t_tells) (fun c hc C e => hkn c hc C e M) (hall M) (ok_tells M k) rfl (fun ds hds => by
    match ds, hds with
    | [_], _ => rfl) hg (M.d 11 _ rfl).g (M.d 11 _ rfl).F.kp TB cd (tab_in i hi) (tab_un M i hi) hr L hdef hbind hbody ha (by decide) he hpl
theorem refusesR (M : Md w K mg base) (i : Nat) (k : Nat) (hi : mkL[i]? = some x) (hcd : (fdOf K x).code = cdv) (hr : Room (k + 5 + 3) (CxL w K mg base N x st cdv A outer s H E).A) (L : LamS (defScope st) scope) (hg : Gl (CxL w K mg base N x st cdv A outer s H E) "_law_refuses")
    (hdef : defaultsOf params (CxL w K mg base N x st cdv A outer s H E).env = ([], [])) (hbind : ∀ (q : Str) (cl : List (Str × Addr)) (pm cv ctv : Value), bindArgs (PySem.W.kla_fn "<lambda>" q params body scope cl pm cv ctv) ⟨[], []⟩ = pure [])
    (hbody : ∀ (A' : Around) (outer' : List PySem.Env) (s' : Shared) (H' : Hp) (E' : XK) (f c' : Addr), Room (k + 5) (A'.deeper (lamEnv (CxL w K mg base N x st cdv A outer s H E) scope s'.heap.objs.size f c')) → DE ⟨tabF K, T2⟩ (lamN (CxL w K mg base N x st cdv A outer s H E) A' outer' s' H' E' scope f c') body fb)
    {es : List Expr} {fa : ME.M (List D)} (ha : DL ⟨tabF K, T2⟩ (CxL w K mg base N x st cdv A outer s H E) es 2 fa) (he : starEach (.Lambda params body scope lpos :: es) (CxL w K mg base N x st cdv A outer s H E).env = (false, eval (.Lambda params body scope lpos) (CxL w K mg base N x st cdv A outer s H E).env) :: starEach es (CxL w K mg base N x st cdv A outer s H E).env := by rfl) (hpl : (backTo pos (starEach es (CxL w K mg base N x st cdv A outer s H E).env)).any (·.1) = false := by rfl) :
    DE ⟨tabF K, T2⟩ (CxL w K mg base N x st cdv A outer s H E) (.Call (.Name "_law_refuses" p) (.Lambda params body scope lpos :: es) [] pos) (mWrap raisedN fb fa t_refuses (F_same 5)) := by
  have TB := M.tab i x hi
  have cd : cdv = .ref (cT K (x, none)).1 := hcd.symm.trans (M.cd i x hi)
  exact de_wrap (Known := Kn K) (N := ["deed", "name", "what"]) (tf := t_refuses) (fun c hc C e => hkn c hc C e M) (hall M) (ok_refuses M k) rfl (fun ds hds => by
    match ds, hds with
    | [_, _], _ => rfl) hg (M.d 12 _ rfl).g (M.d 12 _ rfl).F.kp TB cd (tab_in i hi) (tab_un M i hi) hr L hdef hbind hbody ha (by decide) he hpl
end
end HF
namespace HF
open PySem PySem.Spec PyProof.Rows L2 LamX ME He
section
variable {w : World} {K : PySem.W.Frag} {mg : Str → Option Value} {base : Heap}
abbrev nN_names_right : List Str := ["thing", "wrong"]
def m_names_right : MS := (sSeq (sSet 1 (mCall F_wrong_names (mgcons (mAg 0) mgnil))) (sRet (mCall (F_same 5) (mgcons (mdat (mHeard raisedN (mfrz (mCall F_made_names (mgcons (mAg 0) mgnil))))) (mgcons (mdat (mif (mtst (mbin aIsN (mslot 1) (mval (mpure .non)))) (mtup (mlcons (mpure (.str "told")) (mlcons (mvar 0) mlnil))) (mvar 1))) mgnil)))))
def F_names_right : FM := fnOf 2 m_names_right
theorem ok_names_right (M : Md w K mg base) : Ok w K mg base 8 "_law_names_right" ["thing"] 1 F_names_right := by
  have nd : (nN_names_right).Nodup := by decide +kernel
  refine ME.fn_okL (N := nN_names_right) (M.d 25 _ rfl).F ⟨rfl, rfl, rfl, by decide +kernel, rfl, by decide +kernel, by decide +kernel⟩ rfl fun T cdv A outer s H E hT hcd hr => ?_
  obtain ⟨T1, T2⟩ := T
  obtain rfl : T1 = tabF K := hT
  exact (dss_cons (ds_set 1 (dx_call (ok_wrong_names M) (hr.mono (by omega)) rfl (M.d 19 _ rfl).g (M.d 19 _ rfl).F.kp (M.d 19 _ rfl).b (dag_cons (da1_name 0) dag_nil)) nd) (dss_one (ds_ret (dx_call (ok_same M 5) (hr.mono (by omega)) rfl (M.d 8 _ rfl).g (M.d 8 _ rfl).F.kp (M.d 8 _ rfl).b (dag_cons (da1_val (heardR M 0 4 rfl hcd (hr.mono (by omega)) (lamS_by (sc := defScope s__law_names_right) (by decide +kernel)) rfl rfl (fun q cl pm cv ctv => rfl) fun A' outer' s' H' E' f' c' hr2 => (de_frz (dx_call (ok_made_names M) (hr2.mono (by omega)) rfl (M.d 4 _ rfl).g (M.d 4 _ rfl).F.kp (M.d 4 _ rfl).b (dag_cons (da1_name 0) dag_nil))))) (dag_cons (da1_val (de_if (dt_cmp op_isN s_isN (dr_var 1) (dr_val de_non)) (de_tup (dl_cons de_str (dl_cons (de_var 0) dl_nil))) (de_var 1))) dag_nil))))))
abbrev nN_text_right : List Str := ["called", "text", "owed"]
def m_text_right : MS := (sSeq (sSet 2 (mCall F_read_named_row (mgcons (mAg 0) (mgcons (mAg 1) mgnil)))) (sSeq (sIf (mnot (mtst (mfrz (mCall (F_same 5) (mgcons (mdat (mHeard raisedN (mfrz (mCall F_read_named_row_p (mgcons (mAg 0) (mgcons (mAg 1) mgnil)))))) (mgcons (mAg 2) mgnil)))))) (sRet (mfz (mpure (.bl false)))) sNil) (sRet (mfz (morV (mbin aNe (mval (mbin dIx (mslot 2) (mval (mpure (.int 0))))) (mval (mpure (.str "told")))) (mWrap raisedN (mfrz (mCall F_named_row (mgcons (mAg 0) (mgcons (mdat (mbin dIx (mslot 2) (mval (mpure (.int 1))))) mgnil)))) (mlcons (mvar 1) mlnil) t_tells (F_same 5)))))))
def F_text_right : FM := fnOf 3 m_text_right
theorem ok_text_right (M : Md w K mg base) : Ok w K mg base 9 "_law_text_right" ["called", "text"] 2 F_text_right := by
  have nd : (nN_text_right).Nodup := by decide +kernel
  refine ME.fn_okL (N := nN_text_right) (M.d 27 _ rfl).F ⟨rfl, rfl, rfl, by decide +kernel, rfl, by decide +kernel, by decide +kernel⟩ rfl fun T cdv A outer s H E hT hcd hr => ?_
  obtain ⟨T1, T2⟩ := T
  obtain rfl : T1 = tabF K := hT
  exact (dss_cons (ds_set 2 (dx_call (ok_read_named_row M) (hr.mono (by omega)) rfl (M.d 21 _ rfl).g (M.d 21 _ rfl).F.kp (M.d 21 _ rfl).b (dag_cons (da1_name 0) (dag_cons (da1_name 1) dag_nil))) nd) (dss_cons (ds_if (dt_not (dt_val (de_frz (dx_call (ok_same M 5) (hr.mono (by omega)) rfl (M.d 8 _ rfl).g (M.d 8 _ rfl).F.kp (M.d 8 _ rfl).b (dag_cons (da1_val (heardR M 1 5 rfl hcd (hr.mono (by omega)) (lamS_by (sc := defScope s__law_text_right) (by decide +kernel)) rfl rfl (fun q cl pm cv ctv => rfl) fun A' outer' s' H' E' f' c' hr2 => (de_frz (dx_call (ok_read_named_row_p M) (hr2.mono (by omega)) rfl (M.d 6 _ rfl).g (M.d 6 _ rfl).F.kp (M.d 6 _ rfl).b (dag_cons (da1_name 0) (dag_cons (da1_name 1) dag_nil)))))) (dag_cons (da1_name 2) dag_nil)))))) (dss_one (ds_ret (dx_of de_bl))) dss_nil) (dss_one (ds_ret (dx_of (de_or (de_cmp (op_neD hr.units) s_ne (dr_val (de_ix (dr_var 2) (dr_val de_int) fun _ _ => rfl)) (dr_val de_str)) (de_one (tellsR M 1 0 rfl hcd (hr.mono (by omega)) (lamS_by (sc := defScope s__law_text_right) (by decide +kernel)) rfl rfl (fun q cl pm cv ctv => rfl) (fun A' outer' s' H' E' f' c' hr2 => by exact (de_frz (dx_call (ok_named_row M) (hr2.mono (by omega)) rfl (M.d 5 _ rfl).g (M.d 5 _ rfl).F.kp (M.d 5 _ rfl).b (dag_cons (da1_name 0) (dag_cons (da1_val (de_ix (dr_var 2) (dr_val de_int) fun _ _ => rfl)) dag_nil))))) (dl_cons (de_var 1) dl_nil)))))))))
abbrev nN_rows_right : List Str := ["jar", "called", "n", "asked", "text", "one", "at", "odd", "bad", "wrong", "go"]
def m_rows_right : MS := (sSeq (sSet 2 (mfz (mfn fLen (mcons (mslot 1) mnil)))) (sSeq (sSet 3 (mif (mtst (mbin (aCmp fun i j => decide (j < i)) (mslot 2) (mval (mpure (.int 0))))) (mfnX fTupN (mcons (mval (mfrz (mComp [10] (mbind (mfrz (mCall F_take (mgcons (mAg 0) (mgcons (mdat (mpure (.int 15))) mgnil)))) asR1) (gNm 10) (mpure true) (mfrz (mCall F_take (mgcons (mAg 0) (mgcons (mAg 2) mgnil))))))) mnil)) (mfz (mtup mlnil)))) (sSeq (sSet 4 (mCall F_named_text (mgcons (mAg 1) (mgcons (mAg 3) mgnil)))) (sSeq (sIf (mnot (mtst (mWrap raisedN (mfrz (mCall F_named_row (mgcons (mAg 1) (mgcons (mAg 3) mgnil)))) (mlcons (mvar 4) mlnil) t_tells (F_same 5)))) (sRet (mfz (mpure (.bl false)))) sNil) (sSeq (sIf (mnot (mtst (mWrap raisedN (mfrz (mCall F_read_named_row_p (mgcons (mAg 1) (mgcons (mAg 4) mgnil)))) (mlcons (mvar 3) mlnil) t_tells (F_same 5)))) (sRet (mfz (mpure (.bl false)))) sNil) (sSeq (sFor (mItL (mfrz (mCall F_texts_of (mgcons (mAg 0) (mgcons (mAg 1) (mgcons (mAg 4) mgnil)))))) (gNm 5) (sIf (mnot (mtst (mfrz (mCall F_text_right (mgcons (mAg 1) (mgcons (mAg 5) mgnil)))))) (sRet (mfz (mpure (.bl false)))) sNil)) (sSeq (sSet 6 (mCall F_take (mgcons (mAg 0) (mgcons (mdat (mfrz (mbinX aAdd (mval (mfn fLen (mcons (mslot 3) mnil))) (mval (mpure (.int 1)))))) mgnil)))) (sSeq (sFor (mItL (mfrz (mlst (mlcons (mvar 2) (mlcons (mun aNeg (mval (mpure (.int 1)))) (mlcons (mpure (.bl true)) (mlcons (mpure .non) (mlcons (mif (mtst (mbin (aCmp fun i j => decide (j < i)) (mslot 2) (mval (mpure (.int 0))))) (mbin dIx (mslot 1) (mval (mpure (.int 0)))) (mpure (.str "a"))) mlnil)))))))) (gNm 7) (sSeq (sSet 8 (mCall F_one (mgcons (mAg 0) (mgcons (mdat (mfrz (mlst (mlcons (mfrz (mbinX aAdd (mval (mfrz (mbinX aAdd (mval (mfrz (mslice (mslot 3) (mpure none) (mpart (mvar 6))))) (mval (mtup (mlcons (mvar 7) mlnil)))))) (mval (mfrz (mslice (mslot 3) (mpart (mvar 6)) (mpure none)))))) (mlcons (mfrz (mbinX aAdd (mslot 3) (mval (mtup (mlcons (mvar 7) mlnil))))) (mlcons (mfrz (mfnX fList (mcons (mslot 3) mnil))) (mlcons (mpure .non) (mlcons (mfrz (mbinX aMul (mval (mtup (mlcons (mvar 7) mlnil))) (mval (mpure (.int 301))))) mlnil)))))))) mgnil)))) (sSeq (sSet 9 (mCall F_wrong_row (mgcons (mAg 2) (mgcons (mAg 8) mgnil)))) (sIf (mnot (mtst (mfrz (mCall (F_same 5) (mgcons (mdat (mHeard raisedN (mfrz (mCall F_named_row (mgcons (mAg 1) (mgcons (mAg 8) mgnil)))))) (mgcons (mAg 9) mgnil)))))) (sRet (mfz (mpure (.bl false)))) sNil)))) (sRet (mfz (mWrap raisedN (mfrz (mCall F_named_row (mgcons (mAg 1) (mgcons (mAg 3) mgnil)))) (mlcons (mvar 4) mlnil) t_tells (F_same 5))))))))))))
def F_rows_right : FM := fnOf 11 m_rows_right
theorem ok_rows_right (M : Md w K mg base) : Ok w K mg base 10 "_law_rows_right" ["jar", "called"] 2 F_rows_right := by
  have nd : (nN_rows_right).Nodup := by decide +kernel
  refine ME.fn_okL (N := nN_rows_right) (M.d 29 _ rfl).F ⟨rfl, rfl, rfl, by decide +kernel, rfl, by decide +kernel, by decide +kernel⟩ rfl fun T cdv A outer s H E hT hcd hr => ?_
  obtain ⟨T1, T2⟩ := T
  obtain rfl : T1 = tabF K := hT
  exact (dss_cons (ds_set 2 (dx_of (de_callB call_len s_len rfl (M.free 6 _ rfl) rfl (da_cons (dr_var 1) da_nil))) nd) (dss_cons (ds_set 3 (dx_if (dt_cmp op_gt (s_cmp _) (dr_var 2) (dr_val de_int)) (dx_callTy call_tupN s_tupN rfl (M.free 12 _ rfl) rfl (da_cons (dr_x (dx_lc rfl nd (di_rng1 (b := .Constant .none 0 ⟨0, 0, 0, 0⟩) (de_frz (dx_call (ok_take M) (hr.mono (by omega)) rfl (M.d 14 _ rfl).g (M.d 14 _ rfl).F.kp (M.d 14 _ rfl).b (dag_cons (da1_name 0) (dag_cons (da1_val de_int) dag_nil)))) rfl (M.free 9 _ rfl)) (own := [("go", 10)]) (blk nN_rows_right (defScope s__law_rows_right) (by decide +kernel)) (fun s H C cl fp => by exact (dg_name 10 nd)) (fun s H C cl fp => dts_nil) (fun s H C cl fp => (de_frz (dx_call (ok_take M) (hr.mono (by omega)) rfl (M.d 14 _ rfl).g (M.d 14 _ rfl).F.kp (M.d 14 _ rfl).b (dag_cons (da1_name 0) (dag_cons (da1_name 2) dag_nil))))))) da_nil)) (dx_of (de_tup dl_nil))) nd) (dss_cons (ds_set 4 (dx_call (ok_named_text M) (hr.mono (by omega)) rfl (M.d 20 _ rfl).g (M.d 20 _ rfl).F.kp (M.d 20 _ rfl).b (dag_cons (da1_name 1) (dag_cons (da1_name 3) dag_nil))) nd) (dss_cons (ds_if (dt_not (dt_val (tellsR M 2 0 rfl hcd (hr.mono (by omega)) (lamS_by (sc := defScope s__law_rows_right) (by decide +kernel)) rfl rfl (fun q cl pm cv ctv => rfl) (fun A' outer' s' H' E' f' c' hr2 => by exact (de_frz (dx_call (ok_named_row M) (hr2.mono (by omega)) rfl (M.d 5 _ rfl).g (M.d 5 _ rfl).F.kp (M.d 5 _ rfl).b (dag_cons (da1_name 1) (dag_cons (da1_name 3) dag_nil))))) (dl_cons (de_var 4) dl_nil)))) (dss_one (ds_ret (dx_of de_bl))) dss_nil) (dss_cons (ds_if (dt_not (dt_val (tellsR M 2 0 rfl hcd (hr.mono (by omega)) (lamS_by (sc := defScope s__law_rows_right) (by decide +kernel)) rfl rfl (fun q cl pm cv ctv => rfl) (fun A' outer' s' H' E' f' c' hr2 => by exact (de_frz (dx_call (ok_read_named_row_p M) (hr2.mono (by omega)) rfl (M.d 6 _ rfl).g (M.d 6 _ rfl).F.kp (M.d 6 _ rfl).b (dag_cons (da1_name 1) (dag_cons (da1_name 4) dag_nil))))) (dl_cons (de_var 3) dl_nil)))) (dss_one (ds_ret (dx_of de_bl))) dss_nil) (dss_cons (ds_for (passes_of rfl) rfl (di_lst (de_frz (dx_call (ok_texts_of M) (hr.mono (by omega)) rfl (M.d 28 _ rfl).g (M.d 28 _ rfl).F.kp (M.d 28 _ rfl).b (dag_cons (da1_name 0) (dag_cons (da1_name 1) (dag_cons (da1_name 4) dag_nil)))))) (dg_name 5 nd) (dss_one (ds_if (dt_not (dt_val (de_frz (dx_call (ok_text_right M) (hr.mono (by omega)) rfl (M.d 27 _ rfl).g (M.d 27 _ rfl).F.kp (M.d 27 _ rfl).b (dag_cons (da1_name 1) (dag_cons (da1_name 5) dag_nil)))))) (dss_one (ds_ret (dx_of de_bl))) dss_nil))) (dss_cons (ds_set 6 (dx_call (ok_take M) (hr.mono (by omega)) rfl (M.d 14 _ rfl).g (M.d 14 _ rfl).F.kp (M.d 14 _ rfl).b (dag_cons (da1_name 0) (dag_cons (da1_val (de_frz (dx_bin op_addA s_addA (dr_val (de_callB call_len s_len rfl (M.free 6 _ rfl) rfl (da_cons (dr_var 3) da_nil))) (dr_val de_int)))) dag_nil))) nd) (dss_cons (ds_for (passes_of rfl) rfl (di_lst (de_frz (dx_lst (dl_cons (de_var 2) (dl_cons (de_un un_neg s_neg (dr_val de_int)) (dl_cons de_bl (dl_cons de_non (dl_cons (de_if (dt_cmp op_gt (s_cmp _) (dr_var 2) (dr_val de_int)) (de_ix (dr_var 1) (dr_val de_int) fun _ _ => rfl) de_str) dl_nil)))))))) (dg_name 7 nd) (dss_cons (ds_set 8 (dx_call (ok_one M) (hr.mono (by omega)) rfl (M.d 15 _ rfl).g (M.d 15 _ rfl).F.kp (M.d 15 _ rfl).b (dag_cons (da1_name 0) (dag_cons (da1_val (de_frz (dx_lst (dl_cons (de_frz (dx_bin op_addA s_addA (dr_x (dx_bin op_addA s_addA (dr_x (dx_slice (dr_var 3) do_none (do_some (de_var 6)))) (dr_val (de_tup (dl_cons (de_var 7) dl_nil))))) (dr_x (dx_slice (dr_var 3) (do_some (de_var 6)) do_none)))) (dl_cons (de_frz (dx_bin op_addA s_addA (dr_var 3) (dr_val (de_tup (dl_cons (de_var 7) dl_nil))))) (dl_cons (de_frz (dx_callTy call_list_of s_list rfl (M.free 7 _ rfl) rfl (da_cons (dr_var 3) da_nil))) (dl_cons de_non (dl_cons (de_frz (dx_bin op_mulA s_mulA (dr_val (de_tup (dl_cons (de_var 7) dl_nil))) (dr_val de_int))) dl_nil)))))))) dag_nil))) nd) (dss_cons (ds_set 9 (dx_call (ok_wrong_row M) (hr.mono (by omega)) rfl (M.d 16 _ rfl).g (M.d 16 _ rfl).F.kp (M.d 16 _ rfl).b (dag_cons (da1_name 2) (dag_cons (da1_name 8) dag_nil))) nd) (dss_one (ds_if (dt_not (dt_val (de_frz (dx_call (ok_same M 5) (hr.mono (by omega)) rfl (M.d 8 _ rfl).g (M.d 8 _ rfl).F.kp (M.d 8 _ rfl).b (dag_cons (da1_val (heardR M 2 5 rfl hcd (hr.mono (by omega)) (lamS_by (sc := defScope s__law_rows_right) (by decide +kernel)) rfl rfl (fun q cl pm cv ctv => rfl) fun A' outer' s' H' E' f' c' hr2 => (de_frz (dx_call (ok_named_row M) (hr2.mono (by omega)) rfl (M.d 5 _ rfl).g (M.d 5 _ rfl).F.kp (M.d 5 _ rfl).b (dag_cons (da1_name 1) (dag_cons (da1_name 8) dag_nil)))))) (dag_cons (da1_name 9) dag_nil)))))) (dss_one (ds_ret (dx_of de_bl))) dss_nil))))) (dss_one (ds_ret (dx_of (tellsR M 2 0 rfl hcd (hr.mono (by omega)) (lamS_by (sc := defScope s__law_rows_right) (by decide +kernel)) rfl rfl (fun q cl pm cv ctv => rfl) (fun A' outer' s' H' E' f' c' hr2 => by exact (de_frz (dx_call (ok_named_row M) (hr2.mono (by omega)) rfl (M.d 5 _ rfl).g (M.d 5 _ rfl).F.kp (M.d 5 _ rfl).b (dag_cons (da1_name 1) (dag_cons (da1_name 3) dag_nil))))) (dl_cons (de_var 4) dl_nil)))))))))))))
abbrev nN_long_right : List Str := ["jar", "called", "many", "text", "asked", "owed", "go"]
def m_long_right : MS := (sSeq (sFor (mItL (mfrz (mlst (mlcons (mpure (.int 299)) (mlcons (mpure (.int 300)) (mlcons (mpure (.int 301)) mlnil)))))) (gNm 2) (sSeq (sSet 3 (mm1 oJoin (mpure (.str " ")) (mval (mfrz (mComp [6] (mbind (mvar 2) asR1) (gNm 6) (mpure true) (mfrz (mCall F_one (mgcons (mAg 0) (mgcons (mAg 1) mgnil))))))))) (sSeq (sIf (mnot (mtst (mfrz (mCall F_text_right (mgcons (mAg 1) (mgcons (mAg 3) mgnil)))))) (sRet (mfz (mpure (.bl false)))) sNil) (sSeq (sSet 4 (mbinX aMul (mval (mtup (mlcons (mbin aSub (mval (mfn fLen (mcons (mslot 1) mnil))) (mval (mpure (.int 1)))) mlnil))) (mslot 2))) (sSeq (sSet 5 (mfz (mif (mtst (mbin (aCmp fun i j => decide (i < j)) (mslot 2) (mval (mpure (.int 301))))) (mtup (mlcons (mpure (.str "told")) (mlcons (mfrz (mm1 oJoin (mpure (.str " ")) (mval (mfrz (mbinX aMul (mval (mfrz (mlst (mlcons (mbin dIx (mslot 1) (mval (mun aNeg (mval (mpure (.int 1)))))) mlnil)))) (mslot 2)))))) mlnil))) (mtup (mlcons (mpure (.str "TooMany")) (mlcons (mpure (.int 301)) mlnil)))))) (sIf (mnot (mtst (mfrz (mCall (F_same 5) (mgcons (mdat (mHeard raisedN (mfrz (mCall F_named_row (mgcons (mAg 1) (mgcons (mAg 4) mgnil)))))) (mgcons (mAg 5) mgnil)))))) (sRet (mfz (mpure (.bl false)))) sNil)))))) (sRet (mfz (mWrap raisedN (mfrz (mCall F_read_named_row_p (mgcons (mAg 1) (mgcons (mdat (mfrz (mbinX aMul (mval (mpure (.str "a"))) (mval (mpure (.int 400001)))))) mgnil)))) (mlcons (mpure (.str "TooMany")) (mlcons (mpure (.int 400001)) mlnil)) t_refuses (F_same 5)))))
def F_long_right : FM := fnOf 7 m_long_right
theorem ok_long_right (M : Md w K mg base) : Ok w K mg base 10 "_law_long_right" ["jar", "called"] 2 F_long_right := by
  have nd : (nN_long_right).Nodup := by decide +kernel
  refine ME.fn_okL (N := nN_long_right) (M.d 30 _ rfl).F ⟨rfl, rfl, rfl, by decide +kernel, rfl, by decide +kernel, by decide +kernel⟩ rfl fun T cdv A outer s H E hT hcd hr => ?_
  obtain ⟨T1, T2⟩ := T
  obtain rfl : T1 = tabF K := hT
  exact (dss_cons (ds_for (passes_of rfl) rfl (di_lst (de_frz (dx_lst (dl_cons de_int (dl_cons de_int (dl_cons de_int dl_nil)))))) (dg_name 2 nd) (dss_cons (ds_set 3 (dx_m1 PySem.F.slot_str_join rfl mt_join sp_join de_str (dr_x (dx_lc rfl nd (di_rng1 (b := .Constant .none 0 ⟨0, 0, 0, 0⟩) (de_var 2) rfl (M.free 9 _ rfl)) (own := [("go", 6)]) (blk nN_long_right (defScope s__law_long_right) (by decide +kernel)) (fun s H C cl fp => by exact (dg_name 6 nd)) (fun s H C cl fp => dts_nil) (fun s H C cl fp => (de_frz (dx_call (ok_one M) (hr.mono (by omega)) rfl (M.d 15 _ rfl).g (M.d 15 _ rfl).F.kp (M.d 15 _ rfl).b (dag_cons (da1_name 0) (dag_cons (da1_name 1) dag_nil)))))))) nd) (dss_cons (ds_if (dt_not (dt_val (de_frz (dx_call (ok_text_right M) (hr.mono (by omega)) rfl (M.d 27 _ rfl).g (M.d 27 _ rfl).F.kp (M.d 27 _ rfl).b (dag_cons (da1_name 1) (dag_cons (da1_name 3) dag_nil)))))) (dss_one (ds_ret (dx_of de_bl))) dss_nil) (dss_cons (ds_set 4 (dx_bin op_mulA s_mulA (dr_val (de_tup (dl_cons (de_bin op_sub (s_int _) (dr_val (de_callB call_len s_len rfl (M.free 6 _ rfl) rfl (da_cons (dr_var 1) da_nil))) (dr_val de_int)) dl_nil))) (dr_var 2)) nd) (dss_cons (ds_set 5 (dx_of (de_if (dt_cmp op_lt (s_cmp _) (dr_var 2) (dr_val de_int)) (de_tup (dl_cons de_str (dl_cons (de_frz (dx_m1 PySem.F.slot_str_join rfl mt_join sp_join de_str (dr_x (dx_bin op_mulA s_mulA (dr_x (dx_lst (dl_cons (de_ix (dr_var 1) (dr_val (de_un un_neg s_neg (dr_val de_int))) fun _ _ => rfl) dl_nil))) (dr_var 2))))) dl_nil))) (de_tup (dl_cons de_str (dl_cons de_int dl_nil))))) nd) (dss_one (ds_if (dt_not (dt_val (de_frz (dx_call (ok_same M 5) (hr.mono (by omega)) rfl (M.d 8 _ rfl).g (M.d 8 _ rfl).F.kp (M.d 8 _ rfl).b (dag_cons (da1_val (heardR M 3 5 rfl hcd (hr.mono (by omega)) (lamS_by (sc := defScope s__law_long_right) (by decide +kernel)) rfl rfl (fun q cl pm cv ctv => rfl) fun A' outer' s' H' E' f' c' hr2 => (de_frz (dx_call (ok_named_row M) (hr2.mono (by omega)) rfl (M.d 5 _ rfl).g (M.d 5 _ rfl).F.kp (M.d 5 _ rfl).b (dag_cons (da1_name 1) (dag_cons (da1_name 4) dag_nil)))))) (dag_cons (da1_name 5) dag_nil)))))) (dss_one (ds_ret (dx_of de_bl))) dss_nil))))))) (dss_one (ds_ret (dx_of (refusesR M 3 0 rfl hcd (hr.mono (by omega)) (lamS_by (sc := defScope s__law_long_right) (by decide +kernel)) rfl rfl (fun q cl pm cv ctv => rfl) (fun A' outer' s' H' E' f' c' hr2 => by exact (de_frz (dx_call (ok_read_named_row_p M) (hr2.mono (by omega)) rfl (M.d 6 _ rfl).g (M.d 6 _ rfl).F.kp (M.d 6 _ rfl).b (dag_cons (da1_name 1) (dag_cons (da1_val (de_frz (dx_bin op_mulA s_mulA (dr_val de_str) (dr_val de_int)))) dag_nil))))) (dl_cons de_str (dl_cons de_int dl_nil)))))))
def tbl_refused_right_deed : List (Str × FM) := [("named_row", F_named_row), ("read_named_row", F_read_named_row_p)]
theorem tblok_refused_right_deed (M : Md w K mg base) : ∀ y F, tbl_refused_right_deed.lookup y = some F → ∃ f fd ps, mg y = some (.ref f) ∧ FnOk P w K mg base (L2N.CX P w) 5 f fd ps (spF K mg (tabF K) 2 F) ∧ PySem.W.keepIn K (.ref f) = true ∧ Binds K fd ps [] := by
  intro y F h
  unfold tbl_refused_right_deed at h
  rw [List.lookup_cons] at h
  split at h
  · cases h
    rename_i e
    cases (eq_of_beq e)
    exact ⟨_, _, _, (M.d 5 _ rfl).g, (ok_named_row M).mono (by decide), (M.d 5 _ rfl).F.kp, (M.d 5 _ rfl).b⟩
  rw [List.lookup_cons] at h
  split at h
  · cases h
    rename_i e
    cases (eq_of_beq e)
    exact ⟨_, _, _, (M.d 6 _ rfl).g, (ok_read_named_row_p M).mono (by decide), (M.d 6 _ rfl).F.kp, (M.d 6 _ rfl).b⟩
  cases h
abbrev nN_refused_right : List Str := ["jar", "called", "bad", "wrong_row", "wrong", "deed", "odd"]
def m_refused_right : MS := (sSeq (sPar [2, 3] (mxcons (mCall F_odd_names (mgcons (mAg 0) (mgcons (mAg 1) mgnil))) (mxcons (mCall F_one (mgcons (mAg 0) (mgcons (mdat (mfrz (mlst (mlcons (mpure .non) (mlcons (mtup (mlcons (mpure (.int 99)) mlnil)) (mlcons (mfrz (mlst (mlcons (mpure (.int 0)) mlnil))) (mlcons (mfrz (mbinX aMul (mval (mtup (mlcons (mpure .non) mlnil))) (mval (mpure (.int 301))))) mlnil))))))) mgnil))) mxnil))) (sSeq (sSet 4 (mCall F_wrong_names (mgcons (mAg 2) mgnil))) (sSeq (sIf (mnot (mtst (mfrz (mCall F_names_right (mgcons (mAg 2) mgnil))))) (sRet (mfz (mpure (.bl false)))) sNil) (sSeq (sFor (mItL (mfrz (mlst (mlcons (mpure (.fn "named_row")) (mlcons (mpure (.fn "read_named_row")) mlnil))))) (gNm 5) (sIf (mand (mtst (mbin aNotN (mslot 4) (mval (mpure .non)))) (mnot (mtst (mfrz (mCall (F_same 5) (mgcons (mdat (mHeard raisedN (mfrz (mCallV 5 tbl_refused_right_deed (mgcons (mAg 2) (mgcons (mAg 3) mgnil)))))) (mgcons (mAg 4) mgnil))))))) (sRet (mfz (mpure (.bl false)))) sNil)) (sSeq (sSet 6 (mCall F_one (mgcons (mAg 0) (mgcons (mdat (mfrz (mlst (mlcons (mpure .non) (mlcons (mpure (.int 7)) (mlcons (mfrz (mlst (mlcons (mpure (.str "a")) mlnil))) (mlcons (mtup (mlcons (mpure (.str "a")) mlnil)) (mlcons (mpure (.bl true)) mlnil)))))))) mgnil)))) (sRet (mfz (mWrap raisedN (mfrz (mCall F_read_named_row_p (mgcons (mAg 1) (mgcons (mAg 6) mgnil)))) (mlcons (mpure (.str "BadText")) (mlcons (mun aNeg (mval (mpure (.int 1)))) mlnil)) t_refuses (F_same 5)))))))))
def F_refused_right : FM := fnOf 7 m_refused_right
theorem ok_refused_right (M : Md w K mg base) : Ok w K mg base 9 "_law_refused_right" ["jar", "called"] 2 F_refused_right := by
  have nd : (nN_refused_right).Nodup := by decide +kernel
  refine ME.fn_okL (N := nN_refused_right) (M.d 31 _ rfl).F ⟨rfl, rfl, rfl, by decide +kernel, rfl, by decide +kernel, by decide +kernel⟩ rfl fun T cdv A outer s H E hT hcd hr => ?_
  obtain ⟨T1, T2⟩ := T
  obtain rfl : T1 = tabF K := hT
  exact (dss_cons (ds_parN (dxs_cons (dx_call (ok_odd_names M) (hr.mono (by omega)) rfl (M.d 26 _ rfl).g (M.d 26 _ rfl).F.kp (M.d 26 _ rfl).b (dag_cons (da1_name 0) (dag_cons (da1_name 1) dag_nil))) (dxs_cons (dx_call (ok_one M) (hr.mono (by omega)) rfl (M.d 15 _ rfl).g (M.d 15 _ rfl).F.kp (M.d 15 _ rfl).b (dag_cons (da1_name 0) (dag_cons (da1_val (de_frz (dx_lst (dl_cons de_non (dl_cons (de_tup (dl_cons de_int dl_nil)) (dl_cons (de_frz (dx_lst (dl_cons de_int dl_nil))) (dl_cons (de_frz (dx_bin op_mulA s_mulA (dr_val (de_tup (dl_cons de_non dl_nil))) (dr_val de_int))) dl_nil))))))) dag_nil))) dxs_nil)) (dvs_cons 2 (dvs_cons 3 dvs_nil nd) nd) rfl) (dss_cons (ds_set 4 (dx_call (ok_wrong_names M) (hr.mono (by omega)) rfl (M.d 19 _ rfl).g (M.d 19 _ rfl).F.kp (M.d 19 _ rfl).b (dag_cons (da1_name 2) dag_nil)) nd) (dss_cons (ds_if (dt_not (dt_val (de_frz (dx_call (ok_names_right M) (hr.mono (by omega)) rfl (M.d 25 _ rfl).g (M.d 25 _ rfl).F.kp (M.d 25 _ rfl).b (dag_cons (da1_name 2) dag_nil))))) (dss_one (ds_ret (dx_of de_bl))) dss_nil) (dss_cons (ds_for (passes_of rfl) rfl (di_lst (de_frz (dx_lst (dl_cons (de_fn rfl (M.d 5 _ rfl).g) (dl_cons (de_fn rfl (M.d 6 _ rfl).g) dl_nil))))) (dg_name 5 nd) (dss_one (ds_if (dt_w (dw_and (dt_cmp op_notN s_notN (dr_var 4) (dr_val de_non)) (dw_and1 (dt_not (dt_val (de_frz (dx_call (ok_same M 5) (hr.mono (by omega)) rfl (M.d 8 _ rfl).g (M.d 8 _ rfl).F.kp (M.d 8 _ rfl).b (dag_cons (da1_val (heardR M 4 5 rfl hcd (hr.mono (by omega)) (lamS_by (sc := defScope s__law_refused_right) (by decide +kernel)) rfl rfl (fun q cl pm cv ctv => rfl) fun A' outer' s' H' E' f' c' hr2 => (de_frz (dx_callV 5 (tblok_refused_right_deed M) (hr2.mono (by omega)) (dag_cons (da1_name 2) (dag_cons (da1_name 3) dag_nil)))))) (dag_cons (da1_name 4) dag_nil))))))))) (dss_one (ds_ret (dx_of de_bl))) dss_nil))) (dss_cons (ds_set 6 (dx_call (ok_one M) (hr.mono (by omega)) rfl (M.d 15 _ rfl).g (M.d 15 _ rfl).F.kp (M.d 15 _ rfl).b (dag_cons (da1_name 0) (dag_cons (da1_val (de_frz (dx_lst (dl_cons de_non (dl_cons de_int (dl_cons (de_frz (dx_lst (dl_cons de_str dl_nil))) (dl_cons (de_tup (dl_cons de_str dl_nil)) (dl_cons de_bl dl_nil)))))))) dag_nil))) nd) (dss_one (ds_ret (dx_of (refusesR M 4 0 rfl hcd (hr.mono (by omega)) (lamS_by (sc := defScope s__law_refused_right) (by decide +kernel)) rfl rfl (fun q cl pm cv ctv => rfl) (fun A' outer' s' H' E' f' c' hr2 => by exact (de_frz (dx_call (ok_read_named_row_p M) (hr2.mono (by omega)) rfl (M.d 6 _ rfl).g (M.d 6 _ rfl).F.kp (M.d 6 _ rfl).b (dag_cons (da1_name 1) (dag_cons (da1_name 6) dag_nil))))) (dl_cons de_str (dl_cons (de_un un_neg s_neg (dr_val de_int)) dl_nil)))))))))))
abbrev nN_law : List Str := ["script", "go", "jar", "called", "turn", "one"]
def m_law : MS := (sSeq (sFor (mbind (mpure (.int 4)) asR1) (gNm 1) (sSeq (sSet 2 (mCall F_pool (mgcons (mAg 0) (mgcons (mAg 1) mgnil)))) (sSeq (sSet 3 (mCall F_some_names (mgcons (mAg 2) mgnil))) (sSeq (sIf (mor (mnot (mtst (mfrz (mCall F_names_right (mgcons (mAg 3) mgnil))))) (mnot (mtst (mfrz (mCall F_rows_right (mgcons (mAg 2) (mgcons (mAg 3) mgnil))))))) (sRet (mfz (mpure (.bl false)))) sNil) (sFor (mbind (mpure (.int 4)) asR1) (gNm 4) (sIf (mnot (mtst (mfrz (mCall F_refused_right (mgcons (mAg 2) (mgcons (mAg 3) mgnil)))))) (sRet (mfz (mpure (.bl false)))) sNil)))))) (sSeq (sIf (mand (mtst (mbin aNe (mslot 3) (mval (mtup mlnil)))) (mnot (mtst (mfrz (mCallT F_long_right (mCall F_pool (mgcons (mAg 0) (mgcons (mdat (mpure (.int 4))) mgnil))) (mgcons (mAg 3) mgnil)))))) (sRet (mfz (mpure (.bl false)))) sNil) (sRet (mfz (mandV (mfrz (mCall F_names_right (mgcons (mdat (mfrz (mbinX aAdd (mval (mtup (mlcons (mpure (.str "a")) mlnil))) (mval (mfrz (mfnX fTupN (mcons (mval (mfrz (mComp [5] (mItC (mpure (.str "abcdefghijklmnopqrstuvw"))) (gNm 5) (mpure true) (mfrz (mbinX aAdd (mval (mpure (.str "a"))) (mslot 5)))))) mnil))))))) mgnil))) (mfrz (mCall F_names_right (mgcons (mdat (mfrz (mfnX fTupN (mcons (mval (mfrz (mComp [5] (mItC (mpure (.str "abcdefghijklmnopqrstuvwxy"))) (gNm 5) (mpure true) (mfrz (mbinX aAdd (mval (mpure (.str "b"))) (mslot 5)))))) mnil)))) mgnil))))))))
def F_law : FM := fnOf 6 m_law
theorem ok_law (M : Md w K mg base) : Ok w K mg base 11 "law" ["script"] 1 F_law := by
  have nd : (nN_law).Nodup := by decide +kernel
  refine ME.fn_ok (N := nN_law) (M.d 32 _ rfl).F ⟨rfl, rfl, rfl, by decide +kernel, rfl, by decide +kernel, by decide +kernel⟩ rfl fun T cdv A outer s H E hT hr => ?_
  obtain ⟨T1, T2⟩ := T
  obtain rfl : T1 = tabF K := hT
  exact (dss_cons (ds_for (passes_of rfl) rfl (di_rng1 (b := .Constant .none 0 ⟨0, 0, 0, 0⟩) de_int rfl (M.free 9 _ rfl)) (dg_name 1 nd) (dss_cons (ds_set 2 (dx_call (ok_pool M) (hr.mono (by omega)) rfl (M.d 13 _ rfl).g (M.d 13 _ rfl).F.kp (M.d 13 _ rfl).b (dag_cons (da1_name 0) (dag_cons (da1_name 1) dag_nil))) nd) (dss_cons (ds_set 3 (dx_call (ok_some_names M) (hr.mono (by omega)) rfl (M.d 24 _ rfl).g (M.d 24 _ rfl).F.kp (M.d 24 _ rfl).b (dag_cons (da1_name 2) dag_nil)) nd) (dss_cons (ds_if (dt_w (dw_or (dt_not (dt_val (de_frz (dx_call (ok_names_right M) (hr.mono (by omega)) rfl (M.d 25 _ rfl).g (M.d 25 _ rfl).F.kp (M.d 25 _ rfl).b (dag_cons (da1_name 3) dag_nil))))) (dw_or1 (dt_not (dt_val (de_frz (dx_call (ok_rows_right M) (hr.mono (by omega)) rfl (M.d 29 _ rfl).g (M.d 29 _ rfl).F.kp (M.d 29 _ rfl).b (dag_cons (da1_name 2) (dag_cons (da1_name 3) dag_nil))))))))) (dss_one (ds_ret (dx_of de_bl))) dss_nil) (dss_one (ds_for (passes_of rfl) rfl (di_rng1 (b := .Constant .none 0 ⟨0, 0, 0, 0⟩) de_int rfl (M.free 9 _ rfl)) (dg_name 4 nd) (dss_one (ds_if (dt_not (dt_val (de_frz (dx_call (ok_refused_right M) (hr.mono (by omega)) rfl (M.d 31 _ rfl).g (M.d 31 _ rfl).F.kp (M.d 31 _ rfl).b (dag_cons (da1_name 2) (dag_cons (da1_name 3) dag_nil)))))) (dss_one (ds_ret (dx_of de_bl))) dss_nil)))))))) (dss_cons (ds_if (dt_w (dw_and (dt_cmp (op_neD hr.units) s_ne (dr_var 3) (dr_val (de_tup dl_nil))) (dw_and1 (dt_not (dt_val (de_frz (dx_callT (ok_long_right M) (hr.mono (by omega)) rfl (M.d 30 _ rfl).g (M.d 30 _ rfl).F.kp (M.d 30 _ rfl).b (dx_call (ok_pool M) (hr.mono (by omega)) rfl (M.d 13 _ rfl).g (M.d 13 _ rfl).F.kp (M.d 13 _ rfl).b (dag_cons (da1_name 0) (dag_cons (da1_val de_int) dag_nil))) (dag_cons (da1_name 3) dag_nil)))))))) (dss_one (ds_ret (dx_of de_bl))) dss_nil) (dss_one (ds_ret (dx_of (de_and (de_frz (dx_call (ok_names_right M) (hr.mono (by omega)) rfl (M.d 25 _ rfl).g (M.d 25 _ rfl).F.kp (M.d 25 _ rfl).b (dag_cons (da1_val (de_frz (dx_bin op_addA s_addA (dr_val (de_tup (dl_cons de_str dl_nil))) (dr_x (dx_callTy call_tupN s_tupN rfl (M.free 12 _ rfl) rfl (da_cons (dr_x (dx_lc rfl nd (di_str de_str) (own := [("one", 5)]) (blk nN_law (defScope s_law) (by decide +kernel)) (fun s H C cl fp => by exact (dg_name 5 nd)) (fun s H C cl fp => dts_nil) (fun s H C cl fp => (de_frz (dx_bin op_addA s_addA (dr_val de_str) (dr_var 5)))))) da_nil)))))) dag_nil))) (de_one (de_frz (dx_call (ok_names_right M) (hr.mono (by omega)) rfl (M.d 25 _ rfl).g (M.d 25 _ rfl).F.kp (M.d 25 _ rfl).b (dag_cons (da1_val (de_frz (dx_callTy call_tupN s_tupN rfl (M.free 12 _ rfl) rfl (da_cons (dr_x (dx_lc rfl nd (di_str de_str) (own := [("one", 5)]) (blk nN_law (defScope s_law) (by decide +kernel)) (fun s H C cl fp => by exact (dg_name 5 nd)) (fun s H C cl fp => dts_nil) (fun s H C cl fp => (de_frz (dx_bin op_addA s_addA (dr_val de_str) (dr_var 5)))))) da_nil)))) dag_nil))))))))))
end
end HF
namespace HF
open PySem PySem.Spec PyProof.Rows L2 LamX ME He
theorem take_spec (a b top : Int) (hb : 0 ≤ b) (hb2 : b < 2147483647) (ht : 0 < top) (ht2 : top < 1073741824) : ∃ r a' b', F_take [.ow true [.int a, .int b], .fz (.int top)] = .ret (.fz (.int r)) [.ow true [.int a', .int b'], .fz (.int top)] ∧ 0 ≤ r ∧ r < top ∧ 0 ≤ b' ∧ b' < 2147483647 := by
  unfold F_take m_take
  rw [ev_def]
  have hd : CDiv a top := ⟨ht, ht2⟩
  by_cases ha : 0 < a
  · simp [ha, ht, hd]
    exact ⟨_, _, _, ⟨rfl, rfl, rfl⟩, Int.emod_nonneg _ (by omega), Int.emod_lt_of_pos _ ht, hb, hb2⟩
  · have c1 : CMul b 39373 := .inl ⟨by omega, by omega⟩
    have m1 : 0 ≤ (b * 39373 + 7) % 2147483647 := Int.emod_nonneg _ (by omega)
    have m2 : (b * 39373 + 7) % 2147483647 < 2147483647 := Int.emod_lt_of_pos _ (by omega)
    generalize hq : (b * 39373 + 7) % 2147483647 = q at m1 m2
    have c2 : CMul q q := .inl ⟨by omega, by omega⟩
    have c3 : CDiv (q * q % 2147483629) 32 := ⟨by omega, by omega⟩
    simp [ha, ht, hd, c1, hq, c2, c3]
    exact ⟨_, _, _, ⟨rfl, rfl, rfl⟩, Int.emod_nonneg _ (by omega), Int.emod_lt_of_pos _ ht, m1, m2⟩
/-- what is read as data: frozen data, or a tuple of its own -/
structure DSl (s : Sl) (d : D) : Prop where
  g : ∀ i ρ, gS (some s) i ρ = .ok (.slot i) ρ
  v : vD (some s) = some d
  sd : sD (some s) = some d
  a : ∀ i ρ, gAg (some s) i ρ = .ok (.dat s) ρ
  o : ∀ ss r ρ, outS (s :: ss) (r :: ρ) = s :: outS ss ρ
theorem DSl.fz (d : D) : DSl (.fz d) d := ⟨fun _ _ => rfl, rfl, rfl, fun _ _ => rfl, fun _ _ _ => rfl⟩
theorem DSl.nt (ds : List D) : DSl (.nt ds) (.tup ds) := ⟨fun _ _ => rfl, rfl, rfl, fun _ _ => rfl, fun _ _ _ => rfl⟩
/-- .. or a list that is lent: operands only -/
structure OSl (s : Sl) (d : D) : Prop where
  g : ∀ i ρ, gS (some s) i ρ = .ok (.slot i) ρ
  sd : sD (some s) = some d
theorem OSl.fz (d : D) : OSl (.fz d) d := ⟨fun _ _ => rfl, rfl⟩
theorem OSl.nt (ds : List D) : OSl (.nt ds) (.tup ds) := ⟨fun _ _ => rfl, rfl⟩
theorem OSl.ow (p : Bool) (ds : List D) : OSl (.ow p ds) (.lst ds) := ⟨fun _ _ => rfl, rfl⟩
theorem one_tup (a b : Int) (hb : 0 ≤ b) (hb2 : b < 2147483647) (s : Sl) (d : D) (ds : List D) (h : DSl s d) (hd : d = .tup ds ∨ d = .lst ds) (hn : ds ≠ []) (hl : ds.length < 1000000) :
    ∃ a' b' x, x ∈ ds ∧ F_one [.ow true [.int a, .int b], s] = .ret (.fz x) [.ow true [.int a', .int b'], s] ∧ 0 ≤ b' ∧ b' < 2147483647 := by
  have hpos : 0 < ds.length := List.length_pos_iff.mpr hn
  obtain ⟨r, a', b', e, h1, h2, h3, h4⟩ := take_spec a b ds.length hb hb2 (by omega) (by omega)
  have hi : r.toNat < ds.length := by omega
  refine ⟨a', b', ds[r.toNat], List.getElem_mem _, ?_, h3, h4⟩
  have q : atI ds r = some ds[r.toNat] := by rw [atI_nat h1 h2, List.getElem?_eq_getElem hi]
  unfold F_one m_one
  rw [ev_def]
  rcases hd with rfl | rfl <;> simp [h.g, h.v, h.sd, h.a, h.o, e, q]
theorem one_own (a b : Int) (hb : 0 ≤ b) (hb2 : b < 2147483647) (ds : List D) (hn : ds ≠ []) (hl : ds.length < 1000000) :
    ∃ a' b' x, x ∈ ds ∧ F_one [.ow true [.int a, .int b], .ow true ds] = .ret (.fz x) [.ow true [.int a', .int b'], .ow true ds] ∧ 0 ≤ b' ∧ b' < 2147483647 := by
  have hpos : 0 < ds.length := List.length_pos_iff.mpr hn
  obtain ⟨r, a', b', e, h1, h2, h3, h4⟩ := take_spec a b ds.length hb hb2 (by omega) (by omega)
  have hi : r.toNat < ds.length := by omega
  refine ⟨a', b', ds[r.toNat], List.getElem_mem _, ?_, h3, h4⟩
  have q : atI ds r = some ds[r.toNat] := by rw [atI_nat h1 h2, List.getElem?_eq_getElem hi]
  unfold F_one m_one
  rw [ev_def]
  simp [e, q]
theorem is_whole_eq (d : D) (t : String) (h : tyN d = some t) : F_is_whole [.fz d] = .ret (.fz (.bl (t == "int"))) [.fz d] := by
  unfold F_is_whole m_is_whole
  rw [ev_def]
  cases d <;> cases h <;> simp
/-! ### == -/
def okS (s : Str) : Prop := ∀ c ∈ s.cps.toList, c < 128
theorem okS_strOk {s : Str} (h : okS s) : PyData.strOk s = true := by
  unfold PyData.strOk
  rw [Array.all_eq_true_iff_forall_mem]
  intro c hc
  have := h c (Array.mem_toList_iff.mpr hc)
  exact decide_eq_true (by omega)
inductive Atom : D → Prop
  | non : Atom .non
  | bl (b : Bool) : Atom (.bl b)
  | int (i : Int) : Atom (.int i)
  | str {s : Str} : okS s → Atom (.str s)
theorem Atom.py {d : D} (h : Atom d) : ∃ p, d.py = some p ∧ p.canLay0 = true ∧ p.depth = 0 := by
  cases h with
  | non => exact ⟨.none, rfl, rfl, rfl⟩
  | bl b => exact ⟨.bool b, rfl, rfl, rfl⟩
  | int i => exact ⟨.int i, rfl, rfl, rfl⟩
  | str h => exact ⟨.str _, rfl, okS_strOk h, rfl⟩
theorem atoms_py : ∀ {ds : List D}, (∀ d ∈ ds, Atom d) → ∃ ps, D.pyAll ds = some ps ∧ PyData.canLayAll0 ps = true ∧ PyData.depthAll ps = 0 ∧ ps.length = ds.length
  | [], _ => ⟨[], rfl, rfl, rfl, rfl⟩
  | d :: ds, h => by
    obtain ⟨p, e1, e2, e3⟩ := (h d (.head _)).py
    obtain ⟨ps, f1, f2, f3, f4⟩ := atoms_py fun x hx => h x (List.mem_cons_of_mem _ hx)
    refine ⟨p :: ps, ?_, ?_, ?_, ?_⟩
    · unfold D.pyAll; rw [e1, f1]; rfl
    · unfold PyData.canLayAll0; rw [e2, f2]; rfl
    · unfold PyData.depthAll; rw [e3, f3]; rfl
    · rw [List.length_cons, List.length_cons, f4]
theorem shaped_list {ps : List PyData} (h1 : PyData.canLayAll0 ps = true) (h2 : PyData.depthAll ps = 0) : SeqAt.shaped (.list ps) = true := by
  unfold SeqAt.shaped PyData.canLay0 PyData.depth
  rw [h1, h2]; rfl
theorem shaped_tuple {ps : List PyData} (h1 : PyData.canLayAll0 ps = true) (h2 : PyData.depthAll ps = 0) : SeqAt.shaped (.tuple ps) = true := by
  unfold SeqAt.shaped PyData.canLay0 PyData.depth
  rw [h1, h2]; rfl
theorem dEq_nil {ds : List D} (h : ∀ d ∈ ds, Atom d) : dEq (.lst ds) (.lst []) = some ds.isEmpty := by
  obtain ⟨ps, e1, e2, e3, e4⟩ := atoms_py h
  have p1 : (D.lst ds).py = some (.list ps) := by unfold D.py; rw [e1]; rfl
  have p2 : (D.lst []).py = some (.list []) := rfl
  unfold dEq
  rw [p1, p2]
  simp only [shaped_list e2 e3, show SeqAt.shaped (.list []) = true from rfl, Bool.and_self, if_true]
  cases ps with
  | nil => cases ds with
    | nil => rfl
    | cons _ _ => cases e4
  | cons _ _ => cases ds with
    | nil => cases e4
    | cons _ _ => rfl
theorem dEq_nilT {ds : List D} (h : ∀ d ∈ ds, Atom d) : dEq (.tup ds) (.tup []) = some ds.isEmpty := by
  obtain ⟨ps, e1, e2, e3, e4⟩ := atoms_py h
  have p1 : (D.tup ds).py = some (.tuple ps) := by unfold D.py; rw [e1]; rfl
  have p2 : (D.tup []).py = some (.tuple []) := rfl
  unfold dEq
  rw [p1, p2]
  simp only [shaped_tuple e2 e3, show SeqAt.shaped (.tuple []) = true from rfl, Bool.and_self, if_true]
  cases ps with
  | nil => cases ds with
    | nil => rfl
    | cons _ _ => cases e4
  | cons _ _ => cases ds with
    | nil => cases e4
    | cons _ _ => rfl
@[simp] theorem dEq_int (i j : Int) : dEq (.int i) (.int j) = some (i == j) := rfl
theorem dEq_str {a b : Str} (ha : okS a) (hb : okS b) : dEq (.str a) (.str b) = some (a == b) := by
  have p1 : (D.str a).py = some (.str a) := rfl
  have p2 : (D.str b).py = some (.str b) := rfl
  unfold dEq
  rw [p1, p2]
  have s1 : SeqAt.shaped (.str a) = true := by unfold SeqAt.shaped PyData.canLay0 PyData.depth; rw [okS_strOk ha]; rfl
  have s2 : SeqAt.shaped (.str b) = true := by unfold SeqAt.shaped PyData.canLay0 PyData.depth; rw [okS_strOk hb]; rfl
  simp only [s1, s2, Bool.and_self, if_true]
  rfl
theorem aEq_of {x y : D} {b : Bool} (h : dEq x y = some b) : aEq x y = some (.bl b) := by unfold aEq; rw [h]; rfl
theorem aNe_of {x y : D} {b : Bool} (h : dEq x y = some b) : aNe x y = some (.bl (!b)) := by unfold aNe; rw [h]; rfl
@[simp] theorem aEq_int (i j : Int) : aEq (.int i) (.int j) = some (.bl (i == j)) := rfl
@[simp] theorem aNe_int (i j : Int) : aNe (.int i) (.int j) = some (.bl (!(i == j))) := rfl
theorem pool_spec (ns : List Int) (s : Sl) (h : s = .fz (.lst (ns.map D.int)) ∨ s = .ow true (ns.map D.int)) (k : Int) (hk : 0 ≤ k) (hk2 : k < 1000) : ∃ a b, F_pool [s, .fz (.int k)] = .ret (.ow false [.int a, .int b]) [s, .fz (.int k)] ∧ 0 ≤ b ∧ b < 2147483647 := by
  have key : ∀ (s : Sl), (∀ i ρ, gS (some s) i ρ = .ok (.slot i) ρ) → sD (some s) = some (.lst (ns.map D.int)) → (∀ ss ρ, outS (s :: ss) (s :: ρ) = s :: outS ss ρ) → ∃ a b, F_pool [s, .fz (.int k)] = .ret (.ow false [.int a, .int b]) [s, .fz (.int k)] ∧ 0 ≤ b ∧ b < 2147483647 := by
    intro s h1 h2 h3
    unfold F_pool m_pool
    rw [ev_def]
    have nn : aNe (.lst (ns.map D.int)) (.lst []) = some (.bl (!(ns.map D.int).isEmpty)) := aNe_of (dEq_nil fun d hd => by
      obtain ⟨i, _, rfl⟩ := List.mem_map.mp hd
      exact .int i)
    have c1 : ∀ i, CMul i 48271 := fun i => .inr ⟨by omega, by omega⟩
    have c2 : CMul 7919 k := .inl ⟨by omega, by omega⟩
    have c3 : CMul (7919 * k) k := .inr ⟨by omega, by omega⟩
    have c4 : CMul 31 k := .inl ⟨by omega, by omega⟩
    have c5 : ∀ i, CMul i 0 := fun i => .inr ⟨by omega, by omega⟩
    have c6 : ∀ i, CMul i 1 := fun i => .inr ⟨by omega, by omega⟩
    have c7 : CPow 10 18 := ⟨by omega, by omega, by decide⟩
    have tt : ∀ (c : Bool) (i : Int), CMul i (if c = true then 1 else 0) := fun c i => by cases c <;> simp [c5, c6]
    have bnd : ∀ z : Int, 0 ≤ z % 2147483647 ∧ z % 2147483647 < 2147483647 := fun z => ⟨Int.emod_nonneg _ (by omega), Int.emod_lt_of_pos _ (by omega)⟩
    by_cases hlt : k < ns.length
    · have q : atI (ns.map D.int) k = some (.int ns[k.toNat]!) := by
        have h5 : k.toNat < ns.length := by omega
        rw [atI_nat hk (by rw [List.length_map]; exact hlt), List.getElem?_map, List.getElem?_eq_getElem h5]
        simp [h5]
      generalize ns[k.toNat]! = c at q
      simp [h1, h2, h3, hlt, q, c1, c2, c3, c4, c7]
      generalize (if c < -1 - c then -1 - c else c) = g
      by_cases hg : 1000000000000000000 ≤ g
      · simp [hg, h1, h2, h3, hlt, c6]
        exact ⟨_, _, ⟨rfl, rfl⟩, bnd _⟩
      · simp [hg, h1, h2, h3, hlt, c5]
        exact ⟨_, _, ⟨rfl, rfl⟩, bnd _⟩
    · cases ns with
      | nil =>
        have hlt' : ¬ k < 0 := by omega
        have nn' : aNe (.lst []) (.lst []) = some (.bl false) := nn
        simp [h1, h2, h3, hlt', nn', c1, c2, c3, c4, c7]
        generalize (if (0 : Int) < -1 then (-1 : Int) else 0) = g
        by_cases hg : 1000000000000000000 ≤ g
        · simp [hg, h1, h2, h3, hlt', c5]
          exact ⟨_, _, ⟨rfl, rfl⟩, bnd _⟩
        · simp [hg, h1, h2, h3, hlt', c5]
          exact ⟨_, _, ⟨rfl, rfl⟩, bnd _⟩
      | cons c ns =>
        have hlt' : ¬ k < ns.length + 1 := by simpa using hlt
        have nn' : aNe (.lst (.int c :: ns.map D.int)) (.lst []) = some (.bl true) := nn
        simp [h1, h2, h3, hlt', nn', c1, c2, c3, c4, c7]
        generalize (if c < -1 - c then -1 - c else c) = g
        by_cases hg : 1000000000000000000 ≤ g
        · simp [hg, h1, h2, h3, hlt', c5]
          exact ⟨_, _, ⟨rfl, rfl⟩, bnd _⟩
        · simp [hg, h1, h2, h3, hlt', c5]
          exact ⟨_, _, ⟨rfl, rfl⟩, bnd _⟩
  rcases h with rfl | rfl
  · exact key _ (fun _ _ => rfl) rfl fun _ _ => rfl
  · exact key _ (fun _ _ => rfl) rfl fun _ _ => rfl
end HF
namespace HF
open PySem PySem.Spec PyProof.Rows L2 LamX ME He
/-! ### names -/
def lets : Str := "abcdefghijklmnopqrstuvwxyz"
def kept : List Str := ["none", "from", "of", "out", "with", "apart"]
def letB (c : Nat) : Bool := decide (c ∈ lets.cps.toList)
def isNm (s : Str) : Bool := decide (1 ≤ s.length) && (decide (s.length ≤ 12) && (!(kept.any fun y => y == s) && s.cps.toList.all letB))
/-- what is asked of data that is looked at -/
def tame : D → Bool
  | .str s => decide (s.length ≤ 1000000)
  | .fn _ => false
  | .dic _ _ => false
  | _ => true
def nmD : D → Bool
  | .str s => isNm s
  | _ => false
theorem small_str {z : Str} (h : z.length ≤ 1000000) : fLen [.str z] = some (.int z.length) := fLen_str (Nat.le_trans h (by decide))
theorem in_strs (s : Str) (ys : List Str) : dIn (.str s) (.tup (ys.map D.str)) = some (ys.any fun y => y == s) := by
  have e : (ys.map D.str).all dFlat = true := by rw [List.all_map]; exact List.all_eq_true.mpr fun _ _ => rfl
  show (if dFlat (.str s) && (ys.map D.str).all dFlat then some ((ys.map D.str).any fun y => dEqV y (.str s)) else none) = _
  rw [e, List.any_map]
  rfl
theorem in_strsL (s : Str) (ys : List Str) : dIn (.str s) (.lst (ys.map D.str)) = some (ys.any fun y => y == s) := by
  have e : (ys.map D.str).all dFlat = true := by rw [List.all_map]; exact List.all_eq_true.mpr fun _ _ => rfl
  show (if dFlat (.str s) && (ys.map D.str).all dFlat then some ((ys.map D.str).any fun y => dEqV y (.str s)) else none) = _
  rw [e, List.any_map]
  rfl
theorem strD_all (s : Str) : (strD s) = s.cps.toList.map fun c => D.str ⟨#[c]⟩ := rfl
theorem bls_map {α : Type} (f : α → Bool) : ∀ xs : List α, blsD (xs.map fun x => D.bl (f x)) = some (xs.map f)
  | [] => rfl
  | x :: xs => by
    rw [List.map_cons, List.map_cons]
    show (blsD (xs.map fun x => D.bl (f x))).map (f x :: ·) = _
    rw [bls_map f xs]
    rfl
theorem in_lets (c : Nat) : aIn (.str ⟨#[c]⟩) (.str lets) = some (.bl (letB c)) := rfl
theorem notIn_lets (c : Nat) : aNotIn (.str ⟨#[c]⟩) (.str lets) = some (.bl (!letB c)) := rfl
/-- the program's look at a name -/
theorem is_name_p_eq (s : Sl) (d : D) (h : DSl s d) (ht : tame d = true) : F_is_name_p [s] = .ret (.fz (.bl (nmD d))) [s] := by
  unfold F_is_name_p m_is_name_p
  rw [ev_def]
  cases d with
  | fn _ => cases ht
  | dic _ _ => cases ht
  | str z =>
    have hz : z.length ≤ 1000000 := of_decide_eq_true ht
    by_cases h1 : 1 ≤ z.length
    · by_cases h2 : z.length ≤ 12
      · have hk : aIn (.str z) (.tup (k_KEPT_WORDS.map D.str)) = some (.bl (kept.any fun y => y == z)) := by unfold aIn; rw [show k_KEPT_WORDS = kept from rfl, in_strs]; rfl
        have hc : mComp [1] (mItC (mvar 0)) (gNm 1) (mpure true) (mbin aIn (mslot 1) (mval (mpure (.str "abcdefghijklmnopqrstuvwxyz")))) [s, .no] = .ok (.ow false ((strD z).filterMap fun d => match d with
            | .str ⟨⟨[c]⟩⟩ => some (.bl (letB c))
            | _ => none)) [s, .no] := by
          refine ev_comp _ (ds := strD z) (ρ1 := [s, .no]) ?_ ?_ ?_ ?_
          · simp [h.v]
          · simp
          · intro d hd
            obtain ⟨c, _, rfl⟩ := List.mem_map.mp hd
            refine ⟨[s, .fz (.str ⟨#[c]⟩)], [s, .fz (.str ⟨#[c]⟩)], true, by simp, rfl, rfl, [s, .fz (.str ⟨#[c]⟩)], ?_, by simp⟩
            have := in_lets c
            unfold lets at this
            simp [this]
          · unfold strD; rw [List.length_map]; exact Nat.le_trans (show z.cps.toList.length ≤ 12 from h2) (by decide)
        have hf : ((strD z).filterMap fun d => match d with
            | D.str ⟨⟨[c]⟩⟩ => some (D.bl (letB c))
            | _ => none) = z.cps.toList.map fun c => D.bl (letB c) := by
          unfold strD
          rw [List.filterMap_map]
          exact List.filterMap_eq_map (f := fun c => D.bl (letB c)) ▸ rfl
        rw [hf] at hc
        have ha : fAll [.lst (z.cps.toList.map fun c => D.bl (letB c))] = some (.bl (z.cps.toList.all letB)) := by
          show (blsD _).map _ = _
          rw [bls_map]
          simp [List.all_map]
        have h1' : (1 : Int) ≤ z.length := by omega
        have h2' : (z.length : Int) ≤ 12 := by omega
        cases hq : kept.any fun y => y == z with
        | true =>
          rw [hq] at hk
          simp [h.g, h.v, h.sd, h.o, small_str hz, h1', h2', hk, nmD, isNm, hq]
        | false =>
          rw [hq] at hk
          simp [h.g, h.v, h.sd, h.o, small_str hz, h1', h2', hk, nmD, isNm, hq, hc, ha, h1, h2]
      · have h1' : (1 : Int) ≤ z.length := by omega
        have h2' : ¬ (z.length : Int) ≤ 12 := by omega
        simp [h.g, h.v, h.sd, h.o, small_str hz, h1', h2', nmD, isNm, h2]
    · have h1' : ¬ (1 : Int) ≤ z.length := by omega
      simp [h.g, h.v, h.sd, h.o, small_str hz, h1', nmD, isNm, h1]
  | _ => simp [h.g, h.v, h.sd, h.o, nmD]
end HF
namespace HF
open PySem PySem.Spec PyProof.Rows L2 LamX ME He
theorem dEq_of_py {x y : D} {a b : PyData} (e1 : x.py = some a) (e2 : y.py = some b) (s1 : SeqAt.shaped a = true) (s2 : SeqAt.shaped b = true) : dEq x y = some (PyData.eqv a b) := by
  unfold dEq
  rw [e1, e2]
  simp only [s1, s2, Bool.and_self, if_true]
/-- texts of signs below 128 that are not letters: okS -/
theorem okS_sign {c : Nat} (h : c < 128) : okS ⟨#[c]⟩ := fun x hx => by
  have : x = c := by simpa using hx
  omega
/-- the law's look at a name; the text's signs are below 128 -/
def tameS : D → Prop
  | .str s => s.length ≤ 1000000 ∧ okS s
  | .fn _ => False
  | .dic _ _ => False
  | _ => True
theorem tameS.tame {d : D} (h : tameS d) : tame d = true := by
  cases d with
  | str s => exact decide_eq_true h.1
  | fn _ => exact h.elim
  | dic _ _ => exact h.elim
  | _ => rfl
theorem is_name_eq (s : Sl) (d : D) (h : DSl s d) (ht : tameS d) : F_is_name [s] = .ret (.fz (.bl (nmD d))) [s] := by
  unfold F_is_name m_is_name
  rw [ev_def]
  cases d with
  | fn _ => exact ht.elim
  | dic _ _ => exact ht.elim
  | str z =>
    have hz : z.length ≤ 1000000 := ht.1
    by_cases h1 : 1 ≤ z.length
    · by_cases h2 : z.length ≤ 12
      · have hk : aIn (.str z) (.lst [.str "none", .str "from", .str "of", .str "out", .str "with", .str "apart"]) = some (.bl (kept.any fun y => y == z)) := by
          unfold aIn
          rw [show [D.str "none", .str "from", .str "of", .str "out", .str "with", .str "apart"] = kept.map D.str from rfl, in_strsL]; rfl
        have hc : mComp [1] (mItC (mvar 0)) (gNm 1) (mtst (mbin aNotIn (mslot 1) (mval (mpure (.str "abcdefghijklmnopqrstuvwxyz"))))) (mvar 1) [s, .no] = .ok (.ow false ((strD z).filterMap fun d => match d with
            | .str ⟨⟨[c]⟩⟩ => if letB c = true then none else some (.str ⟨#[c]⟩)
            | _ => none)) [s, .no] := by
          refine ev_comp _ (ds := strD z) (ρ1 := [s, .no]) ?_ ?_ ?_ ?_
          · simp [h.v]
          · simp
          · intro d hd
            obtain ⟨c, _, rfl⟩ := List.mem_map.mp hd
            refine ⟨[s, .fz (.str ⟨#[c]⟩)], [s, .fz (.str ⟨#[c]⟩)], !letB c, by simp, ?_, ?_⟩
            · have := notIn_lets c
              unfold lets at this
              simp [this]
            · cases q : letB c with
              | true => simp [q]
              | false => simp [q]
          · unfold strD; rw [List.length_map]; exact Nat.le_trans (show z.cps.toList.length ≤ 12 from h2) (by decide)
        generalize hr : ((strD z).filterMap fun d => match d with
            | D.str ⟨⟨[c]⟩⟩ => if letB c = true then none else some (D.str ⟨#[c]⟩)
            | _ => none) = r at hc
        have hat : ∀ d ∈ r, Atom d := fun d hd => by
          rw [← hr] at hd
          obtain ⟨x, hx, e⟩ := List.mem_filterMap.mp hd
          obtain ⟨c, hc2, rfl⟩ := List.mem_map.mp hx
          have hlt := ht.2 c hc2
          cases q : letB c with
          | true => simp [q] at e
          | false =>
            simp [q] at e
            rw [← e]
            exact .str (okS_sign hlt)
        have hem : r.isEmpty = z.cps.toList.all letB := by
          rw [← hr]
          unfold strD
          generalize z.cps.toList = cs
          induction cs with
          | nil => rfl
          | cons c cs ih =>
            rw [List.map_cons, List.filterMap_cons, List.all_cons]
            cases q : letB c with
            | true => simp only [q, if_true, Bool.true_and]; exact ih
            | false => simp [q]
        have he : aEq (.lst r) (.lst []) = some (.bl (z.cps.toList.all letB)) := by rw [← hem]; exact aEq_of (dEq_nil hat)
        have h1' : (1 : Int) ≤ z.length := by omega
        have h2' : (z.length : Int) ≤ 12 := by omega
        cases hq : kept.any fun y => y == z with
        | true =>
          rw [hq] at hk
          simp [h.g, h.v, h.sd, h.o, small_str hz, h1', h2', hk, nmD, isNm, hq]
        | false =>
          rw [hq] at hk
          simp [h.g, h.v, h.sd, h.o, small_str hz, h1', h2', hk, nmD, isNm, hq, hc, he, h1, h2]
      · have h1' : (1 : Int) ≤ z.length := by omega
        have h2' : ¬ (z.length : Int) ≤ 12 := by omega
        simp [h.g, h.v, h.sd, h.o, small_str hz, h1', h2', nmD, isNm, h2]
    · have h1' : ¬ (1 : Int) ≤ z.length := by omega
      simp [h.g, h.v, h.sd, h.o, small_str hz, h1', nmD, isNm, h1]
  | _ => simp [h.g, h.v, h.sd, h.o, nmD]
/-! ### names told anew -/
def fb : List Str → Nat → List D → Option Nat
  | _, _, [] => none
  | acc, i, .str z :: ds => if isNm z && !(acc.any fun y => y == z) then fb (acc ++ [z]) (i + 1) ds else some i
  | _, i, _ :: _ => some i
theorem fb_none : ∀ {ds : List D} {acc : List Str} {i : Nat}, fb acc i ds = none → acc.Nodup → ∃ zs : List Str, ds = zs.map D.str ∧ (∀ z ∈ zs, isNm z = true) ∧ (acc ++ zs).Nodup
  | [], acc, i, _, h => ⟨[], rfl, (fun _ h => by cases h), by simpa using h⟩
  | d :: ds, acc, i, e, h => by
    cases d with
    | str z =>
      unfold fb at e
      by_cases q : (isNm z && !(acc.any fun y => y == z)) = true
      · rw [if_pos q] at e
        rw [Bool.and_eq_true] at q
        have nm : z ∉ acc := fun hz => by
          have : (acc.any fun y => y == z) = true := List.any_eq_true.mpr ⟨z, hz, by simp⟩
          rw [this] at q
          exact absurd q.2 (by decide)
        obtain ⟨zs, e1, e2, e3⟩ := fb_none e (by
          rw [List.nodup_append]
          exact ⟨h, by simp, fun a ha b hb => by rw [List.mem_singleton.mp hb]; exact fun q => nm (q ▸ ha)⟩)
        refine ⟨z :: zs, by rw [e1]; rfl, fun y hy => ?_, by simpa using e3⟩
        rcases List.mem_cons.mp hy with rfl | hy
        · exact q.1
        · exact e2 y hy
      · rw [if_neg q] at e; cases e
    | _ => unfold fb at e; cases e
def wrongN (d : D) : Option (Str × Int) := match d with
  | .tup ds => if 24 < ds.length then some ("TooMany", ds.length) else (fb [] 0 ds).map fun (j : Nat) => (("BadNames" : Str), (j : Int))
  | _ => some ("BadNames", -1)
theorem wrongN_tup (ds : List D) : wrongN (.tup ds) = if 24 < ds.length then some (("TooMany" : Str), (ds.length : Int)) else (fb [] 0 ds).map fun (j : Nat) => (("BadNames" : Str), (j : Int)) := rfl
def tameN : D → Prop
  | .tup ds => (∀ d ∈ ds, tameS d) ∧ ds.length ≤ 100000
  | d => tameS d
/-- a slot that may be stored -/
def Fr (x : Sl) : Prop := x = .no ∨ ∃ d, x = .fz d
theorem Fr.st {x s : Sl} {i : Nat} {ρ : ME.Env} (h : Fr x) : gSt (some x) i s ρ = some (ρ.set i s) := by
  rcases h with rfl | ⟨d, rfl⟩ <;> rfl
theorem Fr.wp {x : Sl} {i : Nat} {ρ : ME.Env} (h : Fr x) : gWp (some x) i ρ = some (ρ.set i .no) := by
  rcases h with rfl | ⟨d, rfl⟩ <;> rfl
theorem notName {d : D} (h : nmD d = true) : ∃ z, d = .str z ∧ isNm z = true := by
  cases d with
  | str z => exact ⟨z, rfl, h⟩
  | _ => cases h
abbrev b_made : MS := sSeq (sIf (mor (mnot (mtst (mfrz (mCall F_is_name_p (mgcons (mAg 3) mgnil))))) (mtst (mbin aIn (mslot 3) (mslot 1)))) (sRaise "BadNames" (mvar 2)) sNil) (sApp 1 (mvar 3))
theorem made_loop (s : Sl) : ∀ (ds : List D) (acc : List Str) (i : Nat) (x y : Sl), Fr x → Fr y → (∀ d ∈ ds, tameS d) → acc.length + ds.length ≤ 100000 →
    (fb acc i ds = none → ∃ x' y', sLoop (gTp (gCs (gNm 2) (gCs (gNm 3) gNl))) b_made (enumD i ds) [s, .ow false (acc.map D.str), x, y] = .nx [s, .ow false (acc.map D.str ++ ds), x', y']) ∧
    ∀ j : Nat, fb acc i ds = some j → ∃ a x' y', sLoop (gTp (gCs (gNm 2) (gCs (gNm 3) gNl))) b_made (enumD i ds) [s, .ow false (acc.map D.str), x, y] = .ex "BadNames" (.int j) [s, a, x', y']
  | [], acc, i, x, y, _, _, _, _ => ⟨fun _ => ⟨x, y, by simp [enumD]⟩, fun j e => by cases e⟩
  | d :: ds, acc, i, x, y, hx, hy, ht, hl => by
    have e0 : gTp (gCs (gNm 2) (gCs (gNm 3) gNl)) (.tup [.int (i : Nat), d]) [s, .ow false (acc.map D.str), x, y] = some [s, .ow false (acc.map D.str), .fz (.int (i : Nat)), .fz d] := by
      simp [hx.st, hy.st]
    have hd := is_name_p_eq (.fz d) d (.fz d) (ht d (.head _)).tame
    have hlt : (acc.map D.str).length < sizeLine := by
      rw [List.length_map]
      have : (100001 : Nat) ≤ sizeLine := by decide
      simp at hl
      omega
    have ed : enumD i (d :: ds) = .tup [.int (i : Nat), d] :: enumD (i + 1) ds := rfl
    rw [ed]
    have el := fun (r : List D) => ev_loop1 (gTp (gCs (gNm 2) (gCs (gNm 3) gNl))) b_made (.tup [.int (i : Nat), d]) r e0
    simp only [el]
    by_cases hn : nmD d = true
    · obtain ⟨z, rfl, hz⟩ := notName hn
      have hin : aIn (.str z) (.lst (acc.map D.str)) = some (.bl (acc.any fun y => y == z)) := by unfold aIn; rw [in_strsL]; rfl
      rw [hn] at hd
      cases hq : acc.any fun y => y == z with
      | true =>
        rw [hq] at hin
        refine ⟨fun e => ?_, fun j e => ?_⟩
        · unfold fb at e; rw [hq, hz] at e; cases e
        · unfold fb at e; rw [hq, hz] at e
          obtain rfl : i = j := by simpa using e
          exact ⟨_, _, _, by simp [b_made, hd, hin]; exact ⟨rfl, rfl, rfl⟩⟩
      | false =>
        rw [hq] at hin
        have hb : b_made [s, .ow false (acc.map D.str), .fz (.int (i : Nat)), .fz (.str z)] = .nx [s, .ow false ((acc ++ [z]).map D.str), .fz (.int (i : Nat)), .fz (.str z)] := by
          simp [b_made, hd, hin, hlt] <;> simpa using hlt
        rw [hb, loopK_nx]
        obtain ⟨r1, r2⟩ := made_loop s ds (acc ++ [z]) (i + 1) (.fz (.int (i : Nat))) (.fz (.str z)) (.inr ⟨_, rfl⟩) (.inr ⟨_, rfl⟩) (fun d hd => ht d (List.mem_cons_of_mem _ hd)) (by simp at hl ⊢; omega)
        have ef : fb acc i (.str z :: ds) = fb (acc ++ [z]) (i + 1) ds := by rw [fb, hq, hz]; rfl
        rw [ef]
        refine ⟨fun e => ?_, r2⟩
        obtain ⟨x, y, q⟩ := r1 e
        exact ⟨x, y, by rw [q]; simp⟩
    · have hn' : nmD d = false := by simpa using hn
      rw [hn'] at hd
      have ef : fb acc i (d :: ds) = some i := by
        cases d with
        | str z => rw [fb, show isNm z = false from hn']; rfl
        | _ => rfl
      rw [ef]
      refine ⟨(fun e => by cases e), fun j e => ?_⟩
      obtain rfl : i = j := by simpa using e
      exact ⟨_, _, _, by simp [b_made, hd]; exact ⟨rfl, rfl, rfl⟩⟩
theorem made_ok (s : Sl) (ds : List D) (h : DSl s (.tup ds)) (ht : tameN (.tup ds)) (e : wrongN (.tup ds) = none) : F_made_names [s] = .ret (.nt ds) [s] := by
  rw [wrongN_tup] at e
  by_cases hl : 24 < ds.length
  · rw [if_pos hl] at e; cases e
  · rw [if_neg hl] at e
    have e2 : fb [] 0 ds = none := by simpa using e
    obtain ⟨x, y, q⟩ := (made_loop s ds [] 0 .no .no (.inl rfl) (.inl rfl) ht.1 (by simpa using ht.2)).1 e2
    have q' : sLoop (gTp (gCs (gNm 2) (gCs (gNm 3) gNl))) b_made (enumD 0 ds) [s, .ow false [], .no, .no] = .nx [s, .ow false ds, x, y] := by simpa using q
    unfold b_made at q'
    have hl' : ¬ (24 : Int) < ds.length := by omega
    unfold F_made_names m_made_names
    rw [ev_def]
    simp [h.g, h.v, h.sd, h.o, hl', q']
theorem made_bad (s : Sl) (d : D) (h : DSl s d) (ht : tameN d) (c : Str) (i : Int) (e : wrongN d = some (c, i)) : F_made_names [s] = .ex c (.int i) [s] := by
  unfold F_made_names m_made_names
  rw [ev_def]
  cases d with
  | fn _ => exact ht.elim
  | dic _ _ => exact ht.elim
  | tup ds =>
    rw [wrongN_tup] at e
    by_cases hl : 24 < ds.length
    · rw [if_pos hl] at e
      obtain ⟨rfl, rfl⟩ := Prod.mk.inj (Option.some.inj e)
      have hl' : (24 : Int) < ds.length := by omega
      simp [h.g, h.v, h.sd, h.o, hl']
    · rw [if_neg hl] at e
      obtain ⟨j, e1, e2⟩ := Option.map_eq_some_iff.mp e
      obtain ⟨rfl, rfl⟩ := Prod.mk.inj e2
      obtain ⟨a, x, y, q⟩ := (made_loop s ds [] 0 .no .no (.inl rfl) (.inl rfl) ht.1 (by simpa using ht.2)).2 j e1
      have q' : sLoop (gTp (gCs (gNm 2) (gCs (gNm 3) gNl))) b_made (enumD 0 ds) [s, .ow false [], .no, .no] = .ex "BadNames" (.int j) [s, a, x, y] := by simpa using q
      unfold b_made at q'
      have hl' : ¬ (24 : Int) < ds.length := by omega
      simp [h.g, h.v, h.sd, h.o, hl', q']
  | _ =>
    obtain ⟨rfl, rfl⟩ := Prod.mk.inj (Option.some.inj e)
    simp [h.g, h.v, h.sd, h.o]
/-- what the law owes of names -/
def owedN (d : D) : D := match wrongN d with
  | none => .non
  | some (c, i) => .tup [.str c, .int i]
theorem cut_take (ds : List D) (i : Nat) : ME.cutD ds none (some (i : Int)) = ds.take i := by
  unfold ME.cutD
  rw [HT.sIx_none, HT.sIx_nat]
  simp
theorem sm_of {j : Int} (h0 : 0 ≤ j) (h : j ≤ 1000000) : Sm j := ⟨Int.le_trans (by decide) h0, Int.lt_of_le_of_lt h (by decide)⟩
abbrev b_wrong : MS := sIf (mor (mnot (mtst (mfrz (mCall F_is_name (mgcons (mdat (mbin dIx (mslot 0) (mslot 1))) mgnil))))) (mtst (mbin aIn (mval (mbin dIx (mslot 0) (mslot 1))) (mval (mfrz (mslice (mslot 0) (mpure none) (mpart (mvar 1)))))))) (sRet (mfz (mtup (mlcons (mpure (.str "BadNames")) (mlcons (mvar 1) mlnil))))) sNil
theorem wrong_loop (s : Sl) (all : List D) (h : DSl s (.tup all)) : ∀ (ds : List D) (acc : List Str) (x : Sl), Fr x → (∀ d ∈ ds, tameS d) → all = acc.map D.str ++ ds →
    (fb acc acc.length ds = none → ∃ x', sLoop (gNm 1) b_wrong ((List.range' acc.length ds.length).map fun k => D.int (0 + (k : Nat) * 1)) [s, x] = .nx [s, x']) ∧
    ∀ j : Nat, fb acc acc.length ds = some j → ∃ x', sLoop (gNm 1) b_wrong ((List.range' acc.length ds.length).map fun k => D.int (0 + (k : Nat) * 1)) [s, x] = .rt (.fz (.tup [.str "BadNames", .int j])) [s, x']
  | [], acc, x, _, _, _ => ⟨(fun _ => ⟨x, by simp⟩), fun j e => by cases e⟩
  | d :: ds, acc, x, hx, ht, ea => by
    have e0 : gNm 1 (.int (0 + ((acc.length : Nat) : Int) * 1)) [s, x] = some [s, .fz (.int (acc.length : Nat))] := by
      simp [hx.st]
    have el := fun (r : List D) => ev_loop1 (gNm 1) b_wrong (.int (0 + ((acc.length : Nat) : Int) * 1)) r e0
    have hlen : acc.length < all.length := by rw [ea]; simp
    have hget : atI all (acc.length : Int) = some d := by
      rw [atI_nat (by omega) (by omega), ea]
      simp
    have hcut : ME.cutD all none (some (acc.length : Int)) = acc.map D.str := by
      rw [cut_take, ea, List.take_left' (by simp)]
    have hd := is_name_eq (.fz d) d (.fz d) (ht d (.head _))
    rw [List.length_cons, List.range'_succ, List.map_cons]
    simp only [el]
    by_cases hn : nmD d = true
    · obtain ⟨z, rfl, hz⟩ := notName hn
      have hin : aIn (.str z) (.tup (acc.map D.str)) = some (.bl (acc.any fun y => y == z)) := by unfold aIn; rw [in_strs]; rfl
      rw [hn] at hd
      cases hq : acc.any fun y => y == z with
      | true =>
        rw [hq] at hin
        refine ⟨fun e => ?_, fun j e => ?_⟩
        · unfold fb at e; rw [hq, hz] at e; cases e
        · unfold fb at e; rw [hq, hz] at e
          obtain rfl : acc.length = j := by simpa using e
          exact ⟨_, by simp [b_wrong, h.g, h.sd, hget, hd, aSl, hcut, hin]; rfl⟩
      | false =>
        rw [hq] at hin
        have hb : b_wrong [s, .fz (.int (acc.length : Nat))] = .nx [s, .fz (.int (acc.length : Nat))] := by
          simp [b_wrong, h.g, h.sd, hget, hd, aSl, hcut, hin]
        rw [hb, loopK_nx]
        obtain ⟨r1, r2⟩ := wrong_loop s all h ds (acc ++ [z]) (.fz (.int (acc.length : Nat))) (.inr ⟨_, rfl⟩) (fun d hd => ht d (List.mem_cons_of_mem _ hd)) (by rw [ea]; simp)
        have ef : fb acc acc.length (.str z :: ds) = fb (acc ++ [z]) (acc.length + 1) ds := by rw [fb, hq, hz]; rfl
        rw [ef]
        have le : (acc ++ [z]).length = acc.length + 1 := by simp
        rw [le] at r1 r2
        exact ⟨r1, r2⟩
    · have hn' : nmD d = false := by simpa using hn
      rw [hn'] at hd
      have ef : fb acc acc.length (d :: ds) = some acc.length := by
        cases d with
        | str z => rw [fb, show isNm z = false from hn']; rfl
        | _ => rfl
      rw [ef]
      refine ⟨(fun e => by cases e), fun j e => ?_⟩
      obtain rfl : acc.length = j := by simpa using e
      exact ⟨_, by simp [b_wrong, h.g, h.sd, hget, hd]; rfl⟩
end HF
namespace HF
open PySem PySem.Spec PyProof.Rows L2 LamX ME He
theorem rng0 (n : Nat) : (List.range' ([] : List Str).length n).map (fun k => D.int (0 + (k : Nat) * 1)) = rngD 0 1 n := by
  unfold rngD
  rw [List.range_eq_range']
  simp
theorem smN {n : Nat} (h : n ≤ 1000000) : Sm (n : Int) := sm_of (Int.natCast_nonneg n) (by omega)
theorem wrong_names_eq (s : Sl) (d : D) (h : DSl s d) (ht : tameN d) : F_wrong_names [s] = .ret (.fz (owedN d)) [s] := by
  unfold F_wrong_names m_wrong_names
  rw [ev_def]
  unfold owedN
  cases d with
  | fn _ => exact ht.elim
  | dic _ _ => exact ht.elim
  | tup ds =>
    rw [wrongN_tup]
    by_cases hl : 24 < ds.length
    · rw [if_pos hl]
      have hl' : (24 : Int) < ds.length := by omega
      simp [h.g, h.v, h.sd, h.o, hl']
    · rw [if_neg hl]
      have hl' : ¬ (24 : Int) < ds.length := by omega
      have hsm : Sm (ds.length : Int) := smN (by omega)
      obtain ⟨q1, q2⟩ := wrong_loop s ds h ds [] .no (.inl rfl) ht.1 rfl
      rw [rng0] at q1 q2
      unfold b_wrong at q1 q2
      cases hf : fb [] 0 ds with
      | none =>
        obtain ⟨x', q⟩ := q1 hf
        simp [h.g, h.v, h.sd, h.o, hl', asR1_nat hsm, q]
      | some j =>
        obtain ⟨x', q⟩ := q2 j hf
        simp [h.g, h.v, h.sd, h.o, hl', asR1_nat hsm, q]
  | _ => simp [h.g, h.v, h.sd, h.o, wrongN]
/-! ### loops by an invariant -/
theorem loop_pass {g : D → ME.Env → Option ME.Env} {body : MS} (I : ME.Env → Prop) : ∀ {ds : List D} {ρ : ME.Env}, (∀ d ∈ ds, ∀ ρ, I ρ → ∃ ρ1 ρ2, g d ρ = some ρ1 ∧ body ρ1 = .nx ρ2 ∧ I ρ2) → I ρ → ∃ ρ', sLoop g body ds ρ = .nx ρ' ∧ I ρ'
  | [], ρ, _, i => ⟨ρ, rfl, i⟩
  | d :: ds, ρ, h, i => by
    obtain ⟨ρ1, ρ2, e1, e2, i2⟩ := h d (.head _) ρ i
    obtain ⟨ρ', e3, i3⟩ := loop_pass (g := g) (body := body) I (fun d hd => h d (List.mem_cons_of_mem _ hd)) i2
    exact ⟨ρ', by rw [ev_loop1 _ _ _ _ e1, e2, loopK_nx, e3], i3⟩
theorem cLoop_pass {g : D → ME.Env → Option ME.Env} {fe : M D} {own : List Nat} (I : ME.Env → Prop) (Py : D → Prop) : ∀ {ds as : List D} {ρ : ME.Env}, (∀ d ∈ ds, ∀ ρ, I ρ → ∃ ρ1 y ρ3 ρ4, g d ρ = some ρ1 ∧ fe ρ1 = .ok y ρ3 ∧ Py y ∧ wipeR own ρ3 = some ρ4 ∧ I ρ4) → I ρ → as.length + ds.length ≤ sizeLine →
    ∃ ys ρ', cLoop own (cTurn g (mpure true) fe) ds as ρ = .ok (as ++ ys) ρ' ∧ ys.length = ds.length ∧ (∀ y ∈ ys, Py y) ∧ I ρ'
  | [], as, ρ, _, i, _ => ⟨[], ρ, by simp [cLoop], rfl, (fun _ h => by cases h), i⟩
  | d :: ds, as, ρ, h, i, hz => by
    obtain ⟨ρ1, y, ρ3, ρ4, e1, e2, py, e3, i2⟩ := h d (.head _) ρ i
    have hlt : as.length < sizeLine := by simp at hz; omega
    have et : cTurn g (mpure true) fe d as ρ = .ok (as ++ [y]) ρ3 := by simp [cTurn, e1, e2, hlt]
    obtain ⟨ys, ρ', f1, f2, f3, f4⟩ := cLoop_pass (g := g) (fe := fe) (own := own) I Py (fun d hd => h d (List.mem_cons_of_mem _ hd)) i2 (as := as ++ [y]) (by simp at hz ⊢; omega)
    refine ⟨y :: ys, ρ', ?_, by simp [f2], fun z hz => ?_, f4⟩
    · unfold cLoop
      simp only [et, e3]
      rw [f1]
      simp
    · rcases List.mem_cons.mp hz with rfl | hz
      · exact py
      · exact f3 z hz
theorem comp_pass {own : List Nat} {it : M (List D)} {g : D → ME.Env → Option ME.Env} {fe : M D} {ds : List D} {ρ ρ1 ρ2 : ME.Env} (I : ME.Env → Prop) (Py : D → Prop) (e1 : it ρ = .ok ds ρ1) (e2 : wipeR own ρ1 = some ρ2) (i : I ρ2)
    (h : ∀ d ∈ ds, ∀ ρ, I ρ → ∃ ρ1 y ρ3 ρ4, g d ρ = some ρ1 ∧ fe ρ1 = .ok y ρ3 ∧ Py y ∧ wipeR own ρ3 = some ρ4 ∧ I ρ4) (hz : ds.length ≤ sizeLine) :
    ∃ ys ρ', mComp own it g (mpure true) fe ρ = .ok (.ow false ys) ρ' ∧ ys.length = ds.length ∧ (∀ y ∈ ys, Py y) ∧ I ρ' := by
  obtain ⟨ys, ρ', f1, f2, f3, f4⟩ := cLoop_pass (own := own) (as := []) I Py h i (by simpa using hz)
  refine ⟨ys, ρ', ?_, f2, f3, f4⟩
  unfold mComp
  simp only [ev_bind, e1, bnd_ok, e2, f1]
  simp
theorem mem_rng {n : Nat} {d : D} (h : d ∈ rngD 0 1 n) : ∃ k : Nat, k < n ∧ d = .int (k : Int) := by
  unfold rngD at h
  obtain ⟨k, hk, rfl⟩ := List.mem_map.mp h
  exact ⟨k, List.mem_range.mp hk, by simp⟩
theorem rng_len {n : Nat} : (rngD 0 1 n).length = n := by unfold rngD; simp
theorem atI_k {α : Type} {xs : List α} {k : Nat} (h : k < xs.length) : atI xs (k : Int) = some xs[k] := by
  rw [atI_nat (by omega) (by omega)]
  simp [h]
/-! ### the same -/
def dep : Nat → D → Prop
  | 0, _ => False
  | _ + 1, .non => True
  | _ + 1, .bl _ => True
  | _ + 1, .int _ => True
  | _ + 1, .str s => okS s
  | n + 1, .tup ds => (∀ x ∈ ds, dep n x) ∧ ds.length ≤ 100000
  | n + 1, .lst ds => (∀ x ∈ ds, dep n x) ∧ ds.length ≤ 100000
  | _ + 1, _ => False
@[simp] theorem aIsB_bl (a b : Bool) : aIsB (.bl a) (.bl b) = some (.bl (decide (a = b))) := Eq.trans rfl rfl
abbrev b_same (S : FM) : MS := sIf (mnot (mtst (mfrz (mCall S (mgcons (mdat (mbin dIx (mslot 0) (mslot 2))) (mgcons (mdat (mbin dIx (mslot 1) (mslot 2))) mgnil)))))) (sRet (mfz (mpure (.bl false)))) sNil
theorem same_refl : ∀ (n : Nat) (d : D), dep n d → F_same n [.fz d, .fz d] = .ret (.fz (.bl true)) [.fz d, .fz d]
  | 0, d, h => h.elim
  | n + 1, d, h => by
    show fnOf 3 (m_same (F_same n)) _ = _
    unfold m_same
    rw [ev_def]
    have seq : ∀ (ds : List D), (∀ x ∈ ds, dep n x) → ds.length ≤ 100000 → ∀ (e : D), (e = .tup ds ∨ e = .lst ds) → ∃ x', sLoop (gNm 2) (b_same (F_same n)) (rngD 0 1 ds.length) [.fz e, .fz e, .no] = .nx [.fz e, .fz e, x'] := by
      intro ds hd hl e he
      obtain ⟨ρ', e1, x', fx, rfl⟩ := loop_pass (g := gNm 2) (body := b_same (F_same n)) (fun ρ => ∃ x, Fr x ∧ ρ = [.fz e, .fz e, x]) (ds := rngD 0 1 ds.length) (ρ := [.fz e, .fz e, .no]) (fun d hdm ρ ⟨x, fx, er⟩ => by
        obtain ⟨k, hk, rfl⟩ := mem_rng hdm
        subst er
        have q := atI_k hk
        have qs := same_refl n ds[k] (hd _ (List.getElem_mem _))
        refine ⟨[.fz e, .fz e, .fz (.int k)], [.fz e, .fz e, .fz (.int k)], by simp [fx.st], ?_, _, .inr ⟨_, rfl⟩, rfl⟩
        rcases he with rfl | rfl <;> simp [b_same, q, qs]) ⟨.no, .inl rfl, rfl⟩
      exact ⟨x', e1⟩
    cases d with
    | non => simp
    | bl b => cases b <;> simp
    | int i => simp [is_whole_eq (.int i) "int" rfl]
    | str s =>
      have e := aEq_of (dEq_str h h)
      simp [e]
    | tup ds =>
      obtain ⟨x', q⟩ := seq ds h.1 h.2 _ (.inl rfl)
      unfold b_same at q
      simp [asR1_nat (smN (Nat.le_trans h.2 (by decide))), q]
    | lst ds =>
      obtain ⟨x', q⟩ := seq ds h.1 h.2 _ (.inr rfl)
      unfold b_same at q
      simp [asR1_nat (smN (Nat.le_trans h.2 (by decide))), q]
    | fn _ => exact h.elim
    | dic _ _ => exact h.elim
theorem heard_ok1 {names : List Str} {f : M D} {ρ ρ' : ME.Env} {d : D} (e : f ρ = .ok d ρ') : mHeard names f ρ = .ok (.tup [.str "told", d]) ρ' := by
  unfold mHeard; rw [e]
theorem heard_ex {names : List Str} {f : M D} {ρ ρ' : ME.Env} {c : Str} {w : D} (e : f ρ = .ex c w ρ') (h : c ∈ names) : mHeard names f ρ = .ok (.tup [.str c, w]) ρ' := by
  unfold mHeard; rw [e]; exact if_pos h
theorem r_names : (("BadNames" : Str) ∈ raisedN) ∧ (("BadRow" : Str) ∈ raisedN) ∧ (("BadText" : Str) ∈ raisedN) ∧ (("TooMany" : Str) ∈ raisedN) ∧ (("WrongLine" : Str) ∈ raisedN) := by decide +kernel
theorem okS_told : okS "told" ∧ okS "BadNames" ∧ okS "BadRow" ∧ okS "BadText" ∧ okS "TooMany" ∧ okS "WrongLine" := by
  unfold okS; decide +kernel
theorem letB_lt {c : Nat} (h : letB c = true) : c < 128 := by
  have e : (lets.cps.toList.all fun c => decide (c < 128)) = true := by decide +kernel
  exact of_decide_eq_true (List.all_eq_true.mp e c (of_decide_eq_true h))
theorem isNm_ok {s : Str} (h : isNm s = true) : okS s ∧ s.length ≤ 12 ∧ 1 ≤ s.length ∧ s.cps.toList.all letB = true := by
  unfold isNm at h
  simp only [Bool.and_eq_true, decide_eq_true_eq] at h
  exact ⟨fun c hc => letB_lt (List.all_eq_true.mp h.2.2.2 c hc), h.2.1, h.1, h.2.2.2⟩
theorem wrongN_cls {d : D} {c : Str} {i : Int} (e : wrongN d = some (c, i)) : c = "BadNames" ∨ c = "TooMany" := by
  cases d with
  | tup ds =>
    rw [wrongN_tup] at e
    split at e
    · exact .inr (congrArg Prod.fst (Option.some.inj e)).symm
    · obtain ⟨j, e1, e2⟩ := Option.map_eq_some_iff.mp e
      exact .inl (congrArg Prod.fst e2).symm
  | _ => exact .inl (congrArg Prod.fst (Option.some.inj e)).symm
theorem wrongN_none {d : D} (e : wrongN d = none) : ∃ zs : List Str, d = .tup (zs.map D.str) ∧ (∀ z ∈ zs, isNm z = true) ∧ zs.Nodup ∧ zs.length ≤ 24 := by
  cases d with
  | tup ds =>
    rw [wrongN_tup] at e
    split at e
    · cases e
    · rename_i hl
      have e2 : fb [] 0 ds = none := by simpa using e
      obtain ⟨zs, e3, e4, e5⟩ := fb_none e2 List.nodup_nil
      exact ⟨zs, by rw [e3], e4, by simpa using e5, by rw [e3, List.length_map] at hl; omega⟩
  | _ => cases e
/-- the law's test of names holds -/
theorem names_right_eq (s : Sl) (d : D) (h : DSl s d) (ht : tameN d) : F_names_right [s] = .ret (.fz (.bl true)) [s] := by
  unfold F_names_right m_names_right
  rw [ev_def]
  have hw := wrong_names_eq s d h ht
  cases e : wrongN d with
  | none =>
    obtain ⟨zs, rfl, hz, nd, hl⟩ := wrongN_none e
    have hm := made_ok s (zs.map D.str) h ht e
    have ho : owedN (.tup (zs.map D.str)) = .non := by unfold owedN; rw [e]
    rw [ho] at hw
    have hs : F_same 5 [.fz (.tup [.str "told", .tup (zs.map D.str)]), .fz (.tup [.str "told", .tup (zs.map D.str)])] = .ret (.fz (.bl true)) [.fz (.tup [.str "told", .tup (zs.map D.str)]), .fz (.tup [.str "told", .tup (zs.map D.str)])] := by
      refine same_refl 5 _ ⟨fun x hx => ?_, by simp⟩
      rcases List.mem_cons.mp hx with rfl | hx
      · exact okS_told.1
      · rw [List.mem_singleton.mp hx]
        refine ⟨fun y hy => ?_, by rw [List.length_map]; omega⟩
        obtain ⟨z, hzm, rfl⟩ := List.mem_map.mp hy
        exact (isNm_ok (hz z hzm)).1
    have hh : mHeard raisedN (mfrz (mCall F_made_names (mgcons (mAg 0) mgnil))) [s, .fz .non] = .ok (.tup [.str "told", .tup (zs.map D.str)]) [s, .fz .non] := heard_ok1 (by simp [h.a, hm])
    simp [h.a, h.v, h.o, hw, hh, hs]
  | some p =>
    obtain ⟨c, i⟩ := p
    have hm := made_bad s d h ht c i e
    have ho : owedN d = .tup [.str c, .int i] := by unfold owedN; rw [e]
    rw [ho] at hw
    have hc : c ∈ raisedN ∧ okS c := by
      rcases wrongN_cls e with rfl | rfl
      · exact ⟨r_names.1, okS_told.2.1⟩
      · exact ⟨r_names.2.2.2.1, okS_told.2.2.2.2.1⟩
    have hs : F_same 5 [.fz (.tup [.str c, .int i]), .fz (.tup [.str c, .int i])] = .ret (.fz (.bl true)) [.fz (.tup [.str c, .int i]), .fz (.tup [.str c, .int i])] := by
      refine same_refl 5 _ ⟨fun x hx => ?_, by simp⟩
      rcases List.mem_cons.mp hx with rfl | hx
      · exact hc.2
      · rw [List.mem_singleton.mp hx]; exact trivial
    have hh : mHeard raisedN (mfrz (mCall F_made_names (mgcons (mAg 0) mgnil))) [s, .fz (.tup [.str c, .int i])] = .ok (.tup [.str c, .int i]) [s, .fz (.tup [.str c, .int i])] := heard_ex (by simp [h.a, hm]) hc.1
    simp [h.a, h.v, h.o, hw, hh, hs]
end HF
namespace HF
open PySem PySem.Spec PyProof.Rows L2 LamX ME He
def wholeB (lo hi : Int) : D → Bool
  | .int i => decide (lo ≤ i) && decide (i ≤ hi)
  | _ => false
/-- data of a kind that isinstance tells -/
def kind (d : D) : Prop := ∃ t, tyN d = some t
theorem whole_eq (d : D) (lo hi : Int) (h : kind d) : F_whole [.fz d, .fz (.int lo), .fz (.int hi)] = .ret (.fz (.bl (wholeB lo hi d))) [.fz d, .fz (.int lo), .fz (.int hi)] := by
  obtain ⟨t, ht⟩ := h
  unfold F_whole m_whole
  rw [ev_def]
  cases d with
  | int i =>
    by_cases h1 : lo ≤ i
    · simp [h1, wholeB]
    · simp [h1, wholeB]
  | fn _ => cases ht
  | dic _ _ => cases ht
  | _ => simp [wholeB]
def fr (n : Int) : Nat → List D → Option Nat
  | _, [] => none
  | i, d :: ds => if wholeB 0 (n - 1) d = true then fr n (i + 1) ds else some i
theorem fr_none {n : Nat} : ∀ {ds : List D} {i : Nat}, fr n i ds = none → ∃ js : List Nat, ds = js.map (fun j => D.int (j : Nat)) ∧ ∀ j ∈ js, j < n
  | [], i, _ => ⟨[], rfl, fun _ h => by cases h⟩
  | d :: ds, i, e => by
    unfold fr at e
    split at e
    · rename_i hw
      obtain ⟨js, e1, e2⟩ := fr_none e
      cases d with
      | int k =>
        unfold wholeB at hw
        simp only [Bool.and_eq_true, decide_eq_true_eq] at hw
        refine ⟨k.toNat :: js, ?_, fun j hj => ?_⟩
        · rw [List.map_cons, ← e1]; congr 2; omega
        · rcases List.mem_cons.mp hj with rfl | hj
          · omega
          · exact e2 j hj
      | _ => cases hw
    · cases e
theorem fr_app_ok {n : Nat} (js : List Nat) (hj : ∀ j ∈ js, j < n) (ds : List D) : ∀ i : Nat, fr n i (js.map (fun j => D.int (j : Nat)) ++ ds) = fr n (i + js.length) ds := by
  induction js with
  | nil => intro i; rfl
  | cons j js ih =>
    intro i
    have : wholeB 0 ((n : Int) - 1) (.int (j : Nat)) = true := by
      have := hj j (.head _)
      simp [wholeB]; omega
    rw [List.map_cons, List.cons_append, fr, if_pos this, ih (fun j h => hj j (List.mem_cons_of_mem _ h)), List.length_cons]
    congr 1; omega
def wrongR (n : Nat) (d : D) : Option (Str × Int) := match d with
  | .tup ds => if 300 < ds.length then some (("TooMany" : Str), (ds.length : Int)) else (fr n 0 ds).map fun (j : Nat) => (("BadRow" : Str), (j : Int))
  | _ => some (("BadRow" : Str), -1)
theorem wrongR_tup (n : Nat) (ds : List D) : wrongR n (.tup ds) = if 300 < ds.length then some (("TooMany" : Str), (ds.length : Int)) else (fr n 0 ds).map fun (j : Nat) => (("BadRow" : Str), (j : Int)) := rfl
def kindR : D → Prop
  | .tup ds => (∀ d ∈ ds, kind d) ∧ ds.length ≤ 100000
  | d => kind d
theorem kindR.kind {d : D} (h : kindR d) : kind d := by
  cases d with
  | tup ds => exact ⟨_, rfl⟩
  | fn _ => exact h
  | dic _ _ => exact h
  | _ => exact ⟨_, rfl⟩
abbrev b_row : MS := sIf (mnot (mtst (mfrz (mCall F_whole (mgcons (mAg 4) (mgcons (mdat (mpure (.int 0))) (mgcons (mdat (mbin aSub (mval (mfn fLen (mcons (mslot 2) mnil))) (mval (mpure (.int 1))))) mgnil))))))) (sRaise "BadRow" (mvar 3)) sNil
theorem row_loop (s1 s2 : Sl) (ns : List D) : ∀ (ds : List D) (i : Nat) (x y : Sl), Fr x → Fr y → (∀ d ∈ ds, kind d) →
    (fr ns.length i ds = none → ∃ x' y', Fr x' ∧ Fr y' ∧ sLoop (gTp (gCs (gNm 3) (gCs (gNm 4) gNl))) b_row (enumD i ds) [s1, s2, .nt ns, x, y] = .nx [s1, s2, .nt ns, x', y']) ∧
    ∀ j : Nat, fr ns.length i ds = some j → ∃ x' y', sLoop (gTp (gCs (gNm 3) (gCs (gNm 4) gNl))) b_row (enumD i ds) [s1, s2, .nt ns, x, y] = .ex "BadRow" (.int j) [s1, s2, .nt ns, x', y']
  | [], i, x, y, hx, hy, _ => ⟨(fun _ => ⟨x, y, hx, hy, by simp [enumD]⟩), fun j e => by cases e⟩
  | d :: ds, i, x, y, hx, hy, hk => by
    have e0 : gTp (gCs (gNm 3) (gCs (gNm 4) gNl)) (.tup [.int (i : Nat), d]) [s1, s2, .nt ns, x, y] = some [s1, s2, .nt ns, .fz (.int (i : Nat)), .fz d] := by
      simp [hx.st, hy.st]
    have ed : enumD i (d :: ds) = .tup [.int (i : Nat), d] :: enumD (i + 1) ds := rfl
    rw [ed]
    have el := fun (r : List D) => ev_loop1 (gTp (gCs (gNm 3) (gCs (gNm 4) gNl))) b_row (.tup [.int (i : Nat), d]) r e0
    simp only [el]
    have hw := whole_eq d 0 ((ns.length : Int) - 1) (hk d (.head _))
    unfold fr
    cases q : wholeB 0 ((ns.length : Int) - 1) d with
    | true =>
      rw [q] at hw
      have hb : b_row [s1, s2, .nt ns, .fz (.int (i : Nat)), .fz d] = .nx [s1, s2, .nt ns, .fz (.int (i : Nat)), .fz d] := by simp [b_row, hw]
      rw [hb, loopK_nx, if_pos rfl]
      exact row_loop s1 s2 ns ds (i + 1) _ _ (.inr ⟨_, rfl⟩) (.inr ⟨_, rfl⟩) fun d hd => hk d (List.mem_cons_of_mem _ hd)
    | false =>
      rw [q] at hw
      have hb : b_row [s1, s2, .nt ns, .fz (.int (i : Nat)), .fz d] = .ex "BadRow" (.int (i : Nat)) [s1, s2, .nt ns, .fz (.int (i : Nat)), .fz d] := by simp [b_row, hw]
      rw [hb, loopK_ex, if_neg (by decide)]
      refine ⟨(fun e => by cases e), fun j e => ?_⟩
      obtain rfl := Option.some.inj e
      exact ⟨_, _, rfl⟩
/-- the row's words -/
def wordsAt (zs : List Str) (js : List Nat) : List Str := js.map fun j => zs.getD j ""
theorem names_lt {zs : List Str} {js : List Nat} (hz : ∀ z ∈ zs, isNm z = true) (hj : ∀ j ∈ js, j < zs.length) : ∀ w ∈ wordsAt zs js, isNm w = true := fun w hw => by
  obtain ⟨j, h1, rfl⟩ := List.mem_map.mp hw
  have := hj j h1
  rw [List.getD_eq_getElem?_getD, List.getElem?_eq_getElem this]
  exact hz _ (List.getElem_mem _)
theorem sum_le {ws : List Str} {b : Nat} (h : ∀ w ∈ ws, w.length ≤ b) : (ws.map (·.length)).sum ≤ ws.length * b := by
  induction ws with
  | nil => simp
  | cons w ws ih =>
    rw [List.map_cons, List.sum_cons, List.length_cons, Nat.succ_mul]
    have := h w (.head _)
    have := ih fun w hw => h w (List.mem_cons_of_mem _ hw)
    omega
theorem strs_map (ws : List Str) : strsD (ws.map D.str) = some ws := by
  induction ws with
  | nil => rfl
  | cons w ws ih => rw [List.map_cons]; show (strsD (ws.map D.str)).map (w :: ·) = _; rw [ih]; rfl
theorem join_ok {sep : Str} {ws : List Str} (h : (ws.map (·.length)).sum + ws.length * sep.length ≤ 16777216) : oJoin sep (.lst (ws.map D.str)) = some (.fz (.str (Txt.join sep ws))) := by
  unfold oJoin itemsD
  rw [Option.bind_some, strs_map, Option.bind_some, if_pos h]
theorem row_comp {zs : List Str} {js : List Nat} (hj : ∀ j ∈ js, j < zs.length) : (js.map (fun j => D.int (j : Nat))).filterMap (fun d => match d with
    | .int i => atI (zs.map D.str) i
    | _ => none) = (wordsAt zs js).map D.str := by
  induction js with
  | nil => rfl
  | cons j js ih =>
    have h1 := hj j (.head _)
    have e : atI (zs.map D.str) (j : Int) = some (.str (zs.getD j "")) := by
      rw [atI_k (by rw [List.length_map]; exact h1), List.getElem_map, List.getD_eq_getElem?_getD, List.getElem?_eq_getElem h1]
      rfl
    rw [List.map_cons, List.filterMap_cons]
    simp only [e]
    rw [ih fun j h => hj j (List.mem_cons_of_mem _ h)]
    rfl
theorem named_text_eq (zs : List Str) (js : List Nat) (s1 s2 : Sl) (h1 : DSl s1 (.tup (zs.map D.str))) (h2 : DSl s2 (.tup (js.map fun j => D.int (j : Nat)))) (hz : ∀ z ∈ zs, isNm z = true) (hj : ∀ j ∈ js, j < zs.length) (hl : js.length ≤ 300) :
    F_named_text [s1, s2] = .ret (.fz (.str (Txt.join " " (wordsAt zs js)))) [s1, s2] := by
  unfold F_named_text m_named_text
  rw [ev_def]
  have hc : mComp [2] (mItT (mvar 1)) (gNm 2) (mpure true) (mbin dIx (mslot 0) (mslot 2)) [s1, s2, .no] = .ok (.ow false ((wordsAt zs js).map D.str)) [s1, s2, .no] := by
    rw [← row_comp hj]
    refine ev_comp _ (ds := js.map fun j => D.int (j : Nat)) (ρ1 := [s1, s2, .no]) (by simp [h2.v]) (by simp) (fun d hd => ?_) (by rw [List.length_map]; exact Nat.le_trans hl (by decide))
    obtain ⟨j, hj1, rfl⟩ := List.mem_map.mp hd
    have e : atI (zs.map D.str) (j : Int) = some (.str (zs.getD j "")) := by
      rw [atI_k (by rw [List.length_map]; exact hj j hj1), List.getElem_map, List.getD_eq_getElem?_getD, List.getElem?_eq_getElem (hj j hj1)]
      rfl
    refine ⟨[s1, s2, .fz (.int (j : Nat))], [s1, s2, .fz (.int (j : Nat))], true, by simp, rfl, ?_⟩
    simp only [e]
    exact ⟨trivial, _, by simp [h1.g, h1.sd, e]; rfl, by simp⟩
  have hb : ((wordsAt zs js).map (·.length)).sum + (wordsAt zs js).length * (" " : Str).length ≤ 16777216 := by
    have := sum_le (b := 12) fun w hw => (isNm_ok (names_lt hz hj w hw)).2.1
    have l : (wordsAt zs js).length = js.length := by unfold wordsAt; rw [List.length_map]
    have e1 : (" " : Str).length = 1 := by decide
    rw [e1, Nat.mul_one]
    omega
  simp [hc, join_ok hb, h1.o, h2.o]
theorem js_kind (js : List Nat) : kindR (.tup (js.map fun j => D.int (j : Nat))) ∨ 100000 < js.length := by
  by_cases h : 100000 < js.length
  · exact .inr h
  · refine .inl ⟨fun d hd => ?_, by rw [List.length_map]; omega⟩
    obtain ⟨j, _, rfl⟩ := List.mem_map.mp hd
    exact ⟨_, rfl⟩
theorem named_row_badN (s1 s2 : Sl) (d1 d2 : D) (h1 : DSl s1 d1) (h2 : DSl s2 d2) (ht : tameN d1) (c : Str) (i : Int) (e : wrongN d1 = some (c, i)) : F_named_row [s1, s2] = .ex c (.int i) [s1, s2] := by
  have hm := made_bad s1 d1 h1 ht c i e
  unfold F_named_row m_named_row
  rw [ev_def]
  simp [h1.a, h1.o, h2.o, hm]
theorem named_row_badR (s1 s2 : Sl) (ns : List D) (d2 : D) (h1 : DSl s1 (.tup ns)) (h2 : DSl s2 d2) (ht : tameN (.tup ns)) (e1 : wrongN (.tup ns) = none) (hk : kindR d2) (c : Str) (i : Int) (e : wrongR ns.length d2 = some (c, i)) : F_named_row [s1, s2] = .ex c (.int i) [s1, s2] := by
  have hm := made_ok s1 ns h1 ht e1
  unfold F_named_row m_named_row
  rw [ev_def]
  cases d2 with
  | fn _ => obtain ⟨_, q⟩ := hk; cases q
  | dic _ _ => obtain ⟨_, q⟩ := hk; cases q
  | tup ds =>
    rw [wrongR_tup] at e
    by_cases hl : 300 < ds.length
    · rw [if_pos hl] at e
      obtain ⟨rfl, rfl⟩ := Prod.mk.inj (Option.some.inj e)
      have hl' : (300 : Int) < ds.length := by omega
      simp [h1.a, h1.o, h2.g, h2.sd, h2.o, hm, hl']
    · rw [if_neg hl] at e
      obtain ⟨j, e2, e3⟩ := Option.map_eq_some_iff.mp e
      obtain ⟨rfl, rfl⟩ := Prod.mk.inj e3
      have hl' : ¬ (300 : Int) < ds.length := by omega
      obtain ⟨x, y, q⟩ := (row_loop s1 s2 ns ds 0 .no .no (.inl rfl) (.inl rfl) hk.1).2 j e2
      unfold b_row at q
      simp [h1.a, h1.o, h2.g, h2.v, h2.sd, h2.o, hm, hl', q]
  | _ =>
    obtain ⟨rfl, rfl⟩ := Prod.mk.inj (Option.some.inj e)
    simp [h1.a, h1.o, h2.g, h2.sd, h2.o, hm]
theorem fr_js {n : Nat} {js : List Nat} (hj : ∀ j ∈ js, j < n) (i : Nat) : fr n i (js.map fun j => D.int (j : Nat)) = none := by
  have := fr_app_ok js hj [] i
  rw [List.append_nil] at this
  rw [this]; rfl
theorem named_row_ok (zs : List Str) (js : List Nat) (s1 s2 : Sl) (h1 : DSl s1 (.tup (zs.map D.str))) (h2 : DSl s2 (.tup (js.map fun j => D.int (j : Nat)))) (hz : ∀ z ∈ zs, isNm z = true) (ht : tameN (.tup (zs.map D.str))) (e1 : wrongN (.tup (zs.map D.str)) = none) (hj : ∀ j ∈ js, j < zs.length) (hl : js.length ≤ 300) :
    F_named_row [s1, s2] = .ret (.fz (.str (Txt.join " " (wordsAt zs js)))) [s1, s2] := by
  have hm := made_ok s1 _ h1 ht e1
  unfold F_named_row m_named_row
  rw [ev_def]
  have hl' : ¬ (300 : Int) < js.length := by omega
  have ef : fr (zs.map D.str).length 0 (js.map fun j => D.int (j : Nat)) = none := by rw [List.length_map]; exact fr_js hj 0
  obtain ⟨x, y, fx, fy, q⟩ := (row_loop s1 s2 (zs.map D.str) (js.map fun j => D.int (j : Nat)) 0 .no .no (.inl rfl) (.inl rfl) (fun d hd => by
    obtain ⟨j, _, rfl⟩ := List.mem_map.mp hd
    exact ⟨_, rfl⟩)).1 ef
  unfold b_row at q
  have hc : mComp [4] (mItT (mvar 1)) (gNm 4) (mpure true) (mbin dIx (mslot 2) (mslot 4)) [s1, s2, .nt (zs.map D.str), x, y] = .ok (.ow false ((wordsAt zs js).map D.str)) [s1, s2, .nt (zs.map D.str), x, .no] := by
    rw [← row_comp hj]
    refine ev_comp _ (ds := js.map fun j => D.int (j : Nat)) (ρ1 := [s1, s2, .nt (zs.map D.str), x, y]) (by simp [h2.v]) (by simp [fy.wp]) (fun d hd => ?_) (by rw [List.length_map]; exact Nat.le_trans hl (by decide))
    obtain ⟨j, hj1, rfl⟩ := List.mem_map.mp hd
    have e : atI (zs.map D.str) (j : Int) = some (.str (zs.getD j "")) := by
      rw [atI_k (by rw [List.length_map]; exact hj j hj1), List.getElem_map, List.getD_eq_getElem?_getD, List.getElem?_eq_getElem (hj j hj1)]
      rfl
    refine ⟨[s1, s2, .nt (zs.map D.str), x, .fz (.int (j : Nat))], [s1, s2, .nt (zs.map D.str), x, .fz (.int (j : Nat))], true, by simp, rfl, ?_⟩
    simp only [e]
    exact ⟨trivial, _, by simp [e]; rfl, by simp⟩
  have hb : ((wordsAt zs js).map (·.length)).sum + (wordsAt zs js).length * (" " : Str).length ≤ 16777216 := by
    have := sum_le (b := 12) fun w hw => (isNm_ok (names_lt hz hj w hw)).2.1
    have l : (wordsAt zs js).length = js.length := by unfold wordsAt; rw [List.length_map]
    have e1 : (" " : Str).length = 1 := by decide
    rw [e1, Nat.mul_one]
    omega
  simp [h1.a, h1.o, h2.g, h2.v, h2.sd, h2.o, hm, hl', q, hc, join_ok hb]
/-- what the law owes of rows -/
def owedR (n : Nat) (d : D) : D := match wrongR n d with
  | none => .non
  | some (c, i) => .tup [.str c, .int i]
def badIx (n : Nat) : Nat → List D → List Nat
  | _, [] => []
  | i, d :: ds => if wholeB 0 ((n : Int) - 1) d = true then badIx n (i + 1) ds else i :: badIx n (i + 1) ds
theorem badIx_fr (n : Nat) : ∀ (ds : List D) (i : Nat), (badIx n i ds).head? = fr n i ds
  | [], i => rfl
  | d :: ds, i => by
    unfold badIx fr
    split
    · exact badIx_fr n ds (i + 1)
    · rfl
theorem badIx_map (n : Nat) (all : List D) : ∀ (ds pre : List D), all = pre ++ ds → ((List.range' pre.length ds.length).filter fun k => match all[k]? with
    | some d => !wholeB 0 ((n : Int) - 1) d
    | none => false) = badIx n pre.length ds
  | [], pre, _ => rfl
  | d :: ds, pre, e => by
    have ih := badIx_map n all ds (pre ++ [d]) (by rw [e]; simp)
    rw [List.length_append, List.length_singleton] at ih
    have hg : all[pre.length]? = some d := by rw [e]; simp
    rw [List.length_cons, List.range'_succ, List.filter_cons, ih]
    simp only [hg]
    have eb : badIx n pre.length (d :: ds) = if wholeB 0 ((n : Int) - 1) d = true then badIx n (pre.length + 1) ds else pre.length :: badIx n (pre.length + 1) ds := rfl
    rw [eb]
    cases wholeB 0 ((n : Int) - 1) d <;> rfl
theorem wrong_row_eq (n : Nat) (s : Sl) (d : D) (h : DSl s d) (hk : kindR d) : F_wrong_row [.fz (.int (n : Nat)), s] = .ret (.fz (owedR n d)) [.fz (.int (n : Nat)), s] := by
  unfold F_wrong_row m_wrong_row
  rw [ev_def]
  unfold owedR
  cases d with
  | fn _ => obtain ⟨_, q⟩ := hk; cases q
  | dic _ _ => obtain ⟨_, q⟩ := hk; cases q
  | tup ds =>
    rw [wrongR_tup]
    by_cases hl : 300 < ds.length
    · rw [if_pos hl]
      have hl' : (300 : Int) < ds.length := by omega
      simp [h.g, h.v, h.sd, h.o, hl']
    · rw [if_neg hl]
      have hl' : ¬ (300 : Int) < ds.length := by omega
      have hsm : Sm (ds.length : Int) := smN (by omega)
      have hc : mComp [3] (mbind (mfn fLen (mcons (mslot 1) mnil)) asR1) (gNm 3) (mor (mnot (mtst (mfrz (mCall F_is_whole (mgcons (mdat (mbin dIx (mslot 1) (mslot 3))) mgnil))))) (mor (mtst (mbin (aCmp fun i j => decide (i < j)) (mval (mbin dIx (mslot 1) (mslot 3))) (mval (mpure (.int 0))))) (mtst (mbin (aCmp fun i j => decide (j ≤ i)) (mval (mbin dIx (mslot 1) (mslot 3))) (mslot 0))))) (mvar 3) [.fz (.int (n : Nat)), s, .no, .no] = .ok (.ow false ((badIx n 0 ds).map fun k => D.int (k : Nat))) [.fz (.int (n : Nat)), s, .no, .no] := by
        have hb := badIx_map n ds ds [] rfl
        have hr : (rngD 0 1 ds.length).filterMap (fun d => match d with
            | .int k => (match ds[k.toNat]? with
              | some x => if wholeB 0 ((n : Int) - 1) x = true then none else some (D.int k)
              | none => none)
            | _ => none) = (badIx n 0 ds).map fun k => D.int (k : Nat) := by
          rw [show (0 : Nat) = ([] : List D).length from rfl, ← hb]
          rw [← rng0, show ([] : List Str).length = ([] : List D).length from rfl]
          generalize List.range' ([] : List D).length ds.length = L
          induction L with
          | nil => rfl
          | cons k L ih =>
            rw [List.map_cons, List.filterMap_cons, List.filter_cons, ih]
            have : (0 + (k : Int) * 1).toNat = k := by omega
            simp only [this]
            cases ds[k]? with
            | none => simp
            | some x => cases q : wholeB 0 ((n : Int) - 1) x <;> simp [q]
        rw [← hr]
        refine ev_comp _ (ds := rngD 0 1 ds.length) (ρ1 := [.fz (.int (n : Nat)), s, .no, .no]) (by simp [h.g, h.sd, asR1_nat hsm]) (by simp) (fun d hd => ?_) (by rw [rng_len]; exact Nat.le_trans (show ds.length ≤ 300 by omega) (by decide))
        obtain ⟨k, hk1, rfl⟩ := mem_rng hd
        have q := atI_k hk1
        obtain ⟨t, ht⟩ := hk.1 _ (List.getElem_mem hk1)
        have hi := is_whole_eq ds[k] t ht
        have eg : ds[(k : Int).toNat]? = some ds[k] := by simp [hk1]
        refine ⟨[.fz (.int (n : Nat)), s, .no, .fz (.int (k : Nat))], [.fz (.int (n : Nat)), s, .no, .fz (.int (k : Nat))], !wholeB 0 ((n : Int) - 1) ds[k], by simp, ?_, ?_⟩
        · generalize ds[k] = x at q hi ht
          cases x with
          | int i =>
            cases ht
            simp [h.g, h.sd, q, hi, wholeB]
            by_cases h0 : i < 0
            · have : ¬ 0 ≤ i := by omega
              simp [h0, this]
            · by_cases h2 : (n : Int) ≤ i
              · have : ¬ i ≤ (n : Int) - 1 := by omega
                simp [h0, h2, this]
              · have h3 : i ≤ (n : Int) - 1 := by omega
                have h4 : 0 ≤ i := by omega
                simp [h0, h2, h3, h4]
          | fn _ => cases ht
          | dic _ _ => cases ht
          | _ => cases ht; simp [h.g, h.sd, q, hi, wholeB]
        · simp only [eg]
          cases q2 : wholeB 0 ((n : Int) - 1) ds[k] <;> simp
      cases hf : fr n 0 ds with
      | none =>
        have : badIx n 0 ds = [] := by
          have := badIx_fr n ds 0
          rw [hf] at this
          exact List.head?_eq_none_iff.mp this
        rw [this] at hc
        have he : aNe (.lst []) (.lst []) = some (.bl false) := aNe_of (dEq_nil fun _ h => by cases h)
        simp [h.g, h.v, h.sd, h.o, hl', hc, he]
      | some j =>
        obtain ⟨r, e⟩ : ∃ r, badIx n 0 ds = j :: r := by
          have := badIx_fr n ds 0
          rw [hf] at this
          exact List.head?_eq_some_iff.mp this
        rw [e] at hc
        have he : aNe (.lst ((j :: r).map fun k => D.int (k : Nat))) (.lst []) = some (.bl true) := aNe_of (dEq_nil fun d h => by
          obtain ⟨k, _, rfl⟩ := List.mem_map.mp h
          exact .int _)
        rw [List.map_cons] at he hc
        simp [h.g, h.v, h.sd, h.o, hl', hc, he]
  | _ => simp [h.g, h.v, h.sd, h.o, wrongR]
end HF
namespace HF
open PySem PySem.Spec PyProof.Rows L2 LamX ME He TL
/-! ### texts cut and joined -/
def Lf : Str := "\n"
def Bl : Str := " "
theorem Lf_tl : tl Lf = 10 :: [] := by decide
theorem Bl_tl : tl Bl = 32 :: [] := by decide
theorem join_len (y : Str) (hy : y.length = 1) : ∀ ws : List Str, ws ≠ [] → (Str.join y ws).length + 1 = (ws.map (·.length)).sum + ws.length
  | [], h => absurd rfl h
  | [w], _ => by
    show w.length + 1 = _
    simp
  | w :: v :: r, _ => by
    have ih := join_len y hy (v :: r) (by simp)
    show (w ++ y ++ Str.join y (v :: r)).length + 1 = _
    rw [Str.length_append, Str.length_append, hy, List.map_cons, List.sum_cons, List.length_cons]
    omega
theorem mem_join (y : Str) : ∀ (ws : List Str) (w : Str), w ∈ ws → ∀ c ∈ w.cps.toList, c ∈ (Str.join y ws).cps.toList
  | [], _, h, _, _ => by cases h
  | [v], w, h, c, hc => by rw [List.mem_singleton.mp h] at hc; exact hc
  | v :: u :: r, w, h, c, hc => by
    show c ∈ (v ++ y ++ Str.join y (u :: r)).cps.toList
    have e : (v ++ y ++ Str.join y (u :: r)).cps.toList = v.cps.toList ++ y.cps.toList ++ (Str.join y (u :: r)).cps.toList := by
      have := tl_append (v ++ y) (Str.join y (u :: r))
      have h2 := tl_append v y
      unfold tl at this h2
      rw [this, h2]
    rw [e]
    rcases List.mem_cons.mp h with rfl | h
    · exact List.mem_append.mpr (.inl (List.mem_append.mpr (.inl hc)))
    · exact List.mem_append.mpr (.inr (mem_join y (u :: r) w h c hc))
theorem split_nil {y : Str} (hy : y.length = 1) : Txt.split "" y = ([""] : List Str) := by
  unfold Txt.split
  rw [if_pos]
  have : (("" : Str).length < y.length) := by rw [hy]; decide
  simp [this]
theorem split_ne (t y : Str) (hy : y.length = 1) : Txt.split t y ≠ [] := fun h => by
  have e := StrLaws.join_split t y
  rw [h] at e
  have : t = "" := e.symm
  rw [this, split_nil hy] at h
  cases h
theorem split_facts (t y : Str) (hy : y.length = 1) : ((Txt.split t y).map (·.length)).sum + (Txt.split t y).length = t.length + 1 := by
  have := join_len y hy _ (split_ne t y hy)
  rw [StrLaws.join_split] at this
  omega
theorem split_okS {t y : Str} (h : okS t) : ∀ w ∈ Txt.split t y, okS w := fun w hw c hc => h c (by
  have := mem_join y _ w hw c hc
  rw [StrLaws.join_split] at this
  exact this)
theorem mem_sum {ws : List Str} {w : Str} (h : w ∈ ws) : w.length ≤ (ws.map (·.length)).sum := by
  induction ws with
  | nil => cases h
  | cons v ws ih =>
    rw [List.map_cons, List.sum_cons]
    rcases List.mem_cons.mp h with rfl | h
    · omega
    · have := ih h; omega
theorem len1 : Lf.length = 1 ∧ Bl.length = 1 := by decide
theorem split_ok {t y : Str} (hy : y.length = 1) (ht : t.length ≤ 1000000) : oSplit t (.str y) = some (.ow false ((Txt.split t y).map D.str)) := by
  unfold oSplit
  have h1 : (y.length == 0) = false := by rw [hy]; rfl
  have h2 : t.length + 2 ≤ sizeLine := Nat.le_trans (show t.length + 2 ≤ 1000002 by omega) (by decide)
  have h3 : (Txt.split t y).length ≤ sizeLine := by
    have := split_facts t y hy
    exact Nat.le_trans (show (Txt.split t y).length ≤ 1000001 by omega) (by decide)
  simp only [h1, h2, h3, and_self, if_true]
theorem split_one {t y : Str} {a : Str} (h : Txt.split t y = [a]) : a = t := by
  have := StrLaws.join_split t y
  rw [h] at this
  exact this
theorem dEq_lines {t : Str} (ht : okS t) : dEq (.lst ((Txt.split t Lf).map D.str)) (.lst [.str ""]) = some (decide (t = "")) := by
  have hat : ∀ d ∈ (Txt.split t Lf).map D.str, Atom d := fun d hd => by
    obtain ⟨w, hw, rfl⟩ := List.mem_map.mp hd
    exact .str (split_okS ht w hw)
  obtain ⟨ps, e1, e2, e3, e4⟩ := atoms_py hat
  have p1 : (D.lst ((Txt.split t Lf).map D.str)).py = some (.list ps) := by unfold D.py; rw [e1]; rfl
  have p2 : (D.lst [.str ""]).py = some (.list [.str ""]) := rfl
  rw [dEq_of_py p1 p2 (shaped_list e2 e3) (by decide +kernel)]
  congr 1
  by_cases h : t = ""
  · subst h
    rw [split_nil len1.1] at e1
    have : ps = [.str ""] := by
      have : D.pyAll [D.str ""] = some [.str ""] := rfl
      rw [show ([""] : List Str).map D.str = [D.str ""] from rfl, this] at e1
      exact (Option.some.inj e1).symm
    rw [this]
    decide +kernel
  · rw [decide_eq_false h]
    have ne := split_ne t Lf len1.1
    cases q : Txt.split t Lf with
    | nil => exact absurd q ne
    | cons a r =>
      rw [q, List.map_cons] at e1
      cases r with
      | nil =>
        have ea := split_one q
        have : D.pyAll [D.str a] = some [.str a] := rfl
        rw [List.map_nil, this] at e1
        rw [← Option.some.inj e1, ea]
        show (PyData.eqv (.str t) (.str "") && true) = false
        rw [Bool.and_true]
        show (t == "") = false
        simpa using h
      | cons b r =>
        rw [List.map_cons] at e1
        have hlen : 2 ≤ ps.length := by rw [e4, q]; simp
        match ps, hlen with
        | x :: y :: r', _ =>
          show (PyData.eqv x (.str "") && PyData.eqvAll (y :: r') []) = false
          have : PyData.eqvAll (y :: r') [] = false := rfl
          rw [this, Bool.and_false]
/-! ### reading a row -/
def inZ (zs : List Str) (w : Str) : Bool := zs.any fun y => y == w
def fw (zs : List Str) : Nat → List Str → Option Nat
  | _, [] => none
  | i, w :: ws => if inZ zs w = true ∧ i < 300 then fw zs (i + 1) ws else some i
def ixOf (zs : List Str) (w : Str) : Nat := (idxS w zs).getD 0
inductive Rd where
  | told (js : List Nat) | wrong (c : Str) (w : D)
def Rd.owed : Rd → D
  | .told js => .tup [.str "told", .tup (js.map fun j => D.int (j : Nat))]
  | .wrong c w => .tup [.str c, w]
def head (ws : List Str) : Str := ws.headD ""
def rdL (zs : List Str) (ls ws : List Str) : Rd := match fw zs 0 ws with
  | some i => .wrong "WrongLine" (.tup [.int 0, .int (i : Nat)])
  | none => if ls.length = 1 then .told (ws.map (ixOf zs)) else .wrong "WrongLine" (.tup [.int 1, .int 0])
def rd (zs : List Str) (t : Str) : Rd :=
  if 400000 < t.length then .wrong "TooMany" (.int (t.length : Nat))
  else if t = "" then .told []
  else rdL zs (Txt.split t Lf) (Txt.split (head (Txt.split t Lf)) Bl)
theorem idx_in {zs : List Str} {w : Str} (h : inZ zs w = true) : idxS w zs = some (ixOf zs w) ∧ ixOf zs w < zs.length ∧ zs[ixOf zs w]? = some w := by
  have : ∃ j, idxS w zs = some j := by
    induction zs with
    | nil => cases h
    | cons z zs ih =>
      unfold idxS
      by_cases e : z = w
      · exact ⟨0, if_pos e⟩
      · rw [if_neg e]
        have : inZ zs w = true := by
          unfold inZ at h ⊢
          rw [List.any_cons, Bool.or_eq_true] at h
          exact h.resolve_left (by simpa using e)
        obtain ⟨j, hj⟩ := ih this
        exact ⟨j + 1, by rw [hj]; rfl⟩
  obtain ⟨j, hj⟩ := this
  have e : ixOf zs w = j := by unfold ixOf; rw [hj]; rfl
  obtain ⟨q1, q2⟩ := idxS_some hj
  rw [e]
  exact ⟨hj, (List.getElem?_eq_some_iff.mp q1).1, q1⟩
/-! the dict of places -/
def kvs : Nat → List Str → List (Key × D)
  | _, [] => []
  | i, z :: zs => (.inr z, .int (i : Nat)) :: kvs (i + 1) zs
theorem dGet_kvs (w : Str) : ∀ (zs : List Str) (i : Nat), dGet ((kvs i zs).map (·.1)) ((kvs i zs).map (·.2)) (.inr w) = (idxS w zs).map fun j => D.int ((i + j : Nat) : Int)
  | [], _ => rfl
  | z :: zs, i => by
    show (if (Sum.inr z : Key) = .inr w then some (D.int (i : Nat)) else dGet ((kvs (i + 1) zs).map (·.1)) ((kvs (i + 1) zs).map (·.2)) (.inr w)) = _
    unfold idxS
    by_cases e : z = w
    · rw [if_pos (by rw [e]), if_pos e]; rfl
    · rw [if_neg (fun q => e (Sum.inr.inj q)), if_neg e, dGet_kvs w zs (i + 1)]
      cases idxS w zs with
      | none => rfl
      | some j => simp; omega
theorem idx_out {zs : List Str} {w : Str} (h : inZ zs w = false) : idxS w zs = none := by
  induction zs with
  | nil => rfl
  | cons z zs ih =>
    unfold inZ at h
    rw [List.any_cons, Bool.or_eq_false_iff] at h
    unfold idxS
    rw [if_neg (by simpa using h.1), ih h.2]
    rfl
def dicZ (zs : List Str) : D := .dic ((kvs 0 zs).map (·.1)) ((kvs 0 zs).map (·.2))
theorem dic_in (zs : List Str) (w : Str) : aKeyIn (.str w) (dicZ zs) = some (inZ zs w) := by
  show (keyD (.str w)).map (fun k => (dGet _ _ k).isSome) = _
  show some ((dGet ((kvs 0 zs).map (·.1)) ((kvs 0 zs).map (·.2)) (.inr w)).isSome) = _
  rw [dGet_kvs]
  cases h : inZ zs w with
  | true => rw [(idx_in h).1]; rfl
  | false => rw [idx_out h]; rfl
theorem dic_get (zs : List Str) (w : Str) (h : inZ zs w = true) : aKeyGet (dicZ zs) (.str w) = some (.int (ixOf zs w : Nat)) := by
  show dGet ((kvs 0 zs).map (·.1)) ((kvs 0 zs).map (·.2)) (.inr w) = _
  rw [dGet_kvs, (idx_in h).1]
  simp
end HF
namespace HF
open PySem PySem.Spec PyProof.Rows L2 LamX ME He TL
theorem all_lines_ok (t : Str) (ht : t.length ≤ 400000) (s : Sl) (h : DSl s (.str t)) : F_all_lines [s, .fz (.int 400000)] = .ret (.ow false ((Txt.split t Lf).map D.str)) [s, .fz (.int 400000)] := by
  unfold F_all_lines m_all_lines
  rw [ev_def]
  have h1 : ¬ (400000 : Int) < t.length := by omega
  have h2 := split_ok (y := Lf) len1.1 (show t.length ≤ 1000000 by omega)
  unfold Lf at h2
  simp [h.g, h.v, h.sd, h.o, small_str (show t.length ≤ 1000000 by omega), h1, h2, Lf]
theorem all_lines_long (t : Str) (ht : 400000 < t.length) (ht2 : t.length ≤ 1000000) (s : Sl) (h : DSl s (.str t)) : F_all_lines [s, .fz (.int 400000)] = .ex "TooMany" (.int t.length) [s, .fz (.int 400000)] := by
  unfold F_all_lines m_all_lines
  rw [ev_def]
  have h1 : (400000 : Int) < t.length := by omega
  simp [h.g, h.v, h.sd, h.o, small_str ht2, h1]
theorem all_lines_bad (d : D) (hk : kind d) (hn : ∀ t, d ≠ .str t) (s : Sl) (h : DSl s d) : F_all_lines [s, .fz (.int 400000)] = .ex "BadText" (.int (-1)) [s, .fz (.int 400000)] := by
  unfold F_all_lines m_all_lines
  rw [ev_def]
  obtain ⟨k, hk⟩ := hk
  cases d with
  | str t => exact absurd rfl (hn t)
  | fn _ => cases hk
  | dic _ _ => cases hk
  | _ => simp [h.g, h.v, h.sd, h.o]
theorem words_of_eq (t : Str) (ht : t.length ≤ 1000000) : F_words_of [.fz (.str t)] = .ret (.ow false ((Txt.split t Bl).map D.str)) [.fz (.str t)] := by
  unfold F_words_of m_words_of
  rw [ev_def]
  have h2 := split_ok (y := Bl) len1.2 ht
  unfold Bl at h2
  simp [h2, Bl]
abbrev g_dic : D → ME.Env → Option ME.Env := gTp (gCs (gNm 8) (gCs (gNm 7) gNl))
theorem dict_loop (s1 s2 s3 s4 a b c : Sl) : ∀ (zs : List Str) (i : Nat) (as : List (Key × D)), (∀ z ∈ zs, ∀ p ∈ as, p.1 ≠ .inr z) → zs.Nodup → as.length + zs.length ≤ 1000 →
    kLoop [8, 7] (kTurn g_dic (mpure true) (mvar 7) (mvar 8)) (enumD i (zs.map D.str)) as [s1, s2, s3, s4, a, b, c, .no, .no] = .ok (as ++ kvs i zs) [s1, s2, s3, s4, a, b, c, .no, .no]
  | [], i, as, _, _, _ => by simp [enumD, kLoop, kvs]
  | z :: zs, i, as, h, nd, hl => by
    have ed : enumD i ((z :: zs).map D.str) = .tup [.int (i : Nat), .str z] :: enumD (i + 1) (zs.map D.str) := rfl
    have hz : as.length < sizeLine := by
      have : (1001 : Nat) ≤ sizeLine := by decide
      simp at hl; omega
    have na : (as.any fun kv => decide (kv.1 = (.inr z : Key))) = false := by
      rw [List.any_eq_false]
      intro p hp
      simpa using h z (.head _) p hp
    have ht : kTurn g_dic (mpure true) (mvar 7) (mvar 8) (.tup [.int (i : Nat), .str z]) as [s1, s2, s3, s4, a, b, c, .no, .no] = .ok (as ++ [(.inr z, .int (i : Nat))]) [s1, s2, s3, s4, a, b, c, .fz (.str z), .fz (.int (i : Nat))] := by
      unfold kTurn
      simp [keyD, hz, putD, na]
    rw [ed]
    unfold kLoop
    simp only [ht]
    have hw : wipeR [8, 7] [s1, s2, s3, s4, a, b, c, .fz (.str z), .fz (.int (i : Nat))] = some [s1, s2, s3, s4, a, b, c, .no, .no] := by simp
    simp only [hw]
    rw [List.nodup_cons] at nd
    refine (dict_loop s1 s2 s3 s4 a b c zs (i + 1) (as ++ [((.inr z : Key), D.int (i : Nat))]) (fun y hy p hp => by
      rcases List.mem_append.mp hp with q | q
      · exact h y (List.mem_cons_of_mem _ hy) p q
      · rw [List.mem_singleton.mp q]
        exact fun e => nd.1 (by rw [show z = y from Sum.inr.inj e]; exact hy)) nd.2 (by simp at hl ⊢; omega)).trans ?_
    simp [kvs]
theorem dict_eq (s1 s2 s4 a b c x y : Sl) (fx : Fr x) (fy : Fr y) (zs : List Str) (nd : zs.Nodup) (hl : zs.length ≤ 1000) :
    mDict [8, 7] (mbind (mvar 2) asET) g_dic (mpure true) (mvar 7) (mvar 8) [s1, s2, .nt (zs.map D.str), s4, a, b, c, x, y] = .ok (dicZ zs) [s1, s2, .nt (zs.map D.str), s4, a, b, c, .no, .no] := by
  have hw : wipeR [8, 7] [s1, s2, .nt (zs.map D.str), s4, a, b, c, x, y] = some [s1, s2, .nt (zs.map D.str), s4, a, b, c, .no, .no] := by simp [fx.wp, fy.wp]
  unfold mDict
  have hd := dict_loop s1 s2 (.nt (zs.map D.str)) s4 a b c zs 0 [] (fun _ _ _ h => by cases h) nd (by simpa using hl)
  simp only [ev_bind, ev_var, List.getElem?_cons_succ, List.getElem?_cons_zero, vD_nt, ev_opt, bnd_ok, asET_tup, hw, hd]
  rw [List.nil_append]
  rfl
abbrev b_read : MS := sSeq (sIf (mor (mtst (mbin aEq (mslot 6) (mval (mpure (.int 300))))) (mtst (mdd (fun x y => (aKeyIn x y).map fun b => .bl (!b)) (mvar 7) (mvar 4)))) (sRaise "WrongLine" (mtup (mlcons (mpure (.int 0)) (mlcons (mvar 6) mlnil)))) sNil) (sApp 5 (mdd aKeyGet (mvar 4) (mvar 7)))
@[simp] theorem ev_dd {ρ : ME.Env} (op : D → D → Option D) (f g : M D) : mdd op f g ρ = (f ρ).bnd fun x => mbind g fun y => mopt (op x y) := Eq.trans rfl rfl
theorem read_loop (s1 s2 s3 s4 z8 : Sl) (zs : List Str) : ∀ (ws : List Str) (acc : List Nat) (x y : Sl), Fr x → Fr y → acc.length ≤ 300 →
    (fw zs acc.length ws = none → ∃ x' y', sLoop (gTp (gCs (gNm 6) (gCs (gNm 7) gNl))) b_read (enumD acc.length (ws.map D.str)) [s1, s2, s3, s4, .fz (dicZ zs), .ow false (acc.map fun j => D.int (j : Nat)), x, y, z8] = .nx [s1, s2, s3, s4, .fz (dicZ zs), .ow false ((acc ++ ws.map (ixOf zs)).map fun j => D.int (j : Nat)), x', y', z8]) ∧
    ∀ j : Nat, fw zs acc.length ws = some j → ∃ a x' y', sLoop (gTp (gCs (gNm 6) (gCs (gNm 7) gNl))) b_read (enumD acc.length (ws.map D.str)) [s1, s2, s3, s4, .fz (dicZ zs), .ow false (acc.map fun j => D.int (j : Nat)), x, y, z8] = .ex "WrongLine" (.tup [.int 0, .int (j : Nat)]) [s1, s2, s3, s4, .fz (dicZ zs), a, x', y', z8]
  | [], acc, x, y, hx, hy, _ => ⟨(fun _ => ⟨x, y, by simp [enumD]⟩), fun j e => by cases e⟩
  | w :: ws, acc, x, y, hx, hy, hl => by
    have e0 : gTp (gCs (gNm 6) (gCs (gNm 7) gNl)) (.tup [.int (acc.length : Nat), .str w]) [s1, s2, s3, s4, .fz (dicZ zs), .ow false (acc.map fun j => D.int (j : Nat)), x, y, z8] = some [s1, s2, s3, s4, .fz (dicZ zs), .ow false (acc.map fun j => D.int (j : Nat)), .fz (.int (acc.length : Nat)), .fz (.str w), z8] := by
      simp [hx.st, hy.st]
    have ed : enumD acc.length ((w :: ws).map D.str) = .tup [.int (acc.length : Nat), .str w] :: enumD (acc.length + 1) (ws.map D.str) := rfl
    rw [ed]
    have el := fun (r : List D) => ev_loop1 (gTp (gCs (gNm 6) (gCs (gNm 7) gNl))) b_read (.tup [.int (acc.length : Nat), .str w]) r e0
    simp only [el]
    have hin := dic_in zs w
    have ef : fw zs acc.length (w :: ws) = if inZ zs w = true ∧ acc.length < 300 then fw zs (acc.length + 1) ws else some acc.length := rfl
    rw [ef]
    by_cases h3 : acc.length = 300
    · have hb : b_read [s1, s2, s3, s4, .fz (dicZ zs), .ow false (acc.map fun j => D.int (j : Nat)), .fz (.int (acc.length : Nat)), .fz (.str w), z8] = .ex "WrongLine" (.tup [.int 0, .int (acc.length : Nat)]) [s1, s2, s3, s4, .fz (dicZ zs), .ow false (acc.map fun j => D.int (j : Nat)), .fz (.int (acc.length : Nat)), .fz (.str w), z8] := by
        simp [b_read, h3]
      rw [hb, loopK_ex, if_neg (by omega)]
      refine ⟨(fun e => by cases e), fun j e => ?_⟩
      obtain rfl := Option.some.inj e
      exact ⟨_, _, _, rfl⟩
    · have h4 : acc.length < 300 := by omega
      have h5 : ((acc.length : Int) == 300) = false := by rw [beq_eq_false_iff_ne]; omega
      cases hq : inZ zs w with
      | false =>
        rw [hq] at hin
        have hb : b_read [s1, s2, s3, s4, .fz (dicZ zs), .ow false (acc.map fun j => D.int (j : Nat)), .fz (.int (acc.length : Nat)), .fz (.str w), z8] = .ex "WrongLine" (.tup [.int 0, .int (acc.length : Nat)]) [s1, s2, s3, s4, .fz (dicZ zs), .ow false (acc.map fun j => D.int (j : Nat)), .fz (.int (acc.length : Nat)), .fz (.str w), z8] := by
          simp [b_read, h5, hin]
        rw [hb, loopK_ex, if_neg (by simp)]
        refine ⟨(fun e => by cases e), fun j e => ?_⟩
        obtain rfl := Option.some.inj e
        exact ⟨_, _, _, rfl⟩
      | true =>
        rw [hq] at hin
        have hg := dic_get zs w hq
        have hz : acc.length < sizeLine := Nat.lt_of_lt_of_le h4 (by decide)
        have hb : b_read [s1, s2, s3, s4, .fz (dicZ zs), .ow false (acc.map fun j => D.int (j : Nat)), .fz (.int (acc.length : Nat)), .fz (.str w), z8] = .nx [s1, s2, s3, s4, .fz (dicZ zs), .ow false ((acc ++ [ixOf zs w]).map fun j => D.int (j : Nat)), .fz (.int (acc.length : Nat)), .fz (.str w), z8] := by
          simp [b_read, h5, hin, hg, hz]
        rw [hb, loopK_nx, if_pos ⟨rfl, h4⟩]
        obtain ⟨r1, r2⟩ := read_loop s1 s2 s3 s4 z8 zs ws (acc ++ [ixOf zs w]) (.fz (.int (acc.length : Nat))) (.fz (.str w)) (.inr ⟨_, rfl⟩) (.inr ⟨_, rfl⟩) (by simp; omega)
        rw [List.length_append, List.length_singleton] at r1 r2
        refine ⟨fun e => ?_, r2⟩
        obtain ⟨x', y', q⟩ := r1 e
        exact ⟨x', y', by rw [q]; simp⟩
theorem head_get {t y : Str} (hy : y.length = 1) : atI ((Txt.split t y).map D.str) 0 = some (.str (head (Txt.split t y))) := by
  have := split_ne t y hy
  cases h : Txt.split t y with
  | nil => exact absurd h this
  | cons a r => simp [head]
theorem head_len {t y : Str} (hy : y.length = 1) : (head (Txt.split t y)).length ≤ t.length := by
  have h0 := split_ne t y hy
  have h1 := split_facts t y hy
  cases h : Txt.split t y with
  | nil => exact absurd h h0
  | cons a r =>
    rw [h] at h1
    have := mem_sum (ws := a :: r) (w := a) (.head _)
    show a.length ≤ _
    simp only [List.length_cons] at h1
    omega
/-- the program's reading -/
theorem read_p (zs : List Str) (s1 s2 : Sl) (t : Str) (h1 : DSl s1 (.tup (zs.map D.str))) (h2 : DSl s2 (.str t)) (ht : tameN (.tup (zs.map D.str))) (nd : zs.Nodup) (e1 : wrongN (.tup (zs.map D.str)) = none) (hl : t.length ≤ 1000000) (ho : okS t) (hz : zs.length ≤ 24) :
    mHeard raisedN (mfrz (mRun F_read_named_row_p [.dat s1, .dat s2])) = mHeard raisedN (mfrz (mRun F_read_named_row_p [.dat s1, .dat s2])) ∧
    match rd zs t with
    | .told js => ∃ s, kFrz s = mpure (.tup (js.map fun j => D.int (j : Nat))) ∧ F_read_named_row_p [s1, s2] = .ret s [s1, s2]
    | .wrong c w => c ∈ raisedN ∧ F_read_named_row_p [s1, s2] = .ex c w [s1, s2] := by
  refine ⟨rfl, ?_⟩
  have hm := made_ok s1 _ h1 ht e1
  unfold rd
  by_cases hlong : 400000 < t.length
  · rw [if_pos hlong]
    refine ⟨r_names.2.2.2.1, ?_⟩
    have ha := all_lines_long t hlong hl s2 h2
    unfold F_read_named_row_p m_read_named_row_p
    rw [ev_def]
    simp [h1.a, h1.o, h2.a, h2.o, hm, ha]
  · rw [if_neg hlong]
    have ha := all_lines_ok t (by omega) s2 h2
    have hdl := dEq_lines ho
    by_cases he : t = ""
    · rw [if_pos he]
      rw [decide_eq_true he] at hdl
      have hq := aEq_of hdl
      refine ⟨.fz (.tup []), rfl, ?_⟩
      unfold F_read_named_row_p m_read_named_row_p
      rw [ev_def]
      simp [h1.a, h1.o, h2.a, h2.o, hm, ha, hq]
    · rw [if_neg he]
      unfold rdL
      rw [decide_eq_false he] at hdl
      have hq := aEq_of hdl
      have hg := head_get (t := t) (y := Lf) len1.1
      have hlen := head_len (t := t) (y := Lf) len1.1
      have hwd := words_of_eq (head (Txt.split t Lf)) (by omega)
      have hdic := dict_eq s1 s2 (.ow false ((Txt.split t Lf).map D.str)) .no .no .no .no .no (.inl rfl) (.inl rfl) zs nd (by omega)
      obtain ⟨l1, l2⟩ := read_loop s1 s2 (.nt (zs.map D.str)) (.ow false ((Txt.split t Lf).map D.str)) .no zs (Txt.split (head (Txt.split t Lf)) Bl) [] .no .no (.inl rfl) (.inl rfl) (by simp)
      cases hf : fw zs 0 (Txt.split (head (Txt.split t Lf)) Bl) with
      | some i =>
        obtain ⟨a, x', y', q⟩ := l2 i hf
        unfold b_read at q
        refine ⟨r_names.2.2.2.2, ?_⟩
        unfold F_read_named_row_p m_read_named_row_p
        rw [ev_def]
        simp at q
        simp [h1.a, h1.o, h2.a, h2.o, hm, ha, hq, hdic, hg, hwd, q]
      | none =>
        obtain ⟨x', y', q⟩ := l1 hf
        unfold b_read at q
        simp at q
        by_cases hone : (Txt.split t Lf).length = 1
        · simp only [hone, if_true]
          refine ⟨.nt (((Txt.split (head (Txt.split t Lf)) Bl).map (ixOf zs)).map fun j => D.int (j : Nat)), rfl, ?_⟩
          have hc : ¬ (1 : Int) < (Txt.split t Lf).length := by omega
          unfold F_read_named_row_p m_read_named_row_p
          rw [ev_def]
          simp [h1.a, h1.o, h2.a, h2.o, hm, ha, hq, hdic, hg, hwd, q, hc]
        · simp only [hone, if_false]
          have h0 := split_ne t Lf len1.1
          have hpos : 0 < (Txt.split t Lf).length := List.length_pos_iff.mpr h0
          have hc : (1 : Int) < (Txt.split t Lf).length := by omega
          refine ⟨r_names.2.2.2.2, ?_⟩
          unfold F_read_named_row_p m_read_named_row_p
          rw [ev_def]
          simp [h1.a, h1.o, h2.a, h2.o, hm, ha, hq, hdic, hg, hwd, q, hc]
end HF
namespace HF
open PySem PySem.Spec PyProof.Rows L2 LamX ME He TL
theorem read_badN (s1 s2 : Sl) (d1 d2 : D) (h1 : DSl s1 d1) (h2 : DSl s2 d2) (ht : tameN d1) (c : Str) (i : Int) (e : wrongN d1 = some (c, i)) : F_read_named_row_p [s1, s2] = .ex c (.int i) [s1, s2] := by
  have hm := made_bad s1 d1 h1 ht c i e
  unfold F_read_named_row_p m_read_named_row_p
  rw [ev_def]
  simp [h1.a, h1.o, h2.o, hm]
theorem read_badT (s1 s2 : Sl) (ns : List D) (d2 : D) (h1 : DSl s1 (.tup ns)) (h2 : DSl s2 d2) (ht : tameN (.tup ns)) (e1 : wrongN (.tup ns) = none) (hk : kind d2) (hn : ∀ t, d2 ≠ .str t) : F_read_named_row_p [s1, s2] = .ex "BadText" (.int (-1)) [s1, s2] := by
  have hm := made_ok s1 ns h1 ht e1
  have ha := all_lines_bad d2 hk hn s2 h2
  unfold F_read_named_row_p m_read_named_row_p
  rw [ev_def]
  simp [h1.a, h1.o, h2.a, h2.o, hm, ha]
def badW (zs : List Str) : Nat → List Str → List Nat
  | _, [] => []
  | i, w :: ws => if inZ zs w = true ∧ i < 300 then badW zs (i + 1) ws else i :: badW zs (i + 1) ws
theorem badW_fw (zs : List Str) : ∀ (ws : List Str) (i : Nat), (badW zs i ws).head? = fw zs i ws
  | [], i => rfl
  | w :: ws, i => by
    unfold badW fw
    split
    · exact badW_fw zs ws (i + 1)
    · rfl
theorem badW_map (zs : List Str) (all : List Str) : ∀ (ws pre : List Str), all = pre ++ ws → ((List.range' pre.length ws.length).filter fun k => match all[k]? with
    | some w => !(inZ zs w && decide (k < 300))
    | none => false) = badW zs pre.length ws
  | [], pre, _ => rfl
  | w :: ws, pre, e => by
    have ih := badW_map zs all ws (pre ++ [w]) (by rw [e]; simp)
    rw [List.length_append, List.length_singleton] at ih
    have hg : all[pre.length]? = some w := by rw [e]; simp
    rw [List.length_cons, List.range'_succ, List.filter_cons, ih]
    simp only [hg]
    have eb : badW zs pre.length (w :: ws) = if inZ zs w = true ∧ pre.length < 300 then badW zs (pre.length + 1) ws else pre.length :: badW zs (pre.length + 1) ws := rfl
    rw [eb]
    by_cases h3 : pre.length < 300
    · cases inZ zs w <;> simp [h3]
    · cases inZ zs w <;> simp [h3]
theorem text_wrong_eq (t : Str) (ht : t.length ≤ 1000000) : F_text_wrong [.fz (.str t), .fz (.int 400000)] = .ret (.fz (if 400000 < t.length then .tup [.str "TooMany", .int t.length] else .non)) [.fz (.str t), .fz (.int 400000)] := by
  unfold F_text_wrong m_text_wrong
  rw [ev_def]
  by_cases h : 400000 < t.length
  · have h1 : (400000 : Int) < t.length := by omega
    simp [small_str ht, h, h1]
  · have h1 : ¬ (400000 : Int) < t.length := by omega
    simp [small_str ht, h, h1]
theorem tix_eq {zs : List Str} {w : Str} (h : inZ zs w = true) (a b c d e f : Sl) : mTIx 0 (mvar 7) [.nt (zs.map D.str), a, b, c, d, e, f, .fz (.str w)] = .ok (.int (ixOf zs w : Nat)) [.nt (zs.map D.str), a, b, c, d, e, f, .fz (.str w)] := by
  unfold mTIx
  simp [strs_map, (idx_in h).1]
theorem fw_all {zs : List Str} : ∀ {ws : List Str} {i : Nat}, fw zs i ws = none → (∀ w ∈ ws, inZ zs w = true) ∧ (ws ≠ [] → i + ws.length ≤ 300)
  | [], i, _ => ⟨(fun _ h => by cases h), fun h => absurd rfl h⟩
  | w :: ws, i, e => by
    unfold fw at e
    split at e
    · rename_i h
      obtain ⟨q1, q2⟩ := fw_all e
      refine ⟨fun v hv => ?_, fun _ => ?_⟩
      · rcases List.mem_cons.mp hv with rfl | hv
        · exact h.1
        · exact q1 v hv
      · cases ws with
        | nil => simp; omega
        | cons v r => have := q2 (by simp); simp at this ⊢; omega
    · cases e
/-- the law's reading -/
theorem read_l (zs : List Str) (t : Str) (hl : t.length ≤ 1000000) (ho : okS t) : F_read_named_row [.nt (zs.map D.str), .fz (.str t)] = .ret (.fz (rd zs t).owed) [.nt (zs.map D.str), .fz (.str t)] := by
  have hw := text_wrong_eq t hl
  unfold F_read_named_row m_read_named_row
  rw [ev_def]
  unfold rd
  by_cases hlong : 400000 < t.length
  · rw [if_pos hlong] at hw
    rw [if_pos hlong]
    simp [hw, Rd.owed]
  · rw [if_neg hlong] at hw
    rw [if_neg hlong]
    have he0 := aEq_of (dEq_str ho (b := "") (fun c hc => by
      have : ("" : Str).cps.toList = [] := by decide
      rw [this] at hc; cases hc))
    by_cases he : t = ""
    · rw [if_pos he]
      have hbe : (t == "") = true := by simpa using he
      rw [hbe] at he0
      simp [hw, he0, Rd.owed]
    · rw [if_neg he]
      have hbe : (t == "") = false := by simpa using he
      rw [hbe] at he0
      have hsp := split_ok (y := Lf) len1.1 hl
      have hg := head_get (t := t) (y := Lf) len1.1
      have hlen := head_len (t := t) (y := Lf) len1.1
      have hsp2 := split_ok (y := Bl) (t := head (Txt.split t Lf)) len1.2 (by omega)
      have hcnt : (Txt.split (head (Txt.split t Lf)) Bl).length ≤ 400001 := by
        have := split_facts (head (Txt.split t Lf)) Bl len1.2
        omega
      unfold Lf at hsp hsp2 hg hcnt
      unfold Bl at hsp2 hcnt
      simp only [Lf, Bl]
      generalize Txt.split t "\n" = ls at hsp hg hsp2 hcnt
      generalize Txt.split (head ls) " " = ws at hsp2 hcnt
      unfold rdL
      have hbad : mComp [6] (mbind (mfn fLen (mcons (mslot 4) mnil)) asR1) (gNm 6) (mor (mtst (mbin aNotIn (mval (mbin dIx (mslot 4) (mslot 6))) (mslot 0))) (mtst (mbin (aCmp fun i j => decide (j < i)) (mslot 6) (mval (mpure (.int 299)))))) (mvar 6) [.nt (zs.map D.str), .fz (.str t), .fz .non, .ow false (ls.map D.str), .ow false (ws.map D.str), .no, .no, .no] = .ok (.ow false ((badW zs 0 ws).map fun k => D.int (k : Nat))) [.nt (zs.map D.str), .fz (.str t), .fz .non, .ow false (ls.map D.str), .ow false (ws.map D.str), .no, .no, .no] := by
        have hb := badW_map zs ws ws [] rfl
        have hr : (rngD 0 1 ws.length).filterMap (fun d => match d with
            | .int k => (match ws[k.toNat]? with
              | some x => if (inZ zs x && decide (k.toNat < 300)) = true then none else some (D.int k)
              | none => none)
            | _ => none) = (badW zs 0 ws).map fun k => D.int (k : Nat) := by
          rw [show (0 : Nat) = ([] : List Str).length from rfl, ← hb, ← rng0]
          generalize List.range' ([] : List Str).length ws.length = L
          induction L with
          | nil => rfl
          | cons k L ih =>
            rw [List.map_cons, List.filterMap_cons, List.filter_cons, ih]
            have : (0 + (k : Int) * 1).toNat = k := by omega
            simp only [this]
            cases ws[k]? with
            | none => simp
            | some x => cases q : (inZ zs x && decide (k < 300)) <;> simp [q]
        rw [← hr]
        have hsm : Sm (ws.length : Int) := smN (by omega)
        refine ev_comp _ (ds := rngD 0 1 ws.length) (ρ1 := [.nt (zs.map D.str), .fz (.str t), .fz .non, .ow false (ls.map D.str), .ow false (ws.map D.str), .no, .no, .no]) (by simp [asR1_nat hsm]) (by simp) (fun d hd => ?_) (by rw [rng_len]; exact Nat.le_trans hcnt (by decide))
        obtain ⟨k, hk1, rfl⟩ := mem_rng hd
        have q : atI (ws.map D.str) (k : Int) = some (.str ws[k]) := by
          rw [atI_k (by rw [List.length_map]; exact hk1), List.getElem_map]
        have hin : aNotIn (.str ws[k]) (.tup (zs.map D.str)) = some (.bl (!inZ zs ws[k])) := by unfold aNotIn; rw [in_strs]; rfl
        have eg : ws[(k : Int).toNat]? = some ws[k] := by simp [hk1]
        refine ⟨[.nt (zs.map D.str), .fz (.str t), .fz .non, .ow false (ls.map D.str), .ow false (ws.map D.str), .no, .fz (.int (k : Nat)), .no], [.nt (zs.map D.str), .fz (.str t), .fz .non, .ow false (ls.map D.str), .ow false (ws.map D.str), .no, .fz (.int (k : Nat)), .no], !(inZ zs ws[k] && decide (k < 300)), by simp, ?_, ?_⟩
        · cases hq : inZ zs ws[k] with
          | true =>
            rw [hq] at hin
            by_cases h3 : k < 300
            · have h4 : ¬ (299 : Int) < k := by omega
              simp [q, hin, h3, h4]
            · have h4 : (299 : Int) < k := by omega
              simp [q, hin, h3, h4]
          | false =>
            rw [hq] at hin
            simp [q, hin]
        · have eg2 : ws[k]? = some ws[k] := List.getElem?_eq_getElem hk1
          simp only [Int.toNat_natCast, eg2]
          by_cases hq : (inZ zs ws[k] && decide (k < 300)) = true
          · rw [if_pos hq]
            exact ⟨by rw [hq]; rfl, by simp⟩
          · rw [if_neg hq]
            have hq2 : (inZ zs ws[k] && decide (k < 300)) = false := by simpa using hq
            exact ⟨by rw [hq2]; rfl, [.nt (zs.map D.str), .fz (.str t), .fz .non, .ow false (ls.map D.str), .ow false (ws.map D.str), .no, .fz (.int (k : Nat)), .no], by simp, by simp⟩
      cases hf : fw zs 0 ws with
      | some i =>
        obtain ⟨r, e⟩ : ∃ r, badW zs 0 ws = i :: r := by
          have := badW_fw zs ws 0
          rw [hf] at this
          exact List.head?_eq_some_iff.mp this
        rw [e] at hbad
        have hne : aNe (.lst ((i :: r).map fun k => D.int (k : Nat))) (.lst []) = some (.bl true) := aNe_of (dEq_nil fun d h => by
          obtain ⟨k, _, rfl⟩ := List.mem_map.mp h
          exact .int _)
        rw [List.map_cons] at hbad hne
        simp [hw, he0, hsp, hg, hsp2, hbad, hne, Rd.owed]
      | none =>
        have e : badW zs 0 ws = [] := by
          have := badW_fw zs ws 0
          rw [hf] at this
          exact List.head?_eq_none_iff.mp this
        rw [e] at hbad
        have hne : aNe (.lst []) (.lst []) = some (.bl false) := aNe_of (dEq_nil fun _ h => by cases h)
        simp only [List.map_nil] at hbad
        by_cases hone : ls.length = 1
        · have hc : mComp [7] (mItL (mfrzV 4)) (gNm 7) (mpure true) (mTIx 0 (mvar 7)) [.nt (zs.map D.str), .fz (.str t), .fz .non, .ow false (ls.map D.str), .ow false (ws.map D.str), .ow false [], .no, .no] = .ok (.ow false ((ws.map D.str).filterMap fun d => match d with
              | .str w => some (D.int (ixOf zs w : Nat))
              | _ => none)) [.nt (zs.map D.str), .fz (.str t), .fz .non, .ow false (ls.map D.str), .fz (.lst (ws.map D.str)), .ow false [], .no, .no] := by
            refine ev_comp _ (ds := ws.map D.str) (ρ1 := [.nt (zs.map D.str), .fz (.str t), .fz .non, .ow false (ls.map D.str), .fz (.lst (ws.map D.str)), .ow false [], .no, .no]) (by simp) (by simp) (fun d hd => ?_) (by rw [List.length_map]; exact Nat.le_trans hcnt (by decide))
            obtain ⟨w, hwm, rfl⟩ := List.mem_map.mp hd
            have hin := (fw_all hf).1 w hwm
            refine ⟨[.nt (zs.map D.str), .fz (.str t), .fz .non, .ow false (ls.map D.str), .fz (.lst (ws.map D.str)), .ow false [], .no, .fz (.str w)], [.nt (zs.map D.str), .fz (.str t), .fz .non, .ow false (ls.map D.str), .fz (.lst (ws.map D.str)), .ow false [], .no, .fz (.str w)], true, by simp, rfl, rfl, _, tix_eq hin _ _ _ _ _ _, by simp⟩
          have hm : (ws.map D.str).filterMap (fun d => match d with
              | .str w => some (D.int (ixOf zs w : Nat))
              | _ => none) = (ws.map (ixOf zs)).map fun j => D.int (j : Nat) := by
            rw [List.filterMap_map, List.map_map]
            exact List.filterMap_eq_map (f := fun w => D.int (ixOf zs w : Nat)) ▸ rfl
          rw [hm] at hc
          have h1 : ((ls.length : Int) == 1) = true := by rw [hone]; rfl
          simp [hw, he0, hsp, hg, hsp2, hbad, hne, hone, hc, Rd.owed]
        · have h1 : ((ls.length : Int) == 1) = false := by rw [beq_eq_false_iff_ne]; omega
          simp [hw, he0, hsp, hg, hsp2, hbad, hne, hone, h1, Rd.owed]
end HF
namespace HF
open PySem PySem.Spec PyProof.Rows L2 LamX ME He TL
/-! ### texts of signs below 128, bounded -/
def tx (n : Nat) (s : Str) : Prop := okS s ∧ s.length ≤ n
theorem tx.le {n m : Nat} {s : Str} (h : tx n s) (l : n ≤ m) : tx m s := ⟨h.1, Nat.le_trans h.2 l⟩
theorem tx_app {n m : Nat} {a b : Str} (h : tx n a) (k : tx m b) : tx (n + m) (a ++ b) := by
  refine ⟨fun c hc => ?_, by rw [Str.length_append]; exact Nat.add_le_add h.2 k.2⟩
  have e := tl_append a b
  unfold tl at e
  rw [e] at hc
  exact (List.mem_append.mp hc).elim (h.1 c) (k.1 c)
theorem tx_slice {n : Nat} {a : Str} (h : tx n a) (lo hi : Option Int) : tx n (Txt.slice a lo hi) := by
  refine ⟨fun c hc => ?_, Nat.le_trans (Txt.slice_le a lo hi) h.2⟩
  unfold Txt.slice at hc
  split at hc
  · exact h.1 c hc
  · have hc' : c ∈ (Builtin.Str.strSliceIndices lo hi 1 a.length).filterMap (a.cps[·]?) := hc
    obtain ⟨i, _, e⟩ := List.mem_filterMap.mp hc'
    exact h.1 c (Array.mem_toList_iff.mpr (Array.mem_of_getElem? e))
theorem up_one : ∀ c, c < 128 → ∃ d, d < 128 ∧ Unicode.upperOf c = [d] := by
  have e : ((List.range 128).all fun c => match Unicode.upperOf c with
    | [d] => decide (d < 128)
    | _ => false) = true := by decide +kernel
  intro c hc
  have := List.all_eq_true.mp e c (List.mem_range.mpr hc)
  cases q : Unicode.upperOf c with
  | nil => rw [q] at this; cases this
  | cons d r =>
    cases r with
    | nil => rw [q] at this; exact ⟨d, of_decide_eq_true this, rfl⟩
    | cons _ _ => rw [q] at this; cases this
theorem placed_list (x : Str) (f : Nat → List Nat) : (placed x fun _ c => f c).toList = x.cps.toList.flatMap f := by
  unfold placed
  rw [Array.toList_flatten]
  have e : ∀ l : List Nat, (l.mapIdx fun i c => (f c).toArray) = l.map fun c => (f c).toArray := fun l => by
    apply List.ext_getElem?
    intro i
    simp
  simp [List.flatMap, e, Function.comp_def]
theorem tx_upper {n : Nat} {a : Str} (h : tx n a) : tx n (Txt.upper a) := by
  have e : (Txt.upper a).cps.toList = a.cps.toList.flatMap Unicode.upperOf := placed_list a _
  have hl : ∀ cs : List Nat, (∀ c ∈ cs, c < 128) → (cs.flatMap Unicode.upperOf).length = cs.length ∧ ∀ d ∈ cs.flatMap Unicode.upperOf, d < 128 := by
    intro cs hcs
    induction cs with
    | nil => exact ⟨rfl, fun d hd => by cases hd⟩
    | cons c cs ih =>
      obtain ⟨d, d1, d2⟩ := up_one c (hcs c (.head _))
      obtain ⟨i1, i2⟩ := ih fun x hx => hcs x (List.mem_cons_of_mem _ hx)
      rw [List.flatMap_cons, d2]
      refine ⟨by simp [i1], fun x hx => ?_⟩
      rcases List.mem_append.mp hx with q | q
      · rw [List.mem_singleton.mp q]; exact d1
      · exact i2 x q
  obtain ⟨l1, l2⟩ := hl a.cps.toList h.1
  refine ⟨fun c hc => l2 c (by rw [← e]; exact hc), ?_⟩
  have : (Txt.upper a).length = a.length := by
    show (Txt.upper a).cps.size = a.cps.size
    rw [← Array.length_toList, e, l1, Array.length_toList]
  rw [this]; exact h.2
theorem tx_join {sep : Str} {ws : List Str} (hs : okS sep) (hw : ∀ w ∈ ws, okS w) : okS (Txt.join sep ws) := by
  rw [join_eq]
  have : ∀ ws : List Str, (∀ w ∈ ws, okS w) → okS (Str.join sep ws) := by
    intro ws
    induction ws with
    | nil => exact fun _ c hc => by cases hc
    | cons w r ih =>
      intro hw
      cases r with
      | nil => exact hw w (.head _)
      | cons v r =>
        have h1 : tx w.length w := ⟨hw w (.head _), Nat.le_refl _⟩
        have h2 : tx sep.length sep := ⟨hs, Nat.le_refl _⟩
        have h3 : tx _ (Str.join sep (v :: r)) := ⟨ih fun x hx => hw x (List.mem_cons_of_mem _ hx), Nat.le_refl _⟩
        exact (tx_app (tx_app h1 h2) h3).1
  exact this ws hw
theorem tx_joinL {sep : Str} {ws : List Str} {n : Nat} (hs : okS sep) (hw : ∀ w ∈ ws, okS w) (hn : (ws.map (·.length)).sum + ws.length * sep.length ≤ n) : tx n (Txt.join sep ws) := by
  refine ⟨tx_join hs hw, ?_⟩
  rw [join_eq]
  exact Nat.le_trans (StrLaws.join_length_le sep ws) hn
/-! ### what a mirror gives, whatever is drawn -/
def Hh {α : Type} (I : ME.Env → Prop) (Q : α → Prop) (f : M α) : Prop := ∀ ρ, I ρ → ∃ a ρ', f ρ = .ok a ρ' ∧ Q a ∧ I ρ'
/-- an operand -/
def HR (I : ME.Env → Prop) (P : D → Prop) (f : M Rv) : Prop := ∀ ρ, I ρ → ∃ r ρ', f ρ = .ok r ρ' ∧ I ρ' ∧ ∃ d, P d ∧ ∀ ρ'', I ρ'' → muse r ρ'' = .ok d ρ''
section
variable {α β : Type} {I : ME.Env → Prop} {P Q : D → Prop}
theorem H_pure {Q : α → Prop} {a : α} (h : Q a) : Hh I Q (mpure a) := fun ρ i => ⟨a, ρ, rfl, h, i⟩
theorem H_bind {Q : α → Prop} {R : β → Prop} {f : M α} {g : α → M β} (h : Hh I Q f) (k : ∀ a, Q a → Hh I R (g a)) : Hh I R (mbind f g) := fun ρ i => by
  obtain ⟨a, ρ1, e, q, i1⟩ := h ρ i
  obtain ⟨b, ρ2, e2, q2, i2⟩ := k a q ρ1 i1
  exact ⟨b, ρ2, by rw [ev_bind, e, bnd_ok, e2], q2, i2⟩
theorem H_mono {Q R : α → Prop} {f : M α} (h : Hh I Q f) (k : ∀ a, Q a → R a) : Hh I R f := fun ρ i => by
  obtain ⟨a, ρ1, e, q, i1⟩ := h ρ i
  exact ⟨a, ρ1, e, k a q, i1⟩
theorem R_val {f : M D} (h : Hh I P f) : HR I P (mval f) := fun ρ i => by
  obtain ⟨d, ρ1, e, q, i1⟩ := h ρ i
  exact ⟨.val d, ρ1, by rw [ev_val, e, bnd_ok]; rfl, i1, d, q, fun _ _ => rfl⟩
theorem R_slot {i : Nat} {d : D} (h : ∀ ρ, I ρ → sD ρ[i]? = some d ∧ gS ρ[i]? i ρ = .ok (.slot i) ρ) (p : P d) : HR I P (mslot i) := fun ρ hi => by
  refine ⟨.slot i, ρ, by rw [ev_slot, (h ρ hi).2], hi, d, p, fun ρ2 h2 => ?_⟩
  rw [ev_useS, (h ρ2 h2).1]
  rfl
theorem H_lnil : Hh I (fun ds : List D => ∀ d ∈ ds, P d) mlnil := H_pure fun _ h => by cases h
theorem H_lcons {f : M D} {g : M (List D)} (h : Hh I P f) (k : Hh I (fun ds : List D => ∀ d ∈ ds, P d) g) : Hh I (fun ds : List D => ∀ d ∈ ds, P d) (mlcons f g) :=
  H_bind h fun d p => H_bind k fun ds q => H_pure fun x hx => (List.mem_cons.mp hx).elim (fun e => by rw [e]; exact p) (q x)
/-- not empty -/
theorem H_lcons1 {f : M D} {g : M (List D)} (h : Hh I P f) (k : Hh I (fun ds : List D => ∀ d ∈ ds, P d) g) : Hh I (fun ds : List D => ds ≠ [] ∧ ∀ d ∈ ds, P d) (mlcons f g) :=
  H_bind h fun d p => H_bind k fun ds q => H_pure ⟨by simp, fun x hx => (List.mem_cons.mp hx).elim (fun e => by rw [e]; exact p) (q x)⟩
theorem H_lst {Q : List D → Prop} {g : M (List D)} (h : Hh I Q g) : Hh I (fun s => ∃ ds, s = Sl.ow false ds ∧ Q ds) (mlst g) := H_bind h fun ds q => H_pure ⟨ds, rfl, q⟩
theorem H_frzL {Q : List D → Prop} {f : M Sl} (h : Hh I (fun s => ∃ ds, s = Sl.ow false ds ∧ Q ds) f) : Hh I (fun d => ∃ ds, d = D.lst ds ∧ Q ds) (mfrz f) := H_bind h fun s ⟨ds, e, q⟩ => by
  subst e
  exact H_pure ⟨ds, rfl, q⟩
theorem H_frzF {f : M Sl} (h : Hh I (fun s => ∃ d, s = Sl.fz d ∧ P d) f) : Hh I P (mfrz f) := H_bind h fun s ⟨d, e, q⟩ => by
  subst e
  exact H_pure q
theorem H_bin {A B R : D → Prop} {op : D → D → Option D} {f g : M Rv} (h : HR I A f) (k : HR I B g) (o : ∀ x y, A x → B y → ∃ z, op x y = some z ∧ R z) : Hh I R (mbin op f g) := fun ρ i => by
  obtain ⟨r, ρ1, e1, i1, x, px, ux⟩ := h ρ i
  obtain ⟨s, ρ2, e2, i2, y, py, uy⟩ := k ρ1 i1
  obtain ⟨z, ez, rz⟩ := o x y px py
  exact ⟨z, ρ2, by simp only [ev_bin, e1, bnd_ok, ev_bind, e2, ux ρ2 i2, uy ρ2 i2, ez, ev_opt], rz, i2⟩
theorem H_binX {A B R : D → Prop} {op : D → D → Option Sl} {f g : M Rv} (h : HR I A f) (k : HR I B g) (o : ∀ x y, A x → B y → ∃ z, op x y = some (.fz z) ∧ R z) : Hh I (fun s => ∃ d, s = Sl.fz d ∧ R d) (mbinX op f g) := fun ρ i => by
  obtain ⟨r, ρ1, e1, i1, x, px, ux⟩ := h ρ i
  obtain ⟨s, ρ2, e2, i2, y, py, uy⟩ := k ρ1 i1
  obtain ⟨z, ez, rz⟩ := o x y px py
  exact ⟨.fz z, ρ2, by simp only [ev_binX, e1, bnd_ok, ev_bind, e2, ux ρ2 i2, uy ρ2 i2, ez, Option.bind_some, unown_fz, ev_opt], ⟨z, rfl, rz⟩, i2⟩
theorem H_binL {A B : D → Prop} {R : List D → Prop} {op : D → D → Option Sl} {f g : M Rv} (h : HR I A f) (k : HR I B g) (o : ∀ x y, A x → B y → ∃ z, op x y = some (.ow false z) ∧ R z) : Hh I (fun s => ∃ d, s = Sl.ow false d ∧ R d) (mbinX op f g) := fun ρ i => by
  obtain ⟨r, ρ1, e1, i1, x, px, ux⟩ := h ρ i
  obtain ⟨s, ρ2, e2, i2, y, py, uy⟩ := k ρ1 i1
  obtain ⟨z, ez, rz⟩ := o x y px py
  exact ⟨.ow false z, ρ2, by simp only [ev_binX, e1, bnd_ok, ev_bind, e2, ux ρ2 i2, uy ρ2 i2, ez, Option.bind_some, unown_ow, ev_opt], ⟨z, rfl, rz⟩, i2⟩
theorem H_slice {A : D → Prop} {R : Sl → Prop} {f : M Rv} {lo hi : M (Option Int)} {L U : Option Int → Prop} (h : HR I A f) (kl : Hh I L lo) (ku : Hh I U hi) (o : ∀ x l u, A x → L l → U u → ∃ z, aSl x l u = some z ∧ unown z = some z ∧ R z) : Hh I R (mslice f lo hi) := fun ρ i => by
  obtain ⟨r, ρ1, e1, i1, x, px, ux⟩ := h ρ i
  obtain ⟨l, ρ2, e2, ql, i2⟩ := kl ρ1 i1
  obtain ⟨u, ρ3, e3, qu, i3⟩ := ku ρ2 i2
  obtain ⟨z, ez, eu, rz⟩ := o x l u px ql qu
  exact ⟨z, ρ3, by simp only [ev_slice, e1, bnd_ok, ev_bind, e2, e3, ux ρ3 i3, ez, Option.bind_some, eu, ev_opt], rz, i3⟩
theorem H_part {R : Int → Prop} {f : M D} (h : Hh I (fun d => ∃ i, d = D.int i ∧ R i) f) : Hh I (fun o => ∃ i, o = some i ∧ R i) (mpart f) := H_bind h fun d ⟨i, e, q⟩ => by
  subst e
  exact fun ρ h => ⟨some i, ρ, rfl, ⟨i, rfl, q⟩, h⟩
def isTx (n : Nat) (d : D) : Prop := ∃ s, d = .str s ∧ tx n s
def isIn (lo hi : Int) (d : D) : Prop := ∃ i, d = .int i ∧ lo ≤ i ∧ i ≤ hi
theorem H_str {n : Nat} {s : Str} (h : tx n s) : Hh I (isTx n) (mpure (.str s)) := H_pure ⟨s, rfl, h⟩
theorem H_add {n m k : Nat} {f g : M Rv} (h : HR I (isTx n) f) (q : HR I (isTx m) g) (l : n + m ≤ k) (l2 : k ≤ 10000000) : Hh I (isTx k) (mfrz (mbinX aAdd f g)) :=
  H_frzF (H_binX h q fun x y ⟨a, ea, ta⟩ ⟨b, eb, tb⟩ => by
    subst ea eb
    refine ⟨.str (a ++ b), ?_, _, rfl, (tx_app ta tb).le l⟩
    have h1 := ta.2
    have h2 := tb.2
    have h3 : (10000000 : Nat) ≤ sizeLine := by decide
    rw [aAdd_str, if_pos (by omega)])
theorem H_addS {n m k : Nat} {f g : M Rv} (h : HR I (isTx n) f) (q : HR I (isTx m) g) (l : n + m ≤ k) (l2 : k ≤ 10000000) : Hh I (fun s => ∃ d, s = Sl.fz d ∧ isTx k d) (mbinX aAdd f g) :=
  H_binX h q fun x y ⟨a, ea, ta⟩ ⟨b, eb, tb⟩ => by
    subst ea eb
    refine ⟨.str (a ++ b), ?_, _, rfl, (tx_app ta tb).le l⟩
    have h1 := ta.2
    have h2 := tb.2
    have h3 : (10000000 : Nat) ≤ sizeLine := by decide
    rw [aAdd_str, if_pos (by omega)]
theorem H_sliceT {n : Nat} {f : M Rv} {lo hi : M (Option Int)} {L U : Option Int → Prop} (h : HR I (isTx n) f) (kl : Hh I L lo) (ku : Hh I U hi) (l2 : n ≤ 10000000) : Hh I (isTx n) (mfrz (mslice f lo hi)) :=
  H_frzF (H_slice h kl ku fun x l u ⟨a, ea, ta⟩ _ _ => by
    subst ea
    have h1 := ta.2
    have h3 : (10000000 : Nat) ≤ sizeLine := by decide
    refine ⟨.fz (.str (Txt.slice a l u)), ?_, rfl, _, rfl, _, rfl, tx_slice ta l u⟩
    show (if a.length ≤ sizeLine then _ else _) = _
    rw [if_pos (by omega)])
theorem H_none : Hh I (fun _ : Option Int => True) (mpure none) := H_pure trivial
theorem H_upper {n : Nat} {f : M D} (h : Hh I (isTx n) f) (l2 : n ≤ 5000000) : Hh I (isTx n) (mfrz (mm0 oUpper f)) :=
  H_frzF (H_bind h fun d ⟨a, ea, ta⟩ => by
    subst ea
    have h1 := ta.2
    have e : oUpper a = some (.fz (.str (Txt.upper a))) := if_pos (by omega)
    exact fun ρ i => ⟨_, ρ, by
      show mopt ((oUpper a).bind unown) ρ = _
      rw [e]; rfl, ⟨_, rfl, _, rfl, tx_upper ta⟩, i⟩)
/-- a list of texts, all their signs together -/
def isTxs (n m : Nat) (ds : List D) : Prop := ∃ ws : List Str, ds = ws.map D.str ∧ (∀ w ∈ ws, okS w) ∧ (ws.map (·.length)).sum ≤ n ∧ ws.length ≤ m
theorem H_join {n m k : Nat} {sep : Str} {g : M Rv} (hs : okS sep) (h : HR I (fun d => ∃ ds, d = D.lst ds ∧ isTxs n m ds) g) (l : n + m * sep.length ≤ k) (l2 : k ≤ 10000000) : Hh I (fun s => ∃ d, s = Sl.fz d ∧ isTx k d) (mm1 oJoin (mpure (.str sep)) g) := fun ρ i => by
  obtain ⟨r, ρ1, e1, i1, x, ⟨ds, ex, ws, ew, w1, w2, w3⟩, ux⟩ := h ρ i
  subst ex ew
  have hb : (ws.map (·.length)).sum + ws.length * sep.length ≤ k := by
    have := Nat.mul_le_mul_right sep.length w3
    omega
  have e := join_ok (sep := sep) (ws := ws) (by omega)
  exact ⟨.fz (.str (Txt.join sep ws)), ρ1, by simp only [ev_m1, ev_pure, bnd_ok, kM1_str, e1, ev_bind, ux ρ1 i1, e, Option.bind_some, unown_fz, ev_opt], ⟨_, rfl, _, rfl, tx_joinL hs w1 hb⟩, i1⟩
end
/-- a frame whose first slot is a jar -/
def IJ (p : Bool) (rest : List Sl) (ρ : ME.Env) : Prop := ∃ a b : Int, ρ = .ow p [.int a, .int b] :: rest ∧ 0 ≤ b ∧ b < 2147483647
section
variable {p : Bool} {rest : List Sl} {P : D → Prop}
theorem J_take {f : M D} {Pt : Int → Prop} (h : Hh (IJ p rest) (fun d => ∃ t, d = D.int t ∧ 0 < t ∧ t < 1073741824 ∧ Pt t) f) : Hh (IJ p rest) (fun s => ∃ d, s = Sl.fz d ∧ ∃ r t, d = D.int r ∧ 0 ≤ r ∧ r < t ∧ Pt t) (mCall F_take (mgcons (mAg 0) (mgcons (mdat f) mgnil))) := fun ρ ⟨a, b, e, b1, b2⟩ => by
  subst e
  obtain ⟨d, ρ1, e1, ⟨t, et, t1, t2, pt⟩, a1, b', e2, c1, c2⟩ := h _ ⟨a, b, rfl, b1, b2⟩
  subst et e2
  obtain ⟨r, a2, b3, q, r1, r2, r3, r4⟩ := take_spec a1 b' t c1 c2 t1 t2
  exact ⟨.fz (.int r), .ow p [.int a2, .int b3] :: rest, by simp [e1, q], ⟨_, rfl, r, t, rfl, r1, r2, pt⟩, a2, b3, rfl, r3, r4⟩
theorem J_one {f : M D} (h : Hh (IJ p rest) (fun d => ∃ ds, (d = D.tup ds ∨ d = D.lst ds) ∧ ds ≠ [] ∧ ds.length < 1000000 ∧ ∀ x ∈ ds, P x) f) : Hh (IJ p rest) (fun s => ∃ d, s = Sl.fz d ∧ P d) (mCall F_one (mgcons (mAg 0) (mgcons (mdat f) mgnil))) := fun ρ ⟨a, b, e, b1, b2⟩ => by
  subst e
  obtain ⟨d, ρ1, e1, ⟨ds, ed, d1, d2, d3⟩, a1, b', e2, c1, c2⟩ := h _ ⟨a, b, rfl, b1, b2⟩
  subst e2
  obtain ⟨a2, b3, x, hx, q, r3, r4⟩ := one_tup a1 b' c1 c2 (.fz d) d ds (.fz d) ed d1 d2
  exact ⟨.fz x, .ow p [.int a2, .int b3] :: rest, by simp [e1, q], ⟨_, rfl, d3 x hx⟩, a2, b3, rfl, r3, r4⟩
/-- .. of a slot's list or tuple -/
theorem J_oneS {i : Nat} {ds : List D} {s : Sl} (hs : rest[i]? = some s) (hd : (∃ d, DSl s d ∧ (d = D.tup ds ∨ d = D.lst ds))) (d1 : ds ≠ []) (d2 : ds.length < 1000000) (d3 : ∀ x ∈ ds, P x) : Hh (IJ p rest) (fun s => ∃ d, s = Sl.fz d ∧ P d) (mCall F_one (mgcons (mAg 0) (mgcons (mAg (i + 1)) mgnil))) := fun ρ ⟨a, b, e, b1, b2⟩ => by
  subst e
  obtain ⟨d, hd1, hd2⟩ := hd
  obtain ⟨a2, b3, x, hx, q, r3, r4⟩ := one_tup a b b1 b2 s d ds hd1 hd2 d1 d2
  exact ⟨.fz x, .ow p [.int a2, .int b3] :: rest, by simp [hs, hd1.a, q], ⟨_, rfl, d3 x hx⟩, a2, b3, rfl, r3, r4⟩
theorem J_oneO {i : Nat} {ds : List D} (hs : rest[i]? = some (.ow false ds)) (d1 : ds ≠ []) (d2 : ds.length < 1000000) (d3 : ∀ x ∈ ds, P x) : Hh (IJ p rest) (fun s => ∃ d, s = Sl.fz d ∧ P d) (mCall F_one (mgcons (mAg 0) (mgcons (mAg (i + 1)) mgnil))) := fun ρ ⟨a, b, e, b1, b2⟩ => by
  subst e
  obtain ⟨a2, b3, x, hx, q, r3, r4⟩ := one_own a b b1 b2 ds d1 d2
  have es : rest.set i (.ow false ds) = rest := by
    apply List.ext_getElem?
    intro j
    by_cases hj : i = j
    · subst hj
      rw [List.getElem?_set_self (List.getElem?_eq_some_iff.mp hs).1, hs]
    · rw [List.getElem?_set_ne hj]
  exact ⟨.fz x, .ow p [.int a2, .int b3] :: rest, by simp [hs, q, es], ⟨_, rfl, d3 x hx⟩, a2, b3, rfl, r3, r4⟩
theorem J_slot {i : Nat} {s : Sl} {d : D} (hs : rest[i]? = some s) (h : OSl s d) (q : P d) : HR (IJ p rest) P (mslot (i + 1)) := R_slot (fun ρ ⟨a, b, e, _⟩ => by
  subst e
  rw [List.getElem?_cons_succ, hs]
  exact ⟨h.sd, h.g _ _⟩) q
theorem J_var {i : Nat} {s : Sl} {d : D} (hs : rest[i]? = some s) (h : DSl s d) (q : P d) : Hh (IJ p rest) P (mvar (i + 1)) := fun ρ ⟨a, b, e, c⟩ => by
  subst e
  exact ⟨d, _, by rw [ev_var, List.getElem?_cons_succ, hs, h.v]; rfl, q, a, b, rfl, c⟩
end
/-! statements, one behind the other -/
section
variable {α : Type} {f g : MS} {ρ ρ1 ρ2 : ME.Env} {o : Out} {i : Nat}
theorem seq_nx (h : f ρ = .nx ρ1) (k : g ρ1 = o) : sSeq f g ρ = o := by rw [ev_seq, h, sq_nx, k]
theorem seq_rt {s : Sl} (h : f ρ = .rt s ρ1) : sSeq f g ρ = .rt s ρ1 := by rw [ev_seq, h, sq_rt]
theorem set_nx {f : M Sl} {s : Sl} (h : f ρ = .ok s ρ1) (k : setSl i s ρ1 = some ρ2) : sSet i f ρ = .nx ρ2 := by rw [ev_set, h, bnS_ok, k, oNx_some]
theorem par_nx {is : List Nat} {f : M (List Sl)} {ss : List Sl} (h : f ρ = .ok ss ρ1) (k : setSls is ss ρ1 = some ρ2) : sPar is f ρ = .nx ρ2 := by rw [ev_par, h, bnS_ok, k, oNx_some]
theorem ret_rt {f : M Sl} {s : Sl} (h : f ρ = .ok s ρ1) : sRet f ρ = .rt s ρ1 := by rw [ev_ret, h, bnS_ok]
theorem if_t {t : M Bool} (h : t ρ = .ok true ρ1) (k : f ρ1 = o) : sIf t f g ρ = o := by rw [ev_sIf, h, bnS_ok]; exact k
theorem if_f {t : M Bool} (h : t ρ = .ok false ρ1) (k : g ρ1 = o) : sIf t f g ρ = o := by rw [ev_sIf, h, bnS_ok]; exact k
theorem mif_t {t : M Bool} {f g : M α} {r : Res α} (h : t ρ = .ok true ρ1) (k : f ρ1 = r) : mif t f g ρ = r := by rw [ev_if, h, bnd_ok]; exact k
theorem mif_f {t : M Bool} {f g : M α} {r : Res α} (h : t ρ = .ok false ρ1) (k : g ρ1 = r) : mif t f g ρ = r := by rw [ev_if, h, bnd_ok]; exact k
theorem xc {f : M Sl} {g : M (List Sl)} {s : Sl} {ss : List Sl} (h : f ρ = .ok s ρ1) (k : g ρ1 = .ok ss ρ2) : mxcons f g ρ = .ok (s :: ss) ρ2 := by rw [ev_xcons, h, bnd_ok, ev_bind, k]; rfl
theorem lc1 {f : M D} {g : M (List D)} {s : D} {ss : List D} (h : f ρ = .ok s ρ1) (k : g ρ1 = .ok ss ρ2) : mlcons f g ρ = .ok (s :: ss) ρ2 := by rw [ev_lcons, h, bnd_ok, ev_bind, k]; rfl
theorem frz_fz {f : M Sl} {d : D} (h : f ρ = .ok (.fz d) ρ1) : mfrz f ρ = .ok d ρ1 := by rw [ev_frz, h]; rfl
theorem frz_ow {f : M Sl} {p : Bool} {d : List D} (h : f ρ = .ok (.ow p d) ρ1) : mfrz f ρ = .ok (.lst d) ρ1 := by rw [ev_frz, h]; rfl
theorem fz_ok {f : M D} {d : D} (h : f ρ = .ok d ρ1) : mfz f ρ = .ok (.fz d) ρ1 := by rw [ev_fz, h]; rfl
theorem def_ret {n : Nat} {ss ts : List Sl} {s : Sl} (h : f (ss ++ List.replicate (n - ss.length) .no) = .rt s ρ1) (k : outS ss ρ1 = ts) : fnOf n f ss = .ret s ts := by rw [ev_def, h, fr_rt, k]
theorem tst_ok {f : M D} {b : Bool} (h : f ρ = .ok (.bl b) ρ1) : mtst f ρ = .ok b ρ1 := by rw [ev_tst, h]; rfl
theorem not_ok {f : M Bool} {b : Bool} (h : f ρ = .ok b ρ1) : mnot f ρ = .ok (!b) ρ1 := by rw [ev_not, h]; rfl
end
end HF
namespace HF
open PySem PySem.Spec PyProof.Rows L2 LamX ME He TL
theorem txs_of {n : Nat} {ds : List D} (h : ∀ d ∈ ds, isTx n d) : isTxs (ds.length * n) ds.length ds := by
  induction ds with
  | nil => exact ⟨[], rfl, (fun _ h => by cases h), by simp, by simp⟩
  | cons d ds ih =>
    obtain ⟨s, rfl, ts⟩ := h d (.head _)
    obtain ⟨ws, e, w1, w2, w3⟩ := ih fun x hx => h x (List.mem_cons_of_mem _ hx)
    refine ⟨s :: ws, by rw [e]; rfl, fun w hw => ?_, ?_, by simp; omega⟩
    · rcases List.mem_cons.mp hw with rfl | hw
      · exact ts.1
      · exact w1 w hw
    · have := ts.2
      rw [List.map_cons, List.sum_cons, List.length_cons, Nat.succ_mul]
      omega
theorem tx_dec {n : Nat} {s : Str} (h : (decide (s.length ≤ n) && s.cps.toList.all fun c => decide (c < 128)) = true) : tx n s := by
  rw [Bool.and_eq_true] at h
  exact ⟨fun c hc => of_decide_eq_true (List.all_eq_true.mp h.2 c hc), of_decide_eq_true h.1⟩
theorem tx.tame {n : Nat} {s : Str} (h : tx n s) (l : n ≤ 1000000) : tameS (.str s) := ⟨Nat.le_trans h.2 l, h.1⟩
theorem ne_lst {I : ME.Env → Prop} {P : D → Prop} {g : M (List D)} (h : Hh I (fun ds : List D => (ds ≠ [] ∧ ds.length < 1000000) ∧ ∀ d ∈ ds, P d) g) : Hh I (fun d => ∃ ds, (d = D.tup ds ∨ d = D.lst ds) ∧ ds ≠ [] ∧ ds.length < 1000000 ∧ ∀ x ∈ ds, P x) (mfrz (mlst g)) :=
  H_mono (H_frzL (H_lst h)) fun d ⟨ds, e, q⟩ => ⟨ds, .inr e, q.1.1, q.1.2, q.2⟩
theorem H_lnilN {I : ME.Env → Prop} {P : D → Prop} : Hh I (fun ds : List D => ds.length ≤ 0 ∧ ∀ d ∈ ds, P d) mlnil := H_pure ⟨Nat.le_refl _, fun _ h => by cases h⟩
theorem H_lconsN {I : ME.Env → Prop} {P : D → Prop} {n : Nat} {f : M D} {g : M (List D)} (h : Hh I P f) (k : Hh I (fun ds : List D => ds.length ≤ n ∧ ∀ d ∈ ds, P d) g) : Hh I (fun ds : List D => ds.length ≤ n + 1 ∧ ∀ d ∈ ds, P d) (mlcons f g) :=
  H_bind h fun d p => H_bind k fun ds q => H_pure ⟨by simp; exact q.1, fun x hx => (List.mem_cons.mp hx).elim (fun e => by rw [e]; exact p) (q.2 x)⟩
theorem H_lconsE {I : ME.Env → Prop} {P : D → Prop} {n : Nat} {f : M D} {g : M (List D)} (h : Hh I P f) (k : Hh I (fun ds : List D => ds.length ≤ n ∧ ∀ d ∈ ds, P d) g) (hn : n < 999999) : Hh I (fun ds : List D => (ds ≠ [] ∧ ds.length < 1000000) ∧ ∀ d ∈ ds, P d) (mlcons f g) :=
  H_bind h fun d p => H_bind k fun ds q => H_pure ⟨⟨by simp, by simp; have := q.1; omega⟩, fun x hx => (List.mem_cons.mp hx).elim (fun e => by rw [e]; exact p) (q.2 x)⟩
/-- a literal of texts -/
theorem L_tx {I : ME.Env → Prop} {n : Nat} (s : Str) (h : (decide (s.length ≤ n) && s.cps.toList.all fun c => decide (c < 128)) = true) : Hh I (isTx n) (mpure (.str s)) := H_str (tx_dec h)
theorem isTx_tx {n m : Nat} (l : n ≤ m) (d : D) (h : isTx n d) : isTx m d := by
  obtain ⟨s, e, t⟩ := h
  exact ⟨s, e, t.le l⟩
theorem drawn_spec (a b most : Int) (hb : 0 ≤ b) (hb2 : b < 2147483647) (h1 : 1 ≤ most) (h2 : most ≤ 12) : ∃ a' b' s, F_drawn_name [.ow true [.int a, .int b], .fz (.int most)] = .ret (.fz (.str s)) [.ow true [.int a', .int b'], .fz (.int most)] ∧ tx 13 s ∧ 0 ≤ b' ∧ b' < 2147483647 := by
  unfold F_drawn_name m_drawn_name
  rw [ev_def]
  obtain ⟨r, a1, b1, q1, r1, r2, r3, r4⟩ := take_spec a b most hb hb2 (by omega) (by omega)
  have hsm : Sm (1 + r) := sm_of (by omega) (by omega)
  obtain ⟨n, hn, hn2⟩ : ∃ n : Nat, 1 + r = (n : Int) ∧ n ≤ 12 := ⟨(1 + r).toNat, by omega, by omega⟩
  have hit : mbind (mvar 2) asR1 [.ow true [.int a1, .int b1], .fz (.int most), .fz (.int (1 + r)), .no, .no] = .ok (rngD 0 1 n) [.ow true [.int a1, .int b1], .fz (.int most), .fz (.int (1 + r)), .no, .no] := by
    rw [hn] at hsm ⊢
    simp [asR1_nat hsm]
  obtain ⟨ys, ρ', c1, c2, c3, a2, b2, rfl, c5, c6⟩ := comp_pass (own := [4]) (g := gNm 4) (fe := mfrz (mCall F_one (mgcons (mAg 0) (mgcons (mdat (mfrz (mlst (mlcons (mpure (.str "a")) (mlcons (mpure (.str "b")) (mlcons (mpure (.str "e")) (mlcons (mpure (.str "o")) (mlcons (mpure (.str "z")) mlnil)))))))) mgnil)))) (IJ true [.fz (.int most), .fz (.int (1 + r)), .no, .no]) (isTx 1) hit
    (ρ2 := [.ow true [.int a1, .int b1], .fz (.int most), .fz (.int (1 + r)), .no, .no]) (by simp) ⟨a1, b1, rfl, r3, r4⟩ (fun d hd ρ ⟨a, b, e, b1, b2⟩ => by
      subst e
      obtain ⟨s, ρ', e1, ⟨x, rfl, px⟩, a', b', rfl, c1, c2⟩ := J_one (p := true) (rest := [.fz (.int most), .fz (.int (1 + r)), .no, .fz d]) (P := isTx 1) (ne_lst (H_lconsE (L_tx "a" (by decide +kernel)) (H_lconsN (L_tx "b" (by decide +kernel)) (H_lconsN (L_tx "e" (by decide +kernel)) (H_lconsN (L_tx "o" (by decide +kernel)) (H_lconsN (L_tx "z" (by decide +kernel)) H_lnilN)))) (by decide))) _ ⟨a, b, rfl, b1, b2⟩
      exact ⟨_, x, _, [.ow true [.int a', .int b'], .fz (.int most), .fz (.int (1 + r)), .no, .no], by simp; rfl, by rw [ev_frz, e1]; rfl, px, by simp, a', b', rfl, c1, c2⟩) (by rw [rng_len]; exact Nat.le_trans hn2 (by decide))
  obtain ⟨ws, ew, w1, w2, w3⟩ := txs_of c3
  rw [rng_len] at c2
  have hj := join_ok (sep := "") (ws := ws) (by rw [show ("" : Str).length = 0 by decide]; omega)
  have ht : tx 12 (Txt.join "" ws) := tx_joinL (fun c hc => by
    have : ("" : Str).cps.toList = [] := by decide
    rw [this] at hc; cases hc) w1 (by rw [show ("" : Str).length = 0 by decide]; omega)
  generalize Txt.join "" ws = nm at hj ht
  have hi := is_name_eq (.fz (.str nm)) (.str nm) (.fz _) (ht.tame (by decide))
  have hlen : nm.length + ("x" : Str).length ≤ sizeLine := by
    have := ht.2
    have e1 : ("x" : Str).length = 1 := by decide
    have : (100 : Nat) ≤ sizeLine := by decide
    omega
  subst ew
  cases hq : isNm nm with
  | true =>
    rw [show nmD (.str nm) = true from hq] at hi
    exact ⟨a2, b2, nm, by simp [q1, c1, hj, hi], ht.le (by decide), c5, c6⟩
  | false =>
    rw [show nmD (.str nm) = false from hq] at hi
    exact ⟨a2, b2, nm ++ "x", by simp [q1, c1, hj, hi, hlen], tx_app (m := 1) ht (tx_dec (s := "x") (by decide +kernel)), c5, c6⟩
theorem sum_take {ws : List Str} (k : Nat) : ((ws.take k).map (·.length)).sum + ((ws.drop k).map (·.length)).sum = (ws.map (·.length)).sum := by
  conv => rhs; rw [← List.take_append_drop k ws]
  rw [List.map_append, List.sum_append]
theorem txs_take {n m k : Nat} {ds : List D} (h : isTxs n m ds) : isTxs n m (ds.take k) := by
  obtain ⟨ws, rfl, w1, w2, w3⟩ := h
  refine ⟨ws.take k, by rw [List.map_take], fun w hw => w1 w (List.mem_of_mem_take hw), ?_, by rw [List.length_take]; omega⟩
  have := sum_take (ws := ws) k
  omega
theorem txs_drop {n m k : Nat} {ds : List D} (h : isTxs n m ds) : isTxs n m (ds.drop k) := by
  obtain ⟨ws, rfl, w1, w2, w3⟩ := h
  refine ⟨ws.drop k, by rw [List.map_drop], fun w hw => w1 w (List.mem_of_mem_drop hw), ?_, by rw [List.length_drop]; omega⟩
  have := sum_take (ws := ws) k
  omega
theorem txs_app {n m n' m' : Nat} {ds es : List D} (h : isTxs n m ds) (k : isTxs n' m' es) : isTxs (n + n') (m + m') (ds ++ es) := by
  obtain ⟨ws, rfl, w1, w2, w3⟩ := h
  obtain ⟨vs, rfl, v1, v2, v3⟩ := k
  refine ⟨ws ++ vs, by rw [List.map_append], fun w hw => (List.mem_append.mp hw).elim (w1 w) (v1 w), ?_, by rw [List.length_append]; omega⟩
  rw [List.map_append, List.sum_append]
  omega
theorem txs_cut {n m : Nat} {ds : List D} (h : isTxs n m ds) (lo hi : Option Int) : isTxs n m (ME.cutD ds lo hi) := by
  unfold ME.cutD
  exact txs_take (txs_drop h)
theorem txs_split {n : Nat} {t y : Str} (h : tx n t) (hy : y.length = 1) : isTxs n (n + 1) ((Txt.split t y).map D.str) := by
  have := split_facts t y hy
  have := h.2
  have : 0 < (Txt.split t y).length := List.length_pos_iff.mpr (split_ne t y hy)
  exact ⟨_, rfl, split_okS h.1, by omega, by omega⟩
/-- slices of a list of texts, put together -/
theorem H_catL {I : ME.Env → Prop} {n m n' m' : Nat} {f g : M Rv} (h : HR I (fun d => ∃ ds, d = D.lst ds ∧ isTxs n m ds) f) (k : HR I (fun d => ∃ ds, d = D.lst ds ∧ isTxs n' m' ds) g) (l : m + m' ≤ 10000000) : Hh I (fun d => ∃ ds, d = D.lst ds ∧ isTxs (n + n') (m + m') ds) (mfrz (mbinX aAdd f g)) :=
  H_frzL (H_binL h k fun x y ⟨ds, e1, t1⟩ ⟨es, e2, t2⟩ => by
    subst e1 e2
    refine ⟨ds ++ es, ?_, txs_app t1 t2⟩
    obtain ⟨ws, rfl, _, _, w3⟩ := t1
    obtain ⟨vs, rfl, _, _, v3⟩ := t2
    have h3 : (10000000 : Nat) ≤ sizeLine := by decide
    rw [aAdd_lst, if_pos (by rw [List.length_map, List.length_map]; omega)])
theorem H_cutL {I : ME.Env → Prop} {n m : Nat} {f : M Rv} {lo hi : M (Option Int)} {L U : Option Int → Prop} (h : HR I (fun d => ∃ ds, d = D.lst ds ∧ isTxs n m ds) f) (kl : Hh I L lo) (ku : Hh I U hi) : Hh I (fun d => ∃ ds, d = D.lst ds ∧ isTxs n m ds) (mfrz (mslice f lo hi)) :=
  H_frzL (H_slice h kl ku fun x l u ⟨ds, e, t⟩ _ _ => by
    subst e
    exact ⟨.ow false (ME.cutD ds l u), rfl, rfl, _, rfl, txs_cut t l u⟩)
theorem H_int {I : ME.Env → Prop} {i : Int} : Hh I (fun d => ∃ j, d = D.int j ∧ True) (mpure (.int i)) := H_pure ⟨i, rfl, trivial⟩
theorem H_anyI {I : ME.Env → Prop} {f : M D} (h : Hh I (fun d => ∃ j, d = D.int j ∧ True) f) : Hh I (fun o : Option Int => ∃ i, o = some i ∧ True) (mpart f) := H_part h
theorem H_addI {I : ME.Env → Prop} {f g : M Rv} (h : HR I (fun d => ∃ j, d = D.int j ∧ True) f) (k : HR I (fun d => ∃ j, d = D.int j ∧ True) g) : Hh I (fun d => ∃ j, d = D.int j ∧ True) (mfrz (mbinX aAdd f g)) :=
  H_frzF (H_binX h k fun x y ⟨i, e1, _⟩ ⟨j, e2, _⟩ => by
    subst e1 e2
    exact ⟨.int (i + j), rfl, _, rfl, trivial⟩)
theorem bent_spec (a b : Int) (t : Str) (n : Nat) (hb : 0 ≤ b) (hb2 : b < 2147483647) (ht : tx n t) (hn : n ≤ 100000) : ∃ a' b' s, F_bent_text [.ow true [.int a, .int b], .fz (.str t)] = .ret (.fz (.str s)) [.ow true [.int a', .int b'], .fz (.str t)] ∧ tx (4 * n + 10) s ∧ 0 ≤ b' ∧ b' < 2147483647 := by
  have hlen := ht.2
  obtain ⟨fo, a1, b1, q1, r1, r2, r3, r4⟩ := take_spec a b 6 hb hb2 (by omega) (by omega)
  obtain ⟨at_, a2, b2, q2, r5, r6, r7, r8⟩ := take_spec a1 b1 (t.length + 1) r3 r4 (by omega) (by omega)
  have hsp := split_ok (t := t) (y := "\n") (by decide) (by omega)
  have htx := txs_split (y := "\n") ht (by decide)
  have hne := split_ne t "\n" (by decide)
  have hfa := split_facts t "\n" (by decide)
  generalize Txt.split t "\n" = ls at hsp htx hne hfa
  have hpos : 0 < ls.length := List.length_pos_iff.mpr hne
  obtain ⟨k, a3, b3, q3, s1, s2, s3, s4⟩ := take_spec a2 b2 ls.length r7 r8 (by omega) (by omega)
  have hsl : fLen [.str t] = some (.int t.length) := small_str (by omega)
  -- the first three statements
  have pre : ∀ (g : MS) (o : Out), g [.ow true [.int a3, .int b3], .fz (.str t), .fz (.int fo), .fz (.int at_), .ow false (ls.map D.str), .fz (.int k), .no] = o →
      sSeq (sPar [2, 3] (mxcons (mCall F_take (mgcons (mAg 0) (mgcons (mdat (mpure (.int 6))) mgnil))) (mxcons (mCall F_take (mgcons (mAg 0) (mgcons (mdat (mfrz (mbinX aAdd (mval (mfn fLen (mcons (mslot 1) mnil))) (mval (mpure (.int 1)))))) mgnil))) mxnil))) (sSeq (sSet 4 (mm1 oSplit (mvar 1) (mval (mpure (.str "\n"))))) (sSeq (sSet 5 (mCall F_take (mgcons (mAg 0) (mgcons (mdat (mfn fLen (mcons (mslot 4) mnil))) mgnil)))) g)) [.ow true [.int a, .int b], .fz (.str t), .no, .no, .no, .no, .no] = o := fun g o h => by
    refine seq_nx (ρ1 := [.ow true [.int a2, .int b2], .fz (.str t), .fz (.int fo), .fz (.int at_), .no, .no, .no]) (by simp [q1, q2, hsl]) (seq_nx (ρ1 := [.ow true [.int a2, .int b2], .fz (.str t), .fz (.int fo), .fz (.int at_), .ow false (ls.map D.str), .no, .no]) (by simp [hsp]) (seq_nx (ρ1 := [.ow true [.int a3, .int b3], .fz (.str t), .fz (.int fo), .fz (.int at_), .ow false (ls.map D.str), .fz (.int k), .no]) (by simp [q3]) h))
  by_cases f0 : fo = 0
  · subst f0
    let I := IJ true [.fz (.str t), .fz (.int 0), .fz (.int at_), .ow false (ls.map D.str), .fz (.int k), .no]
    have hT : HR I (isTx n) (mslot 1) := J_slot (i := 0) rfl (.fz _) ⟨t, rfl, ht⟩
    have hA : HR I (fun d => ∃ j, d = D.int j ∧ True) (mslot 3) := J_slot (i := 2) rfl (.fz _) ⟨_, rfl, trivial⟩
    have hAv : Hh I (fun d => ∃ j, d = D.int j ∧ True) (mvar 3) := J_var (i := 2) rfl (.fz _) ⟨_, rfl, trivial⟩
    obtain ⟨s, ρ', e1, ⟨d, rfl, s', rfl, ts⟩, a4, b4, rfl, u1, u2⟩ := H_addS (k := 4 * n + 10) (R_val (H_sliceT hT H_none (H_anyI hAv) (by omega))) (R_val (H_sliceT hT (H_anyI (H_addI hA (R_val (H_int (i := 1))))) H_none (by omega))) (by omega) (by omega) _ (⟨a3, b3, rfl, s3, s4⟩ : I _)
    refine ⟨a4, b4, s', def_ret (pre _ _ (seq_rt (if_t (by simp) (ret_rt e1)))) (by simp), ts, u1, u2⟩
  · have f0' : (fo == 0) = false := by simpa using f0
    by_cases f4 : fo < 4
    · obtain ⟨s0, ρ1, e0, ⟨d0, rfl, sg, rfl, tsg⟩, a5, b5, rfl, v1, v2⟩ := J_one (p := true) (rest := [.fz (.str t), .fz (.int fo), .fz (.int at_), .ow false (ls.map D.str), .fz (.int k), .no]) (P := isTx 4) (ne_lst (H_lconsE (L_tx " " (by decide +kernel)) (H_lconsN (L_tx "\n" (by decide +kernel)) (H_lconsN (L_tx "-" (by decide +kernel)) (H_lconsN (L_tx "0" (by decide +kernel)) (H_lconsN (L_tx "1" (by decide +kernel)) (H_lconsN (L_tx "7" (by decide +kernel)) (H_lconsN (L_tx "," (by decide +kernel)) (H_lconsN (L_tx "a" (by decide +kernel)) (H_lconsN (L_tx "none" (by decide +kernel)) (H_lconsN (L_tx "x" (by decide +kernel)) (H_lconsN (L_tx "+" (by decide +kernel)) (H_lconsN (L_tx "of" (by decide +kernel)) (H_lconsN (L_tx "2" (by decide +kernel)) (H_lconsN (L_tx "from" (by decide +kernel)) H_lnilN))))))))))))) (by decide))) _ ⟨a3, b3, rfl, s3, s4⟩
      let I := IJ true [.fz (.str t), .fz (.int fo), .fz (.int at_), .ow false (ls.map D.str), .fz (.int k), .fz (.str sg)]
      have hT : HR I (isTx n) (mslot 1) := J_slot (i := 0) rfl (.fz _) ⟨t, rfl, ht⟩
      have hA : HR I (fun d => ∃ j, d = D.int j ∧ True) (mslot 3) := J_slot (i := 2) rfl (.fz _) ⟨_, rfl, trivial⟩
      have hG : HR I (isTx 4) (mslot 6) := J_slot (i := 5) rfl (.fz _) ⟨_, rfl, tsg⟩
      have hAv : Hh I (fun d => ∃ j, d = D.int j ∧ True) (mvar 3) := J_var (i := 2) rfl (.fz _) ⟨_, rfl, trivial⟩
      have hB : Hh I (fun d => ∃ j, d = D.int j ∧ True) (mfn fInt (mcons (mval (mbin aEq (mslot 2) (mval (mpure (.int 3))))) mnil)) := fun ρ ⟨a, b, e, c⟩ => by
        subst e
        exact ⟨.int (if (fo == 3) = true then 1 else 0), _, by simp, ⟨_, rfl, trivial⟩, a, b, rfl, c⟩
      obtain ⟨s, ρ', e1, ⟨d, rfl, s', rfl, ts⟩, a4, b4, rfl, u1, u2⟩ := H_addS (k := 4 * n + 10) (R_val (H_add (k := n + 4) (R_val (H_sliceT hT H_none (H_anyI hAv) (by omega))) hG (by omega) (by omega))) (R_val (H_sliceT hT (H_anyI (H_addI hA (R_val hB))) H_none (by omega))) (by omega) (by omega) _ (⟨a5, b5, rfl, v1, v2⟩ : I _)
      exact ⟨a4, b4, s', def_ret (pre _ _ (seq_nx (ρ1 := [.ow true [.int a3, .int b3], .fz (.str t), .fz (.int fo), .fz (.int at_), .ow false (ls.map D.str), .fz (.int k), .no]) (if_f (by simp [f0']) rfl) (seq_rt (if_t (by simp [f4]) (seq_nx (set_nx e0 rfl) (ret_rt e1)))))) (by simp), ts, u1, u2⟩
    · let I := IJ true [.fz (.str t), .fz (.int fo), .fz (.int at_), .ow false (ls.map D.str), .fz (.int k), .no]
      have hL : HR I (fun d => ∃ ds, d = D.lst ds ∧ isTxs n (n + 1) ds) (mslot 4) := J_slot (i := 3) rfl (.ow false _) ⟨_, rfl, htx⟩
      have hK : HR I (fun d => ∃ j, d = D.int j ∧ True) (mslot 5) := J_slot (i := 4) rfl (.fz _) ⟨_, rfl, trivial⟩
      have hKv : Hh I (fun d => ∃ j, d = D.int j ∧ True) (mvar 5) := J_var (i := 4) rfl (.fz _) ⟨_, rfl, trivial⟩
      have oL : okS "\n" := (tx_dec (n := 1) (s := "\n") (by decide +kernel)).1
      have l1 : ("\n" : Str).length = 1 := by decide
      by_cases f5 : fo = 4
      · subst f5
        obtain ⟨s, ρ', e1, ⟨d, rfl, s', rfl, ts⟩, a4, b4, rfl, u1, u2⟩ := H_join (k := 4 * n + 10) oL (R_val (H_catL (R_val (H_cutL hL H_none (H_anyI (H_addI hK (R_val (H_int (i := 1))))))) (R_val (H_cutL hL (H_anyI hKv) H_none)) (by omega))) (by rw [l1]; omega) (by omega) _ (⟨a3, b3, rfl, s3, s4⟩ : I _)
        exact ⟨a4, b4, s', def_ret (pre _ _ (seq_nx (ρ1 := [.ow true [.int a3, .int b3], .fz (.str t), .fz (.int 4), .fz (.int at_), .ow false (ls.map D.str), .fz (.int k), .no]) (if_f (by simp) rfl) (seq_nx (ρ1 := [.ow true [.int a3, .int b3], .fz (.str t), .fz (.int 4), .fz (.int at_), .ow false (ls.map D.str), .fz (.int k), .no]) (if_f (by simp) rfl) (ret_rt (mif_t (by simp) e1))))) (by simp), ts, u1, u2⟩
      · have f5' : (fo == 4) = false := by simpa using f5
        obtain ⟨s, ρ', e1, ⟨d, rfl, s', rfl, ts⟩, a4, b4, rfl, u1, u2⟩ := H_join (k := 4 * n + 10) oL (R_val (H_catL (R_val (H_cutL hL H_none (H_anyI hKv))) (R_val (H_cutL hL (H_anyI (H_addI hK (R_val (H_int (i := 1))))) H_none)) (by omega))) (by rw [l1]; omega) (by omega) _ (⟨a3, b3, rfl, s3, s4⟩ : I _)
        exact ⟨a4, b4, s', def_ret (pre _ _ (seq_nx (ρ1 := [.ow true [.int a3, .int b3], .fz (.str t), .fz (.int fo), .fz (.int at_), .ow false (ls.map D.str), .fz (.int k), .no]) (if_f (by simp [f0']) rfl) (seq_nx (ρ1 := [.ow true [.int a3, .int b3], .fz (.str t), .fz (.int fo), .fz (.int at_), .ow false (ls.map D.str), .fz (.int k), .no]) (if_f (by simp [f4]) rfl) (ret_rt (mif_f (by simp [f5']) e1))))) (by simp), ts, u1, u2⟩
end HF
namespace HF
open PySem PySem.Spec PyProof.Rows L2 LamX ME He TL
theorem loop_passN {g : D → ME.Env → Option ME.Env} {body : MS} (I : Nat → ME.Env → Prop) (N : Nat) : ∀ {ds : List D} {k : Nat} {ρ : ME.Env}, (∀ d ∈ ds, ∀ k ρ, k < N → I k ρ → ∃ ρ1 ρ2, g d ρ = some ρ1 ∧ body ρ1 = .nx ρ2 ∧ I (k + 1) ρ2) → k + ds.length ≤ N → I k ρ → ∃ ρ', sLoop g body ds ρ = .nx ρ' ∧ I (k + ds.length) ρ'
  | [], k, ρ, _, _, i => ⟨ρ, rfl, i⟩
  | d :: ds, k, ρ, h, hN, i => by
    rw [List.length_cons] at hN
    obtain ⟨ρ1, ρ2, e1, e2, i2⟩ := h d (.head _) k ρ (by omega) i
    obtain ⟨ρ', e3, i3⟩ := loop_passN (g := g) (body := body) I N (fun d hd => h d (List.mem_cons_of_mem _ hd)) (by omega) i2
    exact ⟨ρ', by rw [ev_loop1 _ _ _ _ e1, e2, loopK_nx, e3], by rw [List.length_cons, show k + (ds.length + 1) = k + 1 + ds.length by omega]; exact i3⟩
/-- names as the law draws them -/
structure Nms (zs : List Str) : Prop where
  z : ∀ z ∈ zs, isNm z = true
  nd : zs.Nodup
theorem Nms.fb {zs : List Str} : ∀ {acc : List Str} {i : Nat}, (∀ z ∈ zs, isNm z = true) → (acc ++ zs).Nodup → fb acc i (zs.map D.str) = none := by
  induction zs with
  | nil => intros; rfl
  | cons z zs ih =>
    intro acc i hz nd
    have hn : (acc.any fun y => y == z) = false := by
      rw [List.any_eq_false]
      intro y hy
      rw [List.nodup_append] at nd
      have := nd.2.2 y hy z (.head _)
      simpa using this
    have h1 := hz z (.head _)
    rw [List.map_cons, HF.fb, h1, hn]
    exact ih (fun x hx => hz x (List.mem_cons_of_mem _ hx)) (by simpa using nd)
theorem Nms.none {zs : List Str} (h : Nms zs) (hl : zs.length ≤ 24) : wrongN (.tup (zs.map D.str)) = none := by
  rw [wrongN_tup, if_neg (by rw [List.length_map]; omega), Nms.fb h.z (by simpa using h.nd)]
  rfl
theorem Nms.tame {zs : List Str} (h : Nms zs) (hl : zs.length ≤ 24) : tameN (.tup (zs.map D.str)) := by
  refine ⟨fun d hd => ?_, by rw [List.length_map]; omega⟩
  obtain ⟨z, hz, rfl⟩ := List.mem_map.mp hd
  have := isNm_ok (h.z z hz)
  exact ⟨by omega, this.1⟩
section
variable {p : Bool} {rest : List Sl}
theorem J_drawn {f : M D} (h : Hh (IJ p rest) (fun d => ∃ t, d = D.int t ∧ 1 ≤ t ∧ t ≤ 12) f) : Hh (IJ p rest) (fun s => ∃ d, s = Sl.fz d ∧ isTx 13 d) (mCall F_drawn_name (mgcons (mAg 0) (mgcons (mdat f) mgnil))) := fun ρ ⟨a, b, e, b1, b2⟩ => by
  subst e
  obtain ⟨d, ρ1, e1, ⟨t, et, t1, t2⟩, a1, b', e2, c1, c2⟩ := h _ ⟨a, b, rfl, b1, b2⟩
  subst et e2
  obtain ⟨a2, b3, s, q, ts, r3, r4⟩ := drawn_spec a1 b' t c1 c2 t1 t2
  exact ⟨.fz (.str s), .ow p [.int a2, .int b3] :: rest, by simp [e1, q], ⟨_, rfl, _, rfl, ts⟩, a2, b3, rfl, r3, r4⟩
end
theorem isTx_le {n m : Nat} {d : D} (h : isTx n d) (l : n ≤ m) : isTx m d := isTx_tx l d h
theorem L_int {I : ME.Env → Prop} {P : D → Prop} {i : Int} (h : P (.int i)) : Hh I P (mpure (.int i)) := H_pure h
def Fo (x : Sl) : Prop := Fr x ∨ ∃ ds, x = .ow false ds
theorem Fo.st {x s : Sl} {i : Nat} {ρ : ME.Env} (h : Fo x) : gSt (some x) i s ρ = some (ρ.set i s) := by
  rcases h with h | ⟨d, rfl⟩
  · exact h.st
  · rfl
theorem some_spec (a b : Int) (hb : 0 ≤ b) (hb2 : b < 2147483647) : ∃ a' b' zs, F_some_names [.ow true [.int a, .int b]] = .ret (.nt (zs.map D.str)) [.ow true [.int a', .int b']] ∧ Nms zs ∧ zs.length ≤ 24 ∧ 0 ≤ b' ∧ b' < 2147483647 := by
  -- how many turns
  obtain ⟨s0, ρ0, e0, ⟨d0, rfl, m, rfl, hm⟩, a1, b1, rfl, c1, c2⟩ := J_one (p := true) (rest := [.ow false [], .no, .no, .no, .no]) (P := fun d => ∃ m : Nat, d = .int (m : Int) ∧ m ≤ 24) (ne_lst (H_lconsE (L_int (i := 0) ⟨0, rfl, by omega⟩) (H_lconsN (L_int (i := 1) ⟨1, rfl, by omega⟩) (H_lconsN (L_int (i := 2) ⟨2, rfl, by omega⟩) (H_lconsN (L_int (i := 3) ⟨3, rfl, by omega⟩) (H_lconsN (L_int (i := 5) ⟨5, rfl, by omega⟩) (H_lconsN (L_int (i := 8) ⟨8, rfl, by omega⟩) (H_lconsN (L_int (i := 24) ⟨24, rfl, by omega⟩) H_lnilN)))))) (by decide))) _ ⟨a, b, rfl, hb, hb2⟩
  have hmul : CMul (m : Int) 2 := .inr ⟨by omega, by omega⟩
  have hsm : Sm ((m * 2 : Nat) : Int) := smN (by omega)
  have hit := fun (h : M D) (e : h = mfrz (mCall F_one (mgcons (mAg 0) (mgcons (mdat (mfrz (mlst (mlcons (mpure (.int 0)) (mlcons (mpure (.int 1)) (mlcons (mpure (.int 2)) (mlcons (mpure (.int 3)) (mlcons (mpure (.int 5)) (mlcons (mpure (.int 8)) (mlcons (mpure (.int 24)) mlnil)))))))))) mgnil)))) => (show mbind (mfrz (mbinX aMul (mval h) (mval (mpure (.int 2))))) asR1 [.ow true [.int a, .int b], .ow false [], .no, .no, .no, .no] = .ok (rngD 0 1 (m * 2)) [.ow true [.int a1, .int b1], .ow false [], .no, .no, .no, .no] from by
    have eh : h [.ow true [.int a, .int b], .ow false [], .no, .no, .no, .no] = .ok (.int (m : Int)) [.ow true [.int a1, .int b1], .ow false [], .no, .no, .no, .no] := by rw [e]; exact frz_fz e0
    have hm2 : ((m : Int) * 2) = ((m * 2 : Nat) : Int) := by omega
    simp only [ev_bind, ev_frz, ev_binX, ev_val, eh, bnd_ok, ev_pure, ev_useV, aMul_int, hmul, if_true, Option.bind_some, unown_fz, ev_opt, kFrz_fz, hm2, asR1_nat hsm])
  -- the turns
  let I : Nat → ME.Env → Prop := fun k ρ => ∃ (zs : List Str) (x y z w : Sl), IJ true [.ow false (zs.map D.str), x, y, z, w] ρ ∧ Nms zs ∧ zs.length ≤ k ∧ Fr x ∧ Fr y ∧ Fr z ∧ Fo w
  have turn : ∀ d ∈ rngD 0 1 (m * 2), ∀ k ρ, k < 48 → I k ρ → ∃ ρ1 ρ2, gNm 2 d ρ = some ρ1 ∧ (sSeq (sSet 3 (mCall F_drawn_name (mgcons (mAg 0) (mgcons (mdat (mfrz (mCall F_one (mgcons (mAg 0) (mgcons (mdat (mfrz (mlst (mlcons (mpure (.int 1)) (mlcons (mpure (.int 2)) (mlcons (mpure (.int 3)) (mlcons (mpure (.int 12)) mlnil))))))) mgnil))))) mgnil)))) (sSeq (sSet 4 (mif (mtst (mbin aNe (mslot 1) (mval (mfrz (mlst mlnil))))) (mCall F_one (mgcons (mAg 0) (mgcons (mAg 1) mgnil))) (mmove 3))) (sSeq (sSet 5 (mlst (mlcons (mvar 3) (mlcons (mvar 3) (mlcons (mfrz (mbinX aAdd (mslot 4) (mval (mpure (.str "a"))))) (mlcons (mfrz (mslice (mslot 4) (mpart (mpure (.int 1))) (mpure none))) (mlcons (mfrz (mbinX aAdd (mval (mfrz (mCall F_one (mgcons (mAg 0) (mgcons (mdat (mfrz (mlst (mlcons (mpure (.str "none")) (mlcons (mpure (.str "from")) (mlcons (mpure (.str "of")) (mlcons (mpure (.str "out")) (mlcons (mpure (.str "with")) (mlcons (mpure (.str "apart")) mlnil))))))))) mgnil))))) (mval (mfrz (mCall F_one (mgcons (mAg 0) (mgcons (mdat (mfrz (mlst (mlcons (mpure (.str "")) (mlcons (mpure (.str "a")) (mlcons (mpure (.str "s")) mlnil)))))) mgnil))))))) mlnil))))))) (sSeq (sSet 3 (mCall F_one (mgcons (mAg 0) (mgcons (mAg 5) mgnil)))) (sIf (mand (mtst (mfrz (mCall F_is_name (mgcons (mAg 3) mgnil)))) (mtst (mbin aNotIn (mslot 3) (mslot 1)))) (sApp 1 (mvar 3)) sNil))))) ρ1 = .nx ρ2 ∧ I (k + 1) ρ2 := by
    intro d hd k ρ hk ⟨zs, x, y, z, w, ⟨a, b, e, b1, b2⟩, nm, hl, fx, fy, fz, fw⟩
    subst e
    -- name
    obtain ⟨s1, ρ1, e1, ⟨d1, rfl, n1, rfl, t1⟩, a2, b2', rfl, p1, p2⟩ := J_drawn (p := true) (rest := [.ow false (zs.map D.str), .fz d, y, z, w]) (H_frzF (J_one (P := fun d => ∃ t, d = D.int t ∧ 1 ≤ t ∧ t ≤ 12) (ne_lst (H_lconsE (L_int (i := 1) ⟨1, rfl, by omega, by omega⟩) (H_lconsN (L_int (i := 2) ⟨2, rfl, by omega, by omega⟩) (H_lconsN (L_int (i := 3) ⟨3, rfl, by omega, by omega⟩) (H_lconsN (L_int (i := 12) ⟨12, rfl, by omega, by omega⟩) H_lnilN))) (by decide))))) _ ⟨a, b, rfl, b1, b2⟩
    -- near
    obtain ⟨n2, a3, b3, e2, t2, q1, q2⟩ : ∃ n2 a3 b3, mif (mtst (mbin aNe (mslot 1) (mval (mfrz (mlst mlnil))))) (mCall F_one (mgcons (mAg 0) (mgcons (mAg 1) mgnil))) (mmove 3) [.ow true [.int a2, .int b2'], .ow false (zs.map D.str), .fz d, .fz (.str n1), z, w] = .ok (.fz (.str n2)) [.ow true [.int a3, .int b3], .ow false (zs.map D.str), .fz d, .fz (.str n1), z, w] ∧ tx 13 n2 ∧ 0 ≤ b3 ∧ b3 < 2147483647 := by
      have hat : ∀ x ∈ zs.map D.str, Atom x := fun x hx => by
        obtain ⟨z, hz, rfl⟩ := List.mem_map.mp hx
        exact .str (isNm_ok (nm.z z hz)).1
      have hne := aNe_of (dEq_nil hat)
      cases hz : (zs.map D.str).isEmpty with
      | true =>
        rw [hz] at hne
        exact ⟨n1, a2, b2', mif_f (ρ1 := [.ow true [.int a2, .int b2'], .ow false (zs.map D.str), .fz d, .fz (.str n1), z, w]) (by simp [hne]) (by simp), t1, p1, p2⟩
      | false =>
        rw [hz] at hne
        obtain ⟨s, ρ', f1, ⟨dd, rfl, n2, rfl, t2⟩, a3, b3, rfl, q1, q2⟩ := J_oneO (p := true) (rest := [.ow false (zs.map D.str), .fz d, .fz (.str n1), z, w]) (i := 0) (P := isTx 13) rfl (by intro h; rw [h] at hz; cases hz) (by rw [List.length_map]; omega) (fun x hx => by
          obtain ⟨z, hz, rfl⟩ := List.mem_map.mp hx
          have := isNm_ok (nm.z z hz)
          exact ⟨z, rfl, this.1, by omega⟩) _ ⟨a2, b2', rfl, p1, p2⟩
        exact ⟨n2, a3, b3, mif_t (ρ1 := [.ow true [.int a2, .int b2'], .ow false (zs.map D.str), .fz d, .fz (.str n1), z, w]) (by simp [hne]) f1, t2, q1, q2⟩
    -- some
    obtain ⟨s3, ρ3, e3, ⟨d3, rfl, ⟨nn3, hn3⟩, all3⟩, a4, b4, rfl, u1, u2⟩ := H_lst (I := IJ true [.ow false (zs.map D.str), .fz d, .fz (.str n1), .fz (.str n2), w]) (H_lconsE (P := isTx 40) (J_var (i := 2) rfl (.fz _) ⟨_, rfl, t1.le (by decide)⟩) (H_lconsN (J_var (i := 2) rfl (.fz _) ⟨_, rfl, t1.le (by decide)⟩) (H_lconsN (H_add (J_slot (i := 3) rfl (.fz _) ⟨_, rfl, t2⟩) (R_val (L_tx (n := 1) "a" (by decide +kernel))) (by decide) (by decide)) (H_lconsN (H_mono (H_sliceT (J_slot (i := 3) rfl (.fz _) ⟨_, rfl, t2⟩) (H_anyI H_int) H_none (by decide)) fun d h => isTx_le h (by decide)) (H_lconsN (H_add (R_val (H_frzF (J_one (P := isTx 5) (ne_lst (H_lconsE (L_tx "none" (by decide +kernel)) (H_lconsN (L_tx "from" (by decide +kernel)) (H_lconsN (L_tx "of" (by decide +kernel)) (H_lconsN (L_tx "out" (by decide +kernel)) (H_lconsN (L_tx "with" (by decide +kernel)) (H_lconsN (L_tx "apart" (by decide +kernel)) H_lnilN))))) (by decide)))))) (R_val (H_frzF (J_one (P := isTx 1) (ne_lst (H_lconsE (L_tx "" (by decide +kernel)) (H_lconsN (L_tx "a" (by decide +kernel)) (H_lconsN (L_tx "s" (by decide +kernel)) H_lnilN)) (by decide)))))) (by decide) (by decide)) H_lnilN)))) (by decide)) _ ⟨a3, b3, rfl, q1, q2⟩
    -- name again
    obtain ⟨s4, ρ4, e4, ⟨d4, rfl, n4, rfl, t4⟩, a5, b5, rfl, v1, v2⟩ := J_oneO (p := true) (rest := [.ow false (zs.map D.str), .fz d, .fz (.str n1), .fz (.str n2), .ow false d3]) (i := 4) (P := isTx 40) rfl nn3 hn3 all3 _ ⟨a4, b4, rfl, u1, u2⟩
    have hi := is_name_eq (.fz (.str n4)) (.str n4) (.fz _) (t4.tame (by decide))
    have hin : aNotIn (.str n4) (.lst (zs.map D.str)) = some (.bl (!(zs.any fun y => y == n4))) := by unfold aNotIn; rw [in_strsL]; rfl
    have hz : zs.length < sizeLine := by
      have : (100 : Nat) ≤ sizeLine := by decide
      omega
    have w4 : setSl 4 (.fz (.str n2)) [.ow true [.int a3, .int b3], .ow false (zs.map D.str), .fz d, .fz (.str n1), z, w] = some [.ow true [.int a3, .int b3], .ow false (zs.map D.str), .fz d, .fz (.str n1), .fz (.str n2), w] := by simp [fz.st]
    have w3 : setSl 3 (.fz (.str n1)) [.ow true [.int a2, .int b2'], .ow false (zs.map D.str), .fz d, y, z, w] = some [.ow true [.int a2, .int b2'], .ow false (zs.map D.str), .fz d, .fz (.str n1), z, w] := by simp [fy.st]
    have w5 : setSl 5 (.ow false d3) [.ow true [.int a4, .int b4], .ow false (zs.map D.str), .fz d, .fz (.str n1), .fz (.str n2), w] = some [.ow true [.int a4, .int b4], .ow false (zs.map D.str), .fz d, .fz (.str n1), .fz (.str n2), .ow false d3] := by simp [fw.st]
    refine ⟨[.ow true [.int a, .int b], .ow false (zs.map D.str), .fz d, y, z, w], ?_⟩
    have hg : gNm 2 d [.ow true [.int a, .int b], .ow false (zs.map D.str), x, y, z, w] = some [.ow true [.int a, .int b], .ow false (zs.map D.str), .fz d, y, z, w] := by simp [fx.st]
    cases hq : isNm n4 with
    | false =>
      rw [show nmD (.str n4) = false from hq] at hi
      exact ⟨_, hg, seq_nx (set_nx e1 w3) (seq_nx (set_nx e2 w4) (seq_nx (set_nx e3 w5) (seq_nx (set_nx e4 rfl) (if_f (ρ1 := [.ow true [.int a5, .int b5], .ow false (zs.map D.str), .fz d, .fz (.str n4), .fz (.str n2), .ow false d3]) (by simp [hi]) rfl)))), zs, _, _, _, _, ⟨a5, b5, rfl, v1, v2⟩, nm, by omega, .inr ⟨_, rfl⟩, .inr ⟨_, rfl⟩, .inr ⟨_, rfl⟩, .inr ⟨_, rfl⟩⟩
    | true =>
      rw [show nmD (.str n4) = true from hq] at hi
      cases hq2 : zs.any fun y => y == n4 with
      | true =>
        rw [hq2] at hin
        exact ⟨_, hg, seq_nx (set_nx e1 w3) (seq_nx (set_nx e2 w4) (seq_nx (set_nx e3 w5) (seq_nx (set_nx e4 rfl) (if_f (ρ1 := [.ow true [.int a5, .int b5], .ow false (zs.map D.str), .fz d, .fz (.str n4), .fz (.str n2), .ow false d3]) (by simp [hi, hin]) rfl)))), zs, _, _, _, _, ⟨a5, b5, rfl, v1, v2⟩, nm, by omega, .inr ⟨_, rfl⟩, .inr ⟨_, rfl⟩, .inr ⟨_, rfl⟩, .inr ⟨_, rfl⟩⟩
      | false =>
        rw [hq2] at hin
        refine ⟨[.ow true [.int a5, .int b5], .ow false ((zs ++ [n4]).map D.str), .fz d, .fz (.str n4), .fz (.str n2), .ow false d3], hg, seq_nx (set_nx e1 w3) (seq_nx (set_nx e2 w4) (seq_nx (set_nx e3 w5) (seq_nx (set_nx e4 rfl) (if_t (ρ1 := [.ow true [.int a5, .int b5], .ow false (zs.map D.str), .fz d, .fz (.str n4), .fz (.str n2), .ow false d3]) (by simp [hi, hin]) (by simp [hz]))))), zs ++ [n4], _, _, _, _, ⟨a5, b5, rfl, v1, v2⟩, ⟨fun u hu => ?_, ?_⟩, by simp; omega, .inr ⟨_, rfl⟩, .inr ⟨_, rfl⟩, .inr ⟨_, rfl⟩, .inr ⟨_, rfl⟩⟩
        · rcases List.mem_append.mp hu with h | h
          · exact nm.z u h
          · rw [List.mem_singleton.mp h]; exact hq
        · rw [List.nodup_append]
          refine ⟨nm.nd, by simp, fun u hu v hv => ?_⟩
          rw [List.mem_singleton.mp hv]
          intro e
          rw [List.any_eq_false] at hq2
          exact hq2 u hu (by simpa using e)
  obtain ⟨ρ', el, zs, x, y, z, w, ⟨a6, b6, rfl, w1, w2⟩, nm, hl, _⟩ := loop_passN (g := gNm 2) I 48 (ds := rngD 0 1 (m * 2)) (k := 0) turn (by rw [rng_len]; omega) ⟨[], .no, .no, .no, .no, ⟨a1, b1, rfl, c1, c2⟩, ⟨(fun _ h => by cases h), List.nodup_nil⟩, by simp, .inl rfl, .inl rfl, .inl rfl, .inl (.inl rfl)⟩
  rw [rng_len] at hl
  have hcut : ME.cutD (zs.map D.str) none (some (24 : Int)) = (zs.take 24).map D.str := by
    have := cut_take (zs.map D.str) 24
    rw [List.map_take]
    exact this
  refine ⟨a6, b6, zs.take 24, ?_, ⟨fun u hu => nm.z u (List.mem_of_mem_take hu), nm.nd.sublist (List.take_sublist _ _)⟩, by rw [List.length_take]; omega, w1, w2⟩
  unfold F_some_names m_some_names
  refine def_ret (seq_nx (ρ1 := [.ow true [.int a, .int b], .ow false [], .no, .no, .no, .no]) (by simp) (seq_nx (ρ1 := .ow true [.int a6, .int b6] :: [.ow false (zs.map D.str), x, y, z, w]) ?_ (ret_rt (s := .nt ((zs.take 24).map D.str)) (ρ1 := .ow true [.int a6, .int b6] :: [.ow false (zs.map D.str), x, y, z, w]) ?_))) ?_
  · rw [ev_for, hit _ rfl, bnS_ok]
    exact el
  · simp [aSl, hcut]
  · simp
end HF
namespace HF
open PySem PySem.Spec PyProof.Rows L2 LamX ME He TL
theorem aMul_str (a : Str) (k : Int) : aMul (.str a) (.int k) = if 2 ≤ k ∧ k < 2 ^ 32 ∧ 1 ≤ a.length ∧ a.length * k.toNat ≤ sizeLine ∧ (repS a k.toNat).length ≤ sizeLine then some (.fz (.str (repS a k.toNat))) else none := rfl
theorem aMul_tup (ds : List D) (k : Int) : aMul (.tup ds) (.int k) = if ds.length ≠ 0 ∧ 2 ≤ k ∧ k ≤ 1000 ∧ ds.length ≤ 1000 ∧ (repD ds k.toNat).length ≤ sizeLine then some (.fz (.tup (repD ds k.toNat))) else none := rfl
theorem aMul_lst (ds : List D) (k : Int) : aMul (.lst ds) (.int k) = if 0 ≤ k ∧ k < 2 ^ 32 ∧ ds.length * k.toNat ≤ sizeLine ∧ (repD ds k.toNat).length ≤ sizeLine then some (.ow false (repD ds k.toNat)) else none := rfl
section
variable {I : ME.Env → Prop}
def isTu (n : Nat) (d : D) : Prop := ∃ ds, d = .tup ds ∧ (∀ x ∈ ds, tameS x) ∧ ds.length ≤ n
theorem isTu.tame {n : Nat} {d : D} (h : isTu n d) (l : n ≤ 100000) : tameN d := by
  obtain ⟨ds, rfl, h1, h2⟩ := h
  exact ⟨h1, Nat.le_trans h2 l⟩
theorem H_addT {n m : Nat} {f g : M Rv} (h : HR I (isTu n) f) (q : HR I (isTu m) g) (l : n + m ≤ 100000) : Hh I (isTu (n + m)) (mfrz (mbinX aAdd f g)) :=
  H_frzF (H_binX h q fun x y ⟨a, ea, a1, a2⟩ ⟨b, eb, b1, b2⟩ => by
    subst ea eb
    refine ⟨.tup (a ++ b), ?_, _, rfl, fun x hx => (List.mem_append.mp hx).elim (a1 x) (b1 x), by rw [List.length_append]; omega⟩
    have h3 : (100000 : Nat) ≤ sizeLine := by decide
    rw [aAdd_tup, if_pos (by omega)])
theorem cut_sub {ds : List D} {lo hi : Option Int} : (∀ x ∈ ME.cutD ds lo hi, x ∈ ds) ∧ (ME.cutD ds lo hi).length ≤ ds.length := by
  unfold ME.cutD
  refine ⟨fun x hx => List.mem_of_mem_drop (List.mem_of_mem_take hx), ?_⟩
  rw [List.length_take, List.length_drop]
  omega
theorem H_cutT {n : Nat} {f : M Rv} {lo hi : M (Option Int)} {L U : Option Int → Prop} (h : HR I (isTu n) f) (kl : Hh I L lo) (ku : Hh I U hi) : Hh I (isTu n) (mfrz (mslice f lo hi)) :=
  H_frzF (H_slice h kl ku fun x l u ⟨a, ea, a1, a2⟩ _ _ => by
    subst ea
    obtain ⟨c1, c2⟩ := cut_sub (ds := a) (lo := l) (hi := u)
    exact ⟨.fz (.tup (ME.cutD a l u)), rfl, rfl, _, rfl, _, rfl, fun x hx => a1 x (c1 x hx), Nat.le_trans c2 a2⟩)
theorem H_tup {n : Nat} {g : M (List D)} (h : Hh I (fun ds : List D => ds.length ≤ n ∧ ∀ d ∈ ds, tameS d) g) : Hh I (isTu n) (mtup g) := H_bind h fun ds q => H_pure ⟨ds, rfl, q.2, q.1⟩
theorem H_len {f : M Rv} {n : Nat} (h : HR I (fun d => fLen [d] = some (.int (n : Int))) f) : Hh I (fun d => d = .int (n : Int)) (mfn fLen (mcons f mnil)) := fun ρ i => by
  obtain ⟨r, ρ1, e1, i1, d, p, u⟩ := h ρ i
  exact ⟨_, ρ1, by simp only [ev_fn, ev_cons, e1, bnd_ok, ev_bind, ev_nil, ev_pure, ev_uses1, ev_uses0, u ρ1 i1, p, ev_opt], rfl, i1⟩
theorem H_addN {n m : Nat} {f g : M Rv} (h : HR I (fun d => d = .int (n : Int)) f) (k : HR I (fun d => d = .int (m : Int)) g) : Hh I (fun d => d = .int ((n + m : Nat) : Int)) (mfrz (mbinX aAdd f g)) :=
  H_frzF (H_binX h k fun x y e1 e2 => by
    subst e1 e2
    exact ⟨_, aAdd_int _ _, by simp⟩)
end
section
variable {p : Bool} {rest : List Sl}
theorem J_takeN {f : M D} {n : Nat} (h : Hh (IJ p rest) (fun d => d = .int (n : Int)) f) (h1 : 0 < n) (h2 : n ≤ 1000000) : Hh (IJ p rest) (fun s => ∃ d, s = Sl.fz d ∧ ∃ r : Nat, d = D.int (r : Int) ∧ r < n) (mCall F_take (mgcons (mAg 0) (mgcons (mdat f) mgnil))) :=
  H_mono (J_take (Pt := fun t => t = n) (H_mono h fun d e => ⟨n, e, by omega, by omega, rfl⟩)) fun s ⟨d, e, r, t, e2, r1, r2, e3⟩ => ⟨d, e, r.toNat, by rw [e2]; congr 1; omega, by omega⟩
theorem J_bent {f : M D} {n : Nat} (h : Hh (IJ p rest) (isTx n) f) (hn : n ≤ 100000) : Hh (IJ p rest) (fun s => ∃ d, s = Sl.fz d ∧ isTx (4 * n + 10) d) (mCall F_bent_text (mgcons (mAg 0) (mgcons (mdat f) mgnil))) := fun ρ ⟨a, b, e, b1, b2⟩ => by
  subst e
  obtain ⟨d, ρ1, e1, ⟨t, et, tt⟩, a1, b', e2, c1, c2⟩ := h _ ⟨a, b, rfl, b1, b2⟩
  subst et e2
  obtain ⟨a2, b3, s, q, ts, r3, r4⟩ := bent_spec a1 b' t n c1 c2 tt hn
  exact ⟨.fz (.str s), .ow p [.int a2, .int b3] :: rest, by simp [e1, q], ⟨_, rfl, _, rfl, ts⟩, a2, b3, rfl, r3, r4⟩
theorem J_bentS {i : Nat} {t : Str} {n : Nat} (hs : rest[i]? = some (.fz (.str t))) (tt : tx n t) (hn : n ≤ 100000) : Hh (IJ p rest) (fun s => ∃ d, s = Sl.fz d ∧ isTx (4 * n + 10) d) (mCall F_bent_text (mgcons (mAg 0) (mgcons (mAg (i + 1)) mgnil))) := fun ρ ⟨a, b, e, b1, b2⟩ => by
  subst e
  obtain ⟨a2, b3, s, q, ts, r3, r4⟩ := bent_spec a b t n b1 b2 tt hn
  exact ⟨.fz (.str s), .ow p [.int a2, .int b3] :: rest, by simp [hs, q], ⟨_, rfl, _, rfl, ts⟩, a2, b3, rfl, r3, r4⟩
end
theorem tameS_dec {s : Str} (h : (decide (s.length ≤ 1000) && s.cps.toList.all fun c => decide (c < 128)) = true) : tameS (.str s) := (tx_dec h).tame (by decide)
theorem L_ta {I : ME.Env → Prop} (s : Str) (h : (decide (s.length ≤ 1000) && s.cps.toList.all fun c => decide (c < 128)) = true) : Hh I tameS (mpure (.str s)) := H_pure (tameS_dec h)
theorem names_tame {zs : List Str} (nm : Nms zs) : ∀ x ∈ zs.map D.str, tameS x := fun x hx => by
  obtain ⟨z, hz, rfl⟩ := List.mem_map.mp hx
  have := isNm_ok (nm.z z hz)
  exact ⟨by omega, this.1⟩
theorem odd_spec (a b : Int) (zs : List Str) (hb : 0 ≤ b) (hb2 : b < 2147483647) (nm : Nms zs) (hl : zs.length ≤ 24) : ∃ a' b' d, F_odd_names [.ow true [.int a, .int b], .nt (zs.map D.str)] = .ret (.fz d) [.ow true [.int a', .int b'], .nt (zs.map D.str)] ∧ tameN d ∧ 0 ≤ b' ∧ b' < 2147483647 := by
  have hlen : fLen [.tup (zs.map D.str)] = some (.int (zs.length : Int)) := by simp
  -- at
  obtain ⟨s1, ρ1, e1, ⟨d1, rfl, at_, rfl, _⟩, a1, b1, rfl, p1, p2⟩ := J_one (p := true) (rest := [.nt (zs.map D.str), .no, .no, .no]) (P := fun d => ∃ j, d = D.int j ∧ True) (ne_lst (H_lconsE (H_mono (H_len (n := zs.length) (J_slot (i := 0) rfl (.nt _) hlen)) fun d e => ⟨_, e, trivial⟩) (H_lconsN (H_mono (H_frzF (J_takeN (n := zs.length + 1) (H_addN (R_val (H_len (n := zs.length) (J_slot (i := 0) rfl (.nt _) hlen))) (R_val (H_pure (a := D.int 1) rfl))) (by omega) (by omega))) fun d ⟨r, e, _⟩ => ⟨_, e, trivial⟩) H_lnilN) (by decide))) _ ⟨a, b, rfl, hb, hb2⟩
  -- odd
  have hat : ∀ x ∈ zs.map D.str, Atom x := fun x hx => by
    obtain ⟨z, hz, rfl⟩ := List.mem_map.mp hx
    exact .str (isNm_ok (nm.z z hz)).1
  have hne := aNe_of (dEq_nilT hat)
  have hlast : Hh (IJ true [.nt (zs.map D.str), .fz (.int at_), .no, .no]) tameS (mfrz (mif (mtst (mbin aNe (mslot 1) (mval (mtup mlnil)))) (mCall F_one (mgcons (mAg 0) (mgcons (mAg 1) mgnil))) (mfz (mpure (.str "of"))))) := fun ρ ⟨a, b, e, b1, b2⟩ => by
    subst e
    cases hz : (zs.map D.str).isEmpty with
    | true =>
      rw [hz] at hne
      exact ⟨.str "of", _, frz_fz (mif_f (ρ1 := .ow true [.int a, .int b] :: [.nt (zs.map D.str), .fz (.int at_), .no, .no]) (by simp [hne]) rfl), tameS_dec (by decide +kernel), a, b, rfl, b1, b2⟩
    | false =>
      rw [hz] at hne
      obtain ⟨s, ρ', f1, ⟨dd, rfl, t2⟩, a3, b3, rfl, q1, q2⟩ := J_oneS (p := true) (rest := [.nt (zs.map D.str), .fz (.int at_), .no, .no]) (i := 0) (P := tameS) (ds := zs.map D.str) rfl ⟨_, .nt _, .inl rfl⟩ (by intro h; rw [h] at hz; cases hz) (by rw [List.length_map]; omega) (names_tame nm) _ ⟨a, b, rfl, b1, b2⟩
      exact ⟨dd, _, frz_fz (mif_t (ρ1 := .ow true [.int a, .int b] :: [.nt (zs.map D.str), .fz (.int at_), .no, .no]) (by simp [hne]) f1), t2, a3, b3, rfl, q1, q2⟩
  have h13 : Hh (IJ true [.nt (zs.map D.str), .fz (.int at_), .no, .no]) tameS (mfrz (mbinX aMul (mval (mpure (.str "a"))) (mval (mpure (.int 13))))) :=
    H_frzF (H_binX (A := fun d => d = .str "a") (B := fun d => d = .int 13) (R_val (H_pure rfl)) (R_val (H_pure rfl)) fun x y e1 e2 => by
      subst e1 e2
      exact ⟨.str (repS "a" 13), (aMul_str _ _).trans (if_pos (by decide +kernel)), tameS_dec (by decide +kernel)⟩)
  obtain ⟨s2, ρ2, e2, ⟨odd, rfl, todd⟩, a2, b2, rfl, q1, q2⟩ := J_one (p := true) (rest := [.nt (zs.map D.str), .fz (.int at_), .no, .no]) (P := tameS) (ne_lst (H_lconsE (L_ta "" (by decide +kernel)) (H_lconsN (L_ta "A" (by decide +kernel)) (H_lconsN (L_ta "a1" (by decide +kernel)) (H_lconsN (L_ta "a b" (by decide +kernel)) (H_lconsN h13 (H_lconsN (L_ta "none" (by decide +kernel)) (H_lconsN (L_ta "from" (by decide +kernel)) (H_lconsN (L_ta "of" (by decide +kernel)) (H_lconsN (L_ta "out" (by decide +kernel)) (H_lconsN (L_ta "with" (by decide +kernel)) (H_lconsN (L_ta "apart" (by decide +kernel)) (H_lconsN (L_ta " a" (by decide +kernel)) (H_lconsN (L_ta "a\n" (by decide +kernel)) (H_lconsN (L_ta "a-b" (by decide +kernel)) (H_lconsN (f := mpure .non) (H_pure trivial) (H_lconsN (f := mpure (.int 0)) (H_pure trivial) (H_lconsN (f := mpure (.bl true)) (H_pure trivial) (H_lconsN (f := mtup (mlcons (mpure (.str "a")) mlnil)) (H_bind (Q := fun _ => True) (H_bind (Q := fun _ => True) (H_pure trivial) fun _ _ => H_bind (Q := fun _ => True) (H_pure trivial) fun _ _ => H_pure trivial) fun _ _ => H_pure trivial) (H_lconsN (f := mfrz (mlst (mlcons (mpure (.str "a")) mlnil))) (H_mono (H_frzL (H_lst (Q := fun _ => True) (H_bind (Q := fun _ => True) (H_pure trivial) fun _ _ => H_bind (Q := fun _ => True) (H_pure trivial) fun _ _ => H_pure trivial))) fun d ⟨ds, e, _⟩ => by rw [e]; trivial) (H_lconsN hlast H_lnilN))))))))))))))))))) (by decide))) _ ⟨a1, b1, rfl, p1, p2⟩
  -- found
  let J := IJ true [.nt (zs.map D.str), .fz (.int at_), .fz odd, .no]
  have hC : HR J (isTu 24) (mslot 1) := J_slot (i := 0) rfl (.nt _) ⟨_, rfl, names_tame nm, by rw [List.length_map]; exact hl⟩
  have hA : Hh J (fun d => ∃ j, d = D.int j ∧ True) (mvar 2) := J_var (i := 1) rfl (.fz _) ⟨_, rfl, trivial⟩
  have hO : Hh J tameS (mvar 3) := J_var (i := 2) rfl (.fz _) todd
  have t25 : Hh J tameN (mfrz (mbinX aMul (mval (mtup (mlcons (mpure (.str "of")) mlnil))) (mval (mpure (.int 25))))) :=
    H_frzF (H_binX (A := fun d => d = .tup [.str "of"]) (B := fun d => d = .int 25) (R_val (fun ρ i => ⟨.tup [.str "of"], ρ, by simp, rfl, i⟩)) (R_val (H_pure rfl)) fun x y e1 e2 => by
      subst e1 e2
      refine ⟨.tup (repD [.str "of"] 25), (aMul_tup _ _).trans (if_pos ⟨by decide, by decide, by decide, by decide, by decide +kernel⟩), fun x hx => ?_, by decide +kernel⟩
      have : x = .str "of" := by
        have h : ∀ n, ∀ x ∈ repD [D.str "of"] n, x = .str "of" := by
          intro n x hx
          unfold repD at hx
          obtain ⟨l, hl, hx⟩ := List.mem_flatten.mp hx
          rw [List.eq_of_mem_replicate hl] at hx
          exact List.mem_singleton.mp hx
        exact h 25 x hx
      rw [this]
      exact tameS_dec (by decide +kernel))
  have hlist : Hh J tameN (mfrz (mfnX fList (mcons (mslot 1) mnil))) := fun ρ ⟨a, b, e, c⟩ => by
    subst e
    exact ⟨.lst (zs.map D.str), _, by simp, trivial, a, b, rfl, c⟩
  obtain ⟨s3, ρ3, e3, ⟨found, rfl, ⟨n1, n2⟩, all⟩, a3, b3, rfl, r1, r2⟩ := H_lst (I := J) (H_lconsE (P := tameN) (H_mono (H_addT (R_val (H_addT (R_val (H_cutT hC H_none (H_anyI hA))) (R_val (H_tup (n := 1) (H_lconsN hO H_lnilN))) (by decide))) (R_val (H_cutT hC (H_anyI hA) H_none)) (by decide)) fun d h => h.tame (by decide))
    (H_lconsN hlist (H_lconsN (f := mpure .non) (H_pure trivial) (H_lconsN (f := mpure (.str "ab")) (H_pure (tameS_dec (by decide +kernel))) (H_lconsN (H_mono (H_addT hC (R_val (H_cutT hC H_none (H_anyI (H_int (i := 1))))) (by decide)) fun d h => h.tame (by decide)) (H_lconsN (H_mono (H_addT (R_val (H_addT (R_val (H_cutT hC H_none (H_anyI hA))) (R_val (H_tup (n := 2) (H_lconsN hO (H_lconsN (L_ta "of" (by decide +kernel)) H_lnilN)))) (by decide))) (R_val (H_cutT hC (H_anyI hA) H_none)) (by decide)) fun d h => h.tame (by decide)) (H_lconsN t25 (H_lconsN (f := mpure (.int 0)) (H_pure trivial) H_lnilN))))))) (by decide)) _ (⟨a2, b2, rfl, q1, q2⟩ : J _)
  obtain ⟨s4, ρ4, e4, ⟨d4, rfl, t4⟩, a4, b4, rfl, u1, u2⟩ := J_oneO (p := true) (rest := [.nt (zs.map D.str), .fz (.int at_), .fz odd, .ow false found]) (i := 3) (P := tameN) rfl n1 n2 all _ ⟨a3, b3, rfl, r1, r2⟩
  refine ⟨a4, b4, d4, ?_, t4, u1, u2⟩
  unfold F_odd_names m_odd_names
  exact def_ret (seq_nx (set_nx e1 rfl) (seq_nx (set_nx e2 rfl) (seq_nx (set_nx e3 rfl) (ret_rt e4)))) (by simp)
theorem texts_spec (a b : Int) (zs : List Str) (t : Str) (n : Nat) (hb : 0 ≤ b) (hb2 : b < 2147483647) (ht : tx n t) (h5 : 5 ≤ n) (hn : n ≤ 10000) : ∃ a' b' ds, F_texts_of [.ow true [.int a, .int b], .nt (zs.map D.str), .fz (.str t)] = .ret (.ow false ds) [.ow true [.int a', .int b'], .nt (zs.map D.str), .fz (.str t)] ∧ (∀ d ∈ ds, isTx (16 * n + 50) d) ∧ ds.length ≤ 2000000 ∧ 0 ≤ b' ∧ b' < 2147483647 := by
  have hlen := ht.2
  have hsp := split_ok (t := t) (y := " ") (by decide) (by omega)
  have htx := txs_split (y := " ") ht (by decide)
  have hne := split_ne t " " (by decide)
  have hfa := split_facts t " " (by decide)
  generalize Txt.split t " " = ls at hsp htx hne hfa
  have hpos : 0 < ls.length := List.length_pos_iff.mpr hne
  obtain ⟨ws, ews, w1, w2, w3⟩ := htx
  have ews' : ls = ws := (List.map_inj_right fun x y e => D.str.inj e).mp ews
  subst ews'
  -- at
  have hll : fLen [.lst (ls.map D.str)] = some (.int (ls.length : Int)) := by simp
  obtain ⟨s1, ρ1, e1, ⟨d1, rfl, at_, rfl, hat⟩, a1, b1, rfl, p1, p2⟩ := J_takeN (p := true) (rest := [.nt (zs.map D.str), .fz (.str t), .ow false (ls.map D.str), .no, .no, .no]) (n := ls.length) (H_len (J_slot (i := 2) rfl (.ow false _) hll)) hpos (by omega) _ ⟨a, b, rfl, hb, hb2⟩
  -- word
  have hW : ∀ (x y : Sl), Hh (IJ true [.nt (zs.map D.str), .fz (.str t), .ow false (ls.map D.str), .fz (.int (at_ : Nat)), x, y]) (isTx n) (mbin dIx (mslot 3) (mslot 4)) := fun x y =>
    H_bin (A := fun d => d = .lst (ls.map D.str)) (B := fun d => d = .int (at_ : Nat)) (J_slot (i := 2) rfl (.ow false _) rfl) (J_slot (i := 3) rfl (.fz _) rfl) fun u v e1 e2 => by
      subst e1 e2
      refine ⟨.str ls[at_], ?_, _, rfl, w1 _ (List.getElem_mem hat), Nat.le_trans (mem_sum (List.getElem_mem hat)) w2⟩
      rw [dIx_lst, atI_k (by rw [List.length_map]; exact hat), List.getElem_map]
  have hW1 := hW .no .no
  obtain ⟨s2, ρ2, e2, ⟨d2, rfl, wd, rfl, twd⟩, a2, b2, rfl, q1, q2⟩ := J_one (p := true) (rest := [.nt (zs.map D.str), .fz (.str t), .ow false (ls.map D.str), .fz (.int (at_ : Nat)), .no, .no]) (P := isTx (n + 1)) (ne_lst (H_lconsE (H_str (tx.le (tx_dec (n := 0) (s := "") (by decide +kernel)) (by omega))) (H_lconsN (H_str (tx.le (tx_dec (n := 4) (s := "of") (by decide +kernel)) (by omega))) (H_lconsN (H_str (tx.le (tx_dec (n := 4) (s := "none") (by decide +kernel)) (by omega))) (H_lconsN (H_str (tx.le (tx_dec (n := 4) (s := "xyz") (by decide +kernel)) (by omega))) (H_lconsN (H_str (tx.le (tx_dec (n := 4) (s := "A") (by decide +kernel)) (by omega))) (H_lconsN (H_add (R_val hW1) (R_val (L_tx (n := 1) "a" (by decide +kernel))) (Nat.le_refl _) (by omega)) (H_lconsN (H_mono (H_sliceT (R_val hW1) (H_anyI (H_int (i := 1))) H_none (by omega)) fun d h => isTx_le h (by omega)) (H_lconsN (H_mono (H_upper hW1 (by omega)) fun d h => isTx_le h (by omega)) (H_lconsN (H_add (R_val hW1) (R_val (L_tx (n := 1) "," (by decide +kernel))) (Nat.le_refl _) (by omega)) (H_lconsN (H_str (tx.le (tx_dec (n := 4) (s := "0") (by decide +kernel)) (by omega))) (H_lconsN (H_add (R_val hW1) (R_val (L_tx (n := 1) "\t" (by decide +kernel))) (Nat.le_refl _) (by omega)) (H_lconsN (H_add (k := n + 1) (R_val (L_tx (n := 1) "\n" (by decide +kernel))) (R_val hW1) (by omega) (by omega)) H_lnilN))))))))))) (by decide))) _ ⟨a1, b1, rfl, p1, p2⟩
  -- found
  let J := IJ true [.nt (zs.map D.str), .fz (.str t), .ow false (ls.map D.str), .fz (.int (at_ : Nat)), .fz (.str wd), .no]
  have hL : HR J (fun d => ∃ ds, d = D.lst ds ∧ isTxs n (n + 1) ds) (mslot 3) := J_slot (i := 2) rfl (.ow false _) ⟨_, rfl, ls, rfl, w1, w2, w3⟩
  have hA : HR J (fun d => ∃ j, d = D.int j ∧ True) (mslot 4) := J_slot (i := 3) rfl (.fz _) ⟨_, rfl, trivial⟩
  have hAv : Hh J (fun d => ∃ j, d = D.int j ∧ True) (mvar 4) := J_var (i := 3) rfl (.fz _) ⟨_, rfl, trivial⟩
  have hWv : Hh J (isTx (n + 1)) (mvar 5) := J_var (i := 4) rfl (.fz _) ⟨_, rfl, twd⟩
  have hT : HR J (isTx n) (mslot 2) := J_slot (i := 1) rfl (.fz _) ⟨_, rfl, ht⟩
  have hTv : Hh J (isTx n) (mvar 2) := J_var (i := 1) rfl (.fz _) ⟨_, rfl, ht⟩
  have hWl : Hh J (fun d => ∃ ds, d = D.lst ds ∧ isTxs (n + 1) 1 ds) (mfrz (mlst (mlcons (mvar 5) mlnil))) := H_frzL (H_lst (H_bind hWv fun d ⟨s, e, ts⟩ => H_bind (Q := fun ds : List D => ds = []) (H_pure rfl) fun ds e2 => H_pure (by
    subst e e2
    exact ⟨[s], rfl, fun w hw => by rw [List.mem_singleton.mp hw]; exact ts.1, by simpa using ts.2, by simp⟩)))
  have oB : okS " " := (tx_dec (n := 1) (s := " ") (by decide +kernel)).1
  have l1 : (" " : Str).length = 1 := by decide
  have k16 : ∀ {m : Nat} {f : M D}, Hh J (isTx m) f → m ≤ 16 * n + 50 → Hh J (isTx (16 * n + 50)) f := fun h l => H_mono h fun d q => isTx_le q l
  have j1 := H_join (k := 16 * n + 50) oB (R_val (H_catL (R_val (H_catL (R_val (H_cutL hL H_none (H_anyI hAv))) (R_val hWl) (by omega))) (R_val (H_cutL hL (H_anyI (H_addI hA (R_val (H_int (i := 1))))) H_none)) (by omega))) (by rw [l1]; omega) (by omega)
  have j2 := H_join (k := 16 * n + 50) oB (R_val (H_catL (R_val (H_catL (R_val (H_cutL hL H_none (H_anyI hAv))) (R_val hWl) (by omega))) (R_val (H_cutL hL (H_anyI hAv) H_none)) (by omega))) (by rw [l1]; omega) (by omega)
  have lit : ∀ (s : Str), (decide (s.length ≤ 5) && s.cps.toList.all fun c => decide (c < 128)) = true → Hh J (isTx (16 * n + 50)) (mpure (.str s)) := fun s h => H_str ((tx_dec h).le (by omega))
  obtain ⟨s3, ρ3, e3, ⟨fs, rfl, ⟨n1, n2⟩, all⟩, a3, b3, rfl, r1, r2⟩ := H_lst (I := J) (H_lconsE (P := isTx (16 * n + 50)) (H_frzF j1) (H_lconsN (H_frzF j2) (H_lconsN (H_add hT (R_val (L_tx (n := 1) " " (by decide +kernel))) (by omega) (by omega)) (H_lconsN (H_add (R_val (L_tx (n := 1) " " (by decide +kernel))) hT (by omega) (by omega)) (H_lconsN (H_add hT (R_val (L_tx (n := 1) "\n" (by decide +kernel))) (by omega) (by omega)) (H_lconsN (H_add (R_val (H_add (k := n + 1) hT (R_val (L_tx (n := 1) "\n" (by decide +kernel))) (by omega) (by omega))) hT (by omega) (by omega)) (H_lconsN (lit "\n" (by decide +kernel)) (H_lconsN (lit " " (by decide +kernel)) (H_lconsN (lit "" (by decide +kernel)) (H_lconsN (k16 (H_upper hTv (by omega)) (by omega)) (H_lconsN (lit "none" (by decide +kernel)) (H_lconsN (H_add (R_val (H_add (k := n + 2) hT (R_val (L_tx (n := 2) "  " (by decide +kernel))) (by omega) (by omega))) hT (by omega) (by omega)) H_lnilN))))))))))) (by decide)) _ (⟨a2, b2, rfl, q1, q2⟩ : J _)
  let J2 := IJ true [.nt (zs.map D.str), .fz (.str t), .ow false (ls.map D.str), .fz (.int (at_ : Nat)), .fz (.str wd), .ow false fs]
  have k2 : ∀ {m : Nat} {f : M D}, Hh J2 (isTx m) f → m ≤ 16 * n + 50 → Hh J2 (isTx (16 * n + 50)) f := fun h l => H_mono h fun d q => isTx_le q l
  have hb1 : Hh J2 (isTx (4 * n + 10)) (mfrz (mCall F_bent_text (mgcons (mAg 0) (mgcons (mAg 2) mgnil)))) := H_frzF (J_bentS (i := 1) rfl ht (by omega))
  obtain ⟨s4, ρ4, e4, ⟨ds, rfl, alld, lend⟩, a4, b4, rfl, u1, u2⟩ := H_binL (I := J2) (A := fun d => d = .lst fs) (B := fun d => ∃ es, d = D.lst es ∧ es.length ≤ 2 ∧ ∀ x ∈ es, isTx (16 * n + 50) x) (R := fun ds => (∀ d ∈ ds, isTx (16 * n + 50) d) ∧ ds.length ≤ 2000000) (op := aAdd) (J_slot (i := 5) rfl (.ow false _) rfl) (R_val (H_frzL (H_lst (H_lconsN (k2 hb1 (by omega)) (H_lconsN (k2 (H_frzF (J_bent hb1 (by omega))) (by omega)) H_lnilN))))) (fun x y ex ⟨es, ey, l, q⟩ => by
    subst ex ey
    refine ⟨fs ++ es, ?_, fun d hd => (List.mem_append.mp hd).elim (all d) (q d), by rw [List.length_append]; omega⟩
    have h3 : (2000000 : Nat) ≤ sizeLine := by decide
    rw [aAdd_lst, if_pos (by omega)]) _ (⟨a3, b3, rfl, r1, r2⟩ : J2 _)
  refine ⟨a4, b4, ds, ?_, alld, lend, u1, u2⟩
  unfold F_texts_of m_texts_of
  exact def_ret (seq_nx (ρ1 := [.ow true [.int a, .int b], .nt (zs.map D.str), .fz (.str t), .ow false (ls.map D.str), .no, .no, .no]) (by simp [hsp]) (seq_nx (set_nx e1 rfl) (seq_nx (set_nx e2 rfl) (seq_nx (set_nx e3 rfl) (ret_rt e4))))) (by simp)
end HF
namespace HF
open PySem PySem.Spec PyProof.Rows L2 LamX ME He TL
theorem tells_ok {fb : M D} {fa : M (List D)} {ρ ρ1 ρ2 : ME.Env} {d : D} (e1 : fa ρ = .ok [d] ρ1) (e2 : fb ρ1 = .ok d ρ2) (h : dep 4 d) : mWrap raisedN fb fa t_tells (F_same 5) ρ = .ok (.bl true) ρ2 := by
  have hs := same_refl 5 (.tup [.str "told", d]) ⟨fun x hx => by
    rcases List.mem_cons.mp hx with rfl | hx
    · exact okS_told.1
    · rw [List.mem_singleton.mp hx]; exact h, by simp⟩
  unfold mWrap
  simp only [ev_bind, e1, bnd_ok, heard_ok1 e2]
  rw [show t_tells [d] = .tup [.str "told", d] from rfl, hs]
  rfl
theorem refuses_ok {fb : M D} {fa : M (List D)} {ρ ρ1 ρ2 : ME.Env} {c : Str} {w : D} (e1 : fa ρ = .ok [.str c, w] ρ1) (e2 : fb ρ1 = .ex c w ρ2) (hc : c ∈ raisedN) (hk : okS c) (h : dep 4 w) : mWrap raisedN fb fa t_refuses (F_same 5) ρ = .ok (.bl true) ρ2 := by
  have hs := same_refl 5 (.tup [.str c, w]) ⟨fun x hx => by
    rcases List.mem_cons.mp hx with rfl | hx
    · exact hk
    · rw [List.mem_singleton.mp hx]; exact h, by simp⟩
  unfold mWrap
  simp only [ev_bind, e1, bnd_ok, heard_ex e2 hc]
  rw [show t_refuses [.str c, w] = .tup [.str c, w] from rfl, hs]
  rfl
def Rd.good (zs : List Str) (t : Str) : Rd → Prop
  | .told js => js.length ≤ 300 ∧ (∀ j ∈ js, j < zs.length) ∧ Txt.join " " (wordsAt zs js) = t
  | .wrong c w => c ∈ raisedN ∧ okS c ∧ (c == "told") = false ∧ dep 4 w
theorem words_ix {zs ws : List Str} (h : ∀ w ∈ ws, inZ zs w = true) : wordsAt zs (ws.map (ixOf zs)) = ws ∧ ∀ j ∈ ws.map (ixOf zs), j < zs.length := by
  refine ⟨?_, fun j hj => ?_⟩
  · unfold wordsAt
    rw [List.map_map]
    conv => rhs; rw [← List.map_id ws]
    refine List.map_congr_left fun w hw => ?_
    have := (idx_in (h w hw)).2.2
    show zs.getD (ixOf zs w) "" = w
    rw [List.getD_eq_getElem?_getD, this]
    rfl
  · obtain ⟨w, hw, rfl⟩ := List.mem_map.mp hj
    exact (idx_in (h w hw)).2.1
theorem told_ne : (("TooMany" : Str) == "told") = false ∧ (("WrongLine" : Str) == "told") = false ∧ (("BadNames" : Str) == "told") = false := by decide +kernel
theorem rd_good (zs : List Str) (t : Str) : (rd zs t).good zs t := by
  unfold rd
  by_cases h1 : 400000 < t.length
  · rw [if_pos h1]
    exact ⟨r_names.2.2.2.1, okS_told.2.2.2.2.1, told_ne.1, trivial⟩
  · rw [if_neg h1]
    by_cases h2 : t = ""
    · rw [if_pos h2]
      refine ⟨by simp, (fun _ h => by cases h), ?_⟩
      rw [h2, join_eq]
      rfl
    · rw [if_neg h2]
      unfold rdL
      cases hf : fw zs 0 (Txt.split (head (Txt.split t Lf)) Bl) with
      | some i => exact ⟨r_names.2.2.2.2, okS_told.2.2.2.2.2, told_ne.2.1, ⟨fun x hx => by
          rcases List.mem_cons.mp hx with rfl | hx
          · trivial
          · rw [List.mem_singleton.mp hx]; trivial, by simp⟩⟩
      | none =>
        by_cases h3 : (Txt.split t Lf).length = 1
        · simp only [h3, if_true]
          obtain ⟨q1, q2⟩ := fw_all hf
          obtain ⟨k1, k2⟩ := words_ix q1
          refine ⟨?_, k2, ?_⟩
          · rw [List.length_map]
            have := q2 (split_ne _ _ len1.2)
            omega
          · rw [k1, join_eq]
            have := StrLaws.join_split (head (Txt.split t Lf)) Bl
            rw [show (" " : Str) = Bl from rfl, this]
            obtain ⟨a, ea⟩ := List.length_eq_one_iff.mp h3
            rw [ea]
            exact split_one ea
        · simp only [h3, if_false]
          exact ⟨r_names.2.2.2.2, okS_told.2.2.2.2.2, told_ne.2.1, ⟨fun x hx => by
            rcases List.mem_cons.mp hx with rfl | hx
            · trivial
            · rw [List.mem_singleton.mp hx]; trivial, by simp⟩⟩
theorem dep_ints (n : Nat) (js : List Nat) (h : js.length ≤ 300) : dep (n + 2) (.tup (js.map fun j => D.int (j : Nat))) := ⟨fun x hx => by
  obtain ⟨j, _, rfl⟩ := List.mem_map.mp hx
  trivial, by rw [List.length_map]; omega⟩
theorem dep_owed {zs : List Str} {t : Str} {r : Rd} (g : r.good zs t) : dep 5 r.owed := by
  cases r with
  | told js => exact ⟨fun x hx => by
      rcases List.mem_cons.mp hx with rfl | hx
      · exact okS_told.1
      · rw [List.mem_singleton.mp hx]; exact dep_ints 2 js g.1, by simp⟩
  | wrong c w => exact ⟨fun x hx => by
      rcases List.mem_cons.mp hx with rfl | hx
      · exact g.2.1
      · rw [List.mem_singleton.mp hx]; exact g.2.2.2, by simp⟩
theorem read_heard (zs : List Str) (s1 s2 : Sl) (t : Str) (h1 : DSl s1 (.tup (zs.map D.str))) (h2 : DSl s2 (.str t)) (nm : Nms zs) (hl : zs.length ≤ 24) (ht : t.length ≤ 1000000) (ho : okS t) {i j : Nat} {ρ : ME.Env} (e1 : ρ[i]? = some s1) (e2 : ρ[j]? = some s2) :
    mHeard raisedN (mfrz (mCall F_read_named_row_p (mgcons (mAg i) (mgcons (mAg j) mgnil)))) ρ = .ok (rd zs t).owed ρ := by
  have hp := (read_p zs s1 s2 t h1 h2 (nm.tame hl) nm.nd (nm.none hl) ht ho hl).2
  cases q : rd zs t with
  | told js =>
    rw [q] at hp
    obtain ⟨s, k, f⟩ := hp
    exact heard_ok1 (by simp [e1, e2, h1.a, h2.a, f, k])
  | wrong c w =>
    rw [q] at hp
    exact heard_ex (ρ' := ρ) (by simp [e1, e2, h1.a, h2.a, hp.2]) hp.1
theorem text_right_eq (zs : List Str) (t : Str) (nm : Nms zs) (hl : zs.length ≤ 24) (ht : t.length ≤ 1000000) (ho : okS t) : F_text_right [.nt (zs.map D.str), .fz (.str t)] = .ret (.fz (.bl true)) [.nt (zs.map D.str), .fz (.str t)] := by
  have hr := read_l zs t ht ho
  have hg := rd_good zs t
  have hh := read_heard zs (.nt (zs.map D.str)) (.fz (.str t)) t (.nt _) (.fz _) nm hl ht ho (i := 0) (j := 1) (ρ := [.nt (zs.map D.str), .fz (.str t), .fz (rd zs t).owed]) rfl rfl
  have hs := same_refl 5 _ (dep_owed hg)
  unfold F_text_right m_text_right
  have st2 : mtst (mfrz (mCall (F_same 5) (mgcons (mdat (mHeard raisedN (mfrz (mCall F_read_named_row_p (mgcons (mAg 0) (mgcons (mAg 1) mgnil)))))) (mgcons (mAg 2) mgnil)))) [.nt (zs.map D.str), .fz (.str t), .fz (rd zs t).owed] = .ok true [.nt (zs.map D.str), .fz (.str t), .fz (rd zs t).owed] := by
    simp only [ev_tst, ev_frz, ev_call, ev_gcons, ev_dat, hh, bnd_ok]
    simp [hs]
  refine def_ret (s := .fz (.bl true)) (ρ1 := [.nt (zs.map D.str), .fz (.str t), .fz (rd zs t).owed]) (seq_nx (ρ1 := [.nt (zs.map D.str), .fz (.str t), .fz (rd zs t).owed]) (by simp [hr]) (seq_nx (ρ1 := [.nt (zs.map D.str), .fz (.str t), .fz (rd zs t).owed]) (if_f (not_ok st2) rfl) (ret_rt (fz_ok ?_)))) (by simp)
  cases q : rd zs t with
  | told js =>
    rw [q] at hg
    have hn := named_row_ok zs js (.nt (zs.map D.str)) (.fz (.tup (js.map fun j => D.int (j : Nat)))) (.nt _) (.fz _) nm.z (nm.tame hl) (nm.none hl) hg.2.1 hg.1
    rw [hg.2.2] at hn
    have hw := tells_ok (fb := mfrz (mCall F_named_row (mgcons (mAg 0) (mgcons (mdat (mbin dIx (mslot 2) (mval (mpure (.int 1))))) mgnil)))) (fa := mlcons (mvar 1) mlnil) (ρ := [.nt (zs.map D.str), .fz (.str t), .fz (Rd.told js).owed]) (ρ1 := [.nt (zs.map D.str), .fz (.str t), .fz (Rd.told js).owed]) (ρ2 := [.nt (zs.map D.str), .fz (.str t), .fz (Rd.told js).owed]) (d := .str t) (by simp) (by simp [Rd.owed, hn]) ho
    have hne : aNe (.str "told") (.str "told") = some (.bl false) := by
      have := aNe_of (dEq_str okS_told.1 okS_told.1)
      simpa using this
    simp [Rd.owed] at hw
    simp [Rd.owed, hne, hw]
  | wrong c w =>
    rw [q] at hg
    have hne : aNe (.str c) (.str "told") = some (.bl true) := by
      have := aNe_of (dEq_str hg.2.1 okS_told.1)
      rw [hg.2.2.1] at this
      exact this
    simp [Rd.owed, hne]
end HF
namespace HF
open PySem PySem.Spec PyProof.Rows L2 LamX ME He TL
theorem loop_two {g : D → ME.Env → Option ME.Env} {body : MS} {d1 d2 : D} {ρ ρ1 ρ2 ρ3 ρ4 : ME.Env} (e1 : g d1 ρ = some ρ1) (e2 : body ρ1 = .nx ρ2) (e3 : g d2 ρ2 = some ρ3) (e4 : body ρ3 = .nx ρ4) : sLoop g body [d1, d2] ρ = .nx ρ4 := by
  rw [ev_loop1 _ _ _ _ e1, e2, loopK_nx, ev_loop1 _ _ _ _ e3, e4, loopK_nx, ev_loop0]
theorem tbl1 : tbl_refused_right_deed.lookup ("named_row" : Str) = some F_named_row := by
  unfold tbl_refused_right_deed
  rw [List.lookup_cons, show (("named_row" : Str) == "named_row") = true by decide +kernel]
theorem tbl2 : tbl_refused_right_deed.lookup ("read_named_row" : Str) = some F_read_named_row_p := by
  unfold tbl_refused_right_deed
  rw [List.lookup_cons, show (("read_named_row" : Str) == "named_row") = false by decide +kernel]
  show List.lookup _ [_] = _
  rw [List.lookup_cons, show (("read_named_row" : Str) == "read_named_row") = true by decide +kernel]
theorem refused_spec (a b : Int) (zs : List Str) (hb : 0 ≤ b) (hb2 : b < 2147483647) (nm : Nms zs) (hl : zs.length ≤ 24) : ∃ a' b', F_refused_right [.ow true [.int a, .int b], .nt (zs.map D.str)] = .ret (.fz (.bl true)) [.ow true [.int a', .int b'], .nt (zs.map D.str)] ∧ 0 ≤ b' ∧ b' < 2147483647 := by
  obtain ⟨a1, b1, bad, q1, tb, p1, p2⟩ := odd_spec a b zs hb hb2 nm hl
  have h301 : ∀ I : ME.Env → Prop, Hh I kind (mfrz (mbinX aMul (mval (mtup (mlcons (mpure .non) mlnil))) (mval (mpure (.int 301))))) := fun I =>
    H_frzF (H_binX (A := fun d => d = .tup [.non]) (B := fun d => d = .int 301) (R_val (fun ρ i => ⟨.tup [.non], ρ, by simp, rfl, i⟩)) (R_val (H_pure rfl)) fun x y e1 e2 => by
      subst e1 e2
      exact ⟨.tup (repD [.non] 301), (aMul_tup _ _).trans (if_pos ⟨by decide, by decide, by decide, by decide, by decide +kernel⟩), _, rfl⟩)
  obtain ⟨s2, ρ2, e2, ⟨wr, rfl, kw⟩, a2, b2, rfl, r1, r2⟩ := J_one (p := true) (rest := [.nt (zs.map D.str), .no, .no, .no, .no, .no]) (P := kind) (ne_lst (H_lconsE (f := mpure .non) (H_pure ⟨_, rfl⟩) (H_lconsN (f := mtup (mlcons (mpure (.int 99)) mlnil)) (H_bind (Q := fun _ => True) (H_bind (Q := fun _ => True) (H_pure trivial) fun _ _ => H_bind (Q := fun _ => True) (H_pure trivial) fun _ _ => H_pure trivial) fun _ _ => H_pure ⟨_, rfl⟩) (H_lconsN (f := mfrz (mlst (mlcons (mpure (.int 0)) mlnil))) (H_mono (H_frzL (H_lst (Q := fun _ => True) (H_bind (Q := fun _ => True) (H_pure trivial) fun _ _ => H_bind (Q := fun _ => True) (H_pure trivial) fun _ _ => H_pure trivial))) fun d ⟨ds, e, _⟩ => by rw [e]; exact ⟨_, rfl⟩) (H_lconsN (h301 _) H_lnilN))) (by decide))) _ ⟨a1, b1, rfl, p1, p2⟩
  have hw := wrong_names_eq (.fz bad) bad (.fz _) tb
  have hr := names_right_eq (.fz bad) bad (.fz _) tb
  -- the odd text
  obtain ⟨s3, ρ3, e3, ⟨od, rfl, ko, no⟩, a3, b3, rfl, u1, u2⟩ := J_one (p := true) (rest := [.nt (zs.map D.str), .fz bad, .fz wr, .fz (owedN bad), .fz (.fn "read_named_row"), .no]) (P := fun d => kind d ∧ ∀ t, d ≠ .str t) (ne_lst (H_lconsE (f := mpure .non) (H_pure ⟨⟨_, rfl⟩, fun _ h => by cases h⟩) (H_lconsN (f := mpure (.int 7)) (H_pure ⟨⟨_, rfl⟩, fun _ h => by cases h⟩) (H_lconsN (f := mfrz (mlst (mlcons (mpure (.str "a")) mlnil))) (H_mono (H_frzL (H_lst (Q := fun _ => True) (H_bind (Q := fun _ => True) (H_pure trivial) fun _ _ => H_bind (Q := fun _ => True) (H_pure trivial) fun _ _ => H_pure trivial))) fun d ⟨ds, e, _⟩ => by rw [e]; exact ⟨⟨_, rfl⟩, fun _ h => by cases h⟩) (H_lconsN (f := mtup (mlcons (mpure (.str "a")) mlnil)) (H_bind (Q := fun _ => True) (H_bind (Q := fun _ => True) (H_pure trivial) fun _ _ => H_bind (Q := fun _ => True) (H_pure trivial) fun _ _ => H_pure trivial) fun _ _ => H_pure ⟨⟨_, rfl⟩, fun _ h => by cases h⟩) (H_lconsN (f := mpure (.bl true)) (H_pure ⟨⟨_, rfl⟩, fun _ h => by cases h⟩) H_lnilN)))) (by decide))) _ ⟨a2, b2, rfl, r1, r2⟩
  have hbt := read_badT (.nt (zs.map D.str)) (.fz od) (zs.map D.str) od (.nt _) (.fz _) (nm.tame hl) (nm.none hl) ko no
  -- a turn over the two defs
  have body : ∀ (nm2 : Str) (F : FM), tbl_refused_right_deed.lookup nm2 = some F → (∀ c i, wrongN bad = some (c, i) → F [.fz bad, .fz wr] = .ex c (.int i) [.fz bad, .fz wr]) →
      (sIf (mand (mtst (mbin aNotN (mslot 4) (mval (mpure .non)))) (mnot (mtst (mfrz (mCall (F_same 5) (mgcons (mdat (mHeard raisedN (mfrz (mCallV 5 tbl_refused_right_deed (mgcons (mAg 2) (mgcons (mAg 3) mgnil)))))) (mgcons (mAg 4) mgnil))))))) (sRet (mfz (mpure (.bl false)))) sNil) [.ow true [.int a2, .int b2], .nt (zs.map D.str), .fz bad, .fz wr, .fz (owedN bad), .fz (.fn nm2), .no] = .nx [.ow true [.int a2, .int b2], .nt (zs.map D.str), .fz bad, .fz wr, .fz (owedN bad), .fz (.fn nm2), .no] := by
    intro nm2 F hF hx
    cases q : wrongN bad with
    | none =>
      have ho : owedN bad = .non := by unfold owedN; rw [q]
      rw [ho]
      simp
    | some ci =>
      obtain ⟨c, i⟩ := ci
      have ho : owedN bad = .tup [.str c, .int i] := by unfold owedN; rw [q]
      have hc : c ∈ raisedN ∧ okS c := by
        rcases wrongN_cls q with rfl | rfl
        · exact ⟨r_names.1, okS_told.2.1⟩
        · exact ⟨r_names.2.2.2.1, okS_told.2.2.2.2.1⟩
      have hs := same_refl 5 (.tup [.str c, .int i]) ⟨fun x hx => by
        rcases List.mem_cons.mp hx with rfl | hx
        · exact hc.2
        · rw [List.mem_singleton.mp hx]; exact trivial, by simp⟩
      rw [ho]
      have hh : mHeard raisedN (mfrz (mCallV 5 tbl_refused_right_deed (mgcons (mAg 2) (mgcons (mAg 3) mgnil)))) [.ow true [.int a2, .int b2], .nt (zs.map D.str), .fz bad, .fz wr, .fz (.tup [.str c, .int i]), .fz (.fn nm2), .no] = .ok (.tup [.str c, .int i]) [.ow true [.int a2, .int b2], .nt (zs.map D.str), .fz bad, .fz wr, .fz (.tup [.str c, .int i]), .fz (.fn nm2), .no] := by
        refine heard_ex (ρ' := [.ow true [.int a2, .int b2], .nt (zs.map D.str), .fz bad, .fz wr, .fz (.tup [.str c, .int i]), .fz (.fn nm2), .no]) ?_ hc.1
        have : mCallV 5 tbl_refused_right_deed (mgcons (mAg 2) (mgcons (mAg 3) mgnil)) [.ow true [.int a2, .int b2], .nt (zs.map D.str), .fz bad, .fz wr, .fz (.tup [.str c, .int i]), .fz (.fn nm2), .no] = mCall F (mgcons (mAg 2) (mgcons (mAg 3) mgnil)) [.ow true [.int a2, .int b2], .nt (zs.map D.str), .fz bad, .fz wr, .fz (.tup [.str c, .int i]), .fz (.fn nm2), .no] := by
          unfold mCallV
          simp only [List.getElem?_cons_succ, List.getElem?_cons_zero, hF]
        rw [ev_frz, this]
        simp [hx c i q]
      refine if_f (t := mand _ _) (ρ1 := [.ow true [.int a2, .int b2], .nt (zs.map D.str), .fz bad, .fz wr, .fz (.tup [.str c, .int i]), .fz (.fn nm2), .no]) ?_ rfl
      have st : mtst (mfrz (mCall (F_same 5) (mgcons (mdat (mHeard raisedN (mfrz (mCallV 5 tbl_refused_right_deed (mgcons (mAg 2) (mgcons (mAg 3) mgnil)))))) (mgcons (mAg 4) mgnil)))) [.ow true [.int a2, .int b2], .nt (zs.map D.str), .fz bad, .fz wr, .fz (.tup [.str c, .int i]), .fz (.fn nm2), .no] = .ok true [.ow true [.int a2, .int b2], .nt (zs.map D.str), .fz bad, .fz wr, .fz (.tup [.str c, .int i]), .fz (.fn nm2), .no] := by
        simp only [ev_tst, ev_frz, ev_call, ev_gcons, ev_dat, hh, bnd_ok]
        simp [hs]
      rw [ev_and]
      have t1 : mtst (mbin aNotN (mslot 4) (mval (mpure .non))) [.ow true [.int a2, .int b2], .nt (zs.map D.str), .fz bad, .fz wr, .fz (.tup [.str c, .int i]), .fz (.fn nm2), .no] = .ok true [.ow true [.int a2, .int b2], .nt (zs.map D.str), .fz bad, .fz wr, .fz (.tup [.str c, .int i]), .fz (.fn nm2), .no] := by simp
      rw [t1, bnd_ok, if_pos rfl, not_ok st]
      rfl
  have l1 := body "named_row" F_named_row tbl1 fun c i q => named_row_badN (.fz bad) (.fz wr) bad wr (.fz _) (.fz _) tb c i q
  have l2 := body "read_named_row" F_read_named_row_p tbl2 fun c i q => read_badN (.fz bad) (.fz wr) bad wr (.fz _) (.fz _) tb c i q
  refine ⟨a3, b3, ?_, u1, u2⟩
  unfold F_refused_right m_refused_right
  refine def_ret (s := .fz (.bl true)) (ρ1 := .ow true [.int a3, .int b3] :: [.nt (zs.map D.str), .fz bad, .fz wr, .fz (owedN bad), .fz (.fn "read_named_row"), .fz od]) (seq_nx (ρ1 := .ow true [.int a2, .int b2] :: [.nt (zs.map D.str), .fz bad, .fz wr, .no, .no, .no]) (par_nx (xc (s := .fz bad) (ρ1 := .ow true [.int a1, .int b1] :: [.nt (zs.map D.str), .no, .no, .no, .no, .no]) (by simp [q1]) (xc e2 rfl)) rfl)
    (seq_nx (ρ1 := .ow true [.int a2, .int b2] :: [.nt (zs.map D.str), .fz bad, .fz wr, .fz (owedN bad), .no, .no]) (by simp [hw]) (seq_nx (ρ1 := .ow true [.int a2, .int b2] :: [.nt (zs.map D.str), .fz bad, .fz wr, .fz (owedN bad), .no, .no]) (by simp [hr])
    (seq_nx (ρ1 := .ow true [.int a2, .int b2] :: [.nt (zs.map D.str), .fz bad, .fz wr, .fz (owedN bad), .fz (.fn "read_named_row"), .no]) ?_ (seq_nx (set_nx e3 rfl) (ret_rt (fz_ok (refuses_ok (c := "BadText") (w := .int (-1)) (ρ1 := .ow true [.int a3, .int b3] :: [.nt (zs.map D.str), .fz bad, .fz wr, .fz (owedN bad), .fz (.fn "read_named_row"), .fz od]) (by simp) (by simp [hbt]) r_names.2.2.1 okS_told.2.2.2.1 trivial)))))))) (by simp)
  rw [ev_for]
  have hit : mItL (mfrz (mlst (mlcons (mpure (.fn "named_row")) (mlcons (mpure (.fn "read_named_row")) mlnil)))) (.ow true [.int a2, .int b2] :: [.nt (zs.map D.str), .fz bad, .fz wr, .fz (owedN bad), .no, .no]) = .ok [.fn "named_row", .fn "read_named_row"] (.ow true [.int a2, .int b2] :: [.nt (zs.map D.str), .fz bad, .fz wr, .fz (owedN bad), .no, .no]) := by simp
  rw [hit, bnS_ok]
  exact loop_two rfl l1 rfl l2
end HF
namespace HF
open PySem PySem.Spec PyProof.Rows L2 LamX ME He TL
theorem cut_drop (ds : List D) (i : Nat) (h : i ≤ ds.length) : ME.cutD ds (some (i : Int)) none = ds.drop i := by
  unfold ME.cutD
  rw [HT.sIx_none, HT.sIx_nat, Nat.min_eq_left h]
  exact List.take_of_length_le (by rw [List.length_drop]; omega)
theorem lookB (zs : List Str) (nm : Nms zs) (js : List Nat) (hj : ∀ j ∈ js, j < zs.length) : ∀ w ∈ wordsAt zs js, inZ zs w = true := fun w hw => by
  obtain ⟨j, h1, rfl⟩ := List.mem_map.mp hw
  have := hj j h1
  unfold inZ
  rw [List.any_eq_true]
  refine ⟨zs[j], List.getElem_mem _, ?_⟩
  rw [List.getD_eq_getElem?_getD, List.getElem?_eq_getElem this]
  simp
theorem ix_words (zs : List Str) (nm : Nms zs) (js : List Nat) (hj : ∀ j ∈ js, j < zs.length) : (wordsAt zs js).map (ixOf zs) = js := by
  unfold wordsAt
  rw [List.map_map]
  conv => rhs; rw [← List.map_id js]
  refine List.map_congr_left fun j h1 => ?_
  have hlt := hj j h1
  show ixOf zs (zs.getD j "") = j
  rw [List.getD_eq_getElem?_getD, List.getElem?_eq_getElem hlt]
  show ixOf zs zs[j] = j
  have hin : inZ zs zs[j] = true := by
    unfold inZ
    rw [List.any_eq_true]
    exact ⟨zs[j], List.getElem_mem _, by simp⟩
  obtain ⟨q1, q2, q3⟩ := idx_in hin
  rw [List.getElem?_eq_getElem q2] at q3
  exact (List.getElem_inj nm.nd).mp (Option.some.inj q3)
theorem no_sign (zs : List Str) (js : List Nat) (hz : ∀ z ∈ zs, isNm z = true) (hj : ∀ j ∈ js, j < zs.length) (c : Nat) (hc : letB c = false) : ∀ w ∈ wordsAt zs js, c ∉ tl w := fun w hw hm => by
  have := (isNm_ok (names_lt hz hj w hw)).2.2.2
  have := List.all_eq_true.mp this c hm
  rw [hc] at this
  cases this
/-- a row's text is read back -/
theorem rd_row (zs : List Str) (nm : Nms zs) (js : List Nat) (hj : ∀ j ∈ js, j < zs.length) (hl : js.length ≤ 300) : rd zs (Txt.join " " (wordsAt zs js)) = .told js := by
  have l : (wordsAt zs js).length = js.length := by unfold wordsAt; rw [List.length_map]
  have hlen : (Txt.join " " (wordsAt zs js)).length ≤ 3900 := by
    rw [join_eq]
    have h1 := StrLaws.join_length_le " " (wordsAt zs js)
    have h2 := sum_le (b := 12) fun w hw => (isNm_ok (names_lt nm.z hj w hw)).2.1
    have h3 : (" " : Str).length = 1 := by decide
    rw [h3] at h1
    omega
  unfold rd
  rw [if_neg (by omega)]
  cases js with
  | nil =>
    have : Txt.join " " (wordsAt zs []) = "" := by rw [join_eq]; rfl
    rw [if_pos this]
  | cons j0 js =>
    have hne : wordsAt zs (j0 :: js) ≠ [] := by unfold wordsAt; simp
    have hsp : Txt.split (Txt.join " " (wordsAt zs (j0 :: js))) " " = wordsAt zs (j0 :: js) := split_join Bl_tl (by decide +kernel) hne (no_sign zs _ nm.z hj 32 (by decide +kernel))
    have hne2 : Txt.join " " (wordsAt zs (j0 :: js)) ≠ "" := fun e => by
      rw [e, split_nil (by decide)] at hsp
      have h1 := (isNm_ok (names_lt nm.z hj "" (by rw [← hsp]; exact .head _))).2.2.1
      exact absurd h1 (by decide)
    rw [if_neg hne2]
    have hlf : Txt.split (Txt.join " " (wordsAt zs (j0 :: js))) Lf = [Txt.join " " (wordsAt zs (j0 :: js))] := by
      have h1 : Txt.join Lf [Txt.join " " (wordsAt zs (j0 :: js))] = Txt.join " " (wordsAt zs (j0 :: js)) := by rw [join_eq]; rfl
      conv => lhs; rw [← h1]
      refine split_join Lf_tl (by decide +kernel) (by simp) fun p hp => ?_
      rw [List.mem_singleton.mp hp]
      intro hm
      have key : ∀ ws : List Str, (∀ w ∈ ws, (10 : Nat) ∉ tl w) → (10 : Nat) ∉ tl (Str.join " " ws) := by
        intro ws
        induction ws with
        | nil => intro _ h; cases h
        | cons w r ih =>
          intro hw
          cases r with
          | nil => exact hw w (.head _)
          | cons v r =>
            show (10 : Nat) ∉ tl (w ++ " " ++ Str.join " " (v :: r))
            rw [tl_append, tl_append]
            intro h
            rcases List.mem_append.mp h with h | h
            · rcases List.mem_append.mp h with h | h
              · exact hw w (.head _) h
              · exact absurd h (by decide)
            · exact ih (fun x hx => hw x (List.mem_cons_of_mem _ hx)) h
      rw [join_eq] at hm
      exact key _ (no_sign zs _ nm.z hj 10 (by decide +kernel)) hm
    unfold rdL
    rw [hlf]
    show (match fw zs 0 (Txt.split (Txt.join " " (wordsAt zs (j0 :: js))) Bl) with
      | some i => Rd.wrong "WrongLine" (.tup [.int 0, .int (i : Nat)])
      | none => if ([Txt.join " " (wordsAt zs (j0 :: js))] : List Str).length = 1 then Rd.told ((Txt.split (Txt.join " " (wordsAt zs (j0 :: js))) Bl).map (ixOf zs)) else .wrong "WrongLine" (.tup [.int 1, .int 0])) = _
    rw [show Bl = (" " : Str) from rfl, hsp]
    have hfw : ∀ (ws : List Str) (i : Nat), (∀ w ∈ ws, inZ zs w = true) → i + ws.length ≤ 300 → fw zs i ws = none := by
      intro ws
      induction ws with
      | nil => intros; rfl
      | cons w r ih =>
        intro i h1 h2
        unfold fw
        rw [List.length_cons] at h2
        rw [if_pos ⟨h1 w (.head _), by omega⟩]
        exact ih (i + 1) (fun x hx => h1 x (List.mem_cons_of_mem _ hx)) (by omega)
    rw [hfw _ 0 (lookB zs nm _ hj) (by rw [l]; omega)]
    simp only [List.length_singleton, if_true]
    rw [ix_words zs nm _ hj]
theorem told_dep (zs : List Str) (js : List Nat) (hz : ∀ z ∈ zs, isNm z = true) (hj : ∀ j ∈ js, j < zs.length) : okS (Txt.join " " (wordsAt zs js)) := tx_join (tx_dec (n := 1) (s := " ") (by decide +kernel)).1 fun w hw => (isNm_ok (names_lt hz hj w hw)).1
/-- bad rows: what the law draws -/
def badRow (n : Nat) (d : D) : Prop := kindR d ∧ ∃ c i, wrongR n d = some (c, i) ∧ c ∈ raisedN ∧ okS c
theorem badRow_of {n : Nat} {d : D} (hk : kindR d) (h : ∀ ds, d = .tup ds → ds.length ≤ 300 → fr n 0 ds ≠ none) : badRow n d := by
  refine ⟨hk, ?_⟩
  cases d with
  | tup ds =>
    rw [wrongR_tup]
    by_cases hl : 300 < ds.length
    · rw [if_pos hl]
      exact ⟨_, _, rfl, r_names.2.2.2.1, okS_told.2.2.2.2.1⟩
    · rw [if_neg hl]
      cases q : fr n 0 ds with
      | none => exact absurd q (h ds rfl (by omega))
      | some j => exact ⟨_, _, rfl, r_names.2.1, okS_told.2.2.1⟩
  | _ => exact ⟨_, _, rfl, r_names.2.1, okS_told.2.2.1⟩
theorem fr_bad {n : Nat} (js : List Nat) (hj : ∀ j ∈ js, j < n) (o : D) (ho : wholeB 0 ((n : Int) - 1) o = false) (post : List D) : fr n 0 (js.map (fun j => D.int (j : Nat)) ++ o :: post) ≠ none := by
  rw [fr_app_ok js hj, fr, if_neg (by rw [ho]; decide)]
  exact fun e => by cases e
theorem fr_rep {n : Nat} (o : D) (ho : wholeB 0 ((n : Int) - 1) o = false) (k : Nat) (hk : 0 < k) : fr n 0 (List.replicate k o) ≠ none := by
  obtain ⟨m, rfl⟩ : ∃ m, k = m + 1 := ⟨k - 1, by omega⟩
  rw [List.replicate_succ]
  exact fr_bad [] (fun _ h => by cases h) o ho _
theorem repD_one (x : D) (n : Nat) : repD [x] n = List.replicate n x := by
  unfold repD
  induction n with
  | zero => rfl
  | succ n ih => rw [List.replicate_succ, List.flatten_cons, ih, List.replicate_succ]; rfl
/-- the row's test of bad rows holds -/
theorem row_same (zs : List Str) (nm : Nms zs) (hl : zs.length ≤ 24) (bad : D) (hb : badRow zs.length bad) {i j k : Nat} {ρ : ME.Env} (e1 : ρ[i]? = some (.nt (zs.map D.str))) (e2 : ρ[j]? = some (.fz bad)) (e3 : ρ[k]? = some (.fz (owedR zs.length bad))) :
    mtst (mfrz (mCall (F_same 5) (mgcons (mdat (mHeard raisedN (mfrz (mCall F_named_row (mgcons (mAg i) (mgcons (mAg j) mgnil)))))) (mgcons (mAg k) mgnil)))) ρ = .ok true ρ := by
  obtain ⟨hk, c, w, e, hc, ho⟩ := hb
  have hn := named_row_badR (.nt (zs.map D.str)) (.fz bad) (zs.map D.str) bad (.nt _) (.fz _) (nm.tame hl) (nm.none hl) hk c w (by rw [List.length_map]; exact e)
  have hh : mHeard raisedN (mfrz (mCall F_named_row (mgcons (mAg i) (mgcons (mAg j) mgnil)))) ρ = .ok (.tup [.str c, .int w]) ρ := heard_ex (ρ' := ρ) (by simp [e1, e2, hn]) hc
  have hw : owedR zs.length bad = .tup [.str c, .int w] := by unfold owedR; rw [e]
  have hs := same_refl 5 (.tup [.str c, .int w]) ⟨fun x hx => by
    rcases List.mem_cons.mp hx with rfl | hx
    · exact ho
    · rw [List.mem_singleton.mp hx]; exact trivial, by simp⟩
  rw [hw] at e3
  simp only [ev_tst, ev_frz, ev_call, ev_gcons, ev_dat, hh, bnd_ok]
  simp [e3, hs]
end HF
namespace HF
open PySem PySem.Spec PyProof.Rows L2 LamX ME He TL
abbrev b_odd : MS := sSeq (sSet 8 (mCall F_one (mgcons (mAg 0) (mgcons (mdat (mfrz (mlst (mlcons (mfrz (mbinX aAdd (mval (mfrz (mbinX aAdd (mval (mfrz (mslice (mslot 3) (mpure none) (mpart (mvar 6))))) (mval (mtup (mlcons (mvar 7) mlnil)))))) (mval (mfrz (mslice (mslot 3) (mpart (mvar 6)) (mpure none)))))) (mlcons (mfrz (mbinX aAdd (mslot 3) (mval (mtup (mlcons (mvar 7) mlnil))))) (mlcons (mfrz (mfnX fList (mcons (mslot 3) mnil))) (mlcons (mpure .non) (mlcons (mfrz (mbinX aMul (mval (mtup (mlcons (mvar 7) mlnil))) (mval (mpure (.int 301))))) mlnil)))))))) mgnil)))) (sSeq (sSet 9 (mCall F_wrong_row (mgcons (mAg 2) (mgcons (mAg 8) mgnil)))) (sIf (mnot (mtst (mfrz (mCall (F_same 5) (mgcons (mdat (mHeard raisedN (mfrz (mCall F_named_row (mgcons (mAg 1) (mgcons (mAg 8) mgnil)))))) (mgcons (mAg 9) mgnil)))))) (sRet (mfz (mpure (.bl false)))) sNil))
section
variable {zs : List Str} {js : List Nat} {s3 : Sl} {t : Str} {x5 : Sl} {at_ : Nat} {x10 : Sl}
/-- the frame of the second half -/
def fr2 (zs : List Str) (s3 : Sl) (t : Str) (x5 : Sl) (at_ : Nat) (x7 x8 x9 x10 : Sl) : List Sl := [.nt (zs.map D.str), .fz (.int (zs.length : Nat)), s3, .fz (.str t), x5, .fz (.int (at_ : Nat)), x7, x8, x9, x10]
theorem odd_turn (nm : Nms zs) (hl : zs.length ≤ 24) (h3 : DSl s3 (.tup (js.map fun j => D.int (j : Nat)))) (hj : ∀ j ∈ js, j < zs.length) (hjl : js.length ≤ 15) (hat : at_ ≤ js.length) (o : D) (ko : kind o) (wo : wholeB 0 ((zs.length : Int) - 1) o = false) {x8 x9 : Sl} (f8 : Fr x8) (f9 : Fr x9) {a b : Int} (hb : 0 ≤ b) (hb2 : b < 2147483647) :
    ∃ a' b' y8 y9, b_odd (.ow true [.int a, .int b] :: fr2 zs s3 t x5 at_ (.fz o) x8 x9 x10) = .nx (.ow true [.int a', .int b'] :: fr2 zs s3 t x5 at_ (.fz o) y8 y9 x10) ∧ Fr y8 ∧ Fr y9 ∧ 0 ≤ b' ∧ b' < 2147483647 := by
  let J := IJ true (fr2 zs s3 t x5 at_ (.fz o) x8 x9 x10)
  have os : OSl s3 (.tup (js.map fun j => D.int (j : Nat))) := ⟨h3.g, h3.sd⟩
  have hA : HR J (fun d => d = .tup (js.map fun j => D.int (j : Nat))) (mslot 3) := J_slot (i := 2) rfl os rfl
  have hAt : Hh J (fun d => ∃ i, d = D.int i ∧ i = (at_ : Int)) (mvar 6) := J_var (i := 5) rfl (.fz _) ⟨_, rfl, rfl⟩
  have hO : Hh J (fun d => d = .tup [o]) (mtup (mlcons (mvar 7) mlnil)) := H_bind (H_bind (J_var (i := 6) (P := fun d => d = o) rfl (.fz _) rfl) fun d e => H_bind (Q := fun ds : List D => ds = []) (H_pure rfl) fun ds e2 => H_pure (Q := fun l => l = [o]) (by subst e e2; rfl)) fun ds e => H_pure (by subst e; rfl)
  have kj : ∀ d ∈ js.map (fun j => D.int (j : Nat)), kind d := fun d hd => by
    obtain ⟨j, _, rfl⟩ := List.mem_map.mp hd
    exact ⟨_, rfl⟩
  have big : (100000 : Nat) ≤ sizeLine := by decide
  -- asked[:at] + (odd,) + asked[at:]
  have c1 : Hh J (badRow zs.length) (mfrz (mbinX aAdd (mval (mfrz (mbinX aAdd (mval (mfrz (mslice (mslot 3) (mpure none) (mpart (mvar 6))))) (mval (mtup (mlcons (mvar 7) mlnil)))))) (mval (mfrz (mslice (mslot 3) (mpart (mvar 6)) (mpure none)))))) := by
    have u1 : Hh J (fun d => d = .tup ((js.take at_).map fun j => D.int (j : Nat))) (mfrz (mslice (mslot 3) (mpure none) (mpart (mvar 6)))) := H_frzF (H_slice hA (L := fun o => o = none) (U := fun o => ∃ i, o = some i ∧ i = (at_ : Int)) (H_pure rfl) (H_part hAt) fun x l u e1 e2 ⟨i, e3, e4⟩ => by
      subst e1 e2 e3 e4
      exact ⟨.fz (.tup (ME.cutD (js.map fun j => D.int (j : Nat)) none (some (at_ : Int)))), rfl, rfl, _, rfl, by rw [cut_take, List.map_take]⟩)
    have u2 : Hh J (fun d => d = .tup ((js.drop at_).map fun j => D.int (j : Nat))) (mfrz (mslice (mslot 3) (mpart (mvar 6)) (mpure none))) := H_frzF (H_slice hA (U := fun o => o = none) (L := fun o => ∃ i, o = some i ∧ i = (at_ : Int)) (H_part hAt) (H_pure rfl) fun x l u e1 ⟨i, e3, e4⟩ e2 => by
      subst e1 e2 e3 e4
      exact ⟨.fz (.tup (ME.cutD (js.map fun j => D.int (j : Nat)) (some (at_ : Int)) none)), rfl, rfl, _, rfl, by rw [cut_drop _ _ (by rw [List.length_map]; exact hat), List.map_drop]⟩)
    have u3 : Hh J (fun d => d = .tup ((js.take at_).map (fun j => D.int (j : Nat)) ++ [o])) (mfrz (mbinX aAdd (mval (mfrz (mslice (mslot 3) (mpure none) (mpart (mvar 6))))) (mval (mtup (mlcons (mvar 7) mlnil))))) := H_frzF (H_binX (R_val u1) (R_val hO) fun x y e1 e2 => by
      subst e1 e2
      refine ⟨_, (aAdd_tup _ _).trans (if_pos ?_), rfl⟩
      rw [List.length_map, List.length_take, List.length_singleton]; omega)
    refine H_frzF (H_binX (R_val u3) (R_val u2) fun x y e1 e2 => ?_)
    subst e1 e2
    refine ⟨_, (aAdd_tup _ _).trans (if_pos ?_), ?_⟩
    · rw [List.length_append, List.length_map, List.length_map, List.length_take, List.length_drop, List.length_singleton]; omega
    · rw [List.append_assoc]
      refine badRow_of ⟨fun d hd => ?_, ?_⟩ fun ds e _ => ?_
      · rcases List.mem_append.mp hd with h | h
        · obtain ⟨j, _, rfl⟩ := List.mem_map.mp h
          exact ⟨_, rfl⟩
        · rcases List.mem_append.mp h with h | h
          · rw [List.mem_singleton.mp h]; exact ko
          · obtain ⟨j, _, rfl⟩ := List.mem_map.mp h
            exact ⟨_, rfl⟩
      · simp; omega
      · rw [← D.tup.inj e]
        exact fr_bad _ (fun j h => hj j (List.mem_of_mem_take h)) o wo _
  have c2 : Hh J (badRow zs.length) (mfrz (mbinX aAdd (mslot 3) (mval (mtup (mlcons (mvar 7) mlnil))))) := H_frzF (H_binX hA (R_val hO) fun x y e1 e2 => by
    subst e1 e2
    refine ⟨_, (aAdd_tup _ _).trans (if_pos ?_), ?_⟩
    · rw [List.length_map, List.length_singleton]; omega
    · refine badRow_of ⟨fun d hd => ?_, by simp; omega⟩ fun ds e _ => ?_
      · rcases List.mem_append.mp hd with h | h
        · exact kj d h
        · rw [List.mem_singleton.mp h]; exact ko
      · rw [← D.tup.inj e]
        exact fr_bad _ hj o wo _)
  have c3 : Hh J (badRow zs.length) (mfrz (mfnX fList (mcons (mslot 3) mnil))) := fun ρ ⟨a, b, e, c⟩ => by
    subst e
    exact ⟨.lst (js.map fun j => D.int (j : Nat)), .ow true [.int a, .int b] :: fr2 zs s3 t x5 at_ (.fz o) x8 x9 x10, by simp [fr2, h3.g, h3.sd], badRow_of ⟨_, rfl⟩ (fun _ h => by cases h), a, b, rfl, c⟩
  have c5 : Hh J (badRow zs.length) (mfrz (mbinX aMul (mval (mtup (mlcons (mvar 7) mlnil))) (mval (mpure (.int 301))))) := H_frzF (H_binX (R_val hO) (B := fun d => d = .int 301) (R_val (H_pure rfl)) fun x y e1 e2 => by
    subst e1 e2
    refine ⟨.tup (repD [o] 301), (aMul_tup _ _).trans (if_pos ⟨by simp, by decide, by decide, by simp, ?_⟩), ?_⟩
    · rw [repD_one]
      refine badRow_of ⟨fun d hd => ?_, by simp⟩ fun ds e _ => ?_
      · rw [List.eq_of_mem_replicate hd]; exact ko
      · rw [← D.tup.inj e]; exact fr_rep o wo 301 (by decide)
    · rw [repD_one, List.length_replicate]; decide)
  obtain ⟨s, ρ', e1, ⟨bad, rfl, hbad⟩, a1, b1, rfl, p1, p2⟩ := J_one (p := true) (P := badRow zs.length) (ne_lst (H_lconsE c1 (H_lconsN c2 (H_lconsN c3 (H_lconsN (f := mpure .non) (H_pure (badRow_of ⟨_, rfl⟩ fun _ h => by cases h)) (H_lconsN c5 H_lnilN)))) (by decide))) _ (⟨a, b, rfl, hb, hb2⟩ : J _)
  have hw := wrong_row_eq zs.length (.fz bad) bad (.fz _) hbad.1
  have w8 : setSl 8 (.fz bad) (.ow true [.int a1, .int b1] :: fr2 zs s3 t x5 at_ (.fz o) x8 x9 x10) = some (.ow true [.int a1, .int b1] :: fr2 zs s3 t x5 at_ (.fz o) (.fz bad) x9 x10) := by simp [fr2, f8.st]
  have hs := row_same zs nm hl bad hbad (i := 1) (j := 8) (k := 9) (ρ := .ow true [.int a1, .int b1] :: fr2 zs s3 t x5 at_ (.fz o) (.fz bad) (.fz (owedR zs.length bad)) x10) rfl rfl rfl
  exact ⟨a1, b1, .fz bad, .fz (owedR zs.length bad), seq_nx (set_nx e1 w8) (seq_nx (ρ1 := .ow true [.int a1, .int b1] :: fr2 zs s3 t x5 at_ (.fz o) (.fz bad) (.fz (owedR zs.length bad)) x10) (by simp [fr2, f9.st, hw]) (if_f (not_ok hs) rfl)), .inr ⟨_, rfl⟩, .inr ⟨_, rfl⟩, p1, p2⟩
end
end HF
namespace HF
open PySem PySem.Spec PyProof.Rows L2 LamX ME He TL
theorem nats_of {n : Nat} {ys : List D} (h : ∀ y ∈ ys, ∃ j : Nat, y = .int (j : Int) ∧ j < n) : ∃ js : List Nat, ys = js.map (fun j => D.int (j : Nat)) ∧ (∀ j ∈ js, j < n) ∧ js.length = ys.length := by
  induction ys with
  | nil => exact ⟨[], rfl, (fun _ h => by cases h), rfl⟩
  | cons y ys ih =>
    obtain ⟨j, rfl, hj⟩ := h y (.head _)
    obtain ⟨js, e, q, l⟩ := ih fun x hx => h x (List.mem_cons_of_mem _ hx)
    refine ⟨j :: js, by rw [e]; rfl, fun k hk => ?_, by rw [List.length_cons, List.length_cons, l]⟩
    rcases List.mem_cons.mp hk with rfl | hk
    · exact hj
    · exact q k hk
theorem rows_spec (a b : Int) (zs : List Str) (hb : 0 ≤ b) (hb2 : b < 2147483647) (nm : Nms zs) (hl : zs.length ≤ 24) : ∃ a' b', F_rows_right [.ow true [.int a, .int b], .nt (zs.map D.str)] = .ret (.fz (.bl true)) [.ow true [.int a', .int b'], .nt (zs.map D.str)] ∧ 0 ≤ b' ∧ b' < 2147483647 := by
  let R0 : List Sl := [.nt (zs.map D.str), .fz (.int (zs.length : Nat)), .no, .no, .no, .no, .no, .no, .no, .no]
  -- asked
  obtain ⟨a1, b1, js, s3, eA, h3, g3, hj, hjl, p1, p2⟩ : ∃ (a1 b1 : Int) (js : List Nat) (s3 : Sl), mif (mtst (mbin (aCmp fun i j => decide (j < i)) (mslot 2) (mval (mpure (.int 0))))) (mfnX fTupN (mcons (mval (mfrz (mComp [10] (mbind (mfrz (mCall F_take (mgcons (mAg 0) (mgcons (mdat (mpure (.int 15))) mgnil)))) asR1) (gNm 10) (mpure true) (mfrz (mCall F_take (mgcons (mAg 0) (mgcons (mAg 2) mgnil))))))) mnil)) (mfz (mtup mlnil)) (.ow true [.int a, .int b] :: R0) = .ok s3 (.ow true [.int a1, .int b1] :: R0) ∧ DSl s3 (.tup (js.map fun j => D.int (j : Nat))) ∧ (gMv (some s3) 0 [] = .ok s3 []) ∧ (∀ j ∈ js, j < zs.length) ∧ js.length ≤ 15 ∧ 0 ≤ b1 ∧ b1 < 2147483647 := by
    by_cases h0 : 0 < zs.length
    · have h0' : (0 : Int) < zs.length := by omega
      obtain ⟨r, a1, b1, q1, r1, r2, r3, r4⟩ := take_spec a b 15 hb hb2 (by omega) (by omega)
      have hsm : Sm r := sm_of r1 (by omega)
      obtain ⟨n, rfl, hn⟩ : ∃ n : Nat, r = (n : Int) ∧ n ≤ 15 := ⟨r.toNat, by omega, by omega⟩
      have hit : mbind (mfrz (mCall F_take (mgcons (mAg 0) (mgcons (mdat (mpure (.int 15))) mgnil)))) asR1 (.ow true [.int a, .int b] :: R0) = .ok (rngD 0 1 n) (.ow true [.int a1, .int b1] :: R0) := by
        simp [R0, q1, asR1_nat hsm]
      obtain ⟨ys, ρ', c1, c2, c3, a2, b2, rfl, c5, c6⟩ := comp_pass (own := [10]) (g := gNm 10) (fe := mfrz (mCall F_take (mgcons (mAg 0) (mgcons (mAg 2) mgnil)))) (IJ true R0) (fun y => ∃ j : Nat, y = .int (j : Int) ∧ j < zs.length) hit (ρ2 := .ow true [.int a1, .int b1] :: R0) (by simp [R0]) ⟨a1, b1, rfl, r3, r4⟩ (fun d hd ρ ⟨a, b, e, b1, b2⟩ => by
        subst e
        obtain ⟨r, a', b', q, r1, r2, r3, r4⟩ := take_spec a b (zs.length : Nat) b1 b2 h0' (by omega)
        exact ⟨.ow true [.int a, .int b] :: [.nt (zs.map D.str), .fz (.int (zs.length : Nat)), .no, .no, .no, .no, .no, .no, .no, .fz d], .int r, .ow true [.int a', .int b'] :: [.nt (zs.map D.str), .fz (.int (zs.length : Nat)), .no, .no, .no, .no, .no, .no, .no, .fz d], .ow true [.int a', .int b'] :: R0, by simp [R0], by simp [q], ⟨r.toNat, by congr 1; omega, by omega⟩, by simp [R0], a', b', rfl, r3, r4⟩) (by rw [rng_len]; exact Nat.le_trans hn (by decide))
      obtain ⟨js, rfl, hj, hjl⟩ := nats_of c3
      rw [rng_len] at c2
      refine ⟨a2, b2, js, .nt (js.map fun j => D.int (j : Nat)), ?_, .nt _, rfl, hj, by omega, c5, c6⟩
      refine mif_t (ρ1 := .ow true [.int a, .int b] :: R0) (by simp [R0, h0]) ?_
      simp only [ev_fnX, ev_cons, ev_val, ev_frz, c1, bnd_ok, kFrz_ow, ev_pure, ev_bind, ev_nil, ev_uses1, ev_uses0, ev_useV, fTupN_lst, Option.bind_some, unown_nt, ev_opt]
    · have h0' : ¬ (0 : Int) < zs.length := by omega
      exact ⟨a, b, [], .fz (.tup []), mif_f (ρ1 := .ow true [.int a, .int b] :: R0) (by simp [R0, h0]) (by simp), .fz _, rfl, (fun _ h => by cases h), by simp, hb, hb2⟩
  -- text
  have ht := named_text_eq zs js (.nt (zs.map D.str)) s3 (.nt _) h3 nm.z hj (by omega)
  have hrow := named_row_ok zs js (.nt (zs.map D.str)) s3 (.nt _) h3 nm.z (nm.tame hl) (nm.none hl) hj (by omega)
  have hok := told_dep zs js nm.z hj
  have hrd := rd_row zs nm js hj (by omega)
  have hlen : (Txt.join " " (wordsAt zs js)).length ≤ 200 := by
    rw [join_eq]
    have h1 := StrLaws.join_length_le " " (wordsAt zs js)
    have h2 := sum_le (b := 12) fun w hw => (isNm_ok (names_lt nm.z hj w hw)).2.1
    have h3 : (" " : Str).length = 1 := by decide
    have l : (wordsAt zs js).length = js.length := by unfold wordsAt; rw [List.length_map]
    rw [h3] at h1
    omega
  generalize Txt.join " " (wordsAt zs js) = t at ht hrow hok hrd hlen
  have hrp := (read_p zs (.nt (zs.map D.str)) (.fz (.str t)) t (.nt _) (.fz _) (nm.tame hl) nm.nd (nm.none hl) (by omega) hok hl).2
  rw [hrd] at hrp
  obtain ⟨sr, kr, fr_⟩ := hrp
  let R1 : Sl → List Sl := fun x5 => [.nt (zs.map D.str), .fz (.int (zs.length : Nat)), s3, .fz (.str t), x5, .no, .no, .no, .no, .no]
  have f1 : ∀ (x : Sl) (a b : Int), mWrap raisedN (mfrz (mCall F_named_row (mgcons (mAg 1) (mgcons (mAg 3) mgnil)))) (mlcons (mvar 4) mlnil) t_tells (F_same 5) (.ow true [.int a, .int b] :: R1 x) = .ok (.bl true) (.ow true [.int a, .int b] :: R1 x) := fun x a b =>
    tells_ok (d := .str t) (ρ1 := .ow true [.int a, .int b] :: R1 x) (by simp [R1]) (by simp [R1, h3.a, hrow]) hok
  have f2 : ∀ (a b : Int), mWrap raisedN (mfrz (mCall F_read_named_row_p (mgcons (mAg 1) (mgcons (mAg 4) mgnil)))) (mlcons (mvar 3) mlnil) t_tells (F_same 5) (.ow true [.int a, .int b] :: R1 .no) = .ok (.bl true) (.ow true [.int a, .int b] :: R1 .no) := fun a b =>
    tells_ok (d := .tup (js.map fun j => D.int (j : Nat))) (ρ1 := .ow true [.int a, .int b] :: R1 .no) (by simp [R1, h3.v]) (by simp [R1, fr_, kr]) (dep_ints 2 js (by omega))
  -- the bent texts
  obtain ⟨a2, b2, ds, qt, hds, _, q3, q4⟩ := texts_spec a1 b1 zs t 200 p1 p2 ⟨hok, hlen⟩ (by decide) (by decide)
  obtain ⟨ρ6, el, x5, fx5, rfl⟩ := loop_pass (g := gNm 5) (body := sIf (mnot (mtst (mfrz (mCall F_text_right (mgcons (mAg 1) (mgcons (mAg 5) mgnil)))))) (sRet (mfz (mpure (.bl false)))) sNil) (fun ρ => ∃ x5, Fr x5 ∧ ρ = .ow true [.int a2, .int b2] :: R1 x5) (ds := ds) (ρ := .ow true [.int a2, .int b2] :: R1 .no) (fun d hd ρ ⟨x, fx, e⟩ => by
    subst e
    obtain ⟨s, rfl, ts⟩ := hds d hd
    have hr := text_right_eq zs s nm hl (Nat.le_trans ts.2 (by decide)) ts.1
    exact ⟨.ow true [.int a2, .int b2] :: R1 (.fz (.str s)), .ow true [.int a2, .int b2] :: R1 (.fz (.str s)), by simp [R1, fx.st], by simp [R1, hr], _, .inr ⟨_, rfl⟩, rfl⟩) ⟨.no, .inl rfl, rfl⟩
  -- at
  obtain ⟨r, a3, b3, qat, r1, r2, r3, r4⟩ := take_spec a2 b2 (js.length + 1) q3 q4 (by omega) (by omega)
  obtain ⟨at_, rfl, hat⟩ : ∃ n : Nat, r = (n : Int) ∧ n ≤ js.length := ⟨r.toNat, by omega, by omega⟩
  -- the odd ones
  obtain ⟨o5, eo, ko, wo⟩ : ∃ o5, mif (mtst (mbin (aCmp fun i j => decide (j < i)) (mslot 2) (mval (mpure (.int 0))))) (mbin dIx (mslot 1) (mval (mpure (.int 0)))) (mpure (.str "a")) (.ow true [.int a3, .int b3] :: fr2 zs s3 t x5 at_ .no .no .no .no) = .ok o5 (.ow true [.int a3, .int b3] :: fr2 zs s3 t x5 at_ .no .no .no .no) ∧ kind o5 ∧ wholeB 0 ((zs.length : Int) - 1) o5 = false := by
    cases zs with
    | nil => exact ⟨.str "a", mif_f (ρ1 := .ow true [.int a3, .int b3] :: fr2 [] s3 t x5 at_ .no .no .no .no) (by simp [fr2]) rfl, ⟨_, rfl⟩, rfl⟩
    | cons z zs => exact ⟨.str z, mif_t (ρ1 := .ow true [.int a3, .int b3] :: fr2 (z :: zs) s3 t x5 at_ .no .no .no .no) (by simp [fr2]) (by simp [fr2]), ⟨_, rfl⟩, rfl⟩
  have hit : mItL (mfrz (mlst (mlcons (mvar 2) (mlcons (mun aNeg (mval (mpure (.int 1)))) (mlcons (mpure (.bl true)) (mlcons (mpure .non) (mlcons (mif (mtst (mbin (aCmp fun i j => decide (j < i)) (mslot 2) (mval (mpure (.int 0))))) (mbin dIx (mslot 1) (mval (mpure (.int 0)))) (mpure (.str "a"))) mlnil))))))) (.ow true [.int a3, .int b3] :: fr2 zs s3 t x5 at_ .no .no .no .no) = .ok [.int (zs.length : Nat), .int (-1), .bl true, .non, o5] (.ow true [.int a3, .int b3] :: fr2 zs s3 t x5 at_ .no .no .no .no) := by
    have e1 : mvar 2 (.ow true [.int a3, .int b3] :: fr2 zs s3 t x5 at_ .no .no .no .no) = .ok (.int (zs.length : Nat)) (.ow true [.int a3, .int b3] :: fr2 zs s3 t x5 at_ .no .no .no .no) := by simp [fr2]
    have e2 : mun aNeg (mval (mpure (.int 1))) (.ow true [.int a3, .int b3] :: fr2 zs s3 t x5 at_ .no .no .no .no) = .ok (.int (-1)) (.ow true [.int a3, .int b3] :: fr2 zs s3 t x5 at_ .no .no .no .no) := by simp
    rw [ev_itL, frz_ow (p := false) (d := [.int (zs.length : Nat), .int (-1), .bl true, .non, o5]) (ρ1 := .ow true [.int a3, .int b3] :: fr2 zs s3 t x5 at_ .no .no .no .no), bnd_ok, asL_lst]
    rw [ev_lst, lc1 e1 (lc1 e2 (lc1 (f := mpure (.bl true)) rfl (lc1 (f := mpure .non) rfl (lc1 eo (g := mlnil) rfl)))), bnd_ok, ev_pure]
  obtain ⟨ρ8, el8, a4, b4, x7, x8, x9, rfl, _, _, _, u1, u2⟩ := loop_pass (g := gNm 7) (body := b_odd) (fun ρ => ∃ a b x7 x8 x9, ρ = .ow true [.int a, .int b] :: fr2 zs s3 t x5 at_ x7 x8 x9 .no ∧ Fr x7 ∧ Fr x8 ∧ Fr x9 ∧ 0 ≤ b ∧ b < 2147483647) (ds := [.int (zs.length : Nat), .int (-1), .bl true, .non, o5]) (ρ := .ow true [.int a3, .int b3] :: fr2 zs s3 t x5 at_ .no .no .no .no) (fun d hd ρ ⟨a, b, x7, x8, x9, e, f7, f8, f9, b1, b2⟩ => by
    subst e
    have hd2 : kind d ∧ wholeB 0 ((zs.length : Int) - 1) d = false := by
      rcases List.mem_cons.mp hd with rfl | hd
      · exact ⟨⟨_, rfl⟩, by simp [wholeB]; omega⟩
      rcases List.mem_cons.mp hd with rfl | hd
      · exact ⟨⟨_, rfl⟩, by simp [wholeB]⟩
      rcases List.mem_cons.mp hd with rfl | hd
      · exact ⟨⟨_, rfl⟩, rfl⟩
      rcases List.mem_cons.mp hd with rfl | hd
      · exact ⟨⟨_, rfl⟩, rfl⟩
      · rw [List.mem_singleton.mp hd]; exact ⟨ko, wo⟩
    obtain ⟨a', b', y8, y9, e, g8, g9, v1, v2⟩ := odd_turn (x5 := x5) (t := t) (x10 := .no) nm hl h3 hj hjl hat d hd2.1 hd2.2 f8 f9 b1 b2
    exact ⟨_, _, by simp [fr2, f7.st]; rfl, e, a', b', _, _, _, rfl, .inr ⟨_, rfl⟩, g8, g9, v1, v2⟩) ⟨a3, b3, .no, .no, .no, rfl, .inl rfl, .inl rfl, .inl rfl, r3, r4⟩
  have f3 : mWrap raisedN (mfrz (mCall F_named_row (mgcons (mAg 1) (mgcons (mAg 3) mgnil)))) (mlcons (mvar 4) mlnil) t_tells (F_same 5) (.ow true [.int a4, .int b4] :: fr2 zs s3 t x5 at_ x7 x8 x9 .no) = .ok (.bl true) (.ow true [.int a4, .int b4] :: fr2 zs s3 t x5 at_ x7 x8 x9 .no) :=
    tells_ok (d := .str t) (ρ1 := .ow true [.int a4, .int b4] :: fr2 zs s3 t x5 at_ x7 x8 x9 .no) (by simp [fr2]) (by simp [fr2, h3.a, hrow]) hok
  refine ⟨a4, b4, ?_, u1, u2⟩
  unfold F_rows_right m_rows_right
  refine def_ret (s := .fz (.bl true)) (ρ1 := .ow true [.int a4, .int b4] :: fr2 zs s3 t x5 at_ x7 x8 x9 .no)
    (seq_nx (ρ1 := .ow true [.int a, .int b] :: R0) (by simp [R0]) (seq_nx (set_nx eA (ρ2 := .ow true [.int a1, .int b1] :: [.nt (zs.map D.str), .fz (.int (zs.length : Nat)), s3, .no, .no, .no, .no, .no, .no, .no]) (by simp [R0]))
    (seq_nx (ρ1 := .ow true [.int a1, .int b1] :: R1 .no) (by simp [h3.a, ht, R1]) (seq_nx (ρ1 := .ow true [.int a1, .int b1] :: R1 .no) (if_f (not_ok (tst_ok (f1 .no a1 b1))) rfl) (seq_nx (ρ1 := .ow true [.int a1, .int b1] :: R1 .no) (if_f (not_ok (tst_ok (f2 a1 b1))) rfl)
    (seq_nx (ρ1 := .ow true [.int a2, .int b2] :: R1 x5) ?_ (seq_nx (ρ1 := .ow true [.int a3, .int b3] :: fr2 zs s3 t x5 at_ .no .no .no .no) ?_ (seq_nx (ρ1 := .ow true [.int a4, .int b4] :: fr2 zs s3 t x5 at_ x7 x8 x9 .no) ?_ (ret_rt (fz_ok f3)))))))))) (by simp [fr2])
  · rw [ev_for]
    have : mItL (mfrz (mCall F_texts_of (mgcons (mAg 0) (mgcons (mAg 1) (mgcons (mAg 4) mgnil))))) (.ow true [.int a1, .int b1] :: R1 .no) = .ok ds (.ow true [.int a2, .int b2] :: R1 .no) := by simp [R1, qt]
    rw [this, bnS_ok]
    exact el
  · simp [R1, fr2, h3.g, h3.sd, qat]
  · rw [ev_for, hit, bnS_ok]
    exact el8
end HF
namespace HF
open PySem PySem.Spec PyProof.Rows L2 LamX ME He TL
theorem fold_cat : ∀ (l : List (Array Nat)) (acc : Array Nat), (l.foldl (· ++ ·) acc).toList = acc.toList ++ (l.map Array.toList).flatten
  | [], acc => by simp
  | x :: l, acc => by
    rw [List.foldl_cons, fold_cat l (acc ++ x)]
    simp
theorem repS_list (a : Str) (n : Nat) : (repS a n).cps.toList = (List.replicate n a.cps.toList).flatten := by
  unfold repS
  show ((List.replicate n a.cps).foldl (· ++ ·) #[]).toList = _
  rw [fold_cat]
  simp
theorem repS_a (n : Nat) : (repS "a" n).length = n ∧ okS (repS "a" n) := by
  have h := repS_list "a" n
  have e : ("a" : Str).cps.toList = [97] := by decide
  rw [e] at h
  have hf : ∀ n : Nat, (List.replicate n [97]).flatten = List.replicate n 97 := by
    intro n
    induction n with
    | zero => rfl
    | succ n ih => rw [List.replicate_succ, List.flatten_cons, ih, List.replicate_succ]; rfl
  rw [hf] at h
  refine ⟨?_, fun c hc => ?_⟩
  · show (repS "a" n).cps.size = n
    rw [← Array.length_toList, h, List.length_replicate]
  · rw [h] at hc
    rw [List.eq_of_mem_replicate hc]
    decide
theorem atI_last {xs : List Str} (h : xs ≠ []) : atI (xs.map D.str) (-1) = some (.str (xs.getD (xs.length - 1) "")) := by
  have hpos : 0 < xs.length := List.length_pos_iff.mpr h
  unfold atI ixN
  rw [List.length_map, if_neg (by omega), if_pos (by omega)]
  have : ((-1 : Int) + (xs.length : Int)).toNat = xs.length - 1 := by omega
  rw [Option.bind_some, this, List.getElem?_map, List.getD_eq_getElem?_getD, List.getElem?_eq_getElem (by omega)]
  rfl
theorem words_rep (zs : List Str) (k m : Nat) : wordsAt zs (List.replicate m k) = List.replicate m (zs.getD k "") := by
  unfold wordsAt
  rw [List.map_replicate]
theorem rep_ints (k m : Nat) : (List.replicate m k).map (fun j => D.int (j : Nat)) = List.replicate m (D.int (k : Nat)) := by rw [List.map_replicate]
theorem long_turn (zs : List Str) (nm : Nms zs) (hl : zs.length ≤ 24) (hz : zs ≠ []) (m : Nat) (h1 : 299 ≤ m) (h2 : m ≤ 301) (a b : Int) (x3 x4 x5 : Sl) (f3 : Fr x3) (f4 : Fr x4) (f5 : Fr x5) (hb : 0 ≤ b) (hb2 : b < 2147483647) :
    ∃ a' b' y3 y4 y5, (sSeq (sSet 3 (mm1 oJoin (mpure (.str " ")) (mval (mfrz (mComp [6] (mbind (mvar 2) asR1) (gNm 6) (mpure true) (mfrz (mCall F_one (mgcons (mAg 0) (mgcons (mAg 1) mgnil))))))))) (sSeq (sIf (mnot (mtst (mfrz (mCall F_text_right (mgcons (mAg 1) (mgcons (mAg 3) mgnil)))))) (sRet (mfz (mpure (.bl false)))) sNil) (sSeq (sSet 4 (mbinX aMul (mval (mtup (mlcons (mbin aSub (mval (mfn fLen (mcons (mslot 1) mnil))) (mval (mpure (.int 1)))) mlnil))) (mslot 2))) (sSeq (sSet 5 (mfz (mif (mtst (mbin (aCmp fun i j => decide (i < j)) (mslot 2) (mval (mpure (.int 301))))) (mtup (mlcons (mpure (.str "told")) (mlcons (mfrz (mm1 oJoin (mpure (.str " ")) (mval (mfrz (mbinX aMul (mval (mfrz (mlst (mlcons (mbin dIx (mslot 1) (mval (mun aNeg (mval (mpure (.int 1)))))) mlnil)))) (mslot 2)))))) mlnil))) (mtup (mlcons (mpure (.str "TooMany")) (mlcons (mpure (.int 301)) mlnil)))))) (sIf (mnot (mtst (mfrz (mCall (F_same 5) (mgcons (mdat (mHeard raisedN (mfrz (mCall F_named_row (mgcons (mAg 1) (mgcons (mAg 4) mgnil)))))) (mgcons (mAg 5) mgnil)))))) (sRet (mfz (mpure (.bl false)))) sNil))))) (.ow true [.int a, .int b] :: [.nt (zs.map D.str), .fz (.int (m : Nat)), x3, x4, x5, .no]) = .nx (.ow true [.int a', .int b'] :: [.nt (zs.map D.str), .fz (.int (m : Nat)), y3, y4, y5, .no]) ∧ Fr y3 ∧ Fr y4 ∧ Fr y5 ∧ 0 ≤ b' ∧ b' < 2147483647 := by
  have hpos : 0 < zs.length := List.length_pos_iff.mpr hz
  have hsm : Sm (m : Int) := smN (by omega)
  -- the text
  obtain ⟨ys, ρ', c1, c2, c3, a2, b2, rfl, c5, c6⟩ := comp_pass (own := [6]) (it := mbind (mvar 2) asR1) (ds := rngD 0 1 m) (ρ := .ow true [.int a, .int b] :: [.nt (zs.map D.str), .fz (.int (m : Nat)), x3, x4, x5, .no]) (ρ1 := .ow true [.int a, .int b] :: [.nt (zs.map D.str), .fz (.int (m : Nat)), x3, x4, x5, .no]) (g := gNm 6) (fe := mfrz (mCall F_one (mgcons (mAg 0) (mgcons (mAg 1) mgnil)))) (IJ true [.nt (zs.map D.str), .fz (.int (m : Nat)), x3, x4, x5, .no]) (isTx 12) (by simp [asR1_nat hsm]) (ρ2 := .ow true [.int a, .int b] :: [.nt (zs.map D.str), .fz (.int (m : Nat)), x3, x4, x5, .no]) (by simp) ⟨a, b, rfl, hb, hb2⟩ (fun d hd ρ ⟨a, b, e, b1, b2⟩ => by
    subst e
    obtain ⟨s, ρ', e1, ⟨x, rfl, px⟩, a', b', rfl, c1, c2⟩ := J_oneS (p := true) (rest := [.nt (zs.map D.str), .fz (.int (m : Nat)), x3, x4, x5, .fz d]) (i := 0) (P := isTx 12) (ds := zs.map D.str) rfl ⟨_, .nt _, .inl rfl⟩ (by simpa using hz) (by rw [List.length_map]; omega) (fun x hx => by
      obtain ⟨z, hz, rfl⟩ := List.mem_map.mp hx
      have := isNm_ok (nm.z z hz)
      exact ⟨z, rfl, this.1, this.2.1⟩) _ ⟨a, b, rfl, b1, b2⟩
    exact ⟨_, x, _, .ow true [.int a', .int b'] :: [.nt (zs.map D.str), .fz (.int (m : Nat)), x3, x4, x5, .no], by simp; rfl, by rw [ev_frz, e1]; rfl, px, by simp, a', b', rfl, c1, c2⟩) (by rw [rng_len]; exact Nat.le_trans h2 (by decide))
  obtain ⟨ws, ew, w1, w2, w3⟩ := txs_of c3
  rw [rng_len] at c2
  have l1 : (" " : Str).length = 1 := by decide
  have hj := join_ok (sep := " ") (ws := ws) (by rw [l1]; omega)
  have ht : tx 4000 (Txt.join " " ws) := tx_joinL (tx_dec (n := 1) (s := " ") (by decide +kernel)).1 w1 (by rw [l1]; omega)
  generalize Txt.join " " ws = t at hj ht
  subst ew
  have hr := text_right_eq zs t nm hl (Nat.le_trans ht.2 (by decide)) ht.1
  -- the row
  have big : (100000 : Nat) ≤ sizeLine := by decide
  have hk : ((zs.length : Int) - 1) = ((zs.length - 1 : Nat) : Int) := by omega
  have hm1 : aMul (.tup [.int ((zs.length : Int) - 1)]) (.int (m : Nat)) = some (.fz (.tup ((List.replicate m (zs.length - 1)).map fun j => D.int (j : Nat)))) := by
    rw [aMul_tup, Int.toNat_natCast, repD_one, rep_ints, hk]
    exact if_pos ⟨by simp, by omega, by omega, by simp, by rw [List.length_replicate]; omega⟩
  have hjs : ∀ j ∈ List.replicate m (zs.length - 1), j < zs.length := fun j h => by
    rw [List.eq_of_mem_replicate h]; omega
  have hla := atI_last hz
  -- what is owed, what is heard
  obtain ⟨ow, eo, eh, dp⟩ : ∃ ow, mif (mtst (mbin (aCmp fun i j => decide (i < j)) (mslot 2) (mval (mpure (.int 301))))) (mtup (mlcons (mpure (.str "told")) (mlcons (mfrz (mm1 oJoin (mpure (.str " ")) (mval (mfrz (mbinX aMul (mval (mfrz (mlst (mlcons (mbin dIx (mslot 1) (mval (mun aNeg (mval (mpure (.int 1)))))) mlnil)))) (mslot 2)))))) mlnil))) (mtup (mlcons (mpure (.str "TooMany")) (mlcons (mpure (.int 301)) mlnil))) (.ow true [.int a2, .int b2] :: [.nt (zs.map D.str), .fz (.int (m : Nat)), .fz (.str t), .fz (.tup ((List.replicate m (zs.length - 1)).map fun j => D.int (j : Nat))), x5, .no]) = .ok ow (.ow true [.int a2, .int b2] :: [.nt (zs.map D.str), .fz (.int (m : Nat)), .fz (.str t), .fz (.tup ((List.replicate m (zs.length - 1)).map fun j => D.int (j : Nat))), x5, .no]) ∧
      mHeard raisedN (mfrz (mCall F_named_row (mgcons (mAg 1) (mgcons (mAg 4) mgnil)))) (.ow true [.int a2, .int b2] :: [.nt (zs.map D.str), .fz (.int (m : Nat)), .fz (.str t), .fz (.tup ((List.replicate m (zs.length - 1)).map fun j => D.int (j : Nat))), .fz ow, .no]) = .ok ow (.ow true [.int a2, .int b2] :: [.nt (zs.map D.str), .fz (.int (m : Nat)), .fz (.str t), .fz (.tup ((List.replicate m (zs.length - 1)).map fun j => D.int (j : Nat))), .fz ow, .no]) ∧ dep 5 ow := by
    by_cases hm : m < 301
    · have hm' : (m : Int) < 301 := by omega
      have hn := named_row_ok zs (List.replicate m (zs.length - 1)) (.nt (zs.map D.str)) (.fz (.tup ((List.replicate m (zs.length - 1)).map fun j => D.int (j : Nat)))) (.nt _) (.fz _) nm.z (nm.tame hl) (nm.none hl) hjs (by rw [List.length_replicate]; omega)
      have hd := told_dep zs _ nm.z hjs
      have hb := sum_le (b := 12) fun w hw => (isNm_ok (names_lt nm.z hjs w hw)).2.1
      rw [words_rep] at hn hd hb
      have hrl : (List.replicate m (zs.getD (zs.length - 1) "")).length = m := List.length_replicate
      have hj2 := join_ok (sep := " ") (ws := List.replicate m (zs.getD (zs.length - 1) "")) (by rw [l1, hrl]; rw [hrl] at hb; omega)
      have hm2 : aMul (.lst [.str (zs.getD (zs.length - 1) "")]) (.int (m : Nat)) = some (.ow false ((List.replicate m (zs.getD (zs.length - 1) "")).map D.str)) := by
        rw [aMul_lst, Int.toNat_natCast, repD_one, List.map_replicate]
        exact if_pos ⟨by omega, by omega, by simp; omega, by rw [List.length_replicate]; omega⟩
      generalize Txt.join " " (List.replicate m (zs.getD (zs.length - 1) "")) = t2 at hn hd hj2
      generalize zs.getD (zs.length - 1) "" = last at hla hm2 hj2
      refine ⟨.tup [.str "told", .str t2], mif_t (ρ1 := .ow true [.int a2, .int b2] :: [.nt (zs.map D.str), .fz (.int (m : Nat)), .fz (.str t), .fz (.tup ((List.replicate m (zs.length - 1)).map fun j => D.int (j : Nat))), x5, .no]) (by simp; omega) ?_, heard_ok1 (by simp only [ev_frz, ev_call, ev_gcons, ev_ag, List.getElem?_cons_succ, List.getElem?_cons_zero, gAg_nt, gAg_fz, bnd_ok, ev_bind, ev_gnil, ev_pure, ev_run, lends1, lends0, List.nodup_nil, if_true, resA1, resA0, Option.map_some, oRun_some, hn, kRet_ret, backA1, backA0, oRes_some, kFrz_fz]), ⟨fun x hx => ?_, by simp⟩⟩
      · simp only [ev_tup, ev_lcons, ev_pure, bnd_ok, ev_bind, ev_frz, ev_m1, kM1_str, ev_val, ev_binX, ev_lst, ev_bin, ev_un, ev_slot, List.getElem?_cons_succ, List.getElem?_cons_zero, gS_nt, gS_fz, ev_useS, ev_useV, sD_nt, sD_fz, ev_opt, aNeg_int, dIx_tup, hla, ev_lnil, kFrz_ow, hm2, Option.bind_some, unown_ow, hj2, unown_fz, kFrz_fz]
      · rcases List.mem_cons.mp hx with rfl | hx
        · exact okS_told.1
        · rw [List.mem_singleton.mp hx]; exact hd
    · obtain rfl : m = 301 := by omega
      have hw : wrongR zs.length (.tup ((List.replicate 301 (zs.length - 1)).map fun j => D.int (j : Nat))) = some (("TooMany" : Str), (301 : Int)) := by
        rw [wrongR_tup, if_pos (by rw [List.length_map, List.length_replicate]; decide), List.length_map, List.length_replicate]
        rfl
      have hn := named_row_badR (.nt (zs.map D.str)) (.fz (.tup ((List.replicate 301 (zs.length - 1)).map fun j => D.int (j : Nat)))) (zs.map D.str) _ (.nt _) (.fz _) (nm.tame hl) (nm.none hl) ((js_kind _).resolve_right (by rw [List.length_replicate]; decide)) "TooMany" 301 (by rw [List.length_map]; exact hw)
      generalize (List.replicate 301 (zs.length - 1)).map (fun j => D.int (j : Nat)) = row at hn
      exact ⟨.tup [.str "TooMany", .int 301], mif_f (ρ1 := .ow true [.int a2, .int b2] :: [.nt (zs.map D.str), .fz (.int (301 : Nat)), .fz (.str t), .fz (.tup row), x5, .no]) (by simp) rfl, heard_ex (ρ' := .ow true [.int a2, .int b2] :: [.nt (zs.map D.str), .fz (.int (301 : Nat)), .fz (.str t), .fz (.tup row), .fz (.tup [.str "TooMany", .int 301]), .no]) (by simp [hn]) r_names.2.2.2.1, ⟨fun x hx => by
        rcases List.mem_cons.mp hx with rfl | hx
        · exact okS_told.2.2.2.2.1
        · rw [List.mem_singleton.mp hx]; trivial, by simp⟩⟩
  generalize (List.replicate m (zs.length - 1)).map (fun j => D.int (j : Nat)) = row at hm1 eo eh
  have hs := same_refl 5 ow dp
  refine ⟨a2, b2, .fz (.str t), .fz (.tup row), .fz ow, ?_, .inr ⟨_, rfl⟩, .inr ⟨_, rfl⟩, .inr ⟨_, rfl⟩, c5, c6⟩
  have st : mtst (mfrz (mCall (F_same 5) (mgcons (mdat (mHeard raisedN (mfrz (mCall F_named_row (mgcons (mAg 1) (mgcons (mAg 4) mgnil)))))) (mgcons (mAg 5) mgnil)))) (.ow true [.int a2, .int b2] :: [.nt (zs.map D.str), .fz (.int (m : Nat)), .fz (.str t), .fz (.tup row), .fz ow, .no]) = .ok true (.ow true [.int a2, .int b2] :: [.nt (zs.map D.str), .fz (.int (m : Nat)), .fz (.str t), .fz (.tup row), .fz ow, .no]) := by
    simp only [ev_tst, ev_frz, ev_call, ev_gcons, ev_dat, eh, bnd_ok]
    simp [hs]
  refine seq_nx (ρ1 := .ow true [.int a2, .int b2] :: [.nt (zs.map D.str), .fz (.int (m : Nat)), .fz (.str t), x4, x5, .no]) ?_ (seq_nx (ρ1 := .ow true [.int a2, .int b2] :: [.nt (zs.map D.str), .fz (.int (m : Nat)), .fz (.str t), x4, x5, .no]) (by simp [hr]) (seq_nx (ρ1 := .ow true [.int a2, .int b2] :: [.nt (zs.map D.str), .fz (.int (m : Nat)), .fz (.str t), .fz (.tup row), x5, .no]) (by simp [hm1, f4.st]) (seq_nx (set_nx (fz_ok eo) (ρ2 := .ow true [.int a2, .int b2] :: [.nt (zs.map D.str), .fz (.int (m : Nat)), .fz (.str t), .fz (.tup row), .fz ow, .no]) (by simp [f5.st])) (if_f (not_ok st) rfl))))
  rw [ev_set, ev_m1, ev_pure, bnd_ok, kM1_str, ev_val, ev_frz, c1]
  simp [hj, f3.st]
end HF
namespace HF
open PySem PySem.Spec PyProof.Rows L2 LamX ME He TL
theorem long_spec (a b : Int) (zs : List Str) (hb : 0 ≤ b) (hb2 : b < 2147483647) (nm : Nms zs) (hl : zs.length ≤ 24) (hz : zs ≠ []) : ∃ a' b', F_long_right [.ow true [.int a, .int b], .nt (zs.map D.str)] = .ret (.fz (.bl true)) [.ow true [.int a', .int b'], .nt (zs.map D.str)] ∧ 0 ≤ b' ∧ b' < 2147483647 := by
  obtain ⟨ρ8, el8, a4, b4, x2, x3, x4, x5, rfl, _, _, _, _, u1, u2⟩ := loop_pass (g := gNm 2) (body := sSeq (sSet 3 (mm1 oJoin (mpure (.str " ")) (mval (mfrz (mComp [6] (mbind (mvar 2) asR1) (gNm 6) (mpure true) (mfrz (mCall F_one (mgcons (mAg 0) (mgcons (mAg 1) mgnil))))))))) (sSeq (sIf (mnot (mtst (mfrz (mCall F_text_right (mgcons (mAg 1) (mgcons (mAg 3) mgnil)))))) (sRet (mfz (mpure (.bl false)))) sNil) (sSeq (sSet 4 (mbinX aMul (mval (mtup (mlcons (mbin aSub (mval (mfn fLen (mcons (mslot 1) mnil))) (mval (mpure (.int 1)))) mlnil))) (mslot 2))) (sSeq (sSet 5 (mfz (mif (mtst (mbin (aCmp fun i j => decide (i < j)) (mslot 2) (mval (mpure (.int 301))))) (mtup (mlcons (mpure (.str "told")) (mlcons (mfrz (mm1 oJoin (mpure (.str " ")) (mval (mfrz (mbinX aMul (mval (mfrz (mlst (mlcons (mbin dIx (mslot 1) (mval (mun aNeg (mval (mpure (.int 1)))))) mlnil)))) (mslot 2)))))) mlnil))) (mtup (mlcons (mpure (.str "TooMany")) (mlcons (mpure (.int 301)) mlnil)))))) (sIf (mnot (mtst (mfrz (mCall (F_same 5) (mgcons (mdat (mHeard raisedN (mfrz (mCall F_named_row (mgcons (mAg 1) (mgcons (mAg 4) mgnil)))))) (mgcons (mAg 5) mgnil)))))) (sRet (mfz (mpure (.bl false)))) sNil)))))
    (fun ρ => ∃ a b x2 x3 x4 x5, ρ = .ow true [.int a, .int b] :: [.nt (zs.map D.str), x2, x3, x4, x5, .no] ∧ Fr x2 ∧ Fr x3 ∧ Fr x4 ∧ Fr x5 ∧ 0 ≤ b ∧ b < 2147483647) (ds := [.int 299, .int 300, .int 301]) (ρ := .ow true [.int a, .int b] :: [.nt (zs.map D.str), .no, .no, .no, .no, .no]) (fun d hd ρ ⟨a, b, x2, x3, x4, x5, e, f2, f3, f4, f5, b1, b2⟩ => by
      subst e
      obtain ⟨m, rfl, m1, m2⟩ : ∃ m : Nat, d = .int (m : Int) ∧ 299 ≤ m ∧ m ≤ 301 := by
        rcases List.mem_cons.mp hd with rfl | hd
        · exact ⟨299, rfl, by omega, by omega⟩
        rcases List.mem_cons.mp hd with rfl | hd
        · exact ⟨300, rfl, by omega, by omega⟩
        · rw [List.mem_singleton.mp hd]; exact ⟨301, rfl, by omega, by omega⟩
      obtain ⟨a', b', y3, y4, y5, e, g3, g4, g5, v1, v2⟩ := long_turn zs nm hl hz m m1 m2 a b x3 x4 x5 f3 f4 f5 b1 b2
      exact ⟨.ow true [.int a, .int b] :: [.nt (zs.map D.str), .fz (.int (m : Nat)), x3, x4, x5, .no], _, by simp [f2.st], e, a', b', _, _, _, _, rfl, .inr ⟨_, rfl⟩, g3, g4, g5, v1, v2⟩) ⟨a, b, .no, .no, .no, .no, rfl, .inl rfl, .inl rfl, .inl rfl, .inl rfl, hb, hb2⟩
  obtain ⟨l1, l2⟩ := repS_a 400001
  have hm : aMul (.str "a") (.int 400001) = some (.fz (.str (repS "a" 400001))) := by
    rw [aMul_str, show (400001 : Int).toNat = 400001 from rfl]
    exact if_pos ⟨by omega, by omega, by decide, by decide, by rw [l1]; decide⟩
  generalize repS "a" 400001 = t at hm l1 l2
  have hrp := (read_p zs (.nt (zs.map D.str)) (.fz (.str t)) t (.nt _) (.fz _) (nm.tame hl) nm.nd (nm.none hl) (by omega) l2 hl).2
  have hrd : rd zs t = .wrong "TooMany" (.int 400001) := by
    unfold rd
    rw [if_pos (by omega), l1]
    rfl
  rw [hrd] at hrp
  refine ⟨a4, b4, ?_, u1, u2⟩
  unfold F_long_right m_long_right
  refine def_ret (s := .fz (.bl true)) (ρ1 := .ow true [.int a4, .int b4] :: [.nt (zs.map D.str), x2, x3, x4, x5, .no]) (seq_nx (ρ1 := .ow true [.int a4, .int b4] :: [.nt (zs.map D.str), x2, x3, x4, x5, .no]) ?_ (ret_rt (fz_ok (refuses_ok (c := "TooMany") (w := .int 400001) (ρ1 := .ow true [.int a4, .int b4] :: [.nt (zs.map D.str), x2, x3, x4, x5, .no]) (by simp) ?_ hrp.1 okS_told.2.2.2.2.1 trivial)))) (by simp)
  · rw [ev_for]
    have : mItL (mfrz (mlst (mlcons (mpure (.int 299)) (mlcons (mpure (.int 300)) (mlcons (mpure (.int 301)) mlnil))))) ([.ow true [.int a, .int b], .nt (zs.map D.str)] ++ List.replicate (7 - [Sl.ow true [.int a, .int b], .nt (zs.map D.str)].length) .no) = .ok [.int 299, .int 300, .int 301] (.ow true [.int a, .int b] :: [.nt (zs.map D.str), .no, .no, .no, .no, .no]) := by simp
    rw [this, bnS_ok]
    exact el8
  · have e2 := hrp.2
    have e3 : mfrz (mbinX aMul (mval (mpure (.str "a"))) (mval (mpure (.int 400001)))) (.ow true [.int a4, .int b4] :: [.nt (zs.map D.str), x2, x3, x4, x5, .no]) = .ok (.str t) (.ow true [.int a4, .int b4] :: [.nt (zs.map D.str), x2, x3, x4, x5, .no]) := by
      simp only [ev_frz, ev_binX, ev_val, ev_pure, bnd_ok, ev_bind, ev_useV, hm, Option.bind_some, unown_fz, ev_opt, kFrz_fz]
    simp only [ev_frz, ev_call, ev_gcons, ev_ag, List.getElem?_cons_succ, List.getElem?_cons_zero, gAg_nt, bnd_ok, ev_bind, ev_gnil, ev_dat, ev_pure]
    simp only [ev_frz] at e3
    simp only [e3, bnd_ok, ev_bind, ev_gnil, ev_pure, ev_run, lends1, lends0, List.nodup_nil, if_true, resA1, resA0, Option.map_some, oRun_some, e2, kRet_ex, backA1, backA0, oRes_some, bnd_ex]
/-! ### the law -/
abbrev b_turn : MS := sIf (mnot (mtst (mfrz (mCall F_refused_right (mgcons (mAg 2) (mgcons (mAg 3) mgnil)))))) (sRet (mfz (mpure (.bl false)))) sNil
/-- the script's slot -/
def Scr (ns : List Int) (s : Sl) : Prop := s = .fz (.lst (ns.map D.int)) ∨ s = .ow true (ns.map D.int)
theorem pool_call (ns : List Int) (s : Sl) (h : Scr ns s) (k : Nat) (hk : k < 1000) {f : M Ag} (rest : List Sl) (ef : f (s :: rest) = .ok (.dat (.fz (.int (k : Nat)))) (s :: rest)) : ∃ a b, mCall F_pool (mgcons (mAg 0) (mgcons f mgnil)) (s :: rest) = .ok (.ow false [.int a, .int b]) (s :: rest) ∧ 0 ≤ b ∧ b < 2147483647 := by
  obtain ⟨a, b, q, b1, b2⟩ := pool_spec ns s h (k : Nat) (by omega) (by omega)
  refine ⟨a, b, ?_, b1, b2⟩
  rcases h with rfl | rfl <;> simp [ef, q]
theorem law_turn (ns : List Int) (s : Sl) (h : Scr ns s) (k : Nat) (hk : k < 4) (x2 x3 x4 : Sl) (f2 : Fo x2) (f3 : gSt (some x3) 0 .no [.no] = some [.no] ∧ ∀ i v (ρ : ME.Env), gSt (some x3) i v ρ = some (ρ.set i v)) (f4 : Fr x4) :
    ∃ y2 y4 zs, (sSeq (sSet 2 (mCall F_pool (mgcons (mAg 0) (mgcons (mAg 1) mgnil)))) (sSeq (sSet 3 (mCall F_some_names (mgcons (mAg 2) mgnil))) (sSeq (sIf (mor (mnot (mtst (mfrz (mCall F_names_right (mgcons (mAg 3) mgnil))))) (mnot (mtst (mfrz (mCall F_rows_right (mgcons (mAg 2) (mgcons (mAg 3) mgnil))))))) (sRet (mfz (mpure (.bl false)))) sNil) (sFor (mbind (mpure (.int 4)) asR1) (gNm 4) b_turn)))) (s :: [.fz (.int (k : Nat)), x2, x3, x4, .no]) = .nx (s :: [.fz (.int (k : Nat)), y2, .nt (zs.map D.str), y4, .no]) ∧ Fo y2 ∧ Nms zs ∧ zs.length ≤ 24 ∧ Fr y4 := by
  obtain ⟨a, b, e1, b1, b2⟩ := pool_call ns s h k (by omega) (f := mAg 1) [.fz (.int (k : Nat)), x2, x3, x4, .no] (by simp)
  obtain ⟨a1, b1', zs, q, nm, hl, c1, c2⟩ := some_spec a b b1 b2
  have hn := names_right_eq (.nt (zs.map D.str)) (.tup (zs.map D.str)) (.nt _) (nm.tame hl)
  obtain ⟨a2, b2', qr, d1, d2⟩ := rows_spec a1 b1' zs c1 c2 nm hl
  obtain ⟨ρ', el, a3, b3, y4, rfl, fy4, _⟩ := loop_pass (g := gNm 4) (body := b_turn) (fun ρ => ∃ a b y4, ρ = s :: [.fz (.int (k : Nat)), .ow false [.int a, .int b], .nt (zs.map D.str), y4, .no] ∧ Fr y4 ∧ 0 ≤ b ∧ b < 2147483647) (ds := rngD 0 1 4) (ρ := s :: [.fz (.int (k : Nat)), .ow false [.int a2, .int b2'], .nt (zs.map D.str), x4, .no]) (fun d hd ρ ⟨a, b, y4, e, fy, b1, b2⟩ => by
    subst e
    obtain ⟨a', b', qf, v1, v2⟩ := refused_spec a b zs b1 b2 nm hl
    exact ⟨s :: [.fz (.int (k : Nat)), .ow false [.int a, .int b], .nt (zs.map D.str), .fz d, .no], s :: [.fz (.int (k : Nat)), .ow false [.int a', .int b'], .nt (zs.map D.str), .fz d, .no], by simp [fy.st], by simp [b_turn, qf], a', b', _, rfl, .inr ⟨_, rfl⟩, v1, v2⟩) ⟨a2, b2', x4, rfl, f4, d1, d2⟩
  have hsm : Sm ((4 : Nat) : Int) := smN (by decide)
  have w2 : setSl 2 (.ow false [.int a, .int b]) (s :: [.fz (.int (k : Nat)), x2, x3, x4, .no]) = some (s :: [.fz (.int (k : Nat)), .ow false [.int a, .int b], x3, x4, .no]) := by simp [f2.st]
  refine ⟨.ow false [.int a3, .int b3], y4, zs, seq_nx (set_nx e1 w2) (seq_nx (ρ1 := s :: [.fz (.int (k : Nat)), .ow false [.int a1, .int b1'], .nt (zs.map D.str), x4, .no]) (by simp [q, f3.2]) (seq_nx (ρ1 := s :: [.fz (.int (k : Nat)), .ow false [.int a2, .int b2'], .nt (zs.map D.str), x4, .no]) (by simp [hn, qr]) ?_)), .inr ⟨_, rfl⟩, nm, hl, fy4⟩
  rw [ev_for, ev_bind, ev_pure, bnd_ok, show (4 : Int) = ((4 : Nat) : Int) from rfl, asR1_nat hsm, bnS_ok]
  exact el
theorem fixed (pre : Str) (hp : pre = "a" ∨ pre = "b") (s : Str) (hs : okS s ∧ s.length ≤ 100) (ρ ρ2 : ME.Env) (hw : wipeR [5] ρ = some ρ2) (h5 : ∀ d, setSl 5 (.fz d) ρ2 = some (ρ2.set 5 (.fz d))) (hg : ∀ d, (ρ2.set 5 (.fz d))[5]? = some (.fz d)) (hw2 : ∀ d, wipeR [5] (ρ2.set 5 (.fz d)) = some ρ2) :
    mComp [5] (mItC (mpure (.str s))) (gNm 5) (mpure true) (mfrz (mbinX aAdd (mval (mpure (.str pre))) (mslot 5))) ρ = .ok (.ow false (s.cps.toList.map fun c => D.str (pre ++ ⟨#[c]⟩))) ρ2 := by
  have hm : (strD s).filterMap (fun d => match d with
      | .str w => some (D.str (pre ++ w))
      | _ => none) = s.cps.toList.map fun c => D.str (pre ++ ⟨#[c]⟩) := by
    unfold strD
    rw [List.filterMap_map]
    exact List.filterMap_eq_map (f := fun c => D.str (pre ++ ⟨#[c]⟩)) ▸ rfl
  rw [← hm]
  refine ev_comp _ (ds := strD s) (ρ1 := ρ) rfl hw (fun d hd => ?_) (by unfold strD; rw [List.length_map]; exact Nat.le_trans hs.2 (by decide))
  obtain ⟨c, hc, rfl⟩ := List.mem_map.mp hd
  refine ⟨_, _, true, h5 _, rfl, rfl, ρ2.set 5 (.fz (.str ⟨#[c]⟩)), ?_, hw2 _⟩
  have l : pre.length + (⟨#[c]⟩ : Str).length ≤ sizeLine := by
    have : pre.length = 1 := by rcases hp with rfl | rfl <;> decide
    have : (⟨#[c]⟩ : Str).length = 1 := rfl
    have : (100 : Nat) ≤ sizeLine := by decide
    omega
  simp only [ev_frz, ev_binX, ev_val, ev_pure, bnd_ok, ev_bind, ev_slot, hg, gS_fz, ev_useV, ev_useS, sD_fz, ev_opt, aAdd_str, l, if_true, Option.bind_some, unown_fz, kFrz_fz]
end HF
namespace HF
open PySem PySem.Spec PyProof.Rows L2 LamX ME He TL
def chkS (s : Str) : Bool := decide (s.length ≤ 1000) && s.cps.toList.all fun c => decide (c < 128)
theorem names_fixed (pre : Str) (L : List Nat) (h : (L.all fun c => chkS (pre ++ ⟨#[c]⟩)) = true) : ∀ d ∈ L.map (fun c => D.str (pre ++ ⟨#[c]⟩)), tameS d := fun d hd => by
  obtain ⟨c, hc, rfl⟩ := List.mem_map.mp hd
  exact tameS_dec (List.all_eq_true.mp h c hc)
theorem call_names {f : M Ag} {s : Sl} {d : D} {ρ : ME.Env} (e : f ρ = .ok (.dat s) ρ) (h : DSl s d) (ht : tameN d) : mfrz (mCall F_names_right (mgcons f mgnil)) ρ = .ok (.bl true) ρ := by
  have q := names_right_eq s d h ht
  simp only [ev_frz, ev_call, ev_gcons, e, bnd_ok, ev_bind, ev_gnil, ev_pure, ev_run, lends1, lends0, List.nodup_nil, if_true, resA1, resA0, Option.map_some, oRun_some, q, kRet_ret, backA1, backA0, oRes_some, kFrz_fz]
theorem long_call (ns : List Int) (s : Sl) (h : Scr ns s) (x1 x2 x4 : Sl) (zs : List Str) (nm : Nms zs) (hl : zs.length ≤ 24) (hz : zs ≠ []) :
    mfrz (mCallT F_long_right (mCall F_pool (mgcons (mAg 0) (mgcons (mdat (mpure (.int 4))) mgnil))) (mgcons (mAg 3) mgnil)) (s :: [x1, x2, .nt (zs.map D.str), x4, .no]) = .ok (.bl true) (s :: [x1, x2, .nt (zs.map D.str), x4, .no]) := by
  obtain ⟨a, b, e1, b1, b2⟩ := pool_call ns s h 4 (by omega) (f := mdat (mpure (.int 4))) [x1, x2, .nt (zs.map D.str), x4, .no] (by simp)
  obtain ⟨a', b', q, c1, c2⟩ := long_spec a b zs b1 b2 nm hl hz
  refine frz_fz ?_
  unfold mCallT
  rw [ev_bind, e1, bnd_ok, ev_bind]
  have e2 : mgcons (mAg 3) mgnil (s :: [x1, x2, .nt (zs.map D.str), x4, .no]) = .ok [.dat (.nt (zs.map D.str))] (s :: [x1, x2, .nt (zs.map D.str), x4, .no]) := by simp
  rw [e2, bnd_ok]
  simp only [mRunT, lendSl, lends1, lends0, List.nodup_nil, if_true, resA1, resA0, Option.map_some, q, alike, backA1, backA0]
theorem fin_a (ρ : ME.Env) (hw : wipeR [5] ρ = some ρ) (h5 : ∀ d, setSl 5 (.fz d) ρ = some (ρ.set 5 (.fz d))) (hg : ∀ d, (ρ.set 5 (.fz d))[5]? = some (.fz d)) (hw2 : ∀ d, wipeR [5] (ρ.set 5 (.fz d)) = some ρ) :
    mfrz (mCall F_names_right (mgcons (mdat (mfrz (mbinX aAdd (mval (mtup (mlcons (mpure (.str "a")) mlnil))) (mval (mfrz (mfnX fTupN (mcons (mval (mfrz (mComp [5] (mItC (mpure (.str "abcdefghijklmnopqrstuvw"))) (gNm 5) (mpure true) (mfrz (mbinX aAdd (mval (mpure (.str "a"))) (mslot 5)))))) mnil))))))) mgnil)) ρ = .ok (.bl true) ρ := by
  have e := fixed "a" (.inl rfl) "abcdefghijklmnopqrstuvw" ⟨(tameS_dec (s := "abcdefghijklmnopqrstuvw") (by decide +kernel)).2, by decide +kernel⟩ ρ ρ hw h5 hg hw2
  have t1 := names_fixed "a" (Str.cps "abcdefghijklmnopqrstuvw").toList (by decide +kernel)
  have t2 : (Str.cps "abcdefghijklmnopqrstuvw").toList.length ≤ 100 := by decide +kernel
  generalize (Str.cps "abcdefghijklmnopqrstuvw").toList = L at e t1 t2
  have hlen : ([D.str "a"] : List D).length + (L.map fun c => D.str ("a" ++ ⟨#[c]⟩)).length ≤ sizeLine := by
    have : (200 : Nat) ≤ sizeLine := by decide
    rw [List.length_map, List.length_singleton]; omega
  refine call_names (s := .fz (.tup ([D.str "a"] ++ L.map fun c => D.str ("a" ++ ⟨#[c]⟩)))) ?_ (.fz _) ⟨fun d hd => ?_, ?_⟩
  · simp only [ev_dat, ev_frz, ev_binX, ev_fnX, ev_cons, ev_val, ev_tup, ev_lcons, ev_lnil, ev_pure, bnd_ok, ev_bind, e, kFrz_ow, ev_nil, ev_uses1, ev_uses0, ev_useV, fTupN_lst, Option.bind_some, unown_nt, unown_fz, ev_opt, kFrz_nt, kFrz_fz, aAdd_tup, hlen, if_true]
  · rcases List.mem_append.mp hd with hd | hd
    · rw [List.mem_singleton.mp hd]; exact tameS_dec (by decide +kernel)
    · exact t1 d hd
  · rw [List.length_append, List.length_map, List.length_singleton]; omega
theorem fin_b (ρ : ME.Env) (hw : wipeR [5] ρ = some ρ) (h5 : ∀ d, setSl 5 (.fz d) ρ = some (ρ.set 5 (.fz d))) (hg : ∀ d, (ρ.set 5 (.fz d))[5]? = some (.fz d)) (hw2 : ∀ d, wipeR [5] (ρ.set 5 (.fz d)) = some ρ) :
    mfrz (mCall F_names_right (mgcons (mdat (mfrz (mfnX fTupN (mcons (mval (mfrz (mComp [5] (mItC (mpure (.str "abcdefghijklmnopqrstuvwxy"))) (gNm 5) (mpure true) (mfrz (mbinX aAdd (mval (mpure (.str "b"))) (mslot 5)))))) mnil)))) mgnil)) ρ = .ok (.bl true) ρ := by
  have e := fixed "b" (.inr rfl) "abcdefghijklmnopqrstuvwxy" ⟨(tameS_dec (s := "abcdefghijklmnopqrstuvwxy") (by decide +kernel)).2, by decide +kernel⟩ ρ ρ hw h5 hg hw2
  have t1 := names_fixed "b" (Str.cps "abcdefghijklmnopqrstuvwxy").toList (by decide +kernel)
  have t2 : (Str.cps "abcdefghijklmnopqrstuvwxy").toList.length ≤ 100 := by decide +kernel
  generalize (Str.cps "abcdefghijklmnopqrstuvwxy").toList = L at e t1 t2
  refine call_names (s := .fz (.tup (L.map fun c => D.str ("b" ++ ⟨#[c]⟩)))) ?_ (.fz _) ⟨t1, ?_⟩
  · simp only [ev_dat, ev_frz, ev_fnX, ev_cons, ev_val, ev_pure, bnd_ok, ev_bind, e, kFrz_ow, ev_nil, ev_uses1, ev_uses0, ev_useV, fTupN_lst, Option.bind_some, unown_nt, ev_opt, kFrz_nt]
  · rw [List.length_map]; omega
theorem plain (ns : List Int) (s : Sl) (h : Scr ns s) : ∃ ts, F_law [s] = .ret (.fz (.bl true)) ts := by
  have turn := fun k hk x2 x3 x4 f2 f3 f4 => law_turn ns s h k hk x2 x3 x4 f2 f3 f4
  let I : Nat → ME.Env → Prop := fun k ρ => ∃ x1 x2 x3 x4, ρ = s :: [x1, x2, x3, x4, .no] ∧ Fr x1 ∧ Fo x2 ∧ (k = 0 ∧ x3 = .no ∨ ∃ zs, x3 = .nt (zs.map D.str) ∧ Nms zs ∧ zs.length ≤ 24) ∧ Fr x4
  obtain ⟨ρ', el, x1, x2, x3, x4, rfl, f1, f2, f3, f4⟩ := loop_passN (g := gNm 1) (body := sSeq (sSet 2 (mCall F_pool (mgcons (mAg 0) (mgcons (mAg 1) mgnil)))) (sSeq (sSet 3 (mCall F_some_names (mgcons (mAg 2) mgnil))) (sSeq (sIf (mor (mnot (mtst (mfrz (mCall F_names_right (mgcons (mAg 3) mgnil))))) (mnot (mtst (mfrz (mCall F_rows_right (mgcons (mAg 2) (mgcons (mAg 3) mgnil))))))) (sRet (mfz (mpure (.bl false)))) sNil) (sFor (mbind (mpure (.int 4)) asR1) (gNm 4) b_turn)))) I 4 (ds := rngD 0 1 4) (k := 0) (ρ := s :: [.no, .no, .no, .no, .no]) (fun d hd k ρ _ ⟨x1, x2, x3, x4, e, f1, f2, f3, f4⟩ => by
    subst e
    obtain ⟨j, hj, rfl⟩ := mem_rng hd
    have f3' : gSt (some x3) 0 .no [.no] = some [.no] ∧ ∀ i v (ρ : ME.Env), gSt (some x3) i v ρ = some (ρ.set i v) := by
      rcases f3 with ⟨_, rfl⟩ | ⟨zs, rfl, _⟩
      · exact ⟨rfl, fun _ _ _ => rfl⟩
      · exact ⟨rfl, fun _ _ _ => rfl⟩
    obtain ⟨y2, y4, zs, q, g2, nm, hl, g4⟩ := turn j hj x2 x3 x4 f2 f3' f4
    exact ⟨s :: [.fz (.int (j : Nat)), x2, x3, x4, .no], _, by simp [f1.st], q, _, _, _, _, rfl, .inr ⟨_, rfl⟩, g2, .inr ⟨zs, rfl, nm, hl⟩, g4⟩) (by rw [rng_len]; omega) ⟨.no, .no, .no, .no, rfl, .inl rfl, .inl (.inl rfl), .inl ⟨rfl, rfl⟩, .inl rfl⟩
  obtain ⟨zs, rfl, nm, hl⟩ : ∃ zs, x3 = .nt (zs.map D.str) ∧ Nms zs ∧ zs.length ≤ 24 := by
    rcases f3 with ⟨e, _⟩ | f3
    · rw [rng_len] at e; omega
    · exact f3
  have hsm : Sm ((4 : Nat) : Int) := smN (by decide)
  have hat : ∀ x ∈ zs.map D.str, Atom x := fun x hx => by
    obtain ⟨z, hz, rfl⟩ := List.mem_map.mp hx
    exact .str (isNm_ok (nm.z z hz)).1
  have hne := aNe_of (dEq_nilT hat)
  have ht : mtst (mbin aNe (mslot 3) (mval (mtup mlnil))) (s :: [x1, x2, .nt (zs.map D.str), x4, .no]) = .ok (!(zs.map D.str).isEmpty) (s :: [x1, x2, .nt (zs.map D.str), x4, .no]) := by simp [hne]
  have hif : sIf (mand (mtst (mbin aNe (mslot 3) (mval (mtup mlnil)))) (mnot (mtst (mfrz (mCallT F_long_right (mCall F_pool (mgcons (mAg 0) (mgcons (mdat (mpure (.int 4))) mgnil))) (mgcons (mAg 3) mgnil)))))) (sRet (mfz (mpure (.bl false)))) sNil (s :: [x1, x2, .nt (zs.map D.str), x4, .no]) = .nx (s :: [x1, x2, .nt (zs.map D.str), x4, .no]) := by
    refine if_f (ρ1 := s :: [x1, x2, .nt (zs.map D.str), x4, .no]) ?_ rfl
    rw [ev_and, ht, bnd_ok]
    cases hz : (zs.map D.str).isEmpty with
    | true => rfl
    | false =>
      have hz' : zs ≠ [] := by rintro rfl; cases hz
      simp only [Bool.not_false, if_true]
      exact not_ok (tst_ok (long_call ns s h x1 x2 x4 zs nm hl hz'))
  have hfin : mfz (mandV (mfrz (mCall F_names_right (mgcons (mdat (mfrz (mbinX aAdd (mval (mtup (mlcons (mpure (.str "a")) mlnil))) (mval (mfrz (mfnX fTupN (mcons (mval (mfrz (mComp [5] (mItC (mpure (.str "abcdefghijklmnopqrstuvw"))) (gNm 5) (mpure true) (mfrz (mbinX aAdd (mval (mpure (.str "a"))) (mslot 5)))))) mnil))))))) mgnil))) (mfrz (mCall F_names_right (mgcons (mdat (mfrz (mfnX fTupN (mcons (mval (mfrz (mComp [5] (mItC (mpure (.str "abcdefghijklmnopqrstuvwxy"))) (gNm 5) (mpure true) (mfrz (mbinX aAdd (mval (mpure (.str "b"))) (mslot 5)))))) mnil)))) mgnil)))) (s :: [x1, x2, .nt (zs.map D.str), x4, .no]) = .ok (.fz (.bl true)) (s :: [x1, x2, .nt (zs.map D.str), x4, .no]) := by
    refine fz_ok ?_
    rw [ev_andV, fin_a _ rfl (fun _ => rfl) (fun _ => rfl) (fun _ => rfl), bnd_ok, kAnd_bl, if_pos rfl]
    exact fin_b _ rfl (fun _ => rfl) (fun _ => rfl) (fun _ => rfl)
  refine ⟨[s], ?_⟩
  unfold F_law m_law
  refine def_ret (s := .fz (.bl true)) (ρ1 := s :: [x1, x2, .nt (zs.map D.str), x4, .no]) (seq_nx (ρ1 := s :: [x1, x2, .nt (zs.map D.str), x4, .no]) ?_ (seq_nx hif (ret_rt hfin))) (by rcases h with rfl | rfl <;> rfl)
  rw [ev_for, ev_bind, ev_pure, bnd_ok, show (4 : Int) = ((4 : Nat) : Int) from rfl, asR1_nat hsm, bnS_ok]
  exact el
end HF
namespace HF
open PySem PySem.Spec PyProof.Rows L2 LamX ME He TL
theorem noL_lookup {K : PySem.W.Frag} (h : noL K = true) {a : Addr} {o : Obj} (e : K.lookup a = some o) : o.cls ≠ .type "list" := by
  intro q
  induction K with
  | nil => cases e
  | cons p K ih =>
    unfold noL at h
    rw [List.all_cons, Bool.and_eq_true] at h
    rw [List.lookup_cons] at e
    split at e
    · cases e
      rw [q] at h
      exact absurd h.1 (by decide)
    · exact ih h.2 e
def spLaw (K : PySem.W.Frag) : Sp := fun vs H Q _ => ∃ (a : Addr) (ns : List Int), vs = [.ref a] ∧ ns.length ≤ 63 ∧ SqL K H a (ns.map V.int) ∧ (∀ p ∈ tf.map (cT K), H p.2 = some (.tbl #[])) ∧ ∀ H', Q (.bl true) H'
theorem dz_ints {K : PySem.W.Frag} {G : Str → Option Value} {H : Hp} : ∀ ns : List Int, DzL K G H (ns.map V.int) (ns.map D.int)
  | [] => .nil
  | n :: ns => .cons (.int n) (dz_ints ns)
theorem law_imp {K : PySem.W.Frag} {mg : Str → Option Value} (o : noL K = true) (vs : List V) (H : Hp) (Q : VK) (E : XK) (h : spLaw K vs H Q E) : spF K mg (tabF K) 1 F_law vs H Q E := by
  obtain ⟨a, ns, rfl, hl, hS, hT, hQ⟩ := h
  have hz : (ns.map V.int).length ≤ sizeLine := by
    rw [List.length_map]; exact Nat.le_trans hl (by decide)
  have tb : Tabs (tabF K) H := fun p hp => by
    obtain ⟨q, hq, rfl⟩ := List.mem_map.mp hp
    exact TabS.nil (hT _ (List.mem_map.mpr ⟨q, hq, rfl⟩))
  have post : ∀ s : Sl, Scr ns s → ∀ A, FPost K mg (tabF K) [.ref a] H A Q E (F_law [s]) := fun s hs A => by
    obtain ⟨ts, e⟩ := plain ns s hs
    rw [e]
    intro v H' A1 _ _ hv _ _
    cases hv with
    | fz hd =>
      cases hd
      exact hQ H'
  refine ⟨rfl, ?_⟩
  rcases hS with (hS | ⟨o', hS⟩) | ⟨o', its, n, hk, hc, _⟩
  · exact ⟨[.ow true (ns.map D.int)], [a], .cons (A := [a]) (B := []) (.ow hS hz (dz_ints ns)) .nil, by simp, tb, rfl, post _ (.inr rfl) _⟩
  · exact ⟨[.fz (.lst (ns.map D.int))], [], .cons (A := []) (B := []) (.fz (.lst ⟨o', hS⟩ hz (dz_ints ns))) .nil, List.nodup_nil, tb, rfl, post _ (.inl rfl) _⟩
  · exact absurd hc (noL_lookup o hk)
theorem law_facts {w : World} {K : PySem.W.Frag} {h : Heap} {mg : Str → Option Value} {f : Addr} (X : K.In h) (G : h.Ns mainGlobals mg) (hfa : mg ("law" : Str) = some (.ref f)) (c : SaysY fa fn tf ini ex w h K) :
    LawAtS PySem.Challenge.rw_soonestkept_k90_rows_by_names w K (L2N.CX P w) 11 63 "script" mg f h := by
  obtain ⟨fd, F⟩ := c.x.t.d.def_ 32 (d := fnD ⟨"law", s_law, ["script"]⟩) (by rw [fn_eq, List.getElem?_map]; rfl)
  have F2 : L2.Fun K "law" "law" s_law (ga K "law") fd := fun_of F
  have hfd := fd_of F2
  have e := hfa.symm.trans (glo_ok X G (c.x.t.d.facts (fa_glo 32 ⟨"law", s_law, ["script"]⟩ rfl)))
  obtain rfl : f = ga K "law" := by cases e; rfl
  have b := FunD.bindsA (ps := ["script"]) F fun _ _ _ _ _ _ us hl => match us, hl with | [_], _ => rfl
  refine ⟨fd, tf.map (cT K), spLaw K, fun p hp => ?_, fun p hp => ?_, fun p hp => ?_, fun s v => b s [v] rfl, fun H a ns hl _ ht hS => ⟨a, ns, rfl, hl, hS, ht, fun _ => rfl⟩, fun base bX bG TB => ?_⟩
  · obtain ⟨q, hq, rfl⟩ := List.mem_map.mp hp
    exact c.x.empty q hq
  · obtain ⟨q, hq, rfl⟩ := List.mem_map.mp hp
    exact c.x.out q hq
  · obtain ⟨q, hq, rfl⟩ := List.mem_map.mp hp
    exact PySem.W.codeHd_of_K X (c.x.hd q hq)
  · have M : Md w K mg base := md_of X G c bX bG fun p hp => TB _ (List.mem_map.mpr ⟨p, hp, rfl⟩)
    have o := ok_law M
    rw [← hfd]
    exact FnOk.imp o (law_imp (ex_ok c.x.more).nol)
end HF
open PySem PySem.W PySem.Calls PyProof.Rows
theorem PySem.Challenge.cw_soonestkept_k90_rows_by_names_holds : PySem.Challenge.rw_soonestkept_k90_rows_by_names.Holds := by
  w_on; o_law
  refine HandSHeadRun.head_any (r := OpenLaw.row PySem.Challenge.rw_soonestkept_k90_rows_by_names) (q := HF.qv) (H := HF.hk) (ob := HF.ob) (M := 20000) (loose := HF.names) (d := HandSHeadRun.topDef (OpenLaw.row PySem.Challenge.rw_soonestkept_k90_rows_by_names).prog 89) (kwd := []) HF.ob_eq
    (by kernel_rfl) (fun s => by kernel_rfl) HF.run (by kernel_rfl) (by kernel_rfl) (by kernel_rfl) (by rfl) (by first | assumption | decide +kernel) (by decide +kernel) ⟨rfl, rfl, rfl, rfl, rfl, by decide +kernel⟩ ?hw ?hc
  case hw => w_witness2
  case hc =>
    refine LamX.walk_ofTsE (l := PySem.Challenge.rw_soonestkept_k90_rows_by_names) (n := 63) (k := 11) (x := "script") (CX := fun w => L2N.CX HF.P w) rfl (by decide) (by kernel_rfl) ⟨rfl, by decide, by decide⟩ ?F (fun w H s e s' z => by
      obtain ⟨_, _, _, _, _, _, _, _, _, _, _, _, q⟩ := z
      exact q)
    intro w mg fa h Y G hmg0
    obtain ⟨K, KX, c⟩ := Y
    have hmg : mg ("law" : PySem.Str) = some (.ref fa) := by
      have e : (HandSHeadRun.topDef (OpenLaw.row PySem.Challenge.rw_soonestkept_k90_rows_by_names).prog 89).name = ("law" : PySem.Str) := by kernel_rfl
      rw [← e]
      exact hmg0
    exact ⟨K, KX, HF.law_facts KX G hmg c⟩
