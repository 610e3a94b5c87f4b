import PyProof.Rows.All
import Wide.All
import OpenK.AllK
import Wide.FinOn
import KE.KStateDown
import KE.KExcInit
import KE.KExcIs
import PyProof.ReprRoads
import HandS.ForMost
import HandS.ForExc
import HandS.IsInst
import HandS.ExcInit
import HandS.ExcField
import HandS.ExcIs
import HandS.ExcValue
import HandS.CallSlots
import HandS.DictComp
import HandS.Zip
import HandS.TupAny
import HandS.More
import HandS.Conv
import HandS.WideBits
import HandS.FStr
import HandS.NoneIn
import HandS.Small
import HandS.TryMany
import HandS.Defaults
import HandS.Codes
import HandS.Replace
import HandS.Evl
import HandS.Walk
import HandS.Head0
import HandS.Head1
import HandS.Head2
import HandS.HeadEnd
import HandS.EndBits
import HandS.HeadHook1
import HandS.HeadHook2
import HandS.HeadHook3
import HandS.HeadHook4
import PySem.Challenge.RW_weaveall_k12_whole_refused_in_order
set_option Elab.async false
set_option linter.all false
set_option maxRecDepth 100000
set_option maxHeartbeats 4000000
namespace K12
open PySem PySem.Spec PyProof.Rows L2
def top (i : Nat) : Stmt := PySem.Challenge.pw_weaveall_k12_whole_refused_in_order.main.body.getD i (.Pass ⟨0, 0, 0, 0⟩)
/-- the j-th statement of a class's body -/
def cbody (i j : Nat) : Stmt := match top i with
  | .ClassDef _ _ _ b _ _ _ _ _ _ _ => b.getD j (.Pass ⟨0, 0, 0, 0⟩)
  | s => s
def kt (k : Str) (v : List V) : Str × List V := (k, v)
def tabBOUNDS : List (Str × List V) := [kt "number" [V.int (-1000), V.int (1000)], kt "many" [V.int (0), V.int (12)], kt "ticks" [V.int (0), V.int (9)]]
def tabPARTS : List (Str × List V) := [kt "set" [V.str "number"], kt "add" [V.str "number"], kt "skip" [V.str "number", V.str "many"], kt "fail" [V.str "name"], kt "read" [V.str "cell"], kt "write" [V.str "cell"], kt "more" [V.str "cell", V.str "number"], kt "draft" [], kt "keep" [], kt "drop" [], kt "lock" [V.str "lock"], kt "try" [V.str "lock"], kt "unlock" [V.str "lock"], kt "enter" [V.str "room"], kt "leave" [V.str "room"], kt "wait" [V.str "bell"], kt "ring" [V.str "bell"], kt "ringall" [V.str "bell"], kt "raise" [V.str "flag"], kt "lower" [V.str "flag"], kt "await" [V.str "flag"], kt "meet" [V.str "gate"], kt "send" [V.str "pipe"], kt "receive" [V.str "pipe"], kt "close" [V.str "pipe"], kt "spawn" [V.str "task"], kt "join" [V.str "task"], kt "result" [V.str "task"], kt "then" [V.str "task", V.str "task"], kt "cancel" [V.str "task"], kt "point" [], kt "shield" [], kt "open" [], kt "sleep" [V.str "ticks"], kt "within" [V.str "ticks", V.str "deed", V.str "many"], kt "submit" [V.str "pool", V.str "task"]]
def tabSIZES : List (Str × List V) := [kt "cell" [V.int (-1000), V.int (1000)], kt "lock" [V.int (0), V.int (0)], kt "relock" [V.int (0), V.int (0)], kt "room" [V.int (1), V.int (4)], kt "flag" [V.int (0), V.int (1)], kt "gate" [V.int (2), V.int (4)], kt "pipe" [V.int (1), V.int (4)], kt "pool" [V.int (1), V.int (4)]]
def tupLOCKS : List V := [V.str "lock", V.str "relock"]
def tupLASTS : List V := [V.str "set", V.str "add", V.str "skip", V.str "read", V.str "write", V.str "more", V.str "unlock", V.str "leave", V.str "ring", V.str "ringall", V.str "raise", V.str "lower", V.str "close", V.str "cancel"]
def tupWITHINS : List V := [V.str "lock", V.str "enter", V.str "await", V.str "send", V.str "receive", V.str "join", V.str "result"]
def tupAt (K : PySem.W.Frag) (t : Addr) (vs : List V) : Bool := match K.lookup t with
  | some ⟨.type c, _, .seq its _, _⟩ => decide (c = "tuple") && (decide (its.size ≤ sizeLine) && He.relAll vs its.toList)
  | _ => false
def ktB (K : PySem.W.Frag) (x : Str) (kvs : List (Str × List V)) : Bool := match K.lookup (He.ga K x) with
  | some ⟨_, _, .dict es _, _⟩ => decide (es.toList.map (fun e => (He.keyOf e).map (·.1)) = kvs.map (fun q => some q.1)) && kvs.all fun q => match PySem.W.nsIn K (He.ga K x) q.1 with
    | some (some (.ref t)) => tupAt K t q.2
    | _ => false
  | _ => false
/-- isinstance's part -/
def ixB (K : PySem.W.Frag) (C : Addr) : Bool := PySem.W.hasDictIn K C && (decide (PySem.W.subIn K (.ref C) (.type "BaseException") = some true) && (He.eqO (PySem.W.findIn K (.ref C) "__getattribute__") (some (some (.builtin "BaseException.__getattribute__"))) &&
  (He.eqO (PySem.W.findIn K (.ref C) "__getattr__") (some none) && (He.eqO (PySem.W.findIn K (.ref C) "__class__") (some (some (.builtin "object.__class__"))) && (He.eqO (PySem.W.specialIn K (.builtin "object.__class__") "__get__") (some (some (.builtin "getset_descriptor.__get__"))) &&
  (decide (PySem.W.takesIn K (.builtin "object.__class__") = some true) && decide (PySem.W.mroIn K C (.type "object") = some true)))))))
/-- an own class with its own __init__, over a base whose facts are known -/
def oxB (K : PySem.W.Frag) (C : Addr) (bm : List Value) (nw : String) : Bool := ixB K C && (PySem.W.excInitIn K C bm nw && (PySem.W.excOver K C bm && (He.eqO (PySem.W.findIn K (.ref C) "__setattr__") (some (some (.builtin "object.__setattr__"))) &&
  (decide (PySem.W.typeIn K (.ref C) = some (.type "type")) && PySem.W.keepIn K (.ref C)))))
def clsB (K : PySem.W.Frag) (c : Value) (n : String) : Bool := match PySem.W.findCls K c (.type "type") "__init__" with
  | some (.val (.builtin m)) => m == n
  | _ => false
def kitB1 (K : PySem.W.Frag) (x : Str) (c : Value) (b : Bool) : Bool := decide (PySem.W.kitOne K (.ref (He.ga K x)) c = some b)
def fdef (x : Str) (i : Nat) : He.DefD := ⟨(x, none), x, x, defArgs (top i), defBody (top i), defScope (top i), [], []⟩
def mdef (x q : Str) (i j : Nat) : He.DefD := ⟨(x, some "__init__"), "__init__", q, defArgs (cbody i j), defBody (cbody i j), defScope (cbody i j), [], []⟩
def fnY0 : List He.DefD := [fdef "_wall" 0, fdef "is_word" 19, fdef "is_name" 20, fdef "is_number" 21, fdef "is_of_kind" 22, fdef "is_part" 23, fdef "is_deed" 24, fdef "is_last_deed" 25, fdef "who_is" 43, fdef "want_name" 44, fdef "is_kind" 45, fdef "is_size" 46, fdef "kinds_of" 47, fdef "with_tasks" 48, fdef "want_deeds" 49, fdef "_law_pot" 52, fdef "_law_take" 53, fdef "_law_name" 54, fdef "_law_sorts" 55, fdef "_law_thing" 56]
def fnY1 : List He.DefD := [fdef "_law_stuff" 57, fdef "_law_part" 58, fdef "_law_has_kind" 59, fdef "_law_are_some" 60, fdef "_law_deed" 61, fdef "_law_deeds" 62, fdef "_law_program" 63, fdef "_law_is_name" 64, fdef "_law_is_number" 65, fdef "_law_is_part" 66, fdef "_law_is_deed" 67, fdef "_law_who" 68, fdef "_law_bad_name" 69, fdef "_law_bad_size" 70, fdef "_law_bad_thing" 71, fdef "_law_bad_task" 72, fdef "_law_bad_deeds" 73, fdef "_law_due" 74, fdef "_law_odd" 75, fdef "_law_in" 76]
def fnY2 : List He.DefD := [fdef "_law_odd_thing" 77, fdef "_law_struck_stuff" 78, fdef "_law_struck_deeds" 79, fdef "_law_struck_crew" 80, fdef "_law_answer" 81, fdef "_law_errors_right" 82, fdef "law" 83, mdef "NoProgram" "NoProgram.__init__" 28 0, mdef "NoText" "NoText.__init__" 29 0, mdef "NoSuch" "NoSuch.__init__" 33 0, mdef "CantGo" "CantGo.__init__" 34 0, mdef "TooMany" "TooMany.__init__" 35 0, mdef "Program" "Program.__init__" 50 0]
def fnY : List He.DefD := fnY0 ++ fnY1 ++ fnY2
def faY0 : List He.Fa := [.free "isinstance", .free "str", .free "all", .free "len", .free "enumerate", .free "list", .free "dict", .free "zip", .free "tuple", .free "int", .free "bool", .free "range", .free "abs", .free "max", .free "divmod", .free "min", .free "any", .free "repr", .free "LookupError", .free "RuntimeError"]
def faY1 : List He.Fa := [.free "ArithmeticError", .free "ValueError", .int "MOST_LETTERS" 8, .int "MOST_NUMBER" 1000, .int "MOST_MANY" 12, .int "MOST_TICKS" 9, .int "MOST_THINGS" 10, .int "MOST_TASKS" 6, .int "MOST_BODY" 12, .int "MOST_LAST" 4, .str "LETTERS" "abcdefghijklmnopqrstuvwxyz", .str "TICK" "tick", .str "NUMBER" "number", .str "MANY" "many", .str "TICKS" "ticks", .str "NAME" "name", .str "DEED" "deed", .str "TASK" "task", .str "BELL" "bell", .glo "LOCKS"]
def faY2 : List He.Fa := [.glo "LASTS", .glo "WITHINS", .glo "BOUNDS", .glo "PARTS", .glo "SIZES", .glo "_wall", .glo "is_word", .glo "is_name", .glo "is_number", .glo "is_of_kind", .glo "is_part", .glo "is_deed", .glo "is_last_deed", .glo "who_is", .glo "want_name", .glo "is_kind", .glo "is_size", .glo "kinds_of", .glo "with_tasks", .glo "want_deeds"]
def faY3 : List He.Fa := [.glo "_law_pot", .glo "_law_take", .glo "_law_name", .glo "_law_sorts", .glo "_law_thing", .glo "_law_stuff", .glo "_law_part", .glo "_law_has_kind", .glo "_law_are_some", .glo "_law_deed", .glo "_law_deeds", .glo "_law_program", .glo "_law_is_name", .glo "_law_is_number", .glo "_law_is_part", .glo "_law_is_deed", .glo "_law_who", .glo "_law_bad_name", .glo "_law_bad_size", .glo "_law_bad_thing"]
def faY4 : List He.Fa := [.glo "_law_bad_task", .glo "_law_bad_deeds", .glo "_law_due", .glo "_law_odd", .glo "_law_in", .glo "_law_odd_thing", .glo "_law_struck_stuff", .glo "_law_struck_deeds", .glo "_law_struck_crew", .glo "_law_answer", .glo "_law_errors_right", .glo "law", .glo "WeaveError", .glo "NoProgram", .meth "NoProgram" "__init__", .noat "NoProgram" "what", .noat "NoProgram" "who", .glo "NoText", .meth "NoText" "__init__", .noat "NoText" "row"]
def faY5 : List He.Fa := [.glo "NoSuch", .meth "NoSuch" "__init__", .noat "NoSuch" "who", .glo "CantGo", .meth "CantGo" "__init__", .noat "CantGo" "who", .glo "TooMany", .meth "TooMany" "__init__", .noat "TooMany" "limit", .glo "Program", .meth "Program" "__init__", .mkr "Program", .cls "Program", .noat "Program" "kinds", .noat "Program" "own_things", .noat "Program" "own_tasks", .noat "Program" "own_sizes", .noat "Program" "own_parts", .glo "NoRow", .glo "NoWeaver"]
def faY6 : List He.Fa := [.glo "NoBack", .exc "NoRow", .exc "NoWeaver", .exc "NoBack", .exm "NoProgram" "NoProgram" true]
def faY : List He.Fa := faY0 ++ faY1 ++ faY2 ++ faY3 ++ faY4 ++ faY5 ++ faY6
def exYs0 : List (PySem.W.Frag → Bool) := [fun K => tupAt K (He.ga K "LOCKS") tupLOCKS, fun K => tupAt K (He.ga K "LASTS") tupLASTS, fun K => tupAt K (He.ga K "WITHINS") tupWITHINS, fun K => ktB K "BOUNDS" tabBOUNDS, fun K => ktB K "PARTS" tabPARTS, fun K => ktB K "SIZES" tabSIZES, fun K => He.eqO (PySem.W.specialIn K (.ref (He.ga K "WeaveError")) "__getattribute__") (some (some (.builtin "type.__getattribute__"))), fun K => PySem.W.readsIn K (He.ga K "WeaveError") (.type "type"), fun K => clsB K (.ref (He.ga K "WeaveError")) "ValueError.__init__", fun K => clsB K (.type "LookupError") "LookupError.__init__", fun K => clsB K (.type "RuntimeError") "RuntimeError.__init__", fun K => clsB K (.type "ArithmeticError") "ArithmeticError.__init__", fun K => oxB K (He.ga K "NoProgram") [.type "ValueError", .type "Exception", .type "BaseException", .type "object"] "ValueError.__new__", fun K => oxB K (He.ga K "NoText") [.type "ValueError", .type "Exception", .type "BaseException", .type "object"] "ValueError.__new__", fun K => oxB K (He.ga K "NoSuch") [.type "LookupError", .type "Exception", .type "BaseException", .type "object"] "LookupError.__new__", fun K => oxB K (He.ga K "CantGo") [.type "RuntimeError", .type "Exception", .type "BaseException", .type "object"] "RuntimeError.__new__", fun K => oxB K (He.ga K "TooMany") [.type "ArithmeticError", .type "Exception", .type "BaseException", .type "object"] "ArithmeticError.__new__", fun K => ixB K (He.ga K "NoRow"), fun K => ixB K (He.ga K "NoWeaver"), fun K => ixB K (He.ga K "NoBack")]
def exYs1 : List (PySem.W.Frag → Bool) := [fun K => kitB1 K "NoProgram" (.ref (He.ga K "WeaveError")) true, fun K => kitB1 K "NoProgram" (.type "ValueError") true, fun K => decide (PySem.W.kitAny K (.ref (He.ga K "NoProgram")) [.ref (He.ga K "NoText"), .ref (He.ga K "NoRow"), .ref (He.ga K "NoWeaver"), .ref (He.ga K "NoBack"), .type "LookupError", .type "RuntimeError", .type "ArithmeticError"] = some false), fun K => kitB1 K "NoRow" (.ref (He.ga K "WeaveError")) true, fun K => kitB1 K "NoWeaver" (.ref (He.ga K "WeaveError")) true, fun K => kitB1 K "NoBack" (.ref (He.ga K "WeaveError")) true, fun K => kitB1 K "NoText" (.type "ValueError") true, fun K => kitB1 K "NoSuch" (.type "LookupError") true, fun K => kitB1 K "CantGo" (.type "RuntimeError") true, fun K => kitB1 K "TooMany" (.type "ArithmeticError") true, fun K => kitB1 K "NoSuch" (.ref (He.ga K "WeaveError")) false, fun K => kitB1 K "CantGo" (.ref (He.ga K "WeaveError")) false, fun K => kitB1 K "TooMany" (.ref (He.ga K "WeaveError")) false, fun K => (K.lookup sysModules).isSome]
def exYs : List (PySem.W.Frag → Bool) := exYs0 ++ exYs1
def keysBOUNDS : List Str := (["number", "many", "ticks"] : List String).map Str.ofString
def keysPARTS : List Str := (["set", "add", "skip", "fail", "read", "write", "more", "draft", "keep", "drop", "lock", "try", "unlock", "enter", "leave", "wait", "ring", "ringall", "raise", "lower", "await", "meet", "send", "receive", "close", "spawn", "join", "result", "then", "cancel", "point", "shield", "open", "sleep", "within", "submit"] : List String).map Str.ofString
def keysSIZES : List Str := (["cell", "lock", "relock", "room", "flag", "gate", "pipe", "pool"] : List String).map Str.ofString
def tsY : List He.Tab := [(fun K => He.ga K "BOUNDS", keysBOUNDS), (fun K => He.ga K "PARTS", keysPARTS), (fun K => He.ga K "SIZES", keysSIZES)]
def exB (K : PySem.W.Frag) : Bool := exYs.all fun f => f K
abbrev R : PySem.W.OpenRow := PySem.W.OpenLaw.row PySem.Challenge.rw_weaveall_k12_whole_refused_in_order
def asY (g : Addr → Option Obj) (n : Nat) : List Addr := He.asD g n ++ [sysModules, cStatics]
def obsK (K : PySem.W.Frag) : He.AlT × Bool := (He.obsT faY fnY tsY K, exB K)
def obsY (g : Addr → Option Obj) : He.AlT × Bool := obsK (He.frG g (asY g 4))
def hookY : PySem.W.Hook where
  α := He.AlT × Bool
  obs := fun s => obsY s.heap.get?
  val := fun w => (He.valT fnY tsY w, true)
  says := fun w h => ∃ K : PySem.W.Frag, K.In h ∧ He.SaysT faY fnY tsY w K ∧ exB K = true
  of := fun _ _ e => ⟨_, He.frG_in, congrArg (fun z : He.AlT × Bool => z.1) e, congrArg (fun z : He.AlT × Bool => z.2) e⟩
  keeps := fun _ _ _ ⟨K, hK, c⟩ k => ⟨K, PySem.W.Frag.In.keeps hK k, c⟩
def ob (s : PySem.W.SharedT) : He.AlT × Bool := obsY (HandSHeadRun.getT s)
def looseY0 : List Str := (["_wall", "LETTERS", "MOST_LETTERS", "TICK", "MOST_NUMBER", "MOST_MANY", "MOST_TICKS", "NUMBER", "MANY", "TICKS", "NAME", "DEED", "TASK", "LOCKS", "BOUNDS", "PARTS", "LASTS", "WITHINS", "is_word", "is_name", "is_number", "is_of_kind", "is_part", "is_deed", "is_last_deed", "WeaveError", "NoProgram", "NoText", "NoRow", "NoWeaver"] : List String).map Str.ofString
def looseY1 : List Str := (["NoBack", "NoSuch", "CantGo", "TooMany", "MOST_THINGS", "MOST_TASKS", "MOST_BODY", "MOST_LAST", "SIZES", "BELL", "who_is", "want_name", "is_kind", "is_size", "kinds_of", "with_tasks", "want_deeds", "Program", "_law_pot", "_law_take", "_law_name", "_law_sorts", "_law_thing", "_law_stuff", "_law_part", "_law_has_kind", "_law_are_some", "_law_deed", "_law_deeds", "_law_program"] : List String).map Str.ofString
def looseY2 : List Str := (["_law_is_name", "_law_is_number", "_law_is_part", "_law_is_deed", "_law_who", "_law_bad_name", "_law_bad_size", "_law_bad_thing", "_law_bad_task", "_law_bad_deeds", "_law_due", "_law_odd", "_law_in", "_law_odd_thing", "_law_struck_stuff", "_law_struck_deeds", "_law_struck_crew", "_law_answer", "_law_errors_right"] : List String).map Str.ofString
def looseY : List Str := looseY0 ++ looseY1 ++ looseY2
theorem runF (w : World) : HandSHeadRun.RunEq R (PySem.W.view R.prog [83]) hookY ob 6000 looseY (w.withFollow "special-get-raises" false) := by
  intro os
  kernel_rfl
theorem runT (w : World) : HandSHeadRun.RunEq R (PySem.W.view R.prog [83]) hookY ob 6000 looseY (w.withFollow "special-get-raises" true) := by
  intro os
  kernel_rfl
end K12
namespace K12
open PySem PySem.Spec PyProof.Rows L2

/-! ### the text by places -/

/-! ### the heap: all but the pot at p is kept -/
def Kp (p : Addr) (H H' : Hp) : Prop := ∀ b o, H b = some o → b ≠ p → H' b = some o
theorem Kp.refl {p : Addr} (H : Hp) : Kp p H H := fun _ _ h _ => h
theorem Kp.trans {p : Addr} {H H1 H2 : Hp} (a : Kp p H H1) (b : Kp p H1 H2) : Kp p H H2 := fun c o h n => b c o (a c o h n) n
theorem Kp.of {p : Addr} {H H' : Hp} (s : Same H H') : Kp p H H' := fun b o h _ => s b o h
theorem Same.new {H : Hp} {q : Addr} {o : HO} (h : H q = none) : Same H (upd H q o) := fun b u e => by
  rw [upd_ne (ne_of_none e h)]; exact e
theorem Kp.new {p q : Addr} {H : Hp} {o : HO} (h : H q = none) : Kp p H (upd H q o) := Kp.of (Same.new h)
/-- an object that H does not know may change -/
theorem Same.mut {H H' : Hp} {q : Addr} {o : HO} (s : Same H H') (h : H q = none) : Same H (upd H' q o) := fun b u e => by
  rw [upd_ne (ne_of_none e h)]; exact s b u e
theorem Kp.mut {p q : Addr} {H H' : Hp} {o : HO} (s : Kp p H H') (h : H q = none) : Kp p H (upd H' q o) := fun b u e n => by
  rw [upd_ne (ne_of_none e h)]; exact s b u e n
theorem Kp.pot {p : Addr} {H H' : Hp} {o : HO} (s : Kp p H H') : Kp p H (upd H' p o) := fun b u e n => by
  rw [upd_ne n]; exact s b u e n
theorem Kp.fresh {p q : Addr} {H H' : Hp} (s : Kp p H H') (h : H' q = none) (n : q ≠ p) : H q = none := by
  cases e : H q with
  | none => rfl
  | some o => rw [s q o e n] at h; cases h

/-! ### data in the heap, not through the address p -/
mutual
def Rp (p : Addr) (H : Hp) : PyData → V → Prop
  | .none, v => v = .non
  | .bool b, v => v = .bl b
  | .int i, v => v = .int i
  | .str x, v => v = .str x
  | .list ds, v => ∃ a xs, v = .ref a ∧ a ≠ p ∧ H a = some (.lst xs) ∧ RpA p H ds xs
  | .tuple ds, v => ∃ a xs, v = .ref a ∧ a ≠ p ∧ H a = some (.tup xs) ∧ RpA p H ds xs
  | .dict kvs, v => kvs = [] ∧ ∃ a, v = .ref a ∧ a ≠ p ∧ H a = some (.dK [])
def RpA (p : Addr) (H : Hp) : List PyData → List V → Prop
  | [], xs => xs = []
  | d :: ds, xs => ∃ v vs, xs = v :: vs ∧ Rp p H d v ∧ RpA p H ds vs
end
section
variable {p : Addr} {H H' : Hp}
mutual
theorem Rp.mono (k : Kp p H H') : ∀ {d : PyData} {v : V}, Rp p H d v → Rp p H' d v
  | .none, _, h => h
  | .bool _, _, h => h
  | .int _, _, h => h
  | .str _, _, h => h
  | .list ds, _, ⟨a, xs, e, n, o, h⟩ => ⟨a, xs, e, n, k _ _ o n, RpA.mono k h⟩
  | .tuple ds, _, ⟨a, xs, e, n, o, h⟩ => ⟨a, xs, e, n, k _ _ o n, RpA.mono k h⟩
  | .dict kvs, _, ⟨z, a, e, n, o⟩ => ⟨z, a, e, n, k _ _ o n⟩
theorem RpA.mono (k : Kp p H H') : ∀ {ds : List PyData} {xs : List V}, RpA p H ds xs → RpA p H' ds xs
  | [], _, h => h
  | d :: ds, _, ⟨v, vs, e, h1, h2⟩ => ⟨v, vs, e, Rp.mono k h1, RpA.mono k h2⟩
end
theorem RpA.length : ∀ {ds : List PyData} {xs : List V}, RpA p H ds xs → xs.length = ds.length
  | [], _, h => by cases h; rfl
  | d :: ds, _, ⟨v, vs, e, _, h2⟩ => by subst e; simp [RpA.length h2]
theorem RpA.get : ∀ {ds : List PyData} {xs : List V} {i : Nat} {d : PyData}, RpA p H ds xs → ds[i]? = some d → ∃ v, xs[i]? = some v ∧ Rp p H d v
  | [], _, _, _, _, e => by simp at e
  | d :: ds, _, 0, d', ⟨v, vs, ex, h1, _⟩, e => by
    subst ex; simp at e; subst e; exact ⟨v, rfl, h1⟩
  | d :: ds, _, i + 1, d', ⟨v, vs, ex, _, h2⟩, e => by
    subst ex
    obtain ⟨u, h3, h4⟩ := RpA.get (i := i) h2 (by simpa using e)
    exact ⟨u, by simpa using h3, h4⟩
theorem RpA.getV : ∀ {ds : List PyData} {xs : List V} {i : Nat} {v : V}, RpA p H ds xs → xs[i]? = some v → ∃ d, ds[i]? = some d ∧ Rp p H d v
  | [], _, _, _, h, e => by cases h; simp at e
  | d :: ds, _, 0, v', ⟨v, vs, ex, h1, _⟩, e => by
    subst ex; simp at e; subst e; exact ⟨d, rfl, h1⟩
  | d :: ds, _, i + 1, v', ⟨v, vs, ex, _, h2⟩, e => by
    subst ex
    obtain ⟨u, h3, h4⟩ := RpA.getV (i := i) h2 (by simpa using e)
    exact ⟨u, by simpa using h3, h4⟩
theorem RpA.app : ∀ {ds es : List PyData} {xs ys : List V}, RpA p H ds xs → RpA p H es ys → RpA p H (ds ++ es) (xs ++ ys)
  | [], _, _, _, h, g => by cases h; exact g
  | d :: ds, _, _, _, ⟨v, vs, e, h1, h2⟩, g => by subst e; exact ⟨v, vs ++ _, rfl, h1, RpA.app h2 g⟩
theorem RpA.take : ∀ (n : Nat) {ds : List PyData} {xs : List V}, RpA p H ds xs → RpA p H (ds.take n) (xs.take n)
  | 0, _, _, _ => by simp [RpA]
  | n + 1, [], _, h => by cases h; simp [RpA]
  | n + 1, d :: ds, _, ⟨v, vs, e, h1, h2⟩ => by subst e; exact ⟨v, vs.take n, rfl, h1, RpA.take n h2⟩
theorem RpA.drop : ∀ (n : Nat) {ds : List PyData} {xs : List V}, RpA p H ds xs → RpA p H (ds.drop n) (xs.drop n)
  | 0, _, _, h => by simpa using h
  | n + 1, [], _, h => by cases h; simp [RpA]
  | n + 1, d :: ds, _, ⟨v, vs, e, h1, h2⟩ => by subst e; simpa using RpA.drop n h2
theorem RpA.one {d : PyData} {v : V} (h : Rp p H d v) : RpA p H [d] [v] := ⟨v, [], rfl, h, rfl⟩
theorem RpA.two {d e : PyData} {v u : V} (h : Rp p H d v) (g : Rp p H e u) : RpA p H [d, e] [v, u] := ⟨v, [u], rfl, h, .one g⟩
theorem RpA.nil : RpA p H [] [] := rfl
theorem RpA.cons {d : PyData} {v : V} {ds : List PyData} {vs : List V} (h : Rp p H d v) (g : RpA p H ds vs) : RpA p H (d :: ds) (v :: vs) := ⟨v, vs, rfl, h, g⟩
theorem RpA.set : ∀ {ds : List PyData} {xs : List V} (i : Nat) {d : PyData} {v : V}, RpA p H ds xs → Rp p H d v → RpA p H (ds.set i d) (xs.set i v)
  | [], _, i, _, _, h, _ => by cases h; simp [RpA]
  | d :: ds, _, 0, _, _, ⟨v, vs, e, h1, h2⟩, g => by subst e; exact ⟨_, vs, rfl, g, h2⟩
  | d :: ds, _, i + 1, _, _, ⟨v, vs, e, h1, h2⟩, g => by subst e; exact ⟨v, vs.set i _, rfl, h1, RpA.set i h2 g⟩
theorem RpA.rep {ds : List PyData} {xs : List V} (h : RpA p H ds xs) : ∀ n : Nat, RpA p H (List.replicate n ds).flatten (List.replicate n xs).flatten
  | 0 => rfl
  | n + 1 => by
    rw [List.replicate_succ, List.replicate_succ, List.flatten_cons, List.flatten_cons]
    exact RpA.app h (RpA.rep h n)
end

/-! ### the built-in class of data -/
def tyN : PyData → String
  | .none => "NoneType"
  | .bool _ => "bool"
  | .int _ => "int"
  | .str _ => "str"
  | .list _ => "list"
  | .tuple _ => "tuple"
  | .dict _ => "dict"
theorem Rp.ty {K : PySem.W.Frag} {p : Addr} {H : Hp} : ∀ {d : PyData} {v : V}, Rp p H d v → TyX K H v (.type (tyN d))
  | .none, _, h => by cases h; exact .base .non
  | .bool b, _, h => by cases h; exact .base (.bl b)
  | .int i, _, h => by cases h; exact .base (.int i)
  | .str x, _, h => by cases h; exact .base (.str x)
  | .list ds, _, ⟨a, xs, e, n, o, h⟩ => by subst e; exact .base (.lst o)
  | .tuple ds, _, ⟨a, xs, e, n, o, h⟩ => by subst e; exact .base (.tup o)
  | .dict kvs, _, ⟨z, a, e, n, o⟩ => by subst e; exact .base (.dK o)
def isS : PyData → Bool
  | .str _ => true
  | _ => false
def isI : PyData → Bool
  | .int _ => true
  | .bool _ => true
  | _ => false
def isB : PyData → Bool
  | .bool _ => true
  | _ => false
def isL : PyData → Bool
  | .list _ => true
  | _ => false
def isT : PyData → Bool
  | .tuple _ => true
  | _ => false
theorem kitS (d : PyData) : kitB (tyN d) "str" = some (isS d) := by cases d <;> first | exact (by decide +kernel : kitB "NoneType" "str" = some false) | exact (by decide +kernel : kitB "bool" "str" = some false) | exact (by decide +kernel : kitB "int" "str" = some false) | exact (by decide +kernel : kitB "str" "str" = some true) | exact (by decide +kernel : kitB "list" "str" = some false) | exact (by decide +kernel : kitB "tuple" "str" = some false) | exact (by decide +kernel : kitB "dict" "str" = some false)
theorem kitI (d : PyData) : kitB (tyN d) "int" = some (isI d) := by cases d <;> first | exact (by decide +kernel : kitB "NoneType" "int" = some false) | exact (by decide +kernel : kitB "bool" "int" = some true) | exact (by decide +kernel : kitB "int" "int" = some true) | exact (by decide +kernel : kitB "str" "int" = some false) | exact (by decide +kernel : kitB "list" "int" = some false) | exact (by decide +kernel : kitB "tuple" "int" = some false) | exact (by decide +kernel : kitB "dict" "int" = some false)
theorem kitBo (d : PyData) : kitB (tyN d) "bool" = some (isB d) := by cases d <;> first | exact (by decide +kernel : kitB "NoneType" "bool" = some false) | exact (by decide +kernel : kitB "bool" "bool" = some true) | exact (by decide +kernel : kitB "int" "bool" = some false) | exact (by decide +kernel : kitB "str" "bool" = some false) | exact (by decide +kernel : kitB "list" "bool" = some false) | exact (by decide +kernel : kitB "tuple" "bool" = some false) | exact (by decide +kernel : kitB "dict" "bool" = some false)
theorem kitL (d : PyData) : kitB (tyN d) "list" = some (isL d) := by cases d <;> first | exact (by decide +kernel : kitB "NoneType" "list" = some false) | exact (by decide +kernel : kitB "bool" "list" = some false) | exact (by decide +kernel : kitB "int" "list" = some false) | exact (by decide +kernel : kitB "str" "list" = some false) | exact (by decide +kernel : kitB "list" "list" = some true) | exact (by decide +kernel : kitB "tuple" "list" = some false) | exact (by decide +kernel : kitB "dict" "list" = some false)
theorem kitT (d : PyData) : kitB (tyN d) "tuple" = some (isT d) := by cases d <;> first | exact (by decide +kernel : kitB "NoneType" "tuple" = some false) | exact (by decide +kernel : kitB "bool" "tuple" = some false) | exact (by decide +kernel : kitB "int" "tuple" = some false) | exact (by decide +kernel : kitB "str" "tuple" = some false) | exact (by decide +kernel : kitB "list" "tuple" = some false) | exact (by decide +kernel : kitB "tuple" "tuple" = some true) | exact (by decide +kernel : kitB "dict" "tuple" = some false)
section
variable {K : PySem.W.Frag} {p : Addr} {H : Hp} {d : PyData} {v : V} {Q : VK}
theorem isi_of {T : String} {b : Bool} (h : Rp p H d v) (e : kitB (tyN d) T = some b) (q : Q (.bl b) H) : rIsi K [v, .ty T] H Q := ⟨v, .ty T, _, _, b, rfl, .ty T, h.ty, kit_ty e, q⟩
theorem isiS (h : Rp p H d v) (q : Q (.bl (isS d)) H) : rIsi K [v, .ty "str"] H Q := isi_of h (kitS d) q
theorem isiI (h : Rp p H d v) (q : Q (.bl (isI d)) H) : rIsi K [v, .ty "int"] H Q := isi_of h (kitI d) q
theorem isiB (h : Rp p H d v) (q : Q (.bl (isB d)) H) : rIsi K [v, .ty "bool"] H Q := isi_of h (kitBo d) q
theorem isiL (h : Rp p H d v) (q : Q (.bl (isL d)) H) : rIsi K [v, .ty "list"] H Q := isi_of h (kitL d) q
theorem isiT (h : Rp p H d v) (q : Q (.bl (isT d)) H) : rIsi K [v, .ty "tuple"] H Q := isi_of h (kitT d) q
end

/-! ### a def that may be called by its name -/
structure Cl (P : Program) (w : World) (K : PySem.W.Frag) (mg : Str → Option Value) (base : Heap) (CX : CXT) (k : Nat) (x : Str) (sp : Sp) : Prop where
  ex : ∃ (f : Addr) (fd : FuncData) (ps : List Str), FnOk P w K mg base CX k f fd ps sp ∧ mg x = some (.ref f) ∧ PySem.W.keepIn K (.ref f) = true ∧ Binds K fd ps []
theorem Cl.mono {P : Program} {w : World} {K : PySem.W.Frag} {mg : Str → Option Value} {base : Heap} {CX : CXT} {j k : Nat} {x : Str} {sp : Sp} (c : Cl P w K mg base CX j x sp) (h : j ≤ k) : Cl P w K mg base CX k x sp := by
  obtain ⟨f, fd, ps, F, a, b, d⟩ := c.ex
  exact ⟨f, fd, ps, F.mono h, a, b, d⟩
theorem Cl.imp {P : Program} {w : World} {K : PySem.W.Frag} {mg : Str → Option Value} {base : Heap} {CX : CXT} {k : Nat} {x : Str} {sp sp' : Sp} (c : Cl P w K mg base CX k x sp) (h : ∀ vs H Q E, sp' vs H Q E → sp vs H Q E) : Cl P w K mg base CX k x sp' := by
  obtain ⟨f, fd, ps, F, a, b, d⟩ := c.ex
  exact ⟨f, fd, ps, F.imp h, a, b, d⟩
/-- a def of the module as it stands behind the top -/
structure Df (K : PySem.W.Frag) (mg : Str → Option Value) (x : Str) (st : Stmt) : Prop where
  ex : ∃ (f : Addr) (fd : FuncData), FunD K x x (defArgs st) (defBody st) (defScope st) [] [] f fd ∧ mg x = some (.ref f)
section
variable {P : Program} {w : World} {K : PySem.W.Frag} {mg : Str → Option Value} {base : Heap}
theorem Df.cl {CX : CXT} {x : Str} {st : Stmt} {N ps : List Str} {k : Nat} {sp : Sp} (D : Df K mg x st) (S : FnScope N ps (defScope st))
    (hb : ∀ (kV doc pm : Value) (an : Option Addr) (cdv ct : Value) (us : List Value), us.length = ps.length → bindArgs (PySem.W.fnOf x x (defArgs st) (defBody st) (defScope st) .none kV doc pm an cdv ct) ⟨us, []⟩ = pure (ps.zip us))
    (len : ∀ vs H Q E, sp vs H Q E → vs.length = ps.length)
    (hbody : ∀ (f : Addr) (cdv : Value) (A : Around) (outer : List Env) (s : Shared) (H : Hp) (vs : List V) (Q : VK) (E : XK), Room k (A.deeper (envOfC x (defScope st) s.heap.objs.size f cdv)) → sp vs H Q E →
      ∃ t, PSs (cxOf CX P w K mg base N x (defScope st) f cdv A outer s H E) (defBody st) t ∧ t { nx := fun _ H' => Q .non H', rt := Q } (start N vs) H) : Cl P w K mg base CX (k + 1) x sp := by
  obtain ⟨f, fd, F, hm⟩ := D.ex
  exact ⟨f, fd, ps, F.ok S len (hbody f), hm, F.kp, FunD.bindsN F hb⟩
end
section
variable {X : Cx} {CX : CXT} {k j : Nat} {x : Str} {sp : Sp} {E : XK} {p pos : Pos} {e : Expr} {es : List Expr} {t : TA}
/-- f(e, ..), a def that raises nothing -/
theorem pe_cl (c : Cl X.prog X.w X.K X.mg X.base CX0 k x sp) (hr : Room j X.A) (ha : PA X (e :: es) t) (hk : k ≤ j := by omega) (hg : Gl X x := by rfl)
    (hdb : (x == ("__debug__" : Str)) = false := by decide) (he : starEach (e :: es) X.env = (false, eval e X.env) :: starEach es X.env := by rfl) (hpl : (backTo pos (starEach es X.env)).any (·.1) = false := by rfl) :
    PE X (.Call (.Name x p) (e :: es) [] pos) (tCall sp [] E0 t) := by
  obtain ⟨f, fd, ps, F, hm, kp, b⟩ := c.ex
  exact pe_call F (hr.mono hk) hg hm kp b .nil pass0 ha hdb he hpl
theorem pe_cl0 (c : Cl X.prog X.w X.K X.mg X.base CX0 k x sp) (hr : Room j X.A) (hk : k ≤ j := by omega) (hg : Gl X x := by rfl)
    (hdb : (x == ("__debug__" : Str)) = false := by decide) : PE X (.Call (.Name x p) [] [] pos) (tCall sp [] E0 tNil) := by
  obtain ⟨f, fd, ps, F, hm, kp, b⟩ := c.ex
  exact pe_call0 F (hr.mono hk) hg hm kp b .nil pass0 hdb
/-- .. that may raise -/
theorem pe_clX (c : Cl X.prog X.w X.K X.mg X.base CX k x sp) (hr : Room j X.A) (hx : Passes CX X E) (ha : PA X (e :: es) t) (hk : k ≤ j := by omega) (hg : Gl X x := by rfl)
    (hdb : (x == ("__debug__" : Str)) = false := by decide) (he : starEach (e :: es) X.env = (false, eval e X.env) :: starEach es X.env := by rfl) (hpl : (backTo pos (starEach es X.env)).any (·.1) = false := by rfl) :
    PE X (.Call (.Name x p) (e :: es) [] pos) (tCall sp [] E t) := by
  obtain ⟨f, fd, ps, F, hm, kp, b⟩ := c.ex
  exact pe_call F (hr.mono hk) hg hm kp b .nil hx ha hdb he hpl
/-- the module's constants -/
theorem pe_gi {i : Int} (h : ∃ t, X.mg x = some (.int i t)) (hg : Gl X x := by rfl) (hd : (x == ("__debug__" : Str)) = false := by decide) : PE X (.Name x pos) (tC (.int i)) := by
  obtain ⟨t, h⟩ := h
  exact pe_glob hg h ⟨t, rfl⟩ hd
theorem pe_gs {z : Str} (h : ∃ t, X.mg x = some (.str z t)) (hg : Gl X x := by rfl) (hd : (x == ("__debug__" : Str)) = false := by decide) : PE X (.Name x pos) (tC (.str z)) := by
  obtain ⟨t, h⟩ := h
  exact pe_glob hg h ⟨t, rfl⟩ hd
theorem pe_gr {a : Addr} (h : X.mg x = some (.ref a)) (hg : Gl X x := by rfl) (hd : (x == ("__debug__" : Str)) = false := by decide) : PE X (.Name x pos) (tC (.ref a)) := pe_glob hg h rfl hd
/-- a built-in class as a value -/
theorem pe_bt {T : String} (hm : X.mg x = none) (hv : bootBuiltins x = some (.type T)) (hg : Gl X x := by rfl) (hn : x ≠ "__name__" := by decide) (hd : (x == ("__debug__" : Str)) = false := by decide) : PE X (.Name x pos) (tC (.ty T)) :=
  pe_bltn hg hm hv rfl hn hd
/-- isinstance(e, T) -/
def tIsi (K : PySem.W.Frag) (T : String) (te : TE) : TE := fun σ H Q => te σ H fun x H1 => rIsi K [x, .ty T] H1 Q
theorem pe_isi {T : String} {e : Expr} {te : TE} {p2 : Pos} (h1 : X.mg "isinstance" = none) (h2 : X.mg x = none) (he : PE X e te) (hv : bootBuiltins x = some (.type T)) (hg : Gl X "isinstance" := by rfl) (hg2 : Gl X x := by rfl)
    (hn : x ≠ "__name__" := by decide) (hd : (x == ("__debug__" : Str)) = false := by decide)
    (hs1 : starEach [e, .Name x p2] X.env = (false, eval e X.env) :: starEach [.Name x p2] X.env := by rfl) (hs2 : starEach [.Name x p2] X.env = (false, eval (.Name x p2) X.env) :: starEach [] X.env := by rfl) (hpl : (backTo pos (starEach [.Name x p2] X.env)).any (·.1) = false := by rfl) :
    PE X (.Call (.Name "isinstance" p) [e, .Name x p2] [] pos) (tIsi X.K T te) :=
  show PE X _ (tCB (rIsi X.K) (tCons te (tCons (tC (.ty T)) tNil))) from pe_callB call_isi hg h1 (by decide +kernel) (pa_cons he (pa_cons (pe_bt h2 hv hg2 hn hd) pa_nil hs2) hs1) (by decide) (by decide) hs1 hpl
end
/-- a look at the names of a def's scope -/
theorem sc_of {N P : List Str} {sc : Scope} (h : C8.scC N P sc = true) : FnScope N P sc := C8.fnScope_by h
end K12
namespace K12
open PySem PySem.Spec PyProof.Rows L2
/-- a dict of the top: texts to tuples -/
structure KTab (K : PySem.W.Frag) (w : World) (x : Str) (kvs : List (Str × List V)) : Prop where
  kd : ∃ es n, KDict K w (He.ga K x) es n
  no : ∀ z, kvs.lookup z = none → PySem.W.nsIn K (He.ga K x) z = some none
  yes : ∀ z vs, kvs.lookup z = some vs → ∃ t, PySem.W.nsIn K (He.ga K x) z = some (some (.ref t)) ∧ ∀ H, SqT K H t vs
/-- what the walk asks of the written part -/
structure Tx (w : World) (K : PySem.W.Frag) (mg : Str → Option Value) : Prop where
  f_isinstance : mg "isinstance" = none
  f_str : mg "str" = none
  f_all : mg "all" = none
  f_len : mg "len" = none
  f_enumerate : mg "enumerate" = none
  f_list : mg "list" = none
  f_dict : mg "dict" = none
  f_zip : mg "zip" = none
  f_tuple : mg "tuple" = none
  f_int : mg "int" = none
  f_bool : mg "bool" = none
  f_range : mg "range" = none
  f_abs : mg "abs" = none
  f_max : mg "max" = none
  f_divmod : mg "divmod" = none
  f_min : mg "min" = none
  f_any : mg "any" = none
  f_repr : mg "repr" = none
  f_LookupError : mg "LookupError" = none
  f_RuntimeError : mg "RuntimeError" = none
  f_ArithmeticError : mg "ArithmeticError" = none
  f_ValueError : mg "ValueError" = none
  i_MOST_LETTERS : ∃ t, mg "MOST_LETTERS" = some (.int 8 t)
  i_MOST_NUMBER : ∃ t, mg "MOST_NUMBER" = some (.int 1000 t)
  i_MOST_MANY : ∃ t, mg "MOST_MANY" = some (.int 12 t)
  i_MOST_TICKS : ∃ t, mg "MOST_TICKS" = some (.int 9 t)
  i_MOST_THINGS : ∃ t, mg "MOST_THINGS" = some (.int 10 t)
  i_MOST_TASKS : ∃ t, mg "MOST_TASKS" = some (.int 6 t)
  i_MOST_BODY : ∃ t, mg "MOST_BODY" = some (.int 12 t)
  i_MOST_LAST : ∃ t, mg "MOST_LAST" = some (.int 4 t)
  s_LETTERS : ∃ t, mg "LETTERS" = some (.str "abcdefghijklmnopqrstuvwxyz" t)
  s_TICK : ∃ t, mg "TICK" = some (.str "tick" t)
  s_NUMBER : ∃ t, mg "NUMBER" = some (.str "number" t)
  s_MANY : ∃ t, mg "MANY" = some (.str "many" t)
  s_TICKS : ∃ t, mg "TICKS" = some (.str "ticks" t)
  s_NAME : ∃ t, mg "NAME" = some (.str "name" t)
  s_DEED : ∃ t, mg "DEED" = some (.str "deed" t)
  s_TASK : ∃ t, mg "TASK" = some (.str "task" t)
  s_BELL : ∃ t, mg "BELL" = some (.str "bell" t)
  g_LOCKS : mg "LOCKS" = some (.ref (He.ga K "LOCKS"))
  q_LOCKS : ∀ H, SqT K H (He.ga K "LOCKS") tupLOCKS
  g_LASTS : mg "LASTS" = some (.ref (He.ga K "LASTS"))
  q_LASTS : ∀ H, SqT K H (He.ga K "LASTS") tupLASTS
  g_WITHINS : mg "WITHINS" = some (.ref (He.ga K "WITHINS"))
  q_WITHINS : ∀ H, SqT K H (He.ga K "WITHINS") tupWITHINS
  g_BOUNDS : mg "BOUNDS" = some (.ref (He.ga K "BOUNDS"))
  k_BOUNDS : KTab K w "BOUNDS" tabBOUNDS
  g_PARTS : mg "PARTS" = some (.ref (He.ga K "PARTS"))
  k_PARTS : KTab K w "PARTS" tabPARTS
  g_SIZES : mg "SIZES" = some (.ref (He.ga K "SIZES"))
  k_SIZES : KTab K w "SIZES" tabSIZES
  d__wall : Df K mg "_wall" (top 0)
  d_is_word : Df K mg "is_word" (top 19)
  d_is_name : Df K mg "is_name" (top 20)
  d_is_number : Df K mg "is_number" (top 21)
  d_is_of_kind : Df K mg "is_of_kind" (top 22)
  d_is_part : Df K mg "is_part" (top 23)
  d_is_deed : Df K mg "is_deed" (top 24)
  d_is_last_deed : Df K mg "is_last_deed" (top 25)
  d_who_is : Df K mg "who_is" (top 43)
  d_want_name : Df K mg "want_name" (top 44)
  d_is_kind : Df K mg "is_kind" (top 45)
  d_is_size : Df K mg "is_size" (top 46)
  d_kinds_of : Df K mg "kinds_of" (top 47)
  d_with_tasks : Df K mg "with_tasks" (top 48)
  d_want_deeds : Df K mg "want_deeds" (top 49)
  d__law_pot : Df K mg "_law_pot" (top 52)
  d__law_take : Df K mg "_law_take" (top 53)
  d__law_name : Df K mg "_law_name" (top 54)
  d__law_sorts : Df K mg "_law_sorts" (top 55)
  d__law_thing : Df K mg "_law_thing" (top 56)
  d__law_stuff : Df K mg "_law_stuff" (top 57)
  d__law_part : Df K mg "_law_part" (top 58)
  d__law_has_kind : Df K mg "_law_has_kind" (top 59)
  d__law_are_some : Df K mg "_law_are_some" (top 60)
  d__law_deed : Df K mg "_law_deed" (top 61)
  d__law_deeds : Df K mg "_law_deeds" (top 62)
  d__law_program : Df K mg "_law_program" (top 63)
  d__law_is_name : Df K mg "_law_is_name" (top 64)
  d__law_is_number : Df K mg "_law_is_number" (top 65)
  d__law_is_part : Df K mg "_law_is_part" (top 66)
  d__law_is_deed : Df K mg "_law_is_deed" (top 67)
  d__law_who : Df K mg "_law_who" (top 68)
  d__law_bad_name : Df K mg "_law_bad_name" (top 69)
  d__law_bad_size : Df K mg "_law_bad_size" (top 70)
  d__law_bad_thing : Df K mg "_law_bad_thing" (top 71)
  d__law_bad_task : Df K mg "_law_bad_task" (top 72)
  d__law_bad_deeds : Df K mg "_law_bad_deeds" (top 73)
  d__law_due : Df K mg "_law_due" (top 74)
  d__law_odd : Df K mg "_law_odd" (top 75)
  d__law_in : Df K mg "_law_in" (top 76)
  d__law_odd_thing : Df K mg "_law_odd_thing" (top 77)
  d__law_struck_stuff : Df K mg "_law_struck_stuff" (top 78)
  d__law_struck_deeds : Df K mg "_law_struck_deeds" (top 79)
  d__law_struck_crew : Df K mg "_law_struck_crew" (top 80)
  d__law_answer : Df K mg "_law_answer" (top 81)
  d__law_errors_right : Df K mg "_law_errors_right" (top 82)
  d_law : Df K mg "law" (top 83)

/-! ### built-ins -/
theorem b_all : bootBuiltins "all" = some (.builtin "all") := by decide +kernel
theorem b_any : bootBuiltins "any" = some (.builtin "any") := by decide +kernel
theorem b_len : bootBuiltins "len" = some (.builtin "len") := by decide +kernel
theorem b_abs : bootBuiltins "abs" = some (.builtin "abs") := by decide +kernel
theorem b_max : bootBuiltins "max" = some (.builtin "max") := by decide +kernel
theorem b_min : bootBuiltins "min" = some (.builtin "min") := by decide +kernel
theorem b_divmod : bootBuiltins "divmod" = some (.builtin "divmod") := by decide +kernel
theorem b_repr : bootBuiltins "repr" = some (.builtin "repr") := by decide +kernel
theorem b_str : bootBuiltins "str" = some (.type "str") := by decide +kernel
theorem b_list : bootBuiltins "list" = some (.type "list") := by decide +kernel
theorem b_dict : bootBuiltins "dict" = some (.type "dict") := by decide +kernel
theorem b_tuple : bootBuiltins "tuple" = some (.type "tuple") := by decide +kernel
theorem b_bool : bootBuiltins "bool" = some (.type "bool") := by decide +kernel
theorem b_int : bootBuiltins "int" = some (.type "int") := by decide +kernel

/-! ### a comprehension whose items are known -/
section
variable {J : It} {n : Nat} {G : Hp → Prop} {Y : Nat → Hp → V → Hp → Prop}
theorem lc_detF (w : Walk J n G Y) (t : Nat → Bool) (f : Nat → V) {g : TG} {tt : TT} {te : TE} {vs : List Nat} {σ : L2.St} {H1 : Hp} {D : Addr} {Qd : Hp → Prop} (hD : H1 D = none) (hn : n < sizeLine) (hG : ∀ H, Same H1 H → G H)
    (hs : ∀ (i : Nat) (x : V) (H H' : Hp) (C : V → Hp → Prop) (N : Hp → Prop), i < n → Same H1 H → Y i H x H' → (t i = true → ∀ H4, Same H H4 → C (f i) H4) → (t i = false → ∀ H4, Same H H4 → N H4) →
      g x (wipe σ vs) H' fun σ2 H2 => wipe σ2 vs = wipe σ vs ∧ tt σ2 H2 fun b H3 => if b = true then te σ2 H3 C else N H3)
    (hd : ∀ H, Same H1 H → H D = some (.lst (Evl.given n t f)) → Qd H) :
    ∃ W : Nat → Nat → Hp → Prop, (∃ m, W 0 m (upd H1 D (.lst []))) ∧ ∀ i m H, W i m H →
      (J.stop i H ∧ Qd H) ∨ (J.go i H ∧ ∃ Nx : Hp → Prop, (∀ H', Nx H' → ∃ m', m' < m ∧ W (i + 1) m' H') ∧ ∀ x H', J.yld i H x H' → g x (wipe σ vs) H' fun σ2 H2 => wipe σ2 vs = wipe σ vs ∧ tt σ2 H2 fun b H3 =>
        if b = true then te σ2 H3 fun y H4 => ∃ acc, H4 D = some (.lst acc) ∧ acc.length < sizeLine ∧ Nx (upd H4 D (.lst (acc ++ [y]))) else Nx H3) := by
  refine lc_it w (fun i H => Same H1 H ∧ H D = some (.lst (Evl.given i t f))) ⟨Same.new hD, upd_same⟩ (fun i H _ h => hG H h.1) (fun i x H H' hi hP y => ?_) (fun H h => hd H h.1 h.2)
  refine hs i x H H' _ _ hi hP.1 y (fun ht H4 s4 => ⟨Evl.given i t f, s4 _ _ hP.2, Nat.lt_of_le_of_lt (Evl.given_len i t f) (Nat.lt_trans hi hn), ?_, ?_⟩) (fun ht H4 s4 => ⟨Same.trans hP.1 s4, ?_⟩)
  · exact Same.mut (Same.trans hP.1 s4) hD
  · rw [upd_same, Evl.given_yes ht]
  · rw [Evl.given_no ht]; exact s4 _ _ hP.2
theorem lc_det (w : Walk J n G Y) (f : Nat → V) {g : TG} {te : TE} {vs : List Nat} {σ : L2.St} {H1 : Hp} {D : Addr} {Qd : Hp → Prop} (hD : H1 D = none) (hn : n < sizeLine) (hG : ∀ H, Same H1 H → G H)
    (hs : ∀ (i : Nat) (x : V) (H H' : Hp) (C : V → Hp → Prop), i < n → Same H1 H → Y i H x H' → (∀ H4, Same H H4 → C (f i) H4) → g x (wipe σ vs) H' fun σ2 H2 => wipe σ2 vs = wipe σ vs ∧ te σ2 H2 C)
    (hd : ∀ H, Same H1 H → H D = some (.lst ((List.range n).map f)) → Qd H) :
    ∃ W : Nat → Nat → Hp → Prop, (∃ m, W 0 m (upd H1 D (.lst []))) ∧ ∀ i m H, W i m H →
      (J.stop i H ∧ Qd H) ∨ (J.go i H ∧ ∃ Nx : Hp → Prop, (∀ H', Nx H' → ∃ m', m' < m ∧ W (i + 1) m' H') ∧ ∀ x H', J.yld i H x H' → g x (wipe σ vs) H' fun σ2 H2 => wipe σ2 vs = wipe σ vs ∧ tYes σ2 H2 fun b H3 =>
        if b = true then te σ2 H3 fun y H4 => ∃ acc, H4 D = some (.lst acc) ∧ acc.length < sizeLine ∧ Nx (upd H4 D (.lst (acc ++ [y]))) else Nx H3) := by
  refine lc_it w (fun i H => Same H1 H ∧ H D = some (.lst ((List.range i).map f))) ⟨Same.new hD, upd_same⟩ (fun i H _ h => hG H h.1) (fun i x H H' hi hP y => ?_) (fun H h => hd H h.1 h.2)
  simp only [tYes, if_true]
  refine hs i x H H' _ hi hP.1 y (fun H4 s4 => ⟨(List.range i).map f, s4 _ _ hP.2, by simp; exact Nat.lt_trans hi hn, ?_, ?_⟩)
  · exact Same.mut (Same.trans hP.1 s4) hD
  · rw [upd_same, List.range_succ, List.map_append]; rfl
end
theorem given_all (n : Nat) (f : Nat → V) : Evl.given n (fun _ => true) f = (List.range n).map f := by
  unfold Evl.given
  rw [List.filter_eq_self.mpr (fun _ _ => rfl)]
/-- .. over a list of any kind -/
theorem given_map {α : Type} (l : List α) (f : α → V) (d : V) : Evl.given l.length (fun _ => true) (fun i => ((l[i]?).map f).getD d) = l.map f := by
  rw [given_all]
  apply List.ext_getElem
  · simp
  · intro i h1 h2
    have : i < l.length := by simpa using h2
    simp [this]
end K12
namespace PySem.K12X
open PySem PySem.W PySem.Calls PyProof.Rows Builtin Builtin.ObjectAttr
section
variable {prog : Program} {w : World} {A : Around} {E : Value → Shared → Prop} {R : Result → Shared → Prop} {hp : Heap} {g : Array GenState} {d : Drawn} {t : Nat} {os : OsState} {B : String} {bmB : List Value}
/-- the first field of an exception of an own class over B -/
theorem osa_nw {K : W.Frag} {name : Str} {tk : Tok} {v : Value} {x C : Addr} {fv : Array Value} (SF : StoreFacts B bmB "object.__setattr__" "object")
    (X : K.In hp) (hx : hp.get? x = some { cls := .ref C, data := .fields fv }) (hov : excOver K C bmB = true) (hh : W.hasDictIn K C = true) (ha : W.findIn K (.ref C) name = some none)
    (hq : ∀ h' tk' dx, (∀ b o, b ≠ x → hp.get? b = some o → h'.get? b = some o) → hp.objs.size ≤ dx → dx ≠ x → h'.get? x = some { cls := .ref C, dict := some dx, data := .fields fv } →
      h'.Ns1 dx (fun y => if y = name then some v else none) → R (.ok (.ret .none)) ⟨h', g, d, tk', os⟩) :
    codeAny (model prog w) A (.call (.builtin "object.__setattr__") ⟨[.ref x, .str name tk, v], []⟩) R ⟨hp, g, d, t, os⟩ := by
  have I : W.InstAt hp x { cls := .ref C, data := .fields fv } C none := ⟨hx, rfl, rfl, trivial⟩
  have hxs : x ≠ hp.objs.size := Nat.ne_of_lt (Heap.lt_size hx)
  have ht : W.takerIn K C name = some none := by unfold W.takerIn; rw [ha]; rfl
  refine W.osa_openX (s := ⟨hp, g, d, t, os⟩) SF X I hov ht fun b => ?_
  obtain ⟨cd, hcd, hd⟩ := W.any_some hh
  have hcls : W.Looks (model prog w) hp (classData C) cd := W.looks_clsIn X hcd
  obtain ⟨nm, bs, mro, ns, qn, hd', sn, sb, ab, col, del⟩ := cd
  dsimp only at hd
  subst hd
  show wpAny _ _ (storeInOwnDict (.ref x) (.ref C) (.str name tk) name v b) _ _ _
  unfold storeInOwnDict ownDictForStores
  repeat (first | with_reducible refine HandSPX.store_in_new ?_ ?_ | with_reducible refine wpAny_loadPart_at hx ?_ | with_reducible refine hcls.at ?_ | wp_step)
  · exact ⟨_, #[], _, (Heap.get?_update_ne _ _ _ _ hxs.symm).trans (Heap.get?_push_at rfl rfl), rfl, fun e he => absurd he (by simp), fun _ => rfl⟩
  · intro h' tk' hn' hs
    have hx₁ : (hp.push { cls := .type "dict", data := .dict #[] }).get? x = some { cls := .ref C, data := .fields fv } := Heap.get?_push_of_some _ hx
    refine hq h' tk' hp.objs.size (fun b o hb ho => ?_) (Nat.le_refl _) hxs.symm ?_ hn'
    · exact (hs.2 b (Nat.ne_of_lt (Heap.lt_size ho))).trans ((Heap.get?_update_ne _ _ _ _ hb).trans (Heap.get?_push_of_some _ ho))
    · exact (hs.2 x hxs).trans (Heap.get?_update_self _ hx₁ rfl)
/-- a further one -/
theorem osa_od {K : W.Frag} {name : Str} {tk : Tok} {v : Value} {x C dx : Addr} {fv : Array Value} {m0 : Str → Option Value} {nl : List Str} (SF : StoreFacts B bmB "object.__setattr__" "object")
    (X : K.In hp) (hx : hp.get? x = some { cls := .ref C, dict := some dx, data := .fields fv }) (hns : hp.Ns1 dx m0) (hw : Within m0 nl) (hz : nl.length ≤ 1000) (hov : excOver K C bmB = true) (hh : W.hasDictIn K C = true)
    (ha : W.findIn K (.ref C) name = some none)
    (hq : ∀ h' tk', (∀ b o, b ≠ dx → hp.get? b = some o → h'.get? b = some o) → h'.Ns1 dx (fun y => if y = name then some v else m0 y) → R (.ok (.ret .none)) ⟨h', g, d, tk', os⟩) :
    codeAny (model prog w) A (.call (.builtin "object.__setattr__") ⟨[.ref x, .str name tk, v], []⟩) R ⟨hp, g, d, t, os⟩ := by
  obtain ⟨oD, esD, epD, hoD, hdD, _⟩ := hns.count hw
  have I : W.InstAt hp x { cls := .ref C, dict := some dx, data := .fields fv } C (some oD) := ⟨hx, rfl, rfl, hoD⟩
  have ht : W.takerIn K C name = some none := by unfold W.takerIn; rw [ha]; rfl
  refine W.osa_openX (s := ⟨hp, g, d, t, os⟩) SF X I hov ht fun b => ?_
  obtain ⟨cd, hcd, hd⟩ := W.any_some hh
  have hcls : W.Looks (model prog w) hp (classData C) cd := W.looks_clsIn X hcd
  obtain ⟨nm, bs, mro, ns, qn, hd', sn, sb, ab, col, del⟩ := cd
  dsimp only at hd
  subst hd
  show wpAny _ _ (storeInOwnDict (.ref x) (.ref C) (.str name tk) name v b) _ _ _
  unfold storeInOwnDict ownDictForStores
  repeat (first | with_reducible refine OEX.store_in_old hns hw hz ?_ | with_reducible refine wpAny_loadPart_at hx ?_ | with_reducible refine hcls.at ?_ | wp_step)
  intro h' tk' hn' hs
  exact hq h' tk' (fun b o hb ho => (hs.2 b hb).trans ho) hn'
end
end PySem.K12X
namespace K12
open PySem PySem.Spec PyProof.Rows L2
/-- what the written part says of an own exception class at C, whose maker is newId, whose base's __init__ is initId -/
structure OxK (K : PySem.W.Frag) (C : Addr) (newId initId : String) : Prop where
  ex : ∃ (B : String) (bmB : List Value), ExcBaseFacts B newId initId bmB ∧ StoreFacts B bmB "object.__setattr__" "object" ∧ PySem.W.excInitIn K C bmB newId = true ∧ PySem.W.excOver K C bmB = true
  sa : PySem.W.findIn K (.ref C) "__setattr__" = some (some (.builtin "object.__setattr__"))
  hd : PySem.W.hasDictIn K C = true
  exC : PySem.W.subIn K (.ref C) (.type "BaseException") = some true
  tyC : PySem.W.typeIn K (.ref C) = some (.type "type")
  kC : PySem.W.keepIn K (.ref C) = true
  ga : PySem.W.findIn K (.ref C) "__getattribute__" = some (some (.builtin "BaseException.__getattribute__"))
  gg : PySem.W.findIn K (.ref C) "__getattr__" = some none
  ca : PySem.W.findIn K (.ref C) "__class__" = some (some (.builtin "object.__class__"))
  cg : PySem.W.specialIn K (.builtin "object.__class__") "__get__" = some (some (.builtin "getset_descriptor.__get__"))
  ct : PySem.W.takesIn K (.builtin "object.__class__") = some true
  cm : PySem.W.mroIn K C (.type "object") = some true
section
variable {X : Cx} {pins : List (Addr × Obj)} {σ : L2.St} {H : Hp} {s : Shared} {a C dx : Addr} {f : Str} {y : V} {u : Value} {fs : List (Str × V)} {Q : Unit → Shared → Prop} {E : Value → Shared → Prop} {A : Around} {newId initId : String}
/-- self.f = y, the first one -/
theorem ox_new (T : OxK X.K C newId initId) (I : Inv X pins σ H s) (e : H a = some (exo a C none)) (hno : PySem.W.findIn X.K (.ref C) f = some none) (ry : RelV y u)
    (h : ∀ dx s', H dx = none → dx ≠ a → Inv X pins σ (upd (upd H dx (exd dx [(f, y)])) a (exo a C (some dx))) s' → Q () s') : wpAny (model X.prog X.w) A (setAttr (.ref a) f u) Q E s := by
  obtain ⟨B, bmB, FB, SF, hq, hov⟩ := T.ex
  obtain ⟨t1, ho⟩ := exo_at I.hok e
  obtain ⟨hp, g, d, t, os⟩ := s
  refine PySem.W.set_plain I.kIn (ox := { cls := .ref C, dict := none, data := .fields #[.ref t1, .none, .none, .none, .bool false, .none] }) (od := none) ⟨ho, rfl, rfl, trivial⟩ T.sa ?_
  refine PySem.K12X.osa_nw SF I.kIn ho hov T.hd hno (fun h' tk' dx k dn dne hx hn => ?_)
  have hnd : H dx = none := I.hok.fresh dn
  have nd : ∀ {b : Addr} {o : Obj}, hp.get? b = some o → b ≠ dx := fun {b o} q => Nat.ne_of_lt (Nat.lt_of_lt_of_le (Heap.lt_size q) dn)
  have na : ∀ {b : Addr}, H b = none → b ≠ a := fun {b} n z => by
    rw [z, e] at n
    cases n
  have Un1 : Un X.fs [] H (upd (upd H dx (exd dx [(f, y)])) a (exo a C (some dx))) hp h' := {
    keep := fun b o q n _ _ => k b o (na n) q
    slot := fun b o q n _ _ => ⟨o.slots, k b o (na n) q⟩
    free := fun b o q n _ => by rw [upd_ne (na n), upd_ne (nd q)]; exact n
    there := fun b o q _ => by
      by_cases hb : b = a
      · exact ⟨_, by rw [hb]; exact hx⟩
      · exact ⟨o, k b o hb q⟩
    tups := fun b xs q => by rw [upd_ne (at_ne e q exo_tup), upd_ne (ne_of_none q hnd)]; exact q
    frzs := fun b o v q => by rw [upd_ne (at_ne e q exo_frz), upd_ne (ne_of_none q hnd)]; exact q
    tbls := fun b ps q => ⟨#[], by rw [upd_ne (at_ne e q exo_tbl), upd_ne (ne_of_none q hnd), q]; simp⟩ }
  refine h dx _ hnd dne (I.un (t' := tk') Un1 fun b o q => ?_)
  by_cases hb : b = a
  · subst hb
    rw [upd_same] at q
    cases q
    exact exo_ok hx
  · rw [upd_ne hb] at q
    by_cases hd : b = dx
    · subst hd
      rw [upd_same] at q
      cases q
      exact exd_ok hn (relO_put (fs := []) ry fun g => True.intro)
    · rw [upd_ne hd] at q
      exact (I.hok b o q).stay (fun c v hc z => k c v (by
          rcases hc with hc | hc
          · rw [hc]
            exact hb
          · exact at_ne e hc exo_own) z)
        (fun c hc => by rw [upd_ne (at_ne e hc exo_own), upd_ne (ne_of_none hc hnd)]; exact hc) (fun c xs hc => by rw [upd_ne (at_ne e hc exo_tup), upd_ne (ne_of_none hc hnd)]; exact hc)
/-- self.f = y, a further one -/
theorem ox_old (T : OxK X.K C newId initId) (I : Inv X pins σ H s) (e : H a = some (exo a C (some dx))) (ed : H dx = some (exd dx fs)) (hl : fs.length ≤ 900) (hno : PySem.W.findIn X.K (.ref C) f = some none) (ry : RelV y u)
    (h : ∀ s', Inv X pins σ (upd H dx (exd dx ((f, y) :: fs))) s' → Q () s') : wpAny (model X.prog X.w) A (setAttr (.ref a) f u) Q E s := by
  obtain ⟨B, bmB, FB, SF, hq, hov⟩ := T.ex
  obtain ⟨t1, ho⟩ := exo_at I.hok e
  obtain ⟨mA, hns, rel⟩ := exd_at I.hok ed
  have hw := within_of rel
  obtain ⟨hp, g, d, t, os⟩ := s
  obtain ⟨oD, _, _, hoD, _, _⟩ := hns.count hw
  refine PySem.W.set_plain I.kIn (ox := { cls := .ref C, dict := some dx, data := .fields #[.ref t1, .none, .none, .none, .bool false, .none] }) (od := some oD) ⟨ho, rfl, rfl, hoD⟩ T.sa ?_
  refine PySem.K12X.osa_od SF I.kIn ho hns hw (by rw [List.length_map]; omega) hov T.hd hno (fun h' tk' k hn => ?_)
  have hd : ∃ o, h'.get? dx = some o := by
    obtain ⟨o, _, _, e', _⟩ := hn
    exact ⟨o, e'⟩
  exact h _ (I.write (t' := tk') (x := dx) (e := dx) (o := exd dx ((f, y) :: fs)) (by rw [ed]; exact True.intro) (.inl rfl) k hd (exd_ok hn (relO_put ry rel)))
/-- the base's __init__(self, ..): nothing of it is told -/
theorem ox_init {us : List Value} {Q : Value → Shared → Prop} (T : OxK X.K C newId initId) (I : Inv X pins σ H s) (e : H a = some (exo a C none)) (hl : us.length ≤ sizeLine) (h : ∀ s', Inv X pins σ H s' → Q .none s') :
    wpAny (model X.prog X.w) A (call (.builtin initId) (.ref a :: us)) Q E s := by
  obtain ⟨B, bmB, FB, SF, hq, hov⟩ := T.ex
  obtain ⟨nm, N, qn, bs, bm, hdct, sn, sub, ab, col, dd, k0, k1, k2, k3, k5, hC, hT⟩ := PySem.W.excInit_of I.kIn hq
  obtain ⟨t1, ho⟩ := exo_at I.hok e
  obtain ⟨hp, g, d, t, os⟩ := s
  refine wpAny_call (PySem.HandSPX.init_base FB hT hC ho hl fun h' t2 k hx => ?_)
  have J := I.write (t' := t) (x := a) (e := a) (o := exo a C none) (by rw [e]; exact True.intro) (.inl rfl) k ⟨_, hx⟩ (exo_ok hx)
  have eu : upd H a (exo a C none) = H := by
    funext b
    by_cases hb : b = a
    · rw [hb, upd_same, e]
    · rw [upd_ne hb]
  rw [eu] at J
  exact h _ J
end
/-- N.__init__(self, ..), whose rule is initId -/
def tIni (K : PySem.W.Frag) (initId : String) (ta : TA) : TE := fun σ H Q => ta σ H fun vs H1 => ∃ (a C : Addr) (nw : String) (ws : List V), vs = .ref a :: ws ∧ ws.length ≤ 1000 ∧ OxK K C nw initId ∧ H1 a = some (exo a C none) ∧ Q .non H1
/-- self.f = e -/
def tOx (K : PySem.W.Frag) (f : Str) (to te : TE) : TS := fun D σ H => te σ H fun y H1 => to σ H1 fun x H2 => ∃ (a C : Addr) (nw ni : String), x = .ref a ∧ OxK K C nw ni ∧ PySem.W.findIn K (.ref C) f = some none ∧
  ((H2 a = some (exo a C none) ∧ ∀ dx, H2 dx = none → dx ≠ a → D.nx σ (upd (upd H2 dx (exd dx [(f, y)])) a (exo a C (some dx)))) ∨
    ∃ (dx : Addr) (fs : List (Str × V)), H2 a = some (exo a C (some dx)) ∧ H2 dx = some (exd dx fs) ∧ fs.length ≤ 900 ∧ D.nx σ (upd H2 dx (exd dx ((f, y) :: fs))))
section
variable {X : Cx} {o e : Expr} {es : List Expr} {to te : TE} {ta : TA} {f x : Str} {p p' p1 p2 pos : Pos}
/-- what is called, once it is there -/
theorem ini_end {initId : String} {pins : List (Addr × Obj)} {σ : L2.St} {H : Hp} {s : Shared} {Q : VK} (I : Inv X pins σ H s) (ha : PA X (e :: es) ta) (h : tIni X.K initId ta σ H Q)
    (he : starEach (e :: es) X.env = (false, eval e X.env) :: starEach es X.env) (hpl : (backTo pos (starEach es X.env)).any (·.1) = false) :
    wpAny (model X.prog X.w) X.A (callWith pos (Value.builtin initId) [] (backTo pos (starEach (e :: es) X.env)) []) (EP X pins σ Q) X.xe s := by
  refine PyProof.Rows.callWith_method1 (thn (ha.run pos pins _ σ H _ I h) fun us s1 ⟨vs, H1, I1, r1, a, C, nw, ws, ev, hl, T, ea, q⟩ => ?_) he hpl
  subst ev
  cases r1 with
  | @cons _ u0 _ ur ra rw' =>
    obtain rfl : u0 = Value.ref a := ra
    have hlen : ur.length ≤ sizeLine := by
      rw [← Paired.length rw', sizeLine_eq]
      omega
    exact ox_init T I1 ea hlen fun s' J => ⟨.non, H1, J, rfl, q⟩
/-- .. of a built-in class -/
theorem pe_iniT {T initId : String} {pl : Sem Bool} (hm : X.mg x = none) (hv : bootBuiltins x = some (.type T)) (ht : typeOf (.type T) = pure (.type "type")) (hs : Manifest.isStub T = false)
    (vV : PySem.W.findCls X.K (.type T) (.type "type") "__init__" = some (.val (.builtin initId))) (hh : PySem.W.handedIn (.builtin initId) = true) (ha : PA X (e :: es) ta) (hg : Gl X x := by rfl) (hn : x ≠ "__name__" := by decide) (hdb : (x == ("__debug__" : Str)) = false := by decide)
    (hc : eval (.Call (.Attribute (.Name x p1) "__init__" p2) (e :: es) [] pos) X.env = (do
      let ov ← eval (.Name x p1) X.env
      standAt p2.atName
      let (f, first) ← holding [ov] (getMethod ov "__init__" pl)
      callWith pos f first (backTo pos (starEach (e :: es) X.env)) (backToKw pos (keywordEach [] X.env))) := by rfl)
    (he : starEach (e :: es) X.env = (false, eval e X.env) :: starEach es X.env := by rfl) (hpl : (backTo pos (starEach es X.env)).any (·.1) = false := by rfl) :
    PE X (.Call (.Attribute (.Name x p1) "__init__" p2) (e :: es) [] pos) (tIni X.K initId ta) := by
  refine ⟨fun pins s σ H Q I h => ?_⟩
  refine PySem.W.methodCall_KW (ld_blt I hg hm hv ?_ hn hdb) hc
  obtain ⟨m, fr⟩ := I.fr
  refine PySem.W.method_type fr I.ok.mod.kin ht hs vV hh ?_
  show wpAny _ _ (callWith pos (Value.builtin initId) [] (backTo pos (starEach (e :: es) X.env)) []) _ _ _
  exact ini_end (I.tok _) ha h he hpl
/-- .. of an own class that has none of its own -/
theorem pe_iniC {W : Addr} {initId : String} {pl : Sem Bool} (hm : X.mg x = some (.ref W)) (hsp : PySem.W.specialIn X.K (.ref W) "__getattribute__" = some (some (.builtin "type.__getattribute__")))
    (hr : PySem.W.readsIn X.K W (.type "type") = true) (vV : PySem.W.findCls X.K (.ref W) (.type "type") "__init__" = some (.val (.builtin initId))) (hh : PySem.W.handedIn (.builtin initId) = true) (ha : PA X (e :: es) ta) (hg : Gl X x := by rfl) (hdb : (x == ("__debug__" : Str)) = false := by decide)
    (hc : eval (.Call (.Attribute (.Name x p1) "__init__" p2) (e :: es) [] pos) X.env = (do
      let ov ← eval (.Name x p1) X.env
      standAt p2.atName
      let (f, first) ← holding [ov] (getMethod ov "__init__" pl)
      callWith pos f first (backTo pos (starEach (e :: es) X.env)) (backToKw pos (keywordEach [] X.env))) := by rfl)
    (he : starEach (e :: es) X.env = (false, eval e X.env) :: starEach es X.env := by rfl) (hpl : (backTo pos (starEach es X.env)).any (·.1) = false := by rfl) :
    PE X (.Call (.Attribute (.Name x p1) "__init__" p2) (e :: es) [] pos) (tIni X.K initId ta) := by
  refine ⟨fun pins s σ H Q I h => ?_⟩
  refine PySem.W.methodCall_KW (ld_glob I hg hm ?_ hdb) hc
  refine PySem.W.method_cls I.kIn hsp (PySem.W.cls_value I.kIn hr vV hh ?_)
  show wpAny _ _ (callWith pos (Value.builtin initId) [] (backTo pos (starEach (e :: es) X.env)) []) _ _ _
  exact ini_end (I.tok _) ha h he hpl
theorem ps_ox (ho : PE X o to) (he : PE X e te) (hs : swapsWith e (some (.Attribute o f p')) pos.line X.env = pure false := by rfl) : PS X (.Assign [.Attribute o f p'] e pos) (tOx X.K f to te) := by
  refine ⟨fun pins s σ H D I h => ?_⟩
  refine plainObj_wpAny_Assign_Attribute (thn (he.run pins s σ H _ I h) fun v s1 ⟨y, H1, I1, r1, q1⟩ => thn (ho.run pins s1 σ H1 _ I1 q1) fun u s2 ⟨x, H2, I2, r2, a, C, nw, ni, ex, T, hno, q⟩ => ?_) hs
  subst ex
  obtain rfl : u = Value.ref a := r2
  rcases q with ⟨ea, q⟩ | ⟨dx, fs, ea, ed, hl, q⟩
  · exact ox_new T I2 ea hno r1 fun dx s' n ne J => ⟨σ, _, J, q dx n ne⟩
  · exact ox_old T I2 ea ed hl hno r1 fun s' J => ⟨σ, _, J, q⟩
end
/-- C(e, ..) as a value, C an own exception class whose __init__ keeps sp: the exception at a, its fields at d -/
def tOxV (C : Addr) (sp : Sp) (ta : TA) : TE := fun σ H Q => ta σ H fun vs H1 => vs.length ≤ 1000 ∧ ∀ a, H1 a = none → sp (.ref a :: vs) (upd H1 a (exo a C none)) (fun v H2 => v = .non ∧ Q (.ref a) H2) (fun _ _ _ => False)
section
variable {X : Cx} {o e : Expr} {es : List Expr} {to te : TE} {ta : TA} {f : Str} {p p' p1 p2 pos : Pos}
theorem ox_call {CX : CXT} {C fI : Addr} {k : Nat} {fd : FuncData} {ps : List Str} {sp : Sp} {nw ni : String} {pins : List (Addr × Obj)} {σ : L2.St} {H1 : Hp} {s1 : Shared} {us : List Value} {vs : List V} {QV : VK} {R : Value → Shared → Prop} (T : OxK X.K C nw ni)
    (iC : PySem.W.findIn X.K (.ref C) "__init__" = some (some (.ref fI))) (tI : PySem.W.typeIn X.K (.ref fI) = some (.type "function")) (F1 : FnOk X.prog X.w X.K X.mg X.base CX k fI fd ps sp) (hr : Room (k + 1) X.A) (hb : Binds X.K fd ps [])
    (hx : Passes CX X (fun _ _ _ => False)) (I1 : Inv X pins σ H1 s1) (r1 : Vals vs us) (hz : vs.length ≤ 1000)
    (q1 : ∀ a, H1 a = none → sp (.ref a :: vs) (upd H1 a (exo a C none)) (fun v H2 => v = .non ∧ QV (.ref a) H2) (fun _ _ _ => False))
    (fin : ∀ (a : Addr) (hp2 : Heap) (g2 : Array GenState) (d2 : Drawn) (t2 : Nat) (h2 : Heap) (H2 : Hp), s1.heap.objs.size ≤ a → (∀ b o, s1.heap.get? b = some o → hp2.get? b = some o) → Inv X pins σ (upd H1 a (exo a C none)) { s1 with heap := hp2 } →
      Un (frs X.stack) [] (upd H1 a (exo a C none)) H2 hp2 h2 → HOk X.prog X.w H2 h2 → AllBare g2 → QV (.ref a) H2 → R (.ref a) ⟨h2, g2, d2, t2, s1.os⟩) :
    wpAny (model X.prog X.w) X.A (call (.ref C) us) R X.xe s1 := by
  obtain ⟨B, bmB, FB, SF, hq, hov⟩ := T.ex
  obtain ⟨nm, N, qn, bs, bm, hdct, sn, sub, ab, col, dd, k0, k1, k2, k3, k5, hC, hT⟩ := PySem.W.excInit_of I1.kIn hq
  obtain ⟨hp, g, dr, tk, os⟩ := s1
  have hsz : hp.objs.size ≤ hp.objs.size + 1 := Nat.le_succ _
  have hn : H1 (hp.objs.size + 1) = none := I1.hok.fresh hsz
  have hq1 := q1 (hp.objs.size + 1) hn
  have kk : ∀ b o, hp.get? b = some o → ((hp.push (PySem.W.kdv_tup us)).push (PySem.HandSPX.excO C hp.objs.size)).get? b = some o := fun b o e => Heap.get?_push_of_some _ (Heap.get?_push_of_some _ e)
  have hget : ((hp.push (PySem.W.kdv_tup us)).push (PySem.HandSPX.excO C hp.objs.size)).get? (hp.objs.size + 1) = some (PySem.HandSPX.excO C hp.objs.size) := by heap_get
  have I2 : Inv X pins σ (upd H1 (hp.objs.size + 1) (exo (hp.objs.size + 1) C none)) ⟨(hp.push (PySem.W.kdv_tup us)).push (PySem.HandSPX.excO C hp.objs.size), g, dr, tk, os⟩ :=
    I1.laid (t' := tk) (a := hp.objs.size + 1) (o := exo (hp.objs.size + 1) C none) (h' := (hp.push (PySem.W.kdv_tup us)).push (PySem.HandSPX.excO C hp.objs.size)) kk hsz (exo_ok hget)
  have r2 : Vals (V.ref (hp.objs.size + 1) :: vs) (Value.ref (hp.objs.size + 1) :: us) := .cons rfl r1
  have hl : (Value.ref (hp.objs.size + 1) :: us ++ []).length = ps.length := by
    have e := r2.length
    rw [F1.len _ _ _ _ hq1] at e
    rw [List.append_nil]
    exact e.symm
  have hus : us.length ≤ sizeLine := by
    rw [← Paired.length r1, sizeLine_eq]
    omega
  have hb' := hb ⟨(hp.push (PySem.W.kdv_tup us)).push (PySem.HandSPX.excO C hp.objs.size), g, dr, tk, os⟩ (Value.ref (hp.objs.size + 1) :: us) I2.kIn hl
  rw [List.append_nil] at hb'
  refine wpAny_call (PySem.HandSPX.call_own FB hT hC (PySem.W.looks_findIn I1.kIn iC) (fun self => PySem.W.bind_fn I1.kIn self tI) hus
    (codeAny_mono (F1.run _ X.stack _ _ ⟨Value.ref (hp.objs.size + 1) :: us, []⟩ (Value.ref (hp.objs.size + 1) :: us) _ _ (fun _ _ _ => False) (hr.make C us []) (I2.env0.make C us []) hb' r2 hq1) fun r s' hq' => ?_))
  cases r with
  | error er => exact hx pins σ _ _ er s' I2 hq'
  | ok fl =>
    cases fl with
    | ret u =>
      obtain ⟨v, H2, os2, bare2, un2, hok2, rv, ev, q2⟩ := hq'
      subst ev
      obtain ⟨h2, g2, d2, t2, os'⟩ := s'
      obtain rfl : os' = os := os2
      exact ⟨rv, fin (hp.objs.size + 1) _ g2 d2 t2 h2 H2 hsz kk I2 un2 hok2 bare2 q2⟩
    | next => exact False.elim hq'
    | brk => exact False.elim hq'
    | cont => exact False.elim hq'
/-- as a value -/
theorem pe_oxV {CX : CXT} {x : Str} {C fI : Addr} {k : Nat} {fd : FuncData} {ps : List Str} {sp : Sp} {nw ni : String} (T : OxK X.K C nw ni) (iC : PySem.W.findIn X.K (.ref C) "__init__" = some (some (.ref fI))) (tI : PySem.W.typeIn X.K (.ref fI) = some (.type "function"))
    (F1 : FnOk X.prog X.w X.K X.mg X.base CX k fI fd ps sp) (hr : Room (k + 1) X.A) (hb : Binds X.K fd ps []) (hx : Passes CX X (fun _ _ _ => False)) (hm : X.mg x = some (.ref C)) (ha : PA X (e :: es) ta) (hg : Gl X x := by rfl)
    (hdb : (x == ("__debug__" : Str)) = false := by decide) (he : starEach (e :: es) X.env = (false, eval e X.env) :: starEach es X.env := by rfl) (hpl : (backTo pos (starEach es X.env)).any (·.1) = false := by rfl) :
    PE X (.Call (.Name x p) (e :: es) [] pos) (tOxV C sp ta) := by
  refine ⟨fun pins s σ H Q I h => ?_⟩
  refine wpAny_Call_Name_kw (ld_glob I hg hm ?_ hdb)
  refine PySem.W.callWith_K (h₀ := X.base) I.ok.mod.kin T.kC (thn (ha.run pos pins s σ H _ I h) fun us s1 ⟨vs, H1, I1, r1, hz, q1⟩ => ⟨I1.kIn, ?_⟩) he hpl
  show wpAny _ _ (call (.ref C) us) _ _ _
  refine ox_call T iC tI F1 hr hb hx I1 r1 hz q1 fun a hp2 g2 d2 t2 h2 H2 hsz kk I2 un2 hok2 bare2 q2 => ?_
  obtain ⟨hp, g, dr, tk, os⟩ := s1
  exact ⟨.ref a, H2, I2.call' (s' := ⟨h2, g2, d2, t2, os⟩) (ch := []) rfl un2 hok2 bare2 (fun b z => absurd z (by simp)), rfl, q2⟩
/-- raise C(e, ..) -/
theorem pmk_ox {CX : CXT} {x : Str} {C fI : Addr} {k : Nat} {fd : FuncData} {ps : List Str} {sp : Sp} {nw ni : String} (T : OxK X.K C nw ni) (iC : PySem.W.findIn X.K (.ref C) "__init__" = some (some (.ref fI))) (tI : PySem.W.typeIn X.K (.ref fI) = some (.type "function"))
    (F1 : FnOk X.prog X.w X.K X.mg X.base CX k fI fd ps sp) (hr : Room (k + 1) X.A) (hb : Binds X.K fd ps []) (hx : Passes CX X (fun _ _ _ => False)) (hm : X.mg x = some (.ref C)) (ha : PA X (e :: es) ta) (hg : Gl X x := by rfl)
    (hdb : (x == ("__debug__" : Str)) = false := by decide) (he : starEach (e :: es) X.env = (false, eval e X.env) :: starEach es X.env := by rfl) (hpl : (backTo pos (starEach es X.env)).any (·.1) = false := by rfl) :
    PMk X (.Call (.Name x p) (e :: es) [] pos) (tMkO C sp [] ta) := by
  intro pins s σ H Q I h
  refine wpAny_Call_Name_kw (ld_glob I hg hm ?_ hdb)
  refine PySem.W.callWith_K (h₀ := X.base) I.ok.mod.kin T.kC (thn (ha.run pos pins s σ H _ I h) fun us s1 ⟨vs, H1, I1, r1, hz, q1⟩ => ⟨I1.kIn, ?_⟩) he hpl
  show wpAny _ _ (call (.ref C) us) _ _ _
  simp only [List.append_nil] at q1
  refine ox_call (QV := fun v H2 => match v with
    | .ref a => ∃ (d : Addr) (fs : List (Str × V)), H2 a = some (exo a C (some d)) ∧ H2 d = some (exd d fs) ∧ H1 d = none ∧ Q (.ref C) (some d) (upd (del H2 a) d (.xd fs))
    | _ => False) T iC tI F1 hr hb hx I1 r1 hz (fun a ha' => q1 a ha') ?_
  intro a hp2 g2 d2 t2 h2 H2 hsz kk I2 un2 hok2 bare2 ⟨d, fs, ea, ed, hd1, q2⟩
  obtain ⟨hp, g, dr, tk, os⟩ := s1
  exact mk_end (raises_own T.exC T.tyC) I1 hsz kk un2 hok2 rfl bare2 ea ed hd1 q2
end
end K12
namespace K12
open PySem PySem.Spec PyProof.Rows L2
/-- e stands as an exception of the class at C: made by the rules of this file, or without fields -/
def IsEx (H : Hp) (a C : Addr) : Prop := H a = some (exo a C none) ∨ (∃ dx fs, H a = some (exo a C (some dx)) ∧ H dx = some (exd dx fs)) ∨ H a = some (ExO (.ref C) a)
theorem IsEx.inst {X : Cx} {pins : List (Addr × Obj)} {σ : L2.St} {H : Hp} {s : Shared} {a C : Addr} (I : Inv X pins σ H s) (h : IsEx H a C) : ∃ ox od, PySem.W.InstAt s.heap a ox C od := by
  rcases h with h | ⟨dx, fs, h, hd⟩ | h
  · obtain ⟨t1, ho⟩ := exo_at I.hok h
    exact ⟨_, none, ho, rfl, rfl, trivial⟩
  · obtain ⟨t1, ho⟩ := exo_at I.hok h
    obtain ⟨mA, ⟨o, es, ep, e, _⟩, _⟩ := exd_at I.hok hd
    exact ⟨_, some o, ho, rfl, rfl, e⟩
  · obtain ⟨⟨oe, vs, ho, hz, hd, _⟩, _, _⟩ := I.hok a _ h
    obtain ⟨oc, od, oda, osl⟩ := oe
    obtain ⟨h1, h2⟩ := hz
    dsimp only at h1 h2 hd
    subst h1 h2 hd
    exact ⟨_, none, ho, rfl, rfl, trivial⟩
/-- what isinstance asks of the class -/
structure IxK (K : PySem.W.Frag) (C : Addr) : Prop where
  hd : PySem.W.hasDictIn K C = true
  exC : PySem.W.subIn K (.ref C) (.type "BaseException") = some true
  ga : PySem.W.findIn K (.ref C) "__getattribute__" = some (some (.builtin "BaseException.__getattribute__"))
  gg : PySem.W.findIn K (.ref C) "__getattr__" = some none
  ca : PySem.W.findIn K (.ref C) "__class__" = some (some (.builtin "object.__class__"))
  cg : PySem.W.specialIn K (.builtin "object.__class__") "__get__" = some (some (.builtin "getset_descriptor.__get__"))
  ct : PySem.W.takesIn K (.builtin "object.__class__") = some true
  cm : PySem.W.mroIn K C (.type "object") = some true
theorem OxK.ix {K : PySem.W.Frag} {C : Addr} {nw ni : String} (T : OxK K C nw ni) : IxK K C := ⟨T.hd, T.exC, T.ga, T.gg, T.ca, T.cg, T.ct, T.cm⟩
theorem IxK.kit {K : PySem.W.Frag} {C x : Addr} {ox : Obj} {od : Option Obj} (T : IxK K C) : PySem.W.KitX K (.ref x) (.ref C) (fun h => PySem.W.InstAt h x ox C od) := by
  obtain ⟨cd, hc, _⟩ := PySem.W.any_some T.hd
  exact PySem.W.kitx_exc (by rw [hc]; rfl) T.ga T.gg T.exC T.ca T.cg T.ct T.cm
/-- isinstance(e, c), e a tracked exception -/
def rIsO (K : PySem.W.Frag) : List V → Hp → VK → Prop := fun xs H Q => ∃ (a C : Addr) (c : V) (cv : Value) (b : Bool), xs = [.ref a, c] ∧ IsEx H a C ∧ IxK K C ∧ ClsV c cv ∧ PySem.W.kitOne K (.ref C) cv = some b ∧ Q (.bl b) H
theorem call_isO {X : Cx} : CallR X (.builtin "isinstance") (rIsO X.K) := by
  intro pins s σ H xs us Q I r h
  obtain ⟨a, C, c, cv, b, rfl, hx, T, k, e, q⟩ := h
  obtain ⟨u1, u2, rfl, r1, r2⟩ := vals2 r
  cases r1
  have e2 := k.eq r2
  subst e2
  obtain ⟨ox, od, J⟩ := hx.inst I
  exact PySem.W.kia_one T.kit I.kIn J e (fun z => nomatch z) fun tk => ⟨.bl b, H, I.tok tk, rfl, q⟩
/-- .. e the exception that the suite holds, whatever its dict -/
def rIsS (K : PySem.W.Frag) (C a : Addr) (d : Option Addr) : List V → Hp → VK → Prop := fun xs H Q => ∃ (c : V) (cv : Value) (b : Bool), xs = [.ref a, c] ∧ (d = none ∨ ∃ dx fs, d = some dx ∧ H dx = some (.xd fs)) ∧ ClsV c cv ∧ PySem.W.kitOne K (.ref C) cv = some b ∧ Q (.bl b) H
def rIsST (K : PySem.W.Frag) (C a : Addr) (d : Option Addr) : List V → Hp → VK → Prop := fun xs H Q => ∃ (tp : Addr) (cs : List V) (us : List Value) (b : Bool), xs = [.ref a, .ref tp] ∧ (d = none ∨ ∃ dx fs, d = some dx ∧ H dx = some (.xd fs)) ∧ H tp = some (.tup cs) ∧ Paired ClsV cs us ∧ PySem.W.kitAny K (.ref C) us = some b ∧ Q (.bl b) H
theorem suite_inst {X : Cx} {a C : Addr} {oe : Obj} {d : Option Addr} {pn : List (Addr × Obj)} {pins : List (Addr × Obj)} {σ : L2.St} {H : Hp} {s : Shared} (I : Inv (X.suite a ((a, oe) :: pn)) pins σ H s) (hz : Zc (.ref C) d oe) (hf : ∃ vs, oe.data = .fields vs)
    (hd : d = none ∨ ∃ dx fs, d = some dx ∧ H dx = some (.xd fs)) : ∃ od, PySem.W.InstAt s.heap a oe C od := by
  obtain ⟨hget, _⟩ := I.pin (a, oe) (List.mem_append.mpr (.inl List.mem_cons_self))
  obtain ⟨vs, hv⟩ := hf
  obtain ⟨oc, oda, odt, osl⟩ := oe
  obtain ⟨h1, h2⟩ := hz
  dsimp only at h1 h2 hv
  subst h1 h2 hv
  rcases hd with rfl | ⟨dx, fs, rfl, e⟩
  · exact ⟨none, hget, rfl, rfl, trivial⟩
  · obtain ⟨mA, ⟨o, es, ep, ho, _⟩, _⟩ := I.hok dx _ e
    exact ⟨some o, hget, rfl, rfl, ho⟩
theorem call_isS {X : Cx} {a C : Addr} {oe : Obj} {d : Option Addr} {pn : List (Addr × Obj)} (T : IxK X.K C) (hz : Zc (.ref C) d oe) (hf : ∃ vs, oe.data = .fields vs) : CallR (X.suite a ((a, oe) :: pn)) (.builtin "isinstance") (rIsS X.K C a d) := by
  intro pins s σ H xs us Q I r h
  obtain ⟨c, cv, b, rfl, hd, k, e, q⟩ := h
  obtain ⟨u1, u2, rfl, r1, r2⟩ := vals2 r
  cases r1
  have e2 := k.eq r2
  subst e2
  obtain ⟨od, J⟩ := suite_inst I hz hf hd
  exact PySem.W.kia_one T.kit I.kIn J e (fun z => nomatch z) fun tk => ⟨.bl b, H, I.tok tk, rfl, q⟩
theorem call_isST {X : Cx} {a C : Addr} {oe : Obj} {d : Option Addr} {pn : List (Addr × Obj)} (T : IxK X.K C) (hz : Zc (.ref C) d oe) (hf : ∃ vs, oe.data = .fields vs) : CallR (X.suite a ((a, oe) :: pn)) (.builtin "isinstance") (rIsST X.K C a d) := by
  intro pins s σ H xs us Q I r h
  obtain ⟨tp, cs, ws, b, rfl, hd, hT, k, e, q⟩ := h
  obtain ⟨u1, u2, rfl, r1, r2⟩ := vals2 r
  cases r1
  cases (show u2 = Value.ref tp from r2)
  obtain ⟨od, J⟩ := suite_inst I hz hf hd
  obtain ⟨_, its, rv, o, h1, h2, n, h3⟩ := (show ObjOk X.prog X.w H s.heap tp (.tup cs) from I.hok tp _ hT)
  have e3 := ClsV.all k rv
  subst e3
  obtain ⟨oc, od', dt, sl⟩ := o
  simp only at h2 h3
  subst h2 h3
  exact PySem.W.kia_tup T.kit I.kIn J h1 e (fun z => nomatch z) fun tk => ⟨.bl b, H, I.tok tk, rfl, q⟩
/-- e.f, e a tracked exception with fields -/
def tOxF (K : PySem.W.Frag) (f : Str) (te : TE) : TE := fun σ H Q => te σ H fun x H1 => ∃ (a C dx : Addr) (nw ni : String) (fs : List (Str × V)) (v : V), x = .ref a ∧ OxK K C nw ni ∧ PySem.W.findIn K (.ref C) f = some none ∧ H1 a = some (exo a C (some dx)) ∧ H1 dx = some (exd dx fs) ∧ fs.lookup f = some v ∧ Q v H1
theorem pe_oxF {X : Cx} {e : Expr} {te : TE} {pos : Pos} {n : Str} (he : PE X e te) (hb : attributeBase e n X.env (eval e X.env) = eval e X.env := by rfl) : PE X (.Attribute e n pos) (tOxF X.K n te) := by
  refine ⟨fun pins s σ H Q I h => ?_⟩
  refine attr_of hb (thn (he.run pins s σ H _ I h) fun u s1 hh => ?_)
  obtain ⟨x, H1, I1, rx, a, C, dx, nw, ni, fs, v, ex, T, hno, ea, ed, l, q⟩ := hh
  subst ex
  obtain rfl : u = Value.ref a := rx
  obtain ⟨t1, ho⟩ := exo_at I1.hok ea
  obtain ⟨mA, hns, hr⟩ := exd_at I1.hok ed
  have hns' : s1.heap.Ns1 dx mA := hns
  obtain ⟨od, hod, hl⟩ := lookIn_ns hns'
  obtain ⟨u, hu, ru⟩ := RelO.some_of (v := v) (o := mA n) (by rw [← l]; exact hr n)
  have J : PySem.W.InstAt s1.heap a { cls := .ref C, dict := some dx, data := .fields #[.ref t1, .none, .none, .none, .bool false, .none] } C (some od) := ⟨ho, rfl, rfl, hod⟩
  exact HandSPX.exc_get I1.kIn J T.ga T.gg T.exC (PySem.W.findObj_own T.hd hno rfl (by rw [hl, hu])) (handed_of ru) ⟨v, H1, I1.tok _, ru, q⟩
theorem OxK.xf {K : PySem.W.Frag} {C : Addr} {nw ni : String} (T : OxK K C nw ni) : XfC K C := ⟨T.ga, T.gg, T.exC, T.hd⟩
end K12
namespace K12
open PySem PySem.Spec PyProof.Rows L2
/-! ### == and != of a tuple with the empty tuple -/
section
variable {X : Cx}
theorem op_eqE (hu : X.A.units < cLine) : OpR X (compareOp .Eq) (fun x y H Q => ∃ a b xs, x = .ref a ∧ y = .ref b ∧ H a = some (.tup xs) ∧ H b = some (.tup []) ∧ Q (.bl xs.isEmpty) H) := by
  intro pins s σ H x y v u Q I rx ry h
  obtain ⟨a, b, xs, rfl, rfl, ha, hb, q⟩ := h
  cases rx; cases ry
  obtain ⟨_, its, rv, p⟩ := I.hok a _ ha
  obtain ⟨_, its2, rv2, p2⟩ := I.hok b _ hb
  cases rv2
  have hz := rv.length
  refine SeqAt.eq_tupleAt (e := fun _ => false) p p2 hu (fun j h1 h2 => absurd h2 (by simp)) ⟨.bl _, H, I, rfl, ?_⟩
  have e : ((List.range (min its.toArray.size (#[] : Array Value).size)).all (fun _ => false) && its.toArray.size == (#[] : Array Value).size) = xs.isEmpty := by
    cases xs with
    | nil => cases rv; rfl
    | cons x xs => cases rv; simp
  show Q (.bl _) H
  rw [e]; exact q
theorem op_neE (hu : X.A.units < cLine) : OpR X (compareOp .NotEq) (fun x y H Q => ∃ a b xs, x = .ref a ∧ y = .ref b ∧ H a = some (.tup xs) ∧ H b = some (.tup []) ∧ Q (.bl (!xs.isEmpty)) H) := by
  intro pins s σ H x y v u Q I rx ry h
  obtain ⟨a, b, xs, rfl, rfl, ha, hb, q⟩ := h
  cases rx; cases ry
  obtain ⟨_, its, rv, p⟩ := I.hok a _ ha
  obtain ⟨_, its2, rv2, p2⟩ := I.hok b _ hb
  cases rv2
  refine SeqAt.RcNeAt.tuples (e := fun _ => false) p p2 hu (fun j h1 h2 => absurd h2 (by simp)) X.prog X.w X.xe _ ⟨.bl _, H, I, rfl, ?_⟩
  have e : (!((List.range (min its.toArray.size (#[] : Array Value).size)).all (fun _ => false) && its.toArray.size == (#[] : Array Value).size)) = !xs.isEmpty := by
    cases xs with
    | nil => cases rv; rfl
    | cons x xs => cases rv; simp
  show Q (.bl _) H
  rw [e]; exact q
end

/-! ### the tables of the top -/
section
variable {X : Cx} {x : Str} {kvs : List (Str × List V)}
theorem op_inT (T : KTab X.K X.w x kvs) : OpR X (compareOp .In) (fun x' y H Q => ∃ z, x' = .str z ∧ y = .ref (He.ga X.K x) ∧ Q (.bl (kvs.lookup z).isSome) H) := by
  intro pins s σ H x' y v u Q I rx ry h
  obtain ⟨z, rfl, rfl, q⟩ := h
  obtain ⟨es, n, D⟩ := T.kd
  cases hz : kvs.lookup z with
  | none => exact op_in_kd D pins s σ H _ _ v u Q I rx ry ⟨z, none, rfl, rfl, T.no z hz, by rw [hz] at q; exact q⟩
  | some vs =>
    obtain ⟨t, e, _⟩ := T.yes z vs hz
    exact op_in_kd D pins s σ H _ _ v u Q I rx ry ⟨z, _, rfl, rfl, e, by rw [hz] at q; exact q⟩
theorem op_notInT (T : KTab X.K X.w x kvs) : OpR X (compareOp .NotIn) (fun x' y H Q => ∃ z, x' = .str z ∧ y = .ref (He.ga X.K x) ∧ Q (.bl (!(kvs.lookup z).isSome)) H) := by
  intro pins s σ H x' y v u Q I rx ry h
  obtain ⟨z, rfl, rfl, q⟩ := h
  obtain ⟨es, n, D⟩ := T.kd
  cases hz : kvs.lookup z with
  | none => exact op_notIn_kd D pins s σ H _ _ v u Q I rx ry ⟨z, none, rfl, rfl, T.no z hz, by rw [hz] at q; exact q⟩
  | some vs =>
    obtain ⟨t, e, _⟩ := T.yes z vs hz
    exact op_notIn_kd D pins s σ H _ _ v u Q I rx ry ⟨z, _, rfl, rfl, e, by rw [hz] at q; exact q⟩
theorem ix_T (T : KTab X.K X.w x kvs) : IxR X (fun x' y H Q => ∃ z vs, x' = .ref (He.ga X.K x) ∧ y = .str z ∧ kvs.lookup z = some vs ∧ ∀ t, SqT X.K H t vs → Q (.ref t) H) := by
  intro value slice pins s σ H x' y v u Q I rx ry h hs
  obtain ⟨z, vs, rfl, rfl, hz, q⟩ := h
  obtain ⟨es, n, D⟩ := T.kd
  obtain ⟨t, e, ht⟩ := T.yes z vs hz
  exact ix_kdict value slice pins s σ H _ _ v u Q I rx ry ⟨_, z, .ref t, rfl, rfl, ⟨es, n, _, D.at_, D.lit, e, rfl⟩, q t (ht H)⟩ hs
end

/-! ### C(..) of an own class, what is raised wished for at the slots -/
section
variable {X : Cx} {CX : CXT} {k : Nat} {f C : Addr} {fd : FuncData} {ps : List Str} {sp : Sp} {E : L2.St → XK} {x : Str} {p pos : Pos} {e : Expr} {es : List Expr} {t : TA}
def tMakeS (C : Addr) (sp : Sp) (E : L2.St → XK) (t : TA) : TE := fun σ H Q => t σ H fun vs H1 => ∀ x dx, H1 x = none → H1 dx = none → dx ≠ x →
  sp (.ref x :: vs) (upd (upd H1 dx (.own x)) x (.ins C dx [])) (fun v H2 => v = .non ∧ Q (.ref x) H2) (E σ)
theorem run_makeS {pins : List (Addr × Obj)} {σ : L2.St} {H : Hp} {s : Shared} {Q : VK} {us : List Value} {vs : List V} (M : Mk X.K C f) (F : FnOk X.prog X.w X.K X.mg X.base CX k f fd ps sp) (hr : Room (k + 1) X.A) (hb : Binds X.K fd ps [])
    (hx : PassesAt CX X σ (E σ)) (I : Inv X pins σ H s) (r : Vals vs us)
    (h : ∀ x dx, H x = none → H dx = none → dx ≠ x → sp (.ref x :: vs) (upd (upd H dx (.own x)) x (.ins C dx [])) (fun v H2 => v = .non ∧ Q (.ref x) H2) (E σ)) :
    wpAny (model X.prog X.w) X.A (call (.ref C) us) (EP X pins σ Q) X.xe s := by
  have hq := h (s.heap.objs.size + 1) s.heap.objs.size (I.hok.fresh (Nat.le_succ _)) (I.hok.fresh (Nat.le_refl _)) (Nat.ne_of_lt (Nat.lt_succ_self _))
  have I2 := Inv.made (C := C) I
  have r2 : Vals (V.ref (s.heap.objs.size + 1) :: vs) (Value.ref (s.heap.objs.size + 1) :: us) := .cons rfl r
  have hl : (Value.ref (s.heap.objs.size + 1) :: us ++ []).length = ps.length := by
    have e := r2.length
    rw [F.len _ _ _ _ hq] at e
    rw [List.append_nil]
    exact e.symm
  have hb' := hb _ (Value.ref (s.heap.objs.size + 1) :: us) I2.kIn hl
  rw [List.append_nil] at hb'
  refine wpAny_call (make_map (f := f) I.kIn M.makes M.init (beq_iff_eq.mp M.fn) (codeAny_mono (F.run _ X.stack _ _ ⟨Value.ref (s.heap.objs.size + 1) :: us, []⟩ (Value.ref (s.heap.objs.size + 1) :: us) _ _ (E σ) (hr.make C us [])
    (I2.env0.make C us []) hb' r2 hq) fun r s' hq' => ?_))
  cases r with
  | error e => exact hx pins _ _ e s' I2 hq'
  | ok fl =>
    cases fl with
    | ret u =>
      obtain ⟨v, H', I3, rv, ev, q3⟩ := I2.after hq'
      subst ev
      exact ⟨rv, ⟨V.ref (s.heap.objs.size + 1), H', I3, rfl, q3⟩⟩
    | next => exact False.elim hq'
    | brk => exact False.elim hq'
    | cont => exact False.elim hq'
theorem pe_makeS (M : Mk X.K C f) (F : FnOk X.prog X.w X.K X.mg X.base CX k f fd ps sp) (hr : Room (k + 1) X.A) (hm : X.mg x = some (.ref C)) (hb : Binds X.K fd ps []) (hx : ∀ σ, PassesAt CX X σ (E σ))
    (ha : PA X (e :: es) t) (hg : Gl X x := by rfl) (hdb : (x == ("__debug__" : Str)) = false := by decide) (he : starEach (e :: es) X.env = (false, eval e X.env) :: starEach es X.env := by rfl) (hpl : (backTo pos (starEach es X.env)).any (·.1) = false := by rfl) :
    PE X (.Call (.Name x p) (e :: es) [] pos) (tMakeS C sp E t) := by
  refine ⟨fun pins s σ H Q I h => ?_⟩
  refine wpAny_Call_Name_kw (ld_glob I hg hm ?_ hdb)
  refine PySem.W.callWith_K (h₀ := X.base) I.ok.mod.kin M.kp (thn (ha.run pos pins s σ H _ I h) fun us s1 ⟨vs, H1, I1, r, q⟩ => ⟨I1.kIn, ?_⟩) he hpl
  exact run_makeS M F hr hb (hx σ) I1 r q
end

/-! ### repr of data -/
section
variable {X : Cx} {pins : List (Addr × Obj)} {σ : L2.St} {p : Addr} {H : Hp} {s : Shared}
mutual
theorem Rp.reads (I : Inv X pins σ H s) : ∀ (d : PyData) (v : V) (u : Value), Rp p H d v → RelV v u → ∃ as, Reads s.heap u d as ∧ ∀ b ∈ as, H b ≠ none
  | .none, _, _, h, r => by cases h; cases r; exact ⟨_, Reads.none, fun b hb => absurd hb (by simp)⟩
  | .bool b, _, _, h, r => by cases h; cases r; exact ⟨_, Reads.bool b, fun b hb => absurd hb (by simp)⟩
  | .int i, _, _, h, r => by cases h; obtain ⟨t, rfl⟩ := r; exact ⟨_, Reads.int i t, fun b hb => absurd hb (by simp)⟩
  | .str x, _, _, h, r => by cases h; obtain ⟨t, rfl⟩ := r; exact ⟨_, Reads.str x t, fun b hb => absurd hb (by simp)⟩
  | .list ds, _, _, ⟨a, xs, e, n, o, h⟩, r => by
    subst e
    cases r
    obtain ⟨its, rv, ⟨ob, n', ho, hc, _, hd⟩, _⟩ := I.list (SqL.of o)
    obtain ⟨as, hr, hb⟩ := RpA.reads I ds xs its h rv
    refine ⟨_, Reads.list ho hc hd hr, fun b hb' => ?_⟩
    rcases List.mem_cons.mp hb' with rfl | hb'
    · rw [o]; exact fun z => nomatch z
    · exact hb b hb'
  | .tuple ds, _, _, ⟨a, xs, e, n, o, h⟩, r => by
    subst e
    cases r
    obtain ⟨its, rv, ⟨ob, ho, hc, n', hd⟩, _⟩ := I.tuple (SqT.of o)
    obtain ⟨as, hr, hb⟩ := RpA.reads I ds xs its h rv
    exact ⟨_, Reads.tuple ho hc hd hr, hb⟩
  | .dict kvs, _, _, ⟨z, a, e, n, o⟩, r => by
    subst z e
    cases r
    obtain ⟨_, _, vs, rv, ob, es, ep, ho, hx, hd, _, hp, _⟩ := I.hok a _ o
    cases rv
    have he : es.toList = [] := by
      cases hes : es.toList with
      | nil => rfl
      | cons a b => rw [hes] at hp; cases hp
    refine ⟨_, Reads.dict (as := []) (bs := []) ho hx.1 hd (by rw [he]; exact .nil) (by rw [he]; exact .nil), fun b hb => ?_⟩
    have hb2 : b = a := by simpa using hb
    rw [hb2, o]; exact fun z => nomatch z
theorem RpA.reads (I : Inv X pins σ H s) : ∀ (ds : List PyData) (vs : List V) (us : List Value), RpA p H ds vs → Vals vs us → ∃ as, ReadsAll s.heap us ds as ∧ ∀ b ∈ as, H b ≠ none
  | [], _, _, h, r => by cases h; cases r; exact ⟨_, ReadsAll.nil, fun b hb => absurd hb (by simp)⟩
  | d :: ds, _, _, ⟨v, vs, e, h1, h2⟩, r => by
    subst e
    cases r with
    | cons r1 r2 =>
      obtain ⟨as, q1, b1⟩ := Rp.reads I d _ _ h1 r1
      obtain ⟨bs, q2, b2⟩ := RpA.reads I ds _ _ h2 r2
      exact ⟨_, ReadsAll.cons q1 q2, fun b hb => (List.mem_append.mp hb).elim (b1 b) (b2 b)⟩
end
end
def rRepr : List V → Hp → VK → Prop := fun xs H Q => ∃ p d a, xs = [.ref a] ∧ Rp p H d (.ref a) ∧ d.showable = true ∧ d.depth ≤ 60 ∧ d.shown.length ≤ sizeLine ∧ Q (.str d.shown) H
theorem call_reprD {X : Cx} {k : Nat} (hr : Room k X.A) (hg : X.A.guards = some []) (hs : ∃ o, X.K.lookup sysModules = some o) : CallR X (.builtin "repr") rRepr := by
  intro pins s σ H xs us Q I r h
  obtain ⟨p, d, a, rfl, hd, hsh, hdp, hsz, q⟩ := h
  cases r with
  | cons r1 r2 =>
    cases r2
    cases r1
    obtain ⟨as, hR, hb⟩ := Rp.reads I d _ _ hd rfl
    obtain ⟨o, ho⟩ := hs
    have hsys : H sysModules = none := (I.bs _ _ (I.ok.mod.kin _ _ ho)).2
    refine repr_of_reads' hR hsh (fun _ hm => hb _ hm hsys) hg ?_ (fun b o e => e) (fun h' u tk k => ?_) hsz
    · have := hr.units; omega
    · exact ⟨.str d.shown, H, I.kept (t' := tk) k, ⟨u, rfl⟩, q⟩
end K12
namespace K12
open PySem PySem.Spec PyProof.Rows L2

/-! ### data that fit: short texts, small numbers, not too many items -/
mutual
def Fit : PyData → Prop
  | .none => True
  | .bool _ => True
  | .int i => i.natAbs ≤ 5000
  | .str x => x.length ≤ 20 ∧ ∀ c ∈ x.cps.toList, c < 128
  | .list ds => ds.length ≤ 1000 ∧ FitA ds
  | .tuple ds => ds.length ≤ 1000 ∧ FitA ds
  | .dict kvs => kvs = []
def FitA : List PyData → Prop
  | [] => True
  | d :: ds => Fit d ∧ FitA ds
end
theorem FitA.get : ∀ {ds : List PyData} {i : Nat} {d : PyData}, FitA ds → ds[i]? = some d → Fit d
  | [], _, _, _, e => by simp at e
  | d :: ds, 0, _, h, e => by simp at e; subst e; exact h.1
  | d :: ds, i + 1, _, h, e => FitA.get (i := i) h.2 (by simpa using e)
theorem FitA.all : ∀ {ds : List PyData}, (∀ d ∈ ds, Fit d) → FitA ds
  | [], _ => trivial
  | d :: ds, h => ⟨h d (by simp), FitA.all fun e he => h e (by simp [he])⟩
theorem FitA.mem : ∀ {ds : List PyData}, FitA ds → ∀ d ∈ ds, Fit d
  | [], _, d, h => by simp at h
  | e :: ds, h, d, hd => by
    rcases List.mem_cons.mp hd with rfl | hd
    · exact h.1
    · exact FitA.mem h.2 d hd
theorem FitA.app {ds es : List PyData} (h : FitA ds) (g : FitA es) : FitA (ds ++ es) := .all fun d hd => (List.mem_append.mp hd).elim (h.mem d) (g.mem d)
theorem FitA.drop {ds : List PyData} (n : Nat) (h : FitA ds) : FitA (ds.drop n) := .all fun d hd => h.mem d (List.mem_of_mem_drop hd)
theorem FitA.take {ds : List PyData} (n : Nat) (h : FitA ds) : FitA (ds.take n) := .all fun d hd => h.mem d (List.mem_of_mem_take hd)
theorem sz20 {n : Nat} (h : n ≤ 20) : n ≤ sizeLine := Nat.le_trans h (by decide)
theorem sz1000 {n : Nat} (h : n ≤ 1000) : n ≤ sizeLine := Nat.le_trans h (by decide)

/-! ### the mirror: names and numbers -/
def LETS : Str := "abcdefghijklmnopqrstuvwxyz"
def isLet (c : Nat) : Bool := decide (c ∈ LETS.cps.toList)
def isWord : PyData → Bool
  | .str x => !decide (x = "") && x.cps.toList.all isLet
  | _ => false
def isName : PyData → Bool
  | .str x => (!decide (x = "") && x.cps.toList.all isLet) && (decide ((x.length : Int) ≤ 8) && !decide (x = "tick"))
  | _ => false
def isNum (lo hi : Int) : PyData → Bool
  | .int i => decide (lo ≤ i) && decide (i ≤ hi)
  | _ => false

/-! ### promises: a look at data tells a truth, nothing is changed -/
def spLook (f : PyData → Bool) : Sp := fun vs H Q _ => ∃ p d v, vs = [v] ∧ Rp p H d v ∧ Fit d ∧ ∀ H', Same H H' → Q (.bl (f d)) H'
def spNum : Sp := fun vs H Q _ => ∃ p d v lo hi, vs = [v, .int lo, .int hi] ∧ Rp p H d v ∧ ∀ H', Same H H' → Q (.bl (isNum lo hi d)) H'

theorem sign_at {x : Str} {i : Nat} {c : Nat} (h : x.cps[i]? = some c) : x.cps.toList[i]? = some c := by simpa using h
theorem all_given (x : Str) (P : Nat → Bool) : ((List.range x.cps.size).map fun i => P (x.cps.toList.getD i 0)).all id = x.cps.toList.all P := by
  have e : ((List.range x.cps.size).map fun i => P (x.cps.toList.getD i 0)) = x.cps.toList.map P := by
    apply List.ext_getElem
    · simp
    · intro i h1 h2
      have : i < x.cps.toList.length := by simpa using h1
      simp at h1
      simp [List.getD, this, h1]
  rw [e, List.all_map]
  rfl

/-! ### names to kinds -/
def kvOf (ks : List (Str × Str)) : List (Key × V) := ks.map fun q => (Sum.inr q.1, V.str q.2)
/-- at dk stands the dict of these names' kinds -/
def Kd (p : Addr) (H : Hp) (dk : Addr) (ks : List (Str × Str)) : Prop := dk ≠ p ∧ H dk = some (.dK (kvOf ks))
theorem Kd.mono {p : Addr} {H H' : Hp} {dk : Addr} {ks : List (Str × Str)} (k : Kp p H H') (h : Kd p H dk ks) : Kd p H' dk ks := ⟨h.1, k _ _ h.2 h.1⟩
theorem valV_kv (ks : List (Str × Str)) (z : Str) : valV (kvOf ks) (Sum.inr z : Key) = (ks.lookup z).map V.str := by
  induction ks with
  | nil => rfl
  | cons q ks ih =>
    obtain ⟨n, k⟩ := q
    unfold valV kvOf at *
    rw [List.map_cons, List.find?_cons, List.lookup_cons]
    by_cases e : n = z
    · subst e
      simp
    · have e1 : decide ((Sum.inr n : Key) = Sum.inr z) = false := by simpa using e
      have e2 : (z == n) = false := by simpa using fun h : z = n => e h.symm
      simp only [e1, e2]
      exact ih

/-! ### the mirror: deeds -/
def tabP : List (Str × List Str) := tabPARTS.map fun q => (q.1, q.2.map fun v => match v with | .str x => x | _ => "")
def tupS (l : List V) : List Str := l.map fun v => match v with | .str x => x | _ => ""
def withinWs : List Str := tupS tupWITHINS
def lastWs : List Str := tupS tupLASTS
def ofKind (ks : List (Str × Str)) (kind : Str) : PyData → Bool
  | .str z => if kind = "lock" then decide (ks.lookup z = some "lock") || decide (ks.lookup z = some "relock") else decide (ks.lookup z = some kind)
  | _ => false
def headIn (ws : List Str) : PyData → Bool
  | .tuple (.str w :: _) => decide (w ∈ ws)
  | _ => false
/-- a part of a sort that is no deed -/
def isPart0 (ks : List (Str × Str)) (s : Str) (d : PyData) : Bool :=
  if s = "number" then isNum (-1000) 1000 d else if s = "many" then isNum 0 12 d else if s = "ticks" then isNum 0 9 d else if s = "name" then isName d else ofKind ks s d
mutual
def isDeed (ks : List (Str × Str)) : PyData → Bool
  | .tuple xs => isDeedL ks xs
  | _ => false
def isDeedL (ks : List (Str × Str)) : List PyData → Bool
  | [] => false
  | d :: ds => match d with
    | .str w => match tabP.lookup w with
      | some ss => decide (ds.length = ss.length) && isParts ks ds ss
      | none => false
    | _ => false
def isParts (ks : List (Str × Str)) : List PyData → List Str → Bool
  | [], _ => true
  | d :: ds, ss => match ss with
    | [] => true
    | s :: ss => (if s = "deed" then isDeed ks d && headIn withinWs d else isPart0 ks s d) && isParts ks ds ss
end
def isPart (ks : List (Str × Str)) (s : Str) (d : PyData) : Bool := if s = "deed" then isDeed ks d && headIn withinWs d else isPart0 ks s d
def isLastDeed (ks : List (Str × Str)) (d : PyData) : Bool := isDeed ks d && headIn lastWs d
def spKind : Sp := fun vs H Q _ => ∃ p d v dk ks kind, vs = [v, .str kind, .ref dk] ∧ Rp p H d v ∧ Kd p H dk ks ∧ ∀ H', Same H H' → Q (.bl (ofKind ks kind d)) H'
def spPart (n : Nat) : Sp := fun vs H Q _ => ∃ p d v dk ks sort, vs = [v, .str sort, .ref dk] ∧ Rp p H d v ∧ Fit d ∧ d.depth ≤ n ∧ Kd p H dk ks ∧ ∀ H', Same H H' → Q (.bl (isPart ks sort d)) H'
def spDeed (n : Nat) : Sp := fun vs H Q _ => ∃ p d v dk ks, vs = [v, .ref dk] ∧ Rp p H d v ∧ Fit d ∧ d.depth ≤ n ∧ Kd p H dk ks ∧ ∀ H', Same H H' → Q (.bl (isDeed ks d)) H'
section
variable {P : Program} {w : World} {K : PySem.W.Frag} {mg : Str → Option Value} {base : Heap}
abbrev N_is_word : List Str := ["thing", "sign"]
theorem sc_is_word : FnScope N_is_word ["thing"] (defScope (top 19)) := sc_of (by decide +kernel)
-- slots: 0:thing 1:sign
theorem ok_is_word (T : Tx w K mg) : Cl P w K mg base CX0 1 "is_word" (spLook isWord) := by
  refine T.d_is_word.cl sc_is_word (fun _ _ _ _ _ _ us hl => match us, hl with | [_], _ => rfl) (fun vs H Q E h => ?_) fun f cdv A outer s H vs Q E hr h => ?_
  · obtain ⟨_, _, _, rfl, _⟩ := h; rfl
  have hu := hu_of hr
  have hu0 := hr.units0
  have hu64 := hr.units
  obtain ⟨p, d, v, rfl, h⟩ := h
  refine ⟨_, PSs.nox ((pss_one (ps_ret (pe_and (pe_isi T.f_isinstance T.f_str (pv 0) b_str) (pe_and (pe_cmpR op_ne (pv 0) pe_str (nomark _)) (pe_one (pe_callB (cr_all rfl) rfl T.f_all b_all (pa_cons (pe_lc (own := [("sign", 1)]) rfl sc_is_word.nd (pi_str (pv 0)) (blkOk_by (N := N_is_word) (sc := defScope (top 19)) (by decide +kernel)) (fun _ _ _ _ _ => (pg_name (i := 1) sc_is_word.nd rfl (Or.inl rfl))) (fun _ _ _ _ _ => pts_nil) (fun _ _ _ _ _ => (pe_cmpR op_in_sign (pv 1) (pe_gs T.s_LETTERS) rfl))) pa_nil)))))))), ?_⟩
  obtain ⟨hv, hf, k⟩ := h
  refine ⟨_, rfl, isiS hv ⟨_, rfl, ?_⟩⟩
  cases d with
  | str x =>
    cases hv
    refine iteT ⟨_, rfl, rfl, _, rfl, ?_⟩
    refine ite2 (fun hx => ?_) (fun hx => ?_)
    · refine ⟨_, rfl, x, rfl, fun D hD => lc_det walk_str (fun i => .bl (isLet (x.cps.toList.getD i 0))) hD (Nat.lt_of_le_of_lt hf.1 (by decide)) (fun _ _ => trivial) ?_ ?_⟩
      · intro i y H1 H2 C hi s1 hy hC
        obtain ⟨rfl, c, hc, rfl⟩ := hy
        refine ⟨rfl, ?_⟩
        refine ⟨_, rfl, c, LETS, rfl, rfl, ?_⟩
        have e : x.cps.toList.getD i 0 = c := by simp [List.getD, sign_at hc]
        have := hC _ (Same.refl _)
        rw [e] at this
        exact this
      · intro H1 s1 hl
        refine ⟨D, (List.range x.cps.size).map fun i => isLet (x.cps.toList.getD i 0), rfl, SqL.of ?_, ?_⟩
        · rw [hl, List.map_map]; rfl
        · rw [all_given]
          have := k H1 s1
          have e : isWord (.str x) = x.cps.toList.all isLet := by
            have h2 : decide (x = "") = false := by simpa using hx
            show (!decide (x = "") && x.cps.toList.all isLet) = _
            rw [h2]; rfl
          rw [e] at this
          exact this
    · have := k H (Same.refl _)
      have h2 : decide (x = "") = true := by simpa using hx
      have e : isWord (.str x) = false := by
        show (!decide (x = "") && x.cps.toList.all isLet) = _
        rw [h2]; rfl
      rw [e] at this
      exact this
  | _ => exact iteF (k H (Same.refl _))
abbrev N_is_name : List Str := ["thing"]
theorem sc_is_name : FnScope N_is_name ["thing"] (defScope (top 20)) := sc_of (by decide +kernel)
-- slots: 0:thing
theorem ok_is_name (T : Tx w K mg) (c_is_word : Cl P w K mg base CX0 1 "is_word" (spLook isWord)) : Cl P w K mg base CX0 2 "is_name" (spLook isName) := by
  refine T.d_is_name.cl sc_is_name (fun _ _ _ _ _ _ us hl => match us, hl with | [_], _ => rfl) (fun vs H Q E h => ?_) fun f cdv A outer s H vs Q E hr h => ?_
  · obtain ⟨_, _, _, rfl, _⟩ := h; rfl
  have hu := hu_of hr
  have hu0 := hr.units0
  have hu64 := hr.units
  obtain ⟨p, d, v, rfl, h⟩ := h
  refine ⟨_, PSs.nox ((pss_one (ps_ret (pe_and (pe_cl c_is_word hr (pa_cons (pv 0) pa_nil)) (pe_and (pe_cmpR op_le (pe_callB call_len_str rfl T.f_len b_len (pa_cons (pv 0) pa_nil)) (pe_gi T.i_MOST_LETTERS) (nomark _)) (pe_one (pe_cmpR op_ne (pv 0) (pe_gs T.s_TICK) (nomark _)))))))), ?_⟩
  obtain ⟨hv, hf, k⟩ := h
  refine ⟨_, rfl, p, d, v, rfl, hv, hf, fun H1 s1 => ⟨_, rfl, ?_⟩⟩
  cases d with
  | str x =>
    cases hv
    have e : isName (.str x) = (isWord (.str x) && (decide ((x.length : Int) ≤ 8) && !decide (x = "tick"))) := rfl
    refine ite2 (fun hw => ?_) (fun hw => ?_)
    · refine ⟨_, rfl, x, rfl, sz20 hf.1, _, _, rfl, rfl, _, rfl, ?_⟩
      refine ite2 (fun h8 => ?_) (fun h8 => ?_)
      · refine ⟨_, rfl, rfl, ?_⟩
        have := k H1 s1
        rw [e, hw] at this
        have h8' : decide ((x.length : Int) ≤ 8) = true := h8
        rw [h8'] at this
        simpa using this
      · have := k H1 s1
        rw [e] at this
        have h8' : decide ((x.length : Int) ≤ 8) = false := by simpa using h8
        rw [h8'] at this
        simpa using this
    · have := k H1 s1
      rw [e] at this
      have hw' : isWord (.str x) = false := by simpa using hw
      rw [hw'] at this
      exact this
  | _ => exact iteF (k H1 s1)
abbrev N_is_number : List Str := ["thing", "least", "most"]
theorem sc_is_number : FnScope N_is_number ["thing", "least", "most"] (defScope (top 21)) := sc_of (by decide +kernel)
-- slots: 0:thing 1:least 2:most
theorem ok_is_number (T : Tx w K mg) : Cl P w K mg base CX0 1 "is_number" spNum := by
  refine T.d_is_number.cl sc_is_number (fun _ _ _ _ _ _ us hl => match us, hl with | [_, _, _], _ => rfl) (fun vs H Q E h => ?_) fun f cdv A outer s H vs Q E hr h => ?_
  · obtain ⟨_, _, _, _, _, rfl, _⟩ := h; rfl
  have hu := hu_of hr
  have hu0 := hr.units0
  have hu64 := hr.units
  obtain ⟨p, d, v, lo, hi, rfl, h⟩ := h
  refine ⟨_, PSs.nox ((pss_one (ps_ret (pe_and (pe_isi T.f_isinstance T.f_int (pv 0) b_int) (pe_and (pe_not (pe_isi T.f_isinstance T.f_bool (pv 0) b_bool)) (pe_one (pe_chain op_le op_le (pv 1) (pv 0) (pv 2)))))))), ?_⟩
  obtain ⟨hv, k⟩ := h
  refine ⟨_, rfl, isiI hv ⟨_, rfl, ?_⟩⟩
  have kk := k H (Same.refl _)
  cases d with
  | int i =>
    cases hv
    refine iteT ⟨_, rfl, isiB (p := p) (d := .int i) rfl ⟨_, rfl, _, rfl, ?_⟩⟩
    refine iteT ⟨_, rfl, _, rfl, _, _, rfl, rfl, _, rfl, ?_⟩
    refine ite2 (fun h1 => ?_) (fun h1 => ?_)
    · refine ⟨_, rfl, _, _, rfl, rfl, ?_⟩
      have h1' : decide (lo ≤ i) = true := h1
      have e : isNum lo hi (.int i) = decide (i ≤ hi) := by show (decide (lo ≤ i) && decide (i ≤ hi)) = _; rw [h1']; rfl
      rw [e] at kk; exact kk
    · have h1' : decide (lo ≤ i) = false := by simpa using h1
      have e : isNum lo hi (.int i) = false := by show (decide (lo ≤ i) && decide (i ≤ hi)) = _; rw [h1']; rfl
      rw [e] at kk; exact kk
  | bool b =>
    cases hv
    refine iteT ⟨_, rfl, isiB (p := p) (d := .bool b) rfl ⟨_, rfl, _, rfl, ?_⟩⟩
    exact iteF kk
  | _ => exact iteF kk
end
end K12
namespace K12
open PySem PySem.Spec PyProof.Rows L2
theorem tupW : tupWITHINS = withinWs.map V.str := by decide +kernel
theorem tupL : tupLASTS = lastWs.map V.str := by decide +kernel
theorem tupK : tupLOCKS = (["lock", "relock"] : List Str).map V.str := rfl
theorem inV_strs (z : Str) (ws : List Str) : inV (.str z) (ws.map V.str) = decide (z ∈ ws) := by
  unfold inV
  rw [List.any_map]
  induction ws with
  | nil => rfl
  | cons y ys ih =>
    rw [List.any_cons, ih]
    show (decide (y = z) || _) = _
    by_cases e : y = z
    · subst e; simp
    · have e' : ¬ z = y := fun h => e h.symm
      simp [e, e']
theorem inV_non (ws : List Str) : inV .non (ws.map V.str) = false := by
  unfold inV
  rw [List.any_map]
  induction ws with
  | nil => rfl
  | cons y ys ih => rw [List.any_cons, ih]; rfl
theorem flat_strs (ws : List Str) : (ws.map V.str).all flatV = true := by
  rw [List.all_map]; exact List.all_eq_true.mpr fun _ _ => rfl
section
variable {P : Program} {w : World} {K : PySem.W.Frag} {mg : Str → Option Value} {base : Heap}
abbrev N_is_of_kind : List Str := ["thing", "kind", "kinds"]
theorem sc_is_of_kind : FnScope N_is_of_kind ["thing", "kind", "kinds"] (defScope (top 22)) := sc_of (by decide +kernel)
-- slots: 0:thing 1:kind 2:kinds
theorem ok_is_of_kind (T : Tx w K mg) : Cl P w K mg base CX0 1 "is_of_kind" spKind := by
  refine T.d_is_of_kind.cl sc_is_of_kind (fun _ _ _ _ _ _ us hl => match us, hl with | [_, _, _], _ => rfl) (fun vs H Q E h => ?_) fun f cdv A outer s H vs Q E hr h => ?_
  · obtain ⟨_, _, _, _, _, _, rfl, _⟩ := h; rfl
  have hu := hu_of hr
  have hu0 := hr.units0
  have hu64 := hr.units
  obtain ⟨p, d, v, dk, ks, kind, rfl, h⟩ := h
  refine ⟨_, PSs.nox ((pss_cons (ps_if (pt_not (pt_val (pe_isi T.f_isinstance T.f_str (pv 0) b_str))) (pss_one (ps_ret pe_bl)) pss_nil)
      (pss_cons (ps_if (pt_cmpR op_eq (pv 1) pe_str (nomark _)) (pss_one (ps_ret (pe_cmpR op_in_seq (pe_dget1 hu (pv 2) (pv 0) ⟨rfl, rfl, rfl, rfl⟩) (pe_gr T.g_LOCKS) rfl))) pss_nil)
      (pss_one (ps_ret (pe_cmpR op_eq (pe_dget1 hu (pv 2) (pv 0) ⟨rfl, rfl, rfl, rfl⟩) (pv 1) (nomark _))))))), ?_⟩
  obtain ⟨hv, hk, k⟩ := h
  refine ⟨_, rfl, isiS hv ⟨_, rfl, ?_⟩⟩
  have kk := k H (Same.refl _)
  cases d with
  | str z =>
    cases hv
    refine iteF ?_
    refine ⟨_, rfl, rfl, _, rfl, ?_⟩
    have g := DGet.k (k := Sum.inr z) hk.2
    rw [valV_kv] at g
    refine ite2 (fun hl => ?_) (fun hl => ?_)
    · have e : kind = "lock" := by simpa using hl
      refine ⟨_, rfl, dk, rfl, .inl ⟨_, .inl hk.2⟩, _, rfl, _, g, _, tupLOCKS, rfl, .inr (T.q_LOCKS H), ?_⟩
      rw [tupK]
      refine ⟨?_, flat_strs _, ?_⟩
      · cases ks.lookup z <;> rfl
      · have e2 : (if false = true then !inV ((Option.map V.str (List.lookup z ks)).getD V.non) ((["lock", "relock"] : List Str).map V.str) else inV ((Option.map V.str (List.lookup z ks)).getD V.non) ((["lock", "relock"] : List Str).map V.str)) = ofKind ks kind (.str z) := by
          rw [if_neg (by simp)]
          show _ = if kind = "lock" then _ else _
          rw [if_pos e]
          cases hz : ks.lookup z with
          | none => rw [show (Option.map V.str (none : Option Str)).getD V.non = .non from rfl, inV_non]; simp
          | some y =>
            rw [show (Option.map V.str (some y)).getD V.non = .str y from rfl, inV_strs]
            simp
        rw [e2]; exact kk
    · have e : ¬ kind = "lock" := by simpa using hl
      refine ⟨_, rfl, dk, rfl, .inl ⟨_, .inl hk.2⟩, _, rfl, _, g, _, rfl, ?_⟩
      refine ⟨?_, ?_⟩
      · cases ks.lookup z <;> rfl
      · have e2 : decide ((Option.map V.str (List.lookup z ks)).getD V.non = V.str kind) = ofKind ks kind (.str z) := by
          show _ = if kind = "lock" then _ else _
          rw [if_neg e]
          cases hz : ks.lookup z with
          | none => simp
          | some y => simp
        rw [e2]; exact kk
  | _ => exact iteT kk
end
end K12
namespace K12
open PySem PySem.Spec PyProof.Rows L2
theorem lk_cons {α : Type} (n z : Str) (v : α) (l : List (Str × α)) : ((n, v) :: l).lookup z = if z = n then some v else l.lookup z := by
  rw [List.lookup_cons]
  by_cases e : z = n
  · subst e; simp
  · have : (z == n) = false := by simpa using e
    rw [this, if_neg e]
theorem lkB (s : Str) : tabBOUNDS.lookup s = if s = "number" then some [V.int (-1000), V.int 1000] else if s = "many" then some [V.int 0, V.int 12] else if s = "ticks" then some [V.int 0, V.int 9] else none := by
  unfold tabBOUNDS kt
  rw [lk_cons, lk_cons, lk_cons]
  rfl
theorem sort_cases (ks : List (Str × Str)) (sort : Str) (d : PyData) :
    (∃ lo hi, tabBOUNDS.lookup sort = some [V.int lo, V.int hi] ∧ isPart0 ks sort d = isNum lo hi d ∧ ¬ sort = "deed") ∨
    (tabBOUNDS.lookup sort = none ∧ isPart0 ks sort d = if sort = "name" then isName d else ofKind ks sort d) := by
  rw [lkB]
  unfold isPart0
  by_cases h1 : sort = "number"
  · refine .inl ⟨-1000, 1000, by rw [if_pos h1], by rw [if_pos h1], ?_⟩
    rw [h1]; decide
  by_cases h2 : sort = "many"
  · refine .inl ⟨0, 12, by rw [if_neg h1, if_pos h2], by rw [if_neg h1, if_pos h2], ?_⟩
    rw [h2]; decide
  by_cases h3 : sort = "ticks"
  · refine .inl ⟨0, 9, by rw [if_neg h1, if_neg h2, if_pos h3], by rw [if_neg h1, if_neg h2, if_pos h3], ?_⟩
    rw [h3]; decide
  exact .inr ⟨by rw [if_neg h1, if_neg h2, if_neg h3], by rw [if_neg h1, if_neg h2, if_neg h3]⟩
/-- a truth and what it leads to -/
theorem bb_and {a b : Bool} {Q : VK} {H : Hp} (h : Q (.bl (a && b)) H) : if a = true then Q (.bl b) H else Q (.bl false) H := by
  cases a
  · exact iteF h
  · exact iteT h
theorem deed_head {ks : List (Str × Str)} : ∀ {d : PyData}, isDeed ks d = true → ∃ w ds, d = .tuple (.str w :: ds)
  | .tuple (.str w :: ds), _ => ⟨w, ds, rfl⟩
  | .tuple [], h => by simp [isDeed, isDeedL] at h
  | .tuple (.none :: _), h => by simp [isDeed, isDeedL] at h
  | .tuple (.bool _ :: _), h => by simp [isDeed, isDeedL] at h
  | .tuple (.int _ :: _), h => by simp [isDeed, isDeedL] at h
  | .tuple (.list _ :: _), h => by simp [isDeed, isDeedL] at h
  | .tuple (.tuple _ :: _), h => by simp [isDeed, isDeedL] at h
  | .tuple (.dict _ :: _), h => by simp [isDeed, isDeedL] at h
  | .none, h => by simp [isDeed] at h
  | .bool _, h => by simp [isDeed] at h
  | .int _, h => by simp [isDeed] at h
  | .str _, h => by simp [isDeed] at h
  | .list _, h => by simp [isDeed] at h
  | .dict _, h => by simp [isDeed] at h
/-- the first item of a tuple of data -/
theorem tup_head {p : Addr} {H : Hp} {d : PyData} {ds : List PyData} {v : V} (h : Rp p H (.tuple (d :: ds)) v) : ∃ a u us, v = .ref a ∧ a ≠ p ∧ H a = some (.tup (u :: us)) ∧ Rp p H d u ∧ RpA p H ds us := by
  obtain ⟨a, xs, e, n, o, u, us, ex, h1, h2⟩ := h
  subst ex
  exact ⟨a, u, us, e, n, o, h1, h2⟩
theorem at0 (u : V) (us : List V) : atI (u :: us) 0 = some u := by
  unfold atI ixN
  rw [if_pos (by decide), if_pos (by simp)]
  rfl
section
variable {P : Program} {w : World} {K : PySem.W.Frag} {mg : Str → Option Value} {base : Heap}
abbrev N_is_part : List Str := ["thing", "sort", "kinds", "least", "most"]
theorem sc_is_part : FnScope N_is_part ["thing", "sort", "kinds"] (defScope (top 23)) := sc_of (by decide +kernel)
-- slots: 0:thing 1:sort 2:kinds 3:least 4:most
theorem ok_is_part (T : Tx w K mg) (k n : Nat) (hk : 2 ≤ k) (c_is_number : Cl P w K mg base CX0 1 "is_number" spNum) (c_is_name : Cl P w K mg base CX0 2 "is_name" (spLook isName)) (c_is_deed : Cl P w K mg base CX0 k "is_deed" (spDeed n)) (c_is_of_kind : Cl P w K mg base CX0 1 "is_of_kind" spKind) : Cl P w K mg base CX0 (k + 1) "is_part" (spPart n) := by
  refine T.d_is_part.cl sc_is_part (fun _ _ _ _ _ _ us hl => match us, hl with | [_, _, _], _ => rfl) (fun vs H Q E h => ?_) fun f cdv A outer s H vs Q E hr h => ?_
  · obtain ⟨_, _, _, _, _, _, rfl, _⟩ := h; rfl
  have hu := hu_of hr
  have hu0 := hr.units0
  have hu64 := hr.units
  obtain ⟨p, d, v, dk, ks, sort, rfl, h⟩ := h
  refine ⟨_, PSs.nox ((pss_cons (ps_if (pt_cmpR (op_inT T.k_BOUNDS) (pv 1) (pe_gr T.g_BOUNDS) rfl) (pss_cons (ps_asg (pe_ix (ix_T T.k_BOUNDS) (pe_gr T.g_BOUNDS) (pv 1) (fun _ _ => rfl)) (pg_tup rfl (pgs_cons (pg_name (i := 3) sc_is_part.nd rfl (Or.inl rfl)) (pgs_cons (pg_name (i := 4) sc_is_part.nd rfl (Or.inl rfl)) pgs_nil))))
      (pss_one (ps_ret (pe_cl c_is_number hr (pa_cons (pv 0) (pa_cons (pv 3) (pa_cons (pv 4) pa_nil))))))) pss_nil)
      (pss_cons (ps_if (pt_cmpR op_eq (pv 1) (pe_gs T.s_NAME) (nomark _)) (pss_one (ps_ret (pe_cl c_is_name hr (pa_cons (pv 0) pa_nil)))) pss_nil)
      (pss_cons (ps_if (pt_cmpR op_eq (pv 1) (pe_gs T.s_DEED) (nomark _)) (pss_one (ps_ret (pe_and (pe_cl c_is_deed hr (pa_cons (pv 0) (pa_cons (pv 2) pa_nil))) (pe_one (pe_cmpR op_in_seq (pe_ix ix_tup (pv 0) pe_int (fun _ _ => rfl)) (pe_gr T.g_WITHINS) rfl))))) pss_nil)
      (pss_one (ps_ret (pe_cl c_is_of_kind hr (pa_cons (pv 0) (pa_cons (pv 1) (pa_cons (pv 2) pa_nil)))))))))), ?_⟩
  obtain ⟨hv, hf, hd, hkd, kq⟩ := h
  have kk : ∀ H', Same H H' → Q (.bl (if sort = "deed" then isDeed ks d && headIn withinWs d else isPart0 ks sort d)) H' := kq
  clear kq
  refine ⟨_, rfl, sort, rfl, rfl, _, rfl, ?_⟩
  rcases sort_cases ks sort d with ⟨lo, hi, e1, e2, e3⟩ | ⟨e1, e2⟩
  · rw [e1]
    refine iteT ?_
    refine ⟨_, rfl, sort, _, rfl, rfl, e1, fun t ht => ⟨t, _, rfl, ht, rfl, _, _, rfl, _, _, rfl, rfl, ?_⟩⟩
    refine ⟨_, rfl, _, rfl, _, rfl, p, d, v, lo, hi, rfl, hv, fun H1 s1 => ?_⟩
    have := kk H1 s1
    rw [if_neg e3, e2] at this
    exact this
  · rw [e1]
    refine iteF ?_
    refine ⟨_, rfl, rfl, _, rfl, ?_⟩
    refine ite2 (fun hn => ?_) (fun hn => ?_)
    · have hn' : sort = "name" := by simpa using hn
      refine ⟨_, rfl, p, d, v, rfl, hv, hf, fun H1 s1 => ?_⟩
      have := kk H1 s1
      rw [if_neg (by rw [hn']; decide), e2, if_pos hn'] at this
      exact this
    · have hn' : ¬ sort = "name" := by simpa using hn
      refine ⟨_, rfl, rfl, _, rfl, ?_⟩
      refine ite2 (fun hd2 => ?_) (fun hd2 => ?_)
      · have hd' : sort = "deed" := by simpa using hd2
        refine ⟨_, rfl, _, rfl, p, d, v, dk, ks, rfl, hv, hf, hd, hkd, fun H1 s1 => ⟨_, rfl, ?_⟩⟩
        have kq := kk
        refine ite2 (fun hx => ?_) (fun hx => ?_)
        · obtain ⟨w', ds, rfl⟩ := deed_head hx
          obtain ⟨a, u, us, rfl, na, ha, hu1, hus⟩ := tup_head hv
          cases hu1
          refine ⟨_, rfl, a, _, 0, _, rfl, rfl, SqT.of (s1 _ _ ha), at0 _ _, ?_⟩
          refine ⟨_, tupWITHINS, rfl, .inr (T.q_WITHINS H1), rfl, ?_, ?_⟩
          · rw [tupW]; exact flat_strs _
          · have := kk H1 s1
            rw [if_pos hd', hx] at this
            rw [tupW, inV_strs]
            exact this
        · have := kk H1 s1
          rw [if_pos hd'] at this
          have hx' : isDeed ks d = false := by simpa using hx
          rw [hx'] at this
          exact this
      · have hd' : ¬ sort = "deed" := by simpa using hd2
        refine ⟨_, rfl, _, rfl, _, rfl, p, d, v, dk, ks, sort, rfl, hv, hkd, fun H1 s1 => ?_⟩
        have := kk H1 s1
        rw [if_neg hd', e2, if_neg hn'] at this
        exact this
end
end K12
namespace K12
open PySem PySem.Spec PyProof.Rows L2
theorem sqT_mono {K : PySem.W.Frag} {H H' : Hp} {a : Addr} {xs : List V} (s : Same H H') : SqT K H a xs → SqT K H' a xs
  | .inl (.inl h) => .inl (.inl (s _ _ h))
  | .inl (.inr ⟨o, h⟩) => .inl (.inr ⟨o, s _ _ h⟩)
  | .inr h => .inr h
theorem sqL_mono {K : PySem.W.Frag} {H H' : Hp} {a : Addr} {xs : List V} (s : Same H H') : SqL K H a xs → SqL K H' a xs
  | .inl (.inl h) => .inl (.inl (s _ _ h))
  | .inl (.inr ⟨o, h⟩) => .inl (.inr ⟨o, s _ _ h⟩)
  | .inr h => .inr h
/-- a tuple of names as a comprehension's target -/
theorem pg_tupB {X : Cx} {s : Shared} {H : Hp} {scope : Scope} {ev : Env} {fp : List Addr} {es : List Expr} {k : Nat} {pos : Pos} {t : TGs} {n : Nat} (hc : X.calm = true) (h : PGs (X.blk s H scope ev fp) es t)
    (hn : (assignEach es (X.blk s H scope ev fp).env).length = n := by rfl) (hst : (assignEach es (X.blk s H scope ev fp).env).findIdx? (·.1) = none := by rfl) : PG (X.blk s H scope ev fp) (.Tuple es k pos) (gTup X.K n t) :=
  pg_tup (X := X.blk s H scope ev fp) hc h hn hst
theorem cut1 (u : V) (us : List V) : cutV (u :: us) (some 1) none = us := by
  unfold cutV
  have e : HT.sIx (u :: us).length 0 (some 1) = 1 := (HT.sIx_nat (u :: us).length 0 1).trans (by rw [List.length_cons]; omega)
  rw [e]
  show List.take ((u :: us).length - 1) us = us
  rw [List.length_cons]
  exact List.take_of_length_le (by omega)
theorem cut1_ne (u : V) (us : List V) : ¬ (HT.sIx (u :: us).length 0 (some 1) = 0 ∧ HT.sIx (u :: us).length (u :: us).length none = (u :: us).length) := by
  intro ⟨h, _⟩
  have e : HT.sIx (u :: us).length 0 (some 1) = 1 := (HT.sIx_nat (u :: us).length 0 1).trans (by rw [List.length_cons]; omega)
  rw [e] at h; cases h
theorem lk_map {α β : Type} (f : α → β) (l : List (Str × α)) (z : Str) : (l.map fun q => (q.1, f q.2)).lookup z = (l.lookup z).map f := by
  induction l with
  | nil => rfl
  | cons q l ih =>
    obtain ⟨n, k⟩ := q
    rw [List.map_cons, lk_cons, lk_cons, ih]
    split <;> rfl
theorem tabP_lk (z : Str) : tabP.lookup z = (tabPARTS.lookup z).map tupS := lk_map tupS tabPARTS z
theorem strs_back {l : List V} (h : l.all (fun v => match v with | .str _ => true | _ => false) = true) : (tupS l).map V.str = l := by
  unfold tupS
  induction l with
  | nil => rfl
  | cons v l ih =>
    rw [List.all_cons, Bool.and_eq_true] at h
    rw [List.map_cons, List.map_cons, ih h.2]
    cases v with
    | str z => rfl
    | _ => simp at h
theorem lk_mem {α : Type} {l : List (Str × α)} {z : Str} {v : α} (h : l.lookup z = some v) : (z, v) ∈ l := by
  induction l with
  | nil => simp at h
  | cons q l ih =>
    obtain ⟨n, k⟩ := q
    rw [lk_cons] at h
    split at h
    · rename_i e; cases h; subst e; simp
    · exact List.mem_cons_of_mem _ (ih h)
theorem parts_strs : (tabPARTS.all fun q => q.2.all (fun v => match v with | .str _ => true | _ => false) && decide (q.2.length ≤ 5)) = true := by decide +kernel
theorem part_strs {z : Str} {vs : List V} (h : tabPARTS.lookup z = some vs) : (tupS vs).map V.str = vs ∧ vs.length ≤ 5 := by
  have := List.all_eq_true.mp parts_strs _ (lk_mem h)
  rw [Bool.and_eq_true] at this
  exact ⟨strs_back this.1, by simpa using this.2⟩
theorem isParts_zip (ks : List (Str × Str)) : ∀ (ds : List PyData) (ss : List Str), isParts ks ds ss = (ds.zip ss).all fun q => isPart ks q.2 q.1
  | [], ss => by simp [isParts]
  | d :: ds, [] => by simp [isParts]
  | d :: ds, s :: ss => by
    rw [isParts, List.zip_cons_cons, List.all_cons, isParts_zip ks ds ss]; rfl
theorem isDeed_cons (ks : List (Str × Str)) (z : Str) (ds : List PyData) : isDeed ks (.tuple (.str z :: ds)) = match tabP.lookup z with | some ss => decide (ds.length = ss.length) && (ds.zip ss).all (fun q => isPart ks q.2 q.1) | none => false := by
  rw [isDeed, isDeedL]
  cases tabP.lookup z with
  | none => rfl
  | some ss => simp only [isParts_zip]
theorem isDeed_head {ks : List (Str × Str)} {d : PyData} {ds : List PyData} (h : isS d = false) : isDeed ks (.tuple (d :: ds)) = false := by
  cases d with
  | str z => cases h
  | _ => simp [isDeed, isDeedL]
section
variable {K : PySem.W.Frag} {a b : Addr} {xs ys : List V}
theorem walk_zipT {n : Nat} (hn : n = min xs.length ys.length) : Walk (RZ.ItzT K a b) n (fun H => SqT K H a xs ∧ SqT K H b ys) (YPair (fun i => xs[i]?) (fun i => ys[i]?)) := by
  subst hn
  refine ⟨fun i _ hi q => ?_, fun _ q => ⟨xs, ys, q.1, q.2, by omega⟩, fun i H v H' _ q y => ?_⟩
  · have h1 : i < xs.length := by omega
    have h2 : i < ys.length := by omega
    exact ⟨xs, ys, xs[i], ys[i], q.1, q.2, by simp [h1], by simp [h2]⟩
  · obtain ⟨T, x, z, h1, h2, h3, h4, h5⟩ := y
    exact ⟨T, x, z, h1, h2, h3, h4 xs q.1, h5 ys q.2⟩
end
theorem range_map {α β : Type} (l : List α) (f : α → β) {n : Nat} {d : β} (h : n = l.length) : ((List.range n).map fun i => ((l[i]?.map f).getD d)) = l.map f := by
  subst h
  apply List.ext_getElem
  · simp
  · intro i h1 h2
    have : i < l.length := by simpa using h2
    simp [this]
theorem depth_mem {d : PyData} {ds : List PyData} (h : d ∈ ds) : d.depth ≤ PyData.depthAll ds := by
  induction ds with
  | nil => cases h
  | cons e ds ih =>
    rcases List.mem_cons.mp h with rfl | h
    · show _ ≤ max _ _; omega
    · have := ih h; show _ ≤ max _ _; omega
section
variable {P : Program} {w : World} {K : PySem.W.Frag} {mg : Str → Option Value} {base : Heap}
abbrev N_is_deed : List Str := ["thing", "kinds", "sorts", "part", "sort"]
theorem sc_is_deed : FnScope N_is_deed ["thing", "kinds"] (defScope (top 24)) := sc_of (by decide +kernel)
-- slots: 0:thing 1:kinds 2:sorts 3:part 4:sort
theorem ok_is_deed (T : Tx w K mg) (k n : Nat) (spX : Sp) (hX : ∀ m, m + 1 = n → ∀ vs H Q E, spPart m vs H Q E → spX vs H Q E) (c_is_part : Cl P w K mg base CX0 k "is_part" spX) : Cl P w K mg base CX0 (k + 1) "is_deed" (spDeed n) := by
  refine T.d_is_deed.cl sc_is_deed (fun _ _ _ _ _ _ us hl => match us, hl with | [_, _], _ => rfl) (fun vs H Q E h => ?_) fun f cdv A outer s H vs Q E hr h => ?_
  · obtain ⟨_, _, _, _, _, rfl, _⟩ := h; rfl
  have hu := hu_of hr
  have hu0 := hr.units0
  have hu64 := hr.units
  obtain ⟨p, d, v, dk, ks, rfl, h⟩ := h
  refine ⟨_, PSs.nox ((pss_cons (ps_if (PW.pt (pw_or (pt_not (pt_val (pe_isi T.f_isinstance T.f_tuple (pv 0) b_tuple))) (pw_or (pt_cmpR (op_eqE hu0) (pv 0) (pe_tup pa_nil) (nomark _)) (pw_or (pt_not (pt_val (pe_isi T.f_isinstance T.f_str (pe_ix ix_tup (pv 0) pe_int (fun _ _ => rfl)) b_str))) (pw_or1 (pt_cmpR (op_notInT T.k_PARTS) (pe_ix ix_tup (pv 0) pe_int (fun _ _ => rfl)) (pe_gr T.g_PARTS) rfl)))))) (pss_one (ps_ret pe_bl)) pss_nil)
      (pss_cons (ps_set (i := 2) sc_is_deed.nd rfl (Or.inl rfl) (pe_ix (ix_T T.k_PARTS) (pe_gr T.g_PARTS) (pe_ix ix_tup (pv 0) pe_int (fun _ _ => rfl)) (fun _ _ => rfl)))
      (pss_cons (ps_if (pt_cmpR op_ne (pe_callB call_len_seq rfl T.f_len b_len (pa_cons (pv 0) pa_nil)) (pe_op op_add pe_int (pe_callB call_len_seq rfl T.f_len b_len (pa_cons (pv 2) pa_nil))) (nomark _)) (pss_one (ps_ret pe_bl)) pss_nil)
      (pss_one (ps_ret (pe_callB (cr_all rfl) rfl T.f_all b_all (pa_cons (pe_lc (own := [("part", 3), ("sort", 4)]) rfl sc_is_deed.nd (RZ.pi_zipA rfl T.f_zip (pa_cons (pe_slice sl_tup (pv 0) (po_some pe_int) po_none) (pa_cons (pv 2) pa_nil))) (blkOk_by (N := N_is_deed) (sc := defScope (top 24)) (by decide +kernel)) (fun _ _ _ _ _ => (pg_tupB (n := 2) rfl (pgs_cons (pg_name (i := 3) sc_is_deed.nd rfl (Or.inl rfl)) (pgs_cons (pg_name (i := 4) sc_is_deed.nd rfl (Or.inl rfl)) pgs_nil)))) (fun _ _ _ _ _ => pts_nil) (fun _ _ _ _ _ => (pe_cl c_is_part hr (pa_cons (pv 3) (pa_cons (pv 4) (pa_cons (pv 1) pa_nil)))))) pa_nil)))))))), ?_⟩
  obtain ⟨hv, hf, hd, hkd, kk⟩ := h
  refine ⟨_, rfl, isiT hv ⟨_, rfl, ?_⟩⟩
  cases d with
  | tuple ds =>
    obtain ⟨a, xs, rfl, na, ha, hr2⟩ := hv
    refine iteF ?_
    refine ⟨_, rfl, Nat.zero_le _, fun b hb => ⟨a, b, xs, rfl, rfl, (upd_ne (ne_of_none ha hb)).trans ha, upd_same, ?_⟩⟩
    have s1 : Same H (upd H b (.tup [])) := Same.new hb
    have kk1 : ∀ H', Same (upd H b (.tup [])) H' → Q (.bl (isDeed ks (.tuple ds))) H' := fun H' s2 => kk H' (s1.trans s2)
    have ha1 : upd H b (.tup []) a = some (.tup xs) := s1 _ _ ha
    have hr3 : RpA p (upd H b (.tup [])) ds xs := hr2.mono (.of s1)
    have hkd1 : Kd p (upd H b (.tup [])) dk ks := hkd.mono (.of s1)
    revert kk1 ha1 hr3 hkd1
    generalize upd H b (.tup []) = H1
    intro kk ha hr2 hkd
    cases ds with
    | nil => cases hr2; exact ⟨_, rfl, iteT (kk H1 (Same.refl _))⟩
    | cons d ds =>
      obtain ⟨u, us, rfl, hu1, hus⟩ := hr2
      refine ⟨_, rfl, iteF ?_⟩
      refine ⟨_, rfl, a, _, 0, _, rfl, rfl, SqT.of ha, at0 _ _, isiS hu1 ⟨_, rfl, ?_⟩⟩
      cases hs : isS d with
      | false => exact iteT (by have := kk H1 (Same.refl _); rw [isDeed_head hs] at this; exact this)
      | true =>
        refine iteF ?_
        cases d with
        | str z =>
          cases hu1
          refine ⟨_, rfl, a, _, 0, _, rfl, rfl, SqT.of ha, at0 _ _, z, rfl, rfl, _, rfl, ?_⟩
          have e0 := isDeed_cons ks z ds
          rw [tabP_lk] at e0
          cases hz : tabPARTS.lookup z with
          | none => exact iteT (by have := kk H1 (Same.refl _); rw [e0, hz] at this; exact this)
          | some vs =>
            obtain ⟨e1, e2⟩ := part_strs hz
            rw [hz] at e0
            refine iteF ?_
            refine ⟨_, rfl, a, _, 0, _, rfl, rfl, SqT.of ha, at0 _ _, z, vs, rfl, rfl, hz, fun t ht => ?_⟩
            refine ⟨_, rfl, ?_⟩
            have hlu : us.length = ds.length := hus.length
            have hls : (tupS vs).length = vs.length := by unfold tupS; rw [List.length_map]
            refine ⟨a, _, rfl, .inr (SqT.of ha), _, rfl, t, _, rfl, .inr ht, _, _, rfl, rfl, rfl, _, rfl, ?_⟩
            by_cases hl : ds.length = vs.length
            · have e3 : (V.int ((V.str z :: us).length : Nat) = (fun i j => V.int (i + j)) 1 (vs.length : Nat)) := by
                show V.int _ = V.int _
                rw [List.length_cons, hlu, hl]
                congr 1
                omega
              rw [decide_eq_true e3]
              refine iteF ?_
              have hxT : SqT K H1 a (V.str z :: us) := SqT.of ha
              refine ⟨_, rfl, _, rfl, a, _, rfl, hxT, cut1_ne _ _, fun q hq => ⟨_, rfl, q, t, us, vs, rfl, .inr ⟨?_, ?_, fun D hD => ?_⟩⟩⟩
              · rw [cut1]; exact SqT.of upd_same
              · exact sqT_mono (Same.new hq) ht
              rw [cut1] at hD ⊢
              have s2 : Same H1 (upd H1 q (.tup us)) := Same.new hq
              refine lc_det (walk_zipT (xs := us) (ys := vs) (n := ds.length) (by omega)) (fun i => .bl (((ds.zip (tupS vs))[i]?.map fun q => isPart ks q.2 q.1).getD false)) hD (Nat.lt_of_le_of_lt (show _ ≤ 5 by omega) (by decide)) (fun H2 s3 => ⟨sqT_mono s3 (SqT.of upd_same), sqT_mono s3 (sqT_mono s2 ht)⟩) ?_ ?_
              · intro i x H2 H3 C hi s3 hy hC
                obtain ⟨W, x', y', rfl, hW, rfl, hx', hy'⟩ := hy
                have s4 : Same H1 (upd H2 W (.tup [x', y'])) := (s2.trans s3).trans (Same.new hW)
                obtain ⟨d, hd1, hrd⟩ := hus.getV hx'
                have hy' : vs[i]? = some y' := hy'
                rw [← e1, List.getElem?_map] at hy'
                cases hss : (tupS vs)[i]? with
                | none => rw [hss] at hy'; cases hy'
                | some ss =>
                  rw [hss] at hy'
                  cases hy'
                  refine ⟨W, _, rfl, SqT.of upd_same, rfl, ⟨_, _, rfl, _, _, rfl, rfl, rfl, ?_⟩⟩
                  have hmem : d ∈ ds := List.mem_of_getElem? hd1
                  have hdm := depth_mem hmem
                  have hd' : PyData.depthAll (PyData.str z :: ds) + 1 ≤ n := hd
                  have hd'' : max (PyData.str z).depth (PyData.depthAll ds) = PyData.depthAll (PyData.str z :: ds) := rfl
                  refine ⟨_, rfl, _, rfl, _, rfl, hX (n - 1) (by omega) _ _ _ _ ⟨p, d, x', dk, ks, ss, rfl, hrd.mono (.of s4), hf.2.2.get hd1, by omega, hkd.mono (.of s4), fun H4 s5 => ?_⟩⟩
                  have := hC H4 ((Same.new hW).trans s5)
                  rw [show (ds.zip (tupS vs))[i]? = some (d, ss) from List.getElem?_zip_eq_some.mpr ⟨hd1, hss⟩] at this
                  exact this
              · intro H2 s3 hl2
                refine ⟨D, (List.range ds.length).map fun i => (((ds.zip (tupS vs))[i]?.map fun q => isPart ks q.2 q.1).getD false), rfl, SqL.of ?_, ?_⟩
                · rw [hl2, List.map_map]; rfl
                · have := kk H2 (s2.trans s3)
                  rw [e0] at this
                  have e4 : decide (ds.length = (tupS vs).length) = true := by simp [hls, hl]
                  simp only [Option.map, e4, Bool.true_and] at this
                  rw [range_map (ds.zip (tupS vs)) (fun q => isPart ks q.2 q.1) (by rw [List.length_zip]; omega), List.all_map]
                  exact this
            · have e3 : ¬ (V.int ((V.str z :: us).length : Nat) = (fun i j => V.int (i + j)) 1 (vs.length : Nat)) := by
                show ¬ V.int _ = V.int _
                rw [List.length_cons, hlu]
                intro h
                injection h with h
                omega
              rw [decide_eq_false e3]
              refine iteT ?_
              have := kk H1 (Same.refl _)
              rw [e0] at this
              have e4 : decide (ds.length = (tupS vs).length) = false := by simp [hls, hl]
              simp only [Option.map, e4, Bool.false_and] at this
              exact this
        | _ => cases hs
  | _ => exact iteT (kk H (Same.refl _))
end
end K12
namespace K12
open PySem PySem.Spec PyProof.Rows L2

/-! ### an own exception class as a def knows it -/
structure ExcC (P : Program) (w : World) (K : PySem.W.Frag) (mg : Str → Option Value) (base : Heap) (k : Nat) (x : Str) (C : Addr) (sp : Sp) : Prop where
  ex : ∃ (fI : Addr) (fd : FuncData) (ps : List Str) (nw ni : String), OxK K C nw ni ∧ PySem.W.findIn K (.ref C) "__init__" = some (some (.ref fI)) ∧ PySem.W.typeIn K (.ref fI) = some (.type "function") ∧
    FnOk P w K mg base CX0 k fI fd ps sp ∧ Binds K fd ps [] ∧ mg x = some (.ref C)
theorem pmk_exc {X : Cx} {k j : Nat} {x : Str} {C : Addr} {sp : Sp} {p pos : Pos} {e : Expr} {es : List Expr} {ta : TA} (c : ExcC X.prog X.w X.K X.mg X.base k x C sp) (hr : Room j X.A) (ha : PA X (e :: es) ta) (hk : k + 1 ≤ j := by omega) (hg : Gl X x := by rfl)
    (hdb : (x == ("__debug__" : Str)) = false := by decide) (he : starEach (e :: es) X.env = (false, eval e X.env) :: starEach es X.env := by rfl) (hpl : (backTo pos (starEach es X.env)).any (·.1) = false := by rfl) :
    PMk X (.Call (.Name x p) (e :: es) [] pos) (tMkO C sp [] ta) := by
  obtain ⟨fI, fd, ps, nw, ni, T, iC, tI, F, b, hm⟩ := c.ex
  exact pmk_ox T iC tI F (hr.mono hk) b pass0 hm ha hg hdb he hpl
/-- what the raise of NoProgram promises -/
def spNP (K : PySem.W.Frag) : Sp := fun vs H Q _ => ∃ (a : Addr) (x y : Str), vs = [.ref a, .str x, .str y] ∧ x.length ≤ 1000 ∧ y.length ≤ 1000 ∧ H a = some (exo a (He.ga K "NoProgram") none) ∧
  ∀ dx, H dx = none → dx ≠ a → Q .non (upd (upd (upd H dx (exd dx [("what", .str x)])) a (exo a (He.ga K "NoProgram") (some dx))) dx (exd dx [("who", .str y), ("what", .str x)]))
def fget (fs : List (Str × V)) (f : Str) : Option V := fs.lookup f
/-- NoProgram(q.1, q.2) may leave -/
def Told (K : PySem.W.Frag) (E : XK) (H : Hp) (q : Str × Str) : Prop := ∀ dx H' fs, Same H H' → H' dx = some (.xd fs) → fget fs "what" = some (.str q.1) → fget fs "who" = some (.str q.2) → E (.ref (He.ga K "NoProgram")) (some dx) H'
theorem Told.mono {K : PySem.W.Frag} {E : XK} {H H' : Hp} {q : Str × Str} (s : Same H H') (t : Told K E H q) : Told K E H' q := fun dx H2 fs s2 => t dx H2 fs (s.trans s2)
/-- the raise, from what is promised -/
theorem told_raise {K : PySem.W.Frag} {E : XK} {H1 : Hp} {x y : Str} (hx : x.length ≤ 1000) (hy : y.length ≤ 1000) (t : Told K E H1 (x, y)) :
    ([V.str x, .str y] : List V).length ≤ 1000 ∧ ∀ a, H1 a = none → spNP K (.ref a :: ([V.str x, .str y] ++ [])) (upd H1 a (exo a (He.ga K "NoProgram") none))
      (fun v H2 => v = .non ∧ ∃ (d : Addr) (fs : List (Str × V)), H2 a = some (exo a (He.ga K "NoProgram") (some d)) ∧ H2 d = some (exd d fs) ∧ H1 d = none ∧ E (.ref (He.ga K "NoProgram")) (some d) (upd (del H2 a) d (.xd fs))) (fun _ _ _ => False) := by
  refine ⟨by show 2 ≤ 1000; omega, fun a ha => ⟨a, x, y, rfl, hx, hy, upd_same, fun dx hdx ne => ⟨rfl, dx, _, ?_, upd_same, ?_, ?_⟩⟩⟩
  · rw [upd_ne (Ne.symm ne), upd_same]
  · rw [upd_ne ne] at hdx; exact hdx
  · rw [upd_ne ne] at hdx
    refine t dx _ _ ?_ upd_same (by first | rfl | decide) (by first | rfl | decide)
    intro b o hb
    have h1 : b ≠ dx := ne_of_none hb hdx
    have h2 : b ≠ a := ne_of_none hb ha
    rw [upd_ne h1]
    unfold del
    rw [if_neg h2, upd_ne h1, upd_ne h2, upd_ne h1, upd_ne h2]
    exact hb
end K12
namespace K12
open PySem PySem.Spec PyProof.Rows L2

/-! ### the mirror: the whole program's look -/
abbrev Ks := List (Str × Str)
def numS (n : Int) : Str := toString n
def whoStr (d : PyData) (n : Int) : Str := match d with
  | .str x => x
  | _ => numS n
def isKindB : PyData → Bool
  | .str z => (tabSIZES.lookup z).isSome || decide (z = "bell")
  | _ => false
def sizeOk (ks : Ks) (kk : Str) (d : PyData) : Bool := if kk = "bell" then ofKind ks "lock" d else match tabSIZES.lookup kk with
  | some [.int lo, .int hi] => isNum lo hi d
  | _ => false
def badName (d : PyData) (n : Int) (ks : Ks) : Option (Str × Str) := if isName d = true then (match d with
  | .str x => if (ks.lookup x).isSome = true then some ("again", x) else none
  | _ => none) else some ("name", whoStr d n)
def strOf : PyData → Str
  | .str x => x
  | _ => ""
def badThing (t : PyData) (n : Int) (ks : Ks) : Option (Str × Str) := match t with
  | .tuple [k, nm, sz] => if isKindB k = true then (match badName nm n ks with
    | some q => some q
    | none => if sizeOk ks (strOf k) sz = true then none else some ("size", whoStr nm n)) else some ("thing", numS n)
  | _ => some ("thing", numS n)
def addThing (t : PyData) (ks : Ks) : Ks := match t with
  | .tuple [k, nm, _] => ks ++ [(strOf nm, strOf k)]
  | _ => ks
def badTask (t : PyData) (n : Int) (ks : Ks) : Option (Str × Str) := match t with
  | .tuple [nm, bg, _, _] => (match badName nm n ks with
    | some q => some q
    | none => if isB bg = true then none else some ("begun", whoStr nm n))
  | _ => some ("task", numS n)
def addTask (t : PyData) (ks : Ks) : Ks := match t with
  | .tuple [nm, _, _, _] => ks ++ [(strOf nm, ("task" : Str))]
  | _ => ks
/-- one after the other, the first that is bad ends it -/
def goL (bad : PyData → Int → Ks → Option (Str × Str)) (add : PyData → Ks → Ks) : List PyData → Nat → Ks → Except (Str × Str) Ks
  | [], _, ks => .ok ks
  | t :: ts, n, ks => match bad t n ks with
    | some q => .error q
    | none => goL bad add ts (n + 1) (add t ks)
def okBody (ks : Ks) : PyData → Bool
  | .list xs => decide (xs.length ≤ 12) && xs.all (isDeed ks)
  | _ => false
def okLast (ks : Ks) : PyData → Bool
  | .list xs => decide (xs.length ≤ 4) && xs.all (isLastDeed ks)
  | _ => false
def badDeeds (ks : Ks) : PyData → Option (Str × Str)
  | .tuple [nm, _, body, last] => if okBody ks body = true then (if okLast ks last = true then none else some ("last", whoStr nm 0)) else some ("body", whoStr nm 0)
  | _ => none
def kindsR (d : PyData) : Except (Str × Str) Ks := match d with
  | .list ts => match goL badThing addThing ts 0 [] with
    | .error q => .error q
    | .ok ks => if ts.length ≤ 10 then .ok ks else .error ("many", "things")
  | _ => .error ("thing", "things")
def tasksR (ks : Ks) (d : PyData) : Except (Str × Str) Ks := match d with
  | .list ts => match goL badTask addTask ts 0 ks with
    | .error q => .error q
    | .ok ks => if ts.length ≤ 6 then .ok ks else .error ("many", "tasks")
  | _ => .error ("task", "tasks")
def deedsR (ks : Ks) (d : PyData) : Option (Str × Str) := match d with
  | .list ts => ts.findSome? (badDeeds ks)
  | _ => none
/-- what Program(things, tasks) tells -/
def due (things tasks : PyData) : Option (Str × Str) := match kindsR things with
  | .error q => some q
  | .ok ks => match tasksR ks tasks with
    | .error q => some q
    | .ok ks => deedsR ks tasks

/-! ### promises -/
def spWho : Sp := fun vs H Q _ => ∃ p d v n, vs = [v, .int n] ∧ Rp p H d v ∧ n.natAbs ≤ 5000 ∧ ∀ H', Same H H' → Q (.str (whoStr d n)) H'
def spWant (K : PySem.W.Frag) : Sp := fun vs H Q E => ∃ p d v n dk ks, vs = [v, .int n, .ref dk] ∧ Rp p H d v ∧ Fit d ∧ n.natAbs ≤ 5000 ∧ Kd p H dk ks ∧
  match badName d n ks with
  | none => ∀ H', Same H H' → Q .non H'
  | some q => Told K E H q
def spSize : Sp := fun vs H Q _ => ∃ p d v dk ks kk, vs = [.str kk, v, .ref dk] ∧ Rp p H d v ∧ Kd p H dk ks ∧ isKindB (.str kk) = true ∧ ∀ H', Same H H' → Q (.bl (sizeOk ks kk d)) H'
/-- the pot's place is taken -/
def Held (p : Addr) (H : Hp) : Prop := H p ≠ none
theorem Held.mono {p : Addr} {H H' : Hp} (s : Same H H') (h : Held p H) : Held p H' := by
  unfold Held at *
  cases e : H p with
  | none => exact absurd e h
  | some o => rw [s _ _ e]; exact fun z => nomatch z
theorem Held.ne {p q : Addr} {H : Hp} (h : Held p H) (e : H q = none) : q ≠ p := fun z => h (z ▸ e)
def spKinds (K : PySem.W.Frag) : Sp := fun vs H Q E => ∃ p d v, vs = [v] ∧ Rp p H d v ∧ Fit d ∧ d.depth ≤ 12 ∧ Held p H ∧
  match kindsR d with
  | .ok ks => ∀ H' dk, Same H H' → Kd p H' dk ks → Q (.ref dk) H'
  | .error q => Told K E H q
def spTasks (K : PySem.W.Frag) : Sp := fun vs H Q E => ∃ p d v dk ks, vs = [.ref dk, v] ∧ Rp p H d v ∧ Fit d ∧ d.depth ≤ 12 ∧ Held p H ∧ Kd p H dk ks ∧ ks.length ≤ 2000 ∧
  match tasksR ks d with
  | .ok ks => ∀ H' dk, Same H H' → Kd p H' dk ks → Q (.ref dk) H'
  | .error q => Told K E H q
def spDeeds (K : PySem.W.Frag) : Sp := fun vs H Q E => ∃ p ds v dk ks, vs = [v, .ref dk] ∧ Rp p H (.list ds) v ∧ Fit (.list ds) ∧ (PyData.list ds).depth ≤ 12 ∧ Kd p H dk ks ∧ (∀ t ∈ ds, ∃ nm bg b l, t = .tuple [.str nm, bg, b, l]) ∧
  match deedsR ks (.list ds) with
  | none => ∀ H', Same H H' → Q .non H'
  | some q => Told K E H q

theorem num_size {n : Int} (h : n.natAbs ≤ 5000) : n.natAbs.log2 < 1920 := by
  by_cases e : n.natAbs = 0
  · rw [e]; decide
  · have : n.natAbs.log2 < 13 := (Nat.log2_lt e).mpr (Nat.lt_of_le_of_lt h (by decide))
    omega
theorem numS_len {n : Int} (h : n.natAbs ≤ 5000) : (numS n).length ≤ 20 := by
  have e := int_text_length_le10 (a := n) (k := 4) (by decide) (Nat.lt_of_le_of_lt h (by decide))
  show (Str.ofString (toString n)).length ≤ 20
  rw [PySem.ofString_length]; omega
theorem who_len {d : PyData} {n : Int} (hf : Fit d) (h : n.natAbs ≤ 5000) : (whoStr d n).length ≤ 1000 := by
  cases d with
  | str x => exact Nat.le_trans hf.1 (by decide)
  | _ => exact Nat.le_trans (numS_len h) (by decide)
theorem name_str : ∀ {d : PyData}, isName d = true → ∃ x, d = .str x
  | .str x, _ => ⟨x, rfl⟩
  | .none, h => by cases h
  | .bool _, h => by cases h
  | .int _, h => by cases h
  | .list _, h => by cases h
  | .tuple _, h => by cases h
  | .dict _, h => by cases h
theorem sizes_two : (tabSIZES.all fun q => match q.2 with | [.int _, .int _] => true | _ => false) = true := by decide +kernel
theorem size_two {kk : Str} (h : isKindB (.str kk) = true) (hb : ¬ kk = "bell") : ∃ lo hi, tabSIZES.lookup kk = some [V.int lo, V.int hi] := by
  have e : isKindB (.str kk) = ((tabSIZES.lookup kk).isSome || decide (kk = "bell")) := rfl
  rw [e, decide_eq_false hb, Bool.or_false] at h
  cases hl : tabSIZES.lookup kk with
  | none => rw [hl] at h; cases h
  | some vs =>
    have := List.all_eq_true.mp sizes_two _ (lk_mem hl)
    match vs, this with
    | [.int lo, .int hi], _ => exact ⟨lo, hi, rfl⟩
theorem badThing_no {t : PyData} {n : Int} {ks : Ks} (h : ∀ a b c, t ≠ .tuple [a, b, c]) : badThing t n ks = (some ("thing", numS n) : Option (Str × Str)) := by
  unfold badThing
  split
  · rename_i a b c; exact absurd rfl (h a b c)
  · rfl
theorem badTask_no {t : PyData} {n : Int} {ks : Ks} (h : ∀ a b c d, t ≠ .tuple [a, b, c, d]) : badTask t n ks = (some ("task", numS n) : Option (Str × Str)) := by
  unfold badTask
  split
  · rename_i a b c d; exact absurd rfl (h a b c d)
  · rfl
theorem bad_no {d : PyData} {n : Int} {ks : Ks} (h : isName d = false) : badName d n ks = (some ("name", whoStr d n) : Option (Str × Str)) := by
  unfold badName; rw [h, if_neg (by simp)]
theorem bad_yes {x : Str} {n : Int} {ks : Ks} (h : isName (.str x) = true) : badName (.str x) n ks = (if (ks.lookup x).isSome = true then some ("again", x) else none : Option (Str × Str)) := by
  unfold badName; rw [h, if_pos rfl]
theorem locks_in (ks : Ks) (z : Str) : (if false = true then !inV ((Option.map V.str (List.lookup z ks)).getD V.non) ((["lock", "relock"] : List Str).map V.str) else inV ((Option.map V.str (List.lookup z ks)).getD V.non) ((["lock", "relock"] : List Str).map V.str)) = ofKind ks "lock" (.str z) := by
  rw [if_neg (by simp)]
  unfold ofKind
  simp only [if_true]
  cases hz : ks.lookup z with
  | none => rw [show (Option.map V.str (none : Option Str)).getD V.non = .non from rfl, inV_non]; simp
  | some y =>
    rw [show (Option.map V.str (some y)).getD V.non = .str y from rfl, inV_strs]
    simp
section
variable {P : Program} {w : World} {K : PySem.W.Frag} {mg : Str → Option Value} {base : Heap}
theorem part_none (T : Tx w K mg) : Cl P w K mg base CX0 2 "is_part" (fun _ _ _ _ => False) := by
  refine T.d_is_part.cl (N := ["thing", "sort", "kinds", "least", "most"]) (ps := ["thing", "sort", "kinds"]) (sc_of (by decide +kernel)) (fun _ _ _ _ _ _ us hl => match us, hl with | [_, _, _], _ => rfl) (fun vs H Q E h => h.elim) fun f cdv A outer s H vs Q E hr h => h.elim
theorem deeds_ok (T : Tx w K mg) : ∀ n, Cl P w K mg base CX0 (2 * n + 3) "is_deed" (spDeed n)
  | 0 => ok_is_deed T 2 0 (fun _ _ _ _ => False) (fun m h => by omega) (part_none T)
  | n + 1 => ok_is_deed T (2 * n + 4) (n + 1) (spPart n) (fun m h vs H Q E g => by
      have : m = n := by omega
      subst this; exact g) (ok_is_part T (2 * n + 3) n (by omega) ((ok_is_number T).mono (by omega)) ((ok_is_name T ((ok_is_word T).mono (by omega))).mono (by omega)) (deeds_ok T n) ((ok_is_of_kind T).mono (by omega)))
def spLast (n : Nat) : Sp := fun vs H Q _ => ∃ p d v dk ks, vs = [v, .ref dk] ∧ Rp p H d v ∧ Fit d ∧ d.depth ≤ n ∧ Kd p H dk ks ∧ ∀ H', Same H H' → Q (.bl (isLastDeed ks d)) H'
abbrev N_is_last_deed : List Str := ["thing", "kinds"]
theorem sc_is_last_deed : FnScope N_is_last_deed ["thing", "kinds"] (defScope (top 25)) := sc_of (by decide +kernel)
-- slots: 0:thing 1:kinds
theorem ok_is_last_deed (T : Tx w K mg) (k n : Nat) (c_is_deed : Cl P w K mg base CX0 k "is_deed" (spDeed n)) : Cl P w K mg base CX0 (k + 1) "is_last_deed" (spLast n) := by
  refine T.d_is_last_deed.cl sc_is_last_deed (fun _ _ _ _ _ _ us hl => match us, hl with | [_, _], _ => rfl) (fun vs H Q E h => ?_) fun f cdv A outer s H vs Q E hr h => ?_
  · obtain ⟨_, _, _, _, _, rfl, _⟩ := h; rfl
  have hu := hu_of hr
  have hu0 := hr.units0
  have hu64 := hr.units
  obtain ⟨p, d, v, dk, ks, rfl, h⟩ := h
  refine ⟨_, PSs.nox ((pss_one (ps_ret (pe_and (pe_cl c_is_deed hr (pa_cons (pv 0) (pa_cons (pv 1) pa_nil))) (pe_one (pe_cmpR op_in_seq (pe_ix ix_tup (pv 0) pe_int (fun _ _ => rfl)) (pe_gr T.g_LASTS) rfl)))))), ?_⟩
  obtain ⟨hv, hf, hd, hkd, kk⟩ := h
  refine ⟨_, rfl, _, rfl, p, d, v, dk, ks, rfl, hv, hf, hd, hkd, fun H1 s1 => ⟨_, rfl, ?_⟩⟩
  have kk1 := kk H1 s1
  refine ite2 (fun hx => ?_) (fun hx => ?_)
  · obtain ⟨w', ds, rfl⟩ := deed_head hx
    obtain ⟨a, u, us, rfl, na, ha, hu1, hus⟩ := tup_head hv
    cases hu1
    refine ⟨_, rfl, a, _, 0, _, rfl, rfl, SqT.of (s1 _ _ ha), at0 _ _, ?_⟩
    refine ⟨_, tupLASTS, rfl, .inr (T.q_LASTS H1), rfl, ?_, ?_⟩
    · rw [tupL]; exact flat_strs _
    · rw [tupL, inV_strs]
      unfold isLastDeed at kk1
      rw [hx] at kk1
      exact kk1
  · have hx' : isDeed ks d = false := by simpa using hx
    unfold isLastDeed at kk1
    rw [hx'] at kk1
    exact kk1
abbrev N_who_is : List Str := ["name", "number"]
theorem sc_who_is : FnScope N_who_is ["name", "number"] (defScope (top 43)) := sc_of (by decide +kernel)
-- slots: 0:name 1:number
theorem ok_who_is (T : Tx w K mg) : Cl P w K mg base CX0 1 "who_is" spWho := by
  refine T.d_who_is.cl sc_who_is (fun _ _ _ _ _ _ us hl => match us, hl with | [_, _], _ => rfl) (fun vs H Q E h => ?_) fun f cdv A outer s H vs Q E hr h => ?_
  · obtain ⟨_, _, _, _, rfl, _⟩ := h; rfl
  have hu := hu_of hr
  have hu0 := hr.units0
  have hu64 := hr.units
  obtain ⟨p, d, v, n, rfl, h⟩ := h
  refine ⟨_, PSs.nox ((pss_cons (ps_if (pt_val (pe_isi T.f_isinstance T.f_str (pv 0) b_str)) (pss_one (ps_ret (pv 0))) pss_nil)
      (pss_one (ps_ret (pe_callTy call_str_int rfl T.f_str b_str (pa_cons (pv 1) pa_nil)))))), ?_⟩
  obtain ⟨hv, hn, kk⟩ := h
  refine ⟨_, rfl, isiS hv ⟨_, rfl, ?_⟩⟩
  have kk1 := kk H (Same.refl _)
  cases d with
  | str x => cases hv; exact iteT ⟨_, rfl, kk1⟩
  | _ => exact iteF ⟨_, rfl, _, rfl, num_size hn, kk1⟩
abbrev N_is_kind : List Str := ["thing"]
theorem sc_is_kind : FnScope N_is_kind ["thing"] (defScope (top 45)) := sc_of (by decide +kernel)
-- slots: 0:thing
theorem ok_is_kind (T : Tx w K mg) : Cl P w K mg base CX0 1 "is_kind" (spLook isKindB) := by
  refine T.d_is_kind.cl sc_is_kind (fun _ _ _ _ _ _ us hl => match us, hl with | [_], _ => rfl) (fun vs H Q E h => ?_) fun f cdv A outer s H vs Q E hr h => ?_
  · obtain ⟨_, _, _, rfl, _⟩ := h; rfl
  have hu := hu_of hr
  have hu0 := hr.units0
  have hu64 := hr.units
  obtain ⟨p, d, v, rfl, h⟩ := h
  refine ⟨_, PSs.nox ((pss_one (ps_ret (pe_and (pe_isi T.f_isinstance T.f_str (pv 0) b_str) (pe_one (pe_or (pe_cmpR (op_inT T.k_SIZES) (pv 0) (pe_gr T.g_SIZES) rfl) (pe_one (pe_cmpR op_eq (pv 0) (pe_gs T.s_BELL) (nomark _))))))))), ?_⟩
  obtain ⟨hv, hf, kk⟩ := h
  refine ⟨_, rfl, isiS hv ⟨_, rfl, ?_⟩⟩
  have kk1 := kk H (Same.refl _)
  cases d with
  | str x =>
    cases hv
    refine iteT ⟨_, rfl, x, rfl, rfl, ?_⟩
    refine ⟨_, rfl, ?_⟩
    have e : isKindB (.str x) = ((tabSIZES.lookup x).isSome || decide (x = "bell")) := rfl
    rw [e] at kk1
    refine ite2 (fun hx => ?_) (fun hx => ?_)
    · rw [hx] at kk1; exact kk1
    · have hx' : (tabSIZES.lookup x).isSome = false := eq_false_of_ne_true hx
      rw [hx', Bool.false_or] at kk1
      refine ⟨_, rfl, rfl, ?_⟩
      simpa using kk1
  | _ => exact iteF kk1
abbrev N_want_name : List Str := ["name", "number", "kinds"]
theorem sc_want_name : FnScope N_want_name ["name", "number", "kinds"] (defScope (top 44)) := sc_of (by decide +kernel)
-- slots: 0:name 1:number 2:kinds
theorem ok_want_name (T : Tx w K mg) (x_NoProgram : ExcC P w K mg base 1 "NoProgram" (He.ga K "NoProgram") (spNP K)) (c_is_name : Cl P w K mg base CX0 2 "is_name" (spLook isName)) (c_who_is : Cl P w K mg base CX0 1 "who_is" spWho) : Cl P w K mg base (L2.CX P w) 3 "want_name" (spWant K) := by
  refine T.d_want_name.cl sc_want_name (fun _ _ _ _ _ _ us hl => match us, hl with | [_, _, _], _ => rfl) (fun vs H Q E h => ?_) fun f cdv A outer s H vs Q E hr h => ?_
  · obtain ⟨_, _, _, _, _, _, rfl, _⟩ := h; rfl
  have hu := hu_of hr
  have hu0 := hr.units0
  have hu64 := hr.units
  obtain ⟨p, d, v, n, dk, ks, rfl, h⟩ := h
  refine ⟨_, ((pss_cons (ps_if (pt_not (pt_val (pe_cl c_is_name hr (pa_cons (pv 0) pa_nil)))) (pss_one (ps_raise rfl (takes_of rfl rfl rfl rfl) (pmk_exc x_NoProgram hr (pa_cons pe_str (pa_cons (pe_cl c_who_is hr (pa_cons (pv 0) (pa_cons (pv 1) pa_nil))) pa_nil))))) pss_nil)
      (pss_one (ps_if (pt_cmp (pc_din hu (pv 0) (pv 2))) (pss_one (ps_raise rfl (takes_of rfl rfl rfl rfl) (pmk_exc x_NoProgram hr (pa_cons pe_str (pa_cons (pv 0) pa_nil))))) pss_nil)))), ?_⟩
  obtain ⟨hv, hf, hn, hkd, kk⟩ := h
  refine ⟨_, rfl, p, d, v, rfl, hv, hf, fun H1 s1 => ⟨_, rfl, ?_⟩⟩
  cases hx : isName d with
  | false =>
    rw [bad_no hx] at kk
    refine iteT ?_
    refine ⟨_, rfl, _, rfl, p, d, v, n, rfl, hv.mono (.of s1), hn, fun H2 s2 => ?_⟩
    exact told_raise (by decide) (who_len hf hn) (Told.mono (s1.trans s2) kk)
  | true =>
    obtain ⟨x, rfl⟩ := name_str hx
    rw [bad_yes hx] at kk
    cases hv
    have hkd1 : Kd p H1 dk ks := hkd.mono (.of s1)
    refine iteF ?_
    have g := DGet.k (k := Sum.inr x) hkd1.2
    rw [valV_kv] at g
    refine ⟨_, rfl, _, rfl, dk, _, rfl, g, _, rfl, ?_⟩
    have e1 : (Option.map V.str (List.lookup x ks)).isSome = (List.lookup x ks).isSome := by cases List.lookup x ks <;> rfl
    rw [e1]
    cases hl : (List.lookup x ks).isSome with
    | true =>
      rw [hl] at kk
      refine iteT ⟨_, rfl, ?_⟩
      exact told_raise (by decide) (Nat.le_trans hf.1 (by decide)) (Told.mono s1 kk)
    | false =>
      rw [hl] at kk
      exact iteF (kk H1 s1)
abbrev N_is_size : List Str := ["kind", "size", "kinds", "least", "most"]
theorem sc_is_size : FnScope N_is_size ["kind", "size", "kinds"] (defScope (top 46)) := sc_of (by decide +kernel)
-- slots: 0:kind 1:size 2:kinds 3:least 4:most
theorem ok_is_size (T : Tx w K mg) (c_is_number : Cl P w K mg base CX0 1 "is_number" spNum) : Cl P w K mg base CX0 2 "is_size" spSize := by
  refine T.d_is_size.cl sc_is_size (fun _ _ _ _ _ _ us hl => match us, hl with | [_, _, _], _ => rfl) (fun vs H Q E h => ?_) fun f cdv A outer s H vs Q E hr h => ?_
  · obtain ⟨_, _, _, _, _, _, rfl, _⟩ := h; rfl
  have hu := hu_of hr
  have hu0 := hr.units0
  have hu64 := hr.units
  obtain ⟨p, d, v, dk, ks, kk, rfl, h⟩ := h
  refine ⟨_, PSs.nox ((pss_cons (ps_if (pt_cmpR op_eq (pv 0) (pe_gs T.s_BELL) (nomark _)) (pss_one (ps_ret (pe_and (pe_isi T.f_isinstance T.f_str (pv 1) b_str) (pe_one (pe_cmpR (op_in_seq) (pe_dget1 hu (pv 2) (pv 1) ⟨rfl, rfl, rfl, rfl⟩) (pe_gr T.g_LOCKS) rfl))))) pss_nil)
      (pss_cons (ps_asg (pe_ix (ix_T T.k_SIZES) (pe_gr T.g_SIZES) (pv 0) (fun _ _ => rfl)) (pg_tup rfl (pgs_cons (pg_name (i := 3) sc_is_size.nd rfl (Or.inl rfl)) (pgs_cons (pg_name (i := 4) sc_is_size.nd rfl (Or.inl rfl)) pgs_nil))))
      (pss_one (ps_ret (pe_cl c_is_number hr (pa_cons (pv 1) (pa_cons (pv 3) (pa_cons (pv 4) pa_nil))))))))), ?_⟩
  obtain ⟨hv, hkd, hkk, k⟩ := h
  have kq := k H (Same.refl _)
  refine ⟨_, rfl, rfl, _, rfl, ?_⟩
  unfold sizeOk at k kq
  refine ite2 (fun hb => ?_) (fun hb => ?_)
  · have hb' : kk = "bell" := by simpa using hb
    rw [if_pos hb'] at k kq
    refine ⟨_, rfl, isiS hv ⟨_, rfl, ?_⟩⟩
    cases d with
    | str z =>
      cases hv
      refine iteT ?_
      have g := DGet.k (k := Sum.inr z) hkd.2
      rw [valV_kv] at g
      refine ⟨_, rfl, dk, rfl, .inl ⟨_, .inl hkd.2⟩, _, rfl, _, g, _, tupLOCKS, rfl, .inr (T.q_LOCKS H), ?_⟩
      rw [tupK]
      refine ⟨?_, flat_strs _, ?_⟩
      · cases ks.lookup z <;> rfl
      · rw [locks_in]; exact kq
    | _ => exact iteF kq
  · have hb' : ¬ kk = "bell" := by simpa using hb
    rw [if_neg hb'] at k kq
    obtain ⟨lo, hi, e⟩ := size_two hkk hb'
    refine ⟨_, rfl, kk, _, rfl, rfl, e, fun t ht => ⟨t, _, rfl, ht, rfl, _, _, rfl, _, _, rfl, rfl, ?_⟩⟩
    refine ⟨_, rfl, _, rfl, _, rfl, p, d, v, lo, hi, rfl, hv, fun H1 s1 => ?_⟩
    have := k H1 s1
    rw [e] at this
    exact this
end
/-- the names' kinds, one more -/
theorem kv_put {ks : Ks} {x k : Str} (h : (ks.lookup x).isSome = false) : putK (kvOf ks) (Sum.inr x : Key) (.str k) = kvOf (ks ++ [(x, k)]) := by
  rw [putK_new]
  · unfold kvOf; rw [List.map_append]; rfl
  · rw [valV_kv]
    cases e : ks.lookup x with
    | none => rfl
    | some y => rw [e] at h; cases h
theorem kv_len (ks : Ks) : (kvOf ks).length = ks.length := by unfold kvOf; rw [List.length_map]
end K12
namespace K12
open PySem PySem.Spec PyProof.Rows L2
theorem goL_at {bad : PyData → Int → Ks → Option (Str × Str)} {add : PyData → Ks → Ks} {ts : List PyData} {i : Nat} {t : PyData} {ks : Ks} (h : ts[i]? = some t) :
    goL bad add (ts.drop i) i ks = match bad t i ks with
      | some q => .error q
      | none => goL bad add (ts.drop (i + 1)) (i + 1) (add t ks) := by
  have hi : i < ts.length := (List.getElem?_eq_some_iff.mp h).1
  rw [List.drop_eq_getElem_cons hi, (List.getElem?_eq_some_iff.mp h).2]
  rfl
theorem goL_end {bad : PyData → Int → Ks → Option (Str × Str)} {add : PyData → Ks → Ks} {ts : List PyData} {i : Nat} {ks : Ks} (h : ts.length ≤ i) : goL bad add (ts.drop i) i ks = .ok ks := by
  rw [List.drop_eq_nil_of_le h]; rfl
theorem kindsR_bad {ts : List PyData} {q : Str × Str} (h : goL badThing addThing ts 0 [] = .error q) : kindsR (.list ts) = .error q := by
  unfold kindsR; simp only [h]
theorem kindsR_ok {ts : List PyData} {ks : Ks} (h : goL badThing addThing ts 0 [] = .ok ks) : kindsR (.list ts) = (if ts.length ≤ 10 then .ok ks else .error ("many", "things") : Except (Str × Str) Ks) := by
  unfold kindsR; simp only [h]
theorem rp3 {p : Addr} {H : Hp} {ds : List PyData} {ys : List V} (h : RpA p H ds ys) (hl : ys.length = 3) : ∃ k nm sz vk vn vs, ds = [k, nm, sz] ∧ ys = [vk, vn, vs] ∧ Rp p H k vk ∧ Rp p H nm vn ∧ Rp p H sz vs := by
  match ds, ys, h, hl with
  | [k, nm, sz], [vk, vn, vs], hys, _ =>
    obtain ⟨_, _, e, h1, _, _, e2, h2, _, _, e3, h3, _⟩ := hys
    cases e; cases e2; cases e3
    exact ⟨k, nm, sz, _, _, _, rfl, rfl, h1, h2, h3⟩
  | [], [], _, hl => cases hl
  | [], _ :: _, h, _ => cases h
  | [_], ys, h, hl => have := RpA.length h; rw [hl] at this; cases this
  | [_, _], ys, h, hl => have := RpA.length h; rw [hl] at this; cases this
  | _ :: _ :: _ :: _ :: _, ys, h, hl => have := RpA.length h; rw [hl] at this; simp at this
  | [_, _, _], [], h, hl => cases hl
  | [_, _, _], [_], h, hl => cases hl
  | [_, _, _], [_, _], h, hl => cases hl
  | [_, _, _], _ :: _ :: _ :: _ :: _, h, hl => simp at hl
theorem badThing_kind {k nm sz : PyData} {n : Int} {ks : Ks} (h : isKindB k = false) : badThing (.tuple [k, nm, sz]) n ks = (some ("thing", numS n) : Option (Str × Str)) := by
  unfold badThing; simp only [h, Bool.false_eq_true, if_false]
theorem badThing_name {k nm sz : PyData} {n : Int} {ks : Ks} {q : Str × Str} (h : isKindB k = true) (g : badName nm n ks = some q) : badThing (.tuple [k, nm, sz]) n ks = some q := by
  unfold badThing; simp only [h, if_true, g]
theorem badThing_size {k nm sz : PyData} {n : Int} {ks : Ks} (h : isKindB k = true) (g : badName nm n ks = none) : badThing (.tuple [k, nm, sz]) n ks = (if sizeOk ks (strOf k) sz = true then none else some ("size", whoStr nm n) : Option (Str × Str)) := by
  unfold badThing; simp only [h, if_true, g]
theorem bad_none {d : PyData} {n : Int} {ks : Ks} (h : badName d n ks = none) : ∃ x, d = .str x ∧ isName (.str x) = true ∧ (ks.lookup x).isSome = false := by
  cases e : isName d with
  | false => rw [bad_no e] at h; cases h
  | true =>
    obtain ⟨x, rfl⟩ := name_str e
    rw [bad_yes e] at h
    refine ⟨x, rfl, e, ?_⟩
    cases g : (ks.lookup x).isSome with
    | false => rfl
    | true => rw [g, if_pos rfl] at h; cases h
theorem kind_str : ∀ {d : PyData}, isKindB d = true → ∃ x, d = .str x
  | .str x, _ => ⟨x, rfl⟩
  | .none, h => by cases h
  | .bool _, h => by cases h
  | .int _, h => by cases h
  | .list _, h => by cases h
  | .tuple _, h => by cases h
  | .dict _, h => by cases h
section
variable {P : Program} {w : World} {K : PySem.W.Frag} {mg : Str → Option Value} {base : Heap}
abbrev N_kinds_of : List Str := ["things", "kinds", "number", "thing", "kind", "name", "size"]
theorem sc_kinds_of : FnScope N_kinds_of ["things"] (defScope (top 47)) := sc_of (by decide +kernel)
-- slots: 0:things 1:kinds 2:number 3:thing 4:kind 5:name 6:size
theorem ok_kinds_of (T : Tx w K mg) (k : Nat) (hk : 3 ≤ k) (x_NoProgram : ExcC P w K mg base 1 "NoProgram" (He.ga K "NoProgram") (spNP K)) (c_want_name : Cl P w K mg base (L2.CX P w) 3 "want_name" (spWant K)) (c_is_kind : Cl P w K mg base CX0 1 "is_kind" (spLook isKindB)) (c_is_size : Cl P w K mg base CX0 2 "is_size" spSize) : Cl P w K mg base (L2.CX P w) (k + 1) "kinds_of" (spKinds K) := by
  refine T.d_kinds_of.cl sc_kinds_of (fun _ _ _ _ _ _ us hl => match us, hl with | [_], _ => rfl) (fun vs H Q E h => ?_) fun f cdv A outer s H vs Q E hr h => ?_
  · obtain ⟨_, _, _, rfl, _⟩ := h; rfl
  have hu := hu_of hr
  have hu0 := hr.units0
  have hu64 := hr.units
  obtain ⟨p, d, v, rfl, h⟩ := h
  refine ⟨_, ((pss_cons (ps_if (pt_not (pt_val (pe_isi T.f_isinstance T.f_list (pv 0) b_list))) (pss_one (ps_raise rfl (takes_of rfl rfl rfl rfl) (pmk_exc x_NoProgram hr (pa_cons pe_str (pa_cons pe_str pa_nil))))) pss_nil)
      (pss_cons (ps_set (i := 1) sc_kinds_of.nd rfl (Or.inl rfl) pe_dnewK)
      (pss_cons (ps_for (passes_of rfl) rfl (pi_enum rfl T.f_enumerate (pa_cons (pv 0) pa_nil)) (pg_tup rfl (pgs_cons (pg_name (i := 2) sc_kinds_of.nd rfl (Or.inl rfl)) (pgs_cons (pg_name (i := 3) sc_kinds_of.nd rfl (Or.inl rfl)) pgs_nil))) (pss_cons (ps_if (PW.pt (pw_or (pt_not (pt_val (pe_isi T.f_isinstance T.f_tuple (pv 3) b_tuple))) (pw_or (pt_cmpR op_ne (pe_callB call_len_seq rfl T.f_len b_len (pa_cons (pv 3) pa_nil)) pe_int (nomark _)) (pw_or1 (pt_not (pt_val (pe_cl c_is_kind hr (pa_cons (pe_ix ix_tup (pv 3) pe_int (fun _ _ => rfl)) pa_nil)))))))) (pss_one (ps_raise rfl (takes_of rfl rfl rfl rfl) (pmk_exc x_NoProgram hr (pa_cons pe_str (pa_cons (pe_callTy call_str_int rfl T.f_str b_str (pa_cons (pv 2) pa_nil)) pa_nil))))) pss_nil)
      (pss_cons (ps_asg (pv 3) (pg_tup rfl (pgs_cons (pg_name (i := 4) sc_kinds_of.nd rfl (Or.inl rfl)) (pgs_cons (pg_name (i := 5) sc_kinds_of.nd rfl (Or.inl rfl)) (pgs_cons (pg_name (i := 6) sc_kinds_of.nd rfl (Or.inl rfl)) pgs_nil)))))
      (pss_cons (ps_expr (pe_clX c_want_name hr (passes_call (takes_of rfl rfl rfl rfl) (fun _ _ _ _ h => h)) (pa_cons (pv 5) (pa_cons (pv 2) (pa_cons (pv 1) pa_nil)))))
      (pss_cons (ps_if (pt_not (pt_val (pe_cl c_is_size hr (pa_cons (pv 4) (pa_cons (pv 6) (pa_cons (pv 1) pa_nil)))))) (pss_one (ps_raise rfl (takes_of rfl rfl rfl rfl) (pmk_exc x_NoProgram hr (pa_cons pe_str (pa_cons (pv 5) pa_nil))))) pss_nil)
      (pss_one (ps_dput hu (pv 1) (pv 5) (pv 4) rfl)))))))
      (pss_cons (ps_if (pt_cmpR op_gt (pe_callB call_len_seq rfl T.f_len b_len (pa_cons (pv 0) pa_nil)) (pe_gi T.i_MOST_THINGS) (nomark _)) (pss_one (ps_raise rfl (takes_of rfl rfl rfl rfl) (pmk_exc x_NoProgram hr (pa_cons pe_str (pa_cons pe_str pa_nil))))) pss_nil)
      (pss_one (ps_ret (pv 1)))))))), ?_⟩
  obtain ⟨hv, hf, hd, hp, kk⟩ := h
  refine ⟨_, rfl, isiL hv ⟨_, rfl, ?_⟩⟩
  cases d with
  | list ts =>
    refine iteF ?_
    obtain ⟨a, xs, rfl, na, ha, hxs⟩ := hv
    have hlen : xs.length = ts.length := hxs.length
    have hts : ts.length ≤ 1000 := hf.1
    intro dk hdk
    have hdp : dk ≠ p := hp.ne hdk
    have s1 : Same H (upd H dk (.dK [])) := Same.new hdk
    refine ⟨_, rfl, a, xs, rfl, SqL.of (s1 _ _ ha), ?_⟩
    refine for_it (walk_enum (xs := xs)) (fun i σ H' => ∃ ks x2 x3 x4 x5 x6, σ = [some (.ref a), some (.ref dk), x2, x3, x4, x5, x6] ∧ Same H H' ∧ Kd p H' dk ks ∧ ks.length ≤ i ∧ goL badThing addThing ts 0 [] = goL badThing addThing (ts.drop i) i ks) ?_ ?_ ?_ ?_
    · exact ⟨[], none, none, none, none, none, rfl, s1, ⟨hdp, upd_same⟩, Nat.le_refl _, rfl⟩
    · rintro i σ H' hi ⟨ks, x2, x3, x4, x5, x6, e, s2, _⟩
      exact SqL.of (s2 _ _ ha)
    · rintro i x σ H1 H2 hi ⟨ks, x2, x3, x4, x5, x6, rfl, s2, hkd, hks, hgo⟩ ⟨W, y1, y, rfl, hW, rfl, hy1, hy⟩
      cases hy1
      have s3 : Same H1 (upd H1 W (.tup [.int i, y])) := Same.new hW
      obtain ⟨t, hti, hrt⟩ := hxs.getV hy
      have hkd3 := hkd.mono (.of s3)
      have s4 := s2.trans s3
      have hrt4 := hrt.mono (.of s4)
      have hft : Fit t := hf.2.get hti
      rw [goL_at hti] at hgo
      refine ⟨W, _, rfl, SqT.of upd_same, rfl, _, _, rfl, _, _, rfl, rfl, ?_⟩
      revert s4 hkd3 hrt4
      generalize upd H1 W (.tup [.int i, y]) = H2
      intro hkd3 s4 hrt4
      have hi5 : ((i : Nat) : Int).natAbs ≤ 5000 := by omega
      have bad : ∀ q, badThing t i ks = some q → Told K E H q := fun q e => by
        rw [e] at hgo
        have := kk
        rw [kindsR_bad hgo] at this
        exact this
      refine ⟨_, rfl, isiT hrt4 ⟨_, rfl, ?_⟩⟩
      cases t with
      | tuple ds =>
        refine iteF ?_
        obtain ⟨b, ys, rfl, nb, hb, hys⟩ := hrt4
        have hyl : ys.length = ds.length := hys.length
        refine ⟨_, rfl, b, ys, rfl, .inr (SqT.of hb), rfl, _, rfl, ?_⟩
        by_cases h3 : ys.length = 3
        · rw [h3]
          refine iteF ?_
          obtain ⟨k, nm, sz, vk, vn, vs, rfl, rfl, hk, hn, hs⟩ := rp3 hys h3
          have hf3 : Fit k ∧ Fit nm ∧ Fit sz := ⟨hft.2.1, hft.2.2.1, hft.2.2.2.1⟩
          refine ⟨_, rfl, b, _, 0, _, rfl, rfl, SqT.of hb, at0 _ _, p, k, vk, rfl, hk, hf3.1, fun H3 s5 => ⟨_, rfl, ?_⟩⟩
          have hb5 := s5 _ _ hb
          have hk5 := hk.mono (.of s5)
          have hn5 := hn.mono (.of s5)
          have hs5 := hs.mono (.of s5)
          have hkd5 := hkd3.mono (.of s5)
          have s05 := s4.trans s5
          cases hkk : isKindB k with
          | false =>
            exact iteT ⟨_, rfl, _, rfl, num_size hi5, told_raise (by decide) (Nat.le_trans (numS_len hi5) (by decide)) (Told.mono s05 (bad _ (badThing_kind hkk)))⟩
          | true =>
            obtain ⟨kk', rfl⟩ := kind_str hkk
            cases hk5
            refine iteF ?_
            refine ⟨_, rfl, b, _, rfl, SqT.of hb5, rfl, _, _, rfl, _, _, rfl, _, _, rfl, rfl, ?_⟩
            refine ⟨_, rfl, _, rfl, _, rfl, p, nm, vn, i, dk, ks, rfl, hn5, hf3.2.1, hi5, hkd5, ?_⟩
            cases hbn : badName nm i ks with
            | some q => exact Told.mono s05 (bad q (badThing_name hkk hbn))
            | none =>
              intro H4 s6
              obtain ⟨x, rfl, hx1, hx2⟩ := bad_none hbn
              cases hn5
              have s06 := s05.trans s6
              have hsz := badThing_size (sz := sz) hkk hbn
              refine ⟨_, rfl, _, rfl, _, rfl, p, sz, vs, dk, ks, kk', rfl, hs5.mono (.of s6), hkd5.mono (.of s6), hkk, fun H5 s7 => ⟨_, rfl, ?_⟩⟩
              have s07 := s06.trans s7
              cases hso : sizeOk ks kk' sz with
              | false =>
                refine iteT ⟨_, rfl, told_raise (by decide) (Nat.le_trans hf3.2.1.1 (by decide)) (Told.mono s07 (bad _ ?_))⟩
                rw [hsz]
                show (if sizeOk ks kk' sz = true then _ else _) = _
                rw [hso]; rfl
              | true =>
                have hnone : badThing (.tuple [.str kk', .str x, sz]) i ks = none := by
                  rw [hsz]
                  show (if sizeOk ks kk' sz = true then _ else _) = _
                  rw [hso]; rfl
                rw [hnone] at hgo
                have hkd7 := (hkd5.mono (.of s6)).mono (.of s7)
                refine iteF ⟨_, rfl, _, rfl, _, rfl, dk, _, rfl, DPut.k (k := Sum.inr x) hkd7.2 (by rw [kv_len]; exact Nat.lt_of_le_of_lt (show _ ≤ 1000 by omega) (by decide)), ?_⟩
                refine ⟨ks ++ [(x, kk')], _, _, _, _, _, rfl, Same.mut s07 hdk, ⟨hdp, ?_⟩, ?_, hgo⟩
                · rw [upd_same, kv_put hx2]
                · rw [List.length_append]; simp; omega
        · have e3 : ¬ (V.int (ys.length : Nat) = V.int 3) := by
            intro z; injection z with z; omega
          rw [decide_eq_false e3]
          refine iteT ?_
          exact ⟨_, rfl, _, rfl, num_size hi5, told_raise (by decide) (Nat.le_trans (numS_len hi5) (by decide)) (Told.mono s4 (bad _ (badThing_no (fun a b c z => by cases z; exact h3 hyl))))⟩
      | _ => exact iteT ⟨_, rfl, _, rfl, num_size hi5, told_raise (by decide) (Nat.le_trans (numS_len hi5) (by decide)) (Told.mono s4 (bad _ (badThing_no (fun _ _ _ z => nomatch z))))⟩
    · rintro σ H1 ⟨ks, x2, x3, x4, x5, x6, rfl, s2, hkd, hks, hgo⟩
      rw [goL_end (by omega)] at hgo
      rw [kindsR_ok hgo] at kk
      refine ⟨_, rfl, a, _, rfl, .inl (SqL.of (s2 _ _ ha)), _, _, rfl, rfl, _, rfl, ?_⟩
      by_cases h10 : ts.length ≤ 10
      · rw [if_pos h10] at kk
        rw [decide_eq_false (show ¬ (10 : Int) < (xs.length : Nat) by omega)]
        exact iteF ⟨_, rfl, kk H1 dk s2 hkd⟩
      · rw [if_neg h10] at kk
        rw [decide_eq_true (show (10 : Int) < (xs.length : Nat) by omega)]
        exact iteT (told_raise (by decide) (by decide) (Told.mono s2 kk))
  | _ => exact iteT (told_raise (by decide) (by decide) kk)
end
end K12
namespace K12
open PySem PySem.Spec PyProof.Rows L2
theorem tasksR_bad {ts : List PyData} {ks0 : Ks} {q : Str × Str} (h : goL badTask addTask ts 0 ks0 = .error q) : tasksR ks0 (.list ts) = .error q := by
  unfold tasksR; simp only [h]
theorem tasksR_ok {ts : List PyData} {ks0 ks : Ks} (h : goL badTask addTask ts 0 ks0 = .ok ks) : tasksR ks0 (.list ts) = (if ts.length ≤ 6 then .ok ks else .error ("many", "tasks") : Except (Str × Str) Ks) := by
  unfold tasksR; simp only [h]
theorem badTask_name {nm bg b l : PyData} {n : Int} {ks : Ks} {q : Str × Str} (g : badName nm n ks = some q) : badTask (.tuple [nm, bg, b, l]) n ks = some q := by
  unfold badTask; simp only [g]
theorem badTask_begun {nm bg b l : PyData} {n : Int} {ks : Ks} (g : badName nm n ks = none) : badTask (.tuple [nm, bg, b, l]) n ks = (if isB bg = true then none else some ("begun", whoStr nm n) : Option (Str × Str)) := by
  unfold badTask; simp only [g]
theorem rp4 {p : Addr} {H : Hp} {ds : List PyData} {ys : List V} (h : RpA p H ds ys) (hl : ys.length = 4) : ∃ a b c d va vb vc vd, ds = [a, b, c, d] ∧ ys = [va, vb, vc, vd] ∧ Rp p H a va ∧ Rp p H b vb ∧ Rp p H c vc ∧ Rp p H d vd := by
  match ys, hl with
  | [va, vb, vc, vd], _ =>
    match ds, h with
    | [a, b, c, d], h =>
      obtain ⟨_, _, e, h1, _, _, e2, h2, _, _, e3, h3, _, _, e4, h4, _⟩ := h
      cases e; cases e2; cases e3; cases e4
      exact ⟨a, b, c, d, _, _, _, _, rfl, rfl, h1, h2, h3, h4⟩
    | [], h => cases h
    | [_], h => have := RpA.length h; simp at this
    | [_, _], h => have := RpA.length h; simp at this
    | [_, _, _], h => have := RpA.length h; simp at this
    | _ :: _ :: _ :: _ :: _ :: _, h => have := RpA.length h; simp at this
theorem cut2 (a b c d : V) : cutV [a, b, c, d] none (some 2) = [a, b] := rfl
theorem cut2_ne (a b c d : V) : ¬ (HT.sIx [a, b, c, d].length 0 none = 0 ∧ HT.sIx [a, b, c, d].length [a, b, c, d].length (some 2) = [a, b, c, d].length) := by
  show ¬ ((0 : Nat) = 0 ∧ (2 : Nat) = 4); decide
section
variable {P : Program} {w : World} {K : PySem.W.Frag} {mg : Str → Option Value} {base : Heap}
abbrev N_with_tasks : List Str := ["kinds", "tasks", "found", "number", "task", "name", "begun"]
theorem sc_with_tasks : FnScope N_with_tasks ["kinds", "tasks"] (defScope (top 48)) := sc_of (by decide +kernel)
-- slots: 0:kinds 1:tasks 2:found 3:number 4:task 5:name 6:begun
theorem ok_with_tasks (T : Tx w K mg) (k : Nat) (hk : 3 ≤ k) (x_NoProgram : ExcC P w K mg base 1 "NoProgram" (He.ga K "NoProgram") (spNP K)) (c_want_name : Cl P w K mg base (L2.CX P w) 3 "want_name" (spWant K)) : Cl P w K mg base (L2.CX P w) (k + 1) "with_tasks" (spTasks K) := by
  refine T.d_with_tasks.cl sc_with_tasks (fun _ _ _ _ _ _ us hl => match us, hl with | [_, _], _ => rfl) (fun vs H Q E h => ?_) fun f cdv A outer s H vs Q E hr h => ?_
  · obtain ⟨_, _, _, _, _, rfl, _⟩ := h; rfl
  have hu := hu_of hr
  have hu0 := hr.units0
  have hu64 := hr.units
  obtain ⟨p, d, v, dk0, ks0, rfl, h⟩ := h
  refine ⟨_, ((pss_cons (ps_if (pt_not (pt_val (pe_isi T.f_isinstance T.f_list (pv 1) b_list))) (pss_one (ps_raise rfl (takes_of rfl rfl rfl rfl) (pmk_exc x_NoProgram hr (pa_cons pe_str (pa_cons pe_str pa_nil))))) pss_nil)
      (pss_cons (ps_set (i := 2) sc_with_tasks.nd rfl (Or.inl rfl) (pe_callTy call_dictD rfl T.f_dict b_dict (pa_cons (pv 0) pa_nil)))
      (pss_cons (ps_for (passes_of rfl) rfl (pi_enum rfl T.f_enumerate (pa_cons (pv 1) pa_nil)) (pg_tup rfl (pgs_cons (pg_name (i := 3) sc_with_tasks.nd rfl (Or.inl rfl)) (pgs_cons (pg_name (i := 4) sc_with_tasks.nd rfl (Or.inl rfl)) pgs_nil))) (pss_cons (ps_if (PW.pt (pw_or (pt_not (pt_val (pe_isi T.f_isinstance T.f_tuple (pv 4) b_tuple))) (pw_or1 (pt_cmpR op_ne (pe_callB call_len_seq rfl T.f_len b_len (pa_cons (pv 4) pa_nil)) pe_int (nomark _))))) (pss_one (ps_raise rfl (takes_of rfl rfl rfl rfl) (pmk_exc x_NoProgram hr (pa_cons pe_str (pa_cons (pe_callTy call_str_int rfl T.f_str b_str (pa_cons (pv 3) pa_nil)) pa_nil))))) pss_nil)
      (pss_cons (ps_asg (pe_slice sl_tup (pv 4) po_none (po_some pe_int)) (pg_tup rfl (pgs_cons (pg_name (i := 5) sc_with_tasks.nd rfl (Or.inl rfl)) (pgs_cons (pg_name (i := 6) sc_with_tasks.nd rfl (Or.inl rfl)) pgs_nil))))
      (pss_cons (ps_expr (pe_clX c_want_name hr (passes_call (takes_of rfl rfl rfl rfl) (fun _ _ _ _ h => h)) (pa_cons (pv 5) (pa_cons (pv 3) (pa_cons (pv 2) pa_nil)))))
      (pss_cons (ps_if (pt_not (pt_val (pe_isi T.f_isinstance T.f_bool (pv 6) b_bool))) (pss_one (ps_raise rfl (takes_of rfl rfl rfl rfl) (pmk_exc x_NoProgram hr (pa_cons pe_str (pa_cons (pv 5) pa_nil))))) pss_nil)
      (pss_one (ps_dput hu (pv 2) (pv 5) (pe_gs T.s_TASK) rfl)))))))
      (pss_cons (ps_if (pt_cmpR op_gt (pe_callB call_len_seq rfl T.f_len b_len (pa_cons (pv 1) pa_nil)) (pe_gi T.i_MOST_TASKS) (nomark _)) (pss_one (ps_raise rfl (takes_of rfl rfl rfl rfl) (pmk_exc x_NoProgram hr (pa_cons pe_str (pa_cons pe_str pa_nil))))) pss_nil)
      (pss_one (ps_ret (pv 2)))))))), ?_⟩
  obtain ⟨hv, hf, hd, hp, hkd0, hks0, kk⟩ := h
  refine ⟨_, rfl, isiL hv ⟨_, rfl, ?_⟩⟩
  cases d with
  | list ts =>
    refine iteF ?_
    obtain ⟨a, xs, rfl, na, ha, hxs⟩ := hv
    have hlen : xs.length = ts.length := hxs.length
    have hts : ts.length ≤ 1000 := hf.1
    refine ⟨_, rfl, dk0, _, rfl, .inl hkd0.2, fun dk hdk => ?_⟩
    have hdp : dk ≠ p := hp.ne hdk
    have s1 : Same H (upd H dk (.dK (kvOf ks0))) := Same.new hdk
    refine ⟨_, rfl, a, xs, rfl, SqL.of (s1 _ _ ha), ?_⟩
    refine for_it (walk_enum (xs := xs)) (fun i σ H' => ∃ ks x3 x4 x5 x6, σ = [some (.ref dk0), some (.ref a), some (.ref dk), x3, x4, x5, x6] ∧ Same H H' ∧ Kd p H' dk ks ∧ ks.length ≤ 2000 + i ∧ goL badTask addTask ts 0 ks0 = goL badTask addTask (ts.drop i) i ks) ?_ ?_ ?_ ?_
    · exact ⟨ks0, none, none, none, none, rfl, s1, ⟨hdp, upd_same⟩, hks0, rfl⟩
    · rintro i σ H' hi ⟨ks, x3, x4, x5, x6, e, s2, _⟩
      exact SqL.of (s2 _ _ ha)
    · rintro i x σ H1 H2 hi ⟨ks, x3, x4, x5, x6, rfl, s2, hkd, hks, hgo⟩ ⟨W, y1, y, rfl, hW, rfl, hy1, hy⟩
      cases hy1
      have s3 : Same H1 (upd H1 W (.tup [.int i, y])) := Same.new hW
      obtain ⟨t, hti, hrt⟩ := hxs.getV hy
      have hkd3 := hkd.mono (.of s3)
      have s4 := s2.trans s3
      have hrt4 := hrt.mono (.of s4)
      have hft : Fit t := hf.2.get hti
      rw [goL_at hti] at hgo
      refine ⟨W, _, rfl, SqT.of upd_same, rfl, _, _, rfl, _, _, rfl, rfl, ?_⟩
      revert s4 hkd3 hrt4
      generalize upd H1 W (.tup [.int i, y]) = H2
      intro hkd3 s4 hrt4
      have hi5 : ((i : Nat) : Int).natAbs ≤ 5000 := by omega
      have bad : ∀ q, badTask t i ks = some q → Told K E H q := fun q e => by
        rw [e] at hgo
        have := kk
        rw [tasksR_bad hgo] at this
        exact this
      refine ⟨_, rfl, isiT hrt4 ⟨_, rfl, ?_⟩⟩
      cases t with
      | tuple ds =>
        refine iteF ?_
        obtain ⟨b, ys, rfl, nb, hb, hys⟩ := hrt4
        have hyl : ys.length = ds.length := hys.length
        refine ⟨_, rfl, b, ys, rfl, .inr (SqT.of hb), rfl, _, rfl, ?_⟩
        by_cases h4 : ys.length = 4
        · rw [h4]
          refine iteF ?_
          obtain ⟨nm, bg, bo, la, vn, vb, vo, vl, rfl, rfl, hn, hbg, _, _⟩ := rp4 hys h4
          have hf3 : Fit nm := hft.2.1
          refine ⟨_, rfl, _, rfl, b, _, rfl, SqT.of hb, cut2_ne _ _ _ _, fun q hq => ?_⟩
          rw [cut2]
          refine ⟨q, _, rfl, SqT.of upd_same, rfl, _, _, rfl, _, _, rfl, rfl, ?_⟩
          have s5 : Same H2 (upd H2 q (.tup [vn, vb])) := Same.new hq
          have hn5 := hn.mono (.of s5)
          have hb5 := hbg.mono (.of s5)
          have hkd5 := hkd3.mono (.of s5)
          have s05 := s4.trans s5
          refine ⟨_, rfl, _, rfl, _, rfl, p, nm, vn, i, dk, ks, rfl, hn5, hf3, hi5, hkd5, ?_⟩
          cases hbn : badName nm i ks with
          | some q => exact Told.mono s05 (bad q (badTask_name hbn))
          | none =>
            intro H4 s6
            obtain ⟨x, rfl, hx1, hx2⟩ := bad_none hbn
            cases hn5
            have s06 := s05.trans s6
            have hbe := badTask_begun (bg := bg) (b := bo) (l := la) hbn
            refine ⟨_, rfl, isiB (hb5.mono (.of s6)) ⟨_, rfl, ?_⟩⟩
            cases hso : isB bg with
            | false =>
              refine iteT ⟨_, rfl, told_raise (by decide) (Nat.le_trans hf3.1 (by decide)) (Told.mono s06 (bad _ ?_))⟩
              rw [hbe, hso]; rfl
            | true =>
              have hnone : badTask (.tuple [.str x, bg, bo, la]) i ks = none := by rw [hbe, hso]; rfl
              rw [hnone] at hgo
              have hkd6 := hkd5.mono (.of s6)
              refine iteF ⟨_, rfl, _, rfl, dk, _, rfl, DPut.k (k := Sum.inr x) hkd6.2 (by rw [kv_len]; exact Nat.lt_of_le_of_lt (show _ ≤ 3000 by omega) (by decide)), ?_⟩
              refine ⟨ks ++ [(x, ("task" : Str))], _, _, _, _, rfl, Same.mut s06 hdk, ⟨hdp, ?_⟩, ?_, hgo⟩
              · rw [upd_same, kv_put hx2]
              · rw [List.length_append]; simp; omega
        · have e3 : ¬ (V.int (ys.length : Nat) = V.int 4) := by
            intro z; injection z with z; omega
          rw [decide_eq_false e3]
          refine iteT ?_
          exact ⟨_, rfl, _, rfl, num_size hi5, told_raise (by decide) (Nat.le_trans (numS_len hi5) (by decide)) (Told.mono s4 (bad _ (badTask_no (fun a b c d z => by cases z; exact h4 hyl))))⟩
      | _ => exact iteT ⟨_, rfl, _, rfl, num_size hi5, told_raise (by decide) (Nat.le_trans (numS_len hi5) (by decide)) (Told.mono s4 (bad _ (badTask_no (fun _ _ _ _ z => nomatch z))))⟩
    · rintro σ H1 ⟨ks, x3, x4, x5, x6, rfl, s2, hkd, hks, hgo⟩
      rw [goL_end (by omega)] at hgo
      rw [tasksR_ok hgo] at kk
      refine ⟨_, rfl, a, _, rfl, .inl (SqL.of (s2 _ _ ha)), _, _, rfl, rfl, _, rfl, ?_⟩
      by_cases h6 : ts.length ≤ 6
      · rw [if_pos h6] at kk
        rw [decide_eq_false (show ¬ (6 : Int) < (xs.length : Nat) by omega)]
        exact iteF ⟨_, rfl, kk H1 dk s2 hkd⟩
      · rw [if_neg h6] at kk
        rw [decide_eq_true (show (6 : Int) < (xs.length : Nat) by omega)]
        exact iteT (told_raise (by decide) (by decide) (Told.mono s2 kk))
  | _ => exact iteT (told_raise (by decide) (by decide) kk)
end
end K12
namespace K12
open PySem PySem.Spec PyProof.Rows L2
theorem findSome_at {α β : Type} {f : α → Option β} {ts : List α} {i : Nat} {t : α} (h : ts[i]? = some t) : (ts.drop i).findSome? f = match f t with
    | some q => some q
    | none => (ts.drop (i + 1)).findSome? f := by
  have hi : i < ts.length := (List.getElem?_eq_some_iff.mp h).1
  rw [List.drop_eq_getElem_cons hi, (List.getElem?_eq_some_iff.mp h).2, List.findSome?_cons]
  cases f t <;> rfl
theorem findSome_end {α β : Type} {f : α → Option β} {ts : List α} {i : Nat} (h : ts.length ≤ i) : (ts.drop i).findSome? f = none := by
  rw [List.drop_eq_nil_of_le h]; rfl
theorem badDeeds_body {ks : Ks} {x : Str} {bg b l : PyData} (h : okBody ks b = false) : badDeeds ks (.tuple [.str x, bg, b, l]) = (some ("body", x) : Option (Str × Str)) := by
  unfold badDeeds; simp only [h, Bool.false_eq_true, if_false]; rfl
theorem badDeeds_last {ks : Ks} {x : Str} {bg b l : PyData} (h : okBody ks b = true) : badDeeds ks (.tuple [.str x, bg, b, l]) = (if okLast ks l = true then none else some ("last", x) : Option (Str × Str)) := by
  unfold badDeeds; simp only [h, if_true]; rfl
/-- the check of each item of a list -/
theorem all_map {α : Type} (l : List α) (f : α → Bool) : (l.map f).all id = l.all f := by rw [List.all_map]; rfl
section
variable {P : Program} {w : World} {K : PySem.W.Frag} {mg : Str → Option Value} {base : Heap}
abbrev N_want_deeds : List Str := ["tasks", "kinds", "name", "begun", "body", "last", "deed"]
theorem sc_want_deeds : FnScope N_want_deeds ["tasks", "kinds"] (defScope (top 49)) := sc_of (by decide +kernel)
-- slots: 0:tasks 1:kinds 2:name 3:begun 4:body 5:last 6:deed
theorem ok_want_deeds (T : Tx w K mg) (k j : Nat) (hj : j ≤ k) (hk : 2 ≤ k) (x_NoProgram : ExcC P w K mg base 1 "NoProgram" (He.ga K "NoProgram") (spNP K)) (c_is_deed : Cl P w K mg base CX0 j "is_deed" (spDeed 12)) (c_is_last_deed : Cl P w K mg base CX0 k "is_last_deed" (spLast 12)) : Cl P w K mg base (L2.CX P w) (k + 1) "want_deeds" (spDeeds K) := by
  refine T.d_want_deeds.cl sc_want_deeds (fun _ _ _ _ _ _ us hl => match us, hl with | [_, _], _ => rfl) (fun vs H Q E h => ?_) fun f cdv A outer s H vs Q E hr h => ?_
  · obtain ⟨_, _, _, _, _, rfl, _⟩ := h; rfl
  have hu := hu_of hr
  have hu0 := hr.units0
  have hu64 := hr.units
  obtain ⟨p, ds, v, dk, ks, rfl, h⟩ := h
  refine ⟨_, ((pss_one (ps_for (passes_of rfl) rfl (pi_list (pv 0)) (pg_tup rfl (pgs_cons (pg_name (i := 2) sc_want_deeds.nd rfl (Or.inl rfl)) (pgs_cons (pg_name (i := 3) sc_want_deeds.nd rfl (Or.inl rfl)) (pgs_cons (pg_name (i := 4) sc_want_deeds.nd rfl (Or.inl rfl)) (pgs_cons (pg_name (i := 5) sc_want_deeds.nd rfl (Or.inl rfl)) pgs_nil))))) (pss_cons (ps_if (PW.pt (pw_or (pt_not (pt_val (pe_isi T.f_isinstance T.f_list (pv 4) b_list))) (pw_or (pt_cmpR op_gt (pe_callB call_len_seq rfl T.f_len b_len (pa_cons (pv 4) pa_nil)) (pe_gi T.i_MOST_BODY) (nomark _)) (pw_or1 (pt_not (pt_val (pe_callB (cr_all rfl) rfl T.f_all b_all (pa_cons (pe_lc (own := [("deed", 6)]) rfl sc_want_deeds.nd (pi_list (pv 4)) (blkOk_by (N := N_want_deeds) (sc := defScope (top 49)) (by decide +kernel)) (fun _ _ _ _ _ => (pg_name (i := 6) sc_want_deeds.nd rfl (Or.inl rfl))) (fun _ _ _ _ _ => pts_nil) (fun _ _ _ _ _ => (pe_cl c_is_deed hr (pa_cons (pv 6) (pa_cons (pv 1) pa_nil))))) pa_nil)))))))) (pss_one (ps_raise rfl (takes_of rfl rfl rfl rfl) (pmk_exc x_NoProgram hr (pa_cons pe_str (pa_cons (pv 2) pa_nil))))) pss_nil)
      (pss_cons (ps_if (PW.pt (pw_or (pt_not (pt_val (pe_isi T.f_isinstance T.f_list (pv 5) b_list))) (pw_or1 (pt_cmpR op_gt (pe_callB call_len_seq rfl T.f_len b_len (pa_cons (pv 5) pa_nil)) (pe_gi T.i_MOST_LAST) (nomark _))))) (pss_one (ps_raise rfl (takes_of rfl rfl rfl rfl) (pmk_exc x_NoProgram hr (pa_cons pe_str (pa_cons (pv 2) pa_nil))))) pss_nil)
      (pss_one (ps_if (pt_not (pt_val (pe_callB (cr_all rfl) rfl T.f_all b_all (pa_cons (pe_lc (own := [("deed", 6)]) rfl sc_want_deeds.nd (pi_list (pv 5)) (blkOk_by (N := N_want_deeds) (sc := defScope (top 49)) (by decide +kernel)) (fun _ _ _ _ _ => (pg_name (i := 6) sc_want_deeds.nd rfl (Or.inl rfl))) (fun _ _ _ _ _ => pts_nil) (fun _ _ _ _ _ => (pe_cl c_is_last_deed hr (pa_cons (pv 6) (pa_cons (pv 1) pa_nil))))) pa_nil)))) (pss_one (ps_raise rfl (takes_of rfl rfl rfl rfl) (pmk_exc x_NoProgram hr (pa_cons pe_str (pa_cons (pv 2) pa_nil))))) pss_nil))))))), ?_⟩
  obtain ⟨hv, hf, hd, hkd, hform, kk⟩ := h
  obtain ⟨a, xs, rfl, na, ha, hxs⟩ := hv
  have hlen : xs.length = ds.length := hxs.length
  have hdl : PyData.depthAll ds + 1 ≤ 12 := hd
  refine ⟨_, rfl, a, rfl, ⟨xs, SqL.of ha⟩, ?_⟩
  refine for_it (walk_list (xs := xs)) (fun i σ H' => ∃ x2 x3 x4 x5 x6, σ = [some (.ref a), some (.ref dk), x2, x3, x4, x5, x6] ∧ Same H H' ∧ deedsR ks (.list ds) = (ds.drop i).findSome? (badDeeds ks)) ?_ ?_ ?_ ?_
  · exact ⟨none, none, none, none, none, rfl, Same.refl _, rfl⟩
  · rintro i σ H' hi ⟨x2, x3, x4, x5, x6, e, s2, _⟩
    exact SqL.of (s2 _ _ ha)
  · rintro i x σ H1 H2 hi ⟨x2, x3, x4, x5, x6, rfl, s2, hgo⟩ ⟨rfl, hy⟩
    obtain ⟨t, hti, hrt⟩ := hxs.getV hy
    have hft : Fit t := hf.2.get hti
    have hdt := depth_mem (List.mem_of_getElem? hti)
    rw [findSome_at hti] at hgo
    obtain ⟨x, bg, bo, la, rfl⟩ := hform t (List.mem_of_getElem? hti)
    have hdt' : PyData.depthAll [.str x, bg, bo, la] + 1 ≤ PyData.depthAll ds := hdt
    have hdb := depth_mem (show bo ∈ [PyData.str x, bg, bo, la] by simp)
    have hdla := depth_mem (show la ∈ [PyData.str x, bg, bo, la] by simp)
    have bad : ∀ q, badDeeds ks (.tuple [.str x, bg, bo, la]) = some q → Told K E H q := fun q e => by
      rw [e] at hgo
      have := kk
      rw [hgo] at this
      exact this
    obtain ⟨b, ys, rfl, nb, hb, hys⟩ := hrt.mono (.of s2)
    obtain ⟨_, _, _, _, vn, vb, vo, vl, e1, rfl, hn, hbg, hbo, hla⟩ := rp4 hys hys.length
    cases e1
    cases hn
    refine ⟨b, _, rfl, SqT.of hb, rfl, _, _, rfl, _, _, rfl, _, _, rfl, _, _, rfl, rfl, ?_⟩
    have hkd2 := hkd.mono (.of s2)
    have hfx : Fit (.str x) := hft.2.1
    have hfb : Fit bo := hft.2.2.2.1
    have hfl : Fit la := hft.2.2.2.2.1
    refine ⟨_, rfl, isiL hbo ⟨_, rfl, ?_⟩⟩
    cases bo with
    | list es =>
      refine iteF ?_
      obtain ⟨c, zs, rfl, nc, hc, hzs⟩ := hbo
      have hzl : zs.length = es.length := hzs.length
      have hel : es.length ≤ 1000 := hfb.1
      have hdes : PyData.depthAll es + 1 ≤ PyData.depthAll [.str x, bg, .list es, la] := hdb
      refine ⟨_, rfl, c, _, rfl, .inl (SqL.of hc), _, _, rfl, rfl, _, rfl, ?_⟩
      by_cases h12 : es.length ≤ 12
      · rw [decide_eq_false (show ¬ (12 : Int) < (zs.length : Nat) by omega)]
        refine iteF ?_
        refine ⟨_, rfl, c, rfl, ⟨zs, SqL.of hc⟩, fun D hD => lc_det (walk_list (xs := zs)) (fun i => .bl ((es[i]?.map (isDeed ks)).getD false)) hD (Nat.lt_of_le_of_lt (show _ ≤ 1000 by omega) (by decide)) (fun H3 s3 => SqL.of (s3 _ _ hc)) ?_ ?_⟩
        · intro i' y' H3 H4 C hi' s3 hy' hC
          obtain ⟨rfl, hy'⟩ := hy'
          obtain ⟨d, hdi, hrd⟩ := hzs.getV hy'
          have hdd := depth_mem (List.mem_of_getElem? hdi)
          refine ⟨rfl, ?_⟩
          refine ⟨_, rfl, _, rfl, p, d, y', dk, ks, rfl, hrd.mono (.of s3), hfb.2.get hdi, by omega, hkd2.mono (.of s3), fun H4 s4 => ?_⟩
          have := hC H4 s4
          rw [hdi] at this
          exact this
        · intro H3 s3 hl3
          refine ⟨D, (List.range zs.length).map fun i => ((es[i]?.map (isDeed ks)).getD false), rfl, SqL.of ?_, ?_⟩
          · rw [hl3, List.map_map]; rfl
          · rw [range_map es (isDeed ks) hzl, all_map]
            refine ⟨_, rfl, ?_⟩
            have s03 := s2.trans s3
            have eb : okBody ks (.list es) = es.all (isDeed ks) := by
              show (decide (es.length ≤ 12) && _) = _
              rw [decide_eq_true h12]; rfl
            cases hall : es.all (isDeed ks) with
            | false => exact iteT ⟨_, rfl, told_raise (by decide) (Nat.le_trans hfx.1 (by decide)) (Told.mono s03 (bad _ (badDeeds_body (eb.trans hall))))⟩
            | true =>
              refine iteF ?_
              have hbl := badDeeds_last (x := x) (bg := bg) (l := la) (eb.trans hall)
              have hkd3 := hkd2.mono (.of s3)
              have hla3 := hla.mono (.of s3)
              refine ⟨_, rfl, isiL hla3 ⟨_, rfl, ?_⟩⟩
              cases la with
              | list fs =>
                refine iteF ?_
                obtain ⟨c', zs', rfl, nc', hc', hzs'⟩ := hla3
                have hzl' : zs'.length = fs.length := hzs'.length
                have hfl1 : fs.length ≤ 1000 := hfl.1
                have hdfs : PyData.depthAll fs + 1 ≤ PyData.depthAll [.str x, bg, .list es, .list fs] := hdla
                refine ⟨_, rfl, c', _, rfl, .inl (SqL.of hc'), _, _, rfl, rfl, _, rfl, ?_⟩
                by_cases h4 : fs.length ≤ 4
                · rw [decide_eq_false (show ¬ (4 : Int) < (zs'.length : Nat) by omega)]
                  refine iteF ?_
                  refine ⟨_, rfl, c', rfl, ⟨zs', SqL.of hc'⟩, fun D' hD' => lc_det (walk_list (xs := zs')) (fun i => .bl ((fs[i]?.map (isLastDeed ks)).getD false)) hD' (Nat.lt_of_le_of_lt (show _ ≤ 1000 by omega) (by decide)) (fun H4 s4 => SqL.of (s4 _ _ hc')) ?_ ?_⟩
                  · intro i' y' H4 H5 C hi' s4 hy' hC
                    obtain ⟨rfl, hy'⟩ := hy'
                    obtain ⟨d, hdi, hrd⟩ := hzs'.getV hy'
                    have hdd := depth_mem (List.mem_of_getElem? hdi)
                    refine ⟨rfl, ?_⟩
                    refine ⟨_, rfl, _, rfl, p, d, y', dk, ks, rfl, hrd.mono (.of s4), hfl.2.get hdi, by omega, hkd3.mono (.of s4), fun H6 s6 => ?_⟩
                    have := hC H6 s6
                    rw [hdi] at this
                    exact this
                  · intro H4 s4 hl4
                    refine ⟨D', (List.range zs'.length).map fun i => ((fs[i]?.map (isLastDeed ks)).getD false), rfl, SqL.of ?_, ?_⟩
                    · rw [hl4, List.map_map]; rfl
                    · rw [range_map fs (isLastDeed ks) hzl', all_map]
                      refine ⟨_, rfl, ?_⟩
                      have s04 := s03.trans s4
                      have eb' : okLast ks (.list fs) = fs.all (isLastDeed ks) := by
                        show (decide (fs.length ≤ 4) && _) = _
                        rw [decide_eq_true h4]; rfl
                      rw [eb'] at hbl
                      cases hall' : fs.all (isLastDeed ks) with
                      | false =>
                        rw [hall'] at hbl
                        exact iteT ⟨_, rfl, told_raise (by decide) (Nat.le_trans hfx.1 (by decide)) (Told.mono s04 (bad _ hbl))⟩
                      | true =>
                        rw [hall'] at hbl
                        have hbl' : badDeeds ks (.tuple [.str x, bg, .list es, .list fs]) = none := hbl
                        rw [hbl'] at hgo
                        exact iteF ⟨_, _, _, _, _, rfl, s04, hgo⟩
                · rw [decide_eq_true (show (4 : Int) < (zs'.length : Nat) by omega)]
                  have eb' : okLast ks (.list fs) = false := by
                    show (decide (fs.length ≤ 4) && _) = _
                    rw [decide_eq_false h4]; rfl
                  rw [eb'] at hbl
                  exact iteT ⟨_, rfl, told_raise (by decide) (Nat.le_trans hfx.1 (by decide)) (Told.mono s03 (bad _ hbl))⟩
              | _ => exact iteT ⟨_, rfl, told_raise (by decide) (Nat.le_trans hfx.1 (by decide)) (Told.mono s03 (bad _ hbl))⟩
      · rw [decide_eq_true (show (12 : Int) < (zs.length : Nat) by omega)]
        refine iteT ⟨_, rfl, told_raise (by decide) (Nat.le_trans hfx.1 (by decide)) (Told.mono s2 (bad _ (badDeeds_body ?_)))⟩
        show (decide (es.length ≤ 12) && _) = false
        rw [decide_eq_false h12]; rfl
    | _ => exact iteT ⟨_, rfl, told_raise (by decide) (Nat.le_trans hfx.1 (by decide)) (Told.mono s2 (bad _ (badDeeds_body rfl)))⟩
  · rintro σ H1 ⟨x2, x3, x4, x5, x6, rfl, s2, hgo⟩
    rw [findSome_end (by omega)] at hgo
    rw [hgo] at kk
    exact kk H1 s2
end
end K12
namespace K12
open PySem PySem.Spec PyProof.Rows L2
/-- an own __init__ -/
structure Mf (K : PySem.W.Frag) (C : Addr) (qual : Str) (st : Stmt) : Prop where
  ex : ∃ (f : Addr) (fd : FuncData), FunD K "__init__" qual (defArgs st) (defBody st) (defScope st) [] [] f fd ∧ PySem.W.findIn K (.ref C) "__init__" = some (some (.ref f)) ∧ PySem.W.isFn K (.ref f) = true
theorem Mf.exc {P : Program} {w : World} {K : PySem.W.Frag} {mg : Str → Option Value} {base : Heap} {C : Addr} {qual x : Str} {st : Stmt} {N ps : List Str} {k : Nat} {sp : Sp} {nw ni : String} (M : Mf K C qual st) (T : OxK K C nw ni) (hm : mg x = some (.ref C)) (S : FnScope N ps (defScope st))
    (hb : ∀ (kV doc pm : Value) (an : Option Addr) (cdv ct : Value) (us : List Value), us.length = ps.length → bindArgs (PySem.W.fnOf "__init__" qual (defArgs st) (defBody st) (defScope st) .none kV doc pm an cdv ct) ⟨us, []⟩ = pure (ps.zip us))
    (len : ∀ vs H Q E, sp vs H Q E → vs.length = ps.length)
    (hbody : ∀ (f : Addr) (cdv : Value) (A : Around) (outer : List Env) (s : Shared) (H : Hp) (vs : List V) (Q : VK) (E : XK), Room k (A.deeper (envOfC qual (defScope st) s.heap.objs.size f cdv)) → sp vs H Q E →
      ∃ t, PSs (cxOf CX0 P w K mg base N qual (defScope st) f cdv A outer s H E) (defBody st) t ∧ t { nx := fun _ H' => Q .non H', rt := Q } (start N vs) H) : ExcC P w K mg base (k + 1) x C sp := by
  obtain ⟨f, fd, F, hf, hi⟩ := M.ex
  exact ⟨f, fd, ps, nw, ni, T, hf, beq_iff_eq.mp hi, F.ok S len (hbody f), FunD.bindsN F hb, hm⟩
/-- what the walk asks of the classes -/
structure Ty (w : World) (K : PySem.W.Frag) (mg : Str → Option Value) : Prop where
  m_WeaveError : mg "WeaveError" = some (.ref (He.ga K "WeaveError"))
  y_WeaveError : PySem.W.specialIn K (.ref (He.ga K "WeaveError")) "__getattribute__" = some (some (.builtin "type.__getattribute__"))
  r_WeaveError : PySem.W.readsIn K (He.ga K "WeaveError") (.type "type") = true
  i_WeaveError : PySem.W.findCls K (.ref (He.ga K "WeaveError")) (.type "type") "__init__" = some (.val (.builtin "ValueError.__init__"))
  f_LookupError : mg "LookupError" = none
  i_LookupError : PySem.W.findCls K (.type "LookupError") (.type "type") "__init__" = some (.val (.builtin "LookupError.__init__"))
  f_RuntimeError : mg "RuntimeError" = none
  i_RuntimeError : PySem.W.findCls K (.type "RuntimeError") (.type "type") "__init__" = some (.val (.builtin "RuntimeError.__init__"))
  f_ArithmeticError : mg "ArithmeticError" = none
  i_ArithmeticError : PySem.W.findCls K (.type "ArithmeticError") (.type "type") "__init__" = some (.val (.builtin "ArithmeticError.__init__"))
  m_NoProgram : mg "NoProgram" = some (.ref (He.ga K "NoProgram"))
  o_NoProgram : OxK K (He.ga K "NoProgram") "ValueError.__new__" "ValueError.__init__"
  n_NoProgram : Mf K (He.ga K "NoProgram") "NoProgram.__init__" (cbody 28 0)
  a_NoProgram : PySem.W.findIn K (.ref (He.ga K "NoProgram")) "what" = some none ∧ PySem.W.findIn K (.ref (He.ga K "NoProgram")) "who" = some none
  m_NoText : mg "NoText" = some (.ref (He.ga K "NoText"))
  o_NoText : OxK K (He.ga K "NoText") "ValueError.__new__" "ValueError.__init__"
  n_NoText : Mf K (He.ga K "NoText") "NoText.__init__" (cbody 29 0)
  a_NoText : PySem.W.findIn K (.ref (He.ga K "NoText")) "row" = some none
  m_NoSuch : mg "NoSuch" = some (.ref (He.ga K "NoSuch"))
  o_NoSuch : OxK K (He.ga K "NoSuch") "LookupError.__new__" "LookupError.__init__"
  n_NoSuch : Mf K (He.ga K "NoSuch") "NoSuch.__init__" (cbody 33 0)
  a_NoSuch : PySem.W.findIn K (.ref (He.ga K "NoSuch")) "who" = some none
  m_CantGo : mg "CantGo" = some (.ref (He.ga K "CantGo"))
  o_CantGo : OxK K (He.ga K "CantGo") "RuntimeError.__new__" "RuntimeError.__init__"
  n_CantGo : Mf K (He.ga K "CantGo") "CantGo.__init__" (cbody 34 0)
  a_CantGo : PySem.W.findIn K (.ref (He.ga K "CantGo")) "who" = some none
  m_TooMany : mg "TooMany" = some (.ref (He.ga K "TooMany"))
  o_TooMany : OxK K (He.ga K "TooMany") "ArithmeticError.__new__" "ArithmeticError.__init__"
  n_TooMany : Mf K (He.ga K "TooMany") "TooMany.__init__" (cbody 35 0)
  a_TooMany : PySem.W.findIn K (.ref (He.ga K "TooMany")) "limit" = some none
  m_Program : mg "Program" = some (.ref (He.ga K "Program"))
  n_Program : Mf K (He.ga K "Program") "Program.__init__" (cbody 50 0)
  k_Program : PySem.W.makesIn K (He.ga K "Program") = true ∧ PySem.W.keepIn K (.ref (He.ga K "Program")) = true
  c_Program : Cls K (He.ga K "Program")
  a_Program : NoAttr K (He.ga K "Program") "kinds" ∧ NoAttr K (He.ga K "Program") "own_things" ∧ NoAttr K (He.ga K "Program") "own_tasks" ∧ NoAttr K (He.ga K "Program") "own_sizes" ∧ NoAttr K (He.ga K "Program") "own_parts"
section
variable {P : Program} {w : World} {K : PySem.W.Frag} {mg : Str → Option Value} {base : Heap}
abbrev N_NoProgram___init__ : List Str := ["self", "what", "who"]
theorem sc_NoProgram___init__ : FnScope N_NoProgram___init__ ["self", "what", "who"] (defScope (cbody 28 0)) := sc_of (by decide +kernel)
theorem exc_NoProgram (U : Ty w K mg) : ExcC P w K mg base 1 "NoProgram" (He.ga K "NoProgram") (spNP K) := by
  refine U.n_NoProgram.exc U.o_NoProgram U.m_NoProgram sc_NoProgram___init__ (fun _ _ _ _ _ _ us hl => match us, hl with | [_, _, _], _ => rfl) (fun vs H Q E h => ?_) fun f cdv A outer s H vs Q E hr h => ?_
  · obtain ⟨_, _, _, rfl, _⟩ := h; rfl
  have hu := hu_of hr
  obtain ⟨a, x, y, rfl, h⟩ := h
  refine ⟨_, PSs.nox ((pss_cons (ps_expr (pe_iniC U.m_WeaveError U.y_WeaveError U.r_WeaveError U.i_WeaveError (by decide +kernel) (pa_cons (pv 0) (pa_cons (pe_joined (PJ.cons pe_str (PJ.cons (pe_fmt (pv 1)) (PJ.cons pe_str (PJ.cons (pe_fmt (pv 2)) PJ.nil))))) pa_nil))))
      (pss_cons (ps_ox (pv 0) (pv 1))
      (pss_one (ps_ox (pv 0) (pv 2)))))), ?_⟩
  obtain ⟨hx, hy, ha, kk⟩ := h
  have z1 : x.length ≤ sizeLine := sz1000 hx
  have z2 : y.length ≤ sizeLine := sz1000 hy
  have e1 : (Str.empty ++ "no program: " : Str).length = 12 := rfl
  have e4 : (" of " : Str).length = 4 := rfl
  have e2 : ((Str.empty ++ "no program: " : Str) ++ x).length = 12 + x.length := by rw [Str.length_append, e1]
  have e3 : (((Str.empty ++ "no program: " : Str) ++ x) ++ " of ").length = 12 + x.length + 4 := by rw [Str.length_append, e2, e4]
  have e5 : ((((Str.empty ++ "no program: " : Str) ++ x) ++ " of ") ++ y).length = 12 + x.length + 4 + y.length := by rw [Str.length_append, e3]
  have sz : 3000 ≤ sizeLine := by decide
  refine ⟨_, rfl, _, rfl, by rw [e1]; exact sz20 (by decide), _, rfl, .inl ⟨x, rfl, z1, _, rfl, by rw [e2]; omega, _, rfl, by rw [e3]; omega, _, rfl, .inl ⟨y, rfl, z2, _, rfl, by rw [e5]; omega, ?_⟩⟩⟩
  refine ⟨a, _, _, _, rfl, by show 1 ≤ 1000; decide, U.o_NoProgram, ha, ?_⟩
  refine ⟨_, rfl, _, rfl, a, _, _, _, rfl, U.o_NoProgram, U.a_NoProgram.1, .inl ⟨ha, fun dx hdx ne => ?_⟩⟩
  refine ⟨_, rfl, _, rfl, a, _, _, _, rfl, U.o_NoProgram, U.a_NoProgram.2, .inr ⟨dx, _, upd_same, (upd_ne ne).trans upd_same, by show 1 ≤ 900; decide, ?_⟩⟩
  exact kk dx hdx ne
/-- a thing that a text or an int is -/
def Fm (y : V) : Prop := (∃ x : Str, y = .str x ∧ x.length ≤ 1000) ∨ ∃ i : Int, y = .int i ∧ i.natAbs ≤ 5000
/-- an own __init__ of one field -/
def spOne (C : Addr) (f : Str) (ok : V → Prop) : Sp := fun vs H Q _ => ∃ (a : Addr) (y : V), vs = [.ref a, y] ∧ ok y ∧ H a = some (exo a C none) ∧
  ∀ dx, H dx = none → dx ≠ a → Q .non (upd (upd H dx (exd dx [(f, y)])) a (exo a C (some dx)))
theorem Fm.fmt {te : TE} {σ : L2.St} {H H1 : Hp} {y : V} {Q : VK} (h : Fm y) (k : ∀ z : Str, z.length ≤ 1000 → Q (.str z) H1) (e : ∀ k : VK, k y H1 → te σ H k) : tFmt te σ H Q := by
  refine e _ ?_
  rcases h with ⟨x, rfl, hx⟩ | ⟨i, rfl, hi⟩
  · exact .inl ⟨x, rfl, sz1000 hx, k _ hx⟩
  · exact .inr ⟨i, rfl, num_size hi, k (numS i) (Nat.le_trans (numS_len hi) (by decide))⟩
abbrev N_NoText___init__ : List Str := ["self", "row"]
theorem sc_NoText___init__ : FnScope N_NoText___init__ ["self", "row"] (defScope (cbody 29 0)) := sc_of (by decide +kernel)
theorem exc_NoText (U : Ty w K mg) : ExcC P w K mg base 1 "NoText" (He.ga K "NoText") (spOne (He.ga K "NoText") "row" Fm) := by
  refine U.n_NoText.exc U.o_NoText U.m_NoText sc_NoText___init__ (fun _ _ _ _ _ _ us hl => match us, hl with | [_, _], _ => rfl) (fun vs H Q E h => ?_) fun f cdv A outer s H vs Q E hr h => ?_
  · obtain ⟨_, _, rfl, _⟩ := h; rfl
  have hu := hu_of hr
  obtain ⟨a, y, rfl, h⟩ := h
  refine ⟨_, PSs.nox ((pss_cons (ps_expr (pe_iniC U.m_WeaveError U.y_WeaveError U.r_WeaveError U.i_WeaveError (by decide +kernel) (pa_cons (pv 0) (pa_cons (pe_joined (PJ.cons pe_str (PJ.cons (pe_fmt (pv 1)) PJ.nil))) pa_nil))))
      (pss_one (ps_ox (pv 0) (pv 1))))), ?_⟩
  obtain ⟨hy, ha, kk⟩ := h
  have sz : 3000 ≤ sizeLine := by decide
  have e1 : (Str.empty ++ "no such text: row " : Str).length = 18 := rfl
  refine ⟨_, rfl, _, rfl, by rw [e1]; exact sz20 (by decide), hy.fmt (H1 := H) (fun z hz => ⟨_, rfl, by rw [Str.length_append, e1]; omega, ?_⟩) (fun k hk => ⟨_, rfl, hk⟩)⟩
  refine ⟨a, _, _, _, rfl, by show 1 ≤ 1000; decide, U.o_NoText, ha, ?_⟩
  exact ⟨_, rfl, _, rfl, a, _, _, _, rfl, U.o_NoText, U.a_NoText, .inl ⟨ha, fun dx hdx ne => kk dx hdx ne⟩⟩
abbrev N_NoSuch___init__ : List Str := ["self", "who"]
theorem sc_NoSuch___init__ : FnScope N_NoSuch___init__ ["self", "who"] (defScope (cbody 33 0)) := sc_of (by decide +kernel)
theorem exc_NoSuch (U : Ty w K mg) : ExcC P w K mg base 1 "NoSuch" (He.ga K "NoSuch") (spOne (He.ga K "NoSuch") "who" (fun _ => True)) := by
  refine U.n_NoSuch.exc U.o_NoSuch U.m_NoSuch sc_NoSuch___init__ (fun _ _ _ _ _ _ us hl => match us, hl with | [_, _], _ => rfl) (fun vs H Q E h => ?_) fun f cdv A outer s H vs Q E hr h => ?_
  · obtain ⟨_, _, rfl, _⟩ := h; rfl
  have hu := hu_of hr
  obtain ⟨a, y, rfl, h⟩ := h
  refine ⟨_, PSs.nox ((pss_cons (ps_expr (pe_iniT U.f_LookupError (by decide +kernel) rfl rfl U.i_LookupError (by decide +kernel) (pa_cons (pv 0) (pa_cons pe_str pa_nil))))
      (pss_one (ps_ox (pv 0) (pv 1))))), ?_⟩
  obtain ⟨hy, ha, kk⟩ := h
  refine ⟨_, rfl, a, _, _, _, rfl, by show 1 ≤ 1000; decide, U.o_NoSuch, ha, ?_⟩
  exact ⟨_, rfl, _, rfl, a, _, _, _, rfl, U.o_NoSuch, U.a_NoSuch, .inl ⟨ha, fun dx hdx ne => kk dx hdx ne⟩⟩
abbrev N_CantGo___init__ : List Str := ["self", "who"]
theorem sc_CantGo___init__ : FnScope N_CantGo___init__ ["self", "who"] (defScope (cbody 34 0)) := sc_of (by decide +kernel)
theorem exc_CantGo (U : Ty w K mg) : ExcC P w K mg base 1 "CantGo" (He.ga K "CantGo") (spOne (He.ga K "CantGo") "who" Fm) := by
  refine U.n_CantGo.exc U.o_CantGo U.m_CantGo sc_CantGo___init__ (fun _ _ _ _ _ _ us hl => match us, hl with | [_, _], _ => rfl) (fun vs H Q E h => ?_) fun f cdv A outer s H vs Q E hr h => ?_
  · obtain ⟨_, _, rfl, _⟩ := h; rfl
  have hu := hu_of hr
  obtain ⟨a, y, rfl, h⟩ := h
  refine ⟨_, PSs.nox ((pss_cons (ps_expr (pe_iniT U.f_RuntimeError (by decide +kernel) rfl rfl U.i_RuntimeError (by decide +kernel) (pa_cons (pv 0) (pa_cons (pe_joined (PJ.cons (pe_fmt (pv 1)) (PJ.cons pe_str PJ.nil))) pa_nil))))
      (pss_one (ps_ox (pv 0) (pv 1))))), ?_⟩
  obtain ⟨hy, ha, kk⟩ := h
  have sz : 3000 ≤ sizeLine := by decide
  have e1 : (" can't go" : Str).length = 9 := rfl
  have fin : ∀ z : Str, tIni K "RuntimeError.__init__" (fun _ H Q => Q [.ref a, .str z] H) (L2.start N_CantGo___init__ [.ref a, y]) H (fun v H1 => tOx K "who" (tVar 0) (tVar 1) { nx := fun x H' => Q V.non H', rt := Q } (L2.start N_CantGo___init__ [.ref a, y]) H1) := fun z => by
    refine ⟨a, _, _, [_], rfl, by show 1 ≤ 1000; decide, U.o_CantGo, ha, ?_⟩
    exact ⟨_, rfl, _, rfl, a, _, _, _, rfl, U.o_CantGo, U.a_CantGo, .inl ⟨ha, fun dx hdx ne => kk dx hdx ne⟩⟩
  have e0 : ∀ z : Str, (Str.empty ++ z).length = z.length := fun z => by rw [Str.length_append]; show 0 + _ = _; omega
  rcases hy with ⟨z, rfl, hz⟩ | ⟨i, rfl, hi⟩
  · exact ⟨_, rfl, _, rfl, .inl ⟨z, rfl, sz1000 hz, _, rfl, by rw [e0]; omega, _, rfl, by rw [Str.length_append, e0, e1]; omega, fin _⟩⟩
  · have := numS_len hi
    refine ⟨_, rfl, _, rfl, .inr ⟨i, rfl, num_size hi, numS i, rfl, by rw [e0]; omega, _, rfl, by rw [Str.length_append, e0, e1]; omega, fin _⟩⟩
abbrev N_TooMany___init__ : List Str := ["self", "limit"]
theorem sc_TooMany___init__ : FnScope N_TooMany___init__ ["self", "limit"] (defScope (cbody 35 0)) := sc_of (by decide +kernel)
theorem exc_TooMany (U : Ty w K mg) : ExcC P w K mg base 1 "TooMany" (He.ga K "TooMany") (spOne (He.ga K "TooMany") "limit" Fm) := by
  refine U.n_TooMany.exc U.o_TooMany U.m_TooMany sc_TooMany___init__ (fun _ _ _ _ _ _ us hl => match us, hl with | [_, _], _ => rfl) (fun vs H Q E h => ?_) fun f cdv A outer s H vs Q E hr h => ?_
  · obtain ⟨_, _, rfl, _⟩ := h; rfl
  have hu := hu_of hr
  obtain ⟨a, y, rfl, h⟩ := h
  refine ⟨_, PSs.nox ((pss_cons (ps_expr (pe_iniT U.f_ArithmeticError (by decide +kernel) rfl rfl U.i_ArithmeticError (by decide +kernel) (pa_cons (pv 0) (pa_cons (pe_joined (PJ.cons pe_str (PJ.cons (pe_fmt (pv 1)) (PJ.cons pe_str PJ.nil)))) pa_nil))))
      (pss_one (ps_ox (pv 0) (pv 1))))), ?_⟩
  obtain ⟨hy, ha, kk⟩ := h
  have sz : 3000 ≤ sizeLine := by decide
  have e1 : (Str.empty ++ "more than " : Str).length = 10 := rfl
  have e2 : (" states" : Str).length = 7 := rfl
  refine ⟨_, rfl, _, rfl, by rw [e1]; exact sz20 (by decide), hy.fmt (H1 := H) (fun z hz => ⟨_, rfl, by rw [Str.length_append, e1]; omega, _, rfl, by rw [Str.length_append, Str.length_append, e1, e2]; omega, ?_⟩) (fun k hk => ⟨_, rfl, hk⟩)⟩
  refine ⟨a, _, _, _, rfl, by show 1 ≤ 1000; decide, U.o_TooMany, ha, ?_⟩
  exact ⟨_, rfl, _, rfl, a, _, _, _, rfl, U.o_TooMany, U.a_TooMany, .inl ⟨ha, fun dx hdx ne => kk dx hdx ne⟩⟩
end
end K12
namespace K12
open PySem PySem.Spec PyProof.Rows L2
theorem putK_le (c : List (Key × V)) (k : Key) (x : V) : (putK c k x).length ≤ c.length + 1 := by
  unfold putK
  split
  · rw [List.length_map]; omega
  · rw [List.length_append]; simp
section
variable {J : It} {n : Nat} {G : Hp → Prop} {Y : Nat → Hp → V → Hp → Prop}
/-- a comprehension without filter, what is told of the items -/
theorem lc_rel (w : Walk J n G Y) (Ev : Hp → Prop) (R : Nat → V → Hp → Prop) {g : TG} {te : TE} {vs : List Nat} {σ : L2.St} {H1 : Hp} {D : Addr} {Qd : Hp → Prop} (hn : n < sizeLine) (h0 : Ev (upd H1 D (.lst []))) (hG : ∀ H, Ev H → G H)
    (hE : ∀ H o, Ev H → Ev (upd H D o)) (hR : ∀ i v H o, R i v H → R i v (upd H D o))
    (hs : ∀ (i : Nat) (x : V) (H H' : Hp) (C : V → Hp → Prop), i < n → Ev H → (∃ acc, H D = some (.lst acc)) → Y i H x H' → (∀ v H4, Ev H4 → H4 D = H D → (∀ j u, R j u H → R j u H4) → R i v H4 → C v H4) → g x (wipe σ vs) H' fun σ2 H2 => wipe σ2 vs = wipe σ vs ∧ te σ2 H2 C)
    (hd : ∀ H acc, Ev H → H D = some (.lst acc) → acc.length = n → (∀ i v, acc[i]? = some v → R i v H) → Qd H) :
    ∃ W : Nat → Nat → Hp → Prop, (∃ m, W 0 m (upd H1 D (.lst []))) ∧ ∀ i m H, W i m H →
      (J.stop i H ∧ Qd H) ∨ (J.go i H ∧ ∃ Nx : Hp → Prop, (∀ H', Nx H' → ∃ m', m' < m ∧ W (i + 1) m' H') ∧ ∀ x H', J.yld i H x H' → g x (wipe σ vs) H' fun σ2 H2 => wipe σ2 vs = wipe σ vs ∧ tYes σ2 H2 fun b H3 =>
        if b = true then te σ2 H3 fun y H4 => ∃ acc, H4 D = some (.lst acc) ∧ acc.length < sizeLine ∧ Nx (upd H4 D (.lst (acc ++ [y]))) else Nx H3) := by
  refine lc_it w (fun i H => Ev H ∧ ∃ acc, H D = some (.lst acc) ∧ acc.length = i ∧ ∀ j v, acc[j]? = some v → R j v H) ⟨h0, [], upd_same, rfl, fun j v h => by simp at h⟩ (fun i H _ h => hG H h.1) (fun i x H H' hi hP y => ?_) (fun H h => ?_)
  · simp only [tYes, if_true]
    obtain ⟨hev, acc, hacc, hl, hr⟩ := hP
    refine hs i x H H' _ hi hev ⟨acc, hacc⟩ y (fun v H4 e4 eD k r => ⟨acc, eD.trans hacc, by omega, hE _ _ e4, acc ++ [v], upd_same, by simp [hl], fun j u hj => hR _ _ _ _ ?_⟩)
    by_cases h1 : j < acc.length
    · rw [List.getElem?_append_left h1] at hj
      exact k j u (hr j u hj)
    · rw [List.getElem?_append_right (by omega)] at hj
      have h2 : j - acc.length = 0 := by
        by_cases h3 : j - acc.length = 0
        · exact h3
        · rw [List.getElem?_cons, if_neg h3] at hj; simp at hj
      rw [h2] at hj
      have h3 : j = i := by omega
      have h4 : v = u := by simpa using hj
      subst h3 h4
      exact r
  · obtain ⟨hev, acc, hacc, hl, hr⟩ := h
    exact hd H acc hev hacc hl hr
/-- a dict comprehension of text keys, nothing told of it -/
theorem dc_weak (w : Walk J n G Y) {g : TG} {tk tv : TE} {vs : List Nat} {σ : L2.St} {H1 : Hp} {D : Addr} {Qd : Hp → Prop} (hD : H1 D = none) (hn : n < sizeLine) (hG : ∀ H, Same H1 H → G H)
    (hs : ∀ (i : Nat) (x : V) (H H' : Hp) (C : V → V → Hp → Prop), i < n → Same H1 H → Y i H x H' → (∀ (z : Str) v H4, Same H H4 → C (.str z) v H4) → g x (wipe σ vs) H' fun σ2 H2 => wipe σ2 vs = wipe σ vs ∧ tk σ2 H2 fun y H4 => tv σ2 H4 fun z H5 => C y z H5)
    (hd : ∀ H, Same H1 H → Qd H) :
    ∃ W : Nat → Nat → Hp → Prop, (∃ m, W 0 m (upd H1 D (.dK []))) ∧ ∀ i m H, W i m H →
      (J.stop i H ∧ Qd H) ∨ (J.go i H ∧ ∃ Nx : Hp → Prop, (∀ H', Nx H' → ∃ m', m' < m ∧ W (i + 1) m' H') ∧ ∀ x H', J.yld i H x H' → g x (wipe σ vs) H' fun σ2 H2 => wipe σ2 vs = wipe σ vs ∧ tYes σ2 H2 fun b H3 =>
        if b = true then tk σ2 H3 fun y H4 => tv σ2 H4 fun z H5 => ∃ kvs k, y = kV k ∧ H5 D = some (.dK kvs) ∧ kvs.length < sizeLine ∧ Nx (upd H5 D (.dK (putK kvs k z))) else Nx H3) := by
  refine ⟨fun i m H => m = n - i ∧ i ≤ n ∧ Same H1 H ∧ ∃ kvs : List (Key × V), H D = some (.dK kvs) ∧ kvs.length ≤ i, ⟨n, by simp, Nat.zero_le _, Same.new hD, [], upd_same, Nat.le_refl _⟩, ?_⟩
  rintro i m H ⟨rfl, hi, sm, kvs, hk, hl⟩
  by_cases hlt : i < n
  · refine .inr ⟨w.goes i H hlt (hG H sm), fun H' => i + 1 ≤ n ∧ Same H1 H' ∧ ∃ kvs : List (Key × V), H' D = some (.dK kvs) ∧ kvs.length ≤ i + 1, fun H' ⟨h1, h2, h3⟩ => ⟨n - (i + 1), by omega, rfl, h1, h2, h3⟩, fun x H' y => ?_⟩
    simp only [tYes, if_true]
    refine hs i x H H' _ hlt sm (w.yields i H x H' hlt (hG H sm) y) (fun z v H4 s4 => ⟨kvs, Sum.inr z, rfl, s4 _ _ hk, by omega, hlt, Same.mut (sm.trans s4) hD, _, upd_same, ?_⟩)
    have := putK_le kvs (Sum.inr z) v
    omega
  · have e : i = n := by omega
    subst e
    exact .inl ⟨w.stops H (hG H sm), hd H sm⟩
end
/-! ### what a passed look says of the data -/
theorem goL_all {bad : PyData → Int → Ks → Option (Str × Str)} {add : PyData → Ks → Ks} : ∀ {ts : List PyData} {n : Nat} {ks ks' : Ks}, goL bad add ts n ks = .ok ks' → ∀ t ∈ ts, ∃ (m : Int) (k : Ks), bad t m k = none
  | [], _, _, _, _, t, h => by cases h
  | t0 :: ts, n, ks, ks', e, t, h => by
    have e1 : goL bad add (t0 :: ts) n ks = match bad t0 n ks with
      | some q => .error q
      | none => goL bad add ts (n + 1) (add t0 ks) := rfl
    rw [e1] at e
    cases hb : bad t0 n ks with
    | some q => rw [hb] at e; cases e
    | none =>
      rw [hb] at e
      rcases List.mem_cons.mp h with rfl | h
      · exact ⟨n, ks, hb⟩
      · exact goL_all e t h
theorem goL_len {bad : PyData → Int → Ks → Option (Str × Str)} {add : PyData → Ks → Ks} (ha : ∀ t ks, (add t ks).length ≤ ks.length + 1) : ∀ {ts : List PyData} {n : Nat} {ks ks' : Ks}, goL bad add ts n ks = .ok ks' → ks'.length ≤ ks.length + ts.length
  | [], _, _, _, e => by cases e; exact Nat.le_refl _
  | t0 :: ts, n, ks, ks', e => by
    have e1 : goL bad add (t0 :: ts) n ks = match bad t0 n ks with
      | some q => .error q
      | none => goL bad add ts (n + 1) (add t0 ks) := rfl
    rw [e1] at e
    cases hb : bad t0 n ks with
    | some q => rw [hb] at e; cases e
    | none =>
      rw [hb] at e
      have := goL_len ha e
      have := ha t0 ks
      rw [List.length_cons]; omega
theorem addThing_len (t : PyData) (ks : Ks) : (addThing t ks).length ≤ ks.length + 1 := by
  unfold addThing; split <;> simp
theorem addTask_len (t : PyData) (ks : Ks) : (addTask t ks).length ≤ ks.length + 1 := by
  unfold addTask; split <;> simp
theorem badThing_ok {t : PyData} {n : Int} {ks : Ks} (h : badThing t n ks = none) : ∃ k x sz, t = .tuple [k, .str x, sz] := by
  by_cases e : ∃ k nm sz, t = .tuple [k, nm, sz]
  · obtain ⟨k, nm, sz, rfl⟩ := e
    cases hk : isKindB k with
    | false => rw [badThing_kind hk] at h; cases h
    | true =>
      cases hb : badName nm n ks with
      | some q => rw [badThing_name hk hb] at h; cases h
      | none =>
        obtain ⟨x, rfl, _⟩ := bad_none hb
        exact ⟨k, x, sz, rfl⟩
  · rw [badThing_no (fun a b c z => e ⟨a, b, c, z⟩)] at h; cases h
theorem badTask_ok {t : PyData} {n : Int} {ks : Ks} (h : badTask t n ks = none) : ∃ x bg b l, t = .tuple [.str x, bg, b, l] := by
  by_cases e : ∃ nm bg b l, t = .tuple [nm, bg, b, l]
  · obtain ⟨nm, bg, b, l, rfl⟩ := e
    cases hb : badName nm n ks with
    | some q => rw [badTask_name hb] at h; cases h
    | none =>
      obtain ⟨x, rfl, _⟩ := bad_none hb
      exact ⟨x, bg, b, l, rfl⟩
  · rw [badTask_no (fun a b c d z => e ⟨a, b, c, d, z⟩)] at h; cases h
theorem badDeeds_ok {ks : Ks} {x : Str} {bg b l : PyData} (h : badDeeds ks (.tuple [.str x, bg, b, l]) = none) : (∃ es, b = .list es) ∧ ∃ fs, l = .list fs := by
  cases hb : okBody ks b with
  | false => rw [badDeeds_body hb] at h; cases h
  | true =>
    rw [badDeeds_last hb] at h
    cases hl : okLast ks l with
    | false => rw [hl] at h; cases h
    | true =>
      refine ⟨?_, ?_⟩
      · cases b with
        | list es => exact ⟨es, rfl⟩
        | _ => cases hb
      · cases l with
        | list es => exact ⟨es, rfl⟩
        | _ => cases hl
theorem kindsR_yes {d : PyData} {ks : Ks} (h : kindsR d = .ok ks) : ∃ ts, d = .list ts ∧ goL badThing addThing ts 0 [] = .ok ks ∧ ts.length ≤ 10 := by
  cases d with
  | list ts =>
    cases e : goL badThing addThing ts 0 [] with
    | error q => rw [kindsR_bad e] at h; cases h
    | ok k =>
      rw [kindsR_ok e] at h
      by_cases hl : ts.length ≤ 10
      · rw [if_pos hl] at h; cases h; exact ⟨ts, rfl, e, hl⟩
      · rw [if_neg hl] at h; cases h
  | _ => cases h
theorem tasksR_yes {d : PyData} {ks0 ks : Ks} (h : tasksR ks0 d = .ok ks) : ∃ ts, d = .list ts ∧ goL badTask addTask ts 0 ks0 = .ok ks ∧ ts.length ≤ 6 := by
  cases d with
  | list ts =>
    cases e : goL badTask addTask ts 0 ks0 with
    | error q => rw [tasksR_bad e] at h; cases h
    | ok k =>
      rw [tasksR_ok e] at h
      by_cases hl : ts.length ≤ 6
      · rw [if_pos hl] at h; cases h; exact ⟨ts, rfl, e, hl⟩
      · rw [if_neg hl] at h; cases h
  | _ => cases h
theorem due_kinds {d e : PyData} {q : Str × Str} (h : kindsR d = .error q) : due d e = some q := by unfold due; simp only [h]
theorem due_tasks {d e : PyData} {q : Str × Str} {ks : Ks} (h : kindsR d = .ok ks) (g : tasksR ks e = .error q) : due d e = some q := by unfold due; simp only [h, g]
theorem due_deeds {d e : PyData} {ks ks' : Ks} (h : kindsR d = .ok ks) (g : tasksR ks e = .ok ks') : due d e = deedsR ks' e := by unfold due; simp only [h, g]
end K12
namespace K12
open PySem PySem.Spec PyProof.Rows L2
/-! ### readings by the def's own K (for blocks) -/
def rListOf (K : PySem.W.Frag) : List V → Hp → VK → Prop := fun xs H Q => ∃ p ys, xs = [.ref p] ∧ (SqL K H p ys ∨ SqT K H p ys) ∧ ∀ l, H l = none → Q (.ref l) (upd H l (.lst ys))
def rLenOf (K : PySem.W.Frag) : List V → Hp → VK → Prop := fun xs H Q => ∃ p ys, xs = [.ref p] ∧ (SqL K H p ys ∨ SqT K H p ys) ∧ Q (.int ys.length) H
section
variable {X : Cx} {K : PySem.W.Frag}
theorem call_list_ofK (h : X.K = K) : CallR X (.type "list") (rListOf K) := by subst h; exact call_list_of
theorem call_len_seqK (h : X.K = K) : CallR X (.builtin "len") (rLenOf K) := by subst h; exact call_len_seq
theorem ix_tupK (h : X.K = K) : IxR X (rIxT K) := by subst h; exact ix_tup
theorem ix_listK (h : X.K = K) : IxR X (rIxL K) := by subst h; exact ix_list
theorem sl_listK (h : X.K = K) : SlR X (rSlL K) := by subst h; exact sl_list
theorem sl_tupK (h : X.K = K) : SlR X (rSlT K) := by subst h; exact sl_tup
theorem op_inK (h : X.K = K) : OpR X (compareOp .In) (rIn K false) := by subst h; exact op_in_seq
theorem op_notInK (h : X.K = K) : OpR X (compareOp .NotIn) (rIn K true) := by subst h; exact op_notIn_seq
theorem pe_isiK {T : String} {x : Str} {e : Expr} {te : TE} {p pos p2 : Pos} (h : X.K = K) (h1 : X.mg "isinstance" = none) (h2 : X.mg x = none) (he : PE X e te) (hv : bootBuiltins x = some (.type T)) (hg : Gl X "isinstance" := by rfl) (hg2 : Gl X x := by rfl)
    (hn : x ≠ "__name__" := by decide) (hd : (x == ("__debug__" : Str)) = false := by decide)
    (hs1 : starEach [e, .Name x p2] X.env = (false, eval e X.env) :: starEach [.Name x p2] X.env := by rfl) (hs2 : starEach [.Name x p2] X.env = (false, eval (.Name x p2) X.env) :: starEach [] X.env := by rfl) (hpl : (backTo pos (starEach [.Name x p2] X.env)).any (·.1) = false := by rfl) :
    PE X (.Call (.Name "isinstance" p) [e, .Name x p2] [] pos) (tIsi K T te) := by subst h; exact pe_isi h1 h2 he hv hg hg2 hn hd hs1 hs2 hpl
end
end K12
namespace K12
open PySem PySem.Spec PyProof.Rows L2
theorem putF_le (f : Str) (v : V) : ∀ fs : List (Str × V), (putF f v fs).length ≤ fs.length + 1
  | [] => Nat.le_refl _
  | (g, x) :: r => by
    unfold putF
    split
    · simp
    · have := putF_le f v r; simp; omega
theorem putF_of {f g : Str} {v : V} {fs : List (Str × V)} (h : g = f) : (putF f v fs).lookup g = some v := by rw [lookup_putF, if_pos h]
theorem putF_not {f g : Str} {v : V} {fs : List (Str × V)} (h : ¬ g = f) : (putF f v fs).lookup g = fs.lookup g := by rw [lookup_putF, if_neg h]
/-- an own class that can be called -/
structure MakeC (P : Program) (w : World) (K : PySem.W.Frag) (mg : Str → Option Value) (base : Heap) (CX : CXT) (k : Nat) (x : Str) (C : Addr) (sp : Sp) : Prop where
  ex : ∃ (f : Addr) (fd : FuncData) (ps : List Str), Mk K C f ∧ FnOk P w K mg base CX k f fd ps sp ∧ Binds K fd ps [] ∧ mg x = some (.ref C)
def spProg (K : PySem.W.Frag) (C : Addr) : Sp := fun vs H Q E => ∃ (p : Addr) (H1 : Hp) (x dx : Addr) (d1 d2 : PyData) (v1 v2 : V), vs = [.ref x, v1, v2] ∧ H1 x = none ∧ H1 dx = none ∧ dx ≠ x ∧ Same H1 H ∧ H x = some (.ins C dx []) ∧
  Rp p H1 d1 v1 ∧ Rp p H1 d2 v2 ∧ Fit d1 ∧ Fit d2 ∧ d1.depth ≤ 12 ∧ d2.depth ≤ 12 ∧ Held p H1 ∧ match due d1 d2 with
  | none => ∀ H', Same H1 H' → Q .non H'
  | some q => Told K E H1 q
section
variable {P : Program} {w : World} {K : PySem.W.Frag} {mg : Str → Option Value} {base : Heap}
abbrev N_Program___init__ : List Str := ["self", "things", "tasks", "name", "begun", "body", "last", "kind", "size", "task"]
theorem sc_Program___init__ : FnScope N_Program___init__ ["self", "things", "tasks"] (defScope (cbody 50 0)) := sc_of (by decide +kernel)
theorem make_Program (T : Tx w K mg) (U : Ty w K mg) (k : Nat) (hk : 3 ≤ k) (c_kinds_of : Cl P w K mg base (L2.CX P w) k "kinds_of" (spKinds K)) (c_with_tasks : Cl P w K mg base (L2.CX P w) k "with_tasks" (spTasks K)) (c_want_deeds : Cl P w K mg base (L2.CX P w) k "want_deeds" (spDeeds K)) :
    MakeC P w K mg base (L2.CX P w) (k + 1) "Program" (He.ga K "Program") (spProg K (He.ga K "Program")) := by
  obtain ⟨f, fd, F, hf, hi⟩ := U.n_Program.ex
  refine ⟨f, fd, ["self", "things", "tasks"], ⟨U.k_Program.1, hf, hi, U.k_Program.2⟩, F.ok sc_Program___init__ (fun vs H Q E h => ?_) (fun cdv A outer s H vs Q E hr h => ?_), FunD.bindsN F (fun _ _ _ _ _ _ us hl => match us, hl with | [_, _, _], _ => rfl), U.m_Program⟩
  · obtain ⟨_, _, _, _, _, _, _, _, rfl, _⟩ := h; rfl
  have hu := hu_of hr
  obtain ⟨p, H1, x, dx, d1, d2, v1, v2, rfl, hx1, hdx1, ne, s1, hx, hr1, hr2, hf1, hf2, hd1, hd2, hp, kk⟩ := h
  refine ⟨_, ((pss_cons (ps_fld (pv 0) (pe_clX c_with_tasks hr (passes_call (takes_of rfl rfl rfl rfl) (fun _ _ _ _ h => h)) (pa_cons (pe_clX c_kinds_of hr (passes_call (takes_of rfl rfl rfl rfl) (fun _ _ _ _ h => h)) (pa_cons (pv 1) pa_nil)) (pa_cons (pv 2) pa_nil))) rfl)
      (pss_cons (ps_expr (pe_clX c_want_deeds hr (passes_call (takes_of rfl rfl rfl rfl) (fun _ _ _ _ h => h)) (pa_cons (pv 2) (pa_cons (pe_fld (pv 0) rfl) pa_nil))))
      (pss_cons (ps_fld (pv 0) (pe_callTy call_list_of rfl T.f_list b_list (pa_cons (pv 1) pa_nil)) rfl)
      (pss_cons (ps_fld (pv 0) (pe_lc (own := [("name", 3), ("begun", 4), ("body", 5), ("last", 6)]) rfl sc_Program___init__.nd (pi_list (pv 2)) (blkOk_by (N := N_Program___init__) (sc := defScope (cbody 50 0)) (by decide +kernel)) (fun _ _ _ _ _ => (pg_tupB (n := 4) rfl (pgs_cons (pg_name (i := 3) sc_Program___init__.nd rfl (Or.inl rfl)) (pgs_cons (pg_name (i := 4) sc_Program___init__.nd rfl (Or.inl rfl)) (pgs_cons (pg_name (i := 5) sc_Program___init__.nd rfl (Or.inl rfl)) (pgs_cons (pg_name (i := 6) sc_Program___init__.nd rfl (Or.inl rfl)) pgs_nil)))))) (fun _ _ _ _ _ => pts_nil) (fun _ _ _ _ _ => (pe_tup (pa_cons (pv 3) (pa_cons (pv 4) (pa_cons (pe_callTy (call_list_ofK (K := K) rfl) rfl T.f_list b_list (pa_cons (pv 5) pa_nil)) (pa_cons (pe_callTy (call_list_ofK (K := K) rfl) rfl T.f_list b_list (pa_cons (pv 6) pa_nil)) pa_nil))))))) rfl)
      (pss_cons (ps_fld (pv 0) (pe_dc (own := [("kind", 7), ("name", 3), ("size", 8)]) rfl sc_Program___init__.nd (pi_list (pv 1)) (blkOk_by (N := N_Program___init__) (sc := defScope (cbody 50 0)) (by decide +kernel)) (fun _ _ _ _ _ => (pg_tupB (n := 3) rfl (pgs_cons (pg_name (i := 7) sc_Program___init__.nd rfl (Or.inl rfl)) (pgs_cons (pg_name (i := 3) sc_Program___init__.nd rfl (Or.inl rfl)) (pgs_cons (pg_name (i := 8) sc_Program___init__.nd rfl (Or.inl rfl)) pgs_nil))))) (fun _ _ _ _ _ => pts_nil) (fun _ _ _ _ _ => (pv 3)) (fun _ _ _ _ _ => (pv 8))) rfl)
      (pss_one (ps_fld (pv 0) (pe_dc (own := [("task", 9)]) rfl sc_Program___init__.nd (pi_list (pe_fld (pv 0) rfl)) (blkOk_by (N := N_Program___init__) (sc := defScope (cbody 50 0)) (by decide +kernel)) (fun _ _ _ _ _ => (pg_name (i := 9) sc_Program___init__.nd rfl (Or.inl rfl))) (fun _ _ _ _ _ => pts_nil) (fun _ _ _ _ _ => (pe_ix (ix_tupK (K := K) rfl) (pv 9) pe_int (fun _ _ => rfl))) (fun _ _ _ _ _ => (pv 9))) rfl)))))))), ?_⟩
  have cC := U.c_Program
  have rp1 := hr1.mono (.of s1)
  have rp2 := hr2.mono (.of s1)
  refine ⟨_, rfl, p, d1, v1, rfl, rp1, hf1, hd1, hp.mono s1, ?_⟩
  cases hk1 : kindsR d1 with
  | error q =>
    rw [due_kinds hk1] at kk
    exact Told.mono s1 kk
  | ok ks =>
    obtain ⟨ts, rfl, hgo, htl⟩ := kindsR_yes hk1
    have hkl := goL_len addThing_len hgo
    intro H2 dk s2 hkd
    have s12 := s1.trans s2
    refine ⟨_, rfl, p, d2, v2, dk, ks, rfl, rp2.mono (.of s2), hf2, hd2, hp.mono s12, hkd, by simp at hkl; omega, ?_⟩
    cases hk2 : tasksR ks d2 with
    | error q =>
      rw [due_tasks hk1 hk2] at kk
      exact Told.mono s12 kk
    | ok ks2 =>
      obtain ⟨us, rfl, hgo2, hul⟩ := tasksR_yes hk2
      rw [due_deeds hk1 hk2] at kk
      intro H3 dk2 s3 hkd2
      have s13 := s12.trans s3
      have hx3 : H3 x = some (.ins (He.ga K "Program") dx []) := s3 _ _ (s2 _ _ hx)
      have na : dk2 ≠ x := fun z => by
        have := hkd2.2
        rw [z, hx3] at this
        cases this
      refine ⟨_, rfl, x, _, dx, _, rfl, hx3, cC, U.a_Program.1, by decide, ?_⟩
      have s14 : Same H1 (upd H3 x (.ins (He.ga K "Program") dx (putF "kinds" (.ref dk2) []))) := Same.mut s13 hx1
      have hx4 : upd H3 x (.ins (He.ga K "Program") dx (putF "kinds" (.ref dk2) [])) x = some (.ins (He.ga K "Program") dx (putF "kinds" (.ref dk2) [])) := upd_same
      have hkd4 : Kd p (upd H3 x (.ins (He.ga K "Program") dx (putF "kinds" (.ref dk2) []))) dk2 ks2 := ⟨hkd2.1, (upd_ne na).trans hkd2.2⟩
      revert s14 hx4 hkd4
      generalize upd H3 x (.ins (He.ga K "Program") dx (putF "kinds" (.ref dk2) [])) = H4
      intro s14 hx4 hkd4
      have hform : ∀ t ∈ us, ∃ nm bg b l, t = .tuple [.str nm, bg, b, l] := fun t ht => by
        obtain ⟨m, k, e⟩ := goL_all hgo2 t ht
        exact badTask_ok e
      refine ⟨_, rfl, _, rfl, x, _, dx, _, _, rfl, hx4, cC, U.a_Program.1, rfl, p, us, v2, dk2, ks2, rfl, hr2.mono (.of s14), hf2, hd2, hkd4, hform, ?_⟩
      cases hdd : deedsR ks2 (.list us) with
      | some q =>
        rw [hdd] at kk
        exact Told.mono s14 kk
      | none =>
        rw [hdd] at kk
        intro H5 s5
        have s15 := s14.trans s5
        have hx5 := s5 _ _ hx4
        obtain ⟨a1, xs1, rfl, n1, ha1, hxs1⟩ := hr1
        obtain ⟨a2, xs2, rfl, n2, ha2, hxs2⟩ := hr2
        refine ⟨_, rfl, a1, xs1, rfl, .inl (SqL.of (s15 _ _ ha1)), fun l1 hl1 => ?_⟩
        have h6 : Same H5 (upd H5 l1 (.lst xs1)) := Same.new hl1
        refine ⟨_, rfl, x, _, dx, _, rfl, h6 _ _ hx5, cC, U.a_Program.2.1, Nat.lt_of_le_of_lt (putF_le _ _ _) (show 1 < 1000 by decide), ?_⟩
        have s16 := Same.mut (o := .ins (He.ga K "Program") dx (putF "own_things" (.ref l1) (putF "kinds" (.ref dk2) []))) (s15.trans h6) hx1
        have hx6 : upd (upd H5 l1 (.lst xs1)) x (.ins (He.ga K "Program") dx (putF "own_things" (.ref l1) (putF "kinds" (.ref dk2) []))) x = _ := upd_same
        revert s16 hx6
        generalize upd (upd H5 l1 (.lst xs1)) x (.ins (He.ga K "Program") dx (putF "own_things" (.ref l1) (putF "kinds" (.ref dk2) []))) = H6
        intro s16 hx6
        have hfs6 : ∀ f : Str, (putF "own_things" (.ref l1) (putF "kinds" (.ref dk2) [])).length ≤ 2 := fun _ => Nat.le_trans (putF_le _ _ _) (Nat.succ_le_succ (putF_le _ _ _))
        have hfs := hfs6 ""
        clear hfs6
        revert hx6 hfs
        generalize (putF "own_things" (V.ref l1) (putF "kinds" (.ref dk2) [])) = fs6
        intro hx6 hfs
        have hul' : xs2.length = us.length := hxs2.length
        have htl' : xs1.length = ts.length := hxs1.length
        refine ⟨_, rfl, a2, rfl, ⟨xs2, SqL.of (s16 _ _ ha2)⟩, fun D hD => lc_rel (walk_list (xs := xs2)) (fun H => Same H6 H) (fun _ v H => ∃ t z r, v = .ref t ∧ t ≠ D ∧ H t = some (.tup (.str z :: r))) (Nat.lt_of_le_of_lt (show _ ≤ 6 by omega) (by decide)) (Same.new hD) (fun H e => SqL.of (e _ _ (s16 _ _ ha2))) (fun H o e => Same.mut e hD) (fun i v H o ⟨t, z, r, e1, e2, e3⟩ => ⟨t, z, r, e1, e2, (upd_ne e2).trans e3⟩) ?_ ?_⟩
        · rintro i x' G1 G2 C hi ev ⟨acc, hacc⟩ ⟨rfl, hy⟩ hC
          obtain ⟨t, hti, hrt⟩ := hxs2.getV hy
          have hmem := List.mem_of_getElem? hti
          obtain ⟨nm, bg, bo, la, rfl⟩ := hform t hmem
          have hbd : badDeeds ks2 (.tuple [.str nm, bg, bo, la]) = none := List.findSome?_eq_none_iff.mp hdd _ hmem
          obtain ⟨⟨es, rfl⟩, gs, rfl⟩ := badDeeds_ok hbd
          obtain ⟨b, ys, rfl, nb, hb, hys⟩ := hrt.mono (.of (s16.trans ev))
          obtain ⟨_, _, _, _, vn, vb, vo, vl, e1, rfl, hn, hbg, hbo, hla⟩ := rp4 hys hys.length
          cases e1
          cases hn
          obtain ⟨c1, zs1, rfl, _, hc1, _⟩ := hbo
          obtain ⟨c2, zs2, rfl, _, hc2, _⟩ := hla
          refine ⟨b, _, rfl, SqT.of hb, rfl, _, _, rfl, _, _, rfl, _, _, rfl, _, _, rfl, rfl, ?_⟩
          refine ⟨rfl, ?_⟩
          refine ⟨_, rfl, _, rfl, _, rfl, c1, zs1, rfl, .inl (SqL.of hc1), fun q1 hq1 => ⟨_, rfl, c2, zs2, rfl, .inl (SqL.of (Same.new hq1 _ _ hc2)), fun q2 hq2 => ⟨by show 4 ≤ sizeLine; decide, fun q3 hq3 => ?_⟩⟩⟩
          have t1 : Same G2 (upd (upd (upd G2 q1 (.lst zs1)) q2 (.lst zs2)) q3 (.tup [.str nm, vb, .ref q1, .ref q2])) := ((Same.new hq1).trans (Same.new hq2)).trans (Same.new hq3)
          refine hC _ _ (ev.trans t1) ?_ (fun j u ⟨t, z, r, h1, h2, h3⟩ => ⟨t, z, r, h1, h2, t1 _ _ h3⟩) ⟨q3, nm, _, rfl, ?_, upd_same⟩
          · rw [t1 _ _ hacc, hacc]
          · intro z
            have t2 : Same G2 (upd (upd G2 q1 (.lst zs1)) q2 (.lst zs2)) := (Same.new hq1).trans (Same.new hq2)
            have := t2 _ _ hacc
            rw [← z, hq3] at this
            cases this
        · intro H7 acc e7 hacc hal hR
          have hx7 := e7 _ _ hx6
          have hDx : D ≠ x := fun z => by rw [z, hx6] at hD; cases hD
          refine ⟨_, rfl, x, _, dx, fs6, rfl, hx7, cC, U.a_Program.2.2.1, by omega, ?_⟩
          have s17 := Same.mut (o := .ins (He.ga K "Program") dx (putF "own_tasks" (.ref D) fs6)) (s16.trans e7) hx1
          have hx8 : upd H7 x (.ins (He.ga K "Program") dx (putF "own_tasks" (.ref D) fs6)) x = some (.ins (He.ga K "Program") dx (putF "own_tasks" (.ref D) fs6)) := upd_same
          have hacc8 : upd H7 x (.ins (He.ga K "Program") dx (putF "own_tasks" (.ref D) fs6)) D = some (.lst acc) := (upd_ne hDx).trans hacc
          have hR8 : ∀ (i : Nat) (v : V), acc[i]? = some v → ∃ t z r, v = .ref t ∧ upd H7 x (.ins (He.ga K "Program") dx (putF "own_tasks" (.ref D) fs6)) t = some (.tup (.str z :: r)) := fun i v e => by
            obtain ⟨t, z, r, h1, h2, h3⟩ := hR i v e
            refine ⟨t, z, r, h1, (upd_ne fun y => ?_).trans h3⟩
            rw [y, hx7] at h3
            cases h3
          have hl8 : (putF "own_tasks" (.ref D) fs6).length ≤ 3 := Nat.le_trans (putF_le _ _ _) (by omega)
          have hlk8 : fget (putF "own_tasks" (.ref D) fs6) "own_tasks" = some (.ref D) := putF_of rfl
          revert s17 hx8 hacc8 hR8 hl8 hlk8
          generalize upd H7 x (.ins (He.ga K "Program") dx (putF "own_tasks" (.ref D) fs6)) = H8
          generalize (putF "own_tasks" (V.ref D) fs6) = fs8
          intro s17 hx8 hacc8 hR8 hl8 hlk8
          refine ⟨_, rfl, a1, rfl, ⟨xs1, SqL.of (s17 _ _ ha1)⟩, fun D2 hD2 => dc_weak (walk_list (xs := xs1)) hD2 (Nat.lt_of_le_of_lt (show _ ≤ 10 by omega) (by decide)) (fun G e => SqL.of (e _ _ (s17 _ _ ha1))) ?_ ?_⟩
          · rintro i x' G1 G2 C hi ev ⟨rfl, hy⟩ hC
            obtain ⟨t, hti, hrt⟩ := hxs1.getV hy
            obtain ⟨m, k, e⟩ := goL_all hgo t (List.mem_of_getElem? hti)
            obtain ⟨kd, nm, sz, rfl⟩ := badThing_ok e
            obtain ⟨b, ys, rfl, nb, hb, hys⟩ := hrt.mono (.of (s17.trans ev))
            obtain ⟨_, _, _, vk, vn, vs, e1, rfl, hk, hn, hs⟩ := rp3 hys hys.length
            cases e1
            cases hn
            refine ⟨b, _, rfl, SqT.of hb, rfl, _, _, rfl, _, _, rfl, _, _, rfl, rfl, ?_⟩
            exact ⟨rfl, _, rfl, _, rfl, hC nm vs _ (Same.refl _)⟩
          · intro H9 e9
            have hx9 := e9 _ _ hx8
            refine ⟨_, rfl, x, _, dx, fs8, rfl, hx9, cC, U.a_Program.2.2.2.1, by omega, ?_⟩
            have s18 := Same.mut (o := .ins (He.ga K "Program") dx (putF "own_sizes" (.ref D2) fs8)) (s17.trans e9) hx1
            have hx10 : upd H9 x (.ins (He.ga K "Program") dx (putF "own_sizes" (.ref D2) fs8)) x = some (.ins (He.ga K "Program") dx (putF "own_sizes" (.ref D2) fs8)) := upd_same
            have hacc10 : upd H9 x (.ins (He.ga K "Program") dx (putF "own_sizes" (.ref D2) fs8)) D = some (.lst acc) := (upd_ne hDx).trans (e9 _ _ hacc8)
            have hR10 : ∀ (i : Nat) (v : V), acc[i]? = some v → ∃ t z r, v = .ref t ∧ upd H9 x (.ins (He.ga K "Program") dx (putF "own_sizes" (.ref D2) fs8)) t = some (.tup (.str z :: r)) := fun i v e => by
              obtain ⟨t, z, r, h1, h3⟩ := hR8 i v e
              have h4 := e9 _ _ h3
              refine ⟨t, z, r, h1, (upd_ne fun y => ?_).trans h4⟩
              rw [y, hx9] at h4
              cases h4
            have hl10 : (putF "own_sizes" (.ref D2) fs8).length ≤ 4 := Nat.le_trans (putF_le _ _ _) (by omega)
            have hlk10 : fget (putF "own_sizes" (.ref D2) fs8) "own_tasks" = some (.ref D) := (putF_not (by decide)).trans hlk8
            revert s18 hx10 hacc10 hR10 hl10 hlk10
            generalize upd H9 x (.ins (He.ga K "Program") dx (putF "own_sizes" (.ref D2) fs8)) = H10
            generalize (putF "own_sizes" (V.ref D2) fs8) = fs10
            intro s18 hx10 hacc10 hR10 hl10 hlk10
            refine ⟨_, rfl, x, _, dx, fs10, _, rfl, hx10, cC, U.a_Program.2.2.1, hlk10, D, rfl, ⟨acc, SqL.of hacc10⟩, fun D3 hD3 => dc_weak (walk_list (xs := acc)) hD3 (Nat.lt_of_le_of_lt (show _ ≤ 6 by omega) (by decide)) (fun G e => SqL.of (e _ _ hacc10)) ?_ ?_⟩
            · rintro i x' G1 G2 C hi ev ⟨rfl, hy⟩ hC
              obtain ⟨t, z, r, rfl, h3⟩ := hR10 i _ hy
              exact ⟨rfl, _, rfl, t, _, 0, _, rfl, rfl, SqT.of (ev _ _ h3), at0 _ _, _, rfl, hC z _ _ (Same.refl _)⟩
            · intro H11 e11
              refine ⟨_, rfl, x, _, dx, fs10, rfl, e11 _ _ hx10, cC, U.a_Program.2.2.2.2, by omega, ?_⟩
              exact kk _ (Same.mut (s18.trans e11) hx1)
end
end K12
namespace K12
open PySem PySem.Spec PyProof.Rows L2
section
variable {X : Cx}
/-! ### == and != of a list with a new empty list -/
theorem list_isE (hu : X.A.units < cLine) {pins : List (Addr × Obj)} {σ : L2.St} {H : Hp} {s : Shared} {a b : Addr} {xs : List V} {R : Value → Shared → Prop} {E : Value → Shared → Prop} (I : Inv X pins σ H s) (ha : SqL X.K H a xs) (hb : H b = some (.lst []))
    (h : R (.bool xs.isEmpty) s) : wpAny (model X.prog X.w) X.A (compareOp .Eq (.ref a) (.ref b)) R E s := by
  obtain ⟨its, rv, p, _⟩ := I.list ha
  obtain ⟨its2, rv2, p2, _⟩ := I.list (SqL.of hb)
  cases rv2
  cases xs with
  | nil =>
    cases rv
    exact SeqAt.eq_listAt (e := fun _ => false) p.isList p2.isList rfl hu (fun j h1 h2 => absurd h2 (by simp)) h
  | cons x xs =>
    cases rv
    exact SeqAt.eq_list_lengthsAt p.isList p2.isList (by simp) hu h
theorem op_eqEL (hu : X.A.units < cLine) : OpR X (compareOp .Eq) (fun x y H Q => ∃ a b xs, x = .ref a ∧ y = .ref b ∧ SqL X.K H a xs ∧ H b = some (.lst []) ∧ Q (.bl xs.isEmpty) H) := by
  intro pins s σ H x y v u Q I rx ry h
  obtain ⟨a, b, xs, rfl, rfl, ha, hb, q⟩ := h
  cases rx; cases ry
  exact list_isE hu I ha hb ⟨.bl _, H, I, rfl, q⟩
theorem op_neEL (hu : X.A.units < cLine) : OpR X (compareOp .NotEq) (fun x y H Q => ∃ a b xs, x = .ref a ∧ y = .ref b ∧ SqL X.K H a xs ∧ H b = some (.lst []) ∧ Q (.bl (!xs.isEmpty)) H) := by
  intro pins s σ H x y v u Q I rx ry h
  obtain ⟨a, b, xs, rfl, rfl, ha, hb, q⟩ := h
  cases rx; cases ry
  obtain ⟨its, rv, p, _⟩ := I.list ha
  obtain ⟨its2, rv2, p2, _⟩ := I.list (SqL.of hb)
  cases rv2
  cases xs with
  | nil =>
    cases rv
    exact SeqAt.RcNeAt.lists (e := fun _ => false) p.isList p2.isList rfl hu (fun j h1 h2 => absurd h2 (by simp)) X.prog X.w X.xe _ ⟨.bl _, H, I, rfl, q⟩
  | cons x xs =>
    cases rv
    exact SeqAt.RcNeAt.lists_lengths p.isList p2.isList (by simp) hu X.prog X.w X.xe _ ⟨.bl _, H, I, rfl, q⟩
/-- d.update(e), two dicts -/
def rUpdate : V → List V → Hp → VK → Prop := fun x xs H Q => ∃ (a b : Addr) (ks ls : List (Key × V)), x = .ref a ∧ xs = [.ref b] ∧ a ≠ b ∧ H a = some (.dK ks) ∧ H b = some (.dK ls) ∧ ks.length + ls.length ≤ sizeLine ∧ Q .non (upd H a (.dK (mergeK ks ls)))
theorem mt_update : MtR X "dict.update" rUpdate := by
  intro pins s σ H x xs v us Q I rx rv h
  obtain ⟨a, b, ks, ls, rfl, rfl, hab, ha, hb, hz, q⟩ := h
  cases rx
  obtain ⟨u, rfl, ru⟩ := vals1 rv
  cases ru
  obtain ⟨z1, lo1, vs1, rel1, d1⟩ := dk_of I.hok ha
  obtain ⟨z2, lo2, vs2, rel2, d2⟩ := dk_of I.hok hb
  have hl : (mergeK ks ls).length ≤ sizeLine := Nat.le_trans (length_mergeK ls ks) hz
  refine call_meetsIn PySem.F.slot_dict_update d1.typeIs PySem.F.entry_dict_update (PySem.F.args_dict_update_2 _ _) (meets_dict_update (mixKind X.prog X.w) a b hab lo2)
    ⟨vs1, vs2, d1, d2, by rw [← rel1.length, ← rel2.length]; exact hz, fun h' dd' _ hs => ?_⟩
  have he : ∃ q, h'.get? a = some q := let ⟨q, _, _, hq, _⟩ := dd'; ⟨q, hq⟩
  exact ⟨.non, _, d_write (t' := s.toks) I (by rw [ha]; exact True.intro) hs he (dk_new hl lo1 (KV.merge rel2 rel1) dd'), rfl, q⟩
end
end K12
namespace PySem.K12Z
open PySem
/-- a thing that gives items one by one: at i, over l -/
structure Src (prog : Program) (w : World) (A : Around) (i l : Addr) (St : Nat → Heap → Prop) (Sq : Heap → Prop) (item : Nat → Option Value) : Prop where
  stx : ∀ {n : Nat} {h h' : Heap} {a : Addr}, St n h → Heap.ExtBut a h h' → i ≠ a → St n h'
  sqx : ∀ {h h' : Heap} {a : Addr}, Sq h → Heap.ExtBut a h h' → l ≠ a → Sq h'
  at_ : ∀ {n : Nat} {h h' : Heap}, St n h → (∀ o, h.get? i = some o → h'.get? i = some o) → St n h'
  there : ∀ {n : Nat} {h : Heap}, St n h → i < h.objs.size
  give : ∀ {E : Value → Shared → Prop} {s : Shared} {n : Nat} {x : Value} {Q : Value → Shared → Prop}, St n s.heap → Sq s.heap → item n = some x → (∀ h', St (n + 1) h' → Heap.SameBut i s.heap h' → Q x { s with heap := h' }) →
    wpAny (model prog w) A (Builtin.SmallTypes.nextOf (.ref i)) Q E s
  stop : ∀ {E : Value → Shared → Prop} {s : Shared} {n : Nat} {Q : Value → Shared → Prop}, A.handled = none → St n s.heap → Sq s.heap → item n = none →
    (∀ h' e, Heap.ExtBut i s.heap h' → (∃ o, h'.get? e = some o ∧ o.cls = .type "StopIteration") → E (.ref e) { s with heap := h' }) → wpAny (model prog w) A (Builtin.SmallTypes.nextOf (.ref i)) Q E s
section
variable {prog : Program} {w : World} {A : Around} {E : Value → Shared → Prop} {s : Shared}
theorem src_tup {i l : Addr} {xs : Array Value} : Src prog w A i l (fun n h => h.IsTupleIter i l n) (fun h => h.IsTuple l xs) (fun n => xs[n]?) where
  stx := fun h e n => h.extBut e n
  sqx := fun h e n => h.extBut e n
  at_ := fun h k => h.at k
  there := fun ⟨_, e, _⟩ => Heap.lt_size e
  give := fun h q e k => RZ.nextOf_tuple_item h q e k
  stop := fun hh h q e k => RZ.nextOf_tuple_end hh h q e k
theorem src_lst {i l : Addr} {xs : Array Value} : Src prog w A i l (fun n h => h.IsListIter i l n) (fun h => h.IsList l xs) (fun n => xs[n]?) where
  stx := fun h e n => h.extBut e n
  sqx := fun h e n => h.extBut e n
  at_ := fun h k => h.at k
  there := fun ⟨_, e, _⟩ => Heap.lt_size e
  give := fun h q e k => wpAny_nextOf_list_item h q e k
  stop := fun hh h q e k => wpAny_nextOf_list_end hh h q e k
variable {z TI TO i1 i2 l1 l2 : Addr} {St1 St2 : Nat → Heap → Prop} {Sq1 Sq2 : Heap → Prop} {it1 it2 : Nat → Option Value}
theorem zip_give {k1 k2 : Nat} {x y a b : Value} {Q : Value → Shared → Prop} (S1 : Src prog w A.in1 i1 l1 St1 Sq1 it1) (S2 : Src prog w A.in1 i2 l2 St2 Sq2 it2) (D : ZipApart z TI TO i1 i2 l1 l2)
    (hz : IsZip s.heap z TI TO .none) (hTI : IsPair s.heap TI (.ref i1) (.ref i2)) (hTO : IsPair s.heap TO a b)
    (h1 : St1 k1 s.heap) (h2 : St2 k2 s.heap) (hl1 : Sq1 s.heap) (hl2 : Sq2 s.heap) (hx : it1 k1 = some x) (hy : it2 k2 = some y)
    (hQ : ∀ h', IsZip h' z TI TO (rawInt s.heap.objs.size) → IsPair h' TO x y → St1 (k1 + 1) h' → St2 (k2 + 1) h' → IsPair h' s.heap.objs.size x y → h'.objs.size = s.heap.objs.size + 1 →
      (∀ c o, c ≠ z → c ≠ TO → c ≠ i1 → c ≠ i2 → s.heap.get? c = some o → h'.get? c = some o) → Q (.ref s.heap.objs.size) { s with heap := h' }) :
    wpAny (model prog w) A.in1 (Builtin.«zip.__next__» ⟨[.ref z], []⟩) (fun fin s' => ∃ v, fin = .done (.ret v) ∧ Q v s') E s := by
  show wpAny _ _ (field (.ref z) 2 >>= _) _ _ _
  refine wpAny_bind (wpAny_field hz rfl (x := .bool false) rfl ?_)
  show wpAny _ _ (field (.ref z) 3 >>= _) _ _ _
  refine wpAny_bind (wpAny_field hz rfl (x := .ref TI) rfl ?_)
  refine wpAny_bind (wpAny_seqItems hTI rfl ?_)
  show wpAny _ _ (Builtin.SmallTypes.ownedTupleIsFree (.ref z) >>= _) _ _ _
  refine wpAny_bind ?_
  unfold Builtin.SmallTypes.ownedTupleIsFree
  refine wpAny_bind (wpAny_field hz rfl (x := .none) rfl (wpAny_pure ?_))
  simp only [if_true]
  refine wpAny_bind (wpAny_rule ?_)
  refine wpAny_bind (wpAny_field hz rfl (x := .ref TO) rfl ?_)
  refine wpAny_bind (wpAny_setField_rec hz (by simp) fun ha za ka => ?_)
  replace za : IsZip ha z TI TO .ellipsis := za
  refine wpAny_bind ?_
  simp only [List.zipIdx_cons, List.zipIdx_nil, List.forIn_cons, List.forIn_nil]
  refine wpAny_bind (wpAny_bind (wpAny_onRaise ?_))
  show wpAny _ _ (Builtin.SmallTypes.nextOf (.ref i1) >>= _) _ _ _
  refine wpAny_bind (S1.give (S1.stx h1 ka.extBut D.i1z) (S1.sqx hl1 ka.extBut D.l1z) hx fun hb p1b kb => wpAny_pure ?_)
  have tb : IsPair hb TO a b := kb.extBut _ _ D.TOi1 (ka.extBut _ _ D.TOz hTO)
  refine wpAny_bind (wpAny_seqItems tb rfl ?_)
  refine wpAny_bind (wpAny_updateSeq_pair tb fun hc tc kc => ?_)
  replace tc : IsPair hc TO x b := tc
  refine wpAny_bind (wpAny_letGo (wpAny_pure ?_))
  refine wpAny_bind (wpAny_bind (wpAny_onRaise ?_))
  show wpAny _ _ (Builtin.SmallTypes.nextOf (.ref i2) >>= _) _ _ _
  refine wpAny_bind (S2.give (S2.stx (S2.stx (S2.stx h2 ka.extBut D.i2z) kb.extBut D.i12.symm) kc.extBut D.TOi2.symm)
    (S2.sqx (S2.sqx (S2.sqx hl2 ka.extBut D.l2z) kb.extBut D.l2i1) kc.extBut D.l2TO) hy fun hd p2d kd => wpAny_pure ?_)
  have td : IsPair hd TO x b := kd.extBut _ _ D.TOi2 tc
  refine wpAny_bind (wpAny_seqItems td rfl ?_)
  refine wpAny_bind (wpAny_updateSeq_pair td fun he te ke => ?_)
  replace te : IsPair he TO x y := te
  refine wpAny_bind (wpAny_letGo (wpAny_pure (wpAny_pure ?_)))
  refine wpAny_bind (wpAny_seqItems te rfl ?_)
  refine wpAny_bind (wpAny_newTuple ?_)
  have hsz : he.objs.size = s.heap.objs.size := by rw [ke.1, kd.1, kc.1, kb.1, ka.1]
  have ze : IsZip he z TI TO .ellipsis := ke.extBut _ _ D.TOz.symm (kd.extBut _ _ D.i2z.symm (kc.extBut _ _ D.TOz.symm (kb.extBut _ _ D.i1z.symm za)))
  have kE : ∀ c o, c ≠ z → c ≠ TO → c ≠ i1 → c ≠ i2 → s.heap.get? c = some o → he.get? c = some o := fun c o c1 c2 c3 c4 e =>
    ke.extBut _ _ c2 (kd.extBut _ _ c4 (kc.extBut _ _ c2 (kb.extBut _ _ c3 (ka.extBut _ _ c1 e))))
  have p1e : St1 (k1 + 1) he := S1.stx (S1.stx (S1.stx p1b kc.extBut D.TOi1.symm) kd.extBut D.i12) ke.extBut D.TOi1.symm
  have p2e : St2 (k2 + 1) he := S2.stx p2d ke.extBut D.TOi2.symm
  have zl : z < he.objs.size := Heap.lt_size ze
  show wpAny _ _ (Builtin.SmallTypes.ownedTupleHandOut (.ref z) (.ref he.objs.size) >>= _) _ _ _
  refine wpAny_bind ?_
  unfold Builtin.SmallTypes.ownedTupleHandOut
  have zf : IsZip (he.push { cls := .type "tuple", data := .seq #[x, y] }) z TI TO .ellipsis := Heap.get?_push_of_some _ ze
  refine wpAny_bind (wpAny_setField_rec zf (by simp) fun hg zg kg => ?_)
  replace zg : IsZip hg z TI TO (rawInt he.objs.size) := zg
  refine wpAny_setField_rec zg (by simp) fun hh zh kh => ?_
  replace zh : IsZip hh z TI TO (rawInt he.objs.size) := zh
  have up : ∀ c o, c ≠ z → he.get? c = some o → hh.get? c = some o := fun c o c1 e => kh.extBut _ _ c1 (kg.extBut _ _ c1 (Heap.get?_push_of_some _ e))
  have nT : IsPair hh he.objs.size x y := kh.extBut _ _ (Nat.ne_of_gt zl) (kg.extBut _ _ (Nat.ne_of_gt zl) (Heap.get?_push_size _ rfl))
  have sz : hh.objs.size = he.objs.size + 1 := by rw [kh.1, kg.1, Heap.size_push]
  rw [hsz] at zh nT sz
  refine wpAny_pure ⟨_, rfl, ?_⟩
  show Q (.ref he.objs.size) _
  rw [hsz]
  exact hQ hh zh (up _ _ D.TOz te) (S1.at_ p1e fun o e => up _ o D.i1z e) (S2.at_ p2e fun o e => up _ o D.i2z e) nT sz fun c o c1 c2 c3 c4 e => up c o c1 (kE c o c1 c2 c3 c4 e)
theorem zip_stop {k1 k2 : Nat} {a b : Value} {Q : Fin → Shared → Prop} (S1 : Src prog w A.in1 i1 l1 St1 Sq1 it1) (S2 : Src prog w A.in1 i2 l2 St2 Sq2 it2) (hh : A.in1.handled = none) (D : ZipApart z TI TO i1 i2 l1 l2)
    (hz : IsZip s.heap z TI TO .none) (hTI : IsPair s.heap TI (.ref i1) (.ref i2)) (hTO : IsPair s.heap TO a b)
    (h1 : St1 k1 s.heap) (h2 : St2 k2 s.heap) (hl1 : Sq1 s.heap) (hl2 : Sq2 s.heap) (hend : it1 k1 = none ∨ it2 k2 = none)
    (hE : ∀ h' e, (∀ c o, c ≠ z → c ≠ TO → c ≠ i1 → c ≠ i2 → s.heap.get? c = some o → h'.get? c = some o) → (∃ o, h'.get? e = some o ∧ o.cls = .type "StopIteration") → E (.ref e) { s with heap := h' }) :
    wpAny (model prog w) A.in1 (Builtin.«zip.__next__» ⟨[.ref z], []⟩) Q E s := by
  show wpAny _ _ (field (.ref z) 2 >>= _) _ _ _
  refine wpAny_bind (wpAny_field hz rfl (x := .bool false) rfl ?_)
  show wpAny _ _ (field (.ref z) 3 >>= _) _ _ _
  refine wpAny_bind (wpAny_field hz rfl (x := .ref TI) rfl ?_)
  refine wpAny_bind (wpAny_seqItems hTI rfl ?_)
  show wpAny _ _ (Builtin.SmallTypes.ownedTupleIsFree (.ref z) >>= _) _ _ _
  refine wpAny_bind ?_
  unfold Builtin.SmallTypes.ownedTupleIsFree
  refine wpAny_bind (wpAny_field hz rfl (x := .none) rfl (wpAny_pure ?_))
  simp only [if_true]
  refine wpAny_bind (wpAny_rule ?_)
  refine wpAny_bind (wpAny_field hz rfl (x := .ref TO) rfl ?_)
  refine wpAny_bind (wpAny_setField_rec hz (by simp) fun ha za ka => ?_)
  replace za : IsZip ha z TI TO .ellipsis := za
  refine wpAny_bind ?_
  simp only [List.zipIdx_cons, List.zipIdx_nil, List.forIn_cons, List.forIn_nil]
  refine wpAny_bind (wpAny_bind (wpAny_onRaise ?_))
  show wpAny _ _ (Builtin.SmallTypes.nextOf (.ref i1) >>= _) _ _ _
  cases hx : it1 k1 with
  | none =>
    refine wpAny_bind (S1.stop hh (S1.stx h1 ka.extBut D.i1z) (S1.sqx hl1 ka.extBut D.l1z) hx fun hb e kb he => ?_)
    obtain ⟨oe, hoe, hce⟩ := he
    have zb : IsZip hb z TI TO .ellipsis := kb _ _ D.i1z.symm za
    have hez : e ≠ z := fun x => by subst x; rw [zb] at hoe; cases hoe; simp at hce
    refine wpAny_setField_rec zb (by simp) fun hc _ kc => hE hc e (fun c o c1 _ c3 _ x => kc.extBut _ _ c1 (kb _ _ c3 (ka.extBut _ _ c1 x))) ⟨oe, kc.extBut _ _ hez hoe, hce⟩
  | some x =>
    have hy : it2 k2 = none := by rcases hend with h | h; rw [hx] at h; cases h; exact h
    refine wpAny_bind (S1.give (S1.stx h1 ka.extBut D.i1z) (S1.sqx hl1 ka.extBut D.l1z) hx fun hb p1b kb => wpAny_pure ?_)
    have tb : IsPair hb TO a b := kb.extBut _ _ D.TOi1 (ka.extBut _ _ D.TOz hTO)
    refine wpAny_bind (wpAny_seqItems tb rfl ?_)
    refine wpAny_bind (wpAny_updateSeq_pair tb fun hc tc kc => ?_)
    refine wpAny_bind (wpAny_letGo (wpAny_pure ?_))
    refine wpAny_bind (wpAny_bind (wpAny_onRaise ?_))
    show wpAny _ _ (Builtin.SmallTypes.nextOf (.ref i2) >>= _) _ _ _
    refine wpAny_bind (S2.stop hh (S2.stx (S2.stx (S2.stx h2 ka.extBut D.i2z) kb.extBut D.i12.symm) kc.extBut D.TOi2.symm)
      (S2.sqx (S2.sqx (S2.sqx hl2 ka.extBut D.l2z) kb.extBut D.l2i1) kc.extBut D.l2TO) hy fun hd e kd he => ?_)
    obtain ⟨oe, hoe, hce⟩ := he
    have zd : IsZip hd z TI TO .ellipsis := kd _ _ D.i2z.symm (kc.extBut _ _ D.TOz.symm (kb.extBut _ _ D.i1z.symm za))
    have hez : e ≠ z := fun x => by subst x; rw [zd] at hoe; cases hoe; simp at hce
    refine wpAny_setField_rec zd (by simp) fun hf _ kf => hE hf e (fun c o c1 c2 c3 c4 x => kf.extBut _ _ c1 (kd _ _ c4 (kc.extBut _ _ c2 (kb.extBut _ _ c3 (ka.extBut _ _ c1 x))))) ⟨oe, kf.extBut _ _ hez hoe, hce⟩
end
end PySem.K12Z
namespace PySem.K12Z
open PySem
section
variable {prog : Program} {w : World} {A : Around} {E : Value → Shared → Prop} {s : Shared}
variable {z TI TO i1 i2 l1 l2 : Addr} {St1 St2 : Nat → Heap → Prop} {Sq1 Sq2 : Heap → Prop} {it1 it2 : Nat → Option Value}
theorem next_give {k1 k2 : Nat} {x y a b : Value} {Q : Option Value → Shared → Prop} (S1 : Src prog w A.in1 i1 l1 St1 Sq1 it1) (S2 : Src prog w A.in1 i2 l2 St2 Sq2 it2) (D : ZipApart z TI TO i1 i2 l1 l2)
    (hz : IsZip s.heap z TI TO .none) (hTI : IsPair s.heap TI (.ref i1) (.ref i2)) (hTO : IsPair s.heap TO a b)
    (h1 : St1 k1 s.heap) (h2 : St2 k2 s.heap) (hl1 : Sq1 s.heap) (hl2 : Sq2 s.heap) (hx : it1 k1 = some x) (hy : it2 k2 = some y)
    (hQ : ∀ h', IsZip h' z TI TO (rawInt s.heap.objs.size) → IsPair h' TO x y → St1 (k1 + 1) h' → St2 (k2 + 1) h' → IsPair h' s.heap.objs.size x y → h'.objs.size = s.heap.objs.size + 1 →
      (∀ c o, c ≠ z → c ≠ TO → c ≠ i1 → c ≠ i2 → s.heap.get? c = some o → h'.get? c = some o) → Q (some (.ref s.heap.objs.size)) { s with heap := h' }) :
    wpAny (model prog w) A (pyNext (.ref z)) Q E s := by
  have hT : s.TypeIs (.ref z) "zip" := ⟨_, hz, rfl⟩
  unfold pyNext
  exact wpAny_bind (wpAny_attempt (wpAny_callSpecial?_slot (name := Str.ofString "__next__") hT F.slot_zip_next
    (wpAny_call_entry F.slot_zip_next hT F.entry_zip_next
      (zip_give S1 S2 D hz hTI hTO h1 h2 hl1 hl2 hx hy fun h' a1 a2 a3 a4 a5 a6 a7 => wpAny_pure (hQ h' a1 a2 a3 a4 a5 a6 a7)) (F.args_zip_next_1 _))))
theorem next_stop {k1 k2 : Nat} {a b : Value} {Q : Option Value → Shared → Prop} (S1 : Src prog w A.in1 i1 l1 St1 Sq1 it1) (S2 : Src prog w A.in1 i2 l2 St2 Sq2 it2) (hh : A.handled = none) (D : ZipApart z TI TO i1 i2 l1 l2)
    (hz : IsZip s.heap z TI TO .none) (hTI : IsPair s.heap TI (.ref i1) (.ref i2)) (hTO : IsPair s.heap TO a b)
    (h1 : St1 k1 s.heap) (h2 : St2 k2 s.heap) (hl1 : Sq1 s.heap) (hl2 : Sq2 s.heap) (hend : it1 k1 = none ∨ it2 k2 = none)
    (hQ : ∀ h', (∀ c o, c ≠ z → c ≠ TO → c ≠ i1 → c ≠ i2 → s.heap.get? c = some o → h'.get? c = some o) → Q none { s with heap := h' }) : wpAny (model prog w) A (pyNext (.ref z)) Q E s := by
  have hT : s.TypeIs (.ref z) "zip" := ⟨_, hz, rfl⟩
  unfold pyNext
  refine wpAny_bind (wpAny_attempt (wpAny_callSpecial?_slot (name := Str.ofString "__next__") hT F.slot_zip_next
    (wpAny_call_entry F.slot_zip_next hT F.entry_zip_next (zip_stop S1 S2 hh D hz hTI hTO h1 h2 hl1 hl2 hend fun h' e hk he => ?_) (F.args_zip_next_1 _))))
  obtain ⟨o, ho, hc⟩ := he
  refine wpAny_bind (wpAny_isInstance (T := "StopIteration") (b := true) ⟨o, ho, hc⟩ isSubtype_stop ?_)
  exact wpAny_pure (hQ _ hk)
end
/-! ### zip(t, l): a tuple, a list -/
abbrev zh1 (h : Heap) (l1 : Addr) : Heap := h.push { cls := .type "tuple_iterator", data := .fields #[.ref l1, .int 0 0] }
abbrev zh2 (h : Heap) (l1 l2 : Addr) : Heap := (zh1 h l1).push { cls := .type "list_iterator", data := .fields #[.ref l2, .int 0 0] }
abbrev zh3 (h : Heap) (l1 l2 : Addr) : Heap := (zh2 h l1 l2).push { cls := .type "tuple", data := .seq #[.ref h.objs.size, .ref (zh1 h l1).objs.size] }
abbrev zh4 (h : Heap) (l1 l2 : Addr) : Heap := (zh3 h l1 l2).push { cls := .type "tuple", data := .seq #[.none, .none] }
abbrev zh5 (h : Heap) (l1 l2 : Addr) : Heap := (zh4 h l1 l2).push { cls := .type "zip", data := .fields #[.none, .bool false, .bool false, .ref (zh2 h l1 l2).objs.size, .ref (zh3 h l1 l2).objs.size] }
theorem meets_new (l1 l2 : Addr) (xs ys : Array Value) :
    Meets (Builtin.«zip.__new__» ⟨[.type "zip", .ref l1, .ref l2], []⟩) (fun _ R s => s.heap.IsTuple l1 xs ∧ s.heap.IsList l2 ys ∧
      R (.ok (.ret (.ref (zh4 s.heap l1 l2).objs.size))) { s with heap := zh5 s.heap l1 l2 }) :=
  .of_wp fun prog w A R s h => by
    obtain ⟨hp, g, d, tk, os⟩ := s; obtain ⟨hl1, hl2, h⟩ := h
    have hsub := sub_zip
    have hL1 : Heap.IsTuple (Shared.heap ⟨hp, g, d, tk, os⟩) l1 xs := hl1
    have hL2 : Heap.IsList (Shared.heap ⟨hp.push { cls := .type "tuple_iterator", data := .fields #[.ref l1, .int 0 0] }, g, d, tk, os⟩) l2 ys := Heap.IsList.push hl2 _
    wp_walk using wpAny_pyIter_tuple hL1, wpAny_pyIter_list hL2
    exact ⟨_, rfl, h⟩
theorem call_new {prog : Program} {w : World} {A : Around} {E : Value → Shared → Prop} {s : Shared} {l1 l2 : Addr} {xs ys : Array Value} {Q : Value → Shared → Prop} (hl1 : s.heap.IsTuple l1 xs) (hl2 : s.heap.IsList l2 ys)
    (h : ∀ h', IsZip h' (s.heap.objs.size + 4) (s.heap.objs.size + 2) (s.heap.objs.size + 3) .none → IsPair h' (s.heap.objs.size + 2) (.ref s.heap.objs.size) (.ref (s.heap.objs.size + 1)) →
      IsPair h' (s.heap.objs.size + 3) .none .none → h'.IsTupleIter s.heap.objs.size l1 0 → h'.IsListIter (s.heap.objs.size + 1) l2 0 → h'.objs.size = s.heap.objs.size + 5 →
      (∀ c o, s.heap.get? c = some o → h'.get? c = some o) → Q (.ref (s.heap.objs.size + 4)) { s with heap := h' }) :
    wpAny (model prog w) A (call (.type "zip") [.ref l1, .ref l2]) Q E s := by
  refine callType_new F.called_zip (by decide) (F.typeCall_zip_2 _ _) (F.newCall_zip_2 _ _) (fun obj => F.args_object_init_3 obj _ _) F.entry_zip_new
    (meets_new l1 l2 xs ys) ⟨hl1, hl2, ?_⟩
  have z1 : (zh1 s.heap l1).objs.size = s.heap.objs.size + 1 := Heap.size_push ..
  have z2 : (zh2 s.heap l1 l2).objs.size = s.heap.objs.size + 2 := by rw [Heap.size_push, z1]
  have z3 : (zh3 s.heap l1 l2).objs.size = s.heap.objs.size + 3 := by rw [Heap.size_push, z2]
  have z4 : (zh4 s.heap l1 l2).objs.size = s.heap.objs.size + 4 := by rw [Heap.size_push, z3]
  have z5 : (zh5 s.heap l1 l2).objs.size = s.heap.objs.size + 5 := by rw [Heap.size_push, z4]
  have g5 : (zh5 s.heap l1 l2).get? (zh4 s.heap l1 l2).objs.size = some _ := Heap.get?_push_size _ rfl
  have g4 : (zh5 s.heap l1 l2).get? (zh3 s.heap l1 l2).objs.size = some _ := Heap.get?_push_of_some _ (Heap.get?_push_size _ rfl)
  have g3 : (zh5 s.heap l1 l2).get? (zh2 s.heap l1 l2).objs.size = some _ := Heap.get?_push_of_some _ (Heap.get?_push_of_some _ (Heap.get?_push_size _ rfl))
  have g2 : (zh5 s.heap l1 l2).get? (zh1 s.heap l1).objs.size = some _ := Heap.get?_push_of_some _ (Heap.get?_push_of_some _ (Heap.get?_push_of_some _ (Heap.get?_push_size _ rfl)))
  have g1 : (zh5 s.heap l1 l2).get? s.heap.objs.size = some _ := Heap.get?_push_of_some _ (Heap.get?_push_of_some _ (Heap.get?_push_of_some _ (Heap.get?_push_of_some _ (Heap.get?_push_size _ rfl))))
  show _ ∧ _
  rw [z2, z3, z4] at g5
  rw [z1, z2] at g3
  rw [z3] at g4
  rw [z1] at g2
  rw [z4]
  exact ⟨⟨_, g5, rfl⟩, h _ g5 g3 g4 ⟨_, g1, rfl, rfl⟩ ⟨_, g2, rfl, rfl⟩ z5 fun c o x =>
    Heap.get?_push_of_some _ (Heap.get?_push_of_some _ (Heap.get?_push_of_some _ (Heap.get?_push_of_some _ (Heap.get?_push_of_some _ x))))⟩
end PySem.K12Z
namespace K12
open PySem PySem.Spec PyProof.Rows L2
/-- the tuple at a and the list at b -/
def ItM (K : PySem.W.Frag) (a b : Addr) : It :=
  ⟨fun i H => ∃ (xs ys : List V) (x y : V), SqT K H a xs ∧ SqL K H b ys ∧ xs[i]? = some x ∧ ys[i]? = some y,
    fun i H v H' => ∃ T x y, v = .ref T ∧ H T = none ∧ H' = upd H T (.tup [x, y]) ∧ (∀ xs, SqT K H a xs → xs[i]? = some x) ∧ ∀ ys, SqL K H b ys → ys[i]? = some y,
    fun i H => ∃ xs ys : List V, SqT K H a xs ∧ SqL K H b ys ∧ (xs.length ≤ i ∨ ys.length ≤ i)⟩
theorem turn_M {P : Program} {w : World} {K : PySem.W.Frag} {elts : List Expr} {kk : Nat} {tpos : Pos} {a b z TI TO i1 i2 : Addr} (D : ZipApart z TI TO i1 i2 a b) :
    Turn P w K (.Tuple elts kk tpos) (ItM K a b) [z, TI, TO, i1, i2] z (fun i h => IsZip h z TI TO .none ∧ IsPair h TI (.ref i1) (.ref i2) ∧ (∃ x y, IsPair h TO x y) ∧ h.IsTupleIter i1 a i ∧ h.IsListIter i2 b i) where
  mem := by simp
  obj := fun i h st c hc => by
    obtain ⟨hz, hTI, ⟨x, y, hTO⟩, ⟨o1, e1, _, d1⟩, ⟨o2, e2, _, d2⟩⟩ := st
    have e' : c = z ∨ c = TI ∨ c = TO ∨ c = i1 ∨ c = i2 := by simpa using hc
    rcases e' with q | q | q | q | q
    · rw [q]; exact ⟨_, hz, fun v q => nomatch q⟩
    · rw [q]; exact ⟨_, hTI, fun v q => nomatch q⟩
    · rw [q]; exact ⟨_, hTO, fun v q => nomatch q⟩
    · rw [q]; exact ⟨o1, e1, fun v q => by rw [d1] at q; cases q⟩
    · rw [q]; exact ⟨o2, e2, fun v q => by rw [d2] at q; cases q⟩
  keep := fun i h h' st k => by
    obtain ⟨hz, hTI, ⟨x, y, hTO⟩, h1, h2⟩ := st
    exact ⟨k z (by simp) _ hz, k TI (by simp) _ hTI, ⟨x, y, k TO (by simp) _ hTO⟩, h1.at fun o q => k i1 (by simp) o q, h2.at fun o q => k i2 (by simp) o q⟩
  item := by
    intro X hP hw hK hc i pins s σ H E I hf st hg
    subst hP hw hK
    obtain ⟨hz, hTI, ⟨x0, y0, hTO⟩, h1, h2⟩ := st
    obtain ⟨xs, ys, x, y, hqx, hqy, hx, hy⟩ := hg
    obtain ⟨its, rv, p, _⟩ := I.tuple hqx
    obtain ⟨its2, rv2, p2, _⟩ := I.list hqy
    obtain ⟨u, hu, ru⟩ := rv.get hx
    obtain ⟨u2, hu2, ru2⟩ := rv2.get hy
    have hzl : z < s.heap.objs.size := Heap.lt_size hz
    refine PySem.K12Z.next_give (PySem.K12Z.src_tup (xs := its.toArray)) (PySem.K12Z.src_lst (xs := its2.toArray)) D hz hTI hTO h1 h2 p p2.isList (x := u) (y := u2) (by simpa using hu) (by simpa using hu2) fun h' z' TO' h1' h2' hT hsz hk => ?_
    refine ⟨_, rfl, wpAny_letOwnedTupleGo_zip (s := { s with heap := h' }) z' fun h'' z'' sb => ?_⟩
    have hT2 : h''.get? s.heap.objs.size = some { cls := .type "tuple", data := .seq #[u, u2] } := (sb.2 _ (Nat.ne_of_gt hzl)).trans hT
    have new : ObjOk X.prog X.w (upd H s.heap.objs.size (.tup [x, y])) h'' s.heap.objs.size (.tup [x, y]) :=
      ⟨by show 2 ≤ sizeLine; decide, [u, u2], .cons ru (.cons ru2 .nil), ⟨_, hT2, rfl, _, rfl⟩⟩
    have I1 : Inv X pins σ (upd H s.heap.objs.size (.tup [x, y])) { s with heap := h'' } :=
      I.turnedNew (t' := s.toks) (ch := [z, TI, TO, i1, i2]) (fun c o hb q => (sb.2 c (fun q' => hb (by simp [q']))).trans (hk c o (fun q' => hb (by simp [q'])) (fun q' => hb (by simp [q'])) (fun q' => hb (by simp [q'])) (fun q' => hb (by simp [q'])) q)) hf (Nat.le_refl _) new
    refine ⟨.ref s.heap.objs.size, _, I1, rfl, ⟨_, x, y, rfl, I.hok.fresh (Nat.le_refl _), rfl, fun l hl => by rw [I.tuple_inj hl hqx]; exact hx, fun l hl => by rw [I.list_inj hl hqy]; exact hy⟩, ⟨z'', ?_, ⟨u, u2, ?_⟩, ?_, ?_⟩, fun c hcm => ?_⟩
    · exact (sb.2 _ D.TIz).trans (hk _ _ D.TIz D.TITO D.TIi1 D.TIi2 hTI)
    · exact (sb.2 _ D.TOz).trans TO'
    · exact h1'.at fun o q => (sb.2 _ D.i1z).trans q
    · exact h2'.at fun o q => (sb.2 _ D.i2z).trans q
    · have hlt : c < s.heap.objs.size := by
        have e' : c = z ∨ c = TI ∨ c = TO ∨ c = i1 ∨ c = i2 := by simpa using hcm
        rcases e' with q | q | q | q | q
        · rw [q]; exact hzl
        · rw [q]; exact Heap.lt_size hTI
        · rw [q]; exact Heap.lt_size hTO
        · rw [q]; obtain ⟨_, e1, _⟩ := h1; exact Heap.lt_size e1
        · rw [q]; obtain ⟨_, e2, _⟩ := h2; exact Heap.lt_size e2
      rw [upd_ne (Nat.ne_of_lt hlt)]
      exact (hf c hcm).1
  done := by
    intro X hP hw hK hc i pins s σ H E I hf st hg
    subst hP hw hK
    obtain ⟨hz, hTI, ⟨x0, y0, hTO⟩, h1, h2⟩ := st
    obtain ⟨xs, ys, hqx, hqy, hend⟩ := hg
    obtain ⟨its, rv, p, _⟩ := I.tuple hqx
    obtain ⟨its2, rv2, p2, _⟩ := I.list hqy
    have l1 := rv.length
    have l2 := rv2.length
    have he : its.toArray[i]? = none ∨ its2.toArray[i]? = none := by
      rcases hend with q | q
      · exact .inl (by simp; omega)
      · exact .inr (by simp; omega)
    exact PySem.K12Z.next_stop (PySem.K12Z.src_tup (xs := its.toArray)) (PySem.K12Z.src_lst (xs := its2.toArray)) (I.ok.hd hc) D hz hTI hTO h1 h2 p p2.isList he fun h' hk => ⟨rfl, I.turnedL (t' := s.toks) (ch := [z, TI, TO, i1, i2]) (fun c o hb q =>
      hk c o (fun q' => hb (by simp [q'])) (fun q' => hb (by simp [q'])) (fun q' => hb (by simp [q'])) (fun q' => hb (by simp [q'])) q) hf⟩
  self := fun A i s Q E st h => wpAny_pyIter_zip st.1 h
def iZipM (K : PySem.W.Frag) (ta : TA) : TI := fun σ H R => ta σ H fun vs H1 => ∃ a b xs ys, vs = [.ref a, .ref b] ∧ SqT K H1 a xs ∧ SqL K H1 b ys ∧ R (ItM K a b) H1
theorem pi_zipM {X : Cx} {e e2 : Expr} {ta : TA} {p pos tpos : Pos} {elts : List Expr} {kk : Nat} (hg : Gl X "zip") (hm : X.mg "zip" = none) (ha : PA X [e, e2] ta)
    (hs : starEach [e, e2] X.env = (false, eval e X.env) :: starEach [e2] X.env := by rfl) (hpl : (backTo pos (starEach [e2] X.env)).any (·.1) = false := by rfl) :
    PI X (.Tuple elts kk tpos) (.Call (.Name "zip" p) [e, e2] [] pos) (iZipM X.K ta) := by
  refine ⟨fun pins s σ H R I h => ?_⟩
  refine Call_ (ld_blt I hg hm PyProof.Rows.boot_zip (PyProof.Rows.callWith_type1 (thn (ha.run pos pins s σ H _ I h) fun us s1 ⟨vs, H1, I1, r1, q1⟩ => ?_) hs hpl))
  obtain ⟨a, b, xs, ys, ex, hqx, hqy, q⟩ := q1
  subst ex
  obtain ⟨u1, u2, rfl, r1, r2⟩ := vals2 r1
  cases r1
  cases r2
  have fresh5 : ∀ c, c ∈ [s1.heap.objs.size + 4, s1.heap.objs.size + 2, s1.heap.objs.size + 3, s1.heap.objs.size, s1.heap.objs.size + 1] → FpOk X pins H1 c := fun c hcm => by
    have hle : s1.heap.objs.size ≤ c := by
      simp at hcm
      omega
    exact I1.fpOk hle (I1.hok.fresh hle)
  obtain ⟨its, rv, p1, _⟩ := I1.tuple hqx
  obtain ⟨its2, rv2, p2, _⟩ := I1.list hqy
  obtain ⟨o1, ho1, _⟩ := id p1
  refine PySem.K12Z.call_new (show s1.heap.IsTuple a its.toArray from p1) p2.isList fun h' hz hTI hTO h1 h2 hsz hk => wpAny_pyIter_zip hz ?_
  have I2 : Inv X pins σ H1 { s1 with heap := h' } := I1.kept (t' := s1.toks) hk
  exact ⟨s1.heap.objs.size + 4, [s1.heap.objs.size + 4, s1.heap.objs.size + 2, s1.heap.objs.size + 3, s1.heap.objs.size, s1.heap.objs.size + 1], _, _, H1, rfl, I2, turn_M (PySem.W.ktu_apart s1.heap.objs.size a b (Heap.lt_size ho1) p2.lt), ⟨hz, hTI, ⟨_, _, hTO⟩, h1, h2⟩, fresh5, q⟩
section
variable {K : PySem.W.Frag} {a b : Addr} {xs ys : List V}
theorem walk_zipM {n : Nat} (hn : n = min xs.length ys.length) : Walk (ItM K a b) n (fun H => SqT K H a xs ∧ SqL K H b ys) (YPair (fun i => xs[i]?) (fun i => ys[i]?)) := by
  subst hn
  refine ⟨fun i _ hi q => ?_, fun _ q => ⟨xs, ys, q.1, q.2, by omega⟩, fun i H v H' _ q y => ?_⟩
  · have h1 : i < xs.length := by omega
    have h2 : i < ys.length := by omega
    exact ⟨xs, ys, xs[i], ys[i], q.1, q.2, by simp [h1], by simp [h2]⟩
  · obtain ⟨T, x, z, h1, h2, h3, h4, h5⟩ := y
    exact ⟨T, x, z, h1, h2, h3, h4 xs q.1, h5 ys q.2⟩
end
end K12
namespace K12
open PySem PySem.Spec PyProof.Rows L2
/-! ### the law's table of sorts -/
def lt1 : Str := "set n;add n;skip n m;fail w;read cell;write cell;more cell n;draft;keep;drop;lock lock;try lock"
def lt2 : Str := ";unlock lock;enter room;leave room;wait bell;ring bell;ringall bell;raise flag;lower flag"
def lt3 : Str := ";await flag;meet gate;send pipe;receive pipe;close pipe;spawn task;join task;result task"
def lt4 : Str := ";then task task;cancel task;point;shield;open;sleep k;within k d m;submit pool task"
def lawText : Str := ((lt1 ++ lt2) ++ lt3) ++ lt4
def lrows : List Str := (["set n", "add n", "skip n m", "fail w", "read cell", "write cell", "more cell n", "draft", "keep", "drop", "lock lock", "try lock", "unlock lock", "enter room", "leave room", "wait bell", "ring bell", "ringall bell", "raise flag", "lower flag", "await flag", "meet gate", "send pipe", "receive pipe", "close pipe", "spawn task", "join task", "result task", "then task task", "cancel task", "point", "shield", "open", "sleep k", "within k d m", "submit pool task"] : List String).map Str.ofString
theorem split_law : Txt.split lawText ";" = lrows := by decide +kernel
theorem lawText_len : lawText.length ≤ 1000 := by decide +kernel
theorem lawLen : lt1.length + lt2.length ≤ 1000 ∧ (lt1 ++ lt2).length + lt3.length ≤ 1000 ∧ ((lt1 ++ lt2) ++ lt3).length + lt4.length ≤ 1000 := by decide +kernel
def ls (w : Str) (ss : List Str) : Str × List Str := (w, ss)
def lsorts : List (Str × List Str) := [ls "set" ["n"], ls "add" ["n"], ls "skip" ["n", "m"], ls "fail" ["w"], ls "read" ["cell"], ls "write" ["cell"], ls "more" ["cell", "n"], ls "draft" [], ls "keep" [], ls "drop" [], ls "lock" ["lock"], ls "try" ["lock"], ls "unlock" ["lock"], ls "enter" ["room"], ls "leave" ["room"], ls "wait" ["bell"], ls "ring" ["bell"], ls "ringall" ["bell"], ls "raise" ["flag"], ls "lower" ["flag"], ls "await" ["flag"], ls "meet" ["gate"], ls "send" ["pipe"], ls "receive" ["pipe"], ls "close" ["pipe"], ls "spawn" ["task"], ls "join" ["task"], ls "result" ["task"], ls "then" ["task", "task"], ls "cancel" ["task"], ls "point" [], ls "shield" [], ls "open" [], ls "sleep" ["k"], ls "within" ["k", "d", "m"], ls "submit" ["pool", "task"]]
theorem split_rows : lrows.map (fun r => Txt.split r " ") = lsorts.map (fun q => q.1 :: q.2) := by decide +kernel
theorem rows_len : (lrows.all fun r => decide (r.length ≤ 100)) = true := by decide +kernel
theorem sorts_len : (lsorts.all fun q => decide (q.2.length ≤ 5)) = true := by decide +kernel
theorem lsorts_nodup : (lsorts.map (·.1)).Nodup := by decide +kernel
/-- the law's short names of sorts -/
def up (s : Str) : Str := if s = "n" then "number" else if s = "m" then "many" else if s = "k" then "ticks" else if s = "w" then "name" else if s = "d" then "deed" else s
theorem tabP_up : tabP = lsorts.map fun q => (q.1, q.2.map up) := by decide +kernel
end K12
namespace K12
open PySem PySem.Spec PyProof.Rows L2
theorem lrows_eq : lrows.length = lsorts.length := by decide +kernel
theorem nodup_inr : ∀ {l : List Str}, l.Nodup → (l.map (Sum.inr : Str → Key)).Nodup
  | [], _ => List.nodup_nil
  | a :: l, h => by
    rw [List.nodup_cons] at h
    rw [List.map_cons, List.nodup_cons]
    refine ⟨fun m => ?_, nodup_inr h.2⟩
    obtain ⟨b, hb, e⟩ := List.mem_map.mp m
    exact h.1 (Sum.inr.inj e ▸ hb)
theorem pick {α : Type} : ∀ {acc : List V} {P : Nat → V → α → Prop}, (∀ i v, acc[i]? = some v → ∃ a, P i v a) → ∃ as : List α, as.length = acc.length ∧ ∀ (i : Nat) v a, acc[i]? = some v → as[i]? = some a → P i v a
  | [], _, _ => ⟨[], rfl, fun i v a h => by simp at h⟩
  | v :: acc, P, h => by
    obtain ⟨a, ha⟩ := h 0 v rfl
    obtain ⟨as, hl, hs⟩ := pick (acc := acc) (P := fun i => P (i + 1)) (fun i u e => h (i + 1) u (by simpa using e))
    refine ⟨a :: as, by simp [hl], fun i u b e1 e2 => ?_⟩
    cases i with
    | zero => simp at e1 e2; subst e1 e2; exact ha
    | succ i => exact hs i u b (by simpa using e1) (by simpa using e2)
theorem paired_of {α β : Type} {F : α → β → Prop} : ∀ {l : List α} {m : List β}, l.length = m.length → (∀ (i : Nat) a b, l[i]? = some a → m[i]? = some b → F a b) → Paired F l m
  | [], [], _, _ => .nil
  | [], _ :: _, h, _ => by cases h
  | _ :: _, [], h, _ => by cases h
  | a :: l, b :: m, h, g => .cons (g 0 a b rfl rfl) (paired_of (by simpa using h) fun i x y e1 e2 => g (i + 1) x y (by simpa using e1) (by simpa using e2))
theorem mergeK_new : ∀ (kvs acc : List (Key × V)), (∀ p ∈ kvs, valV acc p.1 = none) → (kvs.map (·.1)).Nodup → mergeK acc kvs = acc ++ kvs
  | [], acc, _, _ => by show acc = _; simp
  | p :: r, acc, h, n => by
    have h1 : putK acc p.1 p.2 = acc ++ [p] := putK_new _ (h p (by simp))
    show mergeK (putK acc p.1 p.2) r = _
    rw [List.map_cons, List.nodup_cons] at n
    rw [h1, mergeK_new r (acc ++ [p]) (fun q hq => ?_) n.2]
    · simp
    · have h2 := h q (by simp [hq])
      have h3 : ¬ p.1 = q.1 := fun e => n.1 (by rw [e]; exact List.mem_map_of_mem hq)
      unfold valV at *
      rw [List.find?_append]
      cases e : List.find? (fun kv => decide (kv.1 = q.1)) acc with
      | some y => rw [e] at h2; cases h2
      | none => simp [h3]
def sortsKv (L : List (Str × List Str)) (as : List Addr) : List (Key × V) := (L.zip as).map fun x => (Sum.inr x.1.1, V.ref x.2)
/-- the dict of the law's sorts stands at d -/
def SortsAt (H : Hp) (d : Addr) : Prop := ∃ as : List Addr, as.length = lsorts.length ∧ H d = some (.dK (sortsKv lsorts as)) ∧ ∀ (i : Nat) q a, lsorts[i]? = some q → as[i]? = some a → H a = some (.lst (q.2.map V.str))
theorem SortsAt.mono {H H' : Hp} {d : Addr} (s : Same H H') (h : SortsAt H d) : SortsAt H' d := by
  obtain ⟨as, hl, hd, hs⟩ := h
  exact ⟨as, hl, s _ _ hd, fun i q a e1 e2 => s _ _ (hs i q a e1 e2)⟩
theorem sorts_find {H : Hp} : ∀ {L : List (Str × List Str)} {as : List Addr} (w : Str), as.length = L.length → (∀ (i : Nat) q a, L[i]? = some q → as[i]? = some a → H a = some (.lst (q.2.map V.str))) →
    (L.lookup w = none ∧ valV (sortsKv L as) (Sum.inr w : Key) = none) ∨ ∃ ss a, L.lookup w = some ss ∧ valV (sortsKv L as) (Sum.inr w : Key) = some (.ref a) ∧ H a = some (.lst (ss.map V.str))
  | [], [], w, _, _ => .inl ⟨rfl, rfl⟩
  | [], _ :: _, _, h, _ => by cases h
  | _ :: _, [], _, h, _ => by cases h
  | (n, ss) :: L, a :: as, w, h, g => by
    have e0 : sortsKv ((n, ss) :: L) (a :: as) = (Sum.inr n, V.ref a) :: sortsKv L as := rfl
    rw [e0, lk_cons]
    by_cases e : w = n
    · subst e
      rw [if_pos rfl, valV_pos rfl]
      exact .inr ⟨ss, a, rfl, rfl, g 0 _ _ rfl rfl⟩
    · rw [if_neg e, valV_neg (fun z => e (Sum.inr.inj z).symm)]
      exact sorts_find w (by simpa using h) fun i q b e1 e2 => g (i + 1) q b (by simpa using e1) (by simpa using e2)
theorem SortsAt.find {H : Hp} {d : Addr} (h : SortsAt H d) (w : Str) : (lsorts.lookup w = none ∧ DGet H d (.str w) none) ∨ ∃ ss a, lsorts.lookup w = some ss ∧ DGet H d (.str w) (some (.ref a)) ∧ H a = some (.lst (ss.map V.str)) := by
  obtain ⟨as, hl, hd, hs⟩ := h
  have g := DGet.k (k := Sum.inr w) hd
  rcases sorts_find w hl hs with ⟨h1, h2⟩ | ⟨ss, a, h1, h2, h3⟩
  · rw [h2] at g; exact .inl ⟨h1, g⟩
  · rw [h2] at g; exact .inr ⟨ss, a, h1, g, h3⟩
theorem sortsKv_keys : ∀ {L : List (Str × List Str)} {as : List Addr}, as.length = L.length → (sortsKv L as).map (·.1) = (L.map (·.1)).map (Sum.inr : Str → Key)
  | [], [], _ => rfl
  | [], _ :: _, h => by cases h
  | _ :: _, [], h => by cases h
  | q :: L, a :: as, h => by
    have e : sortsKv (q :: L) (a :: as) = (Sum.inr q.1, V.ref a) :: sortsKv L as := rfl
    rw [e, List.map_cons, List.map_cons, List.map_cons, sortsKv_keys (by simpa using h)]
theorem sortsKv_merge {L : List (Str × List Str)} {as : List Addr} (h : as.length = L.length) (n : (L.map (·.1)).Nodup) : sortsKv L as = mergeK [] (sortsKv L as) := by
  rw [mergeK_new _ [] (fun p _ => rfl) (by rw [sortsKv_keys h]; exact nodup_inr n)]
  rfl
def spSorts : Sp := fun vs H Q _ => vs = [] ∧ ∀ H' d, Same H H' → SortsAt H' d → Q (.ref d) H'
section
variable {P : Program} {w : World} {K : PySem.W.Frag} {mg : Str → Option Value} {base : Heap}
abbrev N__law_sorts : List Str := ["_law_some", "_law_one"]
theorem sc__law_sorts : FnScope N__law_sorts [] (defScope (top 55)) := sc_of (by decide +kernel)
-- slots: 0:_law_some 1:_law_one
theorem ok__law_sorts (T : Tx w K mg) : Cl P w K mg base CX0 1 "_law_sorts" spSorts := by
  refine T.d__law_sorts.cl sc__law_sorts (fun _ _ _ _ _ _ us hl => match us, hl with | [], _ => rfl) (fun vs H Q E h => ?_) fun f cdv A outer s H vs Q E hr h => ?_
  · obtain ⟨rfl, _⟩ := h; rfl
  have hu := hu_of hr
  have hu0 := hr.units0
  have hu64 := hr.units
  obtain ⟨rfl, h⟩ := h
  refine ⟨_, PSs.nox ((pss_cons (ps_set (i := 0) sc__law_sorts.nd rfl (Or.inl rfl) pe_str)
      (pss_cons (ps_set (i := 0) sc__law_sorts.nd rfl (Or.inl rfl) (pe_op op_add_str (pv 0) pe_str))
      (pss_cons (ps_set (i := 0) sc__law_sorts.nd rfl (Or.inl rfl) (pe_op op_add_str (pv 0) pe_str))
      (pss_cons (ps_set (i := 0) sc__law_sorts.nd rfl (Or.inl rfl) (pe_op op_add_str (pv 0) pe_str))
      (pss_one (ps_ret (pe_callTy (call_dictP rfl) rfl T.f_dict b_dict (pa_cons (pe_lc (own := [("_law_one", 1)]) rfl sc__law_sorts.nd (pi_list (pe_split (pv 0) pe_str)) (blkOk_by (N := N__law_sorts) (sc := defScope (top 55)) (by decide +kernel)) (fun _ _ _ _ _ => (pg_name (i := 1) sc__law_sorts.nd rfl (Or.inl rfl))) (fun _ _ _ _ _ => pts_nil) (fun _ _ _ _ _ => (pe_tup (pa_cons (pe_ix (ix_listK (K := K) rfl) (pe_split (pv 1) pe_str) pe_int (fun _ _ => rfl)) (pa_cons (pe_slice (sl_listK (K := K) rfl) (pe_split (pv 1) pe_str) (po_some pe_int) po_none) pa_nil))))) pa_nil))))))))), ?_⟩
  have kk := h
  clear h
  have hl0 : lawText.length ≤ 1000 := lawText_len
  refine ⟨_, rfl, lt1, lt2, rfl, rfl, Nat.le_trans lawLen.1 (by decide), ?_⟩
  refine ⟨_, rfl, lt1 ++ lt2, lt3, rfl, rfl, Nat.le_trans lawLen.2.1 (by decide), ?_⟩
  refine ⟨_, rfl, (lt1 ++ lt2) ++ lt3, lt4, rfl, rfl, Nat.le_trans lawLen.2.2 (by decide), ?_⟩
  refine ⟨_, rfl, ⟨_, rfl⟩, lawText, ";", rfl, rfl, rfl, Nat.le_trans (Nat.add_le_add_right lawText_len 2) (by decide), fun p0 hp0 => ?_⟩
  rw [split_law]
  generalize ((lt1 ++ lt2) ++ lt3) ++ lt4 = txt
  refine ⟨p0, rfl, ⟨_, SqL.of upd_same⟩, fun D hD => ?_⟩
  have s0 : Same H (upd H p0 (.lst (lrows.map V.str))) := Same.new hp0
  have hp : upd H p0 (.lst (lrows.map V.str)) p0 = some (.lst (lrows.map V.str)) := upd_same
  revert s0 hp hD
  generalize upd H p0 (.lst (lrows.map V.str)) = H0
  intro hD s0 hp
  have hlen : (lrows.map V.str).length = 36 := rfl
  refine lc_rel (walk_list (xs := lrows.map V.str)) (fun G => Same H0 G) (fun i v G => ∃ x : Addr × Addr, ∃ q, lsorts[i]? = some q ∧ v = .ref x.1 ∧ x.1 ≠ D ∧ x.2 ≠ D ∧ G x.1 = some (.tup [.str q.1, .ref x.2]) ∧ G x.2 = some (.lst (q.2.map V.str))) (by rw [hlen]; decide) (Same.new hD) (fun G e => SqL.of (e _ _ hp)) (fun G o e => Same.mut e hD) (fun i v G o ⟨x, q, h1, h2, h3, h4, h5, h6⟩ => ⟨x, q, h1, h2, h3, h4, (upd_ne h3).trans h5, (upd_ne h4).trans h6⟩) ?_ ?_
  · rintro i x G1 G2 C hi ev ⟨acc, hacc⟩ ⟨rfl, hy⟩ hC
    rw [List.getElem?_map] at hy
    cases hr : lrows[i]? with
    | none => rw [hr] at hy; cases hy
    | some r =>
      rw [hr] at hy
      cases hy
      have h1 : (lrows.map fun r => Txt.split r " ")[i]? = some (Txt.split r " ") := by rw [List.getElem?_map, hr]; rfl
      rw [split_rows, List.getElem?_map] at h1
      cases hq : lsorts[i]? with
      | none => rw [hq] at h1; cases h1
      | some q =>
        rw [hq] at h1
        have hsp : Txt.split r " " = q.1 :: q.2 := (Option.some.inj h1).symm
        have hrl : r.length + 2 ≤ sizeLine := by
          have := List.all_eq_true.mp rows_len r (List.mem_of_getElem? hr)
          have : r.length ≤ 100 := by simpa using this
          exact Nat.le_trans (Nat.add_le_add_right this 2) (by decide)
        refine ⟨rfl, ?_⟩
        refine ⟨_, rfl, ⟨_, rfl⟩, r, " ", rfl, rfl, rfl, hrl, fun p1 hp1 => ?_⟩
        rw [hsp]
        refine ⟨p1, _, 0, .str q.1, rfl, rfl, SqL.of upd_same, at0 _ _, ?_⟩
        refine ⟨_, rfl, ⟨_, rfl⟩, r, " ", rfl, rfl, rfl, hrl, fun p2 hp2 => ?_⟩
        rw [hsp]
        refine ⟨_, rfl, p2, _, rfl, SqL.of upd_same, fun p3 hp3 => ?_⟩
        rw [show (q.1 :: q.2).map V.str = V.str q.1 :: q.2.map V.str from rfl, cut1]
        refine ⟨by show 2 ≤ sizeLine; decide, fun p4 hp4 => ?_⟩
        have t1 : Same G2 (upd G2 p1 (.lst (V.str q.1 :: q.2.map V.str))) := Same.new hp1
        have t2 : Same G2 (upd (upd G2 p1 (.lst (V.str q.1 :: q.2.map V.str))) p2 (.lst (V.str q.1 :: q.2.map V.str))) := t1.trans (Same.new hp2)
        have t3 : Same G2 (upd (upd (upd G2 p1 (.lst (V.str q.1 :: q.2.map V.str))) p2 (.lst (V.str q.1 :: q.2.map V.str))) p3 (.lst (q.2.map V.str))) := t2.trans (Same.new hp3)
        have t4 := t3.trans (Same.new (o := .tup [.str q.1, .ref p3]) hp4)
        have n3 : p3 ≠ D := fun z => by
          have := t2 _ _ hacc
          rw [← z] at this
          rw [show upd (upd G2 p1 (.lst (V.str q.1 :: q.2.map V.str))) p2 (.lst (V.str q.1 :: q.2.map V.str)) p3 = none from hp3] at this
          cases this
        have n4 : p4 ≠ D := fun z => by
          have := t3 _ _ hacc
          rw [← z] at this
          rw [show upd (upd (upd G2 p1 (.lst (V.str q.1 :: q.2.map V.str))) p2 (.lst (V.str q.1 :: q.2.map V.str))) p3 (.lst (q.2.map V.str)) p4 = none from hp4] at this
          cases this
        have n43 : p3 ≠ p4 := fun z => by
          have : upd (upd (upd G2 p1 (.lst (V.str q.1 :: q.2.map V.str))) p2 (.lst (V.str q.1 :: q.2.map V.str))) p3 (.lst (q.2.map V.str)) p4 = none := hp4
          rw [← z, upd_same] at this
          cases this
        exact hC _ _ (ev.trans t4) (by rw [t4 _ _ hacc, hacc]) (fun j u ⟨x, q, h1, h2, h3, h4, h5, h6⟩ => ⟨x, q, h1, h2, h3, h4, t4 _ _ h5, t4 _ _ h6⟩)
          ⟨(p4, p3), q, hq, rfl, n4, n3, upd_same, (upd_ne n43).trans upd_same⟩
  · intro G acc ev hacc hal hR
    obtain ⟨as, hasl, has⟩ := pick (α := Addr × Addr) hR
    have hal' : acc.length = lsorts.length := by rw [hal, List.length_map, lrows_eq]
    have hacc' : acc = (as.map (·.1)).map V.ref := by
      apply List.ext_getElem?
      intro i
      rw [List.getElem?_map, List.getElem?_map]
      by_cases hi : i < acc.length
      · have e1 : acc[i]? = some acc[i] := List.getElem?_eq_getElem hi
        have e2 : as[i]? = some as[i] := List.getElem?_eq_getElem (by omega)
        obtain ⟨q, _, h2, _⟩ := has i _ _ e1 e2
        rw [e1, e2, h2]; rfl
      · rw [List.getElem?_eq_none (by omega), List.getElem?_eq_none (by omega)]; rfl
    have e0 : sortsKv lsorts (as.map (·.2)) = mergeK [] (sortsKv lsorts (as.map (·.2))) := sortsKv_merge (by rw [List.length_map, hasl, hal']) lsorts_nodup
    refine ⟨D, as.map (·.1), sortsKv lsorts (as.map (·.2)), rfl, ?_, ?_, fun d hd => ?_⟩
    · rw [← hacc']; exact SqL.of hacc
    · refine paired_of (by unfold sortsKv; rw [List.length_map, List.length_map, List.length_zip, List.length_map]; omega) fun i a b e1 e2 => ?_
      rw [List.getElem?_map] at e1
      cases ea : as[i]? with
      | none => rw [ea] at e1; cases e1
      | some x =>
        rw [ea] at e1; cases e1
        have hi : i < acc.length := by have := (List.getElem?_eq_some_iff.mp ea).1; omega
        obtain ⟨q, h1, _, _, _, h5, _⟩ := has i _ _ (List.getElem?_eq_getElem hi) ea
        unfold sortsKv at e2
        rw [List.getElem?_map, List.getElem?_zip_eq_some.mpr (show lsorts[i]? = some (q, x.2).1 ∧ (as.map (·.2))[i]? = some (q, x.2).2 from ⟨h1, by rw [List.getElem?_map, ea]; rfl⟩)] at e2
        cases e2
        exact SqT.of h5
    · rw [← e0]
      have t := Same.new (o := .dK (sortsKv lsorts (as.map (·.2)))) hd
      refine kk _ d ((s0.trans ev).trans t) ⟨as.map (·.2), by rw [List.length_map]; omega, upd_same, fun i q a e1 e2 => ?_⟩
      rw [List.getElem?_map] at e2
      cases ea : as[i]? with
      | none => rw [ea] at e2; cases e2
      | some x =>
        rw [ea] at e2; cases e2
        have hi : i < acc.length := by have := (List.getElem?_eq_some_iff.mp ea).1; omega
        obtain ⟨q', h1, _, _, _, _, h6⟩ := has i _ _ (List.getElem?_eq_getElem hi) ea
        rw [e1] at h1; cases h1
        exact t _ _ h6
end
end K12
namespace K12
open PySem PySem.Spec PyProof.Rows L2
theorem given_empty (n : Nat) (t : Nat → Bool) (f : Nat → V) : (Evl.given n t f).isEmpty = (List.range n).all fun i => !t i := by
  unfold Evl.given
  cases h : (List.range n).all fun i => !t i with
  | true =>
    have : (List.range n).filter t = [] := by
      rw [List.filter_eq_nil_iff]
      intro i hi
      have := List.all_eq_true.mp h i hi
      simpa using this
    rw [this]; rfl
  | false =>
    obtain ⟨i, hi, h1⟩ := List.all_eq_false.mp h
    have : i ∈ (List.range n).filter t := List.mem_filter.mpr ⟨hi, by simpa using h1⟩
    cases e : (List.range n).filter t with
    | nil => rw [e] at this; cases this
    | cons a l => rfl
section
variable {P : Program} {w : World} {K : PySem.W.Frag} {mg : Str → Option Value} {base : Heap}
abbrev N__law_is_number : List Str := ["_law_thing_here", "_law_least", "_law_most"]
theorem sc__law_is_number : FnScope N__law_is_number ["_law_thing_here", "_law_least", "_law_most"] (defScope (top 65)) := sc_of (by decide +kernel)
-- slots: 0:_law_thing_here 1:_law_least 2:_law_most
theorem ok__law_is_number (T : Tx w K mg) : Cl P w K mg base CX0 1 "_law_is_number" spNum := by
  refine T.d__law_is_number.cl sc__law_is_number (fun _ _ _ _ _ _ us hl => match us, hl with | [_, _, _], _ => rfl) (fun vs H Q E h => ?_) fun f cdv A outer s H vs Q E hr h => ?_
  · obtain ⟨_, _, _, _, _, rfl, _⟩ := h; rfl
  have hu := hu_of hr
  have hu0 := hr.units0
  have hu64 := hr.units
  obtain ⟨p, d, v, lo, hi, rfl, h⟩ := h
  refine ⟨_, PSs.nox ((pss_one (ps_ret (pe_and (pe_isi T.f_isinstance T.f_int (pv 0) b_int) (pe_and (pe_not (pe_isi T.f_isinstance T.f_bool (pv 0) b_bool)) (pe_and (pe_cmpR op_le (pv 1) (pv 0) (nomark _)) (pe_one (pe_cmpR op_le (pv 0) (pv 2) (nomark _))))))))), ?_⟩
  obtain ⟨hv, k⟩ := h
  refine ⟨_, rfl, isiI hv ⟨_, rfl, ?_⟩⟩
  have kk := k H (Same.refl _)
  cases d with
  | int i =>
    cases hv
    refine iteT ⟨_, rfl, isiB (p := p) (d := .int i) rfl ⟨_, rfl, _, rfl, ?_⟩⟩
    refine iteT ⟨_, rfl, _, rfl, _, _, rfl, rfl, _, rfl, ?_⟩
    refine ite2 (fun h1 => ?_) (fun h1 => ?_)
    · refine ⟨_, rfl, _, rfl, _, _, rfl, rfl, ?_⟩
      have h1' : decide (lo ≤ i) = true := h1
      have e : isNum lo hi (.int i) = decide (i ≤ hi) := by show (decide (lo ≤ i) && decide (i ≤ hi)) = _; rw [h1']; rfl
      rw [e] at kk; exact kk
    · have h1' : decide (lo ≤ i) = false := by simpa using h1
      have e : isNum lo hi (.int i) = false := by show (decide (lo ≤ i) && decide (i ≤ hi)) = _; rw [h1']; rfl
      rw [e] at kk; exact kk
  | bool b =>
    cases hv
    refine iteT ⟨_, rfl, isiB (p := p) (d := .bool b) rfl ⟨_, rfl, _, rfl, ?_⟩⟩
    exact iteF kk
  | _ => exact iteF kk
abbrev N__law_who : List Str := ["_law_name_here", "_law_number"]
theorem sc__law_who : FnScope N__law_who ["_law_name_here", "_law_number"] (defScope (top 68)) := sc_of (by decide +kernel)
-- slots: 0:_law_name_here 1:_law_number
theorem ok__law_who (T : Tx w K mg) : Cl P w K mg base CX0 1 "_law_who" spWho := by
  refine T.d__law_who.cl sc__law_who (fun _ _ _ _ _ _ us hl => match us, hl with | [_, _], _ => rfl) (fun vs H Q E h => ?_) fun f cdv A outer s H vs Q E hr h => ?_
  · obtain ⟨_, _, _, _, rfl, _⟩ := h; rfl
  have hu := hu_of hr
  have hu0 := hr.units0
  have hu64 := hr.units
  obtain ⟨p, d, v, n, rfl, h⟩ := h
  refine ⟨_, PSs.nox ((pss_one (ps_ret (pe_ifExp (pt_val (pe_isi T.f_isinstance T.f_str (pv 0) b_str)) (pv 0) (pe_callTy call_str_int rfl T.f_str b_str (pa_cons (pv 1) pa_nil)))))), ?_⟩
  obtain ⟨hv, hn, kk⟩ := h
  refine ⟨_, rfl, isiS hv ⟨_, rfl, ?_⟩⟩
  have kk1 := kk H (Same.refl _)
  cases d with
  | str x => cases hv; exact iteT ⟨_, rfl, kk1⟩
  | _ => exact iteF ⟨_, rfl, _, rfl, num_size hn, kk1⟩
abbrev N__law_is_name : List Str := ["_law_thing_here", "_law_letters", "_law_sign"]
theorem sc__law_is_name : FnScope N__law_is_name ["_law_thing_here"] (defScope (top 64)) := sc_of (by decide +kernel)
-- slots: 0:_law_thing_here 1:_law_letters 2:_law_sign
theorem ok__law_is_name (T : Tx w K mg) : Cl P w K mg base CX0 1 "_law_is_name" (spLook isName) := by
  refine T.d__law_is_name.cl sc__law_is_name (fun _ _ _ _ _ _ us hl => match us, hl with | [_], _ => rfl) (fun vs H Q E h => ?_) fun f cdv A outer s H vs Q E hr h => ?_
  · obtain ⟨_, _, _, rfl, _⟩ := h; rfl
  have hu := hu_of hr
  have hu0 := hr.units0
  have hu64 := hr.units
  obtain ⟨p, d, v, rfl, h⟩ := h
  refine ⟨_, PSs.nox ((pss_cons (ps_set (i := 1) sc__law_is_name.nd rfl (Or.inr rfl) pe_str)
      (pss_cons (ps_if (PW.pt (pw_or (pt_not (pt_val (pe_isi T.f_isinstance T.f_str (pv 0) b_str))) (pw_or (pt_cmpR op_in_seq (pv 0) (pe_tup (pa_cons pe_str (pa_cons pe_str pa_nil))) rfl) (pw_or1 (pt_cmpR op_gt (pe_callB call_len_str rfl T.f_len b_len (pa_cons (pv 0) pa_nil)) pe_int (nomark _)))))) (pss_one (ps_ret pe_bl)) pss_nil)
      (pss_one (ps_ret (pe_cmpR (op_eqEL hu0) (pe_lc (own := [("_law_sign", 2)]) rfl sc__law_is_name.nd (pi_str (pv 0)) (blkOk_by (N := N__law_is_name) (sc := defScope (top 64)) (by decide +kernel)) (fun _ _ _ _ _ => (pg_name (i := 2) sc__law_is_name.nd rfl (Or.inl rfl))) (fun _ _ _ _ _ => (pts_one (pt_cmpR op_notIn_sign (pv 2) (pv 1) rfl))) (fun _ _ _ _ _ => (pv 2))) (pe_lst pa_nil) (nomark _))))))), ?_⟩
  obtain ⟨hv, hf, k⟩ := h
  refine ⟨_, rfl, isiS hv ⟨_, rfl, ?_⟩⟩
  cases d with
  | str x =>
    cases hv
    refine iteF ?_
    refine ⟨_, rfl, by show 2 ≤ sizeLine; decide, fun q hq => ⟨q, _, rfl, .inr (SqT.of upd_same), rfl, rfl, ?_⟩⟩
    have s1 : Same H (upd H q (.tup [.str "", .str "tick"])) := Same.new hq
    have e1 : inV (.str x) [V.str "", .str "tick"] = decide (x ∈ (["", "tick"] : List String).map Str.ofString) := inV_strs x ((["", "tick"] : List String).map Str.ofString)
    refine ⟨_, rfl, ?_⟩
    show if inV (.str x) [V.str "", .str "tick"] = true then _ else _
    rw [e1]
    have em : (x ∈ (["", "tick"] : List String).map Str.ofString) ↔ (x = "" ∨ x = "tick") := by simp
    have e0 : isName (.str x) = ((!decide (x = "") && x.cps.toList.all isLet) && (decide ((x.length : Int) ≤ 8) && !decide (x = "tick"))) := rfl
    revert s1
    generalize upd H q (.tup [.str "", .str "tick"]) = H1
    intro s1
    by_cases h1 : x = "" ∨ x = "tick"
    · rw [decide_eq_true (em.mpr h1)]
      refine iteT ?_
      have := k H1 s1
      rw [e0] at this
      rcases h1 with h1 | h1
      · rw [decide_eq_true h1] at this; show Q (.bl false) H1; simpa using this
      · rw [decide_eq_true h1] at this; show Q (.bl false) H1; simpa using this
    · rw [decide_eq_false (fun z => h1 (em.mp z))]
      refine iteF ?_
      have n1 : decide (x = "") = false := decide_eq_false fun z => h1 (.inl z)
      have n2 : decide (x = "tick") = false := decide_eq_false fun z => h1 (.inr z)
      refine ⟨_, rfl, x, rfl, sz20 hf.1, _, _, rfl, rfl, _, rfl, ?_⟩
      by_cases h8 : (x.length : Int) ≤ 8
      · rw [decide_eq_false (by omega)]
        refine iteF ?_
        refine ⟨_, rfl, x, rfl, fun D hD => lc_detF walk_str (fun i => !isLet (x.cps.toList.getD i 0)) (fun i => .str ⟨#[x.cps.toList.getD i 0]⟩) hD (Nat.lt_of_le_of_lt hf.1 (by decide)) (fun _ _ => trivial) ?_ ?_⟩
        · intro i y H2 H3 C N hi s2 hy hC hN
          obtain ⟨rfl, c, hc, rfl⟩ := hy
          have ec : x.cps.toList.getD i 0 = c := by simp [List.getD, sign_at hc]
          rw [ec] at hC hN
          refine ⟨rfl, ?_⟩
          refine ⟨_, rfl, _, rfl, c, LETS, rfl, rfl, _, rfl, ?_⟩
          have e : decide (c ∈ LETS.cps.toList) = isLet c := rfl
          rw [e]
          cases hl : isLet c with
          | true => rw [hl] at hN; exact iteF (hN rfl _ (Same.refl _))
          | false => rw [hl] at hC; exact iteT ⟨_, rfl, hC rfl _ (Same.refl _)⟩
        · intro H2 s2 hl
          refine ⟨by decide, fun b hb => ⟨D, b, _, rfl, rfl, SqL.of ((upd_ne (ne_of_none hl hb)).trans hl), upd_same, ?_⟩⟩
          rw [given_empty]
          have := k _ (s1.trans (s2.trans (Same.new (o := .lst []) hb)))
          rw [e0, n1, n2, decide_eq_true h8] at this
          rw [show (fun i => !!isLet (x.cps.toList.getD i 0)) = fun i => isLet (x.cps.toList.getD i 0) from funext fun i => Bool.not_not _]
          have e2 := all_given x isLet
          rw [all_map] at e2
          rw [e2]
          simpa using this
      · rw [decide_eq_true (by omega)]
        refine iteT ?_
        have := k H1 s1
        rw [e0, decide_eq_false h8] at this
        show Q (.bl false) H1
        simpa using this
  | _ => exact iteT (k H (Same.refl _))
end
end K12
namespace K12
open PySem PySem.Spec PyProof.Rows L2
/-- what a look tells: nothing, or a new list of two texts -/
def Ans (H : Hp) : Option (Str × Str) → V → Prop
  | none, v => v = .non
  | some q, v => ∃ l, v = .ref l ∧ H l = some (.lst [.str q.1, .str q.2])
theorem Ans.mono {H H' : Hp} {r : Option (Str × Str)} {v : V} (s : Same H H') (h : Ans H r v) : Ans H' r v := by
  cases r with
  | none => exact h
  | some q => obtain ⟨l, e, h⟩ := h; exact ⟨l, e, s _ _ h⟩
theorem Ans.new {H : Hp} {l : Addr} {x y : Str} : Ans (upd H l (.lst [.str x, .str y])) (some (x, y)) (.ref l) := ⟨l, rfl, upd_same⟩
def spLName : Sp := fun vs H Q _ => ∃ p d v n dk ks, vs = [v, .int n, .ref dk] ∧ Rp p H d v ∧ Fit d ∧ n.natAbs ≤ 5000 ∧ Kd p H dk ks ∧ ∀ H' u, Same H H' → Ans H' (badName d n ks) u → Q u H'
def spLSize : Sp := fun vs H Q _ => ∃ p d v dk ks kk, vs = [.str kk, v, .ref dk] ∧ Rp p H d v ∧ Kd p H dk ks ∧ isKindB (.str kk) = true ∧ ∀ H', Same H H' → Q (.bl (!sizeOk ks kk d)) H'
def lb (x : Str) (lo hi : Int) : Str × Int × Int := (x, lo, hi)
def lbounds1 : List (Str × Int × Int) := [lb "cell" (-1000) 1000, lb "lock" 0 0, lb "relock" 0 0, lb "room" 1 4, lb "flag" 0 1, lb "gate" 2 4]
def lbounds2 : List (Str × Int × Int) := [lb "pipe" 1 4, lb "pool" 1 4]
theorem lbounds_tab : (lbounds1 ++ lbounds2).map (fun q => (q.1, [V.int q.2.1, V.int q.2.2])) = tabSIZES := by decide +kernel
section
variable {P : Program} {w : World} {K : PySem.W.Frag} {mg : Str → Option Value} {base : Heap}
abbrev N__law_bad_name : List Str := ["_law_name_here", "_law_number", "_law_kinds"]
theorem sc__law_bad_name : FnScope N__law_bad_name ["_law_name_here", "_law_number", "_law_kinds"] (defScope (top 69)) := sc_of (by decide +kernel)
-- slots: 0:_law_name_here 1:_law_number 2:_law_kinds
theorem ok__law_bad_name (T : Tx w K mg) (c__law_is_name : Cl P w K mg base CX0 1 "_law_is_name" (spLook isName)) (c__law_who : Cl P w K mg base CX0 1 "_law_who" spWho) : Cl P w K mg base CX0 2 "_law_bad_name" spLName := by
  refine T.d__law_bad_name.cl sc__law_bad_name (fun _ _ _ _ _ _ us hl => match us, hl with | [_, _, _], _ => rfl) (fun vs H Q E h => ?_) fun f cdv A outer s H vs Q E hr h => ?_
  · obtain ⟨_, _, _, _, _, _, rfl, _⟩ := h; rfl
  have hu := hu_of hr
  have hu0 := hr.units0
  have hu64 := hr.units
  obtain ⟨p, d, v, n, dk, ks, rfl, h⟩ := h
  refine ⟨_, PSs.nox ((pss_cons (ps_if (pt_not (pt_val (pe_cl c__law_is_name hr (pa_cons (pv 0) pa_nil)))) (pss_one (ps_ret (pe_lst (pa_cons pe_str (pa_cons (pe_cl c__law_who hr (pa_cons (pv 0) (pa_cons (pv 1) pa_nil))) pa_nil))))) pss_nil)
      (pss_one (ps_ret (pe_ifExp (pt_cmp (pc_din hu (pv 0) (pv 2))) (pe_lst (pa_cons pe_str (pa_cons (pv 0) pa_nil))) pe_non))))), ?_⟩
  obtain ⟨hv, hf, hn, hkd, k⟩ := h
  refine ⟨_, rfl, p, d, v, rfl, hv, hf, fun H1 s1 => ⟨_, rfl, ?_⟩⟩
  cases hx : isName d with
  | false =>
    rw [bad_no hx] at k
    refine iteT ?_
    refine ⟨_, rfl, _, rfl, p, d, v, n, rfl, hv.mono (.of s1), hn, fun H2 s2 => ⟨by show 2 ≤ sizeLine; decide, fun l hl => ?_⟩⟩
    exact k _ _ ((s1.trans s2).trans (Same.new hl)) Ans.new
  | true =>
    obtain ⟨x, rfl⟩ := name_str hx
    rw [bad_yes hx] at k
    cases hv
    have hkd1 : Kd p H1 dk ks := hkd.mono (.of s1)
    refine iteF ?_
    have g := DGet.k (k := Sum.inr x) hkd1.2
    rw [valV_kv] at g
    refine ⟨_, rfl, _, rfl, dk, _, rfl, g, _, rfl, ?_⟩
    have e1 : (Option.map V.str (List.lookup x ks)).isSome = (List.lookup x ks).isSome := by cases List.lookup x ks <;> rfl
    rw [e1]
    cases hl : (List.lookup x ks).isSome with
    | true =>
      rw [hl] at k
      refine iteT ⟨_, rfl, by show 2 ≤ sizeLine; decide, fun l hl => ?_⟩
      exact k _ _ (s1.trans (Same.new hl)) Ans.new
    | false =>
      rw [hl] at k
      exact iteF (k H1 _ s1 rfl)
end
end K12
namespace K12
open PySem PySem.Spec PyProof.Rows L2
abbrev LB := Str × Int × Int
def bKv (L : List LB) (as : List Addr) : List (Key × V) := (L.zip as).map fun x => (Sum.inr x.1.1, V.ref x.2)
/-- the pairs of numbers stand at as -/
def BAt (H : Hp) (L : List LB) (as : List Addr) : Prop := as.length = L.length ∧ ∀ (i : Nat) q a, L[i]? = some q → as[i]? = some a → H a = some (.tup [.int q.2.1, .int q.2.2])
theorem BAt.mono {H H' : Hp} {L : List LB} {as : List Addr} (k : ∀ a xs, H a = some (.tup xs) → H' a = some (.tup xs)) (h : BAt H L as) : BAt H' L as := ⟨h.1, fun i q a e1 e2 => k _ _ (h.2 i q a e1 e2)⟩
theorem BAt.cons {H : Hp} {L : List LB} {as : List Addr} {q : LB} {a : Addr} (h : BAt H L as) (g : H a = some (.tup [.int q.2.1, .int q.2.2])) : BAt H (q :: L) (a :: as) :=
  ⟨by simp [h.1], fun i q' a' e1 e2 => by
    cases i with
    | zero => simp at e1 e2; subst e1 e2; exact g
    | succ i => exact h.2 i q' a' (by simpa using e1) (by simpa using e2)⟩
theorem BAt.app {H : Hp} : ∀ {L M : List LB} {as bs : List Addr}, BAt H L as → BAt H M bs → BAt H (L ++ M) (as ++ bs)
  | [], _, [], _, _, g => g
  | [], _, _ :: _, _, h, _ => by cases h.1
  | _ :: _, _, [], _, h, _ => by cases h.1
  | q :: L, M, a :: as, bs, h, g => (BAt.app (L := L) (as := as) ⟨by simpa using h.1, fun i q' a' e1 e2 => h.2 (i + 1) q' a' (by simpa using e1) (by simpa using e2)⟩ g).cons (h.2 0 q a rfl rfl)
theorem bKv_app {L M : List LB} {as bs : List Addr} (h : as.length = L.length) : bKv (L ++ M) (as ++ bs) = bKv L as ++ bKv M bs := by
  unfold bKv
  rw [List.zip_append h.symm, List.map_append]
theorem BAt.find {H : Hp} : ∀ {L : List LB} {as : List Addr} (w : Str), BAt H L as → (L.lookup w = none ∧ valV (bKv L as) (Sum.inr w : Key) = none) ∨ ∃ b a, L.lookup w = some b ∧ valV (bKv L as) (Sum.inr w : Key) = some (.ref a) ∧ H a = some (.tup [.int b.1, .int b.2])
  | [], [], w, _ => .inl ⟨rfl, rfl⟩
  | [], _ :: _, _, h => by cases h.1
  | _ :: _, [], _, h => by cases h.1
  | (n, b) :: L, a :: as, w, h => by
    have e0 : bKv ((n, b) :: L) (a :: as) = (Sum.inr n, V.ref a) :: bKv L as := rfl
    rw [e0, lk_cons]
    by_cases e : w = n
    · subst e
      rw [if_pos rfl, valV_pos rfl]
      exact .inr ⟨b, a, rfl, rfl, h.2 0 _ _ rfl rfl⟩
    · rw [if_neg e, valV_neg (fun z => e (Sum.inr.inj z).symm)]
      exact BAt.find w ⟨by simpa using h.1, fun i q b e1 e2 => h.2 (i + 1) q b (by simpa using e1) (by simpa using e2)⟩
theorem bKv_keys : ∀ {L : List LB} {as : List Addr}, as.length = L.length → (bKv L as).map (·.1) = (L.map (·.1)).map (Sum.inr : Str → Key)
  | [], [], _ => rfl
  | [], _ :: _, h => by cases h
  | _ :: _, [], h => by cases h
  | q :: L, a :: as, h => by
    have e : bKv (q :: L) (a :: as) = (Sum.inr q.1, V.ref a) :: bKv L as := rfl
    rw [e, List.map_cons, List.map_cons, List.map_cons, bKv_keys (by simpa using h)]
theorem bKv_len {L : List LB} {as : List Addr} (h : as.length = L.length) : (bKv L as).length = L.length := by unfold bKv; rw [List.length_map, List.length_zip]; omega
/-- what a display's rows are -/
structure BRow (q : LB) (t : TE × TE) : Prop where
  key : ∀ σ H Q, Q (.str q.1) H → t.1 σ H Q
  val : ∀ σ H Q, (∀ a, H a = none → Q (.ref a) (upd H a (.tup [.int q.2.1, .int q.2.2]))) → t.2 σ H Q
theorem pairs_run {σ : L2.St} : ∀ {L : List LB} {ts : List (TE × TE)} {H : Hp} {Q : List (V × V) → Hp → Prop}, Paired BRow L ts → (∀ H' as, Same H H' → BAt H' L as → Q ((bKv L as).map fun kv => (kV kv.1, kv.2)) H') → tPairs ts σ H Q
  | [], [], H, Q, _, k => k H [] (Same.refl _) ⟨rfl, fun i q a h => by simp at h⟩
  | q :: L, t :: ts, H, Q, .cons r rs, k => by
    refine r.key σ H _ (r.val σ H _ fun a ha => pairs_run rs fun H' as s h => ?_)
    have s0 : Same H (upd H a (.tup [.int q.2.1, .int q.2.2])) := Same.new ha
    exact k H' (a :: as) (s0.trans s) (h.cons (s _ _ upd_same))
theorem disp_end {L : List LB} {H H' : Hp} {p : Addr} {as : List Addr} (hp : H p = none) (s : Same (upd H p (.dK [])) H') (h : BAt H' L as) (hn : (L.map (·.1)).Nodup) :
    mergeK [] (bKv L as) = bKv L as ∧ Same H (upd H' p (.dK (bKv L as))) ∧ BAt (upd H' p (.dK (bKv L as))) L as := by
  have s0 : Same H (upd H p (.dK [])) := Same.new hp
  have hp' : H' p = some (.dK []) := s _ _ upd_same
  refine ⟨?_, Same.mut (s0.trans s) hp, h.mono fun a xs e => (upd_ne fun z => ?_).trans e⟩
  · rw [mergeK_new _ [] (fun p _ => rfl) (by rw [bKv_keys h.1]; exact nodup_inr hn)]
    rfl
  · rw [z, hp'] at e
    cases e
theorem lb_keys : (lbounds1.map (·.1)).Nodup ∧ (lbounds2.map (·.1)).Nodup ∧ ((lbounds1 ++ lbounds2).map (·.1)).Nodup := by decide +kernel
theorem lb_none : ((lbounds2.map (·.1)).all fun n => (lbounds1.lookup n).isNone) = true := by decide +kernel
theorem lb_apart {H : Hp} {as bs : List Addr} (h : BAt H lbounds1 as) (hl : bs.length = lbounds2.length) : ∀ p ∈ bKv lbounds2 bs, valV (bKv lbounds1 as) p.1 = none := by
  intro p hp
  have : p.1 ∈ (bKv lbounds2 bs).map (·.1) := List.mem_map_of_mem hp
  rw [bKv_keys hl] at this
  obtain ⟨n, hn, e⟩ := List.mem_map.mp this
  have h1 := List.all_eq_true.mp lb_none n hn
  rw [← e]
  rcases h.find n with ⟨_, h2⟩ | ⟨b, a, h2, _⟩
  · exact h2
  · rw [h2] at h1; cases h1
theorem lb_of {kk : Str} (h : isKindB (.str kk) = true) (hb : ¬ kk = "bell") : ∃ lo hi, (lbounds1 ++ lbounds2).lookup kk = some (lo, hi) ∧ tabSIZES.lookup kk = some [V.int lo, V.int hi] := by
  obtain ⟨lo, hi, e⟩ := size_two h hb
  rw [← lbounds_tab, lk_map (fun b : Int × Int => [V.int b.1, V.int b.2])] at e
  cases hl : (lbounds1 ++ lbounds2).lookup kk with
  | none => rw [hl] at e; cases e
  | some b =>
    rw [hl] at e
    obtain ⟨lo', hi'⟩ := b
    refine ⟨lo', hi', rfl, ?_⟩
    rw [← lbounds_tab, lk_map (fun b : Int × Int => [V.int b.1, V.int b.2]), hl]; rfl
section
variable {P : Program} {w : World} {K : PySem.W.Frag} {mg : Str → Option Value} {base : Heap}
abbrev N__law_bad_size : List Str := ["_law_kind", "_law_size", "_law_kinds", "_law_bounds", "_law_least", "_law_most"]
theorem sc__law_bad_size : FnScope N__law_bad_size ["_law_kind", "_law_size", "_law_kinds"] (defScope (top 70)) := sc_of (by decide +kernel)
-- slots: 0:_law_kind 1:_law_size 2:_law_kinds 3:_law_bounds 4:_law_least 5:_law_most
theorem ok__law_bad_size (T : Tx w K mg) (c__law_is_number : Cl P w K mg base CX0 1 "_law_is_number" spNum) : Cl P w K mg base CX0 2 "_law_bad_size" spLSize := by
  refine T.d__law_bad_size.cl sc__law_bad_size (fun _ _ _ _ _ _ us hl => match us, hl with | [_, _, _], _ => rfl) (fun vs H Q E h => ?_) fun f cdv A outer s H vs Q E hr h => ?_
  · obtain ⟨_, _, _, _, _, _, rfl, _⟩ := h; rfl
  have hu := hu_of hr
  have hu0 := hr.units0
  have hu64 := hr.units
  obtain ⟨p, d, v, dk, ks, kk, rfl, h⟩ := h
  refine ⟨_, PSs.nox ((pss_cons (ps_if (pt_cmpR op_eq (pv 0) pe_str (nomark _)) (pss_one (ps_ret (pe_or (pe_not (pe_isi T.f_isinstance T.f_str (pv 1) b_str)) (pe_one (pe_cmpR op_notIn_seq (pe_dget1 hu (pv 2) (pv 1) ⟨rfl, rfl, rfl, rfl⟩) (pe_tup (pa_cons pe_str (pa_cons pe_str pa_nil))) rfl))))) pss_nil)
      (pss_cons (ps_set (i := 3) sc__law_bad_size.nd rfl (Or.inl rfl) (pe_disp (pps_cons pe_str (pe_tup (pa_cons (pe_un un_neg pe_int) (pa_cons pe_int pa_nil))) (pps_cons pe_str (pe_tup (pa_cons pe_int (pa_cons pe_int pa_nil))) (pps_cons pe_str (pe_tup (pa_cons pe_int (pa_cons pe_int pa_nil))) (pps_cons pe_str (pe_tup (pa_cons pe_int (pa_cons pe_int pa_nil))) (pps_cons pe_str (pe_tup (pa_cons pe_int (pa_cons pe_int pa_nil))) (pps_cons pe_str (pe_tup (pa_cons pe_int (pa_cons pe_int pa_nil))) pps_nil)))))) rfl rfl (by simp) (by decide)))
      (pss_cons (ps_expr (pe_bm PySem.F.plainAttrs_dict PySem.F.slot_dict_update PySem.F.type_dict_update mt_update (pv 3) (pa_cons (pe_disp (pps_cons pe_str (pe_tup (pa_cons pe_int (pa_cons pe_int pa_nil))) (pps_cons pe_str (pe_tup (pa_cons pe_int (pa_cons pe_int pa_nil))) pps_nil)) rfl rfl (by simp) (by decide)) pa_nil)))
      (pss_cons (ps_asg (pe_dget hu (pv 3) (pv 0) (fun _ _ => rfl)) (pg_tup rfl (pgs_cons (pg_name (i := 4) sc__law_bad_size.nd rfl (Or.inl rfl)) (pgs_cons (pg_name (i := 5) sc__law_bad_size.nd rfl (Or.inl rfl)) pgs_nil))))
      (pss_one (ps_ret (pe_not (pe_cl c__law_is_number hr (pa_cons (pv 1) (pa_cons (pv 4) (pa_cons (pv 5) pa_nil)))))))))))), ?_⟩
  obtain ⟨hv, hkd, hkk, k⟩ := h
  have kq := k H (Same.refl _)
  refine ⟨_, rfl, rfl, _, rfl, ?_⟩
  unfold sizeOk at k kq
  refine ite2 (fun hb => ?_) (fun hb => ?_)
  · have hb' : kk = "bell" := by simpa using hb
    rw [if_pos hb'] at k kq
    refine ⟨_, rfl, isiS hv ⟨_, rfl, ?_⟩⟩
    cases d with
    | str z =>
      cases hv
      refine ⟨_, rfl, iteF ?_⟩
      have g := DGet.k (k := Sum.inr z) hkd.2
      rw [valV_kv] at g
      refine ⟨_, rfl, dk, rfl, .inl ⟨_, .inl hkd.2⟩, _, rfl, _, g, by show 2 ≤ sizeLine; decide, fun t ht => ⟨t, _, rfl, .inr (SqT.of upd_same), ?_⟩⟩
      refine ⟨?_, flat_strs (["lock", "relock"] : List Str), ?_⟩
      · cases ks.lookup z <;> rfl
      · have e := locks_in ks z
        rw [if_neg (by simp)] at e
        have e2 : (if true = true then !inV ((Option.map V.str (List.lookup z ks)).getD V.non) ((["lock", "relock"] : List Str).map V.str) else inV ((Option.map V.str (List.lookup z ks)).getD V.non) ((["lock", "relock"] : List Str).map V.str)) = !ofKind ks "lock" (.str z) := by
          rw [if_pos rfl, e]
        have := k _ (Same.new (o := .tup [.str "lock", .str "relock"]) ht)
        rw [← e2] at this
        exact this
    | _ => exact ⟨_, rfl, iteT kq⟩
  · have hb' : ¬ kk = "bell" := by simpa using hb
    rw [if_neg hb'] at k kq
    obtain ⟨lo, hi, e1, e2⟩ := lb_of hkk hb'
    rw [e2] at k
    intro q1 hq0
    refine pairs_run (L := lbounds1) ?_ fun H1' as1 s1' hb1' => ⟨s1' _ _ upd_same, bKv lbounds1 as1, rfl, by rw [bKv_len hb1'.1]; decide, ?_⟩
    · exact .cons ⟨fun _ _ _ q => q, fun _ _ _ q => ⟨_, rfl, by show 2 ≤ sizeLine; decide, q⟩⟩ (.cons ⟨fun _ _ _ q => q, fun _ _ _ q => ⟨by show 2 ≤ sizeLine; decide, q⟩⟩ (.cons ⟨fun _ _ _ q => q, fun _ _ _ q => ⟨by show 2 ≤ sizeLine; decide, q⟩⟩ (.cons ⟨fun _ _ _ q => q, fun _ _ _ q => ⟨by show 2 ≤ sizeLine; decide, q⟩⟩ (.cons ⟨fun _ _ _ q => q, fun _ _ _ q => ⟨by show 2 ≤ sizeLine; decide, q⟩⟩ (.cons ⟨fun _ _ _ q => q, fun _ _ _ q => ⟨by show 2 ≤ sizeLine; decide, q⟩⟩ .nil)))))
    · obtain ⟨em1, s1, hb1⟩ := disp_end hq0 s1' hb1' lb_keys.1
      rw [em1]
      have hd1 : upd H1' q1 (.dK (bKv lbounds1 as1)) q1 = some (.dK (bKv lbounds1 as1)) := upd_same
      revert s1 hb1 hd1
      generalize upd H1' q1 (.dK (bKv lbounds1 as1)) = H1
      intro s1 hb1 hd1
      refine ⟨_, rfl, .inr (.inr (.inl ⟨rfl, .inl ⟨_, hd1⟩⟩)), ?_⟩
      intro q2 hq2
      refine pairs_run (L := lbounds2) (.cons ⟨fun _ _ _ q => q, fun _ _ _ q => ⟨by show 2 ≤ sizeLine; decide, q⟩⟩ (.cons ⟨fun _ _ _ q => q, fun _ _ _ q => ⟨by show 2 ≤ sizeLine; decide, q⟩⟩ .nil)) fun H2' as2 s2' hb2' => ⟨s2' _ _ upd_same, bKv lbounds2 as2, rfl, by rw [bKv_len hb2'.1]; decide, ?_⟩
      obtain ⟨em2, s2, hb2⟩ := disp_end hq2 s2' hb2' lb_keys.2.1
      rw [em2]
      have hd2 : upd H2' q2 (.dK (bKv lbounds2 as2)) q2 = some (.dK (bKv lbounds2 as2)) := upd_same
      revert s2 hb2 hd2
      generalize upd H2' q2 (.dK (bKv lbounds2 as2)) = H2
      intro s2 hb2 hd2
      have n12 : q1 ≠ q2 := fun z => by rw [← z, hd1] at hq2; cases hq2
      have hl1 := bKv_len hb1.1
      have hl2 := bKv_len hb2.1
      refine ⟨q1, q2, _, _, rfl, rfl, n12, s2 _ _ hd1, hd2, by rw [hl1, hl2]; decide, ?_⟩
      have em : mergeK (bKv lbounds1 as1) (bKv lbounds2 as2) = bKv (lbounds1 ++ lbounds2) (as1 ++ as2) := by
        rw [bKv_app hb1.1]
        refine mergeK_new _ _ (fun p hp => ?_) (by rw [bKv_keys hb2.1]; exact nodup_inr lb_keys.2.1)
        exact lb_apart hb1 hb2.1 p hp
      rw [em]
      have hb12 : BAt H2 (lbounds1 ++ lbounds2) (as1 ++ as2) := (hb1.mono fun a xs e => s2 _ _ e).app hb2
      have hq12 : H2 q1 = some (.dK (bKv lbounds1 as1)) := s2 _ _ hd1
      have s3 : Same H (upd H2 q1 (.dK (bKv (lbounds1 ++ lbounds2) (as1 ++ as2)))) := Same.mut (s1.trans s2) hq0
      have hb3 : BAt (upd H2 q1 (.dK (bKv (lbounds1 ++ lbounds2) (as1 ++ as2)))) (lbounds1 ++ lbounds2) (as1 ++ as2) := hb12.mono fun a xs e => (upd_ne fun z => by rw [z, hq12] at e; cases e).trans e
      rcases hb3.find kk with ⟨e3, _⟩ | ⟨b, a, e3, e4, e5⟩
      · rw [e3] at e1; cases e1
      · rw [e3] at e1
        cases e1
        have g : DGet (upd H2 q1 (.dK (bKv (lbounds1 ++ lbounds2) (as1 ++ as2)))) q1 (.str kk) (some (.ref a)) := by
          have := DGet.k (H := upd H2 q1 (.dK (bKv (lbounds1 ++ lbounds2) (as1 ++ as2)))) (k := Sum.inr kk) upd_same
          rw [e4] at this; exact this
        refine ⟨_, rfl, _, rfl, q1, _, rfl, g, a, _, rfl, SqT.of e5, rfl, _, _, rfl, _, _, rfl, rfl, ?_⟩
        refine ⟨_, rfl, _, rfl, _, rfl, p, d, v, lo, hi, rfl, hv.mono (.of s3), fun H4 s4 => ⟨_, rfl, ?_⟩⟩
        exact k H4 (s3.trans s4)
end
end K12
namespace K12
open PySem PySem.Spec PyProof.Rows L2
def kinds9 : List Str := (["cell", "lock", "relock", "room", "flag", "gate", "pipe", "bell", "pool"] : List String).map Str.ofString
theorem lk_isSome {α : Type} (l : List (Str × α)) (z : Str) : (l.lookup z).isSome = decide (z ∈ l.map (·.1)) := by
  induction l with
  | nil => rfl
  | cons q l ih =>
    obtain ⟨n, v⟩ := q
    rw [lk_cons]
    by_cases e : z = n
    · rw [if_pos e]; simp [e]
    · rw [if_neg e, ih]; simp [e]
theorem size_keys : tabSIZES.map (·.1) = (["cell", "lock", "relock", "room", "flag", "gate", "pipe", "pool"] : List String).map Str.ofString := by decide +kernel
theorem isKind9 (x : Str) : isKindB (.str x) = decide (x ∈ kinds9) := by
  show ((tabSIZES.lookup x).isSome || decide (x = "bell")) = _
  rw [lk_isSome, size_keys, ← Bool.decide_or]
  refine decide_eq_decide.mpr ?_
  unfold kinds9
  simp only [List.map_cons, List.map_nil, List.mem_cons, List.not_mem_nil, or_false]
  constructor
  · rintro ((h | h | h | h | h | h | h | h) | h)
    · exact .inl h
    · exact .inr (.inl h)
    · exact .inr (.inr (.inl h))
    · exact .inr (.inr (.inr (.inl h)))
    · exact .inr (.inr (.inr (.inr (.inl h))))
    · exact .inr (.inr (.inr (.inr (.inr (.inl h)))))
    · exact .inr (.inr (.inr (.inr (.inr (.inr (.inl h))))))
    · exact .inr (.inr (.inr (.inr (.inr (.inr (.inr (.inr h)))))))
    · exact .inr (.inr (.inr (.inr (.inr (.inr (.inr (.inl h)))))))
  · rintro (h | h | h | h | h | h | h | h | h)
    · exact .inl (.inl h)
    · exact .inl (.inr (.inl h))
    · exact .inl (.inr (.inr (.inl h)))
    · exact .inl (.inr (.inr (.inr (.inl h))))
    · exact .inl (.inr (.inr (.inr (.inr (.inl h)))))
    · exact .inl (.inr (.inr (.inr (.inr (.inr (.inl h))))))
    · exact .inl (.inr (.inr (.inr (.inr (.inr (.inr (.inl h)))))))
    · exact .inr h
    · exact .inl (.inr (.inr (.inr (.inr (.inr (.inr (.inr h)))))))
theorem kind_S {d : PyData} (h : isS d = false) : isKindB d = false := by
  cases d with
  | str x => cases h
  | _ => rfl
theorem at1 (u v : V) (us : List V) : atI (u :: v :: us) 1 = some v := by
  unfold atI ixN
  rw [if_pos (by decide), if_pos (by simp; omega)]
  rfl
theorem at2 (u v x : V) (us : List V) : atI (u :: v :: x :: us) 2 = some x := by
  unfold atI ixN
  rw [if_pos (by decide), if_pos (by simp; omega)]
  rfl
theorem notin_eq (x : Str) (ws : List Str) : (if true = true then !inV (.str x) (ws.map V.str) else inV (.str x) (ws.map V.str)) = !decide (x ∈ ws) := by
  rw [if_pos rfl, inV_strs]
theorem Ans.isN {H : Hp} {r : Option (Str × Str)} {v : V} (h : Ans H r v) : decide (v = .non) = r.isNone := by
  cases r with
  | none => cases h; rfl
  | some q => obtain ⟨l, rfl, _⟩ := h; rfl
def spLThing : Sp := fun vs H Q _ => ∃ p d v n dk ks, vs = [v, .int n, .ref dk] ∧ Rp p H d v ∧ Fit d ∧ n.natAbs ≤ 5000 ∧ Kd p H dk ks ∧ ∀ H' u, Same H H' → Ans H' (badThing d n ks) u → Q u H'
def spLTask : Sp := fun vs H Q _ => ∃ p d v n dk ks, vs = [v, .int n, .ref dk] ∧ Rp p H d v ∧ Fit d ∧ n.natAbs ≤ 5000 ∧ Kd p H dk ks ∧ ∀ H' u, Same H H' → Ans H' (badTask d n ks) u → Q u H'
section
variable {P : Program} {w : World} {K : PySem.W.Frag} {mg : Str → Option Value} {base : Heap}
abbrev N__law_bad_thing : List Str := ["_law_thing_here", "_law_number", "_law_kinds", "_law_sorts_here", "_law_bad"]
theorem sc__law_bad_thing : FnScope N__law_bad_thing ["_law_thing_here", "_law_number", "_law_kinds"] (defScope (top 71)) := sc_of (by decide +kernel)
-- slots: 0:_law_thing_here 1:_law_number 2:_law_kinds 3:_law_sorts_here 4:_law_bad
theorem ok__law_bad_thing (T : Tx w K mg) (c__law_bad_name : Cl P w K mg base CX0 2 "_law_bad_name" spLName) (c__law_bad_size : Cl P w K mg base CX0 2 "_law_bad_size" spLSize) : Cl P w K mg base CX0 3 "_law_bad_thing" spLThing := by
  refine T.d__law_bad_thing.cl sc__law_bad_thing (fun _ _ _ _ _ _ us hl => match us, hl with | [_, _, _], _ => rfl) (fun vs H Q E h => ?_) fun f cdv A outer s H vs Q E hr h => ?_
  · obtain ⟨_, _, _, _, _, _, rfl, _⟩ := h; rfl
  have hu := hu_of hr
  have hu0 := hr.units0
  have hu64 := hr.units
  obtain ⟨p, d, v, n, dk, ks, rfl, h⟩ := h
  refine ⟨_, PSs.nox ((pss_cons (ps_set (i := 3) sc__law_bad_thing.nd rfl (Or.inl rfl) (pe_lst (pa_cons pe_str (pa_cons pe_str (pa_cons pe_str (pa_cons pe_str (pa_cons pe_str (pa_cons pe_str (pa_cons pe_str (pa_cons pe_str (pa_cons pe_str pa_nil)))))))))))
      (pss_cons (ps_if (PW.pt (pw_or (pt_not (pt_val (pe_isi T.f_isinstance T.f_tuple (pv 0) b_tuple))) (pw_or1 (pt_cmpR op_ne (pe_callB call_len_seq rfl T.f_len b_len (pa_cons (pv 0) pa_nil)) pe_int (nomark _))))) (pss_one (ps_ret (pe_lst (pa_cons pe_str (pa_cons (pe_callTy call_str_int rfl T.f_str b_str (pa_cons (pv 1) pa_nil)) pa_nil))))) pss_nil)
      (pss_cons (ps_if (PW.pt (pw_or (pt_not (pt_val (pe_isi T.f_isinstance T.f_str (pe_ix ix_tup (pv 0) pe_int (fun _ _ => rfl)) b_str))) (pw_or1 (pt_cmpR op_notIn_seq (pe_ix ix_tup (pv 0) pe_int (fun _ _ => rfl)) (pv 3) rfl)))) (pss_one (ps_ret (pe_lst (pa_cons pe_str (pa_cons (pe_callTy call_str_int rfl T.f_str b_str (pa_cons (pv 1) pa_nil)) pa_nil))))) pss_nil)
      (pss_cons (ps_set (i := 4) sc__law_bad_thing.nd rfl (Or.inl rfl) (pe_cl c__law_bad_name hr (pa_cons (pe_ix ix_tup (pv 0) pe_int (fun _ _ => rfl)) (pa_cons (pv 1) (pa_cons (pv 2) pa_nil)))))
      (pss_cons (ps_if (PW.pt (pw_and (pt_cmpR op_isN (pv 4) pe_non (nomark _)) (pw_and1 (pt_val (pe_cl c__law_bad_size hr (pa_cons (pe_ix ix_tup (pv 0) pe_int (fun _ _ => rfl)) (pa_cons (pe_ix ix_tup (pv 0) pe_int (fun _ _ => rfl)) (pa_cons (pv 2) pa_nil)))))))) (pss_one (ps_set (i := 4) sc__law_bad_thing.nd rfl (Or.inl rfl) (pe_lst (pa_cons pe_str (pa_cons (pe_ix ix_tup (pv 0) pe_int (fun _ _ => rfl)) pa_nil))))) pss_nil)
      (pss_one (ps_ret (pv 4))))))))), ?_⟩
  obtain ⟨hv, hf, hn, hkd, k⟩ := h
  refine ⟨by show 9 ≤ sizeLine; decide, fun l9 hl9 => ?_⟩
  have s1 : Same H (upd H l9 (.lst (kinds9.map V.str))) := Same.new hl9
  have h9 : upd H l9 (.lst (kinds9.map V.str)) l9 = some (.lst (kinds9.map V.str)) := upd_same
  have hv1 := hv.mono (.of s1)
  have hkd1 := hkd.mono (.of s1)
  have k1 : ∀ H' u, Same (upd H l9 (.lst (kinds9.map V.str))) H' → Ans H' (badThing d n ks) u → Q u H' := fun H' u s => k H' u (s1.trans s)
  clear k s1 hv hkd
  revert h9 hv1 hkd1 k1
  show _ → _ → _ → _ → tNext _ _ (upd H l9 (.lst (kinds9.map V.str)))
  generalize upd H l9 (.lst (kinds9.map V.str)) = H1
  intro h9 hv1 hkd1 k1
  have noT : (∀ a b c, d ≠ .tuple [a, b, c]) → ∀ l, H1 l = none → Q (.ref l) (upd H1 l (.lst [.str "thing", .str (numS n)])) := fun hno l hl => k1 _ _ (Same.new hl) (by rw [badThing_no hno]; exact Ans.new)
  refine ⟨_, rfl, isiT hv1 ⟨_, rfl, ?_⟩⟩
  cases d with
  | tuple ds =>
    refine iteF ?_
    obtain ⟨b, ys, rfl, nb, hb, hys⟩ := hv1
    have hyl : ys.length = ds.length := hys.length
    refine ⟨_, rfl, b, ys, rfl, .inr (SqT.of hb), rfl, _, rfl, ?_⟩
    by_cases h3 : ys.length = 3
    · rw [h3]
      refine iteF ?_
      obtain ⟨kd, nm, sz, vk, vn, vs, rfl, rfl, hk, hn', hs⟩ := rp3 hys h3
      have hf3 : Fit kd ∧ Fit nm ∧ Fit sz := ⟨hf.2.1, hf.2.2.1, hf.2.2.2.1⟩
      refine ⟨_, rfl, b, _, 0, _, rfl, rfl, SqT.of hb, at0 _ _, isiS hk ⟨_, rfl, ?_⟩⟩
      cases hS : isS kd with
      | false =>
        refine iteT ⟨_, rfl, _, rfl, num_size hn, by show 2 ≤ sizeLine; decide, fun l hl => ?_⟩
        exact k1 _ _ (Same.new hl) (by rw [badThing_kind (kind_S hS)]; exact Ans.new)
      | true =>
        refine iteF ?_
        cases kd with
        | str x =>
          cases hk
          refine ⟨_, rfl, b, _, 0, _, rfl, rfl, SqT.of hb, at0 _ _, _, rfl, l9, _, rfl, .inl (SqL.of h9), rfl, flat_strs _, ?_⟩
          rw [notin_eq, ← isKind9]
          refine ⟨_, rfl, ?_⟩
          cases hkk : isKindB (.str x) with
          | false =>
            refine iteT ⟨_, rfl, _, rfl, num_size hn, by show 2 ≤ sizeLine; decide, fun l hl => ?_⟩
            exact k1 _ _ (Same.new hl) (by rw [badThing_kind hkk]; exact Ans.new)
          | true =>
            refine iteF ?_
            refine ⟨_, rfl, b, _, 1, _, rfl, rfl, SqT.of hb, at1 _ _ _, _, rfl, _, rfl, p, nm, vn, n, dk, ks, rfl, hn', hf3.2.1, hn, hkd1, fun H2 u s2 ha => ?_⟩
            have hb2 := s2 _ _ hb
            have hs2 := hs.mono (.of s2)
            have hkd2 := hkd1.mono (.of s2)
            have hn2 := hn'.mono (.of s2)
            refine ⟨_, rfl, rfl, _, rfl, ?_⟩
            rw [ha.isN]
            cases hbn : badName nm n ks with
            | some q =>
              refine iteF ⟨_, rfl, ?_⟩
              rw [hbn] at ha
              exact k1 H2 u s2 (by rw [badThing_name hkk hbn]; exact ha)
            | none =>
              refine iteT ?_
              obtain ⟨y, rfl, _, _⟩ := bad_none hbn
              cases hn2
              refine ⟨_, rfl, b, _, 0, _, rfl, rfl, SqT.of hb2, at0 _ _, _, rfl, b, _, 2, _, rfl, rfl, SqT.of hb2, at2 _ _ _ _, _, rfl, p, sz, vs, dk, ks, x, rfl, hs2, hkd2, hkk, fun H3 s3 => ⟨_, rfl, ?_⟩⟩
              have e := badThing_size (sz := sz) hkk hbn
              have e' : badThing (.tuple [.str x, .str y, sz]) n ks = (if sizeOk ks x sz = true then none else some ("size", y) : Option (Str × Str)) := e
              cases hso : sizeOk ks x sz with
              | true =>
                refine iteF ⟨_, rfl, ?_⟩
                rw [hbn] at ha
                exact k1 H3 u (s2.trans s3) (by rw [e', hso]; exact ha.mono s3)
              | false =>
                refine iteT ⟨_, rfl, b, _, 1, _, rfl, rfl, SqT.of (s3 _ _ hb2), at1 _ _ _, by show 2 ≤ sizeLine; decide, fun l hl => ⟨_, rfl, ?_⟩⟩
                exact k1 _ _ ((s2.trans s3).trans (Same.new hl)) (by rw [e', hso]; exact Ans.new)
        | _ => cases hS
    · have e3 : ¬ (V.int (ys.length : Nat) = V.int 3) := by
        intro z; injection z with z; omega
      rw [decide_eq_false e3]
      exact iteT ⟨_, rfl, _, rfl, num_size hn, by show 2 ≤ sizeLine; decide, noT (fun a b c z => by cases z; exact h3 hyl)⟩
  | _ => exact iteT ⟨_, rfl, _, rfl, num_size hn, by show 2 ≤ sizeLine; decide, noT (fun _ _ _ z => nomatch z)⟩
abbrev N__law_bad_task : List Str := ["_law_task", "_law_number", "_law_kinds", "_law_bad"]
theorem sc__law_bad_task : FnScope N__law_bad_task ["_law_task", "_law_number", "_law_kinds"] (defScope (top 72)) := sc_of (by decide +kernel)
-- slots: 0:_law_task 1:_law_number 2:_law_kinds 3:_law_bad
theorem ok__law_bad_task (T : Tx w K mg) (c__law_bad_name : Cl P w K mg base CX0 2 "_law_bad_name" spLName) : Cl P w K mg base CX0 3 "_law_bad_task" spLTask := by
  refine T.d__law_bad_task.cl sc__law_bad_task (fun _ _ _ _ _ _ us hl => match us, hl with | [_, _, _], _ => rfl) (fun vs H Q E h => ?_) fun f cdv A outer s H vs Q E hr h => ?_
  · obtain ⟨_, _, _, _, _, _, rfl, _⟩ := h; rfl
  have hu := hu_of hr
  have hu0 := hr.units0
  have hu64 := hr.units
  obtain ⟨p, d, v, n, dk, ks, rfl, h⟩ := h
  refine ⟨_, PSs.nox ((pss_cons (ps_if (PW.pt (pw_or (pt_not (pt_val (pe_isi T.f_isinstance T.f_tuple (pv 0) b_tuple))) (pw_or1 (pt_cmpR op_ne (pe_callB call_len_seq rfl T.f_len b_len (pa_cons (pv 0) pa_nil)) pe_int (nomark _))))) (pss_one (ps_ret (pe_lst (pa_cons pe_str (pa_cons (pe_callTy call_str_int rfl T.f_str b_str (pa_cons (pv 1) pa_nil)) pa_nil))))) pss_nil)
      (pss_cons (ps_set (i := 3) sc__law_bad_task.nd rfl (Or.inl rfl) (pe_cl c__law_bad_name hr (pa_cons (pe_ix ix_tup (pv 0) pe_int (fun _ _ => rfl)) (pa_cons (pv 1) (pa_cons (pv 2) pa_nil)))))
      (pss_cons (ps_if (PW.pt (pw_and (pt_cmpR op_isN (pv 3) pe_non (nomark _)) (pw_and1 (pt_not (pt_val (pe_isi T.f_isinstance T.f_bool (pe_ix ix_tup (pv 0) pe_int (fun _ _ => rfl)) b_bool)))))) (pss_one (ps_set (i := 3) sc__law_bad_task.nd rfl (Or.inl rfl) (pe_lst (pa_cons pe_str (pa_cons (pe_ix ix_tup (pv 0) pe_int (fun _ _ => rfl)) pa_nil))))) pss_nil)
      (pss_one (ps_ret (pv 3))))))), ?_⟩
  obtain ⟨hv, hf, hn, hkd, k⟩ := h
  have noT : (∀ a b c e, d ≠ .tuple [a, b, c, e]) → ∀ l, H l = none → Q (.ref l) (upd H l (.lst [.str "task", .str (numS n)])) := fun hno l hl => k _ _ (Same.new hl) (by rw [badTask_no hno]; exact Ans.new)
  refine ⟨_, rfl, isiT hv ⟨_, rfl, ?_⟩⟩
  cases d with
  | tuple ds =>
    refine iteF ?_
    obtain ⟨b, ys, rfl, nb, hb, hys⟩ := hv
    have hyl : ys.length = ds.length := hys.length
    refine ⟨_, rfl, b, ys, rfl, .inr (SqT.of hb), rfl, _, rfl, ?_⟩
    by_cases h4 : ys.length = 4
    · rw [h4]
      refine iteF ?_
      obtain ⟨nm, bg, bo, la, vn, vb, vo, vl, rfl, rfl, hn', hbg, _, _⟩ := rp4 hys h4
      have hf3 : Fit nm := hf.2.1
      refine ⟨_, rfl, b, _, 0, _, rfl, rfl, SqT.of hb, at0 _ _, _, rfl, _, rfl, p, nm, vn, n, dk, ks, rfl, hn', hf3, hn, hkd, fun H2 u s2 ha => ?_⟩
      have hb2 := s2 _ _ hb
      have hbg2 := hbg.mono (.of s2)
      have hn2 := hn'.mono (.of s2)
      refine ⟨_, rfl, rfl, _, rfl, ?_⟩
      rw [ha.isN]
      cases hbn : badName nm n ks with
      | some q =>
        refine iteF ⟨_, rfl, ?_⟩
        rw [hbn] at ha
        exact k H2 u s2 (by rw [badTask_name hbn]; exact ha)
      | none =>
        refine iteT ?_
        obtain ⟨y, rfl, _, _⟩ := bad_none hbn
        cases hn2
        refine ⟨_, rfl, b, _, 1, _, rfl, rfl, SqT.of hb2, at1 _ _ _, isiB hbg2 ⟨_, rfl, ?_⟩⟩
        have e := badTask_begun (bg := bg) (b := bo) (l := la) hbn
        have e' : badTask (.tuple [.str y, bg, bo, la]) n ks = (if isB bg = true then none else some ("begun", y) : Option (Str × Str)) := e
        cases hso : isB bg with
        | true =>
          refine iteF ⟨_, rfl, ?_⟩
          rw [hbn] at ha
          exact k H2 u s2 (by rw [e', hso]; exact ha)
        | false =>
          refine iteT ⟨_, rfl, b, _, 0, _, rfl, rfl, SqT.of hb2, at0 _ _, by show 2 ≤ sizeLine; decide, fun l hl => ⟨_, rfl, ?_⟩⟩
          exact k _ _ (s2.trans (Same.new hl)) (by rw [e', hso]; exact Ans.new)
    · have e3 : ¬ (V.int (ys.length : Nat) = V.int 4) := by
        intro z; injection z with z; omega
      rw [decide_eq_false e3]
      exact iteT ⟨_, rfl, _, rfl, num_size hn, by show 2 ≤ sizeLine; decide, noT (fun a b c e z => by cases z; exact h4 hyl)⟩
  | _ => exact iteT ⟨_, rfl, _, rfl, num_size hn, by show 2 ≤ sizeLine; decide, noT (fun _ _ _ _ z => nomatch z)⟩
end
end K12
namespace K12
open PySem PySem.Spec PyProof.Rows L2
def sShort : List Str := (["n", "m", "k"] : List String).map Str.ofString
def sLong : List Str := (["number", "many", "ticks", "name", "deed"] : List String).map Str.ofString
def okSort (s : Str) : Bool := decide (s ∈ sShort) || decide (s = "w") || decide (s = "d") || !decide (s ∈ sLong)
theorem sorts_ok : (lsorts.all fun q => q.2.all okSort) = true := by decide +kernel
theorem tabP_lk2 (z : Str) : tabP.lookup z = (lsorts.lookup z).map fun l => l.map up := by
  rw [tabP_up, lk_map (fun l : List Str => l.map up)]
/-- a sort that is a kind -/
theorem kind_part {ks : Ks} {s : Str} {d : PyData} (h1 : ¬ s ∈ sShort) (h2 : ¬ s = "w") (h3 : ¬ s = "d") (h : okSort s = true) : isPart ks (up s) d = ofKind ks s d := by
  have hn : ¬ s ∈ sLong := by
    unfold okSort at h
    simpa [h1, h2, h3] using h
  unfold sShort at h1
  unfold sLong at hn
  simp only [List.map_cons, List.map_nil, List.mem_cons, List.not_mem_nil, or_false, not_or] at h1 hn
  have e : up s = s := by
    unfold up
    rw [if_neg h1.1, if_neg h1.2.1, if_neg h1.2.2, if_neg h2, if_neg h3]
  rw [e]
  unfold isPart isPart0
  rw [if_neg hn.2.2.2.2, if_neg hn.1, if_neg hn.2.1, if_neg hn.2.2.1, if_neg hn.2.2.2.1]
theorem w_part (ks : Ks) (d : PyData) : isPart ks (up "w") d = isName d := rfl
theorem d_part (ks : Ks) (d : PyData) : isPart ks (up "d") d = (isDeed ks d && headIn withinWs d) := rfl
theorem n_part (ks : Ks) (d : PyData) : isPart ks (up "n") d = isNum (-1000) 1000 d := rfl
theorem m_part (ks : Ks) (d : PyData) : isPart ks (up "m") d = isNum 0 12 d := rfl
theorem k_part (ks : Ks) (d : PyData) : isPart ks (up "k") d = isNum 0 9 d := rfl
theorem occ_n : Builtin.Str.occurrences "nmk" "n" 0 (Str.length "nmk") 1 = [0] := by decide +kernel
theorem occ_m : Builtin.Str.occurrences "nmk" "m" 0 (Str.length "nmk") 1 = [1] := by decide +kernel
theorem occ_k : Builtin.Str.occurrences "nmk" "k" 0 (Str.length "nmk") 1 = [2] := by decide +kernel
theorem within7 : withinWs = (["lock", "enter", "await", "send", "receive", "join", "result"] : List String).map Str.ofString := by decide +kernel
theorem in_eq (x : Str) (ws : List Str) : (if false = true then !inV (.str x) (ws.map V.str) else inV (.str x) (ws.map V.str)) = decide (x ∈ ws) := by
  rw [if_neg (by simp), inV_strs]
theorem zip_up (ks : Ks) (ds : List PyData) (ss : List Str) : (ds.zip (ss.map up)).all (fun q => isPart ks q.2 q.1) = (ds.zip ss).all (fun q => isPart ks (up q.2) q.1) := by
  rw [List.zip_map_right, List.all_map]; rfl
def spLPart (n : Nat) : Sp := fun vs H Q _ => ∃ p d v dk ks s, vs = [v, .str s, .ref dk] ∧ okSort s = true ∧ Rp p H d v ∧ Fit d ∧ d.depth ≤ n ∧ Kd p H dk ks ∧ ∀ H', Same H H' → Q (.bl (isPart ks (up s) d)) H'
section
variable {P : Program} {w : World} {K : PySem.W.Frag} {mg : Str → Option Value} {base : Heap}
abbrev N__law_is_part : List Str := ["_law_thing_here", "_law_sort", "_law_kinds", "_law_least", "_law_most", "_law_words"]
theorem sc__law_is_part : FnScope N__law_is_part ["_law_thing_here", "_law_sort", "_law_kinds"] (defScope (top 66)) := sc_of (by decide +kernel)
-- slots: 0:_law_thing_here 1:_law_sort 2:_law_kinds 3:_law_least 4:_law_most 5:_law_words
theorem ok__law_is_part (T : Tx w K mg) (k n : Nat) (hk : 2 ≤ k) (c__law_is_number : Cl P w K mg base CX0 1 "_law_is_number" spNum) (c__law_is_name : Cl P w K mg base CX0 1 "_law_is_name" (spLook isName)) (c__law_is_deed : Cl P w K mg base CX0 k "_law_is_deed" (spDeed n)) : Cl P w K mg base CX0 (k + 1) "_law_is_part" (spLPart n) := by
  refine T.d__law_is_part.cl sc__law_is_part (fun _ _ _ _ _ _ us hl => match us, hl with | [_, _, _], _ => rfl) (fun vs H Q E h => ?_) fun f cdv A outer s H vs Q E hr h => ?_
  · obtain ⟨_, _, _, _, _, _, rfl, _⟩ := h; rfl
  have hu := hu_of hr
  have hu0 := hr.units0
  have hu64 := hr.units
  obtain ⟨p, d, v, dk, ks, s, rfl, h⟩ := h
  refine ⟨_, PSs.nox ((pss_cons (ps_if (pt_cmpR op_in_seq (pv 1) (pe_tup (pa_cons pe_str (pa_cons pe_str (pa_cons pe_str pa_nil)))) rfl) (pss_cons (ps_asg (pe_ix ix_list (pe_lst (pa_cons (pe_tup (pa_cons (pe_un un_neg pe_int) (pa_cons pe_int pa_nil))) (pa_cons (pe_tup (pa_cons pe_int (pa_cons pe_int pa_nil))) (pa_cons (pe_tup (pa_cons pe_int (pa_cons pe_int pa_nil))) pa_nil)))) (pe_bm PySem.F.plainAttrs_str PySem.F.slot_str_index PySem.F.type_str_index mt_sindex pe_str (pa_cons (pv 1) pa_nil)) (fun _ _ => rfl)) (pg_tup rfl (pgs_cons (pg_name (i := 3) sc__law_is_part.nd rfl (Or.inl rfl)) (pgs_cons (pg_name (i := 4) sc__law_is_part.nd rfl (Or.inl rfl)) pgs_nil))))
      (pss_one (ps_ret (pe_cl c__law_is_number hr (pa_cons (pv 0) (pa_cons (pv 3) (pa_cons (pv 4) pa_nil))))))) pss_nil)
      (pss_cons (ps_if (pt_cmpR op_eq (pv 1) pe_str (nomark _)) (pss_one (ps_ret (pe_cl c__law_is_name hr (pa_cons (pv 0) pa_nil)))) pss_nil)
      (pss_cons (ps_if (pt_cmpR op_eq (pv 1) pe_str (nomark _)) (pss_cons (ps_set (i := 5) sc__law_is_part.nd rfl (Or.inl rfl) (pe_lst (pa_cons pe_str (pa_cons pe_str (pa_cons pe_str (pa_cons pe_str (pa_cons pe_str (pa_cons pe_str (pa_cons pe_str pa_nil)))))))))
      (pss_one (ps_ret (pe_and (pe_cl c__law_is_deed hr (pa_cons (pv 0) (pa_cons (pv 2) pa_nil))) (pe_one (pe_cmpR op_in_seq (pe_ix ix_tup (pv 0) pe_int (fun _ _ => rfl)) (pv 5) rfl)))))) pss_nil)
      (pss_cons (ps_if (PW.pt (pw_or (pt_not (pt_val (pe_isi T.f_isinstance T.f_str (pv 0) b_str))) (pw_or1 (pt_cmp (pc_dnotin hu (pv 0) (pv 2)))))) (pss_one (ps_ret pe_bl)) pss_nil)
      (pss_one (ps_ret (pe_or (pe_cmpR op_eq (pe_dget hu (pv 2) (pv 0) (fun _ _ => rfl)) (pv 1) (nomark _)) (pe_one (pe_and (pe_cmpR op_eq (pv 1) pe_str (nomark _)) (pe_one (pe_cmpR op_eq (pe_dget hu (pv 2) (pv 0) (fun _ _ => rfl)) pe_str (nomark _))))))))))))), ?_⟩
  obtain ⟨hs, hv, hf, hd, hkd, k⟩ := h
  refine ⟨_, rfl, by show 3 ≤ sizeLine; decide, fun t ht => ⟨t, _, rfl, .inr (SqT.of upd_same), rfl, flat_strs sShort, ?_⟩⟩
  have s1 : Same H (upd H t (.tup [V.str "n", V.str "m", V.str "k"])) := Same.new ht
  have hv1 := hv.mono (.of s1)
  have hkd1 := hkd.mono (.of s1)
  have k1 : ∀ H', Same (upd H t (.tup [V.str "n", V.str "m", V.str "k"])) H' → Q (.bl (isPart ks (up s) d)) H' := fun H' s => k H' (s1.trans s)
  clear k s1 hv hkd
  refine ⟨_, rfl, ?_⟩
  show if (if false = true then !inV (.str s) (sShort.map V.str) else inV (.str s) (sShort.map V.str)) = true then _ else _
  rw [in_eq]
  revert hv1 hkd1 k1
  generalize upd H t (.tup [V.str "n", V.str "m", V.str "k"]) = H1
  intro hv1 hkd1 k1
  by_cases hsh : s ∈ sShort
  · rw [decide_eq_true hsh]
    refine iteT ?_
    refine ⟨_, rfl, by show 2 ≤ sizeLine; decide, fun t1 ht1 => ⟨by show 2 ≤ sizeLine; decide, fun t2 ht2 => ⟨by show 2 ≤ sizeLine; decide, fun t3 ht3 => ⟨by show 3 ≤ sizeLine; decide, fun l hl => ?_⟩⟩⟩⟩
    have e1 := Same.new (o := .tup [.int (-1000), .int 1000]) ht1
    have e2 := Same.new (o := .tup [.int 0, .int 12]) ht2
    have e3 := Same.new (o := .tup [.int 0, .int 9]) ht3
    have e4 := Same.new (o := .lst [.ref t1, .ref t2, .ref t3]) hl
    have h1 := e4 _ _ (e3 _ _ (e2 _ _ (upd_same (H := H1) (a := t1) (o := .tup [.int (-1000), .int 1000]))))
    have h2 := e4 _ _ (e3 _ _ (upd_same (a := t2) (o := .tup [.int 0, .int 12])))
    have h3 := e4 _ _ (upd_same (a := t3) (o := .tup [.int 0, .int 9]))
    have h4 := upd_same (H := upd (upd (upd H1 t1 (.tup [.int (-1000), .int 1000])) t2 (.tup [.int 0, .int 12])) t3 (.tup [.int 0, .int 9])) (a := l) (o := .lst [.ref t1, .ref t2, .ref t3])
    have e14 := ((e1.trans e2).trans e3).trans e4
    clear e1 e2 e3 e4
    revert h1 h2 h3 h4 e14
    generalize upd (upd (upd (upd H1 t1 (.tup [.int (-1000), .int 1000])) t2 (.tup [.int 0, .int 12])) t3 (.tup [.int 0, .int 9])) l (.lst [.ref t1, .ref t2, .ref t3]) = H2
    intro h1 h2 h3 h4 e14
    have hv2 := hv1.mono (.of e14)
    unfold sShort at hsh
    simp only [List.map_cons, List.map_nil, List.mem_cons, List.not_mem_nil, or_false] at hsh
    rcases hsh with rfl | rfl | rfl
    · exact ⟨rfl, _, rfl, _, _, 0, _, rfl, rfl, occ_n, l, _, 0, _, rfl, rfl, SqL.of h4, at0 _ _, t1, _, rfl, SqT.of h1, rfl, _, _, rfl, _, _, rfl, rfl, _, rfl, _, rfl, _, rfl, p, d, v, _, _, rfl, hv2, fun H3 s3 => by have := k1 H3 (e14.trans s3); rw [n_part] at this; exact this⟩
    · exact ⟨rfl, _, rfl, _, _, 1, _, rfl, rfl, occ_m, l, _, 1, _, rfl, rfl, SqL.of h4, at1 _ _ _, t2, _, rfl, SqT.of h2, rfl, _, _, rfl, _, _, rfl, rfl, _, rfl, _, rfl, _, rfl, p, d, v, _, _, rfl, hv2, fun H3 s3 => by have := k1 H3 (e14.trans s3); rw [m_part] at this; exact this⟩
    · exact ⟨rfl, _, rfl, _, _, 2, _, rfl, rfl, occ_k, l, _, 2, _, rfl, rfl, SqL.of h4, at2 _ _ _ _, t3, _, rfl, SqT.of h3, rfl, _, _, rfl, _, _, rfl, rfl, _, rfl, _, rfl, _, rfl, p, d, v, _, _, rfl, hv2, fun H3 s3 => by have := k1 H3 (e14.trans s3); rw [k_part] at this; exact this⟩
  · rw [decide_eq_false hsh]
    refine iteF ?_
    refine ⟨_, rfl, rfl, _, rfl, ?_⟩
    refine ite2 (fun hw => ?_) (fun hw => ?_)
    · have hw' : s = "w" := by simpa using hw
      subst hw'
      exact ⟨_, rfl, p, d, v, rfl, hv1, hf, fun H2 s2 => k1 H2 s2⟩
    · have hw' : ¬ s = "w" := by simpa using hw
      refine ⟨_, rfl, rfl, _, rfl, ?_⟩
      refine ite2 (fun hd' => ?_) (fun hd' => ?_)
      · have hd'' : s = "d" := by simpa using hd'
        subst hd''
        refine ⟨by show 7 ≤ sizeLine; decide, fun l hl => ?_⟩
        have s2 : Same H1 (upd H1 l (.lst [V.str "lock", V.str "enter", V.str "await", V.str "send", V.str "receive", V.str "join", V.str "result"])) := Same.new hl
        have hl2 : upd H1 l (.lst [V.str "lock", V.str "enter", V.str "await", V.str "send", V.str "receive", V.str "join", V.str "result"]) l = some (.lst [V.str "lock", V.str "enter", V.str "await", V.str "send", V.str "receive", V.str "join", V.str "result"]) := upd_same
        revert s2 hl2
        generalize upd H1 l (.lst [V.str "lock", V.str "enter", V.str "await", V.str "send", V.str "receive", V.str "join", V.str "result"]) = H2
        intro s2 hl2
        have hl3 : H2 l = some (.lst (withinWs.map V.str)) := by rw [hl2, within7]; rfl
        have hv2 := hv1.mono (.of s2)
        refine ⟨_, rfl, _, rfl, p, d, v, dk, ks, rfl, hv2, hf, hd, hkd1.mono (.of s2), fun H3 s3 => ⟨_, rfl, ?_⟩⟩
        have kq := k1 H3 (s2.trans s3)
        rw [d_part] at kq
        refine ite2 (fun hx => ?_) (fun hx => ?_)
        · obtain ⟨w', ds, rfl⟩ := deed_head hx
          obtain ⟨a, u, us, rfl, na, ha, hu1, hus⟩ := tup_head hv2
          cases hu1
          refine ⟨_, rfl, a, _, 0, _, rfl, rfl, SqT.of (s3 _ _ ha), at0 _ _, _, rfl, l, _, rfl, .inl (SqL.of (s3 _ _ hl3)), rfl, flat_strs _, ?_⟩
          rw [in_eq]
          rw [hx] at kq
          exact kq
        · have hx' : isDeed ks d = false := eq_false_of_ne_true hx
          rw [hx'] at kq
          exact kq
      · have hd'' : ¬ s = "d" := by simpa using hd'
        rw [kind_part hsh hw' hd'' hs] at k1
        have kq := k1 H1 (Same.refl _)
        refine ⟨_, rfl, isiS hv1 ⟨_, rfl, ?_⟩⟩
        cases d with
        | str z =>
          cases hv1
          refine iteF ?_
          have g := DGet.k (k := Sum.inr z) hkd1.2
          rw [valV_kv] at g
          refine ⟨_, rfl, _, rfl, dk, _, rfl, g, _, rfl, ?_⟩
          have e0 : ofKind ks s (.str z) = if s = "lock" then decide (ks.lookup z = some ("lock" : Str)) || decide (ks.lookup z = some ("relock" : Str)) else decide (ks.lookup z = some s) := rfl
          cases hz : ks.lookup z with
          | none =>
            refine iteT ?_
            have : ofKind ks s (.str z) = false := by rw [e0, hz]; split <;> rfl
            rw [this] at kq
            exact kq
          | some y =>
            refine iteF ?_
            rw [hz] at g
            have e1 : ofKind ks s (.str z) = (decide (y = s) || (decide (s = "lock") && decide (y = "relock"))) := by
              rw [e0, hz]
              by_cases hs' : s = "lock"
              · subst hs'; simp
              · rw [if_neg hs']; simp [hs']
            rw [e1] at kq
            refine ⟨_, rfl, _, rfl, dk, _, rfl, g, _, rfl, rfl, ?_⟩
            have ey : decide (V.str y = V.str s) = decide (y = s) := by simp
            rw [ey]
            refine ⟨_, rfl, ?_⟩
            by_cases h1 : y = s
            · rw [decide_eq_true h1] at kq ⊢
              exact iteT kq
            · rw [decide_eq_false h1] at kq ⊢
              refine iteF ⟨_, rfl, rfl, _, rfl, ?_⟩
              have es : decide (V.str s = V.str "lock") = decide (s = "lock") := by simp
              rw [es]
              by_cases h2 : s = "lock"
              · rw [decide_eq_true h2] at kq ⊢
                refine iteT ⟨_, rfl, _, rfl, dk, _, rfl, g, rfl, ?_⟩
                have er : decide (V.str y = V.str "relock") = decide (y = "relock") := by simp
                rw [er]
                exact kq
              · rw [decide_eq_false h2] at kq ⊢
                exact iteF kq
        | _ => exact iteT kq
abbrev N__law_is_deed : List Str := ["_law_thing_here", "_law_kinds", "_law_sorts_here", "_law_part_here", "_law_sort"]
theorem sc__law_is_deed : FnScope N__law_is_deed ["_law_thing_here", "_law_kinds"] (defScope (top 67)) := sc_of (by decide +kernel)
-- slots: 0:_law_thing_here 1:_law_kinds 2:_law_sorts_here 3:_law_part_here 4:_law_sort
theorem ok__law_is_deed (T : Tx w K mg) (k n : Nat) (hk : 1 ≤ k) (spX : Sp) (hX : ∀ m, m + 1 = n → ∀ vs H Q E, spLPart m vs H Q E → spX vs H Q E) (c__law_is_part : Cl P w K mg base CX0 k "_law_is_part" spX) (c__law_sorts : Cl P w K mg base CX0 1 "_law_sorts" spSorts) : Cl P w K mg base CX0 (k + 1) "_law_is_deed" (spDeed n) := by
  refine T.d__law_is_deed.cl sc__law_is_deed (fun _ _ _ _ _ _ us hl => match us, hl with | [_, _], _ => rfl) (fun vs H Q E h => ?_) fun f cdv A outer s H vs Q E hr h => ?_
  · obtain ⟨_, _, _, _, _, rfl, _⟩ := h; rfl
  have hu := hu_of hr
  have hu0 := hr.units0
  have hu64 := hr.units
  obtain ⟨p, d, v, dk, ks, rfl, h⟩ := h
  refine ⟨_, PSs.nox ((pss_cons (ps_if (PW.pt (pw_or (pt_not (pt_val (pe_isi T.f_isinstance T.f_tuple (pv 0) b_tuple))) (pw_or (pt_cmpR (op_eqE hu0) (pv 0) (pe_tup pa_nil) (nomark _)) (pw_or1 (pt_not (pt_val (pe_isi T.f_isinstance T.f_str (pe_ix ix_tup (pv 0) pe_int (fun _ _ => rfl)) b_str))))))) (pss_one (ps_ret pe_bl)) pss_nil)
      (pss_cons (ps_set (i := 2) sc__law_is_deed.nd rfl (Or.inl rfl) (pe_dget1 hu (pe_cl0 c__law_sorts hr) (pe_ix ix_tup (pv 0) pe_int (fun _ _ => rfl)) ⟨rfl, rfl, rfl, rfl⟩))
      (pss_cons (ps_if (PW.pt (pw_or (pt_cmpR op_isN (pv 2) pe_non (nomark _)) (pw_or1 (pt_cmpR op_ne (pe_callB call_len_seq rfl T.f_len b_len (pa_cons (pv 2) pa_nil)) (pe_op op_sub (pe_callB call_len_seq rfl T.f_len b_len (pa_cons (pv 0) pa_nil)) pe_int) (nomark _))))) (pss_one (ps_ret pe_bl)) pss_nil)
      (pss_one (ps_ret (pe_callB (cr_all rfl) rfl T.f_all b_all (pa_cons (pe_lc (own := [("_law_part_here", 3), ("_law_sort", 4)]) rfl sc__law_is_deed.nd (pi_zipM rfl T.f_zip (pa_cons (pe_slice sl_tup (pv 0) (po_some pe_int) po_none) (pa_cons (pv 2) pa_nil))) (blkOk_by (N := N__law_is_deed) (sc := defScope (top 67)) (by decide +kernel)) (fun _ _ _ _ _ => (pg_tupB (n := 2) rfl (pgs_cons (pg_name (i := 3) sc__law_is_deed.nd rfl (Or.inl rfl)) (pgs_cons (pg_name (i := 4) sc__law_is_deed.nd rfl (Or.inl rfl)) pgs_nil)))) (fun _ _ _ _ _ => pts_nil) (fun _ _ _ _ _ => (pe_cl c__law_is_part hr (pa_cons (pv 3) (pa_cons (pv 4) (pa_cons (pv 1) pa_nil)))))) pa_nil)))))))), ?_⟩
  obtain ⟨hv, hf, hd, hkd, kk⟩ := h
  refine ⟨_, rfl, isiT hv ⟨_, rfl, ?_⟩⟩
  cases d with
  | tuple ds =>
    obtain ⟨a, xs, rfl, na, ha, hr2⟩ := hv
    refine iteF ?_
    refine ⟨_, rfl, Nat.zero_le _, fun b hb => ⟨a, b, xs, rfl, rfl, (upd_ne (ne_of_none ha hb)).trans ha, upd_same, ?_⟩⟩
    have s1 : Same H (upd H b (.tup [])) := Same.new hb
    have kk1 : ∀ H', Same (upd H b (.tup [])) H' → Q (.bl (isDeed ks (.tuple ds))) H' := fun H' s2 => kk H' (s1.trans s2)
    have ha1 : upd H b (.tup []) a = some (.tup xs) := s1 _ _ ha
    have hr3 : RpA p (upd H b (.tup [])) ds xs := hr2.mono (.of s1)
    have hkd1 : Kd p (upd H b (.tup [])) dk ks := hkd.mono (.of s1)
    revert kk1 ha1 hr3 hkd1
    generalize upd H b (.tup []) = H1
    intro kk ha hr2 hkd
    cases ds with
    | nil => cases hr2; exact ⟨_, rfl, iteT (kk H1 (Same.refl _))⟩
    | cons d ds =>
      obtain ⟨u, us, rfl, hu1, hus⟩ := hr2
      refine ⟨_, rfl, iteF ?_⟩
      refine ⟨_, rfl, a, _, 0, _, rfl, rfl, SqT.of ha, at0 _ _, isiS hu1 ⟨_, rfl, ?_⟩⟩
      cases hs : isS d with
      | false => exact iteT (by have := kk H1 (Same.refl _); rw [isDeed_head hs] at this; exact this)
      | true =>
        refine iteF ?_
        cases d with
        | str z =>
          cases hu1
          refine ⟨rfl, fun H2 sd s2 hsd => ?_⟩
          have ha2 := s2 _ _ ha
          have e0 := isDeed_cons ks z ds
          rw [tabP_lk2] at e0
          have hlu : us.length = ds.length := hus.length
          have hus2 := hus.mono (.of s2)
          have hkd2 := hkd.mono (.of s2)
          rcases hsd.find z with ⟨hz, g⟩ | ⟨ss, sa, hz, g, hsa⟩
          · refine ⟨sd, rfl, ?_, _, rfl, a, _, 0, _, rfl, rfl, SqT.of ha2, at0 _ _, _, g, ?_⟩
            · obtain ⟨as, _, h1, _⟩ := hsd; exact .inl ⟨_, .inl h1⟩
            · refine ⟨_, rfl, rfl, _, rfl, ?_⟩
              refine iteT ?_
              have := kk H2 s2
              rw [e0, hz] at this
              exact this
          · refine ⟨sd, rfl, ?_, _, rfl, a, _, 0, _, rfl, rfl, SqT.of ha2, at0 _ _, _, g, ?_⟩
            · obtain ⟨as, _, h1, _⟩ := hsd; exact .inl ⟨_, .inl h1⟩
            · refine ⟨_, rfl, rfl, _, rfl, ?_⟩
              refine iteF ?_
              rw [hz] at e0
              have hls : (ss.map V.str).length = ss.length := List.length_map ..
              have hss : ss.length ≤ 5 := by
                have := List.all_eq_true.mp sorts_len _ (lk_mem hz)
                simpa using this
              have hso : ss.all okSort = true := List.all_eq_true.mp sorts_ok _ (lk_mem hz)
              refine ⟨_, rfl, sa, _, rfl, .inl (SqL.of hsa), _, rfl, a, _, rfl, .inr (SqT.of ha2), _, _, rfl, rfl, rfl, _, rfl, ?_⟩
              by_cases hl : ds.length = ss.length
              · have e3 : (V.int ((ss.map V.str).length : Nat) = (fun i j => V.int (i - j)) ((V.str z :: us).length : Nat) 1) := by
                  show V.int _ = V.int _
                  rw [List.length_cons, hls, hlu, hl]
                  congr 1
                  omega
                rw [decide_eq_true e3]
                refine iteF ?_
                have hxT : SqT K H2 a (V.str z :: us) := SqT.of ha2
                refine ⟨_, rfl, _, rfl, a, _, rfl, hxT, cut1_ne _ _, fun q hq => ⟨_, rfl, q, sa, us, ss.map V.str, rfl, ?_, SqL.of (Same.new hq _ _ hsa), fun D hD => ?_⟩⟩
                · rw [cut1]; exact SqT.of upd_same
                rw [cut1] at hD ⊢
                have s3 : Same H2 (upd H2 q (.tup us)) := Same.new hq
                refine lc_det (walk_zipM (xs := us) (ys := ss.map V.str) (n := ds.length) (by rw [hls]; omega)) (fun i => .bl (((ds.zip ss)[i]?.map fun q => isPart ks (up q.2) q.1).getD false)) hD (Nat.lt_of_le_of_lt (show _ ≤ 5 by omega) (by decide)) (fun H3 s4 => ⟨sqT_mono s4 (SqT.of upd_same), SqL.of (s4 _ _ (s3 _ _ hsa))⟩) ?_ ?_
                · intro i x H3 H4 C hi s4 hy hC
                  obtain ⟨W, x', y', rfl, hW, rfl, hx', hy'⟩ := hy
                  have s5 : Same H2 (upd H3 W (.tup [x', y'])) := (s3.trans s4).trans (Same.new hW)
                  obtain ⟨d, hd1, hrd⟩ := hus2.getV hx'
                  have hy' : (ss.map V.str)[i]? = some y' := hy'
                  rw [List.getElem?_map] at hy'
                  cases hsi : ss[i]? with
                  | none => rw [hsi] at hy'; cases hy'
                  | some s' =>
                    rw [hsi] at hy'
                    cases hy'
                    refine ⟨W, _, rfl, SqT.of upd_same, rfl, ⟨_, _, rfl, _, _, rfl, rfl, rfl, ?_⟩⟩
                    have hmem : d ∈ ds := List.mem_of_getElem? hd1
                    have hdm := depth_mem hmem
                    have hd' : PyData.depthAll (PyData.str z :: ds) + 1 ≤ n := hd
                    have hd'' : max (PyData.str z).depth (PyData.depthAll ds) = PyData.depthAll (PyData.str z :: ds) := rfl
                    refine ⟨_, rfl, _, rfl, _, rfl, hX (n - 1) (by omega) _ _ _ _ ⟨p, d, x', dk, ks, s', rfl, List.all_eq_true.mp hso _ (List.mem_of_getElem? hsi), hrd.mono (.of s5), hf.2.2.get hd1, by omega, hkd2.mono (.of s5), fun H4 s6 => ?_⟩⟩
                    have := hC H4 ((Same.new hW).trans s6)
                    rw [show (ds.zip ss)[i]? = some (d, s') from List.getElem?_zip_eq_some.mpr ⟨hd1, hsi⟩] at this
                    exact this
                · intro H3 s4 hl2
                  refine ⟨D, (List.range ds.length).map fun i => (((ds.zip ss)[i]?.map fun q => isPart ks (up q.2) q.1).getD false), rfl, SqL.of ?_, ?_⟩
                  · rw [hl2, List.map_map]; rfl
                  · have := kk H3 (s2.trans (s3.trans s4))
                    rw [e0] at this
                    have e4 : decide (ds.length = (ss.map up).length) = true := by simp [hl]
                    simp only [Option.map, e4, Bool.true_and] at this
                    rw [range_map (ds.zip ss) (fun q => isPart ks (up q.2) q.1) (by rw [List.length_zip]; omega), List.all_map]
                    rw [zip_up] at this
                    exact this
              · have e3 : ¬ (V.int ((ss.map V.str).length : Nat) = (fun i j => V.int (i - j)) ((V.str z :: us).length : Nat) 1) := by
                  show ¬ V.int _ = V.int _
                  rw [List.length_cons, hls, hlu]
                  intro h
                  injection h with h
                  omega
                rw [decide_eq_false e3]
                refine iteT ?_
                have := kk H2 s2
                rw [e0] at this
                have e4 : decide (ds.length = (ss.map up).length) = false := by simp [hl]
                simp only [Option.map, e4, Bool.false_and] at this
                exact this
        | _ => cases hs
  | _ => exact iteT (kk H (Same.refl _))
theorem lpart_none (T : Tx w K mg) : Cl P w K mg base CX0 2 "_law_is_part" (fun _ _ _ _ => False) :=
  T.d__law_is_part.cl sc__law_is_part (fun _ _ _ _ _ _ us hl => match us, hl with | [_, _, _], _ => rfl) (fun vs H Q E h => h.elim) fun f cdv A outer s H vs Q E hr h => h.elim
theorem ldeeds_ok (T : Tx w K mg) : ∀ n, Cl P w K mg base CX0 (2 * n + 3) "_law_is_deed" (spDeed n)
  | 0 => ok__law_is_deed T 2 0 (by omega) (fun _ _ _ _ => False) (fun m h => by omega) (lpart_none T) ((ok__law_sorts T).mono (by omega))
  | n + 1 => ok__law_is_deed T (2 * n + 4) (n + 1) (by omega) (spLPart n) (fun m h vs H Q E g => by
      have : m = n := by omega
      subst this; exact g) (ok__law_is_part T (2 * n + 3) n (by omega) ((ok__law_is_number T).mono (by omega)) ((ok__law_is_name T).mono (by omega)) (ldeeds_ok T n)) ((ok__law_sorts T).mono (by omega))
end
end K12
namespace K12
open PySem PySem.Spec PyProof.Rows L2
theorem tails_split : Txt.split ("set add skip read write more unlock leave ring ringall raise lower close cancel" : Str) " " = lastWs := by decide +kernel
theorem tails_len : ("set add skip read write more unlock leave ring ringall raise lower close cancel" : Str).length ≤ 1000 := by decide +kernel
theorem same_back {H H' : Hp} {a : Addr} (s : Same H H') (h : H' a = none) : H a = none := by
  cases e : H a with
  | none => rfl
  | some o => rw [s _ _ e] at h; cases h
def spLDeeds : Sp := fun vs H Q _ => ∃ p v dk ks x bg b l, vs = [v, .ref dk] ∧ Rp p H (.tuple [.str x, bg, b, l]) v ∧ Fit (.tuple [.str x, bg, b, l]) ∧ (PyData.tuple [.str x, bg, b, l]).depth ≤ 12 ∧ Kd p H dk ks ∧ ∀ H' u, Same H H' → Ans H' (badDeeds ks (.tuple [.str x, bg, b, l])) u → (∀ a, u = .ref a → H a = none) → Q u H'
section
variable {P : Program} {w : World} {K : PySem.W.Frag} {mg : Str → Option Value} {base : Heap}
abbrev N__law_bad_deeds : List Str := ["_law_task", "_law_kinds", "_law_name_here", "_law_begun", "_law_body", "_law_tail", "_law_tails", "_law_one"]
theorem sc__law_bad_deeds : FnScope N__law_bad_deeds ["_law_task", "_law_kinds"] (defScope (top 73)) := sc_of (by decide +kernel)
-- slots: 0:_law_task 1:_law_kinds 2:_law_name_here 3:_law_begun 4:_law_body 5:_law_tail 6:_law_tails 7:_law_one
theorem ok__law_bad_deeds (T : Tx w K mg) (k j : Nat) (hj : j ≤ k) (c__law_is_deed : Cl P w K mg base CX0 j "_law_is_deed" (spDeed 12)) : Cl P w K mg base CX0 (k + 1) "_law_bad_deeds" spLDeeds := by
  refine T.d__law_bad_deeds.cl sc__law_bad_deeds (fun _ _ _ _ _ _ us hl => match us, hl with | [_, _], _ => rfl) (fun vs H Q E h => ?_) fun f cdv A outer s H vs Q E hr h => ?_
  · obtain ⟨_, _, _, _, _, _, _, _, rfl, _⟩ := h; rfl
  have hu := hu_of hr
  have hu0 := hr.units0
  have hu64 := hr.units
  obtain ⟨p, v, dk, ks, x, bg, bo, la, rfl, h⟩ := h
  refine ⟨_, PSs.nox ((pss_cons (ps_asg (pv 0) (pg_tup rfl (pgs_cons (pg_name (i := 2) sc__law_bad_deeds.nd rfl (Or.inl rfl)) (pgs_cons (pg_name (i := 3) sc__law_bad_deeds.nd rfl (Or.inl rfl)) (pgs_cons (pg_name (i := 4) sc__law_bad_deeds.nd rfl (Or.inl rfl)) (pgs_cons (pg_name (i := 5) sc__law_bad_deeds.nd rfl (Or.inl rfl)) pgs_nil))))))
      (pss_cons (ps_if (PW.pt (pw_or (pt_not (pt_val (pe_isi T.f_isinstance T.f_list (pv 4) b_list))) (pw_or (pt_cmpR op_gt (pe_callB call_len_seq rfl T.f_len b_len (pa_cons (pv 4) pa_nil)) pe_int (nomark _)) (pw_or1 (pt_not (pt_val (pe_callB (cr_all rfl) rfl T.f_all b_all (pa_cons (pe_lc (own := [("_law_one", 7)]) rfl sc__law_bad_deeds.nd (pi_list (pv 4)) (blkOk_by (N := N__law_bad_deeds) (sc := defScope (top 73)) (by decide +kernel)) (fun _ _ _ _ _ => (pg_name (i := 7) sc__law_bad_deeds.nd rfl (Or.inl rfl))) (fun _ _ _ _ _ => pts_nil) (fun _ _ _ _ _ => (pe_cl c__law_is_deed hr (pa_cons (pv 7) (pa_cons (pv 1) pa_nil))))) pa_nil)))))))) (pss_one (ps_ret (pe_lst (pa_cons pe_str (pa_cons (pv 2) pa_nil))))) pss_nil)
      (pss_cons (ps_set (i := 6) sc__law_bad_deeds.nd rfl (Or.inr rfl) (pe_split pe_str pe_str))
      (pss_cons (ps_if (PW.pt (pw_or (pt_not (pt_val (pe_isi T.f_isinstance T.f_list (pv 5) b_list))) (pw_or1 (pt_cmpR op_gt (pe_callB call_len_seq rfl T.f_len b_len (pa_cons (pv 5) pa_nil)) pe_int (nomark _))))) (pss_one (ps_ret (pe_lst (pa_cons pe_str (pa_cons (pv 2) pa_nil))))) pss_nil)
      (pss_cons (ps_if (pt_not (pt_val (pe_callB (cr_all rfl) rfl T.f_all b_all (pa_cons (pe_lc (own := [("_law_one", 7)]) rfl sc__law_bad_deeds.nd (pi_list (pv 5)) (blkOk_by (N := N__law_bad_deeds) (sc := defScope (top 73)) (by decide +kernel)) (fun _ _ _ _ _ => (pg_name (i := 7) sc__law_bad_deeds.nd rfl (Or.inl rfl))) (fun _ _ _ _ _ => pts_nil) (fun _ _ _ _ _ => (pe_and (pe_cl c__law_is_deed hr (pa_cons (pv 7) (pa_cons (pv 1) pa_nil))) (pe_one (pe_cmpR (op_inK (K := K) rfl) (pe_ix (ix_tupK (K := K) rfl) (pv 7) pe_int (fun _ _ => rfl)) (pv 6) rfl))))) pa_nil)))) (pss_one (ps_ret (pe_lst (pa_cons pe_str (pa_cons (pv 2) pa_nil))))) pss_nil)
      (pss_one (ps_ret pe_non)))))))), ?_⟩
  obtain ⟨hv, hft, hdt, hkd, k⟩ := h
  have hdt' : PyData.depthAll [.str x, bg, bo, la] + 1 ≤ 12 := hdt
  have hdb := depth_mem (show bo ∈ [PyData.str x, bg, bo, la] by simp)
  have hdla := depth_mem (show la ∈ [PyData.str x, bg, bo, la] by simp)
  obtain ⟨b, ys, rfl, nb, hb, hys⟩ := hv
  obtain ⟨_, _, _, _, vn, vb, vo, vl, e1, rfl, hn, hbg, hbo, hla⟩ := rp4 hys hys.length
  cases e1
  cases hn
  have hfx : Fit (.str x) := hft.2.1
  have hfb : Fit bo := hft.2.2.2.1
  have hfl : Fit la := hft.2.2.2.2.1
  have bad : okBody ks bo = false → ∀ H', Same H H' → ∀ l, H' l = none → Q (.ref l) (upd H' l (.lst [.str "body", .str x])) := fun e H' s l hl => k _ _ (s.trans (Same.new hl)) (by rw [badDeeds_body e]; exact Ans.new) (fun a z => by cases z; exact same_back s hl)
  have badl : okBody ks bo = true → okLast ks la = false → ∀ H', Same H H' → ∀ l, H' l = none → Q (.ref l) (upd H' l (.lst [.str "last", .str x])) := fun e e' H' s l hl => k _ _ (s.trans (Same.new hl)) (by rw [badDeeds_last e, e']; exact Ans.new) (fun a z => by cases z; exact same_back s hl)
  refine ⟨_, rfl, b, _, rfl, SqT.of hb, rfl, _, _, rfl, _, _, rfl, _, _, rfl, _, _, rfl, rfl, ?_⟩
  refine ⟨_, rfl, isiL hbo ⟨_, rfl, ?_⟩⟩
  cases bo with
  | list es =>
    refine iteF ?_
    obtain ⟨c, zs, rfl, nc, hc, hzs⟩ := hbo
    have hzl : zs.length = es.length := hzs.length
    have hel : es.length ≤ 1000 := hfb.1
    have hdes : PyData.depthAll es + 1 ≤ PyData.depthAll [.str x, bg, .list es, la] := hdb
    refine ⟨_, rfl, c, _, rfl, .inl (SqL.of hc), _, _, rfl, rfl, _, rfl, ?_⟩
    by_cases h12 : es.length ≤ 12
    · rw [decide_eq_false (show ¬ (12 : Int) < (zs.length : Nat) by omega)]
      refine iteF ?_
      refine ⟨_, rfl, c, rfl, ⟨zs, SqL.of hc⟩, fun D hD => lc_det (walk_list (xs := zs)) (fun i => .bl ((es[i]?.map (isDeed ks)).getD false)) hD (Nat.lt_of_le_of_lt (show _ ≤ 1000 by omega) (by decide)) (fun H3 s3 => SqL.of (s3 _ _ hc)) ?_ ?_⟩
      · intro i' y' H3 H4 C hi' s3 hy' hC
        obtain ⟨rfl, hy'⟩ := hy'
        obtain ⟨d, hdi, hrd⟩ := hzs.getV hy'
        have hdd := depth_mem (List.mem_of_getElem? hdi)
        refine ⟨rfl, ?_⟩
        refine ⟨_, rfl, _, rfl, p, d, y', dk, ks, rfl, hrd.mono (.of s3), hfb.2.get hdi, by omega, hkd.mono (.of s3), fun H4 s4 => ?_⟩
        have := hC H4 s4
        rw [hdi] at this
        exact this
      · intro H3 s3 hl3
        refine ⟨D, (List.range zs.length).map fun i => ((es[i]?.map (isDeed ks)).getD false), rfl, SqL.of ?_, ?_⟩
        · rw [hl3, List.map_map]; rfl
        · rw [range_map es (isDeed ks) hzl, all_map]
          refine ⟨_, rfl, ?_⟩
          have eb : okBody ks (.list es) = es.all (isDeed ks) := by
            show (decide (es.length ≤ 12) && _) = _
            rw [decide_eq_true h12]; rfl
          cases hall : es.all (isDeed ks) with
          | false => exact iteT ⟨_, rfl, by show 2 ≤ sizeLine; decide, bad (eb.trans hall) _ s3⟩
          | true =>
            refine iteF ?_
            have hok := eb.trans hall
            refine ⟨⟨_, rfl⟩, _, " ", rfl, rfl, rfl, Nat.le_trans (Nat.add_le_add_right tails_len 2) (by decide), fun q hq => ?_⟩
            rw [tails_split]
            have s4 := s3.trans (Same.new (o := .lst (lastWs.map V.str)) hq)
            have hq4 : upd H3 q (.lst (lastWs.map V.str)) q = some (.lst (lastWs.map V.str)) := upd_same
            revert s4 hq4
            generalize upd H3 q (.lst (lastWs.map V.str)) = H4
            intro s4 hq4
            have hkd4 := hkd.mono (.of s4)
            have hla4 := hla.mono (.of s4)
            refine ⟨_, rfl, isiL hla4 ⟨_, rfl, ?_⟩⟩
            cases la with
            | list fs =>
              refine iteF ?_
              obtain ⟨c', zs', rfl, nc', hc', hzs'⟩ := hla4
              have hzl' : zs'.length = fs.length := hzs'.length
              have hfl1 : fs.length ≤ 1000 := hfl.1
              have hdfs : PyData.depthAll fs + 1 ≤ PyData.depthAll [.str x, bg, .list es, .list fs] := hdla
              refine ⟨_, rfl, c', _, rfl, .inl (SqL.of hc'), _, _, rfl, rfl, _, rfl, ?_⟩
              by_cases h4 : fs.length ≤ 4
              · rw [decide_eq_false (show ¬ (4 : Int) < (zs'.length : Nat) by omega)]
                refine iteF ?_
                refine ⟨_, rfl, c', rfl, ⟨zs', SqL.of hc'⟩, fun D' hD' => lc_det (walk_list (xs := zs')) (fun i => .bl ((fs[i]?.map (isLastDeed ks)).getD false)) hD' (Nat.lt_of_le_of_lt (show _ ≤ 1000 by omega) (by decide)) (fun H5 s5 => SqL.of (s5 _ _ hc')) ?_ ?_⟩
                · intro i' y' H5 H6 C hi' s5 hy' hC
                  obtain ⟨rfl, hy'⟩ := hy'
                  obtain ⟨d, hdi, hrd⟩ := hzs'.getV hy'
                  have hdd := depth_mem (List.mem_of_getElem? hdi)
                  have hrd5 := hrd.mono (.of s5)
                  refine ⟨rfl, ?_⟩
                  refine ⟨_, rfl, _, rfl, p, d, y', dk, ks, rfl, hrd5, hfl.2.get hdi, by omega, hkd4.mono (.of s5), fun H7 s7 => ⟨_, rfl, ?_⟩⟩
                  have := hC H7 s7
                  rw [hdi] at this
                  have this : C (.bl (isDeed ks d && headIn lastWs d)) H7 := this
                  refine ite2 (fun hx => ?_) (fun hx => ?_)
                  · obtain ⟨w', ds, rfl⟩ := deed_head hx
                    obtain ⟨a, u, us, rfl, na, ha, hu1, hus⟩ := tup_head hrd5
                    cases hu1
                    refine ⟨_, rfl, a, _, 0, _, rfl, rfl, SqT.of (s7 _ _ ha), at0 _ _, _, rfl, q, _, rfl, .inl (SqL.of (s7 _ _ (s5 _ _ hq4))), rfl, flat_strs _, ?_⟩
                    rw [in_eq]
                    rw [hx] at this
                    exact this
                  · have hx' : isDeed ks d = false := eq_false_of_ne_true hx
                    rw [hx'] at this
                    exact this
                · intro H5 s5 hl5
                  refine ⟨D', (List.range zs'.length).map fun i => ((fs[i]?.map (isLastDeed ks)).getD false), rfl, SqL.of ?_, ?_⟩
                  · rw [hl5, List.map_map]; rfl
                  · rw [range_map fs (isLastDeed ks) hzl', all_map]
                    refine ⟨_, rfl, ?_⟩
                    have s05 := s4.trans s5
                    have eb' : okLast ks (.list fs) = fs.all (isLastDeed ks) := by
                      show (decide (fs.length ≤ 4) && _) = _
                      rw [decide_eq_true h4]; rfl
                    cases hall' : fs.all (isLastDeed ks) with
                    | false => exact iteT ⟨_, rfl, by show 2 ≤ sizeLine; decide, badl hok (eb'.trans hall') _ s05⟩
                    | true => exact iteF (k _ _ s05 (by rw [badDeeds_last hok, eb', hall']; rfl) (fun a z => nomatch z))
              · rw [decide_eq_true (show (4 : Int) < (zs'.length : Nat) by omega)]
                have eb' : okLast ks (.list fs) = false := by
                  show (decide (fs.length ≤ 4) && _) = _
                  rw [decide_eq_false h4]; rfl
                exact iteT ⟨_, rfl, by show 2 ≤ sizeLine; decide, badl hok eb' _ s4⟩
            | _ => exact iteT ⟨_, rfl, by show 2 ≤ sizeLine; decide, badl hok rfl _ s4⟩
    · rw [decide_eq_true (show (12 : Int) < (zs.length : Nat) by omega)]
      refine iteT ⟨_, rfl, by show 2 ≤ sizeLine; decide, bad ?_ _ (Same.refl _)⟩
      show (decide (es.length ≤ 12) && _) = false
      rw [decide_eq_false h12]; rfl
  | _ => exact iteT ⟨_, rfl, by show 2 ≤ sizeLine; decide, bad rfl _ (Same.refl _)⟩
end
end K12
namespace K12
open PySem PySem.Spec PyProof.Rows L2
theorem first_ans {H : Hp} {α : Type} {r : α → Option (Str × Str)} : ∀ {ts : List α} {acc : List V}, Paired (fun t v => Ans H (r t) v) ts acc → Ans H (ts.findSome? r) ((acc.filter (fun v => !decide (v = .non))).headD .non)
  | [], [], _ => rfl
  | t :: ts, v :: acc, .cons h hs => by
    rw [List.findSome?_cons]
    cases e : r t with
    | none =>
      rw [e] at h
      cases h
      rw [List.filter_cons, if_neg (by simp)]
      exact first_ans hs
    | some q =>
      rw [e] at h
      obtain ⟨l, rfl, hl⟩ := h
      exact ⟨l, rfl, hl⟩
theorem given_filter (acc : List V) : Evl.given acc.length (fun i => !decide (acc.getD i .non = .non)) (fun i => acc.getD i .non) = acc.filter (fun v => !decide (v = .non)) := by
  unfold Evl.given
  have e : (List.range acc.length).map (fun i => acc.getD i .non) = acc := by
    apply List.ext_getElem
    · simp
    · intro i h1 h2
      simp [List.getD, h2]
  have e2 : acc.filter (fun v => !decide (v = .non)) = ((List.range acc.length).map (fun i => acc.getD i .non)).filter (fun v => !decide (v = .non)) := by rw [e]
  rw [e2, List.filter_map]; rfl
def spLDue : Sp := fun vs H Q _ => ∃ p d1 d2 v1 v2, vs = [v1, v2] ∧ Rp p H d1 v1 ∧ Rp p H d2 v2 ∧ Fit d1 ∧ Fit d2 ∧ d1.depth ≤ 12 ∧ d2.depth ≤ 12 ∧ Held p H ∧ ∀ H' u, Same H H' → Ans H' (due d1 d2) u → Q u H'
section
variable {P : Program} {w : World} {K : PySem.W.Frag} {mg : Str → Option Value} {base : Heap}
abbrev N__law_due : List Str := ["_law_stuff_here", "_law_crew", "_law_kinds", "_law_number", "_law_thing_here", "_law_bad", "_law_task", "_law_some"]
theorem sc__law_due : FnScope N__law_due ["_law_stuff_here", "_law_crew"] (defScope (top 74)) := sc_of (by decide +kernel)
-- slots: 0:_law_stuff_here 1:_law_crew 2:_law_kinds 3:_law_number 4:_law_thing_here 5:_law_bad 6:_law_task 7:_law_some
theorem ok__law_due (T : Tx w K mg) (k : Nat) (hk : 3 ≤ k) (c__law_bad_thing : Cl P w K mg base CX0 3 "_law_bad_thing" spLThing) (c__law_bad_task : Cl P w K mg base CX0 3 "_law_bad_task" spLTask) (c__law_bad_deeds : Cl P w K mg base CX0 k "_law_bad_deeds" spLDeeds) : Cl P w K mg base CX0 (k + 1) "_law_due" spLDue := by
  refine T.d__law_due.cl sc__law_due (fun _ _ _ _ _ _ us hl => match us, hl with | [_, _], _ => rfl) (fun vs H Q E h => ?_) fun f cdv A outer s H vs Q E hr h => ?_
  · obtain ⟨_, _, _, _, _, rfl, _⟩ := h; rfl
  have hu := hu_of hr
  have hu0 := hr.units0
  have hu64 := hr.units
  obtain ⟨p, d1, d2, v1, v2, rfl, h⟩ := h
  refine ⟨_, PSs.nox ((pss_cons (ps_if (pt_not (pt_val (pe_isi T.f_isinstance T.f_list (pv 0) b_list))) (pss_one (ps_ret (pe_lst (pa_cons pe_str (pa_cons pe_str pa_nil))))) pss_nil)
      (pss_cons (ps_set (i := 2) sc__law_due.nd rfl (Or.inr rfl) pe_dnewK)
      (pss_cons (ps_for PassesOwn.never rfl (pi_enum rfl T.f_enumerate (pa_cons (pv 0) pa_nil)) (pg_tup rfl (pgs_cons (pg_name (i := 3) sc__law_due.nd rfl (Or.inl rfl)) (pgs_cons (pg_name (i := 4) sc__law_due.nd rfl (Or.inl rfl)) pgs_nil))) (pss_cons (ps_set (i := 5) sc__law_due.nd rfl (Or.inl rfl) (pe_cl c__law_bad_thing hr (pa_cons (pv 4) (pa_cons (pv 3) (pa_cons (pv 2) pa_nil)))))
      (pss_cons (ps_if (pt_cmpR op_notN (pv 5) pe_non (nomark _)) (pss_one (ps_ret (pv 5))) pss_nil)
      (pss_one (ps_dput hu (pv 2) (pe_ix ix_tup (pv 4) pe_int (fun _ _ => rfl)) (pe_ix ix_tup (pv 4) pe_int (fun _ _ => rfl)) rfl)))))
      (pss_cons (ps_if (PW.pt (pw_or (pt_cmpR op_gt (pe_callB call_len_seq rfl T.f_len b_len (pa_cons (pv 0) pa_nil)) pe_int (nomark _)) (pw_or1 (pt_not (pt_val (pe_isi T.f_isinstance T.f_list (pv 1) b_list)))))) (pss_one (ps_ret (pe_ix ix_list (pe_lst (pa_cons (pe_lst (pa_cons pe_str (pa_cons pe_str pa_nil))) (pa_cons (pe_lst (pa_cons pe_str (pa_cons pe_str pa_nil))) pa_nil))) (pe_callTy call_int1 rfl T.f_int b_int (pa_cons (pe_cmpR op_le (pe_callB call_len_seq rfl T.f_len b_len (pa_cons (pv 0) pa_nil)) pe_int (nomark _)) pa_nil)) (fun _ _ => rfl)))) pss_nil)
      (pss_cons (ps_for PassesOwn.never rfl (pi_enum rfl T.f_enumerate (pa_cons (pv 1) pa_nil)) (pg_tup rfl (pgs_cons (pg_name (i := 3) sc__law_due.nd rfl (Or.inl rfl)) (pgs_cons (pg_name (i := 6) sc__law_due.nd rfl (Or.inl rfl)) pgs_nil))) (pss_cons (ps_set (i := 5) sc__law_due.nd rfl (Or.inl rfl) (pe_cl c__law_bad_task hr (pa_cons (pv 6) (pa_cons (pv 3) (pa_cons (pv 2) pa_nil)))))
      (pss_cons (ps_if (pt_cmpR op_notN (pv 5) pe_non (nomark _)) (pss_one (ps_ret (pv 5))) pss_nil)
      (pss_one (ps_dput hu (pv 2) (pe_ix ix_tup (pv 6) pe_int (fun _ _ => rfl)) pe_str rfl)))))
      (pss_cons (ps_if (pt_cmpR op_gt (pe_callB call_len_seq rfl T.f_len b_len (pa_cons (pv 1) pa_nil)) pe_int (nomark _)) (pss_one (ps_ret (pe_lst (pa_cons pe_str (pa_cons pe_str pa_nil))))) pss_nil)
      (pss_cons (ps_setLc (i := 7) (own := [("_law_task", 6)]) rfl sc__law_due.nd rfl rfl (sw_true rfl rfl rfl (by decide +kernel)) (pi_list (pv 1)) (blkOk_by (N := N__law_due) (sc := defScope (top 74)) (by decide +kernel)) (fun _ _ _ _ _ => (pg_name (i := 6) sc__law_due.nd rfl (Or.inl rfl))) (fun _ _ _ _ _ => pts_nil) (fun _ _ _ _ _ => (pe_cl c__law_bad_deeds hr (pa_cons (pv 6) (pa_cons (pv 2) pa_nil)))))
      (pss_cons (ps_setLc (i := 7) (own := [("_law_bad", 5)]) rfl sc__law_due.nd rfl rfl (sw_true rfl rfl rfl (by decide +kernel)) (pi_list (pv 7)) (blkOk_by (N := N__law_due) (sc := defScope (top 74)) (by decide +kernel)) (fun _ _ _ _ _ => (pg_name (i := 5) sc__law_due.nd rfl (Or.inl rfl))) (fun _ _ _ _ _ => (pts_one (pt_cmpR op_notN (pv 5) pe_non (nomark _)))) (fun _ _ _ _ _ => (pv 5)))
      (pss_one (ps_ret (pe_ifExp (pt_cmpR (op_neEL hu0) (pv 7) (pe_lst pa_nil) (nomark _)) (pe_ix ix_list (pv 7) pe_int (fun _ _ => rfl)) pe_non)))))))))))), ?_⟩
  obtain ⟨hr1, hr2, hf1, hf2, hd1, hd2, hp, kk⟩ := h
  refine ⟨_, rfl, isiL hr1 ⟨_, rfl, ?_⟩⟩
  cases d1 with
  | list ts =>
    refine iteF ?_
    obtain ⟨a, xs, rfl, na, ha, hxs⟩ := hr1
    have hlen : xs.length = ts.length := hxs.length
    have hts : ts.length ≤ 1000 := hf1.1
    intro dk hdk
    have hdp : dk ≠ p := hp.ne hdk
    have s1 : Same H (upd H dk (.dK [])) := Same.new hdk
    refine ⟨_, rfl, a, xs, rfl, SqL.of (s1 _ _ ha), ?_⟩
    refine for_it (walk_enum (xs := xs)) (fun i σ H' => ∃ ks x3 x4 x5 x6 x7, σ = [some (.ref a), some v2, some (.ref dk), x3, x4, x5, x6, x7] ∧ Same H H' ∧ Kd p H' dk ks ∧ ks.length ≤ i ∧ goL badThing addThing ts 0 [] = goL badThing addThing (ts.drop i) i ks) ?_ ?_ ?_ ?_
    · exact ⟨[], none, none, none, none, none, rfl, s1, ⟨hdp, upd_same⟩, Nat.le_refl _, rfl⟩
    · rintro i σ H' hi ⟨ks, x3, x4, x5, x6, x7, e, s2, _⟩
      exact SqL.of (s2 _ _ ha)
    · rintro i x σ H1 H2 hi ⟨ks, x3, x4, x5, x6, x7, rfl, s2, hkd, hks, hgo⟩ ⟨W, y1, y, rfl, hW, rfl, hy1, hy⟩
      cases hy1
      have s3 : Same H1 (upd H1 W (.tup [.int i, y])) := Same.new hW
      obtain ⟨t, hti, hrt⟩ := hxs.getV hy
      have hkd3 := hkd.mono (.of s3)
      have s4 := s2.trans s3
      have hrt4 := hrt.mono (.of s4)
      have hft : Fit t := hf1.2.get hti
      rw [goL_at hti] at hgo
      refine ⟨W, _, rfl, SqT.of upd_same, rfl, _, _, rfl, _, _, rfl, rfl, ?_⟩
      revert s4 hkd3 hrt4
      generalize upd H1 W (.tup [.int i, y]) = H2
      intro hkd3 s4 hrt4
      have hi5 : ((i : Nat) : Int).natAbs ≤ 5000 := by omega
      refine ⟨_, rfl, _, rfl, _, rfl, p, t, y, i, dk, ks, rfl, hrt4, hft, hi5, hkd3, fun H3 u s5 hu => ?_⟩
      have s05 := s4.trans s5
      refine ⟨_, rfl, rfl, _, rfl, ?_⟩
      rw [hu.isN]
      cases hbt : badThing t i ks with
      | some q =>
        rw [hbt] at hgo hu
        refine iteT ⟨_, rfl, ?_⟩
        exact kk _ _ s05 (by rw [due_kinds (kindsR_bad hgo)]; exact hu)
      | none =>
        rw [hbt] at hgo
        refine iteF ?_
        obtain ⟨kd, nm, sz, rfl⟩ := badThing_ok hbt
        have hkB : isKindB kd = true := by
          cases e : isKindB kd with
          | true => rfl
          | false => rw [badThing_kind e] at hbt; cases hbt
        obtain ⟨kk', rfl⟩ := kind_str hkB
        have hnew : (ks.lookup nm).isSome = false := by
          cases hbn : badName (.str nm) i ks with
          | some q => rw [badThing_name hkB hbn] at hbt; cases hbt
          | none =>
            obtain ⟨x, e, _, h2⟩ := bad_none hbn
            cases e; exact h2
        obtain ⟨b, ys, rfl, nb, hb, hys⟩ := hrt4.mono (.of s5)
        obtain ⟨_, _, _, vk, vn, vs, e1, rfl, hk', hn', hs'⟩ := rp3 hys hys.length
        cases e1
        cases hk'
        cases hn'
        have hkd5 := hkd3.mono (.of s5)
        refine ⟨_, rfl, b, _, 0, _, rfl, rfl, SqT.of hb, at0 _ _, _, rfl, _, rfl, b, _, 1, _, rfl, rfl, SqT.of hb, at1 _ _ _, dk, _, rfl, DPut.k (k := Sum.inr nm) hkd5.2 (by rw [kv_len]; exact Nat.lt_of_le_of_lt (show _ ≤ 1000 by omega) (by decide)), ?_⟩
        refine ⟨ks ++ [(nm, kk')], _, _, _, _, _, rfl, Same.mut s05 hdk, ⟨hdp, ?_⟩, ?_, hgo⟩
        · rw [upd_same, kv_put hnew]
        · rw [List.length_append]; simp; omega
    · rintro σ H1 ⟨ks, x3, x4, x5, x6, x7, rfl, s2, hkd, hks, hgo⟩
      rw [goL_end (by omega)] at hgo
      have hkr := kindsR_ok hgo
      have many : ((10 < xs.length ∧ due (.list ts) d2 = (some ("many", "things") : Option (Str × Str))) ∨ (xs.length ≤ 10 ∧ due (.list ts) d2 = (some ("task", "tasks") : Option (Str × Str)))) →
          tRet (tOp (rIxL K) (tLst (tCons (tLst (tCons (tC (.str "many")) (tCons (tC (.str "things")) tNil))) (tCons (tLst (tCons (tC (.str "task")) (tCons (tC (.str "tasks")) tNil))) tNil)))
            (tCB (fun xs H Q => (∃ i, xs = [.int i] ∧ Q (.int i) H) ∨ ∃ k, xs = [.bl k] ∧ Q (.int (if k then 1 else 0)) H) (tCons (tOp (rI0 fun i j => .bl (decide (i ≤ j))) (tCB (fun xs H Q => ∃ p ys, xs = [.ref p] ∧ (SqL K H p ys ∨ SqT K H p ys) ∧ Q (.int ys.length) H) (tCons (tVar 0) tNil)) (tC (.int 10))) tNil)))
            { nx := fun _ _ => False, rt := Q } [some (.ref a), some v2, some (.ref dk), x3, x4, x5, x6, x7] H1 := fun hm => by
        refine ⟨by show 2 ≤ sizeLine; decide, fun l1 hl1 => ⟨by show 2 ≤ sizeLine; decide, fun l2 hl2 => ⟨by show 2 ≤ sizeLine; decide, fun l3 hl3 => ?_⟩⟩⟩
        have e1 := Same.new (o := .lst [.str "many", .str "things"]) hl1
        have e2 := Same.new (o := .lst [.str "task", .str "tasks"]) hl2
        have e3 := Same.new (o := .lst [.ref l1, .ref l2]) hl3
        have g1 := e3 _ _ (e2 _ _ (upd_same (H := H1) (a := l1) (o := .lst [.str "many", .str "things"])))
        have g2 := e3 _ _ (upd_same (H := upd H1 l1 (.lst [.str "many", .str "things"])) (a := l2) (o := .lst [.str "task", .str "tasks"]))
        have s3 := s2.trans ((e1.trans e2).trans e3)
        refine ⟨_, rfl, a, _, rfl, .inl (SqL.of (s3 _ _ ha)), _, _, rfl, rfl, .inr ⟨_, rfl, ?_⟩⟩
        rcases hm with ⟨hm, ed⟩ | ⟨hm, ed⟩
        · rw [decide_eq_false (show ¬ ((xs.length : Nat) : Int) ≤ 10 by omega)]
          exact ⟨l3, _, 0, _, rfl, rfl, SqL.of upd_same, at0 _ _, kk _ _ s3 (by rw [ed]; exact ⟨l1, rfl, g1⟩)⟩
        · rw [decide_eq_true (show ((xs.length : Nat) : Int) ≤ 10 by omega)]
          exact ⟨l3, _, 1, _, rfl, rfl, SqL.of upd_same, at1 _ _ _, kk _ _ s3 (by rw [ed]; exact ⟨l2, rfl, g2⟩)⟩
      refine ⟨_, rfl, a, _, rfl, .inl (SqL.of (s2 _ _ ha)), _, _, rfl, rfl, _, rfl, ?_⟩
      by_cases h10 : ts.length ≤ 10
      · rw [if_pos h10] at hkr
        rw [decide_eq_false (show ¬ (10 : Int) < (xs.length : Nat) by omega)]
        refine iteF ?_
        have hr2' := hr2.mono (.of s2)
        refine ⟨_, rfl, isiL hr2' ⟨_, rfl, ?_⟩⟩
        cases d2 with
        | list us =>
          refine iteF ?_
          obtain ⟨a2, xs2, rfl, na2, ha2, hxs2⟩ := hr2
          have hlen2 : xs2.length = us.length := hxs2.length
          have hus : us.length ≤ 1000 := hf2.1
          have hdl : PyData.depthAll us + 1 ≤ 12 := hd2
          refine ⟨_, rfl, a2, xs2, rfl, SqL.of (s2 _ _ ha2), ?_⟩
          have hdk0 := hdk
          refine for_it (walk_enum (xs := xs2)) (fun i σ H' => ∃ ks' x3 x4 x5 x6 x7, σ = [some (.ref a), some (.ref a2), some (.ref dk), x3, x4, x5, x6, x7] ∧ Same H H' ∧ Kd p H' dk ks' ∧ ks'.length ≤ 1000 + i ∧ goL badTask addTask us 0 ks = goL badTask addTask (us.drop i) i ks') ?_ ?_ ?_ ?_
          · exact ⟨ks, _, _, _, _, _, rfl, s2, hkd, by omega, rfl⟩
          · rintro i σ H' hi ⟨ks', x3, x4, x5, x6, x7, e, s3, _⟩
            exact SqL.of (s3 _ _ ha2)
          · rintro i x σ G1 G2 hi ⟨ks', x3, x4, x5, x6, x7, rfl, s3, hkd3, hks3, hgo2⟩ ⟨W, y1, y, rfl, hW, rfl, hy1, hy⟩
            cases hy1
            have s4 : Same G1 (upd G1 W (.tup [.int i, y])) := Same.new hW
            obtain ⟨t, hti, hrt⟩ := hxs2.getV hy
            have hkd4 := hkd3.mono (.of s4)
            have s04 := s3.trans s4
            have hrt4 := hrt.mono (.of s04)
            have hft : Fit t := hf2.2.get hti
            rw [goL_at hti] at hgo2
            refine ⟨W, _, rfl, SqT.of upd_same, rfl, _, _, rfl, _, _, rfl, rfl, ?_⟩
            revert s04 hkd4 hrt4
            generalize upd G1 W (.tup [.int i, y]) = G2
            intro hkd4 s04 hrt4
            have hi5 : ((i : Nat) : Int).natAbs ≤ 5000 := by omega
            refine ⟨_, rfl, _, rfl, _, rfl, p, t, y, i, dk, ks', rfl, hrt4, hft, hi5, hkd4, fun G3 u s5 hu => ?_⟩
            have s05 := s04.trans s5
            refine ⟨_, rfl, rfl, _, rfl, ?_⟩
            rw [hu.isN]
            cases hbt : badTask t i ks' with
            | some q =>
              rw [hbt] at hgo2 hu
              refine iteT ⟨_, rfl, ?_⟩
              exact kk _ _ s05 (by rw [due_tasks hkr (tasksR_bad hgo2)]; exact hu)
            | none =>
              rw [hbt] at hgo2
              refine iteF ?_
              obtain ⟨nm, bg, bo, la, rfl⟩ := badTask_ok hbt
              have hnew : (ks'.lookup nm).isSome = false := by
                cases hbn : badName (.str nm) i ks' with
                | some q => rw [badTask_name hbn] at hbt; cases hbt
                | none =>
                  obtain ⟨x, e, _, h2⟩ := bad_none hbn
                  cases e; exact h2
              obtain ⟨b, ys, rfl, nb, hb, hys⟩ := hrt4.mono (.of s5)
              obtain ⟨_, _, _, _, vn, vb, vo, vl, e1, rfl, hn', _, _, _⟩ := rp4 hys hys.length
              cases e1
              cases hn'
              have hkd5 := hkd4.mono (.of s5)
              refine ⟨_, rfl, _, rfl, b, _, 0, _, rfl, rfl, SqT.of hb, at0 _ _, dk, _, rfl, DPut.k (k := Sum.inr nm) hkd5.2 (by rw [kv_len]; exact Nat.lt_of_le_of_lt (show _ ≤ 2000 by omega) (by decide)), ?_⟩
              refine ⟨ks' ++ [(nm, ("task" : Str))], _, _, _, _, _, rfl, Same.mut s05 hdk, ⟨hdp, ?_⟩, ?_, hgo2⟩
              · rw [upd_same, kv_put hnew]
              · rw [List.length_append]; simp; omega
          · rintro σ G1 ⟨ks', x3, x4, x5, x6, x7, rfl, s3, hkd3, hks3, hgo2⟩
            rw [goL_end (by omega)] at hgo2
            have htr := tasksR_ok hgo2
            refine ⟨_, rfl, a2, _, rfl, .inl (SqL.of (s3 _ _ ha2)), _, _, rfl, rfl, _, rfl, ?_⟩
            by_cases h6 : us.length ≤ 6
            · rw [if_pos h6] at htr
              rw [decide_eq_false (show ¬ (6 : Int) < (xs2.length : Nat) by omega)]
              refine iteF ?_
              have hdu := due_deeds hkr htr
              refine ⟨_, rfl, a2, rfl, ⟨xs2, SqL.of (s3 _ _ ha2)⟩, fun D hD => ?_⟩
              refine lc_rel (walk_list (xs := xs2)) (fun G => Same G1 G) (fun i v G => ∃ t, us[i]? = some t ∧ ((v = .non ∧ badDeeds ks' t = none) ∨ ∃ q l, badDeeds ks' t = some q ∧ v = .ref l ∧ l ≠ D ∧ G l = some (.lst [.str q.1, .str q.2]))) (Nat.lt_of_le_of_lt (show _ ≤ 6 by omega) (by decide)) (Same.new hD) (fun G e => SqL.of (e _ _ (s3 _ _ ha2))) (fun G o e => Same.mut e hD) (fun i v G o ⟨t, h1, h2⟩ => ⟨t, h1, h2.imp id fun ⟨q, l, h3, h4, h5, h6⟩ => ⟨q, l, h3, h4, h5, (upd_ne h5).trans h6⟩⟩) ?_ ?_
              · rintro i x J1 J2 C hi ev ⟨acc, hacc⟩ ⟨rfl, hy⟩ hC
                obtain ⟨t, hti, hrt⟩ := hxs2.getV hy
                have hmem := List.mem_of_getElem? hti
                have hdt := depth_mem hmem
                obtain ⟨m, k0, hbt⟩ := goL_all hgo2 t hmem
                obtain ⟨nm, bg, bo, la, rfl⟩ := badTask_ok hbt
                refine ⟨rfl, ?_⟩
                refine ⟨_, rfl, _, rfl, p, x, dk, ks', nm, bg, bo, la, rfl, hrt.mono (.of (s3.trans ev)), hf2.2.get hti, by omega, hkd3.mono (.of ev), fun J3 u s6 hu hfu => ?_⟩
                refine hC u J3 (ev.trans s6) (by rw [s6 _ _ hacc, hacc]) (fun j v ⟨t, h1, h2⟩ => ⟨t, h1, h2.imp id fun ⟨q, l, h3, h4, h5, h6⟩ => ⟨q, l, h3, h4, h5, s6 _ _ h6⟩⟩) ⟨_, hti, ?_⟩
                cases hbd : badDeeds ks' (.tuple [.str nm, bg, bo, la]) with
                | none => rw [hbd] at hu; exact .inl ⟨hu, rfl⟩
                | some q =>
                  rw [hbd] at hu
                  obtain ⟨l, rfl, hl⟩ := hu
                  refine .inr ⟨q, l, rfl, rfl, fun z => ?_, hl⟩
                  have := hfu l rfl
                  rw [z, hacc] at this
                  cases this
              · intro J acc ev hacc hal hR
                have hpair : Paired (fun t v => Ans J (badDeeds ks' t) v) us acc := paired_of (by rw [hal, hlen2]) fun i t v e1 e2 => by
                  obtain ⟨t', h1, h2⟩ := hR i v e2
                  rw [e1] at h1
                  cases h1
                  rcases h2 with ⟨rfl, h3⟩ | ⟨q, l, h3, rfl, _, h4⟩
                  · rw [h3]; rfl
                  · rw [h3]; exact ⟨l, rfl, h4⟩
                have hfa := first_ans hpair
                have hdd : due (.list ts) (.list us) = us.findSome? (badDeeds ks') := hdu
                have s4 := s3.trans ev
                have hacl : acc.length ≤ 6 := by omega
                refine ⟨_, rfl, D, rfl, ⟨acc, SqL.of hacc⟩, fun D2 hD2 => lc_detF (walk_list (xs := acc)) (fun i => !decide (acc.getD i .non = .non)) (fun i => acc.getD i .non) hD2 (Nat.lt_of_le_of_lt hacl (by decide)) (fun G e => SqL.of (e _ _ hacc)) ?_ ?_⟩
                · rintro i x J1 J2 C N hi ev2 ⟨rfl, hy⟩ hC hN
                  have ex : acc.getD i .non = x := by simp [List.getD, hy]
                  rw [ex] at hC hN
                  refine ⟨rfl, ?_⟩
                  refine ⟨_, rfl, rfl, _, rfl, ?_⟩
                  cases hx : decide (x = .non) with
                  | true => rw [hx] at hN; exact iteF (hN rfl _ (Same.refl _))
                  | false => rw [hx] at hC; exact iteT ⟨_, rfl, hC rfl _ (Same.refl _)⟩
                · intro J5 ev5 hl5
                  have hl6 : J5 D2 = some (.lst (acc.filter (fun v => !decide (v = .non)))) := by rw [hl5, given_filter]
                  have s5 := s4.trans ev5
                  have hfa5 := hfa.mono ev5
                  revert hl6 hfa5
                  generalize acc.filter (fun v => !decide (v = .non)) = fl
                  intro hl6 hfa5
                  refine ⟨_, rfl, by decide, fun b hb => ⟨D2, b, _, rfl, rfl, SqL.of ((upd_ne (ne_of_none hl6 hb)).trans hl6), upd_same, ?_⟩⟩
                  have s6 := s5.trans (Same.new (o := .lst []) hb)
                  have hfa6 := hfa5.mono (Same.new (o := .lst []) hb)
                  have hl7 : upd J5 b (.lst []) D2 = some (.lst fl) := (upd_ne (ne_of_none hl6 hb)).trans hl6
                  cases fl with
                  | nil => exact ⟨_, rfl, iteF (kk _ _ s6 (by rw [hdd]; exact hfa6))⟩
                  | cons v fl => exact ⟨_, rfl, iteT ⟨_, rfl, D2, _, 0, _, rfl, rfl, SqL.of hl7, at0 _ _, kk _ _ s6 (by rw [hdd]; exact hfa6)⟩⟩
            · rw [if_neg h6] at htr
              rw [decide_eq_true (show (6 : Int) < (xs2.length : Nat) by omega)]
              exact iteT ⟨by show 2 ≤ sizeLine; decide, fun l hl => kk _ _ (s3.trans (Same.new hl)) (by rw [due_tasks hkr htr]; exact Ans.new)⟩
        | _ =>
          exact iteT (many (.inr ⟨by omega, due_tasks hkr rfl⟩))
      · rw [if_neg h10] at hkr
        rw [decide_eq_true (show (10 : Int) < (xs.length : Nat) by omega)]
        exact iteT (many (.inl ⟨by omega, due_kinds hkr⟩))
  | _ => exact iteT ⟨by show 2 ≤ sizeLine; decide, fun l hl => kk _ _ (Same.new hl) Ans.new⟩
end
end K12
namespace K12
open PySem PySem.Spec PyProof.Rows L2
/-! ### data not through a set of addresses -/
mutual
def RpS (S : Addr → Prop) (H : Hp) : PyData → V → Prop
  | .none, v => v = .non
  | .bool b, v => v = .bl b
  | .int i, v => v = .int i
  | .str x, v => v = .str x
  | .list ds, v => ∃ a xs, v = .ref a ∧ ¬ S a ∧ H a = some (.lst xs) ∧ RpSA S H ds xs
  | .tuple ds, v => ∃ a xs, v = .ref a ∧ ¬ S a ∧ H a = some (.tup xs) ∧ RpSA S H ds xs
  | .dict kvs, v => kvs = [] ∧ ∃ a, v = .ref a ∧ ¬ S a ∧ H a = some (.dK [])
def RpSA (S : Addr → Prop) (H : Hp) : List PyData → List V → Prop
  | [], xs => xs = []
  | d :: ds, xs => ∃ v vs, xs = v :: vs ∧ RpS S H d v ∧ RpSA S H ds vs
end
/-- all but what stands in S is kept -/
def KpS (S : Addr → Prop) (H H' : Hp) : Prop := ∀ b o, H b = some o → ¬ S b → H' b = some o
section
variable {S T : Addr → Prop} {p : Addr} {H H' : Hp}
mutual
theorem RpS.mono (k : KpS S H H') : ∀ {d : PyData} {v : V}, RpS S H d v → RpS S H' d v
  | .none, _, h => h
  | .bool _, _, h => h
  | .int _, _, h => h
  | .str _, _, h => h
  | .list ds, _, ⟨a, xs, e, n, o, h⟩ => ⟨a, xs, e, n, k _ _ o n, RpSA.mono k h⟩
  | .tuple ds, _, ⟨a, xs, e, n, o, h⟩ => ⟨a, xs, e, n, k _ _ o n, RpSA.mono k h⟩
  | .dict kvs, _, ⟨z, a, e, n, o⟩ => ⟨z, a, e, n, k _ _ o n⟩
theorem RpSA.mono (k : KpS S H H') : ∀ {ds : List PyData} {xs : List V}, RpSA S H ds xs → RpSA S H' ds xs
  | [], _, h => h
  | d :: ds, _, ⟨v, vs, e, h1, h2⟩ => ⟨v, vs, e, RpS.mono k h1, RpSA.mono k h2⟩
end
mutual
/-- a smaller set -/
theorem RpS.less (k : ∀ a, T a → S a) : ∀ {d : PyData} {v : V}, RpS S H d v → RpS T H d v
  | .none, _, h => h
  | .bool _, _, h => h
  | .int _, _, h => h
  | .str _, _, h => h
  | .list ds, _, ⟨a, xs, e, n, o, h⟩ => ⟨a, xs, e, fun t => n (k a t), o, RpSA.less k h⟩
  | .tuple ds, _, ⟨a, xs, e, n, o, h⟩ => ⟨a, xs, e, fun t => n (k a t), o, RpSA.less k h⟩
  | .dict kvs, _, ⟨z, a, e, n, o⟩ => ⟨z, a, e, fun t => n (k a t), o⟩
theorem RpSA.less (k : ∀ a, T a → S a) : ∀ {ds : List PyData} {xs : List V}, RpSA S H ds xs → RpSA T H ds xs
  | [], _, h => h
  | d :: ds, _, ⟨v, vs, e, h1, h2⟩ => ⟨v, vs, e, RpS.less k h1, RpSA.less k h2⟩
end
mutual
/-- one more address that no data object stands at: fresh -/
theorem RpS.more {q : Addr} (hq : H q = none) : ∀ {d : PyData} {v : V}, RpS S H d v → RpS (fun a => S a ∨ a = q) H d v
  | .none, _, h => h
  | .bool _, _, h => h
  | .int _, _, h => h
  | .str _, _, h => h
  | .list ds, _, ⟨a, xs, e, n, o, h⟩ => ⟨a, xs, e, (show ¬ (S a ∨ a = q) from fun t => Or.elim t n fun z => by rw [z, hq] at o; cases o), o, RpSA.more hq h⟩
  | .tuple ds, _, ⟨a, xs, e, n, o, h⟩ => ⟨a, xs, e, (show ¬ (S a ∨ a = q) from fun t => Or.elim t n fun z => by rw [z, hq] at o; cases o), o, RpSA.more hq h⟩
  | .dict kvs, _, ⟨z, a, e, n, o⟩ => ⟨z, a, e, (show ¬ (S a ∨ a = q) from fun t => Or.elim t n fun z => by rw [z, hq] at o; cases o), o⟩
theorem RpSA.more {q : Addr} (hq : H q = none) : ∀ {ds : List PyData} {xs : List V}, RpSA S H ds xs → RpSA (fun a => S a ∨ a = q) H ds xs
  | [], _, h => h
  | d :: ds, _, ⟨v, vs, e, h1, h2⟩ => ⟨v, vs, e, RpS.more hq h1, RpSA.more hq h2⟩
end
mutual
theorem RpS.rp (hp : S p) : ∀ {d : PyData} {v : V}, RpS S H d v → Rp p H d v
  | .none, _, h => h
  | .bool _, _, h => h
  | .int _, _, h => h
  | .str _, _, h => h
  | .list ds, _, ⟨a, xs, e, n, o, h⟩ => ⟨a, xs, e, fun z => n (z ▸ hp), o, RpSA.rp hp h⟩
  | .tuple ds, _, ⟨a, xs, e, n, o, h⟩ => ⟨a, xs, e, fun z => n (z ▸ hp), o, RpSA.rp hp h⟩
  | .dict kvs, _, ⟨z, a, e, n, o⟩ => ⟨z, a, e, fun z => n (z ▸ hp), o⟩
theorem RpSA.rp (hp : S p) : ∀ {ds : List PyData} {xs : List V}, RpSA S H ds xs → RpA p H ds xs
  | [], _, h => h
  | d :: ds, _, ⟨v, vs, e, h1, h2⟩ => ⟨v, vs, e, RpS.rp hp h1, RpSA.rp hp h2⟩
end
theorem RpSA.length : ∀ {ds : List PyData} {xs : List V}, RpSA S H ds xs → xs.length = ds.length
  | [], _, h => by cases h; rfl
  | d :: ds, _, ⟨v, vs, e, _, h2⟩ => by subst e; simp [RpSA.length h2]
theorem RpSA.getV : ∀ {ds : List PyData} {xs : List V} {i : Nat} {v : V}, RpSA S H ds xs → xs[i]? = some v → ∃ d, ds[i]? = some d ∧ RpS S H d v
  | [], _, _, _, h, e => by cases h; simp at e
  | d :: ds, _, 0, v', ⟨v, vs, ex, h1, _⟩, e => by
    subst ex; simp at e; subst e; exact ⟨d, rfl, h1⟩
  | d :: ds, _, i + 1, v', ⟨v, vs, ex, _, h2⟩, e => by
    subst ex
    obtain ⟨u, h3, h4⟩ := RpSA.getV (i := i) h2 (by simpa using e)
    exact ⟨u, by simpa using h3, h4⟩
theorem RpSA.app : ∀ {ds es : List PyData} {xs ys : List V}, RpSA S H ds xs → RpSA S H es ys → RpSA S H (ds ++ es) (xs ++ ys)
  | [], _, _, _, h, g => by cases h; exact g
  | d :: ds, _, _, _, ⟨v, vs, e, h1, h2⟩, g => by subst e; exact ⟨v, vs ++ _, rfl, h1, RpSA.app h2 g⟩
theorem RpSA.take : ∀ (n : Nat) {ds : List PyData} {xs : List V}, RpSA S H ds xs → RpSA S H (ds.take n) (xs.take n)
  | 0, _, _, _ => by simp [RpSA]
  | n + 1, [], _, h => by cases h; simp [RpSA]
  | n + 1, d :: ds, _, ⟨v, vs, e, h1, h2⟩ => by subst e; exact ⟨v, vs.take n, rfl, h1, RpSA.take n h2⟩
theorem RpSA.drop : ∀ (n : Nat) {ds : List PyData} {xs : List V}, RpSA S H ds xs → RpSA S H (ds.drop n) (xs.drop n)
  | 0, _, _, h => by simpa using h
  | n + 1, [], _, h => by cases h; simp [RpSA]
  | n + 1, d :: ds, _, ⟨v, vs, e, h1, h2⟩ => by subst e; simpa using RpSA.drop n h2
theorem RpSA.nil : RpSA S H [] [] := rfl
theorem RpSA.cons {d : PyData} {v : V} {ds : List PyData} {vs : List V} (h : RpS S H d v) (g : RpSA S H ds vs) : RpSA S H (d :: ds) (v :: vs) := ⟨v, vs, rfl, h, g⟩
theorem RpSA.set : ∀ {ds : List PyData} {xs : List V} (i : Nat) {d : PyData} {v : V}, RpSA S H ds xs → RpS S H d v → RpSA S H (ds.set i d) (xs.set i v)
  | [], _, i, _, _, h, _ => by cases h; simp [RpSA]
  | d :: ds, _, 0, _, _, ⟨v, vs, e, h1, h2⟩, g => by subst e; exact ⟨_, vs, rfl, g, h2⟩
  | d :: ds, _, i + 1, _, _, ⟨v, vs, e, h1, h2⟩, g => by subst e; exact ⟨v, vs.set i _, rfl, h1, RpSA.set i h2 g⟩
theorem RpSA.rep {ds : List PyData} {xs : List V} (h : RpSA S H ds xs) : ∀ n : Nat, RpSA S H (List.replicate n ds).flatten (List.replicate n xs).flatten
  | 0 => rfl
  | n + 1 => by
    rw [List.replicate_succ, List.replicate_succ, List.flatten_cons, List.flatten_cons]
    exact RpSA.app h (RpSA.rep h n)
theorem RpS.ty {K : PySem.W.Frag} (hp : S p) {d : PyData} {v : V} (h : RpS S H d v) : TyX K H v (.type (tyN d)) := (h.rp hp).ty
/-- data from items, each known by its place -/
theorem RpSA.of {P : PyData → Prop} : ∀ {xs : List V}, (∀ (i : Nat) v, xs[i]? = some v → ∃ d, RpS S H d v ∧ P d) → ∃ ds, RpSA S H ds xs ∧ ds.length = xs.length ∧ ∀ d ∈ ds, P d
  | [], _ => ⟨[], rfl, rfl, fun d h => by cases h⟩
  | v :: xs, h => by
    obtain ⟨d, h1, h2⟩ := h 0 v rfl
    obtain ⟨ds, h3, h4, h5⟩ := RpSA.of (xs := xs) fun i u e => h (i + 1) u (by simpa using e)
    refine ⟨d :: ds, ⟨v, xs, rfl, h1, h3⟩, by simp [h4], fun e he => ?_⟩
    rcases List.mem_cons.mp he with rfl | he
    · exact h2
    · exact h5 e he
end
/-! ### the pot -/
def Pot (p : Addr) (H : Hp) : Prop := ∃ a b : Int, H p = some (.lst [.int a, .int b]) ∧ 0 ≤ b ∧ b ≤ 2147483600
/-- the heap moved on -/
structure Ev (p : Addr) (H H' : Hp) : Prop where
  kp : Kp p H H'
  pot : Pot p H'
theorem Ev.refl {p : Addr} {H : Hp} (h : Pot p H) : Ev p H H := ⟨Kp.refl H, h⟩
theorem Ev.trans {p : Addr} {H H1 H2 : Hp} (a : Ev p H H1) (b : Ev p H1 H2) : Ev p H H2 := ⟨a.kp.trans b.kp, b.pot⟩
theorem Pot.mono {p : Addr} {H H' : Hp} (s : Same H H') (h : Pot p H) : Pot p H' := by
  obtain ⟨a, b, h1, h2⟩ := h
  exact ⟨a, b, s _ _ h1, h2⟩
theorem Ev.same {p : Addr} {H H1 H2 : Hp} (a : Ev p H H1) (s : Same H1 H2) : Ev p H H2 := ⟨a.kp.trans (.of s), a.pot.mono s⟩
theorem Ev.of {p : Addr} {H H1 : Hp} (a : Pot p H) (s : Same H H1) : Ev p H H1 := ⟨.of s, a.mono s⟩
theorem Pot.held {p : Addr} {H : Hp} (h : Pot p H) : Held p H := by
  obtain ⟨a, b, h1, _⟩ := h
  unfold Held; rw [h1]; exact fun z => nomatch z
/-- what stands in S is taken -/
def Al (S : Addr → Prop) (H : Hp) : Prop := ∀ a, S a → H a ≠ none
theorem Al.ev {S : Addr → Prop} {p : Addr} {H H' : Hp} (h : Al S H) (e : Ev p H H') : Al S H' := fun a ha => by
  by_cases z : a = p
  · rw [z]; exact e.pot.held
  · have := h a ha
    cases ho : H a with
    | none => exact absurd ho this
    | some o => rw [e.kp a o ho z]; exact fun z => nomatch z
theorem Al.same {S : Addr → Prop} {H H' : Hp} (h : Al S H) (s : Same H H') : Al S H' := fun a ha => by
  have := h a ha
  cases ho : H a with
  | none => exact absurd ho this
  | some o => rw [s a o ho]; exact fun z => nomatch z
theorem Al.fresh {S : Addr → Prop} {H : Hp} {q : Addr} (h : Al S H) (hq : H q = none) : ¬ S q := fun s => h q s hq
theorem Ev.kpS {S : Addr → Prop} {p : Addr} {H H' : Hp} (e : Ev p H H') (hp : S p) : KpS S H H' := fun b o h n => e.kp b o h fun z => n (z ▸ hp)
theorem Same.kpS {S : Addr → Prop} {H H' : Hp} (s : Same H H') : KpS S H H' := fun b o h _ => s b o h
theorem KpS.put {S : Addr → Prop} {H : Hp} {D : Addr} {o : HO} (h : S D) : KpS S H (upd H D o) := fun b u e n => by
  rw [upd_ne (fun z : b = D => n (by rw [z]; exact h))]; exact e
def spTake : Sp := fun vs H Q _ => ∃ p m, vs = [.ref p, .int m] ∧ Pot p H ∧ 1 ≤ m ∧ m ≤ 5000 ∧ ∀ r H', 0 ≤ r → r < m → Ev p H H' → Q (.int r) H'
section
variable {P : Program} {w : World} {K : PySem.W.Frag} {mg : Str → Option Value} {base : Heap}
abbrev N__law_take : List Str := ["_law_pot_here", "_law_many", "_law_digit"]
theorem sc__law_take : FnScope N__law_take ["_law_pot_here", "_law_many"] (defScope (top 53)) := sc_of (by decide +kernel)
-- slots: 0:_law_pot_here 1:_law_many 2:_law_digit
theorem ok__law_take (T : Tx w K mg) : Cl P w K mg base CX0 1 "_law_take" spTake := by
  refine T.d__law_take.cl sc__law_take (fun _ _ _ _ _ _ us hl => match us, hl with | [_, _], _ => rfl) (fun vs H Q E h => ?_) fun f cdv A outer s H vs Q E hr h => ?_
  · obtain ⟨_, _, rfl, _⟩ := h; rfl
  have hu := hu_of hr
  have hu0 := hr.units0
  have hu64 := hr.units
  obtain ⟨p, m, rfl, h⟩ := h
  refine ⟨_, PSs.nox ((pss_cons (ps_if (pt_cmpR op_gt (pe_ix ix_list (pv 0) pe_int (fun _ _ => rfl)) pe_int (nomark _)) (pss_cons (ps_asg (pe_callB call_divmodW rfl T.f_divmod b_divmod (pa_cons (pe_ix ix_list (pv 0) pe_int (fun _ _ => rfl)) (pa_cons (pv 1) pa_nil))) (pg_tup rfl (pgs_cons (pg_sub (pv 0) pe_int set_list) (pgs_cons (pg_name (i := 2) sc__law_take.nd rfl (Or.inl rfl)) pgs_nil))))
      (pss_one (ps_ret (pv 2)))) pss_nil)
      (pss_cons (ps_asg (pe_op op_mod (pe_op op_add (pe_op op_mul (pe_ix ix_list (pv 0) pe_int (fun _ _ => rfl)) pe_int) pe_int) pe_int) (pg_sub (pv 0) pe_int set_list))
      (pss_one (ps_ret (pe_op op_mod (pe_op op_fdiv (pe_op op_mod (pe_op op_mul (pe_ix ix_list (pv 0) pe_int (fun _ _ => rfl)) (pe_ix ix_list (pv 0) pe_int (fun _ _ => rfl))) pe_int) pe_int) (pv 1))))))), ?_⟩
  obtain ⟨⟨a, b, hp, hb0, hb1⟩, hm1, hm2, k⟩ := h
  refine ⟨_, rfl, p, _, 0, _, rfl, rfl, SqL.of hp, at0 _ _, _, _, rfl, rfl, _, rfl, ?_⟩
  by_cases ha : (0 : Int) < a
  · rw [decide_eq_true ha]
    refine iteT ?_
    have hpt : ∀ t, H t = none → p ≠ t := fun t ht z => by rw [z, ht] at hp; cases hp
    refine ⟨_, rfl, p, _, 0, _, rfl, rfl, SqL.of hp, at0 _ _, _, rfl, a, m, rfl, ⟨by omega, PyProof.noPylong_small (by omega)⟩, fun t ht => ?_⟩
    refine ⟨t, _, rfl, SqT.of upd_same, rfl, _, _, rfl, _, rfl, p, _, 0, 0, rfl, rfl, (upd_ne (hpt t ht)).trans hp, rfl, _, _, rfl, rfl, ?_⟩
    refine ⟨_, rfl, k _ _ (Int.emod_nonneg _ (by omega)) (Int.emod_lt_of_pos _ (by omega)) ⟨Kp.pot (Kp.new ht), ⟨a / m, b, upd_same, hb0, hb1⟩⟩⟩
  · rw [decide_eq_false ha]
    refine iteF ?_
    refine ⟨_, rfl, p, _, 1, _, rfl, rfl, SqL.of hp, at1 _ _ _, _, _, rfl, rfl, .inr ⟨by decide, by decide⟩, _, _, rfl, rfl, _, _, rfl, rfl, (by show (0 : Int) < 2147483587; decide), ?_⟩
    have hb2 : 0 ≤ (b * 48271 + 10007) % 2147483587 := Int.emod_nonneg _ (by decide)
    have hb3 : (b * 48271 + 10007) % 2147483587 < 2147483587 := Int.emod_lt_of_pos _ (by decide)
    refine ⟨_, rfl, p, _, 1, 1, rfl, rfl, hp, rfl, ?_⟩
    have hG1 : Kp p H (upd H p (HO.lst ([V.int a, V.int b].set 1 ((fun i j => V.int (i % j)) (b * 48271 + 10007) 2147483587)))) := Kp.pot (Kp.refl H)
    have hp' : upd H p (HO.lst ([V.int a, V.int b].set 1 ((fun i j => V.int (i % j)) (b * 48271 + 10007) 2147483587))) p = some (.lst [.int a, .int ((b * 48271 + 10007) % 2147483587)]) := upd_same
    revert hG1 hp' hb2 hb3
    generalize upd H p (HO.lst ([V.int a, V.int b].set 1 ((fun i j => V.int (i % j)) (b * 48271 + 10007) 2147483587))) = G
    generalize (b * 48271 + 10007) % 2147483587 = b'
    intro hb2 hb3 hG1 hp'
    refine ⟨_, rfl, p, _, 1, _, rfl, rfl, SqL.of hp', at1 _ _ _, _, rfl, p, _, 1, _, rfl, rfl, SqL.of hp', at1 _ _ _, _, _, rfl, rfl, .inr ⟨by omega, by omega⟩, _, _, rfl, rfl, (by show (0 : Int) < 2147483563; decide), _, _, rfl, rfl, ⟨by decide, by decide⟩, _, rfl, _, _, rfl, rfl, (by show 0 < m; omega), ?_⟩
    exact k _ _ (Int.emod_nonneg _ (by omega)) (Int.emod_lt_of_pos _ (by omega)) ⟨hG1, ⟨a, b', hp', hb2, by omega⟩⟩
end
end K12
namespace K12
open PySem PySem.Spec PyProof.Rows L2
/-! ### a text that fits -/
def FitT (x : Str) : Prop := x.length ≤ 20 ∧ ∀ c ∈ x.cps.toList, c < 128
theorem join_signs : ∀ {ys : List Str}, (∀ y ∈ ys, ∀ c ∈ y.cps.toList, c < 128) → ∀ c ∈ (Str.join "" ys).cps.toList, c < 128
  | [], _, c, h => by simp [Str.join, Str.empty] at h
  | [x], k, c, h => k x (by simp) c h
  | x :: y :: r, k, c, h => by
    have e : Str.join "" (x :: y :: r) = x ++ "" ++ Str.join "" (y :: r) := rfl
    rw [e, Str.cps_append, Str.cps_append, Array.toList_append, Array.toList_append, List.mem_append, List.mem_append] at h
    rcases h with (h | h) | h
    · exact k x (by simp) c h
    · have e0 : ("" : Str).cps.toList = [] := by decide
      rw [e0] at h; cases h
    · exact join_signs (fun z hz => k z (by simp [List.mem_cons.mp hz])) c h
theorem letters_len : ("abcdefghijklmnopqrstuvwxyz" : Str).length = 26 := by decide +kernel
theorem letters_lt : (("abcdefghijklmnopqrstuvwxyz" : Str).cps.toList.all fun c => decide (c < 128)) = true := by decide +kernel
theorem letters_nodup : (("abcdefghijklmnopqrstuvwxyz" : Str).cps.toList).Nodup := by decide +kernel
def namesX : List Str := (["last", "task", "else", "begun", "cell", "free", "up", "within"] : List String).map Str.ofString
theorem getD_at {l : List Nat} {j : Nat} (h : j < l.length) : l.getD j 0 = l[j] := by simp [List.getD, h]
theorem namesX_ok : (namesX.all fun x => decide (x.length ≤ 20) && x.cps.toList.all fun c => decide (c < 128)) = true := by decide +kernel
theorem atI_some {α : Type} {l : List α} {r : Int} (h0 : 0 ≤ r) (h1 : r < (l.length : Nat)) : ∃ c, atI l r = some c ∧ c ∈ l := by
  have hi : r.toNat < l.length := by omega
  refine ⟨l[r.toNat], ?_, List.getElem_mem hi⟩
  unfold atI ixN
  rw [if_pos (by omega), if_pos (by omega)]
  simp [hi]
/-- some letter is not used -/
theorem free_letter {us : List Str} (h : us.length ≤ 25) : ∃ c ∈ ("abcdefghijklmnopqrstuvwxyz" : Str).cps.toList, ¬ (⟨#[c]⟩ : Str) ∈ us := by
  refine Classical.byContradiction fun hn => ?_
  have h1 : ∀ c ∈ ("abcdefghijklmnopqrstuvwxyz" : Str).cps.toList, (⟨#[c]⟩ : Str) ∈ us := fun c hc => Classical.byContradiction fun h => hn ⟨c, hc, h⟩
  have h2 : (("abcdefghijklmnopqrstuvwxyz" : Str).cps.toList.map fun c => (⟨#[c]⟩ : Str)).length ≤ us.length := by
    refine (List.Nodup.length_le_of_subset ?_ ?_)
    · refine List.Pairwise.map _ ?_ letters_nodup
      intro a b hab e
      apply hab
      have := congrArg (fun s : Str => s.cps.toList) e
      simpa using this
    · intro s hs
      obtain ⟨c, hc, rfl⟩ := List.mem_map.mp hs
      exact h1 c hc
  rw [List.length_map] at h2
  have h3 : ("abcdefghijklmnopqrstuvwxyz" : Str).cps.toList.length = 26 := letters_len
  omega
def spGName : Sp := fun vs H Q _ => ∃ (p u : Addr) (us : List Str), vs = [.ref p, .ref u] ∧ Pot p H ∧ u ≠ p ∧ H u = some (.lst (us.map V.str)) ∧ us.length ≤ 25 ∧ ∀ x H', FitT x → Ev p H H' → Q (.str x) H'
section
variable {P : Program} {w : World} {K : PySem.W.Frag} {mg : Str → Option Value} {base : Heap}
abbrev N__law_name : List Str := ["_law_pot_here", "_law_used", "_law_letters", "_law_name_here", "_law_k", "_law_letter"]
theorem sc__law_name : FnScope N__law_name ["_law_pot_here", "_law_used"] (defScope (top 54)) := sc_of (by decide +kernel)
-- slots: 0:_law_pot_here 1:_law_used 2:_law_letters 3:_law_name_here 4:_law_k 5:_law_letter
theorem ok__law_name (T : Tx w K mg) (c__law_take : Cl P w K mg base CX0 1 "_law_take" spTake) : Cl P w K mg base CX0 2 "_law_name" spGName := by
  refine T.d__law_name.cl sc__law_name (fun _ _ _ _ _ _ us hl => match us, hl with | [_, _], _ => rfl) (fun vs H Q E h => ?_) fun f cdv A outer s H vs Q E hr h => ?_
  · obtain ⟨_, _, _, rfl, _⟩ := h; rfl
  have hu := hu_of hr
  have hu0 := hr.units0
  have hu64 := hr.units
  obtain ⟨p, u, us, rfl, h⟩ := h
  refine ⟨_, PSs.nox ((pss_cons (ps_set (i := 2) sc__law_name.nd rfl (Or.inr rfl) pe_str)
      (pss_cons (ps_set (i := 3) sc__law_name.nd rfl (Or.inl rfl) (pe_join pe_str (pe_lc (own := [("_law_k", 4)]) rfl sc__law_name.nd (pi_range1 rfl T.f_range (pa_cons (pe_op op_add pe_int (pe_cl c__law_take hr (pa_cons (pv 0) (pa_cons pe_int pa_nil)))) pa_nil)) (blkOk_by (N := N__law_name) (sc := defScope (top 54)) (by decide +kernel)) (fun _ _ _ _ _ => (pg_name (i := 4) sc__law_name.nd rfl (Or.inl rfl))) (fun _ _ _ _ _ => pts_nil) (fun _ _ _ _ _ => (pe_ix ix_str (pv 2) (pe_cl c__law_take hr (pa_cons (pv 0) (pa_cons pe_int pa_nil))) (fun _ _ => rfl))))))
      (pss_cons (ps_if (pt_cmpR op_eq (pe_cl c__law_take hr (pa_cons (pv 0) (pa_cons pe_int pa_nil))) pe_int (nomark _)) (pss_one (ps_set (i := 3) sc__law_name.nd rfl (Or.inl rfl) (pe_ix ix_list (pe_lst (pa_cons pe_str (pa_cons pe_str (pa_cons pe_str (pa_cons pe_str (pa_cons pe_str (pa_cons pe_str (pa_cons pe_str (pa_cons pe_str pa_nil))))))))) (pe_cl c__law_take hr (pa_cons (pv 0) (pa_cons pe_int pa_nil))) (fun _ _ => rfl)))) pss_nil)
      (pss_cons (ps_if (PW.pt (pw_or (pt_cmpR op_in_seq (pv 3) (pv 1) rfl) (pw_or1 (pt_cmpR op_eq (pv 3) pe_str (nomark _))))) (pss_one (ps_ret (pe_ix ix_list (pe_lc (own := [("_law_letter", 5)]) rfl sc__law_name.nd (pi_str (pv 2)) (blkOk_by (N := N__law_name) (sc := defScope (top 54)) (by decide +kernel)) (fun _ _ _ _ _ => (pg_name (i := 5) sc__law_name.nd rfl (Or.inl rfl))) (fun _ _ _ _ _ => (pts_one (pt_cmpR (op_notInK (K := K) rfl) (pv 5) (pv 1) rfl))) (fun _ _ _ _ _ => (pv 5))) pe_int (fun _ _ => rfl)))) pss_nil)
      (pss_one (ps_ret (pv 3)))))))), ?_⟩
  obtain ⟨hp, hup, hu', hul, k⟩ := h
  have fin : ∀ (x : Str) (G : Hp) (x4 x5 : Option V), FitT x → Ev p H G → tSeq (tIfS (tOr (tTest (tOp (rIn K false) (tVar 3) (tVar 1))) (tTest (tOp rEq (tVar 3) (tC (.str "tick"))))) (tRet (tOp (rIxL K) (tLc (iStr (tVar 2)) (gName 5) (tTest (tOp (rIn K true) (tVar 5) (tVar 1))) (tVar 5) [5]) (tC (.int 0)))) tNext) (tRet (tVar 3))
      { nx := fun _ H' => Q .non H', rt := Q } [some (.ref p), some (.ref u), some (.str "abcdefghijklmnopqrstuvwxyz"), some (.str x), x4, x5] G := fun x G x4 x5 hx ev => by
    have hu := ev.kp _ _ hu' hup
    have free : tRet (tOp (rIxL K) (tLc (iStr (tVar 2)) (gName 5) (tTest (tOp (rIn K true) (tVar 5) (tVar 1))) (tVar 5) [5]) (tC (.int 0)))
      { nx := fun _ _ => False, rt := Q } [some (.ref p), some (.ref u), some (.str "abcdefghijklmnopqrstuvwxyz"), some (.str x), x4, x5] G := by
      refine ⟨_, rfl, _, rfl, fun D hD => lc_detF walk_str (fun i => !decide ((⟨#[("abcdefghijklmnopqrstuvwxyz" : Str).cps.toList.getD i 0]⟩ : Str) ∈ us)) (fun i => .str ⟨#[("abcdefghijklmnopqrstuvwxyz" : Str).cps.toList.getD i 0]⟩) hD (by rw [show ("abcdefghijklmnopqrstuvwxyz" : Str).cps.size = 26 from letters_len]; decide) (fun _ _ => trivial) ?_ ?_⟩
      · intro i y H2 H3 C N hi s2 hy hC hN
        obtain ⟨rfl, c, hc, rfl⟩ := hy
        have ec : ("abcdefghijklmnopqrstuvwxyz" : Str).cps.toList.getD i 0 = c := by simp [List.getD, sign_at hc]
        rw [ec] at hC hN
        refine ⟨rfl, ?_⟩
        refine ⟨_, rfl, _, rfl, u, _, rfl, .inl (SqL.of (s2 _ _ hu)), rfl, flat_strs _, ?_⟩
        rw [notin_eq]
        refine ⟨_, rfl, ?_⟩
        cases hl : decide ((⟨#[c]⟩ : Str) ∈ us) with
        | true => rw [hl] at hN; exact iteF (hN rfl _ (Same.refl _))
        | false => rw [hl] at hC; exact iteT ⟨_, rfl, hC rfl _ (Same.refl _)⟩
      · intro H2 s2 hl
        obtain ⟨c, hc, hcu⟩ := free_letter hul
        obtain ⟨i, hi, hic⟩ := List.getElem_of_mem hc
        have hmem : i ∈ (List.range ("abcdefghijklmnopqrstuvwxyz" : Str).cps.size).filter (fun i => !decide ((⟨#[("abcdefghijklmnopqrstuvwxyz" : Str).cps.toList.getD i 0]⟩ : Str) ∈ us)) := by
          refine List.mem_filter.mpr ⟨List.mem_range.mpr (by simpa using hi), ?_⟩
          have : ("abcdefghijklmnopqrstuvwxyz" : Str).cps.toList.getD i 0 = c := (getD_at hi).trans hic
          rw [this, decide_eq_false hcu]; rfl
        unfold Evl.given at hl
        cases hf : (List.range ("abcdefghijklmnopqrstuvwxyz" : Str).cps.size).filter (fun i => !decide ((⟨#[("abcdefghijklmnopqrstuvwxyz" : Str).cps.toList.getD i 0]⟩ : Str) ∈ us)) with
        | nil => rw [hf] at hmem; cases hmem
        | cons j js =>
          rw [hf] at hl
          refine ⟨D, _, 0, _, rfl, rfl, SqL.of hl, at0 _ _, ?_⟩
          have hj : j ∈ (List.range ("abcdefghijklmnopqrstuvwxyz" : Str).cps.size).filter (fun i => !decide ((⟨#[("abcdefghijklmnopqrstuvwxyz" : Str).cps.toList.getD i 0]⟩ : Str) ∈ us)) := by rw [hf]; simp
          have hj2 : j < ("abcdefghijklmnopqrstuvwxyz" : Str).cps.toList.length := by simpa using (List.mem_range.mp (List.mem_filter.mp hj).1)
          refine k _ _ ⟨by show 1 ≤ 20; decide, fun c hc => ?_⟩ (ev.same s2)
          have e1 : c = ("abcdefghijklmnopqrstuvwxyz" : Str).cps.toList.getD j 0 := by simpa using hc
          have e2 : ("abcdefghijklmnopqrstuvwxyz" : Str).cps.toList.getD j 0 ∈ ("abcdefghijklmnopqrstuvwxyz" : Str).cps.toList := by
            rw [show ("abcdefghijklmnopqrstuvwxyz" : Str).cps.toList.getD j 0 = ("abcdefghijklmnopqrstuvwxyz" : Str).cps.toList[j] from getD_at hj2]
            exact List.getElem_mem hj2
          rw [e1]
          have := List.all_eq_true.mp letters_lt _ e2
          simpa using this
    refine ⟨_, rfl, _, rfl, u, _, rfl, .inl (SqL.of hu), rfl, flat_strs _, ?_⟩
    rw [in_eq]
    refine ⟨_, rfl, ?_⟩
    cases h1 : decide (x ∈ us) with
    | true => exact iteT free
    | false =>
      refine iteF ⟨_, rfl, rfl, _, rfl, ?_⟩
      cases h2 : decide (V.str x = V.str "tick") with
      | true => exact iteT free
      | false => exact iteF ⟨_, rfl, k _ _ hx ev⟩
  refine ⟨⟨_, rfl⟩, _, rfl, p, 8, rfl, hp, by decide, by decide, fun r H1 hr0 hr1 ev1 => ?_⟩
  refine ⟨_, _, rfl, rfl, _, rfl, by show -(2 ^ 62) ≤ 1 + r; omega, by show 1 + r < 2 ^ 62; omega, fun D hD => ?_⟩
  have hDp : D ≠ p := Held.ne ev1.pot.held hD
  have hn : (1 + r).toNat ≤ 8 := by omega
  refine lc_rel (walk_range (lo := 0) (n := (1 + r).toNat)) (fun G => Ev p H1 G) (fun _ v _ => ∃ c : Nat, v = .str ⟨#[c]⟩ ∧ c < 128) (Nat.lt_of_le_of_lt hn (by decide)) (Ev.of ev1.pot (Same.new hD)) (fun _ _ => trivial) (fun G o e => ⟨e.kp.mut hD, ?_⟩) (fun _ _ _ _ h => h) ?_ ?_
  · obtain ⟨a, b, h1, h2⟩ := e.pot
    exact ⟨a, b, (upd_ne (Ne.symm hDp)).trans h1, h2⟩
  · rintro i x G1 G2 C hi ev ⟨acc, hacc⟩ ⟨rfl, rfl⟩ hC
    refine ⟨rfl, ?_⟩
    refine ⟨_, rfl, _, rfl, p, 26, rfl, ev.pot, by decide, by decide, fun r2 G3 hr20 hr21 ev2 => ?_⟩
    obtain ⟨c, hc1, hc2⟩ := atI_some (l := ("abcdefghijklmnopqrstuvwxyz" : Str).cps.toList) hr20 (by rw [show ("abcdefghijklmnopqrstuvwxyz" : Str).cps.toList.length = 26 from letters_len]; exact hr21)
    refine ⟨_, _, c, rfl, rfl, by rw [letters_len]; decide, hc1, ?_⟩
    have := List.all_eq_true.mp letters_lt c hc2
    exact hC _ G3 (ev.trans ev2) (by rw [ev2.kp _ _ hacc hDp, hacc]) (fun _ _ h => h) ⟨c, rfl, by simpa using this⟩
  · intro G acc ev hacc hal hR
    obtain ⟨cs, hcl, hcs⟩ := pick (α := Nat) hR
    have ha : acc = (cs.map fun c => (⟨#[c]⟩ : Str)).map V.str := by
      apply List.ext_getElem?
      intro i
      rw [List.getElem?_map, List.getElem?_map]
      by_cases hi : i < acc.length
      · have e1 : acc[i]? = some acc[i] := List.getElem?_eq_getElem hi
        have e2 : cs[i]? = some cs[i] := List.getElem?_eq_getElem (by omega)
        rw [e1, e2, (hcs i _ _ e1 e2).1]; rfl
      · rw [List.getElem?_eq_none (by omega), List.getElem?_eq_none (by omega)]; rfl
    have hlt : ∀ c ∈ cs, c < 128 := fun c hc => by
      obtain ⟨i, hi, hic⟩ := List.getElem_of_mem hc
      exact (hcs i _ c (List.getElem?_eq_getElem (by omega)) (by rw [List.getElem?_eq_getElem hi, hic])).2
    have hsum : ((cs.map fun c => (⟨#[c]⟩ : Str)).map (·.length)).sum = cs.length := by
      clear hcs hcl ha hlt
      induction cs with
      | nil => rfl
      | cons c cs ih => rw [List.map_cons, List.map_cons, List.sum_cons, ih, List.length_cons]; show 1 + _ = _; omega
    refine ⟨"", D, _, rfl, rfl, .inl (SqL.of (by rw [hacc, ha])), by rw [hsum]; show cs.length + _ * 0 ≤ _; omega, ?_⟩
    have hxf : FitT (Txt.join "" (cs.map fun c => (⟨#[c]⟩ : Str))) := by
      rw [show Txt.join "" (cs.map fun c => (⟨#[c]⟩ : Str)) = Str.join "" (cs.map fun c => (⟨#[c]⟩ : Str)) from StrLaws.glued_eq_join ..]
      refine ⟨?_, join_signs fun y hy c hc => ?_⟩
      · have := StrLaws.join_length_le "" (cs.map fun c => (⟨#[c]⟩ : Str))
        rw [hsum] at this
        have e : (cs.map fun c => (⟨#[c]⟩ : Str)).length * ("" : Str).length = 0 := by show _ * 0 = 0; omega
        omega
      · obtain ⟨c', hc', rfl⟩ := List.mem_map.mp hy
        have : c = c' := by simpa using hc
        rw [this]; exact hlt c' hc'
    revert hxf
    generalize Txt.join "" (cs.map fun c => (⟨#[c]⟩ : Str)) = x
    intro hxf
    have ev02 := ev1.trans ev
    refine ⟨_, rfl, p, 8, rfl, ev.pot, by decide, by decide, fun r3 G4 hr30 hr31 ev3 => ⟨rfl, _, rfl, ?_⟩⟩
    have ev04 := ev02.trans ev3
    cases h0 : decide (V.int r3 = V.int 0) with
    | false => exact iteF (fin x G4 _ _ hxf ev04)
    | true =>
      refine iteT ⟨by show 8 ≤ sizeLine; decide, fun l hl => ?_⟩
      have ev05 := ev04.same (Same.new (o := .lst [.str "last", .str "task", .str "else", .str "begun", .str "cell", .str "free", .str "up", .str "within"]) hl)
      have hl5 : upd G4 l (.lst [.str "last", .str "task", .str "else", .str "begun", .str "cell", .str "free", .str "up", .str "within"]) l = some (.lst (namesX.map V.str)) := upd_same
      revert ev05 hl5
      generalize upd G4 l (.lst [.str "last", .str "task", .str "else", .str "begun", .str "cell", .str "free", .str "up", .str "within"]) = G5
      intro ev05 hl5
      have hlp : l ≠ p := Held.ne ev04.pot.held hl
      refine ⟨_, rfl, p, 8, rfl, ev05.pot, by decide, by decide, fun r4 G6 hr40 hr41 ev6 => ?_⟩
      obtain ⟨x', hx1, hx2⟩ := atI_some (l := namesX) hr40 (by show r4 < (8 : Nat); exact hr41)
      have hx3 : atI (namesX.map V.str) r4 = some (V.str x') := by
        unfold atI at hx1 ⊢
        rw [List.length_map]
        cases hix : ixN namesX.length r4 with
        | none => rw [hix] at hx1; cases hx1
        | some j =>
          rw [hix] at hx1
          have hx1 : namesX[j]? = some x' := hx1
          show (namesX.map V.str)[j]? = _
          rw [List.getElem?_map, hx1]; rfl
      refine ⟨l, _, r4, _, rfl, rfl, SqL.of (ev6.kp _ _ hl5 hlp), hx3, ?_⟩
      have := List.all_eq_true.mp namesX_ok x' hx2
      rw [Bool.and_eq_true] at this
      exact fin x' G6 _ _ ⟨by simpa using this.1, fun c hc => by have := List.all_eq_true.mp this.2 c hc; simpa using this⟩ (ev05.trans ev6)
end
end K12
namespace K12
open PySem PySem.Spec PyProof.Rows L2
/-! ### measures of data: lists of at most n items, depth, weight -/
mutual
def FitL (n : Nat) : PyData → Prop
  | .none => True
  | .bool _ => True
  | .int i => i.natAbs ≤ 5000
  | .str x => FitT x
  | .list ds => ds.length ≤ n ∧ FitLA n ds
  | .tuple ds => ds.length ≤ n ∧ FitLA n ds
  | .dict kvs => kvs = []
def FitLA (n : Nat) : List PyData → Prop
  | [] => True
  | d :: ds => FitL n d ∧ FitLA n ds
end
mutual
def wt : PyData → Nat
  | .none => 300
  | .bool _ => 300
  | .int _ => 300
  | .str _ => 300
  | .list ds => wtA ds + 4
  | .tuple ds => wtA ds + 4
  | .dict _ => 300
def wtA : List PyData → Nat
  | [] => 0
  | d :: ds => wt d + 2 + wtA ds
end
mutual
theorem FitL.fit {n : Nat} (hn : n ≤ 1000) : ∀ {d : PyData}, FitL n d → Fit d
  | .none, _ => trivial
  | .bool _, _ => trivial
  | .int _, h => h
  | .str _, h => h
  | .list _, h => ⟨Nat.le_trans h.1 hn, FitLA.fit hn h.2⟩
  | .tuple _, h => ⟨Nat.le_trans h.1 hn, FitLA.fit hn h.2⟩
  | .dict _, h => h
theorem FitLA.fit {n : Nat} (hn : n ≤ 1000) : ∀ {ds : List PyData}, FitLA n ds → FitA ds
  | [], _ => trivial
  | _ :: _, h => ⟨FitL.fit hn h.1, FitLA.fit hn h.2⟩
end
mutual
theorem FitL.up {n m : Nat} (hn : n ≤ m) : ∀ {d : PyData}, FitL n d → FitL m d
  | .none, _ => trivial
  | .bool _, _ => trivial
  | .int _, h => h
  | .str _, h => h
  | .list _, h => ⟨Nat.le_trans h.1 hn, FitLA.up hn h.2⟩
  | .tuple _, h => ⟨Nat.le_trans h.1 hn, FitLA.up hn h.2⟩
  | .dict _, h => h
theorem FitLA.up {n m : Nat} (hn : n ≤ m) : ∀ {ds : List PyData}, FitLA n ds → FitLA m ds
  | [], _ => trivial
  | _ :: _, h => ⟨FitL.up hn h.1, FitLA.up hn h.2⟩
end
theorem FitLA.all {n : Nat} : ∀ {ds : List PyData}, (∀ d ∈ ds, FitL n d) → FitLA n ds
  | [], _ => trivial
  | d :: ds, h => ⟨h d (by simp), FitLA.all fun e he => h e (by simp [he])⟩
theorem FitLA.mem {n : Nat} : ∀ {ds : List PyData}, FitLA n ds → ∀ d ∈ ds, FitL n d
  | [], _, d, h => by simp at h
  | e :: ds, h, d, hd => by
    rcases List.mem_cons.mp hd with rfl | hd
    · exact h.1
    · exact FitLA.mem h.2 d hd
theorem wtA_app : ∀ (ds es : List PyData), wtA (ds ++ es) = wtA ds + wtA es
  | [], es => by show wtA es = 0 + _; omega
  | d :: ds, es => by
    show wt d + 2 + wtA (ds ++ es) = wt d + 2 + wtA ds + wtA es
    rw [wtA_app ds es]; omega
theorem wtA_mem : ∀ {ds : List PyData} {d : PyData}, d ∈ ds → wt d + 2 ≤ wtA ds
  | [], _, h => by cases h
  | e :: ds, d, h => by
    show _ ≤ wt e + 2 + wtA ds
    rcases List.mem_cons.mp h with rfl | h
    · omega
    · have := wtA_mem h; omega
theorem wtA_take (n : Nat) (ds : List PyData) : wtA (ds.take n) ≤ wtA ds := by
  have := wtA_app (ds.take n) (ds.drop n)
  rw [List.take_append_drop] at this
  omega
theorem wtA_drop (n : Nat) (ds : List PyData) : wtA (ds.drop n) ≤ wtA ds := by
  have := wtA_app (ds.take n) (ds.drop n)
  rw [List.take_append_drop] at this
  omega
theorem wtA_le {W : Nat} : ∀ {ds : List PyData}, (∀ d ∈ ds, wt d ≤ W) → wtA ds ≤ ds.length * (W + 2)
  | [], _ => Nat.zero_le _
  | d :: ds, h => by
    have h1 := h d (by simp)
    have h2 := wtA_le (ds := ds) fun e he => h e (by simp [he])
    show wt d + 2 + wtA ds ≤ (ds.length + 1) * (W + 2)
    rw [Nat.succ_mul]; omega
theorem depthA_le {D : Nat} : ∀ {ds : List PyData}, (∀ d ∈ ds, d.depth ≤ D) → PyData.depthAll ds ≤ D
  | [], _ => Nat.zero_le _
  | d :: ds, h => by
    have h1 := h d (by simp)
    have h2 := depthA_le (ds := ds) fun e he => h e (by simp [he])
    show max d.depth (PyData.depthAll ds) ≤ D
    omega
/-- within bounds -/
structure Ok (L D W : Nat) (d : PyData) : Prop where
  fit : FitL L d
  dep : d.depth ≤ D
  wt : wt d ≤ W
theorem Ok.mono {L D W L' D' W' : Nat} {d : PyData} (h : Ok L D W d) (h1 : L ≤ L') (h2 : D ≤ D') (h3 : W ≤ W') : Ok L' D' W' d := ⟨h.fit.up h1, Nat.le_trans h.dep h2, Nat.le_trans h.wt h3⟩
theorem Ok.int {L D : Nat} {i : Int} (h : i.natAbs ≤ 5000) : Ok L D 300 (.int i) := ⟨h, Nat.zero_le _, Nat.le_refl _⟩
theorem Ok.str {L D : Nat} {x : Str} (h : FitT x) : Ok L D 300 (.str x) := ⟨h, Nat.zero_le _, Nat.le_refl _⟩
theorem Ok.bool {L D : Nat} {b : Bool} : Ok L D 300 (.bool b) := ⟨trivial, Nat.zero_le _, Nat.le_refl _⟩
theorem Ok.none {L D : Nat} : Ok L D 300 .none := ⟨trivial, Nat.zero_le _, Nat.le_refl _⟩
theorem Ok.tuple {L D W : Nat} {ds : List PyData} (h : ∀ d ∈ ds, Ok L D W d) (hl : ds.length ≤ L) : Ok L (D + 1) (ds.length * (W + 2) + 4) (.tuple ds) :=
  ⟨⟨hl, .all fun d hd => (h d hd).fit⟩, Nat.succ_le_succ (depthA_le fun d hd => (h d hd).dep), Nat.add_le_add_right (wtA_le fun d hd => (h d hd).wt) 4⟩
theorem Ok.list {L D W : Nat} {ds : List PyData} (h : ∀ d ∈ ds, Ok L D W d) (hl : ds.length ≤ L) : Ok L (D + 1) (ds.length * (W + 2) + 4) (.list ds) :=
  ⟨⟨hl, .all fun d hd => (h d hd).fit⟩, Nat.succ_le_succ (depthA_le fun d hd => (h d hd).dep), Nat.add_le_add_right (wtA_le fun d hd => (h d hd).wt) 4⟩
def spPot (K : PySem.W.Frag) : Sp := fun vs H Q _ => ∃ (a : Addr) (k : Int) (ns : List Int), vs = [.ref a, .int k] ∧ SqL K H a (ns.map V.int) ∧ 0 ≤ k ∧ k ≤ 10 ∧ ∀ p H', Same H H' → H p = none → Pot p H' → Q (.ref p) H'
section
variable {P : Program} {w : World} {K : PySem.W.Frag} {mg : Str → Option Value} {base : Heap}
abbrev N__law_pot : List Str := ["_law_script", "_law_k", "_law_cell"]
theorem sc__law_pot : FnScope N__law_pot ["_law_script", "_law_k"] (defScope (top 52)) := sc_of (by decide +kernel)
-- slots: 0:_law_script 1:_law_k 2:_law_cell
theorem ok__law_pot (T : Tx w K mg) : Cl P w K mg base CX0 1 "_law_pot" (spPot K) := by
  refine T.d__law_pot.cl sc__law_pot (fun _ _ _ _ _ _ us hl => match us, hl with | [_, _], _ => rfl) (fun vs H Q E h => ?_) fun f cdv A outer s H vs Q E hr h => ?_
  · obtain ⟨_, _, _, rfl, _⟩ := h; rfl
  have hu := hu_of hr
  have hu0 := hr.units0
  have hu64 := hr.units
  obtain ⟨a, k, ns, rfl, h⟩ := h
  refine ⟨_, PSs.nox ((pss_cons (ps_set (i := 2) sc__law_pot.nd rfl (Or.inl rfl) pe_int)
      (pss_cons (ps_if (pt_cmpR op_lt (pv 1) (pe_callB call_len_seq rfl T.f_len b_len (pa_cons (pv 0) pa_nil)) (nomark _)) (pss_one (ps_set (i := 2) sc__law_pot.nd rfl (Or.inl rfl) (pe_callB call_abs rfl T.f_abs b_abs (pa_cons (pe_ix ix_list (pv 0) (pv 1) (fun _ _ => rfl)) pa_nil)))) pss_nil)
      (pss_one (ps_ret (pe_lst (pa_cons (pe_callB (call_max2 rfl) rfl T.f_max b_max (pa_cons pe_int (pa_cons (pe_op op_sub (pv 2) (pe_op op_pow pe_int pe_int)) pa_nil))) (pa_cons (pe_op op_add (pe_op op_mod (pe_op op_pow (pe_op op_add (pe_op op_add (pe_op op_mod (pv 2) pe_int) (pe_op op_mul pe_int (pv 1))) pe_int) pe_int) pe_int) pe_int) pa_nil)))))))), ?_⟩
  obtain ⟨ha, hk0, hk1, kk⟩ := h
  have fin : ∀ c : Int, tRet (tLst (tCons (tCB (fun xs H Q => ∃ i j, xs = [.int i, .int j] ∧ Q (.int (if j > i then j else i)) H) (tCons (tC (.int 0)) (tCons (tOp (rI0 fun i j => .int (i - j)) (tVar 2) (tOp (rI CPow fun i j => .int (i ^ j.toNat)) (tC (.int 10)) (tC (.int 18)))) tNil)))
      (tCons (tOp (rI0 fun i j => .int (i + j)) (tOp (rI (fun _ j => 0 < j) fun i j => .int (i % j)) (tOp (rI CPow fun i j => .int (i ^ j.toNat)) (tOp (rI0 fun i j => .int (i + j)) (tOp (rI0 fun i j => .int (i + j)) (tOp (rI (fun _ j => 0 < j) fun i j => .int (i % j)) (tVar 2) (tC (.int 2147483549))) (tOp (rI CMul fun i j => .int (i * j)) (tC (.int 97)) (tVar 1))) (tC (.int 1))) (tC (.int 2))) (tC (.int 2147483543))) (tC (.int 1))) tNil)))
      { nx := fun _ H' => Q .non H', rt := Q } [some (.ref a), some (.int k), some (.int c)] H := fun c => by
    have h1 : 0 ≤ c % 2147483549 := Int.emod_nonneg _ (by decide)
    have h2 : c % 2147483549 < 2147483549 := Int.emod_lt_of_pos _ (by decide)
    refine ⟨_, rfl, _, _, rfl, rfl, ⟨by decide, by decide, by decide⟩, _, _, rfl, rfl, _, _, rfl, ?_⟩
    refine ⟨_, rfl, _, _, rfl, rfl, (by show (0 : Int) < 2147483549; decide), _, rfl, _, _, rfl, rfl, .inl ⟨by decide, by decide⟩, _, _, rfl, rfl, _, _, rfl, rfl, _, _, rfl, rfl, ⟨by decide, by decide, ?_⟩, _, _, rfl, rfl, (by show (0 : Int) < 2147483543; decide), _, _, rfl, rfl, by show 2 ≤ sizeLine; decide, fun p hp => ?_⟩
    · show (c % 2147483549 + 97 * k + 1).natAbs < 2 ^ 64
      omega
    · refine kk p _ (Same.new hp) hp ⟨_, _, upd_same, ?_, ?_⟩
      · have := Int.emod_nonneg ((c % 2147483549 + 97 * k + 1) ^ (2 : Int).toNat) (show (2147483543 : Int) ≠ 0 by decide)
        show 0 ≤ (c % 2147483549 + 97 * k + 1) ^ (2 : Int).toNat % 2147483543 + 1
        omega
      · have := Int.emod_lt_of_pos ((c % 2147483549 + 97 * k + 1) ^ (2 : Int).toNat) (show (0 : Int) < 2147483543 by decide)
        show (c % 2147483549 + 97 * k + 1) ^ (2 : Int).toNat % 2147483543 + 1 ≤ 2147483600
        omega
  refine ⟨_, rfl, _, rfl, a, _, rfl, .inl ha, _, _, rfl, rfl, _, rfl, ?_⟩
  by_cases hlt : k < ((ns.map V.int).length : Nat)
  · rw [decide_eq_true hlt]
    refine iteT ?_
    obtain ⟨v, hv1, hv2⟩ := atI_some (l := ns.map V.int) hk0 hlt
    obtain ⟨c, _, rfl⟩ := List.mem_map.mp hv2
    exact ⟨_, rfl, _, rfl, a, _, k, _, rfl, rfl, ha, hv1, c, rfl, fin _⟩
  · rw [decide_eq_false hlt]
    exact iteF (fin 0)
end
end K12
namespace K12
open PySem PySem.Spec PyProof.Rows L2
/-! ### one of a new list, by the pot -/
theorem pk1 {p l : Addr} {H : Hp} {o : HO} (hp : Pot p H) (hl : H l = none) : Pot p (upd H l o) := hp.mono (Same.new hl)
theorem pk2 {K : PySem.W.Frag} {p l : Addr} {H H2 : Hp} {vs : List V} {r : Int} {n : Int} (hp : Pot p H) (hl : H l = none) (h0 : 0 ≤ r) (h1 : r < n) (ev : Ev p (upd H l (.lst vs)) H2) (hn : n = (vs.length : Nat) := by rfl) :
    ∃ v, v ∈ vs ∧ atI vs r = some v ∧ SqL K H2 l vs ∧ Ev p H H2 := by
  obtain ⟨v, h3, h4⟩ := atI_some (l := vs) h0 (by omega)
  have hlp : l ≠ p := hp.held.ne hl
  exact ⟨v, h4, h3, SqL.of (ev.kp _ _ upd_same hlp), (Ev.of hp (Same.new hl)).trans ev⟩
theorem pk3 {K : PySem.W.Frag} {p l : Addr} {H H2 : Hp} {vs : List V} {r : Int} {n : Int} (hl : H l = some (.lst vs)) (hlp : l ≠ p) (h0 : 0 ≤ r) (h1 : r < n) (ev : Ev p H H2) (hn : n = (vs.length : Nat) := by rfl) :
    ∃ v, v ∈ vs ∧ atI vs r = some v ∧ SqL K H2 l vs := by
  obtain ⟨v, h3, h4⟩ := atI_some (l := vs) h0 (by omega)
  exact ⟨v, h4, h3, SqL.of (ev.kp _ _ hl hlp)⟩
def fitB (x : Str) : Bool := decide (x.length ≤ 20) && x.cps.toList.all fun c => decide (c < 128)
theorem fitB_ok {x : Str} (h : fitB x = true) : FitT x := by
  unfold fitB at h
  rw [Bool.and_eq_true] at h
  exact ⟨by simpa using h.1, fun c hc => by have := List.all_eq_true.mp h.2 c hc; simpa using this⟩
/-- the texts of a list of constants -/
def strsB (vs : List V) : Bool := vs.all fun v => match v with | .str x => fitB x | _ => false
theorem strs_in {vs : List V} (h : strsB vs = true) {v : V} (hv : v ∈ vs) : ∃ x, v = .str x ∧ FitT x := by
  have := List.all_eq_true.mp h v hv
  cases v with
  | str x => exact ⟨x, rfl, fitB_ok this⟩
  | _ => cases this
def intsB (lo hi : Int) (vs : List V) : Bool := vs.all fun v => match v with | .int i => decide (lo ≤ i) && decide (i ≤ hi) | _ => false
theorem ints_in {lo hi : Int} {vs : List V} (h : intsB lo hi vs = true) {v : V} (hv : v ∈ vs) : ∃ i, v = .int i ∧ lo ≤ i ∧ i ≤ hi := by
  have := List.all_eq_true.mp h v hv
  cases v with
  | int x =>
    rw [Bool.and_eq_true] at this
    exact ⟨x, rfl, by simpa using this.1, by simpa using this.2⟩
  | _ => cases this
/-- a thing as the law makes it -/
def IsThing (d : PyData) : Prop := ∃ k nm sz, d = .tuple [.str k, .str nm, sz] ∧ FitT k ∧ FitT nm ∧ Ok 3 0 300 sz
theorem IsThing.ok {d : PyData} (h : IsThing d) : Ok 3 1 910 d := by
  obtain ⟨k, nm, sz, rfl, h1, h2, h3⟩ := h
  refine (Ok.tuple (W := 300) (D := 0) (fun e he => ?_) (Nat.le_refl 3)).mono (Nat.le_refl _) (Nat.le_refl _) (by show 3 * 302 + 4 ≤ 910; decide)
  rcases List.mem_cons.mp he with rfl | he
  · exact .str h1
  rcases List.mem_cons.mp he with rfl | he
  · exact .str h2
  rcases List.mem_cons.mp he with rfl | he
  · exact h3
  · cases he
/-- a new tuple of three -/
theorem tup3 {S : Addr → Prop} {H : Hp} {t : Addr} {k nm : Str} {sz : PyData} {vs : V} (hS : Al S H) (ht : H t = none) (hs : RpS S (upd H t (.tup [.str k, .str nm, vs])) sz vs) :
    RpS S (upd H t (.tup [.str k, .str nm, vs])) (.tuple [.str k, .str nm, sz]) (.ref t) :=
  ⟨t, _, rfl, hS.fresh ht, upd_same, _, _, rfl, rfl, _, _, rfl, rfl, _, _, rfl, hs, rfl⟩
def spGThing : Sp := fun vs H Q _ => ∃ (p u l : Addr) (us ls : List Str) (S : Addr → Prop), vs = [.ref p, .ref u, .ref l] ∧ Pot p H ∧ u ≠ p ∧ l ≠ p ∧ H u = some (.lst (us.map V.str)) ∧ H l = some (.lst (ls.map V.str)) ∧ us.length ≤ 25 ∧ ls.length ≤ 25 ∧ (∀ x ∈ ls, FitT x) ∧ Al S H ∧
  ∀ t v H', IsThing t → RpS S H' t v → Ev p H H' → Q v H'
section
variable {P : Program} {w : World} {K : PySem.W.Frag} {mg : Str → Option Value} {base : Heap}
abbrev N__law_thing : List Str := ["_law_pot_here", "_law_used", "_law_locks", "_law_kind", "_law_name_here", "_law_least"]
theorem sc__law_thing : FnScope N__law_thing ["_law_pot_here", "_law_used", "_law_locks"] (defScope (top 56)) := sc_of (by decide +kernel)
-- slots: 0:_law_pot_here 1:_law_used 2:_law_locks 3:_law_kind 4:_law_name_here 5:_law_least
theorem ok__law_thing (T : Tx w K mg) (c__law_take : Cl P w K mg base CX0 1 "_law_take" spTake) (c__law_name : Cl P w K mg base CX0 2 "_law_name" spGName) : Cl P w K mg base CX0 3 "_law_thing" spGThing := by
  refine T.d__law_thing.cl sc__law_thing (fun _ _ _ _ _ _ us hl => match us, hl with | [_, _, _], _ => rfl) (fun vs H Q E h => ?_) fun f cdv A outer s H vs Q E hr h => ?_
  · obtain ⟨_, _, _, _, _, _, rfl, _⟩ := h; rfl
  have hu := hu_of hr
  have hu0 := hr.units0
  have hu64 := hr.units
  obtain ⟨p, u, l, us, ls, S, rfl, h⟩ := h
  refine ⟨_, PSs.nox ((pss_cons (ps_set (i := 3) sc__law_thing.nd rfl (Or.inl rfl) (pe_ix ix_list (pe_lst (pa_cons pe_str (pa_cons pe_str (pa_cons pe_str (pa_cons pe_str (pa_cons pe_str (pa_cons pe_str (pa_cons pe_str (pa_cons pe_str (pa_cons pe_str pa_nil)))))))))) (pe_cl c__law_take hr (pa_cons (pv 0) (pa_cons pe_int pa_nil))) (fun _ _ => rfl)))
      (pss_cons (ps_set (i := 4) sc__law_thing.nd rfl (Or.inl rfl) (pe_cl c__law_name hr (pa_cons (pv 0) (pa_cons (pv 1) pa_nil))))
      (pss_cons (ps_if (PW.pt (pw_and (pt_cmpR op_eq (pv 3) pe_str (nomark _)) (pw_and1 (pt_cmpR (op_neEL hu0) (pv 2) (pe_lst pa_nil) (nomark _))))) (pss_one (ps_ret (pe_tup (pa_cons (pv 3) (pa_cons (pv 4) (pa_cons (pe_ix ix_list (pv 2) (pe_cl c__law_take hr (pa_cons (pv 0) (pa_cons (pe_callB call_len_seq rfl T.f_len b_len (pa_cons (pv 2) pa_nil)) pa_nil))) (fun _ _ => rfl)) pa_nil)))))) pss_nil)
      (pss_cons (ps_if (pt_cmpR op_in_seq (pv 3) (pe_tup (pa_cons pe_str (pa_cons pe_str (pa_cons pe_str pa_nil)))) rfl) (pss_one (ps_ret (pe_tup (pa_cons (pe_ix ix_list (pe_lst (pa_cons pe_str (pa_cons pe_str pa_nil))) (pe_cl c__law_take hr (pa_cons (pv 0) (pa_cons pe_int pa_nil))) (fun _ _ => rfl)) (pa_cons (pv 4) (pa_cons pe_int pa_nil)))))) pss_nil)
      (pss_cons (ps_if (pt_cmpR op_eq (pv 3) pe_str (nomark _)) (pss_one (ps_ret (pe_tup (pa_cons (pv 3) (pa_cons (pv 4) (pa_cons (pe_op op_sub (pe_cl c__law_take hr (pa_cons (pv 0) (pa_cons pe_int pa_nil))) pe_int) pa_nil)))))) pss_nil)
      (pss_cons (ps_if (pt_cmpR op_eq (pv 3) pe_str (nomark _)) (pss_one (ps_ret (pe_tup (pa_cons (pv 3) (pa_cons (pv 4) (pa_cons (pe_cl c__law_take hr (pa_cons (pv 0) (pa_cons pe_int pa_nil))) pa_nil)))))) pss_nil)
      (pss_cons (ps_set (i := 5) sc__law_thing.nd rfl (Or.inl rfl) (pe_ix ix_list (pe_lst (pa_cons pe_int (pa_cons pe_int pa_nil))) (pe_callTy call_int1 rfl T.f_int b_int (pa_cons (pe_cmpR op_eq (pv 3) pe_str (nomark _)) pa_nil)) (fun _ _ => rfl)))
      (pss_one (ps_ret (pe_tup (pa_cons (pv 3) (pa_cons (pv 4) (pa_cons (pe_op op_add (pv 5) (pe_cl c__law_take hr (pa_cons (pv 0) (pa_cons (pe_op op_sub pe_int (pv 5)) pa_nil)))) pa_nil)))))))))))))), ?_⟩
  obtain ⟨hp, hup, hlp, hu', hl', hul, hll, hlf, hS, k⟩ := h
  refine ⟨by show 9 ≤ sizeLine; decide, fun l9 hl9 => ⟨_, rfl, p, 9, rfl, pk1 hp hl9, by decide, by decide, fun r H1 h0 h1 ev => ?_⟩⟩
  obtain ⟨v, hv, ha, hs, ev1⟩ := pk2 (K := K) hp hl9 h0 h1 ev
  obtain ⟨x, rfl, hx⟩ := strs_in (by decide +kernel) hv
  clear hv ev
  refine ⟨l9, _, r, _, rfl, rfl, hs, ha, ?_⟩
  clear hs ha h0 h1
  refine ⟨_, rfl, _, rfl, p, u, us, rfl, ev1.pot, hup, ev1.kp _ _ hu' hup, hul, fun nm H2 hnm ev2 => ?_⟩
  have ev02 := ev1.trans ev2
  have hl2 := ev02.kp _ _ hl' hlp
  have fin : ∀ (kx : Str) (G : Hp) (sz : PyData) (vs : V) (t : Addr), FitT kx → Ok 3 0 300 sz → Ev p H G → G t = none → (∀ G', Same G G' → RpS S G' sz vs) → Q (.ref t) (upd G t (.tup [.str kx, .str nm, vs])) := fun kx G sz vs t hk hok e ht hsz =>
    k _ _ _ ⟨kx, nm, sz, rfl, hk, hnm, hok⟩ (tup3 (hS.ev e) ht (hsz _ (Same.new ht))) (e.same (Same.new ht))
  have rest : ∀ (G : Hp), Ev p H G → tSeq (tIfS (tTest (tOp (rIn K false) (tVar 3) (tTup (tCons (tC (.str "bell")) (tCons (tC (.str "lock")) (tCons (tC (.str "relock")) tNil))))))
      (tRet (tTup (tCons (tOp (rIxL K) (tLst (tCons (tC (.str "lock")) (tCons (tC (.str "relock")) tNil))) (tCall spTake [] E0 (tCons (tVar 0) (tCons (tC (.int 2)) tNil)))) (tCons (tVar 4) (tCons (tC (.int 0)) tNil))))) tNext)
      (tSeq (tIfS (tTest (tOp rEq (tVar 3) (tC (.str "cell")))) (tRet (tTup (tCons (tVar 3) (tCons (tVar 4) (tCons (tOp (rI0 fun i j => .int (i - j)) (tCall spTake [] E0 (tCons (tVar 0) (tCons (tC (.int 2001)) tNil))) (tC (.int 1000))) tNil))))) tNext)
      (tSeq (tIfS (tTest (tOp rEq (tVar 3) (tC (.str "flag")))) (tRet (tTup (tCons (tVar 3) (tCons (tVar 4) (tCons (tCall spTake [] E0 (tCons (tVar 0) (tCons (tC (.int 2)) tNil))) tNil))))) tNext)
      (tSeq (tAsg (tOp (rIxL K) (tLst (tCons (tC (.int 1)) (tCons (tC (.int 2)) tNil))) (tCB (fun xs H Q => (∃ i, xs = [.int i] ∧ Q (.int i) H) ∨ ∃ k, xs = [.bl k] ∧ Q (.int (if k then 1 else 0)) H) (tCons (tOp rEq (tVar 3) (tC (.str "gate"))) tNil))) (gName 5))
      (tRet (tTup (tCons (tVar 3) (tCons (tVar 4) (tCons (tOp (rI0 fun i j => .int (i + j)) (tVar 5) (tCall spTake [] E0 (tCons (tVar 0) (tCons (tOp (rI0 fun i j => .int (i - j)) (tC (.int 5)) (tVar 5)) tNil)))) tNil))))))))
      { nx := fun _ H' => Q .non H', rt := Q } [some (.ref p), some (.ref u), some (.ref l), some (.str x), some (.str nm), none] G := fun G e => by
    refine ⟨_, rfl, by show 3 ≤ sizeLine; decide, fun t ht => ⟨t, _, rfl, .inr (SqT.of upd_same), rfl, flat_strs ([("bell" : Str), "lock", "relock"]), ?_⟩⟩
    rw [show [V.str "bell", V.str "lock", V.str "relock"] = ([("bell" : Str), "lock", "relock"]).map V.str from rfl, in_eq]
    have e1 := e.same (Same.new (o := .tup (([("bell" : Str), "lock", "relock"]).map V.str)) ht)
    revert e1
    generalize upd G t (.tup (([("bell" : Str), "lock", "relock"]).map V.str)) = G1
    intro e1
    refine ⟨_, rfl, ?_⟩
    refine ite2 (fun _ => ?_) (fun _ => ?_)
    · refine ⟨by show 2 ≤ sizeLine; decide, fun l2 hl2' => ⟨_, rfl, p, 2, rfl, pk1 e1.pot hl2', by decide, by decide, fun r G2 h0 h1 e2 => ?_⟩⟩
      obtain ⟨v, hv, ha, hs, e3⟩ := pk2 (K := K) e1.pot hl2' h0 h1 e2
      obtain ⟨y, rfl, hy⟩ := strs_in (by decide +kernel) hv
      refine ⟨l2, _, r, _, rfl, rfl, hs, ha, ?_⟩
      exact ⟨_, rfl, by show 3 ≤ sizeLine; decide, fun t ht => fin y G2 (.int 0) (.int 0) t hy (.int (by decide)) (e1.trans e3) ht fun _ _ => rfl⟩
    · refine ⟨_, rfl, rfl, _, rfl, ?_⟩
      refine ite2 (fun _ => ?_) (fun _ => ?_)
      · exact ⟨_, rfl, _, rfl, _, rfl, p, 2001, rfl, e1.pot, by decide, by decide, fun r G2 h0 h1 e2 => ⟨_, _, rfl, rfl, by show 3 ≤ sizeLine; decide, fun t ht => fin x G2 (.int (r - 1000)) _ t hx (.int (by omega)) (e1.trans e2) ht fun _ _ => rfl⟩⟩
      · refine ⟨_, rfl, rfl, _, rfl, ?_⟩
        refine ite2 (fun _ => ?_) (fun _ => ?_)
        · exact ⟨_, rfl, _, rfl, _, rfl, p, 2, rfl, e1.pot, by decide, by decide, fun r G2 h0 h1 e2 => ⟨by show 3 ≤ sizeLine; decide, fun t ht => fin x G2 (.int r) _ t hx (.int (by omega)) (e1.trans e2) ht fun _ _ => rfl⟩⟩
        · refine ⟨by show 2 ≤ sizeLine; decide, fun l2 hl2' => ⟨_, rfl, rfl, .inr ⟨_, rfl, ?_⟩⟩⟩
          have hs : SqL K (upd G1 l2 (.lst [.int 1, .int 2])) l2 [.int 1, .int 2] := SqL.of upd_same
          have e2 := e1.same (Same.new (o := .lst [.int 1, .int 2]) hl2')
          revert hs e2
          generalize upd G1 l2 (.lst [.int 1, .int 2]) = G2
          intro hs e2
          have fin5 : ∀ z : Int, 1 ≤ z → z ≤ 2 → tRet (tTup (tCons (tVar 3) (tCons (tVar 4) (tCons (tOp (rI0 fun i j => .int (i + j)) (tVar 5) (tCall spTake [] E0 (tCons (tVar 0) (tCons (tOp (rI0 fun i j => .int (i - j)) (tC (.int 5)) (tVar 5)) tNil)))) tNil))))
              { nx := fun _ H' => Q .non H', rt := Q } [some (.ref p), some (.ref u), some (.ref l), some (.str x), some (.str nm), some (.int z)] G2 := fun z z1 z2 =>
            ⟨_, rfl, _, rfl, _, rfl, _, rfl, _, rfl, _, _, rfl, rfl, p, 5 - z, rfl, e2.pot, by omega, by omega, fun r G3 h0 h1 e3 => ⟨_, _, rfl, rfl, by show 3 ≤ sizeLine; decide, fun t ht => fin x G3 (.int (z + r)) _ t hx (.int (by omega)) (e2.trans e3) ht fun _ _ => rfl⟩⟩
          cases decide (V.str x = V.str "gate") with
          | true => exact ⟨l2, _, 1, _, rfl, rfl, hs, at1 _ _ _, fin5 2 (by decide) (by decide)⟩
          | false => exact ⟨l2, _, 0, _, rfl, rfl, hs, at0 _ _, fin5 1 (by decide) (by decide)⟩
  refine ⟨_, rfl, rfl, _, rfl, ?_⟩
  refine ite2 (fun _ => ?_) (fun _ => ?_)
  · refine ⟨_, rfl, by decide, fun b hb => ⟨l, b, _, rfl, rfl, SqL.of ((upd_ne (ne_of_none hl2 hb)).trans hl2), upd_same, ?_⟩⟩
    have e3 := ev02.same (Same.new (o := .lst []) hb)
    have hl3 : upd H2 b (.lst []) l = some (.lst (ls.map V.str)) := (upd_ne (ne_of_none hl2 hb)).trans hl2
    revert e3 hl3
    generalize upd H2 b (.lst []) = H3
    intro e3 hl3
    refine ⟨_, rfl, ?_⟩
    cases ls with
    | nil => exact iteF (rest H3 e3)
    | cons y ys =>
      have hz : ((y :: ys).map V.str).length = ys.length + 1 := by rw [List.length_map, List.length_cons]
      have hz2 : ys.length + 1 ≤ 25 := by rw [List.length_cons] at hll; exact hll
      refine iteT ⟨_, rfl, _, rfl, _, rfl, _, rfl, _, rfl, l, _, rfl, .inl (SqL.of hl3), p, _, rfl, e3.pot, by rw [hz]; omega, by rw [hz]; omega, fun r G h0 h1 e4 => ?_⟩
      obtain ⟨v, hv, ha, hs⟩ := pk3 (K := K) hl3 hlp h0 h1 e4
      obtain ⟨z, hz1, rfl⟩ := List.mem_map.mp hv
      exact ⟨l, _, r, _, rfl, rfl, hs, ha, by show 3 ≤ sizeLine; decide, fun t ht => fin x G (.str z) _ t hx (.str (hlf z hz1)) (e3.trans e4) ht fun _ _ => rfl⟩
  · exact rest H2 ev02
end
end K12
namespace K12
open PySem PySem.Spec PyProof.Rows L2
def nameOf : PyData → Str
  | .tuple [_, .str nm, _] => nm
  | _ => ""
def kindOf : PyData → Str
  | .tuple [.str k, _, _] => k
  | _ => ""
theorem IsThing.name {d : PyData} (h : IsThing d) : FitT (nameOf d) := by
  obtain ⟨k, nm, sz, rfl, h1, h2, h3⟩ := h; exact h2
theorem given_strs (n : Nat) (t : Nat → Bool) (g : Nat → Str) : Evl.given n t (fun i => .str (g i)) = (((List.range n).filter t).map g).map V.str := by
  unfold Evl.given
  rw [List.map_map]; rfl
/-- with one more address -/
abbrev plus (S : Addr → Prop) (D : Addr) : Addr → Prop := fun a => S a ∨ a = D
theorem Al.plus {S : Addr → Prop} {H : Hp} {D : Addr} {o : HO} (h : Al S H) (hD : H D = some o) : Al (plus S D) H := fun a ha => by
  rcases ha with ha | rfl
  · exact h a ha
  · rw [hD]; exact fun z => nomatch z
/-- the items of a thing -/
theorem thing_at {S : Addr → Prop} {H : Hp} {d : PyData} {v : V} (h : IsThing d) (g : RpS S H d v) : ∃ b vs, v = .ref b ∧ H b = some (.tup [.str (kindOf d), .str (nameOf d), vs]) := by
  obtain ⟨k, nm, sz, rfl, _⟩ := h
  obtain ⟨b, xs, rfl, _, hb, _, _, rfl, e1, _, _, rfl, e2, _, _, rfl, e3, e4⟩ := g
  cases e1; cases e2; cases e4
  exact ⟨b, _, rfl, hb⟩
def spGStuff : Sp := fun vs H Q _ => ∃ (p : Addr) (S : Addr → Prop), vs = [.ref p] ∧ Pot p H ∧ S p ∧ Al S H ∧ ∀ ds v H', (∀ d ∈ ds, IsThing d) → ds.length ≤ 10 → RpS S H' (.list ds) v → Ev p H H' → Q v H'
section
variable {P : Program} {w : World} {K : PySem.W.Frag} {mg : Str → Option Value} {base : Heap}
abbrev N__law_stuff : List Str := ["_law_pot_here", "_law_found", "_law_k", "_law_used", "_law_locks", "_law_kind", "_law_name_here", "_law_size"]
theorem sc__law_stuff : FnScope N__law_stuff ["_law_pot_here"] (defScope (top 57)) := sc_of (by decide +kernel)
-- slots: 0:_law_pot_here 1:_law_found 2:_law_k 3:_law_used 4:_law_locks 5:_law_kind 6:_law_name_here 7:_law_size
theorem ok__law_stuff (T : Tx w K mg) (c__law_take : Cl P w K mg base CX0 1 "_law_take" spTake) (c__law_thing : Cl P w K mg base CX0 3 "_law_thing" spGThing) : Cl P w K mg base CX0 4 "_law_stuff" spGStuff := by
  refine T.d__law_stuff.cl sc__law_stuff (fun _ _ _ _ _ _ us hl => match us, hl with | [_], _ => rfl) (fun vs H Q E h => ?_) fun f cdv A outer s H vs Q E hr h => ?_
  · obtain ⟨_, _, rfl, _⟩ := h; rfl
  have hu := hu_of hr
  have hu0 := hr.units0
  have hu64 := hr.units
  obtain ⟨p, S, rfl, h⟩ := h
  refine ⟨_, PSs.nox ((pss_cons (ps_set (i := 1) sc__law_stuff.nd rfl (Or.inl rfl) (pe_lst pa_nil))
      (pss_cons (ps_for PassesOwn.never rfl (pi_range1 rfl T.f_range (pa_cons (pe_ix ix_list (pe_lst (pa_cons pe_int (pa_cons pe_int (pa_cons pe_int (pa_cons pe_int (pa_cons pe_int pa_nil)))))) (pe_cl c__law_take hr (pa_cons (pv 0) (pa_cons pe_int pa_nil))) (fun _ _ => rfl)) pa_nil)) (pg_name (i := 2) sc__law_stuff.nd rfl (Or.inl rfl)) (pss_cons (ps_setLc (i := 3) (own := [("_law_kind", 5), ("_law_name_here", 6), ("_law_size", 7)]) rfl sc__law_stuff.nd rfl rfl (sw_true rfl rfl rfl (by decide +kernel)) (pi_list (pv 1)) (blkOk_by (N := N__law_stuff) (sc := defScope (top 57)) (by decide +kernel)) (fun _ _ _ _ _ => (pg_tupB (n := 3) rfl (pgs_cons (pg_name (i := 5) sc__law_stuff.nd rfl (Or.inl rfl)) (pgs_cons (pg_name (i := 6) sc__law_stuff.nd rfl (Or.inl rfl)) (pgs_cons (pg_name (i := 7) sc__law_stuff.nd rfl (Or.inl rfl)) pgs_nil))))) (fun _ _ _ _ _ => pts_nil) (fun _ _ _ _ _ => (pv 6)))
      (pss_cons (ps_setLc (i := 4) (own := [("_law_kind", 5), ("_law_name_here", 6), ("_law_size", 7)]) rfl sc__law_stuff.nd rfl rfl (sw_true rfl rfl rfl (by decide +kernel)) (pi_list (pv 1)) (blkOk_by (N := N__law_stuff) (sc := defScope (top 57)) (by decide +kernel)) (fun _ _ _ _ _ => (pg_tupB (n := 3) rfl (pgs_cons (pg_name (i := 5) sc__law_stuff.nd rfl (Or.inl rfl)) (pgs_cons (pg_name (i := 6) sc__law_stuff.nd rfl (Or.inl rfl)) (pgs_cons (pg_name (i := 7) sc__law_stuff.nd rfl (Or.inl rfl)) pgs_nil))))) (fun _ _ _ _ _ => (pts_one (pt_cmpR (op_inK (K := K) rfl) (pv 5) (pe_tup (pa_cons pe_str (pa_cons pe_str pa_nil))) rfl))) (fun _ _ _ _ _ => (pv 6)))
      (pss_one (ps_expr (pe_bm PySem.F.plainAttrs_list PySem.F.slot_list_append PySem.F.type_list_append mt_append (pv 1) (pa_cons (pe_cl c__law_thing hr (pa_cons (pv 0) (pa_cons (pv 3) (pa_cons (pv 4) pa_nil)))) pa_nil)))))))
      (pss_one (ps_ret (pv 1)))))), ?_⟩
  obtain ⟨hp, hSp, hS, k⟩ := h
  refine ⟨by decide, fun F hF => ?_⟩
  have hFp : F ≠ p := hp.held.ne hF
  have hFS : ¬ S F := hS.fresh hF
  refine ⟨by show 5 ≤ sizeLine; decide, fun l hl => ⟨_, rfl, p, 5, rfl, pk1 (hp.mono (Same.new hF)) hl, by decide, by decide, fun r H1 h0 h1 ev => ?_⟩⟩
  obtain ⟨v, hv, ha, hs, ev1⟩ := pk2 (K := K) (hp.mono (Same.new hF)) hl h0 h1 ev
  obtain ⟨n, rfl, hn0, hn1⟩ := ints_in (lo := 0) (hi := 10) (by decide +kernel) hv
  have hF1 : H1 F = some (.lst []) := ev1.kp _ _ upd_same hFp
  have ev01 : Ev p H H1 := ⟨(Kp.new hF).trans ev1.kp, ev1.pot⟩
  clear hv ev h0 h1
  refine ⟨l, _, r, _, rfl, rfl, hs, ha, n, rfl, by omega, by omega, ?_⟩
  have hnn : n.toNat ≤ 10 := by omega
  refine for_it (walk_range (lo := 0) (n := n.toNat)) (fun i σ G => ∃ ds xs x2 x3 x4 x5 x6 x7, σ = [some (.ref p), some (.ref F), x2, x3, x4, x5, x6, x7] ∧ Ev p H G ∧ G F = some (.lst xs) ∧ RpSA (plus S F) G ds xs ∧ (∀ d ∈ ds, IsThing d) ∧ ds.length = i) ?_ (fun _ _ _ _ _ => trivial) ?_ ?_
  · exact ⟨[], [], _, _, _, _, _, _, rfl, ev01, hF1, rfl, (fun d h => by cases h), rfl⟩
  · rintro i x σ G0 G1 hi ⟨ds, xs, x2, x3, x4, x5, x6, x7, rfl, e0, hGF, hxs, hds, hdl⟩ ⟨rfl, rfl⟩
    have hxl : xs.length = ds.length := hxs.length
    refine ⟨_, rfl, F, rfl, ⟨xs, SqL.of hGF⟩, fun D hD => lc_det (walk_list (xs := xs)) (fun i => .str ((ds[i]?.map nameOf).getD "")) hD (Nat.lt_of_le_of_lt (show _ ≤ 10 by omega) (by decide)) (fun G e => SqL.of (e _ _ hGF)) ?_ ?_⟩
    · rintro j y J1 J2 C hj ev2 ⟨rfl, hy⟩ hC
      obtain ⟨d, hd, hrd⟩ := hxs.getV hy
      obtain ⟨b, vs, rfl, hb⟩ := thing_at (hds d (List.mem_of_getElem? hd)) (hrd.mono (Same.kpS ev2))
      refine ⟨b, _, rfl, SqT.of hb, rfl, _, _, rfl, _, _, rfl, _, _, rfl, rfl, ?_⟩
      have := hC _ (Same.refl _)
      rw [hd] at this
      exact ⟨rfl, _, rfl, this⟩
    · intro G2 e2 hl2
      have hl2' : G2 D = some (.lst ((ds.map nameOf).map V.str)) := by
        rw [hl2, ← range_map ds nameOf (d := "") hxl, List.map_map]; rfl
      clear hl2
      have e02 := e0.same e2
      have hDp : D ≠ p := e0.pot.held.ne hD
      have hDF : D ≠ F := fun z => by rw [z, hGF] at hD; cases hD
      have hGF2 := e2 _ _ hGF
      have hxs2 := hxs.mono (Same.kpS e2)
      refine ⟨_, rfl, F, rfl, ⟨xs, SqL.of hGF2⟩, fun D2 hD2 => lc_detF (walk_list (xs := xs)) (fun i => decide (((ds[i]?.map kindOf).getD "") ∈ ([("lock" : Str), "relock"]))) (fun i => .str ((ds[i]?.map nameOf).getD "")) hD2 (Nat.lt_of_le_of_lt (show _ ≤ 10 by omega) (by decide)) (fun G e => SqL.of (e _ _ hGF2)) ?_ ?_⟩
      · rintro j y J1 J2 C N hj ev2 ⟨rfl, hy⟩ hC hN
        obtain ⟨d, hd, hrd⟩ := hxs2.getV hy
        obtain ⟨b, vs, rfl, hb⟩ := thing_at (hds d (List.mem_of_getElem? hd)) (hrd.mono (Same.kpS ev2))
        refine ⟨b, _, rfl, SqT.of hb, rfl, _, _, rfl, _, _, rfl, _, _, rfl, rfl, ?_⟩
        rw [hd] at hC hN
        refine ⟨rfl, ?_⟩
        refine ⟨_, rfl, by show 2 ≤ sizeLine; decide, fun t ht => ⟨t, _, rfl, .inr (SqT.of upd_same), rfl, flat_strs ([("lock" : Str), "relock"]), ?_⟩⟩
        rw [show [V.str "lock", V.str "relock"] = ([("lock" : Str), "relock"]).map V.str from rfl, in_eq]
        have s9 := Same.new (o := .tup (([("lock" : Str), "relock"]).map V.str)) ht
        refine ⟨_, rfl, ?_⟩
        cases hk : decide (kindOf d ∈ ([("lock" : Str), "relock"])) with
        | true => exact iteT ⟨_, rfl, hC hk _ s9⟩
        | false => exact iteF (hN hk _ s9)
      · intro G3 e3 hl3
        rw [given_strs] at hl3
        have hlsl : (((List.range xs.length).filter (fun i => decide (((ds[i]?.map kindOf).getD "") ∈ ([("lock" : Str), "relock"])))).map (fun i => (ds[i]?.map nameOf).getD "")).length ≤ 25 := by
          rw [List.length_map]
          have := List.length_filter_le (fun i => decide (((ds[i]?.map kindOf).getD "") ∈ ([("lock" : Str), "relock"]))) (List.range xs.length)
          rw [List.length_range] at this
          omega
        have hlsf : ∀ x ∈ (((List.range xs.length).filter (fun i => decide (((ds[i]?.map kindOf).getD "") ∈ ([("lock" : Str), "relock"])))).map (fun i => (ds[i]?.map nameOf).getD "")), FitT x := fun x hx => by
          obtain ⟨j, hj, rfl⟩ := List.mem_map.mp hx
          cases hd : ds[j]? with
          | none => exact fitB_ok (by decide +kernel)
          | some d => exact (hds d (List.mem_of_getElem? hd)).name
        revert hl3 hlsl hlsf
        generalize (((List.range xs.length).filter (fun i => decide (((ds[i]?.map kindOf).getD "") ∈ ([("lock" : Str), "relock"])))).map (fun i => (ds[i]?.map nameOf).getD "")) = ls
        intro hl3 hlsl hlsf
        have e03 := e02.same e3
        have hGF3 := e3 _ _ hGF2
        have hxs3 := hxs2.mono (Same.kpS e3)
        have hD3 := e3 _ _ hl2'
        have hD2p : D2 ≠ p := e02.pot.held.ne hD2
        have hAl : Al (plus S F) G3 := (hS.ev e03).plus hGF3
        refine ⟨_, rfl, .inl ⟨rfl, xs, SqL.of hGF3⟩, ?_⟩
        refine ⟨_, rfl, _, rfl, _, rfl, p, D, D2, ds.map nameOf, ls, plus S F, rfl, e03.pot, hDp, hD2p, hD3, hl3, by rw [List.length_map]; omega, hlsl, hlsf, hAl, fun t v G4 ht hrt e4 => ?_⟩
        have hGF4 := e4.kp _ _ hGF3 hFp
        refine ⟨F, xs, v, rfl, rfl, hGF4, Nat.lt_of_le_of_lt (show _ ≤ 10 by omega) (by decide), ?_⟩
        have e04 := e03.trans e4
        have kf : KpS (plus S F) G4 (upd G4 F (.lst (xs ++ [v]))) := KpS.put (.inr rfl)
        refine ⟨ds ++ [t], xs ++ [v], _, _, _, _, _, _, rfl, ⟨e04.kp.mut hF, ?_⟩, upd_same, ((hxs3.mono (e4.kpS (.inl hSp))).app (.cons hrt .nil)).mono kf, fun d hd => ?_, by simp [hdl]⟩
        · obtain ⟨a, b, h1, h2⟩ := e04.pot
          exact ⟨a, b, (upd_ne (Ne.symm hFp)).trans h1, h2⟩
        · rcases List.mem_append.mp hd with hd | hd
          · exact hds d hd
          · have : d = t := by simpa using hd
            rw [this]; exact ht
  · rintro σ G ⟨ds, xs, x2, x3, x4, x5, x6, x7, rfl, e0, hGF, hxs, hds, hdl⟩
    exact ⟨_, rfl, k ds _ G hds (by omega) ⟨F, xs, rfl, hFS, hGF, hxs.less fun a h => .inl h⟩ e0⟩
end
end K12
namespace K12
open PySem PySem.Spec PyProof.Rows L2
/-! ### d.values() of a dict, and list of it -/
def vwO (p d : Addr) : HO := .ext fun h => h.get? p = some { cls := .type "dict_values", data := .fields #[.ref d] }
theorem vwO_ok {P : Program} {w : World} {H : Hp} {h : Heap} {p d : Addr} (e : h.get? p = some { cls := .type "dict_values", data := .fields #[.ref d] }) : ObjOk P w H h p (vwO p d) := ⟨e, ⟨_, e⟩, fun h1 h2 q k => k _ q⟩
def tVals (td : TE) : TE := fun σ H Q => td σ H fun x H1 => ∃ a kvs, x = .ref a ∧ H1 a = some (.dK kvs) ∧ ∀ p, H1 p = none → Q (.ref p) (upd H1 p (vwO p a))
section
variable {X : Cx}
theorem pe_vals {o : Expr} {td : TE} {apos mpos : Pos} (hd : PE X o td) (hbase : attributeBase o "values" X.env (eval o X.env) = eval o X.env := by rfl) (hline : (apos.endLine == mpos.line) = true := by rfl) :
    PE X (.Call (.Attribute o "values" apos) [] [] mpos) (tVals td) := by
  refine ⟨fun pins s σ H Q I h => ?_⟩
  refine wpAny_Call_method0_late hbase hline (thn (hd.run pins s σ H _ I h) fun v s1 ⟨x, H1, I1, r1, a, kvs, ex, ha, q⟩ => ?_)
  subst ex
  obtain rfl : v = Value.ref a := r1
  obtain ⟨_, hsys, vs, rel, dof⟩ := dk_of I1.hok ha
  obtain ⟨ep, dat⟩ := dof.dictAt
  obtain ⟨ob, es, ho, ex, hdat, hko, hpr, hnd⟩ := dat
  refine ⟨"dict", "dict.values", F.plainAttrs_dict, F.slot_dict_values, F.type_dict_values, ⟨ob, ho, ex.1⟩, fun b e => ?_, Calls.callWith_builtin rfl (PySem.evalArgs_none ?_)⟩
  · cases e
    exact ⟨ob, ho, ex.2.1⟩
  refine call_meetsIn F.slot_dict_values ⟨ob, ho, ex.1⟩ F.entry_dict_values (F.args_dict_values_1 _) (meets_dict_values (mixKind X.prog X.w) a hsys) ⟨⟨vs, dof⟩, ?_⟩
  exact ⟨.ref s1.heap.objs.size, _, I1.laid (t' := s1.toks) (o := vwO s1.heap.objs.size a) (fun b o q => Heap.get?_push_of_some _ q) (Nat.le_refl _) (vwO_ok (Heap.get?_push_size _ rfl)), rfl, q _ (I1.hok.fresh (Nat.le_refl _))⟩
theorem call_listV (hc : X.calm = true) : CallR X (.type "list") (fun xs H Q => ∃ (v a : Addr) (kvs : List (Key × V)), xs = [.ref v] ∧ H v = some (vwO v a) ∧ H a = some (.dK kvs) ∧ ∀ l, H l = none → Q (.ref l) (upd H l (.lst (kvs.map (·.2))))) := by
  intro pins s σ H xs us Q I r h
  obtain ⟨v, a, kvs, rfl, hv, ha, q⟩ := h
  obtain ⟨u, rfl, ru⟩ := vals1 r
  cases ru
  obtain ⟨z, lo, vs, rel, dd⟩ := dk_of I.hok ha
  obtain ⟨ep, hat⟩ := dd.dictAt
  have hview : s.heap.get? v = some { cls := .type "dict_values", data := .fields #[.ref a] } := (show ObjOk X.prog X.w H s.heap v (vwO v a) from I.hok v _ hv).1
  refine PySem.W.kdl_call (PySem.W.kdl_values (knd := mixKind X.prog X.w) (kvs := vs) (ep := ep)) (I.ok.hd hc) ⟨⟨_, hview, rfl, rfl⟩, hat⟩ (by rw [← rel.length]; exact z) fun h' tk acc c' hk hD hacc => ?_
  have e1 : acc.toList = vs.map (·.2) := PySem.W.kdl_vals_eq _ (by rw [Array.length_toList]; exact hacc.1) fun j u e => hacc.2 j u (by rw [← Array.getElem?_toList]; exact e)
  have hv2 : Vals (kvs.map (·.2)) acc.toList := by
    rw [e1]
    clear e1 hacc hD hk hat dd q ha
    unfold KV at rel
    induction rel with
    | nil => exact .nil
    | cons h t ih => exact .cons h.2 (ih (Nat.le_of_succ_le z))
  exact ⟨.ref s.heap.objs.size, _, I.laid (t' := tk) (o := .lst (kvs.map (·.2))) hk (Nat.le_refl _) (show ObjOk X.prog X.w _ _ _ (.lst (kvs.map (·.2))) from ⟨by rw [List.length_map]; exact z, acc.toList, c', hv2, by rw [Array.toArray_toList]; exact hD⟩), rfl, q _ (I.hok.fresh (Nat.le_refl _))⟩
end
end K12
namespace K12
open PySem PySem.Spec PyProof.Rows L2
def hasK (a b : Str) : Bool := decide (a = b) || (decide (b = "lock") && decide (a = "relock"))
def areSome (ks : Ks) (ss : List Str) : Bool := ss.all fun s => !decide (1 < s.length) || ks.any fun q => hasK q.2 s
theorem sorts_short : (lsorts.all fun q => q.2.all fun s => decide (s.length ≤ 20)) = true := by decide +kernel
theorem sorts_len3 : (lsorts.all fun q => decide (q.2.length ≤ 3)) = true := by decide +kernel
def spHas : Sp := fun vs H Q _ => ∃ a b, vs = [.str a, .str b] ∧ ∀ H', Same H H' → Q (.bl (hasK a b)) H'
def spAre : Sp := fun vs H Q _ => ∃ (p dk : Addr) (ks : Ks) (z : Str) (ss : List Str), vs = [.str z, .ref dk] ∧ Kd p H dk ks ∧ ks.length ≤ 1000 ∧ lsorts.lookup z = some ss ∧ ∀ H', Same H H' → Q (.bl (areSome ks ss)) H'
theorem any_map {α : Type} (l : List α) (f : α → Bool) : (l.map f).any id = l.any f := by rw [List.any_map]; rfl
section
variable {P : Program} {w : World} {K : PySem.W.Frag} {mg : Str → Option Value} {base : Heap}
abbrev N__law_has_kind : List Str := ["_law_kind", "_law_sort"]
theorem sc__law_has_kind : FnScope N__law_has_kind ["_law_kind", "_law_sort"] (defScope (top 59)) := sc_of (by decide +kernel)
-- slots: 0:_law_kind 1:_law_sort
theorem ok__law_has_kind (T : Tx w K mg) : Cl P w K mg base CX0 1 "_law_has_kind" spHas := by
  refine T.d__law_has_kind.cl sc__law_has_kind (fun _ _ _ _ _ _ us hl => match us, hl with | [_, _], _ => rfl) (fun vs H Q E h => ?_) fun f cdv A outer s H vs Q E hr h => ?_
  · obtain ⟨_, _, rfl, _⟩ := h; rfl
  have hu := hu_of hr
  have hu0 := hr.units0
  have hu64 := hr.units
  obtain ⟨a, b, rfl, h⟩ := h
  refine ⟨_, PSs.nox ((pss_one (ps_ret (pe_or (pe_cmpR op_eq (pv 0) (pv 1) (nomark _)) (pe_one (pe_and (pe_cmpR op_eq (pv 1) pe_str (nomark _)) (pe_one (pe_cmpR op_eq (pv 0) pe_str (nomark _))))))))), ?_⟩
  have kk := h H (Same.refl _)
  refine ⟨_, rfl, _, rfl, rfl, ?_⟩
  have e1 : decide (V.str a = V.str b) = decide (a = b) := by simp
  have e2 : decide (V.str b = V.str "lock") = decide (b = "lock") := by simp
  have e3 : decide (V.str a = V.str "relock") = decide (a = "relock") := by simp
  unfold hasK at kk
  rw [e1]
  refine ⟨_, rfl, ?_⟩
  cases h1 : decide (a = b) with
  | true => rw [h1] at kk; exact iteT kk
  | false =>
    rw [h1] at kk
    refine iteF ⟨_, rfl, rfl, _, rfl, ?_⟩
    rw [e2]
    cases h2 : decide (b = "lock") with
    | true =>
      rw [h2] at kk
      refine iteT ⟨_, rfl, rfl, ?_⟩
      rw [e3]; exact kk
    | false => rw [h2] at kk; exact iteF kk
abbrev N__law_are_some : List Str := ["_law_word", "_law_kinds", "_law_here", "_law_sort", "_law_kind"]
theorem sc__law_are_some : FnScope N__law_are_some ["_law_word", "_law_kinds"] (defScope (top 60)) := sc_of (by decide +kernel)
-- slots: 0:_law_word 1:_law_kinds 2:_law_here 3:_law_sort 4:_law_kind
theorem ok__law_are_some (T : Tx w K mg) (c__law_sorts : Cl P w K mg base CX0 1 "_law_sorts" spSorts) (c__law_has_kind : Cl P w K mg base CX0 1 "_law_has_kind" spHas) : Cl P w K mg base CX0 2 "_law_are_some" spAre := by
  refine T.d__law_are_some.cl sc__law_are_some (fun _ _ _ _ _ _ us hl => match us, hl with | [_, _], _ => rfl) (fun vs H Q E h => ?_) fun f cdv A outer s H vs Q E hr h => ?_
  · obtain ⟨_, _, _, _, _, rfl, _⟩ := h; rfl
  have hu := hu_of hr
  have hu0 := hr.units0
  have hu64 := hr.units
  obtain ⟨p, dk, ks, z, ss, rfl, h⟩ := h
  refine ⟨_, PSs.nox ((pss_cons (ps_set (i := 2) sc__law_are_some.nd rfl (Or.inl rfl) (pe_callTy (call_listV rfl) rfl T.f_list b_list (pa_cons (pe_vals (pv 1)) pa_nil)))
      (pss_cons (ps_for PassesOwn.never rfl (pi_list (pe_dget hu (pe_cl0 c__law_sorts hr) (pv 0) (fun _ _ => rfl))) (pg_name (i := 3) sc__law_are_some.nd rfl (Or.inr rfl)) (pss_one (ps_if (PW.pt (pw_and (pt_cmpR op_gt (pe_callB call_len_str rfl T.f_len b_len (pa_cons (pv 3) pa_nil)) pe_int (nomark _)) (pw_and1 (pt_not (pt_val (pe_callB (cr_any rfl) rfl T.f_any b_any (pa_cons (pe_lc (own := [("_law_kind", 4)]) rfl sc__law_are_some.nd (pi_list (pv 2)) (blkOk_by (N := N__law_are_some) (sc := defScope (top 60)) (by decide +kernel)) (fun _ _ _ _ _ => (pg_name (i := 4) sc__law_are_some.nd rfl (Or.inl rfl))) (fun _ _ _ _ _ => pts_nil) (fun _ _ _ _ _ => (pe_cl c__law_has_kind hr (pa_cons (pv 4) (pa_cons (pv 3) pa_nil))))) pa_nil))))))) (pss_one (ps_ret pe_bl)) pss_nil)))
      (pss_one (ps_ret pe_bl))))), ?_⟩
  obtain ⟨hkd, hks, hz, k⟩ := h
  refine ⟨_, rfl, dk, kvOf ks, rfl, hkd.2, fun v hv => ⟨v, dk, kvOf ks, rfl, upd_same, (upd_ne (ne_of_none hkd.2 hv)).trans hkd.2, fun l hl => ?_⟩⟩
  have s2 : Same H (upd (upd H v (vwO v dk)) l (.lst ((kvOf ks).map (·.2)))) := (Same.new hv).trans (Same.new hl)
  have hl2 : upd (upd H v (vwO v dk)) l (.lst ((kvOf ks).map (·.2))) l = some (.lst ((ks.map (·.2)).map V.str)) := by
    rw [upd_same]; unfold kvOf; rw [List.map_map, List.map_map]; rfl
  revert s2 hl2
  generalize upd (upd H v (vwO v dk)) l (.lst ((kvOf ks).map (·.2))) = H2
  intro s2 hl2
  refine ⟨rfl, fun H3 sd s3 hsd => ?_⟩
  rcases hsd.find z with ⟨e, _⟩ | ⟨ss', sa, e, g, hsa⟩
  · rw [hz] at e; cases e
  rw [hz] at e
  cases e
  have s03 := s2.trans s3
  have hl3 := s3 _ _ hl2
  have hss3 : ss.length ≤ 3 := by
    have := List.all_eq_true.mp sorts_len3 _ (lk_mem hz)
    simpa using this
  have hshort : ∀ s ∈ ss, s.length ≤ 20 := fun s hs => by
    have := List.all_eq_true.mp (List.all_eq_true.mp sorts_short _ (lk_mem hz)) s hs
    simpa using this
  refine ⟨_, rfl, sd, _, rfl, g, sa, rfl, ⟨_, SqL.of hsa⟩, ?_⟩
  refine for_it (walk_list (xs := ss.map V.str)) (fun i σ G => ∃ x3 x4, σ = [some (.str z), some (.ref dk), some (.ref l), x3, x4] ∧ Same H3 G ∧ areSome ks ss = areSome ks (ss.drop i)) ?_ ?_ ?_ ?_
  · exact ⟨none, none, rfl, Same.refl _, rfl⟩
  · rintro i σ G hi ⟨x3, x4, rfl, s4, _⟩
    exact SqL.of (s4 _ _ hsa)
  · rintro i x σ G0 G1 hi ⟨x3, x4, rfl, s4, hgo⟩ ⟨rfl, hy⟩
    rw [List.getElem?_map] at hy
    cases hsi : ss[i]? with
    | none => rw [hsi] at hy; cases hy
    | some s =>
      rw [hsi] at hy
      cases hy
      have hmem := List.mem_of_getElem? hsi
      have hi' := (List.getElem?_eq_some_iff.mp hsi).1
      have hdrop : areSome ks (ss.drop i) = ((!decide (1 < s.length) || ks.any fun q => hasK q.2 s) && areSome ks (ss.drop (i + 1))) := by
        rw [List.drop_eq_getElem_cons hi', (List.getElem?_eq_some_iff.mp hsi).2]; rfl
      rw [hdrop] at hgo
      have s04 := s03.trans s4
      refine ⟨_, rfl, s, rfl, Nat.le_trans (hshort s hmem) (by decide), _, _, rfl, rfl, _, rfl, ?_⟩
      by_cases h1 : 1 < s.length
      · rw [decide_eq_true (show (1 : Int) < (s.length : Nat) by omega)]
        rw [decide_eq_true h1] at hgo
        refine iteT ?_
        have hl4 := s4 _ _ hl3
        refine ⟨_, rfl, l, rfl, ⟨_, SqL.of hl4⟩, fun D hD => lc_det (walk_list (xs := (ks.map (·.2)).map V.str)) (fun i => .bl ((ks[i]?.map (fun q => hasK q.2 s)).getD false)) hD (by rw [List.length_map, List.length_map]; exact Nat.lt_of_le_of_lt hks (by decide)) (fun J e => SqL.of (e _ _ hl4)) ?_ ?_⟩
        · rintro j y J1 J2 C hj s5 ⟨rfl, hy2⟩ hC
          rw [List.getElem?_map, List.getElem?_map] at hy2
          cases hkj : ks[j]? with
          | none => rw [hkj] at hy2; cases hy2
          | some q =>
            rw [hkj] at hy2 hC
            cases hy2
            refine ⟨rfl, ?_⟩
            exact ⟨_, rfl, _, rfl, q.2, s, rfl, fun J3 s6 => hC J3 s6⟩
        · intro J s5 hlJ
          refine ⟨D, (List.range ks.length).map fun i => ((ks[i]?.map (fun q => hasK q.2 s)).getD false), rfl, SqL.of ?_, ?_⟩
          · rw [hlJ, List.length_map, List.length_map, List.map_map]; rfl
          · rw [range_map ks (fun q => hasK q.2 s) rfl, any_map]
            refine ⟨_, rfl, ?_⟩
            cases ha : ks.any (fun q => hasK q.2 s) with
            | false =>
              rw [ha] at hgo
              refine iteT ?_
              have := k J (s04.trans s5)
              rw [hgo] at this
              exact this
            | true =>
              rw [ha] at hgo
              exact iteF ⟨_, _, rfl, s4.trans s5, by simpa using hgo⟩
      · rw [decide_eq_false (show ¬ (1 : Int) < (s.length : Nat) by omega)]
        rw [decide_eq_false h1] at hgo
        exact iteF ⟨_, _, rfl, s4, by simpa using hgo⟩
  · rintro σ G ⟨x3, x4, rfl, s4, hgo⟩
    rw [List.length_map, List.drop_length] at hgo
    have := k G (s03.trans s4)
    rw [hgo] at this
    exact this
end
end K12
namespace K12
open PySem PySem.Spec PyProof.Rows L2
/-- the kinds that the law's makers see -/
structure KsG (ks : Ks) : Prop where
  len : ks.length ≤ 100
  fit : ∀ q ∈ ks, FitT q.1 ∧ FitT q.2
  task : ∃ q ∈ ks, q.2 = "task"
  nd : (ks.map (·.1)).Nodup
theorem lookup_nd : ∀ {ks : Ks} {q : Str × Str}, (ks.map (·.1)).Nodup → q ∈ ks → ks.lookup q.1 = some q.2
  | [], _, _, h => by cases h
  | (n, k) :: ks, q, hn, h => by
    rw [List.map_cons, List.nodup_cons] at hn
    rw [lk_cons]
    rcases List.mem_cons.mp h with rfl | h
    · rw [if_pos rfl]
    · have hm : q.1 ∈ ks.map (·.1) := List.mem_map_of_mem h
      rw [if_neg (fun e : q.1 = n => hn.1 (by rw [e] at hm; exact hm)), lookup_nd hn.2 h]
/-- a lock and its end -/
theorem unlock_same {H G : Hp} {d : Addr} {u : HO} {od : Obj} (h : H d = some u) (s : Same (upd H d (.frz od u)) G) : Same H (upd G d u) := fun b o e => by
  by_cases z : b = d
  · rw [z, upd_same]; rw [z, h] at e; exact e
  · rw [upd_ne z]; exact s b o ((upd_ne z).trans e)
def oneSorts : List Str := (["n", "m", "k", "w", "d"] : List String).map Str.ofString
theorem sorts_one : (lsorts.all fun q => q.2.all fun s => decide (1 < s.length) || decide (s ∈ oneSorts)) = true := by decide +kernel
/-- a sort of which there is some -/
def SortG (b : Bool) (ks : Ks) (s : Str) : Prop := s = "n" ∨ s = "m" ∨ s = "k" ∨ s = "w" ∨ (s = "d" ∧ b = true) ∨ (¬ s ∈ oneSorts ∧ (ks.any fun q => hasK q.2 s) = true)
/-- a word that can be made a deed of -/
def WordG (b : Bool) (ks : Ks) (z : Str) : Prop := FitT z ∧ ∃ ss, lsorts.lookup z = some ss ∧ areSome ks ss = true ∧ (b = false → ¬ ("d" : Str) ∈ ss)
theorem WordG.sort {b : Bool} {ks : Ks} {z : Str} {ss : List Str} (h : WordG b ks z) (e : lsorts.lookup z = some ss) : ∀ s ∈ ss, SortG b ks s := by
  obtain ⟨_, ss', e', ha, hd⟩ := h
  rw [e] at e'
  cases e'
  intro s hs
  have h1 := List.all_eq_true.mp (List.all_eq_true.mp sorts_one _ (lk_mem e)) s hs
  have h2 := List.all_eq_true.mp ha s hs
  by_cases ho : s ∈ oneSorts
  · have : s = "n" ∨ s = "m" ∨ s = "k" ∨ s = "w" ∨ s = "d" := by
      unfold oneSorts at ho
      simpa [List.map_cons, List.map_nil, List.mem_cons] using ho
    rcases this with h | h | h | h | h
    · exact .inl h
    · exact .inr (.inl h)
    · exact .inr (.inr (.inl h))
    · exact .inr (.inr (.inr (.inl h)))
    · refine .inr (.inr (.inr (.inr (.inl ⟨h, ?_⟩))))
      cases b with
      | true => rfl
      | false => exact absurd (h ▸ hs) (hd rfl)
  · rw [decide_eq_false ho, Bool.or_false] at h1
    rw [h1] at h2
    exact .inr (.inr (.inr (.inr (.inr ⟨ho, by simpa using h2⟩))))
def spGPart (b : Bool) : Sp := fun vs H Q _ => ∃ (p dk : Addr) (ks : Ks) (s : Str) (S : Addr → Prop), vs = [.ref p, .str s, .ref dk] ∧ Pot p H ∧ Kd p H dk ks ∧ KsG ks ∧ SortG b ks s ∧ S p ∧ Al S H ∧
  ∀ d v H', Ok 12 (if b = true then 1 else 0) (if b = true then 1212 else 300) d → RpS S H' d v → Ev p H H' → Q v H'
def spGDeed (b : Bool) : Sp := fun vs H Q _ => ∃ (p wl dk : Addr) (ws : List Str) (ks : Ks) (S : Addr → Prop), vs = [.ref p, .ref wl, .ref dk] ∧ Pot p H ∧ wl ≠ p ∧ H wl = some (.lst (ws.map V.str)) ∧ ws ≠ [] ∧ ws.length ≤ 100 ∧ (∀ z ∈ ws, WordG b ks z) ∧ Kd p H dk ks ∧ KsG ks ∧ S p ∧ Al S H ∧
  ∀ d v H', Ok 12 (if b = true then 2 else 1) (if b = true then 4860 else 1212) d → RpS S H' d v → Ev p H H' → Q v H'
theorem within_ok : (withinWs.all fun z => fitB z && (match lsorts.lookup z with | some ss => !decide (("d" : Str) ∈ ss) | none => false)) = true := by decide +kernel
section
variable {P : Program} {w : World} {K : PySem.W.Frag} {mg : Str → Option Value} {base : Heap}
abbrev N__law_part : List Str := ["_law_pot_here", "_law_sort", "_law_kinds", "_law_words", "_law_some", "_law_word", "_law_name_here"]
theorem sc__law_part : FnScope N__law_part ["_law_pot_here", "_law_sort", "_law_kinds"] (defScope (top 58)) := sc_of (by decide +kernel)
-- slots: 0:_law_pot_here 1:_law_sort 2:_law_kinds 3:_law_words 4:_law_some 5:_law_word 6:_law_name_here
theorem ok__law_part (T : Tx w K mg) (k : Nat) (b : Bool) (hk : 2 ≤ k) (spX : Sp) (hX : b = true → ∀ vs H Q E, spGDeed false vs H Q E → spX vs H Q E) (c__law_take : Cl P w K mg base CX0 1 "_law_take" spTake) (c__law_name : Cl P w K mg base CX0 2 "_law_name" spGName) (c__law_has_kind : Cl P w K mg base CX0 1 "_law_has_kind" spHas) (c__law_are_some : Cl P w K mg base CX0 2 "_law_are_some" spAre) (c__law_deed : Cl P w K mg base CX0 k "_law_deed" spX) : Cl P w K mg base CX0 (k + 1) "_law_part" (spGPart b) := by
  refine T.d__law_part.cl sc__law_part (fun _ _ _ _ _ _ us hl => match us, hl with | [_, _, _], _ => rfl) (fun vs H Q E h => ?_) fun f cdv A outer s H vs Q E hr h => ?_
  · obtain ⟨_, _, _, _, _, rfl, _⟩ := h; rfl
  have hu := hu_of hr
  have hu0 := hr.units0
  have hu64 := hr.units
  obtain ⟨p, dk, ks, s, S, rfl, h⟩ := h
  refine ⟨_, PSs.nox ((pss_cons (ps_if (pt_cmpR op_eq (pv 1) pe_str (nomark _)) (pss_one (ps_ret (pe_ix ix_list (pe_lst (pa_cons (pe_op op_sub (pe_cl c__law_take hr (pa_cons (pv 0) (pa_cons pe_int pa_nil))) pe_int) (pa_cons (pe_op op_sub (pe_cl c__law_take hr (pa_cons (pv 0) (pa_cons pe_int pa_nil))) pe_int) pa_nil))) (pe_cl c__law_take hr (pa_cons (pv 0) (pa_cons pe_int pa_nil))) (fun _ _ => rfl)))) pss_nil)
      (pss_cons (ps_if (pt_cmpR op_eq (pv 1) pe_str (nomark _)) (pss_one (ps_ret (pe_cl c__law_take hr (pa_cons (pv 0) (pa_cons pe_int pa_nil))))) pss_nil)
      (pss_cons (ps_if (pt_cmpR op_eq (pv 1) pe_str (nomark _)) (pss_one (ps_ret (pe_cl c__law_take hr (pa_cons (pv 0) (pa_cons pe_int pa_nil))))) pss_nil)
      (pss_cons (ps_if (pt_cmpR op_eq (pv 1) pe_str (nomark _)) (pss_one (ps_ret (pe_cl c__law_name hr (pa_cons (pv 0) (pa_cons (pe_lst pa_nil) pa_nil))))) pss_nil)
      (pss_cons (ps_if (pt_cmpR op_eq (pv 1) pe_str (nomark _)) (pss_cons (ps_set (i := 3) sc__law_part.nd rfl (Or.inl rfl) (pe_lst (pa_cons pe_str (pa_cons pe_str (pa_cons pe_str (pa_cons pe_str (pa_cons pe_str (pa_cons pe_str (pa_cons pe_str pa_nil)))))))))
      (pss_one (ps_ret (pe_cl c__law_deed hr (pa_cons (pv 0) (pa_cons (pe_lc (own := [("_law_word", 5)]) rfl sc__law_part.nd (pi_list (pv 3)) (blkOk_by (N := N__law_part) (sc := defScope (top 58)) (by decide +kernel)) (fun _ _ _ _ _ => (pg_name (i := 5) sc__law_part.nd rfl (Or.inl rfl))) (fun _ _ _ _ _ => (pts_one (pt_val (pe_cl c__law_are_some hr (pa_cons (pv 5) (pa_cons (pv 2) pa_nil)))))) (fun _ _ _ _ _ => (pv 5))) (pa_cons (pv 2) pa_nil))))))) pss_nil)
      (pss_cons (ps_lock (ps_setLc (i := 4) (own := [("_law_name_here", 6)]) rfl sc__law_part.nd rfl rfl (sw_true rfl rfl rfl (by decide +kernel)) (pi_keys (pv 2)) (blkOk_by (N := N__law_part) (sc := defScope (top 58)) (by decide +kernel)) (fun _ _ _ _ _ => (pg_name (i := 6) sc__law_part.nd rfl (Or.inl rfl))) (fun _ _ _ _ _ => (pts_one (pt_val (pe_cl c__law_has_kind hr (pa_cons (pe_dget hu (pv 2) (pv 6) (fun _ _ => rfl)) (pa_cons (pv 1) pa_nil)))))) (fun _ _ _ _ _ => (pv 6))))
      (pss_one (ps_ret (pe_ix ix_list (pv 4) (pe_cl c__law_take hr (pa_cons (pv 0) (pa_cons (pe_callB call_len_seq rfl T.f_len b_len (pa_cons (pv 4) pa_nil)) pa_nil))) (fun _ _ => rfl))))))))))), ?_⟩
  obtain ⟨hp, hkd, hks, hs, hSp, hS, kk⟩ := h
  have leaf : ∀ d, Ok 12 0 300 d → Ok 12 (if b = true then 1 else 0) (if b = true then 1212 else 300) d := fun d h => by
    cases b with
    | true => exact h.mono (Nat.le_refl _) (by decide) (by decide)
    | false => exact h
  have num : ∀ (i : Int) (G : Hp), i.natAbs ≤ 5000 → Ev p H G → Q (.int i) G := fun i G h e => kk (.int i) _ G (leaf _ (.int h)) rfl e
  refine ⟨_, rfl, rfl, _, rfl, ?_⟩
  have ne : ∀ z : Str, decide (V.str s = V.str z) = decide (s = z) := fun z => by simp
  rw [ne]
  by_cases h1 : s = "n"
  · rw [decide_eq_true h1]
    refine iteT ⟨_, rfl, p, 2001, rfl, hp, by decide, by decide, fun r H1 h0 h1 e1 => ⟨_, _, rfl, rfl, _, rfl, p, 3, rfl, e1.pot, by decide, by decide, fun r2 H2 h20 h21 e2 => ⟨_, _, rfl, rfl, by show 2 ≤ sizeLine; decide, fun l hl => ⟨_, rfl, p, 2, rfl, pk1 e2.pot hl, by decide, by decide, fun r3 H3 h30 h31 e3 => ?_⟩⟩⟩⟩
    obtain ⟨v, hv, ha, hsq, e4⟩ := pk2 (K := K) e2.pot hl h30 h31 e3
    have : ∃ i : Int, v = .int i ∧ i.natAbs ≤ 5000 := by
      rcases List.mem_cons.mp hv with rfl | hv
      · exact ⟨_, rfl, by omega⟩
      rcases List.mem_cons.mp hv with rfl | hv
      · exact ⟨_, rfl, by omega⟩
      · cases hv
    obtain ⟨i, rfl, hi⟩ := this
    exact ⟨l, _, r3, _, rfl, rfl, hsq, ha, num i H3 hi ((e1.trans e2).trans e4)⟩
  rw [decide_eq_false h1]
  refine iteF ⟨_, rfl, rfl, _, rfl, ?_⟩
  rw [ne]
  by_cases h2 : s = "m"
  · rw [decide_eq_true h2]
    exact iteT ⟨_, rfl, p, 13, rfl, hp, by decide, by decide, fun r H1 h0 h1 e1 => num r H1 (by omega) e1⟩
  rw [decide_eq_false h2]
  refine iteF ⟨_, rfl, rfl, _, rfl, ?_⟩
  rw [ne]
  by_cases h3 : s = "k"
  · rw [decide_eq_true h3]
    exact iteT ⟨_, rfl, p, 10, rfl, hp, by decide, by decide, fun r H1 h0 h1 e1 => num r H1 (by omega) e1⟩
  rw [decide_eq_false h3]
  refine iteF ⟨_, rfl, rfl, _, rfl, ?_⟩
  rw [ne]
  by_cases h4 : s = "w"
  · rw [decide_eq_true h4]
    refine iteT ⟨_, rfl, by decide, fun l hl => ?_⟩
    have s1 := Same.new (o := .lst []) hl
    exact ⟨p, l, [], rfl, hp.mono s1, hp.held.ne hl, upd_same, by decide, fun x H1 hx e1 => kk (.str x) _ H1 (leaf _ (.str hx)) rfl ((Ev.of hp s1).trans e1)⟩
  rw [decide_eq_false h4]
  refine iteF ⟨_, rfl, rfl, _, rfl, ?_⟩
  rw [ne]
  by_cases h5 : s = "d"
  · rw [decide_eq_true h5]
    have hb : b = true := by
      rcases hs with h | h | h | h | h | h
      · exact absurd h h1
      · exact absurd h h2
      · exact absurd h h3
      · exact absurd h h4
      · exact h.2
      · exact absurd (by rw [h5]; decide +kernel : s ∈ oneSorts) h.1
    refine iteT ⟨by show 7 ≤ sizeLine; decide, fun l hl => ?_⟩
    have s1 : Same H (upd H l (.lst [.str "lock", .str "enter", .str "await", .str "send", .str "receive", .str "join", .str "result"])) := Same.new hl
    have hl1 : upd H l (.lst [.str "lock", .str "enter", .str "await", .str "send", .str "receive", .str "join", .str "result"]) l = some (.lst [.str "lock", .str "enter", .str "await", .str "send", .str "receive", .str "join", .str "result"]) := upd_same
    revert s1 hl1
    generalize upd H l (.lst [.str "lock", .str "enter", .str "await", .str "send", .str "receive", .str "join", .str "result"]) = H1
    intro s1 hl1
    have hl1 : H1 l = some (.lst (withinWs.map V.str)) := by rw [hl1, within7]; rfl
    have hkd1 := hkd.mono (.of s1)
    refine ⟨_, rfl, _, rfl, l, rfl, ⟨_, SqL.of hl1⟩, fun D hD => lc_detF (walk_list (xs := withinWs.map V.str)) (fun i => areSome ks ((lsorts.lookup (withinWs.getD i "")).getD [])) (fun i => .str (withinWs.getD i "")) hD (by decide +kernel) (fun G e => SqL.of (e _ _ hl1)) ?_ ?_⟩
    · rintro i y J1 J2 C N hi s2 ⟨rfl, hy⟩ hC hN
      rw [List.getElem?_map] at hy
      cases hw : withinWs[i]? with
      | none => rw [hw] at hy; cases hy
      | some z =>
        rw [hw] at hy
        cases hy
        have ez : withinWs.getD i "" = z := by simp [List.getD, hw]
        rw [ez] at hC hN
        have hzo := List.all_eq_true.mp within_ok z (List.mem_of_getElem? hw)
        rw [Bool.and_eq_true] at hzo
        cases hlk : lsorts.lookup z with
        | none => rw [hlk] at hzo; cases hzo.2
        | some ss =>
          rw [hlk] at hC hN
          refine ⟨rfl, ?_⟩
          refine ⟨_, rfl, _, rfl, p, dk, ks, z, ss, rfl, hkd1.mono (.of s2), Nat.le_trans hks.len (by decide), hlk, fun J3 s3 => ⟨_, rfl, ?_⟩⟩
          cases ha : areSome ks ss with
          | true => exact iteT ⟨_, rfl, hC ha _ s3⟩
          | false => exact iteF (hN ha _ s3)
    · intro J s2 hlJ
      rw [given_strs] at hlJ
      have s02 := s1.trans s2
      have hw7 : withinWs.length = 7 := by rw [within7]; rfl
      refine ⟨_, rfl, hX hb _ _ _ _ ⟨p, D, dk, _, ks, S, rfl, hp.mono s02, (hp.mono s1).held.ne hD, hlJ, ?_, ?_, ?_, hkd.mono (.of s02), hks, hSp, hS.same s02, fun d v H' hd hr e => kk d v H' (by rw [hb]; exact hd) hr ((Ev.of hp s02).trans e)⟩⟩
      · intro hnil
        have h5m : 5 ∈ (List.range (withinWs.map V.str).length).filter (fun i => areSome ks ((lsorts.lookup (withinWs.getD i "")).getD [])) := by
          refine List.mem_filter.mpr ⟨List.mem_range.mpr (by rw [List.length_map, hw7]; decide), ?_⟩
          have e1 : (lsorts.lookup (withinWs.getD 5 "")).getD [] = [("task" : Str)] := by decide +kernel
          rw [e1]
          obtain ⟨q, hq, hq2⟩ := hks.task
          have : (ks.any fun q => hasK q.2 "task") = true := List.any_eq_true.mpr ⟨q, hq, by unfold hasK; rw [hq2]; decide +kernel⟩
          show ((!decide (1 < ("task" : Str).length) || ks.any fun q => hasK q.2 "task") && true) = true
          rw [this]; simp
        have := List.mem_map_of_mem (f := fun i => withinWs.getD i "") h5m
        rw [hnil] at this
        cases this
      · rw [List.length_map]
        have e : (List.range (withinWs.map V.str).length).length = 7 := by rw [List.length_range, List.length_map, hw7]
        exact Nat.le_trans (List.length_filter_le _ _) (Nat.le_trans (Nat.le_of_eq e) (by decide))
      · intro z hz
        obtain ⟨i, hi, rfl⟩ := List.mem_map.mp hz
        obtain ⟨hi1, hi2⟩ := List.mem_filter.mp hi
        have hi3 : i < withinWs.length := by have := List.mem_range.mp hi1; rwa [List.length_map] at this
        have ez : withinWs.getD i "" = withinWs[i] := by simp [List.getD, hi3]
        have hzo := List.all_eq_true.mp within_ok _ (List.getElem_mem hi3)
        rw [Bool.and_eq_true] at hzo
        rw [ez] at hi2 ⊢
        cases hlk : lsorts.lookup withinWs[i] with
        | none => rw [hlk] at hzo; cases hzo.2
        | some ss =>
          rw [hlk] at hzo hi2
          exact ⟨fitB_ok hzo.1, ss, hlk, hi2, fun _ => by simpa using hzo.2⟩
  rw [decide_eq_false h5]
  refine iteF ?_
  have hany : (ks.any fun q => hasK q.2 s) = true := by
    rcases hs with h | h | h | h | h | h
    · exact absurd h h1
    · exact absurd h h2
    · exact absurd h h3
    · exact absurd h h4
    · exact absurd h.1 h5
    · exact h.2
  refine ⟨dk, _, hkd.2, trivial, fun od => ?_⟩
  have hkl : (kvOf ks).length = ks.length := kv_len ks
  have hDp : ∀ D, upd H dk (.frz od (.dK (kvOf ks))) D = none → D ≠ p := fun D hD z => by
    rw [z, upd_ne (Ne.symm hkd.1)] at hD
    exact hp.held hD
  refine ⟨_, rfl, dk, od, rfl, .inl ⟨kvOf ks, upd_same, fun D hD => lc_detF (walk_keys (kvs := kvOf ks)) (fun i => (ks[i]?.map fun q => hasK q.2 s).getD false) (fun i => .str ((ks[i]?.map (·.1)).getD ("" : Str))) hD (by rw [hkl]; exact Nat.lt_of_le_of_lt hks.len (by decide)) (fun G e => e _ _ upd_same) ?_ ?_⟩⟩
  · rintro i y J1 J2 C N hi s2 ⟨rfl, k0, v0, hkv, rfl⟩ hC hN
    unfold kvOf at hkv
    rw [List.getElem?_map] at hkv
    cases hq : ks[i]? with
    | none => rw [hq] at hkv; cases hkv
    | some q =>
      rw [hq] at hkv hC hN
      cases hkv
      have hg : DGet J2 dk (.str q.1) (some (.str q.2)) := by
        refine .inl ⟨kvOf ks, Sum.inr q.1, .inr ⟨od, s2 _ _ upd_same⟩, rfl, ?_⟩
        rw [valV_kv, lookup_nd hks.nd (List.mem_of_getElem? hq)]; rfl
      refine ⟨rfl, ?_⟩
      refine ⟨_, rfl, _, rfl, dk, _, rfl, hg, _, rfl, q.2, s, rfl, fun J3 s3 => ⟨_, rfl, ?_⟩⟩
      cases ha : hasK q.2 s with
      | true => exact iteT ⟨_, rfl, hC ha _ s3⟩
      | false => exact iteF (hN ha _ s3)
  · intro G s2 hlG
    rw [given_strs] at hlG
    refine ⟨s2 _ _ upd_same, ?_⟩
    have s3 : Same H (upd G dk (.dK (kvOf ks))) := unlock_same hkd.2 s2
    have hDdk : D ≠ dk := fun z => by rw [z, upd_same] at hD; cases hD
    have hlG2 : upd G dk (.dK (kvOf ks)) D = _ := (upd_ne hDdk).trans hlG
    have hD' := hDp D hD
    have hne : 1 ≤ (((List.range (kvOf ks).length).filter (fun i => (ks[i]?.map fun q => hasK q.2 s).getD false)).map (fun i => (ks[i]?.map (·.1)).getD ("" : Str))).length := by
      obtain ⟨q, hq, hq2⟩ := List.any_eq_true.mp hany
      obtain ⟨j, hj, hjq⟩ := List.getElem_of_mem hq
      have hm : j ∈ (List.range (kvOf ks).length).filter (fun i => (ks[i]?.map fun q => hasK q.2 s).getD false) := by
        refine List.mem_filter.mpr ⟨List.mem_range.mpr (by rw [hkl]; exact hj), ?_⟩
        rw [List.getElem?_eq_getElem hj, hjq]; exact hq2
      rw [List.length_map]
      exact List.length_pos_of_mem hm
    have hle : (((List.range (kvOf ks).length).filter (fun i => (ks[i]?.map fun q => hasK q.2 s).getD false)).map (fun i => (ks[i]?.map (·.1)).getD ("" : Str))).length ≤ 100 := by
      rw [List.length_map]
      have e : (List.range (kvOf ks).length).length = ks.length := by rw [List.length_range, hkl]
      exact Nat.le_trans (List.length_filter_le _ _) (Nat.le_trans (Nat.le_of_eq e) hks.len)
    have hfit : ∀ x ∈ (((List.range (kvOf ks).length).filter (fun i => (ks[i]?.map fun q => hasK q.2 s).getD false)).map (fun i => (ks[i]?.map (·.1)).getD ("" : Str))), FitT x := fun x hx => by
      obtain ⟨j, hj, rfl⟩ := List.mem_map.mp hx
      cases hq : ks[j]? with
      | none => exact fitB_ok (by decide +kernel)
      | some q => exact (hks.fit q (List.mem_of_getElem? hq)).1
    revert hlG2 hne hle hfit
    generalize (((List.range (kvOf ks).length).filter (fun i => (ks[i]?.map fun q => hasK q.2 s).getD false)).map (fun i => (ks[i]?.map (·.1)).getD ("" : Str))) = ls
    generalize upd G dk (.dK (kvOf ks)) = G2 at s3 ⊢
    intro hlG2 hne hle hfit
    have hz : (ls.map V.str).length = ls.length := List.length_map ..
    refine ⟨_, rfl, _, rfl, _, rfl, D, _, rfl, .inl (SqL.of hlG2), p, _, rfl, hp.mono s3, by rw [hz]; omega, by rw [hz]; omega, fun r G4 h0 h1 e4 => ?_⟩
    obtain ⟨v, hv, ha, hsq⟩ := pk3 (K := K) hlG2 hD' h0 h1 e4
    obtain ⟨x, hx, rfl⟩ := List.mem_map.mp hv
    exact ⟨D, _, r, _, rfl, rfl, hsq, ha, kk (.str x) _ G4 (leaf _ (.str (hfit x hx))) rfl ((Ev.of hp s3).trans e4)⟩
end
end K12
namespace K12
open PySem PySem.Spec PyProof.Rows L2
theorem Pot.ne {p a : Addr} {H : Hp} {l : List Str} (h : Pot p H) (e : H a = some (.lst (l.map V.str))) : a ≠ p := fun z => by
  obtain ⟨x, y, h1, _⟩ := h
  rw [z, h1] at e
  cases l with
  | nil => cases e
  | cons s l => cases e
theorem Pot.ev_upd {p D : Addr} {H G : Hp} {o : HO} (e : Ev p H G) (hD : H D = none) (hDp : D ≠ p) : Ev p H (upd G D o) :=
  ⟨e.kp.mut hD, by obtain ⟨a, b, h1, h2⟩ := e.pot; exact ⟨a, b, (upd_ne (Ne.symm hDp)).trans h1, h2⟩⟩
section
variable {P : Program} {w : World} {K : PySem.W.Frag} {mg : Str → Option Value} {base : Heap}
abbrev N__law_deed : List Str := ["_law_pot_here", "_law_words", "_law_kinds", "_law_word", "_law_sort"]
theorem sc__law_deed : FnScope N__law_deed ["_law_pot_here", "_law_words", "_law_kinds"] (defScope (top 61)) := sc_of (by decide +kernel)
-- slots: 0:_law_pot_here 1:_law_words 2:_law_kinds 3:_law_word 4:_law_sort
theorem ok__law_deed (T : Tx w K mg) (k : Nat) (b : Bool) (hk : 1 ≤ k) (c__law_take : Cl P w K mg base CX0 1 "_law_take" spTake) (c__law_sorts : Cl P w K mg base CX0 1 "_law_sorts" spSorts) (c__law_part : Cl P w K mg base CX0 k "_law_part" (spGPart b)) : Cl P w K mg base CX0 (k + 1) "_law_deed" (spGDeed b) := by
  refine T.d__law_deed.cl sc__law_deed (fun _ _ _ _ _ _ us hl => match us, hl with | [_, _, _], _ => rfl) (fun vs H Q E h => ?_) fun f cdv A outer s H vs Q E hr h => ?_
  · obtain ⟨_, _, _, _, _, _, rfl, _⟩ := h; rfl
  have hu := hu_of hr
  have hu0 := hr.units0
  have hu64 := hr.units
  obtain ⟨p, wl, dk, ws, ks, S, rfl, h⟩ := h
  refine ⟨_, PSs.nox ((pss_cons (ps_set (i := 3) sc__law_deed.nd rfl (Or.inl rfl) (pe_ix ix_list (pv 1) (pe_cl c__law_take hr (pa_cons (pv 0) (pa_cons (pe_callB call_len_seq rfl T.f_len b_len (pa_cons (pv 1) pa_nil)) pa_nil))) (fun _ _ => rfl)))
      (pss_one (ps_ret (pe_callTy call_tuple_of rfl T.f_tuple b_tuple (pa_cons (pe_op op_cat (pe_lst (pa_cons (pv 3) pa_nil)) (pe_lc (own := [("_law_sort", 4)]) rfl sc__law_deed.nd (pi_list (pe_dget hu (pe_cl0 c__law_sorts hr) (pv 3) (fun _ _ => rfl))) (blkOk_by (N := N__law_deed) (sc := defScope (top 61)) (by decide +kernel)) (fun _ _ _ _ _ => (pg_name (i := 4) sc__law_deed.nd rfl (Or.inl rfl))) (fun _ _ _ _ _ => pts_nil) (fun _ _ _ _ _ => (pe_cl c__law_part hr (pa_cons (pv 0) (pa_cons (pv 4) (pa_cons (pv 2) pa_nil))))))) pa_nil)))))), ?_⟩
  obtain ⟨hp, hwp, hwl, hne, hle, hws, hkd, hks, hSp, hS, kk⟩ := h
  have hz0 : (ws.map V.str).length = ws.length := List.length_map ..
  have hl1 : 1 ≤ ws.length := List.length_pos_iff.mpr hne
  refine ⟨_, rfl, _, rfl, _, rfl, wl, _, rfl, .inl (SqL.of hwl), p, _, rfl, hp, by rw [hz0]; omega, by rw [hz0]; omega, fun r H1 h0 h1 e1 => ?_⟩
  obtain ⟨v, hv, ha, hsq⟩ := pk3 (K := K) hwl hwp h0 h1 e1
  obtain ⟨z, hz, rfl⟩ := List.mem_map.mp hv
  refine ⟨wl, _, r, _, rfl, rfl, hsq, ha, ?_⟩
  obtain ⟨hzf, ss, hlk, has, hd⟩ := hws z hz
  have hsrt := (hws z hz).sort hlk
  have hss3 : ss.length ≤ 3 := by
    have := List.all_eq_true.mp sorts_len3 _ (lk_mem hlk)
    simpa using this
  refine ⟨_, rfl, by show 1 ≤ sizeLine; decide, fun l1 hl1' => ?_⟩
  have e2 := e1.same (Same.new (o := .lst [.str z]) hl1')
  have hl2 : upd H1 l1 (.lst [.str z]) l1 = some (.lst ([z].map V.str)) := upd_same
  revert e2 hl2
  generalize upd H1 l1 (.lst [.str z]) = H2
  intro e2 hl2
  refine ⟨rfl, fun H3 sd s3 hsd => ?_⟩
  rcases hsd.find z with ⟨e, _⟩ | ⟨ss', sa, e, g, hsa⟩
  · rw [hlk] at e; cases e
  rw [hlk] at e
  cases e
  have e3 := e2.same s3
  have hl3 := s3 _ _ hl2
  have hlp := e2.pot.ne hl2
  have hsap := e3.pot.ne hsa
  refine ⟨_, rfl, sd, _, rfl, g, sa, rfl, ⟨_, SqL.of hsa⟩, fun D hD => ?_⟩
  have hDp := e3.pot.held.ne hD
  have hDS : ¬ S D := (hS.ev e3).fresh hD
  refine lc_rel (walk_list (xs := ss.map V.str)) (fun G => Ev p H3 G) (fun _ v G => ∃ d, RpS (plus S D) G d v ∧ Ok 12 (if b = true then 1 else 0) (if b = true then 1212 else 300) d) (by rw [List.length_map]; exact Nat.lt_of_le_of_lt hss3 (by decide)) (Ev.of e3.pot (Same.new hD)) (fun G e => SqL.of (e.kp _ _ hsa hsap)) (fun G o e => Pot.ev_upd e hD hDp) (fun i v G o ⟨d, h1, h2⟩ => ⟨d, h1.mono (KpS.put (.inr rfl)), h2⟩) ?_ ?_
  · rintro i x G1 G2 C hi ev ⟨acc, hacc⟩ ⟨rfl, hy⟩ hC
    rw [List.getElem?_map] at hy
    cases hsi : ss[i]? with
    | none => rw [hsi] at hy; cases hy
    | some s =>
      rw [hsi] at hy
      cases hy
      refine ⟨rfl, ?_⟩
      refine ⟨_, rfl, _, rfl, _, rfl, p, dk, ks, s, plus S D, rfl, ev.pot, hkd.mono (e3.trans ev).kp, hks, hsrt s (List.mem_of_getElem? hsi), .inl hSp, (hS.ev (e3.trans ev)).plus hacc, fun d v G3 hok hr ev2 => ?_⟩
      exact hC v G3 (ev.trans ev2) (by rw [ev2.kp _ _ hacc hDp, hacc]) (fun j u ⟨d, h1, h2⟩ => ⟨d, h1.mono (ev2.kpS (.inl hSp)), h2⟩) ⟨d, hr, hok⟩
  · intro G acc ev hacc hal hR
    obtain ⟨ds, hds, hdl, hdok⟩ := RpSA.of (P := Ok 12 (if b = true then 1 else 0) (if b = true then 1212 else 300)) hR
    have hal' : acc.length = ss.length := by rw [hal, List.length_map]
    have e4 := e3.trans ev
    have hl4 := ev.kp _ _ hl3 hlp
    refine ⟨l1, D, _, acc, rfl, rfl, hl4, hacc, by show 1 + acc.length ≤ sizeLine; exact Nat.le_trans (show _ ≤ 4 by omega) (by decide), fun q hq => ⟨q, _, rfl, .inl ⟨SqL.of upd_same, fun t ht => ?_⟩⟩⟩
    have s5 : Same G (upd (upd G q (.lst ([z].map V.str ++ acc))) t (.tup ([z].map V.str ++ acc))) := (Same.new hq).trans (Same.new ht)
    refine kk (.tuple (.str z :: ds)) _ _ ?_ ⟨t, _, rfl, (hS.ev (e4.same (Same.new hq))).fresh ht, upd_same, .cons rfl ((hds.mono (Same.kpS s5)).less fun a h => .inl h)⟩ (e4.same s5)
    have hok : ∀ d ∈ PyData.str z :: ds, Ok 12 (if b = true then 1 else 0) (if b = true then 1212 else 300) d := fun d hd => by
      rcases List.mem_cons.mp hd with rfl | hd
      · have : Ok 12 0 300 (PyData.str z) := .str hzf
        exact this.mono (Nat.le_refl _) (by cases b <;> decide) (by cases b <;> decide)
      · exact hdok d hd
    have hlen : (PyData.str z :: ds).length ≤ 4 := by rw [List.length_cons]; omega
    refine (Ok.tuple hok (Nat.le_trans hlen (by decide))).mono (Nat.le_refl _) (by cases b <;> decide) ?_
    refine Nat.le_trans (Nat.add_le_add_right (Nat.mul_le_mul_right _ hlen) 4) (by cases b <;> decide)
theorem gdeed_none (T : Tx w K mg) : Cl P w K mg base CX0 2 "_law_deed" (fun _ _ _ _ => False) :=
  T.d__law_deed.cl sc__law_deed (fun _ _ _ _ _ _ us hl => match us, hl with | [_, _, _], _ => rfl) (fun vs H Q E h => h.elim) fun f cdv A outer s H vs Q E hr h => h.elim
theorem gdeed_ok (T : Tx w K mg) : Cl P w K mg base CX0 6 "_law_deed" (spGDeed true) := by
  have ct := ok__law_take (P := P) (base := base) T
  have cn := ok__law_name T ct
  have ch := ok__law_has_kind (P := P) (base := base) T
  have cs := ok__law_sorts (P := P) (base := base) T
  have ca := ok__law_are_some T cs ch
  have p0 := ok__law_part T 2 false (by omega) (fun _ _ _ _ => False) (fun h => by cases h) ct cn ch ca (gdeed_none T)
  have d0 := ok__law_deed T 3 false (by omega) ct cs p0
  have p1 := ok__law_part T 4 true (by omega) (spGDeed false) (fun _ vs H Q E h => h) ct cn ch ca d0
  exact ok__law_deed T 5 true (by omega) ct cs p1
end
end K12
namespace K12
open PySem PySem.Spec PyProof.Rows L2
def spGDeeds : Sp := fun vs H Q _ => ∃ (p wl dk : Addr) (ws : List Str) (most : Int) (ks : Ks) (S : Addr → Prop), vs = [.ref p, .ref wl, .int most, .ref dk] ∧ Pot p H ∧ wl ≠ p ∧ H wl = some (.lst (ws.map V.str)) ∧ ws.length ≤ 100 ∧
  (∀ z ∈ ws, FitT z ∧ ∃ ss, lsorts.lookup z = some ss) ∧ (∃ z ∈ ws, ∃ ss, lsorts.lookup z = some ss ∧ areSome ks ss = true) ∧ 3 ≤ most ∧ most ≤ 12 ∧ Kd p H dk ks ∧ KsG ks ∧ S p ∧ Al S H ∧
  ∀ ds v H', (ds.length : Int) ≤ most → (∀ d ∈ ds, Ok 12 2 4860 d) → RpS S H' (.list ds) v → Ev p H H' → Q v H'
section
variable {P : Program} {w : World} {K : PySem.W.Frag} {mg : Str → Option Value} {base : Heap}
abbrev N__law_deeds : List Str := ["_law_pot_here", "_law_words", "_law_most", "_law_kinds", "_law_able", "_law_many", "_law_word", "_law_k"]
theorem sc__law_deeds : FnScope N__law_deeds ["_law_pot_here", "_law_words", "_law_most", "_law_kinds"] (defScope (top 62)) := sc_of (by decide +kernel)
-- slots: 0:_law_pot_here 1:_law_words 2:_law_most 3:_law_kinds 4:_law_able 5:_law_many 6:_law_word 7:_law_k
theorem ok__law_deeds (T : Tx w K mg) (c__law_take : Cl P w K mg base CX0 1 "_law_take" spTake) (c__law_are_some : Cl P w K mg base CX0 2 "_law_are_some" spAre) (c__law_deed : Cl P w K mg base CX0 6 "_law_deed" (spGDeed true)) : Cl P w K mg base CX0 7 "_law_deeds" spGDeeds := by
  refine T.d__law_deeds.cl sc__law_deeds (fun _ _ _ _ _ _ us hl => match us, hl with | [_, _, _, _], _ => rfl) (fun vs H Q E h => ?_) fun f cdv A outer s H vs Q E hr h => ?_
  · obtain ⟨_, _, _, _, _, _, _, rfl, _⟩ := h; rfl
  have hu := hu_of hr
  have hu0 := hr.units0
  have hu64 := hr.units
  obtain ⟨p, wl, dk, ws, most, ks, S, rfl, h⟩ := h
  refine ⟨_, PSs.nox ((pss_cons (ps_set (i := 4) sc__law_deeds.nd rfl (Or.inr rfl) (pe_lc (own := [("_law_word", 6)]) rfl sc__law_deeds.nd (pi_list (pv 1)) (blkOk_by (N := N__law_deeds) (sc := defScope (top 62)) (by decide +kernel)) (fun _ _ _ _ _ => (pg_name (i := 6) sc__law_deeds.nd rfl (Or.inl rfl))) (fun _ _ _ _ _ => (pts_one (pt_val (pe_cl c__law_are_some hr (pa_cons (pv 6) (pa_cons (pv 3) pa_nil)))))) (fun _ _ _ _ _ => (pv 6))))
      (pss_cons (ps_set (i := 5) sc__law_deeds.nd rfl (Or.inl rfl) (pe_ix ix_list (pe_lst (pa_cons (pe_cl c__law_take hr (pa_cons (pv 0) (pa_cons (pe_op op_add pe_int (pv 2)) pa_nil))) (pa_cons (pe_cl c__law_take hr (pa_cons (pv 0) (pa_cons pe_int pa_nil))) (pa_cons (pv 2) pa_nil)))) (pe_cl c__law_take hr (pa_cons (pv 0) (pa_cons pe_int pa_nil))) (fun _ _ => rfl)))
      (pss_one (ps_ret (pe_lc (own := [("_law_k", 7)]) rfl sc__law_deeds.nd (pi_range1 rfl T.f_range (pa_cons (pv 5) pa_nil)) (blkOk_by (N := N__law_deeds) (sc := defScope (top 62)) (by decide +kernel)) (fun _ _ _ _ _ => (pg_name (i := 7) sc__law_deeds.nd rfl (Or.inl rfl))) (fun _ _ _ _ _ => pts_nil) (fun _ _ _ _ _ => (pe_cl c__law_deed hr (pa_cons (pv 0) (pa_cons (pv 4) (pa_cons (pv 3) pa_nil))))))))))), ?_⟩
  obtain ⟨hp, hwp, hwl, hle, hws, ⟨z0, hz0, ss0, hlk0, ha0⟩, hm3, hm12, hkd, hks, hSp, hS, kk⟩ := h
  refine ⟨_, rfl, wl, rfl, ⟨_, SqL.of hwl⟩, fun D hD => lc_detF (walk_list (xs := ws.map V.str)) (fun i => areSome ks ((lsorts.lookup (ws.getD i "")).getD [])) (fun i => .str (ws.getD i "")) hD (by rw [List.length_map]; exact Nat.lt_of_le_of_lt hle (by decide)) (fun G e => SqL.of (e _ _ hwl)) ?_ ?_⟩
  · rintro i y J1 J2 C N hi s2 ⟨rfl, hy⟩ hC hN
    rw [List.getElem?_map] at hy
    cases hw : ws[i]? with
    | none => rw [hw] at hy; cases hy
    | some z =>
      rw [hw] at hy
      cases hy
      have ez : ws.getD i "" = z := by simp [List.getD, hw]
      rw [ez] at hC hN
      obtain ⟨_, ss, hlk⟩ := hws z (List.mem_of_getElem? hw)
      rw [hlk] at hC hN
      refine ⟨rfl, ?_⟩
      refine ⟨_, rfl, _, rfl, p, dk, ks, z, ss, rfl, hkd.mono (.of s2), Nat.le_trans hks.len (by decide), hlk, fun J3 s3 => ⟨_, rfl, ?_⟩⟩
      cases ha : areSome ks ss with
      | true => exact iteT ⟨_, rfl, hC ha _ s3⟩
      | false => exact iteF (hN ha _ s3)
  · intro J s2 hlJ
    rw [given_strs] at hlJ
    have hDp := hp.held.ne hD
    have hable : ∃ z, z ∈ (((List.range (ws.map V.str).length).filter (fun i => areSome ks ((lsorts.lookup (ws.getD i "")).getD []))).map (fun i => ws.getD i "")) := by
      obtain ⟨j, hj, hjz⟩ := List.getElem_of_mem hz0
      have ez : ws.getD j "" = z0 := by simp [List.getD, hj, hjz]
      refine ⟨z0, List.mem_map.mpr ⟨j, List.mem_filter.mpr ⟨List.mem_range.mpr (by rw [List.length_map]; exact hj), ?_⟩, ez⟩⟩
      rw [ez, hlk0]; exact ha0
    have hlen : (((List.range (ws.map V.str).length).filter (fun i => areSome ks ((lsorts.lookup (ws.getD i "")).getD []))).map (fun i => ws.getD i "")).length ≤ 100 := by
      rw [List.length_map]
      have e : (List.range (ws.map V.str).length).length = ws.length := by rw [List.length_range, List.length_map]
      exact Nat.le_trans (List.length_filter_le _ _) (Nat.le_trans (Nat.le_of_eq e) hle)
    have hword : ∀ z ∈ (((List.range (ws.map V.str).length).filter (fun i => areSome ks ((lsorts.lookup (ws.getD i "")).getD []))).map (fun i => ws.getD i "")), WordG true ks z := fun z hz => by
      obtain ⟨i, hi, rfl⟩ := List.mem_map.mp hz
      obtain ⟨hi1, hi2⟩ := List.mem_filter.mp hi
      have hi3 : i < ws.length := by have := List.mem_range.mp hi1; rwa [List.length_map] at this
      have ez : ws.getD i "" = ws[i] := by simp [List.getD, hi3]
      rw [ez] at hi2 ⊢
      obtain ⟨h1, ss, hlk⟩ := hws _ (List.getElem_mem hi3)
      rw [hlk] at hi2
      exact ⟨h1, ss, hlk, hi2, fun h => by cases h⟩
    revert hlJ hable hlen hword
    generalize (((List.range (ws.map V.str).length).filter (fun i => areSome ks ((lsorts.lookup (ws.getD i "")).getD []))).map (fun i => ws.getD i "")) = able
    intro hlJ hable hlen hword
    have e2 := Ev.of hp s2
    refine ⟨_, rfl, _, rfl, _, _, rfl, rfl, p, 1 + most, rfl, e2.pot, by omega, by omega, fun r H1 h0 h1 e3 => ⟨_, rfl, p, 4, rfl, e3.pot, by decide, by decide, fun r2 H2 h20 h21 e4 => ⟨_, rfl, by show 3 ≤ sizeLine; decide, fun l hl => ⟨_, rfl, p, 3, rfl, pk1 e4.pot hl, by decide, by decide, fun r3 H3 h30 h31 e5 => ?_⟩⟩⟩⟩
    obtain ⟨v, hv, ha, hsq, e6⟩ := pk2 (K := K) e4.pot hl h30 h31 e5
    have : ∃ i : Int, v = .int i ∧ 0 ≤ i ∧ i ≤ most := by
      rcases List.mem_cons.mp hv with rfl | hv
      · exact ⟨_, rfl, h0, by omega⟩
      rcases List.mem_cons.mp hv with rfl | hv
      · exact ⟨_, rfl, h20, by omega⟩
      rcases List.mem_cons.mp hv with rfl | hv
      · exact ⟨_, rfl, by omega, Int.le_refl _⟩
      · cases hv
    obtain ⟨n, rfl, hn0, hn1⟩ := this
    have e7 := e2.trans ((e3.trans e4).trans e6)
    have hl7 : H3 D = some (.lst (able.map V.str)) := ((e3.trans e4).trans e6).kp _ _ hlJ hDp
    refine ⟨l, _, r3, _, rfl, rfl, hsq, ha, ?_⟩
    refine ⟨_, rfl, n, rfl, by omega, by omega, fun F hF => ?_⟩
    have hFp := e7.pot.held.ne hF
    have hFS : ¬ S F := (hS.ev e7).fresh hF
    refine lc_rel (walk_range (lo := 0) (n := n.toNat)) (fun G => Ev p H3 G) (fun _ v G => ∃ d, RpS (plus S F) G d v ∧ Ok 12 2 4860 d) (Nat.lt_of_le_of_lt (show _ ≤ 12 by omega) (by decide)) (Ev.of e7.pot (Same.new hF)) (fun _ _ => trivial) (fun G o e => Pot.ev_upd e hF hFp) (fun i v G o ⟨d, h1, h2⟩ => ⟨d, h1.mono (KpS.put (.inr rfl)), h2⟩) ?_ ?_
    · rintro i x G1 G2 C hi ev ⟨acc, hacc⟩ ⟨rfl, rfl⟩ hC
      refine ⟨rfl, ?_⟩
      refine ⟨_, rfl, _, rfl, _, rfl, p, D, dk, able, ks, plus S F, rfl, ev.pot, hDp, ev.kp _ _ hl7 hDp, (fun h => by obtain ⟨z, hz⟩ := hable; rw [h] at hz; cases hz), hlen, hword, hkd.mono (e7.trans ev).kp, hks, .inl hSp, (hS.ev (e7.trans ev)).plus hacc, fun d v G3 hok hr ev2 => ?_⟩
      exact hC v G3 (ev.trans ev2) (by rw [ev2.kp _ _ hacc hFp, hacc]) (fun j u ⟨d, h1, h2⟩ => ⟨d, h1.mono (ev2.kpS (.inl hSp)), h2⟩) ⟨d, hr, hok⟩
    · intro G acc ev hacc hal hR
      obtain ⟨ds, hds, hdl, hdok⟩ := RpSA.of (P := Ok 12 2 4860) hR
      exact kk ds _ G (by omega) hdok ⟨F, acc, rfl, hFS, hacc, hds.less fun a h => .inl h⟩ (e7.trans ev)
end
end K12
namespace K12
open PySem PySem.Spec PyProof.Rows L2
def putKs (ks : Ks) (x k : Str) : Ks := if (ks.lookup x).isSome = true then ks.map (fun q => if q.1 = x then (q.1, k) else q) else ks ++ [(x, k)]
theorem putK_kv (ks : Ks) (x k : Str) : putK (kvOf ks) (Sum.inr x : Key) (.str k) = kvOf (putKs ks x k) := by
  unfold putK putKs
  rw [valV_any, valV_kv]
  have e : (Option.map V.str (ks.lookup x)).isSome = (ks.lookup x).isSome := by cases ks.lookup x <;> rfl
  rw [e]
  by_cases h : (ks.lookup x).isSome = true
  · rw [if_pos h, if_pos h]
    unfold kvOf
    rw [List.map_map, List.map_map]
    apply List.map_congr_left
    intro q hq
    by_cases hx : q.1 = x
    · have : (Sum.inr q.1 : Key) = Sum.inr x := by rw [hx]
      simp [hx]
    · have : ¬ (Sum.inr q.1 : Key) = Sum.inr x := fun z => hx (Sum.inr.inj z)
      simp [hx]
  · rw [if_neg h, if_neg h]
    unfold kvOf
    rw [List.map_append]; rfl
structure Ks0 (n : Nat) (ks : Ks) : Prop where
  len : ks.length ≤ n
  fit : ∀ q ∈ ks, FitT q.1 ∧ FitT q.2
  nd : (ks.map (·.1)).Nodup
theorem lookup_none_mem {ks : Ks} {x : Str} (h : ¬ (ks.lookup x).isSome = true) : ¬ x ∈ ks.map (·.1) := fun hm => by
  obtain ⟨q, hq, rfl⟩ := List.mem_map.mp hm
  apply h
  clear hm h
  induction ks with
  | nil => cases hq
  | cons a ks ih =>
    obtain ⟨n, k⟩ := a
    rw [lk_cons]
    by_cases e : q.1 = n
    · rw [if_pos e]; rfl
    · rw [if_neg e]
      rcases List.mem_cons.mp hq with rfl | hq
      · exact absurd rfl e
      · exact ih hq
theorem Ks0.put {n : Nat} {ks : Ks} {x k : Str} (h : Ks0 n ks) (hx : FitT x) (hk : FitT k) : Ks0 (n + 1) (putKs ks x k) := by
  unfold putKs
  by_cases hl : (ks.lookup x).isSome = true
  · rw [if_pos hl]
    refine ⟨by rw [List.length_map]; have := h.len; omega, fun q hq => ?_, ?_⟩
    · obtain ⟨q', hq', rfl⟩ := List.mem_map.mp hq
      split
      · exact ⟨(h.fit q' hq').1, hk⟩
      · exact h.fit q' hq'
    · have : (ks.map (fun q => if q.1 = x then (q.1, k) else q)).map (·.1) = ks.map (·.1) := by
        rw [List.map_map]
        apply List.map_congr_left
        intro q hq
        show (if q.1 = x then (q.1, k) else q).1 = q.1
        split <;> rfl
      rw [this]; exact h.nd
  · rw [if_neg hl]
    refine ⟨by rw [List.length_append]; have := h.len; simp; omega, fun q hq => ?_, ?_⟩
    · rcases List.mem_append.mp hq with hq | hq
      · exact h.fit q hq
      · have : q = (x, k) := by simpa using hq
        rw [this]; exact ⟨hx, hk⟩
    · rw [List.map_append]
      refine List.nodup_append.mpr ⟨h.nd, by simp, fun a ha b hb e => ?_⟩
      have : b = x := by simpa using hb
      rw [e, this] at ha
      exact lookup_none_mem hl ha
theorem lookup_some_mem : ∀ {ks : Ks} {x : Str}, (ks.lookup x).isSome = true → x ∈ ks.map (·.1)
  | [], _, h => by cases h
  | (n, k) :: ks, x, h => by
    rw [lk_cons] at h
    by_cases e : x = n
    · rw [e]; simp
    · rw [if_neg e] at h
      rw [List.map_cons]
      exact List.mem_cons_of_mem _ (lookup_some_mem h)
theorem putKs_task (ks : Ks) (x : Str) : ∃ q ∈ putKs ks x "task", q.2 = "task" := by
  unfold putKs
  by_cases hl : (ks.lookup x).isSome = true
  · rw [if_pos hl]
    have : x ∈ ks.map (·.1) := lookup_some_mem hl
    obtain ⟨q, hq, hqx⟩ := List.mem_map.mp this
    refine ⟨(q.1, "task"), List.mem_map.mpr ⟨q, hq, ?_⟩, rfl⟩
    rw [if_pos hqx]
  · rw [if_neg hl]
    exact ⟨(x, "task"), by simp, rfl⟩
/-- all the pairs put -/
theorem mergeK_kv : ∀ (L : Ks) {n : Nat} {ks : Ks}, Ks0 n ks → (∀ q ∈ L, FitT q.1 ∧ FitT q.2) → ∃ ks', mergeK (kvOf ks) (kvOf L) = kvOf ks' ∧ Ks0 (n + L.length) ks'
  | [], n, ks, h, _ => ⟨ks, rfl, h⟩
  | (x, k) :: L, n, ks, h, hf => by
    have h1 := hf (x, k) (by simp)
    obtain ⟨ks', e, h2⟩ := mergeK_kv L (h.put h1.1 h1.2) fun q hq => hf q (by simp [hq])
    refine ⟨ks', ?_, ?_⟩
    · show mergeK (putK (kvOf ks) (Sum.inr x) (.str k)) (kvOf L) = _
      rw [putK_kv]; exact e
    · rw [List.length_cons]
      have : n + (L.length + 1) = n + 1 + L.length := by omega
      rw [this]; exact h2
/-- a row of the law's crew -/
def IsRow (d : PyData) : Prop := ∃ nm b body tail, d = .tuple [.str nm, .bool b, .list body, .list tail] ∧ FitT nm ∧ body.length ≤ 12 ∧ tail.length ≤ 4 ∧ (∀ e ∈ body, Ok 12 2 4860 e) ∧ ∀ e ∈ tail, Ok 12 2 4860 e
theorem IsRow.ok {d : PyData} (h : IsRow d) : Ok 12 4 78500 d := by
  obtain ⟨nm, b, body, tail, rfl, h1, h2, h3, h4, h5⟩ := h
  have o1 := Ok.list h4 h2
  have o2 := Ok.list h5 (Nat.le_trans h3 (by decide))
  have w1 : wtA body ≤ 12 * 4862 := Nat.le_trans (wtA_le (W := 4860) fun d hd => (h4 d hd).wt) (Nat.mul_le_mul_right _ h2)
  have w2 : wtA tail ≤ 4 * 4862 := Nat.le_trans (wtA_le (W := 4860) fun d hd => (h5 d hd).wt) (Nat.mul_le_mul_right _ h3)
  refine ⟨⟨by show 4 ≤ 12; decide, h1, trivial, o1.fit, o2.fit, trivial⟩, ?_, ?_⟩
  · show max 0 (max 0 (max (PyData.list body).depth (max (PyData.list tail).depth 0))) + 1 ≤ 4
    have := o1.dep; have := o2.dep
    omega
  · show 300 + 2 + (300 + 2 + (wtA body + 4 + 2 + (wtA tail + 4 + 2 + 0))) + 4 ≤ 78500
    omega
end K12
namespace K12
open PySem PySem.Spec PyProof.Rows L2
def spGProgram : Sp := fun vs H Q _ => ∃ (p : Addr) (S : Addr → Prop), vs = [.ref p] ∧ Pot p H ∧ S p ∧ Al S H ∧ ∀ ds cs v1 v2 t H', (∀ d ∈ ds, IsThing d) → ds.length ≤ 10 → (∀ c ∈ cs, IsRow c) → cs.length ≤ 6 → RpS S H' (.list ds) v1 → RpS S H' (.list cs) v2 → H' t = some (.tup [v1, v2]) → Ev p H H' → Q (.ref t) H'
theorem lsorts_words : (lsorts.all fun q => fitB q.1) = true := by decide +kernel
theorem tails_words : (lastWs.all fun z => fitB z && (lsorts.lookup z).isSome) = true := by decide +kernel
theorem lk_of_mem {α : Type} : ∀ {l : List (Str × α)} {z : Str}, z ∈ l.map (·.1) → ∃ v, l.lookup z = some v
  | [], _, h => by cases h
  | (n, v) :: l, z, h => by
    rw [lk_cons]
    by_cases e : z = n
    · exact ⟨v, if_pos e⟩
    · rw [if_neg e]
      rcases List.mem_cons.mp h with h | h
      · exact absurd h e
      · exact lk_of_mem h
section
variable {P : Program} {w : World} {K : PySem.W.Frag} {mg : Str → Option Value} {base : Heap}
abbrev N__law_program : List Str := ["_law_pot_here", "_law_stuff_here", "_law_kinds", "_law_names", "_law_k", "_law_tails", "_law_crew", "_law_name_here", "_law_body", "_law_kind", "_law_size"]
theorem sc__law_program : FnScope N__law_program ["_law_pot_here"] (defScope (top 63)) := sc_of (by decide +kernel)
-- slots: 0:_law_pot_here 1:_law_stuff_here 2:_law_kinds 3:_law_names 4:_law_k 5:_law_tails 6:_law_crew 7:_law_name_here 8:_law_body 9:_law_kind 10:_law_size
theorem ok__law_program (T : Tx w K mg) (c__law_take : Cl P w K mg base CX0 1 "_law_take" spTake) (c__law_name : Cl P w K mg base CX0 2 "_law_name" spGName) (c__law_sorts : Cl P w K mg base CX0 1 "_law_sorts" spSorts) (c__law_stuff : Cl P w K mg base CX0 4 "_law_stuff" spGStuff) (c__law_deeds : Cl P w K mg base CX0 7 "_law_deeds" spGDeeds) : Cl P w K mg base CX0 8 "_law_program" spGProgram := by
  refine T.d__law_program.cl sc__law_program (fun _ _ _ _ _ _ us hl => match us, hl with | [_], _ => rfl) (fun vs H Q E h => ?_) fun f cdv A outer s H vs Q E hr h => ?_
  · obtain ⟨_, _, rfl, _⟩ := h; rfl
  have hu := hu_of hr
  have hu0 := hr.units0
  have hu64 := hr.units
  obtain ⟨p, S, rfl, h⟩ := h
  refine ⟨_, PSs.nox ((pss_cons (ps_set (i := 1) sc__law_program.nd rfl (Or.inl rfl) (pe_cl c__law_stuff hr (pa_cons (pv 0) pa_nil)))
      (pss_cons (ps_set (i := 2) sc__law_program.nd rfl (Or.inl rfl) (pe_callTy (call_dictP rfl) rfl T.f_dict b_dict (pa_cons (pe_lc (own := [("_law_kind", 9), ("_law_name_here", 7), ("_law_size", 10)]) rfl sc__law_program.nd (pi_list (pv 1)) (blkOk_by (N := N__law_program) (sc := defScope (top 63)) (by decide +kernel)) (fun _ _ _ _ _ => (pg_tupB (n := 3) rfl (pgs_cons (pg_name (i := 9) sc__law_program.nd rfl (Or.inl rfl)) (pgs_cons (pg_name (i := 7) sc__law_program.nd rfl (Or.inl rfl)) (pgs_cons (pg_name (i := 10) sc__law_program.nd rfl (Or.inl rfl)) pgs_nil))))) (fun _ _ _ _ _ => pts_nil) (fun _ _ _ _ _ => (pe_tup (pa_cons (pv 7) (pa_cons (pv 9) pa_nil))))) pa_nil)))
      (pss_cons (ps_set (i := 3) sc__law_program.nd rfl (Or.inl rfl) (pe_lst pa_nil))
      (pss_cons (ps_for PassesOwn.never rfl (pi_range1 rfl T.f_range (pa_cons (pe_ix ix_list (pe_lst (pa_cons pe_int (pa_cons pe_int (pa_cons pe_int (pa_cons pe_int (pa_cons pe_int pa_nil)))))) (pe_cl c__law_take hr (pa_cons (pv 0) (pa_cons pe_int pa_nil))) (fun _ _ => rfl)) pa_nil)) (pg_name (i := 4) sc__law_program.nd rfl (Or.inl rfl)) (pss_cons (ps_expr (pe_bm PySem.F.plainAttrs_list PySem.F.slot_list_append PySem.F.type_list_append mt_append (pv 3) (pa_cons (pe_cl c__law_name hr (pa_cons (pv 0) (pa_cons (pe_callTy (call_listD rfl) rfl T.f_list b_list (pa_cons (pv 2) pa_nil)) pa_nil))) pa_nil)))
      (pss_one (ps_dput hu (pv 2) (pe_ix ix_list (pv 3) (pe_un un_neg pe_int) (fun _ _ => rfl)) pe_str rfl))))
      (pss_cons (ps_set (i := 5) sc__law_program.nd rfl (Or.inl rfl) (pe_lst (pa_cons pe_str (pa_cons pe_str (pa_cons pe_str (pa_cons pe_str (pa_cons pe_str (pa_cons pe_str (pa_cons pe_str (pa_cons pe_str (pa_cons pe_str (pa_cons pe_str (pa_cons pe_str (pa_cons pe_str pa_nil))))))))))))))
      (pss_cons (ps_set (i := 6) sc__law_program.nd rfl (Or.inl rfl) (pe_lst pa_nil))
      (pss_cons (ps_for PassesOwn.never rfl (pi_list (pv 3)) (pg_name (i := 7) sc__law_program.nd rfl (Or.inl rfl)) (pss_cons (ps_set (i := 8) sc__law_program.nd rfl (Or.inl rfl) (pe_cl c__law_deeds hr (pa_cons (pv 0) (pa_cons (pe_callTy (call_listD rfl) rfl T.f_list b_list (pa_cons (pe_cl0 c__law_sorts hr) pa_nil)) (pa_cons pe_int (pa_cons (pv 2) pa_nil))))))
      (pss_one (ps_expr (pe_bm PySem.F.plainAttrs_list PySem.F.slot_list_append PySem.F.type_list_append mt_append (pv 6) (pa_cons (pe_tup (pa_cons (pv 7) (pa_cons (pe_cmpR op_eq (pe_cl c__law_take hr (pa_cons (pv 0) (pa_cons pe_int pa_nil))) pe_int (nomark _)) (pa_cons (pv 8) (pa_cons (pe_cl c__law_deeds hr (pa_cons (pv 0) (pa_cons (pe_op op_cat (pv 5) (pe_lst (pa_cons pe_str (pa_cons pe_str pa_nil)))) (pa_cons pe_int (pa_cons (pv 2) pa_nil))))) pa_nil))))) pa_nil))))))
      (pss_one (ps_ret (pe_tup (pa_cons (pv 1) (pa_cons (pv 6) pa_nil))))))))))))), ?_⟩
  obtain ⟨hp, hSp, hS, k⟩ := h
  refine ⟨_, rfl, p, S, rfl, hp, hSp, hS, fun ds v1 H1 hds hdl hrs e1 => ?_⟩
  have hS1 := hS.ev e1
  obtain ⟨a1, xs1, ev1, hna1, ha1, hxs1⟩ := id hrs
  subst ev1
  have hx1 : xs1.length = ds.length := hxs1.length
  have hf1 := hxs1
  refine ⟨_, rfl, a1, rfl, ⟨xs1, SqL.of ha1⟩, fun D hD => ?_⟩
  refine lc_rel (walk_list (xs := xs1)) (fun G => Same H1 G) (fun i v G => ∃ x : Addr, ∃ d, ds[i]? = some d ∧ v = .ref x ∧ x ≠ D ∧ G x = some (.tup [.str (nameOf d), .str (kindOf d)])) (Nat.lt_of_le_of_lt (show _ ≤ 10 by omega) (by decide)) (Same.new hD) (fun G e => SqL.of (e _ _ ha1)) (fun G o e => Same.mut e hD) (fun i v G o ⟨x, d, h1, h2, h3, h4⟩ => ⟨x, d, h1, h2, h3, (upd_ne h3).trans h4⟩) ?_ ?_
  · rintro i y J1 J2 C hi ev ⟨acc, hacc⟩ ⟨rfl, hy⟩ hC
    obtain ⟨d, hd, hrd⟩ := hxs1.getV hy
    obtain ⟨b, vs, rfl, hb⟩ := thing_at (hds d (List.mem_of_getElem? hd)) (hrd.mono (Same.kpS ev))
    refine ⟨b, _, rfl, SqT.of hb, rfl, _, _, rfl, _, _, rfl, _, _, rfl, rfl, ?_⟩
    refine ⟨rfl, ?_⟩
    refine ⟨_, rfl, _, rfl, by show 2 ≤ sizeLine; decide, fun t ht => ?_⟩
    have st := Same.new (o := .tup [.str (nameOf d), .str (kindOf d)]) ht
    exact hC _ _ (ev.trans st) (by rw [st _ _ hacc, hacc]) (fun j u ⟨x, d, h1, h2, h3, h4⟩ => ⟨x, d, h1, h2, h3, st _ _ h4⟩) ⟨t, d, hd, rfl, (fun z => by rw [z, hacc] at ht; cases ht), upd_same⟩
  intro G1 acc ev hacc hal hR
  obtain ⟨as, hasl, has⟩ := pick (α := Addr) hR
  have hal' : acc.length = ds.length := by rw [hal, hx1]
  have hacc' : acc = as.map V.ref := by
    apply List.ext_getElem?
    intro i
    rw [List.getElem?_map]
    by_cases hi : i < acc.length
    · have e1 : acc[i]? = some acc[i] := List.getElem?_eq_getElem hi
      have e2 : as[i]? = some as[i] := List.getElem?_eq_getElem (by omega)
      obtain ⟨d, _, h2, _⟩ := has i _ _ e1 e2
      rw [e1, e2, h2]; rfl
    · rw [List.getElem?_eq_none (by omega), List.getElem?_eq_none (by omega)]; rfl
  have hL : ∀ q ∈ ds.map (fun d => (nameOf d, kindOf d)), FitT q.1 ∧ FitT q.2 := fun q hq => by
    obtain ⟨d, hd, rfl⟩ := List.mem_map.mp hq
    obtain ⟨k, nm, sz, rfl, h1, h2, h3⟩ := hds d hd
    exact ⟨h2, h1⟩
  obtain ⟨ks0, hmk, hks0⟩ := mergeK_kv (ds.map fun d => (nameOf d, kindOf d)) (n := 0) (ks := []) ⟨Nat.le_refl _, (fun q h => by cases h), List.nodup_nil⟩ hL
  refine ⟨D, as, kvOf (ds.map fun d => (nameOf d, kindOf d)), rfl, by rw [← hacc']; exact SqL.of hacc, ?_, fun dk hdk => ?_⟩
  · refine paired_of (by rw [kv_len, List.length_map]; omega) fun i a q h1 h2 => ?_
    have hi := (List.getElem?_eq_some_iff.mp h1).1
    obtain ⟨d, h3, _, _, h5⟩ := has i _ a (List.getElem?_eq_getElem (by omega)) h1
    unfold kvOf at h2
    rw [List.getElem?_map, List.getElem?_map, h3] at h2
    cases h2
    exact SqT.of h5
  rw [show mergeK [] (kvOf (ds.map fun d => (nameOf d, kindOf d))) = kvOf ks0 from hmk]
  have e2 : Ev p H1 (upd G1 dk (.dK (kvOf ks0))) := (Ev.of e1.pot ev).same (Same.new hdk)
  have hdk2 : upd G1 dk (.dK (kvOf ks0)) dk = some (.dK (kvOf ks0)) := upd_same
  have hdkS : ¬ S dk := (hS1.same ev).fresh hdk
  have hdkp : dk ≠ p := (e1.pot.mono ev).held.ne hdk
  have hdk1 : H1 dk = none := same_back ev hdk
  have hrs2 : RpS (plus S dk) (upd G1 dk (.dK (kvOf ks0))) (.list ds) (.ref a1) := (hrs.more hdk1).mono (fun b o h n => e2.kp b o h fun z => n (.inl (by rw [z]; exact hSp)))
  revert e2 hdk2 hrs2
  generalize upd G1 dk (.dK (kvOf ks0)) = H2
  intro e2 hdk2 hrs2
  have e02 := e1.trans e2
  refine ⟨by decide, fun N hN => ?_⟩
  have hNS : ¬ plus S dk N := ((hS.ev e02).plus hdk2).fresh hN
  have hNp : N ≠ p := e02.pot.held.ne hN
  have hNdk : N ≠ dk := fun z => by rw [z, hdk2] at hN; cases hN
  have hN1 : H1 N = none := by
    cases e : H1 N with
    | none => rfl
    | some o => rw [e2.kp N o e hNp] at hN; cases hN
  have e3 : Ev p H1 (upd H2 N (.lst [])) := Pot.ev_upd e2 hN1 hNp
  have hdk3 : upd H2 N (.lst []) dk = some (.dK (kvOf ks0)) := (upd_ne (Ne.symm hNdk)).trans hdk2
  have hN3 : upd H2 N (.lst []) N = some (.lst (([] : List Str).map V.str)) := upd_same
  have hrs3 : RpS (plus (plus S dk) N) (upd H2 N (.lst [])) (.list ds) (.ref a1) := (hrs2.more hN).mono (KpS.put (.inr rfl))
  revert e3 hdk3 hN3 hrs3
  generalize upd H2 N (.lst []) = H3
  intro e3 hdk3 hN3 hrs3
  refine ⟨by show 5 ≤ sizeLine; decide, fun l5 hl5 => ⟨_, rfl, p, 5, rfl, pk1 e3.pot hl5, by decide, by decide, fun r H4 h0 h1 ev4 => ?_⟩⟩
  obtain ⟨v, hv, ha, hsq, e4⟩ := pk2 (K := K) e3.pot hl5 h0 h1 ev4
  obtain ⟨n, rfl, hn0, hn1⟩ := ints_in (lo := 0) (hi := 6) (by decide +kernel) hv
  refine ⟨l5, _, r, _, rfl, rfl, hsq, ha, n, rfl, by omega, by omega, ?_⟩
  have hkS2 : ∀ {G G' : Hp}, Ev p G G' → KpS (plus (plus S dk) N) G G' := fun e => e.kpS (.inl (.inl hSp))
  refine for_it (walk_range (lo := 0) (n := n.toNat)) (fun i σ G => ∃ (nms : List Str) (ks : Ks) (x4 x5 x6 x7 x8 x9 x10 : Option V), σ = [some (.ref p), some (.ref a1), some (.ref dk), some (.ref N), x4, x5, x6, x7, x8, x9, x10] ∧ Ev p H1 G ∧ G dk = some (.dK (kvOf ks)) ∧ Ks0 (10 + i) ks ∧ (1 ≤ i → ∃ q ∈ ks, q.2 = "task") ∧ G N = some (.lst (nms.map V.str)) ∧ nms.length = i ∧ (∀ z ∈ nms, FitT z) ∧ RpS (plus (plus S dk) N) G (.list ds) (.ref a1)) ?_ (fun _ _ _ _ _ => trivial) ?_ ?_
  · refine ⟨[], ks0, _, _, _, _, _, _, _, rfl, e3.trans e4, e4.kp _ _ hdk3 hdkp, ⟨Nat.le_trans hks0.len (by rw [List.length_map]; omega), hks0.fit, hks0.nd⟩, (fun h => by omega), e4.kp _ _ hN3 hNp, rfl, (fun z h => by cases h), hrs3.mono (hkS2 e4)⟩
  · rintro i x σ J0 J1 hi ⟨nms, ks, x4, x5, x6, x7, x8, x9, x10, rfl, eJ, hJdk, hJks, hJt, hJN, hJl, hJf, hJr⟩ ⟨rfl, rfl⟩
    refine ⟨_, rfl, .inl ⟨rfl, _, SqL.of hJN⟩, ?_⟩
    refine ⟨_, rfl, _, rfl, dk, kvOf ks, rfl, .inl hJdk, fun u hu => ?_⟩
    have e5 := Ev.of eJ.pot (Same.new (o := .lst ((kvOf ks).map fun kv => kV kv.1)) hu)
    have hu5 : upd J1 u (.lst ((kvOf ks).map fun kv => kV kv.1)) u = some (.lst ((ks.map (·.1)).map V.str)) := by
      rw [upd_same]; unfold kvOf; rw [List.map_map, List.map_map]; rfl
    have hup := eJ.pot.held.ne hu
    refine ⟨p, u, ks.map (·.1), rfl, e5.pot, hup, hu5, by rw [List.length_map]; have := hJks.len; omega, fun nm G2 hnm e6 => ?_⟩
    have e56 := e5.trans e6
    have hN6 := e56.kp _ _ hJN hNp
    have hdk6 := e56.kp _ _ hJdk hdkp
    refine ⟨N, _, .str nm, rfl, rfl, hN6, by rw [List.length_map]; exact Nat.lt_of_le_of_lt (show _ ≤ 6 by omega) (by decide), ?_⟩
    have e7 : Ev p H1 (upd G2 N (.lst (nms.map V.str ++ [.str nm]))) := Pot.ev_upd (eJ.trans e56) hN1 hNp
    have hN7 : upd G2 N (.lst (nms.map V.str ++ [.str nm])) N = some (.lst ((nms ++ [nm]).map V.str)) := by rw [upd_same, List.map_append]; rfl
    have hdk7 : upd G2 N (.lst (nms.map V.str ++ [.str nm])) dk = some (.dK (kvOf ks)) := (upd_ne (Ne.symm hNdk)).trans hdk6
    have hr7 : RpS (plus (plus S dk) N) (upd G2 N (.lst (nms.map V.str ++ [.str nm]))) (.list ds) (.ref a1) := (hJr.mono (hkS2 e56)).mono (KpS.put (.inr rfl))
    revert e7 hN7 hdk7 hr7
    generalize upd G2 N (.lst (nms.map V.str ++ [.str nm])) = G3
    intro e7 hN7 hdk7 hr7
    have hat : atI ((nms ++ [nm]).map V.str) (-1) = some (.str nm) := by
      rw [List.map_append]
      unfold atI ixN
      rw [if_neg (by decide), if_pos (by rw [List.length_append, List.length_map]; simp; omega)]
      rw [List.length_append, List.length_map]
      show (nms.map V.str ++ [V.str nm])[((-1 : Int) + ((nms.length + 1 : Nat) : Int)).toNat]? = _
      rw [show ((-1 : Int) + ((nms.length + 1 : Nat) : Int)).toNat = (nms.map V.str).length by rw [List.length_map]; omega, List.getElem?_append_right (Nat.le_refl _)]
      simp
    refine ⟨_, rfl, _, rfl, _, rfl, N, _, -1, _, rfl, rfl, SqL.of hN7, hat, dk, _, rfl, DPut.k (k := Sum.inr nm) hdk7 (by rw [kv_len]; exact Nat.lt_of_le_of_lt hJks.len (Nat.lt_of_le_of_lt (show _ ≤ 16 by omega) (by decide))), ?_⟩
    rw [putK_kv]
    have hf := hJks.put hnm (show FitT "task" from fitB_ok (by decide +kernel))
    refine ⟨nms ++ [nm], putKs ks nm "task", _, _, _, _, _, _, _, rfl, Pot.ev_upd e7 hdk1 hdkp, upd_same, hf, fun _ => putKs_task ks nm, (upd_ne hNdk).trans hN7, by simp [hJl], fun z hz => ?_, hr7.mono (KpS.put (.inl (.inr rfl)))⟩
    rcases List.mem_append.mp hz with hz | hz
    · exact hJf z hz
    · have : z = nm := by simpa using hz
      rw [this]; exact hnm
  · rintro σ J0 ⟨nms, ks, x4, x5, x6, x7, x8, x9, x10, rfl, eJ, hJdk, hJks, hJt, hJN, hJl, hJf, hJr⟩
    refine ⟨by show 12 ≤ sizeLine; decide, fun T5 hT => ?_⟩
    have eT := eJ.same (Same.new (o := .lst [.str "set", .str "add", .str "skip", .str "read", .str "write", .str "more", .str "unlock", .str "leave", .str "ring", .str "ringall", .str "raise", .str "lower"]) hT)
    have sT : Same J0 _ := Same.new (o := .lst [.str "set", .str "add", .str "skip", .str "read", .str "write", .str "more", .str "unlock", .str "leave", .str "ring", .str "ringall", .str "raise", .str "lower"]) hT
    have hT5 : upd J0 T5 (.lst [.str "set", .str "add", .str "skip", .str "read", .str "write", .str "more", .str "unlock", .str "leave", .str "ring", .str "ringall", .str "raise", .str "lower"]) T5 = some (.lst [.str "set", .str "add", .str "skip", .str "read", .str "write", .str "more", .str "unlock", .str "leave", .str "ring", .str "ringall", .str "raise", .str "lower"]) := upd_same
    have hTp : T5 ≠ p := eJ.pot.held.ne hT
    revert eT sT hT5
    generalize upd J0 T5 (.lst [.str "set", .str "add", .str "skip", .str "read", .str "write", .str "more", .str "unlock", .str "leave", .str "ring", .str "ringall", .str "raise", .str "lower"]) = J1
    intro eT sT hT5
    have hdkT := sT _ _ hJdk
    have hNT := sT _ _ hJN
    have hrT := hJr.mono (Same.kpS sT)
    refine ⟨by decide, fun C hC => ?_⟩
    have hCp := eT.pot.held.ne hC
    have hC1 : H1 C = none := by
      cases e : H1 C with
      | none => rfl
      | some o => rw [eT.kp C o e hCp] at hC; cases hC
    have hSC : Al (plus (plus S dk) N) J1 := ((hS1.ev eT).plus hdkT).plus hNT
    have hCS : ¬ plus (plus S dk) N C := hSC.fresh hC
    have eC : Ev p H1 (upd J1 C (.lst [])) := Pot.ev_upd eT hC1 hCp
    have neC : ∀ {b : Addr} {o : HO}, J1 b = some o → upd J1 C (.lst []) b = some o := fun {b o} h => (upd_ne (ne_of_none h hC)).trans h
    refine ⟨_, rfl, N, rfl, ⟨_, SqL.of (neC hNT)⟩, ?_⟩
    refine for_it (walk_list (xs := nms.map V.str)) (fun i σ G => ∃ (cs : List PyData) (xc : List V) (y4 y7 y8 y9 y10 : Option V), σ = [some (.ref p), some (.ref a1), some (.ref dk), some (.ref N), y4, some (.ref T5), some (.ref C), y7, y8, y9, y10] ∧ Ev p H1 G ∧ G dk = some (.dK (kvOf ks)) ∧ G N = some (.lst (nms.map V.str)) ∧
      G T5 = some (.lst [.str "set", .str "add", .str "skip", .str "read", .str "write", .str "more", .str "unlock", .str "leave", .str "ring", .str "ringall", .str "raise", .str "lower"]) ∧ G C = some (.lst xc) ∧ RpSA (plus (plus (plus S dk) N) C) G cs xc ∧ (∀ c ∈ cs, IsRow c) ∧ cs.length = i ∧ RpS (plus (plus (plus S dk) N) C) G (.list ds) (.ref a1)) ?_ ?_ ?_ ?_
    · exact ⟨[], [], _, _, _, _, _, rfl, eC, neC hdkT, neC hNT, neC hT5, upd_same, rfl, (fun c h => by cases h), rfl, (hrT.more hC).mono (KpS.put (.inr rfl))⟩
    · rintro i σ G hi ⟨cs, xc, y4, y7, y8, y9, y10, rfl, eG, hGdk, hGN, _⟩
      exact SqL.of hGN
    · rintro i x σ G G' hi ⟨cs, xc, y4, y7, y8, y9, y10, rfl, eG, hGdk, hGN, hGT, hGC, hxc, hcs, hcl, hGr⟩ ⟨rfl, hy⟩
      rw [List.getElem?_map] at hy
      cases hni : nms[i]? with
      | none => rw [hni] at hy; cases hy
      | some nm =>
        rw [hni] at hy
        cases hy
        have hnf := hJf nm (List.mem_of_getElem? hni)
        have hn6 : nms.length ≤ 6 := by omega
        have hi6 : i < nms.length := (List.getElem?_eq_some_iff.mp hni).1
        have hksG : KsG ks := ⟨Nat.le_trans hJks.len (by omega), hJks.fit, hJt (by omega), hJks.nd⟩
        have hSS : plus (plus (plus S dk) N) C p := .inl (.inl (.inl hSp))
        have hAl : Al (plus (plus (plus S dk) N) C) G' := (((hS1.ev eG).plus hGdk).plus hGN).plus hGC
        refine ⟨_, rfl, rfl, fun G2 sd s2 hsd => ?_⟩
        obtain ⟨as', hasl', hsd2, hsd3⟩ := hsd
        refine ⟨sd, _, rfl, .inl hsd2, fun wl hwl => ?_⟩
        have hwords : (sortsKv lsorts as').map (fun kv => kV kv.1) = (lsorts.map (·.1)).map V.str := by
          have := congrArg (List.map kV) (sortsKv_keys hasl')
          rw [List.map_map, List.map_map] at this
          exact this
        have e3' := (Ev.of eG.pot s2).same (Same.new (o := .lst ((sortsKv lsorts as').map fun kv => kV kv.1)) hwl)
        have hwl3 : upd G2 wl (.lst ((sortsKv lsorts as').map fun kv => kV kv.1)) wl = some (.lst ((lsorts.map (·.1)).map V.str)) := by rw [upd_same, hwords]
        have hwlp := (eG.pot.mono s2).held.ne hwl
        refine ⟨_, rfl, p, wl, dk, lsorts.map (·.1), 12, ks, _, rfl, e3'.pot, hwlp, hwl3, by decide +kernel, fun z hz => ?_, ⟨"draft", by decide +kernel, [], by decide +kernel, rfl⟩, by decide, by decide, ⟨hdkp, e3'.kp _ _ hGdk hdkp⟩, hksG, hSS, hAl.ev e3', fun body vb G4 hbl hbo hbr e4' => ?_⟩
        · refine ⟨?_, lk_of_mem hz⟩
          obtain ⟨q, hq, rfl⟩ := List.mem_map.mp hz
          exact fitB_ok (List.all_eq_true.mp lsorts_words q hq)
        have e5 := e3'.trans e4'
        have hC5 := e5.kp _ _ hGC hCp
        refine ⟨_, rfl, .inl ⟨rfl, _, SqL.of hC5⟩, ?_⟩
        refine ⟨_, rfl, _, rfl, p, 2, rfl, e5.pot, by decide, by decide, fun r5 G5 h50 h51 e6 => ⟨rfl, _, rfl, _, rfl, _, rfl, by show 2 ≤ sizeLine; decide, fun cl hcl' => ?_⟩⟩
        have e7 := (e5.trans e6).same (Same.new (o := .lst [.str "close", .str "cancel"]) hcl')
        have hcl7 : upd G5 cl (.lst [.str "close", .str "cancel"]) cl = some (.lst [.str "close", .str "cancel"]) := upd_same
        have hT7 : upd G5 cl (.lst [.str "close", .str "cancel"]) T5 = some (.lst [.str "set", .str "add", .str "skip", .str "read", .str "write", .str "more", .str "unlock", .str "leave", .str "ring", .str "ringall", .str "raise", .str "lower"]) := Same.new hcl' _ _ ((e5.trans e6).kp _ _ hGT hTp)
        have sc7 : Ev p G4 (upd G5 cl (.lst [.str "close", .str "cancel"])) := e6.same (Same.new hcl')
        revert e7 hcl7 hT7 sc7
        generalize upd G5 cl (.lst [.str "close", .str "cancel"]) = G6
        intro e7 hcl7 hT7 sc7
        refine ⟨T5, cl, _, _, rfl, rfl, hT7, hcl7, by show 14 ≤ sizeLine; decide, fun tl htl => ?_⟩
        have e8 := e7.same (Same.new (o := .lst ([.str "set", .str "add", .str "skip", .str "read", .str "write", .str "more", .str "unlock", .str "leave", .str "ring", .str "ringall", .str "raise", .str "lower"] ++ [.str "close", .str "cancel"])) htl)
        have htl8 : upd G6 tl (.lst ([.str "set", .str "add", .str "skip", .str "read", .str "write", .str "more", .str "unlock", .str "leave", .str "ring", .str "ringall", .str "raise", .str "lower"] ++ [.str "close", .str "cancel"])) tl = some (.lst (lastWs.map V.str)) := by rw [upd_same, ← tupL]; rfl
        have sc8 := sc7.same (Same.new (o := .lst ([.str "set", .str "add", .str "skip", .str "read", .str "write", .str "more", .str "unlock", .str "leave", .str "ring", .str "ringall", .str "raise", .str "lower"] ++ [.str "close", .str "cancel"])) htl)
        have htlp := e7.pot.held.ne htl
        refine ⟨_, rfl, p, tl, dk, lastWs, 4, ks, _, rfl, e8.pot, htlp, htl8, by decide +kernel, fun z hz => ?_, ⟨"set", by decide +kernel, [("n" : Str)], by decide +kernel, rfl⟩, by decide, by decide, ⟨hdkp, e8.kp _ _ hGdk hdkp⟩, hksG, hSS, hAl.ev e8, fun tail vt G9 htll hto htr e9 => ?_⟩
        · have := List.all_eq_true.mp tails_words z hz
          rw [Bool.and_eq_true] at this
          exact ⟨fitB_ok this.1, Option.isSome_iff_exists.mp this.2⟩
        refine ⟨by show 4 ≤ sizeLine; decide, fun t ht => ?_⟩
        have e10 := e8.trans e9
        have eb : Ev p G4 G9 := sc8.trans e9
        have st := Same.new (o := .tup [.str nm, .bl (decide (V.int r5 = V.int 0)), vb, vt]) ht
        have htS : ¬ plus (plus (plus S dk) N) C t := (hAl.ev e10).fresh ht
        have hrow : RpS (plus (plus (plus S dk) N) C) (upd G9 t (.tup [.str nm, .bl (decide (V.int r5 = V.int 0)), vb, vt])) (.tuple [.str nm, .bool (decide (V.int r5 = V.int 0)), .list body, .list tail]) (.ref t) :=
          ⟨t, _, rfl, htS, upd_same, .cons rfl (.cons rfl (.cons ((hbr.mono (eb.kpS hSS)).mono (Same.kpS st)) (.cons (htr.mono (Same.kpS st)) .nil)))⟩
        have e11 := e10.same st
        have hC11 := e11.kp _ _ hGC hCp
        have hxl : xc.length = cs.length := hxc.length
        refine ⟨C, xc, .ref t, rfl, rfl, hC11, Nat.lt_of_le_of_lt (show _ ≤ 6 by omega) (by decide), ?_⟩
        have neC2 : ∀ {b : Addr} {o : HO}, upd G9 t (.tup [.str nm, .bl (decide (V.int r5 = V.int 0)), vb, vt]) b = some o → (∀ ys, o ≠ .lst ys ∨ b ≠ C) → b ≠ C → upd (upd G9 t (.tup [.str nm, .bl (decide (V.int r5 = V.int 0)), vb, vt])) C (.lst (xc ++ [.ref t])) b = some o := fun h _ n => (upd_ne n).trans h
        have kC : KpS (plus (plus (plus S dk) N) C) (upd G9 t (.tup [.str nm, .bl (decide (V.int r5 = V.int 0)), vb, vt])) (upd (upd G9 t (.tup [.str nm, .bl (decide (V.int r5 = V.int 0)), vb, vt])) C (.lst (xc ++ [.ref t]))) := KpS.put (.inr rfl)
        have ndk : dk ≠ C := fun z => by rw [z, hGC] at hGdk; cases hGdk
        have nN : N ≠ C := fun z => hCS (.inr z.symm)
        have nT : T5 ≠ C := fun z => by rw [z, hC] at hT5; cases hT5
        refine ⟨cs ++ [.tuple [.str nm, .bool (decide (V.int r5 = V.int 0)), .list body, .list tail]], xc ++ [.ref t], _, _, _, _, _, rfl, Pot.ev_upd (eG.trans e11) hC1 hCp, (upd_ne ndk).trans (e11.kp _ _ hGdk hdkp), (upd_ne nN).trans (e11.kp _ _ hGN hNp), (upd_ne nT).trans (e11.kp _ _ hGT hTp), upd_same, ((hxc.mono (e11.kpS hSS)).app (.cons hrow .nil)).mono kC, fun c hc => ?_, by simp [hcl], (hGr.mono (e11.kpS hSS)).mono kC⟩
        rcases List.mem_append.mp hc with hc | hc
        · exact hcs c hc
        · have : c = .tuple [.str nm, .bool (decide (V.int r5 = V.int 0)), .list body, .list tail] := List.mem_singleton.mp hc
          rw [this]
          exact ⟨nm, _, body, tail, rfl, hnf, by omega, by omega, hbo, hto⟩
    · rintro σ G ⟨cs, xc, y4, y7, y8, y9, y10, rfl, eG, hGdk, hGN, hGT, hGC, hxc, hcs, hcl, hGr⟩
      rw [List.length_map] at hcl
      refine ⟨_, rfl, _, rfl, by show 2 ≤ sizeLine; decide, fun t ht => ?_⟩
      have st := Same.new (o := .tup [.ref a1, .ref C]) ht
      have sub : ∀ a, S a → plus (plus (plus S dk) N) C a := fun a h => .inl (.inl (.inl h))
      refine k ds cs (.ref a1) (.ref C) t _ hds hdl hcs (by omega) ((hGr.less sub).mono (Same.kpS st)) ⟨C, xc, rfl, fun h => hCS (.inl (.inl h)), st _ _ hGC, (hxc.mono (Same.kpS st)).less sub⟩ upd_same ((e1.trans eG).same st)
end
end K12
namespace K12
open PySem PySem.Spec PyProof.Rows L2
mutual
def fitLB (n : Nat) : PyData → Bool
  | .none => true
  | .bool _ => true
  | .int i => decide (i.natAbs ≤ 5000)
  | .str x => fitB x
  | .list ds => decide (ds.length ≤ n) && fitLAB n ds
  | .tuple ds => decide (ds.length ≤ n) && fitLAB n ds
  | .dict kvs => kvs.isEmpty
def fitLAB (n : Nat) : List PyData → Bool
  | [] => true
  | d :: ds => fitLB n d && fitLAB n ds
end
mutual
theorem fitLB_ok {n : Nat} : ∀ {d : PyData}, fitLB n d = true → FitL n d
  | .none, _ => trivial
  | .bool _, _ => trivial
  | .int i, h => (of_decide_eq_true h : i.natAbs ≤ 5000)
  | .str _, h => fitB_ok h
  | .list ds, h => by
    have h' : (decide (ds.length ≤ n) && fitLAB n ds) = true := h
    rw [Bool.and_eq_true] at h'
    exact ⟨of_decide_eq_true h'.1, fitLAB_ok h'.2⟩
  | .tuple ds, h => by
    have h' : (decide (ds.length ≤ n) && fitLAB n ds) = true := h
    rw [Bool.and_eq_true] at h'
    exact ⟨of_decide_eq_true h'.1, fitLAB_ok h'.2⟩
  | .dict kvs, h => List.isEmpty_iff.mp h
theorem fitLAB_ok {n : Nat} : ∀ {ds : List PyData}, fitLAB n ds = true → FitLA n ds
  | [], _ => trivial
  | d :: ds, h => by
    have h' : (fitLB n d && fitLAB n ds) = true := h
    rw [Bool.and_eq_true] at h'
    exact ⟨fitLB_ok h'.1, fitLAB_ok h'.2⟩
end
def okB (L D W : Nat) (d : PyData) : Bool := fitLB L d && (decide (d.depth ≤ D) && decide (wt d ≤ W))
theorem okB_ok {L D W : Nat} {d : PyData} (h : okB L D W d = true) : Ok L D W d := by
  unfold okB at h
  rw [Bool.and_eq_true, Bool.and_eq_true] at h
  exact ⟨fitLB_ok h.1, of_decide_eq_true h.2.1, of_decide_eq_true h.2.2⟩
def odds : List PyData := [.none, .int 5, .bool true, .str "", .str "A", .str "ninelongs", .str "tick", .str "a b", .list [], .tuple [], .dict [], .int 0, .int (-1001), .int 1001, .int 13, .str "a", .bool false, .tuple [.str "set", .int 5]]
theorem odds_ok : (odds.all (okB 12 1 1000)) = true := by decide +kernel
def oddThings : List PyData := [.none, .int 5, .str "cell", .tuple [], .tuple [.str "cell"], .tuple [.str "cell", .str "a"], .tuple [.str "cell", .str "a", .int 0, .int 0], .list [.str "cell", .str "a", .int 0], .tuple [.str "Cell", .str "a", .int 0]]
def oddThings2 : List PyData := [.tuple [.int 5, .str "a", .int 0], .tuple [.list [], .str "a", .int 0], .tuple [.str "task", .str "a", .bool true], .tuple [.str "cell", .str "tick", .int 0], .tuple [.str "bell", .str "aa", .str "aa"]]
theorem oddThings_ok : ((oddThings ++ oddThings2).all (okB 12 2 1500)) = true := by decide +kernel
/-- one of a list of data -/
theorem at_data {S : Addr → Prop} {H : Hp} {ds : List PyData} {xs : List V} {r : Int} (h : RpSA S H ds xs) (h0 : 0 ≤ r) (h1 : r < (xs.length : Nat)) : ∃ v d, atI xs r = some v ∧ d ∈ ds ∧ RpS S H d v := by
  have hi : r.toNat < xs.length := by omega
  obtain ⟨d, hd, hr⟩ := h.getV (List.getElem?_eq_getElem hi)
  refine ⟨_, d, ?_, List.mem_of_getElem? hd, hr⟩
  unfold atI ixN
  rw [if_pos (by omega), if_pos (by omega)]
  exact List.getElem?_eq_getElem hi
def spGOdd : Sp := fun vs H Q _ => ∃ (p : Addr) (S : Addr → Prop), vs = [.ref p] ∧ Pot p H ∧ S p ∧ Al S H ∧ ∀ d v H', Ok 12 1 1000 d → RpS S H' d v → Ev p H H' → Q v H'
def spGOddThing : Sp := fun vs H Q _ => ∃ (p : Addr) (u : V) (S : Addr → Prop), vs = [.ref p, u] ∧ Pot p H ∧ S p ∧ Al S H ∧ ∀ d v H', Ok 12 2 1500 d → RpS S H' d v → Ev p H H' → Q v H'
def spGIn : Sp := fun vs H Q _ => ∃ (S : Addr → Prop) (row : Addr) (k : Int) (ds : List PyData) (d : PyData) (u : V), vs = [.ref row, .int k, u] ∧ RpS S H (.tuple ds) (.ref row) ∧ RpS S H d u ∧ 0 ≤ k ∧ k < (ds.length : Nat) ∧ ds.length ≤ 1000 ∧ Al S H ∧ ∀ v H', Same H H' → RpS S H' (.tuple (ds.set k.toNat d)) v → Q v H'
section
variable {P : Program} {w : World} {K : PySem.W.Frag} {mg : Str → Option Value} {base : Heap}
abbrev N__law_odd : List Str := ["_law_pot_here", "_law_odd_here"]
theorem sc__law_odd : FnScope N__law_odd ["_law_pot_here"] (defScope (top 75)) := sc_of (by decide +kernel)
-- slots: 0:_law_pot_here 1:_law_odd_here
theorem ok__law_odd (T : Tx w K mg) (c__law_take : Cl P w K mg base CX0 1 "_law_take" spTake) : Cl P w K mg base CX0 2 "_law_odd" spGOdd := by
  refine T.d__law_odd.cl sc__law_odd (fun _ _ _ _ _ _ us hl => match us, hl with | [_], _ => rfl) (fun vs H Q E h => ?_) fun f cdv A outer s H vs Q E hr h => ?_
  · obtain ⟨_, _, rfl, _⟩ := h; rfl
  have hu := hu_of hr
  have hu0 := hr.units0
  have hu64 := hr.units
  obtain ⟨p, S, rfl, h⟩ := h
  refine ⟨_, PSs.nox ((pss_cons (ps_set (i := 1) sc__law_odd.nd rfl (Or.inl rfl) (pe_lst (pa_cons pe_non (pa_cons pe_int (pa_cons pe_bl (pa_cons pe_str (pa_cons pe_str (pa_cons pe_str (pa_cons pe_str (pa_cons pe_str (pa_cons (pe_lst pa_nil) (pa_cons (pe_tup pa_nil) (pa_cons pe_dnewK (pa_cons pe_int (pa_cons (pe_un un_neg pe_int) (pa_cons pe_int (pa_cons pe_int (pa_cons pe_str (pa_cons pe_bl (pa_cons (pe_tup (pa_cons pe_str (pa_cons pe_int pa_nil))) pa_nil))))))))))))))))))))
      (pss_one (ps_ret (pe_ix ix_list (pv 1) (pe_cl c__law_take hr (pa_cons (pv 0) (pa_cons (pe_callB call_len_seq rfl T.f_len b_len (pa_cons (pv 1) pa_nil)) pa_nil))) (fun _ _ => rfl)))))), ?_⟩
  obtain ⟨hp, hSp, hS, k⟩ := h
  refine ⟨Nat.zero_le _, fun l1 hl1 => ⟨Nat.zero_le _, fun t1 ht1 => fun d1 hd1 => ⟨_, rfl, by show 2 ≤ sizeLine; decide, fun t2 ht2 => ⟨by show 18 ≤ sizeLine; decide, fun L hL => ?_⟩⟩⟩⟩
  have s1 := Same.new (o := .lst []) hl1
  have s2 := Same.new (o := .tup []) ht1
  have s3 := Same.new (o := .dK []) hd1
  have s4 := Same.new (o := .tup [.str "set", .int 5]) ht2
  have n1 := hS.fresh hl1
  have n2 := (hS.same s1).fresh ht1
  have n3 := ((hS.same s1).same s2).fresh hd1
  have n4 := (((hS.same s1).same s2).same s3).fresh ht2
  have g1 := s4 _ _ (s3 _ _ (s2 _ _ (upd_same (H := H) (a := l1) (o := .lst []))))
  have g2 := s4 _ _ (s3 _ _ (upd_same (H := upd H l1 (.lst [])) (a := t1) (o := .tup [])))
  have g3 := s4 _ _ (upd_same (H := upd (upd H l1 (.lst [])) t1 (.tup [])) (a := d1) (o := .dK []))
  have g4 := upd_same (H := upd (upd (upd H l1 (.lst [])) t1 (.tup [])) d1 (.dK [])) (a := t2) (o := .tup [.str "set", .int 5])
  have s14 := ((s1.trans s2).trans s3).trans s4
  revert hL g1 g2 g3 g4 s14
  generalize upd (upd (upd (upd H l1 (.lst [])) t1 (.tup [])) d1 (.dK [])) t2 (.tup [.str "set", .int 5]) = H4
  intro hL g1 g2 g3 g4 s14
  have hds : RpSA S H4 odds [.non, .int 5, .bl true, .str "", .str "A", .str "ninelongs", .str "tick", .str "a b", .ref l1, .ref t1, .ref d1, .int 0, .int (-1001), .int 1001, .int 13, .str "a", .bl false, .ref t2] :=
    .cons rfl (.cons rfl (.cons rfl (.cons rfl (.cons rfl (.cons rfl (.cons rfl (.cons rfl (.cons ⟨l1, _, rfl, n1, g1, rfl⟩ (.cons ⟨t1, _, rfl, n2, g2, rfl⟩ (.cons ⟨rfl, d1, rfl, n3, g3⟩ (.cons rfl (.cons rfl (.cons rfl (.cons rfl (.cons rfl (.cons rfl (.cons ⟨t2, _, rfl, n4, g4, .cons rfl (.cons rfl .nil)⟩ .nil)))))))))))))))))
  have e5 := (Ev.of hp s14).same (Same.new (o := .lst [.non, .int 5, .bl true, .str "", .str "A", .str "ninelongs", .str "tick", .str "a b", .ref l1, .ref t1, .ref d1, .int 0, .int (-1001), .int 1001, .int 13, .str "a", .bl false, .ref t2]) hL)
  have hL5 : upd H4 L (.lst [.non, .int 5, .bl true, .str "", .str "A", .str "ninelongs", .str "tick", .str "a b", .ref l1, .ref t1, .ref d1, .int 0, .int (-1001), .int 1001, .int 13, .str "a", .bl false, .ref t2]) L = _ := upd_same
  have hds5 := hds.mono (Same.kpS (Same.new (o := .lst [.non, .int 5, .bl true, .str "", .str "A", .str "ninelongs", .str "tick", .str "a b", .ref l1, .ref t1, .ref d1, .int 0, .int (-1001), .int 1001, .int 13, .str "a", .bl false, .ref t2]) hL))
  have hLp : L ≠ p := (hp.mono s14).held.ne hL
  refine ⟨_, rfl, _, rfl, _, rfl, L, _, rfl, .inl (SqL.of hL5), p, 18, rfl, e5.pot, by decide, by decide, fun r H6 h0 h1 e6 => ?_⟩
  obtain ⟨v, d, ha, hd, hr⟩ := at_data (hds5.mono (e6.kpS hSp)) h0 h1
  exact ⟨L, _, r, _, rfl, rfl, SqL.of (e6.kp _ _ hL5 hLp), ha, k d v H6 (okB_ok (List.all_eq_true.mp odds_ok d hd)) hr (e5.trans e6)⟩
end
end K12
namespace K12
open PySem PySem.Spec PyProof.Rows L2
theorem cut_pre {xs : List V} {k : Int} (h0 : 0 ≤ k) (h1 : k ≤ (xs.length : Nat)) : cutV xs none (some k) = xs.take k.toNat := by
  obtain ⟨n, rfl⟩ := Int.eq_ofNat_of_zero_le h0
  unfold cutV
  have e : HT.sIx xs.length xs.length (some (n : Int)) = n := (HT.sIx_nat _ _ n).trans (by omega)
  rw [e]
  show (xs.drop 0).take (n - 0) = _
  simp
theorem cut_post {xs : List V} {k : Int} (h0 : 0 ≤ k) (h1 : k ≤ (xs.length : Nat)) : cutV xs (some k) none = xs.drop k.toNat := by
  obtain ⟨n, rfl⟩ := Int.eq_ofNat_of_zero_le h0
  unfold cutV
  have e : HT.sIx xs.length 0 (some (n : Int)) = n := (HT.sIx_nat _ _ n).trans (by omega)
  rw [e]
  show (xs.drop n).take (xs.length - n) = _
  rw [List.take_of_length_le (by rw [List.length_drop]; exact Nat.le_refl _)]; rfl
theorem set_cut {xs : List V} {n : Nat} {u : V} (h : n < xs.length) : (xs.take n ++ [u]) ++ xs.drop (n + 1) = xs.set n u := by
  rw [List.set_eq_take_append_cons_drop, if_pos h, List.append_assoc]; rfl
section
variable {P : Program} {w : World} {K : PySem.W.Frag} {mg : Str → Option Value} {base : Heap}
abbrev N__law_in : List Str := ["_law_row", "_law_at", "_law_part_here"]
theorem sc__law_in : FnScope N__law_in ["_law_row", "_law_at", "_law_part_here"] (defScope (top 76)) := sc_of (by decide +kernel)
-- slots: 0:_law_row 1:_law_at 2:_law_part_here
theorem ok__law_in (T : Tx w K mg) : Cl P w K mg base CX0 1 "_law_in" spGIn := by
  refine T.d__law_in.cl sc__law_in (fun _ _ _ _ _ _ us hl => match us, hl with | [_, _, _], _ => rfl) (fun vs H Q E h => ?_) fun f cdv A outer s H vs Q E hr h => ?_
  · obtain ⟨_, _, _, _, _, _, rfl, _⟩ := h; rfl
  have hu := hu_of hr
  have hu0 := hr.units0
  have hu64 := hr.units
  obtain ⟨S, row, k, ds, d, u, rfl, h⟩ := h
  refine ⟨_, PSs.nox ((pss_one (ps_ret (pe_op op_catA (pe_op op_catA (pe_slice sl_tup (pv 0) po_none (po_some (pv 1))) (pe_tup (pa_cons (pv 2) pa_nil))) (pe_slice sl_tup (pv 0) (po_some (pe_op op_add (pv 1) pe_int)) po_none))))), ?_⟩
  obtain ⟨hrow, hu', h0, h1, hl, hS, kk⟩ := h
  obtain ⟨a, xs, ea, na, ha, hxs⟩ := hrow
  cases ea
  have hxl : xs.length = ds.length := hxs.length
  have hn : k.toNat < xs.length := by omega
  have hk : k ≤ (xs.length : Nat) := by omega
  have hk1 : k + 1 ≤ (xs.length : Nat) := by omega
  have fin : ∀ (G : Hp) (r : Addr), Same H G → ¬ S r → G r = some (.tup (xs.set k.toNat u)) → Q (.ref r) G := fun G r s n e =>
    kk _ G s ⟨r, _, rfl, n, e, (hxs.mono (Same.kpS s)).set k.toNat (hu'.mono (Same.kpS s))⟩
  have step2 : ∀ (c : Addr) (G : Hp), Same H G → ¬ S c → G c = some (.tup (xs.take k.toNat ++ [u])) → tSl (rSlT K) (tVar 0) (tPart (tOp (rI0 fun i j => .int (i + j)) (tVar 1) (tC (.int 1)))) tNoPart [some (.ref row), some (.int k), some u] G (fun y H2 => rCatA K (.ref c) y H2 Q) := fun c G s n e => by
    refine ⟨_, rfl, _, rfl, _, _, rfl, rfl, _, rfl, row, xs, rfl, SqT.of (s _ _ ha), ?_, fun q hq => ?_⟩
    · intro ⟨h, _⟩
      obtain ⟨m, hm⟩ := Int.eq_ofNat_of_zero_le (show 0 ≤ k + 1 by omega)
      have h : HT.sIx xs.length 0 (some (k + 1)) = 0 := h
      rw [hm] at h
      have := HT.sIx_nat xs.length 0 m
      rw [h] at this
      omega
    · show rCatA K (.ref c) (.ref q) (upd G q (.tup (cutV xs (some (k + 1)) none))) Q
      rw [cut_post (by omega) hk1, show (k + 1).toNat = k.toNat + 1 by omega]
      have sq := Same.new (o := .tup (xs.drop (k.toNat + 1))) hq
      have ec := sq _ _ e
      have hlen : (xs.take k.toNat ++ [u]).length + (xs.drop (k.toNat + 1)).length ≤ sizeLine := by
        have := congrArg List.length (set_cut (u := u) hn)
        rw [List.length_append, List.length_set] at this
        rw [this, hxl]; exact Nat.le_trans hl (by decide)
      refine ⟨c, q, _, _, rfl, rfl, SqT.of ec, SqT.of upd_same, hlen, (fun z => by simp at z), fun _ z => ?_, fun _ _ p hp => ?_⟩
      · refine fin _ c (s.trans sq) n ?_
        rw [ec, ← set_cut hn, z, List.append_nil]
      · have sp := Same.new (o := .tup ((xs.take k.toNat ++ [u]) ++ xs.drop (k.toNat + 1))) hp
        refine fin _ p ((s.trans sq).trans sp) (((hS.same s).same sq).fresh hp) ?_
        rw [upd_same, set_cut hn]
  refine ⟨_, rfl, _, rfl, _, rfl, row, xs, rfl, SqT.of ha, ?_, fun q hq => ?_⟩
  · intro ⟨_, h⟩
    obtain ⟨m, hm⟩ := Int.eq_ofNat_of_zero_le h0
    have h : HT.sIx xs.length xs.length (some k) = xs.length := h
    rw [hm] at h
    have := HT.sIx_nat xs.length xs.length m
    rw [h] at this
    omega
  · rw [cut_pre h0 hk]
    have sq := Same.new (o := .tup (xs.take k.toNat)) hq
    refine ⟨_, rfl, by show 1 ≤ sizeLine; decide, fun t ht => ?_⟩
    have st := Same.new (o := .tup [u]) ht
    have hq2 := st _ _ (upd_same (H := H) (a := q) (o := .tup (xs.take k.toNat)))
    have ht2 := upd_same (H := upd H q (.tup (xs.take k.toNat))) (a := t) (o := .tup [u])
    have hlen : (xs.take k.toNat).length + [u].length ≤ sizeLine := by
      rw [List.length_take]
      show min k.toNat xs.length + 1 ≤ sizeLine
      exact Nat.le_trans (show _ ≤ 1001 by omega) (by decide)
    refine ⟨q, t, _, _, rfl, rfl, SqT.of hq2, SqT.of ht2, hlen, fun z => ?_, (fun _ z => by cases z), fun _ _ p hp => ?_⟩
    · exact step2 t _ (sq.trans st) ((hS.same sq).fresh ht) (by rw [ht2, z]; rfl)
    · have sp := Same.new (o := .tup (xs.take k.toNat ++ [u])) hp
      exact step2 p _ ((sq.trans st).trans sp) (((hS.same sq).same st).fresh hp) upd_same
end
end K12
namespace K12
open PySem PySem.Spec PyProof.Rows L2
theorem alT {S : Addr → Prop} {H : Hp} {t : Addr} {ds : List PyData} {xs : List V} (hS : Al S H) (ht : H t = none) (h : RpSA S H ds xs) : RpS S (upd H t (.tup xs)) (.tuple ds) (.ref t) := ⟨t, xs, rfl, hS.fresh ht, upd_same, h.mono (Same.kpS (Same.new ht))⟩
theorem alL {S : Addr → Prop} {H : Hp} {t : Addr} {ds : List PyData} {xs : List V} (hS : Al S H) (ht : H t = none) (h : RpSA S H ds xs) : RpS S (upd H t (.lst xs)) (.list ds) (.ref t) := ⟨t, xs, rfl, hS.fresh ht, upd_same, h.mono (Same.kpS (Same.new ht))⟩
section
variable {P : Program} {w : World} {K : PySem.W.Frag} {mg : Str → Option Value} {base : Heap}
abbrev N__law_odd_thing : List Str := ["_law_pot_here", "_law_stuff_here", "_law_odd_here"]
theorem sc__law_odd_thing : FnScope N__law_odd_thing ["_law_pot_here", "_law_stuff_here"] (defScope (top 77)) := sc_of (by decide +kernel)
-- slots: 0:_law_pot_here 1:_law_stuff_here 2:_law_odd_here
theorem ok__law_odd_thing (T : Tx w K mg) (c__law_take : Cl P w K mg base CX0 1 "_law_take" spTake) : Cl P w K mg base CX0 2 "_law_odd_thing" spGOddThing := by
  refine T.d__law_odd_thing.cl sc__law_odd_thing (fun _ _ _ _ _ _ us hl => match us, hl with | [_, _], _ => rfl) (fun vs H Q E h => ?_) fun f cdv A outer s H vs Q E hr h => ?_
  · obtain ⟨_, _, _, rfl, _⟩ := h; rfl
  have hu := hu_of hr
  have hu0 := hr.units0
  have hu64 := hr.units
  obtain ⟨p, u, S, rfl, h⟩ := h
  refine ⟨_, PSs.nox ((pss_cons (ps_set (i := 2) sc__law_odd_thing.nd rfl (Or.inl rfl) (pe_lst (pa_cons pe_non (pa_cons pe_int (pa_cons pe_str (pa_cons (pe_tup pa_nil) (pa_cons (pe_tup (pa_cons pe_str pa_nil)) (pa_cons (pe_tup (pa_cons pe_str (pa_cons pe_str pa_nil))) (pa_cons (pe_tup (pa_cons pe_str (pa_cons pe_str (pa_cons pe_int (pa_cons pe_int pa_nil))))) (pa_cons (pe_lst (pa_cons pe_str (pa_cons pe_str (pa_cons pe_int pa_nil)))) (pa_cons (pe_tup (pa_cons pe_str (pa_cons pe_str (pa_cons pe_int pa_nil)))) pa_nil)))))))))))
      (pss_cons (ps_set (i := 2) sc__law_odd_thing.nd rfl (Or.inl rfl) (pe_op op_cat (pv 2) (pe_lst (pa_cons (pe_tup (pa_cons pe_int (pa_cons pe_str (pa_cons pe_int pa_nil)))) (pa_cons (pe_tup (pa_cons (pe_lst pa_nil) (pa_cons pe_str (pa_cons pe_int pa_nil)))) (pa_cons (pe_tup (pa_cons pe_str (pa_cons pe_str (pa_cons pe_bl pa_nil)))) (pa_cons (pe_tup (pa_cons pe_str (pa_cons pe_str (pa_cons pe_int pa_nil)))) (pa_cons (pe_tup (pa_cons pe_str (pa_cons pe_str (pa_cons pe_str pa_nil)))) pa_nil))))))))
      (pss_one (ps_ret (pe_ix ix_list (pv 2) (pe_cl c__law_take hr (pa_cons (pv 0) (pa_cons (pe_callB call_len_seq rfl T.f_len b_len (pa_cons (pv 2) pa_nil)) pa_nil))) (fun _ _ => rfl))))))), ?_⟩
  obtain ⟨hp, hSp, hS, k⟩ := h
  refine ⟨Nat.zero_le _, fun t1 h1 => ⟨by show 1 ≤ sizeLine; decide, fun t2 h2 => ⟨by show 2 ≤ sizeLine; decide, fun t3 h3 => ⟨by show 4 ≤ sizeLine; decide, fun t4 h4 => ⟨by show 3 ≤ sizeLine; decide, fun t5 h5 => ⟨by show 3 ≤ sizeLine; decide, fun t6 h6 => ⟨by show 9 ≤ sizeLine; decide, fun L1 hL1 => ?_⟩⟩⟩⟩⟩⟩⟩
  have q1 := Same.new (o := .tup []) h1
  have q2 := Same.new (o := .tup [.str "cell"]) h2
  have q3 := Same.new (o := .tup [.str "cell", .str "a"]) h3
  have q4 := Same.new (o := .tup [.str "cell", .str "a", .int 0, .int 0]) h4
  have q5 := Same.new (o := .lst [.str "cell", .str "a", .int 0]) h5
  have q6 := Same.new (o := .tup [.str "Cell", .str "a", .int 0]) h6
  have r1 : RpS S _ (.tuple []) (.ref t1) := alT hS h1 .nil
  have r2 : RpS S _ (.tuple [.str "cell"]) (.ref t2) := alT (hS.same q1) h2 (.cons rfl .nil)
  have r3 : RpS S _ (.tuple [.str "cell", .str "a"]) (.ref t3) := alT ((hS.same q1).same q2) h3 (.cons rfl (.cons rfl .nil))
  have r4 : RpS S _ (.tuple [.str "cell", .str "a", .int 0, .int 0]) (.ref t4) := alT (((hS.same q1).same q2).same q3) h4 (.cons rfl (.cons rfl (.cons rfl (.cons rfl .nil))))
  have r5 : RpS S _ (.list [.str "cell", .str "a", .int 0]) (.ref t5) := alL ((((hS.same q1).same q2).same q3).same q4) h5 (.cons rfl (.cons rfl (.cons rfl .nil)))
  have r6 : RpS S _ (.tuple [.str "Cell", .str "a", .int 0]) (.ref t6) := alT (((((hS.same q1).same q2).same q3).same q4).same q5) h6 (.cons rfl (.cons rfl (.cons rfl .nil)))
  have r1 := r1.mono (Same.kpS ((((q2.trans q3).trans q4).trans q5).trans q6))
  have r2 := r2.mono (Same.kpS (((q3.trans q4).trans q5).trans q6))
  have r3 := r3.mono (Same.kpS ((q4.trans q5).trans q6))
  have r4 := r4.mono (Same.kpS (q5.trans q6))
  have r5 := r5.mono (Same.kpS q6)
  have q16 := ((((q1.trans q2).trans q3).trans q4).trans q5).trans q6
  clear h1 h2 h3 h4 h5 h6 q1 q2 q3 q4 q5 q6
  revert hL1 r1 r2 r3 r4 r5 r6 q16
  generalize upd (upd (upd (upd (upd (upd H t1 (.tup [])) t2 (.tup [.str "cell"])) t3 (.tup [.str "cell", .str "a"])) t4 (.tup [.str "cell", .str "a", .int 0, .int 0])) t5 (.lst [.str "cell", .str "a", .int 0])) t6 (.tup [.str "Cell", .str "a", .int 0]) = G
  intro hL1 r6 r1 r2 r3 r4 r5 q16
  have hd1 : RpSA S G oddThings [.non, .int 5, .str "cell", .ref t1, .ref t2, .ref t3, .ref t4, .ref t5, .ref t6] := .cons rfl (.cons rfl (.cons rfl (.cons r1 (.cons r2 (.cons r3 (.cons r4 (.cons r5 (.cons r6 .nil))))))))
  have qL := Same.new (o := .lst [.non, .int 5, .str "cell", .ref t1, .ref t2, .ref t3, .ref t4, .ref t5, .ref t6]) hL1
  have hd2 := hd1.mono (Same.kpS qL)
  have hL2 : upd G L1 (.lst [.non, .int 5, .str "cell", .ref t1, .ref t2, .ref t3, .ref t4, .ref t5, .ref t6]) L1 = some (.lst [.non, .int 5, .str "cell", .ref t1, .ref t2, .ref t3, .ref t4, .ref t5, .ref t6]) := upd_same
  have s0 := q16.trans qL
  clear r1 r2 r3 r4 r5 r6 hd1 q16 qL
  revert hd2 hL2 s0
  generalize upd G L1 (.lst [.non, .int 5, .str "cell", .ref t1, .ref t2, .ref t3, .ref t4, .ref t5, .ref t6]) = G2
  intro hd2 hL2 s0
  have hS2 := hS.same s0
  refine ⟨_, rfl, by show 3 ≤ sizeLine; decide, fun u1 h1 => ⟨Nat.zero_le _, fun l2 hl2 => ⟨by show 3 ≤ sizeLine; decide, fun u2 h2 => ⟨by show 3 ≤ sizeLine; decide, fun u3 h3 => ⟨by show 3 ≤ sizeLine; decide, fun u4 h4 => ⟨by show 3 ≤ sizeLine; decide, fun u5 h5 => ⟨by show 5 ≤ sizeLine; decide, fun L2' hL2' => ?_⟩⟩⟩⟩⟩⟩⟩
  have q1 := Same.new (o := .tup [.int 5, .str "a", .int 0]) h1
  have ql := Same.new (o := .lst []) hl2
  have q2 := Same.new (o := .tup [.ref l2, .str "a", .int 0]) h2
  have q3 := Same.new (o := .tup [.str "task", .str "a", .bl true]) h3
  have q4 := Same.new (o := .tup [.str "cell", .str "tick", .int 0]) h4
  have q5 := Same.new (o := .tup [.str "bell", .str "aa", .str "aa"]) h5
  have r1 : RpS S _ (.tuple [.int 5, .str "a", .int 0]) (.ref u1) := alT hS2 h1 (.cons rfl (.cons rfl (.cons rfl .nil)))
  have rl : RpS S _ (.list []) (.ref l2) := alL (hS2.same q1) hl2 .nil
  have r2 : RpS S _ (.tuple [.list [], .str "a", .int 0]) (.ref u2) := alT ((hS2.same q1).same ql) h2 (.cons rl (.cons rfl (.cons rfl .nil)))
  have r3 : RpS S _ (.tuple [.str "task", .str "a", .bool true]) (.ref u3) := alT (((hS2.same q1).same ql).same q2) h3 (.cons rfl (.cons rfl (.cons rfl .nil)))
  have r4 : RpS S _ (.tuple [.str "cell", .str "tick", .int 0]) (.ref u4) := alT ((((hS2.same q1).same ql).same q2).same q3) h4 (.cons rfl (.cons rfl (.cons rfl .nil)))
  have r5 : RpS S _ (.tuple [.str "bell", .str "aa", .str "aa"]) (.ref u5) := alT (((((hS2.same q1).same ql).same q2).same q3).same q4) h5 (.cons rfl (.cons rfl (.cons rfl .nil)))
  have r1 := r1.mono (Same.kpS ((((ql.trans q2).trans q3).trans q4).trans q5))
  have r2 := r2.mono (Same.kpS ((q3.trans q4).trans q5))
  have r3 := r3.mono (Same.kpS (q4.trans q5))
  have r4 := r4.mono (Same.kpS q5)
  have q15 := ((((q1.trans ql).trans q2).trans q3).trans q4).trans q5
  have hd3 := hd2.mono (Same.kpS q15)
  have hL3 := q15 _ _ hL2
  have s1 := s0.trans q15
  clear h1 hl2 h2 h3 h4 h5 q1 ql q2 q3 q4 q5 rl hd2 hL2 q15
  revert hL2' r1 r2 r3 r4 r5 hd3 hL3 s1
  generalize upd (upd (upd (upd (upd (upd G2 u1 (.tup [.int 5, .str "a", .int 0])) l2 (.lst [])) u2 (.tup [.ref l2, .str "a", .int 0])) u3 (.tup [.str "task", .str "a", .bl true])) u4 (.tup [.str "cell", .str "tick", .int 0])) u5 (.tup [.str "bell", .str "aa", .str "aa"]) = G3
  intro hL2' r5 r1 r2 r3 r4 hd3 hL3 s1
  have hd4 : RpSA S G3 oddThings2 [.ref u1, .ref u2, .ref u3, .ref u4, .ref u5] := .cons r1 (.cons r2 (.cons r3 (.cons r4 (.cons r5 .nil))))
  have qM := Same.new (o := .lst [.ref u1, .ref u2, .ref u3, .ref u4, .ref u5]) hL2'
  refine ⟨L1, L2', _, _, rfl, rfl, qM _ _ hL3, upd_same, by show 14 ≤ sizeLine; decide, fun M hM => ?_⟩
  have qN := Same.new (o := .lst ([.non, .int 5, .str "cell", .ref t1, .ref t2, .ref t3, .ref t4, .ref t5, .ref t6] ++ [.ref u1, .ref u2, .ref u3, .ref u4, .ref u5])) hM
  have hds := (hd3.app hd4).mono (Same.kpS (qM.trans qN))
  have e5 := Ev.of hp ((s1.trans qM).trans qN)
  have hMp : M ≠ p := (hp.mono (s1.trans qM)).held.ne hM
  have hM5 : upd (upd G3 L2' (.lst [.ref u1, .ref u2, .ref u3, .ref u4, .ref u5])) M (.lst ([.non, .int 5, .str "cell", .ref t1, .ref t2, .ref t3, .ref t4, .ref t5, .ref t6] ++ [.ref u1, .ref u2, .ref u3, .ref u4, .ref u5])) M = _ := upd_same
  refine ⟨_, rfl, _, rfl, _, rfl, M, _, rfl, .inl (SqL.of hM5), p, 14, rfl, e5.pot, by decide, by decide, fun r H6 h0 h1 e6 => ?_⟩
  obtain ⟨v, d, ha, hd, hr⟩ := at_data (hds.mono (e6.kpS hSp)) h0 h1
  exact ⟨M, _, r, _, rfl, rfl, SqL.of (e6.kp _ _ hM5 hMp), ha, k d v H6 (okB_ok (List.all_eq_true.mp oddThings_ok d hd)) hr (e5.trans e6)⟩
end
end K12
namespace K12
open PySem PySem.Spec PyProof.Rows L2
theorem wtA_set : ∀ (ds : List PyData) (i : Nat) (d : PyData), wtA (ds.set i d) ≤ wtA ds + (K12.wt d + 2)
  | [], _, _ => Nat.zero_le _
  | e :: ds, 0, d => by
    show K12.wt d + 2 + wtA ds ≤ K12.wt e + 2 + wtA ds + (K12.wt d + 2)
    omega
  | e :: ds, i + 1, d => by
    have := wtA_set ds i d
    show K12.wt e + 2 + wtA (ds.set i d) ≤ K12.wt e + 2 + wtA ds + (K12.wt d + 2)
    omega
theorem Ok.item {L D W : Nat} {ds : List PyData} {d : PyData} (h : Ok L D W (.list ds)) (hd : d ∈ ds) : FitL L d ∧ d.depth + 1 ≤ D ∧ K12.wt d + 6 ≤ W := by
  refine ⟨h.fit.2.mem d hd, ?_, ?_⟩
  · have h1 := depth_mem hd
    have h2 : PyData.depthAll ds + 1 ≤ D := h.dep
    omega
  · have h1 := wtA_mem hd
    have h2 : wtA ds + 4 ≤ W := h.wt
    omega
theorem Ok.item' {L D W : Nat} {ds : List PyData} {d : PyData} (h : Ok L D W (.list ds)) (hd : d ∈ ds) : Ok L (D - 1) W d := by
  obtain ⟨h1, h2, h3⟩ := h.item hd
  exact ⟨h1, by omega, by omega⟩
theorem Ok.titem {L D W : Nat} {ds : List PyData} {d : PyData} (h : Ok L D W (.tuple ds)) (hd : d ∈ ds) : Ok L (D - 1) W d :=
  Ok.item' (ds := ds) ⟨h.fit, h.dep, h.wt⟩ hd
theorem Ok.asTuple {L D W : Nat} {ds : List PyData} (h : Ok L D W (.list ds)) : Ok L D W (.tuple ds) := ⟨h.fit, h.dep, h.wt⟩
/-- a list of items within bounds -/
theorem Ok.build {L D W : Nat} {ds : List PyData} (hl : ds.length ≤ L) (hf : ∀ d ∈ ds, FitL L d) (hd : ∀ d ∈ ds, d.depth + 1 ≤ D) (h1 : 1 ≤ D) (hw : wtA ds + 4 ≤ W) : Ok L D W (.list ds) :=
  ⟨⟨hl, .all hf⟩, by
    have := depthA_le (D := D - 1) fun d hd' => by have := hd d hd'; omega
    show PyData.depthAll ds + 1 ≤ D
    omega, hw⟩
theorem Ok.splice {L D W L' D' W' L2 D2 W2 : Nat} {ds : List PyData} {e : PyData} (h : Ok L D W (.list ds)) (he : Ok L' D' W' e) {a b : Nat} (hab : a ≤ b) (h1 : L + 1 ≤ L2) (h2 : L' ≤ L2) (h3 : D ≤ D2) (h4 : D' + 1 ≤ D2) (h5 : 2 * W + W' + 6 ≤ W2) :
    Ok L2 D2 W2 (.list ((ds.take a ++ [e]) ++ ds.drop b)) := by
  have hm : ∀ d ∈ (ds.take a ++ [e]) ++ ds.drop b, d ∈ ds ∨ d = e := fun d hd => by
    rcases List.mem_append.mp hd with hd | hd
    · rcases List.mem_append.mp hd with hd | hd
      · exact .inl (List.mem_of_mem_take hd)
      · exact .inr (List.mem_singleton.mp hd)
    · exact .inl (List.mem_of_mem_drop hd)
  refine Ok.build ?_ (fun d hd => ?_) (fun d hd => ?_) (by omega) ?_
  · rw [List.length_append, List.length_append, List.length_take, List.length_drop]
    have : ds.length ≤ L := h.fit.1
    show min a ds.length + 1 + _ ≤ L2
    omega
  · rcases hm d hd with hd | rfl
    · exact (h.item hd).1.up (by omega)
    · exact he.fit.up h2
  · rcases hm d hd with hd | rfl
    · have := (h.item hd).2.1; omega
    · have := he.dep; omega
  · rw [wtA_app, wtA_app]
    have w1 := wtA_take a ds
    have w2 := wtA_drop b ds
    have w3 : wtA ds + 4 ≤ W := h.wt
    have w4 := he.wt
    show wtA (ds.take a) + (K12.wt e + 2 + 0) + _ + 4 ≤ W2
    omega
theorem Ok.app {L D W n W' L2 D2 W2 : Nat} {ds es : List PyData} (h : Ok L D W (.list ds)) (hn : es.length ≤ n) (he : ∀ e ∈ es, Ok L2 (D2 - 1) W' e) (h1 : L + n ≤ L2) (h3 : D ≤ D2) (h4 : 1 ≤ D2) (h5 : W + n * (W' + 2) ≤ W2) : Ok L2 D2 W2 (.list (ds ++ es)) := by
  refine Ok.build ?_ (fun d hd => ?_) (fun d hd => ?_) h4 ?_
  · rw [List.length_append]
    have : ds.length ≤ L := h.fit.1
    omega
  · rcases List.mem_append.mp hd with hd | hd
    · exact (h.item hd).1.up (by omega)
    · exact (he d hd).fit
  · rcases List.mem_append.mp hd with hd | hd
    · have := (h.item hd).2.1; omega
    · have := (he d hd).dep; omega
  · rw [wtA_app]
    have w3 : wtA ds + 4 ≤ W := h.wt
    have w5 := wtA_le (W := W') fun d hd => (he d hd).wt
    have w6 := Nat.mul_le_mul_right (W' + 2) hn
    omega
theorem Ok.set2 {L D W : Nat} {ds : List PyData} {x y : PyData} (h : Ok L D W (.list ds)) (hx : x ∈ ds) (hy : y ∈ ds) (i j : Nat) : Ok L D (3 * W) (.list ((ds.set i x).set j y)) := by
  have hm : ∀ d ∈ (ds.set i x).set j y, d ∈ ds := fun d hd => by
    rcases List.mem_or_eq_of_mem_set hd with hd | rfl
    · rcases List.mem_or_eq_of_mem_set hd with hd | rfl
      · exact hd
      · exact hx
    · exact hy
  refine Ok.build ?_ (fun d hd => (h.item (hm d hd)).1) (fun d hd => (h.item (hm d hd)).2.1) ?_ ?_
  · rw [List.length_set, List.length_set]; exact h.fit.1
  · have := (h.item hx).2.1; omega
  · have w1 := wtA_set (ds.set i x) j y
    have w2 := wtA_set ds i x
    have w3 : wtA ds + 4 ≤ W := h.wt
    have w4 := (h.item hx).2.2
    have w5 := (h.item hy).2.2
    omega
theorem Ok.tset {L D W L' D' W' L2 D2 W2 : Nat} {es : List PyData} {d : PyData} (h : Ok L D W (.tuple es)) (hd : Ok L' D' W' d) (j : Nat) (h1 : L ≤ L2) (h2 : L' ≤ L2) (h3 : D ≤ D2) (h4 : D' + 1 ≤ D2) (h5 : W + W' + 2 ≤ W2) : Ok L2 D2 W2 (.tuple (es.set j d)) := by
  have h' : Ok L D W (.list es) := ⟨h.fit, h.dep, h.wt⟩
  refine Ok.asTuple (Ok.build ?_ (fun e he => ?_) (fun e he => ?_) (by omega) ?_)
  · rw [List.length_set]; exact Nat.le_trans h.fit.1 h1
  · rcases List.mem_or_eq_of_mem_set he with he | rfl
    · exact (h'.item he).1.up h1
    · exact hd.fit.up h2
  · rcases List.mem_or_eq_of_mem_set he with he | rfl
    · have := (h'.item he).2.1; omega
    · have := hd.dep; omega
  · have w1 := wtA_set es j d
    have w3 : wtA es + 4 ≤ W := h.wt
    have w4 := hd.wt
    omega
/-- pieces of a list -/
theorem cutL_pre {xs : List V} {k : Int} (h0 : 0 ≤ k) (h1 : k ≤ (xs.length : Nat)) : cutV xs none (some k) = xs.take k.toNat := cut_pre h0 h1
theorem cut_post' {xs : List V} {k : Int} (h0 : 0 ≤ k) : cutV xs (some k) none = xs.drop k.toNat := by
  obtain ⟨n, rfl⟩ := Int.eq_ofNat_of_zero_le h0
  unfold cutV
  have e : HT.sIx xs.length 0 (some (n : Int)) = min n xs.length := HT.sIx_nat _ _ n
  rw [e]
  show (xs.drop (min n xs.length)).take (xs.length - min n xs.length) = xs.drop n
  by_cases h : n ≤ xs.length
  · rw [Nat.min_eq_left h, List.take_of_length_le (by rw [List.length_drop]; exact Nat.le_refl _)]
  · rw [Nat.min_eq_right (by omega), List.drop_eq_nil_of_le (Nat.le_refl _), List.drop_eq_nil_of_le (by omega)]; simp
theorem cut_pre' {xs : List V} {k : Int} (h0 : 0 ≤ k) : cutV xs none (some k) = xs.take k.toNat := by
  obtain ⟨n, rfl⟩ := Int.eq_ofNat_of_zero_le h0
  unfold cutV
  have e : HT.sIx xs.length xs.length (some (n : Int)) = min n xs.length := HT.sIx_nat _ _ n
  rw [e]
  show (xs.drop 0).take (min n xs.length - 0) = xs.take n
  simp
theorem ixN_nat {n : Nat} {k : Int} (h0 : 0 ≤ k) (h1 : k < (n : Nat)) : ixN n k = some k.toNat := by
  unfold ixN
  rw [if_pos (by omega), if_pos (by omega)]
theorem fit_zzz {c : Nat} (h : c < 128) : FitT ((⟨#[c]⟩ : Str) ++ "zzz") := by
  refine ⟨by rw [Str.length_append]; show 1 + ("zzz" : Str).length ≤ 20; decide +kernel, fun x hx => ?_⟩
  rw [Str.cps_append, Array.toList_append, List.mem_append] at hx
  rcases hx with hx | hx
  · have : x = c := by simpa using hx
    omega
  · have := List.all_eq_true.mp (show (("zzz" : Str).cps.toList.all fun c => decide (c < 128)) = true by decide +kernel) x hx
    simpa using this
/-- other[-1] if isinstance(other, tuple) and other != () else other -/
theorem part_run {K : PySem.W.Frag} {σ : L2.St} {H : Hp} {Q' : List V → Hp → Prop} {S : Addr → Prop} {p : Addr} {vO : V} {dO : PyData} {L D W : Nat} (hσ : σ[5]? = some (some vO)) (hSp : S p) (hS : Al S H) (hr : RpS S H dO vO) (hok : Ok L D W dO)
    (k : ∀ w G dW, Same H G → RpS S G dW w → Ok L D W dW → Q' [w] G) :
    tCons (tIf (tAnd (tB (tIsi K "tuple" (tVar 5))) (tTest (tOp (fun x y H Q => ∃ a b xs, x = .ref a ∧ y = .ref b ∧ H a = some (.tup xs) ∧ H b = some (.tup []) ∧ Q (.bl (!xs.isEmpty)) H) (tVar 5) (tTup tNil)))) (tOp (rIxT K) (tVar 5) (tUn (rU fun i => .int (-i)) (tC (.int 1)))) (tVar 5)) tNil σ H Q' := by
  refine ⟨_, hσ, isiT (hr.rp hSp) ⟨_, rfl, ?_⟩⟩
  cases dO with
  | tuple fs =>
    refine iteT ?_
    obtain ⟨a, xs, rfl, na, ha, hxs⟩ := id hr
    refine ⟨_, hσ, Nat.zero_le _, fun b hb => ⟨a, b, xs, rfl, rfl, (upd_ne (ne_of_none ha hb)).trans ha, upd_same, ?_⟩⟩
    have s1 := Same.new (o := .tup []) hb
    refine ⟨_, rfl, ?_⟩
    cases xs with
    | nil => exact iteF ⟨_, hσ, k _ _ _ s1 (hr.mono (Same.kpS s1)) hok⟩
    | cons x xs =>
      refine iteT ⟨_, hσ, _, rfl, a, x :: xs, -1, ?_⟩
      have hl : (x :: xs).length = fs.length := hxs.length
      have hlen : 0 < fs.length := by rw [← hl]; exact Nat.succ_pos _
      obtain ⟨v, d, hat, hd, hrd⟩ := at_data (hxs.mono (Same.kpS s1)) (r := ((x :: xs).length : Int) - 1) (by rw [List.length_cons]; omega) (by omega)
      refine ⟨v, rfl, rfl, SqT.of (s1 _ _ ha), ?_, k v _ d s1 hrd ((hok.titem hd).mono (Nat.le_refl _) (Nat.sub_le _ _) (Nat.le_refl _))⟩
      unfold atI ixN at hat ⊢
      rw [if_pos (by rw [List.length_cons]; omega), if_pos (by omega)] at hat
      rw [if_neg (by decide), if_pos (by rw [List.length_cons]; omega)]
      rw [show (-1 : Int) + ((x :: xs).length : Nat) = ((x :: xs).length : Int) - 1 by omega]
      exact hat
  | _ => exact iteF (iteF ⟨_, hσ, k _ _ _ (Same.refl _) hr hok⟩)
/-- stuff[:at] + [in(row, j, part)] + stuff[at + 1:] -/
theorem ins_run {K : PySem.W.Frag} {σ : L2.St} {H : Hp} {Q : VK} {S : Addr → Prop} {p a b : Addr} {xs : List V} {ds es : List PyData} {at' : Int} {L D W : Nat} {TA' : TA} (h1 : σ[1]? = some (some (.ref a))) (h4 : σ[4]? = some (some (.int at'))) (hSp : S p) (hS : Al S H) (hp : Pot p H) (ha : H a = some (.lst xs)) (hap : a ≠ p)
    (hxs : RpSA S H ds xs) (hrow : RpS S H (.tuple es) (.ref b)) (h0 : 0 ≤ at') (hlen : xs.length ≤ 500) (hes : es.length = 3)
    (hTA : ∀ (G : Hp) (C : List V → Hp → Prop), Ev p H G → (∀ (j : Int) (vP : V) (dP : PyData) (G' : Hp), Ev p G G' → RpS S G' dP vP → Ok L D W dP → 0 ≤ j → j < 3 → C [.ref b, .int j, vP] G') → TA' σ G C)
    (k : ∀ (dP : PyData) (j : Nat) (v : V) (G : Hp), Ok L D W dP → RpS S G (.list ((ds.take at'.toNat ++ [.tuple (es.set j dP)]) ++ ds.drop (at'.toNat + 1))) v → Ev p H G → Q v G) :
    tOp rCat (tOp rCat (tSl (rSlL K) (tVar 1) tNoPart (tPart (tVar 4))) (tLst (tCons (tCall spGIn [] E0 TA') tNil))) (tSl (rSlL K) (tVar 1) (tPart (tOp (rI0 fun i j => .int (i + j)) (tVar 4) (tC (.int 1)))) tNoPart) σ H Q := by
  refine ⟨_, h1, _, h4, _, rfl, a, xs, rfl, SqL.of ha, fun q1 hq1 => ?_⟩
  rw [cut_pre' h0]
  have s1 := Same.new (o := .lst (xs.take at'.toNat)) hq1
  have e1 := Ev.of hp s1
  have hq1p : q1 ≠ p := hp.held.ne hq1
  refine hTA _ _ e1 fun j vP dP G2 e2 hrP hokP hj0 hj1 => ?_
  have e12 := e1.trans e2
  refine ⟨S, b, j, es, dP, vP, rfl, hrow.mono (e12.kpS hSp), hrP, hj0, by omega, by omega, hS.ev e12, fun v G3 s3 hv => ⟨by show 1 ≤ sizeLine; decide, fun q2 hq2 => ?_⟩⟩
  have s2 := Same.new (o := .lst [v]) hq2
  have e5 := (e12.same s3).same s2
  have hq1' := s2 _ _ (s3 _ _ (e2.kp _ _ (upd_same (H := H) (a := q1) (o := .lst (xs.take at'.toNat))) hq1p))
  have htl : (xs.take at'.toNat).length ≤ xs.length := by rw [List.length_take]; omega
  refine ⟨q1, q2, _, _, rfl, rfl, hq1', upd_same, Nat.le_trans (show (xs.take at'.toNat).length + 1 ≤ 600 by omega) (by decide), fun q3 hq3 => ?_⟩
  have s4 := Same.new (o := .lst (xs.take at'.toNat ++ [v])) hq3
  have e6 := e5.same s4
  have ha6 := e6.kp _ _ ha hap
  have hv6 := (hv.mono (Same.kpS s2)).mono (Same.kpS s4)
  have hq3' := upd_same (H := upd G3 q2 (.lst [v])) (a := q3) (o := .lst (xs.take at'.toNat ++ [v]))
  revert e6 ha6 hq3' hv6
  generalize upd (upd G3 q2 (.lst [v])) q3 (.lst (xs.take at'.toNat ++ [v])) = H6
  intro e6 ha6 hv6 hq3'
  refine ⟨_, h1, _, h4, _, _, rfl, rfl, _, rfl, a, xs, rfl, SqL.of ha6, fun q4 hq4 => ?_⟩
  rw [cut_post' (by omega), show (at' + 1).toNat = at'.toNat + 1 by omega]
  have s5 := Same.new (o := .lst (xs.drop (at'.toNat + 1))) hq4
  have hdl2 : (xs.drop (at'.toNat + 1)).length ≤ xs.length := by rw [List.length_drop]; omega
  refine ⟨q3, q4, _, _, rfl, rfl, s5 _ _ hq3', upd_same, Nat.le_trans (show _ ≤ 1200 by rw [List.length_append]; show _ + 1 + _ ≤ _; omega) (by decide), fun q5 hq5 => ?_⟩
  have s6 := Same.new (o := .lst ((xs.take at'.toNat ++ [v]) ++ xs.drop (at'.toNat + 1))) hq5
  have e8 := (e6.same s5).same s6
  have hds := (((hxs.mono (e8.kpS hSp)).take at'.toNat).app (.cons ((hv6.mono (Same.kpS s5)).mono (Same.kpS s6)) .nil)).app ((hxs.mono (e8.kpS hSp)).drop (at'.toNat + 1))
  exact k dP j.toNat _ _ hokP ⟨q5, _, rfl, ((hS.ev e6).same s5).fresh hq5, upd_same, hds⟩ e8
def spGStuffX : Sp := fun vs H Q _ => ∃ (p : Addr) (v1 : V) (S : Addr → Prop) (ds : List PyData) (L D W : Nat), vs = [.ref p, v1] ∧ Pot p H ∧ S p ∧ Al S H ∧ RpS S H (.list ds) v1 ∧ Ok L D W (.list ds) ∧ 12 ≤ L ∧ L ≤ 500 ∧ 4 ≤ D ∧
  ∀ d v H', Ok (L + 30) (D + 1) (4 * W + 50000) d → RpS S H' d v → Ev p H H' → Q v H'
section
variable {P : Program} {w : World} {K : PySem.W.Frag} {mg : Str → Option Value} {base : Heap}
abbrev N__law_struck_stuff : List Str := ["_law_pot_here", "_law_stuff_here", "_law_way", "_law_found", "_law_at", "_law_other", "_law_more", "_law_part_here", "_law_k"]
theorem sc__law_struck_stuff : FnScope N__law_struck_stuff ["_law_pot_here", "_law_stuff_here"] (defScope (top 78)) := sc_of (by decide +kernel)
-- slots: 0:_law_pot_here 1:_law_stuff_here 2:_law_way 3:_law_found 4:_law_at 5:_law_other 6:_law_more 7:_law_part_here 8:_law_k
theorem ok__law_struck_stuff (T : Tx w K mg) (c__law_take : Cl P w K mg base CX0 1 "_law_take" spTake) (c__law_odd : Cl P w K mg base CX0 2 "_law_odd" spGOdd) (c__law_in : Cl P w K mg base CX0 1 "_law_in" spGIn) (c__law_odd_thing : Cl P w K mg base CX0 2 "_law_odd_thing" spGOddThing) : Cl P w K mg base CX0 3 "_law_struck_stuff" spGStuffX := by
  refine T.d__law_struck_stuff.cl sc__law_struck_stuff (fun _ _ _ _ _ _ us hl => match us, hl with | [_, _], _ => rfl) (fun vs H Q E h => ?_) fun f cdv A outer s H vs Q E hr h => ?_
  · obtain ⟨_, _, _, _, _, _, _, rfl, _⟩ := h; rfl
  have hu := hu_of hr
  have hu0 := hr.units0
  have hu64 := hr.units
  obtain ⟨p, v1, S, ds, L, D, W, rfl, h⟩ := h
  refine ⟨_, PSs.nox ((pss_cons (ps_set (i := 2) sc__law_struck_stuff.nd rfl (Or.inl rfl) (pe_cl c__law_take hr (pa_cons (pv 0) (pa_cons pe_int pa_nil))))
      (pss_cons (ps_if (pt_cmpR op_eq (pv 2) pe_int (nomark _)) (pss_one (ps_ret (pe_ix ix_list (pe_lst (pa_cons pe_non (pa_cons (pe_callTy call_tuple_of rfl T.f_tuple b_tuple (pa_cons (pv 1) pa_nil)) (pa_cons pe_dnewK (pa_cons pe_str (pa_cons pe_int (pa_cons pe_bl pa_nil))))))) (pe_cl c__law_take hr (pa_cons (pv 0) (pa_cons pe_int pa_nil))) (fun _ _ => rfl)))) pss_nil)
      (pss_cons (ps_if (PW.pt (pw_and (pt_cmpR op_eq (pv 2) pe_int (nomark _)) (pw_and1 (pt_cmpR op_gt (pe_callB call_len_seq rfl T.f_len b_len (pa_cons (pv 1) pa_nil)) pe_int (nomark _))))) (pss_cons (ps_set (i := 3) sc__law_struck_stuff.nd rfl (Or.inl rfl) (pe_callTy call_list_of rfl T.f_list b_list (pa_cons (pv 1) pa_nil)))
      (pss_cons (ps_par (i := 4) (j := 5) rfl sc__law_struck_stuff.nd rfl rfl (by decide) rfl rfl (pa_cons (pe_cl c__law_take hr (pa_cons (pv 0) (pa_cons (pe_callB call_len_seq rfl T.f_len b_len (pa_cons (pv 1) pa_nil)) pa_nil))) (pa_cons (pe_cl c__law_take hr (pa_cons (pv 0) (pa_cons (pe_callB call_len_seq rfl T.f_len b_len (pa_cons (pv 1) pa_nil)) pa_nil))) pa_nil)) rfl)
      (pss_cons (ps_asg (pe_tup (pa_cons (pe_ix ix_list (pv 1) (pv 5) (fun _ _ => rfl)) (pa_cons (pe_ix ix_list (pv 1) (pv 4) (fun _ _ => rfl)) pa_nil))) (pg_tup rfl (pgs_cons (pg_sub (pv 3) (pv 4) set_list) (pgs_cons (pg_sub (pv 3) (pv 5) set_list) pgs_nil))))
      (pss_one (ps_ret (pv 3)))))) pss_nil)
      (pss_cons (ps_if (pt_cmpR op_eq (pv 2) pe_int (nomark _)) (pss_cons (ps_setLc (i := 6) (own := [("_law_k", 8)]) rfl sc__law_struck_stuff.nd rfl rfl (sw_true rfl rfl rfl (by decide +kernel)) (pi_range1 rfl T.f_range (pa_cons pe_int pa_nil)) (blkOk_by (N := N__law_struck_stuff) (sc := defScope (top 78)) (by decide +kernel)) (fun _ _ _ _ _ => (pg_name (i := 8) sc__law_struck_stuff.nd rfl (Or.inl rfl))) (fun _ _ _ _ _ => pts_nil) (fun _ _ _ _ _ => (pe_tup (pa_cons pe_str (pa_cons (pe_op op_add_str (pe_ix ix_str pe_str (pv 8) (fun _ _ => rfl)) pe_str) (pa_cons (pv 8) pa_nil))))))
      (pss_one (ps_ret (pe_op op_cat (pv 1) (pe_slice sl_list (pv 6) po_none (po_some (pe_cl c__law_take hr (pa_cons (pv 0) (pa_cons pe_int pa_nil))))))))) pss_nil)
      (pss_cons (ps_set (i := 4) sc__law_struck_stuff.nd rfl (Or.inl rfl) (pe_cl c__law_take hr (pa_cons (pv 0) (pa_cons (pe_op op_add pe_int (pe_callB call_len_seq rfl T.f_len b_len (pa_cons (pv 1) pa_nil))) pa_nil))))
      (pss_cons (ps_if (PW.pt (pw_or (pt_cmpR op_eq (pv 2) pe_int (nomark _)) (pw_or1 (pt_cmpR op_eq (pv 4) (pe_callB call_len_seq rfl T.f_len b_len (pa_cons (pv 1) pa_nil)) (nomark _))))) (pss_one (ps_ret (pe_op op_cat (pe_op op_cat (pe_slice sl_list (pv 1) po_none (po_some (pv 4))) (pe_lst (pa_cons (pe_cl c__law_odd_thing hr (pa_cons (pv 0) (pa_cons (pv 1) pa_nil))) pa_nil))) (pe_slice sl_list (pv 1) (po_some (pe_op op_add (pv 4) (pe_cl c__law_take hr (pa_cons (pv 0) (pa_cons pe_int pa_nil))))) po_none)))) pss_nil)
      (pss_cons (ps_if (PW.pt (pw_or (pt_not (pt_val (pe_isi T.f_isinstance T.f_tuple (pe_ix ix_list (pv 1) (pv 4) (fun _ _ => rfl)) b_tuple))) (pw_or1 (pt_cmpR op_ne (pe_callB call_len_seq rfl T.f_len b_len (pa_cons (pe_ix ix_list (pv 1) (pv 4) (fun _ _ => rfl)) pa_nil)) pe_int (nomark _))))) (pss_one (ps_ret (pv 1))) pss_nil)
      (pss_cons (ps_set (i := 5) sc__law_struck_stuff.nd rfl (Or.inl rfl) (pe_ix ix_list (pv 1) (pe_cl c__law_take hr (pa_cons (pv 0) (pa_cons (pe_callB call_len_seq rfl T.f_len b_len (pa_cons (pv 1) pa_nil)) pa_nil))) (fun _ _ => rfl)))
      (pss_cons (ps_set (i := 7) sc__law_struck_stuff.nd rfl (Or.inl rfl) (pe_ix ix_list (pe_lst (pa_cons (pe_cl c__law_odd hr (pa_cons (pv 0) pa_nil)) (pa_cons (pe_ifExp (PW.pt (pw_and (pt_val (pe_isi T.f_isinstance T.f_tuple (pv 5) b_tuple)) (pw_and1 (pt_cmpR (op_neE hu0) (pv 5) (pe_tup pa_nil) (nomark _))))) (pe_ix ix_tup (pv 5) (pe_un un_neg pe_int) (fun _ _ => rfl)) (pv 5)) pa_nil))) (pe_cl c__law_take hr (pa_cons (pv 0) (pa_cons pe_int pa_nil))) (fun _ _ => rfl)))
      (pss_cons (ps_if (PW.pt (pw_and (pt_cmpR op_eq (pv 2) pe_int (nomark _)) (pw_and (pt_val (pe_isi T.f_isinstance T.f_tuple (pv 5) b_tuple)) (pw_and1 (pt_cmpR op_eq (pe_callB call_len_seq rfl T.f_len b_len (pa_cons (pv 5) pa_nil)) pe_int (nomark _)))))) (pss_one (ps_ret (pe_op op_cat (pe_op op_cat (pe_slice sl_list (pv 1) po_none (po_some (pv 4))) (pe_lst (pa_cons (pe_cl c__law_in hr (pa_cons (pe_ix ix_list (pv 1) (pv 4) (fun _ _ => rfl)) (pa_cons pe_int (pa_cons (pe_ix ix_list (pe_lst (pa_cons (pe_ix ix_tup (pv 5) pe_int (fun _ _ => rfl)) (pa_cons (pe_cl c__law_odd hr (pa_cons (pv 0) pa_nil)) pa_nil))) (pe_cl c__law_take hr (pa_cons (pv 0) (pa_cons pe_int pa_nil))) (fun _ _ => rfl)) pa_nil)))) pa_nil))) (pe_slice sl_list (pv 1) (po_some (pe_op op_add (pv 4) pe_int)) po_none)))) pss_nil)
      (pss_one (ps_ret (pe_op op_cat (pe_op op_cat (pe_slice sl_list (pv 1) po_none (po_some (pv 4))) (pe_lst (pa_cons (pe_cl c__law_in hr (pa_cons (pe_ix ix_list (pv 1) (pv 4) (fun _ _ => rfl)) (pa_cons (pe_ix ix_list (pe_lst (pa_cons pe_int (pa_cons pe_int pa_nil))) (pe_callTy call_int1 rfl T.f_int b_int (pa_cons (pe_cmpR op_eq (pv 2) pe_int (nomark _)) pa_nil)) (fun _ _ => rfl)) (pa_cons (pv 7) pa_nil)))) pa_nil))) (pe_slice sl_list (pv 1) (po_some (pe_op op_add (pv 4) pe_int)) po_none))))))))))))))), ?_⟩
  obtain ⟨hp, hSp, hS, hr, hok, hL1, hL2, hD, k⟩ := h
  refine ⟨_, rfl, p, 7, rfl, hp, by decide, by decide, fun way H1 hw0 hw1 e1 => ?_⟩
  obtain ⟨a, xs, rfl, na, ha, hxs⟩ := hr
  have hap : a ≠ p := fun z => na (by rw [z]; exact hSp)
  have hxl : xs.length = ds.length := hxs.length
  have hdl : ds.length ≤ L := hok.fit.1
  have ha1 := e1.kp _ _ ha hap
  have hxs1 := hxs.mono (e1.kpS hSp)
  have hS1 := hS.ev e1
  have small : ∀ d, Ok 12 2 1500 d → Ok (L + 30) (D + 1) (4 * W + 50000) d := fun d h => h.mono (by omega) (by omega) (by omega)
  have same : Ok (L + 30) (D + 1) (4 * W + 50000) (.list ds) := hok.mono (by omega) (by omega) (by omega)
  refine ⟨_, rfl, rfl, _, rfl, ?_⟩
  refine ite2 (fun _ => ?_) (fun _ => ?_)
  · refine ⟨_, rfl, a, xs, rfl, .inl ⟨SqL.of ha1, fun t ht => fun d1 hd1 => ⟨by show 6 ≤ sizeLine; decide, fun l hl => ?_⟩⟩⟩
    have q1 := Same.new (o := .tup xs) ht
    have q2 := Same.new (o := .dK []) hd1
    have r1 := (alT hS1 ht hxs1).mono (Same.kpS q2)
    have n2 := (hS1.same q1).fresh hd1
    have hds : RpSA S _ [.none, .tuple ds, .dict [], .str "things", .int 5, .bool true] [.non, .ref t, .ref d1, .str "things", .int 5, .bl true] := .cons rfl (.cons r1 (.cons ⟨rfl, d1, rfl, n2, upd_same⟩ (.cons rfl (.cons rfl (.cons rfl .nil)))))
    have q3 := Same.new (o := .lst [.non, .ref t, .ref d1, .str "things", .int 5, .bl true]) hl
    have e2 := e1.same ((q1.trans q2).trans q3)
    have hlp : l ≠ p := ((e1.pot.mono q1).mono q2).held.ne hl
    refine ⟨_, rfl, p, 6, rfl, e2.pot, by decide, by decide, fun r H3 h0 h1 e3 => ?_⟩
    obtain ⟨v, d, hat, hd, hrd⟩ := at_data ((hds.mono (Same.kpS q3)).mono (e3.kpS hSp)) h0 h1
    refine ⟨l, _, r, _, rfl, rfl, SqL.of (e3.kp _ _ upd_same hlp), hat, k d v H3 ?_ hrd (e2.trans e3)⟩
    have hd' : d = .tuple ds ∨ d ∈ [PyData.none, .dict [], .str "things", .int 5, .bool true] := by
      rcases List.mem_cons.mp hd with rfl | hd
      · exact .inr (by simp)
      rcases List.mem_cons.mp hd with rfl | hd
      · exact .inl rfl
      · exact .inr (List.mem_cons_of_mem _ hd)
    rcases hd' with rfl | hd'
    · exact same.asTuple
    · exact small d (okB_ok (List.all_eq_true.mp (show ([PyData.none, .dict [], .str "things", .int 5, .bool true].all (okB 12 2 1500)) = true by decide +kernel) d hd'))
  refine ⟨_, rfl, rfl, _, rfl, ?_⟩
  refine (fun rest => ite2 (fun _ => ?_) (fun _ => rest)) ?_
  · refine ⟨_, rfl, a, xs, rfl, .inl (SqL.of ha1), _, _, rfl, rfl, _, rfl, ?_⟩
    refine ite2 (fun h1 => ?_) (fun _ => rest)
    clear rest
    have h1' : (1 : Int) < (xs.length : Nat) := of_decide_eq_true h1
    refine ⟨_, rfl, a, xs, rfl, .inl (SqL.of ha1), fun F hF => ?_⟩
    have q1 := Same.new (o := .lst xs) hF
    have hFp : F ≠ p := e1.pot.held.ne hF
    have hFS : ¬ S F := hS1.fresh hF
    have haF : a ≠ F := fun z => by rw [z, hF] at ha1; cases ha1
    have e2 := e1.same q1
    have hF2 : upd H1 F (.lst xs) F = some (.lst xs) := upd_same
    have ha2 := q1 _ _ ha1
    have hxs2 : RpSA (plus S F) (upd H1 F (.lst xs)) ds xs := (hxs1.more hF).mono (KpS.put (.inr rfl))
    have hF1 : H F = none := by
      cases e : H F with
      | none => rfl
      | some o => rw [e1.kp F o e hFp] at hF; cases hF
    revert e2 hF2 ha2 hxs2
    generalize upd H1 F (.lst xs) = H2
    intro e2 hF2 ha2 hxs2
    refine ⟨_, rfl, _, rfl, a, xs, rfl, .inl (SqL.of ha2), p, _, rfl, e2.pot, by omega, by omega, fun at' H3 hat0 hat1 e3 => ⟨_, rfl, _, rfl, a, xs, rfl, .inl (SqL.of (e3.kp _ _ ha2 hap)), p, _, rfl, e3.pot, by omega, by omega, fun ot H4 hot0 hot1 e4 => ?_⟩⟩
    have e34 := e3.trans e4
    have ha4 := e34.kp _ _ ha2 hap
    have hF4 := e34.kp _ _ hF2 hFp
    have hxs4 := hxs2.mono (e34.kpS (.inl hSp))
    refine ⟨_, _, rfl, ?_⟩
    obtain ⟨vo, dO, hvo, hdo, hro⟩ := at_data hxs4 hot0 hot1
    obtain ⟨va, dA, hva, hda, hra⟩ := at_data hxs4 hat0 hat1
    refine ⟨_, rfl, _, rfl, a, _, ot, _, rfl, rfl, SqL.of ha4, hvo, _, rfl, _, rfl, a, _, at', _, rfl, rfl, SqL.of ha4, hva, by show 2 ≤ sizeLine; decide, fun T hT => ?_⟩
    have qT := Same.new (o := .tup [vo, va]) hT
    have hT5 : upd H4 T (.tup [vo, va]) T = some (.tup [vo, va]) := upd_same
    have hF5 := qT _ _ hF4
    have e5 := e34.same qT
    have hxs5 := hxs4.mono (Same.kpS qT)
    have hro5 := hro.mono (Same.kpS qT)
    have hra5 := hra.mono (Same.kpS qT)
    have hTF : T ≠ F := fun z => by rw [z, hF4] at hT; cases hT
    revert hT5 hF5 e5 hxs5 hro5 hra5
    generalize upd H4 T (.tup [vo, va]) = H5
    intro hT5 hF5 e5 hxs5 hro5 hra5
    have i1 := ixN_nat hat0 hat1
    have i2 : ixN (xs.set at'.toNat vo).length ot = some ot.toNat := by rw [List.length_set]; exact ixN_nat hot0 hot1
    refine ⟨T, _, rfl, SqT.of hT5, rfl, _, _, rfl, _, rfl, _, rfl, F, xs, at', at'.toNat, rfl, rfl, hF5, i1, _, _, rfl, _, rfl, _, rfl, F, _, ot, ot.toNat, rfl, rfl, upd_same, i2, rfl, ?_⟩
    have kF1 : KpS (plus S F) H5 (upd H5 F (.lst (xs.set at'.toNat vo))) := KpS.put (.inr rfl)
    have kF2 : KpS (plus S F) (upd H5 F (.lst (xs.set at'.toNat vo))) (upd (upd H5 F (.lst (xs.set at'.toNat vo))) F (.lst ((xs.set at'.toNat vo).set ot.toNat va))) := KpS.put (.inr rfl)
    have hfin := ((((hxs5.set at'.toNat hro5).set ot.toNat hra5).mono kF1).mono kF2).less (T := S) fun x h => .inl h
    have e6 := e2.trans e5
    have e7 : Ev p H (upd (upd H5 F (.lst (xs.set at'.toNat vo))) F (.lst ((xs.set at'.toNat vo).set ot.toNat va))) := Pot.ev_upd (Pot.ev_upd e6 hF1 hFp) hF1 hFp
    exact ⟨_, rfl, k _ _ _ ((hok.set2 hdo hda _ _).mono (by omega) (by omega) (by omega)) ⟨F, _, rfl, hFS, upd_same, hfin⟩ e7⟩
  refine ⟨_, rfl, rfl, _, rfl, ?_⟩
  refine (fun rest => ite2 (fun _ => ?_) (fun _ => rest)) ?_
  · clear rest
    refine ⟨11, rfl, by decide, by decide, fun D hD => ?_⟩
    have hDp : D ≠ p := e1.pot.held.ne hD
    have hDS : ¬ S D := hS1.fresh hD
    refine lc_rel (walk_range (lo := 0) (n := 11)) (fun G => Same H1 G) (fun _ v G => ∃ d, RpS (plus S D) G d v ∧ Ok 12 2 1500 d) (by decide) (Same.new hD) (fun _ _ => trivial) (fun G o e => Same.mut e hD) (fun i v G o ⟨d, h1, h2⟩ => ⟨d, h1.mono (KpS.put (.inr rfl)), h2⟩) ?_ ?_
    · rintro i x G1 G2 C hi ev ⟨acc, hacc⟩ ⟨rfl, rfl⟩ hC
      obtain ⟨c, hc1, hc2⟩ := atI_some (l := ("abcdefghijklmn" : Str).cps.toList) (r := 0 + (i : Int)) (by omega) (by rw [show ("abcdefghijklmn" : Str).cps.toList.length = 14 by decide +kernel]; omega)
      have hc3 := List.all_eq_true.mp (show (("abcdefghijklmn" : Str).cps.toList.all fun c => decide (c < 128)) = true by decide +kernel) c hc2
      have hfit := fit_zzz (by simpa using hc3 : c < 128)
      refine ⟨rfl, ?_⟩
      refine ⟨_, rfl, "abcdefghijklmn", _, c, rfl, rfl, by decide +kernel, hc1, ⟨#[c]⟩, "zzz", rfl, rfl, by show 1 + ("zzz" : Str).length ≤ sizeLine; decide +kernel, _, rfl, by show 3 ≤ sizeLine; decide, fun t ht => ?_⟩
      have qt := Same.new (o := .tup [.str "cell", .str ((⟨#[c]⟩ : Str) ++ "zzz"), .int (0 + (i : Int))]) ht
      have hAl : Al (plus S D) G2 := (hS1.same ev).plus hacc
      refine hC _ _ (ev.trans qt) (by rw [qt _ _ hacc, hacc]) (fun j u ⟨d, h1, h2⟩ => ⟨d, h1.mono (Same.kpS qt), h2⟩) ⟨.tuple [.str "cell", .str ((⟨#[c]⟩ : Str) ++ "zzz"), .int (0 + (i : Int))], alT hAl ht (.cons rfl (.cons rfl (.cons rfl .nil))), ?_⟩
      refine (Ok.tuple (L := 12) (D := 0) (W := 300) (ds := [.str "cell", .str ((⟨#[c]⟩ : Str) ++ "zzz"), .int (0 + (i : Int))]) (fun e he => ?_) (show 3 ≤ 12 by decide)).mono (Nat.le_refl _) (by decide) (by show 3 * 302 + 4 ≤ 1500; decide)
      rcases List.mem_cons.mp he with rfl | he
      · exact .str (fitB_ok (by decide +kernel))
      rcases List.mem_cons.mp he with rfl | he
      · exact .str hfit
      rcases List.mem_cons.mp he with rfl | he
      · exact .int (by omega)
      · cases he
    · intro G acc ev hacc hal hR
      obtain ⟨es, hes, hesl, heok⟩ := RpSA.of (P := Ok 12 2 1500) hR
      have e2 := e1.same ev
      refine ⟨_, rfl, _, rfl, _, rfl, p, 12, rfl, e2.pot, by decide, by decide, fun r G3 h0 h1 e3 => ⟨_, rfl, D, acc, rfl, SqL.of (e3.kp _ _ hacc hDp), fun q hq => ?_⟩⟩
      rw [cut_pre' h0]
      have qq := Same.new (o := .lst (acc.take r.toNat)) hq
      have ha3 := qq _ _ (e3.kp _ _ (ev _ _ ha1) hap)
      have hcl : (acc.take r.toNat).length ≤ 11 := by rw [List.length_take, hal]; omega
      refine ⟨a, q, xs, _, rfl, rfl, ha3, upd_same, Nat.le_trans (show _ ≤ 600 by omega) (by decide), fun t ht => ?_⟩
      have qt := Same.new (o := .lst (xs ++ acc.take r.toNat)) ht
      have e4 := ((e2.trans e3).same qq).same qt
      have h5 := ((hxs.mono (e4.kpS hSp)).app ((((hes.take r.toNat).mono (e3.kpS (.inl hSp))).mono (Same.kpS (qq.trans qt))).less fun x h => .inl h))
      have hel : (es.take r.toNat).length ≤ 11 := by rw [List.length_take]; omega
      exact k (.list (ds ++ es.take r.toNat)) _ _ (hok.app hel (fun e he => (heok e (List.mem_of_mem_take he)).mono (by omega) (by omega) (Nat.le_refl _)) (by omega) (by omega) (by omega) (by omega)) ⟨t, _, rfl, ((hS1.same ev).ev e3 |>.same qq).fresh ht, upd_same, h5⟩ e4
  refine ⟨_, rfl, _, rfl, a, xs, rfl, .inl (SqL.of ha1), _, _, rfl, rfl, p, _, rfl, e1.pot, by omega, by omega, fun at' H2 hat0 hat1 e2' => ?_⟩
  have e2 := e1.trans e2'
  have ha2 := e2'.kp _ _ ha1 hap
  have hxs2 := hxs1.mono (e2'.kpS hSp)
  have hS2 := hS1.ev e2'
  refine ⟨_, rfl, rfl, _, rfl, ?_⟩
  refine (fun br => ite2 (fun _ => iteT br) (fun _ => ⟨_, rfl, _, rfl, a, xs, rfl, .inl (SqL.of ha2), rfl, _, rfl, ite2 (fun _ => br) (fun hne => ?main)⟩)) ?brG
  case main =>
    have hlt : at' < (xs.length : Nat) := by
      have h1 : ¬ at' = (xs.length : Nat) := fun z => hne (decide_eq_true (by rw [z]))
      omega
    obtain ⟨vA, dA, hvA, hdA, hrA⟩ := at_data hxs2 hat0 hlt
    have back : Q (.ref a) H2 := k (.list ds) _ H2 same ⟨a, xs, rfl, na, ha2, hxs2⟩ e2
    refine ⟨_, rfl, _, rfl, a, _, at', _, rfl, rfl, SqL.of ha2, hvA, isiT (hrA.rp hSp) ⟨_, rfl, ?_⟩⟩
    cases dA with
    | tuple es =>
      refine iteF ?_
      obtain ⟨b, ys, rfl, nb, hb, hys⟩ := hrA
      refine ⟨_, rfl, _, rfl, a, _, at', _, rfl, rfl, SqL.of ha2, hvA, b, ys, rfl, .inr (SqT.of hb), rfl, _, rfl, ?_⟩
      by_cases h3 : ys.length = 3
      · rw [h3]
        refine iteF ?_
        have hrow : RpS S H2 (.tuple es) (.ref b) := ⟨b, ys, rfl, nb, hb, hys⟩
        have hbp : b ≠ p := fun z => nb (by rw [z]; exact hSp)
        have hes3 : es.length = 3 := by have := hys.length; omega
        have hdA' := hok.item' hdA
        refine ⟨_, rfl, _, rfl, _, rfl, a, xs, rfl, .inl (SqL.of ha2), p, _, rfl, e2.pot, by omega, by omega, fun ot H3 hot0 hot1 e3 => ?_⟩
        have ha3 := e3.kp _ _ ha2 hap
        obtain ⟨vO, dO, hvO, hdO, hrO⟩ := at_data (hxs2.mono (e3.kpS hSp)) hot0 hot1
        have hdO' := hok.item' hdO
        refine ⟨a, _, ot, _, rfl, rfl, SqL.of ha3, hvO, ?_⟩
        refine ⟨_, rfl, p, S, rfl, e3.pot, hSp, hS2.ev e3, fun d1 u1 H4 hok1 hr1 e4 => ?_⟩
        have hrO4 := hrO.mono (e4.kpS hSp)
        refine part_run rfl hSp ((hS2.ev e3).ev e4) hrO4 hdO' fun w G dW sG hrW hokW => ?_
        have e24 := (e3.trans e4).same sG
        refine ⟨by show 2 ≤ sizeLine; decide, fun l hl => ?_⟩
        have sl := Same.new (o := .lst [u1, w]) hl
        have e25 := e24.same sl
        have hlp : l ≠ p := e24.pot.held.ne hl
        have hds2 : RpSA S (upd G l (.lst [u1, w])) [d1, dW] [u1, w] := (.cons (hr1.mono (Same.kpS (sG.trans sl))) (.cons (hrW.mono (Same.kpS sl)) .nil))
        have hll : upd G l (.lst [u1, w]) l = some (.lst [u1, w]) := upd_same
        refine ⟨_, rfl, p, 2, rfl, e25.pot, by decide, by decide, fun r5 H5 h50 h51 e5 => ?_⟩
        obtain ⟨vP, dP, hvP, hdP, hrP⟩ := at_data (hds2.mono (e5.kpS hSp)) h50 h51
        have hokP : Ok L (D - 1) (W + 1000) dP := by
          rcases List.mem_cons.mp hdP with rfl | hdP
          · exact hok1.mono hL1 (by omega) (by omega)
          rcases List.mem_cons.mp hdP with rfl | hdP
          · exact hokW.mono (Nat.le_refl _) (Nat.le_refl _) (by omega)
          · cases hdP
        refine ⟨l, _, r5, _, rfl, rfl, SqL.of (e5.kp _ _ hll hlp), hvP, ?_⟩
        have e6 := e25.trans e5
        have ha6 := e6.kp _ _ ha2 hap
        have hrow6 := hrow.mono (e6.kpS hSp)
        have hrO6 := hrO.mono ((((e4.same sG).same sl).trans e5).kpS hSp)
        refine ⟨_, rfl, rfl, _, rfl, ?_⟩
        refine (fun rest => ite2 (fun _ => ?yes3) (fun _ => iteF rest)) ?rest3
        case yes3 =>
          refine ⟨_, rfl, isiT (hrO6.rp hSp) ⟨_, rfl, ?_⟩⟩
          cases dO with
          | tuple eo =>
            have hrO6' := hrO6
            obtain ⟨c, zs, rfl, nc, hc, hzs⟩ := hrO6'
            refine iteT ⟨_, rfl, c, zs, rfl, .inr (SqT.of hc), rfl, _, rfl, ?_⟩
            refine ite2 (fun h3z => ?_) (fun _ => rest)
            have hzl : zs.length = 3 := by have := of_decide_eq_true h3z; injection this with this; omega
            refine ins_run (L := L) (D := D - 1) (W := W + 1000) (S := S) (p := p) (b := b) (xs := xs) (ds := ds) (es := es) (at' := at') rfl rfl hSp (hS2.ev e6) e6.pot ha6 hap ((hxs2.mono (e6.kpS hSp))) hrow6 hat0 (by omega) hes3 ?_ ?_
            · intro G C eG hC
              have haG := eG.kp _ _ ha6 hap
              have hcp : c ≠ p := fun z => nc (by rw [z]; exact hSp)
              have hcG := eG.kp _ _ hc hcp
              obtain ⟨v1, d1', hv1, hd1', hr1'⟩ := at_data (hzs.mono (eG.kpS hSp)) (show (0:Int) ≤ 1 by omega) (show (1:Int) < (zs.length : Nat) by omega)
              refine ⟨_, rfl, _, rfl, a, _, at', _, rfl, rfl, SqL.of haG, hvA, ?_⟩
              refine ⟨_, rfl, c, _, 1, _, rfl, rfl, SqT.of hcG, hv1, _, rfl, p, S, rfl, eG.pot, hSp, (hS2.ev e6).ev eG, fun d7 u7 G7 hok7 hr7 e7 => ⟨by show 2 ≤ sizeLine; decide, fun l7 hl7 => ?_⟩⟩
              have s7 := Same.new (o := .lst [v1, u7]) hl7
              have e78 := e7.same s7
              have hl7p : l7 ≠ p := e7.pot.held.ne hl7
              have hds7 : RpSA S (upd G7 l7 (.lst [v1, u7])) [d1', d7] [v1, u7] := .cons (hr1'.mono (e78.kpS hSp)) (.cons (hr7.mono (Same.kpS s7)) .nil)
              have hll7 : upd G7 l7 (.lst [v1, u7]) l7 = some (.lst [v1, u7]) := upd_same
              refine ⟨_, rfl, p, 2, rfl, e78.pot, by decide, by decide, fun r8 G8 h80 h81 e8 => ?_⟩
              obtain ⟨v8, d8, hv8, hd8, hr8⟩ := at_data (hds7.mono (e8.kpS hSp)) h80 h81
              refine ⟨l7, _, r8, _, rfl, rfl, SqL.of (e8.kp _ _ hll7 hl7p), hv8, hC 1 v8 d8 G8 (e78.trans e8) hr8 ?_ (by omega) (by omega)⟩
              rcases List.mem_cons.mp hd8 with rfl | hd8
              · exact (hdO'.titem hd1').mono (Nat.le_refl _) (by omega) (by omega)
              rcases List.mem_cons.mp hd8 with rfl | hd8
              · exact hok7.mono hL1 (by omega) (by omega)
              · cases hd8
            · intro d2 j v G hokd hrd eG
              refine k _ _ _ (hok.splice (hdA'.tset hokd j (Nat.le_refl _) (Nat.le_refl _) (show D - 1 ≤ D by omega) (by omega) (Nat.le_refl _)) (by omega) (by omega) (by omega) (by omega) (by omega) (by omega)) hrd (e2.trans (e6.trans eG))
          | _ => exact iteF (iteF rest)
        case rest3 =>
          refine ins_run (L := L) (D := D - 1) (W := W + 1000) (S := S) (p := p) (b := b) (xs := xs) (ds := ds) (es := es) (at' := at') rfl rfl hSp (hS2.ev e6) e6.pot ha6 hap ((hxs2.mono (e6.kpS hSp))) hrow6 hat0 (by omega) hes3 ?_ ?_
          · intro G C eG hC
            have haG := eG.kp _ _ ha6 hap
            refine ⟨_, rfl, _, rfl, a, _, at', _, rfl, rfl, SqL.of haG, hvA, by show 2 ≤ sizeLine; decide, fun m hm => ?_⟩
            have sm := Same.new (o := .lst [.int 2, .int 0]) hm
            refine ⟨_, rfl, rfl, .inr ⟨_, rfl, ?_⟩⟩
            by_cases h5 : decide (V.int way = V.int 5) = true
            · rw [if_pos h5]
              exact ⟨m, _, 1, .int 0, rfl, rfl, SqL.of upd_same, rfl, _, rfl, hC 0 vP dP _ (Ev.of eG.pot sm) ((hrP.mono (eG.kpS hSp)).mono (Same.kpS sm)) hokP (by omega) (by omega)⟩
            · rw [if_neg h5]
              exact ⟨m, _, 0, .int 2, rfl, rfl, SqL.of upd_same, rfl, _, rfl, hC 2 vP dP _ (Ev.of eG.pot sm) ((hrP.mono (eG.kpS hSp)).mono (Same.kpS sm)) hokP (by omega) (by omega)⟩
          · intro d2 j v G hokd hrd eG
            refine k _ _ _ (hok.splice (hdA'.tset hokd j (Nat.le_refl _) (Nat.le_refl _) (show D - 1 ≤ D by omega) (by omega) (Nat.le_refl _)) (by omega) (by omega) (by omega) (by omega) (by omega) (by omega)) hrd (e2.trans (e6.trans eG))
      · have e3 : ¬ (V.int (ys.length : Nat) = V.int 3) := by
          intro z; injection z with z; omega
        rw [decide_eq_false e3]
        exact iteT ⟨_, rfl, back⟩
    | _ => exact iteT ⟨_, rfl, back⟩
  case brG =>
    refine ⟨_, rfl, _, rfl, _, rfl, a, xs, rfl, SqL.of ha2, fun q1 hq1 => ?_⟩
    rw [cut_pre' hat0]
    have s1 := Same.new (o := .lst (xs.take at'.toNat)) hq1
    have e3 := Ev.of e2.pot s1
    have hq1p : q1 ≠ p := e2.pot.held.ne hq1
    have hq1S : ¬ S q1 := hS2.fresh hq1
    refine ⟨_, rfl, _, rfl, p, _, S, rfl, e3.pot, hSp, hS2.ev e3, fun d v H3 hdok hdr e4 => ⟨by show 1 ≤ sizeLine; decide, fun q2 hq2 => ?_⟩⟩
    have s2 := Same.new (o := .lst [v]) hq2
    have e5 := (e3.trans e4).same s2
    have hq1' := s2 _ _ (e4.kp _ _ (upd_same (H := H2) (a := q1) (o := .lst (xs.take at'.toNat))) hq1p)
    have htl : (xs.take at'.toNat).length ≤ xs.length := by rw [List.length_take]; omega
    refine ⟨q1, q2, _, _, rfl, rfl, hq1', upd_same, Nat.le_trans (show (xs.take at'.toNat).length + 1 ≤ 600 by omega) (by decide), fun q3 hq3 => ?_⟩
    have s3 := Same.new (o := .lst (xs.take at'.toNat ++ [v])) hq3
    have e6 := e5.same s3
    have hq3p : q3 ≠ p := e5.pot.held.ne hq3
    have ha6 := e6.kp _ _ ha2 hap
    have hq3' := upd_same (H := upd H3 q2 (.lst [v])) (a := q3) (o := .lst (xs.take at'.toNat ++ [v]))
    have hd6 := (hdr.mono (Same.kpS s2)).mono (Same.kpS s3)
    revert e6 ha6 hq3' hd6
    generalize upd (upd H3 q2 (.lst [v])) q3 (.lst (xs.take at'.toNat ++ [v])) = H6
    intro e6 ha6 hq3' hd6
    refine ⟨_, rfl, _, rfl, _, rfl, p, 2, rfl, e6.pot, by decide, by decide, fun r H7 hr0 hr1 e7 => ?_⟩
    refine ⟨_, _, rfl, rfl, _, rfl, a, xs, rfl, SqL.of (e7.kp _ _ ha6 hap), fun q4 hq4 => ?_⟩
    rw [cut_post' (by omega)]
    have s4 := Same.new (o := .lst (xs.drop (at' + r).toNat)) hq4
    have hdl2 : (xs.drop (at' + r).toNat).length ≤ xs.length := by rw [List.length_drop]; omega
    refine ⟨q3, q4, _, _, rfl, rfl, s4 _ _ (e7.kp _ _ hq3' hq3p), upd_same, Nat.le_trans (show _ ≤ 1200 by rw [List.length_append]; show _ + 1 + _ ≤ _; omega) (by decide), fun q5 hq5 => ?_⟩
    have s5 := Same.new (o := .lst ((xs.take at'.toNat ++ [v]) ++ xs.drop (at' + r).toNat)) hq5
    have e8 := ((e7.same s4).same s5)
    have e9 := e6.trans e8
    have hds := (((hxs2.mono (e9.kpS hSp)).take at'.toNat).app (.cons (hd6.mono (e8.kpS hSp)) .nil)).app ((hxs2.mono (e9.kpS hSp)).drop (at' + r).toNat)
    exact k _ _ _ (hok.splice hdok (show at'.toNat ≤ (at' + r).toNat by omega) (by omega) (by omega) (by omega) (by omega) (by omega)) ⟨q5, _, rfl, ((hS2.ev (e6.trans e7)).same s4).fresh hq5, upd_same, hds⟩ (e2.trans e9)
end
end K12
namespace K12
open PySem PySem.Spec PyProof.Rows L2
/-! ### what makes data -/
def MkD (S : Addr → Prop) (σ : L2.St) (H0 : Hp) (te : TE) (d : PyData) : Prop := ∀ (H : Hp) (Q : VK), Same H0 H → (∀ v H', Same H H' → RpS S H' d v → Q v H') → te σ H Q
def MkA (S : Addr → Prop) (σ : L2.St) (H0 : Hp) (ta : TA) (ds : List PyData) : Prop := ∀ (H : Hp) (Q : List V → Hp → Prop), Same H0 H → (∀ vs H', Same H H' → RpSA S H' ds vs → Q vs H') → ta σ H Q
section
variable {S : Addr → Prop} {σ : L2.St} {H0 : Hp} {te : TE} {ta : TA} {d : PyData} {ds : List PyData}
theorem MkD.non : MkD S σ H0 (tC .non) .none := fun H _ _ k => k _ H (Same.refl H) rfl
theorem MkD.int {i : Int} : MkD S σ H0 (tC (.int i)) (.int i) := fun H _ _ k => k _ H (Same.refl H) rfl
theorem MkD.str {x : Str} : MkD S σ H0 (tC (.str x)) (.str x) := fun H _ _ k => k _ H (Same.refl H) rfl
theorem MkD.bl {b : Bool} : MkD S σ H0 (tC (.bl b)) (.bool b) := fun H _ _ k => k _ H (Same.refl H) rfl
theorem MkD.var {i : Nat} {v : V} (e : σ[i]? = some (some v)) (r : RpS S H0 d v) : MkD S σ H0 (tVar i) d := fun H _ s k => ⟨v, e, k v H (Same.refl H) (r.mono (Same.kpS s))⟩
theorem MkA.nil : MkA S σ H0 tNil [] := fun H _ _ k => k _ H (Same.refl H) rfl
theorem MkA.cons (h : MkD S σ H0 te d) (g : MkA S σ H0 ta ds) : MkA S σ H0 (tCons te ta) (d :: ds) := fun H _ s k =>
  h H _ s fun _ H1 s1 r => g H1 _ (s.trans s1) fun _ H2 s2 rs => k _ H2 (s1.trans s2) (.cons (r.mono (Same.kpS s2)) rs)
theorem MkD.tup (hS : Al S H0) (h : MkA S σ H0 ta ds) (hl : ds.length ≤ sizeLine := by decide) : MkD S σ H0 (tTup ta) (.tuple ds) := fun H _ s k =>
  h H _ s fun vs H1 s1 rs => ⟨by rw [rs.length]; exact hl, fun p hp => k _ _ (s1.trans (Same.new hp)) (alT ((hS.same s).same s1) hp rs)⟩
theorem MkD.lst (hS : Al S H0) (h : MkA S σ H0 ta ds) (hl : ds.length ≤ sizeLine := by decide) : MkD S σ H0 (tLst ta) (.list ds) := fun H _ s k =>
  h H _ s fun vs H1 s1 rs => ⟨by rw [rs.length]; exact hl, fun p hp => k _ _ (s1.trans (Same.new hp)) (alL ((hS.same s).same s1) hp rs)⟩
theorem MkD.dict (hS : Al S H0) : MkD S σ H0 tDNewK (.dict []) := fun H _ s k p hp => k _ _ (Same.new hp) ⟨rfl, p, rfl, (hS.same s).fresh hp, upd_same⟩
/-- tuple(x) of a list -/
theorem MkD.tupOf {K : PySem.W.Frag} {i : Nat} {v : V} (hS : Al S H0) (e : σ[i]? = some (some v)) (r : RpS S H0 (.list ds) v) :
    MkD S σ H0 (tCB (fun xs H Q => ∃ p ys, xs = [.ref p] ∧ ((SqL K H p ys ∧ ∀ l, H l = none → Q (.ref l) (upd H l (.tup ys))) ∨ (SqT K H p ys ∧ Q (.ref p) H))) (tCons (tVar i) tNil)) (.tuple ds) := fun H _ s k => by
  obtain ⟨a, xs, rfl, na, ha, hxs⟩ := r
  exact ⟨_, e, a, xs, rfl, .inl ⟨SqL.of (s _ _ ha), fun t ht => k _ _ (Same.new ht) (alT (hS.same s) ht (hxs.mono (Same.kpS s)))⟩⟩
end
/-- one of a list that is made, by the pot -/
theorem pick_run {K : PySem.W.Frag} {σ : L2.St} {H : Hp} {Q : VK} {S : Addr → Prop} {p : Addr} {te : TE} {ds : List PyData} {n : Int} (hm : MkD S σ H te (.list ds)) (h0 : σ[0]? = some (some (.ref p))) (hSp : S p) (hp : Pot p H) (hn : n = (ds.length : Nat)) (hn1 : 1 ≤ n) (hn2 : n ≤ 5000)
    (k : ∀ (d : PyData) (v : V) (H' : Hp), d ∈ ds → RpS S H' d v → Ev p H H' → Q v H') : tOp (rIxL K) te (tCall spTake [] E0 (tCons (tVar 0) (tCons (tC (.int n)) tNil))) σ H Q := by
  refine hm H _ (Same.refl H) fun v H1 s1 r => ?_
  obtain ⟨l, xs, rfl, nl, hl, hxs⟩ := r
  have hlp : l ≠ p := fun z => nl (by rw [z]; exact hSp)
  refine ⟨_, h0, p, n, rfl, hp.mono s1, hn1, hn2, fun r H2 r0 r1 e2 => ?_⟩
  obtain ⟨v, d, hat, hd, hrd⟩ := at_data (hxs.mono (e2.kpS hSp)) r0 (by rw [hxs.length]; omega)
  exact ⟨l, _, r, _, rfl, rfl, SqL.of (e2.kp _ _ hl hlp), hat, k d v H2 hd hrd ((Ev.of hp s1).trans e2)⟩
theorem at_dataX {S : Addr → Prop} {H : Hp} {ds : List PyData} {xs : List V} {r : Int} (h : RpSA S H ds xs) (h0 : 0 ≤ r) (h1 : r < (xs.length : Nat)) : ∃ v d, atI xs r = some v ∧ ds[r.toNat]? = some d ∧ RpS S H d v := by
  have hi : r.toNat < xs.length := by omega
  obtain ⟨d, hd, hr⟩ := h.getV (List.getElem?_eq_getElem hi)
  refine ⟨_, d, ?_, hd, hr⟩
  unfold atI ixN
  rw [if_pos (by omega), if_pos (by omega)]
  exact List.getElem?_eq_getElem hi
/-- L[:at] + [e] + L[b:] -/
theorem spl_run {K : PySem.W.Frag} {σ : L2.St} {H : Hp} {Q : VK} {S : Addr → Prop} {p a : Addr} {xs : List V} {ds : List PyData} {at' : Int} {te tlo : TE} {i j : Nat} (PE : PyData → Prop) (PB : Int → Prop) (h1 : σ[i]? = some (some (.ref a))) (h4 : σ[j]? = some (some (.int at'))) (hSp : S p) (hS : Al S H) (hp : Pot p H) (ha : H a = some (.lst xs)) (hap : a ≠ p)
    (hxs : RpSA S H ds xs) (h0 : 0 ≤ at') (hlen : xs.length ≤ 500)
    (hte : ∀ (G : Hp) (C : VK), Ev p H G → (∀ (e : PyData) (v : V) (G' : Hp), Ev p G G' → RpS S G' e v → PE e → C v G') → te σ G C)
    (hlo : ∀ (G : Hp) (C : VK), Ev p H G → (∀ (b : Int) (G' : Hp), Ev p G G' → 0 ≤ b → PB b → C (.int b) G') → tlo σ G C)
    (k : ∀ (e : PyData) (b : Int) (v : V) (G : Hp), PE e → PB b → RpS S G (.list ((ds.take at'.toNat ++ [e]) ++ ds.drop b.toNat)) v → Ev p H G → Q v G) :
    tOp rCat (tOp rCat (tSl (rSlL K) (tVar i) tNoPart (tPart (tVar j))) (tLst (tCons te tNil))) (tSl (rSlL K) (tVar i) (tPart tlo) tNoPart) σ H Q := by
  refine ⟨_, h1, _, h4, _, rfl, a, xs, rfl, SqL.of ha, fun q1 hq1 => ?_⟩
  rw [cut_pre' h0]
  have s1 := Same.new (o := .lst (xs.take at'.toNat)) hq1
  have e1 := Ev.of hp s1
  have hq1p : q1 ≠ p := hp.held.ne hq1
  refine hte _ _ e1 fun e v G2 e2 hv hPE => ⟨by show 1 ≤ sizeLine; decide, fun q2 hq2 => ?_⟩
  have e12 := e1.trans e2
  have s2 := Same.new (o := .lst [v]) hq2
  have e5 := e12.same s2
  have hq1' := s2 _ _ (e2.kp _ _ (upd_same (H := H) (a := q1) (o := .lst (xs.take at'.toNat))) hq1p)
  have htl : (xs.take at'.toNat).length ≤ xs.length := by rw [List.length_take]; omega
  refine ⟨q1, q2, _, _, rfl, rfl, hq1', upd_same, Nat.le_trans (show (xs.take at'.toNat).length + 1 ≤ 600 by omega) (by decide), fun q3 hq3 => ?_⟩
  have s4 := Same.new (o := .lst (xs.take at'.toNat ++ [v])) hq3
  have e6 := e5.same s4
  have ha6 := e6.kp _ _ ha hap
  have hv6 := (hv.mono (Same.kpS s2)).mono (Same.kpS s4)
  have hq3' := upd_same (H := upd G2 q2 (.lst [v])) (a := q3) (o := .lst (xs.take at'.toNat ++ [v]))
  revert e6 ha6 hq3' hv6
  generalize upd (upd G2 q2 (.lst [v])) q3 (.lst (xs.take at'.toNat ++ [v])) = H6
  intro e6 ha6 hv6 hq3'
  have hq3p : q3 ≠ p := e5.pot.held.ne hq3
  refine ⟨_, h1, hlo _ _ e6 fun b G7 e7 hb0 hPB => ⟨b, rfl, a, xs, rfl, SqL.of (e7.kp _ _ ha6 hap), fun q4 hq4 => ?_⟩⟩
  rw [cut_post' hb0]
  have s5 := Same.new (o := .lst (xs.drop b.toNat)) hq4
  have hdl2 : (xs.drop b.toNat).length ≤ xs.length := by rw [List.length_drop]; omega
  refine ⟨q3, q4, _, _, rfl, rfl, s5 _ _ (e7.kp _ _ hq3' hq3p), upd_same, Nat.le_trans (show _ ≤ 1200 by rw [List.length_append]; show _ + 1 + _ ≤ _; omega) (by decide), fun q5 hq5 => ?_⟩
  have s6 := Same.new (o := .lst ((xs.take at'.toNat ++ [v]) ++ xs.drop b.toNat)) hq5
  have e67 := e6.trans e7
  have e8 := (e67.same s5).same s6
  have hds := (((hxs.mono (e8.kpS hSp)).take at'.toNat).app (.cons (((hv6.mono (e7.kpS hSp)).mono (Same.kpS s5)).mono (Same.kpS s6)) .nil)).app ((hxs.mono (e8.kpS hSp)).drop b.toNat)
  exact k e b _ _ hPE hPB ⟨q5, _, rfl, ((hS.ev e67).same s5).fresh hq5, upd_same, hds⟩ e8
/-! ### exact weights -/
theorem wtA_at {ds : List PyData} {i : Nat} {x : PyData} (h : ds[i]? = some x) : wtA ds = wtA (ds.take i) + (K12.wt x + 2) + wtA (ds.drop (i + 1)) := by
  obtain ⟨hi, hx⟩ := List.getElem?_eq_some_iff.mp h
  have e : ds = ds.take i ++ x :: ds.drop (i + 1) := by
    rw [← hx]
    have := List.take_append_drop i ds
    rw [List.drop_eq_getElem_cons hi] at this
    exact this.symm
  have e2 := congrArg wtA e
  rw [wtA_app] at e2
  have e3 : wtA (x :: ds.drop (i + 1)) = K12.wt x + 2 + wtA (ds.drop (i + 1)) := rfl
  omega
theorem wtA_setx {ds : List PyData} {i : Nat} {x d : PyData} (h : ds[i]? = some x) : wtA (ds.set i d) + K12.wt x = wtA ds + K12.wt d := by
  obtain ⟨hi, hx⟩ := List.getElem?_eq_some_iff.mp h
  have e : ds.set i d = ds.take i ++ d :: ds.drop (i + 1) := by rw [List.set_eq_take_append_cons_drop, if_pos hi]
  rw [e, wtA_app, wtA_at h]
  show wtA (ds.take i) + (K12.wt d + 2 + wtA (ds.drop (i + 1))) + K12.wt x = _
  omega
/-- one item in the place of another -/
theorem Ok.repl {L D W L2 D2 W2 c : Nat} {ds : List PyData} {a : Nat} {x e : PyData} (h : Ok L D W (.list ds)) (hx : ds[a]? = some x) (hf : FitL L2 e) (hd : e.depth + 1 ≤ D2) (hw : K12.wt e ≤ K12.wt x + c) (h1 : L ≤ L2) (h3 : D ≤ D2) (h5 : W + c ≤ W2) :
    Ok L2 D2 W2 (.list ((ds.take a ++ [e]) ++ ds.drop (a + 1))) := by
  obtain ⟨hi, _⟩ := List.getElem?_eq_some_iff.mp hx
  have e1 : (ds.take a ++ [e]) ++ ds.drop (a + 1) = ds.set a e := by rw [List.set_eq_take_append_cons_drop, if_pos hi, List.append_assoc]; rfl
  rw [e1]
  refine Ok.build ?_ (fun d hd' => ?_) (fun d hd' => ?_) (by omega) ?_
  · rw [List.length_set]; exact Nat.le_trans h.fit.1 h1
  · rcases List.mem_or_eq_of_mem_set hd' with hd' | rfl
    · exact (h.item hd').1.up h1
    · exact hf
  · rcases List.mem_or_eq_of_mem_set hd' with hd' | rfl
    · have := (h.item hd').2.1; omega
    · exact hd
  · have w1 := wtA_setx (d := e) hx
    have w3 : wtA ds + 4 ≤ W := h.wt
    omega
/-- one item more, of others perhaps some fewer -/
theorem Ok.insx {L D W L' D' W' L2 D2 W2 : Nat} {ds : List PyData} {e : PyData} (h : Ok L D W (.list ds)) (he : Ok L' D' W' e) {a b : Nat} (hab : a ≤ b) (h1 : L + 1 ≤ L2) (h2 : L' ≤ L2) (h3 : D ≤ D2) (h4 : D' + 1 ≤ D2) (h5 : W + W' + 2 ≤ W2) :
    Ok L2 D2 W2 (.list ((ds.take a ++ [e]) ++ ds.drop b)) := by
  have hm : ∀ d ∈ (ds.take a ++ [e]) ++ ds.drop b, d ∈ ds ∨ d = e := fun d hd => by
    rcases List.mem_append.mp hd with hd | hd
    · rcases List.mem_append.mp hd with hd | hd
      · exact .inl (List.mem_of_mem_take hd)
      · exact .inr (List.mem_singleton.mp hd)
    · exact .inl (List.mem_of_mem_drop hd)
  refine Ok.build ?_ (fun d hd => ?_) (fun d hd => ?_) (by omega) ?_
  · rw [List.length_append, List.length_append, List.length_take, List.length_drop]
    have : ds.length ≤ L := h.fit.1
    show min a ds.length + 1 + _ ≤ L2
    omega
  · rcases hm d hd with hd | rfl
    · exact (h.item hd).1.up (by omega)
    · exact he.fit.up h2
  · rcases hm d hd with hd | rfl
    · have := (h.item hd).2.1; omega
    · have := he.dep; omega
  · rw [wtA_app, wtA_app]
    have w0 : wtA (ds.take a) + wtA (ds.drop a) = wtA ds := by rw [← wtA_app, List.take_append_drop]
    have w2 : wtA (ds.drop b) ≤ wtA (ds.drop a) := by
      obtain ⟨c, rfl⟩ := Nat.le.dest hab
      rw [← List.drop_drop]; exact wtA_drop c _
    have w3 : wtA ds + 4 ≤ W := h.wt
    have w4 := he.wt
    show wtA (ds.take a) + (K12.wt e + 2 + 0) + _ + 4 ≤ W2
    omega
theorem rep_len {α : Type} (l : List α) : ∀ n : Nat, (List.replicate n l).flatten.length = n * l.length
  | 0 => by simp
  | n + 1 => by rw [List.replicate_succ, List.flatten_cons, List.length_append, rep_len l n, Nat.succ_mul, Nat.add_comm]
theorem rep_mem {α : Type} {l : List α} {x : α} : ∀ {n : Nat}, x ∈ (List.replicate n l).flatten → x ∈ l
  | 0, h => by simp at h
  | n + 1, h => by
    rw [List.replicate_succ, List.flatten_cons, List.mem_append] at h
    exact h.elim id rep_mem
end K12
namespace K12
open PySem PySem.Spec PyProof.Rows L2
theorem asg_run {S : Addr → Prop} {σ : L2.St} {H : Hp} {te : TE} {d : PyData} {i : Nat} {rest : TS} {D : Ends} (hm : MkD S σ H te d) (k : ∀ v H', Same H H' → RpS S H' d v → rest D (σ.set i (some v)) H') : tSeq (tAsg te (gName i)) rest D σ H :=
  hm H _ (Same.refl H) k
theorem cat_run {S : Addr → Prop} {σ : L2.St} {H : Hp} {te : TE} {ds es : List PyData} {i j : Nat} {rest : TS} {D : Ends} {l : Addr} {xs : List V} (hS : Al S H) (h : σ[i]? = some (some (.ref l))) (hl : H l = some (.lst xs)) (hr : RpSA S H ds xs) (hm : MkD S σ H te (.list es)) (hn : ds.length + es.length ≤ sizeLine)
    (k : ∀ q zs G, Same H G → ¬ S q → G q = some (.lst zs) → RpSA S G (ds ++ es) zs → rest D (σ.set j (some (.ref q))) G) : tSeq (tAsg (tOp rCat (tVar i) te) (gName j)) rest D σ H := by
  refine ⟨_, h, hm H _ (Same.refl H) fun v H1 s1 r => ?_⟩
  obtain ⟨b, ys, rfl, nb, hb, hys⟩ := r
  refine ⟨l, b, xs, ys, rfl, rfl, s1 _ _ hl, hb, by rw [hr.length, hys.length]; exact hn, fun q hq => ?_⟩
  have sq := Same.new (o := .lst (xs ++ ys)) hq
  exact k q _ _ (s1.trans sq) ((hS.same s1).fresh hq) upd_same (((hr.mono (Same.kpS s1)).app hys).mono (Same.kpS sq))
end K12
namespace K12
open PySem PySem.Spec PyProof.Rows L2
def deedOdds1 : List PyData := [.none, .tuple [], .list [], .str "set", .tuple [.str "set"], .tuple [.str "set", .int 5, .int 5], .list [.str "set", .int 5], .tuple [.str "tick"], .tuple [.int 5], .tuple [.list []], .tuple [.str "join", .str "no"]]
def deedOdds2 : List PyData := [.tuple [.str "draft"], .int 0, .bool false, .str "", .dict []]
theorem deedOdds_ok : ((deedOdds1 ++ deedOdds2).all (okB 12 2 1500)) = true := by decide +kernel
def twoDeeds : List PyData := [.tuple [.str "set", .int 5], .tuple [.str "point"]]
theorem twoDeeds_ok : (twoDeeds.all (okB 12 2 700)) = true := by decide +kernel
def spGDeedsX : Sp := fun vs H Q _ => ∃ (p : Addr) (v1 : V) (S : Addr → Prop) (d : PyData) (L D W : Nat), vs = [.ref p, v1] ∧ Pot p H ∧ S p ∧ Al S H ∧ RpS S H d v1 ∧ Ok L D W d ∧ 12 ≤ L ∧ L ≤ 400 ∧ 3 ≤ D ∧
  ∀ d v H', Ok (L + 30) D (W + 20000) d → RpS S H' d v → Ev p H H' → Q v H'
section
variable {P : Program} {w : World} {K : PySem.W.Frag} {mg : Str → Option Value} {base : Heap}
abbrev N__law_struck_deeds : List Str := ["_law_pot_here", "_law_some", "_law_way", "_law_at", "_law_odd_here", "_law_part_here"]
theorem sc__law_struck_deeds : FnScope N__law_struck_deeds ["_law_pot_here", "_law_some"] (defScope (top 79)) := sc_of (by decide +kernel)
-- slots: 0:_law_pot_here 1:_law_some 2:_law_way 3:_law_at 4:_law_odd_here 5:_law_part_here
theorem ok__law_struck_deeds (T : Tx w K mg) (c__law_take : Cl P w K mg base CX0 1 "_law_take" spTake) (c__law_odd : Cl P w K mg base CX0 2 "_law_odd" spGOdd) (c__law_in : Cl P w K mg base CX0 1 "_law_in" spGIn) : Cl P w K mg base CX0 3 "_law_struck_deeds" spGDeedsX := by
  refine T.d__law_struck_deeds.cl sc__law_struck_deeds (fun _ _ _ _ _ _ us hl => match us, hl with | [_, _], _ => rfl) (fun vs H Q E h => ?_) fun f cdv A outer s H vs Q E hr h => ?_
  · obtain ⟨_, _, _, _, _, _, _, rfl, _⟩ := h; rfl
  have hu := hu_of hr
  have hu0 := hr.units0
  have hu64 := hr.units
  obtain ⟨p, v1, S, d, L, D, W, rfl, h⟩ := h
  refine ⟨_, PSs.nox ((pss_cons (ps_if (pt_not (pt_val (pe_isi T.f_isinstance T.f_list (pv 1) b_list))) (pss_one (ps_ret (pv 1))) pss_nil)
      (pss_cons (ps_set (i := 2) sc__law_struck_deeds.nd rfl (Or.inl rfl) (pe_cl c__law_take hr (pa_cons (pv 0) (pa_cons pe_int pa_nil))))
      (pss_cons (ps_if (pt_cmpR op_eq (pv 2) pe_int (nomark _)) (pss_one (ps_ret (pe_ix ix_list (pe_lst (pa_cons pe_non (pa_cons (pe_callTy call_tuple_of rfl T.f_tuple b_tuple (pa_cons (pv 1) pa_nil)) (pa_cons pe_dnewK (pa_cons pe_int (pa_cons pe_str pa_nil)))))) (pe_cl c__law_take hr (pa_cons (pv 0) (pa_cons pe_int pa_nil))) (fun _ _ => rfl)))) pss_nil)
      (pss_cons (ps_if (pt_cmpR op_eq (pv 2) pe_int (nomark _)) (pss_one (ps_ret (pe_op op_cat (pv 1) (pe_op op_rep (pe_slice sl_list (pe_lst (pa_cons (pe_tup (pa_cons pe_str (pa_cons pe_int pa_nil))) (pa_cons (pe_tup (pa_cons pe_str pa_nil)) pa_nil))) po_none (po_some (pe_op op_add pe_int (pe_cl c__law_take hr (pa_cons (pv 0) (pa_cons pe_int pa_nil)))))) pe_int)))) pss_nil)
      (pss_cons (ps_set (i := 3) sc__law_struck_deeds.nd rfl (Or.inl rfl) (pe_cl c__law_take hr (pa_cons (pv 0) (pa_cons (pe_op op_add pe_int (pe_callB call_len_seq rfl T.f_len b_len (pa_cons (pv 1) pa_nil))) pa_nil))))
      (pss_cons (ps_if (PW.pt (pw_or (pt_cmpR op_eq (pv 2) pe_int (nomark _)) (pw_or (pt_cmpR op_eq (pv 3) (pe_callB call_len_seq rfl T.f_len b_len (pa_cons (pv 1) pa_nil)) (nomark _)) (pw_or (pt_not (pt_val (pe_isi T.f_isinstance T.f_tuple (pe_ix ix_list (pv 1) (pv 3) (fun _ _ => rfl)) b_tuple))) (pw_or1 (pt_cmpR op_lt (pe_callB call_len_seq rfl T.f_len b_len (pa_cons (pe_ix ix_list (pv 1) (pv 3) (fun _ _ => rfl)) pa_nil)) pe_int (nomark _))))))) (pss_cons (ps_set (i := 4) sc__law_struck_deeds.nd rfl (Or.inl rfl) (pe_lst (pa_cons pe_non (pa_cons (pe_tup pa_nil) (pa_cons (pe_lst pa_nil) (pa_cons pe_str (pa_cons (pe_tup (pa_cons pe_str pa_nil)) (pa_cons (pe_tup (pa_cons pe_str (pa_cons pe_int (pa_cons pe_int pa_nil)))) (pa_cons (pe_lst (pa_cons pe_str (pa_cons pe_int pa_nil))) (pa_cons (pe_tup (pa_cons pe_str pa_nil)) (pa_cons (pe_tup (pa_cons pe_int pa_nil)) (pa_cons (pe_tup (pa_cons (pe_lst pa_nil) pa_nil)) (pa_cons (pe_tup (pa_cons pe_str (pa_cons pe_str pa_nil))) pa_nil)))))))))))))
      (pss_cons (ps_set (i := 4) sc__law_struck_deeds.nd rfl (Or.inl rfl) (pe_op op_cat (pv 4) (pe_lst (pa_cons (pe_tup (pa_cons pe_str pa_nil)) (pa_cons pe_int (pa_cons pe_bl (pa_cons pe_str (pa_cons pe_dnewK pa_nil))))))))
      (pss_one (ps_ret (pe_op op_cat (pe_op op_cat (pe_slice sl_list (pv 1) po_none (po_some (pv 3))) (pe_lst (pa_cons (pe_ix ix_list (pv 4) (pe_cl c__law_take hr (pa_cons (pv 0) (pa_cons (pe_callB call_len_seq rfl T.f_len b_len (pa_cons (pv 4) pa_nil)) pa_nil))) (fun _ _ => rfl)) pa_nil))) (pe_slice sl_list (pv 1) (po_some (pv 3)) po_none)))))) pss_nil)
      (pss_cons (ps_set (i := 5) sc__law_struck_deeds.nd rfl (Or.inl rfl) (pe_op op_add pe_int (pe_cl c__law_take hr (pa_cons (pv 0) (pa_cons (pe_op op_sub (pe_callB call_len_seq rfl T.f_len b_len (pa_cons (pe_ix ix_list (pv 1) (pv 3) (fun _ _ => rfl)) pa_nil)) pe_int) pa_nil)))))
      (pss_one (ps_ret (pe_op op_cat (pe_op op_cat (pe_slice sl_list (pv 1) po_none (po_some (pv 3))) (pe_lst (pa_cons (pe_cl c__law_in hr (pa_cons (pe_ix ix_list (pv 1) (pv 3) (fun _ _ => rfl)) (pa_cons (pv 5) (pa_cons (pe_cl c__law_odd hr (pa_cons (pv 0) pa_nil)) pa_nil)))) pa_nil))) (pe_slice sl_list (pv 1) (po_some (pe_op op_add (pv 3) pe_int)) po_none)))))))))))), ?_⟩
  obtain ⟨hp, hSp, hS, hr, hok, hL1, hL2, hD, k⟩ := h
  have small : ∀ d, Ok 12 2 1500 d → Ok (L + 30) D (W + 20000) d := fun d h => h.mono (by omega) (by omega) (by omega)
  refine ⟨_, rfl, isiL (hr.rp hSp) ⟨_, rfl, ?_⟩⟩
  cases d with
  | list ds =>
    refine iteF ?_
    have same : Ok (L + 30) D (W + 20000) (.list ds) := hok.mono (by omega) (by omega) (by omega)
    have hr0 := hr
    obtain ⟨a, xs, rfl, na, ha, hxs⟩ := hr
    have hap : a ≠ p := fun z => na (by rw [z]; exact hSp)
    have hxl : xs.length = ds.length := hxs.length
    have hdl : ds.length ≤ L := hok.fit.1
    refine ⟨_, rfl, p, 4, rfl, hp, by decide, by decide, fun way H1 hw0 hw1 e1 => ?_⟩
    have ha1 := e1.kp _ _ ha hap
    have hxs1 := hxs.mono (e1.kpS hSp)
    have hr1 := hr0.mono (e1.kpS hSp)
    have hS1 := hS.ev e1
    refine ⟨_, rfl, rfl, _, rfl, ?_⟩
    refine ite2 (fun _ => ?_) (fun _ => ?_)
    · refine pick_run (S := S) (p := p) (ds := [.none, .tuple ds, .dict [], .int 5, .str "set"]) (.lst hS1 (.cons .non (.cons (.tupOf hS1 rfl hr1) (.cons (.dict hS1) (.cons .int (.cons .str .nil))))) (by show 5 ≤ sizeLine; decide)) rfl hSp e1.pot rfl (by decide) (by decide) fun d v H3 hd hrd e3 => k d v H3 ?_ hrd (e1.trans e3)
      have hd' : d = .tuple ds ∨ d ∈ [PyData.none, .dict [], .int 5, .str "set"] := by
        rcases List.mem_cons.mp hd with rfl | hd
        · exact .inr (by simp)
        rcases List.mem_cons.mp hd with rfl | hd
        · exact .inl rfl
        · exact .inr (List.mem_cons_of_mem _ hd)
      rcases hd' with rfl | hd'
      · exact same.asTuple
      · exact small d (okB_ok (List.all_eq_true.mp (show ([PyData.none, .dict [], .int 5, .str "set"].all (okB 12 2 1500)) = true by decide +kernel) d hd'))
    refine ⟨_, rfl, rfl, _, rfl, ?_⟩
    refine ite2 (fun _ => ?_) (fun _ => ?_)
    · refine ⟨_, rfl, ?_⟩
      refine ⟨by show 2 ≤ sizeLine; decide, fun t1 h1 => ⟨by show 1 ≤ sizeLine; decide, fun t2 h2 => ⟨by show 2 ≤ sizeLine; decide, fun l hl0 => ?_⟩⟩⟩
      have q1 := Same.new (o := .tup [.str "set", .int 5]) h1
      have q2 := Same.new (o := .tup [.str "point"]) h2
      have q3 := Same.new (o := .lst [.ref t1, .ref t2]) hl0
      have r2 : RpS S _ (.list twoDeeds) (.ref l) := alL ((hS1.same q1).same q2) hl0 (.cons ((alT hS1 h1 (.cons (d := .str "set") rfl (.cons (d := .int 5) rfl .nil))).mono (Same.kpS q2)) (.cons (alT (hS1.same q1) h2 (.cons (d := .str "point") rfl .nil)) .nil))
      have s2 := (q1.trans q2).trans q3
      revert r2 s2
      generalize upd (upd (upd H1 t1 (.tup [.str "set", .int 5])) t2 (.tup [.str "point"])) l (.lst [.ref t1, .ref t2]) = H2
      intro r2 s2
      obtain ⟨l', ys, el, nl, hl, hys⟩ := r2
      cases el
      have hlp : l ≠ p := fun z => nl (by rw [z]; exact hSp)
      have hyl : ys.length = 2 := hys.length
      refine ⟨_, rfl, p, 2, rfl, e1.pot.mono s2, by decide, by decide, fun r H3 h0 h1 e3 => ⟨_, _, rfl, rfl, _, rfl, l, ys, rfl, SqL.of (e3.kp _ _ hl hlp), fun q hq => ?_⟩⟩
      rw [cut_pre' (by omega)]
      have sq := Same.new (o := .lst (ys.take (1 + r).toNat)) hq
      have htl : (ys.take (1 + r).toNat).length ≤ 2 := by rw [List.length_take]; omega
      refine ⟨q, 13, _, rfl, rfl, upd_same, by decide, by decide, Nat.le_trans (Nat.mul_le_mul_right _ htl) (by decide), fun t ht => ?_⟩
      have st := Same.new (o := .lst (List.replicate (13 : Int).toNat (ys.take (1 + r).toNat)).flatten) ht
      have e4 := (((e1.same s2).trans e3).same sq).same st
      refine ⟨a, t, xs, _, rfl, rfl, e4.kp _ _ ha hap, upd_same, Nat.le_trans (show _ ≤ 600 by rw [rep_len]; have := Nat.mul_le_mul_left (13 : Int).toNat htl; have e13 : (13 : Int).toNat = 13 := rfl; rw [e13] at this ⊢; omega) (by decide), fun z hz => ?_⟩
      have sz := Same.new (o := .lst (xs ++ (List.replicate (13 : Int).toNat (ys.take (1 + r).toNat)).flatten)) hz
      have e5 := e4.same sz
      have h5 : RpSA S _ _ _ := (hxs.mono (e5.kpS hSp)).app (RpSA.rep ((((hys.mono (e3.kpS hSp)).take (1 + r).toNat).mono (Same.kpS sq)).mono (Same.kpS (st.trans sz))) (13 : Int).toNat)
      refine k _ _ _ (hok.app (n := 26) (W' := 700) ?_ (fun e he => ?_) (by omega) (Nat.le_refl _) (by omega) (by omega)) ⟨z, _, rfl, (hS.ev e4).fresh hz, upd_same, h5⟩ e5
      · rw [rep_len]
        have : (twoDeeds.take (1 + r).toNat).length ≤ 2 := by rw [List.length_take]; show min _ 2 ≤ 2; omega
        exact Nat.mul_le_mul_left 13 this
      · exact (okB_ok (List.all_eq_true.mp twoDeeds_ok e (List.mem_of_mem_take (rep_mem he)))).mono (by omega) (by omega) (Nat.le_refl _)
    refine ⟨_, rfl, _, rfl, a, xs, rfl, .inl (SqL.of ha1), _, _, rfl, rfl, p, _, rfl, e1.pot, by omega, by omega, fun at' H2 hat0 hat1 e2' => ?_⟩
    have e2 := e1.trans e2'
    have ha2 := e2'.kp _ _ ha1 hap
    have hxs2 := hxs1.mono (e2'.kpS hSp)
    have hS2 := hS1.ev e2'
    refine ⟨_, rfl, rfl, _, rfl, ?_⟩
    refine (fun br => ite2 (fun _ => iteT br) (fun _ => ⟨_, rfl, _, rfl, a, xs, rfl, .inl (SqL.of ha2), rfl, _, rfl, ite2 (fun _ => iteT br) (fun hne => ?main)⟩)) ?brG
    case main =>
      have hlt : at' < (xs.length : Nat) := by
        have h1 : ¬ at' = (xs.length : Nat) := fun z => hne (decide_eq_true (by rw [z]))
        omega
      obtain ⟨vA, dA, hvA, hdA, hrA⟩ := at_dataX hxs2 hat0 hlt
      refine ⟨_, rfl, _, rfl, a, _, at', _, rfl, rfl, SqL.of ha2, hvA, isiT (hrA.rp hSp) ⟨_, rfl, ?_⟩⟩
      cases dA with
      | tuple es =>
        refine iteF ?_
        have hrA0 := hrA
        obtain ⟨b, ys, rfl, nb, hb, hys⟩ := hrA
        have hyl : ys.length = es.length := hys.length
        have hit := hok.item (List.mem_of_getElem? hdA)
        have hel : es.length ≤ L := hit.1.1
        refine ⟨_, rfl, _, rfl, a, _, at', _, rfl, rfl, SqL.of ha2, hvA, b, ys, rfl, .inr (SqT.of hb), _, _, rfl, rfl, _, rfl, ?_⟩
        refine ite2 (fun _ => br) (fun hlt2 => ?_)
        have h2 : ¬ ((ys.length : Nat) : Int) < 2 := fun z => hlt2 (decide_eq_true z)
        refine ⟨_, rfl, _, rfl, _, rfl, a, _, at', _, rfl, rfl, SqL.of ha2, hvA, b, ys, rfl, .inr (SqT.of hb), _, _, rfl, rfl, p, _, rfl, e2.pot, by omega, by omega, fun r H3 h0 h1 e3 => ⟨_, _, rfl, rfl, ?_⟩⟩
        have hxs3 := hxs2.mono (e3.kpS hSp)
        refine spl_run (S := S) (p := p) (xs := xs) (ds := ds) (at' := at') (fun e => ∃ o : PyData, Ok 12 1 1000 o ∧ e = .tuple (es.set (1 + r).toNat o)) (fun b => b = at' + 1) rfl rfl hSp (hS2.ev e3) e3.pot (e3.kp _ _ ha2 hap) hap hxs3 hat0 (by omega) ?_ ?_ ?_
        · intro G C eG hC
          have e4 := e3.trans eG
          refine ⟨_, rfl, _, rfl, a, _, at', _, rfl, rfl, SqL.of (e4.kp _ _ ha2 hap), hvA, _, rfl, _, rfl, p, S, rfl, e4.pot, hSp, hS2.ev e4, fun d1 u1 G1 hok1 hr1 e5 => ?_⟩
          exact ⟨S, b, 1 + r, es, d1, u1, rfl, hrA0.mono ((e4.trans e5).kpS hSp), hr1, by omega, by omega, by omega, (hS2.ev e4).ev e5, fun v G2 s2 hv => hC _ v G2 (e5.same s2) hv ⟨d1, hok1, rfl⟩⟩
        · intro G C eG hC
          exact ⟨_, rfl, _, _, rfl, rfl, hC _ G (Ev.refl eG.pot) (by omega) rfl⟩
        · rintro e b' v G ⟨o, hoo, rfl⟩ rfl hrd eG
          rw [show (at' + 1).toNat = at'.toNat + 1 by omega] at hrd
          have hx' : Ok L (D - 1) (K12.wt (.tuple es)) (.tuple es) := ⟨hit.1, by omega, Nat.le_refl _⟩
          have hn := hx'.tset hoo (1 + r).toNat (L2 := L + 30) (D2 := D - 1) (W2 := K12.wt (.tuple es) + 1002) (by omega) (by omega) (Nat.le_refl _) (by omega) (by omega)
          exact k _ _ _ (hok.repl hdA hn.fit (by have := hn.dep; omega) hn.wt (by omega) (Nat.le_refl _) (by omega)) hrd (e2.trans (e3.trans eG))
      | _ => exact iteT (iteT br)
    case brG =>
      refine asg_run (S := S) (d := .list deedOdds1) (.lst hS2 (.cons .non (.cons (.tup hS2 .nil) (.cons (.lst hS2 .nil) (.cons .str (.cons (.tup hS2 (.cons .str .nil)) (.cons (.tup hS2 (.cons .str (.cons .int (.cons .int .nil)))) (.cons (.lst hS2 (.cons .str (.cons .int .nil))) (.cons (.tup hS2 (.cons .str .nil)) (.cons (.tup hS2 (.cons .int .nil)) (.cons (.tup hS2 (.cons (.lst hS2 .nil) .nil)) (.cons (.tup hS2 (.cons .str (.cons .str .nil))) .nil)))))))))))) fun v3 H3 s3 r3 => ?_
      obtain ⟨l3, y3, rfl, n3, hl3, hy3⟩ := r3
      have hS3 := hS2.same s3
      refine cat_run (S := S) (es := deedOdds2) hS3 rfl hl3 hy3 (.lst hS3 (.cons (.tup hS3 (.cons .str .nil)) (.cons .int (.cons .bl (.cons .str (.cons (.dict hS3) .nil)))))) (by show 16 ≤ sizeLine; decide) fun q zs H5 s4 nq hqq hod => ?_
      have s5 := s3.trans s4
      have e5 := Ev.of e2.pot s5
      have hqp : q ≠ p := fun z => nq (by rw [z]; exact hSp)
      have h16 : zs.length = 16 := hod.length
      refine spl_run (S := S) (p := p) (xs := xs) (ds := ds) (at' := at') (fun e => Ok 12 2 1500 e) (fun b => b = at') rfl rfl hSp (hS2.same s5) e5.pot (s5 _ _ ha2) hap (hxs2.mono (Same.kpS s5)) hat0 (by omega) ?_ ?_ ?_
      · intro G C eG hC
        refine ⟨_, rfl, _, rfl, _, rfl, q, _, rfl, .inl (SqL.of (eG.kp _ _ hqq hqp)), p, _, rfl, eG.pot, by rw [h16]; decide, by rw [h16]; decide, fun r G1 h0 h1 e1 => ?_⟩
        obtain ⟨v, d, hat, hd, hrd⟩ := at_data (hod.mono ((eG.trans e1).kpS hSp)) h0 h1
        exact ⟨q, _, r, _, rfl, rfl, SqL.of ((eG.trans e1).kp _ _ hqq hqp), hat, hC d v G1 e1 hrd (okB_ok (List.all_eq_true.mp deedOdds_ok d hd))⟩
      · intro G C eG hC
        exact ⟨_, rfl, hC _ G (Ev.refl eG.pot) hat0 rfl⟩
      · rintro e b v G hoe rfl hrd eG
        exact k _ _ _ (hok.insx hoe (Nat.le_refl _) (by omega) (by omega) (by omega) (by omega) (by omega)) hrd (e2.trans (e5.trans eG))
  | _ => exact iteT ⟨_, rfl, k _ _ _ (hok.mono (by omega) (by omega) (by omega)) hr (Ev.refl hp)⟩
end
end K12
namespace K12
open PySem PySem.Spec PyProof.Rows L2
section
variable {J : It} {n : Nat} {G : Hp → Prop} {Y : Nat → Hp → V → Hp → Prop}
/-- a comprehension with a test: what is told of its items -/
theorem lc_filt (w : Walk J n G Y) (R : V → Prop) {g : TG} {tt : TT} {te : TE} {vs : List Nat} {σ : L2.St} {H1 : Hp} {D : Addr} {Qd : Hp → Prop} (hD : H1 D = none) (hn : n < sizeLine) (hG : ∀ H, Same H1 H → G H)
    (hs : ∀ (i : Nat) (x : V) (H H' : Hp) (C : V → Hp → Prop) (N : Hp → Prop), i < n → Same H1 H → Y i H x H' → (∀ v H4, Same H H4 → R v → C v H4) → (∀ H4, Same H H4 → N H4) →
      g x (wipe σ vs) H' fun σ2 H2 => wipe σ2 vs = wipe σ vs ∧ tt σ2 H2 fun b H3 => if b = true then te σ2 H3 C else N H3)
    (hd : ∀ H acc, Same H1 H → H D = some (.lst acc) → acc.length ≤ n → (∀ (i : Nat) v, acc[i]? = some v → R v) → Qd H) :
    ∃ W : Nat → Nat → Hp → Prop, (∃ m, W 0 m (upd H1 D (.lst []))) ∧ ∀ i m H, W i m H →
      (J.stop i H ∧ Qd H) ∨ (J.go i H ∧ ∃ Nx : Hp → Prop, (∀ H', Nx H' → ∃ m', m' < m ∧ W (i + 1) m' H') ∧ ∀ x H', J.yld i H x H' → g x (wipe σ vs) H' fun σ2 H2 => wipe σ2 vs = wipe σ vs ∧ tt σ2 H2 fun b H3 =>
        if b = true then te σ2 H3 fun y H4 => ∃ acc, H4 D = some (.lst acc) ∧ acc.length < sizeLine ∧ Nx (upd H4 D (.lst (acc ++ [y]))) else Nx H3) := by
  refine lc_it w (fun i H => Same H1 H ∧ ∃ acc, H D = some (.lst acc) ∧ acc.length ≤ i ∧ ∀ v ∈ acc, R v) ⟨Same.new hD, [], upd_same, Nat.le_refl _, fun v h => by cases h⟩ (fun i H _ h => hG H h.1) (fun i x H H' hi hP y => ?_) (fun H h => ?_)
  · obtain ⟨sH, acc, hacc, hl, hr⟩ := hP
    refine hs i x H H' _ _ hi sH y (fun v H4 s4 hv => ⟨acc, s4 _ _ hacc, Nat.lt_of_le_of_lt hl (Nat.lt_trans hi hn), ?_, acc ++ [v], upd_same, ?_, fun u hu => ?_⟩) (fun H4 s4 => ⟨Same.trans sH s4, acc, s4 _ _ hacc, Nat.le_succ_of_le hl, hr⟩)
    · exact Same.mut (Same.trans sH s4) hD
    · rw [List.length_append]; exact Nat.succ_le_succ hl
    · rcases List.mem_append.mp hu with hu | hu
      · exact hr u hu
      · rw [List.mem_singleton.mp hu]; exact hv
  · obtain ⟨sH, acc, hacc, hl, hr⟩ := h
    exact hd H acc sH hacc hl fun i v e => hr v (List.mem_of_getElem? e)
end
/-- one[j] .. if isinstance(one, tuple) and len(one) == m -/
theorem names_step {K : PySem.W.Frag} {σ2 : L2.St} {H0 H : Hp} {C : V → Hp → Prop} {N : Hp → Prop} {S : Addr → Prop} {p : Addr} {dI : PyData} {y : V} {m j : Int} (hσ : σ2[10]? = some (some y)) (hr : RpS S H0 dI y) (s : Same H0 H) (hSp : S p) (hj0 : 0 ≤ j) (hj : j < m)
    (hC : ∀ v d es, RpS S H0 d v → dI = .tuple es → d ∈ es → C v H) (hN : N H) :
    (tAnd (tB (tIsi K "tuple" (tVar 10))) (tTest (tOp rEq (tCB (rLenOf K) (tCons (tVar 10) tNil)) (tC (.int m))))) σ2 H fun b H3 => if b = true then (tOp (rIxT K) (tVar 10) (tC (.int j))) σ2 H3 C else N H3 := by
  refine ⟨_, hσ, isiT ((hr.mono (Same.kpS s)).rp hSp) ⟨_, rfl, ?_⟩⟩
  cases dI with
  | tuple es =>
    obtain ⟨a, xs, rfl, na, ha, hxs⟩ := hr
    have ha' := s _ _ ha
    refine iteT ⟨_, hσ, a, xs, rfl, .inr (SqT.of ha'), rfl, _, rfl, ?_⟩
    by_cases h : ((xs.length : Nat) : Int) = m
    · rw [decide_eq_true (show V.int (xs.length : Nat) = V.int m by rw [h])]
      obtain ⟨v, d, hat, hd, hrd⟩ := at_data hxs hj0 (by omega)
      exact iteT ⟨_, hσ, a, xs, j, v, rfl, rfl, SqT.of ha', hat, hC v d es hrd rfl hd⟩
    · rw [decide_eq_false (show ¬ V.int (xs.length : Nat) = V.int m from fun z => h (by injection z))]
      exact iteF hN
  | _ => exact iteF (iteF hN)
/-- names[take(pot, len(names))] -/
theorem names_fin {K : PySem.W.Frag} {σ : L2.St} {G : Hp} {C : VK} {S : Addr → Prop} {p nm : Addr} {nxs : List V} {nds : List PyData} (h0 : σ[0]? = some (some (.ref p))) (h7 : σ[7]? = some (some (.ref nm))) (hSp : S p) (hp : Pot p G) (hnm : G nm = some (.lst nxs)) (hnp : nm ≠ p) (hr : RpSA S G nds nxs) (h1 : 1 ≤ nxs.length) (h2 : nxs.length ≤ 2000)
    (k : ∀ (d : PyData) (v : V) (G' : Hp), Ev p G G' → RpS S G' d v → d ∈ nds → C v G') :
    tOp (rIxL K) (tVar 7) (tCall spTake [] E0 (tCons (tVar 0) (tCons (tCB (rLenOf K) (tCons (tVar 7) tNil)) tNil))) σ G C := by
  refine ⟨_, h7, _, h0, _, h7, nm, nxs, rfl, .inl (SqL.of hnm), p, _, rfl, hp, by omega, by omega, fun r G1 r0 r1 e1 => ?_⟩
  obtain ⟨v, d, hat, hd, hrd⟩ := at_data (hr.mono (e1.kpS hSp)) r0 r1
  exact ⟨nm, _, r, _, rfl, rfl, SqL.of (e1.kp _ _ hnm hnp), hat, k d v G1 e1 hrd hd⟩
/-- crew[:at] + [in(crew[at], j, X)] + crew[at + 1:] -/
theorem row_run {K : PySem.W.Frag} {σ : L2.St} {H : Hp} {Q : VK} {S : Addr → Prop} {p a : Addr} {vA : V} {xs : List V} {ds es : List PyData} {at' jj : Int} {tj tX : TE} (PX : PyData → Prop) (h1 : σ[1]? = some (some (.ref a))) (h5 : σ[5]? = some (some (.int at'))) (hSp : S p) (hS : Al S H) (hp : Pot p H) (ha : H a = some (.lst xs)) (hap : a ≠ p)
    (hxs : RpSA S H ds xs) (h0 : 0 ≤ at') (hlen : xs.length ≤ 500) (hvA : atI xs at' = some vA) (hrow : RpS S H (.tuple es) vA) (hes : es.length = 4) (hj0 : 0 ≤ jj) (hj1 : jj < 4)
    (hj : ∀ (G : Hp) (C : VK), C (.int jj) G → tj σ G C)
    (hX : ∀ (G : Hp) (C : VK), Ev p H G → (∀ (d : PyData) (v : V) (G' : Hp), Ev p G G' → RpS S G' d v → PX d → C v G') → tX σ G C)
    (k : ∀ (d : PyData) (v : V) (G : Hp), PX d → RpS S G (.list ((ds.take at'.toNat ++ [.tuple (es.set jj.toNat d)]) ++ ds.drop (at'.toNat + 1))) v → Ev p H G → Q v G) :
    tOp rCat (tOp rCat (tSl (rSlL K) (tVar 1) tNoPart (tPart (tVar 5))) (tLst (tCons (tCall spGIn [] E0 (tCons (tOp (rIxL K) (tVar 1) (tVar 5)) (tCons tj (tCons tX tNil)))) tNil)))
      (tSl (rSlL K) (tVar 1) (tPart (tOp (rI0 fun i j => .int (i + j)) (tVar 5) (tC (.int 1)))) tNoPart) σ H Q := by
  obtain ⟨b, ys, rfl, nb, hb, hys⟩ := id hrow
  refine spl_run (S := S) (p := p) (xs := xs) (ds := ds) (at' := at') (fun e => ∃ d : PyData, PX d ∧ e = .tuple (es.set jj.toNat d)) (fun b => b = at' + 1) h1 h5 hSp hS hp ha hap hxs h0 hlen ?_ ?_ ?_
  · intro G C eG hC
    refine ⟨_, h1, _, h5, a, _, at', _, rfl, rfl, SqL.of (eG.kp _ _ ha hap), hvA, hj _ _ (hX G _ eG fun d1 u1 G1 e5 hr1 hpx => ?_)⟩
    exact ⟨S, b, jj, es, d1, u1, rfl, hrow.mono ((eG.trans e5).kpS hSp), hr1, hj0, by omega, by omega, hS.ev (eG.trans e5), fun v G2 s2 hv => hC _ v G2 (e5.same s2) hv ⟨d1, hpx, rfl⟩⟩
  · intro G C eG hC
    exact ⟨_, h5, _, _, rfl, rfl, hC _ G (Ev.refl eG.pot) (by omega) rfl⟩
  · rintro e b' v G ⟨d, hd, rfl⟩ rfl hrd eG
    rw [show (at' + 1).toNat = at'.toNat + 1 by omega] at hrd
    exact k d v G hd hrd eG
def crewOdds : List PyData := [.none, .int 5, .tuple [], .tuple [.str "a", .bool true, .list []], .list [.str "a", .bool true, .list [], .list []], .tuple [.str "a", .bool true, .list [], .list [], .int 0], .tuple [.str "tick", .bool true, .list [], .list []]]
theorem crewOdds_ok : (crewOdds.all (okB 12 2 2000)) = true := by decide +kernel
theorem fit_yyy {c : Nat} (h : c < 128) : FitT ((⟨#[c]⟩ : Str) ++ "yyy") := by
  refine ⟨by rw [Str.length_append]; show 1 + ("yyy" : Str).length ≤ 20; decide +kernel, fun x hx => ?_⟩
  rw [Str.cps_append, Array.toList_append, List.mem_append] at hx
  rcases hx with hx | hx
  · have : x = c := by simpa using hx
    omega
  · have := List.all_eq_true.mp (show (("yyy" : Str).cps.toList.all fun c => decide (c < 128)) = true by decide +kernel) x hx
    simpa using this
theorem Ok.yyy {c : Nat} {b : Bool} (h : c < 128) : Ok 12 2 1500 (.tuple [.str ((⟨#[c]⟩ : Str) ++ "yyy"), .bool b, .list [], .list []]) := by
  refine (Ok.tuple (L := 12) (D := 1) (W := 300) (ds := [.str ((⟨#[c]⟩ : Str) ++ "yyy"), .bool b, .list [], .list []]) (fun e he => ?_) (show 4 ≤ 12 by decide)).mono (Nat.le_refl _) (by decide) (by show 4 * 302 + 4 ≤ 1500; decide)
  rcases List.mem_cons.mp he with rfl | he
  · exact .str (fit_yyy h)
  rcases List.mem_cons.mp he with rfl | he
  · exact .bool
  rcases List.mem_cons.mp he with rfl | he
  · exact okB_ok (by decide)
  rcases List.mem_cons.mp he with rfl | he
  · exact okB_ok (by decide)
  · cases he
def spGCrewX : Sp := fun vs H Q _ => ∃ (p : Addr) (v1 v2 : V) (S : Addr → Prop) (ds : List PyData) (dst : PyData) (L D W : Nat), vs = [.ref p, v1, v2] ∧ Pot p H ∧ S p ∧ Al S H ∧ RpS S H (.list ds) v1 ∧ RpS S H dst v2 ∧ Ok L D W (.list ds) ∧ Ok L D W dst ∧ 12 ≤ L ∧ L ≤ 400 ∧ 6 ≤ D ∧ 1000 ≤ W ∧
  ∀ d v H', Ok (L + 30) D (2 * W + 60000) d → RpS S H' d v → Ev p H H' → Q v H'
section
variable {P : Program} {w : World} {K : PySem.W.Frag} {mg : Str → Option Value} {base : Heap}
abbrev N__law_struck_crew : List Str := ["_law_pot_here", "_law_crew", "_law_stuff_here", "_law_way", "_law_more", "_law_at", "_law_odd_here", "_law_names", "_law_place", "_law_k", "_law_one"]
theorem sc__law_struck_crew : FnScope N__law_struck_crew ["_law_pot_here", "_law_crew", "_law_stuff_here"] (defScope (top 80)) := sc_of (by decide +kernel)
-- slots: 0:_law_pot_here 1:_law_crew 2:_law_stuff_here 3:_law_way 4:_law_more 5:_law_at 6:_law_odd_here 7:_law_names 8:_law_place 9:_law_k 10:_law_one
theorem ok__law_struck_crew (T : Tx w K mg) (c__law_take : Cl P w K mg base CX0 1 "_law_take" spTake) (c__law_odd : Cl P w K mg base CX0 2 "_law_odd" spGOdd) (c__law_in : Cl P w K mg base CX0 1 "_law_in" spGIn) (c__law_struck_deeds : Cl P w K mg base CX0 3 "_law_struck_deeds" spGDeedsX) : Cl P w K mg base CX0 4 "_law_struck_crew" spGCrewX := by
  refine T.d__law_struck_crew.cl sc__law_struck_crew (fun _ _ _ _ _ _ us hl => match us, hl with | [_, _, _], _ => rfl) (fun vs H Q E h => ?_) fun f cdv A outer s H vs Q E hr h => ?_
  · obtain ⟨_, _, _, _, _, _, _, _, _, rfl, _⟩ := h; rfl
  have hu := hu_of hr
  have hu0 := hr.units0
  have hu64 := hr.units
  obtain ⟨p, v1, v2, S, ds, dst, L, D, W, rfl, h⟩ := h
  refine ⟨_, PSs.nox ((pss_cons (ps_set (i := 3) sc__law_struck_crew.nd rfl (Or.inl rfl) (pe_cl c__law_take hr (pa_cons (pv 0) (pa_cons pe_int pa_nil))))
      (pss_cons (ps_if (pt_cmpR op_eq (pv 3) pe_int (nomark _)) (pss_one (ps_ret (pe_ix ix_list (pe_lst (pa_cons pe_non (pa_cons (pe_callTy call_tuple_of rfl T.f_tuple b_tuple (pa_cons (pv 1) pa_nil)) (pa_cons pe_dnewK (pa_cons pe_str (pa_cons pe_int pa_nil)))))) (pe_cl c__law_take hr (pa_cons (pv 0) (pa_cons pe_int pa_nil))) (fun _ _ => rfl)))) pss_nil)
      (pss_cons (ps_if (pt_cmpR op_eq (pv 3) pe_int (nomark _)) (pss_cons (ps_setLc (i := 4) (own := [("_law_k", 9)]) rfl sc__law_struck_crew.nd rfl rfl (sw_true rfl rfl rfl (by decide +kernel)) (pi_range1 rfl T.f_range (pa_cons pe_int pa_nil)) (blkOk_by (N := N__law_struck_crew) (sc := defScope (top 80)) (by decide +kernel)) (fun _ _ _ _ _ => (pg_name (i := 9) sc__law_struck_crew.nd rfl (Or.inl rfl))) (fun _ _ _ _ _ => pts_nil) (fun _ _ _ _ _ => (pe_tup (pa_cons (pe_op op_add_str (pe_ix ix_str pe_str (pv 9) (fun _ _ => rfl)) pe_str) (pa_cons (pe_cmpR op_eq (pe_op op_mod (pv 9) pe_int) pe_int (nomark _)) (pa_cons (pe_lst pa_nil) (pa_cons (pe_lst pa_nil) pa_nil)))))))
      (pss_one (ps_ret (pe_op op_cat (pv 1) (pe_slice sl_list (pv 4) po_none (po_some (pe_cl c__law_take hr (pa_cons (pv 0) (pa_cons pe_int pa_nil))))))))) pss_nil)
      (pss_cons (ps_set (i := 5) sc__law_struck_crew.nd rfl (Or.inl rfl) (pe_cl c__law_take hr (pa_cons (pv 0) (pa_cons (pe_op op_add pe_int (pe_callB call_len_seq rfl T.f_len b_len (pa_cons (pv 1) pa_nil))) pa_nil))))
      (pss_cons (ps_set (i := 6) sc__law_struck_crew.nd rfl (Or.inl rfl) (pe_lst (pa_cons pe_non (pa_cons pe_int (pa_cons (pe_tup pa_nil) (pa_cons (pe_tup (pa_cons pe_str (pa_cons pe_bl (pa_cons (pe_lst pa_nil) pa_nil)))) (pa_cons (pe_lst (pa_cons pe_str (pa_cons pe_bl (pa_cons (pe_lst pa_nil) (pa_cons (pe_lst pa_nil) pa_nil))))) (pa_cons (pe_tup (pa_cons pe_str (pa_cons pe_bl (pa_cons (pe_lst pa_nil) (pa_cons (pe_lst pa_nil) (pa_cons pe_int pa_nil)))))) (pa_cons (pe_tup (pa_cons pe_str (pa_cons pe_bl (pa_cons (pe_lst pa_nil) (pa_cons (pe_lst pa_nil) pa_nil))))) pa_nil)))))))))
      (pss_cons (ps_if (PW.pt (pw_or (pt_cmpR op_eq (pv 3) pe_int (nomark _)) (pw_or (pt_cmpR op_eq (pv 5) (pe_callB call_len_seq rfl T.f_len b_len (pa_cons (pv 1) pa_nil)) (nomark _)) (pw_or (pt_not (pt_val (pe_isi T.f_isinstance T.f_tuple (pe_ix ix_list (pv 1) (pv 5) (fun _ _ => rfl)) b_tuple))) (pw_or1 (pt_cmpR op_ne (pe_callB call_len_seq rfl T.f_len b_len (pa_cons (pe_ix ix_list (pv 1) (pv 5) (fun _ _ => rfl)) pa_nil)) pe_int (nomark _))))))) (pss_one (ps_ret (pe_op op_cat (pe_op op_cat (pe_slice sl_list (pv 1) po_none (po_some (pv 5))) (pe_lst (pa_cons (pe_ix ix_list (pv 6) (pe_cl c__law_take hr (pa_cons (pv 0) (pa_cons (pe_callB call_len_seq rfl T.f_len b_len (pa_cons (pv 6) pa_nil)) pa_nil))) (fun _ _ => rfl)) pa_nil))) (pe_slice sl_list (pv 1) (po_some (pe_op op_add (pv 5) (pe_cl c__law_take hr (pa_cons (pv 0) (pa_cons pe_int pa_nil))))) po_none)))) pss_nil)
      (pss_cons (ps_if (pt_cmpR op_eq (pv 3) pe_int (nomark _)) (pss_cons (ps_set (i := 7) sc__law_struck_crew.nd rfl (Or.inl rfl) (pe_op op_cat (pe_lc (own := [("_law_one", 10)]) rfl sc__law_struck_crew.nd (pi_list (pv 1)) (blkOk_by (N := N__law_struck_crew) (sc := defScope (top 80)) (by decide +kernel)) (fun _ _ _ _ _ => (pg_name (i := 10) sc__law_struck_crew.nd rfl (Or.inl rfl))) (fun _ _ _ _ _ => (pts_one (PW.pt (pw_and (pt_val (pe_isiK (K := K) rfl T.f_isinstance T.f_tuple (pv 10) b_tuple)) (pw_and1 (pt_cmpR op_eq (pe_callB (call_len_seqK (K := K) rfl) rfl T.f_len b_len (pa_cons (pv 10) pa_nil)) pe_int (nomark _))))))) (fun _ _ _ _ _ => (pe_ix (ix_tupK (K := K) rfl) (pv 10) pe_int (fun _ _ => rfl)))) (pe_lst (pa_cons (pe_cl c__law_odd hr (pa_cons (pv 0) pa_nil)) pa_nil))))
      (pss_cons (ps_if (pt_val (pe_isi T.f_isinstance T.f_list (pv 2) b_list)) (pss_one (ps_set (i := 7) sc__law_struck_crew.nd rfl (Or.inl rfl) (pe_op op_cat (pv 7) (pe_lc (own := [("_law_one", 10)]) rfl sc__law_struck_crew.nd (pi_list (pv 2)) (blkOk_by (N := N__law_struck_crew) (sc := defScope (top 80)) (by decide +kernel)) (fun _ _ _ _ _ => (pg_name (i := 10) sc__law_struck_crew.nd rfl (Or.inl rfl))) (fun _ _ _ _ _ => (pts_one (PW.pt (pw_and (pt_val (pe_isiK (K := K) rfl T.f_isinstance T.f_tuple (pv 10) b_tuple)) (pw_and1 (pt_cmpR op_eq (pe_callB (call_len_seqK (K := K) rfl) rfl T.f_len b_len (pa_cons (pv 10) pa_nil)) pe_int (nomark _))))))) (fun _ _ _ _ _ => (pe_ix (ix_tupK (K := K) rfl) (pv 10) pe_int (fun _ _ => rfl))))))) pss_nil)
      (pss_one (ps_ret (pe_op op_cat (pe_op op_cat (pe_slice sl_list (pv 1) po_none (po_some (pv 5))) (pe_lst (pa_cons (pe_cl c__law_in hr (pa_cons (pe_ix ix_list (pv 1) (pv 5) (fun _ _ => rfl)) (pa_cons pe_int (pa_cons (pe_ix ix_list (pv 7) (pe_cl c__law_take hr (pa_cons (pv 0) (pa_cons (pe_callB call_len_seq rfl T.f_len b_len (pa_cons (pv 7) pa_nil)) pa_nil))) (fun _ _ => rfl)) pa_nil)))) pa_nil))) (pe_slice sl_list (pv 1) (po_some (pe_op op_add (pv 5) pe_int)) po_none)))))) pss_nil)
      (pss_cons (ps_if (pt_cmpR op_eq (pv 3) pe_int (nomark _)) (pss_one (ps_ret (pe_op op_cat (pe_op op_cat (pe_slice sl_list (pv 1) po_none (po_some (pv 5))) (pe_lst (pa_cons (pe_cl c__law_in hr (pa_cons (pe_ix ix_list (pv 1) (pv 5) (fun _ _ => rfl)) (pa_cons pe_int (pa_cons (pe_cl c__law_odd hr (pa_cons (pv 0) pa_nil)) pa_nil)))) pa_nil))) (pe_slice sl_list (pv 1) (po_some (pe_op op_add (pv 5) pe_int)) po_none)))) pss_nil)
      (pss_cons (ps_set (i := 8) sc__law_struck_crew.nd rfl (Or.inl rfl) (pe_ix ix_list (pe_lst (pa_cons pe_int (pa_cons pe_int pa_nil))) (pe_op op_mod (pv 3) pe_int) (fun _ _ => rfl)))
      (pss_one (ps_ret (pe_op op_cat (pe_op op_cat (pe_slice sl_list (pv 1) po_none (po_some (pv 5))) (pe_lst (pa_cons (pe_cl c__law_in hr (pa_cons (pe_ix ix_list (pv 1) (pv 5) (fun _ _ => rfl)) (pa_cons (pv 8) (pa_cons (pe_cl c__law_struck_deeds hr (pa_cons (pv 0) (pa_cons (pe_ix ix_tup (pe_ix ix_list (pv 1) (pv 5) (fun _ _ => rfl)) (pv 8) (fun _ _ => rfl)) pa_nil))) pa_nil)))) pa_nil))) (pe_slice sl_list (pv 1) (po_some (pe_op op_add (pv 5) pe_int)) po_none)))))))))))))), ?_⟩
  obtain ⟨hp, hSp, hS, hr, hrst, hok, hoks, hL1, hL2, hD, hW, k⟩ := h
  have small : ∀ d, Ok 12 2 2000 d → Ok (L + 30) D (2 * W + 60000) d := fun d h => h.mono (by omega) (by omega) (by omega)
  have same : Ok (L + 30) D (2 * W + 60000) (.list ds) := hok.mono (by omega) (by omega) (by omega)
  have hr0 := hr
  obtain ⟨a, xs, rfl, na, ha, hxs⟩ := hr
  have hap : a ≠ p := fun z => na (by rw [z]; exact hSp)
  have hxl : xs.length = ds.length := hxs.length
  have hdl : ds.length ≤ L := hok.fit.1
  refine ⟨_, rfl, p, 8, rfl, hp, by decide, by decide, fun way H1 hw0 hw1 e1 => ?_⟩
  have ha1 := e1.kp _ _ ha hap
  have hxs1 := hxs.mono (e1.kpS hSp)
  have hr1 := hr0.mono (e1.kpS hSp)
  have hS1 := hS.ev e1
  refine ⟨_, rfl, rfl, _, rfl, ?_⟩
  refine ite2 (fun _ => ?_) (fun _ => ?_)
  · refine pick_run (S := S) (p := p) (ds := [.none, .tuple ds, .dict [], .str "tasks", .int 5]) (.lst hS1 (.cons .non (.cons (.tupOf hS1 rfl hr1) (.cons (.dict hS1) (.cons .str (.cons .int .nil))))) (by show 5 ≤ sizeLine; decide)) rfl hSp e1.pot rfl (by decide) (by decide) fun d v H3 hd hrd e3 => k d v H3 ?_ hrd (e1.trans e3)
    have hd' : d = .tuple ds ∨ d ∈ [PyData.none, .dict [], .str "tasks", .int 5] := by
      rcases List.mem_cons.mp hd with rfl | hd
      · exact .inr (by simp)
      rcases List.mem_cons.mp hd with rfl | hd
      · exact .inl rfl
      · exact .inr (List.mem_cons_of_mem _ hd)
    rcases hd' with rfl | hd'
    · exact same.asTuple
    · exact small d (okB_ok (List.all_eq_true.mp (show ([PyData.none, .dict [], .str "tasks", .int 5].all (okB 12 2 2000)) = true by decide +kernel) d hd'))
  refine ⟨_, rfl, rfl, _, rfl, ?_⟩
  refine ite2 (fun _ => ?_) (fun _ => ?_)
  · refine ⟨8, rfl, by decide, by decide, fun D' hD' => ?_⟩
    have hDp : D' ≠ p := e1.pot.held.ne hD'
    refine lc_rel (walk_range (lo := 0) (n := 8)) (fun G => Same H1 G) (fun _ v G => ∃ d, RpS (plus S D') G d v ∧ Ok 12 2 1500 d) (by decide) (Same.new hD') (fun _ _ => trivial) (fun G o e => Same.mut e hD') (fun i v G o ⟨d, h1, h2⟩ => ⟨d, h1.mono (KpS.put (.inr rfl)), h2⟩) ?_ ?_
    · rintro i x G1 G2 C hi ev ⟨acc, hacc⟩ ⟨rfl, rfl⟩ hC
      obtain ⟨c, hc1, hc2⟩ := atI_some (l := ("abcdefgh" : Str).cps.toList) (r := 0 + (i : Int)) (by omega) (by rw [show ("abcdefgh" : Str).cps.toList.length = 8 by decide +kernel]; omega)
      have hc3 := List.all_eq_true.mp (show (("abcdefgh" : Str).cps.toList.all fun c => decide (c < 128)) = true by decide +kernel) c hc2
      have hc4 : c < 128 := by simpa using hc3
      refine ⟨rfl, ?_⟩
      refine ⟨_, rfl, "abcdefgh", _, c, rfl, rfl, by decide +kernel, hc1, ⟨#[c]⟩, "yyy", rfl, rfl, by show 1 + ("yyy" : Str).length ≤ sizeLine; decide +kernel, _, rfl, _, _, rfl, rfl, (by show (0 : Int) < 2; decide), rfl, Nat.zero_le _, fun l1 hl1 => ⟨Nat.zero_le _, fun l2 hl2 => ⟨by show 4 ≤ sizeLine; decide, fun t ht => ?_⟩⟩⟩
      have hAl : Al (plus S D') G2 := (hS1.same ev).plus hacc
      have q1 := Same.new (o := .lst []) hl1
      have q2 := Same.new (o := .lst []) hl2
      have r1 := (alL hAl hl1 (ds := []) .nil).mono (Same.kpS q2)
      have r2 := alL (hAl.same q1) hl2 (ds := []) .nil
      have main : ∀ b : Bool, C (.ref t) (upd (upd (upd G2 l1 (.lst [])) l2 (.lst [])) t (.tup [.str ((⟨#[c]⟩ : Str) ++ "yyy"), .bl b, .ref l1, .ref l2])) := fun b => by
        have r3 := alT ((hAl.same q1).same q2) ht (.cons (d := .str ((⟨#[c]⟩ : Str) ++ "yyy")) (v := .str ((⟨#[c]⟩ : Str) ++ "yyy")) rfl (.cons (d := .bool b) (v := .bl b) rfl (.cons r1 (.cons r2 .nil))))
        have s3 := (q1.trans q2).trans (Same.new (o := .tup [.str ((⟨#[c]⟩ : Str) ++ "yyy"), .bl b, .ref l1, .ref l2]) ht)
        exact hC _ _ (ev.trans s3) (by rw [s3 _ _ hacc, hacc]) (fun j u ⟨d, h1, h2⟩ => ⟨d, h1.mono (Same.kpS s3), h2⟩) ⟨_, r3, Ok.yyy hc4⟩
      exact main _
    · intro G acc ev hacc hal hR
      obtain ⟨es, hes, hesl, heok⟩ := RpSA.of (P := Ok 12 2 1500) hR
      have e2 := e1.same ev
      refine ⟨_, rfl, _, rfl, _, rfl, p, 9, rfl, e2.pot, by decide, by decide, fun r G3 h0 h1 e3 => ⟨_, rfl, D', acc, rfl, SqL.of (e3.kp _ _ hacc hDp), fun q hq => ?_⟩⟩
      rw [cut_pre' h0]
      have qq := Same.new (o := .lst (acc.take r.toNat)) hq
      have ha3 := qq _ _ (e3.kp _ _ (ev _ _ ha1) hap)
      have hcl : (acc.take r.toNat).length ≤ 8 := by rw [List.length_take, hal]; omega
      refine ⟨a, q, xs, _, rfl, rfl, ha3, upd_same, Nat.le_trans (show _ ≤ 600 by omega) (by decide), fun t ht => ?_⟩
      have qt := Same.new (o := .lst (xs ++ acc.take r.toNat)) ht
      have e4 := ((e2.trans e3).same qq).same qt
      have h5 := ((hxs.mono (e4.kpS hSp)).app ((((hes.take r.toNat).mono (e3.kpS (.inl hSp))).mono (Same.kpS (qq.trans qt))).less fun x h => .inl h))
      have hel : (es.take r.toNat).length ≤ 8 := by rw [List.length_take]; omega
      exact k (.list (ds ++ es.take r.toNat)) _ _ (hok.app hel (fun e he => (heok e (List.mem_of_mem_take he)).mono (by omega) (by omega) (Nat.le_refl _)) (by omega) (Nat.le_refl _) (by omega) (by omega)) ⟨t, _, rfl, ((hS1.same ev).ev e3 |>.same qq).fresh ht, upd_same, h5⟩ e4
  refine ⟨_, rfl, _, rfl, a, xs, rfl, .inl (SqL.of ha1), _, _, rfl, rfl, p, _, rfl, e1.pot, by omega, by omega, fun at' H2 hat0 hat1 e2' => ?_⟩
  have e2 := e1.trans e2'
  have hS2 := hS1.ev e2'
  refine asg_run (S := S) (d := .list crewOdds) (.lst hS2 (.cons .non (.cons .int (.cons (.tup hS2 .nil) (.cons (.tup hS2 (.cons .str (.cons .bl (.cons (.lst hS2 .nil) .nil)))) (.cons (.lst hS2 (.cons .str (.cons .bl (.cons (.lst hS2 .nil) (.cons (.lst hS2 .nil) .nil))))) (.cons (.tup hS2 (.cons .str (.cons .bl (.cons (.lst hS2 .nil) (.cons (.lst hS2 .nil) (.cons .int .nil)))))) (.cons (.tup hS2 (.cons .str (.cons .bl (.cons (.lst hS2 .nil) (.cons (.lst hS2 .nil) .nil))))) .nil)))))))) fun vO H3 s3 r3 => ?_
  obtain ⟨lO, yO, rfl, nO, hlO, hyO⟩ := r3
  have hyOl : yO.length = 7 := hyO.length
  have e3 := e2.same s3
  have hOp : lO ≠ p := fun z => nO (by rw [z]; exact hSp)
  have ha3 := e3.kp _ _ ha hap
  have hxs3 := hxs.mono (e3.kpS hSp)
  have hS3 := hS.ev e3
  have hrst3 := hrst.mono (e3.kpS hSp)
  refine ⟨_, rfl, rfl, _, rfl, ?_⟩
  refine (fun br => ite2 (fun _ => iteT br) (fun _ => ⟨_, rfl, _, rfl, a, xs, rfl, .inl (SqL.of ha3), rfl, _, rfl, ite2 (fun _ => iteT br) (fun hne => ?main)⟩)) ?brG
  case main =>
    have hlt : at' < (xs.length : Nat) := by
      have h1 : ¬ at' = (xs.length : Nat) := fun z => hne (decide_eq_true (by rw [z]))
      omega
    obtain ⟨vA, dA, hvA, hdA, hrA⟩ := at_dataX hxs3 hat0 hlt
    refine ⟨_, rfl, _, rfl, a, _, at', _, rfl, rfl, SqL.of ha3, hvA, isiT (hrA.rp hSp) ⟨_, rfl, ?_⟩⟩
    cases dA with
    | tuple es =>
      refine iteF ?_
      have hrA0 := hrA
      obtain ⟨b, ys, rfl, nb, hb, hys⟩ := hrA
      have hyl : ys.length = es.length := hys.length
      have hmA := List.mem_of_getElem? hdA
      have hit := hok.item hmA
      refine ⟨_, rfl, _, rfl, a, _, at', _, rfl, rfl, SqL.of ha3, hvA, b, ys, rfl, .inr (SqT.of hb), rfl, _, rfl, ?_⟩
      by_cases h4 : ys.length = 4
      · rw [h4]
        refine iteF ?_
        have hes : es.length = 4 := by omega
        have hx' : Ok L (D - 1) (K12.wt (.tuple es)) (.tuple es) := ⟨hit.1, by omega, Nat.le_refl _⟩
        have fin : ∀ (j : Nat) (d : PyData) (v : V) (G : Hp), Ok (L + 30) (D - 2) (W + 1000) d → RpS S G (.list ((ds.take at'.toNat ++ [.tuple (es.set j d)]) ++ ds.drop (at'.toNat + 1))) v → Ev p H3 G → Q v G := fun j d v G hd hrd eG => by
          have hn := hx'.tset hd j (L2 := L + 30) (D2 := D - 1) (W2 := K12.wt (.tuple es) + (W + 1002)) (by omega) (Nat.le_refl _) (Nat.le_refl _) (by omega) (by omega)
          exact k _ _ _ (hok.repl hdA hn.fit (by have := hn.dep; omega) hn.wt (by omega) (Nat.le_refl _) (by omega)) hrd (e3.trans eG)
        refine ⟨_, rfl, rfl, _, rfl, ?_⟩
        refine ite2 (fun _ => ?_) (fun _ => ?_)
        · refine ⟨_, rfl, a, rfl, ⟨xs, SqL.of ha3⟩, fun D2 hD2 => lc_filt (walk_list (xs := xs)) (fun v => ∃ d, RpS S H3 d v ∧ Ok L (D - 1 - 1) W d) hD2 (Nat.lt_of_le_of_lt (show _ ≤ 400 by omega) (by decide)) (fun G e => SqL.of (e _ _ ha3)) ?_ ?_⟩
          · rintro i y J1 J2 C N hi s2 ⟨rfl, hy⟩ hC hN
            obtain ⟨dI, hdi, hri⟩ := hxs3.getV hy
            exact ⟨rfl, names_step rfl hri s2 hSp (by decide) (by decide) (fun v d es' hrd e hd => hC v _ (Same.refl _) ⟨d, hrd, (e ▸ hok.item' (List.mem_of_getElem? hdi) : Ok L (D - 1) W (.tuple es')).titem hd⟩) (hN _ (Same.refl _))⟩
          · intro G acc sG hacc hal hR
            obtain ⟨nds, hnds, hndl, hnok⟩ := RpSA.of (P := Ok L (D - 1 - 1) W) hR
            have hD2p : D2 ≠ p := e3.pot.held.ne hD2
            have eG := Ev.of e3.pot sG
            refine ⟨_, rfl, p, S, rfl, eG.pot, hSp, hS3.same sG, fun d1 u1 G1 hok1 hr1 e5 => ⟨by show 1 ≤ sizeLine; decide, fun l hl => ?_⟩⟩
            have sl := Same.new (o := .lst [u1]) hl
            have hacc1 := e5.kp _ _ hacc hD2p
            refine ⟨D2, l, acc, [u1], rfl, rfl, sl _ _ hacc1, upd_same, Nat.le_trans (show acc.length + 1 ≤ 600 by omega) (by decide), fun q hq => ?_⟩
            have sq := Same.new (o := .lst (acc ++ [u1])) hq
            have e6 := ((eG.trans e5).same sl).same sq
            have hqp : q ≠ p := ((eG.trans e5).same sl).pot.held.ne hq
            have hqq : upd (upd G1 l (.lst [u1])) q (.lst (acc ++ [u1])) q = some (.lst (acc ++ [u1])) := upd_same
            have hnds6 : RpSA S (upd (upd G1 l (.lst [u1])) q (.lst (acc ++ [u1]))) (nds ++ [d1]) (acc ++ [u1]) := (hnds.mono (e6.kpS hSp)).app (.cons (hr1.mono (Same.kpS (sl.trans sq))) .nil)
            have hnok6 : ∀ d ∈ nds ++ [d1], Ok (L + 30) (D - 2) (W + 1000) d := fun d hd => by
              rcases List.mem_append.mp hd with hd | hd
              · exact (hnok d hd).mono (by omega) (by omega) (by omega)
              · rw [List.mem_singleton.mp hd]; exact hok1.mono (by omega) (by omega) (by omega)
            have hnl : 1 ≤ (acc ++ [u1]).length ∧ (acc ++ [u1]).length ≤ 600 := by rw [List.length_append]; show 1 ≤ _ + 1 ∧ _ + 1 ≤ 600; omega
            revert e6 hqq hnds6 hnok6 hnl
            generalize upd (upd G1 l (.lst [u1])) q (.lst (acc ++ [u1])) = H6
            generalize acc ++ [u1] = nxs
            generalize nds ++ [d1] = nds6
            intro e6 hqq hnds6 hnok6 hnl
            have hrst6 := hrst3.mono (e6.kpS hSp)
            have ha6 := e6.kp _ _ ha3 hap
            have hxs6 := hxs3.mono (e6.kpS hSp)
            have hS6 := hS3.ev e6
            refine ⟨_, rfl, isiL (hrst6.rp hSp) ⟨_, rfl, ?_⟩⟩
            cases dst with
            | list dss =>
              refine iteT ?_
              obtain ⟨b2, xs2, rfl, nb2, hb2, hxs2⟩ := hrst6
              have hsl : dss.length ≤ L := hoks.fit.1
              have hx2l : xs2.length = dss.length := hxs2.length
              refine ⟨_, rfl, _, rfl, b2, rfl, ⟨xs2, SqL.of hb2⟩, fun D3 hD3 => lc_filt (walk_list (xs := xs2)) (fun v => ∃ d, RpS S H6 d v ∧ Ok L (D - 1 - 1) W d) hD3 (Nat.lt_of_le_of_lt (show _ ≤ 400 by omega) (by decide)) (fun G e => SqL.of (e _ _ hb2)) ?_ ?_⟩
              · rintro i y J1 J2 C N hi s2 ⟨rfl, hy⟩ hC hN
                obtain ⟨dI, hdi, hri⟩ := hxs2.getV hy
                exact ⟨rfl, names_step rfl hri s2 hSp (by decide) (by decide) (fun v d es' hrd e hd => hC v _ (Same.refl _) ⟨d, hrd, (e ▸ hoks.item' (List.mem_of_getElem? hdi) : Ok L (D - 1) W (.tuple es')).titem hd⟩) (hN _ (Same.refl _))⟩
              · intro G2 acc2 sG2 hacc2 hal2 hR2
                obtain ⟨nds2, hnds2, hndl2, hnok2⟩ := RpSA.of (P := Ok L (D - 1 - 1) W) hR2
                refine ⟨q, D3, nxs, acc2, rfl, rfl, sG2 _ _ hqq, hacc2, Nat.le_trans (show nxs.length + acc2.length ≤ 1100 by omega) (by decide), fun q2 hq2 => ?_⟩
                have sq2 := Same.new (o := .lst (nxs ++ acc2)) hq2
                have s7 := sG2.trans sq2
                have e7 := e6.same s7
                have hq2p : q2 ≠ p := (e6.same sG2).pot.held.ne hq2
                refine row_run (S := S) (p := p) (xs := xs) (ds := ds) (es := es) (at' := at') (jj := 0) (fun d => Ok (L + 30) (D - 2) (W + 1000) d) rfl rfl hSp (hS6.same s7) e7.pot (s7 _ _ ha6) hap (hxs6.mono (Same.kpS s7)) hat0 (by omega) hvA (hrA0.mono (e7.kpS hSp)) hes (by decide) (by decide) (fun G C h => h) (fun G C eG hC => ?_) (fun d v G hd hrd eG => fin 0 d v G hd hrd (e7.trans eG))
                refine names_fin (S := S) (nds := nds6 ++ nds2) rfl rfl hSp eG.pot (eG.kp _ _ upd_same hq2p) hq2p ((((hnds6.mono (Same.kpS s7)).app ((hnds2.mono (Same.kpS s7))))).mono (eG.kpS hSp)) (by rw [List.length_append]; omega) (by rw [List.length_append]; omega) (fun d v G' e hr hd => hC d v G' e hr ?_)
                rcases List.mem_append.mp hd with hd | hd
                · exact hnok6 d hd
                · exact (hnok2 d hd).mono (by omega) (by omega) (by omega)
            | _ =>
              refine iteF ?_
              exact row_run (S := S) (p := p) (xs := xs) (ds := ds) (es := es) (at' := at') (jj := 0) (fun d => Ok (L + 30) (D - 2) (W + 1000) d) rfl rfl hSp hS6 e6.pot ha6 hap hxs6 hat0 (by omega) hvA (hrA0.mono (e6.kpS hSp)) hes (by decide) (by decide) (fun G C h => h) (fun G C eG hC => names_fin (S := S) rfl rfl hSp eG.pot (eG.kp _ _ hqq hqp) hqp (hnds6.mono (eG.kpS hSp)) (by omega) (by omega) (fun d v G' e hr hd => hC d v G' e hr (hnok6 d hd))) (fun d v G hd hrd eG => fin 0 d v G hd hrd (e6.trans eG))
        refine ⟨_, rfl, rfl, _, rfl, ?_⟩
        refine ite2 (fun _ => ?_) (fun _ => ?_)
        · exact row_run (S := S) (p := p) (xs := xs) (ds := ds) (es := es) (at' := at') (jj := 1) (fun d => Ok 12 1 1000 d) rfl rfl hSp hS3 e3.pot ha3 hap hxs3 hat0 (by omega) hvA hrA0 hes (by decide) (by decide) (fun G C h => h) (fun G C eG hC => ⟨_, rfl, p, S, rfl, eG.pot, hSp, hS3.ev eG, fun d u G' hok1 hr1 e => hC d u G' e hr1 hok1⟩) (fun d v G hd hrd eG => fin 1 d v G (hd.mono (by omega) (by omega) (by omega)) hrd eG)
        · have hjj : ∃ jj : Int, atI [V.int 2, V.int 3] (way % 2) = some (.int jj) ∧ 0 ≤ jj ∧ jj < 4 := by
            have : way % 2 = 0 ∨ way % 2 = 1 := by omega
            rcases this with h | h
            · rw [h]; exact ⟨2, rfl, by decide, by decide⟩
            · rw [h]; exact ⟨3, rfl, by decide, by decide⟩
          obtain ⟨jj, hjat, hj0, hj4⟩ := hjj
          refine ⟨by show 2 ≤ sizeLine; decide, fun m hm => ⟨_, rfl, _, _, rfl, rfl, (by show (0 : Int) < 2; decide), m, _, way % 2, _, rfl, rfl, SqL.of upd_same, hjat, ?_⟩⟩
          have sm := Same.new (o := .lst [.int 2, .int 3]) hm
          have em := Ev.of e3.pot sm
          obtain ⟨vd, dd, hvd, hdd, hrd⟩ := at_dataX hys hj0 (by omega)
          have hokd : Ok L (D - 2) (K12.wt dd) dd := by
            have h1 := (hok.item' hmA).titem (List.mem_of_getElem? hdd)
            exact ⟨h1.fit, by have := h1.dep; omega, Nat.le_refl _⟩
          have hbp : b ≠ p := fun z => nb (by rw [z]; exact hSp)
          refine row_run (S := S) (p := p) (xs := xs) (ds := ds) (es := es) (at' := at') (jj := jj) (fun d => Ok (L + 30) (D - 2) (K12.wt dd + 20000) d) rfl rfl hSp (hS3.same sm) em.pot (sm _ _ ha3) hap (hxs3.mono (Same.kpS sm)) hat0 (by omega) hvA (hrA0.mono (Same.kpS sm)) hes hj0 hj4 (fun G C h => ⟨_, rfl, h⟩) (fun G C eG hC => ?_) (fun d v G hd hrd eG => ?_)
          · have e4 := em.trans eG
            exact ⟨_, rfl, _, rfl, _, rfl, a, _, at', _, rfl, rfl, SqL.of (e4.kp _ _ ha3 hap), hvA, _, rfl, b, ys, jj, vd, rfl, rfl, SqT.of (e4.kp _ _ hb hbp), hvd, p, vd, S, dd, L, D - 2, K12.wt dd, rfl, e4.pot, hSp, hS3.ev e4, hrd.mono (e4.kpS hSp), hokd, hL1, hL2, by omega, fun d v G' hok' hr' e' => hC d v G' e' hr' hok'⟩
          · have hn := hx'.tset hd jj.toNat (L2 := L + 30) (D2 := D - 1) (W2 := K12.wt (.tuple es) + (K12.wt dd + 20000 + 2)) (by omega) (Nat.le_refl _) (Nat.le_refl _) (by omega) (by omega)
            have hw1 := wtA_setx (d := d) hdd
            have hw2 := hd.wt
            have hw3 : K12.wt (.tuple (es.set jj.toNat d)) ≤ K12.wt (.tuple es) + 20000 := by
              show wtA (es.set jj.toNat d) + 4 ≤ wtA es + 4 + 20000
              omega
            exact k _ _ _ (hok.repl hdA hn.fit (by have := hn.dep; omega) hw3 (by omega) (Nat.le_refl _) (by omega)) hrd (e3.trans (em.trans eG))
      · have e4 : ¬ (V.int (ys.length : Nat) = V.int 4) := by
          intro z; injection z with z; omega
        rw [decide_eq_false e4]
        exact iteT br
    | _ => exact iteT (iteT br)
  case brG =>
    refine spl_run (S := S) (p := p) (xs := xs) (ds := ds) (at' := at') (fun e => Ok 12 2 2000 e) (fun b => at' ≤ b) rfl rfl hSp hS3 e3.pot ha3 hap hxs3 hat0 (by omega) ?_ ?_ ?_
    · intro G C eG hC
      refine ⟨_, rfl, _, rfl, _, rfl, lO, _, rfl, .inl (SqL.of (eG.kp _ _ hlO hOp)), p, _, rfl, eG.pot, by rw [hyOl]; decide, by rw [hyOl]; decide, fun r G1 h0 h1 e1 => ?_⟩
      obtain ⟨v, d, hat, hd, hrd⟩ := at_data (hyO.mono ((eG.trans e1).kpS hSp)) h0 h1
      exact ⟨lO, _, r, _, rfl, rfl, SqL.of ((eG.trans e1).kp _ _ hlO hOp), hat, hC d v G1 e1 hrd (okB_ok (List.all_eq_true.mp crewOdds_ok d hd))⟩
    · intro G C eG hC
      exact ⟨_, rfl, _, rfl, p, 2, rfl, eG.pot, by decide, by decide, fun r G1 h0 h1 e1 => ⟨_, _, rfl, rfl, hC _ G1 e1 (by omega) (by omega)⟩⟩
    · rintro e b v G hoe hb hrd eG
      exact k _ _ _ (hok.insx hoe (by omega) (by omega) (by omega) (Nat.le_refl _) (by omega) (by omega)) hrd (e3.trans eG)
end
end K12
namespace K12
open PySem PySem.Spec PyProof.Rows L2
theorem b_isinstance : bootBuiltins "isinstance" = some (.builtin "isinstance") := by decide +kernel
theorem b_LookupError : bootBuiltins "LookupError" = some (.type "LookupError") := by decide +kernel
theorem b_RuntimeError : bootBuiltins "RuntimeError" = some (.type "RuntimeError") := by decide +kernel
theorem b_ArithmeticError : bootBuiltins "ArithmeticError" = some (.type "ArithmeticError") := by decide +kernel
theorem b_ValueError : bootBuiltins "ValueError" = some (.type "ValueError") := by decide +kernel
def bmVE : List Value := [.type "ValueError", .type "Exception", .type "BaseException", .type "object"]
/-- what the law's own looks ask of the classes -/
structure Tz (w : World) (K : PySem.W.Frag) (mg : Str → Option Value) : Prop where
  m_NoRow : mg "NoRow" = some (.ref (He.ga K "NoRow"))
  m_NoWeaver : mg "NoWeaver" = some (.ref (He.ga K "NoWeaver"))
  m_NoBack : mg "NoBack" = some (.ref (He.ga K "NoBack"))
  x_NoRow : PySem.W.excIn K (He.ga K "NoRow") bmVE "ValueError.__new__" = true
  x_NoWeaver : PySem.W.excIn K (He.ga K "NoWeaver") bmVE "ValueError.__new__" = true
  x_NoBack : PySem.W.excIn K (He.ga K "NoBack") bmVE "ValueError.__new__" = true
  p_NoRow : PySem.W.keepIn K (.ref (He.ga K "NoRow")) = true
  p_NoWeaver : PySem.W.keepIn K (.ref (He.ga K "NoWeaver")) = true
  p_NoBack : PySem.W.keepIn K (.ref (He.ga K "NoBack")) = true
  i_NoRow : IxK K (He.ga K "NoRow")
  i_NoWeaver : IxK K (He.ga K "NoWeaver")
  i_NoBack : IxK K (He.ga K "NoBack")
  e_NP : PySem.W.exmOne K (.ref (He.ga K "NoProgram")) (.ref (He.ga K "NoProgram")) = some true
  k_NP1 : PySem.W.kitOne K (.ref (He.ga K "NoProgram")) (.ref (He.ga K "WeaveError")) = some true
  k_NP2 : PySem.W.kitOne K (.ref (He.ga K "NoProgram")) (.type "ValueError") = some true
  k_NP3 : PySem.W.kitAny K (.ref (He.ga K "NoProgram")) [.ref (He.ga K "NoText"), .ref (He.ga K "NoRow"), .ref (He.ga K "NoWeaver"), .ref (He.ga K "NoBack"), .type "LookupError", .type "RuntimeError", .type "ArithmeticError"] = some false
  k_NoRow : PySem.W.kitOne K (.ref (He.ga K "NoRow")) (.ref (He.ga K "WeaveError")) = some true
  k_NoWeaver : PySem.W.kitOne K (.ref (He.ga K "NoWeaver")) (.ref (He.ga K "WeaveError")) = some true
  k_NoBack : PySem.W.kitOne K (.ref (He.ga K "NoBack")) (.ref (He.ga K "WeaveError")) = some true
  k_NoText : PySem.W.kitOne K (.ref (He.ga K "NoText")) (.type "ValueError") = some true
  k_NoSuch : PySem.W.kitOne K (.ref (He.ga K "NoSuch")) (.type "LookupError") = some true
  k_CantGo : PySem.W.kitOne K (.ref (He.ga K "CantGo")) (.type "RuntimeError") = some true
  k_TooMany : PySem.W.kitOne K (.ref (He.ga K "TooMany")) (.type "ArithmeticError") = some true
  n_NoSuch : PySem.W.kitOne K (.ref (He.ga K "NoSuch")) (.ref (He.ga K "WeaveError")) = some false
  n_CantGo : PySem.W.kitOne K (.ref (He.ga K "CantGo")) (.ref (He.ga K "WeaveError")) = some false
  n_TooMany : PySem.W.kitOne K (.ref (He.ga K "TooMany")) (.ref (He.ga K "WeaveError")) = some false
def rIsX (K : PySem.W.Frag) (cls : Value) (a : Addr) (d : Option Addr) : List V → Hp → VK → Prop := fun xs H Q => ∃ C, cls = .ref C ∧ IxK K C ∧ rIsS K C a d xs H Q
def rIsXT (K : PySem.W.Frag) (cls : Value) (a : Addr) (d : Option Addr) : List V → Hp → VK → Prop := fun xs H Q => ∃ C, cls = .ref C ∧ IxK K C ∧ rIsST K C a d xs H Q
theorem call_isX {X : Cx} {a : Addr} {cls : Value} {oe : Obj} {d : Option Addr} {pn : List (Addr × Obj)} (hz : Zc cls d oe) (hf : ∃ vs, oe.data = .fields vs) : CallR (X.suite a ((a, oe) :: pn)) (.builtin "isinstance") (rIsX X.K cls a d) := by
  intro pins s σ H xs us Q I r h
  obtain ⟨C, rfl, T, h⟩ := h
  exact call_isS T hz hf pins s σ H xs us Q I r h
theorem call_isXT {X : Cx} {a : Addr} {cls : Value} {oe : Obj} {d : Option Addr} {pn : List (Addr × Obj)} (hz : Zc cls d oe) (hf : ∃ vs, oe.data = .fields vs) : CallR (X.suite a ((a, oe) :: pn)) (.builtin "isinstance") (rIsXT X.K cls a d) := by
  intro pins s σ H xs us Q I r h
  obtain ⟨C, rfl, T, h⟩ := h
  exact call_isST T hz hf pins s σ H xs us Q I r h
section
variable {P : Program} {w : World} {K : PySem.W.Frag} {mg : Str → Option Value} {base : Heap}
abbrev N__law_answer : List Str := ["_law_stuff_here", "_law_crew", "_law_told", "e", "_law_is_other"]
theorem sc__law_answer : FnScope N__law_answer ["_law_stuff_here", "_law_crew"] (defScope (top 81)) := sc_of (by decide +kernel)
theorem ok__law_answer (T : Tx w K mg) (U : Ty w K mg) (Z : Tz w K mg) (k : Nat) (M : MakeC P w K mg base (L2.CX P w) k "Program" (He.ga K "Program") (spProg K (He.ga K "Program"))) : Cl P w K mg base CX0 (k + 2) "_law_answer" spLDue := by
  obtain ⟨fM, fdM, psM, hMk, FM, hbM, hmM⟩ := M.ex
  refine T.d__law_answer.cl sc__law_answer (fun _ _ _ _ _ _ us hl => match us, hl with | [_, _], _ => rfl) (fun vs H Q E h => ?_) fun f cdv A outer s H vs Q E hr h => ?_
  · obtain ⟨_, _, _, _, _, rfl, _⟩ := h; rfl
  have hu := hu_of hr
  obtain ⟨p, d1, d2, v1, v2, rfl, hr1, hr2, hf1, hf2, hd1, hd2, hp, kk⟩ := h
  refine ⟨_, pss_cons (ps_set (i := 2) sc__law_answer.nd rfl (Or.inl rfl) pe_non)
    (pss_cons (ps_try_as (i := 3) rfl rfl sc__law_answer.nd rfl rfl ⟨rfl, by decide, .inl U.m_NoProgram⟩ takes0
       (fun W pn xe tk _ => pss_one (ps_expr (pe_makeS hMk FM hr hmM hbM (fun σ => passAt tk σ) (pa_cons (pv 0) (pa_cons (pv 1) pa_nil)))))
       (fun a oe cls d pn hz hf =>
         pss_cons (ps_set (i := 2) sc__law_answer.nd rfl (Or.inl rfl) (pe_lst (pa_cons (pe_xf U.o_NoProgram.xf U.a_NoProgram.1 hz hf (pv 3)) (pa_cons (pe_xf U.o_NoProgram.xf U.a_NoProgram.2 hz hf (pv 3)) pa_nil))))
         (pss_cons (ps_set (i := 4) sc__law_answer.nd rfl (Or.inl rfl) (pe_callB (call_isXT hz hf) rfl T.f_isinstance b_isinstance (pa_cons (pv 3) (pa_cons (pe_tup (pa_cons (pe_gr U.m_NoText) (pa_cons (pe_gr Z.m_NoRow) (pa_cons (pe_gr Z.m_NoWeaver) (pa_cons (pe_gr Z.m_NoBack)
             (pa_cons (pe_bt T.f_LookupError b_LookupError) (pa_cons (pe_bt T.f_RuntimeError b_RuntimeError) (pa_cons (pe_bt T.f_ArithmeticError b_ArithmeticError) pa_nil)))))))) pa_nil))))
         (pss_one (ps_if (PW.pt (pw_or (pt_not (pt_val (pe_callB (call_isX hz hf) rfl T.f_isinstance b_isinstance (pa_cons (pv 3) (pa_cons (pe_gr U.m_WeaveError) pa_nil)))))
             (pw_or (pt_not (pt_val (pe_callB (call_isX hz hf) rfl T.f_isinstance b_isinstance (pa_cons (pv 3) (pa_cons (pe_bt T.f_ValueError b_ValueError) pa_nil))))) (pw_or1 (pt_val (pv 4))))))
           (pss_one (ps_set (i := 2) sc__law_answer.nd rfl (Or.inl rfl) pe_str)) pss_nil)))))
    (pss_one (ps_ret (pv 2)))), ?_⟩
  refine ⟨_, rfl, _, rfl, fun x dx hx hdx ne => ?_⟩
  have hx2 : upd H dx (.own x) x = none := (upd_ne (Ne.symm ne)).trans hx
  have s1 : Same H (upd (upd H dx (.own x)) x (.ins (He.ga K "Program") dx [])) := (Same.new hdx).trans (Same.new hx2)
  refine ⟨p, H, x, dx, d1, d2, v1, v2, rfl, hx, hdx, ne, s1, upd_same, hr1, hr2, hf1, hf2, hd1, hd2, hp, ?_⟩
  cases hdue : due d1 d2 with
  | none =>
    intro H' s'
    exact ⟨rfl, _, rfl, kk H' _ s' (by rw [hdue]; rfl)⟩
  | some q =>
    intro dx' H' fs s' hdx' hw hw2
    refine ⟨true, Z.e_NP, fun _ a ha => ?_, fun z => by cases z⟩
    refine ⟨_, rfl, rfl, rfl, dx', fs, _, rfl, hdx', hw, _, rfl, rfl, rfl, dx', fs, _, rfl, hdx', hw2, by show 2 ≤ sizeLine; decide, fun l hl => ?_⟩
    have sl := Same.new (o := .lst [.str q.1, .str q.2]) hl
    have hd3 := sl _ _ hdx'
    have hl3 : upd H' l (.lst [.str q.1, .str q.2]) l = some (.lst [.str q.1, .str q.2]) := upd_same
    have s3 := s'.trans sl
    revert hd3 hl3 s3
    generalize upd H' l (.lst [.str q.1, .str q.2]) = H3
    intro hd3 hl3 s3
    refine ⟨_, rfl, by show 7 ≤ sizeLine; decide, fun tp htp => ?_⟩
    have st := Same.new (o := .tup [.ref (He.ga K "NoText"), .ref (He.ga K "NoRow"), .ref (He.ga K "NoWeaver"), .ref (He.ga K "NoBack"), .ty "LookupError", .ty "RuntimeError", .ty "ArithmeticError"]) htp
    refine ⟨_, rfl, U.o_NoProgram.ix, tp, _, _, false, rfl, .inr ⟨dx', fs, rfl, st _ _ hd3⟩, upd_same, .cons (.own _) (.cons (.own _) (.cons (.own _) (.cons (.own _) (.cons (.ty _) (.cons (.ty _) (.cons (.ty _) .nil)))))), Z.k_NP3, ?_⟩
    refine ⟨_, rfl, _, rfl, U.o_NoProgram.ix, _, _, true, rfl, .inr ⟨dx', fs, rfl, st _ _ hd3⟩, .own _, Z.k_NP1, _, rfl, iteF ?_⟩
    refine ⟨_, rfl, _, rfl, U.o_NoProgram.ix, _, _, true, rfl, .inr ⟨dx', fs, rfl, st _ _ hd3⟩, .ty _, Z.k_NP2, _, rfl, iteF ?_⟩
    exact ⟨_, rfl, _, rfl, iteF ⟨_, rfl, kk _ _ (s3.trans st) (by rw [hdue]; exact ⟨l, rfl, st _ _ hl3⟩)⟩⟩
end
end K12
namespace K12
open PySem PySem.Spec PyProof.Rows L2
theorem pe_excC {X : Cx} {k j : Nat} {x : Str} {C : Addr} {sp : Sp} {p pos : Pos} {e : Expr} {es : List Expr} {ta : TA} (c : ExcC X.prog X.w X.K X.mg X.base k x C sp) (hr : Room j X.A) (ha : PA X (e :: es) ta) (hk : k + 1 ≤ j := by omega) (hg : Gl X x := by rfl)
    (hdb : (x == ("__debug__" : Str)) = false := by decide) (he : starEach (e :: es) X.env = (false, eval e X.env) :: starEach es X.env := by rfl) (hpl : (backTo pos (starEach es X.env)).any (·.1) = false := by rfl) :
    PE X (.Call (.Name x p) (e :: es) [] pos) (tOxV C sp ta) := by
  obtain ⟨fI, fd, ps, nw, ni, T, iC, tI, F, b, hm⟩ := c.ex
  exact pe_oxV T iC tI F (hr.mono hk) b pass0 hm ha hg hdb he hpl
/-- NoProgram(x, y) as a value -/
theorem np_val {K : PySem.W.Frag} {H1 : Hp} {a : Addr} {Q : Hp → Prop} {E : XK} {x y : Str} (hx : x.length ≤ 1000) (hy : y.length ≤ 1000) (ha : H1 a = none)
    (k : ∀ dx H', Same H1 H' → H' a = some (exo a (He.ga K "NoProgram") (some dx)) → H' dx = some (exd dx [("who", .str y), ("what", .str x)]) → Q H') :
    spNP K [.ref a, .str x, .str y] (upd H1 a (exo a (He.ga K "NoProgram") none)) (fun v H2 => v = .non ∧ Q H2) E := by
  refine ⟨a, x, y, rfl, hx, hy, upd_same, fun dx hdx ne => ⟨rfl, k dx _ ?_ ?_ upd_same⟩⟩
  · rw [upd_ne ne] at hdx
    intro b o hb
    have h1 : b ≠ dx := ne_of_none hb hdx
    have h2 : b ≠ a := ne_of_none hb ha
    rw [upd_ne h1, upd_ne h2, upd_ne h1, upd_ne h2]; exact hb
  · rw [upd_ne (Ne.symm ne), upd_same]
/-- .. of one field -/
theorem one_val {H1 : Hp} {C a : Addr} {f : Str} {ok : V → Prop} {Q : Hp → Prop} {E : XK} {y : V} (hy : ok y) (ha : H1 a = none)
    (k : ∀ dx H', Same H1 H' → H' a = some (exo a C (some dx)) → H' dx = some (exd dx [(f, y)]) → Q H') :
    spOne C f ok [.ref a, y] (upd H1 a (exo a C none)) (fun v H2 => v = .non ∧ Q H2) E := by
  refine ⟨a, y, rfl, hy, upd_same, fun dx hdx ne => ⟨rfl, k dx _ ?_ upd_same ?_⟩⟩
  · rw [upd_ne ne] at hdx
    intro b o hb
    have h1 : b ≠ dx := ne_of_none hb hdx
    have h2 : b ≠ a := ne_of_none hb ha
    rw [upd_ne h2, upd_ne h1, upd_ne h2]; exact hb
  · rw [upd_ne ne, upd_same]
def spTrue : Sp := fun vs H Q _ => vs = [] ∧ ∀ H', Same H H' → Q (.bl true) H'
section
variable {P : Program} {w : World} {K : PySem.W.Frag} {mg : Str → Option Value} {base : Heap}
abbrev N__law_errors_right : List Str := ["_law_one", "_law_other", "_law_found", "_law_kinds"]
theorem sc__law_errors_right : FnScope N__law_errors_right [] (defScope (top 82)) := sc_of (by decide +kernel)
theorem ok__law_errors_right (T : Tx w K mg) (U : Ty w K mg) (Z : Tz w K mg) : Cl P w K mg base CX0 4 "_law_errors_right" spTrue := by
  refine T.d__law_errors_right.cl sc__law_errors_right (fun _ _ _ _ _ _ us hl => match us, hl with | [], _ => rfl) (fun vs H Q E h => ?_) fun f cdv A outer s H vs Q E hr h => ?_
  · obtain ⟨rfl, _⟩ := h; rfl
  have hu := hu_of hr
  have hu64 := hr.units
  obtain ⟨rfl, kk⟩ := h
  refine ⟨_, PSs.nox ((pss_cons (ps_par (i := 0) (j := 1) rfl sc__law_errors_right.nd rfl rfl (by decide) rfl rfl (pa_cons (pe_excC (exc_NoProgram U) hr (pa_cons pe_str (pa_cons pe_str pa_nil))) (pa_cons (pe_excC (exc_NoText U) hr (pa_cons pe_int pa_nil)) pa_nil)) rfl)
      (pss_cons (ps_set (i := 2) sc__law_errors_right.nd rfl (Or.inl rfl) (pe_lst (pa_cons (pe_oxF (pv 0)) (pa_cons (pe_oxF (pv 0)) (pa_cons (pe_oxF (pv 1)) (pa_cons (pe_oxF (pe_excC (exc_NoSuch U) hr (pa_cons (pe_lst (pa_cons pe_int pa_nil)) pa_nil))) (pa_cons (pe_oxF (pe_excC (exc_CantGo U) hr (pa_cons pe_str pa_nil))) (pa_cons (pe_oxF (pe_excC (exc_TooMany U) hr (pa_cons pe_int pa_nil))) pa_nil))))))))
      (pss_cons (ps_set (i := 3) sc__law_errors_right.nd rfl (Or.inl rfl) (pe_lst (pa_cons (pe_callB call_isO rfl T.f_isinstance b_isinstance (pa_cons (pe_exc1 PySem.F.excBase_ValueError Z.x_NoRow Z.m_NoRow Z.p_NoRow rfl pe_str) (pa_cons (pe_gr U.m_WeaveError) pa_nil))) (pa_cons (pe_callB call_isO rfl T.f_isinstance b_isinstance (pa_cons (pe_exc1 PySem.F.excBase_ValueError Z.x_NoWeaver Z.m_NoWeaver Z.p_NoWeaver rfl pe_str) (pa_cons (pe_gr U.m_WeaveError) pa_nil))) pa_nil))))
      (pss_cons (ps_set (i := 3) sc__law_errors_right.nd rfl (Or.inl rfl) (pe_op op_cat (pv 3) (pe_lst (pa_cons (pe_callB call_isO rfl T.f_isinstance b_isinstance (pa_cons (pe_exc1 PySem.F.excBase_ValueError Z.x_NoBack Z.m_NoBack Z.p_NoBack rfl pe_str) (pa_cons (pe_gr U.m_WeaveError) pa_nil))) (pa_cons (pe_callB call_isO rfl T.f_isinstance b_isinstance (pa_cons (pv 1) (pa_cons (pe_bt T.f_ValueError b_ValueError) pa_nil))) pa_nil)))))
      (pss_cons (ps_set (i := 3) sc__law_errors_right.nd rfl (Or.inl rfl) (pe_op op_cat (pv 3) (pe_lst (pa_cons (pe_callB call_isO rfl T.f_isinstance b_isinstance (pa_cons (pe_excC (exc_NoSuch U) hr (pa_cons pe_int pa_nil)) (pa_cons (pe_bt T.f_LookupError b_LookupError) pa_nil))) (pa_cons (pe_callB call_isO rfl T.f_isinstance b_isinstance (pa_cons (pe_excC (exc_CantGo U) hr (pa_cons pe_int pa_nil)) (pa_cons (pe_bt T.f_RuntimeError b_RuntimeError) pa_nil))) pa_nil)))))
      (pss_cons (ps_set (i := 3) sc__law_errors_right.nd rfl (Or.inl rfl) (pe_op op_cat (pv 3) (pe_lst (pa_cons (pe_callB call_isO rfl T.f_isinstance b_isinstance (pa_cons (pe_excC (exc_TooMany U) hr (pa_cons pe_int pa_nil)) (pa_cons (pe_bt T.f_ArithmeticError b_ArithmeticError) pa_nil))) (pa_cons (pe_not (pe_callB call_isO rfl T.f_isinstance b_isinstance (pa_cons (pe_excC (exc_NoSuch U) hr (pa_cons pe_int pa_nil)) (pa_cons (pe_gr U.m_WeaveError) pa_nil)))) pa_nil)))))
      (pss_cons (ps_set (i := 3) sc__law_errors_right.nd rfl (Or.inl rfl) (pe_op op_cat (pv 3) (pe_lst (pa_cons (pe_not (pe_callB call_isO rfl T.f_isinstance b_isinstance (pa_cons (pe_excC (exc_CantGo U) hr (pa_cons pe_int pa_nil)) (pa_cons (pe_gr U.m_WeaveError) pa_nil)))) (pa_cons (pe_not (pe_callB call_isO rfl T.f_isinstance b_isinstance (pa_cons (pe_excC (exc_TooMany U) hr (pa_cons pe_int pa_nil)) (pa_cons (pe_gr U.m_WeaveError) pa_nil)))) pa_nil)))))
      (pss_one (ps_ret (pe_and (pe_cmpR (op_eqD hu64) (pv 2) (pe_lst (pa_cons pe_str (pa_cons pe_str (pa_cons pe_int (pa_cons (pe_lst (pa_cons pe_int pa_nil)) (pa_cons pe_str (pa_cons pe_int pa_nil))))))) (nomark _)) (pe_one (pe_callB (cr_all rfl) rfl T.f_all b_all (pa_cons (pv 3) pa_nil)))))))))))))), ?_⟩
  refine ⟨by show 2 ≤ 1000; decide, fun a1 na1 => np_val (x := "body") (y := "a") (by decide) (by decide) na1 fun d1 H1 s1 ha1 hd1 => ?_⟩
  refine ⟨by show 1 ≤ 1000; decide, fun a2 na2 => one_val (y := .int 3) (.inr ⟨3, rfl, by decide⟩) na2 fun d2 H2 s2 ha2 hd2 => ⟨_, _, rfl, ?_⟩⟩
  refine ⟨_, rfl, a1, _, d1, _, _, _, _, rfl, U.o_NoProgram, U.a_NoProgram.1, s2 _ _ ha1, s2 _ _ hd1, rfl, ?_⟩
  refine ⟨_, rfl, a1, _, d1, _, _, _, _, rfl, U.o_NoProgram, U.a_NoProgram.2, s2 _ _ ha1, s2 _ _ hd1, rfl, ?_⟩
  refine ⟨_, rfl, a2, _, d2, _, _, _, _, rfl, U.o_NoText, U.a_NoText, ha2, hd2, rfl, ?_⟩
  refine ⟨by show 1 ≤ sizeLine; decide, fun l1 hl1 => ?_⟩
  have sl := Same.new (o := .lst [.int 5]) hl1
  refine ⟨by show 1 ≤ 1000; decide, fun a3 na3 => one_val (y := .ref l1) trivial na3 fun d3 H3 s3 ha3 hd3 => ⟨a3, _, d3, _, _, _, _, rfl, U.o_NoSuch, U.a_NoSuch, ha3, hd3, rfl, ?_⟩⟩
  refine ⟨by show 1 ≤ 1000; decide, fun a4 na4 => one_val (y := .str "tick") (.inl ⟨"tick", rfl, by decide⟩) na4 fun d4 H4 s4 ha4 hd4 => ⟨a4, _, d4, _, _, _, _, rfl, U.o_CantGo, U.a_CantGo, ha4, hd4, rfl, ?_⟩⟩
  refine ⟨by show 1 ≤ 1000; decide, fun a5 na5 => one_val (y := .int 7) (.inr ⟨7, rfl, by decide⟩) na5 fun d5 H5 s5 ha5 hd5 => ⟨a5, _, d5, _, _, _, _, rfl, U.o_TooMany, U.a_TooMany, ha5, hd5, rfl, ?_⟩⟩
  refine ⟨by show 6 ≤ sizeLine; decide, fun F hF => ?_⟩
  have sF := Same.new (o := .lst [.str "body", .str "a", .int 3, .ref l1, .str "tick", .int 7]) hF
  have t5 := ((s3.trans s4).trans s5).trans sF
  have t6 := sl.trans t5
  have gl1 := t5 _ _ (upd_same (H := H2) (a := l1) (o := .lst [.int 5]))
  have ga2 := t6 _ _ ha2
  have gd2 := t6 _ _ hd2
  have gF : upd H5 F (.lst [.str "body", .str "a", .int 3, .ref l1, .str "tick", .int 7]) F = some (.lst [.str "body", .str "a", .int 3, .ref l1, .str "tick", .int 7]) := upd_same
  have t0 := (s1.trans s2).trans t6
  clear ha3 hd3 ha4 hd4 ha5 hd5 s3 s4 s5 sF t5 t6
  revert gl1 ga2 gd2 gF t0
  generalize upd H5 F (.lst [.str "body", .str "a", .int 3, .ref l1, .str "tick", .int 7]) = G0
  intro gl1 ga2 gd2 gF t0
  -- the first two
  refine fun b1 hb1 => ⟨b1, _, _, _, true, rfl, .inr (.inr upd_same), Z.i_NoRow, .own _, Z.k_NoRow, fun b2 hb2 => ⟨b2, _, _, _, true, rfl, .inr (.inr upd_same), Z.i_NoWeaver, .own _, Z.k_NoWeaver, by show 2 ≤ sizeLine; decide, fun k1 hk1 => ?_⟩⟩
  have q1 := ((Same.new (o := ExO (.ref (He.ga K "NoRow")) b1) hb1).trans (Same.new (o := ExO (.ref (He.ga K "NoWeaver")) b2) hb2)).trans (Same.new (o := .lst [.bl true, .bl true]) hk1)
  have gk1 := upd_same (H := upd (upd G0 b1 (ExO (.ref (He.ga K "NoRow")) b1)) b2 (ExO (.ref (He.ga K "NoWeaver")) b2)) (a := k1) (o := .lst [.bl true, .bl true])
  revert q1 gk1
  generalize upd (upd (upd G0 b1 (ExO (.ref (He.ga K "NoRow")) b1)) b2 (ExO (.ref (He.ga K "NoWeaver")) b2)) k1 (.lst [.bl true, .bl true]) = G1
  intro q1 gk1
  -- NoBack, _law_other
  refine ⟨_, rfl, fun b3 hb3 => ⟨b3, _, _, _, true, rfl, .inr (.inr upd_same), Z.i_NoBack, .own _, Z.k_NoBack, ?_⟩⟩
  have q2 := Same.new (o := ExO (.ref (He.ga K "NoBack")) b3) hb3
  refine ⟨_, rfl, a2, _, _, _, true, rfl, .inr (.inl ⟨d2, _, q2 _ _ (q1 _ _ ga2), q2 _ _ (q1 _ _ gd2)⟩), U.o_NoText.ix, .ty _, Z.k_NoText, by show 2 ≤ sizeLine; decide, fun k2 hk2 => ?_⟩
  have q3 := q2.trans (Same.new (o := .lst [.bl true, .bl true]) hk2)
  refine ⟨k1, k2, _, _, rfl, rfl, q3 _ _ gk1, upd_same, by show 4 ≤ sizeLine; decide, fun k3 hk3 => ?_⟩
  have q4 := (q1.trans q3).trans (Same.new (o := .lst ([.bl true, .bl true] ++ [.bl true, .bl true])) hk3)
  have gk3 := upd_same (H := upd (upd G1 b3 (ExO (.ref (He.ga K "NoBack")) b3)) k2 (.lst [.bl true, .bl true])) (a := k3) (o := .lst ([.bl true, .bl true] ++ [.bl true, .bl true]))
  revert q4 gk3
  generalize upd (upd (upd G1 b3 (ExO (.ref (He.ga K "NoBack")) b3)) k2 (.lst [.bl true, .bl true])) k3 (.lst ([.bl true, .bl true] ++ [.bl true, .bl true])) = G2
  intro q4 gk3
  have next : ∀ {n : Nat}, n ≤ 20 → n ≤ sizeLine := fun h => Nat.le_trans h (by decide)
  have five : Fm (.int 5) := .inr ⟨5, rfl, by decide⟩
  -- NoSuch(5), CantGo(5)
  refine ⟨_, rfl, ⟨by show 1 ≤ 1000; decide, fun a6 na6 => one_val (y := .int 5) trivial na6 fun d6 H6 s6 ha6 hd6 => ⟨a6, _, _, _, true, rfl, .inr (.inl ⟨d6, _, ha6, hd6⟩), U.o_NoSuch.ix, .ty _, Z.k_NoSuch, ?_⟩⟩⟩
  refine ⟨by show 1 ≤ 1000; decide, fun a7 na7 => one_val (y := .int 5) five na7 fun d7 H7 s7 ha7 hd7 => ⟨a7, _, _, _, true, rfl, .inr (.inl ⟨d7, _, ha7, hd7⟩), U.o_CantGo.ix, .ty _, Z.k_CantGo, by show 2 ≤ sizeLine; decide, fun k4 hk4 => ?_⟩⟩
  have q5 := (s6.trans s7).trans (Same.new (o := .lst [.bl true, .bl true]) hk4)
  refine ⟨k3, k4, _, _, rfl, rfl, q5 _ _ gk3, upd_same, by show 6 ≤ sizeLine; decide, fun k5 hk5 => ?_⟩
  have q6 := (q4.trans q5).trans (Same.new (o := .lst (([.bl true, .bl true] ++ [.bl true, .bl true]) ++ [.bl true, .bl true])) hk5)
  have gk5 := upd_same (H := upd H7 k4 (.lst [.bl true, .bl true])) (a := k5) (o := .lst (([.bl true, .bl true] ++ [.bl true, .bl true]) ++ [.bl true, .bl true]))
  revert q6 gk5
  generalize upd (upd H7 k4 (.lst [.bl true, .bl true])) k5 (.lst (([.bl true, .bl true] ++ [.bl true, .bl true]) ++ [.bl true, .bl true])) = G3
  intro q6 gk5
  -- TooMany(5), NoSuch(5)
  refine ⟨_, rfl, ⟨by show 1 ≤ 1000; decide, fun a8 na8 => one_val (y := .int 5) five na8 fun d8 H8 s8 ha8 hd8 => ⟨a8, _, _, _, true, rfl, .inr (.inl ⟨d8, _, ha8, hd8⟩), U.o_TooMany.ix, .ty _, Z.k_TooMany, ?_⟩⟩⟩
  refine ⟨by show 1 ≤ 1000; decide, fun a9 na9 => one_val (y := .int 5) trivial na9 fun d9 H9 s9 ha9 hd9 => ⟨a9, _, _, _, false, rfl, .inr (.inl ⟨d9, _, ha9, hd9⟩), U.o_NoSuch.ix, .own _, Z.n_NoSuch, _, rfl, by show 2 ≤ sizeLine; decide, fun k6 hk6 => ?_⟩⟩
  have q7 := (s8.trans s9).trans (Same.new (o := .lst [.bl true, .bl (!false)]) hk6)
  refine ⟨k5, k6, _, _, rfl, rfl, q7 _ _ gk5, upd_same, by show 8 ≤ sizeLine; decide, fun k7 hk7 => ?_⟩
  have q8 := (q6.trans q7).trans (Same.new (o := .lst ((([.bl true, .bl true] ++ [.bl true, .bl true]) ++ [.bl true, .bl true]) ++ [.bl true, .bl (!false)])) hk7)
  have gk7 := upd_same (H := upd H9 k6 (.lst [.bl true, .bl (!false)])) (a := k7) (o := .lst ((([.bl true, .bl true] ++ [.bl true, .bl true]) ++ [.bl true, .bl true]) ++ [.bl true, .bl (!false)]))
  revert q8 gk7
  generalize upd (upd H9 k6 (.lst [.bl true, .bl (!false)])) k7 (.lst ((([.bl true, .bl true] ++ [.bl true, .bl true]) ++ [.bl true, .bl true]) ++ [.bl true, .bl (!false)])) = G4
  intro q8 gk7
  -- not CantGo(5), not TooMany(5)
  refine ⟨_, rfl, ⟨by show 1 ≤ 1000; decide, fun a10 na10 => one_val (y := .int 5) five na10 fun d10 H10 s10 ha10 hd10 => ⟨a10, _, _, _, false, rfl, .inr (.inl ⟨d10, _, ha10, hd10⟩), U.o_CantGo.ix, .own _, Z.n_CantGo, _, rfl, ?_⟩⟩⟩
  refine ⟨by show 1 ≤ 1000; decide, fun a11 na11 => one_val (y := .int 5) five na11 fun d11 H11 s11 ha11 hd11 => ⟨a11, _, _, _, false, rfl, .inr (.inl ⟨d11, _, ha11, hd11⟩), U.o_TooMany.ix, .own _, Z.n_TooMany, _, rfl, by show 2 ≤ sizeLine; decide, fun k8 hk8 => ?_⟩⟩
  have q9 := (s10.trans s11).trans (Same.new (o := .lst [.bl (!false), .bl (!false)]) hk8)
  refine ⟨k7, k8, _, _, rfl, rfl, q9 _ _ gk7, upd_same, by show 10 ≤ sizeLine; decide, fun k9 hk9 => ?_⟩
  have q10 := (q8.trans q9).trans (Same.new (o := .lst (((([.bl true, .bl true] ++ [.bl true, .bl true]) ++ [.bl true, .bl true]) ++ [.bl true, .bl (!false)]) ++ [.bl (!false), .bl (!false)])) hk9)
  have gk9 := upd_same (H := upd H11 k8 (.lst [.bl (!false), .bl (!false)])) (a := k9) (o := .lst (((([.bl true, .bl true] ++ [.bl true, .bl true]) ++ [.bl true, .bl true]) ++ [.bl true, .bl (!false)]) ++ [.bl (!false), .bl (!false)]))
  revert q10 gk9
  generalize upd (upd H11 k8 (.lst [.bl (!false), .bl (!false)])) k9 (.lst (((([.bl true, .bl true] ++ [.bl true, .bl true]) ++ [.bl true, .bl true]) ++ [.bl true, .bl (!false)]) ++ [.bl (!false), .bl (!false)])) = G5
  intro q10 gk9
  have r1 := q10 _ _ gF
  have r2 := q10 _ _ gl1
  have r3 := t0.trans q10
  refine ⟨_, rfl, by show 1 ≤ sizeLine; decide, fun m1 hm1 => ⟨by show 6 ≤ sizeLine; decide, fun m2 hm2 => ?_⟩⟩
  have u1 := Same.new (o := .lst [.int 5]) hm1
  have u2 := Same.new (o := .lst [.str "body", .str "a", .int 3, .ref m1, .str "tick", .int 7]) hm2
  have u3 := u1.trans u2
  refine ⟨.list [.str "body", .str "a", .int 3, .list [.int 5], .str "tick", .int 7], .list [.str "body", .str "a", .int 3, .list [.int 5], .str "tick", .int 7], ?_, ?_, by decide +kernel, by decide +kernel, true, congrArg V.bl (by decide +kernel), ?_⟩
  · exact .lst (SqL.of (u3 _ _ r1)) (.cons (.str _) (.cons (.str _) (.cons (.int _) (.cons (.lst (SqL.of (u3 _ _ r2)) (.cons (.int _) .nil)) (.cons (.str _) (.cons (.int _) .nil))))))
  · exact .lst (SqL.of upd_same) (.cons (.str _) (.cons (.str _) (.cons (.int _) (.cons (.lst (SqL.of (u2 _ _ upd_same)) (.cons (.int _) .nil)) (.cons (.str _) (.cons (.int _) .nil))))))
  · exact iteT ⟨_, rfl, k9, List.replicate 10 true, rfl, SqL.of (u3 _ _ gk9), kk _ (r3.trans u3)⟩
end
end K12
namespace K12
open PySem PySem.Spec PyProof.Rows L2
theorem textFrom_le : ∀ (ts : List Str) (k : Nat) (acc : Str) (n : Nat), (ts.map fun t => t.length + 2).sum ≤ n → (textFrom k acc ts).length ≤ acc.length + n
  | [], k, acc, n, _ => Nat.le_add_right _ _
  | t :: r, k, acc, n, h => by
    rw [List.map_cons, List.sum_cons] at h
    have ih := textFrom_le r (k + 1) (acc ++ (if k > 0 then ", " else "" : String) ++ t) (n - (t.length + 2)) (by omega)
    have e : (acc ++ (if k > 0 then ", " else "" : String) ++ t).length = acc.length + (if k > 0 then 2 else 0) + t.length := by
      rw [Str.length_append, Str.length_append]
      by_cases hk : k > 0
      · rw [if_pos hk, if_pos hk]; rfl
      · rw [if_neg hk, if_neg hk]; rfl
    have e2 : (if k > 0 then 2 else 0) ≤ 2 := by split <;> omega
    show (textFrom (k + 1) (acc ++ (if k > 0 then ", " else "" : String) ++ t) r).length ≤ _
    omega
theorem join_le : ∀ (ts : List Str), (Str.join ", " ts).length ≤ (ts.map fun t => t.length + 2).sum
  | [] => Nat.zero_le _
  | [x] => by simp [Str.join]
  | x :: y :: r => by
    have ih := join_le (y :: r)
    have e : (Str.join ", " (x :: y :: r)).length = x.length + 2 + (Str.join ", " (y :: r)).length := by
      show (x ++ ", " ++ Str.join ", " (y :: r)).length = _
      rw [Str.length_append, Str.length_append]; rfl
    rw [List.map_cons, List.sum_cons, e]; omega
theorem repr_fit {x : Str} (h : FitT x) : (reprText x).length ≤ 202 := by
  have := StrLaws.reprText_len x (fun c hc => Nat.lt_trans (h.2 c hc) (by decide))
  have := h.1
  omega
theorem tupleText_le (ts : List Str) : (tupleText ts).length ≤ (ts.map fun t => t.length + 2).sum + 4 := by
  unfold tupleText
  have h1 := join_le ts
  have h2 : (((if ts.length == 1 then ",)" else ")" : String) : Str)).length ≤ 2 := by split <;> decide
  have h3 : ("(" : Str).length = 1 := rfl
  rw [Str.length_append, Str.length_append, h3]
  omega
theorem listText_le (ts : List Str) : (listText ts).length ≤ (ts.map fun t => t.length + 2).sum + 4 := by
  unfold listText
  have h1 := textFrom_le ts 0 "[" _ (Nat.le_refl _)
  have h2 : ("]" : Str).length = 1 := rfl
  have h3 : ("[" : Str).length = 1 := rfl
  rw [Str.length_append, h2]
  rw [h3] at h1
  omega
mutual
theorem shown_le {n : Nat} : ∀ {d : PyData}, FitL n d → d.shown.length ≤ wt d
  | .none, _ => by show ("None" : Str).length ≤ 300; decide
  | .bool b, _ => by
    show (if b then "True" else "False" : Str).length ≤ 300
    cases b <;> decide
  | .int i, h => by
    show (toString i : Str).length ≤ 300
    exact Nat.le_trans (numS_len h) (by decide)
  | .str x, h => by
    show (reprText x).length ≤ 300
    exact Nat.le_trans (repr_fit h) (by decide)
  | .list ds, h => by
    have h1 := shownA_le (ds := ds) h.2
    have h2 := listText_le (PyData.shownAll ds)
    show (listText (PyData.shownAll ds)).length ≤ wtA ds + 4
    omega
  | .tuple ds, h => by
    have h1 := shownA_le (ds := ds) h.2
    have h2 := tupleText_le (PyData.shownAll ds)
    show (tupleText (PyData.shownAll ds)).length ≤ wtA ds + 4
    omega
  | .dict kvs, h => by
    have h' : kvs = [] := h
    subst h'
    show (dictText []).length ≤ 300
    decide
theorem shownA_le {n : Nat} : ∀ {ds : List PyData}, FitLA n ds → ((PyData.shownAll ds).map fun t => t.length + 2).sum ≤ wtA ds
  | [], _ => Nat.zero_le _
  | d :: ds, h => by
    have h1 := shown_le h.1
    have h2 := shownA_le h.2
    show ((d.shown :: PyData.shownAll ds).map fun t => t.length + 2).sum ≤ wt d + 2 + wtA ds
    rw [List.map_cons, List.sum_cons]; omega
end
mutual
theorem showable_ok {n : Nat} : ∀ {d : PyData}, FitL n d → d.showable = true
  | .none, _ => rfl
  | .bool b, _ => rfl
  | .int i, h => by
    have h' : i.natAbs ≤ 5000 := h
    show decide (i.natAbs.log2 < 1920) = true
    refine decide_eq_true (Nat.lt_of_lt_of_le ?_ (show 13 ≤ 1920 by decide))
    by_cases h0 : i.natAbs = 0
    · rw [h0]; decide
    · rw [Nat.log2_lt h0]; omega
  | .str x, h => rfl
  | .list ds, h => showableA_ok (ds := ds) h.2
  | .tuple ds, h => showableA_ok (ds := ds) h.2
  | .dict kvs, h => by
    have h' : kvs = [] := h
    subst h'
    rfl
theorem showableA_ok {n : Nat} : ∀ {ds : List PyData}, FitLA n ds → PyData.showableAll ds = true
  | [], _ => rfl
  | d :: ds, h => by
    show (d.showable && PyData.showableAll ds) = true
    rw [showable_ok h.1, showableA_ok h.2]; rfl
end
end K12
namespace K12
open PySem PySem.Spec PyProof.Rows L2
section
variable {P : Program} {w : World} {K : PySem.W.Frag} {mg : Str → Option Value} {base : Heap}
/-- a def's body, called in surroundings that are known -/
theorem fn_here {f : Addr} {fd : FuncData} {x qual : Str} {st : Stmt} {N ps : List Str} {k : Nat} {A : Around} {outer : List Env} {s : Shared} {H : Hp} {args : Args} {us : List Value} {vs : List V} {Q : VK} {E : XK}
    (F : FunD K x qual (defArgs st) (defBody st) (defScope st) [] [] f fd) (S : FnScope N ps (defScope st)) (room : Room (k + 1) A) (e0 : Env0 P w K mg base A outer s H) (hb : BindsTo s fd args (ps.zip us)) (rv : Vals vs us) (hl : vs.length = ps.length)
    (run : ∀ cdv : Value, Room k (A.deeper (envOfC qual (defScope st) s.heap.objs.size f cdv)) → ∃ t, PSs (cxOf CX0 P w K mg base N qual (defScope st) f cdv A outer s H E) (defBody st) t ∧ t { nx := fun _ H' => Q .non H', rt := Q } (start N vs) H) :
    codeAny (model P w) A (.call (.ref f) args) (CR CX0 outer P w H s Q E) s := by
  obtain ⟨_, _, _, _, _, _, _, cdv, _, _, rfl, look, code, _, _⟩ := F.ex
  have old : ∀ b o, base.get? b = some o → s.heap.get? b = some o := fun b o z => (e0.bs b o z).1
  have inK : K.In s.heap := e0.mod.kin.keeps old
  have free : s.heap.NoLimit := e0.mod.nolimit.keeps old
  have kinds : ∀ y ∈ ps.zip us, (defScope st).names.lookup y.1 = some .local ∨ ((defScope st).names.lookup y.1 = some .cell ∧ ((cellsFrom (s.heap.objs.size + 1) (defScope st).names []).lookup y.1).isSome = true) :=
    fun y hy => (S.par y.1 (List.of_mem_zip (a := y.1) (b := y.2) hy).1).imp id fun c => ⟨c, PySem.W.cellsFrom_some _ _ _ (.inl c)⟩
  refine codeAny_call_function room.depth (inK _ _ look) rfl S.co S.gen rfl (PySem.W.codeRec_of inK code) (hb _ _ _ _ (wpAny_newFunctionEnv_cells S.kind kinds fun env ee s1 made => ?_))
  subst ee
  refine ⟨free.keeps made.toInCall.keep, codeAny_func ?_⟩
  obtain ⟨t, red, wish⟩ := run cdv (room.deeper _)
  refine wpAny_mono (red.run [] s1 _ H _ (inv_start S room.hd e0 hl rv made) wish) (fun fl s2 z => ?_) (fun _ _ z => z)
  match fl, z with
  | .ret u, ⟨v, _, H2, J, r, q⟩ => exact ⟨v, H2, J.os, J.bare, J.base, J.hok, r, q⟩
  | .next, ⟨_, H2, J, q⟩ => exact ⟨.non, H2, J.os, J.bare, J.base, J.hok, rfl, q⟩
  | .brk, ⟨_, _, _, q⟩ => exact q.elim
  | .cont, ⟨_, _, _, q⟩ => exact q.elim
end
end K12
namespace K12
open PySem PySem.Spec PyProof.Rows L2
/-- the law's call at the heap behind the top -/
theorem law_here {P : Program} {w : World} {K : PySem.W.Frag} {mg mb : Str → Option Value} {fa a : Addr} {fd : FuncData} {x : Str} {st : Stmt} {N : List Str} {k : Nat} {z : Shared} {vs : List Value} {ns : List Int}
    (F : FunD K "law" "law" (defArgs st) (defBody st) (defScope st) [] [] fa fd) (S : FnScope N [x] (defScope st)) (bind1 : ∀ (s : Shared) (u : Value), BindsTo s fd ⟨[u], []⟩ [(x, u)]) (inK : K.In z.heap) (gl : z.heap.Ns mainGlobals mg) (bl : z.heap.Ns builtinsNs mb)
    (bb : ∀ y : Str, y ≠ "__name__" → mb y = bootBuiltins y) (free : z.heap.NoLimit) (gens : z.gens = #[]) (list : z.heap.get? a = some { cls := .type "list", data := .seq vs.toArray }) (whole : IntsAre vs ns) (few : ns.length ≤ sizeLine) (room : Room (k + 1) callerA)
    (run : ∀ (base : Heap) (H : Hp) (cdv : Value), K.In base → base.Ns mainGlobals mg → SqL K H a (ns.map V.int) → Room k (callerA.deeper (envOfC "law" (defScope st) z.heap.objs.size fa cdv)) →
      ∃ t, PSs (cxOf CX0 P w K mg base N "law" (defScope st) fa cdv callerA [] z H fun _ _ _ => False) (defBody st) t ∧ t { nx := fun _ _ => False, rt := fun v _ => v = .bl true } (start N [.ref a]) H) :
    codeAny (model P w) callerA (.call (.ref fa) ⟨[.ref a], []⟩) (fun r s' => r = .ok (.ret (.bool true)) ∧ OldK z.heap s'.heap ∧ s'.os = z.os ∧ AllBare s'.gens) z := by
  have rel := vals_ints whole
  -- a heap that tracks the script alone, or nothing, where the script is the module's own
  have track : ∃ H : Hp, SqL K H a (ns.map V.int) ∧ ∀ b u, H b = some u → b = a ∧ u = .frz { cls := .type "list", data := .seq vs.toArray } (.lst (ns.map V.int)) ∧ K.lookup a = none := by
    cases own : K.lookup a with
    | none => exact ⟨fun b => if b = a then some (.frz { cls := .type "list", data := .seq vs.toArray } (.lst (ns.map V.int))) else none, .inl (.inr ⟨_, if_pos rfl⟩), fun b u e => by
        by_cases c : b = a
        · have e' := (if_pos c).symm.trans e
          cases e'; exact ⟨c, rfl, rfl⟩
        · have e' := (if_neg c).symm.trans e
          cases e'⟩
    | some o =>
      have e := inK a o own
      rw [list] at e; cases e
      exact ⟨fun _ => none, .inr ⟨_, vs.toArray, _, own, rfl, rfl, rfl, by rw [List.size_toArray, whole.length]; exact few, by simpa using rel⟩, fun _ _ e => by cases e⟩
  obtain ⟨H, seq, only⟩ := track
  have dark : ∀ {b : Addr} {o : Obj}, z.heap.get? b = some o → (b = a → False) → (hidT z.heap H).get? b = some o := fun {b o} e n => hidT_get e (by
    cases q : H b with
    | none => rfl
    | some u => exact (n (only b u q).1).elim)
  have ns' : ∀ {b : Addr} {m : Str → Option Value}, z.heap.Ns b m → (hidT z.heap H).Ns b m := fun ⟨o, es, n, e, d, r⟩ => ⟨o, es, n, dark e (fun c => by
    rw [c, list] at e; cases e; exact nomatch d), d, r⟩
  have inB : K.In (hidT z.heap H) := fun b o e => hidT_get (inK b o e) (by
    cases q : H b with
    | none => rfl
    | some u =>
      obtain ⟨c, _, d⟩ := only b u q
      rw [c, d] at e; cases e)
  obtain ⟨mc, f1, f2⟩ := free
  have hok : HOk P w H z.heap := fun b u e => by
    obtain ⟨c, rfl, _⟩ := only b u e
    rw [c]
    exact ⟨list, by rw [List.length_map]; exact few, vs, _, rel, list⟩
  have e0 : Env0 P w K mg (hidT z.heap H) callerA [] z H := {
    frames := rfl
    mod := ⟨inB, ns' gl, ⟨mb, ns' bl, bb⟩, ⟨mc, ns' f1, f2⟩⟩
    bs := fun _ _ => of_hidT
    bsz := Nat.le_of_eq (hidT_size _ _)
    funs := trivial
    frf := fun _ h => absurd h List.not_mem_nil
    hok := hok
    bare := .of_eq gens }
  have call := fn_here (us := [.ref a]) (vs := [.ref a]) (Q := fun v _ => v = .bl true) F S room e0 (bind1 z (.ref a)) (.cons rfl .nil) rfl fun cdv hr => by
    obtain ⟨t, h1, h2⟩ := run (hidT z.heap H) H cdv inB (ns' gl) seq hr
    refine ⟨t, h1, ?_⟩
    have e : ({ nx := fun _ H' => (fun (v : V) (_ : Hp) => v = .bl true) .non H', rt := fun v _ => v = .bl true } : Ends) = { nx := fun _ _ => False, rt := fun v _ => v = .bl true } := by
      have : (fun (_ : L2.St) (H' : Hp) => (fun (v : V) (_ : Hp) => v = .bl true) .non H') = fun _ _ => False := by
        funext _ _; exact propext ⟨(fun h => nomatch h), False.elim⟩
      rw [this]
    rw [e]; exact h2
  refine codeAny_mono call fun r s' h => ?_
  cases r with
  | error _ => exact h.elim
  | ok fl =>
    cases fl with
    | ret u =>
      obtain ⟨v, H', os, bare, un, hok', rv, tr⟩ := h
      have tr' : v = .bl true := tr
      subst tr'
      obtain rfl : u = Value.bool true := rv
      refine ⟨rfl, OldK.of_keep fun b o e => ?_, os, bare⟩
      cases q : H b with
      | none => exact un.keep b o e q List.not_mem_nil List.not_mem_nil
      | some u =>
        obtain ⟨c, rfl, _⟩ := only b u q
        obtain ⟨g, _⟩ := hok' b _ (un.frzs b _ _ q)
        rw [c, list] at e; cases e
        rw [c]; rw [c] at g; exact g
    | _ => exact h.elim
end K12
namespace K12
open PySem PySem.Spec PyProof.Rows L2
theorem strOk_of (s : String) : PyData.strOk (Str.ofString s) = true := by
  rw [Str.ofString_eq_toList]
  unfold PyData.strOk
  rw [Array.all_eq_true']
  intro c hc
  simp at hc
  obtain ⟨x, _, rfl⟩ := hc
  have := x.valid
  rcases this with h | h
  · exact decide_eq_true (by show x.val.toNat < _; have : x.val.toNat < 0xd800 := h; omega)
  · exact decide_eq_true (by show x.val.toNat < _; have : x.val.toNat < 0x110000 := h.2; omega)
theorem strOk_fit {x : Str} (h : Fit (.str x)) : PyData.strOk x = true := by
  have h' : x.length ≤ 20 ∧ ∀ c ∈ x.cps.toList, c < 128 := h
  unfold PyData.strOk
  rw [Array.all_eq_true']
  intro c hc
  have := h'.2 c (by simpa using hc)
  exact decide_eq_true (by omega)
def tOk (q : Str × Str) : Prop := PyData.strOk q.1 = true ∧ PyData.strOk q.2 = true
theorem who_tOk {d : PyData} {n : Int} (h : Fit d) : PyData.strOk (whoStr d n) = true := by
  cases d with
  | str x => exact strOk_fit h
  | _ => exact strOk_of _
theorem badName_tOk {d : PyData} {n : Int} {ks : Ks} {q : Str × Str} (hf : Fit d) (h : badName d n ks = some q) : tOk q := by
  unfold badName at h
  by_cases hn : isName d = true
  · rw [if_pos hn] at h
    cases d with
    | str x =>
      simp only at h
      by_cases hk : (ks.lookup x).isSome = true
      · rw [if_pos hk] at h; cases h; exact ⟨strOk_of _, strOk_fit hf⟩
      · rw [if_neg hk] at h; cases h
    | _ => cases h
  · rw [if_neg hn] at h; cases h; exact ⟨strOk_of _, who_tOk hf⟩
theorem badThing_tOk {t : PyData} {n : Int} {ks : Ks} {q : Str × Str} (hf : Fit t) (h : badThing t n ks = some q) : tOk q := by
  unfold badThing at h
  split at h
  · rename_i k nm sz
    have hf' : Fit nm := hf.2.2.1
    split at h
    · split at h
      · rename_i e; cases h; exact badName_tOk hf' e
      · split at h
        · cases h
        · cases h; exact ⟨strOk_of _, who_tOk hf'⟩
    · cases h; exact ⟨strOk_of _, strOk_of _⟩
  · cases h; exact ⟨strOk_of _, strOk_of _⟩
theorem badTask_tOk {t : PyData} {n : Int} {ks : Ks} {q : Str × Str} (hf : Fit t) (h : badTask t n ks = some q) : tOk q := by
  unfold badTask at h
  split at h
  · rename_i nm bg b l
    have hf' : Fit nm := hf.2.1
    split at h
    · rename_i e; cases h; exact badName_tOk hf' e
    · split at h
      · cases h
      · cases h; exact ⟨strOk_of _, who_tOk hf'⟩
  · cases h; exact ⟨strOk_of _, strOk_of _⟩
theorem badDeeds_tOk {t : PyData} {ks : Ks} {q : Str × Str} (hf : Fit t) (h : badDeeds ks t = some q) : tOk q := by
  unfold badDeeds at h
  split at h
  · rename_i nm bg b l
    have hf' : Fit nm := hf.2.1
    split at h
    · split at h
      · cases h
      · cases h; exact ⟨strOk_of _, who_tOk hf'⟩
    · cases h; exact ⟨strOk_of _, who_tOk hf'⟩
  · cases h
theorem goL_tOk {bad : PyData → Int → Ks → Option (Str × Str)} {add : PyData → Ks → Ks} (hb : ∀ {t n ks q}, Fit t → bad t n ks = some q → tOk q) : ∀ {ts : List PyData} {n : Nat} {ks : Ks} {q : Str × Str}, FitA ts → goL bad add ts n ks = .error q → tOk q
  | [], _, _, _, _, h => by cases h
  | t :: ts, n, ks, q, hf, h => by
    unfold goL at h
    split at h
    · rename_i e; cases h; exact hb hf.1 e
    · exact goL_tOk hb hf.2 h
theorem find_tOk {ks : Ks} : ∀ {ts : List PyData} {q : Str × Str}, FitA ts → ts.findSome? (badDeeds ks) = some q → tOk q
  | [], _, _, h => by cases h
  | t :: ts, q, hf, h => by
    rw [List.findSome?_cons] at h
    split at h
    · rename_i e; cases h; exact badDeeds_tOk hf.1 e
    · exact find_tOk hf.2 h
theorem due_tOk {d1 d2 : PyData} {q : Str × Str} (h1 : Fit d1) (h2 : Fit d2) (h : due d1 d2 = some q) : tOk q := by
  unfold due at h
  split at h
  · rename_i e
    cases h
    unfold kindsR at e
    split at e
    · split at e
      · rename_i e2; cases e; exact goL_tOk badThing_tOk h1.2 e2
      · split at e
        · cases e
        · cases e; exact ⟨strOk_of _, strOk_of _⟩
    · cases e; exact ⟨strOk_of _, strOk_of _⟩
  · split at h
    · rename_i e
      cases h
      unfold tasksR at e
      split at e
      · split at e
        · rename_i e2; cases e; exact goL_tOk badTask_tOk h2.2 e2
        · split at e
          · cases e
          · cases e; exact ⟨strOk_of _, strOk_of _⟩
      · cases e; exact ⟨strOk_of _, strOk_of _⟩
    · unfold deedsR at h
      split at h
      · exact find_tOk h2.2 h
      · cases h
end K12
namespace K12
open PySem PySem.Spec PyProof.Rows L2
/-- the measures behind i strikes -/
def mL (i : Nat) : Nat := 12 + 30 * i
def mD (i : Nat) : Nat := 6 + i
def mWs : Nat → Nat
  | 0 => 9130
  | 1 => 86520
  | 2 => 396080
  | _ => 1634320
def mWc : Nat → Nat
  | 0 => 471100
  | 1 => 1002200
  | 2 => 2064400
  | _ => 4188800
theorem mW_step {i : Nat} (h : i < 3) : 4 * mWs i + 50000 ≤ mWs (i + 1) ∧ 2 * mWc i + 60000 ≤ mWc (i + 1) ∧ mWs i ≤ mWs (i + 1) ∧ mWc i ≤ mWc (i + 1) ∧ mWs i ≤ mWc i ∧ 1000 ≤ mWc i := by
  match i, h with
  | 0, _ => decide
  | 1, _ => decide
  | 2, _ => decide
theorem mW_max (i : Nat) : mWs i ≤ 1634320 ∧ mWc i ≤ 4188800 := by
  match i with
  | 0 => decide
  | 1 => decide
  | 2 => decide
  | _ + 3 => exact ⟨Nat.le_refl _, Nat.le_refl _⟩
theorem Ok.next {i : Nat} {d : PyData} {Ws W' : Nat} (h : Ok (mL i) (mD i) Ws d) (hw : Ws ≤ W') : Ok (mL (i + 1)) (mD (i + 1)) W' d := h.mono (by unfold mL; omega) (by unfold mD; omega) hw
def oneA (p : Addr) : Addr → Prop := fun x => x = p
/-- two data as they are kept -/
structure Two (p : Addr) (i : Nat) (dS dC : PyData) (v4 v5 : V) (G : Hp) : Prop where
  r4 : RpS (oneA p) G dS v4
  r5 : RpS (oneA p) G dC v5
  o4 : Ok (mL i) (mD i) (mWs i) dS
  o5 : Ok (mL i) (mD i) (mWc i) dC
theorem Two.ev {p : Addr} {i : Nat} {dS dC : PyData} {v4 v5 : V} {G G' : Hp} (h : Two p i dS dC v4 v5 G) (e : Ev p G G') : Two p i dS dC v4 v5 G' := ⟨h.r4.mono (e.kpS (S := oneA p) rfl), h.r5.mono (e.kpS (S := oneA p) rfl), h.o4, h.o5⟩
theorem Two.up {p : Addr} {i : Nat} {dS dC : PyData} {v4 v5 : V} {G : Hp} (hi : i < 3) (h : Two p i dS dC v4 v5 G) : Two p (i + 1) dS dC v4 v5 G := by
  obtain ⟨_, _, h3, h4, _, _⟩ := mW_step hi
  exact ⟨h.r4, h.r5, h.o4.next h3, h.o5.next h4⟩
/-- elif isinstance(crew, list): crew = struck .. -/
theorem crew_step {D : Ends} {σ : L2.St} {K : PySem.W.Frag} {G : Hp} {p : Addr} {i : Nat} {dS dC : PyData} {v4 v5 : V} (h2 : σ[2]? = some (some (.ref p))) (h4 : σ[4]? = some (some v4)) (h5 : σ[5]? = some (some v5)) (hp : Pot p G) (hi : i < 3) (t : Two p i dS dC v4 v5 G)
    (k : ∀ dC' v5' G', Ev p G G' → Two p (i + 1) dS dC' v4 v5' G' → D.nx (σ.set 5 (some v5')) G') (k0 : ∀ G', G' = G → Two p (i + 1) dS dC v4 v5 G' → D.nx σ G') :
    tIfS (tB (tIsi K "list" (tVar 5))) (tAsg (tCall spGCrewX [] E0 (tCons (tVar 2) (tCons (tVar 5) (tCons (tVar 4) tNil)))) (gName 5)) tNext D σ G := by
  obtain ⟨w1, w2, w3, w4, w5, w6⟩ := mW_step hi
  refine ⟨_, h5, isiL (t.r5.rp (S := oneA p) (p := p) rfl) ⟨_, rfl, ?_⟩⟩
  have hAl : Al (oneA p) G := fun x hx => by rw [hx]; exact hp.held
  cases dC with
  | list ds =>
    refine iteT ⟨_, h2, _, h5, _, h4, p, v5, v4, oneA p, ds, dS, mL i, mD i, mWc i, rfl, hp, rfl, hAl, t.r5, t.r4, t.o5, t.o4.mono (Nat.le_refl _) (Nat.le_refl _) w5, by unfold mL; omega, by unfold mL; omega, by unfold mD; omega, w6, fun d v G' hok hr e => ?_⟩
    exact k d v G' e ⟨t.r4.mono (e.kpS (S := oneA p) rfl), hr, t.o4.next w3, hok.mono (by unfold mL; omega) (by unfold mD; omega) w2⟩
  | _ => exact iteF (k0 G rfl (t.up hi))
theorem Two.fit4 {p : Addr} {i : Nat} {dS dC : PyData} {v4 v5 : V} {G : Hp} (h : Two p i dS dC v4 v5 G) (hi : i ≤ 3) : Fit dS ∧ Fit dC ∧ dS.depth ≤ 12 ∧ dC.depth ≤ 12 := by
  have h1 := h.o4.dep
  have h2 := h.o5.dep
  unfold mD at h1 h2
  exact ⟨h.o4.fit.fit (by unfold mL; omega), h.o5.fit.fit (by unfold mL; omega), by omega, by omega⟩
/-- repr of the two -/
theorem pair_facts {p l : Addr} {i : Nat} {dS dC : PyData} {v4 v5 : V} {G : Hp} (h : Two p i dS dC v4 v5 G) (hi : i ≤ 3) (hp : Pot p G) (hl : G l = none) :
    Rp p (upd G l (.lst [v4, v5])) (.list [dS, dC]) (.ref l) ∧ (PyData.list [dS, dC]).showable = true ∧ (PyData.list [dS, dC]).depth ≤ 60 ∧ (PyData.list [dS, dC]).shown.length ≤ sizeLine := by
  have hAl : Al (oneA p) G := fun x hx => by rw [hx]; exact hp.held
  have hr : RpS (oneA p) (upd G l (.lst [v4, v5])) (.list [dS, dC]) (.ref l) := alL hAl hl (.cons h.r4 (.cons h.r5 .nil))
  have hf : FitL (mL i) (.list [dS, dC]) := ⟨by show 2 ≤ mL i; unfold mL; omega, h.o4.fit, h.o5.fit, trivial⟩
  have h1 := h.o4.dep
  have h2 := h.o5.dep
  unfold mD at h1 h2
  refine ⟨hr.rp (S := oneA p) rfl, showable_ok hf, ?_, ?_⟩
  · show max dS.depth (max dC.depth 0) + 1 ≤ 60
    omega
  · have w0 := shown_le hf
    have w1 := h.o4.wt
    have w2 := h.o5.wt
    obtain ⟨w3, w4⟩ := mW_max i
    have w5 : wt (.list [dS, dC]) = wt dS + 2 + (wt dC + 2 + 0) + 4 := rfl
    exact Nat.le_trans (show _ ≤ 6000000 by omega) (by decide)
/-- what is told, as data -/
def ansD : Option (Str × Str) → PyData
  | none => .none
  | some q => .list [.str q.1, .str q.2]
theorem ans_dp {K : PySem.W.Frag} {H : Hp} {r : Option (Str × Str)} {v : V} (h : Ans H r v) : Dp K H v (ansD r) := by
  cases r with
  | none => cases h; exact .non
  | some q =>
    obtain ⟨l, rfl, hl⟩ := h
    exact .lst (SqL.of hl) (.cons (.str _) (.cons (.str _) .nil))
theorem ans_shaped {d1 d2 : PyData} (h1 : Fit d1) (h2 : Fit d2) : SeqAt.shaped (ansD (due d1 d2)) = true := by
  cases h : due d1 d2 with
  | none => rfl
  | some q =>
    obtain ⟨a, b⟩ := due_tOk h1 h2 h
    show ((PyData.strOk q.1 && (PyData.strOk q.2 && true)) && decide ((PyData.list [.str q.1, .str q.2]).depth ≤ 64)) = true
    rw [a, b]; rfl
theorem ans_eq (r : Option (Str × Str)) : PyData.eqv (ansD r) (ansD r) = true := by
  cases r with
  | none => rfl
  | some q =>
    show (q.1 == q.1 && (q.2 == q.2 && true)) = true
    simp
section
variable {P : Program} {w : World} {K : PySem.W.Frag} {mg : Str → Option Value} {base : Heap}
abbrev N_law : List Str := ["_law_script", "_law_k", "_law_pot_here", "_law_many", "_law_stuff_here", "_law_crew", "_law_turn", "_law_kept"]
theorem sc_law : FnScope N_law ["_law_script"] (defScope (top 83)) := sc_of (by decide +kernel)
theorem law_body (T : Tx w K mg) (hsys : ∃ o, K.lookup sysModules = some o) (c__law_errors_right : Cl P w K mg base CX0 4 "_law_errors_right" spTrue) (c__law_pot : Cl P w K mg base CX0 1 "_law_pot" (spPot K)) (c__law_take : Cl P w K mg base CX0 1 "_law_take" spTake)
    (c__law_program : Cl P w K mg base CX0 8 "_law_program" spGProgram) (c__law_struck_stuff : Cl P w K mg base CX0 3 "_law_struck_stuff" spGStuffX) (c__law_struck_crew : Cl P w K mg base CX0 4 "_law_struck_crew" spGCrewX)
    (c__law_answer : Cl P w K mg base CX0 32 "_law_answer" spLDue) (c__law_due : Cl P w K mg base CX0 29 "_law_due" spLDue) {z : Shared} {H : Hp} {cdv : Value} {fa a : Addr} {ns : List Int} (seq : SqL K H a (ns.map V.int)) (few : ns.length ≤ 63)
    (hr : Room 32 (callerA.deeper (envOfC "law" (defScope (top 83)) z.heap.objs.size fa cdv))) :
    ∃ t, PSs (cxOf CX0 P w K mg base N_law "law" (defScope (top 83)) fa cdv callerA [] z H fun _ _ _ => False) (defBody (top 83)) t ∧ t { nx := fun _ _ => False, rt := fun v _ => v = .bl true } (start N_law [.ref a]) H := by
  have hu := hu_of hr
  have hu64 := hr.units
  have hg0 : (callerA.deeper (envOfC "law" (defScope (top 83)) z.heap.objs.size fa cdv)).guards = some [] := rfl
  refine ⟨_, PSs.nox ((pss_cons (ps_if (pt_not (pt_val (pe_cl0 c__law_errors_right hr))) (pss_one (ps_ret pe_bl)) pss_nil)
      (pss_cons (ps_for PassesOwn.never rfl (pi_range1 rfl T.f_range (pa_cons (pe_callB (call_max2 rfl) rfl T.f_max b_max (pa_cons pe_int (pa_cons (pe_callB (call_min2 rfl) rfl T.f_min b_min (pa_cons (pe_callB call_len_seq rfl T.f_len b_len (pa_cons (pv 0) pa_nil)) (pa_cons pe_int pa_nil))) pa_nil))) pa_nil)) (pg_name (i := 1) sc_law.nd rfl (Or.inl rfl)) (pss_cons (ps_set (i := 2) sc_law.nd rfl (Or.inl rfl) (pe_cl c__law_pot hr (pa_cons (pv 0) (pa_cons (pv 1) pa_nil))))
      (pss_cons (ps_set (i := 3) sc_law.nd rfl (Or.inl rfl) (pe_cl c__law_take hr (pa_cons (pv 2) (pa_cons pe_int pa_nil))))
      (pss_cons (ps_asg (pe_cl c__law_program hr (pa_cons (pv 2) pa_nil)) (pg_tup rfl (pgs_cons (pg_name (i := 4) sc_law.nd rfl (Or.inl rfl)) (pgs_cons (pg_name (i := 5) sc_law.nd rfl (Or.inl rfl)) pgs_nil))))
      (pss_cons (ps_for PassesOwn.never rfl (pi_range1 rfl T.f_range (pa_cons (pv 3) pa_nil)) (pg_name (i := 6) sc_law.nd rfl (Or.inl rfl)) (pss_one (ps_if (PW.pt (pw_and (pt_val (pe_isi T.f_isinstance T.f_list (pv 4) b_list)) (pw_and1 (pt_cmpR op_eq (pe_cl c__law_take hr (pa_cons (pv 2) (pa_cons pe_int pa_nil))) pe_int (nomark _))))) (pss_one (ps_set (i := 4) sc_law.nd rfl (Or.inl rfl) (pe_cl c__law_struck_stuff hr (pa_cons (pv 2) (pa_cons (pv 4) pa_nil))))) (pss_one (ps_if (pt_val (pe_isi T.f_isinstance T.f_list (pv 5) b_list)) (pss_one (ps_set (i := 5) sc_law.nd rfl (Or.inl rfl) (pe_cl c__law_struck_crew hr (pa_cons (pv 2) (pa_cons (pv 5) (pa_cons (pv 4) pa_nil)))))) pss_nil)))))
      (pss_cons (ps_set (i := 7) sc_law.nd rfl (Or.inl rfl) (pe_callB (call_reprD hr hg0 hsys) rfl T.f_repr b_repr (pa_cons (pe_lst (pa_cons (pv 4) (pa_cons (pv 5) pa_nil))) pa_nil)))
      (pss_one (ps_for PassesOwn.never rfl (pi_range1 rfl T.f_range (pa_cons pe_int pa_nil)) (pg_name (i := 6) sc_law.nd rfl (Or.inl rfl)) (pss_one (ps_if (PW.pt (pw_or (pt_cmpR (op_neD hu64) (pe_cl c__law_answer hr (pa_cons (pv 4) (pa_cons (pv 5) pa_nil))) (pe_cl c__law_due hr (pa_cons (pv 4) (pa_cons (pv 5) pa_nil))) (nomark _)) (pw_or1 (pt_cmpR op_ne (pe_callB (call_reprD hr hg0 hsys) rfl T.f_repr b_repr (pa_cons (pe_lst (pa_cons (pv 4) (pa_cons (pv 5) pa_nil))) pa_nil)) (pv 7) (nomark _))))) (pss_one (ps_ret pe_bl)) pss_nil))))))))))
      (pss_one (ps_ret pe_bl))))), ?_⟩
  refine ⟨rfl, fun H1 s1 => ⟨_, rfl, iteF ?_⟩⟩
  have seq1 := Same.seq s1 seq
  obtain ⟨n, hn0, hn4, hn⟩ : ∃ n : Int, 0 ≤ n ∧ n ≤ 4 ∧ (if (if (4 : Int) < ((ns.map V.int).length : Nat) then (4 : Int) else ((ns.map V.int).length : Nat)) > 1 then (if (4 : Int) < ((ns.map V.int).length : Nat) then (4 : Int) else ((ns.map V.int).length : Nat)) else 1) = n := by
    refine ⟨_, ?_, ?_, rfl⟩ <;> (split <;> split <;> omega)
  refine ⟨_, rfl, a, _, rfl, .inl seq1, _, _, rfl, _, _, rfl, ?_⟩
  rw [hn]
  refine ⟨n, rfl, by omega, by omega, ?_⟩
  refine for_it (walk_range (lo := 0) (n := n.toNat)) (fun i σ G => ∃ (x1 x2 x3 x4 x5 x6 x7 : Option V), σ = [some (.ref a), x1, x2, x3, x4, x5, x6, x7] ∧ Same H1 G) ?_ (fun _ _ _ _ _ => trivial) ?_ ?_
  · exact ⟨_, _, _, _, _, _, _, rfl, Same.refl _⟩
  · rintro i x σ J0 J1 hi ⟨x1, x2, x3, x4, x5, x6, x7, rfl, sJ⟩ ⟨rfl, rfl⟩
    refine ⟨_, rfl, _, rfl, a, 0 + (i : Int), ns, rfl, Same.seq sJ seq1, by omega, by omega, fun p G0 s2 hpn hp => ?_⟩
    have pn : J1 p = none := hpn
    refine ⟨_, rfl, p, 4, rfl, hp, by decide, by decide, fun many G1 hm0 hm1 e1 => ?_⟩
    have hAl1 : Al (oneA p) G1 := fun x hx => by rw [hx]; exact e1.pot.held
    refine ⟨_, rfl, p, oneA p, rfl, e1.pot, rfl, hAl1, fun ds cs v1 v2 t G2 hds hdl hcs hcl hr1 hr2 ht e2 => ?_⟩
    refine ⟨t, _, rfl, SqT.of ht, rfl, _, _, rfl, _, _, rfl, rfl, ?_⟩
    have two0 : Two p 0 (.list ds) (.list cs) v1 v2 G2 := by
      refine ⟨hr1, hr2, ?_, ?_⟩
      · exact (Ok.list (fun d hd => (hds d hd).ok.mono (show 3 ≤ 12 by decide) (Nat.le_refl _) (Nat.le_refl _)) (Nat.le_trans hdl (by decide))).mono (Nat.le_refl _) (by decide) (by show ds.length * 912 + 4 ≤ 9130; omega)
      · exact (Ok.list (fun d hd => (hcs d hd).ok) (Nat.le_trans hcl (by decide))).mono (Nat.le_refl _) (by decide) (by show cs.length * 78502 + 4 ≤ 471100; omega)
    refine ⟨_, rfl, many, rfl, by omega, by omega, ?_⟩
    have e02 := e1.trans e2
    refine for_it (walk_range (lo := 0) (n := many.toNat)) (fun j σ G => ∃ (dS dC : PyData) (v4 v5 : V) (x6 x7 : Option V), σ = [some (.ref a), some (.int (0 + (i : Int))), some (.ref p), some (.int many), some v4, some v5, x6, x7] ∧ Ev p G0 G ∧ Two p j dS dC v4 v5 G) ?_ (fun _ _ _ _ _ => trivial) ?_ ?_
    · exact ⟨_, _, _, _, _, _, rfl, e02, two0⟩
    · rintro j x σ L0 L1 hj ⟨dS, dC, v4, v5, x6, x7, rfl, eL, tw⟩ ⟨rfl, rfl⟩
      have hj3 : j < 3 := by omega
      obtain ⟨w1, w2, w3, w4, w5, w6⟩ := mW_step hj3
      have hAlL : Al (oneA p) L1 := fun x hx => by rw [hx]; exact eL.pot.held
      refine ⟨_, rfl, isiL (tw.r4.rp (S := oneA p) (p := p) rfl) ⟨_, rfl, ?_⟩⟩
      cases dS with
      | list dl =>
        refine iteT ⟨_, rfl, p, 2, rfl, eL.pot, by decide, by decide, fun r L2' h0 h1 e3 => ⟨rfl, _, rfl, ?_⟩⟩
        have tw2 := tw.ev e3
        have hAl2 : Al (oneA p) L2' := fun x hx => by rw [hx]; exact e3.pot.held
        refine ite2 (fun _ => ?_) (fun _ => ?_)
        · refine ⟨_, rfl, _, rfl, p, v4, oneA p, dl, mL j, mD j, mWs j, rfl, e3.pot, rfl, hAl2, tw2.r4, tw2.o4, by unfold mL; omega, by unfold mL; omega, by unfold mD; omega, fun d v G' hok hr e => ?_⟩
          exact ⟨d, dC, v, v5, _, _, rfl, (eL.trans e3).trans e, ⟨hr, tw2.r5.mono (e.kpS (S := oneA p) rfl), hok.mono (by unfold mL; omega) (by unfold mD; omega) w1, tw2.o5.next w4⟩⟩
        · exact crew_step (p := p) (i := j) rfl rfl rfl e3.pot hj3 tw2 (fun dC' v5' G' e t' => ⟨_, dC', _, v5', _, _, rfl, (eL.trans e3).trans e, t'⟩) (fun G' eG t' => ⟨_, _, _, _, _, _, rfl, by rw [eG]; exact eL.trans e3, t'⟩)
      | _ => exact iteF (crew_step (p := p) (i := j) rfl rfl rfl eL.pot hj3 tw (fun dC' v5' G' e t' => ⟨_, dC', _, v5', _, _, rfl, eL.trans e, t'⟩) (fun G' eG t' => ⟨_, _, _, _, _, _, rfl, by rw [eG]; exact eL, t'⟩))
    · rintro σ L0 ⟨dS, dC, v4, v5, x6, x7, rfl, eL, tw⟩
      have hj' : many.toNat ≤ 3 := by omega
      obtain ⟨f1, f2, f3, f4⟩ := tw.fit4 hj'
      refine ⟨_, rfl, _, rfl, by show 2 ≤ sizeLine; decide, fun l hl => ?_⟩
      obtain ⟨g1, g2, g3, g4⟩ := pair_facts tw hj' eL.pot hl
      refine ⟨p, .list [dS, dC], l, rfl, g1, g2, g3, g4, ?_⟩
      clear g1
      have sl := Same.new (o := .lst [v4, v5]) hl
      have eM := eL.same sl
      have twM := tw.ev (Ev.of eL.pot sl)
      have eLM := Ev.of eL.pot sl
      revert eM eLM twM
      generalize upd L0 l (.lst [v4, v5]) = M0
      intro eM twM eLM
      refine ⟨2, rfl, by decide, by decide, ?_⟩
      refine for_it (walk_range (lo := 0) (n := 2)) (fun j σ G => ∃ (x6 : Option V), σ = [some (.ref a), some (.int (0 + (i : Int))), some (.ref p), some (.int many), some v4, some v5, x6, some (.str (PyData.list [dS, dC]).shown)] ∧ Ev p M0 G) ?_ (fun _ _ _ _ _ => trivial) ?_ ?_
      · exact ⟨_, rfl, Ev.refl eM.pot⟩
      · rintro j x σ N0 N1 hj ⟨x6, rfl, eN⟩ ⟨rfl, rfl⟩
        have twN := twM.ev eN
        refine ⟨_, rfl, _, rfl, p, dS, dC, v4, v5, rfl, twN.r4.rp (S := oneA p) rfl, twN.r5.rp (S := oneA p) rfl, f1, f2, f3, f4, eN.pot.held, fun N2 u2 t2 a2 => ?_⟩
        have e2' := Ev.of eN.pot t2
        have tw2 := twN.ev e2'
        refine ⟨_, rfl, _, rfl, p, dS, dC, v4, v5, rfl, tw2.r4.rp (S := oneA p) rfl, tw2.r5.rp (S := oneA p) rfl, f1, f2, f3, f4, e2'.pot.held, fun N3 u3 t3 a3 => ?_⟩
        refine ⟨_, _, ans_dp (a2.mono t3), ans_dp a3, ans_shaped f1 f2, ans_shaped f1 f2, false, congrArg V.bl (by rw [ans_eq]; rfl), iteF ?_⟩
        have e3' := e2'.same t3
        refine ⟨_, rfl, _, rfl, by show 2 ≤ sizeLine; decide, fun l' hl' => ?_⟩
        obtain ⟨k1, _, _, _⟩ := pair_facts (tw2.ev (Ev.of e2'.pot t3)) hj' e3'.pot hl'
        refine ⟨p, .list [dS, dC], l', rfl, k1, g2, g3, g4, ?_⟩
        refine ⟨_, rfl, ?_⟩
        refine ⟨rfl, false, congrArg V.bl (by simp), iteF ?_⟩
        exact ⟨_, rfl, (eN.trans e3').same (Same.new hl')⟩
      · rintro σ N0 ⟨x6, rfl, eN⟩
        exact ⟨_, _, _, _, _, _, _, rfl, Same.trans sJ fun b o h => ((eL.trans eLM).trans eN).kp b o (s2 b o h) (ne_of_none h pn)⟩
  · rintro σ G ⟨x1, x2, x3, x4, x5, x6, x7, rfl, sG⟩
    rfl
end
end K12
namespace K12
open PySem PySem.Spec PyProof.Rows L2
section
variable {P : Program} {w : World} {K : PySem.W.Frag} {mg : Str → Option Value} {base : Heap}
theorem law_all (T : Tx w K mg) (U : Ty w K mg) (Z : Tz w K mg) (hsys : ∃ o, K.lookup sysModules = some o) {z : Shared} {H : Hp} {cdv : Value} {fa a : Addr} {ns : List Int} (seq : SqL K H a (ns.map V.int)) (few : ns.length ≤ 63)
    (hr : Room 32 (callerA.deeper (envOfC "law" (defScope (top 83)) z.heap.objs.size fa cdv))) :
    ∃ t, PSs (cxOf CX0 P w K mg base N_law "law" (defScope (top 83)) fa cdv callerA [] z H fun _ _ _ => False) (defBody (top 83)) t ∧ t { nx := fun _ _ => False, rt := fun v _ => v = .bl true } (start N_law [.ref a]) H := by
  have take : Cl P w K mg base CX0 1 "_law_take" spTake := ok__law_take T
  have odd := ok__law_odd T take
  have inn : Cl P w K mg base CX0 1 "_law_in" spGIn := ok__law_in T
  have oddT := ok__law_odd_thing T take
  have deedsX := ok__law_struck_deeds T take odd inn
  have sorts : Cl P w K mg base CX0 1 "_law_sorts" spSorts := ok__law_sorts T
  have name := ok__law_name T take
  have thing := ok__law_thing T take name
  have stuff := ok__law_stuff T take thing
  have hask : Cl P w K mg base CX0 1 "_law_has_kind" spHas := ok__law_has_kind T
  have are := ok__law_are_some T sorts hask
  have gdeed : Cl P w K mg base CX0 6 "_law_deed" (spGDeed true) := gdeed_ok T
  have gdeeds := ok__law_deeds T take are gdeed
  have prog := ok__law_program T take name sorts stuff gdeeds
  have excN : ExcC P w K mg base 1 "NoProgram" (He.ga K "NoProgram") (spNP K) := exc_NoProgram U
  have word : Cl P w K mg base CX0 1 "is_word" (spLook isWord) := ok_is_word T
  have isn := ok_is_name T word
  have num : Cl P w K mg base CX0 1 "is_number" spNum := ok_is_number T
  have dd : Cl P w K mg base CX0 27 "is_deed" (spDeed 12) := deeds_ok T 12
  have last := ok_is_last_deed T 27 12 dd
  have who : Cl P w K mg base CX0 1 "who_is" spWho := ok_who_is T
  have want := ok_want_name T excN isn who
  have kinds := ok_kinds_of T 28 (by decide) excN want (ok_is_kind T) (ok_is_size T num)
  have tasks := ok_with_tasks T 28 (by decide) excN want
  have wdeeds := ok_want_deeds T 28 27 (by decide) (by decide) excN dd last
  have make := make_Program T U 29 (by decide) kinds tasks wdeeds
  have answer := ok__law_answer T U Z 30 make
  have lnum : Cl P w K mg base CX0 1 "_law_is_number" spNum := ok__law_is_number T
  have lname : Cl P w K mg base CX0 1 "_law_is_name" (spLook isName) := ok__law_is_name T
  have lwho : Cl P w K mg base CX0 1 "_law_who" spWho := ok__law_who T
  have lbn := ok__law_bad_name T lname lwho
  have lbs := ok__law_bad_size T lnum
  have lbt := ok__law_bad_thing T lbn lbs
  have lbk := ok__law_bad_task T lbn
  have ldd : Cl P w K mg base CX0 27 "_law_is_deed" (spDeed 12) := ldeeds_ok T 12
  have lbd := ok__law_bad_deeds T 27 27 (Nat.le_refl _) ldd
  have due := ok__law_due T 28 (by decide) lbt lbk lbd
  exact law_body T hsys (ok__law_errors_right T U Z) (ok__law_pot T) take prog (ok__law_struck_stuff T take odd inn oddT) (ok__law_struck_crew T take odd inn deedsX) answer due seq few hr
end
end K12
namespace K12
open PySem PySem.Spec PyProof.Rows L2
/-! ### facts of the written part, as Bools -/
theorem tupAt_ok {K : PySem.W.Frag} {t : Addr} {vs : List V} (h : tupAt K t vs = true) (H : Hp) : SqT K H t vs := by
  unfold tupAt at h
  split at h
  · rename_i c od its n sl q
    simp only [Bool.and_eq_true, decide_eq_true_eq] at h
    exact .inr ⟨_, its, n, q, congrArg Value.type h.1, rfl, h.2.1, He.relAll_ok h.2.2⟩
  · cases h
theorem ktB_ok {K : PySem.W.Frag} {w : World} {x : Str} {kvs : List (Str × List V)} (kd : ∃ es n, KDict K w (He.ga K x) es n) (h : ktB K x kvs = true) : KTab K w x kvs := by
  unfold ktB at h
  split at h
  · rename_i c od es n sl q
    simp only [Bool.and_eq_true, decide_eq_true_eq] at h
    obtain ⟨h1, h2⟩ := h
    refine ⟨kd, fun z hz => ?_, fun z vs hz => ?_⟩
    · have key : ∀ e ∈ es.toList, ∃ y t, e.key = .str y t ∧ ∃ vs, (y, vs) ∈ kvs := fun e he => by
        have hm : (He.keyOf e).map (·.1) ∈ kvs.map fun q => some q.1 := by rw [← h1]; exact List.mem_map_of_mem he
        obtain ⟨p, hp, hpe⟩ := List.mem_map.mp hm
        unfold He.keyOf at hpe
        split at hpe
        · rename_i y t ek
          cases hpe
          exact ⟨p.1, t, ek, p.2, hp⟩
        · cases hpe
      have ne : ∀ e ∈ es.toList, e.key.isStr z = false ∧ e.refKey = false := fun e he => by
        obtain ⟨y, t, ek, vs, hm⟩ := key e he
        have hy : y ≠ z := fun eq => by
          have := List.lookup_eq_none_iff.mp hz (y, vs) hm
          rw [eq] at this; simp at this
        refine ⟨?_, ?_⟩
        · rw [ek]; exact beq_eq_false_iff_ne.mpr hy
        · unfold DictEntry.refKey; rw [ek]
      unfold PySem.W.nsIn
      rw [q]
      have f1 : es.toList.find? (fun e => e.key.isStr z) = none := List.find?_eq_none.mpr fun e he => by rw [(ne e he).1]; decide
      have f2 : es.toList.any (fun e => e.refKey) = false := List.any_eq_false.mpr fun e he => by rw [(ne e he).2]; decide
      simp only [f1, f2]; rfl
    · have hm : (z, vs) ∈ kvs := by
        clear h1 h2
        induction kvs with
        | nil => cases hz
        | cons p r ih =>
          obtain ⟨y, us⟩ := p
          rw [List.lookup_cons] at hz
          by_cases e : (z == y) = true
          · rw [e] at hz; cases hz; rw [beq_iff_eq.mp e]; exact List.mem_cons_self
          · rw [Bool.not_eq_true] at e; rw [e] at hz; exact List.mem_cons_of_mem _ (ih hz)
      have h3 := List.all_eq_true.mp h2 (z, vs) hm
      simp only at h3
      split at h3
      · rename_i t e; exact ⟨t, e, fun H => tupAt_ok h3 H⟩
      · cases h3
  · cases h
theorem ixB_ok {K : PySem.W.Frag} {C : Addr} (h : ixB K C = true) : IxK K C := by
  unfold ixB He.eqO at h
  simp only [Bool.and_eq_true, decide_eq_true_eq] at h
  obtain ⟨h1, h2, h3, h4, h5, h6, h7, h8⟩ := h
  exact ⟨h1, h2, h3, h4, h5, h6, h7, h8⟩
theorem oxB_ok {K : PySem.W.Frag} {C : Addr} {B nw ni : String} {bm : List Value} (F : ExcBaseFacts B nw ni bm) (S : StoreFacts B bm "object.__setattr__" "object") (h : oxB K C bm nw = true) : OxK K C nw ni := by
  unfold oxB He.eqO at h
  simp only [Bool.and_eq_true, decide_eq_true_eq] at h
  obtain ⟨h0, h1, h2, h3, h4, h5⟩ := h
  have I := ixB_ok h0
  exact ⟨⟨B, bm, F, S, h1, h2⟩, h3, I.hd, I.exC, h4, h5, I.ga, I.gg, I.ca, I.cg, I.ct, I.cm⟩
theorem clsB_ok {K : PySem.W.Frag} {c : Value} {n : String} (h : clsB K c n = true) : PySem.W.findCls K c (.type "type") "__init__" = some (.val (.builtin n)) := by
  unfold clsB at h
  split at h
  · rename_i m e; rw [e, beq_iff_eq.mp h]
  · cases h
theorem kitB1_ok {K : PySem.W.Frag} {x : Str} {c : Value} {b : Bool} (h : kitB1 K x c b = true) : PySem.W.kitOne K (.ref (He.ga K x)) c = some b := of_decide_eq_true h
end K12
namespace K12
open PySem PySem.Spec PyProof.Rows L2
theorem exY {K : PySem.W.Frag} (e : exB K = true) (i : Nat) {f : PySem.W.Frag → Bool} (h : exYs[i]? = some f) : f K = true := List.all_eq_true.mp e f (List.mem_of_getElem? h)
section
variable {w : World} {K : PySem.W.Frag} {h : Heap} {mg : Str → Option Value} {fa : List He.Fa} {fn : List He.DefD}
theorem df_of {d : He.DefD} (X : K.In h) (G : h.Ns mainGlobals mg) (c : He.SaysD fa fn K) {x : Str} {i' : Nat} (i : Nat) (e : fn[i]? = some (fdef x i')) (g : (He.Fa.glo x).ok K = true) (hd : d = fdef x i' := by rfl) : Df K mg x (top i') := by
  obtain ⟨fd, F⟩ := c.def_ i e
  exact ⟨_, fd, F, He.glo_ok X G g⟩
theorem mf_of (c : He.SaysD fa fn K) {x q : Str} {i j : Nat} (n : Nat) (e : fn[n]? = some (mdef x q i j)) (g : (He.Fa.meth x "__init__").ok K = true) : Mf K (He.ga K x) q (cbody i j) := by
  obtain ⟨fd, F⟩ := c.def_ n e
  obtain ⟨g1, g2⟩ := He.ba g
  obtain ⟨g3, g4⟩ := He.ba g2
  exact ⟨_, fd, F, He.eqO_ok g1, g3⟩
theorem mkr_two {x : Str} (g : (He.Fa.mkr x).ok K = true) : PySem.W.makesIn K (He.ga K x) = true ∧ PySem.W.keepIn K (.ref (He.ga K x)) = true := by
  obtain ⟨g1, g2⟩ := He.ba g
  obtain ⟨g3, g4⟩ := He.ba g2
  exact ⟨g1, (He.ba g4).2⟩
end

section
variable {w : World} {K : PySem.W.Frag} {h : Heap} {mg : Str → Option Value}
theorem mkTx (X : K.In h) (G : h.Ns mainGlobals mg) (c : He.SaysT faY fnY tsY w K) (e : exB K = true) : Tx w K mg where
  f_isinstance := He.free_ok X G (c.d.fact 0 (f := .free "isinstance") rfl)
  f_str := He.free_ok X G (c.d.fact 1 (f := .free "str") rfl)
  f_all := He.free_ok X G (c.d.fact 2 (f := .free "all") rfl)
  f_len := He.free_ok X G (c.d.fact 3 (f := .free "len") rfl)
  f_enumerate := He.free_ok X G (c.d.fact 4 (f := .free "enumerate") rfl)
  f_list := He.free_ok X G (c.d.fact 5 (f := .free "list") rfl)
  f_dict := He.free_ok X G (c.d.fact 6 (f := .free "dict") rfl)
  f_zip := He.free_ok X G (c.d.fact 7 (f := .free "zip") rfl)
  f_tuple := He.free_ok X G (c.d.fact 8 (f := .free "tuple") rfl)
  f_int := He.free_ok X G (c.d.fact 9 (f := .free "int") rfl)
  f_bool := He.free_ok X G (c.d.fact 10 (f := .free "bool") rfl)
  f_range := He.free_ok X G (c.d.fact 11 (f := .free "range") rfl)
  f_abs := He.free_ok X G (c.d.fact 12 (f := .free "abs") rfl)
  f_max := He.free_ok X G (c.d.fact 13 (f := .free "max") rfl)
  f_divmod := He.free_ok X G (c.d.fact 14 (f := .free "divmod") rfl)
  f_min := He.free_ok X G (c.d.fact 15 (f := .free "min") rfl)
  f_any := He.free_ok X G (c.d.fact 16 (f := .free "any") rfl)
  f_repr := He.free_ok X G (c.d.fact 17 (f := .free "repr") rfl)
  f_LookupError := He.free_ok X G (c.d.fact 18 (f := .free "LookupError") rfl)
  f_RuntimeError := He.free_ok X G (c.d.fact 19 (f := .free "RuntimeError") rfl)
  f_ArithmeticError := He.free_ok X G (c.d.fact 20 (f := .free "ArithmeticError") rfl)
  f_ValueError := He.free_ok X G (c.d.fact 21 (f := .free "ValueError") rfl)
  i_MOST_LETTERS := He.int_ok X G (c.d.fact 22 (f := .int "MOST_LETTERS" 8) rfl)
  i_MOST_NUMBER := He.int_ok X G (c.d.fact 23 (f := .int "MOST_NUMBER" 1000) rfl)
  i_MOST_MANY := He.int_ok X G (c.d.fact 24 (f := .int "MOST_MANY" 12) rfl)
  i_MOST_TICKS := He.int_ok X G (c.d.fact 25 (f := .int "MOST_TICKS" 9) rfl)
  i_MOST_THINGS := He.int_ok X G (c.d.fact 26 (f := .int "MOST_THINGS" 10) rfl)
  i_MOST_TASKS := He.int_ok X G (c.d.fact 27 (f := .int "MOST_TASKS" 6) rfl)
  i_MOST_BODY := He.int_ok X G (c.d.fact 28 (f := .int "MOST_BODY" 12) rfl)
  i_MOST_LAST := He.int_ok X G (c.d.fact 29 (f := .int "MOST_LAST" 4) rfl)
  s_LETTERS := He.str_ok X G (c.d.fact 30 (f := .str "LETTERS" "abcdefghijklmnopqrstuvwxyz") rfl)
  s_TICK := He.str_ok X G (c.d.fact 31 (f := .str "TICK" "tick") rfl)
  s_NUMBER := He.str_ok X G (c.d.fact 32 (f := .str "NUMBER" "number") rfl)
  s_MANY := He.str_ok X G (c.d.fact 33 (f := .str "MANY" "many") rfl)
  s_TICKS := He.str_ok X G (c.d.fact 34 (f := .str "TICKS" "ticks") rfl)
  s_NAME := He.str_ok X G (c.d.fact 35 (f := .str "NAME" "name") rfl)
  s_DEED := He.str_ok X G (c.d.fact 36 (f := .str "DEED" "deed") rfl)
  s_TASK := He.str_ok X G (c.d.fact 37 (f := .str "TASK" "task") rfl)
  s_BELL := He.str_ok X G (c.d.fact 38 (f := .str "BELL" "bell") rfl)
  g_LOCKS := He.glo_ok X G (c.d.fact 39 (f := .glo "LOCKS") rfl)
  q_LOCKS := tupAt_ok (exY e 0 (f := fun K => tupAt K (He.ga K "LOCKS") tupLOCKS) rfl)
  g_LASTS := He.glo_ok X G (c.d.fact 40 (f := .glo "LASTS") rfl)
  q_LASTS := tupAt_ok (exY e 1 (f := fun K => tupAt K (He.ga K "LASTS") tupLASTS) rfl)
  g_WITHINS := He.glo_ok X G (c.d.fact 41 (f := .glo "WITHINS") rfl)
  q_WITHINS := tupAt_ok (exY e 2 (f := fun K => tupAt K (He.ga K "WITHINS") tupWITHINS) rfl)
  g_BOUNDS := He.glo_ok X G (c.d.fact 42 (f := .glo "BOUNDS") rfl)
  k_BOUNDS := ktB_ok (c.tab 0 (t := (fun K => He.ga K "BOUNDS", keysBOUNDS)) rfl) (exY e 3 (f := fun K => ktB K "BOUNDS" tabBOUNDS) rfl)
  g_PARTS := He.glo_ok X G (c.d.fact 43 (f := .glo "PARTS") rfl)
  k_PARTS := ktB_ok (c.tab 1 (t := (fun K => He.ga K "PARTS", keysPARTS)) rfl) (exY e 4 (f := fun K => ktB K "PARTS" tabPARTS) rfl)
  g_SIZES := He.glo_ok X G (c.d.fact 44 (f := .glo "SIZES") rfl)
  k_SIZES := ktB_ok (c.tab 2 (t := (fun K => He.ga K "SIZES", keysSIZES)) rfl) (exY e 5 (f := fun K => ktB K "SIZES" tabSIZES) rfl)
  d__wall := df_of X G c.d (d := fdef "_wall" 0) 0 rfl (c.d.fact 45 (f := .glo "_wall") rfl)
  d_is_word := df_of X G c.d (d := fdef "is_word" 19) 1 rfl (c.d.fact 46 (f := .glo "is_word") rfl)
  d_is_name := df_of X G c.d (d := fdef "is_name" 20) 2 rfl (c.d.fact 47 (f := .glo "is_name") rfl)
  d_is_number := df_of X G c.d (d := fdef "is_number" 21) 3 rfl (c.d.fact 48 (f := .glo "is_number") rfl)
  d_is_of_kind := df_of X G c.d (d := fdef "is_of_kind" 22) 4 rfl (c.d.fact 49 (f := .glo "is_of_kind") rfl)
  d_is_part := df_of X G c.d (d := fdef "is_part" 23) 5 rfl (c.d.fact 50 (f := .glo "is_part") rfl)
  d_is_deed := df_of X G c.d (d := fdef "is_deed" 24) 6 rfl (c.d.fact 51 (f := .glo "is_deed") rfl)
  d_is_last_deed := df_of X G c.d (d := fdef "is_last_deed" 25) 7 rfl (c.d.fact 52 (f := .glo "is_last_deed") rfl)
  d_who_is := df_of X G c.d (d := fdef "who_is" 43) 8 rfl (c.d.fact 53 (f := .glo "who_is") rfl)
  d_want_name := df_of X G c.d (d := fdef "want_name" 44) 9 rfl (c.d.fact 54 (f := .glo "want_name") rfl)
  d_is_kind := df_of X G c.d (d := fdef "is_kind" 45) 10 rfl (c.d.fact 55 (f := .glo "is_kind") rfl)
  d_is_size := df_of X G c.d (d := fdef "is_size" 46) 11 rfl (c.d.fact 56 (f := .glo "is_size") rfl)
  d_kinds_of := df_of X G c.d (d := fdef "kinds_of" 47) 12 rfl (c.d.fact 57 (f := .glo "kinds_of") rfl)
  d_with_tasks := df_of X G c.d (d := fdef "with_tasks" 48) 13 rfl (c.d.fact 58 (f := .glo "with_tasks") rfl)
  d_want_deeds := df_of X G c.d (d := fdef "want_deeds" 49) 14 rfl (c.d.fact 59 (f := .glo "want_deeds") rfl)
  d__law_pot := df_of X G c.d (d := fdef "_law_pot" 52) 15 rfl (c.d.fact 60 (f := .glo "_law_pot") rfl)
  d__law_take := df_of X G c.d (d := fdef "_law_take" 53) 16 rfl (c.d.fact 61 (f := .glo "_law_take") rfl)
  d__law_name := df_of X G c.d (d := fdef "_law_name" 54) 17 rfl (c.d.fact 62 (f := .glo "_law_name") rfl)
  d__law_sorts := df_of X G c.d (d := fdef "_law_sorts" 55) 18 rfl (c.d.fact 63 (f := .glo "_law_sorts") rfl)
  d__law_thing := df_of X G c.d (d := fdef "_law_thing" 56) 19 rfl (c.d.fact 64 (f := .glo "_law_thing") rfl)
  d__law_stuff := df_of X G c.d (d := fdef "_law_stuff" 57) 20 rfl (c.d.fact 65 (f := .glo "_law_stuff") rfl)
  d__law_part := df_of X G c.d (d := fdef "_law_part" 58) 21 rfl (c.d.fact 66 (f := .glo "_law_part") rfl)
  d__law_has_kind := df_of X G c.d (d := fdef "_law_has_kind" 59) 22 rfl (c.d.fact 67 (f := .glo "_law_has_kind") rfl)
  d__law_are_some := df_of X G c.d (d := fdef "_law_are_some" 60) 23 rfl (c.d.fact 68 (f := .glo "_law_are_some") rfl)
  d__law_deed := df_of X G c.d (d := fdef "_law_deed" 61) 24 rfl (c.d.fact 69 (f := .glo "_law_deed") rfl)
  d__law_deeds := df_of X G c.d (d := fdef "_law_deeds" 62) 25 rfl (c.d.fact 70 (f := .glo "_law_deeds") rfl)
  d__law_program := df_of X G c.d (d := fdef "_law_program" 63) 26 rfl (c.d.fact 71 (f := .glo "_law_program") rfl)
  d__law_is_name := df_of X G c.d (d := fdef "_law_is_name" 64) 27 rfl (c.d.fact 72 (f := .glo "_law_is_name") rfl)
  d__law_is_number := df_of X G c.d (d := fdef "_law_is_number" 65) 28 rfl (c.d.fact 73 (f := .glo "_law_is_number") rfl)
  d__law_is_part := df_of X G c.d (d := fdef "_law_is_part" 66) 29 rfl (c.d.fact 74 (f := .glo "_law_is_part") rfl)
  d__law_is_deed := df_of X G c.d (d := fdef "_law_is_deed" 67) 30 rfl (c.d.fact 75 (f := .glo "_law_is_deed") rfl)
  d__law_who := df_of X G c.d (d := fdef "_law_who" 68) 31 rfl (c.d.fact 76 (f := .glo "_law_who") rfl)
  d__law_bad_name := df_of X G c.d (d := fdef "_law_bad_name" 69) 32 rfl (c.d.fact 77 (f := .glo "_law_bad_name") rfl)
  d__law_bad_size := df_of X G c.d (d := fdef "_law_bad_size" 70) 33 rfl (c.d.fact 78 (f := .glo "_law_bad_size") rfl)
  d__law_bad_thing := df_of X G c.d (d := fdef "_law_bad_thing" 71) 34 rfl (c.d.fact 79 (f := .glo "_law_bad_thing") rfl)
  d__law_bad_task := df_of X G c.d (d := fdef "_law_bad_task" 72) 35 rfl (c.d.fact 80 (f := .glo "_law_bad_task") rfl)
  d__law_bad_deeds := df_of X G c.d (d := fdef "_law_bad_deeds" 73) 36 rfl (c.d.fact 81 (f := .glo "_law_bad_deeds") rfl)
  d__law_due := df_of X G c.d (d := fdef "_law_due" 74) 37 rfl (c.d.fact 82 (f := .glo "_law_due") rfl)
  d__law_odd := df_of X G c.d (d := fdef "_law_odd" 75) 38 rfl (c.d.fact 83 (f := .glo "_law_odd") rfl)
  d__law_in := df_of X G c.d (d := fdef "_law_in" 76) 39 rfl (c.d.fact 84 (f := .glo "_law_in") rfl)
  d__law_odd_thing := df_of X G c.d (d := fdef "_law_odd_thing" 77) 40 rfl (c.d.fact 85 (f := .glo "_law_odd_thing") rfl)
  d__law_struck_stuff := df_of X G c.d (d := fdef "_law_struck_stuff" 78) 41 rfl (c.d.fact 86 (f := .glo "_law_struck_stuff") rfl)
  d__law_struck_deeds := df_of X G c.d (d := fdef "_law_struck_deeds" 79) 42 rfl (c.d.fact 87 (f := .glo "_law_struck_deeds") rfl)
  d__law_struck_crew := df_of X G c.d (d := fdef "_law_struck_crew" 80) 43 rfl (c.d.fact 88 (f := .glo "_law_struck_crew") rfl)
  d__law_answer := df_of X G c.d (d := fdef "_law_answer" 81) 44 rfl (c.d.fact 89 (f := .glo "_law_answer") rfl)
  d__law_errors_right := df_of X G c.d (d := fdef "_law_errors_right" 82) 45 rfl (c.d.fact 90 (f := .glo "_law_errors_right") rfl)
  d_law := df_of X G c.d (d := fdef "law" 83) 46 rfl (c.d.fact 91 (f := .glo "law") rfl)
theorem mkTy (X : K.In h) (G : h.Ns mainGlobals mg) (c : He.SaysT faY fnY tsY w K) (e : exB K = true) : Ty w K mg where
  m_WeaveError := He.glo_ok X G (c.d.fact 92 (f := .glo "WeaveError") rfl)
  y_WeaveError := He.eqO_ok (exY e 6 (f := fun K => He.eqO (PySem.W.specialIn K (.ref (He.ga K "WeaveError")) "__getattribute__") (some (some (.builtin "type.__getattribute__")))) rfl)
  r_WeaveError := (exY e 7 (f := fun K => PySem.W.readsIn K (He.ga K "WeaveError") (.type "type")) rfl)
  i_WeaveError := clsB_ok (exY e 8 (f := fun K => clsB K (.ref (He.ga K "WeaveError")) "ValueError.__init__") rfl)
  f_LookupError := He.free_ok X G (c.d.fact 18 (f := .free "LookupError") rfl)
  i_LookupError := clsB_ok (exY e 9 (f := fun K => clsB K (.type "LookupError") "LookupError.__init__") rfl)
  f_RuntimeError := He.free_ok X G (c.d.fact 19 (f := .free "RuntimeError") rfl)
  i_RuntimeError := clsB_ok (exY e 10 (f := fun K => clsB K (.type "RuntimeError") "RuntimeError.__init__") rfl)
  f_ArithmeticError := He.free_ok X G (c.d.fact 20 (f := .free "ArithmeticError") rfl)
  i_ArithmeticError := clsB_ok (exY e 11 (f := fun K => clsB K (.type "ArithmeticError") "ArithmeticError.__init__") rfl)
  m_NoProgram := He.glo_ok X G (c.d.fact 93 (f := .glo "NoProgram") rfl)
  o_NoProgram := oxB_ok PySem.F.excBase_ValueError PySem.F.store_ValueError (exY e 12 (f := fun K => oxB K (He.ga K "NoProgram") [.type "ValueError", .type "Exception", .type "BaseException", .type "object"] "ValueError.__new__") rfl)
  n_NoProgram := mf_of c.d (x := "NoProgram") (q := "NoProgram.__init__") (i := 28) (j := 0) 47 rfl (c.d.fact 94 (f := .meth "NoProgram" "__init__") rfl)
  a_NoProgram := ⟨He.noat_ok (c.d.fact 95 (f := .noat "NoProgram" "what") rfl), He.noat_ok (c.d.fact 96 (f := .noat "NoProgram" "who") rfl)⟩
  m_NoText := He.glo_ok X G (c.d.fact 97 (f := .glo "NoText") rfl)
  o_NoText := oxB_ok PySem.F.excBase_ValueError PySem.F.store_ValueError (exY e 13 (f := fun K => oxB K (He.ga K "NoText") [.type "ValueError", .type "Exception", .type "BaseException", .type "object"] "ValueError.__new__") rfl)
  n_NoText := mf_of c.d (x := "NoText") (q := "NoText.__init__") (i := 29) (j := 0) 48 rfl (c.d.fact 98 (f := .meth "NoText" "__init__") rfl)
  a_NoText := He.noat_ok (c.d.fact 99 (f := .noat "NoText" "row") rfl)
  m_NoSuch := He.glo_ok X G (c.d.fact 100 (f := .glo "NoSuch") rfl)
  o_NoSuch := oxB_ok PySem.F.excBase_LookupError PySem.F.store_LookupError (exY e 14 (f := fun K => oxB K (He.ga K "NoSuch") [.type "LookupError", .type "Exception", .type "BaseException", .type "object"] "LookupError.__new__") rfl)
  n_NoSuch := mf_of c.d (x := "NoSuch") (q := "NoSuch.__init__") (i := 33) (j := 0) 49 rfl (c.d.fact 101 (f := .meth "NoSuch" "__init__") rfl)
  a_NoSuch := He.noat_ok (c.d.fact 102 (f := .noat "NoSuch" "who") rfl)
  m_CantGo := He.glo_ok X G (c.d.fact 103 (f := .glo "CantGo") rfl)
  o_CantGo := oxB_ok PySem.F.excBase_RuntimeError PySem.F.store_RuntimeError (exY e 15 (f := fun K => oxB K (He.ga K "CantGo") [.type "RuntimeError", .type "Exception", .type "BaseException", .type "object"] "RuntimeError.__new__") rfl)
  n_CantGo := mf_of c.d (x := "CantGo") (q := "CantGo.__init__") (i := 34) (j := 0) 50 rfl (c.d.fact 104 (f := .meth "CantGo" "__init__") rfl)
  a_CantGo := He.noat_ok (c.d.fact 105 (f := .noat "CantGo" "who") rfl)
  m_TooMany := He.glo_ok X G (c.d.fact 106 (f := .glo "TooMany") rfl)
  o_TooMany := oxB_ok PySem.F.excBase_ArithmeticError PySem.F.store_ArithmeticError (exY e 16 (f := fun K => oxB K (He.ga K "TooMany") [.type "ArithmeticError", .type "Exception", .type "BaseException", .type "object"] "ArithmeticError.__new__") rfl)
  n_TooMany := mf_of c.d (x := "TooMany") (q := "TooMany.__init__") (i := 35) (j := 0) 51 rfl (c.d.fact 107 (f := .meth "TooMany" "__init__") rfl)
  a_TooMany := He.noat_ok (c.d.fact 108 (f := .noat "TooMany" "limit") rfl)
  m_Program := He.glo_ok X G (c.d.fact 109 (f := .glo "Program") rfl)
  n_Program := mf_of c.d (x := "Program") (q := "Program.__init__") (i := 50) (j := 0) 52 rfl (c.d.fact 110 (f := .meth "Program" "__init__") rfl)
  k_Program := mkr_two (c.d.fact 111 (f := .mkr "Program") rfl)
  c_Program := He.cls_ok (c.d.fact 112 (f := .cls "Program") rfl)
  a_Program := ⟨He.noat_ok (c.d.fact 113 (f := .noat "Program" "kinds") rfl), He.noat_ok (c.d.fact 114 (f := .noat "Program" "own_things") rfl), He.noat_ok (c.d.fact 115 (f := .noat "Program" "own_tasks") rfl), He.noat_ok (c.d.fact 116 (f := .noat "Program" "own_sizes") rfl), He.noat_ok (c.d.fact 117 (f := .noat "Program" "own_parts") rfl)⟩
theorem mkTz (X : K.In h) (G : h.Ns mainGlobals mg) (c : He.SaysT faY fnY tsY w K) (e : exB K = true) : Tz w K mg where
  m_NoRow := He.glo_ok X G (c.d.fact 118 (f := .glo "NoRow") rfl)
  m_NoWeaver := He.glo_ok X G (c.d.fact 119 (f := .glo "NoWeaver") rfl)
  m_NoBack := He.glo_ok X G (c.d.fact 120 (f := .glo "NoBack") rfl)
  x_NoRow := (He.exc_ok (c.d.fact 121 (f := .exc "NoRow") rfl)).1
  x_NoWeaver := (He.exc_ok (c.d.fact 122 (f := .exc "NoWeaver") rfl)).1
  x_NoBack := (He.exc_ok (c.d.fact 123 (f := .exc "NoBack") rfl)).1
  p_NoRow := (He.exc_ok (c.d.fact 121 (f := .exc "NoRow") rfl)).2.1
  p_NoWeaver := (He.exc_ok (c.d.fact 122 (f := .exc "NoWeaver") rfl)).2.1
  p_NoBack := (He.exc_ok (c.d.fact 123 (f := .exc "NoBack") rfl)).2.1
  i_NoRow := ixB_ok (exY e 17 (f := fun K => ixB K (He.ga K "NoRow")) rfl)
  i_NoWeaver := ixB_ok (exY e 18 (f := fun K => ixB K (He.ga K "NoWeaver")) rfl)
  i_NoBack := ixB_ok (exY e 19 (f := fun K => ixB K (He.ga K "NoBack")) rfl)
  e_NP := He.exm_ok (c.d.fact 124 (f := .exm "NoProgram" "NoProgram" true) rfl)
  k_NP1 := kitB1_ok (exY e 20 (f := fun K => kitB1 K "NoProgram" (.ref (He.ga K "WeaveError")) true) rfl)
  k_NP2 := kitB1_ok (exY e 21 (f := fun K => kitB1 K "NoProgram" (.type "ValueError") true) rfl)
  k_NP3 := of_decide_eq_true (exY e 22 (f := fun K => decide (PySem.W.kitAny K (.ref (He.ga K "NoProgram")) [.ref (He.ga K "NoText"), .ref (He.ga K "NoRow"), .ref (He.ga K "NoWeaver"), .ref (He.ga K "NoBack"), .type "LookupError", .type "RuntimeError", .type "ArithmeticError"] = some false)) rfl)
  k_NoRow := kitB1_ok (exY e 23 (f := fun K => kitB1 K "NoRow" (.ref (He.ga K "WeaveError")) true) rfl)
  k_NoWeaver := kitB1_ok (exY e 24 (f := fun K => kitB1 K "NoWeaver" (.ref (He.ga K "WeaveError")) true) rfl)
  k_NoBack := kitB1_ok (exY e 25 (f := fun K => kitB1 K "NoBack" (.ref (He.ga K "WeaveError")) true) rfl)
  k_NoText := kitB1_ok (exY e 26 (f := fun K => kitB1 K "NoText" (.type "ValueError") true) rfl)
  k_NoSuch := kitB1_ok (exY e 27 (f := fun K => kitB1 K "NoSuch" (.type "LookupError") true) rfl)
  k_CantGo := kitB1_ok (exY e 28 (f := fun K => kitB1 K "CantGo" (.type "RuntimeError") true) rfl)
  k_TooMany := kitB1_ok (exY e 29 (f := fun K => kitB1 K "TooMany" (.type "ArithmeticError") true) rfl)
  n_NoSuch := kitB1_ok (exY e 30 (f := fun K => kitB1 K "NoSuch" (.ref (He.ga K "WeaveError")) false) rfl)
  n_CantGo := kitB1_ok (exY e 31 (f := fun K => kitB1 K "CantGo" (.ref (He.ga K "WeaveError")) false) rfl)
  n_TooMany := kitB1_ok (exY e 32 (f := fun K => kitB1 K "TooMany" (.ref (He.ga K "WeaveError")) false) rfl)
theorem mkSys (e : exB K = true) : ∃ o, K.lookup sysModules = some o := Option.isSome_iff_exists.mp (exY e 33 (f := fun K => (K.lookup sysModules).isSome) rfl)
end
end K12
namespace K12
open PySem PySem.Spec PyProof.Rows L2
theorem ob_eq (s : PySem.W.SharedT) : ob s = hookY.obs s.abs := by
  have e : HandSHeadRun.getT s = s.abs.heap.get? := funext (HandSHeadRun.getT_eq s)
  unfold ob
  rw [e]; rfl
end K12
namespace K12
open PySem PySem.Spec PyProof.Rows L2
end K12
namespace K12
open PySem PySem.Spec PyProof.Rows L2
theorem runAll (w : World) : HandSHeadRun.RunEq R (PySem.W.view R.prog [83]) hookY ob 6000 looseY w := PySem.W.byRow2 "special-get-raises" (P := HandSHeadRun.RunEq R (PySem.W.view R.prog [83]) hookY ob 6000 looseY) runF runT w
theorem walkY : PySem.W.WalkO (PySem.W.view R.prog [83]) looseY (PySem.W.XL (PySem.W.view R.prog [83]) []) hookY.says (PySem.W.OpenLaw.row PySem.Challenge.rw_weaveall_k12_whole_refused_in_order).toRowW (HandSHeadRun.topDef R.prog 83) [] (fun f vs => PySem.call f vs) := by
  refine Att.attach_call (l := PySem.Challenge.rw_weaveall_k12_whole_refused_in_order) (n := 63) rfl (by kernel_rfl) fun w s₀ s₁ mg mb fa o pm cd doc a vs ns G Y ho hd hcd hmg hobj hints hlen hg => ?_
  obtain ⟨K, KX, c, e⟩ := Y
  have name : (HandSHeadRun.topDef R.prog 83).name = ("law" : Str) := by kernel_rfl
  obtain ⟨fd, F⟩ := c.d.def_ (46) (d := fdef "law" 83) (by rfl)
  have gl := G.T.g
  have T := mkTx KX gl c e
  have U := mkTy KX gl c e
  have Z := mkTz KX gl c e
  have here : mg ("law" : Str) = some (.ref (He.ga K "law")) := He.glo_ok KX gl (c.d.fact 91 (f := .glo "law") rfl)
  have fae : fa = He.ga K "law" := by
    have h1 : mg (HandSHeadRun.topDef R.prog 83).name = some (.ref fa) := hmg
    rw [name, here] at h1
    cases h1; rfl
  subst fae
  have b := FunD.bindsA (ps := ["_law_script"]) F fun _ _ _ _ _ _ us hl => match us, hl with | [_], _ => rfl
  exact law_here F sc_law (fun s v => b s [v] rfl) KX gl G.T.b G.T.builtins G.T.nolimit hg hobj hints (Nat.le_trans hlen (by decide)) ⟨rfl, by decide, by decide⟩ fun base H cdv inB glB seq hr => law_all T U Z (mkSys e) seq hlen hr
end K12
open PySem PySem.W PySem.Calls PyProof.Rows
theorem PySem.Challenge.cw_weaveall_k12_whole_refused_in_order_holds : PySem.Challenge.rw_weaveall_k12_whole_refused_in_order.Holds := by
  w_on; o_law
  refine HandSHeadRun.head_any (r := OpenLaw.row PySem.Challenge.rw_weaveall_k12_whole_refused_in_order) (q := view (OpenLaw.row PySem.Challenge.rw_weaveall_k12_whole_refused_in_order).prog [83]) (H := K12.hookY) (ob := K12.ob) (M := 6000) (loose := K12.looseY)
    (d := HandSHeadRun.topDef (OpenLaw.row PySem.Challenge.rw_weaveall_k12_whole_refused_in_order).prog 83) (kwd := []) K12.ob_eq
    (by kernel_rfl) (fun s => by kernel_rfl) K12.runAll (by kernel_rfl) (by kernel_rfl) (by kernel_rfl) (by rfl) (by first | assumption | decide +kernel) (by decide +kernel) ⟨rfl, rfl, rfl, rfl, rfl, by decide +kernel⟩ ?hw ?hc
  case hw => w_witness2
  case hc => exact K12.walkY
