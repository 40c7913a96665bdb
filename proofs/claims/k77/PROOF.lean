import PyProof.Rows.All
import Wide.All
import OpenK.AllK
import Wide.FinOn
import HandS.ForMost
import HandS.HeadHook1
import HandS.HeadHook2
import HandS.Head0
import HandS.Head1
import HandS.Head2
import HandS.ExcField
import HandS.HeadEnd
import HandS.TupAny
import HandS.FStr
import HandS.IsInst
import HandS.Wide
import HandS.TupMul
import HandS.Deep
import HandS.Star
import HandS.Strs
import HandS.Flow
import HandS.RaiseMore
import HandS.Style
import HandS.Steps
import HandS.CallLocal
import HandS.Text
import HandS.Iter
import KE.GoesEnum
import HandS.Dict
import HandS.SetFor
import HandS.Codes
import HandS.Words
import HandS.OwnEq
import OpenK.KMeth
import HandS.ExcInit
import HandS.ExcIs
import HandS.WordsExc
import HandS.TryMany
import PyProof.ExcBaseAll.ArithmeticError
import KE.KExcIs
import HandS.ExcOwn
import HandS.Small
import PyProof.InstEq
import PyProof.NeKinds
import HandS.Defaults
import PyProof.ExcBaseAll.LookupError
import PyProof.ExcBaseAll.ValueError
import PySem.Challenge.RW_soleguest_k77_designs_side_by_side
set_option Elab.async false
set_option linter.all false
section
set_option maxRecDepth 100000
set_option maxHeartbeats 1000000
/-! The head: what a look at the written part tests, the hook. -/
namespace DL
open PySem PySem.Spec
open L2
def gwB (K : PySem.W.Frag) (gf : List Str) (gi : List (Str × Int)) (gs : List (Str × Str)) (gt : List (Str × List Str)) (go : List Str) : Bool :=
  gf.all (fun x => (He.Fa.free x).ok K) && (gi.all (fun p => (He.Fa.int p.1 p.2).ok K) && (gs.all (fun p => (He.Fa.str p.1 p.2).ok K) && (gt.all (fun p => (He.Fa.glo p.1).ok K && He.tupB K p.1 (p.2.map He.Dv.str)) && go.all (fun x => (He.Fa.glo x).ok K))))
def dfD (x : Str) (st : Stmt) : He.DefD := ⟨(x, none), x, x, defArgs st, defBody st, defScope st, [], []⟩
def dmD (c m q : Str) (st : Stmt) : He.DefD := ⟨(c, some m), m, q, defArgs st, defBody st, defScope st, [], []⟩
def refsT (tl : List Value) : List Value → Bool
  | [] => [] == tl
  | a :: r => (a :: r) == tl || (match a with
    | .ref _ => refsT tl r
    | _ => false)
def oexB (K : PySem.W.Frag) (C : Addr) (newId : String) (tl : List Value) : Bool := (match K.lookup C with
  | some ⟨.type "type", _, .cls cd, sl⟩ => (match cd.mro, sl.toList with
    | .ref C' :: bm, [_, _, _, _, some (.builtin n), _] => C' == C && (n == newId && (!cd.hasDel && (cd.hasDict && refsT tl bm)))
    | _, _ => false)
  | _ => false) && (decide (PySem.W.findIn K (.ref C) "__setattr__" = some (some (.builtin "object.__setattr__"))) && (decide (PySem.W.subIn K (.ref C) (.type "BaseException") = some true) && (decide (PySem.W.typeIn K (.ref C) = some (.type "type")) && PySem.W.keepIn K (.ref C))))
def deB (K : PySem.W.Frag) (c f : Str) : Bool := decide (PySem.W.findIn K (.ref (He.ga K c)) "__init__" = some (some (.ref (He.ma K (He.ga K c) "__init__")))) && (decide (PySem.W.typeIn K (.ref (He.ma K (He.ga K c) "__init__")) = some (.type "function")) && (decide (PySem.W.findIn K (.ref (He.ga K c)) f = some none) && (He.Fa.glo c).ok K))
def ex0B (K : PySem.W.Frag) (c : Str) (bmB : List Value) (newId : String) : Bool := PySem.W.excIn K (He.ga K c) bmB newId && ((He.Fa.glo c).ok K && (PySem.W.keepIn K (.ref (He.ga K c)) && (decide (PySem.W.subIn K (.ref (He.ga K c)) (.type "BaseException") = some true) && decide (PySem.W.typeIn K (.ref (He.ga K c)) = some (.type "type")))))
def excCB (K : PySem.W.Frag) (D : Addr) : Bool := xfB K D && (decide (PySem.W.findIn K (.ref D) "__class__" = some (some (.builtin "object.__class__"))) && (decide (PySem.W.specialIn K (.builtin "object.__class__") "__get__" = some (some (.builtin "getset_descriptor.__get__"))) && (decide (PySem.W.takesIn K (.builtin "object.__class__") = some true) && decide (PySem.W.mroIn K D (.type "object") = some true))))
def askB (K : PySem.W.Frag) (c : Str) : Bool := (He.Fa.cls c).ok K && (decide (PySem.W.findIn K (.ref (He.ga K c)) "__class__" = some (some (.builtin "object.__class__"))) && (decide (PySem.W.specialIn K (.builtin "object.__class__") "__get__" = some (some (.builtin "getset_descriptor.__get__"))) && (decide (PySem.W.takesIn K (.builtin "object.__class__") = some true) && decide (PySem.W.mroIn K (He.ga K c) (.type "object") = some true))))
def neB (K : PySem.W.Frag) (c : Str) : Bool := decide (PySem.W.findIn K (.ref (He.ga K c)) "__ne__" = some (some (.builtin "object.__ne__"))) && decide (PySem.W.mroIn K (He.ga K c) (.type "object") = some true)
abbrev AlE : Type := Bool × He.AlD
def obsEG (n : Nat) (xb : PySem.W.Frag → Bool) (fa : List He.Fa) (fn : List He.DefD) (g : Addr → Option Obj) : AlE := (xb (He.frG g (He.asD g n)), He.obsD fa fn (He.frG g (He.asD g n)))
def hookE (n : Nat) (xb : PySem.W.Frag → Bool) (fa : List He.Fa) (fn : List He.DefD) : PySem.W.Hook where
  α := AlE
  obs := fun s => obsEG n xb fa fn s.heap.get?
  val := fun _ => (true, He.valD fn)
  says := fun _ h => ∃ K : PySem.W.Frag, K.In h ∧ xb K = true ∧ He.SaysD fa fn K
  of := fun _ _ e => ⟨_, He.frG_in, congrArg (fun z : AlE => z.1) e, congrArg (fun z : AlE => z.2) e⟩
  keeps := fun _ _ _ ⟨K, hK, c⟩ k => ⟨K, PySem.W.Frag.In.keeps hK k, c⟩
theorem obsEG_eq {n : Nat} {xb fa fn} {g : Addr → Option Obj} {s : Shared} (h : ∀ a, g a = s.heap.get? a) : obsEG n xb fa fn g = (hookE n xb fa fn).obs s := by
  have e : g = s.heap.get? := funext h
  rw [e] <;> rfl
end DL

end

section
set_option maxRecDepth 100000
set_option maxHeartbeats 0
/-! k77: the head's run. -/
namespace W77
open PySem PySem.Spec L2 DL
def top (i : Nat) : Stmt := PySem.Challenge.pw_soleguest_k77_designs_side_by_side.main.body.getD i (.Pass ⟨0, 0, 0, 0⟩)
def tyB : List String := ["NoneType", "bool", "int", "str", "tuple", "list"]
def supX : Str → List Str
  | c => if c = "NotADesign" then ["NotADesign", "SetError"] else if c = "NotComparable" then ["NotComparable", "StateError"] else if c ∈ (["TooManyFields", "TooManyCalls", "TooManyViews", "TooManyFacts"] : List Str) then [c, "LimitError"] else []
def excX : List Str := ["NotADesign", "NotComparable", "TooManyFields", "TooManyCalls", "TooManyViews", "TooManyFacts"]
def clsX : List Str := ["NotADesign", "NotComparable", "LimitError"]
def isX : List Str := ["StateError", "SetError", "TooManyFields", "TooManyCalls", "TooManyViews", "TooManyFacts"]
def gf : List Str := ["str", "isinstance", "all", "len", "tuple", "enumerate", "int", "max", "set", "any", "abs", "range", "list"]
def gi : List (Str × Int) := [("LONGEST", 8), ("MOST_DEPTH", 20), ("MOST_LEAVES", 200), ("MOST_FIELDS", 4), ("MOST_MODES", 4), ("MOST_FACTS", 5), ("MOST_CALLS", 8), ("MOST_VIEWS", 4)]
def gs : List (Str × Str) := [("SIGNS_names", "abcdefghijklmnopqrstuvwxyz0123456789"), ("LETTERS", "abcdefghijklmnopqrstuvwxyz"), ("NONE", "none"), ("GIVEN", "given")]
def gt : List (Str × List Str) := [("SIGNS_forms", ["|", "&", "-", "^"]), ("SORTS", ["one", "many", "none"])]
def go : List Str := ["is_field_name", "is_name", "Design", "NotADesign", "NotComparable", "LimitError", "StateError", "SetError", "TooManyFields", "TooManyCalls", "TooManyViews", "TooManyFacts"]
abbrev tlLookupError : List Value := [.type "LookupError", .type "Exception", .type "BaseException", .type "object"]
abbrev tlValueError : List Value := [.type "ValueError", .type "Exception", .type "BaseException", .type "object"]
abbrev tlArithmeticError : List Value := [.type "ArithmeticError", .type "Exception", .type "BaseException", .type "object"]
def fn0 : List He.DefD := [dmD "NotADesign" "__init__" "NotADesign.__init__" (inClass (top 5) 0), dmD "TooManyFields" "__init__" "TooManyFields.__init__" (inClass (top 14) 0), dmD "TooManyCalls" "__init__" "TooManyCalls.__init__" (inClass (top 15) 0), dmD "TooManyViews" "__init__" "TooManyViews.__init__" (inClass (top 16) 0), dmD "TooManyFacts" "__init__" "TooManyFacts.__init__" (inClass (top 17) 0), dfD "is_name" (top 31), dfD "is_field_name" (top 32), dfD "is_row" (top 33), dfD "wrong_name" (top 34), dfD "is_form" (top 37)]
def fn1 : List He.DefD := [dfD "words_of" (top 38), dfD "depth_of" (top 39), dfD "is_small" (top 40), dfD "is_form_of" (top 41), dfD "form_text" (top 42), dfD "side_text" (top 43), dfD "check_fields" (top 50), dfD "check_modes" (top 51), dfD "is_fact" (top 52), dfD "are_updates" (top 53)]
def fn2 : List He.DefD := [dfD "is_case" (top 54), dfD "is_call" (top 55), dfD "check_calls" (top 56), dfD "is_view" (top 57), dfD "check_views" (top 58), dfD "case_lines" (top 62), dfD "design_text" (top 63), dmD "Design" "__init__" "Design.__init__" (inClass (top 71) 0), dmD "Design" "call" "Design.call" (inClass (top 71) 2), dfD "check_mode" (top 73)]
def fn3 : List He.DefD := [dmD "Design" "sort_of" "Design.sort_of" (inClass (top 71) 3), dmD "Design" "case_of" "Design.case_of" (inClass (top 71) 4), dmD "Design" "__contains__" "Design.__contains__" (inClass (top 71) 10), dmD "Design" "__eq__" "Design.__eq__" (inClass (top 71) 11), dfD "can_join" (top 75), dfD "joined_call" (top 76), dfD "spread_call" (top 77), dfD "check_design" (top 72), dfD "beside" (top 78), dfD "_law_purse" (top 80)]
def fn4 : List He.DefD := [dfD "_law_draw" (top 81), dfD "_law_pick" (top 82), dfD "_law_names" (top 83), dfD "_law_form" (top 84), dfD "_law_fact" (top 85), dfD "_law_update" (top 86), dfD "_law_case" (top 87), dfD "_law_menu" (top 88), dfD "_law_design" (top 89), dfD "_law_second" (top 90)]
def fn5 : List He.DefD := [dfD "_law_side_by_side" (top 91), dfD "_law_spoilt" (top 93), dfD "_law_due" (top 94), dfD "_law_error" (top 92), dfD "_law_right" (top 95), dfD "law" (top 96)]
def fn : List He.DefD := fn0 ++ (fn1 ++ (fn2 ++ (fn3 ++ (fn4 ++ (fn5)))))
def globs0 : List Str := ["is_name", "is_field_name", "is_row", "wrong_name", "is_form", "words_of", "depth_of", "is_small", "is_form_of", "form_text", "side_text", "check_fields", "check_modes", "is_fact", "are_updates"]
def globs1 : List Str := ["is_case", "is_call", "check_calls", "is_view", "check_views", "case_lines", "design_text", "check_mode", "can_join", "joined_call", "spread_call", "check_design", "beside", "_law_purse", "_law_draw"]
def globs2 : List Str := ["_law_pick", "_law_names", "_law_form", "_law_fact", "_law_update", "_law_case", "_law_menu", "_law_design", "_law_second", "_law_side_by_side", "_law_spoilt", "_law_due", "_law_error", "_law_right", "law"]
def globs : List Str := globs0 ++ globs1 ++ globs2
def meths : List Str := ["call", "sort_of", "case_of", "__contains__", "__eq__"]
def flds : List Str := ["fields", "modes", "calls", "views", "names", "view_names", "text"]
def oxl : List (Str × String × List Value) := [("NotADesign", "ValueError.__new__", tlValueError), ("TooManyFields", "ArithmeticError.__new__", tlArithmeticError), ("TooManyCalls", "ArithmeticError.__new__", tlArithmeticError), ("TooManyViews", "ArithmeticError.__new__", tlArithmeticError), ("TooManyFacts", "ArithmeticError.__new__", tlArithmeticError)]
def del : List (Str × Str) := [("NotADesign", "value"), ("TooManyFields", "limit"), ("TooManyCalls", "limit"), ("TooManyViews", "limit"), ("TooManyFacts", "limit")]
def b1 (K : PySem.W.Frag) : Bool := gwB K gf gi gs gt go
def b2 (K : PySem.W.Frag) : Bool := globs.all fun x => (He.Fa.glo x).ok K
def b3 (K : PySem.W.Frag) : Bool := (He.Fa.cls "Design").ok K && flds.all fun f => (He.Fa.noat "Design" f).ok K
def b4 (K : PySem.W.Frag) : Bool := (He.Fa.mkr "Design").ok K && meths.all fun m => (He.Fa.meth "Design" m).ok K
def tyT : List String := ["str", "tuple"]
def b5 (K : PySem.W.Frag) : Bool := tyT.all (fun t => decide (PySem.W.kitOne K (.ref (He.ga K "Design")) (.type t) = some false)) && (tyB.all (fun s => decide (PySem.W.kitOne K (.type s) (.ref (He.ga K "Design")) = some false)) && askB K "Design")
def b6 (K : PySem.W.Frag) : Bool := decide (He.ga K "is_name" ≠ He.ga K "is_field_name")
def b7 (K : PySem.W.Frag) : Bool := excX.all fun c => clsX.all fun t => decide (PySem.W.exmOne K (.ref (He.ga K c)) (.ref (He.ga K t)) = some (decide (t ∈ supX c)))
def b8 (K : PySem.W.Frag) : Bool := excX.all fun c => isX.all fun t => decide (PySem.W.kitOne K (.ref (He.ga K c)) (.ref (He.ga K t)) = some (decide (t ∈ supX c)))
def b9 (K : PySem.W.Frag) : Bool := excX.all fun c => excCB K (He.ga K c)
def b10 (K : PySem.W.Frag) : Bool := del.all fun p => xfB K (He.ga K p.1) && decide (PySem.W.findIn K (.ref (He.ga K p.1)) p.2 = some none)
def b11 (K : PySem.W.Frag) : Bool := neB K "Design" && ex0B K "NotComparable" tlLookupError "LookupError.__new__"
def b12 (K : PySem.W.Frag) : Bool := oxl.all fun p => oexB K (He.ga K p.1) p.2.1 p.2.2
def b13 (K : PySem.W.Frag) : Bool := del.all fun p => deB K p.1 p.2
def xb (K : PySem.W.Frag) : Bool := b1 K && (b2 K && (b3 K && (b4 K && (b5 K && (b6 K && (b7 K && (b8 K && (b9 K && (b10 K && (b11 K && (b12 K && b13 K)))))))))))
abbrev R : PySem.W.OpenRow := PySem.W.OpenLaw.row PySem.Challenge.rw_soleguest_k77_designs_side_by_side
abbrev qv : Program := PySem.W.view R.prog [96]
def names0 : List Str := ["_wall", "SetError", "StateError", "LimitError", "NotADesign", "InvalidText", "UnknownMode", "UnknownCall", "InvalidFields", "InvalidModes", "InvalidCalls", "InvalidViews", "NotComparable", "TooManyFields", "TooManyCalls", "TooManyViews", "TooManyFacts", "MOST_FIELDS", "MOST_MODES", "MOST_CALLS"]
def names1 : List Str := ["MOST_VIEWS", "MOST_FACTS", "MOST_LEAVES", "MOST_DEPTH", "LETTERS", "SIGNS_names", "LONGEST", "GIVEN", "NONE", "is_name", "is_field_name", "is_row", "wrong_name", "SIGNS_forms", "is_form", "words_of", "depth_of", "is_small", "is_form_of", "form_text"]
def names2 : List Str := ["side_text", "tokens_of", "written", "joined_side", "read_form", "SORTS", "check_fields", "check_modes", "is_fact", "are_updates", "is_case", "is_call", "check_calls", "is_view", "check_views", "GAP", "SET", "case_lines", "design_text", "form_of"]
def names3 : List Str := ["sides_of", "tuple_of_case", "is_taken", "is_pair_added", "is_added", "Design", "check_design", "check_mode", "can_join", "joined_call", "spread_call", "beside", "_law_purse", "_law_draw", "_law_pick", "_law_names", "_law_form", "_law_fact", "_law_update", "_law_case"]
def names4 : List Str := ["_law_menu", "_law_design", "_law_second", "_law_side_by_side", "_law_error", "_law_spoilt", "_law_due", "_law_right"]
def names : List Str := names0 ++ names1 ++ names2 ++ names3 ++ names4
abbrev hk : PySem.W.Hook := hookE 4 xb [] fn
def ob (s : PySem.W.SharedT) : AlE := obsEG 4 xb [] fn (HandSHeadRun.getT s)
theorem ob_eq (s : PySem.W.SharedT) : ob s = hk.obs s.abs := obsEG_eq (HandSHeadRun.getT_eq s)
abbrev hkA : PySem.W.Hook := hookE 4 xb [] []
def obA (s : PySem.W.SharedT) : AlE := obsEG 4 xb [] [] (HandSHeadRun.getT s)
abbrev hkB : PySem.W.Hook := hookE 4 (fun _ => true) [] fn
def obB (s : PySem.W.SharedT) : AlE := obsEG 4 (fun _ => true) [] fn (HandSHeadRun.getT s)
theorem runA (w : World) : HandSHeadRun.RunEq R qv hkA obA 30000 names w := by
  intro os
  kernel_rfl
theorem runB (w : World) : HandSHeadRun.RunEq R qv hkB obB 30000 names w := by
  intro os
  kernel_rfl
theorem run (w : World) : HandSHeadRun.RunEq R qv hk ob 30000 names w := by
  intro os
  have a := runA w os
  have b := runB w os
  obtain ⟨s, e, a⟩ := Option.map_eq_some_iff.mp a
  rw [e] at b ⊢
  have b := Option.some.inj b
  have b3 := congrArg (fun z => z.2.2.2) b
  have a1 := congrArg (fun z => z.1) a
  have a2 := congrArg (fun z => z.2.1) a
  have a3 := congrArg (fun z => z.2.2.1) a
  exact congrArg some (Prod.ext a1 (Prod.ext a2 (Prod.ext a3 b3)))
end W77

end

section
set_option maxRecDepth 100000
set_option maxHeartbeats 1000000
/-! The data layer, part A: data, what a value stands for, environments, judgements. -/
namespace DL
open PySem PySem.Spec L2

/-! ### data -/
inductive D where
  | non | bl (b : Bool) | int (i : Int) | str (x : Str)
  | tup (ds : List D) | lst (ds : List D)
  /-- a tuple whose object is known to have no dict -/
  | tpx (ds : List D)
  | obj (c : Str) (fs : List (Str × D))
  | fn (x : Str)
  | dk (kvs : List (Key × D))
  | frl (ns : List Int)
  | ty (n : String)
deriving Inhabited

/-- hidden addresses -/
abbrev Hid := Addr → Prop
def VT (K : PySem.W.Frag) (B : Hid) (H : Hp) (a : Addr) (xs : List V) : Prop :=
  (¬ B a ∧ Rd H a (.tup xs)) ∨
    ∃ (o : Obj) (its : Array Value) (n : Nat), K.lookup a = some o ∧ o.cls = .type "tuple" ∧ o.data = .seq its n ∧ its.size ≤ sizeLine ∧ Vals xs its.toList
def VX (B : Hid) (H : Hp) (a : Addr) (xs : List V) : Prop := ¬ B a ∧ ∃ o : Obj, H a = some (.frz o (.tup xs)) ∧ o.dict = none
def VLi (K : PySem.W.Frag) (B : Hid) (H : Hp) (a : Addr) (xs : List V) : Prop :=
  (¬ B a ∧ Rd H a (.lst xs)) ∨
    ∃ (o : Obj) (its : Array Value) (n : Nat), K.lookup a = some o ∧ o.cls = .type "list" ∧ o.dict = none ∧ o.data = .seq its n ∧ its.size ≤ sizeLine ∧ Vals xs its.toList
theorem VLi.sq {K B H a xs} (h : VLi K B H a xs) : SqL K H a xs := h.elim (fun z => .inl z.2) .inr
theorem VT.sq {K B H a xs} (h : VT K B H a xs) : SqT K H a xs := h.elim (fun z => .inl z.2) .inr

mutual
inductive Rep (K : PySem.W.Frag) (B : Hid) (H : Hp) : D → V → Prop
  | non : Rep K B H .non .non
  | bl (b : Bool) : Rep K B H (.bl b) (.bl b)
  | int (i : Int) : Rep K B H (.int i) (.int i)
  | str (x : Str) : Rep K B H (.str x) (.str x)
  | fn (x : Str) : Rep K B H (.fn x) (.ref (He.ga K x))
  | ty (n : String) : Rep K B H (.ty n) (.ty n)
  | tup {a : Addr} {vs : List V} {ds : List D} : VT K B H a vs → Reps K B H ds vs → Rep K B H (.tup ds) (.ref a)
  | tpx {a : Addr} {vs : List V} {ds : List D} : VX B H a vs → Reps K B H ds vs → Rep K B H (.tpx ds) (.ref a)
  | lst {a : Addr} {vs : List V} {ds : List D} : ¬ B a → H a = some (.lst vs) → Reps K B H ds vs → Rep K B H (.lst ds) (.ref a)
  | frl {a : Addr} {ns : List Int} : VLi K B H a (ns.map V.int) → Rep K B H (.frl ns) (.ref a)
  | obj {a dx : Addr} {c : Str} {fs : List (Str × D)} {vfs : List (Str × V)} : ¬ B a → H a = some (.ins (He.ga K c) dx vfs) → Repf K B H fs vfs → Rep K B H (.obj c fs) (.ref a)
  | dk {a : Addr} {kvs : List (Key × D)} {vkvs : List (Key × V)} : ¬ B a → Rd H a (.dK vkvs) → Repk K B H kvs vkvs → Rep K B H (.dk kvs) (.ref a)
inductive Reps (K : PySem.W.Frag) (B : Hid) (H : Hp) : List D → List V → Prop
  | nil : Reps K B H [] []
  | cons {d : D} {v : V} {ds : List D} {vs : List V} : Rep K B H d v → Reps K B H ds vs → Reps K B H (d :: ds) (v :: vs)
inductive Repf (K : PySem.W.Frag) (B : Hid) (H : Hp) : List (Str × D) → List (Str × V) → Prop
  | nil : Repf K B H [] []
  | cons {f : Str} {d : D} {v : V} {fs : List (Str × D)} {vs : List (Str × V)} : Rep K B H d v → Repf K B H fs vs → Repf K B H ((f, d) :: fs) ((f, v) :: vs)
inductive Repk (K : PySem.W.Frag) (B : Hid) (H : Hp) : List (Key × D) → List (Key × V) → Prop
  | nil : Repk K B H [] []
  | cons {f : Key} {d : D} {v : V} {fs : List (Key × D)} {vs : List (Key × V)} : Rep K B H d v → Repk K B H fs vs → Repk K B H ((f, d) :: fs) ((f, v) :: vs)
end

/-- all that was seen is seen as it was -/
def Grow (B : Hid) (H : Hp) (B' : Hid) (H' : Hp) : Prop := ∀ b o, ¬ B b → H b = some o → ¬ B' b ∧ H' b = some o
theorem Grow.refl (B H) : Grow B H B H := fun _ _ a b => ⟨a, b⟩
theorem Grow.trans {B H B1 H1 B2 H2} (x : Grow B H B1 H1) (y : Grow B1 H1 B2 H2) : Grow B H B2 H2 := fun b o h e => let ⟨h1, e1⟩ := x b o h e; y b o h1 e1
theorem Grow.rd {B H B' H' a u} (g : Grow B H B' H') (h : ¬ B a ∧ Rd H a u) : ¬ B' a ∧ Rd H' a u := by
  obtain ⟨nb, h⟩ := h
  rcases h with h | ⟨o, h⟩
  · exact ⟨(g _ _ nb h).1, .inl (g _ _ nb h).2⟩
  · exact ⟨(g _ _ nb h).1, .inr ⟨o, (g _ _ nb h).2⟩⟩
theorem Grow.vt {K B H B' H' a xs} (g : Grow B H B' H') (h : VT K B H a xs) : VT K B' H' a xs := h.elim (fun z => .inl (g.rd z)) .inr
section
variable {K : PySem.W.Frag} {B B' : Hid} {H H' : Hp}
mutual
theorem Rep.grow (g : Grow B H B' H') : ∀ {d : D} {v : V}, Rep K B H d v → Rep K B' H' d v
  | _, _, .non => .non
  | _, _, .bl b => .bl b
  | _, _, .int i => .int i
  | _, _, .str x => .str x
  | _, _, .fn x => .fn x
  | _, _, .ty n => .ty n
  | _, _, .tup h r => .tup (g.vt h) (Reps.grow g r)
  | _, _, .tpx h r => .tpx ⟨(g _ _ h.1 h.2.choose_spec.1).1, h.2.choose, (g _ _ h.1 h.2.choose_spec.1).2, h.2.choose_spec.2⟩ (Reps.grow g r)
  | _, _, .lst nb h r => .lst (g _ _ nb h).1 (g _ _ nb h).2 (Reps.grow g r)
  | _, _, .frl h => .frl (h.elim (fun z => .inl (g.rd z)) .inr)
  | _, _, .obj nb h r => .obj (g _ _ nb h).1 (g _ _ nb h).2 (Repf.grow g r)
  | _, _, .dk nb h r => .dk (g.rd ⟨nb, h⟩).1 (g.rd ⟨nb, h⟩).2 (Repk.grow g r)
theorem Reps.grow (g : Grow B H B' H') : ∀ {ds : List D} {vs : List V}, Reps K B H ds vs → Reps K B' H' ds vs
  | _, _, .nil => .nil
  | _, _, .cons h r => .cons (Rep.grow g h) (Reps.grow g r)
theorem Repf.grow (g : Grow B H B' H') : ∀ {ds : List (Str × D)} {vs : List (Str × V)}, Repf K B H ds vs → Repf K B' H' ds vs
  | _, _, .nil => .nil
  | _, _, .cons h r => .cons (Rep.grow g h) (Repf.grow g r)
theorem Repk.grow (g : Grow B H B' H') : ∀ {ds : List (Key × D)} {vs : List (Key × V)}, Repk K B H ds vs → Repk K B' H' ds vs
  | _, _, .nil => .nil
  | _, _, .cons h r => .cons (Rep.grow g h) (Repk.grow g r)
end
theorem Reps.length : ∀ {ds : List D} {vs : List V}, Reps K B H ds vs → ds.length = vs.length
  | _, _, .nil => rfl
  | _, _, .cons _ r => congrArg (· + 1) (Reps.length r)
theorem Reps.append : ∀ {ds es : List D} {vs us : List V}, Reps K B H ds vs → Reps K B H es us → Reps K B H (ds ++ es) (vs ++ us)
  | _, _, _, _, .nil, r => r
  | _, _, _, _, .cons h t, r => .cons h (Reps.append t r)
theorem Reps.get : ∀ {ds : List D} {vs : List V} {i : Nat} {d : D}, Reps K B H ds vs → ds[i]? = some d → ∃ v, vs[i]? = some v ∧ Rep K B H d v
  | _, _, _, _, .nil, e => by simp at e
  | _, _, 0, _, .cons r _, e => by simp at e; subst e; exact ⟨_, rfl, r⟩
  | _, _, i + 1, x, .cons _ t, e => by
    obtain ⟨u, h1, h2⟩ := Reps.get (i := i) (d := x) t (by simpa using e)
    exact ⟨u, by simpa using h1, h2⟩
theorem Reps.getv : ∀ {ds : List D} {vs : List V} {i : Nat} {v : V}, Reps K B H ds vs → vs[i]? = some v → ∃ d, ds[i]? = some d ∧ Rep K B H d v
  | _, _, _, _, .nil, e => by simp at e
  | _, _, 0, _, .cons r _, e => by simp at e; subst e; exact ⟨_, rfl, r⟩
  | _, _, i + 1, x, .cons _ t, e => by
    obtain ⟨u, h1, h2⟩ := Reps.getv (i := i) (v := x) t (by simpa using e)
    exact ⟨u, by simpa using h1, h2⟩
theorem Reps.take : ∀ {ds : List D} {vs : List V} (n : Nat), Reps K B H ds vs → Reps K B H (ds.take n) (vs.take n)
  | _, _, 0, _ => .nil
  | _, _, _ + 1, .nil => .nil
  | _, _, n + 1, .cons r t => .cons r (Reps.take n t)
theorem Reps.drop : ∀ {ds : List D} {vs : List V} (n : Nat), Reps K B H ds vs → Reps K B H (ds.drop n) (vs.drop n)
  | _, _, 0, r => r
  | _, _, _ + 1, .nil => .nil
  | _, _, n + 1, .cons _ t => Reps.drop n t
theorem Reps.set {d : D} {v : V} (r : Rep K B H d v) : ∀ {ds : List D} {vs : List V} (i : Nat), Reps K B H ds vs → Reps K B H (ds.set i d) (vs.set i v)
  | _, _, _, .nil => .nil
  | _, _, 0, .cons _ t => .cons r t
  | _, _, i + 1, .cons q t => .cons q (Reps.set r i t)
theorem Reps.reverse : ∀ {ds : List D} {vs : List V}, Reps K B H ds vs → Reps K B H ds.reverse vs.reverse
  | _, _, .nil => .nil
  | _, _, .cons h t => by
    rw [List.reverse_cons, List.reverse_cons]
    exact (Reps.reverse t).append (.cons h .nil)
theorem Reps.flatRep {ds : List D} {vs : List V} (r : Reps K B H ds vs) : ∀ n : Nat, Reps K B H (List.replicate n ds).flatten (List.replicate n vs).flatten
  | 0 => .nil
  | n + 1 => by
    rw [List.replicate_succ, List.replicate_succ, List.flatten_cons, List.flatten_cons]
    exact r.append (Reps.flatRep r n)
theorem Reps.strs : ∀ {xs : List Str}, Reps K B H (xs.map D.str) (xs.map V.str)
  | [] => .nil
  | x :: xs => .cons (.str x) Reps.strs
theorem Reps.strs_inv : ∀ {xs : List Str} {vs : List V}, Reps K B H (xs.map D.str) vs → vs = xs.map V.str
  | [], _, .nil => rfl
  | x :: xs, _, .cons (.str _) t => by rw [List.map_cons, Reps.strs_inv t]
theorem Reps.ints_inv : ∀ {xs : List Int} {vs : List V}, Reps K B H (xs.map D.int) vs → vs = xs.map V.int
  | [], _, .nil => rfl
  | x :: xs, _, .cons (.int _) t => by rw [List.map_cons, Reps.ints_inv t]
theorem Reps.bls_inv : ∀ {xs : List Bool} {vs : List V}, Reps K B H (xs.map D.bl) vs → vs = xs.map V.bl
  | [], _, .nil => rfl
  | x :: xs, _, .cons (.bl _) t => by rw [List.map_cons, Reps.bls_inv t]
theorem Reps.bls : ∀ {xs : List Bool}, Reps K B H (xs.map D.bl) (xs.map V.bl)
  | [] => .nil
  | x :: xs => .cons (.bl x) Reps.bls
theorem Repf.lookup {f : Str} : ∀ {fs : List (Str × D)} {vs : List (Str × V)} {d : D}, Repf K B H fs vs → fs.lookup f = some d → ∃ v, vs.lookup f = some v ∧ Rep K B H d v
  | _, _, _, .nil, e => by simp [List.lookup] at e
  | (g, d0) :: fs, (_, v0) :: vs, d, .cons h t, e => by
    unfold List.lookup at e ⊢
    cases q : (f == g) with
    | true =>
      rw [q] at e
      cases e
      exact ⟨v0, rfl, h⟩
    | false =>
      rw [q] at e
      exact Repf.lookup t e
theorem Repf.lookup_none {f : Str} : ∀ {fs : List (Str × D)} {vs : List (Str × V)}, Repf K B H fs vs → fs.lookup f = none → vs.lookup f = none
  | _, _, .nil, e => rfl
  | (g, d0) :: fs, (_, v0) :: vs, .cons h t, e => by
    unfold List.lookup at e ⊢
    cases q : (f == g) with
    | true =>
      rw [q] at e
      cases e
    | false =>
      rw [q] at e
      exact Repf.lookup_none t e
theorem Repf.length : ∀ {fs : List (Str × D)} {vs : List (Str × V)}, Repf K B H fs vs → fs.length = vs.length
  | _, _, .nil => rfl
  | _, _, .cons _ r => congrArg (· + 1) (Repf.length r)
end

theorem Rep.weak {K : PySem.W.Frag} {B : Hid} {H : Hp} {ds : List D} {v : V} (r : Rep K B H (.tpx ds) v) : Rep K B H (.tup ds) v := by
  cases r with
  | tpx h t =>
    obtain ⟨n, o, e, _⟩ := h
    exact .tup (.inl ⟨n, .inr ⟨o, e⟩⟩) t
/-- putF on data -/
def putD (f : Str) (d : D) : List (Str × D) → List (Str × D)
  | [] => [(f, d)]
  | (g, e) :: r => if g = f then (g, d) :: r else (g, e) :: putD f d r
theorem Repf.put {K : PySem.W.Frag} {B : Hid} {H : Hp} {f : Str} {d : D} {v : V} (h : Rep K B H d v) : ∀ {fs : List (Str × D)} {vs : List (Str × V)}, Repf K B H fs vs → Repf K B H (putD f d fs) (putF f v vs)
  | _, _, .nil => .cons h .nil
  | (g, d0) :: fs, (_, v0) :: vs, .cons h0 t => by
    show Repf K B H (if g = f then (g, d) :: fs else (g, d0) :: putD f d fs) (if g = f then (g, v) :: vs else (g, v0) :: putF f v vs)
    by_cases e : g = f
    · rw [if_pos e, if_pos e]
      exact .cons h t
    · rw [if_neg e, if_neg e]
      exact .cons h0 (Repf.put h t)

/-! ### environments -/
inductive Sl where
  | sh (d : D)
  | ow (loc : Bool) (d : D)
abbrev En := List (Option Sl)
/-- a frame: the heap at its entry, the addresses that it may change, what was hidden then -/
structure Fr where
  H0 : Hp
  A : List Addr
  B0 : Hid
  io : Nat → Addr → Prop
def OwnAt (K : PySem.W.Frag) (B : Hid) (H : Hp) (a : Addr) : D → Prop
  | .lst ds => ∃ vs, H a = some (.lst vs) ∧ Reps K B H ds vs
  | .obj c fs => ∃ dx vfs, H a = some (.ins (He.ga K c) dx vfs) ∧ Repf K B H fs vfs
  | _ => False
theorem OwnAt.there {K B H a d} (h : OwnAt K B H a d) : ∃ o, H a = some o := by
  cases d with
  | lst ds => obtain ⟨_, e, _⟩ := h; exact ⟨_, e⟩
  | obj c fs => obtain ⟨_, _, e, _⟩ := h; exact ⟨_, e⟩
  | _ => exact h.elim
theorem OwnAt.grow {K B H B' H' a d} (g : Grow B H B' H') (k : ∀ o, H a = some o → H' a = some o) (h : OwnAt K B H a d) : OwnAt K B' H' a d := by
  cases d with
  | lst ds => obtain ⟨vs, e, r⟩ := h; exact ⟨vs, k _ e, r.grow g⟩
  | obj c fs => obtain ⟨dx, vs, e, r⟩ := h; exact ⟨dx, vs, k _ e, r.grow g⟩
  | _ => exact h.elim
structure SI (K : PySem.W.Frag) (F : Fr) (B : Hid) (ρ : En) (σ : St) (H : Hp) : Prop where
  len : ρ.length = σ.length
  sh : ∀ (i : Nat) (d : D), ρ[i]? = some (some (Sl.sh d)) → ∃ v, σ[i]? = some (some v) ∧ Rep K B H d v
  ow : ∀ (i : Nat) (l : Bool) (d : D), ρ[i]? = some (some (Sl.ow l d)) → ∃ a, σ[i]? = some (some (V.ref a)) ∧ B a ∧ OwnAt K B H a d ∧ (l = true → F.H0 a = none) ∧ (l = false → a ∈ F.A ∧ F.io i a)
  ap : ∀ (i j : Nat) (l l' : Bool) (d d' : D) (a : Addr), ρ[i]? = some (some (Sl.ow l d)) → ρ[j]? = some (some (Sl.ow l' d')) → σ[i]? = some (some (V.ref a)) → σ[j]? = some (some (V.ref a)) → i = j
  fr : ∀ b o, F.H0 b = some o → b ∉ F.A → H b = some o
  hid : ∀ b, F.B0 b → B b
  hs : ∀ b, B b → ∃ o, H b = some o
  b0 : ∀ b, F.B0 b → ∃ o, F.H0 b = some o
  aB : ∀ b ∈ F.A, F.B0 b
theorem SI.fresh {K F B ρ σ H p} (I : SI K F B ρ σ H) (h : H p = none) : F.H0 p = none ∧ ¬ F.B0 p ∧ ¬ B p := by
  have nb : ¬ B p := fun z => by
    obtain ⟨o, e⟩ := I.hs p z
    rw [h] at e; cases e
  have nb0 : ¬ F.B0 p := fun z => nb (I.hid p z)
  refine ⟨?_, nb0, nb⟩
  cases e : F.H0 p with
  | none => rfl
  | some o =>
    have := I.fr p o e fun z => nb0 (I.aB p z)
    rw [h] at this; cases this
/-- b is no slot's own -/
def NotOw (ρ : En) (σ : St) (b : Addr) : Prop := ∀ (i : Nat) (l : Bool) (d : D), ρ[i]? = some (some (Sl.ow l d)) → σ[i]? ≠ some (some (V.ref b))
def OwSub (ρ' ρ : En) : Prop := ∀ (i : Nat) (l : Bool) (d' : D), ρ'[i]? = some (some (Sl.ow l d')) → ∃ d, ρ[i]? = some (some (Sl.ow l d))
structure Stp (ρ ρ' : En) (σ : St) (B : Hid) (H : Hp) (B' : Hid) (H' : Hp) : Prop where
  grow : Grow B H B' H'
  keep : ∀ b o, H b = some o → NotOw ρ σ b → H' b = some o
  sub : OwSub ρ' ρ
  there : ∀ b o, H b = some o → ∃ o', H' b = some o'
  hid : ∀ b, B b → NotOw ρ σ b → B' b
theorem Stp.refl {ρ σ B H} : Stp ρ ρ σ B H B H := ⟨Grow.refl B H, fun _ _ e _ => e, fun _ _ d e => ⟨d, e⟩, fun _ o e => ⟨o, e⟩, fun _ h _ => h⟩
theorem Stp.trans {ρ ρ1 ρ2 σ B H B1 H1 B2 H2} (x : Stp ρ ρ1 σ B H B1 H1) (y : Stp ρ1 ρ2 σ B1 H1 B2 H2) : Stp ρ ρ2 σ B H B2 H2 := by
  have nn : ∀ b, NotOw ρ σ b → NotOw ρ1 σ b := fun b n i l d q z => by
    obtain ⟨d0, q0⟩ := x.sub i l d q
    exact n i l d0 q0 z
  exact {
    grow := x.grow.trans y.grow
    keep := fun b o e n => y.keep b o (x.keep b o e n) (nn b n)
    sub := fun i l d q => by
      obtain ⟨d1, q1⟩ := y.sub i l d q
      exact x.sub i l d1 q1
    there := fun b o e => by
      obtain ⟨o1, e1⟩ := x.there b o e
      exact y.there b o1 e1
    hid := fun b h n => y.hid b (x.hid b h n) (nn b n) }
/-- objects more -/
def Ext (H H' : Hp) : Prop := ∀ b o, H b = some o → H' b = some o
theorem Ext.refl (H : Hp) : Ext H H := fun _ _ e => e
theorem Ext.trans {H H1 H2 : Hp} (x : Ext H H1) (y : Ext H1 H2) : Ext H H2 := fun b o e => y b o (x b o e)
theorem Ext.new {H : Hp} {p : Addr} {o : HO} (h : H p = none) : Ext H (upd H p o) := fun a u e => by
  rw [upd_ne (ne_of_none e h)]
  exact e
theorem Ext.grow {B H H'} (x : Ext H H') : Grow B H B H' := fun b o n e => ⟨n, x b o e⟩
theorem Ext.stp {ρ σ B H H'} (x : Ext H H') : Stp ρ ρ σ B H B H' := ⟨x.grow, fun b o e _ => x b o e, fun _ _ d e => ⟨d, e⟩, fun b o e => ⟨o, x b o e⟩, fun _ h _ => h⟩
theorem SI.ext {K F B ρ σ H H'} (I : SI K F B ρ σ H) (x : Ext H H') : SI K F B ρ σ H' where
  len := I.len
  sh := fun i d e => let ⟨v, h, r⟩ := I.sh i d e; ⟨v, h, r.grow x.grow⟩
  ow := fun i l d e => let ⟨a, h, b, o, r⟩ := I.ow i l d e; ⟨a, h, b, o.grow x.grow (x a), r⟩
  ap := I.ap
  fr := fun b o e n => x b o (I.fr b o e n)
  hid := I.hid
  hs := fun b z => let ⟨o, e⟩ := I.hs b z; ⟨o, x b o e⟩
  b0 := I.b0
  aB := I.aB
/-- a new object that is hidden -/
def hide (B : Hid) (p : Addr) : Hid := fun b => B b ∨ b = p
def show' (B : Hid) (p : Addr) : Hid := fun b => B b ∧ b ≠ p
theorem Grow.hide {B H H' p} (x : Ext H H') (h : H p = none) : Grow B H (hide B p) H' := fun b o n e =>
  ⟨fun z => z.elim n (fun q => by
    rw [q, h] at e
    cases e), x b o e⟩
theorem Grow.show {B H p} : Grow B H (show' B p) H := fun b o n e => ⟨fun z => n z.1, e⟩
/-- hidden more: what is not seen by any slot -/
theorem SI.hide {K F B ρ σ H H' p} (I : SI K F B ρ σ H) (x : Ext H H') (h : H p = none) (h' : ∃ o, H' p = some o) : SI K F (hide B p) ρ σ H' where
  len := I.len
  sh := fun i d e => let ⟨v, q, r⟩ := I.sh i d e; ⟨v, q, r.grow (.hide x h)⟩
  ow := fun i l d e => let ⟨a, q, b, o, r⟩ := I.ow i l d e; ⟨a, q, .inl b, o.grow (.hide x h) (x a), r⟩
  ap := I.ap
  fr := fun b o e n => x b o (I.fr b o e n)
  hid := fun b z => .inl (I.hid b z)
  hs := fun b z => by
    rcases z with z | z
    · obtain ⟨o, e⟩ := I.hs b z
      exact ⟨o, x b o e⟩
    · rw [z]; exact h'
  b0 := I.b0
  aB := I.aB
/-- shown again: p is no slot's own, nor was it hidden at the entry -/
theorem SI.show {K F B ρ σ H p} (I : SI K F B ρ σ H) (h : ¬ F.B0 p) (n : NotOw ρ σ p) : SI K F (show' B p) ρ σ H where
  len := I.len
  sh := fun i d e => let ⟨v, q, r⟩ := I.sh i d e; ⟨v, q, r.grow .show⟩
  ow := fun i l d e => by
    obtain ⟨a, q, b, o, r⟩ := I.ow i l d e
    refine ⟨a, q, ⟨b, fun z => n i l d e (by rw [q, z])⟩, o.grow .show (fun _ z => z), r⟩
  ap := I.ap
  fr := I.fr
  hid := fun b z => ⟨I.hid b z, fun q => h (by rw [← q]; exact z)⟩
  hs := fun b z => I.hs b z.1
  b0 := I.b0
  aB := I.aB
/-! ### judgements -/
abbrev FE := En → Option (D × En)
abbrev FT := En → Option (Bool × En)
/-- an expression computes f -/
def DE (K : PySem.W.Frag) (te : TE) (f : FE) : Prop := ∀ ρ d ρ', f ρ = some (d, ρ') → ∀ F B σ H, SI K F B ρ σ H → ∀ Q : VK,
  (∀ v B' H', SI K F B' ρ' σ H' → Stp ρ ρ' σ B H B' H' → Rep K B' H' d v → Q v H') → te σ H Q
def DT (K : PySem.W.Frag) (tt : TT) (f : FT) : Prop := ∀ ρ b ρ', f ρ = some (b, ρ') → ∀ F B σ H, SI K F B ρ σ H → ∀ Q : Bool → Hp → Prop,
  (∀ B' H', SI K F B' ρ' σ H' → Stp ρ ρ' σ B H B' H' → Q b H') → tt σ H Q
/-- a new list at p, no one else's as yet -/
structure NewL (K : PySem.W.Frag) (F : Fr) (H : Hp) (ρ' : En) (σ : St) (p : Addr) (vs : List V) (ds : List D) (B' : Hid) (H' : Hp) : Prop where
  si : SI K F B' ρ' σ H'
  hd : B' p
  nb : ¬ F.B0 p
  n0 : F.H0 p = none
  no : NotOw ρ' σ p
  at_ : H' p = some (.lst vs)
  rep : Reps K B' H' ds vs
  was : H p = none
def DN (K : PySem.W.Frag) (te : TE) (f : En → Option (List D × En)) : Prop := ∀ ρ ds ρ', f ρ = some (ds, ρ') → ∀ F B σ H, SI K F B ρ σ H → ∀ Q : VK,
  (∀ p vs B' H', Stp ρ ρ' σ B H B' H' → NewL K F H ρ' σ p vs ds B' H' → Q (.ref p) H') → te σ H Q
/-- a list that is looked at in passing -/
def DB (K : PySem.W.Frag) (te : TE) (f : En → Option (List D × En)) : Prop := ∀ ρ ds ρ', f ρ = some (ds, ρ') → ∀ F B σ H, SI K F B ρ σ H → ∀ Q : VK,
  (∀ a vs B' H', SI K F B' ρ' σ H' → Stp ρ ρ' σ B H B' H' → SqL K H' a vs → Reps K B' H' ds vs → Q (.ref a) H') → te σ H Q
inductive Ag where
  | val (d : D)
  | own (i : Nat)
def AgRel (K : PySem.W.Frag) (B : Hid) (H : Hp) (σ : St) : Ag → V → Prop
  | .val d, v => Rep K B H d v
  | .own i, v => σ[i]? = some (some v)
theorem AgRel.grow {K B H B' H' σ a v} (g : Grow B H B' H') (h : AgRel K B H σ a v) : AgRel K B' H' σ a v := by
  cases a with
  | val d => exact Rep.grow g h
  | own i => exact h
abbrev FA := En → Option (List Ag × En)
def DA (K : PySem.W.Frag) (ta : TA) (f : FA) : Prop := ∀ ρ as ρ', f ρ = some (as, ρ') → ∀ F B σ H, SI K F B ρ σ H → ∀ Q : List V → Hp → Prop,
  (∀ vs B' H', SI K F B' ρ' σ H' → Stp ρ ρ' σ B H B' H' → Paired (AgRel K B' H' σ) as vs → Q vs H') → ta σ H Q
/-- statements -/
inductive Out where
  | nx (ρ : En) | rt (d : D) (ρ : En) | bk (ρ : En) | ct (ρ : En)
def OutOk (K : PySem.W.Frag) (F : Fr) (B : Hid) (H : Hp) (E : Ends) : Out → Prop
  | .nx ρ' => ∀ σ' B' H', SI K F B' ρ' σ' H' → Grow B H B' H' → E.nx σ' H'
  | .rt d ρ' => ∀ v σ' B' H', SI K F B' ρ' σ' H' → Grow B H B' H' → Rep K B' H' d v → E.rt v H'
  | .bk ρ' => ∀ σ' B' H', SI K F B' ρ' σ' H' → Grow B H B' H' → E.bk σ' H'
  | .ct ρ' => ∀ σ' B' H', SI K F B' ρ' σ' H' → Grow B H B' H' → E.ct σ' H'
abbrev FS := En → Option Out
def DS (K : PySem.W.Frag) (t : TS) (g : FS) : Prop := ∀ ρ o, g ρ = some o → ∀ F B σ H, SI K F B ρ σ H → ∀ E : Ends, OutOk K F B H E o → t E σ H
/-- targets; is: the slots that they store -/
def DG (K : PySem.W.Frag) (is : List Nat) (g : TG) (p : D → En → Option En) : Prop := ∀ d ρ ρ', p d ρ = some ρ' → ∀ F B σ H v, SI K F B ρ σ H → Rep K B H d v → ∀ Q : St → Hp → Prop,
  (∀ σ', SI K F B ρ' σ' H → (∀ vs : List Nat, (∀ i ∈ is, i ∈ vs) → wipe σ' vs = wipe σ vs) → Q σ' H) → g v σ H Q
def DGs (K : PySem.W.Frag) (is : List Nat) (g : TGs) (p : List D → En → Option En) : Prop := ∀ ds ρ ρ', p ds ρ = some ρ' → ∀ F B σ H vs, SI K F B ρ σ H → Reps K B H ds vs → ∀ Q : St → Hp → Prop,
  (∀ σ', SI K F B ρ' σ' H → (∀ vs : List Nat, (∀ i ∈ is, i ∈ vs) → wipe σ' vs = wipe σ vs) → Q σ' H) → g vs σ H Q
/-- what a loop walks -/
def Iter (K : PySem.W.Frag) (J : It) (ds : List D) (B1 : Hid) (H1 : Hp) : Prop := ∀ B H, Grow B1 H1 B H → (∀ b, B b → ∃ o, H b = some o) →
  (∀ (i : Nat) (d : D), ds[i]? = some d → J.go i H ∧ ∀ x H3, J.yld i H x H3 → Ext H H3 ∧ Rep K B H3 d x) ∧ ∀ i : Nat, ds.length ≤ i → J.stop i H
theorem Iter.grow {K J ds B1 H1 B2 H2} (h : Iter K J ds B1 H1) (g : Grow B1 H1 B2 H2) : Iter K J ds B2 H2 := fun B H g' => h B H (g.trans g')
def DI (K : PySem.W.Frag) (wi : TI) (f : En → Option (List D × En)) : Prop := ∀ ρ ds ρ', f ρ = some (ds, ρ') → ∀ F B σ H, SI K F B ρ σ H → ∀ R : It → Hp → Prop,
  (∀ J B' H', SI K F B' ρ' σ H' → Stp ρ ρ' σ B H B' H' → Iter K J ds B' H' → R J H') → wi σ H R
end DL

end

section
set_option maxRecDepth 100000
set_option maxHeartbeats 1000000
/-! The data layer, part B: expressions. -/
namespace DL
open PySem PySem.Spec L2

/-! ### names, constants -/
def fC (d : D) : FE := fun ρ => some (d, ρ)
/-- a name's value; a list of one's own is given up -/
def fVar (i : Nat) : FE := fun ρ => match ρ[i]? with
  | some (some (.sh d)) => some (d, ρ)
  | some (some (.ow true d)) => some (d, ρ.set i (some (.sh d)))
  | _ => none
section
variable {K : PySem.W.Frag} {B B' : Hid} {H H' : Hp} {F : Fr} {ρ ρ' : En} {σ : St}

theorem SI.freeze {i : Nat} {d : D} (I : SI K F B ρ σ H) (e : ρ[i]? = some (some (Sl.ow true d))) :
    ∃ a, σ[i]? = some (some (V.ref a)) ∧ SI K F (show' B a) (ρ.set i (some (Sl.sh d))) σ H ∧ Stp ρ (ρ.set i (some (Sl.sh d))) σ B H (show' B a) H ∧ Rep K (show' B a) H d (.ref a) := by
  obtain ⟨a, hs, hB, ho, hl, _⟩ := I.ow i true d e
  have hi : i < ρ.length := (List.getElem?_eq_some_iff.mp e).1
  have hr : Rep K (show' B a) H d (.ref a) := by
    cases d with
    | lst ds => obtain ⟨vs, q, r⟩ := ho; exact .lst (fun z => z.2 rfl) q (r.grow .show)
    | obj c fs => obtain ⟨dx, vs, q, r⟩ := ho; exact .obj (fun z => z.2 rfl) q (r.grow .show)
    | _ => exact ho.elim
  have hn0 : ¬ F.B0 a := fun z => by
    obtain ⟨o, q⟩ := I.b0 a z
    rw [hl rfl] at q; cases q
  have oth : ∀ (j : Nat) (l : Bool) (d' : D), (ρ.set i (some (Sl.sh d)))[j]? = some (some (Sl.ow l d')) → j ≠ i ∧ ρ[j]? = some (some (Sl.ow l d')) := fun j l d' q => by
    by_cases hj : j = i
    · subst hj
      rw [List.getElem?_set_self hi] at q
      cases q
    · rw [List.getElem?_set_ne (Ne.symm hj)] at q
      exact ⟨hj, q⟩
  refine ⟨a, hs, ⟨by rw [List.length_set]; exact I.len, fun j d' q => ?_, fun j l d' q => ?_, fun j k l l' d1 d2 b q1 q2 => I.ap j k l l' d1 d2 b (oth j l d1 q1).2 (oth k l' d2 q2).2, I.fr, fun b z => ⟨I.hid b z, fun q => hn0 (by rw [← q]; exact z)⟩, fun b z => I.hs b z.1, I.b0, I.aB⟩,
    ⟨.show, fun b o q _ => q, fun j l d' q => ⟨d', (oth j l d' q).2⟩, fun b o q => ⟨o, q⟩, fun b z n => ⟨z, fun q => n i true d e (by rw [q]; exact hs)⟩⟩, hr⟩
  · by_cases hj : j = i
    · subst hj
      rw [List.getElem?_set_self hi] at q
      cases q
      exact ⟨_, hs, hr⟩
    · rw [List.getElem?_set_ne (Ne.symm hj)] at q
      obtain ⟨v, h1, h2⟩ := I.sh j d' q
      exact ⟨v, h1, h2.grow .show⟩
  · obtain ⟨hj, q⟩ := oth j l d' q
    obtain ⟨b, h1, h2, h3, h4⟩ := I.ow j l d' q
    refine ⟨b, h1, ⟨h2, fun z => hj ?_⟩, h3.grow .show fun _ z => z, h4⟩
    subst z
    exact I.ap j i l true d' d b q e h1 hs
theorem de_var (i : Nat) : DE K (tVar i) (fVar i) := by
  intro ρ d ρ' h F B σ H I Q q
  unfold fVar at h
  split at h
  · rename_i d0 e
    cases h
    obtain ⟨v, h1, h2⟩ := I.sh i d e
    exact ⟨v, h1, q v B H I .refl h2⟩
  · rename_i d0 e
    cases h
    obtain ⟨a, h1, h2, h3, h4⟩ := I.freeze e
    exact ⟨_, h1, q _ _ _ h2 h3 h4⟩
  · cases h
theorem de_c {d : D} {v : V} (h : ∀ B H, Rep K B H d v) : DE K (tC v) (fC d) := by
  intro ρ d' ρ' e F B σ H I Q q
  cases e
  exact q v B H I .refl (h B H)
theorem de_int (i : Int) : DE K (tC (.int i)) (fC (.int i)) := de_c fun _ _ => .int i
theorem de_str (x : Str) : DE K (tC (.str x)) (fC (.str x)) := de_c fun _ _ => .str x
theorem de_bl (b : Bool) : DE K (tC (.bl b)) (fC (.bl b)) := de_c fun _ _ => .bl b
theorem de_non : DE K (tC .non) (fC .non) := de_c fun _ _ => .non
theorem de_fn (x : Str) : DE K (tC (.ref (He.ga K x))) (fC (.fn x)) := de_c fun _ _ => .fn x
end

/-! ### operations on values -/
/-- what an operation of two data gives, at its place -/
def DRat (K : PySem.W.Frag) (r : R2) (d e z : D) : Prop := ∀ B H x y, (∀ b, B b → ∃ o, H b = some o) → Rep K B H d x → Rep K B H e y → ∀ Q : VK, (∀ v H', Ext H H' → Rep K B H' z v → Q v H') → r x y H Q
def DR (K : PySem.W.Frag) (r : R2) (g : D → D → Option D) : Prop := ∀ d e z, g d e = some z → DRat K r d e z
def rU (r1 r2 : R2) : R2 := fun x y H Q => r1 x y H Q ∨ r2 x y H Q
theorem OpR.or {X : Cx} {f : Value → Value → Sem Value} {r1 r2 : R2} (h1 : OpR X f r1) (h2 : OpR X f r2) : OpR X f (rU r1 r2) := fun pins s σ H x y v u Q I rx ry h =>
  h.elim (h1 pins s σ H x y v u Q I rx ry) (h2 pins s σ H x y v u Q I rx ry)
theorem DRat.inl {K r1 r2 d e z} (h : DRat K r1 d e z) : DRat K (rU r1 r2) d e z := fun B H x y hs rx ry Q q => .inl (h B H x y hs rx ry Q q)
theorem DRat.inr {K r1 r2 d e z} (h : DRat K r2 d e z) : DRat K (rU r1 r2) d e z := fun B H x y hs rx ry Q q => .inr (h B H x y hs rx ry Q q)
def fOp (g : D → D → Option D) (fa fb : FE) : FE := fun ρ => (fa ρ).bind fun p => (fb p.2).bind fun q => (g p.1 q.1).map fun z => (z, q.2)
theorem de_op {K r g ta tb fa fb} (hr : DR K r g) (ha : DE K ta fa) (hb : DE K tb fb) : DE K (tOp r ta tb) (fOp g fa fb) := by
  intro ρ d ρ' e F B σ H I Q q
  obtain ⟨⟨x, ρ1⟩, e1, e⟩ := Option.bind_eq_some_iff.mp e
  obtain ⟨⟨y, ρ2⟩, e2, e⟩ := Option.bind_eq_some_iff.mp e
  obtain ⟨z, e3, e⟩ := Option.map_eq_some_iff.mp e
  cases e
  refine ha _ _ _ e1 F B σ H I _ fun v1 B1 H1 I1 s1 r1 => ?_
  refine hb _ _ _ e2 F B1 σ H1 I1 _ fun v2 B2 H2 I2 s2 r2 => ?_
  refine hr _ _ _ e3 B2 H2 v1 v2 I2.hs (r1.grow s2.grow) r2 _ fun v H3 x3 r3 => ?_
  exact q v B2 H3 (I2.ext x3) ((s1.trans s2).trans x3.stp) r3
/-- one datum -/
def DUat (K : PySem.W.Frag) (r : V → Hp → VK → Prop) (d z : D) : Prop := ∀ B H x, (∀ b, B b → ∃ o, H b = some o) → Rep K B H d x → ∀ Q : VK, (∀ v H', Ext H H' → Rep K B H' z v → Q v H') → r x H Q
def DU (K : PySem.W.Frag) (r : V → Hp → VK → Prop) (g : D → Option D) : Prop := ∀ d z, g d = some z → DUat K r d z
def fUn (g : D → Option D) (fa : FE) : FE := fun ρ => (fa ρ).bind fun p => (g p.1).map fun z => (z, p.2)
theorem de_un {K r g ta fa} (hr : DU K r g) (ha : DE K ta fa) : DE K (tUn r ta) (fUn g fa) := by
  intro ρ d ρ' e F B σ H I Q q
  obtain ⟨⟨x, ρ1⟩, e1, e⟩ := Option.bind_eq_some_iff.mp e
  obtain ⟨z, e3, e⟩ := Option.map_eq_some_iff.mp e
  cases e
  refine ha _ _ _ e1 F B σ H I _ fun v1 B1 H1 I1 s1 r1 => ?_
  refine hr _ _ e3 B1 H1 v1 I1.hs r1 _ fun v H3 x3 r3 => ?_
  exact q v B1 H3 (I1.ext x3) (s1.trans x3.stp) r3

/-! ### + - * // % ** -/
theorem szl {n : Nat} (h : n ≤ 1000000) : n ≤ sizeLine := Nat.le_trans h (by rw [sizeLine_eq]; decide)
theorem szl' {n : Nat} (h : n < 1000000) : n < sizeLine := Nat.lt_of_lt_of_le h (by rw [sizeLine_eq]; decide)
def LIM : Nat := 1000000
def addD : D → D → Option D
  | .int i, .int j => some (.int (i + j))
  | .str a, .str b => if a.length + b.length ≤ 1000000 then some (.str (a ++ b)) else none
  | .tup a, .tup b => if a.length + b.length ≤ 1000000 then some (.tup (a ++ b)) else none
  | .lst a, .lst b => if a.length + b.length ≤ 1000000 then some (.lst (a ++ b)) else none
  | _, _ => none
def rAddI : R2 := rI0 fun i j => .int (i + j)
def rAddSt : R2 := fun x y H Q => ∃ i j, x = .str i ∧ y = .str j ∧ i.length + j.length ≤ sizeLine ∧ Q (.str (i ++ j)) H
def rAddU (K : PySem.W.Frag) : R2 := rU rAddI (rU rAddSt (rU (rCatA K) rCat))
theorem op_addU {X : Cx} : OpR X (binaryOp .Add) (rAddU X.K) := op_add.or (op_add_str.or (op_catA.or op_cat))
theorem fresh_vis {B : Hid} {H : Hp} {p : Addr} (hs : ∀ b, B b → ∃ o, H b = some o) (h : H p = none) : ¬ B p := fun z => by
  obtain ⟨o, e⟩ := hs p z
  rw [h] at e; cases e
theorem rep_newL {K : PySem.W.Frag} {B : Hid} {H : Hp} {p : Addr} {ds : List D} {vs : List V} (hs : ∀ b, B b → ∃ o, H b = some o) (h : H p = none) (r : Reps K B H ds vs) : Rep K B (upd H p (.lst vs)) (.lst ds) (.ref p) :=
  .lst (fresh_vis hs h) upd_same (r.grow (Ext.new h).grow)
theorem rep_newT {K : PySem.W.Frag} {B : Hid} {H : Hp} {p : Addr} {ds : List D} {vs : List V} (hs : ∀ b, B b → ∃ o, H b = some o) (h : H p = none) (r : Reps K B H ds vs) : Rep K B (upd H p (.tup vs)) (.tup ds) (.ref p) :=
  .tup (.inl ⟨fresh_vis hs h, .inl upd_same⟩) (r.grow (Ext.new h).grow)
theorem dr_add {K} : DR K (rAddU K) addD := by
  intro d e z h
  unfold addD at h
  split at h
  · cases h
    refine DRat.inl fun B H x y hs rx ry Q q => ?_
    cases rx; cases ry
    exact ⟨_, _, rfl, rfl, q _ _ (Ext.refl H) (.int _)⟩
  · split at h
    · rename_i a b hz
      cases h
      refine DRat.inr (DRat.inl fun B H x y hs rx ry Q q => ?_)
      cases rx; cases ry
      exact ⟨_, _, rfl, rfl, szl hz, q _ _ (Ext.refl H) (.str _)⟩
    · cases h
  · split at h
    · rename_i a b hz
      cases h
      refine DRat.inr (DRat.inr (DRat.inl fun B H x y hs rx ry Q q => ?_))
      cases rx with
      | tup v1 r1 =>
        cases ry with
        | tup v2 r2 =>
          refine ⟨_, _, _, _, rfl, rfl, v1.sq, v2.sq, szl (by rw [← r1.length, ← r2.length]; exact hz), fun e1 => ?_, fun e1 e2 => ?_, fun e1 e2 p hp => ?_⟩
          · subst e1
            cases r1
            exact q _ _ (Ext.refl H) (.tup v2 r2)
          · subst e2
            cases r2
            exact q _ _ (Ext.refl H) (by rw [List.append_nil]; exact .tup v1 r1)
          · exact q _ _ (Ext.new hp) (rep_newT hs hp (r1.append r2))
    · cases h
  · split at h
    · rename_i a b hz
      cases h
      refine DRat.inr (DRat.inr (DRat.inr fun B H x y hs rx ry Q q => ?_))
      cases rx with
      | lst n1 v1 r1 =>
        cases ry with
        | lst n2 v2 r2 =>
          exact ⟨_, _, _, _, rfl, rfl, v1, v2, szl (by rw [← r1.length, ← r2.length]; exact hz), fun p hp => q _ _ (Ext.new hp) (rep_newL hs hp (r1.append r2))⟩
    · cases h
  · cases h
def subD : D → D → Option D
  | .int i, .int j => some (.int (i - j))
  | _, _ => none
def rSubI : R2 := rI0 fun i j => .int (i - j)
theorem op_subU {X : Cx} : OpR X (binaryOp .Sub) rSubI := op_sub
theorem dr_sub {K} : DR K rSubI subD := by
  intro d e z h
  unfold subD at h
  split at h
  · cases h
    intro B H x y hs rx ry Q q
    cases rx; cases ry
    exact ⟨_, _, rfl, rfl, q _ _ (Ext.refl H) (.int _)⟩
  · cases h
end DL

end

section
set_option maxRecDepth 100000
set_option maxHeartbeats 1000000
/-! The data layer, part C: more operations. -/
namespace DL
open PySem PySem.Spec L2

instance decNil (a : List D) : Decidable (a ≠ []) := match a with
  | [] => .isFalse fun h => h rfl
  | _ :: _ => .isTrue fun h => nomatch h
/-! ### * -/
section
open PyProof.Rows
theorem tuple_mul1 (l : Addr) (items : Array Value) (n : Nat) (dd : Option Addr) (sl : Array (Option Value)) (u : Tok) :
    Meets (Builtin.«tuple.__mul__» ⟨[.ref l, .int 1 u], []⟩) (fun _ R s => s.heap.get? l = some { cls := .type "tuple", dict := dd, data := .seq items n, slots := sl } ∧
      R (.ok (.ret (Value.ref l))) s) :=
  .of_wp fun prog w A R s h => by
    obtain ⟨hp, g, d, tk, os⟩ := s
    obtain ⟨hl, h⟩ := h
    have f1 := AutoSeq1.idx_int
    wp_walk using wpAny_loadPart' hl
    exact ⟨_, rfl, h⟩
variable {X : Cx}
def rRepT1 (K : PySem.W.Frag) : R2 := fun x y H Q => ∃ l xs, x = .ref l ∧ y = .int 1 ∧ SqT K H l xs ∧ Q (.ref l) H
theorem op_repT1 : OpR X (binaryOp .Mult) (rRepT1 X.K) := by
  intro pins s σ H x y v u Q I rx ry h
  obtain ⟨l, xs, rfl, rfl, hT, q⟩ := h
  cases rx
  obtain ⟨t, rfl⟩ := ry
  obtain ⟨its, r, ⟨⟨cls, dd, data, sl⟩, ho, hc, n, hd⟩, hs⟩ := I.tuple hT
  simp only at hc hd
  subst hc hd
  exact wpAny_binaryOp_repeat_ref (T := "tuple") (U := "int") (by decide) ⟨_, ho, rfl⟩ (fun s' => typeIs_int s' 1 t) noFill_tuple_mul F.fills_int_mul F.slot_int_rmul repeat_tuple F.slot_int_index.lookup
    (call_meets F.slot_int_rmul (typeIs_int s 1 t) F.entry_int_rmul (F.args_int_rmul_2 _ _) (int_rmul_tuple 1 t l its.toArray n dd sl)
      ⟨ho, rfl, ⟨_, ho, rfl⟩, call_meets F.slot_tuple_mul ⟨_, ho, rfl⟩ F.entry_tuple_mul (F.args_tuple_mul_2 _ _) (tuple_mul1 l its.toArray n dd sl t) ⟨ho, .ref l, H, I, rfl, q⟩⟩)
def repS (x : Str) (n : Nat) : Str := ⟨(List.replicate n x.cps).foldl (· ++ ·) #[]⟩
theorem repS_size (c : Array Nat) : ∀ (n : Nat) (a : Array Nat), ((List.replicate n c).foldl (· ++ ·) a).size = a.size + n * c.size
  | 0, a => by simp
  | n + 1, a => by
    rw [List.replicate_succ, List.foldl_cons, repS_size c n, Array.size_append, Nat.succ_mul]
    omega
def rRepS : R2 := fun x y H Q => ∃ z k, x = .str z ∧ y = .int k ∧ 0 ≤ k ∧ k ≤ 1000 ∧ z.length ≤ 1000 ∧ Q (.str (repS z k.toNat)) H
theorem foldl_app (c : Array Nat) : ∀ (n : Nat) (a : Array Nat), (List.replicate n c).foldl (· ++ ·) a = a ++ (List.replicate n c).foldl (· ++ ·) #[]
  | 0, a => by simp
  | n + 1, a => by
    rw [List.replicate_succ, List.foldl_cons, List.foldl_cons, foldl_app c n (a ++ c), foldl_app c n (#[] ++ c)]
    simp
theorem op_repS : OpR X (binaryOp .Mult) rRepS := by
  intro pins s σ H x y v u Q I rx ry h
  obtain ⟨z, k, rfl, rfl, h0, h1, h2, q⟩ := h
  obtain ⟨t, rfl⟩ := rx
  obtain ⟨t', rfl⟩ := ry
  have hm : z.length * k.toNat ≤ 1000 * 1000 := Nat.mul_le_mul h2 (by omega)
  have hsz : (repS z k.toNat).length ≤ sizeLine := by
    show ((List.replicate k.toNat z.cps).foldl (· ++ ·) #[]).size ≤ _
    rw [repS_size, sizeLine_eq]
    have : k.toNat * z.cps.size = z.length * k.toNat := Nat.mul_comm _ _
    rw [this, Array.size_empty]
    omega
  refine PySem.P.mul_str (by rw [decide_eq_false (by omega), decide_eq_false (by omega)] <;> rfl) (fun a b => ?_) (fun a b => ?_) ?_
  · have h3 : (2 ^ 63 - 1) / k ≥ 1000 := (Int.le_ediv_iff_mul_le (by omega)).mpr (by omega)
    omega
  · unfold Builtin.Str.tooLong
    exact decide_eq_false (by rw [sizeLine_eq]; omega)
  · by_cases c1 : k < 1
    · rw [if_pos c1]
      have e : k.toNat = 0 := by omega
      refine ⟨by rw [sizeLine_eq]; decide, .str Str.empty, H, I.tok _, ⟨_, rfl⟩, ?_⟩
      have e2 : repS z k.toNat = Str.empty := by rw [e]; rfl
      rw [← e2]
      exact q
    · rw [if_neg c1]
      by_cases c2 : (k == 1 || z.length == 0) = true
      · rw [if_pos c2]
        have e2 : repS z k.toNat = z := by
          rcases (Bool.or_eq_true _ _).mp c2 with c | c
          · have e : k = 1 := by simpa using c
            subst e
            show (⟨(List.replicate 1 z.cps).foldl (· ++ ·) #[]⟩ : Str) = z
            simp
          · have e : z.cps.size = 0 := by
              have : z.length = 0 := by simpa using c
              exact this
            have e3 : z.cps = #[] := Array.eq_empty_of_size_eq_zero e
            have hz : (repS z k.toNat).cps.size = 0 := by
              show ((List.replicate k.toNat z.cps).foldl (· ++ ·) #[]).size = 0
              rw [repS_size, e]; simp
            have e4 : (repS z k.toNat).cps = #[] := Array.eq_empty_of_size_eq_zero hz
            obtain ⟨cz⟩ := z
            have e5 : repS ⟨cz⟩ k.toNat = ⟨(repS ⟨cz⟩ k.toNat).cps⟩ := rfl
            rw [e5, e4]
            exact congrArg Str.mk e3.symm
        rw [e2] at q
        exact ⟨.str z, H, I, ⟨_, rfl⟩, q⟩
      · rw [if_neg c2]
        exact ⟨hsz, .str (repS z k.toNat), H, I.tok _, ⟨_, rfl⟩, q⟩
end
def mulD : D → D → Option D
  | .int i, .int j => if (-(2 ^ 64) < i ∧ i < 2 ^ 64) ∨ (-(2 ^ 64) < j ∧ j < 2 ^ 64) then some (.int (i * j)) else none
  | .str a, .int k => if 0 ≤ k ∧ k ≤ 1000 ∧ a.length ≤ 1000 then some (.str (repS a k.toNat)) else none
  | .tup a, .int k => if k = 1 then some (.tup a) else if a ≠ [] ∧ 2 ≤ k ∧ k ≤ 1000 ∧ a.length ≤ 1000 then some (.tup (List.replicate k.toNat a).flatten) else none
  | .lst a, .int k => if -(2 ^ 63) ≤ k ∧ k < 2 ^ 63 ∧ a.length * k.toNat ≤ 1000000 then some (.lst (List.replicate k.toNat a).flatten) else none
  | _, _ => none
def rMulI : R2 := rI CMul fun i j => .int (i * j)
def rMulU (K : PySem.W.Frag) : R2 := rU rMulI (rU rRepS (rU (rRepT K) (rU (rRepT1 K) rRep)))
theorem dr_mul {K} : DR K (rMulU K) mulD := by
  intro d e z h
  unfold mulD at h
  split at h
  · split at h
    · rename_i i j c
      cases h
      refine DRat.inl fun B H x y hs rx ry Q q => ?_
      cases rx; cases ry
      exact ⟨_, _, rfl, rfl, c, q _ _ (Ext.refl H) (.int _)⟩
    · cases h
  · split at h
    · rename_i a k c
      cases h
      refine DRat.inr (DRat.inl fun B H x y hs rx ry Q q => ?_)
      cases rx; cases ry
      exact ⟨_, _, rfl, rfl, c.1, c.2.1, c.2.2, q _ _ (Ext.refl H) (.str _)⟩
    · cases h
  · split at h
    · rename_i a k c
      subst c
      cases h
      refine DRat.inr (DRat.inr (DRat.inr (DRat.inl fun B H x y hs rx ry Q q => ?_)))
      cases ry
      cases rx with
      | tup v1 r1 => exact ⟨_, _, rfl, rfl, v1.sq, q _ _ (Ext.refl H) (.tup v1 r1)⟩
    · split at h
      · rename_i a k c0 c
        cases h
        refine DRat.inr (DRat.inr (DRat.inl fun B H x y hs rx ry Q q => ?_))
        cases ry
        cases rx with
        | tup v1 r1 =>
          refine ⟨_, _, _, rfl, rfl, v1.sq, fun e => ?_, c.2.1, c.2.2.1, by rw [← r1.length]; exact c.2.2.2, fun p hp => q _ _ (Ext.new hp) (rep_newT hs hp (r1.flatRep _))⟩
          subst e
          cases r1
          exact c.1 rfl
      · cases h
  · split at h
    · rename_i a k c
      cases h
      refine DRat.inr (DRat.inr (DRat.inr (DRat.inr fun B H x y hs rx ry Q q => ?_)))
      cases ry
      cases rx with
      | lst n1 v1 r1 => exact ⟨_, _, _, rfl, rfl, v1, c.1, c.2.1, szl (by rw [← r1.length]; exact c.2.2), fun p hp => q _ _ (Ext.new hp) (rep_newL hs hp (r1.flatRep _))⟩
    · cases h
  · cases h
theorem op_mulU {X : Cx} : OpR X (binaryOp .Mult) (rMulU X.K) := op_mul.or (op_repS.or (op_repT.or (op_repT1.or op_rep)))

/-! ### // % ** -/
def fdivD : D → D → Option D
  | .int i, .int j => if j ≠ 0 ∧ j.natAbs < 1073741824 then some (.int (i.fdiv j)) else none
  | _, _ => none
def rFdiv : R2 := rI CDivN fun i j => .int (i.fdiv j)
theorem op_fdivU {X : Cx} : OpR X (binaryOp .FloorDiv) rFdiv := op_fdivN
theorem dr_fdiv {K} : DR K rFdiv fdivD := by
  intro d e z h
  unfold fdivD at h
  split at h
  · split at h
    · rename_i i j c
      cases h
      intro B H x y hs rx ry Q q
      cases rx; cases ry
      exact ⟨_, _, rfl, rfl, c, q _ _ (Ext.refl H) (.int _)⟩
    · cases h
  · cases h
def modD : D → D → Option D
  | .int i, .int j => if j ≠ 0 then some (.int (i.fmod j)) else none
  | _, _ => none
def rMod : R2 := rI (fun _ j => j ≠ 0) fun i j => .int (i.fmod j)
theorem op_modU {X : Cx} : OpR X (binaryOp .Mod) rMod := op_modN
theorem dr_mod {K} : DR K rMod modD := by
  intro d e z h
  unfold modD at h
  split at h
  · split at h
    · rename_i i j c
      cases h
      intro B H x y hs rx ry Q q
      cases rx; cases ry
      exact ⟨_, _, rfl, rfl, c, q _ _ (Ext.refl H) (.int _)⟩
    · cases h
  · cases h
def powD : D → D → Option D
  | .int i, .int j => if 0 ≤ j ∧ j ≤ 1000000 ∧ i.natAbs < 2 ^ 64 then some (.int (i ^ j.toNat)) else none
  | _, _ => none
def rPow : R2 := rI CPow fun i j => .int (i ^ j.toNat)
theorem op_powU {X : Cx} : OpR X (binaryOp .Pow) rPow := op_pow
theorem dr_pow {K} : DR K rPow powD := by
  intro d e z h
  unfold powD at h
  split at h
  · split at h
    · rename_i i j c
      cases h
      intro B H x y hs rx ry Q q
      cases rx; cases ry
      exact ⟨_, _, rfl, rfl, c, q _ _ (Ext.refl H) (.int _)⟩
    · cases h
  · cases h

/-! ### comparisons -/
mutual
def toPy : D → PyData
  | .non => .none
  | .bl b => .bool b
  | .int i => .int i
  | .str x => .str x
  | .tup ds => .tuple (toPys ds)
  | .lst ds => .list (toPys ds)
  | _ => .none
def toPys : List D → List PyData
  | [] => []
  | d :: ds => toPy d :: toPys ds
end
mutual
def dat : D → Bool
  | .non => true
  | .bl _ => true
  | .int _ => true
  | .str _ => true
  | .tup ds => dats ds
  | .lst ds => dats ds
  | _ => false
def dats : List D → Bool
  | [] => true
  | d :: ds => dat d && dats ds
end
section
variable {K : PySem.W.Frag} {B : Hid} {H : Hp}
mutual
theorem Rep.dp : ∀ {d : D} {v : V}, Rep K B H d v → dat d = true → Dp K H v (toPy d)
  | _, _, .non, _ => by simp only [toPy]; exact .non
  | _, _, .bl b, _ => by simp only [toPy]; exact .bl b
  | _, _, .int i, _ => by simp only [toPy]; exact .int i
  | _, _, .str x, _ => by simp only [toPy]; exact .str x
  | _, _, .tup h r, e => by simp only [toPy]; exact .tup h.sq (Reps.dp r (by simpa only [dat] using e))
  | _, _, .lst nb h r, e => by simp only [toPy]; exact .lst (.inl (.inl h)) (Reps.dp r (by simpa only [dat] using e))
  | _, _, .fn _, e => by simp only [dat] at e; cases e
  | _, _, .tpx _ _, e => by simp only [dat] at e; cases e
  | _, _, .ty _, e => by simp only [dat] at e; cases e
  | _, _, .frl _, e => by simp only [dat] at e; cases e
  | _, _, .obj _ _ _, e => by simp only [dat] at e; cases e
  | _, _, .dk _ _ _, e => by simp only [dat] at e; cases e
theorem Reps.dp : ∀ {ds : List D} {vs : List V}, Reps K B H ds vs → dats ds = true → DpAll K H vs (toPys ds)
  | _, _, .nil, _ => by simp only [toPys]; exact .nil
  | _, _, .cons h r, e => by
    simp only [dats, Bool.and_eq_true] at e
    simp only [toPys]
    exact .cons (Rep.dp h e.1) (Reps.dp r e.2)
end
end
def okD (d : D) : Bool := dat d && SeqAt.shaped (toPy d)
def eqD (d e : D) : Option D := if okD d = true ∧ okD e = true then some (.bl (PyData.eqv (toPy d) (toPy e))) else none
def neD (d e : D) : Option D := if okD d = true ∧ okD e = true then some (.bl (!PyData.eqv (toPy d) (toPy e))) else none
theorem okD_and {d : D} (h : okD d = true) : dat d = true ∧ SeqAt.shaped (toPy d) = true := Bool.and_eq_true_iff.mp h
theorem dr_eq {K} : DR K (rEqD K) eqD := by
  intro d e z h
  unfold eqD at h
  split at h
  · rename_i c
    cases h
    intro B H x y hs rx ry Q q
    exact ⟨_, _, rx.dp (okD_and c.1).1, ry.dp (okD_and c.2).1, (okD_and c.1).2, (okD_and c.2).2, q _ _ (Ext.refl H) (.bl _)⟩
  · cases h
theorem dr_ne {K} : DR K (rNeD K) neD := by
  intro d e z h
  unfold neD at h
  split at h
  · rename_i c
    cases h
    intro B H x y hs rx ry Q q
    exact ⟨_, _, rx.dp (okD_and c.1).1, ry.dp (okD_and c.2).1, (okD_and c.1).2, (okD_and c.2).2, q _ _ (Ext.refl H) (.bl _)⟩
  · cases h
def rLtI : R2 := rI0 fun i j => .bl (decide (i < j))
def rLtS : R2 := fun x y H Q => ∃ i j, x = .str i ∧ y = .str j ∧ Q (.bl (decide (i.cps.toList < j.cps.toList))) H
def rLtU : R2 := rU rLtI rLtS
theorem op_ltU {X : Cx} : OpR X (compareOp .Lt) rLtU := op_lt.or op_lt_str
def ltD : D → D → Option D
  | .int i, .int j => some (.bl (decide (i < j)))
  | .str i, .str j => some (.bl (decide (i.cps.toList < j.cps.toList)))
  | _, _ => none
theorem dr_lt {K} : DR K rLtU ltD := by
  intro d e z h
  unfold ltD at h
  split at h
  · cases h
    refine DRat.inl fun B H x y hs rx ry Q q => ?_
    cases rx; cases ry
    exact ⟨_, _, rfl, rfl, q _ _ (Ext.refl H) (.bl _)⟩
  · cases h
    refine DRat.inr fun B H x y hs rx ry Q q => ?_
    cases rx; cases ry
    exact ⟨_, _, rfl, rfl, q _ _ (Ext.refl H) (.bl _)⟩
  · cases h
def cmpI (p : Int → Int → Bool) : D → D → Option D
  | .int i, .int j => some (.bl (p i j))
  | _, _ => none
theorem dr_cmpI {K} {p : Int → Int → Bool} : DR K (rI0 fun i j => .bl (p i j)) (cmpI p) := by
  intro d e z h
  unfold cmpI at h
  split at h
  · cases h
    intro B H x y hs rx ry Q q
    cases rx; cases ry
    exact ⟨_, _, rfl, rfl, q _ _ (Ext.refl H) (.bl _)⟩
  · cases h
def rLe : R2 := rI0 fun i j => .bl (decide (i ≤ j))
def rGt : R2 := rI0 fun i j => .bl (decide (j < i))
def rGe : R2 := rI0 fun i j => .bl (decide (j ≤ i))
theorem op_leU {X : Cx} : OpR X (compareOp .LtE) rLe := op_le
theorem op_gtU {X : Cx} : OpR X (compareOp .Gt) rGt := op_gt
theorem op_geU {X : Cx} : OpR X (compareOp .GtE) rGe := op_ge
def leD : D → D → Option D := cmpI fun i j => decide (i ≤ j)
def gtD : D → D → Option D := cmpI fun i j => decide (j < i)
def geD : D → D → Option D := cmpI fun i j => decide (j ≤ i)
theorem dr_le {K} : DR K rLe leD := dr_cmpI
theorem dr_gt {K} : DR K rGt gtD := dr_cmpI
theorem dr_ge {K} : DR K rGe geD := dr_cmpI
/-! #### is None -/
def isN : D → Bool
  | .non => true
  | _ => false
theorem Rep.isN {K B H d v} (r : Rep K B H d v) : decide (v = V.non) = isN d := by cases r <;> rfl
def rIsN : R2 := fun x y H Q => y = .non ∧ Q (.bl (decide (x = .non))) H
def rNotN : R2 := fun x y H Q => y = .non ∧ Q (.bl (!decide (x = .non))) H
theorem op_isNU {X : Cx} : OpR X (compareOp .Is) rIsN := op_isN
theorem op_notNU {X : Cx} : OpR X (compareOp .IsNot) rNotN := op_notN
def isD (d e : D) : Option D := if isN e = true then some (.bl (isN d)) else none
def isntD (d e : D) : Option D := if isN e = true then some (.bl (!isN d)) else none
theorem isN_non {d : D} (h : isN d = true) : d = .non := by cases d <;> first | rfl | cases h
theorem dr_is {K} : DR K rIsN isD := by
  intro d e z h
  unfold isD at h
  split at h
  · rename_i c
    cases h
    cases isN_non c
    intro B H x y hs rx ry Q q
    cases ry
    exact ⟨rfl, by rw [rx.isN]; exact q _ _ (Ext.refl H) (.bl _)⟩
  · cases h
theorem dr_isnt {K} : DR K rNotN isntD := by
  intro d e z h
  unfold isntD at h
  split at h
  · rename_i c
    cases h
    cases isN_non c
    intro B H x y hs rx ry Q q
    cases ry
    exact ⟨rfl, by rw [rx.isN]; exact q _ _ (Ext.refl H) (.bl _)⟩
  · cases h
/-! #### in -/
def fv : D → V
  | .bl b => .bl b
  | .int i => .int i
  | .str x => .str x
  | _ => .non
def flatD : D → Bool
  | .non => true
  | .bl _ => true
  | .int _ => true
  | .str _ => true
  | _ => false
theorem Rep.flat {K B H d v} (r : Rep K B H d v) (h : flatD d = true) : v = fv d ∧ flatV v = true := by
  cases r <;> first | exact ⟨rfl, rfl⟩ | cases h
theorem Reps.flat {K B H} : ∀ {ds : List D} {vs : List V}, Reps K B H ds vs → ds.all flatD = true → vs = ds.map fv ∧ vs.all flatV = true
  | _, _, .nil, _ => ⟨rfl, rfl⟩
  | _, _, .cons h r, e => by
    rw [List.all_cons, Bool.and_eq_true] at e
    obtain ⟨h1, h2⟩ := h.flat e.1
    obtain ⟨h3, h4⟩ := r.flat e.2
    exact ⟨by rw [List.map_cons, ← h1, ← h3], by rw [List.all_cons, h2, h4]; rfl⟩
def inF (d : D) (ds : List D) : Bool := inV (fv d) (ds.map fv)
def rInS : R2 := fun x y H Q => ∃ (c : Nat) (z : Str), x = .str ⟨#[c]⟩ ∧ y = .str z ∧ Q (.bl (decide (c ∈ z.cps.toList))) H
def rInSn : R2 := fun x y H Q => ∃ (c : Nat) (z : Str), x = .str ⟨#[c]⟩ ∧ y = .str z ∧ Q (.bl (!decide (c ∈ z.cps.toList))) H
def rInU (K : PySem.W.Frag) : R2 := rU (rIn K false) rInS
def rNinU (K : PySem.W.Frag) : R2 := rU (rIn K true) rInSn
theorem op_inU {X : Cx} : OpR X (compareOp .In) (rInU X.K) := op_in_seq.or op_in_sign
theorem op_ninU {X : Cx} : OpR X (compareOp .NotIn) (rNinU X.K) := op_notIn_seq.or op_notIn_sign
def inB : D → D → Option Bool
  | d, .tup ds => if flatD d = true ∧ ds.all flatD = true then some (inF d ds) else none
  | d, .lst ds => if flatD d = true ∧ ds.all flatD = true then some (inF d ds) else none
  | .str x, .str z => match x.cps.toList with
    | [c] => some (decide (c ∈ z.cps.toList))
    | _ => none
  | _, _ => none
def inD (d e : D) : Option D := (inB d e).map .bl
def ninD (d e : D) : Option D := (inB d e).map fun b => .bl (!b)
theorem str1 {x : Str} {c : Nat} (h : x.cps.toList = [c]) : x = ⟨#[c]⟩ := by
  obtain ⟨cs⟩ := x
  have : cs = #[c] := by
    have h2 : cs.toList = [c] := h
    rw [← Array.toArray_toList (xs := cs), h2]
  rw [this]
theorem in_parts {K : PySem.W.Frag} {d e : D} {b : Bool} (h : inB d e = some b) {B : Hid} {H : Hp} {x y : V} (rx : Rep K B H d x) (ry : Rep K B H e y) :
    (∃ p xs, y = .ref p ∧ (SqL K H p xs ∨ SqT K H p xs) ∧ flatV x = true ∧ xs.all flatV = true ∧ b = inV x xs) ∨ ∃ (c : Nat) (z : Str), x = .str ⟨#[c]⟩ ∧ y = .str z ∧ b = decide (c ∈ z.cps.toList) := by
  unfold inB at h
  split at h
  · split at h
    · rename_i c
      cases h
      cases ry with
      | tup v1 r1 =>
        obtain ⟨h1, h2⟩ := rx.flat c.1
        obtain ⟨h3, h4⟩ := r1.flat c.2
        exact .inl ⟨_, _, rfl, .inr v1.sq, h2, h4, by rw [h1, h3]; rfl⟩
    · cases h
  · split at h
    · rename_i c
      cases h
      cases ry with
      | lst n1 v1 r1 =>
        obtain ⟨h1, h2⟩ := rx.flat c.1
        obtain ⟨h3, h4⟩ := r1.flat c.2
        exact .inl ⟨_, _, rfl, .inl (.inl (.inl v1)), h2, h4, by rw [h1, h3]; rfl⟩
    · cases h
  · split at h
    · rename_i c hc
      cases h
      cases rx; cases ry
      exact .inr ⟨c, _, by rw [str1 hc], rfl, rfl⟩
    · cases h
  · cases h
theorem dr_in {K} : DR K (rInU K) inD := by
  intro d e z h
  obtain ⟨b, hb, rfl⟩ := Option.map_eq_some_iff.mp h
  intro B H x y hs rx ry Q q
  rcases in_parts hb rx ry with ⟨p, xs, h1, h2, h3, h4, h5⟩ | ⟨c, z, h1, h2, h3⟩
  · exact .inl ⟨p, xs, h1, h2, h3, h4, by rw [if_neg Bool.false_ne_true, ← h5]; exact q _ _ (Ext.refl H) (.bl _)⟩
  · exact .inr ⟨c, z, h1, h2, by rw [← h3]; exact q _ _ (Ext.refl H) (.bl _)⟩
theorem dr_nin {K} : DR K (rNinU K) ninD := by
  intro d e z h
  obtain ⟨b, hb, rfl⟩ := Option.map_eq_some_iff.mp h
  intro B H x y hs rx ry Q q
  rcases in_parts hb rx ry with ⟨p, xs, h1, h2, h3, h4, h5⟩ | ⟨c, z, h1, h2, h3⟩
  · exact .inl ⟨p, xs, h1, h2, h3, h4, by rw [if_pos rfl, ← h5]; exact q _ _ (Ext.refl H) (.bl _)⟩
  · exact .inr ⟨c, z, h1, h2, by rw [← h3]; exact q _ _ (Ext.refl H) (.bl _)⟩
/-- a container that one owns, looked at in passing -/
def fBor (i : Nat) : En → Option (List D × En) := fun ρ => match ρ[i]? with
  | some (some (.sh (.lst ds))) => some (ds, ρ)
  | some (some (.ow _ (.lst ds))) => some (ds, ρ)
  | _ => none
theorem db_var {K} (i : Nat) : DB K (tVar i) (fBor i) := by
  intro ρ ds ρ' h F B σ H I Q q
  unfold fBor at h
  split at h
  · rename_i ds0 e
    cases h
    obtain ⟨v, h1, h2⟩ := I.sh i _ e
    cases h2 with
    | lst nb hl r => exact ⟨_, h1, q _ _ B H I .refl (.inl (.inl hl)) r⟩
  · rename_i l ds0 e
    cases h
    obtain ⟨a, h1, hb, ho, _⟩ := I.ow i _ _ e
    obtain ⟨vs, hl, r⟩ := ho
    exact ⟨_, h1, q _ _ B H I .refl (.inl (.inl hl)) r⟩
  · cases h
/-- e in xs, xs looked at in passing -/
def fInB (neg : Bool) (fa : FE) (fb : En → Option (List D × En)) : FE := fun ρ => (fa ρ).bind fun p => (fb p.2).bind fun q => if flatD p.1 = true ∧ q.1.all flatD = true then some (.bl (if neg then !inF p.1 q.1 else inF p.1 q.1), q.2) else none
theorem de_inB {K neg ta tb fa fb} (ha : DE K ta fa) (hb : DB K tb fb) : DE K (tOp (rIn K neg) ta tb) (fInB neg fa fb) := by
  intro ρ d ρ' e F B σ H I Q q
  obtain ⟨⟨x, ρ1⟩, e1, e⟩ := Option.bind_eq_some_iff.mp e
  obtain ⟨⟨ys, ρ2⟩, e2, e⟩ := Option.bind_eq_some_iff.mp e
  simp only at e
  split at e
  · rename_i c
    cases e
    refine ha _ _ _ e1 F B σ H I _ fun v1 B1 H1 I1 s1 r1 => ?_
    refine hb _ _ _ e2 F B1 σ H1 I1 _ fun a vs B2 H2 I2 s2 hl r2 => ?_
    obtain ⟨h1, h2⟩ := r1.flat c.1
    obtain ⟨h3, h4⟩ := r2.flat c.2
    refine ⟨a, vs, rfl, .inl hl, h2, h4, ?_⟩
    have := q (.bl (if neg then !inF x ys else inF x ys)) B2 H2 I2 (s1.trans s2) (.bl _)
    rw [h1, h3]
    exact this
  · cases e
end DL

end

section
set_option maxRecDepth 100000
set_option maxHeartbeats 1000000
/-! The data layer, part D: subscripts, slices, truth, arguments, displays, built-in calls, f-strings. -/
namespace DL
open PySem PySem.Spec L2

/-! ### subscripts -/
theorem Reps.atI {K B H} {ds : List D} {vs : List V} {i : Int} {d : D} (r : Reps K B H ds vs) (h : L2.atI ds i = some d) : ∃ v, L2.atI vs i = some v ∧ Rep K B H d v := by
  unfold L2.atI at h ⊢
  rw [← r.length]
  obtain ⟨j, h1, h2⟩ := Option.bind_eq_some_iff.mp h
  obtain ⟨v, h3, h4⟩ := r.get h2
  exact ⟨v, by rw [h1]; exact h3, h4⟩
def ixD : D → D → Option D
  | .tup ds, .int i => atI ds i
  | .lst ds, .int i => atI ds i
  | .str z, .int i => if z.length ≤ 1000000 then (atI z.cps.toList i).map fun c => .str ⟨#[c]⟩ else none
  | _, _ => none
theorem dr_ix {K} : DR K (rIx K) ixD := by
  intro d e z h B H x y hs rx ry Q q
  unfold ixD at h
  split at h
  · cases ry
    cases rx with
    | tup v1 r1 =>
      obtain ⟨v, h1, h2⟩ := r1.atI h
      exact .inr (.inl ⟨_, _, _, _, rfl, rfl, v1.sq, h1, q _ _ (Ext.refl H) h2⟩)
  · cases ry
    cases rx with
    | lst nb v1 r1 =>
      obtain ⟨v, h1, h2⟩ := r1.atI h
      exact .inl ⟨_, _, _, _, rfl, rfl, .inl (.inl v1), h1, q _ _ (Ext.refl H) h2⟩
  · split at h
    · rename_i c
      obtain ⟨k, h1, h2⟩ := Option.map_eq_some_iff.mp h
      cases h2
      cases rx; cases ry
      exact .inr (.inr ⟨_, _, _, rfl, rfl, szl c, h1, q _ _ (Ext.refl H) (.str _)⟩)
    · cases h
  · cases h
/-- xs[k], xs looked at in passing, k written -/
def fIxB (fb : En → Option (List D × En)) (i : Int) : FE := fun ρ => (fb ρ).bind fun p => (atI p.1 i).map fun d => (d, p.2)
theorem de_ixB {K tb fb} {i : Int} (hb : DB K tb fb) : DE K (tOp (rIx K) tb (tC (.int i))) (fIxB fb i) := by
  intro ρ d ρ' e F B σ H I Q q
  obtain ⟨⟨ys, ρ1⟩, e1, e⟩ := Option.bind_eq_some_iff.mp e
  obtain ⟨z, e2, e⟩ := Option.map_eq_some_iff.mp e
  cases e
  refine hb _ _ _ e1 F B σ H I _ fun a vs B1 H1 I1 s1 hl r => ?_
  obtain ⟨v, h1, h2⟩ := r.atI e2
  exact .inl ⟨_, _, _, _, rfl, rfl, hl, h1, q _ _ _ I1 s1 h2⟩

/-! ### slices -/
def DO (K : PySem.W.Frag) (to : TO) (f : En → Option (Option Int × En)) : Prop := ∀ ρ o ρ', f ρ = some (o, ρ') → ∀ F B σ H, SI K F B ρ σ H → ∀ Q : Option Int → Hp → Prop,
  (∀ B' H', SI K F B' ρ' σ H' → Stp ρ ρ' σ B H B' H' → Q o H') → to σ H Q
def fNoPart : En → Option (Option Int × En) := fun ρ => some (none, ρ)
def fPart (f : FE) : En → Option (Option Int × En) := fun ρ => (f ρ).bind fun p => match p.1 with
  | .int i => some (some i, p.2)
  | _ => none
theorem do_none {K} : DO K tNoPart fNoPart := by
  intro ρ o ρ' e F B σ H I Q q
  cases e
  exact q B H I .refl
theorem do_some {K te f} (h : DE K te f) : DO K (tPart te) (fPart f) := by
  intro ρ o ρ' e F B σ H I Q q
  obtain ⟨⟨d, ρ1⟩, e1, e⟩ := Option.bind_eq_some_iff.mp e
  simp only at e
  split at e
  · cases e
    refine h _ _ _ e1 F B σ H I _ fun v B1 H1 I1 s1 r => ?_
    cases r
    exact ⟨_, rfl, q B1 H1 I1 s1⟩
  · cases e
def cutL {α : Type} (xs : List α) (lo hi : Option Int) : List α := (xs.drop (HT.sIx xs.length 0 lo)).take (HT.sIx xs.length xs.length hi - HT.sIx xs.length 0 lo)
theorem Reps.cut {K B H} {ds : List D} {vs : List V} (r : Reps K B H ds vs) (lo hi : Option Int) : Reps K B H (cutL ds lo hi) (cutV vs lo hi) := by
  unfold cutL cutV
  rw [← r.length]
  exact (r.drop _).take _
theorem cutV_ints (ns : List Int) (lo hi : Option Int) : cutV (ns.map V.int) lo hi = (cutL ns lo hi).map V.int := by
  unfold cutL cutV
  rw [List.length_map, List.map_take, List.map_drop]
theorem Reps.ints {K B H} : ∀ {xs : List Int}, Reps K B H (xs.map D.int) (xs.map V.int)
  | [] => .nil
  | x :: xs => .cons (.int x) Reps.ints
def cutD (d : D) (lo hi : Option Int) : Option D := match d with
  | .tup ds => some (.tup (cutL ds lo hi))
  | .str z => if z.length ≤ 1000000 then some (.str (cutS z lo hi)) else none
  | _ => none
abbrev SlRR := V → Option Int → Option Int → Hp → VK → Prop
def rSlU (K : PySem.W.Frag) : SlRR := fun x lo hi H Q => rSlA K x lo hi H Q ∨ rSlS x lo hi H Q
theorem sl_U {X : Cx} : SlR X (rSlU X.K) := sl_tupA.or sl_str
def fSl (g : D → Option Int → Option Int → Option D) (fa : FE) (fl fh : En → Option (Option Int × En)) : FE := fun ρ => (fa ρ).bind fun p => (fl p.2).bind fun q => (fh q.2).bind fun r => (g p.1 q.1 r.1).map fun z => (z, r.2)
theorem cut_whole {K B H} {l : List D} {vs : List V} {lo hi : Option Int} (rr : Reps K B H l vs) (c : HT.sIx vs.length 0 lo = 0 ∧ HT.sIx vs.length vs.length hi = vs.length) : cutL l lo hi = l := by
  unfold cutL
  have hlen := rr.length
  rw [hlen, c.1, c.2, List.drop_zero, Nat.sub_zero, ← hlen, List.take_length]
theorem de_sl {K te tl th fe fl fh} (he : DE K te fe) (hl : DO K tl fl) (hh : DO K th fh) : DE K (tSl (rSlU K) te tl th) (fSl cutD fe fl fh) := by
  intro ρ d ρ' e F B σ H I Q q
  obtain ⟨⟨x, ρ1⟩, e1, e⟩ := Option.bind_eq_some_iff.mp e
  obtain ⟨⟨lo, ρ2⟩, e2, e⟩ := Option.bind_eq_some_iff.mp e
  obtain ⟨⟨hi, ρ3⟩, e3, e⟩ := Option.bind_eq_some_iff.mp e
  obtain ⟨z, e4, e⟩ := Option.map_eq_some_iff.mp e
  cases e
  refine he _ _ _ e1 F B σ H I _ fun v1 B1 H1 I1 s1 r1 => ?_
  refine hl _ _ _ e2 F B1 σ H1 I1 _ fun B2 H2 I2 s2 => ?_
  refine hh _ _ _ e3 F B2 σ H2 I2 _ fun B3 H3 I3 s3 => ?_
  have r3 := (r1.grow s2.grow).grow s3.grow
  have st := (s1.trans s2).trans s3
  simp only at e4
  unfold cutD at e4
  split at e4
  · cases e4
    cases r3 with
    | tup hv rr =>
      refine .inl ⟨_, _, rfl, hv.sq, fun c => ?_, fun c p hp => ?_⟩
      · refine q _ _ _ I3 st ?_
        rw [cut_whole rr c]
        exact .tup hv rr
      · exact q _ _ _ (I3.ext (Ext.new hp)) (st.trans (Ext.new hp).stp) (rep_newT I3.hs hp (rr.cut lo hi))
  · split at e4
    · rename_i c
      cases e4
      cases r3
      exact .inr ⟨_, rfl, szl c, q _ _ _ I3 st (.str _)⟩
    · cases e4
  · cases e4
/-- a slice of a list: a new one -/
def fSlL (fa : FE) (fl fh : En → Option (Option Int × En)) : En → Option (List D × En) := fun ρ => (fa ρ).bind fun p => (fl p.2).bind fun q => (fh q.2).bind fun r => match p.1 with
  | .lst ds => some (cutL ds q.1 r.1, r.2)
  | .frl ns => some ((cutL ns q.1 r.1).map .int, r.2)
  | _ => none
theorem dn_new {K : PySem.W.Frag} {F : Fr} {B : Hid} {ρ ρ0 : En} {σ : L2.St} {H H0 : Hp} {B0 : Hid} {p : Addr} {vs : List V} {ds : List D} {Q : VK} (s0 : Stp ρ0 ρ σ B0 H0 B H) (I : SI K F B ρ σ H) (hp : H p = none) (r : Reps K B H ds vs)
    (q : ∀ p vs B' H', Stp ρ0 ρ σ B0 H0 B' H' → NewL K F H0 ρ σ p vs ds B' H' → Q (.ref p) H') : Q (.ref p) (upd H p (.lst vs)) := by
  obtain ⟨h1, h2, h3⟩ := I.fresh hp
  have x := Ext.new (o := .lst vs) hp
  have g : Grow B H (hide B p) (upd H p (.lst vs)) := .hide x hp
  refine q p vs (hide B p) _ (s0.trans ⟨g, fun b o e _ => x b o e, fun _ _ d e => ⟨d, e⟩, fun b o e => ⟨o, x b o e⟩, fun b h _ => .inl h⟩) ⟨I.hide x hp ⟨_, upd_same⟩, .inr rfl, h2, h1, fun i l d e z => ?_, upd_same, r.grow g, ?_⟩
  · obtain ⟨a, z1, _, z3, _⟩ := I.ow i l d e
    rw [z1] at z
    cases z
    obtain ⟨o, e2⟩ := z3.there
    rw [hp] at e2; cases e2
  · cases e : H0 p with
    | none => rfl
    | some o =>
      obtain ⟨o', e'⟩ := s0.there p o e
      rw [hp] at e'; cases e'
theorem dn_slL {K te tl th fe fl fh} (he : DE K te fe) (hl : DO K tl fl) (hh : DO K th fh) : DN K (tSl (rSlL K) te tl th) (fSlL fe fl fh) := by
  intro ρ d ρ' e F B σ H I Q q
  obtain ⟨⟨x, ρ1⟩, e1, e⟩ := Option.bind_eq_some_iff.mp e
  obtain ⟨⟨lo, ρ2⟩, e2, e⟩ := Option.bind_eq_some_iff.mp e
  obtain ⟨⟨hi, ρ3⟩, e3, e⟩ := Option.bind_eq_some_iff.mp e
  refine he _ _ _ e1 F B σ H I _ fun v1 B1 H1 I1 s1 r1 => ?_
  refine hl _ _ _ e2 F B1 σ H1 I1 _ fun B2 H2 I2 s2 => ?_
  refine hh _ _ _ e3 F B2 σ H2 I2 _ fun B3 H3 I3 s3 => ?_
  have r3 := (r1.grow s2.grow).grow s3.grow
  have st := (s1.trans s2).trans s3
  simp only at e
  split at e
  · cases e
    cases r3 with
    | @lst a vs ds nb hv rr =>
      exact ⟨_, _, rfl, .inl (.inl hv), fun p hp => dn_new (Q := Q) st I3 hp (rr.cut lo hi) q⟩
  · cases e
    cases r3 with
    | @frl a ns hv =>
      refine ⟨_, _, rfl, hv.sq, fun p hp => ?_⟩
      rw [cutV_ints]
      exact dn_new (Q := Q) st I3 hp Reps.ints q
  · cases e
/-- a new list as any value -/
def fL (f : En → Option (List D × En)) : FE := fun ρ => (f ρ).map fun p => (.lst p.1, p.2)
theorem de_new {K te f} (h : DN K te f) : DE K te (fL f) := by
  intro ρ d ρ' e F B σ H I Q q
  obtain ⟨⟨ds, ρ1⟩, e1, e⟩ := Option.map_eq_some_iff.mp e
  cases e
  refine h _ _ _ e1 F B σ H I _ fun p vs B1 H1 s1 n => ?_
  refine q _ (show' B1 p) H1 (n.si.show n.nb n.no) ⟨s1.grow.trans .show, s1.keep, s1.sub, s1.there, fun b h no => ⟨s1.hid b h no, fun e => ?_⟩⟩ (.lst (fun z => z.2 rfl) n.at_ (n.rep.grow .show))
  obtain ⟨o, e2⟩ := I.hs b h
  rw [e, n.was] at e2; cases e2
/-- any list as one that is looked at -/
def fBorE (f : FE) : En → Option (List D × En) := fun ρ => (f ρ).bind fun p => match p.1 with
  | .lst ds => some (ds, p.2)
  | _ => none
theorem db_of {K te f} (h : DE K te f) : DB K te (fBorE f) := by
  intro ρ d ρ' e F B σ H I Q q
  obtain ⟨⟨x, ρ1⟩, e1, e⟩ := Option.bind_eq_some_iff.mp e
  simp only at e
  split at e
  · cases e
    refine h _ _ _ e1 F B σ H I _ fun v1 B1 H1 I1 s1 r1 => ?_
    cases r1 with
    | lst nb hv rr => exact q _ _ _ _ I1 s1 (.inl (.inl hv)) rr
  · cases e

/-! ### truth, and, or, not, if -/
def truD : D → Option Bool
  | .non => some false
  | .bl b => some b
  | .int i => some (i != 0)
  | .str y => if y.length ≤ 1000000 then some ((y.length : Int) != 0) else none
  | .tup ds => some (!ds.isEmpty)
  | .lst ds => some (!ds.isEmpty)
  | _ => none
theorem Reps.isEmpty {K B H} {ds : List D} {vs : List V} (r : Reps K B H ds vs) : ds.isEmpty = vs.isEmpty := by cases r <;> rfl
theorem Rep.tru {K B H d v k} (r : Rep K B H d v) (h : truD d = some k) : TruV K v H k := by
  cases r with
  | non => cases h; rfl
  | bl b => cases h; rfl
  | int i => cases h; rfl
  | str x =>
    unfold truD at h
    simp only at h
    split at h
    · rename_i c
      cases h
      exact ⟨szl c, rfl⟩
    · cases h
  | tup hv rr => cases h; exact .inr (.inl ⟨_, hv.sq, by rw [rr.isEmpty]⟩)
  | lst nb hv rr => cases h; exact .inl ⟨_, .inl (.inl hv), by rw [rr.isEmpty]⟩
  | _ => cases h
def fAnd (fa fb : FE) : FE := fun ρ => (fa ρ).bind fun p => (truD p.1).bind fun k => if k = true then fb p.2 else some p
def fOr (fa fb : FE) : FE := fun ρ => (fa ρ).bind fun p => (truD p.1).bind fun k => if k = true then some p else fb p.2
theorem de_and {K ta tb fa fb} (ha : DE K ta fa) (hb : DE K tb fb) : DE K (tAndT K ta tb) (fAnd fa fb) := by
  intro ρ d ρ' e F B σ H I Q q
  obtain ⟨⟨x, ρ1⟩, e1, e⟩ := Option.bind_eq_some_iff.mp e
  obtain ⟨k, e2, e⟩ := Option.bind_eq_some_iff.mp e
  refine ha _ _ _ e1 F B σ H I _ fun v1 B1 H1 I1 s1 r1 => ⟨k, r1.tru e2, ?_⟩
  cases k with
  | true => exact hb _ _ _ e F B1 σ H1 I1 _ fun v B2 H2 I2 s2 r2 => q v B2 H2 I2 (s1.trans s2) r2
  | false =>
    cases e
    exact q v1 B1 H1 I1 s1 r1
theorem de_or {K ta tb fa fb} (ha : DE K ta fa) (hb : DE K tb fb) : DE K (tOrT K ta tb) (fOr fa fb) := by
  intro ρ d ρ' e F B σ H I Q q
  obtain ⟨⟨x, ρ1⟩, e1, e⟩ := Option.bind_eq_some_iff.mp e
  obtain ⟨k, e2, e⟩ := Option.bind_eq_some_iff.mp e
  refine ha _ _ _ e1 F B σ H I _ fun v1 B1 H1 I1 s1 r1 => ⟨k, r1.tru e2, ?_⟩
  cases k with
  | false => exact hb _ _ _ e F B1 σ H1 I1 _ fun v B2 H2 I2 s2 r2 => q v B2 H2 I2 (s1.trans s2) r2
  | true =>
    cases e
    exact q v1 B1 H1 I1 s1 r1
def fNot (fa : FE) : FE := fun ρ => (fa ρ).bind fun p => (truD p.1).map fun k => (.bl (!k), p.2)
theorem de_not {K ta fa} (ha : DE K ta fa) : DE K (tNotT K ta) (fNot fa) := by
  intro ρ d ρ' e F B σ H I Q q
  obtain ⟨⟨x, ρ1⟩, e1, e⟩ := Option.bind_eq_some_iff.mp e
  obtain ⟨k, e2, e⟩ := Option.map_eq_some_iff.mp e
  cases e
  exact ha _ _ _ e1 F B σ H I _ fun v1 B1 H1 I1 s1 r1 => ⟨_, r1.tru e2, q _ B1 H1 I1 s1 (.bl _)⟩
/-- tests -/
def fTr (fa : FE) : FT := fun ρ => (fa ρ).bind fun p => (truD p.1).map fun k => (k, p.2)
def tTr (K : PySem.W.Frag) (ta : TE) : TT := fun σ H Q => ta σ H fun x H' => ∃ k, TruV K x H' k ∧ Q k H'
theorem dt_tr {K ta fa} (ha : DE K ta fa) : DT K (tTr K ta) (fTr fa) := by
  intro ρ d ρ' e F B σ H I Q q
  obtain ⟨⟨x, ρ1⟩, e1, e⟩ := Option.bind_eq_some_iff.mp e
  obtain ⟨k, e2, e⟩ := Option.map_eq_some_iff.mp e
  cases e
  exact ha _ _ _ e1 F B σ H I _ fun v1 B1 H1 I1 s1 r1 => ⟨_, r1.tru e2, q B1 H1 I1 s1⟩
theorem pt_tr {X : Cx} {a : Expr} {ta : TE} (ha : PE X a ta) (he : ∀ whole, isTrue a X.env whole = (do let v ← whole; standAt a.pos; holding [v] (truthy v)) := by intro _; rfl) : PT X a (tTr X.K ta) := pt_truth ha he
def fBt (fa : FE) : FT := fun ρ => (fa ρ).bind fun p => match p.1 with
  | .bl k => some (k, p.2)
  | _ => none
theorem dt_bl {K ta fa} (ha : DE K ta fa) : DT K (tTest ta) (fBt fa) := by
  intro ρ d ρ' e F B σ H I Q q
  obtain ⟨⟨x, ρ1⟩, e1, e⟩ := Option.bind_eq_some_iff.mp e
  simp only at e
  split at e
  · cases e
    refine ha _ _ _ e1 F B σ H I _ fun v1 B1 H1 I1 s1 r1 => ?_
    cases r1
    exact ⟨_, rfl, q B1 H1 I1 s1⟩
  · cases e
def ftAnd (fa fb : FT) : FT := fun ρ => (fa ρ).bind fun p => if p.1 = true then fb p.2 else some (false, p.2)
def ftOr (fa fb : FT) : FT := fun ρ => (fa ρ).bind fun p => if p.1 = true then some (true, p.2) else fb p.2
def ftNot (fa : FT) : FT := fun ρ => (fa ρ).map fun p => (!p.1, p.2)
theorem dt_and {K ta tb fa fb} (ha : DT K ta fa) (hb : DT K tb fb) : DT K (tAnd ta tb) (ftAnd fa fb) := by
  intro ρ d ρ' e F B σ H I Q q
  obtain ⟨⟨k, ρ1⟩, e1, e⟩ := Option.bind_eq_some_iff.mp e
  refine ha _ _ _ e1 F B σ H I _ fun B1 H1 I1 s1 => ?_
  cases k with
  | true => exact hb _ _ _ e F B1 σ H1 I1 _ fun B2 H2 I2 s2 => q B2 H2 I2 (s1.trans s2)
  | false => cases e; exact q B1 H1 I1 s1
theorem dt_or {K ta tb fa fb} (ha : DT K ta fa) (hb : DT K tb fb) : DT K (tOr ta tb) (ftOr fa fb) := by
  intro ρ d ρ' e F B σ H I Q q
  obtain ⟨⟨k, ρ1⟩, e1, e⟩ := Option.bind_eq_some_iff.mp e
  refine ha _ _ _ e1 F B σ H I _ fun B1 H1 I1 s1 => ?_
  cases k with
  | false => exact hb _ _ _ e F B1 σ H1 I1 _ fun B2 H2 I2 s2 => q B2 H2 I2 (s1.trans s2)
  | true => cases e; exact q B1 H1 I1 s1
theorem dt_not {K ta fa} (ha : DT K ta fa) : DT K (tNot ta) (ftNot fa) := by
  intro ρ d ρ' e F B σ H I Q q
  obtain ⟨⟨k, ρ1⟩, e1, e⟩ := Option.map_eq_some_iff.mp e
  cases e
  exact ha _ _ _ e1 F B σ H I _ fun B1 H1 I1 s1 => q B1 H1 I1 s1
def fIf (fc : FT) (fa fb : FE) : FE := fun ρ => (fc ρ).bind fun p => if p.1 = true then fa p.2 else fb p.2
theorem de_if {K tc ta tb fc fa fb} (hc : DT K tc fc) (ha : DE K ta fa) (hb : DE K tb fb) : DE K (tIf tc ta tb) (fIf fc fa fb) := by
  intro ρ d ρ' e F B σ H I Q q
  obtain ⟨⟨k, ρ1⟩, e1, e⟩ := Option.bind_eq_some_iff.mp e
  refine hc _ _ _ e1 F B σ H I _ fun B1 H1 I1 s1 => ?_
  cases k with
  | true => exact ha _ _ _ e F B1 σ H1 I1 _ fun v B2 H2 I2 s2 r2 => q v B2 H2 I2 (s1.trans s2) r2
  | false => exact hb _ _ _ e F B1 σ H1 I1 _ fun v B2 H2 I2 s2 r2 => q v B2 H2 I2 (s1.trans s2) r2

/-! ### arguments -/
def faNil : FA := fun ρ => some ([], ρ)
def faCons (f : FE) (g : FA) : FA := fun ρ => (f ρ).bind fun p => (g p.2).map fun q => (.val p.1 :: q.1, q.2)
/-- a list of one's own, handed on to be changed -/
def faOwn (i : Nat) (g : FA) : FA := fun ρ => match ρ[i]? with
  | some (some (.ow _ _)) => (g ρ).map fun q => (.own i :: q.1, q.2)
  | _ => none
theorem da_nil {K} : DA K tNil faNil := by
  intro ρ as ρ' e F B σ H I Q q
  cases e
  exact q [] B H I .refl .nil
theorem pagr_grow {K B H B' H' σ} (g : Grow B H B' H') : ∀ {as : List Ag} {vs : List V}, Paired (AgRel K B H σ) as vs → Paired (AgRel K B' H' σ) as vs
  | _, _, .nil => .nil
  | _, _, .cons h t => .cons (h.grow g) (pagr_grow g t)
theorem da_cons {K te ta f g} (he : DE K te f) (ha : DA K ta g) : DA K (tCons te ta) (faCons f g) := by
  intro ρ as ρ' e F B σ H I Q q
  obtain ⟨⟨x, ρ1⟩, e1, e⟩ := Option.bind_eq_some_iff.mp e
  obtain ⟨⟨ys, ρ2⟩, e2, e⟩ := Option.map_eq_some_iff.mp e
  cases e
  refine he _ _ _ e1 F B σ H I _ fun v B1 H1 I1 s1 r1 => ?_
  refine ha _ _ _ e2 F B1 σ H1 I1 _ fun vs B2 H2 I2 s2 r2 => ?_
  exact q (v :: vs) B2 H2 I2 (s1.trans s2) (.cons (Rep.grow s2.grow r1) r2)
theorem da_own {K ta g} (i : Nat) (ha : DA K ta g) : DA K (tCons (tVar i) ta) (faOwn i g) := by
  intro ρ as ρ' e F B σ H I Q q
  unfold faOwn at e
  split at e
  · rename_i l d0 e0
    obtain ⟨⟨ys, ρ2⟩, e2, e⟩ := Option.map_eq_some_iff.mp e
    cases e
    obtain ⟨a, h1, _⟩ := I.ow i _ _ e0
    refine ⟨_, h1, ?_⟩
    refine ha _ _ _ e2 F B σ H I _ fun vs B2 H2 I2 s2 r2 => ?_
    exact q _ B2 H2 I2 s2 (.cons h1 r2)
  · cases e
/-- e and the items behind a star -/
def faStar (f : FE) (g : FA) : FA := fun ρ => (f ρ).bind fun p => (g p.2).bind fun q => match p.1 with
  | .tup ds => some (ds.map .val ++ q.1, q.2)
  | .lst ds => some (ds.map .val ++ q.1, q.2)
  | _ => none
theorem Reps.ags {K B H σ} : ∀ {ds : List D} {vs : List V}, Reps K B H ds vs → Paired (AgRel K B H σ) (ds.map Ag.val) vs
  | _, _, .nil => .nil
  | _, _, .cons h t => .cons h (Reps.ags t)
theorem paired_app {α β : Type} {R : α → β → Prop} : ∀ {xs xs' : List α} {ys ys' : List β}, Paired R xs ys → Paired R xs' ys' → Paired R (xs ++ xs') (ys ++ ys')
  | _, _, _, _, .nil, t => t
  | _, _, _, _, .cons h r, t => .cons h (paired_app r t)
theorem da_star {K te ta f g} (he : DE K te f) (ha : DA K ta g) : DA K (StX.tStar K te ta) (faStar f g) := by
  intro ρ as ρ' e F B σ H I Q q
  obtain ⟨⟨x, ρ1⟩, e1, e⟩ := Option.bind_eq_some_iff.mp e
  obtain ⟨⟨ys, ρ2⟩, e2, e⟩ := Option.bind_eq_some_iff.mp e
  refine he _ _ _ e1 F B σ H I _ fun v B1 H1 I1 s1 r1 => ?_
  simp only at e
  split at e
  · cases e
    cases r1 with
    | tup hv rr =>
      refine ⟨_, _, rfl, .inl hv.sq, ?_⟩
      refine ha _ _ _ e2 F B1 σ H1 I1 _ fun vs B2 H2 I2 s2 r2 => ?_
      exact q _ B2 H2 I2 (s1.trans s2) (paired_app (rr.grow s2.grow).ags r2)
  · cases e
    cases r1 with
    | lst nb hv rr =>
      refine ⟨_, _, rfl, .inr (.inl (.inl hv)), ?_⟩
      refine ha _ _ _ e2 F B1 σ H1 I1 _ fun vs B2 H2 I2 s2 r2 => ?_
      exact q _ B2 H2 I2 (s1.trans s2) (paired_app (rr.grow s2.grow).ags r2)
  · cases e
/-- the arguments are plain data -/
def vals : List Ag → Option (List D)
  | [] => some []
  | .val d :: r => (vals r).map fun ds => d :: ds
  | .own _ :: _ => none
theorem vals_reps {K B H σ} : ∀ {as : List Ag} {vs : List V} {ds : List D}, Paired (AgRel K B H σ) as vs → vals as = some ds → Reps K B H ds vs
  | _, _, _, .nil, e => by cases e; exact .nil
  | .val d :: r, _, _, .cons h t, e => by
    obtain ⟨ds, e1, e2⟩ := Option.map_eq_some_iff.mp e
    cases e2
    exact .cons h (vals_reps t e1)
  | .own _ :: _, _, _, .cons _ _, e => by cases e
def fArgs (fa : FA) : En → Option (List D × En) := fun ρ => (fa ρ).bind fun p => (vals p.1).map fun ds => (ds, p.2)

/-! ### displays -/
def fTup (fa : FA) : FE := fun ρ => (fArgs fa ρ).bind fun p => if p.1.length ≤ 1000000 then some (.tup p.1, p.2) else none
theorem de_tup {K ta fa} (h : DA K ta fa) : DE K (tTup ta) (fTup fa) := by
  intro ρ d ρ' e F B σ H I Q q
  obtain ⟨⟨ds, ρ1⟩, e1, e⟩ := Option.bind_eq_some_iff.mp e
  obtain ⟨⟨as, ρ2⟩, e2, e1⟩ := Option.bind_eq_some_iff.mp e1
  obtain ⟨ds', e3, e1⟩ := Option.map_eq_some_iff.mp e1
  cases e1
  simp only at e
  split at e
  · rename_i c
    cases e
    refine h _ _ _ e2 F B σ H I _ fun vs B1 H1 I1 s1 r1 => ?_
    have rr := vals_reps r1 e3
    exact ⟨szl (by rw [← rr.length]; exact c), fun p hp => q _ B1 _ (I1.ext (Ext.new hp)) (s1.trans (Ext.new hp).stp) (rep_newT I1.hs hp rr)⟩
  · cases e
def fLst (fa : FA) : En → Option (List D × En) := fun ρ => (fArgs fa ρ).bind fun p => if p.1.length ≤ 1000000 then some p else none
theorem dn_lst {K ta fa} (h : DA K ta fa) : DN K (tLst ta) (fLst fa) := by
  intro ρ d ρ' e F B σ H I Q q
  obtain ⟨⟨ds, ρ1⟩, e1, e⟩ := Option.bind_eq_some_iff.mp e
  obtain ⟨⟨as, ρ2⟩, e2, e1⟩ := Option.bind_eq_some_iff.mp e1
  obtain ⟨ds', e3, e1⟩ := Option.map_eq_some_iff.mp e1
  cases e1
  simp only at e
  split at e
  · rename_i c
    cases e
    refine h _ _ _ e2 F B σ H I _ fun vs B1 H1 I1 s1 r1 => ?_
    have rr := vals_reps r1 e3
    exact ⟨szl (by rw [← rr.length]; exact c), fun p hp => dn_new (Q := Q) s1 I1 hp rr q⟩
  · cases e

/-! ### calls of built-ins by data -/
abbrev CR1 := List V → Hp → VK → Prop
def CRat (K : PySem.W.Frag) (r : CR1) (ds : List D) (z : D) : Prop := ∀ B H xs, (∀ b, B b → ∃ o, H b = some o) → Reps K B H ds xs → ∀ Q : VK, (∀ v H', Ext H H' → Rep K B H' z v → Q v H') → r xs H Q
def CRD (K : PySem.W.Frag) (r : CR1) (g : List D → Option D) : Prop := ∀ ds z, g ds = some z → CRat K r ds z
def fCB (g : List D → Option D) (fa : FA) : FE := fun ρ => (fArgs fa ρ).bind fun p => (g p.1).map fun z => (z, p.2)
theorem de_cb {K r ta g fa} (hr : CRD K r g) (h : DA K ta fa) : DE K (tCB r ta) (fCB g fa) := by
  intro ρ d ρ' e F B σ H I Q q
  obtain ⟨⟨ds, ρ1⟩, e1, e⟩ := Option.bind_eq_some_iff.mp e
  obtain ⟨⟨as, ρ2⟩, e2, e1⟩ := Option.bind_eq_some_iff.mp e1
  obtain ⟨ds', e3, e1⟩ := Option.map_eq_some_iff.mp e1
  cases e1
  obtain ⟨z, e4, e⟩ := Option.map_eq_some_iff.mp e
  cases e
  refine h _ _ _ e2 F B σ H I _ fun vs B1 H1 I1 s1 r1 => ?_
  exact hr _ _ e4 B1 H1 vs I1.hs (vals_reps r1 e3) _ fun v H' x r' => q v B1 H' (I1.ext x) (s1.trans x.stp) r'
end DL

end

section
set_option maxRecDepth 100000
set_option maxHeartbeats 1000000
/-! The data layer, part E: targets, iterables, comprehensions. -/
namespace DL
open PySem PySem.Spec L2

/-! ### targets -/
section
variable {K : PySem.W.Frag} {B B' : Hid} {H H' : Hp} {F : Fr} {ρ ρ' : En} {σ : L2.St}
theorem SI.set_sh {i : Nat} {d : D} {v : V} (I : SI K F B ρ σ H) (hi : i < ρ.length) (r : Rep K B H d v) : SI K F B (ρ.set i (some (Sl.sh d))) (σ.set i (some v)) H := by
  have hσ : i < σ.length := by rw [← I.len]; exact hi
  have oth : ∀ (j : Nat) (l : Bool) (d' : D), (ρ.set i (some (Sl.sh d)))[j]? = some (some (Sl.ow l d')) → j ≠ i ∧ ρ[j]? = some (some (Sl.ow l d')) := fun j l d' q => by
    by_cases hj : j = i
    · subst hj
      rw [List.getElem?_set_self hi] at q
      cases q
    · rw [List.getElem?_set_ne (Ne.symm hj)] at q
      exact ⟨hj, q⟩
  refine ⟨by rw [List.length_set, List.length_set]; exact I.len, fun j d' q => ?_, fun j l d' q => ?_, fun j k l l' d1 d2 b q1 q2 h1 h2 => ?_, I.fr, I.hid, I.hs, I.b0, I.aB⟩
  · by_cases hj : j = i
    · subst hj
      rw [List.getElem?_set_self hi] at q
      cases q
      exact ⟨v, List.getElem?_set_self hσ, r⟩
    · rw [List.getElem?_set_ne (Ne.symm hj)] at q
      obtain ⟨w, h1, h2⟩ := I.sh j d' q
      exact ⟨w, by rw [List.getElem?_set_ne (Ne.symm hj)]; exact h1, h2⟩
  · obtain ⟨hj, q⟩ := oth j l d' q
    obtain ⟨a, h1, h2⟩ := I.ow j l d' q
    exact ⟨a, by rw [List.getElem?_set_ne (Ne.symm hj)]; exact h1, h2⟩
  · obtain ⟨hj, q1⟩ := oth j l d1 q1
    obtain ⟨hk, q2⟩ := oth k l' d2 q2
    rw [List.getElem?_set_ne (Ne.symm hj)] at h1
    rw [List.getElem?_set_ne (Ne.symm hk)] at h2
    exact I.ap j k l l' d1 d2 b q1 q2 h1 h2
theorem wipe_set {σ : L2.St} {i : Nat} {o : Option V} : ∀ {vs : List Nat}, i ∈ vs → wipe (σ.set i o) vs = wipe σ vs
  | v :: vs, h => by
    show (wipe (σ.set i o) vs).set v none = (wipe σ vs).set v none
    by_cases hm : i ∈ vs
    · rw [wipe_set hm]
    · have e : i = v := by
        rcases List.mem_cons.mp h with e | e
        · exact e
        · exact absurd e hm
      subst e
      have key : ∀ ws : List Nat, i ∉ ws → wipe (σ.set i o) ws = (wipe σ ws).set i o := by
        intro ws
        induction ws with
        | nil => intro _; rfl
        | cons w ws ih =>
          intro hw
          simp only [List.mem_cons, not_or] at hw
          show (wipe (σ.set i o) ws).set w none = ((wipe σ ws).set w none).set i o
          rw [ih hw.2, List.set_comm _ _ hw.1]
      rw [key vs hm, List.set_set]
end
def pName (i : Nat) : D → En → Option En := fun d ρ => if i < ρ.length then some (ρ.set i (some (.sh d))) else none
theorem dg_name {K} (i : Nat) : DG K [i] (gName i) (pName i) := by
  intro d ρ ρ' e F B σ H v I r Q q
  unfold pName at e
  split at e
  · rename_i hi
    cases e
    exact q _ (I.set_sh hi r) fun vs h => wipe_set (h i (List.mem_singleton_self i))
  · cases e
def pNil : List D → En → Option En := fun ds ρ => match ds with
  | [] => some ρ
  | _ => none
def pCons (p : D → En → Option En) (ps : List D → En → Option En) : List D → En → Option En := fun ds ρ => match ds with
  | d :: r => (p d ρ).bind fun ρ1 => ps r ρ1
  | _ => none
theorem dgs_nil {K} : DGs K [] gNil pNil := by
  intro ds ρ ρ' e F B σ H vs I r Q q
  unfold pNil at e
  split at e
  · cases e
    cases r
    exact ⟨rfl, q σ I fun _ _ => rfl⟩
  · cases e
theorem dgs_cons {K is js g gs p ps} (h : DG K is g p) (hs : DGs K js gs ps) : DGs K (is ++ js) (gCons g gs) (pCons p ps) := by
  intro ds ρ ρ' e F B σ H vs I r Q q
  unfold pCons at e
  split at e
  · obtain ⟨ρ1, e1, e2⟩ := Option.bind_eq_some_iff.mp e
    cases r with
    | cons r1 rs =>
      refine ⟨_, _, rfl, ?_⟩
      refine h _ _ _ e1 F B σ H _ I r1 _ fun σ1 I1 w1 => ?_
      refine hs _ _ _ e2 F B σ1 H _ I1 rs _ fun σ2 I2 w2 => ?_
      exact q σ2 I2 fun ws hw => (w2 ws fun i hi => hw i (List.mem_append_right _ hi)).trans (w1 ws fun i hi => hw i (List.mem_append_left _ hi))
  · cases e
def pTup (n : Nat) (ps : List D → En → Option En) : D → En → Option En := fun d ρ => match d with
  | .tup ds => if ds.length = n then ps ds ρ else none
  | _ => none
theorem dg_tup {K is n gs ps} (h : DGs K is gs ps) : DG K is (gTup K n gs) (pTup n ps) := by
  intro d ρ ρ' e F B σ H v I r Q q
  unfold pTup at e
  split at e
  · split at e
    · rename_i hn
      cases r with
      | tup hv rr => exact ⟨_, _, rfl, hv.sq, by rw [← rr.length]; exact hn, h _ _ _ e F B σ H _ I rr Q q⟩
    · cases e
  · cases e

/-! ### iterables -/
theorem PI_or {X : Cx} {tg iter : Expr} {w1 w2 : TI} (h1 : PI X tg iter w1) (h2 : PI X tg iter w2) : PI X tg iter (fun σ H R => w1 σ H R ∨ w2 σ H R) :=
  ⟨fun pins s σ H R I h => h.elim (h1.run pins s σ H R I) (h2.run pins s σ H R I)⟩
def iSq (K : PySem.W.Frag) (te : TE) : TI := fun σ H R => iList K te σ H R ∨ iTup K te σ H R ∨ iStr te σ H R
theorem pi_sq {X : Cx} {tg e : Expr} {te : TE} (he : PE X e te) : PI X tg e (iSq X.K te) := PI_or (pi_list he) (PI_or (pi_tup he) (pi_str he))
def signs (x : Str) : List D := x.cps.toList.map fun c => .str ⟨#[c]⟩
/-- the items of a tuple, a list, a text -/
def itD : D → Option (List D)
  | .tup ds => some ds
  | .lst ds => some ds
  | .frl ns => some (ns.map .int)
  | .str x => some (signs x)
  | _ => none
def fIt (f : FE) : En → Option (List D × En) := fun ρ => (f ρ).bind fun p => (itD p.1).map fun ds => (ds, p.2)
theorem iter_list {K B H a vs ds} (nb : ¬ B a) (h : H a = some (.lst vs)) (r : Reps K B H ds vs) : Iter K (Itl K a) ds B H := fun B' H' g _ => by
  have h' := (g a _ nb h).2
  have hsq : SqL K H' a vs := .inl (.inl h')
  refine ⟨fun i d hd => ?_, fun i hi => ⟨vs, hsq, by rw [← r.length]; exact hi⟩⟩
  obtain ⟨v, h1, h2⟩ := (r.grow g).get hd
  refine ⟨⟨vs, v, hsq, h1⟩, fun x H3 ⟨e, hx⟩ => ?_⟩
  have e2 := hx vs hsq
  rw [h1] at e2; cases e2
  rw [e]
  exact ⟨Ext.refl _, h2⟩
theorem iter_tup {K B H a vs ds} (h : VT K B H a vs) (r : Reps K B H ds vs) : Iter K (Itt K a) ds B H := fun B' H' g _ => by
  have hsq : SqT K H' a vs := (g.vt h).sq
  refine ⟨fun i d hd => ?_, fun i hi => ⟨vs, hsq, by rw [← r.length]; exact hi⟩⟩
  obtain ⟨v, h1, h2⟩ := (r.grow g).get hd
  refine ⟨⟨vs, v, hsq, h1⟩, fun x H3 ⟨e, hx⟩ => ?_⟩
  have e2 := hx vs hsq
  rw [h1] at e2; cases e2
  rw [e]
  exact ⟨Ext.refl _, h2⟩
theorem iter_frl {K B H a} {ns : List Int} (h : VLi K B H a (ns.map V.int)) : Iter K (Itl K a) (ns.map .int) B H := fun B' H' g _ => by
  have h' : VLi K B' H' a (ns.map V.int) := h.elim (fun z => .inl (g.rd z)) .inr
  have hsq : SqL K H' a (ns.map V.int) := h'.sq
  refine ⟨fun i d hd => ?_, fun i hi => ⟨_, hsq, by rw [List.length_map] at hi ⊢; exact hi⟩⟩
  obtain ⟨v, h1, h2⟩ := (Reps.ints (K := K) (B := B') (H := H') (xs := ns)).get hd
  refine ⟨⟨_, v, hsq, h1⟩, fun x H3 ⟨e, hx⟩ => ?_⟩
  have e2 := hx _ hsq
  rw [h1] at e2; cases e2
  rw [e]
  exact ⟨Ext.refl _, h2⟩
theorem iter_str {K B H} {x : Str} : Iter K (Its x) (signs x) B H := fun B' H' g _ => by
  have hl : (signs x).length = x.cps.size := by unfold signs; rw [List.length_map, Array.length_toList]
  refine ⟨fun i d hd => ?_, fun i hi => by show x.cps.size ≤ i; rw [← hl]; exact hi⟩
  unfold signs at hd
  rw [List.getElem?_map] at hd
  obtain ⟨c, h1, h2⟩ := Option.map_eq_some_iff.mp hd
  cases h2
  rw [Array.getElem?_toList] at h1
  refine ⟨(Array.getElem?_eq_some_iff.mp h1).1, fun v H3 ⟨e, c', h3, h4⟩ => ?_⟩
  rw [h1] at h3; cases h3
  rw [e, h4]
  exact ⟨Ext.refl _, .str _⟩
theorem di_sq {K te f} (h : DE K te f) : DI K (iSq K te) (fIt f) := by
  intro ρ ds ρ' e F B σ H I R q
  obtain ⟨⟨d, ρ1⟩, e1, e⟩ := Option.bind_eq_some_iff.mp e
  obtain ⟨ds', e2, e⟩ := Option.map_eq_some_iff.mp e
  cases e
  simp only at e2
  unfold itD at e2
  split at e2
  · cases e2
    refine .inr (.inl ?_)
    refine h _ _ _ e1 F B σ H I _ fun v B1 H1 I1 s1 r => ?_
    cases r with
    | tup hv rr => exact ⟨_, rfl, ⟨_, hv.sq⟩, q _ B1 H1 I1 s1 (iter_tup hv rr)⟩
  · cases e2
    refine .inl ?_
    refine h _ _ _ e1 F B σ H I _ fun v B1 H1 I1 s1 r => ?_
    cases r with
    | lst nb hv rr => exact ⟨_, rfl, ⟨_, .inl (.inl hv)⟩, q _ B1 H1 I1 s1 (iter_list nb hv rr)⟩
  · cases e2
    refine .inl ?_
    refine h _ _ _ e1 F B σ H I _ fun v B1 H1 I1 s1 r => ?_
    cases r with
    | frl hv => exact ⟨_, rfl, ⟨_, hv.sq⟩, q _ B1 H1 I1 s1 (iter_frl hv)⟩
  · cases e2
    refine .inr (.inr ?_)
    refine h _ _ _ e1 F B σ H I _ fun v B1 H1 I1 s1 r => ?_
    cases r
    exact ⟨_, rfl, q _ B1 H1 I1 s1 iter_str⟩
  · cases e2
def rangeD (lo : Int) (n : Nat) : List D := (List.range n).map fun (i : Nat) => D.int (lo + (i : Int))
theorem iter_range {K B H lo n} : Iter K (Itr lo n) (rangeD lo n) B H := fun B' H' g _ => by
  have hl : (rangeD lo n).length = n := by unfold rangeD; rw [List.length_map, List.length_range]
  refine ⟨fun i d hd => ?_, fun i hi => by show n ≤ i; rw [← hl]; exact hi⟩
  have hi : i < n := by rw [← hl]; exact (List.getElem?_eq_some_iff.mp hd).1
  unfold rangeD at hd
  rw [List.getElem?_map, List.getElem?_range hi] at hd
  cases hd
  refine ⟨hi, fun v H3 ⟨e, h4⟩ => ?_⟩
  rw [e, h4]
  exact ⟨Ext.refl _, .int _⟩
def fRng1 (fa : FA) : En → Option (List D × En) := fun ρ => (fArgs fa ρ).bind fun p => match p.1 with
  | [.int j] => if -(2 ^ 62) ≤ j ∧ j < 2 ^ 62 then some (rangeD 0 j.toNat, p.2) else none
  | _ => none
theorem args_split {fa : FA} {ρ : En} {ds : List D} {ρ1 : En} (e : fArgs fa ρ = some (ds, ρ1)) : ∃ as, fa ρ = some (as, ρ1) ∧ vals as = some ds := by
  obtain ⟨⟨as, ρ2⟩, e2, e1⟩ := Option.bind_eq_some_iff.mp e
  obtain ⟨ds', e3, e1⟩ := Option.map_eq_some_iff.mp e1
  cases e1
  exact ⟨as, e2, e3⟩
theorem di_rng1 {K ta fa} (h : DA K ta fa) : DI K (iRng1 ta) (fRng1 fa) := by
  intro ρ ds ρ' e F B σ H I R q
  obtain ⟨⟨xs, ρ1⟩, e1, e⟩ := Option.bind_eq_some_iff.mp e
  obtain ⟨as, e2, e3⟩ := args_split e1
  simp only at e
  split at e
  · split at e
    · rename_i c
      cases e
      refine h _ _ _ e2 F B σ H I _ fun vs B1 H1 I1 s1 r1 => ?_
      have rr := vals_reps r1 e3
      cases rr with
      | cons r2 r3 =>
        cases r2; cases r3
        exact ⟨_, rfl, c.1, c.2, q _ B1 H1 I1 s1 iter_range⟩
    · cases e
  · cases e
def fRng2 (fa : FA) : En → Option (List D × En) := fun ρ => (fArgs fa ρ).bind fun p => match p.1 with
  | [.int i, .int j] => if -(2 ^ 62) ≤ i ∧ i < 2 ^ 62 ∧ -(2 ^ 62) ≤ j ∧ j < 2 ^ 62 then some (rangeD i (j - i).toNat, p.2) else none
  | _ => none
theorem di_rng2 {K ta fa} (h : DA K ta fa) : DI K (iRng2 ta) (fRng2 fa) := by
  intro ρ ds ρ' e F B σ H I R q
  obtain ⟨⟨xs, ρ1⟩, e1, e⟩ := Option.bind_eq_some_iff.mp e
  obtain ⟨as, e2, e3⟩ := args_split e1
  simp only at e
  split at e
  · split at e
    · rename_i c
      cases e
      refine h _ _ _ e2 F B σ H I _ fun vs B1 H1 I1 s1 r1 => ?_
      have rr := vals_reps r1 e3
      cases rr with
      | cons r2 r3 =>
        cases r2
        cases r3 with
        | cons r4 r5 =>
          cases r4; cases r5
          exact ⟨_, _, rfl, c, q _ B1 H1 I1 s1 iter_range⟩
    · cases e
  · cases e

/-! ### comprehensions -/
def wipeE (ρ : En) : List Nat → En
  | [] => ρ
  | v :: vs => (wipeE ρ vs).set v none
theorem wipeE_length (ρ : En) : ∀ vs : List Nat, (wipeE ρ vs).length = ρ.length
  | [] => rfl
  | v :: vs => by unfold wipeE; rw [List.length_set, wipeE_length ρ vs]
theorem wipeE_some {ρ : En} {i : Nat} {x : Sl} : ∀ {vs : List Nat}, (wipeE ρ vs)[i]? = some (some x) → ρ[i]? = some (some x) ∧ i ∉ vs
  | [], h => ⟨h, by simp⟩
  | v :: vs, h => by
    unfold wipeE at h
    by_cases hi : v = i
    · subst hi
      by_cases hv : v < (wipeE ρ vs).length
      · rw [List.getElem?_set_self hv] at h; cases h
      · rw [List.getElem?_eq_none (by simpa using hv)] at h; cases h
    · rw [List.getElem?_set_ne hi] at h
      obtain ⟨h1, h2⟩ := wipeE_some h
      exact ⟨h1, by simp only [List.mem_cons, not_or]; exact ⟨fun e => hi e.symm, h2⟩⟩
theorem wipe_keep {σ : L2.St} {i : Nat} : ∀ {vs : List Nat}, i ∉ vs → (wipe σ vs)[i]? = σ[i]?
  | [], _ => rfl
  | v :: vs, h => by
    simp only [List.mem_cons, not_or] at h
    unfold wipe
    rw [List.getElem?_set_ne (Ne.symm h.1), wipe_keep h.2]
section
variable {K : PySem.W.Frag} {B B' : Hid} {H H' : Hp} {F : Fr} {ρ ρ' : En} {σ σ' : L2.St} {vs : List Nat}
/-- the env with the slots vs forgotten, over any state that is the same elsewhere -/
theorem SI.wiped (I : SI K F B ρ σ H) (h : wipe σ' vs = wipe σ vs) : SI K F B (wipeE ρ vs) σ' H := by
  have look : ∀ i : Nat, i ∉ vs → σ'[i]? = σ[i]? := fun i hi => by rw [← wipe_keep (σ := σ') hi, h, wipe_keep hi]
  have hlen : σ'.length = σ.length := by rw [← wipe_length σ' vs, h, wipe_length]
  refine ⟨by rw [wipeE_length, hlen]; exact I.len, fun i d q => ?_, fun i l d q => ?_, fun i j l l' d d' a q1 q2 h1 h2 => ?_, I.fr, I.hid, I.hs, I.b0, I.aB⟩
  · obtain ⟨q, hi⟩ := wipeE_some q
    rw [look i hi]
    exact I.sh i d q
  · obtain ⟨q, hi⟩ := wipeE_some q
    rw [look i hi]
    exact I.ow i l d q
  · obtain ⟨q1, hi⟩ := wipeE_some q1
    obtain ⟨q2, hj⟩ := wipeE_some q2
    rw [look i hi] at h1
    rw [look j hj] at h2
    exact I.ap i j l l' d d' a q1 q2 h1 h2
theorem wipe_wipe {σ : L2.St} : ∀ {vs : List Nat}, wipe (wipe σ vs) vs = wipe σ vs := fun {vs} => by
  refine List.ext_getElem? fun i => ?_
  by_cases hi : i ∈ vs
  · have gone : ∀ (τ : L2.St) (ws : List Nat), i ∈ ws → (wipe τ ws)[i]? = if i < τ.length then some none else none := by
      intro τ ws
      induction ws with
      | nil => intro h; cases h
      | cons w ws ih =>
        intro h
        unfold wipe
        by_cases e : w = i
        · subst e
          by_cases hl : w < τ.length
          · rw [List.getElem?_set_self (by rw [wipe_length]; exact hl), if_pos hl]
          · rw [List.getElem?_eq_none (by rw [List.length_set, wipe_length]; omega), if_neg hl]
        · rw [List.getElem?_set_ne e]
          exact ih ((List.mem_cons.mp h).resolve_left fun q => e q.symm)
    rw [gone _ _ hi, gone _ _ hi, wipe_length]
  · rw [wipe_keep hi]
end
/-- one turn after another: acc what is made so far -/
def lcGo (vs : List Nat) (p : D → En → Option En) (ft : FT) (fe : FE) : List D → List D → En → Option (List D × En)
  | [], acc, ρ => some (acc, ρ)
  | x :: xs, acc, ρ => (p x ρ).bind fun ρ2 => (ft ρ2).bind fun q =>
    if q.1 = true then (fe q.2).bind fun r => if acc.length < 1000000 then lcGo vs p ft fe xs (acc ++ [r.1]) (wipeE r.2 vs) else none
    else lcGo vs p ft fe xs acc (wipeE q.2 vs)
def fLc (vs : List Nat) (fi : En → Option (List D × En)) (p : D → En → Option En) (ft : FT) (fe : FE) : En → Option (List D × En) := fun ρ => (fi ρ).bind fun q => lcGo vs p ft fe q.1 [] (wipeE q.2 vs)
def fYes : FT := fun ρ => some (true, ρ)
theorem dt_yes {K} : DT K tYes fYes := by
  intro ρ b ρ' e F B σ H I Q q
  cases e
  exact q B H I .refl
theorem OwSub.wipe {ρ ρ1 : En} {vs : List Nat} (h : OwSub ρ ρ1) : OwSub (wipeE ρ vs) ρ1 := fun i l d q => h i l d (wipeE_some q).1
theorem none_wipe {ρ : En} {vs : List Nat} {j : Nat} (hj : j ∈ vs) : (wipeE ρ vs)[j]? = none ∨ (wipeE ρ vs)[j]? = some none := by
  cases z : (wipeE ρ vs)[j]? with
  | none => exact .inl rfl
  | some s =>
    cases s with
    | none => exact .inr rfl
    | some x => exact absurd hj (wipeE_some z).2
/-- a store keeps what is one's own elsewhere -/
def Tame (p : D → En → Option En) : Prop := ∀ x ρ ρ2, p x ρ = some ρ2 → ∀ (i : Nat) (l : Bool) (d : D), ρ2[i]? = some (some (Sl.ow l d)) → ρ[i]? = some (some (Sl.ow l d))
/-- between two turns -/
structure LcInv (K : PySem.W.Frag) (F : Fr) (vs : List Nat) (σ : L2.St) (ρ1 : En) (B1 : Hid) (H1 : Hp) (D0 : Addr) (acc : List D) (ρi : En) (Bi : Hid) (H' : Hp) (vacc : List V) : Prop where
  si : SI K F Bi ρi (wipe σ vs) H'
  non : ∀ j ∈ vs, ρi[j]? = none ∨ ρi[j]? = some none
  hd : Bi D0
  at_ : H' D0 = some (.lst vacc)
  rep : Reps K Bi H' acc vacc
  gr : Grow B1 H1 Bi H'
  kp : ∀ b o, H1 b = some o → NotOw ρ1 σ b → H' b = some o
  sub : OwSub ρi ρ1
  th : ∀ b o, H1 b = some o → ∃ o', H' b = some o'
  hi : ∀ b, B1 b → NotOw ρ1 σ b → Bi b
section
variable {K : PySem.W.Frag} {F : Fr} {vs : List Nat} {σ σ2 : L2.St} {ρ1 ρi ρ2 ρ3 : En} {B1 Bi B3 : Hid} {H1 H' H3 : Hp} {D0 : Addr} {acc : List D} {vacc : List V}
/-- nothing but the slots vs stands otherwise in σ2 -/
theorem LcInv.look (L : LcInv K F vs σ ρ1 B1 H1 D0 acc ρi Bi H' vacc) (w : wipe σ2 vs = wipe σ vs) (sub : ∀ (i : Nat) (l : Bool) (d : D), ρ2[i]? = some (some (Sl.ow l d)) → ∃ d', ρi[i]? = some (some (Sl.ow l d')))
    (j : Nat) (x : V) (z : σ2[j]? = some (some x)) (l : Bool) (d : D) (z2 : ρ2[j]? = some (some (Sl.ow l d))) : σ[j]? = some (some x) := by
  obtain ⟨d', z3⟩ := sub j l d z2
  have nj : j ∉ vs := fun hj => by
    rcases L.non j hj with n | n <;> (rw [n] at z3; cases z3)
  have : (wipe σ2 vs)[j]? = (wipe σ vs)[j]? := by rw [w]
  rw [wipe_keep nj, wipe_keep nj] at this
  rw [← this]; exact z
theorem LcInv.not1 (L : LcInv K F vs σ ρ1 B1 H1 D0 acc ρi Bi H' vacc) (w : wipe σ2 vs = wipe σ vs) (sub : ∀ (i : Nat) (l : Bool) (d : D), ρ2[i]? = some (some (Sl.ow l d)) → ∃ d', ρi[i]? = some (some (Sl.ow l d'))) {b : Addr} (n : NotOw ρ1 σ b) : NotOw ρ2 σ2 b := fun j l d z1 z2 => by
  obtain ⟨d', z3⟩ := sub j l d z1
  obtain ⟨d1, z4⟩ := L.sub j l d' z3
  exact n j l d1 z4 (L.look w sub j _ z2 l d z1)
/-- behind a turn that makes an item -/
theorem LcInv.next {ρ4 : En} {B4 : Hid} {H4 : Hp} {y : D} {v : V} (L : LcInv K F vs σ ρ1 B1 H1 D0 acc ρi Bi H' vacc) (I1 : SI K F B1 ρ1 σ H1) (hD : H1 D0 = none) (w : wipe σ2 vs = wipe σ vs)
    (sub : ∀ (i : Nat) (l : Bool) (d : D), ρ2[i]? = some (some (Sl.ow l d)) → ∃ d', ρi[i]? = some (some (Sl.ow l d'))) (x3 : Ext H' H3) (I4 : SI K F B4 ρ4 σ2 H4) (s : Stp ρ2 ρ4 σ2 Bi H3 B4 H4) :
    H4 D0 = some (.lst vacc) ∧ LcInv K F vs σ ρ1 B1 H1 D0 acc (wipeE ρ4 vs) B4 H4 vacc ∧ (Rep K B4 H4 y v → LcInv K F vs σ ρ1 B1 H1 D0 (acc ++ [y]) (wipeE ρ4 vs) B4 (upd H4 D0 (.lst (vacc ++ [v]))) (vacc ++ [v])) := by
  have nD1 : NotOw ρ1 σ D0 := fun j l d z1 z2 => by
    obtain ⟨a, h1, _, h3, _⟩ := I1.ow j l d z1
    rw [h1] at z2; cases z2
    obtain ⟨o, e⟩ := h3.there
    rw [hD] at e; cases e
  have nD2 : NotOw ρ2 σ2 D0 := L.not1 w sub nD1
  have hD3 : H3 D0 = some (.lst vacc) := x3 _ _ L.at_
  have hD4 : H4 D0 = some (.lst vacc) := s.keep _ _ hD3 nD2
  have bD4 : B4 D0 := s.hid _ L.hd nD2
  have g4 : Grow Bi H' B4 H4 := x3.grow.trans s.grow
  have sub4 : OwSub (wipeE ρ4 vs) ρ1 := fun j l d z => by
    obtain ⟨d2, z2⟩ := s.sub j l d (wipeE_some z).1
    obtain ⟨d3, z3⟩ := sub j l d2 z2
    exact L.sub j l d3 z3
  have th4 : ∀ b o, H1 b = some o → ∃ o', H4 b = some o' := fun b o e => by
    obtain ⟨o1, e1⟩ := L.th b o e
    exact s.there b o1 (x3 _ _ e1)
  have base : LcInv K F vs σ ρ1 B1 H1 D0 acc (wipeE ρ4 vs) B4 H4 vacc := {
    si := I4.wiped (by rw [wipe_wipe, w])
    non := fun j hj => none_wipe hj
    hd := bD4
    at_ := hD4
    rep := L.rep.grow g4
    gr := L.gr.trans g4
    kp := fun b o e n => s.keep b o (x3 _ _ (L.kp b o e n)) (L.not1 w sub n)
    sub := sub4
    th := th4
    hi := fun b h n => s.hid b (L.hi b h n) (L.not1 w sub n) }
  refine ⟨hD4, base, fun r => ?_⟩
  have gu : Grow B4 H4 B4 (upd H4 D0 (.lst (vacc ++ [v]))) := fun b o nb e => ⟨nb, by rw [upd_ne (fun z => nb (by rw [z]; exact bD4))]; exact e⟩
  have I5 := base.si
  refine { si := ?_, non := base.non, hd := bD4, at_ := upd_same, rep := (base.rep.grow gu).append (.cons (r.grow gu) .nil), gr := base.gr.trans gu, kp := fun b o e n => ?_, sub := sub4, th := fun b o e => ?_, hi := base.hi }
  · refine ⟨I5.len, fun i d e => ?_, fun i l d e => ?_, I5.ap, fun b o e n => ?_, I5.hid, fun b h => ?_, I5.b0, I5.aB⟩
    · obtain ⟨u, h1, h2⟩ := I5.sh i d e
      exact ⟨u, h1, h2.grow gu⟩
    · obtain ⟨a, h1, h2, h3, h4⟩ := I5.ow i l d e
      refine ⟨a, h1, h2, h3.grow gu fun o e2 => ?_, h4⟩
      have ne : a ≠ D0 := fun z => by
        have := base.sub i l d e
        obtain ⟨d1, e1⟩ := this
        have h1' := (wipe_some h1).1
        exact nD1 i l d1 e1 (by rw [← z]; exact h1')
      rw [upd_ne ne]; exact e2
    · have ne : b ≠ D0 := fun z => by
        have e3 := I1.fr b o e n
        rw [z, hD] at e3; cases e3
      rw [upd_ne ne]; exact I5.fr b o e n
    · by_cases ne : b = D0
      · exact ⟨_, by rw [ne]; exact upd_same⟩
      · obtain ⟨o, e⟩ := I5.hs b h
        exact ⟨o, by rw [upd_ne ne]; exact e⟩
  · have ne : b ≠ D0 := fun z => by rw [z, hD] at e; cases e
    rw [upd_ne ne]; exact base.kp b o e n
  · have ne : b ≠ D0 := fun z => by rw [z, hD] at e; cases e
    obtain ⟨o', e'⟩ := base.th b o e
    exact ⟨o', by rw [upd_ne ne]; exact e'⟩
end
theorem dn_lc {K wi g tt te fi is p ft fe} {vs : List Nat} (hi : DI K wi fi) (hg : DG K is g p) (hv : ∀ i ∈ is, i ∈ vs) (ht : DT K tt ft) (he : DE K te fe) (hp : Tame p) : DN K (tLc wi g tt te vs) (fLc vs fi p ft fe) := by
  intro ρ ds ρ' e F B σ H I Q q
  obtain ⟨⟨items, ρ1⟩, e1, e⟩ := Option.bind_eq_some_iff.mp e
  refine hi _ _ _ e1 F B σ H I _ fun J B1 H1 I1 s1 it D0 hD => ?_
  obtain ⟨f1, f2, f3⟩ := I1.fresh hD
  have x0 : Ext H1 (upd H1 D0 (.lst [])) := Ext.new hD
  have I2 := I1.hide x0 hD ⟨_, upd_same⟩
  refine ⟨fun i m H' => m = items.length - i ∧ i ≤ items.length ∧ ∃ acc ρi Bi vacc, lcGo vs p ft fe (items.drop i) acc ρi = some (ds, ρ') ∧ LcInv K F vs σ ρ1 B1 H1 D0 acc ρi Bi H' vacc, ⟨items.length, by simp, Nat.zero_le _, [], wipeE ρ1 vs, hide B1 D0, [], ?_⟩, ?_⟩
  · refine ⟨by rw [List.drop_zero]; exact e, I2.wiped wipe_wipe, fun j hj => none_wipe hj, .inr rfl, upd_same, .nil, .hide x0 hD, fun b o z _ => x0 b o z, fun i l d q => ⟨d, (wipeE_some q).1⟩, fun b o z => ⟨o, x0 b o z⟩, fun b h _ => .inl h⟩
  · rintro i m H' ⟨rfl, hi, acc, ρi, Bi, vacc, go, L⟩
    have itH := it Bi H' L.gr L.si.hs
    by_cases hlt : i < items.length
    · have hd : items.drop i = items[i] :: items.drop (i + 1) := (List.drop_eq_getElem_cons hlt)
      rw [hd] at go
      unfold lcGo at go
      obtain ⟨ρ2, e2, go⟩ := Option.bind_eq_some_iff.mp go
      obtain ⟨⟨b, ρ3⟩, e3, go⟩ := Option.bind_eq_some_iff.mp go
      obtain ⟨jgo, jy⟩ := itH.1 i items[i] (List.getElem?_eq_getElem hlt)
      refine .inr ⟨jgo, _, fun H'' z => ⟨items.length - (i + 1), by omega, z⟩, fun x H3 y => ?_⟩
      obtain ⟨x3, rx⟩ := jy x H3 y
      have I3 := L.si.ext x3
      refine hg _ _ _ e2 F Bi (wipe σ vs) H3 x I3 rx _ fun σ2 I4 w4 => ?_
      have w5 : wipe σ2 vs = wipe σ vs := (w4 vs hv).trans wipe_wipe
      refine ⟨w5, ?_⟩
      have sub2 : ∀ (i : Nat) (l : Bool) (d : D), ρ2[i]? = some (some (Sl.ow l d)) → ∃ d', ρi[i]? = some (some (Sl.ow l d')) := fun j l d z => ⟨d, hp _ _ _ e2 j l d z⟩
      refine ht _ _ _ e3 F Bi σ2 H3 I4 _ fun B5 H5 I5 s5 => ?_
      by_cases hb : b = true
      · rw [if_pos hb] at go ⊢
        obtain ⟨⟨y, ρ4⟩, e4, go⟩ := Option.bind_eq_some_iff.mp go
        simp only at go
        split at go
        · rename_i hacc
          refine he _ _ _ e4 F B5 σ2 H5 I5 _ fun v B6 H6 I6 s6 r6 => ?_
          obtain ⟨a1, _, a3⟩ := L.next (y := y) (v := v) I1 hD w5 sub2 x3 I6 (s5.trans s6)
          exact ⟨vacc, a1, szl' (by rw [← L.rep.length]; exact hacc), rfl, hlt, acc ++ [y], wipeE ρ4 vs, B6, _, go, a3 r6⟩
        · cases go
      · rw [if_neg hb] at go ⊢
        obtain ⟨_, a2, _⟩ := L.next (y := .non) (v := .non) I1 hD w5 sub2 x3 I5 s5
        exact ⟨rfl, hlt, acc, wipeE ρ3 vs, B5, _, go, a2⟩
    · have hie : i = items.length := by omega
      subst hie
      rw [List.drop_length] at go
      cases go
      refine .inl ⟨itH.2 _ (Nat.le_refl _), ?_⟩
      have wr : wipe σ vs = wipe (wipe σ vs) vs := wipe_wipe.symm
      have I9 : SI K F Bi (wipeE ρ' vs) σ H' := L.si.wiped wr
      have e9 : wipeE ρ' vs = ρ' := by
        refine List.ext_getElem? fun j => ?_
        by_cases hj : j ∈ vs
        · have hlen := wipeE_length ρ' vs
          rcases none_wipe (ρ := ρ') hj with n | n
          · rw [n]
            have := List.getElem?_eq_none_iff.mp n
            exact (List.getElem?_eq_none (by omega)).symm
          · rw [n]
            rcases L.non j hj with n' | n'
            · have h1 := List.getElem?_eq_none_iff.mp n'
              have h2 := (List.getElem?_eq_some_iff.mp n).1
              omega
            · exact n'.symm
        · have key : ∀ ws : List Nat, j ∉ ws → (wipeE ρ' ws)[j]? = ρ'[j]? := by
            intro ws
            induction ws with
            | nil => intro _; rfl
            | cons u us ih =>
              intro h
              simp only [List.mem_cons, not_or] at h
              unfold wipeE
              rw [List.getElem?_set_ne (Ne.symm h.1), ih h.2]
          exact key vs hj
      rw [e9] at I9
      have nD1 : NotOw ρ1 σ D0 := fun j l d z1 z2 => by
        obtain ⟨a, h1, _, h3, _⟩ := I1.ow j l d z1
        rw [h1] at z2; cases z2
        obtain ⟨o, e⟩ := h3.there
        rw [hD] at e; cases e
      refine q D0 vacc Bi H' (s1.trans ⟨L.gr, L.kp, L.sub, L.th, L.hi⟩) ⟨I9, L.hd, f2, f1, fun j l d z1 z2 => ?_, L.at_, L.rep, ?_⟩
      · obtain ⟨d1, z3⟩ := L.sub j l d z1
        exact nD1 j l d1 z3 z2
      · cases e : H D0 with
        | none => rfl
        | some o =>
          obtain ⟨o', e'⟩ := s1.there D0 o e
          rw [hD] at e'; cases e'
end DL

end

section
set_option maxRecDepth 100000
set_option maxHeartbeats 1000000
/-! The data layer, part F: statements. -/
namespace DL
open PySem PySem.Spec L2

theorem tame_name (i : Nat) : Tame (pName i) := by
  intro x ρ ρ2 e j l d q
  unfold pName at e
  split at e
  · rename_i hi
    cases e
    by_cases hj : j = i
    · subst hj
      rw [List.getElem?_set_self hi] at q
      cases q
    · rw [List.getElem?_set_ne (Ne.symm hj)] at q
      exact q
  · cases e
def TameS (p : List D → En → Option En) : Prop := ∀ x ρ ρ2, p x ρ = some ρ2 → ∀ (i : Nat) (l : Bool) (d : D), ρ2[i]? = some (some (Sl.ow l d)) → ρ[i]? = some (some (Sl.ow l d))
theorem tame_nil : TameS pNil := by
  intro x ρ ρ2 e j l d q
  unfold pNil at e
  split at e
  · cases e; exact q
  · cases e
theorem tame_cons {p ps} (h : Tame p) (hs : TameS ps) : TameS (pCons p ps) := by
  intro x ρ ρ2 e j l d q
  unfold pCons at e
  split at e
  · obtain ⟨ρ1, e1, e2⟩ := Option.bind_eq_some_iff.mp e
    exact h _ _ _ e1 j l d (hs _ _ _ e2 j l d q)
  · cases e
theorem tame_tup {n ps} (h : TameS ps) : Tame (pTup n ps) := by
  intro x ρ ρ2 e j l d q
  unfold pTup at e
  split at e
  · split at e
    · exact h _ _ _ e j l d q
    · cases e
  · cases e

/-! ### a slot's new own list -/
section
variable {K : PySem.W.Frag} {B B' : Hid} {H H' : Hp} {F : Fr} {ρ ρ' : En} {σ : L2.St}
theorem SI.set_ow {i : Nat} {ds : List D} {p : Addr} {vs : List V} (I : SI K F B ρ σ H) (hi : i < ρ.length) (hb : B p) (h0 : F.H0 p = none) (no : NotOw ρ σ p) (hp : H p = some (.lst vs)) (r : Reps K B H ds vs) :
    SI K F B (ρ.set i (some (Sl.ow true (.lst ds)))) (σ.set i (some (.ref p))) H := by
  have hσ : i < σ.length := by rw [← I.len]; exact hi
  refine ⟨by rw [List.length_set, List.length_set]; exact I.len, fun j d' q => ?_, fun j l d' q => ?_, fun j k l l' d1 d2 b q1 q2 h1 h2 => ?_, I.fr, I.hid, I.hs, I.b0, I.aB⟩
  · by_cases hj : j = i
    · subst hj
      rw [List.getElem?_set_self hi] at q
      cases q
    · rw [List.getElem?_set_ne (Ne.symm hj)] at q
      obtain ⟨w, h1, h2⟩ := I.sh j d' q
      exact ⟨w, by rw [List.getElem?_set_ne (Ne.symm hj)]; exact h1, h2⟩
  · by_cases hj : j = i
    · subst hj
      rw [List.getElem?_set_self hi] at q
      cases q
      exact ⟨p, List.getElem?_set_self hσ, hb, ⟨vs, hp, r⟩, fun _ => h0, fun z => by cases z⟩
    · rw [List.getElem?_set_ne (Ne.symm hj)] at q
      obtain ⟨a, h1, h2⟩ := I.ow j l d' q
      exact ⟨a, by rw [List.getElem?_set_ne (Ne.symm hj)]; exact h1, h2⟩
  · by_cases hj : j = i
    · by_cases hk : k = i
      · rw [hj, hk]
      · subst hj
        rw [List.getElem?_set_self hσ] at h1
        cases h1
        rw [List.getElem?_set_ne (Ne.symm hk)] at q2 h2
        exact absurd h2 (no k l' d2 q2)
    · by_cases hk : k = i
      · subst hk
        rw [List.getElem?_set_self hσ] at h2
        cases h2
        rw [List.getElem?_set_ne (Ne.symm hj)] at q1 h1
        exact absurd h1 (no j l d1 q1)
      · rw [List.getElem?_set_ne (Ne.symm hj)] at q1 h1
        rw [List.getElem?_set_ne (Ne.symm hk)] at q2 h2
        exact I.ap j k l l' d1 d2 b q1 q2 h1 h2
/-- the object of an own slot is changed -/
theorem SI.mut {i : Nat} {l : Bool} {d d' : D} {a : Addr} {o : HO} (I : SI K F B ρ σ H) (e : ρ[i]? = some (some (Sl.ow l d))) (ha : σ[i]? = some (some (V.ref a))) (new : OwnAt K B (upd H a o) a d') :
    SI K F B (ρ.set i (some (Sl.ow l d'))) σ (upd H a o) ∧ Grow B H B (upd H a o) := by
  obtain ⟨a', h1, hb, ho, hl, hl'⟩ := I.ow i l d e
  rw [ha] at h1; cases h1
  have hi : i < ρ.length := (List.getElem?_eq_some_iff.mp e).1
  have g : Grow B H B (upd H a o) := fun b u nb q => ⟨nb, by rw [upd_ne (fun z => nb (by rw [z]; exact hb))]; exact q⟩
  refine ⟨⟨by rw [List.length_set]; exact I.len, fun j d1 q => ?_, fun j l1 d1 q => ?_, fun j k l1 l2 d1 d2 b q1 q2 h1 h2 => ?_, fun b u q n => ?_, I.hid, fun b z => ?_, I.b0, I.aB⟩, g⟩
  · by_cases hj : j = i
    · subst hj
      rw [List.getElem?_set_self hi] at q
      cases q
    · rw [List.getElem?_set_ne (Ne.symm hj)] at q
      obtain ⟨w, h1, h2⟩ := I.sh j d1 q
      exact ⟨w, h1, h2.grow g⟩
  · by_cases hj : j = i
    · subst hj
      rw [List.getElem?_set_self hi] at q
      cases q
      exact ⟨a, ha, hb, new, hl, hl'⟩
    · rw [List.getElem?_set_ne (Ne.symm hj)] at q
      obtain ⟨b, h1, h2, h3, h4⟩ := I.ow j l1 d1 q
      refine ⟨b, h1, h2, h3.grow g fun u z => ?_, h4⟩
      have ne : b ≠ a := fun z => hj (by subst z; exact I.ap j i l1 l d1 d b q e h1 ha)
      rw [upd_ne ne]; exact z
  · have fix : ∀ (j : Nat) (l1 : Bool) (d1 : D), (ρ.set i (some (Sl.ow l d')))[j]? = some (some (Sl.ow l1 d1)) → ∃ l2 d2, ρ[j]? = some (some (Sl.ow l2 d2)) := fun j l1 d1 q => by
      by_cases hj : j = i
      · subst hj; exact ⟨l, d, e⟩
      · rw [List.getElem?_set_ne (Ne.symm hj)] at q
        exact ⟨l1, d1, q⟩
    obtain ⟨la, da, qa⟩ := fix j l1 d1 q1
    obtain ⟨lb, db, qb⟩ := fix k l2 d2 q2
    exact I.ap j k la lb da db b qa qb h1 h2
  · by_cases ne : b = a
    · subst ne
      cases hl2 : l with
      | true => rw [hl hl2] at q; cases q
      | false => exact absurd (hl' hl2).1 n
    · rw [upd_ne ne]; exact I.fr b u q n
  · by_cases ne : b = a
    · exact ⟨o, by rw [ne]; exact upd_same⟩
    · obtain ⟨u, q⟩ := I.hs b z
      exact ⟨u, by rw [upd_ne ne]; exact q⟩
end

/-! ### statements -/
def gNext : FS := fun ρ => some (.nx ρ)
theorem ds_next {K} : DS K tNext gNext := by
  intro ρ o e F B σ H I E k
  cases e
  exact k σ B H I (.refl B H)
def gSeq (g h : FS) : FS := fun ρ => (g ρ).bind fun o => match o with
  | .nx ρ1 => h ρ1
  | o => some o
theorem OutOk.grow {K F B H B1 H1 E o} (k : OutOk K F B H E o) (g : Grow B H B1 H1) : OutOk K F B1 H1 E o := by
  cases o with
  | nx ρ => exact fun σ' B' H' I' g' => k σ' B' H' I' (g.trans g')
  | rt d ρ => exact fun v σ' B' H' I' g' r => k v σ' B' H' I' (g.trans g') r
  | bk ρ => exact fun σ' B' H' I' g' => k σ' B' H' I' (g.trans g')
  | ct ρ => exact fun σ' B' H' I' g' => k σ' B' H' I' (g.trans g')
theorem ds_seq {K t u g h} (hg : DS K t g) (hh : DS K u h) : DS K (tSeq t u) (gSeq g h) := by
  intro ρ o e F B σ H I E k
  obtain ⟨o1, e1, e⟩ := Option.bind_eq_some_iff.mp e
  refine hg _ _ e1 F B σ H I _ ?_
  cases o1 with
  | nx ρ1 => exact fun σ1 B1 H1 I1 g1 => hh _ _ e F B1 σ1 H1 I1 E (k.grow g1)
  | rt d ρ1 => cases e; exact k
  | bk ρ1 => cases e; exact k
  | ct ρ1 => cases e; exact k
def gBrk : FS := fun ρ => some (.bk ρ)
def gCnt : FS := fun ρ => some (.ct ρ)
theorem ds_break {K} : DS K tBreak gBrk := by
  intro ρ o e F B σ H I E k
  cases e
  exact k σ B H I (.refl B H)
theorem ds_cont {K} : DS K tCont gCnt := by
  intro ρ o e F B σ H I E k
  cases e
  exact k σ B H I (.refl B H)
def gRet (f : FE) : FS := fun ρ => (f ρ).map fun p => .rt p.1 p.2
theorem ds_ret {K te f} (h : DE K te f) : DS K (tRet te) (gRet f) := by
  intro ρ o e F B σ H I E k
  obtain ⟨⟨d, ρ1⟩, e1, e⟩ := Option.map_eq_some_iff.mp e
  cases e
  exact h _ _ _ e1 F B σ H I _ fun v B1 H1 I1 s1 r => k v σ B1 H1 I1 s1.grow r
def gRetN : FS := fun ρ => some (.rt .non ρ)
theorem ds_retN {K} : DS K tRetN gRetN := by
  intro ρ o e F B σ H I E k
  cases e
  exact k .non σ B H I (.refl B H) .non
def gDrop (f : FE) : FS := fun ρ => (f ρ).map fun p => .nx p.2
theorem ds_drop {K te f} (h : DE K te f) : DS K (tDrop te) (gDrop f) := by
  intro ρ o e F B σ H I E k
  obtain ⟨⟨d, ρ1⟩, e1, e⟩ := Option.map_eq_some_iff.mp e
  cases e
  exact h _ _ _ e1 F B σ H I _ fun v B1 H1 I1 s1 r => k σ B1 H1 I1 s1.grow
def gIf (f : FT) (g h : FS) : FS := fun ρ => (f ρ).bind fun p => if p.1 = true then g p.2 else h p.2
theorem ds_if {K tt t u f g h} (hc : DT K tt f) (hg : DS K t g) (hh : DS K u h) : DS K (tIfS tt t u) (gIf f g h) := by
  intro ρ o e F B σ H I E k
  obtain ⟨⟨b, ρ1⟩, e1, e⟩ := Option.bind_eq_some_iff.mp e
  refine hc _ _ _ e1 F B σ H I _ fun B1 H1 I1 s1 => ?_
  cases b with
  | true => exact hg _ _ e F B1 σ H1 I1 E (k.grow s1.grow)
  | false => exact hh _ _ e F B1 σ H1 I1 E (k.grow s1.grow)
/-- a statement that is never reached -/
def gNev : FS := fun _ => none
theorem ds_never {K t} : DS K t gNev := by
  intro ρ o e
  cases e
def gAsg (f : FE) (p : D → En → Option En) : FS := fun ρ => (f ρ).bind fun q => (p q.1 q.2).map .nx
theorem ds_asg {K te f is g p} (he : DE K te f) (hg : DG K is g p) : DS K (tAsg te g) (gAsg f p) := by
  intro ρ o e F B σ H I E k
  obtain ⟨⟨d, ρ1⟩, e1, e⟩ := Option.bind_eq_some_iff.mp e
  obtain ⟨ρ2, e2, e⟩ := Option.map_eq_some_iff.mp e
  cases e
  refine he _ _ _ e1 F B σ H I _ fun v B1 H1 I1 s1 r => ?_
  exact hg _ _ _ e2 F B1 σ H1 v I1 r _ fun σ2 I2 _ => k σ2 B1 H1 I2 s1.grow
/-- name = a new list: the name's own -/
def gAsgN (f : En → Option (List D × En)) (i : Nat) : FS := fun ρ => (f ρ).bind fun q => if i < q.2.length then some (.nx (q.2.set i (some (.ow true (.lst q.1))))) else none
theorem ds_asgN {K te f} (he : DN K te f) (i : Nat) : DS K (tAsg te (gName i)) (gAsgN f i) := by
  intro ρ o e F B σ H I E k
  obtain ⟨⟨ds, ρ1⟩, e1, e⟩ := Option.bind_eq_some_iff.mp e
  simp only at e
  split at e
  · rename_i hi
    cases e
    refine he _ _ _ e1 F B σ H I _ fun p vs B1 H1 s1 n => ?_
    exact k _ B1 H1 (n.si.set_ow hi n.hd n.n0 n.no n.at_ n.rep) s1.grow
  · cases e
/-- the list that the slot i owns -/
def ownL (ρ : En) (i : Nat) : Option (Bool × List D) := match ρ[i]? with
  | some (some (.ow l (.lst ds))) => some (l, ds)
  | _ => none
theorem ownL_eq {ρ : En} {i : Nat} {l : Bool} {ds : List D} (h : ownL ρ i = some (l, ds)) : ρ[i]? = some (some (Sl.ow l (.lst ds))) := by
  unfold ownL at h
  split at h
  · rename_i e
    cases h
    exact e
  · cases h
theorem SI.ownL {K F B ρ σ H} {i : Nat} {l : Bool} {ds : List D} (I : SI K F B ρ σ H) (h : ownL ρ i = some (l, ds)) : ∃ a vs, σ[i]? = some (some (V.ref a)) ∧ H a = some (.lst vs) ∧ Reps K B H ds vs := by
  obtain ⟨a, h1, _, ho, _⟩ := I.ow i l _ (ownL_eq h)
  obtain ⟨vs, h2, h3⟩ := ho
  exact ⟨a, vs, h1, h2, h3⟩
/-- name.append(e) -/
def gApp (i : Nat) (f : FE) : FS := fun ρ => (ownL ρ i).bind fun _ => (f ρ).bind fun q => (ownL q.2 i).bind fun m => if m.2.length < 1000000 then some (.nx (q.2.set i (some (.ow m.1 (.lst (m.2 ++ [q.1])))))) else none
theorem ds_app {K te f} (i : Nat) (he : DE K te f) : DS K (tDrop (tBM K "list" rAppend (tVar i) (tCons te tNil))) (gApp i f) := by
  intro ρ o e F B σ H I E k
  obtain ⟨⟨l0, ds0⟩, e0, e⟩ := Option.bind_eq_some_iff.mp e
  obtain ⟨⟨d, ρ1⟩, e1, e⟩ := Option.bind_eq_some_iff.mp e
  obtain ⟨⟨l, ds⟩, e2, e⟩ := Option.bind_eq_some_iff.mp e
  simp only at e
  split at e
  · rename_i hl
    cases e
    obtain ⟨a, vs0, h1, h2, _⟩ := I.ownL e0
    refine ⟨_, h1, .inl ⟨rfl, vs0, .inl (.inl h2)⟩, ?_⟩
    refine he _ _ _ e1 F B σ H I _ fun v B1 H1 I1 s1 r => ?_
    obtain ⟨a', vs, h3, h4, h5⟩ := I1.ownL e2
    rw [h1] at h3; cases h3
    refine ⟨a, vs, v, rfl, rfl, h4, szl' (by rw [← h5.length]; exact hl), ?_⟩
    have hb : B1 a := by
      obtain ⟨a2, z1, z2, _⟩ := I1.ow i l _ (ownL_eq e2)
      rw [h1] at z1; cases z1
      exact z2
    have g : Grow B1 H1 B1 (upd H1 a (.lst (vs ++ [v]))) := fun b u nb q => ⟨nb, by rw [upd_ne (fun z => nb (by rw [z]; exact hb))]; exact q⟩
    obtain ⟨I2, g2⟩ := I1.mut (d' := .lst (ds ++ [d])) (o := .lst (vs ++ [v])) (ownL_eq e2) h1 ⟨_, upd_same, (h5.grow g).append (.cons (Rep.grow g r) .nil)⟩
    exact k σ B1 _ I2 (s1.grow.trans g2)
  · cases e
/-- name.extend(e), e a list -/
def gExt (i : Nat) (f : FE) : FS := fun ρ => (ownL ρ i).bind fun _ => (f ρ).bind fun q => (ownL q.2 i).bind fun m => match q.1 with
  | .lst es => if m.2.length + es.length ≤ 1000000 then some (.nx (q.2.set i (some (.ow m.1 (.lst (m.2 ++ es)))))) else none
  | _ => none
theorem ds_ext {K te f} (i : Nat) (he : DE K te f) : DS K (tDrop (tBM K "list" rExtend (tVar i) (tCons te tNil))) (gExt i f) := by
  intro ρ o e F B σ H I E k
  obtain ⟨⟨l0, ds0⟩, e0, e⟩ := Option.bind_eq_some_iff.mp e
  obtain ⟨⟨d, ρ1⟩, e1, e⟩ := Option.bind_eq_some_iff.mp e
  obtain ⟨⟨l, ds⟩, e2, e⟩ := Option.bind_eq_some_iff.mp e
  simp only at e
  split at e
  · split at e
    · rename_i es _ hl
      cases e
      obtain ⟨a, vs0, h1, h2, _⟩ := I.ownL e0
      refine ⟨_, h1, .inl ⟨rfl, vs0, .inl (.inl h2)⟩, ?_⟩
      refine he _ _ _ e1 F B σ H I _ fun v B1 H1 I1 s1 r => ?_
      obtain ⟨a', vs, h3, h4, h5⟩ := I1.ownL e2
      rw [h1] at h3; cases h3
      cases r with
      | @lst a2 ws _ nb hv rr =>
        refine ⟨a, _, vs, _, rfl, rfl, h4, hv, szl (by rw [← h5.length, ← rr.length]; exact hl), ?_⟩
        have hb : B1 a := by
          obtain ⟨a2, z1, z2, _⟩ := I1.ow i l _ (ownL_eq e2)
          rw [h1] at z1; cases z1
          exact z2
        have g : ∀ o : HO, Grow B1 H1 B1 (upd H1 a o) := fun o b u nb q => ⟨nb, by rw [upd_ne (fun z => nb (by rw [z]; exact hb))]; exact q⟩
        obtain ⟨I2, g2⟩ := I1.mut (d' := .lst (ds ++ es)) (o := .lst (vs ++ ws)) (ownL_eq e2) h1 ⟨_, upd_same, (h5.grow (g _)).append (rr.grow (g _))⟩
        exact k σ B1 _ I2 (s1.grow.trans g2)
    · cases e
  · cases e
/-- name[k] = e, name's own list -/
def gSet (i : Nat) (fk f : FE) : FS := fun ρ => (f ρ).bind fun q => (ownL q.2 i).bind fun _ => (fk q.2).bind fun r => match r.1 with
  | .int k => (ownL r.2 i).bind fun m => (ixN m.2.length k).map fun j => .nx (r.2.set i (some (.ow m.1 (.lst (m.2.set j q.1)))))
  | _ => none
theorem ds_set {K te tk f fk} (i : Nat) (he : DE K te f) (hk : DE K tk fk) : DS K (tAsg te (gSub (tVar i) tk rSetL)) (gSet i fk f) := by
  intro ρ o e F B σ H I E k
  obtain ⟨⟨d, ρ1⟩, e1, e⟩ := Option.bind_eq_some_iff.mp e
  obtain ⟨⟨l0, ds0⟩, e0, e⟩ := Option.bind_eq_some_iff.mp e
  obtain ⟨⟨dk, ρ2⟩, e2, e⟩ := Option.bind_eq_some_iff.mp e
  simp only at e
  split at e
  · obtain ⟨⟨l, ds⟩, e3, e⟩ := Option.bind_eq_some_iff.mp e
    obtain ⟨j, e4, e⟩ := Option.map_eq_some_iff.mp e
    cases e
    refine he _ _ _ e1 F B σ H I _ fun v B1 H1 I1 s1 r => ?_
    obtain ⟨a, vs0, h1, h2, _⟩ := I1.ownL e0
    refine ⟨_, h1, ?_⟩
    refine hk _ _ _ e2 F B1 σ H1 I1 _ fun vk B2 H2 I2 s2 rk => ?_
    cases rk
    obtain ⟨a', vs, h3, h4, h5⟩ := I2.ownL e3
    rw [h1] at h3; cases h3
    refine ⟨a, vs, _, j, rfl, rfl, h4, by rw [← h5.length]; exact e4, ?_⟩
    have hb : B2 a := by
      obtain ⟨a2, z1, z2, _⟩ := I2.ow i l _ (ownL_eq e3)
      rw [h1] at z1; cases z1
      exact z2
    have g : ∀ o : HO, Grow B2 H2 B2 (upd H2 a o) := fun o b u nb q => ⟨nb, by rw [upd_ne (fun z => nb (by rw [z]; exact hb))]; exact q⟩
    obtain ⟨I3, g3⟩ := I2.mut (d' := .lst (ds.set j d)) (ownL_eq e3) h1 ⟨_, upd_same, (h5.grow (g _)).set ((r.grow s2.grow).grow (g _)) j⟩
    exact k σ B2 _ I3 ((s1.grow.trans s2.grow).trans g3)
  · cases e
/-- name op= e -/
def gAug (i : Nat) (g : D → D → Option D) (f : FE) : FS := fun ρ => match ρ[i]? with
  | some (some (.sh x)) => (f ρ).bind fun q => if i < q.2.length then (g x q.1).map fun z => .nx (q.2.set i (some (.sh z))) else none
  | _ => none
def rAugU : R2 := rU rAddI rAddSt
def rIp (r : R2) : TIp := r
theorem ip_of {X : Cx} {op : Operator} {r : R2} (ho : OpR X (inplaceOp op) r) : PIp X op (rIp r) := fun pins s σ H x v y u Q I rx ry h => augR ho I rx ry h
theorem ip_addU {X : Cx} : PIp X .Add (rIp rAugU) := ip_of (iop_add.or iop_add_str)
theorem ip_subU {X : Cx} : PIp X .Sub (rIp rSubI) := ip_of iop_sub
def augD : D → D → Option D
  | .int i, .int j => some (.int (i + j))
  | .str a, .str b => if a.length + b.length ≤ 1000000 then some (.str (a ++ b)) else none
  | _, _ => none
theorem dr_aug {K} : DR K rAugU augD := by
  intro d e z h
  unfold augD at h
  split at h
  · cases h
    refine DRat.inl fun B H x y hs rx ry Q q => ?_
    cases rx; cases ry
    exact ⟨_, _, rfl, rfl, q _ _ (Ext.refl H) (.int _)⟩
  · split at h
    · rename_i a b hz
      cases h
      refine DRat.inr fun B H x y hs rx ry Q q => ?_
      cases rx; cases ry
      exact ⟨_, _, rfl, rfl, szl hz, q _ _ (Ext.refl H) (.str _)⟩
    · cases h
  · cases h
theorem ds_aug {K te f r g} (i : Nat) (hr : DR K r g) (he : DE K te f) : DS K (tAug i te (rIp r)) (gAug i g f) := by
  intro ρ o e F B σ H I E k
  unfold gAug at e
  split at e
  · rename_i x e0
    obtain ⟨⟨d, ρ1⟩, e1, e⟩ := Option.bind_eq_some_iff.mp e
    simp only at e
    split at e
    · rename_i hi
      obtain ⟨z, e2, e⟩ := Option.map_eq_some_iff.mp e
      cases e
      obtain ⟨v, h1, h2⟩ := I.sh i x e0
      refine ⟨v, h1, ?_⟩
      refine he _ _ _ e1 F B σ H I _ fun w B1 H1 I1 s1 r1 => ?_
      refine hr _ _ _ e2 B1 H1 v w I1.hs (h2.grow s1.grow) r1 _ fun u H2 x2 r2 => ?_
      exact k _ B1 H2 ((I1.ext x2).set_sh hi r2) (s1.grow.trans x2.grow)
    · cases e
  · cases e

/-! ### several names at once: data, or new lists -/
inductive Fv where
  | val (d : D)
  | new (ds : List D)
structure NewAt (K : PySem.W.Frag) (F : Fr) (H : Hp) (ρ' : En) (σ : L2.St) (p : Addr) (vs : List V) (ds : List D) (B' : Hid) (H' : Hp) : Prop where
  hd : B' p
  n0 : F.H0 p = none
  no : NotOw ρ' σ p
  at_ : H' p = some (.lst vs)
  rep : Reps K B' H' ds vs
  was : H p = none
theorem NewAt.step {K F H ρ1 ρ2 σ p vs ds B1 H1 B2 H2} (n : NewAt K F H ρ1 σ p vs ds B1 H1) (s : Stp ρ1 ρ2 σ B1 H1 B2 H2) : NewAt K F H ρ2 σ p vs ds B2 H2 :=
  ⟨s.hid _ n.hd n.no, n.n0, fun i l d e z => by
    obtain ⟨d1, e1⟩ := s.sub i l d e
    exact n.no i l d1 e1 z, s.keep _ _ n.at_ n.no, n.rep.grow s.grow, n.was⟩
/-- the values, the addresses of the new lists among them -/
inductive FvOk (K : PySem.W.Frag) (F : Fr) (H : Hp) (ρ' : En) (σ : L2.St) (B' : Hid) (H' : Hp) : List Fv → List V → List Addr → Prop
  | nil : FvOk K F H ρ' σ B' H' [] [] []
  | val {d : D} {v : V} {fs : List Fv} {us : List V} {ps : List Addr} : Rep K B' H' d v → FvOk K F H ρ' σ B' H' fs us ps → FvOk K F H ρ' σ B' H' (.val d :: fs) (v :: us) ps
  | new {ds : List D} {p : Addr} {vs : List V} {fs : List Fv} {us : List V} {ps : List Addr} : NewAt K F H ρ' σ p vs ds B' H' → p ∉ ps → FvOk K F H ρ' σ B' H' fs us ps → FvOk K F H ρ' σ B' H' (.new ds :: fs) (.ref p :: us) (p :: ps)
def DV (K : PySem.W.Frag) (ta : TA) (f : En → Option (List Fv × En)) : Prop := ∀ ρ fs ρ', f ρ = some (fs, ρ') → ∀ F B σ H, SI K F B ρ σ H → ∀ Q : List V → Hp → Prop,
  (∀ us ps B' H', SI K F B' ρ' σ H' → Stp ρ ρ' σ B H B' H' → FvOk K F H ρ' σ B' H' fs us ps → (∀ p ∈ ps, H p = none) → Q us H') → ta σ H Q
def fvNil : En → Option (List Fv × En) := fun ρ => some ([], ρ)
def fvVal (f : FE) (g : En → Option (List Fv × En)) : En → Option (List Fv × En) := fun ρ => (f ρ).bind fun p => (g p.2).map fun q => (.val p.1 :: q.1, q.2)
def fvNew (f : En → Option (List D × En)) (g : En → Option (List Fv × En)) : En → Option (List Fv × En) := fun ρ => (f ρ).bind fun p => (g p.2).map fun q => (.new p.1 :: q.1, q.2)
theorem dv_nil {K} : DV K tNil fvNil := by
  intro ρ fs ρ' e F B σ H I Q q
  cases e
  exact q [] [] B H I .refl .nil fun p h => by cases h
theorem FvOk.was {K F H H0 ρ' σ B' H' fs us ps} (h : FvOk K F H ρ' σ B' H' fs us ps) (k : ∀ p, H p = none → H0 p = none) : FvOk K F H0 ρ' σ B' H' fs us ps := by
  induction h with
  | nil => exact .nil
  | val r _ ih => exact .val r ih
  | new n hp _ ih => exact .new ⟨n.hd, n.n0, n.no, n.at_, n.rep, k _ n.was⟩ hp ih
theorem dv_val {K te ta f g} (he : DE K te f) (ha : DV K ta g) : DV K (tCons te ta) (fvVal f g) := by
  intro ρ fs ρ' e F B σ H I Q q
  obtain ⟨⟨x, ρ1⟩, e1, e⟩ := Option.bind_eq_some_iff.mp e
  obtain ⟨⟨ys, ρ2⟩, e2, e⟩ := Option.map_eq_some_iff.mp e
  cases e
  refine he _ _ _ e1 F B σ H I _ fun v B1 H1 I1 s1 r1 => ?_
  refine ha _ _ _ e2 F B1 σ H1 I1 _ fun us ps B2 H2 I2 s2 r2 hw => ?_
  have back : ∀ p, H1 p = none → H p = none := fun p z => by
    cases e : H p with
    | none => rfl
    | some o =>
      obtain ⟨o', e'⟩ := s1.there p o e
      rw [z] at e'; cases e'
  exact q (v :: us) ps B2 H2 I2 (s1.trans s2) (.val (r1.grow s2.grow) (r2.was back)) fun p h => back p (hw p h)
theorem dv_new {K te ta f g} (he : DN K te f) (ha : DV K ta g) : DV K (tCons te ta) (fvNew f g) := by
  intro ρ fs ρ' e F B σ H I Q q
  obtain ⟨⟨x, ρ1⟩, e1, e⟩ := Option.bind_eq_some_iff.mp e
  obtain ⟨⟨ys, ρ2⟩, e2, e⟩ := Option.map_eq_some_iff.mp e
  cases e
  refine he _ _ _ e1 F B σ H I _ fun p vs B1 H1 s1 n => ?_
  refine ha _ _ _ e2 F B1 σ H1 n.si _ fun us ps B2 H2 I2 s2 r2 hw => ?_
  have back : ∀ p, H1 p = none → H p = none := fun p z => by
    cases e : H p with
    | none => rfl
    | some o =>
      obtain ⟨o', e'⟩ := s1.there p o e
      rw [z] at e'; cases e'
  have na : NewAt K F H ρ1 σ p vs x B1 H1 := ⟨n.hd, n.n0, n.no, n.at_, n.rep, n.was⟩
  refine q (.ref p :: us) (p :: ps) B2 H2 I2 (s1.trans s2) (.new (na.step s2) (fun hp => ?_) (r2.was back)) fun p' h => ?_
  · have := hw p hp
    rw [n.at_] at this; cases this
  · rcases List.mem_cons.mp h with e | h
    · rw [e]; exact n.was
    · exact back p' (hw p' h)
/-- the slots take them -/
def putFv : List Nat → List Fv → En → Option En
  | [], [], ρ => some ρ
  | i :: is, .val d :: fs, ρ => if i < ρ.length then putFv is fs (ρ.set i (some (.sh d))) else none
  | i :: is, .new ds :: fs, ρ => if i < ρ.length then putFv is fs (ρ.set i (some (.ow true (.lst ds)))) else none
  | _, _, _ => none
def setAll : List Nat → List V → L2.St → L2.St
  | i :: is, v :: vs, σ => setAll is vs (σ.set i (some v))
  | _, _, σ => σ
theorem putFv_ok {K F H B' H'} : ∀ {is : List Nat} {fs : List Fv} {us : List V} {ps : List Addr} {ρ ρ2 : En} {σ : L2.St}, putFv is fs ρ = some ρ2 → SI K F B' ρ σ H' → FvOk K F H ρ σ B' H' fs us ps → SI K F B' ρ2 (setAll is us σ) H'
  | [], [], _, _, ρ, ρ2, σ, e, I, .nil => by cases e; exact I
  | i :: is, .val d :: fs, _, ps, ρ, ρ2, σ, e, I, .val (v := v) (us := us) r h => by
    unfold putFv at e
    split at e
    · rename_i hi
      refine putFv_ok (H := H) (us := us) (ps := ps) e (I.set_sh hi r) ?_
      have key : ∀ {fs : List Fv} {us : List V} {ps : List Addr}, FvOk K F H ρ σ B' H' fs us ps → FvOk K F H (ρ.set i (some (.sh d))) (σ.set i (some v)) B' H' fs us ps := by
        intro fs us ps h
        induction h with
        | nil => exact .nil
        | val r _ ih => exact .val r ih
        | new n hp _ ih =>
          refine .new ⟨n.hd, n.n0, fun j l d' q z => ?_, n.at_, n.rep, n.was⟩ hp ih
          by_cases hj : j = i
          · subst hj
            rw [List.getElem?_set_self hi] at q; cases q
          · rw [List.getElem?_set_ne (Ne.symm hj)] at q z
            exact n.no j l d' q z
      exact key h
    · cases e
  | i :: is, .new ds :: fs, _, _, ρ, ρ2, σ, e, I, .new (p := p) (vs := vs) (us := us) (ps := ps) n hp h => by
    unfold putFv at e
    split at e
    · rename_i hi
      refine putFv_ok (H := H) (us := us) (ps := ps) e (I.set_ow hi n.hd n.n0 n.no n.at_ n.rep) ?_
      have hσ : i < σ.length := by rw [← I.len]; exact hi
      have key : ∀ {fs : List Fv} {us : List V} {ps : List Addr}, p ∉ ps → FvOk K F H ρ σ B' H' fs us ps → FvOk K F H (ρ.set i (some (.ow true (.lst ds)))) (σ.set i (some (.ref p))) B' H' fs us ps := by
        intro fs us ps hp h
        induction h with
        | nil => exact .nil
        | val r _ ih => exact .val r (ih hp)
        | new n hq _ ih =>
          simp only [List.mem_cons, not_or] at hp
          refine .new ⟨n.hd, n.n0, fun j l d' q z => ?_, n.at_, n.rep, n.was⟩ hq (ih hp.2)
          by_cases hj : j = i
          · subst hj
            rw [List.getElem?_set_self hσ] at z
            cases z
            exact hp.1 rfl
          · rw [List.getElem?_set_ne (Ne.symm hj)] at q z
            exact n.no j l d' q z
      exact key hp h
    · cases e
  | [], .val _ :: _, _, _, _, _, _, e, _, _ => by cases e
  | [], .new _ :: _, _, _, _, _, _, e, _, _ => by cases e
  | _ :: _, [], _, _, _, _, _, e, _, _ => by cases e
def gPar (is : List Nat) (f : En → Option (List Fv × En)) : FS := fun ρ => (f ρ).bind fun q => (putFv is q.1 q.2).map .nx
theorem putFv_len {K F H B' H'} : ∀ {is : List Nat} {fs : List Fv} {us : List V} {ps : List Addr} {ρ ρ0 ρ2 : En} {σ : L2.St}, putFv is fs ρ = some ρ2 → FvOk K F H ρ0 σ B' H' fs us ps → us.length = is.length
  | [], [], _, _, _, _, _, _, _, .nil => rfl
  | i :: is, .val d :: fs, _, _, _, _, _, _, e, .val _ h => by
    unfold putFv at e
    split at e
    · rw [List.length_cons, List.length_cons, putFv_len e h]
    · cases e
  | i :: is, .new ds :: fs, _, _, _, _, _, _, e, .new _ _ h => by
    unfold putFv at e
    split at e
    · rw [List.length_cons, List.length_cons, putFv_len e h]
    · cases e
  | [], .val _ :: _, _, _, _, _, _, _, e, _ => by cases e
  | [], .new _ :: _, _, _, _, _, _, _, e, _ => by cases e
  | _ :: _, [], _, _, _, _, _, _, e, _ => by cases e
theorem ds_par {K ta f i j} (h : DV K ta f) : DS K (tPar i j ta) (gPar [i, j] f) := by
  intro ρ o e F B σ H I E k
  obtain ⟨⟨fs, ρ1⟩, e1, e⟩ := Option.bind_eq_some_iff.mp e
  obtain ⟨ρ2, e2, e⟩ := Option.map_eq_some_iff.mp e
  cases e
  refine h _ _ _ e1 F B σ H I _ fun us ps B1 H1 I1 s1 r hw => ?_
  have I2 := putFv_ok e2 I1 r
  have hl := putFv_len e2 r
  match us, hl, I2 with
  | [v, w], _, I2 => exact ⟨v, w, rfl, k _ B1 H1 I2 s1.grow⟩
theorem ds_par3 {K ta f i j l} (h : DV K ta f) : DS K (tPar3 i j l ta) (gPar [i, j, l] f) := by
  intro ρ o e F B σ H I E k
  obtain ⟨⟨fs, ρ1⟩, e1, e⟩ := Option.bind_eq_some_iff.mp e
  obtain ⟨ρ2, e2, e⟩ := Option.map_eq_some_iff.mp e
  cases e
  refine h _ _ _ e1 F B σ H I _ fun us ps B1 H1 I1 s1 r hw => ?_
  have I2 := putFv_ok e2 I1 r
  have hl := putFv_len e2 r
  match us, hl, I2 with
  | [u, v, w], _, I2 => exact ⟨u, v, w, rfl, k _ B1 H1 I2 s1.grow⟩
/-- the same through a tuple that is made and taken apart -/
def gsN : List Nat → TGs
  | [] => gNil
  | i :: is => gCons (gName i) (gsN is)
theorem gsN_ok {Q : L2.St → Hp → Prop} {H : Hp} : ∀ {is : List Nat} {us : List V} {σ : L2.St}, us.length = is.length → Q (setAll is us σ) H → gsN is us σ H Q
  | [], [], σ, _, q => ⟨rfl, q⟩
  | i :: is, u :: us, σ, hl, q => ⟨u, us, rfl, gsN_ok (by simpa using hl) q⟩
theorem ds_parT {K ta f n} (is : List Nat) (hn : is.length = n) (h0 : n ≤ 1000) (h : DV K ta f) : DS K (tAsg (tTup ta) (gTup K n (gsN is))) (gPar is f) := by
  intro ρ o e F B σ H I E k
  obtain ⟨⟨fs, ρ1⟩, e1, e⟩ := Option.bind_eq_some_iff.mp e
  obtain ⟨ρ2, e2, e⟩ := Option.map_eq_some_iff.mp e
  cases e
  refine h _ _ _ e1 F B σ H I _ fun us ps B1 H1 I1 s1 r hw => ?_
  have I2 := putFv_ok e2 I1 r
  have hl := putFv_len e2 r
  refine ⟨szl (by omega), fun p hp => ⟨p, us, rfl, .inl (.inl upd_same), by rw [hl, hn], gsN_ok hl ?_⟩⟩
  have x := Ext.new (o := .tup us) hp
  exact k _ B1 _ (I2.ext x) (s1.grow.trans x.grow)

/-! ### loops -/
def forGo (p : D → En → Option En) (gb : FS) : List D → En → Option Out
  | [], ρ => some (.nx ρ)
  | x :: xs, ρ => (p x ρ).bind fun ρ1 => (gb ρ1).bind fun o => match o with
    | .nx ρ2 => forGo p gb xs ρ2
    | .ct ρ2 => forGo p gb xs ρ2
    | .bk ρ2 => some (.nx ρ2)
    | .rt d ρ2 => some (.rt d ρ2)
def gFor (fi : En → Option (List D × En)) (p : D → En → Option En) (gb : FS) : FS := fun ρ => (fi ρ).bind fun q => forGo p gb q.1 q.2
theorem ds_for {K wi g tb fi is p gb} (hi : DI K wi fi) (hg : DG K is g p) (hb : DS K tb gb) : DS K (tFor wi g tb) (gFor fi p gb) := by
  intro ρ o e F B σ H I E k
  obtain ⟨⟨items, ρ1⟩, e1, e⟩ := Option.bind_eq_some_iff.mp e
  refine hi _ _ _ e1 F B σ H I _ fun J B1 H1 I1 s1 it => ?_
  have k1 := k.grow s1.grow
  refine ⟨fun i m σ' H' => m = items.length - i ∧ i ≤ items.length ∧ ∃ ρi Bi, forGo p gb (items.drop i) ρi = some o ∧ SI K F Bi ρi σ' H' ∧ Grow B1 H1 Bi H', ⟨items.length, by simp, Nat.zero_le _, ρ1, B1, by rw [List.drop_zero]; exact e, I1, .refl _ _⟩, ?_⟩
  rintro i m σ' H' ⟨rfl, hle, ρi, Bi, go, Ii, gr⟩
  have itH := it Bi H' gr Ii.hs
  have k2 := k1.grow gr
  by_cases hlt : i < items.length
  · rw [List.drop_eq_getElem_cons hlt] at go
    unfold forGo at go
    obtain ⟨ρ2, e2, go⟩ := Option.bind_eq_some_iff.mp go
    obtain ⟨o2, e3, go⟩ := Option.bind_eq_some_iff.mp go
    obtain ⟨jgo, jy⟩ := itH.1 i items[i] (List.getElem?_eq_getElem hlt)
    refine .inr ⟨jgo, _, fun σ2 H2 z => ⟨items.length - (i + 1), by omega, z⟩, fun x H3 y => ?_⟩
    obtain ⟨x3, rx⟩ := jy x H3 y
    refine hg _ _ _ e2 F Bi σ' H3 x (Ii.ext x3) rx _ fun σ2 I2 _ => ?_
    refine hb _ _ e3 F Bi σ2 H3 I2 _ ?_
    cases o2 with
    | nx ρ3 => exact fun σ4 B4 H4 I4 g4 => ⟨rfl, hlt, ρ3, B4, go, I4, (gr.trans x3.grow).trans g4⟩
    | ct ρ3 => exact fun σ4 B4 H4 I4 g4 => ⟨rfl, hlt, ρ3, B4, go, I4, (gr.trans x3.grow).trans g4⟩
    | bk ρ3 =>
      cases go
      exact fun σ4 B4 H4 I4 g4 => k2 σ4 B4 H4 I4 (x3.grow.trans g4)
    | rt d ρ3 =>
      cases go
      exact fun v σ4 B4 H4 I4 g4 r => k2 v σ4 B4 H4 I4 (x3.grow.trans g4) r
  · have hie : i = items.length := by omega
    subst hie
    rw [List.drop_length] at go
    cases go
    exact .inl ⟨itH.2 _ (Nat.le_refl _), k2 σ' Bi H' Ii (.refl _ _)⟩
def whGo (ft : FT) (gb : FS) : Nat → En → Option Out
  | 0, _ => none
  | n + 1, ρ => (ft ρ).bind fun q => if q.1 = true then (gb q.2).bind fun o => match o with
    | .nx ρ2 => whGo ft gb n ρ2
    | .ct ρ2 => whGo ft gb n ρ2
    | .bk ρ2 => some (.nx ρ2)
    | .rt d ρ2 => some (.rt d ρ2)
    else some (.nx q.2)
theorem ds_while {K tc tb ft gb} (n : Nat) (hc : DT K tc ft) (hb : DS K tb gb) : DS K (tWhile tc tb) (whGo ft gb n) := by
  intro ρ o e F B σ H I E k
  refine ⟨fun m σ' H' => ∃ ρi Bi, whGo ft gb m ρi = some o ∧ SI K F Bi ρi σ' H' ∧ Grow B H Bi H', ⟨n, ρ, B, e, I, .refl _ _⟩, ?_⟩
  rintro m σ' H' ⟨ρi, Bi, go, Ii, gr⟩
  have k2 := k.grow gr
  cases m with
  | zero => cases go
  | succ m =>
    unfold whGo at go
    obtain ⟨⟨b, ρ2⟩, e2, go⟩ := Option.bind_eq_some_iff.mp go
    refine hc _ _ _ e2 F Bi σ' H' Ii _ fun B3 H3 I3 s3 => ?_
    by_cases hb1 : b = true
    · rw [if_pos hb1] at go ⊢
      obtain ⟨o2, e3, go⟩ := Option.bind_eq_some_iff.mp go
      refine ⟨_, fun σ4 H4 z => ⟨m, Nat.lt_succ_self m, z⟩, ?_⟩
      refine hb _ _ e3 F B3 σ' H3 I3 _ ?_
      cases o2 with
      | nx ρ3 => exact fun σ4 B4 H4 I4 g4 => ⟨ρ3, B4, go, I4, (gr.trans s3.grow).trans g4⟩
      | ct ρ3 => exact fun σ4 B4 H4 I4 g4 => ⟨ρ3, B4, go, I4, (gr.trans s3.grow).trans g4⟩
      | bk ρ3 =>
        cases go
        exact fun σ4 B4 H4 I4 g4 => k2 σ4 B4 H4 I4 (s3.grow.trans g4)
      | rt d ρ3 =>
        cases go
        exact fun v σ4 B4 H4 I4 g4 r => k2 v σ4 B4 H4 I4 (s3.grow.trans g4) r
    · rw [if_neg hb1] at go ⊢
      cases go
      exact k2 σ' B3 H3 I3 s3.grow
end DL

end

section
set_option maxRecDepth 100000
set_option maxHeartbeats 1000000
/-! The data layer, part G: defs and their calls. -/
namespace DL
open PySem PySem.Spec L2
open PyProof.Rows (envOfC)

/-! ### what a def promises: it computes F. ms: which parameters it may change -/
abbrev DF := List D → Option (D × List D)
def ownA : List Bool → List V → List Addr
  | true :: ms, .ref a :: vs => a :: ownA ms vs
  | _ :: ms, _ :: vs => ownA ms vs
  | _, _ => []
inductive AR (K : PySem.W.Frag) (B : Hid) (H : Hp) : List Bool → List D → List V → Prop
  | nil : AR K B H [] [] []
  | sh {d : D} {v : V} {ms : List Bool} {ds : List D} {vs : List V} : Rep K B H d v → AR K B H ms ds vs → AR K B H (false :: ms) (d :: ds) (v :: vs)
  | ow {d : D} {a : Addr} {ms : List Bool} {ds : List D} {vs : List V} : B a → OwnAt K B H a d → AR K B H ms ds vs → AR K B H (true :: ms) (d :: ds) (.ref a :: vs)
inductive OR (K : PySem.W.Frag) (B : Hid) (H : Hp) : List Bool → List D → List V → Prop
  | nil : OR K B H [] [] []
  | sh {d : D} {v : V} {ms : List Bool} {ds : List D} {vs : List V} : OR K B H ms ds vs → OR K B H (false :: ms) (d :: ds) (v :: vs)
  | ow {d : D} {a : Addr} {ms : List Bool} {ds : List D} {vs : List V} : OwnAt K B H a d → OR K B H ms ds vs → OR K B H (true :: ms) (d :: ds) (.ref a :: vs)
def SpF (K : PySem.W.Frag) (ms : List Bool) (Ff : DF) : Sp := fun vs H Q _ => ∃ (B : Hid) (ds : List D) (d : D) (os : List D), (∀ b, B b → ∃ o, H b = some o) ∧ AR K B H ms ds vs ∧ (ownA ms vs).Nodup ∧ Ff ds = some (d, os) ∧
  ∀ v H', (∀ b o, H b = some o → b ∉ ownA ms vs → H' b = some o) → (∀ b o, H b = some o → ∃ o', H' b = some o') → OR K B H' ms os vs → Rep K B H' d v → Q v H'
theorem AR.len {K B H ms ds vs} (h : AR K B H ms ds vs) : ds.length = ms.length ∧ vs.length = ms.length := by
  induction h with
  | nil => exact ⟨rfl, rfl⟩
  | sh _ _ ih => exact ⟨congrArg (· + 1) ih.1, congrArg (· + 1) ih.2⟩
  | ow _ _ _ ih => exact ⟨congrArg (· + 1) ih.1, congrArg (· + 1) ih.2⟩

/-! ### a body -/
def argE : List Bool → List D → En
  | false :: ms, d :: ds => some (.sh d) :: argE ms ds
  | true :: ms, d :: ds => some (.ow false d) :: argE ms ds
  | _, _ => []
def outs : List Bool → En → Option (List D)
  | [], _ => some []
  | false :: ms, _ :: ρ => (outs ms ρ).map fun r => .non :: r
  | true :: ms, some (.ow false d) :: ρ => (outs ms ρ).map fun r => d :: r
  | _, _ => none
/-- a def as a function on data: n slots -/
def bodyF (n : Nat) (ms : List Bool) (g : FS) : DF := fun ds => if ds.length = ms.length then (match g (argE ms ds ++ List.replicate (n - ms.length) none) with
  | some (.rt d ρ) => (outs ms ρ).map fun os => (d, os)
  | some (.nx ρ) => (outs ms ρ).map fun os => (.non, os)
  | _ => none) else none
theorem argE_len : ∀ {ms : List Bool} {ds : List D}, ds.length = ms.length → (argE ms ds).length = ms.length
  | [], [], _ => rfl
  | false :: ms, d :: ds, h => congrArg (· + 1) (argE_len (ms := ms) (by simpa using h))
  | true :: ms, d :: ds, h => congrArg (· + 1) (argE_len (ms := ms) (by simpa using h))
theorem argE_sh {K B H} : ∀ {ms : List Bool} {ds : List D} {vs : List V} {i : Nat} {d : D}, AR K B H ms ds vs → (argE ms ds)[i]? = some (some (Sl.sh d)) → ∃ v, vs[i]? = some v ∧ Rep K B H d v
  | _, _, _, i, d, .nil, e => by simp [argE] at e
  | _, _, _, 0, d, .sh r _, e => by simp [argE] at e; subst e; exact ⟨_, rfl, r⟩
  | _, _, _, i + 1, d, .sh _ t, e => by
    obtain ⟨v, h1, h2⟩ := argE_sh (i := i) t (by simpa [argE] using e)
    exact ⟨v, by simpa using h1, h2⟩
  | _, _, _, 0, d, .ow _ _ _, e => by simp [argE] at e
  | _, _, _, i + 1, d, .ow _ _ t, e => by
    obtain ⟨v, h1, h2⟩ := argE_sh (i := i) t (by simpa [argE] using e)
    exact ⟨v, by simpa using h1, h2⟩
theorem argE_ow {K B H} : ∀ {ms : List Bool} {ds : List D} {vs : List V} {i : Nat} {l : Bool} {d : D}, AR K B H ms ds vs → (argE ms ds)[i]? = some (some (Sl.ow l d)) → ∃ a, vs[i]? = some (V.ref a) ∧ B a ∧ OwnAt K B H a d ∧ l = false ∧ a ∈ ownA ms vs ∧ ms[i]? = some true
  | _, _, _, i, l, d, .nil, e => by simp [argE] at e
  | _, _, _, 0, l, d, .sh r _, e => by simp [argE] at e
  | _, _, _, i + 1, l, d, .sh (v := v) _ t, e => by
    obtain ⟨a, h1, h2, h3, h4, h5, h6⟩ := argE_ow (i := i) t (by simpa [argE] using e)
    refine ⟨a, by simpa using h1, h2, h3, h4, ?_, by simpa using h6⟩
    exact h5
  | _, _, _, 0, l, d, .ow hb ho _, e => by
    simp [argE] at e
    obtain ⟨e1, e2⟩ := e
    subst e1 e2
    exact ⟨_, rfl, hb, ho, rfl, List.mem_cons_self, rfl⟩
  | _, _, _, i + 1, l, d, .ow _ _ t, e => by
    obtain ⟨a, h1, h2, h3, h4, h5, h6⟩ := argE_ow (i := i) t (by simpa [argE] using e)
    exact ⟨a, by simpa using h1, h2, h3, h4, List.mem_cons_of_mem _ h5, by simpa using h6⟩
theorem ownA_mem : ∀ {ms : List Bool} {vs : List V} {i : Nat} {a : Addr}, ms[i]? = some true → vs[i]? = some (V.ref a) → a ∈ ownA ms vs
  | true :: ms, v :: vs, 0, a, _, e => by
    simp at e; subst e
    exact List.mem_cons_self
  | false :: ms, v :: vs, 0, a, e, _ => by simp at e
  | m :: ms, v :: vs, i + 1, a, e1, e2 => by
    have h := ownA_mem (ms := ms) (vs := vs) (i := i) (a := a) (by simpa using e1) (by simpa using e2)
    cases m with
    | false => exact h
    | true =>
      cases v with
      | ref b => exact List.mem_cons_of_mem _ h
      | _ => exact h
  | [], _, _, _, e, _ => by simp at e
  | _ :: _, [], _, _, _, e => by simp at e
theorem ownA_inj : ∀ {ms : List Bool} {vs : List V} {i j : Nat} {a : Addr}, (ownA ms vs).Nodup → ms[i]? = some true → vs[i]? = some (V.ref a) → ms[j]? = some true → vs[j]? = some (V.ref a) → i = j
  | [], _, _, _, _, _, e, _, _, _ => by simp at e
  | _ :: _, [], _, _, _, _, _, e, _, _ => by simp at e
  | m :: ms, v :: vs, 0, 0, a, _, _, _, _, _ => rfl
  | m :: ms, v :: vs, 0, j + 1, a, nd, e1, e2, e3, e4 => by
    simp at e1 e2; subst e1 e2
    have h := ownA_mem (ms := ms) (vs := vs) (i := j) (a := a) (by simpa using e3) (by simpa using e4)
    exact absurd h (List.nodup_cons.mp nd).1
  | m :: ms, v :: vs, i + 1, 0, a, nd, e1, e2, e3, e4 => by
    simp at e3 e4; subst e3 e4
    have h := ownA_mem (ms := ms) (vs := vs) (i := i) (a := a) (by simpa using e1) (by simpa using e2)
    exact absurd h (List.nodup_cons.mp nd).1
  | m :: ms, v :: vs, i + 1, j + 1, a, nd, e1, e2, e3, e4 => by
    have nd' : (ownA ms vs).Nodup := by
      cases m with
      | false => exact nd
      | true =>
        cases v with
        | ref b => exact (List.nodup_cons.mp nd).2
        | _ => exact nd
    exact congrArg (· + 1) (ownA_inj nd' (by simpa using e1) (by simpa using e2) (by simpa using e3) (by simpa using e4))
theorem AR.hidden {K B H ms ds vs} (h : AR K B H ms ds vs) : ∀ a ∈ ownA ms vs, B a := by
  induction h with
  | nil => intro a ha; cases ha
  | sh _ _ ih => exact ih
  | ow hb _ _ ih =>
    intro a ha
    rcases List.mem_cons.mp ha with e | ha
    · rw [e]; exact hb
    · exact ih a ha
def frOf (B : Hid) (H : Hp) (ms : List Bool) (vs : List V) : Fr := ⟨H, ownA ms vs, B, fun i a => vs[i]? = some (V.ref a)⟩
theorem si_entry {K B H ms ds vs} {n : Nat} (hs : ∀ b, B b → ∃ o, H b = some o) (h : AR K B H ms ds vs) (nd : (ownA ms vs).Nodup) :
    SI K (frOf B H ms vs) B (argE ms ds ++ List.replicate (n - ms.length) none) (vs.map some ++ List.replicate (n - vs.length) none) H := by
  obtain ⟨l1, l2⟩ := h.len
  have la := argE_len l1
  have look : ∀ (i : Nat) (s : Sl), (argE ms ds ++ List.replicate (n - ms.length) none)[i]? = some (some s) → (argE ms ds)[i]? = some (some s) ∧ (vs.map some ++ List.replicate (n - vs.length) none)[i]? = vs[i]?.map some := fun i s e => by
    have hi : i < (argE ms ds).length := by
      by_cases hi : i < (argE ms ds).length
      · exact hi
      · rw [List.getElem?_append_right (by omega), List.getElem?_replicate] at e
        split at e <;> cases e
    rw [List.getElem?_append_left hi] at e
    exact ⟨e, by rw [List.getElem?_append_left (by rw [List.length_map]; omega), List.getElem?_map]⟩
  refine ⟨by simp only [List.length_append, List.length_replicate, List.length_map]; omega, fun i d e => ?_, fun i l d e => ?_, fun i j l l' d d' a e1 e2 h1 h2 => ?_, fun b o e _ => e, fun b z => z, hs, hs, h.hidden⟩
  · obtain ⟨e, e'⟩ := look i _ e
    obtain ⟨v, h1, h2⟩ := argE_sh h e
    exact ⟨v, by rw [e', h1]; rfl, h2⟩
  · obtain ⟨e, e'⟩ := look i _ e
    obtain ⟨a, h1, h2, h3, h4, h5, h6⟩ := argE_ow h e
    exact ⟨a, by rw [e', h1]; rfl, h2, h3, fun z => (by rw [h4] at z; cases z), fun _ => ⟨h5, h1⟩⟩
  · obtain ⟨e1, e1'⟩ := look i _ e1
    obtain ⟨e2, e2'⟩ := look j _ e2
    obtain ⟨a1, p1, _, _, _, _, p2⟩ := argE_ow h e1
    obtain ⟨a2, q1, _, _, _, _, q2⟩ := argE_ow h e2
    rw [e1', p1] at h1
    rw [e2', q1] at h2
    cases h1; cases h2
    exact ownA_inj nd p2 p1 q2 q1
theorem outs_ok {K B H B' H'} {n0 : Nat} {F : Fr} : ∀ {ms : List Bool} {ds : List D} {vs : List V} {ρ : En} {os : List D}, AR K B H ms ds vs → outs ms ρ = some os →
    (∀ (i : Nat) (d : D), ρ[i]? = some (some (Sl.ow false d)) → ∃ a, vs[i]? = some (V.ref a) ∧ OwnAt K B' H' a d) → OR K B' H' ms os vs
  | _, _, _, _, _, .nil, e, _ => by cases e; exact .nil
  | _, _, _, [], _, .sh _ t, e, _ => by cases e
  | _, _, _, x :: ρ, _, .sh _ t, e, k => by
    obtain ⟨os, e1, e2⟩ := Option.map_eq_some_iff.mp e
    subst e2
    exact .sh (outs_ok (n0 := n0) (F := F) t e1 fun i d q => by simpa using k (i + 1) d (by simpa using q))
  | _, _, _, [], _, .ow _ _ t, e, _ => by cases e
  | _, _, _, none :: ρ, _, .ow _ _ t, e, k => by cases e
  | _, _, _, some (.sh _) :: ρ, _, .ow _ _ t, e, k => by cases e
  | _, _, _, some (.ow true _) :: ρ, _, .ow _ _ t, e, k => by cases e
  | _, _, _, some (.ow false d) :: ρ, _, .ow _ _ t, e, k => by
    obtain ⟨os, e1, e2⟩ := Option.map_eq_some_iff.mp e
    subst e2
    obtain ⟨a, h1, h2⟩ := k 0 _ rfl
    simp at h1; subst h1
    exact .ow h2 (outs_ok (n0 := n0) (F := F) t e1 fun i d q => by simpa using k (i + 1) d (by simpa using q))
/-- THE RULE: a def whose body computes g -/
theorem fn_body {K : PySem.W.Frag} {P : Program} {w : World} {mg : Str → Option Value} {base : Heap} {x qual : Str} {st : Stmt} {f : Addr} {fd : FuncData} {N ps : List Str} {k : Nat} {ms : List Bool} {t : TS} {g : FS}
    (Fd : Fun K x qual st f fd) (S : FnScope N ps (defScope st)) (hl : ms.length = ps.length) (hg : DS K t g)
    (hb : ∀ (cdv : Value) (A : Around) (outer : List Env) (s : Shared) (H : Hp) (E : XK), Room k (A.deeper (envOfC qual (defScope st) s.heap.objs.size f cdv)) →
      PSs (cxOf CX0 P w K mg base N qual (defScope st) f cdv A outer s H E).nox (defBody st) t) :
    FnOk P w K mg base CX0 (k + 1) f fd ps (SpF K ms (bodyF N.length ms g)) := by
  refine Fd.ok S (fun vs H Q E h => ?_) (fun cdv A outer s H vs Q E hr h => ⟨t, hb cdv A outer s H E hr, ?_⟩)
  · obtain ⟨B, ds, d, os, _, ha, _⟩ := h
    rw [ha.len.2, hl]
  · obtain ⟨B, ds, d, os, hs, ha, nd, e, q⟩ := h
    obtain ⟨l1, l2⟩ := ha.len
    have e1 : start N vs = vs.map some ++ List.replicate (N.length - vs.length) none := rfl
    rw [e1]
    unfold bodyF at e
    rw [if_pos l1] at e
    have fin : ∀ (ρ : En) (d' : D) (os' : List D) (v : V) (σ' : L2.St) (B' : Hid) (H' : Hp), outs ms ρ = some os' → SI K (frOf B H ms vs) B' ρ σ' H' → Grow B H B' H' → Rep K B' H' d' v → d' = d → os' = os → Q v H' := by
      intro ρ d' os' v σ' B' H' eo I' g' r e1 e2
      subst e1 e2
      have gb : Grow B' H' B H' := fun b o nb e => ⟨fun z => nb (I'.hid b z), e⟩
      refine q v H' (fun b o e n => I'.fr b o e n) (fun b o e => ?_) ?_ (r.grow gb)
      · by_cases hm : b ∈ ownA ms vs
        · exact I'.hs b (I'.hid b (ha.hidden b hm))
        · exact ⟨o, I'.fr b o e hm⟩
      · refine outs_ok (n0 := 0) (F := frOf B H ms vs) ha eo fun i dd e => ?_
        obtain ⟨a, h1, h2, h3, _, h4⟩ := I'.ow i false dd e
        exact ⟨a, (h4 rfl).2, h3.grow gb fun _ z => z⟩
    have I0 := si_entry (n := N.length) hs ha nd
    split at e
    · rename_i d1 ρ eg
      obtain ⟨os1, eo, e⟩ := Option.map_eq_some_iff.mp e
      cases e
      exact hg _ _ eg _ B _ H I0 _ fun v σ' B' H' I' g' r => fin ρ d _ v σ' B' H' eo I' g' r rfl rfl
    · rename_i ρ eg
      obtain ⟨os1, eo, e⟩ := Option.map_eq_some_iff.mp e
      cases e
      exact hg _ _ eg _ B _ H I0 _ fun σ' B' H' I' g' => fin ρ .non _ .non σ' B' H' eo I' g' .non rfl rfl
    · cases e

/-! ### calls -/
def ownIx : List Ag → List Nat
  | [] => []
  | .val _ :: r => ownIx r
  | .own i :: r => i :: ownIx r
def agMs : List Ag → List Bool
  | [] => []
  | .val _ :: r => false :: agMs r
  | .own _ :: r => true :: agMs r
def resolve (ρ : En) : List Ag → Option (List Bool × List D)
  | [] => some ([], [])
  | .val d :: r => (resolve ρ r).map fun p => (false :: p.1, d :: p.2)
  | .own i :: r => match ρ[i]? with
    | some (some (.ow _ d)) => (resolve ρ r).map fun p => (true :: p.1, d :: p.2)
    | _ => none
def putBack : List Ag → List D → En → Option En
  | [], [], ρ => some ρ
  | .val _ :: r, _ :: os, ρ => putBack r os ρ
  | .own i :: r, o :: os, ρ => match ρ[i]? with
    | some (some (.ow l _)) => putBack r os (ρ.set i (some (.ow l o)))
    | _ => none
  | _, _, _ => none
/-- the call itself, its arguments known -/
def callD (ms : List Bool) (Ff : DF) (as : List Ag) (ρ : En) : Option (D × En) := if (ownIx as).Nodup then (resolve ρ as).bind fun q => if q.1 = ms then (Ff q.2).bind fun r => (putBack as r.2 ρ).map fun ρ2 => (r.1, ρ2) else none else none
def fCall (ms : List Bool) (Ff : DF) (fa : FA) : FE := fun ρ => (fa ρ).bind fun p => callD ms Ff p.1 p.2
section
variable {K : PySem.W.Frag} {F : Fr} {B : Hid} {σ : L2.St} {H : Hp}
theorem resolve_ok {ρ : En} (I : SI K F B ρ σ H) : ∀ {as : List Ag} {vs : List V} {ms : List Bool} {ds : List D}, Paired (AgRel K B H σ) as vs → resolve ρ as = some (ms, ds) → AR K B H ms ds vs
  | _, _, _, _, .nil, e => by cases e; exact .nil
  | .val d :: r, _, _, _, .cons h t, e => by
    obtain ⟨⟨ms, ds⟩, e1, e2⟩ := Option.map_eq_some_iff.mp e
    cases e2
    exact .sh h (resolve_ok I t e1)
  | .own i :: r, _, _, _, .cons h t, e => by
    unfold resolve at e
    split at e
    · rename_i l d e0
      obtain ⟨⟨ms, ds⟩, e1, e2⟩ := Option.map_eq_some_iff.mp e
      cases e2
      obtain ⟨a, h1, h2, h3, _⟩ := I.ow i l d e0
      have h' : σ[i]? = some (some _) := h
      rw [h1] at h'; cases h'
      exact .ow h2 h3 (resolve_ok I t e1)
    · cases e
theorem own_slots {ρ : En} (I : SI K F B ρ σ H) : ∀ {as : List Ag} {vs : List V} {ms : List Bool} {ds : List D} {a : Addr}, Paired (AgRel K B H σ) as vs → resolve ρ as = some (ms, ds) → a ∈ ownA ms vs → ∃ i ∈ ownIx as, σ[i]? = some (some (V.ref a)) ∧ ∃ l d, ρ[i]? = some (some (Sl.ow l d))
  | _, _, _, _, _, .nil, e, h => by cases e; cases h
  | .val d :: r, _, _, _, a, .cons h t, e, hm => by
    obtain ⟨⟨ms, ds⟩, e1, e2⟩ := Option.map_eq_some_iff.mp e
    cases e2
    have z := own_slots (as := r) I t e1 hm
    exact z
  | .own i :: r, _, _, _, a, .cons (b := v) h t, e, hm => by
    unfold resolve at e
    split at e
    · rename_i l d e0
      obtain ⟨⟨ms, ds⟩, e1, e2⟩ := Option.map_eq_some_iff.mp e
      cases e2
      obtain ⟨b, h1, h2, h3, _⟩ := I.ow i l d e0
      have h' : σ[i]? = some (some v) := h
      rw [h1] at h'; cases h'
      rcases List.mem_cons.mp hm with z | hm
      · rw [z]
        exact ⟨i, List.mem_cons_self, h1, l, d, e0⟩
      · obtain ⟨j, q1, q2⟩ := own_slots I t e1 hm
        exact ⟨j, List.mem_cons_of_mem _ q1, q2⟩
    · cases e
theorem own_nodup {ρ : En} (I : SI K F B ρ σ H) : ∀ {as : List Ag} {vs : List V} {ms : List Bool} {ds : List D}, Paired (AgRel K B H σ) as vs → resolve ρ as = some (ms, ds) → (ownIx as).Nodup → (ownA ms vs).Nodup
  | _, _, _, _, .nil, e, _ => by cases e; exact .nil
  | .val d :: r, _, _, _, .cons h t, e, nd => by
    obtain ⟨⟨ms, ds⟩, e1, e2⟩ := Option.map_eq_some_iff.mp e
    cases e2
    have z := own_nodup (as := r) I t e1 nd
    exact z
  | .own i :: r, _, _, _, .cons (b := v) h t, e, nd => by
    unfold resolve at e
    split at e
    · rename_i l d e0
      obtain ⟨⟨ms, ds⟩, e1, e2⟩ := Option.map_eq_some_iff.mp e
      cases e2
      obtain ⟨b, h1, h2, h3, _⟩ := I.ow i l d e0
      have h' : σ[i]? = some (some v) := h
      rw [h1] at h'; cases h'
      obtain ⟨n1, n2⟩ := List.nodup_cons.mp nd
      refine List.nodup_cons.mpr ⟨fun hm => ?_, own_nodup I t e1 n2⟩
      obtain ⟨j, q1, q2, l', d', q3⟩ := own_slots I t e1 hm
      have := I.ap i j l l' d d' b e0 q3 h1 q2
      exact n1 (by rw [this]; exact q1)
    · cases e
theorem resolve_ms {ρ : En} : ∀ {as : List Ag} {ms : List Bool} {ds : List D}, resolve ρ as = some (ms, ds) → ms = agMs as
  | [], _, _, e => by cases e; rfl
  | .val d :: r, _, _, e => by
    obtain ⟨⟨ms, ds⟩, e1, e2⟩ := Option.map_eq_some_iff.mp e
    cases e2
    exact congrArg (false :: ·) (resolve_ms e1)
  | .own i :: r, _, _, e => by
    unfold resolve at e
    split at e
    · obtain ⟨⟨ms, ds⟩, e1, e2⟩ := Option.map_eq_some_iff.mp e
      cases e2
      exact congrArg (true :: ·) (resolve_ms e1)
    · cases e
/-- the slots behind a call -/
theorem putBack_ok {H' : Hp} : ∀ {as : List Ag} {vs : List V} {os : List D} {ρ ρ2 : En}, (∀ (i : Nat) (d : D), ρ[i]? = some (some (Sl.sh d)) → ∃ v, σ[i]? = some (some v) ∧ Rep K B H' d v) →
    ρ.length = σ.length →
    (∀ (i : Nat) (l : Bool) (d : D), ρ[i]? = some (some (Sl.ow l d)) → ∃ a, σ[i]? = some (some (V.ref a)) ∧ B a ∧ (i ∉ ownIx as → OwnAt K B H' a d) ∧ (l = true → F.H0 a = none) ∧ (l = false → a ∈ F.A ∧ F.io i a)) →
    Paired (AgRel K B H σ) as vs → OR K B H' (agMs as) os vs → putBack as os ρ = some ρ2 →
    ρ2.length = σ.length ∧ (∀ (i : Nat) (d : D), ρ2[i]? = some (some (Sl.sh d)) → ∃ v, σ[i]? = some (some v) ∧ Rep K B H' d v) ∧
      (∀ (i : Nat) (l : Bool) (d : D), ρ2[i]? = some (some (Sl.ow l d)) → ∃ a, σ[i]? = some (some (V.ref a)) ∧ B a ∧ OwnAt K B H' a d ∧ (l = true → F.H0 a = none) ∧ (l = false → a ∈ F.A ∧ F.io i a)) ∧ OwSub ρ2 ρ
  | _, _, _, ρ, ρ2, hsh, hl, how, .nil, .nil, e => by
    cases e
    exact ⟨hl, hsh, fun i l d q => let ⟨a, h1, h2, h3, h4⟩ := how i l d q; ⟨a, h1, h2, h3 (by simp [ownIx]), h4⟩, fun i l d q => ⟨d, q⟩⟩
  | .val d :: r, _, _, ρ, ρ2, hsh, hl, how, .cons _ t, o0, e => by
    cases o0 with
    | sh o => exact putBack_ok (as := r) hsh hl how t o e
  | .own i :: r, _, _, ρ, ρ2, hsh, hl, how, .cons h t, o0, e => by
    have o0' : OR K B H' (true :: agMs r) _ _ := o0
    cases o0' with
    | @ow d' a' _ _ _ ho o =>
    unfold putBack at e
    split at e
    · rename_i l d0 e0
      have hi : i < ρ.length := (List.getElem?_eq_some_iff.mp e0).1
      have h' : σ[i]? = some (some (V.ref a')) := h
      have k1 : ∀ (j : Nat) (d : D), (ρ.set i (some (.ow l d')))[j]? = some (some (Sl.sh d)) → ∃ v, σ[j]? = some (some v) ∧ Rep K B H' d v := by
        intro j d q
        by_cases hj : j = i
        · subst hj
          rw [List.getElem?_set_self hi] at q
          cases q
        · rw [List.getElem?_set_ne (Ne.symm hj)] at q
          exact hsh j d q
      have k2 : ∀ (j : Nat) (l2 : Bool) (d : D), (ρ.set i (some (.ow l d')))[j]? = some (some (Sl.ow l2 d)) → ∃ a, σ[j]? = some (some (V.ref a)) ∧ B a ∧ (j ∉ ownIx r → OwnAt K B H' a d) ∧ (l2 = true → F.H0 a = none) ∧ (l2 = false → a ∈ F.A ∧ F.io j a) := by
        intro j l2 d q
        by_cases hj : j = i
        · subst hj
          rw [List.getElem?_set_self hi] at q
          cases q
          obtain ⟨a, h1, h2, h3, h4⟩ := how j _ _ e0
          rw [h'] at h1; cases h1
          exact ⟨a', h', h2, fun _ => ho, h4⟩
        · rw [List.getElem?_set_ne (Ne.symm hj)] at q
          obtain ⟨a, h1, h2, h3, h4⟩ := how j l2 d q
          refine ⟨a, h1, h2, fun n => h3 fun hm => ?_, h4⟩
          rcases List.mem_cons.mp hm with z | z
          · exact hj z
          · exact n z
      obtain ⟨z1, z2, z3, z4⟩ := putBack_ok (as := r) k1 (by rw [List.length_set]; exact hl) k2 t o e
      refine ⟨z1, z2, z3, fun j l2 d q => ?_⟩
      obtain ⟨d2, q2⟩ := z4 j l2 d q
      by_cases hj : j = i
      · subst hj
        rw [List.getElem?_set_self hi] at q2
        cases q2
        exact ⟨d0, e0⟩
      · rw [List.getElem?_set_ne (Ne.symm hj)] at q2
        exact ⟨d2, q2⟩
    · cases e
end
theorem call_fin {K : PySem.W.Frag} {F : Fr} {B1 : Hid} {H1 : Hp} {σ : L2.St} {ρ1 ρ' : En} {d : D} {ms : List Bool} {Ff : DF} {as : List Ag} {vs : List V} {Q : VK} (I1 : SI K F B1 ρ1 σ H1) (r1 : Paired (AgRel K B1 H1 σ) as vs) (ee2 : callD ms Ff as ρ1 = some (d, ρ'))
    (q : ∀ v B' H', SI K F B' ρ' σ H' → Stp ρ1 ρ' σ B1 H1 B' H' → Rep K B' H' d v → Q v H') : SpF K ms Ff vs H1 Q E0 := by
  unfold callD at ee2
  by_cases nd : (ownIx as).Nodup
  · rw [if_pos nd] at ee2
    obtain ⟨⟨ms', ds⟩, e2, ee3⟩ := Option.bind_eq_some_iff.mp ee2
    have ee4 : (if ms' = ms then (Ff ds).bind fun r => (putBack as r.2 ρ1).map fun ρ2 => (r.1, ρ2) else none) = some (d, ρ') := ee3
    by_cases hms : ms' = ms
    · rw [if_pos hms] at ee4
      cases hms
      obtain ⟨⟨d1, os⟩, e3, ee5⟩ := Option.bind_eq_some_iff.mp ee4
      obtain ⟨ρ2, e4, ee6⟩ := Option.map_eq_some_iff.mp ee5
      cases ee6
      have ar := resolve_ok I1 r1 e2
      have ndA := own_nodup I1 r1 e2 nd
      refine ⟨B1, ds, _, os, I1.hs, ar, ndA, e3, fun v H' kp th orr rv => ?_⟩
      have ownHid : ∀ b ∈ ownA ms vs, B1 b := ar.hidden
      have g : Grow B1 H1 B1 H' := fun b o nb e => ⟨nb, kp b o e fun hm => nb (ownHid b hm)⟩
      have hmsE := resolve_ms e2
      have orr' : OR K B1 H' (agMs as) os vs := by rw [← hmsE]; exact orr
      have k1 : ∀ (i : Nat) (d : D), ρ1[i]? = some (some (Sl.sh d)) → ∃ v, σ[i]? = some (some v) ∧ Rep K B1 H' d v := fun i d e => let ⟨v, p1, p2⟩ := I1.sh i d e; ⟨v, p1, p2.grow g⟩
      have k2 : ∀ (i : Nat) (l : Bool) (d : D), ρ1[i]? = some (some (Sl.ow l d)) → ∃ a, σ[i]? = some (some (V.ref a)) ∧ B1 a ∧ (i ∉ ownIx as → OwnAt K B1 H' a d) ∧ (l = true → F.H0 a = none) ∧ (l = false → a ∈ F.A ∧ F.io i a) := by
        intro i l d e
        obtain ⟨a, h1, h2, h3, h4⟩ := I1.ow i l d e
        refine ⟨a, h1, h2, fun n => h3.grow g fun o z => kp a o z fun hm => ?_, h4⟩
        obtain ⟨j, q1, q2, l', d', q3⟩ := own_slots I1 r1 e2 hm
        have := I1.ap i j l l' d d' a e q3 h1 q2
        exact n (by rw [this]; exact q1)
      obtain ⟨z1, z2, z3, z4⟩ := putBack_ok (F := F) k1 I1.len k2 r1 orr' e4
      have notOwn : ∀ b, NotOw ρ1 σ b → b ∉ ownA ms vs := fun b n hm => by
        obtain ⟨j, q1, q2, l', d', q3⟩ := own_slots I1 r1 e2 hm
        exact n j l' d' q3 q2
      have I2 : SI K F B1 ρ' σ H' := {
        len := z1
        sh := z2
        ow := z3
        ap := fun i j l l' d d' a q1 q2 h1 h2 => by
          obtain ⟨da, qa⟩ := z4 i l d q1
          obtain ⟨db, qb⟩ := z4 j l' d' q2
          exact I1.ap i j l l' da db a qa qb h1 h2
        fr := fun b o e n => by
          refine kp b o (I1.fr b o e n) fun hm => ?_
          obtain ⟨j, q1, q2, l', d', q3⟩ := own_slots I1 r1 e2 hm
          obtain ⟨a, h1, _, _, h4, h5⟩ := I1.ow j l' d' q3
          rw [q2] at h1; cases h1
          cases l' with
          | true => rw [h4 rfl] at e; cases e
          | false => exact n (h5 rfl).1
        hid := I1.hid
        hs := fun b z => let ⟨o, e⟩ := I1.hs b z; th b o e
        b0 := I1.b0
        aB := I1.aB }
      exact q v B1 H' I2 ⟨g, fun b o e n => kp b o e (notOwn b n), z4, th, fun _ z _ => z⟩ rv
    · rw [if_neg hms] at ee4
      cases ee4
  · rw [if_neg nd] at ee2
    cases ee2
/-- a call of a def that computes Ff -/
theorem de_callS {K ta fa ms Ff} (h : DA K ta fa) {te : TE} (hte : ∀ σ H Q, (ta σ H fun vs H1 => SpF K ms Ff vs H1 Q E0) → te σ H Q) : DE K te (fCall ms Ff fa) := by
  intro ρ d ρ' ee F B σ H I Q q
  obtain ⟨⟨as, ρ1⟩, e1, ee1⟩ := Option.bind_eq_some_iff.mp ee
  refine hte σ H Q ?_
  refine h _ _ _ e1 F B σ H I _ fun vs B1 H1 I1 s1 r1 => ?_
  exact call_fin I1 r1 ee1 fun v B' H' I2 s2 r2 => q v B' H' I2 (s1.trans s2) r2
theorem de_call {K ta fa ms Ff} (h : DA K ta fa) : DE K (tCall (SpF K ms Ff) [] E0 ta) (fCall ms Ff fa) :=
  de_callS h fun σ H Q q => by
    unfold tCall
    have e : (fun (vs : List V) (H1 : Hp) => SpF K ms Ff (vs ++ []) H1 Q E0) = fun vs H1 => SpF K ms Ff vs H1 Q E0 := by
      funext vs H1
      rw [List.append_nil]
    rw [e]
    exact q
end DL

end

section
set_option maxRecDepth 100000
set_option maxHeartbeats 1000000
/-! The data layer, part S: set(xs) of texts. -/
namespace DL
/-- how many texts there are among the first i -/
def cntS (xs : List PySem.Str) : Nat → Nat
  | 0 => 0
  | i + 1 => if (xs.take i).any (· == xs.getD i PySem.Str.empty) = true then cntS xs i else cntS xs i + 1
theorem cntS_le (xs : List PySem.Str) : ∀ i, cntS xs i ≤ i
  | 0 => Nat.le_refl _
  | i + 1 => by
    unfold cntS
    have := cntS_le xs i
    split <;> omega
end DL
namespace DLS
open PySem PySem.Spec PyProof.Rows DL SS
section
variable {prog : Program} {w : World} {A : Around} {R : Result → Shared → Prop} {I : Addr} {fp wr : List Addr} {G : Array GenState → Array GenState → Prop} {n : Nat} {P : Nat → Value → Prop} {St : Nat → Shared → Prop}
theorem loopStrN (W : WalksS prog w A.in1 I fp wr G n P St) (S : Addr) (hSf : S ∉ fp) (xs : List Str) (hsz : xs.length = n) (hn1 : n + 1 < scanBound)
    (hval : ∀ i v, P i v → ∃ t, v = .str (xs.getD i Str.empty) t) :
    ∀ (k i : Nat) (s : Shared), n - i = k → i ≤ n → St i s →
      s.heap.SetOf (PySem.strKind prog w) S (fun k' => (xs.take i).any (· == k')) (cntS xs i) →
      (∀ s', Moved (S :: wr) G s s' → s'.heap.SetOf (PySem.strKind prog w) S (fun k' => (xs.take n).any (· == k')) (cntS xs n) → R (.ok (.ret .none)) s') →
      codeAny (model prog w) A (.builtin "set.update.loop" ⟨[.ref S, .ref I], []⟩) R s := by
  have hSw : S ∉ wr := fun h => hSf (W.sub _ h)
  have hsub : ∀ b ∈ wr, b ∈ S :: wr := fun b hb => List.mem_cons_of_mem _ hb
  intro k
  induction k with
  | zero =>
    intro i s hk hi hst hS hR
    have hin : i = n := by omega
    subst hin
    refine codeAny_builtin PyProof.Rows.F.entry_set_update_loop ?_
    rw [Around.under_plainId PyProof.Rows.F.plain_set_update_loop _]
    show wpAny _ A.in1 (pyNext (.ref I) >>= _) _ _ s
    refine wpAny_bind (W.done s _ _ hst fun s' hm => ?_)
    show wpAny _ A.in1 (ret Value.none) _ _ s'
    exact wpAny_pure (hR s' (hm.mono hsub) (by
      obtain ⟨o, es, ep, t, ho, rest⟩ := hS
      exact ⟨o, es, ep, t, hm.heap S _ hSw ho, rest⟩))
  | succ k ih =>
    intro i s hk hi hst hS hR
    have hlt : i < n := by omega
    refine codeAny_builtin PyProof.Rows.F.entry_set_update_loop ?_
    rw [Around.under_plainId PyProof.Rows.F.plain_set_update_loop _]
    show wpAny _ A.in1 (pyNext (.ref I) >>= _) _ _ s
    refine wpAny_bind (W.item i s _ _ hlt hst fun v s' hP hst' hm => ?_)
    obtain ⟨t, rfl⟩ := hval i v hP
    have hS' : s'.heap.SetOf (PySem.strKind prog w) S (fun k' => (xs.take i).any (· == k')) (cntS xs i) := by
      obtain ⟨o, es, ep, tb, ho, rest⟩ := hS
      exact ⟨o, es, ep, tb, hm.heap S _ hSw ho, rest⟩
    show wpAny _ A.in1 (holding [Value.str (xs.getD i Str.empty) t] (setAdd S (.str (xs.getD i Str.empty) t)) >>= _) _ _ s'
    refine wpAny_bind (wpAny_holding ?_)
    unfold setAdd
    refine wpAny_holding ?_
    refine wpAny_bind ((PySem.strKind prog w).pyHash (k := xs.getD i Str.empty) (strKind_is _ _ _ _) ?_)
    refine wpAny_setAddHashed_of (knd := PySem.strKind prog w) (s := { s' with toks := s'.toks + 1 }) (strKind_is _ _ _ _) rfl hS' (by have := cntS_le xs i; omega) fun h' hsb hS2 => ?_
    have hSi : h'.SetOf (PySem.strKind prog w) S (fun k' => (xs.take (i + 1)).any (· == k')) (cntS xs (i + 1)) := by
      refine SetOf_congr hS2 (fun k' => ?_) rfl
      have e : xs.take (i + 1) = xs.take i ++ [xs.getD i Str.empty] := by
        have hl : i < xs.length := by omega
        rw [List.take_succ, List.getElem?_eq_getElem hl, List.getD_eq_getElem?_getD, List.getElem?_eq_getElem hl]
        rfl
      rw [e, List.any_append]
      congr 1
      by_cases e2 : k' = xs.getD i Str.empty
      · rw [e2]; simp
      · have hb : (xs.getD i Str.empty == k') = false := by
          rw [beq_eq_false_iff_ne]
          exact fun z => e2 z.symm
        simp only [List.any_cons, List.any_nil, Bool.or_false, hb]
        exact decide_eq_false e2
    refine wpAny_pure ⟨plainId_quiet PyProof.Rows.F.plain_set_update_loop _, ih (i + 1) _ (by omega) hlt (W.frame _ s' _ _ hst' (Nat.le_succ _) fun b hb o e => ?_) hSi fun s'' hm'' hS'' => ?_⟩
    · rw [hsb.2 b (fun h : b = S => hSf (by rw [← h]; exact hb))]; exact e
    · refine hR s'' (Moved.trans W.gtrans ((hm.mono hsub).then_heap (Nat.le_succ _) fun b o hb e => ?_) hm'') hS''
      rw [hsb.2 b (fun h : b = S => hb (by rw [h]; exact List.mem_cons_self))]; exact e
end

section
variable {prog : Program} {w : World} {A : Around} {E : Value → Shared → Prop} {s : Shared}
set_option maxHeartbeats 3200000 in
theorem call_set_listN {l : Addr} {items : Array Value} {xs : List Str} {Q : Value → Shared → Prop}
    (hh : A.handled = none) (hl : s.heap.IsList l items) (hi : PyProof.Rows.StrsAre items.toList xs) (hn1 : xs.length + 1 < scanBound)
    (h : ∀ (h' : Heap) (tk : Nat), h'.SetOf (PySem.strKind prog w) s.heap.objs.size (fun k' => (xs.take items.size).any (· == k')) (cntS xs items.size) →
      (∀ b o, b < s.heap.objs.size → s.heap.get? b = some o → h'.get? b = some o) → Q (.ref s.heap.objs.size) { s with heap := h', toks := tk }) :
    wpAny (model prog w) A (call (.type "set") [.ref l]) Q E s := by
  obtain ⟨c, tl, hmro⟩ := PySem.F.called_set.mro
  have hmade := PySem.F.called_set.made
  have hsub := PySem.F.called_set.sub
  refine wpAny_call (codeAny_of_tree ?_)
  show wpAny _ _ (callAny (.type "set") _) _ _ _
  refine wpAny_pure ⟨Code.quiet_builtin _ (by decide +kernel), codeAny_builtin PySem.F.entry_type_call ?_⟩
  rw [Around.under_plain (weight_type_call_type "set" [.ref l] []) rfl]
  have h1 := PySem.F.called_set.notType
  have h2 := PySem.F.called_set.canCreate
  have hct := PySem.F.typeCall_set_1 (.ref l)
  repeat (any_goals (first | assumption | wp_step))

  refine codeAny_mono (code_set_new_1 (.ref l) (E := E) (Q₁ := fun obj s₁ => ∃ led : Bool, obj = .ref s.heap.objs.size ∧ s₁ = { s with heap := s.heap.push { cls := .type "set", dict := none, data := .set #[] 0 (.fresh 0 0 led) } }) fun led => ⟨led, rfl, rfl⟩) fun r s₁ hr => ?_
  cases r with
  | error e => exact hr
  | ok fl =>
    cases fl with
    | ret obj =>
      obtain ⟨led, rfl, rfl⟩ := hr
      have hS : (s.heap.push { cls := .type "set", dict := none, data := .set #[] 0 (.fresh 0 0 led) }).get? s.heap.objs.size = some { cls := .type "set", dict := none, data := .set #[] 0 (.fresh 0 0 led) } := Heap.get?_push_size _ rfl
      have hT : Shared.TypeIs { s with heap := s.heap.push { cls := .type "set", dict := none, data := .set #[] 0 (.fresh 0 0 led) } } (.ref s.heap.objs.size) "set" := ⟨_, hS, rfl⟩
      have hli := PySem.F.called_set.init.lookup
      have hbi := PySem.F.called_set.init.bind (.ref s.heap.objs.size)
      repeat (any_goals (first | assumption | wp_step))

      refine codeAny_mono (codeAny_call_builtin (R := wants (fun r s₂ => r = .none ∧ ∃ h' tk, s₂ = { s with heap := h', toks := tk } ∧
          h'.SetOf (PySem.strKind prog w) s.heap.objs.size (fun k' => (xs.take items.size).any (· == k')) (cntS xs items.size) ∧
          (∀ b o, b < s.heap.objs.size → s.heap.get? b = some o → h'.get? b = some o)) E) PySem.F.called_set.init.plain PySem.F.entry_set_init (check_set_init_1 hT ?_)) fun r₂ s₂ hr₂ => ?_
      · obtain ⟨ol, hol, hcl, nl, hdl⟩ := hl
        obtain ⟨ocls, odict, odata, oslots⟩ := ol
        simp only at hcl hdl
        subst hcl; subst hdl
        have hol' : (s.heap.push { cls := .type "set", dict := none, data := .set #[] 0 (.fresh 0 0 led) }).get? l = some { cls := .type "list", dict := odict, data := .seq items nl, slots := oslots } := Heap.get?_push_of_some _ hol
        have hsls := PySem.F.sub_list_set
        have hslf := PySem.F.sub_list_frozenset
        have hne : (Value.type "list" == Value.type "dict") = false := by decide
        have hl1 : (s.heap.push { cls := .type "set", dict := none, data := .set #[] 0 (.fresh 0 0 led) }).IsList l items := ⟨_, hol', rfl, nl, rfl⟩
        unfold Builtin.«set.__init__» noKeywords Builtin.Frozenset.updateFrom
        generalize hPI : pyIter = PI
        wp_walk
        subst hPI

        refine wpAny_pyIter_list hl1 ?_
        refine wpAny_bind (wpAny_runValue ?_)
        have hlS : l < s.heap.objs.size := Heap.lt_size hol
        have hh3 : A.in1.in1.in1.handled = none := by simp [hh]
        have hneI : l ≠ (s.heap.push { cls := .type "set", dict := none, data := .set #[] 0 (.fresh 0 0 led) }).objs.size := by
          rw [Heap.size_push]; exact Nat.ne_of_lt (Nat.lt_succ_of_lt hlS)
        have hSf : s.heap.objs.size ∉ [(s.heap.push { cls := .type "set", dict := none, data := .set #[] 0 (.fresh 0 0 led) }).objs.size, l] := by
          rw [Heap.size_push]; simp only [List.mem_cons, List.mem_singleton, List.not_mem_nil, or_false, not_or]
          exact ⟨Nat.ne_of_lt (Nat.lt_succ_self _), Nat.ne_of_gt hlS⟩
        have hsz : xs.length = items.size := by rw [← StrsAre.len_eq hi, Array.length_toList]
        have hval : ∀ (i : Nat) (v : Value), items[i]? = some v → ∃ t, v = .str (xs.getD i Str.empty) t := fun i v hv => strs_at hi i v (by rw [Array.getElem?_toList]; exact hv)
        refine loopStrN ((Walks.list hh3 _ l hneI items).toS) s.heap.objs.size
          hSf xs hsz (by rw [← hsz]; exact hn1) hval (items.size - 0) 0 _ (by omega) (Nat.zero_le _)
          ⟨⟨_, Heap.get?_push_size _ rfl, rfl, rfl⟩, (hl1.push _)⟩ ?hS0 ?hR
        case hS0 =>
          have hget : ((s.heap.push { cls := .type "set", dict := none, data := .set #[] 0 (.fresh 0 0 led) }).push { cls := .type "list_iterator", data := .fields #[.ref l, .int 0 0] }).get? s.heap.objs.size
              = some { cls := .type "set", dict := none, data := .set #[] 0 (.fresh 0 0 led) } := Heap.get?_push_of_some _ hS
          exact PyProof.Rows.SetOf_congr ((PyProof.Rows.setObjOf_fresh (knd := PySem.strKind prog w) led).setOf hget (by unfold scanBound; omega)) (fun _ => rfl) rfl
        case hR =>
          intro s' hm hS'
          obtain ⟨h', g', d', tk', os'⟩ := s'
          have eg : g' = s.gens := hm.gens
          have ed : d' = s.drawn := hm.drawn
          have eo : os' = s.os := hm.os
          subst eg; subst ed; subst eo
          show wpAny _ _ _ _ _ _
          refine wpAny_pure ?_
          show wpAny _ _ (ret Value.none) _ _ _
          refine wpAny_pure ⟨rfl, h', tk', rfl, hS', fun b o hb e => ?_⟩
          have hb1 : b ≠ s.heap.objs.size := Nat.ne_of_lt hb
          have hb2 : b ≠ (s.heap.push { cls := .type "set", dict := none, data := .set #[] 0 (.fresh 0 0 led) }).objs.size := by
            rw [Heap.size_push]; exact Nat.ne_of_lt (Nat.lt_succ_of_lt hb)
          exact hm.heap b o (by simp only [List.mem_cons, List.mem_singleton, List.not_mem_nil, or_false, not_or]; exact ⟨hb1, hb2⟩) (Heap.get?_push_of_some _ (Heap.get?_push_of_some _ e))

      · cases r₂ with
        | error e => exact hr₂
        | ok fl₂ =>
          cases fl₂ with
          | ret r =>
            obtain ⟨rfl, h', tk, rfl, hS', hk'⟩ := hr₂
            repeat (any_goals (first | assumption | wp_step))
            exact h _ _ hS' hk'
          | _ => exact hr₂.elim
    | _ => exact hr.elim

end
end DLS

end

section
set_option maxRecDepth 100000
set_option maxHeartbeats 1000000
/-! The data layer, part H: built-ins by data. -/
namespace DL
open PySem PySem.Spec L2

section
variable {K : PySem.W.Frag} {B : Hid} {H : Hp}
theorem Reps.one {d : D} {xs : List V} (r : Reps K B H [d] xs) : ∃ v, xs = [v] ∧ Rep K B H d v := by
  cases r with
  | cons h t => cases t; exact ⟨_, rfl, h⟩
theorem Reps.two {d e : D} {xs : List V} (r : Reps K B H [d, e] xs) : ∃ v u, xs = [v, u] ∧ Rep K B H d v ∧ Rep K B H e u := by
  cases r with
  | cons h t =>
    obtain ⟨u, rfl, h2⟩ := t.one
    exact ⟨_, _, rfl, h, h2⟩
theorem Rep.int_inv {i : Int} {v : V} (r : Rep K B H (.int i) v) : v = .int i := by cases r; rfl
theorem Rep.str_inv {x : Str} {v : V} (r : Rep K B H (.str x) v) : v = .str x := by cases r; rfl
theorem Rep.bl_inv {x : Bool} {v : V} (r : Rep K B H (.bl x) v) : v = .bl x := by cases r; rfl
theorem Rep.tup_inv {ds : List D} {v : V} (r : Rep K B H (.tup ds) v) : ∃ a vs, v = .ref a ∧ VT K B H a vs ∧ Reps K B H ds vs := by cases r with | tup h t => exact ⟨_, _, rfl, h, t⟩
theorem Rep.lst_inv {ds : List D} {v : V} (r : Rep K B H (.lst ds) v) : ∃ a vs, v = .ref a ∧ ¬ B a ∧ H a = some (.lst vs) ∧ Reps K B H ds vs := by cases r with | lst n h t => exact ⟨_, _, rfl, n, h, t⟩
theorem Rep.frl_inv {ns : List Int} {v : V} (r : Rep K B H (.frl ns) v) : ∃ a, v = .ref a ∧ SqL K H a (ns.map V.int) := by cases r with | frl h => exact ⟨_, rfl, h.sq⟩
end
/-! ### numbers -/
def rAbs : CR1 := fun xs H Q => ∃ i, xs = [.int i] ∧ Q (.int (if i < 0 then -i else i)) H
theorem ca_abs {X : Cx} : CallR X (.builtin "abs") rAbs := call_abs
def absD : List D → Option D
  | [.int i] => some (.int (if i < 0 then -i else i))
  | _ => none
theorem crd_abs {K} : CRD K rAbs absD := by
  intro ds z e B H xs hs r Q q
  unfold absD at e
  split at e
  · cases e
    obtain ⟨v, rfl, h⟩ := r.one
    rw [h.int_inv]
    exact ⟨_, rfl, q _ _ (Ext.refl H) (.int _)⟩
  · cases e
def rMax2 : CR1 := fun xs H Q => ∃ i j, xs = [.int i, .int j] ∧ Q (.int (if j > i then j else i)) H
theorem ca_max {X : Cx} (hc : X.calm = true) : CallR X (.builtin "max") rMax2 := call_max2 hc
def maxD : List D → Option D
  | [.int i, .int j] => some (.int (if j > i then j else i))
  | _ => none
theorem crd_max {K} : CRD K rMax2 maxD := by
  intro ds z e B H xs hs r Q q
  unfold maxD at e
  split at e
  · cases e
    obtain ⟨v, u, rfl, h, h2⟩ := r.two
    rw [h.int_inv, h2.int_inv]
    exact ⟨_, _, rfl, q _ _ (Ext.refl H) (.int _)⟩
  · cases e
def rInt1 : CR1 := fun xs H Q => (∃ i, xs = [.int i] ∧ Q (.int i) H) ∨ ∃ k, xs = [.bl k] ∧ Q (.int (if k then 1 else 0)) H
theorem ca_int {X : Cx} : CallR X (.type "int") rInt1 := call_int1
def intD : List D → Option D
  | [.int i] => some (.int i)
  | [.bl k] => some (.int (if k then 1 else 0))
  | _ => none
theorem crd_int {K} : CRD K rInt1 intD := by
  intro ds z e B H xs hs r Q q
  unfold intD at e
  split at e
  · cases e
    obtain ⟨v, rfl, h⟩ := r.one
    rw [h.int_inv]
    exact .inl ⟨_, rfl, q _ _ (Ext.refl H) (.int _)⟩
  · cases e
    obtain ⟨v, rfl, h⟩ := r.one
    rw [h.bl_inv]
    exact .inr ⟨_, rfl, q _ _ (Ext.refl H) (.int _)⟩
  · cases e
def rStr1 : CR1 := fun xs H Q => (∃ i, xs = [.int i] ∧ i.natAbs.log2 < 1920 ∧ Q (.str (toString i)) H) ∨ ∃ a, xs = [.str a] ∧ Q (.str a) H
theorem ca_str {X : Cx} : CallR X (.type "str") rStr1 := call_str_int.or SkE.call_str_str
def strD : List D → Option D
  | [.int i] => if i.natAbs.log2 < 1920 then some (.str (toString i)) else none
  | [.str a] => some (.str a)
  | _ => none
theorem crd_str {K} : CRD K rStr1 strD := by
  intro ds z e B H xs hs r Q q
  unfold strD at e
  split at e
  · split at e
    · rename_i hz
      cases e
      obtain ⟨v, rfl, h⟩ := r.one
      rw [h.int_inv]
      exact .inl ⟨_, rfl, hz, q _ _ (Ext.refl H) (.str _)⟩
    · cases e
  · cases e
    obtain ⟨v, rfl, h⟩ := r.one
    rw [h.str_inv]
    exact .inr ⟨_, rfl, q _ _ (Ext.refl H) (.str _)⟩
  · cases e

/-! ### len -/
def rLenE (K : PySem.W.Frag) : CR1 := fun xs H Q => ∃ x n, xs = [x] ∧ LenV K x H n ∧ Q (.int n) H
theorem ca_len {X : Cx} : CallR X (.builtin "len") (rLenE X.K) := call_len
def lenD : List D → Option D
  | [.str x] => if x.length ≤ 1000000 then some (.int x.length) else none
  | [.tup ds] => some (.int ds.length)
  | [.lst ds] => some (.int ds.length)
  | [.frl ns] => some (.int ns.length)
  | _ => none
theorem crd_len {K} : CRD K (rLenE K) lenD := by
  intro ds z e B H xs hs r Q q
  unfold lenD at e
  split at e
  · split at e
    · rename_i hz
      cases e
      obtain ⟨v, rfl, h⟩ := r.one
      rw [h.str_inv]
      exact ⟨_, _, rfl, ⟨szl hz, rfl⟩, q _ _ (Ext.refl H) (.int _)⟩
    · cases e
  · cases e
    obtain ⟨v, rfl, h⟩ := r.one
    obtain ⟨a, vs, rfl, h1, h2⟩ := h.tup_inv
    exact ⟨_, vs.length, rfl, .inr ⟨vs, h1.sq, rfl⟩, q _ _ (Ext.refl H) (by rw [h2.length]; exact .int _)⟩
  · cases e
    obtain ⟨v, rfl, h⟩ := r.one
    obtain ⟨a, vs, rfl, _, h1, h2⟩ := h.lst_inv
    exact ⟨_, vs.length, rfl, .inl ⟨vs, .inl (.inl h1), rfl⟩, q _ _ (Ext.refl H) (by rw [h2.length]; exact .int _)⟩
  · rename_i ns
    cases e
    obtain ⟨v, rfl, h⟩ := r.one
    obtain ⟨a, rfl, h1⟩ := h.frl_inv
    exact ⟨_, ns.length, rfl, .inl ⟨ns.map V.int, h1, by rw [List.length_map]⟩, q _ _ (Ext.refl H) (.int _)⟩
  · cases e
/-- len(x), x looked at in passing -/
def fLenB (fb : En → Option (List D × En)) : FE := fun ρ => (fb ρ).map fun p => (.int p.1.length, p.2)
theorem de_lenB {K tb fb} (hb : DB K tb fb) : DE K (tCB (rLenE K) (tCons tb tNil)) (fLenB fb) := by
  intro ρ d ρ' e F B σ H I Q q
  obtain ⟨⟨ds, ρ1⟩, e1, e⟩ := Option.map_eq_some_iff.mp e
  cases e
  refine hb _ _ _ e1 F B σ H I _ fun a vs B1 H1 I1 s1 h r => ?_
  exact ⟨_, vs.length, rfl, .inl ⟨vs, h, rfl⟩, q _ B1 H1 I1 s1 (by rw [r.length]; exact .int _)⟩

/-! ### tuple, list -/
def rTupE (K : PySem.W.Frag) : CR1 := fun xs H Q => ∃ p ys, xs = [.ref p] ∧ ((SqL K H p ys ∧ ∀ l, H l = none → Q (.ref l) (upd H l (.tup ys))) ∨ (SqT K H p ys ∧ Q (.ref p) H))
theorem ca_tuple {X : Cx} : CallR X (.type "tuple") (rTupE X.K) := call_tuple_of
def tupD : List D → Option D
  | [.tup ds] => some (.tup ds)
  | [.lst ds] => some (.tup ds)
  | _ => none
theorem crd_tuple {K} : CRD K (rTupE K) tupD := by
  intro ds z e B H xs hs r Q q
  unfold tupD at e
  split at e
  · cases e
    obtain ⟨v, rfl, h⟩ := r.one
    obtain ⟨a, vs, rfl, h1, h2⟩ := h.tup_inv
    exact ⟨a, vs, rfl, .inr ⟨h1.sq, q _ _ (Ext.refl H) h⟩⟩
  · cases e
    obtain ⟨v, rfl, h⟩ := r.one
    obtain ⟨a, vs, rfl, _, h1, h2⟩ := h.lst_inv
    exact ⟨a, vs, rfl, .inl ⟨.inl (.inl h1), fun l hl => q _ _ (Ext.new hl) (rep_newT hs hl h2)⟩⟩
  · cases e
/-- tuple(x), x looked at in passing -/
def fTupB (fb : En → Option (List D × En)) : FE := fun ρ => (fb ρ).map fun p => (.tup p.1, p.2)
theorem de_tupB {K tb fb} (hb : DB K tb fb) : DE K (tCB (rTupE K) (tCons tb tNil)) (fTupB fb) := by
  intro ρ d ρ' e F B σ H I Q q
  obtain ⟨⟨ds, ρ1⟩, e1, e⟩ := Option.map_eq_some_iff.mp e
  cases e
  refine hb _ _ _ e1 F B σ H I _ fun a vs B1 H1 I1 s1 h r => ?_
  exact ⟨a, vs, rfl, .inl ⟨h, fun l hl => q _ B1 _ (I1.ext (Ext.new hl)) (s1.trans (Ext.new hl).stp) (rep_newT I1.hs hl r)⟩⟩
def rListE (K : PySem.W.Frag) : CR1 := fun xs H Q => ∃ p ys, xs = [.ref p] ∧ (SqL K H p ys ∨ SqT K H p ys) ∧ ∀ l, H l = none → Q (.ref l) (upd H l (.lst ys))
theorem ca_list {X : Cx} : CallR X (.type "list") (rListE X.K) := call_list_of
def fList (f : FE) : En → Option (List D × En) := fun ρ => (f ρ).bind fun p => match p.1 with
  | .tup ds => some (ds, p.2)
  | .lst ds => some (ds, p.2)
  | _ => none
theorem dn_list {K te f} (h : DE K te f) : DN K (tCB (rListE K) (tCons te tNil)) (fList f) := by
  intro ρ ds ρ' e F B σ H I Q q
  obtain ⟨⟨d, ρ1⟩, e1, e⟩ := Option.bind_eq_some_iff.mp e
  simp only at e
  refine h _ _ _ e1 F B σ H I _ fun v B1 H1 I1 s1 r => ?_
  split at e
  · cases e
    obtain ⟨a, vs, rfl, h1, h2⟩ := r.tup_inv
    exact ⟨a, vs, rfl, .inr h1.sq, fun l hl => dn_new s1 I1 hl h2 q⟩
  · cases e
    obtain ⟨a, vs, rfl, _, h1, h2⟩ := r.lst_inv
    exact ⟨a, vs, rfl, .inl (.inl (.inl h1)), fun l hl => dn_new s1 I1 hl h2 q⟩
  · cases e

/-! ### all, any -/
def blsD : List D → Option (List Bool)
  | [] => some []
  | .bl b :: r => (blsD r).map (b :: ·)
  | _ => none
theorem blsD_eq : ∀ {ds : List D} {bs : List Bool}, blsD ds = some bs → ds = bs.map D.bl
  | [], _, e => by cases e; rfl
  | .bl b :: r, _, e => by
    obtain ⟨bs, e1, e2⟩ := Option.map_eq_some_iff.mp e
    subst e2
    rw [blsD_eq e1, List.map_cons]
  | .non :: _, _, e => by cases e
  | .int _ :: _, _, e => by cases e
  | .str _ :: _, _, e => by cases e
  | .tup _ :: _, _, e => by cases e
  | .tpx _ :: _, _, e => by cases e
  | .lst _ :: _, _, e => by cases e
  | .obj _ _ :: _, _, e => by cases e
  | .fn _ :: _, _, e => by cases e
  | .dk _ :: _, _, e => by cases e
  | .frl _ :: _, _, e => by cases e
  | .ty _ :: _, _, e => by cases e
theorem blsD_map (bs : List Bool) : blsD (bs.map D.bl) = some bs := by
  induction bs with
  | nil => rfl
  | cons b bs ih => rw [List.map_cons, blsD, ih]; rfl
def qD (f : List Bool → Bool) : List D → Option D
  | [.lst ds] => (blsD ds).map fun bs => .bl (f bs)
  | _ => none
def allD : List D → Option D := qD fun bs => bs.all id
def anyD : List D → Option D := qD fun bs => bs.any id
theorem crd_all {K} : CRD K (rAll K) allD := by
  intro ds z e B H xs hs r Q q
  unfold allD qD at e
  split at e
  · obtain ⟨bs, e1, e2⟩ := Option.map_eq_some_iff.mp e
    subst e2
    obtain ⟨v, rfl, h⟩ := r.one
    obtain ⟨a, vs, rfl, _, h1, h2⟩ := h.lst_inv
    rw [blsD_eq e1] at h2
    have e3 := h2.bls_inv
    subst e3
    exact ⟨a, bs, rfl, .inl (.inl h1), q _ _ (Ext.refl H) (.bl _)⟩
  · cases e
theorem crd_any {K} : CRD K (rAny K) anyD := by
  intro ds z e B H xs hs r Q q
  unfold anyD qD at e
  split at e
  · obtain ⟨bs, e1, e2⟩ := Option.map_eq_some_iff.mp e
    subst e2
    obtain ⟨v, rfl, h⟩ := r.one
    obtain ⟨a, vs, rfl, _, h1, h2⟩ := h.lst_inv
    rw [blsD_eq e1] at h2
    have e3 := h2.bls_inv
    subst e3
    exact ⟨a, bs, rfl, .inl (.inl h1), q _ _ (Ext.refl H) (.bl _)⟩
  · cases e

/-! ### isinstance(x, c), one class -/
/-- a type: built-in, a class of the text -/
inductive Ty where
  | b (n : String) | u (c : Str)
deriving DecidableEq
def Ty.val (K : PySem.W.Frag) : Ty → Value
  | .b n => .type n
  | .u c => .ref (He.ga K c)
def tyOf : D → Option Ty
  | .non => some (.b "NoneType")
  | .bl _ => some (.b "bool")
  | .int _ => some (.b "int")
  | .str _ => some (.b "str")
  | .tup _ => some (.b "tuple")
  | .tpx _ => some (.b "tuple")
  | .lst _ => some (.b "list")
  | .frl _ => some (.b "list")
  | .obj c _ => some (.u c)
  | _ => none
def clsD : D → Option Ty
  | .ty n => some (.b n)
  | .fn c => some (.u c)
  | _ => none
/-- what is said of a class whose objects are asked -/
structure AskC (K : PySem.W.Frag) (C : Addr) : Prop where
  cl : Cls K C
  ha : PySem.W.findIn K (.ref C) "__class__" = some (some (.builtin "object.__class__"))
  hn : PySem.W.specialIn K (.builtin "object.__class__") "__get__" = some (some (.builtin "getset_descriptor.__get__"))
  htk : PySem.W.takesIn K (.builtin "object.__class__") = some true
  hm : PySem.W.mroIn K C (.type "object") = some true
/-- kt: what isinstance answers -/
structure KtOk (K : PySem.W.Frag) (kt : Ty → Ty → Option Bool) : Prop where
  ans : ∀ s t b, kt s t = some b → PySem.W.kitOne K (s.val K) (t.val K) = some b
  ask : ∀ c t b, kt (.u c) t = some b → AskC K (He.ga K c)
def isiD (kt : Ty → Ty → Option Bool) : List D → Option D
  | [d, c] => (tyOf d).bind fun s => (clsD c).bind fun t => (kt s t).map .bl
  | _ => none
theorem crd_isi {K kt} (hk : KtOk K kt) : CRD K (rIsi K) (isiD kt) := by
  intro ds z e B H xs hs r Q q
  unfold isiD at e
  split at e
  · rename_i d c
    obtain ⟨s, e1, e⟩ := Option.bind_eq_some_iff.mp e
    obtain ⟨t, e2, e⟩ := Option.bind_eq_some_iff.mp e
    obtain ⟨b, e3, e⟩ := Option.map_eq_some_iff.mp e
    subst e
    obtain ⟨v, u, rfl, h1, h2⟩ := r.two
    have hc : ClsV u (t.val K) := by
      cases h2 with
      | ty n => cases e2; exact .ty n
      | fn x => cases e2; exact .own _
      | _ => cases e2
    refine ⟨v, u, s.val K, t.val K, b, rfl, hc, ?_, hk.ans _ _ _ e3, q _ _ (Ext.refl H) (.bl b)⟩
    cases h1 with
    | non => cases e1; exact .base .non
    | bl b => cases e1; exact .base (.bl b)
    | int i => cases e1; exact .base (.int i)
    | str x => cases e1; exact .base (.str x)
    | fn x => cases e1
    | ty n => cases e1
    | tup h t =>
      cases e1
      rcases h with ⟨_, h⟩ | ⟨o, its, n, h, h2, _⟩
      · rcases h with h | ⟨o, h⟩
        · exact .base (.tup h)
        · exact .fTuple h
      · exact .kTuple h h2
    | tpx h t =>
      cases e1
      obtain ⟨_, o, h, _⟩ := h
      exact .fTuple h
    | lst n h t => cases e1; exact .base (.lst h)
    | frl h =>
      cases e1
      rcases h with ⟨_, h⟩ | ⟨o, its, n, h, h2, _⟩
      · rcases h with h | ⟨o, h⟩
        · exact .base (.lst h)
        · exact .base (.frz h)
      · exact .kList h h2
    | obj n h t =>
      cases e1
      obtain ⟨k1, k2, k3, k4, k5⟩ := hk.ask _ _ _ e3
      exact .base (.ins h k1 k2 k3 k4 k5)
    | dk n h t => cases e1
  · cases e

/-! ### methods of built-in values -/
abbrev MR1 := V → List V → Hp → VK → Prop
def MRD (K : PySem.W.Frag) (T : String) (r : MR1) (g : D → List D → Option D) : Prop := ∀ d ds z, g d ds = some z → ∀ B H x, Rep K B H d x → tyV K T x H ∧
  ∀ B' H' xs, (∀ b, B' b → ∃ o, H' b = some o) → Rep K B' H' d x → Reps K B' H' ds xs → ∀ Q : VK, (∀ v H2, Ext H' H2 → Rep K B' H2 z v → Q v H2) → r x xs H' Q
def fBM (g : D → List D → Option D) (fo : FE) (fa : FA) : FE := fun ρ => (fo ρ).bind fun p => (fArgs fa p.2).bind fun q => (g p.1 q.1).map fun z => (z, q.2)
theorem de_bm {K T r g to ta fo fa} (hr : MRD K T r g) (ho : DE K to fo) (ha : DA K ta fa) : DE K (tBM K T r to ta) (fBM g fo fa) := by
  intro ρ d ρ' e F B σ H I Q q
  obtain ⟨⟨x, ρ1⟩, e1, e⟩ := Option.bind_eq_some_iff.mp e
  obtain ⟨⟨ds, ρ2⟩, e2, e⟩ := Option.bind_eq_some_iff.mp e
  obtain ⟨z, e3, e⟩ := Option.map_eq_some_iff.mp e
  cases e
  obtain ⟨as, e4, e5⟩ := args_split e2
  refine ho _ _ _ e1 F B σ H I _ fun v B1 H1 I1 s1 r1 => ?_
  obtain ⟨k1, k2⟩ := hr _ _ _ e3 B1 H1 v r1
  refine ⟨k1, ha _ _ _ e4 F B1 σ H1 I1 _ fun vs B2 H2 I2 s2 r2 => ?_⟩
  exact k2 B2 H2 vs I2.hs (r1.grow s2.grow) (vals_reps r2 e5) _ fun u H3 x r3 => q u B2 H3 (I2.ext x) ((s1.trans s2).trans x.stp) r3
/-- sep.join(xs) -/
def strsD : List D → Option (List Str)
  | [] => some []
  | .str b :: r => (strsD r).map (b :: ·)
  | _ => none
theorem strsD_eq : ∀ {ds : List D} {bs : List Str}, strsD ds = some bs → ds = bs.map D.str
  | [], _, e => by cases e; rfl
  | .str b :: r, _, e => by
    obtain ⟨bs, e1, e2⟩ := Option.map_eq_some_iff.mp e
    subst e2
    rw [strsD_eq e1, List.map_cons]
  | .non :: _, _, e => by cases e
  | .int _ :: _, _, e => by cases e
  | .bl _ :: _, _, e => by cases e
  | .tup _ :: _, _, e => by cases e
  | .tpx _ :: _, _, e => by cases e
  | .lst _ :: _, _, e => by cases e
  | .obj _ _ :: _, _, e => by cases e
  | .fn _ :: _, _, e => by cases e
  | .dk _ :: _, _, e => by cases e
  | .frl _ :: _, _, e => by cases e
  | .ty _ :: _, _, e => by cases e
theorem strsD_map (bs : List Str) : strsD (bs.map D.str) = some bs := by
  induction bs with
  | nil => rfl
  | cons b bs ih => rw [List.map_cons, strsD, ih]; rfl
def rJoinE (K : PySem.W.Frag) : MR1 := fun x xs H Q => ∃ a p, ∃ ys : List Str, x = .str a ∧ xs = [.ref p] ∧ (SqL K H p (ys.map V.str) ∨ SqT K H p (ys.map V.str)) ∧
    (ys.map (·.length)).sum + ys.length * a.length ≤ 16777216 ∧ Q (.str (Txt.join a ys)) H
theorem ma_join {X : Cx} : MtR X "str.join" (rJoinE X.K) := mt_join
def joinOf (a : Str) (ds : List D) : Option D := (strsD ds).bind fun ys => if (ys.map (·.length)).sum + ys.length * a.length ≤ 16777216 then some (.str (Txt.join a ys)) else none
def joinD : D → List D → Option D
  | .str a, [.lst ds] => joinOf a ds
  | .str a, [.tup ds] => joinOf a ds
  | _, _ => none
theorem mrd_join {K} : MRD K "str" (rJoinE K) joinD := by
  intro d ds z e B H x r
  unfold joinD at e
  split at e
  · obtain ⟨ys, e1, e⟩ := Option.bind_eq_some_iff.mp e
    split at e
    · rename_i hz
      cases e
      refine ⟨by rw [r.str_inv]; rfl, fun B' H' xs hs rx rs Q q => ?_⟩
      obtain ⟨v, rfl, h⟩ := rs.one
      obtain ⟨p, vs, rfl, _, h1, h2⟩ := h.lst_inv
      rw [strsD_eq e1] at h2
      have e3 := h2.strs_inv
      subst e3
      exact ⟨_, p, ys, rx.str_inv, rfl, .inl (.inl (.inl h1)), hz, q _ _ (Ext.refl H') (.str _)⟩
    · cases e
  · obtain ⟨ys, e1, e⟩ := Option.bind_eq_some_iff.mp e
    split at e
    · rename_i hz
      cases e
      refine ⟨by rw [r.str_inv]; rfl, fun B' H' xs hs rx rs Q q => ?_⟩
      obtain ⟨v, rfl, h⟩ := rs.one
      obtain ⟨p, vs, rfl, h1, h2⟩ := h.tup_inv
      rw [strsD_eq e1] at h2
      have e3 := h2.strs_inv
      subst e3
      exact ⟨_, p, ys, rx.str_inv, rfl, .inr h1.sq, hz, q _ _ (Ext.refl H') (.str _)⟩
    · cases e
  · cases e
/-- the first place of z -/
def idxS (z : Str) : List Str → Option Nat
  | [] => none
  | y :: r => if y = z then some 0 else (idxS z r).map (· + 1)
theorem idxS_ok {z : Str} : ∀ {ys : List Str} {j : Nat}, idxS z ys = some j → ys[j]? = some z ∧ ∀ m, m < j → ys[m]? ≠ some z
  | y :: r, j, e => by
    unfold idxS at e
    split at e
    · rename_i h
      cases e
      exact ⟨by rw [h]; rfl, fun m hm => by omega⟩
    · rename_i h
      obtain ⟨i, e1, e2⟩ := Option.map_eq_some_iff.mp e
      subst e2
      obtain ⟨h1, h2⟩ := idxS_ok e1
      refine ⟨by simpa using h1, fun m hm => ?_⟩
      cases m with
      | zero => simpa using h
      | succ m => simpa using h2 m (by omega)
def rTupIx (K : PySem.W.Frag) : MR1 := fun x xs H Q => ∃ p, ∃ ys : List Str, ∃ z j, x = .ref p ∧ xs = [.str z] ∧ SqT K H p (ys.map V.str) ∧ ys[j]? = some z ∧ (∀ m, m < j → ys[m]? ≠ some z) ∧ Q (.int (j : Nat)) H
theorem ma_tupIx {X : Cx} : MtR X "tuple.index" (rTupIx X.K) := mt_tup_index
/-- a tuple's method, its object known to have no dict -/
def tTM (r : MR1) (to : TE) (t : TA) : TE := fun σ H Q => to σ H fun x H1 => (∃ a o us, x = .ref a ∧ H1 a = some (.frz o (.tup us)) ∧ o.dict = none) ∧ t σ H1 fun xs H2 => r x xs H2 Q
theorem pe_tm {X : Cx} {o e : Expr} {es : List Expr} {to : TE} {t : TA} {name : Str} {apos cpos : Pos} {id : String} {r : MR1} (pa : PlainAttrs "tuple") (slot : Slot "tuple" name id) (hty : typeOf (.builtin id) = pure (.type "method_descriptor")) (hm : MtR X id r) (ho : PE X o to) (ha : PA X (e :: es) t)
    (hbase : attributeBase o name X.env (eval o X.env) = eval o X.env := by rfl)
    (hfew : ((backTo cpos (starEach (e :: es) X.env)).all (fun x => !x.1) && (backToKw cpos (keywordEach [] X.env)).all (fun x => x.1.isSome)
      && decide ((e :: es).length + ([] : List Keyword).length + (if ([] : List Keyword).isEmpty then 0 else 1) < 30)) = true := by rfl)
    (hline : (apos.endLine == cpos.line) = true := by rfl) (hs : starEach (e :: es) X.env = (false, eval e X.env) :: starEach es X.env := by rfl) (hplain : (backTo cpos (starEach es X.env)).any (·.1) = false := by rfl) :
    PE X (.Call (.Attribute o name apos) (e :: es) [] cpos) (tTM r to t) := by
  refine ⟨fun pins s σ H Q I h => ?_⟩
  refine wpAny_Call_method_late hbase hfew hline rfl (thn (ho.run pins s σ H _ I h) fun v s1 ⟨x, H1, I1, r1, ty, q1⟩ => ?_)
  obtain ⟨a, ob, us, rfl, hf, hd⟩ := ty
  cases r1
  obtain ⟨hg, _, its, _, o2, hg2, hc, _⟩ := (show ObjOk X.prog X.w H1 s1.heap a (.frz ob (.tup us)) from I1.hok a _ hf)
  have eo : o2 = ob := by
    rw [hg] at hg2
    exact (Option.some.inj hg2).symm
  subst eo
  refine ⟨"tuple", id, pa, slot, hty, ⟨_, hg, hc⟩, fun b e => by cases e; exact ⟨_, hg, hd⟩, ?_⟩
  have hA := ha.run cpos pins s1 σ H1 _ I1 q1
  rw [hs] at hA ⊢
  refine Calls.callWith_builtin (by show (false || (backTo cpos (starEach es X.env)).any (·.1)) = false; rw [hplain] <;> rfl) (Calls.evalArgs_plain ?_)
  exact thn hA fun us s2 ⟨vs, H2, I2, r2, q2⟩ => hm pins s2 σ H2 (.ref a) vs (.ref a) us Q I2 rfl r2 q2
def MTD (K : PySem.W.Frag) (r : MR1) (g : List D → List D → Option D) : Prop := ∀ l ds z, g l ds = some z →
  ∀ B' H' x xs, (∀ b, B' b → ∃ o, H' b = some o) → Rep K B' H' (.tpx l) x → Reps K B' H' ds xs → ∀ Q : VK, (∀ v H2, Ext H' H2 → Rep K B' H2 z v → Q v H2) → r x xs H' Q
def fTM (g : List D → List D → Option D) (fo : FE) (fa : FA) : FE := fun ρ => (fo ρ).bind fun p => match p.1 with
  | .tpx l => (fArgs fa p.2).bind fun q => (g l q.1).map fun z => (z, q.2)
  | _ => none
theorem de_tm {K r g to ta fo fa} (hr : MTD K r g) (ho : DE K to fo) (ha : DA K ta fa) : DE K (tTM r to ta) (fTM g fo fa) := by
  intro ρ d ρ' e F B σ H I Q q
  obtain ⟨⟨x, ρ1⟩, e1, e⟩ := Option.bind_eq_some_iff.mp e
  simp only at e
  split at e
  · rename_i l
    obtain ⟨⟨ds, ρ2⟩, e2, e⟩ := Option.bind_eq_some_iff.mp e
    obtain ⟨z, e3, e⟩ := Option.map_eq_some_iff.mp e
    cases e
    obtain ⟨as, e4, e5⟩ := args_split e2
    refine ho _ _ _ e1 F B σ H I _ fun v B1 H1 I1 s1 r1 => ?_
    refine ⟨?_, ha _ _ _ e4 F B1 σ H1 I1 _ fun vs B2 H2 I2 s2 r2 => ?_⟩
    · cases r1 with
      | tpx h t => exact ⟨_, h.2.choose, _, rfl, h.2.choose_spec⟩
    exact hr _ _ _ e3 B2 H2 v vs I2.hs (r1.grow s2.grow) (vals_reps r2 e5) _ fun u H3 x r3 => q u B2 H3 (I2.ext x) ((s1.trans s2).trans x.stp) r3
  · cases e
def tupIxD : List D → List D → Option D
  | ds, [.str z] => (strsD ds).bind fun ys => (idxS z ys).map fun (j : Nat) => .int (j : Int)
  | _, _ => none
theorem mtd_tupIx {K} : MTD K (rTupIx K) tupIxD := by
  intro l ds z e B' H' x xs hs rx rs Q q
  unfold tupIxD at e
  split at e
  · obtain ⟨ys, e1, e⟩ := Option.bind_eq_some_iff.mp e
    obtain ⟨j, e2, e⟩ := Option.map_eq_some_iff.mp e
    subst e
    obtain ⟨v, rfl, h⟩ := rs.one
    obtain ⟨p, vs, rfl, h1, h2⟩ := rx.weak.tup_inv
    rw [strsD_eq e1] at h2
    have e3 := h2.strs_inv
    subst e3
    obtain ⟨k1, k2⟩ := idxS_ok e2
    rw [h.str_inv]
    exact ⟨p, ys, _, j, rfl, rfl, h1.sq, k1, k2, q _ _ (Ext.refl H') (.int _)⟩
  · cases e
/-- seen as any tuple -/
def fWk (f : FE) : FE := fun ρ => (f ρ).bind fun p => match p.1 with
  | .tpx ds => some (.tup ds, p.2)
  | _ => none
theorem de_wk {K te f} (h : DE K te f) : DE K te (fWk f) := by
  intro ρ d ρ' e F B σ H I Q q
  obtain ⟨⟨x, ρ1⟩, e1, e⟩ := Option.bind_eq_some_iff.mp e
  simp only at e
  split at e
  · cases e
    exact h _ _ _ e1 F B σ H I _ fun v B1 H1 I1 s1 r1 => q v B1 H1 I1 s1 r1.weak
  · cases e
/-- tuple(xs), the object known -/
def rTupF (K : PySem.W.Frag) : CR1 := fun xs H Q => ∃ p ys, xs = [.ref p] ∧ SqL K H p ys ∧ ∀ l o, H l = none → o.dict = none → Q (.ref l) (upd H l (.frz o (.tup ys)))
theorem ca_tupF {X : Cx} : CallR X (.type "tuple") (rTupF X.K) := by
  intro pins s σ H xs us Q I r h
  obtain ⟨p, ys, rfl, hq, q⟩ := h
  obtain ⟨u, rfl, rx⟩ := vals1 r
  cases rx
  obtain ⟨its, r', pl, hz⟩ := I.list hq
  have hlen := r'.length
  refine PySem.call_tuple_list pl.isList (fun h' kp => ?_) (by simp only [List.size_toArray] <;> omega)
  have I1 : Inv X pins σ H { s with heap := h' } := I.kept (t' := s.toks) kp
  have I2 : Inv X pins σ (upd H h'.objs.size (.frz { cls := .type "tuple", data := .seq its.toArray } (.tup ys))) { s with heap := h'.push { cls := .type "tuple", data := .seq its.toArray } } :=
    I1.laid (t' := s.toks) (fun b o e => Heap.get?_push_of_some _ e) (Nat.le_refl _) (show ObjOk X.prog X.w _ _ _ (.frz _ (.tup ys)) from ⟨Heap.get?_push_size _ rfl, hz, its, r', PyProof.Rows.IsTup.new _ _⟩)
  exact ⟨.ref h'.objs.size, _, I2, rfl, q _ _ (I1.hok.fresh (Nat.le_refl _)) rfl⟩
def tupFD : List D → Option D
  | [.lst ds] => some (.tpx ds)
  | _ => none
theorem crd_tupF {K} : CRD K (rTupF K) tupFD := by
  intro ds z e B H xs hs r Q q
  unfold tupFD at e
  split at e
  · cases e
    obtain ⟨v, rfl, h⟩ := r.one
    obtain ⟨a, vs, rfl, _, h1, h2⟩ := h.lst_inv
    refine ⟨a, vs, rfl, .inl (.inl h1), fun l o hl ho => ?_⟩
    have x := Ext.new (o := .frz o (.tup vs)) hl
    exact q _ _ x (.tpx ⟨fresh_vis hs hl, o, upd_same, ho⟩ (h2.grow x.grow))
  · cases e
end DL

end

section
set_option maxRecDepth 100000
set_option maxHeartbeats 2000000
/-! The data layer, part N: enumerate of a tuple. -/
namespace DLN
open PySem PyProof.Rows
open PySem.Sem (wp)
theorem meets_new {v : Value} {o : Obj} {H : Heap → Prop} (B : Begins v o H) :
    Meets (Builtin.«enumerate.__new__» ⟨[.type "enumerate", v], []⟩) (fun _ R s => H s.heap ∧
      R (.ok (.ret (.ref (s.heap.push o).objs.size))) { s with heap := (s.heap.push o).push { cls := .type "enumerate", data := .fields #[.none, .bool false, .ref s.heap.objs.size, rawInt 0, .none, .none] } }) :=
  .of_wp fun prog w A R s h => by
    obtain ⟨hp, g, d, tk, os⟩ := s; obtain ⟨h1, h⟩ := h
    have hsub := sub_enumerate
    have q1 : ∀ {A' : Around} {E : Value → Shared → Prop} {Q : Value → Shared → Prop}, Q (.ref hp.objs.size) ⟨hp.push o, g, d, tk, os⟩ → wpAny (model prog w) A' (pyIter v) Q E ⟨hp, g, d, tk, os⟩ :=
      fun q => B.iter prog w _ _ ⟨hp, g, d, tk, os⟩ _ h1 q
    wp_walk using q1
    refine wpAny_stack_any fun st => wpAny_pure ?_
    split
    · rename_i c _ _ _ _ _
      cases (c == Value.type "enumerate")
      · wp_walk using q1
        exact ⟨_, rfl, h⟩
      · wp_walk using q1
        exact ⟨_, rfl, h⟩
    · wp_walk using q1
      exact ⟨_, rfl, h⟩
section
variable {prog : Program} {w : World} {A : Around} {E : Value → Shared → Prop} {s : Shared}
theorem begins {v : Value} {o : Obj} {H : Heap → Prop} {Q : Value → Shared → Prop} (B : Begins v o H) (h1 : H s.heap)
    (h : ∀ h', IsEnum h' (s.heap.objs.size + 1) s.heap.objs.size 0 .none → h'.get? s.heap.objs.size = some o → h'.objs.size = s.heap.objs.size + 2 →
      (∀ b o, s.heap.get? b = some o → h'.get? b = some o) → Q (.ref (s.heap.objs.size + 1)) { s with heap := h' }) :
    wpAny (model prog w) A (call (.type "enumerate") [v]) Q E s := by
  refine callType_new F.called_enumerate (by decide) (F.typeCall_enumerate_1 _) (F.newCall_enumerate_1 _) (fun obj => F.args_object_init_2 obj _) F.entry_enumerate_new
    (meets_new B) ⟨h1, ?_⟩
  have hz : (s.heap.push o).objs.size = s.heap.objs.size + 1 := Heap.size_push ..
  show _ ∧ _
  rw [hz]
  have he : IsEnum ((s.heap.push o).push { cls := .type "enumerate", data := .fields #[.none, .bool false, .ref s.heap.objs.size, rawInt 0, .none, .none] }) (s.heap.objs.size + 1) s.heap.objs.size 0 .none := by
    have := Heap.get?_push_size (s.heap.push o) (o := { cls := .type "enumerate", data := .fields #[.none, .bool false, .ref s.heap.objs.size, rawInt 0, .none, .none] }) rfl
    rw [hz] at this; exact this
  refine ⟨⟨_, he, rfl⟩, h _ he (Heap.get?_push_of_some _ (Heap.get?_push_size _ B.free)) (by rw [Heap.size_push, hz]) fun b o x => Heap.get?_push_of_some _ (Heap.get?_push_of_some _ x)⟩
theorem end_tup {e it t : Addr} {items : Array Value} {j : Nat} {i : Int} {old : Value} {Q : Option Value → Shared → Prop} (hh : A.in1.handled = none) (he : IsEnum s.heap e it i old) (hit : s.heap.IsTupleIter it t j) (ht : s.heap.IsTuple t items) (hx : items[j]? = none)
    (hQ : ∀ h', Heap.ExtBut it s.heap h' → Q none { s with heap := h' }) : wpAny (model prog w) A (pyNext (.ref e)) Q E s := by
  have hT : s.TypeIs (.ref e) "enumerate" := ⟨_, he, rfl⟩
  unfold pyNext
  refine wpAny_bind (wpAny_attempt (wpAny_callSpecial?_slot (name := Str.ofString "__next__") hT F.slot_enumerate_next
    (wpAny_call_entry F.slot_enumerate_next hT F.entry_enumerate_next ?_ (F.args_enumerate_next_1 _))))
  show wpAny _ _ (field (.ref e) 2 >>= _) _ _ _
  refine wpAny_bind (wpAny_field he rfl (x := .ref it) rfl ?_)
  refine wpAny_bind (wpAny_nextOf_tuple_end hh hit ht hx fun h' x he' hx' => ?_)
  obtain ⟨o, ho, hc⟩ := hx'
  refine wpAny_bind (wpAny_isInstance (T := "StopIteration") (b := true) ⟨o, ho, hc⟩ isSubtype_stop ?_)
  exact wpAny_pure (hQ _ he')
end
end DLN
namespace DL
open PySem PySem.Spec L2
/-- the tuple at a, each item in a new pair -/
def Itet (K : PySem.W.Frag) (a : Addr) : It :=
  ⟨fun i H => ∃ (xs : List V) (x : V), SqT K H a xs ∧ xs[i]? = some x, fun i H v H' => ∃ T x, v = .ref T ∧ H T = none ∧ H' = upd H T (.tup [.int (i : Nat), x]) ∧ ∀ xs, SqT K H a xs → xs[i]? = some x, fun i H => ∃ xs : List V, SqT K H a xs ∧ xs.length ≤ i⟩
theorem turn_enumT {P : Program} {w : World} {K : PySem.W.Frag} {elts : List Expr} {kk : Nat} {tpos : Pos} (a e it : Addr) :
    Turn P w K (.Tuple elts kk tpos) (Itet K a) [e, it] e (fun i h => (∃ old, IsEnum h e it ((i : Nat) : Int) old) ∧ h.IsTupleIter it a i ∧ e ≠ it ∧ a ≠ it ∧ a ≠ e) where
  mem := by simp
  obj := fun i h st b hb => by
    obtain ⟨⟨old, he⟩, ⟨o, ho, hc, hd⟩, _⟩ := st
    have e' : b = e ∨ b = it := by simpa using hb
    rcases e' with z | z
    · rw [z]; exact ⟨_, he, fun v q => nomatch q⟩
    · rw [z]; exact ⟨o, ho, fun v q => by rw [hd] at q; cases q⟩
  keep := fun i h h' st k => let ⟨⟨old, he⟩, hi, hne⟩ := st; ⟨⟨old, k e (by simp) _ he⟩, hi.at fun o q => k it (by simp) o q, hne⟩
  item := by
    intro X hP hw hK hc i pins s σ H E I hf st hg
    subst hP hw hK
    obtain ⟨⟨old, he⟩, hit, hne, hai, hae⟩ := st
    obtain ⟨xs, x, hq, hx⟩ := hg
    obtain ⟨its, rv, p, hz⟩ := I.tuple hq
    obtain ⟨u, hu, ru⟩ := rv.get hx
    have hel : e < s.heap.objs.size := Heap.lt_size he
    have hil : it < s.heap.objs.size := by obtain ⟨_, q, _⟩ := hit; exact Heap.lt_size q
    have hlt : i < its.toArray.size := by
      rw [List.size_toArray]
      exact (List.getElem?_eq_some_iff.mp hu).1
    have hh : X.A.in1.handled = none := by simp [I.ok.hd hc]
    refine wpAny_pyNext_enum_itemD (Draws.tuple (prog := X.prog) (w := X.w) (A := X.A.in1) hh it a hai its.toArray) he ⟨hit, p⟩ hlt hne (by simp [hne, Ne.symm hae]) fun y h' tk hy ho hst hT hsz hk => ?_
    have ey : y = u := by
      have h1 : its[i]? = some y := by simpa using hy
      rw [hu] at h1
      exact (Option.some.inj h1).symm
    subst ey
    refine ⟨_, rfl, wpAny_letOwnedTupleGo_enum (s := { s with heap := h', toks := tk + 1 }) ho fun h'' he' sb => ?_⟩
    have hT2 : h''.get? s.heap.objs.size = some { cls := .type "tuple", data := .seq #[.int i tk, y] } := (sb.2 _ (Nat.ne_of_gt hel)).trans hT
    have new : ObjOk X.prog X.w (upd H s.heap.objs.size (.tup [.int (i : Nat), x])) h'' s.heap.objs.size (.tup [.int (i : Nat), x]) :=
      ⟨by show 2 ≤ sizeLine; decide, [.int i tk, y], .cons ⟨_, rfl⟩ (.cons ru .nil), ⟨_, hT2, rfl, _, rfl⟩⟩
    have I1 : Inv X pins σ (upd H s.heap.objs.size (.tup [.int (i : Nat), x])) { s with heap := h'', toks := tk + 1 } :=
      I.turnedNew (ch := [e, it]) (fun b ob hb q => (sb.2 b (fun z => hb (by simp [z]))).trans (hk b ob (fun z => hb (by simp [z])) (fun z => hb (by simp [z])) q)) hf (Nat.le_refl _) new
    refine ⟨.ref s.heap.objs.size, _, I1, rfl, ⟨_, x, rfl, I.hok.fresh (Nat.le_refl _), rfl, fun ys hy => by rw [I.tuple_inj hy hq]; exact hx⟩, ⟨⟨y, ?_⟩, hst.1.at fun o q => (sb.2 it (Ne.symm hne)).trans q, hne, hai, hae⟩, fun b hb => ?_⟩
    · have e1 : ((i + 1 : Nat) : Int) = (i : Int) + 1 := by omega
      rw [e1]; exact he'
    · have hb' : b < s.heap.objs.size := by
        have e' : b = e ∨ b = it := by simpa using hb
        rcases e' with z | z
        · rw [z]; exact hel
        · rw [z]; exact hil
      rw [upd_ne (Nat.ne_of_lt hb')]
      exact (hf b hb).1
  done := by
    intro X hP hw hK hc i pins s σ H E I hf st hg
    subst hP hw hK
    obtain ⟨⟨old, he⟩, hit, hne, hai, hae⟩ := st
    obtain ⟨xs, hq, hx⟩ := hg
    obtain ⟨its, rv, p, hz⟩ := I.tuple hq
    obtain ⟨f0, f1, f2, f3, f4, f5⟩ := hf it (by simp)
    have hl := rv.length
    have hh : X.A.in1.handled = none := by simp [I.ok.hd hc]
    have hsz : its.toArray.size ≤ i := by rw [List.size_toArray]; omega
    refine DLN.end_tup hh he hit (show s.heap.IsTuple a its.toArray from p) (by simp; rw [List.size_toArray] at hsz; exact hsz) fun h' eb => ⟨rfl, I.turned (t' := s.toks) (fun b o hb q => eb b o hb q) f0 f1 f3 f4 f5⟩
  self := fun A i s Q E st h => let ⟨⟨_, he⟩, _⟩ := st; wpAny_pyIter_enum he h
def iEnumT (K : PySem.W.Frag) (ta : TA) : TI := fun σ H R => ta σ H fun vs H1 => ∃ a xs, vs = [.ref a] ∧ SqT K H1 a xs ∧ R (Itet K a) H1
theorem pi_enumT {X : Cx} {e : Expr} {ta : TA} {p pos tpos : Pos} {elts : List Expr} {kk : Nat} (hg : Gl X "enumerate") (hm : X.mg "enumerate" = none) (ha : PA X [e] ta) (hs : starEach [e] X.env = [(false, eval e X.env)] := by rfl) :
    PI X (.Tuple elts kk tpos) (.Call (.Name "enumerate" p) [e] [] pos) (iEnumT X.K ta) := by
  refine ⟨fun pins s σ H R I h => ?_⟩
  refine PyProof.Rows.Call_ (ld_blt I hg hm PyProof.Rows.boot_enumerate (PyProof.Rows.callWith_type1 (thn (ha.run pos pins s σ H _ I h) fun us s1 ⟨vs, H1, I1, r1, q1⟩ => ?_) hs rfl))
  obtain ⟨a, xs, ex, hq, q⟩ := q1
  subst ex
  cases r1 with
  | cons r rr =>
    cases rr
    cases r
    obtain ⟨its, rv, p', hz⟩ := I1.tuple hq
    have hal : a < s1.heap.objs.size := by
      obtain ⟨o, ho, _⟩ := p'
      exact Heap.lt_size ho
    refine DLN.begins (begins_tuple a its.toArray) p' fun h' he hit hsz hk => wpAny_pyIter_enum he ?_
    have I2 : Inv X pins σ H1 { s1 with heap := h' } := I1.kept (t' := s1.toks) hk
    refine ⟨s1.heap.objs.size + 1, [s1.heap.objs.size + 1, s1.heap.objs.size], _, _, H1, rfl, I2, turn_enumT a (s1.heap.objs.size + 1) s1.heap.objs.size, ⟨⟨.none, he⟩, ⟨_, hit, rfl, rfl⟩, Nat.succ_ne_self _, Nat.ne_of_lt hal, Nat.ne_of_lt (Nat.lt_succ_of_lt hal)⟩, fun b hb => ?_, q⟩
    have e' : b = s1.heap.objs.size + 1 ∨ b = s1.heap.objs.size := by simpa using hb
    have hle : s1.heap.objs.size ≤ b := by
      rcases e' with z | z
      · rw [z]; exact Nat.le_add_right _ _
      · rw [z]; exact Nat.le_refl _
    exact I1.fpOk hle (I1.hok.fresh hle)
/-- its items: pairs -/
def enumD (ds : List D) : List D := (List.range ds.length).map fun (i : Nat) => .tup [.int (i : Int), ds.getD i .non]
theorem iter_enumT {K B H a vs ds} (h : VT K B H a vs) (r : Reps K B H ds vs) : Iter K (Itet K a) (enumD ds) B H := fun B' H' g hs => by
  have h' := g.vt h
  have r' := r.grow g
  have len := r'.length
  refine ⟨fun i d e => ?_, fun i hi => ⟨vs, h'.sq, by simpa [enumD, len] using hi⟩⟩
  have hi : i < ds.length := by
    by_cases hi : i < ds.length
    · exact hi
    · unfold enumD at e
      rw [List.getElem?_map, List.getElem?_eq_none (by simp; omega)] at e
      cases e
  have ed : d = .tup [.int (i : Int), ds[i]] := by
    unfold enumD at e
    rw [List.getElem?_map, List.getElem?_range hi] at e
    have e2 := (Option.some.inj e).symm
    rw [e2]
    show D.tup [D.int ↑i, ds.getD i D.non] = D.tup [D.int ↑i, ds[i]]
    rw [List.getD_eq_getElem?_getD, List.getElem?_eq_getElem hi]
    rfl
  obtain ⟨u, hu, ru⟩ := r'.get (List.getElem?_eq_getElem hi)
  refine ⟨⟨vs, u, h'.sq, hu⟩, fun x H3 y => ?_⟩
  obtain ⟨T, z, ex, hT, eH, hz⟩ := y
  have ez := hz vs h'.sq
  rw [hu] at ez
  cases ez
  subst ex eH ed
  have x := Ext.new (o := .tup [V.int (i : Nat), u]) hT
  exact ⟨x, .tup (.inl ⟨fresh_vis hs hT, .inl upd_same⟩) (.cons (.int _) (.cons (ru.grow x.grow) .nil))⟩
def fEnumT (f : FE) : En → Option (List D × En) := fun ρ => (f ρ).bind fun p => match p.1 with
  | .tup ds => some (enumD ds, p.2)
  | _ => none
theorem di_enumT {K te f} (h : DE K te f) : DI K (iEnumT K (tCons te tNil)) (fEnumT f) := by
  intro ρ ds ρ' e F B σ H I R q
  obtain ⟨⟨d, ρ1⟩, e1, e⟩ := Option.bind_eq_some_iff.mp e
  simp only at e
  split at e
  · cases e
    refine h _ _ _ e1 F B σ H I _ fun v B1 H1 I1 s1 r => ?_
    obtain ⟨a, vs, rfl, h1, h2⟩ := r.tup_inv
    exact ⟨a, vs, rfl, h1.sq, q _ B1 H1 I1 s1 (iter_enumT h1 h2)⟩
  · cases e
end DL

end

section
set_option maxRecDepth 100000
set_option maxHeartbeats 1000000
/-! The data layer, part L: comprehensions of two for's. -/
namespace DL
open PySem PySem.Spec L2

/-- between two turns, over a state τ that has what is one's own where σ has it -/
structure LcI (K : PySem.W.Frag) (F : Fr) (σ : L2.St) (ρ1 : En) (B1 : Hid) (H1 : Hp) (D0 : Addr) (acc : List D) (ρi : En) (τ : L2.St) (Bi : Hid) (H' : Hp) (vacc : List V) : Prop where
  si : SI K F Bi ρi τ H'
  own : ∀ (i : Nat) (l : Bool) (d : D), ρi[i]? = some (some (Sl.ow l d)) → (∃ d', ρ1[i]? = some (some (Sl.ow l d'))) ∧ τ[i]? = σ[i]?
  hd : Bi D0
  at_ : H' D0 = some (.lst vacc)
  rep : Reps K Bi H' acc vacc
  gr : Grow B1 H1 Bi H'
  kp : ∀ b o, H1 b = some o → NotOw ρ1 σ b → H' b = some o
  th : ∀ b o, H1 b = some o → ∃ o', H' b = some o'
  hi : ∀ b, B1 b → NotOw ρ1 σ b → Bi b
section
variable {K : PySem.W.Frag} {F : Fr} {σ τ σ2 τ5 : L2.St} {ρ1 ρi ρ2 ρ4 ρ5 : En} {B1 Bi B4 : Hid} {H1 H' H3 H4 : Hp} {D0 : Addr} {acc : List D} {vacc : List V}
theorem nD_of (I1 : SI K F B1 ρ1 σ H1) (hD : H1 D0 = none) : NotOw ρ1 σ D0 := fun j l d z1 z2 => by
  obtain ⟨a, h1, _, h3, _⟩ := I1.ow j l d z1
  rw [h1] at z2; cases z2
  obtain ⟨o, e⟩ := h3.there
  rw [hD] at e; cases e
theorem LcI.step (L : LcI K F σ ρ1 B1 H1 D0 acc ρi τ Bi H' vacc) (I1 : SI K F B1 ρ1 σ H1) (hD : H1 D0 = none) (x3 : Ext H' H3)
    (sub : ∀ (i : Nat) (l : Bool) (d : D), ρ2[i]? = some (some (Sl.ow l d)) → (∃ d', ρi[i]? = some (some (Sl.ow l d'))) ∧ σ2[i]? = τ[i]?) (s : Stp ρ2 ρ4 σ2 Bi H3 B4 H4)
    (I5 : SI K F B4 ρ5 τ5 H4) (sub5 : ∀ (i : Nat) (l : Bool) (d : D), ρ5[i]? = some (some (Sl.ow l d)) → (∃ d', ρ4[i]? = some (some (Sl.ow l d'))) ∧ τ5[i]? = σ2[i]?) :
    H4 D0 = some (.lst vacc) ∧ LcI K F σ ρ1 B1 H1 D0 acc ρ5 τ5 B4 H4 vacc ∧ ∀ (y : D) (v : V), Rep K B4 H4 y v → LcI K F σ ρ1 B1 H1 D0 (acc ++ [y]) ρ5 τ5 B4 (upd H4 D0 (.lst (vacc ++ [v]))) (vacc ++ [v]) := by
  have nD1 := nD_of I1 hD
  have not2 : ∀ b, NotOw ρ1 σ b → NotOw ρ2 σ2 b := fun b n j l d z1 z2 => by
    obtain ⟨⟨d', z3⟩, e1⟩ := sub j l d z1
    obtain ⟨⟨d1, z4⟩, e2⟩ := L.own j l d' z3
    exact n j l d1 z4 (by rw [← e2, ← e1]; exact z2)
  have nD2 := not2 _ nD1
  have hD4 : H4 D0 = some (.lst vacc) := s.keep _ _ (x3 _ _ L.at_) nD2
  have bD4 : B4 D0 := s.hid _ L.hd nD2
  have g4 : Grow Bi H' B4 H4 := x3.grow.trans s.grow
  have own5 : ∀ (i : Nat) (l : Bool) (d : D), ρ5[i]? = some (some (Sl.ow l d)) → (∃ d', ρ1[i]? = some (some (Sl.ow l d'))) ∧ τ5[i]? = σ[i]? := fun i l d z => by
    obtain ⟨⟨d1, z1⟩, e1⟩ := sub5 i l d z
    obtain ⟨d2, z2⟩ := s.sub i l d1 z1
    obtain ⟨⟨d3, z3⟩, e3⟩ := sub i l d2 z2
    obtain ⟨z4, e4⟩ := L.own i l d3 z3
    exact ⟨z4, e1.trans (e3.trans e4)⟩
  have base : LcI K F σ ρ1 B1 H1 D0 acc ρ5 τ5 B4 H4 vacc := {
    si := I5
    own := own5
    hd := bD4
    at_ := hD4
    rep := L.rep.grow g4
    gr := L.gr.trans g4
    kp := fun b o e n => s.keep b o (x3 _ _ (L.kp b o e n)) (not2 b n)
    th := fun b o e => by
      obtain ⟨o1, e1⟩ := L.th b o e
      exact s.there b o1 (x3 _ _ e1)
    hi := fun b h n => s.hid b (L.hi b h n) (not2 b n) }
  refine ⟨hD4, base, fun y v r => ?_⟩
  have gu : Grow B4 H4 B4 (upd H4 D0 (.lst (vacc ++ [v]))) := fun b o nb e => ⟨nb, by rw [upd_ne (fun z => nb (by rw [z]; exact bD4))]; exact e⟩
  refine { si := ?_, own := own5, hd := bD4, at_ := upd_same, rep := (base.rep.grow gu).append (.cons (r.grow gu) .nil), gr := base.gr.trans gu, kp := fun b o e n => ?_, th := fun b o e => ?_, hi := base.hi }
  · refine ⟨I5.len, fun i d e => ?_, fun i l d e => ?_, I5.ap, fun b o e n => ?_, I5.hid, fun b h => ?_, I5.b0, I5.aB⟩
    · obtain ⟨u, h1, h2⟩ := I5.sh i d e
      exact ⟨u, h1, h2.grow gu⟩
    · obtain ⟨a, h1, h2, h3, h4⟩ := I5.ow i l d e
      refine ⟨a, h1, h2, h3.grow gu fun o e2 => ?_, h4⟩
      have ne : a ≠ D0 := fun z => by
        obtain ⟨⟨d1, e1⟩, e3⟩ := own5 i l d e
        exact nD1 i l d1 e1 (by rw [← e3, h1, z])
      rw [upd_ne ne]; exact e2
    · have ne : b ≠ D0 := fun z => by
        have e3 := I1.fr b o e n
        rw [z, hD] at e3; cases e3
      rw [upd_ne ne]; exact I5.fr b o e n
    · by_cases ne : b = D0
      · exact ⟨_, by rw [ne]; exact upd_same⟩
      · obtain ⟨o, e⟩ := I5.hs b h
        exact ⟨o, by rw [upd_ne ne]; exact e⟩
  · have ne : b ≠ D0 := fun z => by rw [z, hD] at e; cases e
    rw [upd_ne ne]; exact base.kp b o e n
  · have ne : b ≠ D0 := fun z => by rw [z, hD] at e; cases e
    obtain ⟨o', e'⟩ := base.th b o e
    exact ⟨o', by rw [upd_ne ne]; exact e'⟩
end
/-- the items of the second for, item by item of the first -/
def lc2Go (vs : List Nat) (p : D → En → Option En) (ft : FT) (vs1 : List Nat) (fi1 : En → Option (List D × En)) (p1 : D → En → Option En) (ft1 : FT) (fe : FE) : List D → List D → En → Option (List D × En)
  | [], acc, ρ => some (acc, ρ)
  | x :: xs, acc, ρ => (p x ρ).bind fun ρ2 => (ft ρ2).bind fun q =>
    if q.1 = true then (fi1 q.2).bind fun r => (lcGo vs1 p1 ft1 fe r.1 acc (wipeE r.2 vs1)).bind fun s => lc2Go vs p ft vs1 fi1 p1 ft1 fe xs s.1 (wipeE s.2 vs)
    else lc2Go vs p ft vs1 fi1 p1 ft1 fe xs acc (wipeE q.2 vs)
def fLc2 (vs : List Nat) (fi : En → Option (List D × En)) (p : D → En → Option En) (ft : FT) (vs1 : List Nat) (fi1 : En → Option (List D × En)) (p1 : D → En → Option En) (ft1 : FT) (fe : FE) : En → Option (List D × En) :=
  fun ρ => (fi ρ).bind fun q => lc2Go vs p ft vs1 fi1 p1 ft1 fe q.1 [] (wipeE q.2 vs)
theorem wipe_look {σ σ' : L2.St} {vs : List Nat} (w : wipe σ' vs = wipe σ vs) {j : Nat} (nj : j ∉ vs) : σ'[j]? = σ[j]? := by
  have : (wipe σ' vs)[j]? = (wipe σ vs)[j]? := by rw [w]
  rw [wipe_keep nj, wipe_keep nj] at this
  exact this
theorem wipe_sub {σ : L2.St} {vs vs1 : List Nat} (hv : ∀ j ∈ vs1, j ∈ vs) : wipe (wipe σ vs1) vs = wipe σ vs := by
  refine List.ext_getElem? fun j => ?_
  by_cases hj : j ∈ vs
  · have h1 := wipe_wipe (σ := wipe σ vs1) (vs := vs)
    have gone : ∀ (τ : L2.St), (wipe τ vs)[j]? = if j < τ.length then some none else none := by
      intro τ
      have key : ∀ ws : List Nat, j ∈ ws → (wipe τ ws)[j]? = if j < τ.length then some none else none := by
        intro ws
        induction ws with
        | nil => intro h; cases h
        | cons w ws ih =>
          intro h
          unfold wipe
          by_cases e : w = j
          · subst e
            by_cases hl : w < τ.length
            · rw [List.getElem?_set_self (by rw [wipe_length]; exact hl), if_pos hl]
            · rw [List.getElem?_eq_none (by rw [List.length_set, wipe_length]; omega), if_neg hl]
          · rw [List.getElem?_set_ne e]
            exact ih ((List.mem_cons.mp h).resolve_left fun q => e q.symm)
      exact key vs hj
    rw [gone, gone, wipe_length]
  · rw [wipe_keep hj, wipe_keep hj, wipe_keep fun h => hj (hv j h)]
theorem dn_lc2 {K wi g tt wi1 g1 tt1 te fi fi1 is is1 p p1 ft ft1 fe} {vs vs1 : List Nat} (hi : DI K wi fi) (hg : DG K is g p) (hv : ∀ i ∈ is, i ∈ vs) (ht : DT K tt ft) (hi1 : DI K wi1 fi1) (hg1 : DG K is1 g1 p1) (hv1 : ∀ i ∈ is1, i ∈ vs1) (hvv : ∀ i ∈ vs1, i ∈ vs)
    (ht1 : DT K tt1 ft1) (he : DE K te fe) (hp : Tame p) (hp1 : Tame p1) : DN K (tLc2 wi g tt wi1 g1 tt1 te vs vs1) (fLc2 vs fi p ft vs1 fi1 p1 ft1 fe) := by
  intro ρ ds ρ' e F B σ H I Q q
  obtain ⟨⟨items, ρ1⟩, e1, e⟩ := Option.bind_eq_some_iff.mp e
  refine hi _ _ _ e1 F B σ H I _ fun J B1 H1 I1 s1 it D0 hD => ?_
  obtain ⟨f1, f2, f3⟩ := I1.fresh hD
  have nD1 := nD_of I1 hD
  have x0 : Ext H1 (upd H1 D0 (.lst [])) := Ext.new hD
  have I2 := I1.hide x0 hD ⟨_, upd_same⟩
  refine ⟨fun i m H' => m = items.length - i ∧ i ≤ items.length ∧ ∃ acc ρi Bi vacc, lc2Go vs p ft vs1 fi1 p1 ft1 fe (items.drop i) acc ρi = some (ds, ρ') ∧ LcI K F σ ρ1 B1 H1 D0 acc ρi (wipe σ vs) Bi H' vacc ∧ ∀ j ∈ vs, ρi[j]? = none ∨ ρi[j]? = some none,
    ⟨items.length, by simp, Nat.zero_le _, [], wipeE ρ1 vs, hide B1 D0, [], ?_⟩, ?_⟩
  · refine ⟨by rw [List.drop_zero]; exact e, ⟨I2.wiped wipe_wipe, fun i l d z => ?_, .inr rfl, upd_same, .nil, .hide x0 hD, fun b o z _ => x0 b o z, fun b o z => ⟨o, x0 b o z⟩, fun b h _ => .inl h⟩, fun j hj => none_wipe hj⟩
    obtain ⟨z1, z2⟩ := wipeE_some z
    exact ⟨⟨d, z1⟩, wipe_keep z2⟩
  · rintro i m H' ⟨rfl, hi', acc, ρi, Bi, vacc, go, L, non⟩
    have itH := it Bi H' L.gr L.si.hs
    have nin : ∀ {j : Nat} {x : Sl}, ρi[j]? = some (some x) → j ∉ vs := fun {j x} z hj => by
      rcases non j hj with n | n <;> (rw [n] at z; cases z)
    by_cases hlt : i < items.length
    · have hd : items.drop i = items[i] :: items.drop (i + 1) := (List.drop_eq_getElem_cons hlt)
      rw [hd] at go
      unfold lc2Go at go
      obtain ⟨ρ2, e2, go⟩ := Option.bind_eq_some_iff.mp go
      obtain ⟨⟨b, ρ3⟩, e3, go⟩ := Option.bind_eq_some_iff.mp go
      obtain ⟨jgo, jy⟩ := itH.1 i items[i] (List.getElem?_eq_getElem hlt)
      refine .inr ⟨jgo, _, fun H'' z => ⟨items.length - (i + 1), by omega, z⟩, fun x H3 y => ?_⟩
      obtain ⟨x3, rx⟩ := jy x H3 y
      have I3 := L.si.ext x3
      refine hg _ _ _ e2 F Bi (wipe σ vs) H3 x I3 rx _ fun σ2 I4 w4 => ?_
      have w5 : wipe σ2 vs = wipe σ vs := (w4 vs hv).trans wipe_wipe
      refine ⟨w5, ?_⟩
      have sub2 : ∀ (i : Nat) (l : Bool) (d : D), ρ2[i]? = some (some (Sl.ow l d)) → (∃ d', ρi[i]? = some (some (Sl.ow l d'))) ∧ σ2[i]? = (wipe σ vs)[i]? := fun j l d z => by
        have z2 := hp _ _ _ e2 j l d z
        refine ⟨⟨d, z2⟩, ?_⟩
        rw [wipe_keep (nin z2)]
        exact wipe_look w5 (nin z2)
      refine ht _ _ _ e3 F Bi σ2 H3 I4 _ fun B5 H5 I5 s5 => ?_
      by_cases hb : b = true
      · rw [if_pos hb] at go ⊢
        obtain ⟨⟨its1, ρ4⟩, e4, go⟩ := Option.bind_eq_some_iff.mp go
        obtain ⟨⟨acc2, ρ9⟩, e9, go⟩ := Option.bind_eq_some_iff.mp go
        refine hi1 _ _ _ e4 F B5 σ2 H5 I5 _ fun J1 B6 H6 I6 s6 it1 => ?_
        obtain ⟨_, L6, _⟩ := L.step (ρ5 := wipeE ρ4 vs1) (τ5 := wipe σ2 vs1) I1 hD x3 sub2 (s5.trans s6) (I6.wiped wipe_wipe) fun i l d z => by
          obtain ⟨z1, z2⟩ := wipeE_some z
          exact ⟨⟨d, z1⟩, wipe_keep z2⟩
        have own6 : ∀ (i : Nat) (l : Bool) (d : D), (wipeE ρ4 vs1)[i]? = some (some (Sl.ow l d)) → i ∉ vs := fun i l d z => by
          obtain ⟨z1, z2⟩ := wipeE_some z
          obtain ⟨d2, z3⟩ := (s5.trans s6).sub i l d z1
          obtain ⟨⟨d3, z4⟩, _⟩ := sub2 i l d2 z3
          exact nin z4
        refine ⟨fun j k H'' => k = its1.length - j ∧ j ≤ its1.length ∧ ∃ acc1 ρj Bj vacc1, lcGo vs1 p1 ft1 fe (its1.drop j) acc1 ρj = some (acc2, ρ9) ∧ LcI K F σ ρ1 B1 H1 D0 acc1 ρj (wipe σ2 vs1) Bj H'' vacc1 ∧ Grow B6 H6 Bj H'' ∧ (∀ j ∈ vs1, ρj[j]? = none ∨ ρj[j]? = some none) ∧ ∀ (i : Nat) (l : Bool) (d : D), ρj[i]? = some (some (Sl.ow l d)) → i ∉ vs,
          ⟨its1.length, by simp, Nat.zero_le _, acc, wipeE ρ4 vs1, B6, vacc, by rw [List.drop_zero]; exact e9, L6, .refl _ _, fun j hj => none_wipe hj, own6⟩, ?_⟩
        rintro j k H7 ⟨rfl, hj, acc1, ρj, Bj, vacc1, go1, L7, gr7, non1, own7⟩
        have itH1 := it1 Bj H7 gr7 L7.si.hs
        have nin1 : ∀ {j : Nat} {x : Sl}, ρj[j]? = some (some x) → j ∉ vs1 := fun {j x} z hj => by
          rcases non1 j hj with n | n <;> (rw [n] at z; cases z)
        by_cases hlt1 : j < its1.length
        · have hd1 : its1.drop j = its1[j] :: its1.drop (j + 1) := (List.drop_eq_getElem_cons hlt1)
          rw [hd1] at go1
          unfold lcGo at go1
          obtain ⟨ρ10, e10, go1⟩ := Option.bind_eq_some_iff.mp go1
          obtain ⟨⟨b1, ρ11⟩, e11, go1⟩ := Option.bind_eq_some_iff.mp go1
          obtain ⟨jgo1, jy1⟩ := itH1.1 j its1[j] (List.getElem?_eq_getElem hlt1)
          refine .inr ⟨jgo1, _, fun H'' z => ⟨its1.length - (j + 1), by omega, z⟩, fun x H8 y => ?_⟩
          obtain ⟨x8, rx8⟩ := jy1 x H8 y
          have I8 := L7.si.ext x8
          refine hg1 _ _ _ e10 F Bj (wipe σ2 vs1) H8 x I8 rx8 _ fun σ3 I9 w9 => ?_
          have w10 : wipe σ3 vs1 = wipe σ2 vs1 := (w9 vs1 hv1).trans wipe_wipe
          refine ⟨w10, ?_⟩
          have sub3 : ∀ (i : Nat) (l : Bool) (d : D), ρ10[i]? = some (some (Sl.ow l d)) → (∃ d', ρj[i]? = some (some (Sl.ow l d'))) ∧ σ3[i]? = (wipe σ2 vs1)[i]? := fun j l d z => by
            have z2 := hp1 _ _ _ e10 j l d z
            refine ⟨⟨d, z2⟩, ?_⟩
            rw [wipe_keep (nin1 z2)]
            exact wipe_look w10 (nin1 z2)
          have fin : ∀ {ρx : En} (i : Nat) (l : Bool) (d : D), (wipeE ρx vs1)[i]? = some (some (Sl.ow l d)) → (∃ d', ρx[i]? = some (some (Sl.ow l d'))) ∧ (wipe σ2 vs1)[i]? = σ3[i]? := fun i l d z => by
            obtain ⟨z1, z2⟩ := wipeE_some z
            exact ⟨⟨d, z1⟩, by rw [wipe_keep z2]; exact (wipe_look w10 z2).symm⟩
          have finO : ∀ {ρx : En} {Bx : Hid} {Hx : Hp}, Stp ρ10 ρx σ3 Bj H8 Bx Hx → ∀ (i : Nat) (l : Bool) (d : D), (wipeE ρx vs1)[i]? = some (some (Sl.ow l d)) → i ∉ vs := fun {ρx Bx Hx} s i l d z => by
            obtain ⟨z1, z2⟩ := wipeE_some z
            obtain ⟨d2, z3⟩ := s.sub i l d z1
            obtain ⟨⟨d3, z4⟩, _⟩ := sub3 i l d2 z3
            exact own7 i l d3 z4
          refine ht1 _ _ _ e11 F Bj σ3 H8 I9 _ fun B12 H12 I12 s12 => ?_
          by_cases hb1 : b1 = true
          · rw [if_pos hb1] at go1 ⊢
            obtain ⟨⟨y, ρ13⟩, e13, go1⟩ := Option.bind_eq_some_iff.mp go1
            simp only at go1
            split at go1
            · rename_i hacc
              refine he _ _ _ e13 F B12 σ3 H12 I12 _ fun v B13 H13 I13 s13 r13 => ?_
              have st := s12.trans s13
              obtain ⟨a1, _, a3⟩ := L7.step (ρ5 := wipeE ρ13 vs1) (τ5 := wipe σ2 vs1) I1 hD x8 sub3 st (I13.wiped (by rw [wipe_wipe, w10])) fin
              have nD3 : NotOw ρ10 σ3 D0 := fun j l d z1 z2 => by
                obtain ⟨⟨d', z3⟩, e1⟩ := sub3 j l d z1
                obtain ⟨⟨d1, z4⟩, e2⟩ := L7.own j l d' z3
                exact nD1 j l d1 z4 (by rw [← e2, ← e1]; exact z2)
              have bD13 : B13 D0 := st.hid _ L7.hd nD3
              have gu : Grow B13 H13 B13 (upd H13 D0 (.lst (vacc1 ++ [v]))) := fun b o nb e => ⟨nb, by rw [upd_ne (fun z => nb (by rw [z]; exact bD13))]; exact e⟩
              exact ⟨vacc1, a1, szl' (by rw [← L7.rep.length]; exact hacc), rfl, hlt1, acc1 ++ [y], wipeE ρ13 vs1, B13, _, go1, a3 y v r13, ((gr7.trans x8.grow).trans st.grow).trans gu, fun j hj => none_wipe hj, finO st⟩
            · cases go1
          · rw [if_neg hb1] at go1 ⊢
            obtain ⟨_, a2, _⟩ := L7.step (ρ5 := wipeE ρ11 vs1) (τ5 := wipe σ2 vs1) I1 hD x8 sub3 s12 (I12.wiped (by rw [wipe_wipe, w10])) fin
            exact ⟨rfl, hlt1, acc1, wipeE ρ11 vs1, B12, _, go1, a2, (gr7.trans x8.grow).trans s12.grow, fun j hj => none_wipe hj, finO s12⟩
        · have hie : j = its1.length := by omega
          subst hie
          rw [List.drop_length] at go1
          cases go1
          refine .inl ⟨itH1.2 _ (Nat.le_refl _), ?_⟩
          obtain ⟨_, a2, _⟩ := L7.step (ρ2 := ρ9) (ρ4 := ρ9) (σ2 := wipe σ2 vs1) (ρ5 := wipeE ρ9 vs) (τ5 := wipe σ vs) I1 hD (Ext.refl _) (fun i l d z => ⟨⟨d, z⟩, rfl⟩) Stp.refl (L7.si.wiped (by rw [wipe_wipe, wipe_sub hvv, w5])) fun i l d z => by
            obtain ⟨z1, z2⟩ := wipeE_some z
            refine ⟨⟨d, z1⟩, ?_⟩
            rw [wipe_keep z2, wipe_keep fun h => z2 (hvv i h)]
            exact (wipe_look w5 z2).symm
          exact ⟨rfl, hlt, acc2, wipeE ρ9 vs, Bj, _, go, a2, fun j hj => none_wipe hj⟩
      · rw [if_neg hb] at go ⊢
        obtain ⟨_, a2, _⟩ := L.step (ρ5 := wipeE ρ3 vs) (τ5 := wipe σ vs) I1 hD x3 sub2 s5 (I5.wiped (by rw [wipe_wipe, w5])) fun i l d z => by
          obtain ⟨z1, z2⟩ := wipeE_some z
          exact ⟨⟨d, z1⟩, by rw [wipe_keep z2]; exact (wipe_look w5 z2).symm⟩
        exact ⟨rfl, hlt, acc, wipeE ρ3 vs, B5, _, go, a2, fun j hj => none_wipe hj⟩
    · have hie : i = items.length := by omega
      subst hie
      rw [List.drop_length] at go
      cases go
      refine .inl ⟨itH.2 _ (Nat.le_refl _), ?_⟩
      have I9 : SI K F Bi (wipeE ρ' vs) σ H' := L.si.wiped wipe_wipe.symm
      have e9 : wipeE ρ' vs = ρ' := by
        refine List.ext_getElem? fun j => ?_
        by_cases hj : j ∈ vs
        · have hlen := wipeE_length ρ' vs
          rcases none_wipe (ρ := ρ') hj with n | n
          · rw [n]
            have := List.getElem?_eq_none_iff.mp n
            exact (List.getElem?_eq_none (by omega)).symm
          · rw [n]
            rcases non j hj with n' | n'
            · have h1 := List.getElem?_eq_none_iff.mp n'
              have h2 := (List.getElem?_eq_some_iff.mp n).1
              omega
            · exact n'.symm
        · have key : ∀ ws : List Nat, j ∉ ws → (wipeE ρ' ws)[j]? = ρ'[j]? := by
            intro ws
            induction ws with
            | nil => intro _; rfl
            | cons u us ih =>
              intro h
              simp only [List.mem_cons, not_or] at h
              unfold wipeE
              rw [List.getElem?_set_ne (Ne.symm h.1), ih h.2]
          exact key vs hj
      rw [e9] at I9
      refine q D0 vacc Bi H' (s1.trans ⟨L.gr, L.kp, fun i l d z => (L.own i l d z).1, L.th, L.hi⟩) ⟨I9, L.hd, f2, f1, fun j l d z1 z2 => ?_, L.at_, L.rep, ?_⟩
      · obtain ⟨⟨d1, z3⟩, _⟩ := L.own j l d z1
        exact nD1 j l d1 z3 z2
      · cases e : H D0 with
        | none => rfl
        | some o =>
          obtain ⟨o', e'⟩ := s1.there D0 o e
          rw [hD] at e'; cases e'
end DL

end

section
set_option maxRecDepth 100000
set_option maxHeartbeats 1000000
/-! The data layer, part I: f-strings, len(set(xs)), index and count of bools, chained comparisons, displays of dicts, calls of a def that a slot holds. -/
namespace DL
open PySem PySem.Spec L2

/-! ### f-strings -/
def fmtD : D → Option Str
  | .str y => if y.length ≤ 1000000 then some y else none
  | .int i => if i.natAbs.log2 < 1920 then some (toString i) else none
  | _ => none
def fFmt (f : FE) : FE := fun ρ => (f ρ).bind fun p => (fmtD p.1).map fun y => (.str y, p.2)
theorem de_fmt {K te f} (h : DE K te f) : DE K (tFmt te) (fFmt f) := by
  intro ρ d ρ' e F B σ H I Q q
  obtain ⟨⟨x, ρ1⟩, e1, e⟩ := Option.bind_eq_some_iff.mp e
  obtain ⟨y, e2, e⟩ := Option.map_eq_some_iff.mp e
  cases e
  refine h _ _ _ e1 F B σ H I _ fun v B1 H1 I1 s1 r1 => ?_
  simp only at e2
  unfold fmtD at e2
  split at e2
  · split at e2
    · rename_i hz
      cases e2
      exact .inl ⟨_, r1.str_inv, szl hz, q _ B1 H1 I1 s1 (.str _)⟩
    · cases e2
  · split at e2
    · rename_i hz
      cases e2
      exact .inr ⟨_, r1.int_inv, hz, q _ B1 H1 I1 s1 (.str _)⟩
    · cases e2
  · cases e2
inductive DJ (K : PySem.W.Frag) : List TE → List FE → Prop
  | nil : DJ K [] []
  | cons {t : TE} {f : FE} {ts : List TE} {fs : List FE} (h : DE K t f) (r : DJ K ts fs) : DJ K (t :: ts) (f :: fs)
def fJs : List FE → Str → En → Option (Str × En)
  | [], acc, ρ => some (acc, ρ)
  | f :: fs, acc, ρ => (f ρ).bind fun p => match p.1 with
    | .str y => if (acc ++ y).length ≤ 1000000 then fJs fs (acc ++ y) p.2 else none
    | _ => none
theorem dj_run {K ts fs} (h : DJ K ts fs) : ∀ (acc : Str) (ρ : En) (out : Str) (ρ' : En), fJs fs acc ρ = some (out, ρ') → ∀ F B σ H, SI K F B ρ σ H → ∀ Q : Str → Hp → Prop,
    (∀ B' H', SI K F B' ρ' σ H' → Stp ρ ρ' σ B H B' H' → Q out H') → tJs ts acc σ H Q := by
  induction h with
  | nil =>
    intro acc ρ out ρ' e F B σ H I Q q
    cases e
    exact q B H I .refl
  | cons h r ih =>
    intro acc ρ out ρ' e F B σ H I Q q
    obtain ⟨⟨x, ρ1⟩, e1, e⟩ := Option.bind_eq_some_iff.mp e
    refine h _ _ _ e1 F B σ H I _ fun v B1 H1 I1 s1 r1 => ?_
    simp only at e
    split at e
    · split at e
      · rename_i hz
        exact ⟨_, r1.str_inv, szl hz, ih _ _ _ _ e F B1 σ H1 I1 _ fun B2 H2 I2 s2 => q B2 H2 I2 (s1.trans s2)⟩
      · cases e
    · cases e
def fJoin (fs : List FE) : FE := fun ρ => (fJs fs Str.empty ρ).map fun p => (.str p.1, p.2)
theorem de_joined {K ts fs} (h : DJ K ts fs) : DE K (fun σ H Q => tJs ts Str.empty σ H fun out H1 => Q (.str out) H1) (fJoin fs) := by
  intro ρ d ρ' e F B σ H I Q q
  obtain ⟨⟨x, ρ1⟩, e1, e⟩ := Option.map_eq_some_iff.mp e
  cases e
  exact dj_run h _ _ _ _ e1 F B σ H I _ fun B1 H1 I1 s1 => q _ B1 H1 I1 s1 (.str _)

/-! ### len(set(xs)) of texts -/
section
open PyProof.Rows
def tLenSetN (K : PySem.W.Frag) (ta : TE) : TE := fun σ H Q => ta σ H fun x H1 => ∃ l, ∃ xs : List Str, x = .ref l ∧ SqL K H1 l (xs.map V.str) ∧ xs.length ≤ 1000 ∧ Q (.int (cntS xs xs.length)) H1
theorem pe_lenSetN {X : Cx} {a : Expr} {ta : TE} {p p2 q pos : Pos} (hc : X.calm = true) (hg : Gl X "len") (hm : X.mg "len" = none) (hg2 : Gl X "set") (hm2 : X.mg "set" = none) (ha : PE X a ta)
    (na : starEach [a] X.env = (false, eval a X.env) :: starEach [] X.env := by rfl) : PE X (.Call (.Name "len" p) [.Call (.Name "set" p2) [a] [] q] [] pos) (tLenSetN X.K ta) := by
  refine ⟨fun pins s σ H Q I h => ?_⟩
  refine Call_ (ld_blt I hg hm boot_len ?_)
  refine PyProof.Rows.callWith_builtin1 (PyProof.Rows.args_cons ?_ rfl) rfl rfl
  refine Call_ (ld_blt I hg2 hm2 boot_set ?_)
  refine PyProof.Rows.callWith_type1 (PyProof.Rows.args_cons (thn (ha.run pins s σ H _ I h) fun v s1 ⟨x, H1, I1, r1, q1⟩ => PyProof.Rows.args_nil ?_) na) na rfl
  obtain ⟨l, xs, rfl, hq, h1, q1⟩ := q1
  cases r1
  obtain ⟨its, r, pl, hz⟩ := I1.list hq
  have hl : its.toArray.size = xs.length := by rw [List.size_toArray, ← r.length, List.length_map]
  refine DLS.call_set_listN (I1.ok.hd hc) pl.isList (by simpa using strsAre_of r) (by unfold scanBound; omega) fun h' tk hS hk => ?_
  refine PyProof.Rows.args_nil ?_
  rw [hl] at hS
  obtain ⟨o, es, ep, t, ho, hex, hd, _, _, _, hf, hn⟩ := hS
  have I2 : Inv X pins σ H1 { s1 with heap := h', toks := tk } := I1.kept fun b o e => hk b o (Heap.lt_size e) e
  have hcn := cntS_le xs xs.length
  refine call_len_set ho hex hd hf (by rw [hn] <;> omega) ⟨.int (cntS xs xs.length), H1, I2.tok _, ⟨_, by rw [hn]⟩, q1⟩
end
def fLenSet (f : FE) : FE := fun ρ => (f ρ).bind fun p => match p.1 with
  | .lst ds => (strsD ds).bind fun xs => if xs.length ≤ 1000 then some (.int (cntS xs xs.length), p.2) else none
  | _ => none
theorem de_lenSet {K te f} (h : DE K te f) : DE K (tLenSetN K te) (fLenSet f) := by
  intro ρ d ρ' e F B σ H I Q q
  obtain ⟨⟨x, ρ1⟩, e1, e⟩ := Option.bind_eq_some_iff.mp e
  simp only at e
  refine h _ _ _ e1 F B σ H I _ fun v B1 H1 I1 s1 r1 => ?_
  split at e
  · obtain ⟨xs, e2, e⟩ := Option.bind_eq_some_iff.mp e
    split at e
    · rename_i hz
      cases e
      obtain ⟨a, vs, rfl, _, h1, h2⟩ := r1.lst_inv
      rw [strsD_eq e2] at h2
      have e3 := h2.strs_inv
      subst e3
      exact ⟨a, xs, rfl, .inl (.inl h1), hz, q _ B1 H1 I1 s1 (.int _)⟩
    · cases e
  · cases e

/-! ### chained comparisons -/
def fChain (g g' : D → D → Option D) (fa fb fc : FE) : FE := fun ρ => (fa ρ).bind fun p => (fb p.2).bind fun q => (g p.1 q.1).bind fun z => match z with
  | .bl true => (fc q.2).bind fun r => (g' q.1 r.1).map fun u => (u, r.2)
  | .bl false => some (.bl false, q.2)
  | _ => none
theorem de_chain {K r r' g g' ta tb tc fa fb fc} (hr : DR K r g) (hr' : DR K r' g') (ha : DE K ta fa) (hb : DE K tb fb) (hc : DE K tc fc) : DE K (tChain r r' ta tb tc) (fChain g g' fa fb fc) := by
  intro ρ d ρ' e F B σ H I Q q
  obtain ⟨⟨x, ρ1⟩, e1, e⟩ := Option.bind_eq_some_iff.mp e
  obtain ⟨⟨y, ρ2⟩, e2, e⟩ := Option.bind_eq_some_iff.mp e
  obtain ⟨z, e3, e⟩ := Option.bind_eq_some_iff.mp e
  refine ha _ _ _ e1 F B σ H I _ fun v1 B1 H1 I1 s1 r1 => ?_
  refine hb _ _ _ e2 F B1 σ H1 I1 _ fun v2 B2 H2 I2 s2 r2 => ?_
  refine hr _ _ _ e3 B2 H2 v1 v2 I2.hs (r1.grow s2.grow) r2 _ fun v H' x' r' => ?_
  have I3 := I2.ext x'
  simp only at e
  split at e
  · obtain ⟨⟨u, ρ3⟩, e4, e⟩ := Option.bind_eq_some_iff.mp e
    obtain ⟨w, e5, e⟩ := Option.map_eq_some_iff.mp e
    cases e
    refine ⟨true, r'.bl_inv, ?_⟩
    rw [if_pos rfl]
    refine hc _ _ _ e4 F B2 σ H' I3 _ fun v3 B4 H4 I4 s4 r4 => ?_
    refine hr' _ _ _ e5 B4 H4 v2 v3 I4.hs ((r2.grow x'.grow).grow s4.grow) r4 _ fun v5 H5 x5 r5 => ?_
    exact q _ B4 H5 (I4.ext x5) ((((s1.trans s2).trans x'.stp).trans s4).trans x5.stp) r5
  · cases e
    refine ⟨false, r'.bl_inv, ?_⟩
    rw [if_neg (by decide)]
    exact q _ B2 H' I3 ((s1.trans s2).trans x'.stp) (.bl _)
  · cases e

/-! ### {'k': 'v', ..}, d[k] -/
def dispT (ps : List (Str × Str)) : List (TE × TE) := ps.map fun p => (tC (.str p.1), tC (.str p.2))
def dispK (ps : List (Str × Str)) : List (Key × V) := ps.map fun p => (.inr p.1, .str p.2)
theorem disp_run : ∀ {ps : List (Str × Str)} {σ : L2.St} {H : Hp} {Q : List (V × V) → Hp → Prop}, Q ((dispK ps).map fun kv => (kV kv.1, kv.2)) H → tPairs (dispT ps) σ H Q
  | [], _, _, _, q => q
  | p :: ps, σ, H, Q, q => by
    show tPairs (dispT ps) σ H fun us H3 => Q ((V.str p.1, V.str p.2) :: us) H3
    exact disp_run (ps := ps) q
theorem merge_nd : ∀ {more acc : List (Key × V)}, ((acc ++ more).map (·.1)).Nodup → mergeK acc more = acc ++ more
  | [], acc, _ => by rw [List.append_nil]; rfl
  | p :: more, acc, nd => by
    have h1 : putK acc p.1 p.2 = acc ++ [p] := by
      unfold putK
      rw [if_neg]
      intro h
      obtain ⟨q, hq, e⟩ := List.any_eq_true.mp h
      have e : q.1 = p.1 := of_decide_eq_true e
      rw [List.map_append, List.nodup_append] at nd
      exact nd.2.2 q.1 (List.mem_map.mpr ⟨q, hq, rfl⟩) p.1 (List.mem_map.mpr ⟨p, List.mem_cons_self, rfl⟩) e
    have h2 : (acc ++ p :: more) = (acc ++ [p]) ++ more := by rw [List.append_assoc]; rfl
    show mergeK (putK acc p.1 p.2) more = acc ++ p :: more
    rw [h1, h2]
    rw [h2] at nd
    exact merge_nd nd
def dispD (ps : List (Str × Str)) : List (Key × D) := ps.map fun p => (.inr p.1, .str p.2)
theorem disp_rep {K B H} : ∀ ps : List (Str × Str), Repk K B H (dispD ps) (dispK ps)
  | [] => .nil
  | p :: ps => .cons (.str _) (disp_rep ps)
theorem de_disp {K} (ps : List (Str × Str)) (nd : (ps.map (·.1)).Nodup) (h15 : ps.length ≤ 15) : DE K (tDisp (dispT ps)) (fC (.dk (dispD ps))) := by
  intro ρ d ρ' e F B σ H I Q q
  cases e
  intro p hp
  refine disp_run ⟨upd_same, dispK ps, rfl, by unfold dispK; rw [List.length_map]; exact h15, ?_⟩
  have e1 : mergeK [] (dispK ps) = dispK ps := merge_nd (by
    rw [List.nil_append]
    unfold dispK
    rw [List.map_map]
    have e2 : ((fun (x : Key × V) => x.1) ∘ fun (p : Str × Str) => ((Sum.inr p.1 : Key), V.str p.2)) = Sum.inr ∘ fun p : Str × Str => p.1 := rfl
    rw [e2, ← List.map_map]
    exact List.Pairwise.map Sum.inr (fun a b h z => h (Sum.inr.inj z)) nd)
  rw [e1, upd_upd]
  have x := Ext.new (o := .dK (dispK ps)) hp
  exact q _ B _ (I.ext x) x.stp (.dk (fresh_vis I.hs hp) (.inl upd_same) (disp_rep ps))
theorem Repk.find {K B H} {k : Key} : ∀ {kvs : List (Key × D)} {vs : List (Key × V)} {d : D}, Repk K B H kvs vs → (kvs.find? fun kv => decide (kv.1 = k)).map (·.2) = some d → ∃ v, valV vs k = some v ∧ Rep K B H d v
  | _, _, _, .nil, e => by cases e
  | (k0, d0) :: kvs, (_, v0) :: vs, d, .cons h t, e => by
    unfold valV
    rw [List.find?_cons] at e ⊢
    by_cases hk : k0 = k
    · have hk' : decide (k0 = k) = true := decide_eq_true hk
      simp only [hk'] at e ⊢
      cases e
      exact ⟨v0, rfl, h⟩
    · have hk' : decide (k0 = k) = false := decide_eq_false hk
      simp only [hk'] at e ⊢
      exact Repk.find t e
def keyD : D → Option Key
  | .str z => some (.inr z)
  | .int i => some (.inl i)
  | _ => none
def fDget (fo fk : FE) : FE := fun ρ => (fo ρ).bind fun p => (fk p.2).bind fun q => match p.1 with
  | .dk kvs => (keyD q.1).bind fun k => ((kvs.find? fun kv => decide (kv.1 = k)).map (·.2)).map fun d => (d, q.2)
  | _ => none
theorem de_dget {K to tk fo fk} (ho : DE K to fo) (hk : DE K tk fk) : DE K (tDGet to tk) (fDget fo fk) := by
  intro ρ d ρ' e F B σ H I Q q
  obtain ⟨⟨x, ρ1⟩, e1, e⟩ := Option.bind_eq_some_iff.mp e
  obtain ⟨⟨y, ρ2⟩, e2, e⟩ := Option.bind_eq_some_iff.mp e
  simp only at e
  refine ho _ _ _ e1 F B σ H I _ fun v1 B1 H1 I1 s1 r1 => ?_
  refine hk _ _ _ e2 F B1 σ H1 I1 _ fun v2 B2 H2 I2 s2 r2 => ?_
  split at e
  · obtain ⟨k, e3, e⟩ := Option.bind_eq_some_iff.mp e
    obtain ⟨z, e4, e⟩ := Option.map_eq_some_iff.mp e
    cases e
    have r1' := r1.grow s2.grow
    cases r1' with
    | dk nb h t =>
      obtain ⟨v, e5, r5⟩ := t.find e4
      have ek : v2 = kV k := by
        cases r2 with
        | str x => cases e3; rfl
        | int i => cases e3; rfl
        | _ => cases e3
      exact ⟨_, v, rfl, .inl ⟨_, k, h, ek, e5.symm⟩, q v B2 H2 I2 (s1.trans s2) r5⟩
  · cases e

/-! ### index and count of bools in a list -/
def idxB (z : Bool) : List Bool → Option Nat
  | [] => none
  | y :: r => if y = z then some 0 else (idxB z r).map (· + 1)
theorem idxB_ok {z : Bool} : ∀ {ys : List Bool} {j : Nat}, idxB z ys = some j → ys[j]? = some z ∧ ∀ m, m < j → ys[m]? ≠ some z
  | y :: r, j, e => by
    unfold idxB at e
    split at e
    · rename_i h
      cases e
      exact ⟨by rw [h]; rfl, fun m hm => by omega⟩
    · rename_i h
      obtain ⟨i, e1, e2⟩ := Option.map_eq_some_iff.mp e
      subst e2
      obtain ⟨h1, h2⟩ := idxB_ok e1
      refine ⟨by simpa using h1, fun m hm => ?_⟩
      cases m with
      | zero => simpa using h
      | succ m => simpa using h2 m (by omega)
theorem tyV_lst {K B H ds v} (r : Rep K B H (.lst ds) v) : tyV K "list" v H := by
  obtain ⟨a, vs, rfl, _, h, _⟩ := r.lst_inv
  exact .inl ⟨rfl, vs, .inl (.inl h)⟩
def lstIxD : D → List D → Option D
  | .lst ds, [.bl z] => (blsD ds).bind fun ys => (idxB z ys).map fun (j : Nat) => .int (j : Int)
  | _, _ => none
theorem flat_bls (ys : List Bool) : (ys.map V.bl).all flatV = true := by
  rw [List.all_map]
  exact List.all_eq_true.mpr fun _ _ => rfl
theorem mrd_lstIx {K} : MRD K "list" (rIndex K) lstIxD := by
  intro d ds z e B H x r
  unfold lstIxD at e
  split at e
  · obtain ⟨ys, e1, e⟩ := Option.bind_eq_some_iff.mp e
    obtain ⟨j, e2, e⟩ := Option.map_eq_some_iff.mp e
    subst e
    refine ⟨tyV_lst r, fun B' H' xs hs rx rs Q q => ?_⟩
    obtain ⟨v, rfl, h⟩ := rs.one
    obtain ⟨p, vs, rfl, _, h1, h2⟩ := rx.lst_inv
    rw [blsD_eq e1] at h2
    have e3 := h2.bls_inv
    subst e3
    obtain ⟨k1, k2⟩ := idxB_ok e2
    rw [h.bl_inv]
    refine ⟨p, ys.map V.bl, _, j, _, rfl, rfl, .inl (.inl h1), rfl, flat_bls ys, by rw [List.getElem?_map, k1]; rfl, ?_, fun m z' hm hz => ?_, q _ _ (Ext.refl H') (.int _)⟩
    · unfold eqV; first | rfl | simp
    · rw [List.getElem?_map] at hz
      obtain ⟨b, hb, rfl⟩ := Option.map_eq_some_iff.mp hz
      have hne : b ≠ _ := fun e => k2 m hm (by rw [hb, e])
      unfold eqV
      simpa using hne
  · cases e
def rCntB (K : PySem.W.Frag) : MR1 := fun x xs H Q => ∃ (p : Addr) (bs : List Bool) (k : Bool), x = .ref p ∧ xs = [.bl k] ∧ SqL K H p (bs.map V.bl) ∧ Q (.int (bs.count k : Nat)) H
theorem cnt_bls : ∀ {bs : List Bool} {its : List Value} {k : Bool}, Vals (bs.map V.bl) its → its.countP (eqU (.bl k)) = bs.count k
  | [], _, _, .nil => rfl
  | b :: bs, _, k, .cons r t => by
    cases r
    rw [List.countP_cons, List.count_cons, cnt_bls t]
    rfl
theorem ma_cntB {X : Cx} : MtR X "list.count" (rCntB X.K) := by
  intro pins s σ H x xs v us Q I rx rxs h
  obtain ⟨p, bs, k, rfl, rfl, hs, q⟩ := h
  cases rx
  obtain ⟨u, rfl, ru⟩ := rxs.one
  cases ru
  obtain ⟨its, rv, ⟨⟨cls, dd, data, sl⟩, n, ho, hc, hdn, hd⟩, hlen⟩ := I.list hs
  simp only at hc hd
  subst hc hd
  refine call_meets PySem.F.slot_list_count ⟨_, ho, rfl⟩ PySem.F.entry_list_count (PySem.F.args_list_count_2 _ _)
    (SeqAt.list_countAt p its.toArray n dd sl (.bool k) (eqU (.bl k))) ⟨ho, fun y hy => mem_eqAt (x := .bl k) rfl rfl rv (flat_bls bs) y (by simpa using hy), ?_⟩
  refine ⟨.int (bs.count k : Nat), H, I.tok _, ⟨s.toks, ?_⟩, q⟩
  show Value.int ((its.toArray.toList.countP (eqU (.bl k)) : Nat) : Int) s.toks = Value.int ((bs.count k : Nat) : Int) s.toks
  rw [show its.toArray.toList.countP (eqU (.bl k)) = bs.count k from cnt_bls (by simpa using rv)]
def lstCntD : D → List D → Option D
  | .lst ds, [.bl z] => (blsD ds).map fun ys => .int ((ys.count z : Nat) : Int)
  | _, _ => none
theorem mrd_lstCnt {K} : MRD K "list" (rCntB K) lstCntD := by
  intro d ds z e B H x r
  unfold lstCntD at e
  split at e
  · obtain ⟨ys, e1, e⟩ := Option.map_eq_some_iff.mp e
    subst e
    refine ⟨tyV_lst r, fun B' H' xs hs rx rs Q q => ?_⟩
    obtain ⟨v, rfl, h⟩ := rs.one
    obtain ⟨p, vs, rfl, _, h1, h2⟩ := rx.lst_inv
    rw [blsD_eq e1] at h2
    have e3 := h2.bls_inv
    subst e3
    rw [h.bl_inv]
    exact ⟨p, ys, _, rfl, rfl, .inl (.inl h1), q _ _ (Ext.refl H') (.int _)⟩
  · cases e

/-! ### a def that a slot holds -/
def fCallA (i : Nat) (ms : List Bool) (T : Str → Option DF) (fa : FA) : FE := fun ρ => match ρ[i]? with
  | some (some (.sh (.fn x))) => (T x).bind fun Ff => fCall ms Ff fa ρ
  | _ => none
theorem de_callA {K ta fa ms T} {S : Addr → Option Sp} (i : Nat) (hS : ∀ x Ff, T x = some Ff → S (He.ga K x) = some (SpF K ms Ff)) (h : DA K ta fa) : DE K (tCallA i S ta) (fCallA i ms T fa) := by
  intro ρ d ρ' e F B σ H I Q q
  unfold fCallA at e
  split at e
  · rename_i x hx
    obtain ⟨Ff, e1, e⟩ := Option.bind_eq_some_iff.mp e
    obtain ⟨v, h1, h2⟩ := I.sh i _ hx
    cases h2
    refine ⟨He.ga K x, SpF K ms Ff, h1, hS x Ff e1, ?_⟩
    exact de_callS (te := fun σ H Q => ta σ H fun vs H1 => SpF K ms Ff vs H1 Q E0) h (fun _ _ _ z => z) ρ d ρ' e F B σ H I Q q
  · cases e
end DL

end

section
set_option maxRecDepth 100000
set_option maxHeartbeats 1000000
/-! The data layer, part J: objects. -/
namespace DL
open PySem PySem.Spec L2

/-- which fields of which classes are plain -/
def ClsOk (K : PySem.W.Frag) (CF : Str → Str → Bool) : Prop := ∀ c f, CF c f = true → Cls K (He.ga K c) ∧ NoAttr K (He.ga K c) f
theorem Rep.obj_inv {K B H c fs v} (r : Rep K B H (.obj c fs) v) : ∃ a dx vfs, v = .ref a ∧ ¬ B a ∧ H a = some (.ins (He.ga K c) dx vfs) ∧ Repf K B H fs vfs := by cases r with | obj n h t => exact ⟨_, _, _, rfl, n, h, t⟩
def fFld (CF : Str → Str → Bool) (f : Str) (fo : FE) : FE := fun ρ => (fo ρ).bind fun p => match p.1 with
  | .obj c fs => if CF c f = true then (fs.lookup f).map fun d => (d, p.2) else none
  | _ => none
theorem de_fld {K CF f to fo} (hC : ClsOk K CF) (ho : DE K to fo) : DE K (tFld K to f) (fFld CF f fo) := by
  intro ρ d ρ' e F B σ H I Q q
  obtain ⟨⟨x, ρ1⟩, e1, e⟩ := Option.bind_eq_some_iff.mp e
  simp only at e
  split at e
  · split at e
    · rename_i hc
      obtain ⟨z, e2, e⟩ := Option.map_eq_some_iff.mp e
      cases e
      refine ho _ _ _ e1 F B σ H I _ fun v1 B1 H1 I1 s1 r1 => ?_
      obtain ⟨a, dx, vfs, rfl, nb, h, t⟩ := r1.obj_inv
      obtain ⟨v, e3, r3⟩ := t.lookup e2
      exact ⟨a, _, dx, vfs, v, rfl, h, (hC _ _ hc).1, (hC _ _ hc).2, e3, q v B1 H1 I1 s1 r3⟩
    · cases e
  · cases e
theorem lookup_cons (g f : Str) (v : V) (l : List (Str × V)) : ((f, v) :: l).lookup g = if g = f then some v else l.lookup g := by
  by_cases h : g = f
  · subst h
    simp [List.lookup]
  · have e : (g == f) = false := by simpa using h
    rw [if_neg h]
    simp [List.lookup, e]
/-- self.f = e, self one's own -/
def gFld (CF : Str → Str → Bool) (i : Nat) (f : Str) (fv : FE) : FS := fun ρ => (fv ρ).bind fun q => match q.2[i]? with
  | some (some (.ow l (.obj c fs))) => if CF c f = true ∧ fs.length < 1000 then some (.nx (q.2.set i (some (.ow l (.obj c (putD f q.1 fs)))))) else none
  | _ => none
theorem ds_fld {K CF f tv fv} (i : Nat) (hC : ClsOk K CF) (hv : DE K tv fv) : DS K (sFld K (tVar i) tv f) (gFld CF i f fv) := by
  intro ρ o e F B σ H I E q
  obtain ⟨⟨d, ρ1⟩, e1, e⟩ := Option.bind_eq_some_iff.mp e
  simp only at e
  split at e
  · rename_i l c fs es
    split at e
    · rename_i hc
      cases e
      refine hv _ _ _ e1 F B σ H I _ fun v B1 H1 I1 s1 r1 => ?_
      obtain ⟨a, h1, h2, h3, h4⟩ := I1.ow i l _ es
      obtain ⟨dx, vfs, h5, h6⟩ := id h3
      refine ⟨_, h1, a, _, dx, vfs, rfl, h5, (hC _ _ hc.1).1, (hC _ _ hc.1).2, by rw [← h6.length]; exact hc.2, ?_⟩
      have gu : Grow B1 H1 B1 (upd H1 a (.ins (He.ga K c) dx (putF f v vfs))) := fun b o nb e => ⟨nb, by rw [upd_ne (fun z => nb (by rw [z]; exact h2))]; exact e⟩
      have new : OwnAt K B1 (upd H1 a (.ins (He.ga K c) dx (putF f v vfs))) a (.obj c (putD f d fs)) := ⟨dx, putF f v vfs, upd_same, ((Repf.put r1 h6).grow gu)⟩
      obtain ⟨I2, g2⟩ := I1.mut es h1 new
      exact q _ _ _ I2 (s1.grow.trans g2)
    · cases e
  · cases e

/-! ### methods -/
def fMeth (c m : Str) (ms : List Bool) (Ff : DF) (fo : FE) (fa : FA) : FE := fun ρ => (fo ρ).bind fun p => match p.1 with
  | .obj c' fs => if c' = c ∧ fs.lookup m = none then (fa p.2).bind fun q => callD (false :: ms) Ff (.val (.obj c' fs) :: q.1) q.2 else none
  | _ => none
theorem de_meth {K c m ms Ff to fo ta fa} (ho : DE K to fo) (ha : DA K ta fa) : DE K (tMeth (He.ga K c) m (SpF K (false :: ms) Ff) [] E0 to ta) (fMeth c m ms Ff fo fa) := by
  intro ρ d ρ' ee F B σ H I Q q
  obtain ⟨⟨x, ρ1⟩, e1, ea⟩ := Option.bind_eq_some_iff.mp ee
  simp only at ea
  split at ea
  · rename_i c' fs
    split at ea
    · rename_i hc
      obtain ⟨hc1, hc2⟩ := hc
      subst hc1
      obtain ⟨⟨as, ρ2⟩, e2, eb⟩ := Option.bind_eq_some_iff.mp ea
      refine ho _ _ _ e1 F B σ H I _ fun v1 B1 H1 I1 s1 r1 => ?_
      obtain ⟨a, dx, vfs, rfl, nb, h, t⟩ := id r1.obj_inv
      refine ⟨a, dx, vfs, rfl, h, t.lookup_none hc2, ?_⟩
      refine ha _ _ _ e2 F B1 σ H1 I1 _ fun vs B2 H2 I2 s2 r2 => ?_
      rw [List.append_nil]
      exact call_fin I2 (.cons (a := Ag.val (.obj c' fs)) (show AgRel K B2 H2 σ (.val (.obj c' fs)) (.ref a) from r1.grow s2.grow) r2) eb fun v B' H' I3 s3 r3 => q v B' H' I3 ((s1.trans s2).trans s3) r3
    · cases ea
  · cases ea
theorem de_meth0 {K c m Ff to fo} (ho : DE K to fo) : DE K (tMeth (He.ga K c) m (SpF K [false] Ff) [] E0 to tNil) (fMeth c m [] Ff fo faNil) := de_meth ho da_nil

/-! ### a new object -/
def fMake (c : Str) (Ff : DF) (fa : FA) : FE := fun ρ => (fArgs fa ρ).bind fun p => (Ff (.obj c [] :: p.1)).bind fun r => match r with
  | (.non, .obj c' fs :: _) => if c' = c then some (.obj c fs, p.2) else none
  | _ => none
theorem ownA_false : ∀ (vs : List V) (n : Nat), ownA (List.replicate n false) vs = []
  | [], 0 => rfl
  | [], n + 1 => rfl
  | v :: vs, 0 => rfl
  | v :: vs, n + 1 => by
    rw [List.replicate_succ]
    show ownA (List.replicate n false) vs = []
    exact ownA_false vs n
theorem ar_vals {K B H} : ∀ {ds : List D} {vs : List V}, Reps K B H ds vs → AR K B H (List.replicate ds.length false) ds vs
  | _, _, .nil => .nil
  | _, _, .cons h t => .sh h (ar_vals t)
theorem de_make {K c Ff ta fa n} (hn : ∀ ds r, Ff (.obj c [] :: ds) = some r → ds.length = n) (ha : DA K ta fa) : DE K (tMake (He.ga K c) (SpF K (true :: List.replicate n false) Ff) [] E0 ta) (fMake c Ff fa) := by
  intro ρ d ρ' e F B σ H I Q q
  obtain ⟨⟨ds, ρ1⟩, e1, e⟩ := Option.bind_eq_some_iff.mp e
  obtain ⟨as, e4, e5⟩ := args_split e1
  obtain ⟨r, e2, e⟩ := Option.bind_eq_some_iff.mp e
  split at e
  · rename_i c' fs os
    split at e
    · rename_i hc
      subst hc
      cases e
      refine ha _ _ _ e4 F B σ H I _ fun vs B1 H1 I1 s1 r1 x dx hx hdx hne => ?_
      have rs := vals_reps r1 e5
      have hl := hn _ _ e2
      subst hl
      rw [List.append_nil]
      obtain ⟨f1, f2, f3⟩ := I1.fresh hx
      have x1 : Ext H1 (upd H1 dx (.own x)) := Ext.new hdx
      have hx1 : (upd H1 dx (.own x)) x = none := by rw [upd_ne (Ne.symm hne)]; exact hx
      have x2 : Ext H1 (upd (upd H1 dx (.own x)) x (.ins (He.ga K c') dx [])) := x1.trans (Ext.new hx1)
      have gh : Grow B1 H1 (hide B1 x) (upd (upd H1 dx (.own x)) x (.ins (He.ga K c') dx [])) := .hide x2 hx
      have I2 := I1.hide x2 hx ⟨_, upd_same⟩
      have oo : ownA (true :: List.replicate ds.length false) (V.ref x :: vs) = [x] := by
        show x :: ownA (List.replicate ds.length false) vs = [x]
        rw [ownA_false]
      refine ⟨hide B1 x, .obj c' [] :: ds, .non, .obj c' fs :: os, I2.hs, .ow (.inr rfl) ⟨dx, [], upd_same, .nil⟩ (ar_vals (rs.grow gh)), by rw [oo]; exact List.nodup_cons.mpr ⟨List.not_mem_nil, List.nodup_nil⟩, e2, fun v H' kp th orr rv => ?_⟩
      have nx : ∀ b, b ≠ x → b ∉ ownA (true :: List.replicate ds.length false) (V.ref x :: vs) := fun b hb => by rw [oo]; simpa using hb
      cases rv
      refine ⟨rfl, ?_⟩
      cases orr with
      | ow ho orr' =>
        obtain ⟨dy, vfs, h1, h2⟩ := ho
        have k2 : ∀ b o, (upd (upd H1 dx (.own x)) x (.ins (He.ga K c') dx [])) b = some o → b ≠ x → H' b = some o := fun b o e hb => kp b o e (nx b hb)
        have k1 : ∀ b o, H1 b = some o → H' b = some o := fun b o e => k2 b o (x2 b o e) fun z => by rw [z, hx] at e; cases e
        have I3 := I1.ext (H' := H') k1
        have g3 : Grow (hide B1 x) H' B1 H' := fun b o nb e => ⟨fun z => nb (.inl z), e⟩
        exact q _ B1 H' I3 (s1.trans (Ext.stp k1)) (.obj f3 h1 (h2.grow g3))
    · cases e
  · cases e
end DL

end

section
set_option maxRecDepth 100000
set_option maxHeartbeats 1000000
/-! The data layer, part W: what the printed walks lean on. -/
namespace DL
open PySem PySem.Spec L2
open PyProof.Rows (envOfC)

/-! ### two readings of one expression -/
def tAlt (t1 t2 : TE) : TE := fun σ H Q => t1 σ H Q ∨ t2 σ H Q
theorem pe_alt {X : Cx} {e : Expr} {t1 t2 : TE} (h1 : PE X e t1) (h2 : PE X e t2) : PE X e (tAlt t1 t2) := ⟨fun pins s σ H Q I h => h.elim (h1.run pins s σ H Q I) (h2.run pins s σ H Q I)⟩
def fAlt (f1 f2 : FE) : FE := fun ρ => match f1 ρ with
  | some r => some r
  | none => f2 ρ
theorem de_alt {K t1 t2 f1 f2} (h1 : DE K t1 f1) (h2 : DE K t2 f2) : DE K (tAlt t1 t2) (fAlt f1 f2) := by
  intro ρ d ρ' e F B σ H I Q q
  unfold fAlt at e
  split at e
  · rename_i r e1
    cases e
    exact .inl (h1 _ _ _ e1 F B σ H I Q q)
  · exact .inr (h2 _ _ _ e F B σ H I Q q)

/-! ### the module's names -/
structure GW (K : PySem.W.Frag) (mg : Str → Option Value) (gf : List Str) (gi : List (Str × Int)) (gs : List (Str × Str)) (gt : List (Str × List Str)) (go : List Str) : Prop where
  free : ∀ (i : Nat) (x : Str), gf[i]? = some x → mg x = none
  int : ∀ (i : Nat) (x : Str) (n : Int), gi[i]? = some (x, n) → ∃ u, mg x = some u ∧ RelV (.int n) u
  str : ∀ (i : Nat) (x z : Str), gs[i]? = some (x, z) → ∃ u, mg x = some u ∧ RelV (.str z) u
  tup : ∀ (i : Nat) (x : Str) (l : List Str), gt[i]? = some (x, l) → (∃ u, mg x = some u ∧ RelV (.ref (He.ga K x)) u) ∧ ∀ H, SqT K H (He.ga K x) (l.map V.str)
  obj : ∀ (i : Nat) (x : Str), go[i]? = some x → ∃ u, mg x = some u ∧ RelV (.ref (He.ga K x)) u
theorem de_gtup {K : PySem.W.Frag} {x : Str} {l : List Str} (h : ∀ H, SqT K H (He.ga K x) (l.map V.str)) : DE K (tC (.ref (He.ga K x))) (fC (.tup (l.map D.str))) := by
  refine de_c fun B H => ?_
  rcases h (fun _ => none) with z | z
  · rcases z with z | ⟨o, z⟩ <;> cases z
  · exact .tup (.inr z) Reps.strs
theorem pe_bty {X : Cx} {x : Str} {T : String} {pos : Pos} (hg : Gl X x) (hm : X.mg x = none) (hv : bootBuiltins x = some (.type T)) (hn : x ≠ "__name__" := by decide) (hd : (x == ("__debug__" : Str)) = false := by decide) : PE X (.Name x pos) (tC (.ty T)) :=
  ⟨fun pins s σ H Q I h => ld_blt I hg hm hv ⟨.ty T, H, I, rfl, h⟩ hn hd⟩
theorem de_ty {K : PySem.W.Frag} (n : String) : DE K (tC (.ty n)) (fC (.ty n)) := de_c fun _ _ => .ty n

/-! ### blocks -/
def blkB (N : List Str) (sc scope : Scope) (own : List (Str × Nat)) : Bool :=
  decide (scope.kind = .function) && (scope.names.all (fun y => decide (scope.names.lookup y.1 = some y.2)) && (own.all (fun p => decide (N[p.2]? = some p.1)) &&
    (scope.names.all (fun y => decide (y.2 ≠ .free) || (decide (sc.names.lookup y.1 = some .cell) || decide (sc.names.lookup y.1 = some .free))) &&
      scope.names.all (fun y => !(decide (y.2 = .local) || decide (y.2 = .cell)) || (decide (y.1 ∈ own.map (·.1)) || decide (y.1 ∉ N))))))
theorem blk_by {N : List Str} {sc scope : Scope} {own : List (Str × Nat)} (h : blkB N sc scope own = true) : BlkOk N sc scope own := by
  unfold blkB at h
  simp only [Bool.and_eq_true, List.all_eq_true, decide_eq_true_eq, Bool.or_eq_true, Bool.not_eq_true', Bool.or_eq_false_iff, decide_eq_false_iff_not] at h
  obtain ⟨h1, h2, h3, h4, h5⟩ := h
  refine ⟨h1, h2, h3, fun y hy e => ?_, fun y hy e => ?_⟩
  · rcases h4 y hy with z | z
    · exact absurd e z
    · exact z
  · rcases h5 y hy with z | z
    · exact (e.elim z.1 z.2).elim
    · exact z

/-! ### defs by name -/
structure Df (K : PySem.W.Frag) (mg : Str → Option Value) (x : Str) (st : Stmt) (ps : List Str) : Prop where
  ex : ∃ fd, Fun K x x st (He.ga K x) fd ∧ (∃ u, mg x = some u ∧ RelV (.ref (He.ga K x)) u) ∧ Binds K fd ps []
structure CalD (P : Program) (w : World) (K : PySem.W.Frag) (mg : Str → Option Value) (base : Heap) (k : Nat) (x : Str) (sp : Sp) : Prop where
  ex : ∃ (fd : FuncData) (ps : List Str), FnOk P w K mg base CX0 k (He.ga K x) fd ps sp ∧ mg x = some (.ref (He.ga K x)) ∧ PySem.W.keepIn K (.ref (He.ga K x)) = true ∧ Binds K fd ps []
section
variable {P : Program} {w : World} {K : PySem.W.Frag} {mg : Str → Option Value} {base : Heap}
theorem cal_of {x : Str} {st : Stmt} {N ps : List Str} {k : Nat} {ms : List Bool} {t : TS} {g : FS} (D : Df K mg x st ps) (S : FnScope N ps (defScope st)) (hl : ms.length = ps.length) (hg : DS K t g)
    (hb : ∀ (cdv : Value) (A : Around) (outer : List Env) (s : Shared) (H : Hp) (E : XK), Room k (A.deeper (envOfC x (defScope st) s.heap.objs.size (He.ga K x) cdv)) →
      PSs (cxOf CX0 P w K mg base N x (defScope st) (He.ga K x) cdv A outer s H E).nox (defBody st) t) : CalD P w K mg base (k + 1) x (SpF K ms (bodyF N.length ms g)) := by
  obtain ⟨fd, F, ⟨u, hm, r⟩, b⟩ := D.ex
  cases r
  exact ⟨fd, ps, fn_body F S hl hg hb, hm, F.kp, b⟩
theorem CalD.mono {k j : Nat} {x : Str} {sp : Sp} (c : CalD P w K mg base k x sp) (h : k ≤ j) : CalD P w K mg base j x sp := by
  obtain ⟨fd, ps, F, hm, kp, b⟩ := c.ex
  exact ⟨fd, ps, F.mono h, hm, kp, b⟩
/-- a def of which nothing is promised -/
theorem cal_none {x : Str} {st : Stmt} {ps : List Str} {ms : List Bool} (D : Df K mg x st ps) (k : Nat) : CalD P w K mg base k x (SpF K ms fun _ => none) := by
  obtain ⟨fd, F, ⟨u, hm, r⟩, b⟩ := D.ex
  cases r
  refine ⟨fd, ps, ⟨fun vs H Q E h => ?_, fun A outer s H args us vs Q E _ _ _ _ h => ?_⟩, hm, F.kp, b⟩
  · obtain ⟨_, _, _, _, _, _, _, e, _⟩ := h
    cases e
  · obtain ⟨_, _, _, _, _, _, _, e, _⟩ := h
    cases e
end
section
variable {X : Cx} {k j : Nat} {x : Str} {sp : Sp} {p pos : Pos} {e : Expr} {es : List Expr} {t : TA}
theorem pe_cd (c : CalD X.prog X.w X.K X.mg X.base k x sp) (hr : Room j X.A) (hk : k ≤ j) (hg : Gl X x) (ha : PA X (e :: es) t)
    (hdb : (x == ("__debug__" : Str)) = false := by decide) (he : starEach (e :: es) X.env = (false, eval e X.env) :: starEach es X.env := by rfl) (hpl : (backTo pos (starEach es X.env)).any (·.1) = false := by rfl) :
    PE X (.Call (.Name x p) (e :: es) [] pos) (tCall sp [] E0 t) := by
  obtain ⟨fd, ps, F, hm, kp, b⟩ := c.ex
  exact pe_call F (hr.mono hk) hg hm kp b .nil pass0 ha hdb he hpl
theorem CalD.held {P : Program} {w : World} {K : PySem.W.Frag} {mg : Str → Option Value} {base : Heap} {k j : Nat} {x : Str} {sp : Sp} (c : CalD P w K mg base k x sp) (h : k ≤ j) : Held P w K mg base j (He.ga K x) sp := by
  obtain ⟨fd, ps, F, hm, kp, b⟩ := c.ex
  exact ⟨fd, ps, F.mono h, kp, b⟩
theorem pe_negc {i : Int} {j : Nat} {p1 p2 : Pos} : PE X (.UnaryOp .USub (.Constant (.int i) j p1) p2) (tC (.int (-i))) :=
  ⟨fun pins s σ H Q I h => (pe_un un_neg pe_int).run pins s σ H Q I ⟨i, rfl, h⟩⟩
end

/-! ### methods, classes -/
structure Dm (K : PySem.W.Frag) (mg : Str → Option Value) (c m : Str) (st : Stmt) (ps : List Str) : Prop where
  ex : ∃ (fd : FuncData) (qual : Str), Cls K (He.ga K c) ∧ Meth K (He.ga K c) m (He.ma K (He.ga K c) m) ∧ Fun K m qual st (He.ma K (He.ga K c) m) fd ∧ Binds K fd ps []
structure Dk (K : PySem.W.Frag) (mg : Str → Option Value) (c : Str) (st : Stmt) (ps : List Str) : Prop where
  ex : ∃ (fd : FuncData) (qual : Str), Mk K (He.ga K c) (He.ma K (He.ga K c) "__init__") ∧ (∃ u, mg c = some u ∧ RelV (.ref (He.ga K c)) u) ∧ Fun K "__init__" qual st (He.ma K (He.ga K c) "__init__") fd ∧ Binds K fd ps []
structure MetD (P : Program) (w : World) (K : PySem.W.Frag) (mg : Str → Option Value) (base : Heap) (k : Nat) (c m : Str) (sp : Sp) : Prop where
  ex : ∃ (f : Addr) (fd : FuncData) (ps : List Str), Cls K (He.ga K c) ∧ Meth K (He.ga K c) m f ∧ FnOk P w K mg base CX0 k f fd ps sp ∧ Binds K fd ps []
structure MakD (P : Program) (w : World) (K : PySem.W.Frag) (mg : Str → Option Value) (base : Heap) (k : Nat) (c : Str) (sp : Sp) : Prop where
  ex : ∃ (f : Addr) (fd : FuncData) (ps : List Str), Mk K (He.ga K c) f ∧ FnOk P w K mg base CX0 k f fd ps sp ∧ mg c = some (.ref (He.ga K c)) ∧ Binds K fd ps []
section
variable {P : Program} {w : World} {K : PySem.W.Frag} {mg : Str → Option Value} {base : Heap}
theorem met_of {c m : Str} {st : Stmt} {N ps : List Str} {k : Nat} {ms : List Bool} {t : TS} {g : FS} (D : Dm K mg c m st ps) (S : FnScope N ps (defScope st)) (hl : ms.length = ps.length) (hg : DS K t g)
    (hb : ∀ (qual : Str) (f : Addr) (cdv : Value) (A : Around) (outer : List Env) (s : Shared) (H : Hp) (E : XK), Room k (A.deeper (envOfC qual (defScope st) s.heap.objs.size f cdv)) →
      PSs (cxOf CX0 P w K mg base N qual (defScope st) f cdv A outer s H E).nox (defBody st) t) : MetD P w K mg base (k + 1) c m (SpF K ms (bodyF N.length ms g)) := by
  obtain ⟨fd, qual, h1, h2, F, b⟩ := D.ex
  exact ⟨_, fd, ps, h1, h2, fn_body F S hl hg (hb qual _), b⟩
theorem mak_of {c : Str} {st : Stmt} {N ps : List Str} {k : Nat} {ms : List Bool} {t : TS} {g : FS} (D : Dk K mg c st ps) (S : FnScope N ps (defScope st)) (hl : ms.length = ps.length) (hg : DS K t g)
    (hb : ∀ (qual : Str) (f : Addr) (cdv : Value) (A : Around) (outer : List Env) (s : Shared) (H : Hp) (E : XK), Room k (A.deeper (envOfC qual (defScope st) s.heap.objs.size f cdv)) →
      PSs (cxOf CX0 P w K mg base N qual (defScope st) f cdv A outer s H E).nox (defBody st) t) : MakD P w K mg base (k + 1) c (SpF K ms (bodyF N.length ms g)) := by
  obtain ⟨fd, qual, h1, ⟨u, hm, r⟩, F, b⟩ := D.ex
  cases r
  exact ⟨_, fd, ps, h1, fn_body F S hl hg (hb qual _), hm, b⟩
end
section
variable {X : Cx} {k j : Nat} {x c m : Str} {sp : Sp} {p pos apos : Pos} {e o : Expr} {es : List Expr} {ta : TE} {t : TA}
theorem pe_mkd (c : MakD X.prog X.w X.K X.mg X.base k x sp) (hr : Room j X.A) (hk : k + 1 ≤ j) (hg : Gl X x) (ha : PA X (e :: es) t)
    (hdb : (x == ("__debug__" : Str)) = false := by decide) (he : starEach (e :: es) X.env = (false, eval e X.env) :: starEach es X.env := by rfl) (hpl : (backTo pos (starEach es X.env)).any (·.1) = false := by rfl) :
    PE X (.Call (.Name x p) (e :: es) [] pos) (tMake (He.ga X.K x) sp [] E0 t) := by
  obtain ⟨f, fd, ps, M, F, hm, b⟩ := c.ex
  exact pe_make M F (hr.mono hk) hg hm b .nil pass0 ha hdb he hpl
theorem pe_md {pl : Sem Bool} (c' : MetD X.prog X.w X.K X.mg X.base k c m sp) (hr : Room j X.A) (hk : k ≤ j) (he : PE X o ta) (ha : PA X (e :: es) t)
    (hst : starEach (e :: es) X.env = (false, eval e X.env) :: starEach es X.env := by rfl) (hpl : (backTo pos (starEach es X.env)).any (·.1) = false := by rfl)
    (ht : eval (.Call (.Attribute o m apos) (e :: es) [] pos) X.env = (do
      let ov ← eval o X.env
      standAt apos.atName
      let (f, first) ← holding [ov] (getMethod ov m pl)
      callWith pos f first (backTo pos (starEach (e :: es) X.env)) (backToKw pos (keywordEach [] X.env))) := by rfl) :
    PE X (.Call (.Attribute o m apos) (e :: es) [] pos) (tMeth (He.ga X.K c) m sp [] E0 ta t) := by
  obtain ⟨f, fd, ps, hc, hm, F, b⟩ := c'.ex
  exact pe_meth (pl := pl) he hc hm F (hr.mono hk) b .nil pass0 ha hst hpl ht
theorem bodyF_len {n : Nat} {ms : List Bool} {g : FS} {ds : List D} {r : D × List D} (h : bodyF n ms g ds = some r) : ds.length = ms.length := by
  unfold bodyF at h
  split at h
  · assumption
  · cases h
end
end DL

end

section
set_option maxRecDepth 100000
set_option maxHeartbeats 1000000
/-! The data layer, part O: own __contains__, a comprehension over a list of one's own, defs that give a new list. -/
namespace DL
open PySem PySem.Spec
open L2 hiding Ext Ext.trans

/-! ### x in o by o's own __contains__ -/
def rInO (neg : Bool) (C : Addr) (sp : Sp) : R2 := fun x y H Q => ∃ a dx fs, y = .ref a ∧ H a = some (.ins C dx fs) ∧ sp [.ref a, x] H (fun v H' => ∃ b, v = .bl b ∧ Q (.bl (if neg then !b else b)) H') E0
theorem op_inO {X : Cx} {k j : Nat} {c : Str} {sp : Sp} (M : MetD X.prog X.w X.K X.mg X.base k c "__contains__" sp) (hr : Room j X.A) (hk : k ≤ j) : OpR X (compareOp .In) (rInO false (He.ga X.K c) sp) := by
  intro pins s σ H x y v u Q I rx ry h
  obtain ⟨a, dx, fs, rfl, ha, h⟩ := h
  cases ry
  obtain ⟨f, fd, ps, hc, hm, F, b⟩ := M.ex
  obtain ⟨mA, J, _⟩ := ins_get I.hok ha
  obtain ⟨od, J, _⟩ := J.look
  obtain ⟨m, hF⟩ := I.fr
  refine PySem.W.in_K hF I.ok.mod.kin J hm.at_ hm.fn ?_
  refine thn (run_fn (Q := fun v H' => ∃ b, v = .bl b ∧ Q (.bl (if false = true then !b else b)) H') F (hr.mono hk) b .nil pass0 I (us := [.ref a, v]) (vs := [.ref a, x]) (.cons rfl (.cons rx .nil)) (by rw [List.append_nil]; exact h)) fun r s' ⟨z, H', I', rz, b', ez, q⟩ => ?_
  subst ez
  cases rz
  exact wpAny_truthy_bool ⟨.bl b', H', I', rfl, q⟩
theorem op_ninO {X : Cx} {k j : Nat} {c : Str} {sp : Sp} (M : MetD X.prog X.w X.K X.mg X.base k c "__contains__" sp) (hr : Room j X.A) (hk : k ≤ j) : OpR X (compareOp .NotIn) (rInO true (He.ga X.K c) sp) := by
  intro pins s σ H x y v u Q I rx ry h
  obtain ⟨a, dx, fs, rfl, ha, h⟩ := h
  cases ry
  obtain ⟨f, fd, ps, hc, hm, F, b⟩ := M.ex
  obtain ⟨mA, J, _⟩ := ins_get I.hok ha
  obtain ⟨od, J, _⟩ := J.look
  obtain ⟨m, hF⟩ := I.fr
  refine PySem.W.notIn_K hF I.ok.mod.kin J hm.at_ hm.fn ?_
  refine thn (run_fn (Q := fun v H' => ∃ b, v = .bl b ∧ Q (.bl (if true = true then !b else b)) H') F (hr.mono hk) b .nil pass0 I (us := [.ref a, v]) (vs := [.ref a, x]) (.cons rfl (.cons rx .nil)) (by rw [List.append_nil]; exact h)) fun r s' ⟨z, H', I', rz, b', ez, q⟩ => ?_
  subst ez
  cases rz
  exact wpAny_truthy_bool ⟨.bl (!b'), H', I', rfl, q⟩
def fInO (neg : Bool) (c : Str) (Ff : DF) (fa fb : FE) : FE := fun ρ => (fa ρ).bind fun p => (fb p.2).bind fun q => match q.1 with
  | .obj c' fs => if c' = c then (callD [false, false] Ff [.val (.obj c' fs), .val p.1] q.2).bind fun r => match r.1 with
    | .bl b => some (.bl (if neg then !b else b), r.2)
    | _ => none else none
  | _ => none
theorem de_inO {K neg c Ff ta tb fa fb} (ha : DE K ta fa) (hb : DE K tb fb) : DE K (tOp (rInO neg (He.ga K c) (SpF K [false, false] Ff)) ta tb) (fInO neg c Ff fa fb) := by
  intro ρ d ρ' ee F B σ H I Q q
  obtain ⟨⟨x, ρ1⟩, e1, ea⟩ := Option.bind_eq_some_iff.mp ee
  obtain ⟨⟨y, ρ2⟩, e2, eb⟩ := Option.bind_eq_some_iff.mp ea
  refine ha _ _ _ e1 F B σ H I _ fun v1 B1 H1 I1 s1 r1 => ?_
  refine hb _ _ _ e2 F B1 σ H1 I1 _ fun v2 B2 H2 I2 s2 r2 => ?_
  simp only at eb
  split at eb
  · rename_i c' fs
    split at eb
    · rename_i hc
      subst hc
      obtain ⟨⟨z, ρ3⟩, e3, ec⟩ := Option.bind_eq_some_iff.mp eb
      simp only at ec
      split at ec
      · rename_i b
        cases ec
        obtain ⟨a, dx, vfs, rfl, nb, h, t⟩ := id r2.obj_inv
        refine ⟨a, dx, vfs, rfl, h, ?_⟩
        refine call_fin (as := [.val (.obj c' fs), .val x]) I2 (.cons (a := Ag.val (.obj c' fs)) (show AgRel K B2 H2 σ (.val (.obj c' fs)) (.ref a) from r2) (.cons (a := Ag.val x) (show AgRel K B2 H2 σ (.val x) v1 from r1.grow s2.grow) .nil)) e3 fun v B3 H3 I3 s3 r3 => ?_
        exact ⟨b, r3.bl_inv, q _ B3 H3 I3 ((s1.trans s2).trans s3) (.bl _)⟩
      · cases ec
    · cases eb
  · cases eb

/-! ### defs that give a new list -/
/-- no inout parameters; the list that comes is no one else's -/
def SpN (K : PySem.W.Frag) (Ff : List D → Option (List D)) : Sp := fun vs H Q _ => ∃ (B : Hid) (ds l : List D), (∀ b, B b → ∃ o, H b = some o) ∧ Reps K B H ds vs ∧ Ff ds = some l ∧
  ∀ p us H', (∀ b o, H b = some o → H' b = some o) → H p = none → H' p = some (.lst us) → Reps K (hide B p) H' l us → Q (.ref p) H'
def bodyN (n : Nat) (m : Nat) (f : En → Option (List D × En)) : List D → Option (List D) := fun ds => if ds.length = m then (f ((ds.map fun d => some (.sh d)) ++ List.replicate (n - m) none)).map (·.1) else none
theorem argE_vals : ∀ (ds : List D), argE (List.replicate ds.length false) ds = ds.map fun d => some (.sh d)
  | [] => rfl
  | d :: ds => by
    rw [List.length_cons, List.replicate_succ, List.map_cons, ← argE_vals ds]
    rfl
theorem caln_of {P : Program} {w : World} {K : PySem.W.Frag} {mg : Str → Option Value} {base : Heap} {x : Str} {st : Stmt} {N ps : List Str} {k : Nat} {te : TE} {f : En → Option (List D × En)} (Dd : Df K mg x st ps) (S : FnScope N ps (defScope st)) (hg : DN K te f)
    (hb : ∀ (cdv : Value) (A : Around) (outer : List Env) (s : Shared) (H : Hp) (E : XK), Room k (A.deeper (PyProof.Rows.envOfC x (defScope st) s.heap.objs.size (He.ga K x) cdv)) →
      PSs (cxOf CX0 P w K mg base N x (defScope st) (He.ga K x) cdv A outer s H E).nox (defBody st) (tRet te)) : CalD P w K mg base (k + 1) x (SpN K (bodyN N.length ps.length f)) := by
  obtain ⟨fd, F, ⟨u, hm, r⟩, b⟩ := Dd.ex
  cases r
  refine ⟨fd, ps, ?_, hm, F.kp, b⟩
  refine F.ok S (fun vs H Q E h => ?_) (fun cdv A outer s H vs Q E hr h => ⟨_, hb cdv A outer s H E hr, ?_⟩)
  · obtain ⟨B, ds, l, _, rs, e, _⟩ := h
    unfold bodyN at e
    split at e
    · rename_i hl
      rw [← rs.length]; exact hl
    · cases e
  · obtain ⟨B, ds, l, hs, rs, e, q⟩ := h
    unfold bodyN at e
    split at e
    · rename_i hl
      obtain ⟨⟨l', ρ'⟩, e1, e2⟩ := Option.map_eq_some_iff.mp e
      cases e2
      have ar := ar_vals rs
      have nd : (ownA (List.replicate ds.length false) vs).Nodup := by rw [ownA_false]; exact List.nodup_nil
      have I0 := si_entry (n := N.length) hs ar nd
      rw [argE_vals, List.length_replicate, hl] at I0
      have hvs : vs.length = ps.length := by rw [← rs.length]; exact hl
      have e3 : start N vs = vs.map some ++ List.replicate (N.length - vs.length) none := rfl
      rw [e3]
      refine hg _ _ _ e1 _ B _ H I0 _ fun p us B' H' s' n => ?_
      have ex : ∀ b o, H b = some o → H' b = some o := fun b o z => n.si.fr b o z (by
        show b ∉ ownA (List.replicate ps.length false) vs
        rw [ownA_false]; exact List.not_mem_nil)
      have hp0 : H p = none := n.n0
      refine q p us H' ex hp0 n.at_ (n.rep.grow (B' := hide B p) fun b o nb z => ⟨fun z2 => z2.elim (fun z3 => nb (n.si.hid b z3)) fun z3 => nb (by rw [z3]; exact n.hd), z⟩)
    · cases e
def fCallN (Ff : List D → Option (List D)) (fa : FA) : En → Option (List D × En) := fun ρ => (fArgs fa ρ).bind fun p => (Ff p.1).map fun l => (l, p.2)
theorem dn_callN {K ta fa Ff} (ha : DA K ta fa) : DN K (tCall (SpN K Ff) [] E0 ta) (fCallN Ff fa) := by
  intro ρ ds ρ' e F B σ H I Q q
  obtain ⟨⟨as, ρ1⟩, e1, e⟩ := Option.bind_eq_some_iff.mp e
  obtain ⟨l, e2, e⟩ := Option.map_eq_some_iff.mp e
  cases e
  obtain ⟨ag, e4, e5⟩ := args_split e1
  refine ha _ _ _ e4 F B σ H I _ fun vs B1 H1 I1 s1 r1 => ?_
  rw [List.append_nil]
  refine ⟨B1, as, _, I1.hs, vals_reps r1 e5, e2, fun p us H' ex hp at_ rep => ?_⟩
  have x : Ext H1 H' := ex
  obtain ⟨f1, f2, f3⟩ := I1.fresh hp
  have g : Grow B1 H1 (hide B1 p) H' := .hide x hp
  have I2 := I1.hide (H' := H') x hp ⟨_, at_⟩
  refine q p us (hide B1 p) H' (s1.trans ⟨g, fun b o e _ => x b o e, fun _ _ d e => ⟨d, e⟩, fun b o e => ⟨o, x b o e⟩, fun b h _ => .inl h⟩) ⟨I2, .inr rfl, f2, f1, fun i l d e z => ?_, at_, ?_, ?_⟩
  · obtain ⟨a, z1, _, z3, _⟩ := I1.ow i l d e
    rw [z1] at z
    cases z
    obtain ⟨o, e2⟩ := z3.there
    rw [hp] at e2; cases e2
  · exact rep
  · cases e : H p with
    | none => rfl
    | some o =>
      obtain ⟨o', e'⟩ := s1.there p o e
      rw [hp] at e'; cases e'
end DL

end

section
set_option maxRecDepth 100000
set_option maxHeartbeats 1000000
/-! The data layer, part P: a comprehension over a list of one's own. -/
namespace DL
open PySem PySem.Spec L2
/-- the turns of a comprehension: J's facts may lean on what no slot owns -/
theorem lc_run {K : PySem.W.Frag} {F : Fr} {J : It} {g tt te is p ft fe} {vs : List Nat} {items ds : List D} {ρ0 ρ1 ρ' : En} {σ : L2.St} {B B1 : Hid} {H H1 : Hp} {Q : VK} (hg : DG K is g p) (hv : ∀ i ∈ is, i ∈ vs) (ht : DT K tt ft) (he : DE K te fe) (hp : Tame p)
    (I1 : SI K F B1 ρ1 σ H1) (s1 : Stp ρ0 ρ1 σ B H B1 H1)
    (it : ∀ Bi H', Grow B1 H1 Bi H' → (∀ b o, H1 b = some o → NotOw ρ1 σ b → H' b = some o) → (∀ b, Bi b → ∃ o, H' b = some o) → (∀ (i : Nat) (d : D), items[i]? = some d → J.go i H' ∧ ∀ x H3, J.yld i H' x H3 → Ext H' H3 ∧ Rep K Bi H3 d x) ∧ ∀ i : Nat, items.length ≤ i → J.stop i H')
    (e : lcGo vs p ft fe items [] (wipeE ρ1 vs) = some (ds, ρ')) (q : ∀ p vs B' H', Stp ρ0 ρ' σ B H B' H' → (∀ b o, H1 b = some o → NotOw ρ1 σ b → H' b = some o) → OwSub ρ' ρ1 → (∀ b, B1 b → NotOw ρ1 σ b → B' b) → NewL K F H ρ' σ p vs ds B' H' → Q (.ref p) H') :
    ∀ D0, H1 D0 = none → ∃ W : Nat → Nat → Hp → Prop, (∃ m, W 0 m (upd H1 D0 (.lst []))) ∧ ∀ i m H, W i m H →
      (J.stop i H ∧ Q (.ref D0) H) ∨ (J.go i H ∧ ∃ Nx : Hp → Prop, (∀ H', Nx H' → ∃ m', m' < m ∧ W (i + 1) m' H') ∧ ∀ x H', J.yld i H x H' → g x (wipe σ vs) H' fun σ2 H2 => wipe σ2 vs = wipe σ vs ∧ tt σ2 H2 fun b H3 =>
        if b = true then te σ2 H3 fun y H4 => ∃ acc, H4 D0 = some (.lst acc) ∧ acc.length < sizeLine ∧ Nx (upd H4 D0 (.lst (acc ++ [y]))) else Nx H3) := by
  intro D0 hD
  obtain ⟨f1, f2, f3⟩ := I1.fresh hD
  have x0 : Ext H1 (upd H1 D0 (.lst [])) := Ext.new hD
  have I2 := I1.hide x0 hD ⟨_, upd_same⟩
  refine ⟨fun i m H' => m = items.length - i ∧ i ≤ items.length ∧ ∃ acc ρi Bi vacc, lcGo vs p ft fe (items.drop i) acc ρi = some (ds, ρ') ∧ LcInv K F vs σ ρ1 B1 H1 D0 acc ρi Bi H' vacc, ⟨items.length, by simp, Nat.zero_le _, [], wipeE ρ1 vs, hide B1 D0, [], ?_⟩, ?_⟩
  · refine ⟨by rw [List.drop_zero]; exact e, I2.wiped wipe_wipe, fun j hj => none_wipe hj, .inr rfl, upd_same, .nil, .hide x0 hD, fun b o z _ => x0 b o z, fun i l d q => ⟨d, (wipeE_some q).1⟩, fun b o z => ⟨o, x0 b o z⟩, fun b h _ => .inl h⟩
  · rintro i m H' ⟨rfl, hi, acc, ρi, Bi, vacc, go, L⟩
    have itH := it Bi H' L.gr L.kp L.si.hs
    by_cases hlt : i < items.length
    · have hd : items.drop i = items[i] :: items.drop (i + 1) := (List.drop_eq_getElem_cons hlt)
      rw [hd] at go
      unfold lcGo at go
      obtain ⟨ρ2, e2, go⟩ := Option.bind_eq_some_iff.mp go
      obtain ⟨⟨b, ρ3⟩, e3, go⟩ := Option.bind_eq_some_iff.mp go
      obtain ⟨jgo, jy⟩ := itH.1 i items[i] (List.getElem?_eq_getElem hlt)
      refine .inr ⟨jgo, _, fun H'' z => ⟨items.length - (i + 1), by omega, z⟩, fun x H3 y => ?_⟩
      obtain ⟨x3, rx⟩ := jy x H3 y
      have I3 := L.si.ext x3
      refine hg _ _ _ e2 F Bi (wipe σ vs) H3 x I3 rx _ fun σ2 I4 w4 => ?_
      have w5 : wipe σ2 vs = wipe σ vs := (w4 vs hv).trans wipe_wipe
      refine ⟨w5, ?_⟩
      have sub2 : ∀ (i : Nat) (l : Bool) (d : D), ρ2[i]? = some (some (Sl.ow l d)) → ∃ d', ρi[i]? = some (some (Sl.ow l d')) := fun j l d z => ⟨d, hp _ _ _ e2 j l d z⟩
      refine ht _ _ _ e3 F Bi σ2 H3 I4 _ fun B5 H5 I5 s5 => ?_
      by_cases hb : b = true
      · rw [if_pos hb] at go ⊢
        obtain ⟨⟨y, ρ4⟩, e4, go⟩ := Option.bind_eq_some_iff.mp go
        simp only at go
        split at go
        · rename_i hacc
          refine he _ _ _ e4 F B5 σ2 H5 I5 _ fun v B6 H6 I6 s6 r6 => ?_
          obtain ⟨a1, _, a3⟩ := L.next (y := y) (v := v) I1 hD w5 sub2 x3 I6 (s5.trans s6)
          exact ⟨vacc, a1, szl' (by rw [← L.rep.length]; exact hacc), rfl, hlt, acc ++ [y], wipeE ρ4 vs, B6, _, go, a3 r6⟩
        · cases go
      · rw [if_neg hb] at go ⊢
        obtain ⟨_, a2, _⟩ := L.next (y := .non) (v := .non) I1 hD w5 sub2 x3 I5 s5
        exact ⟨rfl, hlt, acc, wipeE ρ3 vs, B5, _, go, a2⟩
    · have hie : i = items.length := by omega
      subst hie
      rw [List.drop_length] at go
      cases go
      refine .inl ⟨itH.2 _ (Nat.le_refl _), ?_⟩
      have wr : wipe σ vs = wipe (wipe σ vs) vs := wipe_wipe.symm
      have I9 : SI K F Bi (wipeE ρ' vs) σ H' := L.si.wiped wr
      have e9 : wipeE ρ' vs = ρ' := by
        refine List.ext_getElem? fun j => ?_
        by_cases hj : j ∈ vs
        · have hlen := wipeE_length ρ' vs
          rcases none_wipe (ρ := ρ') hj with n | n
          · rw [n]
            have := List.getElem?_eq_none_iff.mp n
            exact (List.getElem?_eq_none (by omega)).symm
          · rw [n]
            rcases L.non j hj with n' | n'
            · have h1 := List.getElem?_eq_none_iff.mp n'
              have h2 := (List.getElem?_eq_some_iff.mp n).1
              omega
            · exact n'.symm
        · have key : ∀ ws : List Nat, j ∉ ws → (wipeE ρ' ws)[j]? = ρ'[j]? := by
            intro ws
            induction ws with
            | nil => intro _; rfl
            | cons u us ih =>
              intro h
              simp only [List.mem_cons, not_or] at h
              unfold wipeE
              rw [List.getElem?_set_ne (Ne.symm h.1), ih h.2]
          exact key vs hj
      rw [e9] at I9
      have nD1 : NotOw ρ1 σ D0 := fun j l d z1 z2 => by
        obtain ⟨a, h1, _, h3, _⟩ := I1.ow j l d z1
        rw [h1] at z2; cases z2
        obtain ⟨o, e⟩ := h3.there
        rw [hD] at e; cases e
      refine q D0 vacc Bi H' (s1.trans ⟨L.gr, L.kp, L.sub, L.th, L.hi⟩) L.kp L.sub L.hi ⟨I9, L.hd, f2, f1, fun j l d z1 z2 => ?_, L.at_, L.rep, ?_⟩
      · obtain ⟨d1, z3⟩ := L.sub j l d z1
        exact nD1 j l d1 z3 z2
      · cases e : H D0 with
        | none => rfl
        | some o =>
          obtain ⟨o', e'⟩ := s1.there D0 o e
          rw [hD] at e'; cases e'

theorem SI.forget {K F B ρ σ H} {i : Nat} (I : SI K F B ρ σ H) : SI K F B (ρ.set i none) σ H := by
  have look : ∀ {j : Nat} {x : Sl}, (ρ.set i none)[j]? = some (some x) → ρ[j]? = some (some x) := fun {j x} e => by
    by_cases h : i = j
    · subst h
      by_cases hl : i < ρ.length
      · rw [List.getElem?_set_self hl] at e; cases e
      · rw [List.getElem?_eq_none (by rw [List.length_set]; omega)] at e; cases e
    · rw [List.getElem?_set_ne h] at e
      exact e
  exact ⟨by rw [List.length_set]; exact I.len, fun j d e => I.sh j d (look e), fun j l d e => I.ow j l d (look e), fun j k l l' d d' a e1 e2 => I.ap j k l l' d d' a (look e1) (look e2), I.fr, I.hid, I.hs, I.b0, I.aB⟩
/-- [.. for .. in name ..], the name's own list kept -/
def fLcB (vs : List Nat) (i : Nat) (p : D → En → Option En) (ft : FT) (fe : FE) : En → Option (List D × En) := fun ρ => match ρ[i]? with
  | some (some (.ow l (.lst items))) => (lcGo vs p ft fe items [] (wipeE (ρ.set i none) vs)).bind fun r => match r.2[i]? with
    | some none => some (r.1, r.2.set i (some (.ow l (.lst items))))
    | _ => none
  | _ => none
theorem dn_lcB {K g tt te is p ft fe} {vs : List Nat} (i : Nat) (hg : DG K is g p) (hv : ∀ i ∈ is, i ∈ vs) (ht : DT K tt ft) (he : DE K te fe) (hp : Tame p) : DN K (tLc (iSq K (tVar i)) g tt te vs) (fLcB vs i p ft fe) := by
  intro ρ ds ρ' e F B σ H I Q q
  unfold fLcB at e
  split at e
  · rename_i l items es
    obtain ⟨⟨ds', ρ2⟩, e1, e2⟩ := Option.bind_eq_some_iff.mp e
    simp only at e2
    split at e2
    · rename_i hn
      cases e2
      obtain ⟨a, h1, h2, ⟨vs0, h3, h4⟩, h5, h6⟩ := I.ow i l _ es
      have I1 := I.forget (i := i)
      have hi : i < ρ.length := (List.getElem?_eq_some_iff.mp es).1
      have na : NotOw (ρ.set i none) σ a := fun j l' d z1 z2 => by
        by_cases h : i = j
        · subst h
          rw [List.getElem?_set_self hi] at z1; cases z1
        · rw [List.getElem?_set_ne h] at z1
          exact h (I.ap i j l l' _ d a es z1 h1 z2)
      have s1 : Stp ρ (ρ.set i none) σ B H B H := ⟨.refl _ _, fun _ _ z _ => z, fun j l' d z => by
        by_cases h : i = j
        · subst h
          rw [List.getElem?_set_self hi] at z; cases z
        · rw [List.getElem?_set_ne h] at z
          exact ⟨d, z⟩, fun b o z => ⟨o, z⟩, fun _ z _ => z⟩
      refine .inl ⟨_, h1, a, rfl, ⟨vs0, .inl (.inl h3)⟩, ?_⟩
      refine lc_run (items := items) hg hv ht he hp I1 s1 (fun Bi H' gr kp hs => ?_) e1 fun pA us B' H' s2 kp sub12 hi12 n => ?_
      · have h3' := kp a _ h3 na
        have h4' := h4.grow gr
        have sq : SqL K H' a vs0 := .inl (.inl h3')
        refine ⟨fun j d ej => ?_, fun j hj => ⟨vs0, sq, by rw [← h4'.length]; exact hj⟩⟩
        obtain ⟨u, hu, ru⟩ := h4'.get ej
        refine ⟨⟨vs0, u, sq, hu⟩, fun x H3 y => ?_⟩
        obtain ⟨eH, ey⟩ := y
        subst eH
        have ez := ey vs0 sq
        rw [hu] at ez
        cases ez
        exact ⟨Ext.refl _, ru⟩
      · have h3' := kp a _ h3 na
        have h4' := h4.grow s2.grow
        have hB : B' a := hi12 a h2 na
        have hne : a ≠ pA := fun z => by
          have w := n.was
          rw [← z, h3] at w; cases w
        have hi2 : i < ρ2.length := (List.getElem?_eq_some_iff.mp hn).1
        have far : ∀ (j : Nat) (l' : Bool) (d : D), j ≠ i → (ρ2.set i (some (.ow l (.lst items))))[j]? = some (some (Sl.ow l' d)) → ρ2[j]? = some (some (Sl.ow l' d)) := fun j l' d h z => by
          rw [List.getElem?_set_ne (Ne.symm h)] at z; exact z
        have no2 : NotOw ρ2 σ a := fun j l' d z1 z2 => by
          obtain ⟨d2, z3⟩ := sub12 j l' d z1
          exact na j l' d2 z3 z2
        have I9 : SI K F B' (ρ2.set i (some (.ow l (.lst items)))) σ H' := by
          refine ⟨by rw [List.length_set]; exact n.si.len, fun j d z => ?_, fun j l' d z => ?_, fun j k l1 l2 d1 d2 b z1 z2 w1 w2 => ?_, n.si.fr, n.si.hid, n.si.hs, n.si.b0, n.si.aB⟩
          · by_cases h : j = i
            · subst h
              rw [List.getElem?_set_self hi2] at z; cases z
            · rw [List.getElem?_set_ne (Ne.symm h)] at z
              exact n.si.sh j d z
          · by_cases h : j = i
            · subst h
              rw [List.getElem?_set_self hi2] at z
              cases z
              exact ⟨a, h1, hB, ⟨vs0, h3', h4'⟩, h5, h6⟩
            · exact n.si.ow j l' d (far j l' d h z)
          · by_cases h : j = i
            · subst h
              by_cases h' : k = j
              · exact h'.symm
              · rw [h1] at w1; cases w1
                exact absurd w2 (no2 k l2 d2 (far k l2 d2 h' z2))
            · by_cases h' : k = i
              · subst h'
                rw [h1] at w2; cases w2
                exact absurd w1 (no2 j l1 d1 (far j l1 d1 h z1))
              · exact n.si.ap j k l1 l2 d1 d2 b (far j l1 d1 h z1) (far k l2 d2 h' z2) w1 w2
        refine q pA us B' H' ⟨s2.grow, s2.keep, fun j l' d z => ?_, s2.there, s2.hid⟩ ⟨I9, n.hd, n.nb, n.n0, fun j l' d z1 z2 => ?_, n.at_, n.rep, n.was⟩
        · by_cases h : j = i
          · subst h
            rw [List.getElem?_set_self hi2] at z
            cases z
            exact ⟨_, es⟩
          · exact s2.sub j l' d (far j l' d h z)
        · by_cases h : j = i
          · subst h
            rw [h1] at z2; cases z2
            exact hne rfl
          · exact n.no j l' d (far j l' d h z1) z2
    · cases e2
  · cases e
end DL

end

section
set_option maxRecDepth 100000
set_option maxHeartbeats 4000000
/-! The data layer, part X1: own exceptions over any base, their first field. -/
namespace DLX
open PySem PySem.Spec PyProof.Rows L2
open PySem.W PySem.Calls PySem.HandSPX
open Builtin Builtin.ObjectAttr
section
variable {prog : Program} {w : World} {A : Around} {E : Value → Shared → Prop} {R : Result → Shared → Prop} {hp : Heap} {g : Array GenState} {d : Drawn} {t : Nat} {os : OsState}
theorem exc_osaG {K : W.Frag} {name : Str} {tk : Tok} {v : Value} {x C : Addr} {fv : Array Value} {cd : ClassData}
    (X : K.In hp) (hx : hp.get? x = some { cls := .ref C, data := .fields fv }) (hcd : W.clsIn K C = some cd) (hp1 : refuseLoop (.ref x) "__setattr__" cd.mro = pure ()) (hp2 : cd.mro.isEmpty = false) (hob : cd.mro.contains (.type "object") = true) (hh : cd.hasDict = true) (ha : W.findIn K (.ref C) name = some none)
    (hq : ∀ h' tk' dx, (∀ b o, b ≠ x → hp.get? b = some o → h'.get? b = some o) → hp.objs.size ≤ dx → dx ≠ x → h'.get? x = some { cls := .ref C, dict := some dx, data := .fields fv } →
      h'.Ns1 dx (fun y => if y = name then some v else none) → R (.ok (.ret .none)) ⟨h', g, d, tk', os⟩) :
    codeAny (model prog w) A (.call (.builtin "object.__setattr__") ⟨[.ref x, .str name tk, v], []⟩) R ⟨hp, g, d, t, os⟩ := by
  have I : W.InstAt hp x { cls := .ref C, data := .fields fv } C none := ⟨hx, rfl, rfl, trivial⟩
  have SF := F.store_object
  have ne := hp2
  have hxs : x ≠ hp.objs.size := Nat.ne_of_lt (Heap.lt_size hx)
  have sub : W.Looks (model prog w) hp (isInstance (.ref x) (.type "object")) true := I.type.andThen (W.looks_mroIn X (by unfold W.mroIn; rw [hcd, Option.bind_some, if_neg (by rw [ne]; decide), hob]))
  refine codeAny_call_builtin SF.slot.plain SF.entry (@W.check_slot (model prog w) _ _ ⟨hp, g, d, t, os⟩ "object.__setattr__" "object" "__setattr__" (.ref x) [.str name tk, v] [] _ SF.kind SF.split sub (SF.args (.ref x) (.str name tk) v) ?_)
  have hmr : W.Looks (model prog w) hp (mroOf (.ref C)) cd.mro := (W.looks_clsIn X hcd).andThen .now
  have L3 : W.Looks (model prog w) hp (storeTaker? none) none := .now
  have hcls : W.Looks (model prog w) hp (classData C) cd := W.looks_clsIn X hcd
  rw [W.osa_eq, refuse_eq]
  refine wpAny_bind (wpAny_bind (I.type.at (wpAny_bind (hmr.at ?_))))
  rw [hp1]
  refine wpAny_pure (wpAny_bind (I.type.at (wpAny_bind ((W.looks_findIn X ha).at (wpAny_bind (L3.at ?_))))))
  show wpAny _ _ (storeInOwnDict (.ref x) (.ref C) (.str name tk) name v false) _ _ _
  obtain ⟨nm, bs, mro, ns, qn, hd, sn, sb, ab, col, del⟩ := cd
  dsimp only at hh
  subst hh
  unfold storeInOwnDict ownDictForStores
  repeat (first | with_reducible refine store_in_new ?_ ?_ | with_reducible refine wpAny_loadPart_at hx ?_ | with_reducible refine hcls.at ?_ | wp_step)
  · exact ⟨_, #[], _, (Heap.get?_update_ne _ _ _ _ hxs.symm).trans (Heap.get?_push_at rfl rfl), rfl, fun e he => absurd he (by simp), fun _ => rfl⟩
  · intro h' tk' hn' hs
    have hx₁ : (hp.push { cls := .type "dict", data := .dict #[] }).get? x = some { cls := .ref C, data := .fields fv } := Heap.get?_push_of_some _ hx
    refine hq h' tk' hp.objs.size (fun b o hb ho => ?_) (Nat.le_refl _) hxs.symm ?_ hn'
    · exact (hs.2 b (Nat.ne_of_lt (Heap.lt_size ho))).trans ((Heap.get?_update_ne _ _ _ _ hb).trans (Heap.get?_push_of_some _ ho))
    · exact (hs.2 x hxs).trans (Heap.get?_update_self _ hx₁ rfl)
end
/-- what the written part says of an exception's class -/
structure OexG (K : PySem.W.Frag) (C : Addr) : Prop where
  cls : ∃ nm q N bs bm sn sub ab col dd k0 k1 k2 k3 k5 B newId initId bmB, K.lookup C = some (excClassObj nm q C N bs bm true sn sub ab col dd k0 k1 k2 k3 k5 newId) ∧ ExcBaseFacts B newId initId bmB ∧ (∀ Y : String, bm.contains (.type Y) = bmB.contains (.type Y)) ∧
    (∀ self : Value, refuseLoop self "__setattr__" (.ref C :: bm) = pure ()) ∧ (Value.ref C :: bm).contains (.type "object") = true
  sa : PySem.W.findIn K (.ref C) "__setattr__" = some (some (.builtin "object.__setattr__"))
  exC : PySem.W.subIn K (.ref C) (.type "BaseException") = some true
  tyC : PySem.W.typeIn K (.ref C) = some (.type "type")
  kC : PySem.W.keepIn K (.ref C) = true
section
variable {X : Cx} {pins : List (Addr × Obj)} {σ : L2.St} {H : Hp} {s : Shared} {a C dx : Addr} {f : Str} {y : V} {u : Value} {fs : List (Str × V)} {Q : Unit → Shared → Prop} {E : Value → Shared → Prop} {A : Around}
theorem ost_newG (T : OexG X.K C) (I : Inv X pins σ H s) (e : H a = some (exo a C none)) (hno : PySem.W.findIn X.K (.ref C) f = some none) (ry : RelV y u)
    (h : ∀ dx s', H dx = none → dx ≠ a → Inv X pins σ (upd (upd H dx (exd dx [(f, y)])) a (exo a C (some dx))) s' → Q () s') : wpAny (model X.prog X.w) A (setAttr (.ref a) f u) Q E s := by
  obtain ⟨nm, q, N, bs, bm, sn, sub, ab, col, dd, k0, k1, k2, k3, k5, Bn, newId, initId, bmB, hC, FB, hbm, hpass, hobj⟩ := T.cls
  have hcl : PySem.W.clsIn X.K C = some { name := nm, bases := bs, mro := .ref C :: bm, ns := N, qualname := q, hasDict := true, slotNames := sn, subclasses := sub, abstract := ab, collection := col, hasDel := false } := by unfold PySem.W.clsIn; rw [hC] <;> rfl
  obtain ⟨t1, ho⟩ := exo_at I.hok e
  obtain ⟨hp, g, d, t, os⟩ := s
  refine PySem.W.set_plain I.kIn (ox := { cls := .ref C, dict := none, data := .fields #[.ref t1, .none, .none, .none, .bool false, .none] }) (od := none) ⟨ho, rfl, rfl, trivial⟩ T.sa ?_
  refine exc_osaG I.kIn ho hcl (hpass _) rfl hobj rfl hno (fun h' tk' dx k dn dne hx hn => ?_)
  have hnd : H dx = none := I.hok.fresh dn
  have nd : ∀ {b : Addr} {o : Obj}, hp.get? b = some o → b ≠ dx := fun {b o} q => Nat.ne_of_lt (Nat.lt_of_lt_of_le (Heap.lt_size q) dn)
  have na : ∀ {b : Addr}, H b = none → b ≠ a := fun {b} n z => by
    rw [z, e] at n
    cases n
  have Un1 : Un X.fs [] H (upd (upd H dx (exd dx [(f, y)])) a (exo a C (some dx))) hp h' := {
    keep := fun b o q n _ _ => k b o (na n) q
    slot := fun b o q n _ _ => ⟨o.slots, k b o (na n) q⟩
    free := fun b o q n _ => by rw [upd_ne (na n), upd_ne (nd q)]; exact n
    there := fun b o q _ => by
      by_cases hb : b = a
      · exact ⟨_, by rw [hb]; exact hx⟩
      · exact ⟨o, k b o hb q⟩
    tups := fun b xs q => by rw [upd_ne (at_ne e q exo_tup), upd_ne (ne_of_none q hnd)]; exact q
    frzs := fun b o v q => by rw [upd_ne (at_ne e q exo_frz), upd_ne (ne_of_none q hnd)]; exact q
    tbls := fun b ps q => ⟨#[], by rw [upd_ne (at_ne e q exo_tbl), upd_ne (ne_of_none q hnd), q]; simp⟩ }
  refine h dx _ hnd dne (I.un (t' := tk') Un1 fun b o q => ?_)
  by_cases hb : b = a
  · subst hb
    rw [upd_same] at q
    cases q
    exact exo_ok hx
  · rw [upd_ne hb] at q
    by_cases hd : b = dx
    · subst hd
      rw [upd_same] at q
      cases q
      exact exd_ok hn (relO_put (fs := []) ry fun g => True.intro)
    · rw [upd_ne hd] at q
      exact (I.hok b o q).stay (fun c v hc z => k c v (by
          rcases hc with hc | hc
          · rw [hc]
            exact hb
          · exact at_ne e hc exo_own) z)
        (fun c hc => by rw [upd_ne (at_ne e hc exo_own), upd_ne (ne_of_none hc hnd)]; exact hc) (fun c xs hc => by rw [upd_ne (at_ne e hc exo_tup), upd_ne (ne_of_none hc hnd)]; exact hc)
end
/-- self.f = e, the first field -/
def tOstG (K : PySem.W.Frag) (f : Str) (to te : TE) : TS := fun D σ H => te σ H fun y H1 => to σ H1 fun x H2 => ∃ a C : Addr, x = .ref a ∧ OexG K C ∧ PySem.W.findIn K (.ref C) f = some none ∧
  (H2 a = some (exo a C none) ∧ ∀ dx, H2 dx = none → dx ≠ a → D.nx σ (upd (upd H2 dx (exd dx [(f, y)])) a (exo a C (some dx))))
section
variable {X : Cx} {o e : Expr} {es : List Expr} {to te : TE} {ta : TA} {f : Str} {p p' p1 p2 pos : Pos}
theorem pmk_oexG {CX : CXT} {x : Str} {C fI : Addr} {k : Nat} {fd : FuncData} {ps : List Str} {sp : Sp} {ds : List Value} {dvs : List V} (T : OexG X.K C) (iC : PySem.W.findIn X.K (.ref C) "__init__" = some (some (.ref fI))) (tI : PySem.W.typeIn X.K (.ref fI) = some (.type "function"))
    (F1 : FnOk X.prog X.w X.K X.mg X.base CX k fI fd ps sp) (hr : Room (k + 1) X.A) (hb : Binds X.K fd ps ds) (hd : Vals dvs ds) (hx : Passes CX X (fun _ _ _ => False)) (hg : Gl X x) (hm : X.mg x = some (.ref C)) (ha : PA X (e :: es) ta)
    (hdb : (x == ("__debug__" : Str)) = false := by decide) (he : starEach (e :: es) X.env = (false, eval e X.env) :: starEach es X.env := by rfl) (hpl : (backTo pos (starEach es X.env)).any (·.1) = false := by rfl) :
    PMk X (.Call (.Name x p) (e :: es) [] pos) (tMkO C sp dvs ta) := by
  intro pins s σ H Q I h
  obtain ⟨nm, q, N, bs, bm, sn, sub, ab, col, dd, k0, k1, k2, k3, k5, Bn, newId, initId, bmB, hC, FB, hbm, hpass, hobj⟩ := T.cls
  refine wpAny_Call_Name_kw (ld_glob I hg hm ?_ hdb)
  refine PySem.W.callWith_K (h₀ := X.base) I.ok.mod.kin T.kC (thn (ha.run pos pins s σ H _ I h) fun us s1 ⟨vs, H1, I1, r1, hz, q1⟩ => ⟨I1.kIn, ?_⟩) he hpl
  show wpAny _ _ (call (.ref C) us) _ _ _
  obtain ⟨hp, g, dr, tk, os⟩ := s1
  have hsz : hp.objs.size ≤ hp.objs.size + 1 := Nat.le_succ _
  have hn : H1 (hp.objs.size + 1) = none := I1.hok.fresh hsz
  have hq := q1 (hp.objs.size + 1) hn
  have kk : ∀ b o, hp.get? b = some o → ((hp.push (PySem.W.kdv_tup us)).push (PySem.HandSPX.excO C hp.objs.size)).get? b = some o := fun b o e => Heap.get?_push_of_some _ (Heap.get?_push_of_some _ e)
  have hget : ((hp.push (PySem.W.kdv_tup us)).push (PySem.HandSPX.excO C hp.objs.size)).get? (hp.objs.size + 1) = some (PySem.HandSPX.excO C hp.objs.size) := by heap_get
  have I2 : Inv X pins σ (upd H1 (hp.objs.size + 1) (exo (hp.objs.size + 1) C none)) ⟨(hp.push (PySem.W.kdv_tup us)).push (PySem.HandSPX.excO C hp.objs.size), g, dr, tk, os⟩ :=
    I1.laid (t' := tk) (a := hp.objs.size + 1) (o := exo (hp.objs.size + 1) C none) (h' := (hp.push (PySem.W.kdv_tup us)).push (PySem.HandSPX.excO C hp.objs.size)) kk hsz (exo_ok hget)
  have r2 : Vals (V.ref (hp.objs.size + 1) :: (vs ++ dvs)) (Value.ref (hp.objs.size + 1) :: (us ++ ds)) := .cons rfl (r1.append hd)
  have hl : (Value.ref (hp.objs.size + 1) :: us ++ ds).length = ps.length := by
    have e := r2.length
    rw [F1.len _ _ _ _ hq] at e
    exact e.symm
  have hus : us.length ≤ sizeLine := by
    rw [← Paired.length r1, sizeLine_eq]
    omega
  refine wpAny_call (PySem.HandSPX.call_own FB hbm (I1.kIn _ _ hC) (PySem.W.looks_findIn I1.kIn iC) (fun self => PySem.W.bind_fn I1.kIn self tI) hus
    (codeAny_mono (F1.run _ X.stack _ _ ⟨Value.ref (hp.objs.size + 1) :: us, []⟩ (Value.ref (hp.objs.size + 1) :: (us ++ ds)) _ _ (fun _ _ _ => False) (hr.make C us []) (I2.env0.make C us []) (hb _ (Value.ref (hp.objs.size + 1) :: us) I2.kIn hl) r2 hq) fun r s' hq' => ?_))
  cases r with
  | error er => exact hx pins σ _ _ er s' I2 hq'
  | ok fl =>
    cases fl with
    | ret u =>
      obtain ⟨v, H2, os2, bare2, un2, hok2, rv, ev, d, fs, ea, ed, hd1, q2⟩ := hq'
      subst ev
      obtain ⟨h2, g2, d2, t2, os'⟩ := s'
      exact ⟨rv, mk_end (raises_own T.exC T.tyC) I1 hsz kk un2 hok2 os2 bare2 ea ed hd1 q2⟩
    | next => exact False.elim hq'
    | brk => exact False.elim hq'
    | cont => exact False.elim hq'
end
end DLX

end

section
set_option maxRecDepth 100000
set_option maxHeartbeats 4000000
/-! The data layer, part X2: except clauses with names, isinstance of what was caught. -/
namespace DLX
open PySem PySem.Spec PyProof.Rows L2
/-- what the clauses wish of an exception of the body, one after the other; the i-th slot takes it -/
def wManyA (K : PySem.W.Frag) (Wout : WX) (D : Ends) : List (Value × Nat × (Addr → Value → Option Addr → TS)) → WX
  | [] => Wout
  | (c, i, ts) :: r => fun cls d σ H => ∃ b, PySem.W.exmOne K cls c = some b ∧ (b = true → ∀ a, H a = none → ts a cls d { nx := fun σ' H' => D.nx (σ'.set i none) H', rt := D.rt, bk := fun σ' H' => D.bk (σ'.set i none) H', ct := fun σ' H' => D.ct (σ'.set i none) H' } (σ.set i (some (.ref a))) H) ∧
    (b = false → wManyA K Wout D r cls d σ H)
inductive HdsA (X : Cx) : List ExceptHandler → List (Value × Nat × (Addr → Value → Option Addr → TS)) → Prop
  | nil : HdsA X [] []
  | cons {x n : Str} {c : Value} {i : Nat} {ts : Addr → Value → Option Addr → TS} {b₀ : Stmt} {suite : List Stmt} {np pos' : Pos} {hds : List ExceptHandler} {l : List (Value × Nat × (Addr → Value → Option Addr → TS))} (hi : X.N[i]? = some n) (hln : X.env.kindOf n = some .local) (hc : Names X x c)
      (hsu : ∀ (a : Addr) (oe : Obj) (cls : Value) (d : Option Addr) (pn : List (Addr × Obj)), Zc cls d oe → (∃ vs, oe.data = .fields vs) → PSs (X.suite a ((a, oe) :: pn)) (b₀ :: suite) (ts a cls d)) (r : HdsA X hds l) :
      HdsA X (.ExceptHandler (some (.Name x np)) (some n) (b₀ :: suite) pos' :: hds) ((c, i, ts) :: l)
section
variable {X : Cx} {body : List Stmt} {h₀ : ExceptHandler} {hds : List ExceptHandler} {l : List (Value × Nat × (Addr → Value → Option Addr → TS))} {pos : Pos} {tb : WX → TS} {Wout : WX}
theorem ps_try_manyAs (hs : X.stack = X.env :: X.outer) (hN : X.N.Nodup) (hf : X.env.frame = some X.env.locals) (tk : Takes X Wout)
    (hb : ∀ (W : WX) (pn : List (Addr × Obj)) (xe : Value → Shared → Prop), Takes (X.tr pn xe) W → PassesOwn (model X.prog X.w) X.A X.env xe → PSs (X.tr pn xe) body (tb W))
    (hh : HdsA X (h₀ :: hds) l) : PS X (.Try body (h₀ :: hds) [] [] pos) (fun D σ H => tb (wManyA X.K Wout D l) D σ H) := by
  refine ⟨fun pins s σ H D I h => ?_⟩
  have ok := I.ok
  have hfr : X.A.frames = some (X.env :: X.outer) := by rw [ok.frames, hs]
  refine wpAny_Try_except ?_
  refine wpAny_mono ((hb (wManyA X.K Wout D l) (X.pn ++ pins) (fun e s₁ => wpAny (model X.prog X.w) X.A (noteFrame e X.env) (fun _ s₂ => wpAny (model X.prog X.w) X.A (setFlight e none) (fun _ s₃ =>
    wpAny (model X.prog X.w) X.A (handleBy e X.env (h₀ :: hds)) (SP X pins D) X.xe s₃) X.xe s₂) X.xe s₁) (fun u s' xx => ?_) PassesOwn.looking).run [] s σ H D (I.toTry _) h) (fun f s1 hsp => ?_) (fun e s1 he => he)
  · -- the catch
    obtain ⟨a, B, sI, pins', σ', H', cls, d, rfl, J', nb, up, sky, na, os, ag, w⟩ := xx
    have J : Inv X pins σ' H' sI := J'.ofTry ok
    have sky' : Sky B (X.env :: X.outer) a (Zc cls d) X.env.locals s'.heap := by rw [← hs]; exact sky
    show wpAny (model X.prog X.w) X.A (noteFrame (.ref a) X.env) _ _ _
    refine Sky.land Zc.steady hfr hf sky' fun h3 fl3 up3 => ?_
    have J3 : Inv X pins σ' H' { s' with heap := h3 } := J.landed nb fl3.1 (up.trans up3) os ag
    obtain ⟨oe3, vs3, he3, hz3, hd3⟩ := fl3.there
    have notFr : ∀ {h : Heap} {o : Obj} {vs : Array Value}, h.FunFrames B (X.env :: X.outer) → h.get? a = some o → o.data = .fields vs → a ∉ frs (X.env :: X.outer) := fun {h o vs} ff e dd hm => by
      obtain ⟨_, o', e', hnf⟩ := ff.mem hm
      rw [e] at e'; cases e'
      exact hnf _ dd
    have nfr := notFr fl3.2.2.1 he3 hd3
    have nL : a ≠ X.env.locals := fun z => nfr (List.mem_filterMap.mpr ⟨X.env, List.mem_cons_self, by rw [hf, z]⟩)
    have nF : a ∉ X.fs := fun hm => by
      obtain ⟨e, he, q⟩ := List.mem_filterMap.mp hm
      exact nfr (List.mem_filterMap.mpr ⟨e, List.mem_cons_of_mem _ he, q⟩)
    have S3 := J3.suite he3 hd3 na nL nF
    have go : ∀ {hds' : List ExceptHandler} {l' : List (Value × Nat × (Addr → Value → Option Addr → TS))}, HdsA X hds' l' → wManyA X.K Wout D l' cls d σ' H' →
        wpAny (model X.prog X.w) X.A (handleBy (.ref a) X.env hds') (SP X pins D) X.xe { s' with heap := h3 } := by
      intro hds' l' hk
      induction hk with
      | nil =>
        intro w
        refine wpAny_handleBy_nil ?_
        obtain ⟨k1, k2, k3, oe, vs, T, oT, ts', he, hz, hd, h1, hr⟩ := id fl3
        unfold PySem.passOn
        refine wpAny_bind (wpAny_field he hd h1 ?_)
        rw [if_neg (show ¬ ((Value.ref T == Value.none) = true) from by simp)]
        have fin : wpAny (model X.prog X.w) X.A (setFlight (.ref a) X.env.frame) (fun _ s4 => wpAny (model X.prog X.w) X.A (throw (.ref a) : Sem Flow) (SP X pins D) X.xe s4) X.xe { s' with heap := h3 } := by
          rw [hf]
          refine HandSPX.setFlight_upZ fl3 fun h4 hh4 up4 => wpAny_throw (tk _ _ ?_)
          exact ⟨a, B, sI, pins, σ', H', cls, d, rfl, J, nb, (up.trans up3).trans up4, .inr (.inr (by rw [hs]; exact hh4)), na, os, ag, w⟩
        first
          | exact wpAny_bind (wpAny_pure (wpAny_bind fin))
          | exact wpAny_bind fin
      | @cons x n c i ts b₀ suite np pos' hds2 l2 hi hln hc hsu r ih =>
        have hloc : Loc X.env.scope n := .inl hln
        intro w
        obtain ⟨b, hb1, hyes, hno⟩ := w
        refine wpAny_handleBy_cons (codeAny_handlers_test ?_) (by intro q; cases q)
        have LT : PySem.W.Looks (model X.prog X.w) h3 (typeOf (.ref a)) cls := fun A Q E s k q => wpAny_typeOf_ref (k _ _ he3) (by rw [hz3.1]; exact q)
        have LM := PySem.W.exm_one (M := model X.prog X.w) (J3.kIn) LT hb1
        have test : ∀ {Q : Value → Shared → Prop} {E : Value → Shared → Prop}, Q c { s' with heap := h3 } → wpAny (model X.prog X.w) (X.A.mark (some (.ref a))) (eval (.Name x np) X.env) Q E { s' with heap := h3 } := fun {Q E} q => by
          obtain ⟨hg, hdbg, hm | ⟨hm, hv, hnn⟩⟩ := hc
          · exact ld_glob (X := X.suite a ((a, oe3) :: (X.pn ++ pins))) S3 hg hm q hdbg
          · exact ld_blt (X := X.suite a ((a, oe3) :: (X.pn ++ pins))) S3 hg hm hv q hnn hdbg
        refine test (LM.here ?_)
        cases b with
        | true =>
          refine codeAny_handlers_suite_as ?_
          refine HandSPX.lands_againZ fl3 fun h4 fl4 up4 => ?_
          have J4 : Inv X pins σ' H' { s' with heap := h4 } := J.landed nb fl4.1 ((up.trans up3).trans up4) os ag
          obtain ⟨oe4, vs4, he4, hz4, hd4⟩ := fl4.there
          have S4 := J4.suite he4 hd4 na nL nF
          refine store_ok (X := X.suite a ((a, oe4) :: (X.pn ++ pins))) (v := .ref a) S4 hN hi hloc rfl (fun s5 S5 => ?_) (.inr hln)
          refine wpAny_mono ((hsu a oe4 cls d (X.pn ++ pins) hz4 ⟨_, hd4⟩).run [] s5 _ H' _ S5 (hyes rfl a na)) (fun f s6 hsp => ?_) (fun _ _ z => False.elim z)
          have end_ : ∀ {σ6 : L2.St} {H6 : Hp} {Q : Shared → Prop}, Inv (X.suite a ((a, oe4) :: (X.pn ++ pins))) [] σ6 H6 s6 → (∀ s7, Inv X pins (σ6.set i none) H6 s7 → Q s7) →
              wpAny (model X.prog X.w) X.A (do bindName X.env n .none; unbindBehindTheSuite X.env n pos') (fun _ s7 => Q s7) X.xe s6 := fun {σ6 H6 Q} S6 hq => gone_ok (S6.unsuite ok) hN hi hln hq
          cases f with
          | next =>
            obtain ⟨σ6, H6, S6, q6⟩ := hsp
            exact end_ S6 fun s7 J7 => ⟨_, _, J7, q6⟩
          | brk =>
            obtain ⟨σ6, H6, S6, q6⟩ := hsp
            exact end_ S6 fun s7 J7 => ⟨_, _, J7, q6⟩
          | cont =>
            obtain ⟨σ6, H6, S6, q6⟩ := hsp
            exact end_ S6 fun s7 J7 => ⟨_, _, J7, q6⟩
          | ret u =>
            obtain ⟨v6, σ6, H6, S6, r6, q6⟩ := hsp
            exact end_ S6 fun s7 J7 => ⟨_, _, _, J7, r6, q6⟩
        | false =>
          show wpAny _ X.A (handleBy (.ref a) X.env hds2) _ _ _
          exact ih (hno rfl)
    exact go hh w
  · cases f with
    | next =>
      obtain ⟨σ', H', J', q⟩ := hsp
      exact wpAny_execs_nil ⟨σ', H', J'.ofTry ok, q⟩
    | brk =>
      obtain ⟨σ', H', J', q⟩ := hsp
      exact ⟨σ', H', J'.ofTry ok, q⟩
    | cont =>
      obtain ⟨σ', H', J', q⟩ := hsp
      exact ⟨σ', H', J'.ofTry ok, q⟩
    | ret u =>
      obtain ⟨v, σ', H', J', r, q⟩ := hsp
      exact ⟨v, σ', H', J'.ofTry ok, r, q⟩
end
/-- isinstance(e, c), e what the suite caught, with its dict or none -/
def rIsED (K : PySem.W.Frag) (D a : Addr) (d : Option Addr) : List V → Hp → VK → Prop := fun xs H Q => ∃ (c : V) (cv : Value) (b : Bool), xs = [.ref a, c] ∧ (∀ u, RelV c u → u = cv) ∧ PySem.W.kitOne K (.ref D) cv = some b ∧ (∀ dd, d = some dd → ∃ fs, H dd = some (.xd fs)) ∧ Q (.bl b) H
theorem call_isED {X : Cx} {a D : Addr} {oe : Obj} {d : Option Addr} {pn : List (Addr × Obj)} (C : ExcC X.K D) (hz : Zc (.ref D) d oe) (hf : ∃ vs, oe.data = .fields vs) : CallR (X.suite a ((a, oe) :: pn)) (.builtin "isinstance") (rIsED X.K D a d) := by
  intro pins s σ H xs us Q I r h
  obtain ⟨c, cv, b, rfl, hcv, e, hd, q⟩ := h
  cases r with
  | cons rx rr =>
    cases rr with
    | cons rt rr =>
      cases rr
      cases rx
      have ec := hcv _ rt
      subst ec
      obtain ⟨hget, _⟩ := I.pin (a, oe) (List.mem_append.mpr (.inl List.mem_cons_self))
      obtain ⟨vs, hv⟩ := hf
      have J : ∃ od, PySem.W.InstAt s.heap a oe D od := by
        obtain ⟨oc, od, oda, osl⟩ := oe
        obtain ⟨h1, h2⟩ := hz
        dsimp only at h1 h2 hv
        subst h1 h2 hv
        cases od with
        | none => exact ⟨none, hget, rfl, rfl, trivial⟩
        | some dd =>
          obtain ⟨fs, hx⟩ := hd dd rfl
          obtain ⟨mA, hns, _⟩ := (show ObjOk X.prog X.w H s.heap dd (.xd fs) from I.hok dd _ hx)
          obtain ⟨od, ho, _⟩ := lookIn_ns hns
          exact ⟨some od, hget, rfl, rfl, ho⟩
      obtain ⟨od, J⟩ := J
      have hcl : (PySem.W.clsIn X.K D).isSome = true := by
        obtain ⟨cd, hc, _⟩ := PySem.W.any_some C.hd
        rw [hc]; rfl
      exact PySem.W.kia_one (PySem.W.kitx_exc hcl C.hg C.hk C.hs C.ha C.hn C.ht C.hm) I.kIn J e (fun z => nomatch z) fun tk => ⟨.bl b, H, I.kept (t' := tk) fun _ _ z => z, rfl, q⟩
end DLX

end

section
set_option maxRecDepth 100000
set_option maxHeartbeats 1000000
/-! The data layer, part X3: defs that raise, by data. -/
namespace DL
open PySem PySem.Spec DLX
open L2 hiding Ext Ext.trans

/-- an exception of the class c with these fields: its class, its dict -/
def XF (K : PySem.W.Frag) (B : Hid) (H : Hp) (c : Str) (fs : List (Str × D)) (cls : Value) (dd : Option Addr) : Prop := cls = .ref (He.ga K c) ∧ ((fs = [] ∧ dd = none) ∨ (fs ≠ [] ∧ ∃ d vfs, dd = some d ∧ H d = some (.xd vfs) ∧ ¬ B d ∧ Repf K B H fs vfs))
theorem XF.grow {K B H B' H' c fs cls dd} (x : XF K B H c fs cls dd) (g : Grow B H B' H') : XF K B' H' c fs cls dd := by
  obtain ⟨e, h⟩ := x
  refine ⟨e, ?_⟩
  rcases h with h | ⟨h0, d, vfs, h1, h2, h3, h4⟩
  · exact .inl h
  · exact .inr ⟨h0, d, vfs, h1, (g _ _ h3 h2).2, (g _ _ h3 h2).1, h4.grow g⟩
/-- how a def ends -/
inductive Rz where
  | ok (d : D) | ex (c : Str) (fs : List (Str × D))
abbrev DFX := List D → Option Rz
def RzOk (K : PySem.W.Frag) (B : Hid) (H : Hp) (Q : VK) (E : XK) : Rz → Prop
  | .ok d => ∀ v H', Ext H H' → Rep K B H' d v → Q v H'
  | .ex c fs => ∀ cls dd H', Ext H H' → XF K B H' c fs cls dd → E cls dd H'
def SpX (K : PySem.W.Frag) (Fx : DFX) : Sp := fun vs H Q E => ∃ (B : Hid) (ds : List D) (r : Rz), (∀ b, B b → ∃ o, H b = some o) ∧ Reps K B H ds vs ∧ Fx ds = some r ∧ RzOk K B H Q E r
inductive OX where
  | nm (o : Out) | ex (c : Str) (fs : List (Str × D)) (ρ : En)
abbrev FSX := En → Option OX
def OXOk (K : PySem.W.Frag) (W : WX) (F : Fr) (B : Hid) (H : Hp) (E : Ends) : OX → Prop
  | .nm o => OutOk K F B H E o
  | .ex c fs ρ' => ∀ cls dd σ' B' H', SI K F B' ρ' σ' H' → Grow B H B' H' → XF K B' H' c fs cls dd → W cls dd σ' H'
def DX (K : PySem.W.Frag) (W : WX) (t : TS) (g : FSX) : Prop := ∀ ρ o, g ρ = some o → ∀ F B σ H, SI K F B ρ σ H → ∀ E : Ends, OXOk K W F B H E o → t E σ H
def gxNm (g : FS) : FSX := fun ρ => (g ρ).map .nm
theorem dx_nm {K W t g} (h : DS K t g) : DX K W t (gxNm g) := by
  intro ρ o e F B σ H I E q
  obtain ⟨o', e1, e2⟩ := Option.map_eq_some_iff.mp e
  subst e2
  exact h _ _ e1 F B σ H I E q
theorem OXOk.grow {K W F B H B1 H1 E o} (k : OXOk K W F B H E o) (g : Grow B H B1 H1) : OXOk K W F B1 H1 E o := by
  cases o with
  | nm o => exact OutOk.grow k g
  | ex c fs ρ => exact fun cls dd σ' B' H' I g' x => k cls dd σ' B' H' I (g.trans g') x
def gxSeq (g h : FSX) : FSX := fun ρ => (g ρ).bind fun o => match o with
  | .nm (.nx ρ1) => h ρ1
  | o => some o
theorem dx_seq {K W t u g h} (hg : DX K W t g) (hh : DX K W u h) : DX K W (tSeq t u) (gxSeq g h) := by
  intro ρ o e F B σ H I E q
  obtain ⟨o1, e1, e⟩ := Option.bind_eq_some_iff.mp e
  refine hg _ _ e1 F B σ H I _ ?_
  split at e
  · intro σ' B' H' I' g'
    exact hh _ _ e F B' σ' H' I' E (q.grow g')
  · rename_i hne
    cases e
    cases o with
    | ex c fs ρ => exact q
    | nm o =>
      cases o with
      | nx ρ1 => exact absurd rfl (hne ρ1)
      | rt d ρ1 => exact q
      | bk ρ1 => exact q
      | ct ρ1 => exact q
def gxIf (f : FT) (g h : FSX) : FSX := fun ρ => (f ρ).bind fun p => if p.1 = true then g p.2 else h p.2
theorem dx_if {K W tt t u f g h} (hc : DT K tt f) (hg : DX K W t g) (hh : DX K W u h) : DX K W (tIfS tt t u) (gxIf f g h) := by
  intro ρ o e F B σ H I E q
  obtain ⟨⟨b, ρ1⟩, e1, e⟩ := Option.bind_eq_some_iff.mp e
  refine hc _ _ _ e1 F B σ H I _ fun B1 H1 I1 s1 => ?_
  by_cases hb : b = true
  · simp only [hb, if_true] at e ⊢
    exact hg _ _ e F B1 σ H1 I1 E (q.grow s1.grow)
  · simp only [hb, if_false] at e ⊢
    exact hh _ _ e F B1 σ H1 I1 E (q.grow s1.grow)

/-! ### raise C(e), C() -/
/-- what an exception's __init__ of one field does -/
def spOex (K : PySem.W.Frag) (C : Addr) (f : Str) : Sp := fun vs H Q _ => ∃ a v, vs = [.ref a, v] ∧ H a = some (exo a C none) ∧ ∀ dx, H dx = none → dx ≠ a → Q .non (upd (upd H dx (exd dx [(f, v)])) a (exo a C (some dx)))
def gxRaise1 (c f : Str) (fe : FE) : FSX := fun ρ => (fe ρ).map fun p => .ex c [(f, p.1)] p.2
theorem dx_raise1 {K W c f te fe} (he : DE K te fe) : DX K W (fun _ σ H => tMkO (He.ga K c) (spOex K (He.ga K c) f) [] (tCons te tNil) σ H fun cls d H' => W cls d σ H') (gxRaise1 c f fe) := by
  intro ρ o e F B σ H I E q
  obtain ⟨⟨d, ρ1⟩, e1, e2⟩ := Option.map_eq_some_iff.mp e
  subst e2
  refine he _ _ _ e1 F B σ H I _ fun v B1 H1 I1 s1 r1 => ?_
  refine ⟨by show 1 ≤ 1000; decide, fun a ha => ⟨a, v, rfl, upd_same, fun dx hdx hne => ⟨rfl, dx, [(f, v)], upd_same, ?_, ?_, ?_⟩⟩⟩
  · rw [upd_ne hne, upd_same]
  · rw [upd_ne hne] at hdx; exact hdx
  · have hd1 : H1 dx = none := by rw [upd_ne hne] at hdx; exact hdx
    have eH : upd (del (upd (upd (upd H1 a (exo a (He.ga K c) none)) dx (exd dx [(f, v)])) a (exo a (He.ga K c) (some dx))) a) dx (.xd [(f, v)]) = upd H1 dx (.xd [(f, v)]) := by
      funext b
      by_cases h1 : b = dx
      · subst h1; rw [upd_same, upd_same]
      · rw [upd_ne h1, upd_ne h1]
        by_cases h2 : b = a
        · subst h2; rw [del_same, ha]
        · rw [del_ne h2, upd_ne h2, upd_ne h1, upd_ne h2]
    rw [eH]
    have x : Ext H1 (upd H1 dx (.xd [(f, v)])) := Ext.new hd1
    exact q _ _ _ B1 _ (I1.ext x) (s1.grow.trans x.grow) ⟨rfl, .inr ⟨by simp, dx, [(f, v)], rfl, upd_same, fresh_vis I1.hs hd1, .cons (r1.grow x.grow) .nil⟩⟩
def gxRaise0 (c : Str) : FSX := fun ρ => some (.ex c [] ρ)
theorem dx_raise0 {K W c} : DX K W (fun _ σ H => (fun σ H (Q : XK) => Q (.ref (He.ga K c)) none H) σ H fun cls d H' => W cls d σ H') (gxRaise0 c) := by
  intro ρ o e F B σ H I E q
  cases e
  exact q _ _ σ B H I (.refl _ _) ⟨rfl, .inl ⟨rfl, rfl⟩⟩

/-! ### calls of such defs -/
def tCallX (sp : Sp) (E : L2.St → XK) (t : TA) : TE := fun σ H Q => t σ H fun vs H1 => sp vs H1 Q (E σ)
/-- f(..) as a statement -/
def gxCall (Fx : DFX) (fa : FA) : FSX := fun ρ => (fArgs fa ρ).bind fun p => (Fx p.1).map fun r => match r with
  | .ok _ => .nm (.nx p.2)
  | .ex c fs => .ex c fs p.2
theorem spx_of {K Fx} {F : Fr} {B : Hid} {ρ : En} {σ : L2.St} {H : Hp} {ds : List D} {vs : List V} {r : Rz} {Q : VK} {E : XK} (I : SI K F B ρ σ H) (rs : Reps K B H ds vs) (e : Fx ds = some r)
    (h : RzOk K B H Q E r) : SpX K Fx vs H Q E := ⟨B, ds, r, I.hs, rs, e, h⟩
theorem dx_call {K W ta fa Fx} (ha : DA K ta fa) : DX K W (tDrop (tCallX (SpX K Fx) (WE W) ta)) (gxCall Fx fa) := by
  intro ρ o e F B σ H I E q
  obtain ⟨⟨as, ρ1⟩, e1, e⟩ := Option.bind_eq_some_iff.mp e
  obtain ⟨r, e2, e⟩ := Option.map_eq_some_iff.mp e
  subst e
  obtain ⟨ag, e4, e5⟩ := args_split e1
  refine ha _ _ _ e4 F B σ H I _ fun vs B1 H1 I1 s1 r1 => ?_
  refine spx_of I1 (vals_reps r1 e5) e2 ?_
  cases r with
  | ok d => exact fun v H' x _ => q σ B1 H' (I1.ext x) (s1.grow.trans x.grow)
  | ex c fs => exact fun cls dd H' x xf => q cls dd σ B1 H' (I1.ext x) (s1.grow.trans x.grow) xf
/-- return (a text, f(..)) -/
def gxRet2 (z : Str) (Fx : DFX) (fa : FA) : FSX := fun ρ => (fArgs fa ρ).bind fun p => (Fx p.1).map fun r => match r with
  | .ok d => .nm (.rt (.tup [.str z, d]) p.2)
  | .ex c fs => .ex c fs p.2
theorem dx_ret2 {K W z ta fa Fx} {te : TE} (hte : ∀ σ H Q, (ta σ H fun vs H1 => SpX K Fx vs H1 Q (WE W σ)) → te σ H Q) (ha : DA K ta fa) : DX K W (tRet (tTup (tCons (tC (.str z)) (tCons te tNil)))) (gxRet2 z Fx fa) := by
  intro ρ o e F B σ H I E q
  obtain ⟨⟨as, ρ1⟩, e1, e⟩ := Option.bind_eq_some_iff.mp e
  obtain ⟨r, e2, e⟩ := Option.map_eq_some_iff.mp e
  subst e
  obtain ⟨ag, e4, e5⟩ := args_split e1
  refine hte σ H _ ?_
  refine ha _ _ _ e4 F B σ H I _ fun vs B1 H1 I1 s1 r1 => ?_
  refine spx_of I1 (vals_reps r1 e5) e2 ?_
  cases r with
  | ok d =>
    intro v H' x rd
    refine ⟨by show 2 ≤ sizeLine; decide, fun p hp => ?_⟩
    have y : Ext H' (upd H' p (.tup [.str z, v])) := Ext.new hp
    exact q _ σ B1 _ ((I1.ext x).ext y) ((s1.grow.trans x.grow).trans y.grow) (rep_newT (I1.ext x).hs hp (.cons (.str z) (.cons rd .nil)))
  | ex c fs => exact fun cls dd H' x xf => q cls dd σ B1 H' (I1.ext x) (s1.grow.trans x.grow) xf

/-! ### a def that may raise -/
def bodyX (n m : Nat) (g : FSX) : DFX := fun ds => if ds.length = m then (match g ((ds.map fun d => some (.sh d)) ++ List.replicate (n - m) none) with
  | some (.nm (.rt d _)) => some (.ok d)
  | some (.nm (.nx _)) => some (.ok .non)
  | some (.ex c fs _) => some (.ex c fs)
  | _ => none) else none
structure CalX (P : Program) (w : World) (K : PySem.W.Frag) (mg : Str → Option Value) (base : Heap) (k : Nat) (x : Str) (ps : List Str) (sp : Sp) : Prop where
  ex : ∃ (fd : FuncData), FnOk P w K mg base (L2.CX P w) k (He.ga K x) fd ps sp ∧ mg x = some (.ref (He.ga K x)) ∧ PySem.W.keepIn K (.ref (He.ga K x)) = true ∧ Binds K fd ps []
theorem fnx_body {P : Program} {w : World} {K : PySem.W.Frag} {mg : Str → Option Value} {base : Heap} {x qual : Str} {st : Stmt} {f : Addr} {fd : FuncData} {N ps : List Str} {k : Nat} {t : WX → TS} {g : FSX} (F : Fun K x qual st f fd) (S : FnScope N ps (defScope st)) (hg : ∀ W, DX K W (t W) g)
    (hb : ∀ (cdv : Value) (A : Around) (outer : List Env) (s : Shared) (H : Hp) (E : XK) (W : WX), Room k (A.deeper (PyProof.Rows.envOfC qual (defScope st) s.heap.objs.size f cdv)) → Takes (cxOf (L2.CX P w) P w K mg base N qual (defScope st) f cdv A outer s H E) W →
      PSs (cxOf (L2.CX P w) P w K mg base N qual (defScope st) f cdv A outer s H E) (defBody st) (t W)) : FnOk P w K mg base (L2.CX P w) (k + 1) f fd ps (SpX K (bodyX N.length ps.length g)) := by
  refine F.okX S (fun vs H Q E h => ?_) (fun cdv A outer s H vs Q E hr h => ⟨t fun cls d _ H => E cls d H, hb cdv A outer s H E _ hr (takes_of rfl rfl rfl rfl), ?_⟩)
  · obtain ⟨B, ds, r, _, rs, e, _⟩ := h
    unfold bodyX at e
    split at e
    · rename_i hl
      rw [← rs.length]; exact hl
    · cases e
  · obtain ⟨B, ds, r, hs, rs, e, q⟩ := h
    unfold bodyX at e
    split at e
    · rename_i hl
      have ar := ar_vals rs
      have nd : (ownA (List.replicate ds.length false) vs).Nodup := by rw [ownA_false]; exact List.nodup_nil
      have I0 := si_entry (n := N.length) hs ar nd
      rw [argE_vals, List.length_replicate, hl] at I0
      have e3 : start N vs = vs.map some ++ List.replicate (N.length - vs.length) none := rfl
      rw [e3]
      have ext : ∀ {B' ρ' σ' H'}, SI K (frOf B H (List.replicate ps.length false) vs) B' ρ' σ' H' → Ext H H' := fun {B' ρ' σ' H'} I' b o z => I'.fr b o z (by
        show b ∉ ownA (List.replicate ps.length false) vs
        rw [ownA_false]; exact List.not_mem_nil)
      have back : ∀ {B' ρ' σ' H'}, SI K (frOf B H (List.replicate ps.length false) vs) B' ρ' σ' H' → Grow B' H' B H' := fun {B' ρ' σ' H'} I' b o nb z => ⟨fun z2 => nb (I'.hid b z2), z⟩
      split at e
      · rename_i d ρ1 eg
        cases e
        exact hg _ _ _ eg _ B _ H I0 _ fun v σ' B' H' I' g' rd => q v H' (ext I') (rd.grow (back I'))
      · rename_i ρ1 eg
        cases e
        exact hg _ _ _ eg _ B _ H I0 _ fun σ' B' H' I' g' => q .non H' (ext I') .non
      · rename_i c fs ρ1 eg
        cases e
        exact hg _ _ _ eg _ B _ H I0 _ fun cls dd σ' B' H' I' g' xf => q cls dd H' (ext I') (xf.grow (back I'))
      · cases e
    · cases e
theorem calx_of {P : Program} {w : World} {K : PySem.W.Frag} {mg : Str → Option Value} {base : Heap} {x : Str} {st : Stmt} {N ps : List Str} {k : Nat} {t : WX → TS} {g : FSX} (Dd : Df K mg x st ps) (S : FnScope N ps (defScope st)) (hg : ∀ W, DX K W (t W) g)
    (hb : ∀ (cdv : Value) (A : Around) (outer : List Env) (s : Shared) (H : Hp) (E : XK) (W : WX), Room k (A.deeper (PyProof.Rows.envOfC x (defScope st) s.heap.objs.size (He.ga K x) cdv)) → Takes (cxOf (L2.CX P w) P w K mg base N x (defScope st) (He.ga K x) cdv A outer s H E) W →
      PSs (cxOf (L2.CX P w) P w K mg base N x (defScope st) (He.ga K x) cdv A outer s H E) (defBody st) (t W)) : CalX P w K mg base (k + 1) x ps (SpX K (bodyX N.length ps.length g)) := by
  obtain ⟨fd, F, ⟨u, hm, r⟩, b⟩ := Dd.ex
  cases r
  exact ⟨fd, fnx_body F S hg hb, hm, F.kp, b⟩
/-- a def of two parameters that is called by keywords in the other order -/
structure Dfk (K : PySem.W.Frag) (mg : Str → Option Value) (x : Str) (st : Stmt) (a b : Str) : Prop where
  ex : ∃ fd, Fun K x x st (He.ga K x) fd ∧ (∃ u, mg x = some u ∧ RelV (.ref (He.ga K x)) u) ∧ Binds K fd [a, b] [] ∧ ∀ (s : Shared) (y z : Value), BindsTo s fd ⟨[], [(b, y), (a, z)]⟩ [(a, z), (b, y)]
structure CalXK (P : Program) (w : World) (K : PySem.W.Frag) (mg : Str → Option Value) (base : Heap) (k : Nat) (x a b : Str) (sp : Sp) : Prop where
  ex : ∃ (fd : FuncData), FnOk P w K mg base (L2.CX P w) k (He.ga K x) fd [a, b] sp ∧ mg x = some (.ref (He.ga K x)) ∧ PySem.W.keepIn K (.ref (He.ga K x)) = true ∧ Binds K fd [a, b] [] ∧ ∀ (s : Shared) (y z : Value), BindsTo s fd ⟨[], [(b, y), (a, z)]⟩ [(a, z), (b, y)]
theorem CalXK.cal {P w K mg base k x a b sp} (c : CalXK P w K mg base k x a b sp) : CalX P w K mg base k x [a, b] sp := by
  obtain ⟨fd, F, hm, kp, bd, _⟩ := c.ex
  exact ⟨fd, F, hm, kp, bd⟩
theorem calxk_of {P : Program} {w : World} {K : PySem.W.Frag} {mg : Str → Option Value} {base : Heap} {x a b : Str} {st : Stmt} {N : List Str} {k : Nat} {t : WX → TS} {g : FSX} (Dd : Dfk K mg x st a b) (S : FnScope N [a, b] (defScope st)) (hg : ∀ W, DX K W (t W) g)
    (hb : ∀ (cdv : Value) (A : Around) (outer : List Env) (s : Shared) (H : Hp) (E : XK) (W : WX), Room k (A.deeper (PyProof.Rows.envOfC x (defScope st) s.heap.objs.size (He.ga K x) cdv)) → Takes (cxOf (L2.CX P w) P w K mg base N x (defScope st) (He.ga K x) cdv A outer s H E) W →
      PSs (cxOf (L2.CX P w) P w K mg base N x (defScope st) (He.ga K x) cdv A outer s H E) (defBody st) (t W)) : CalXK P w K mg base (k + 1) x a b (SpX K (bodyX N.length 2 g)) := by
  obtain ⟨fd, F, ⟨u, hm, r⟩, bd, bk⟩ := Dd.ex
  cases r
  exact ⟨fd, fnx_body F S hg hb, hm, F.kp, bd, bk⟩
end DL

end

section
set_option maxRecDepth 100000
set_option maxHeartbeats 1000000
/-! The data layer, part X4: raise, calls of defs that raise. -/
namespace DL
open PySem PySem.Spec DLX
open L2 hiding Ext Ext.trans

/-! ### exception classes -/
theorem ps_ostG {X : Cx} {o e : Expr} {to te : TE} {f : Str} {p' pos : Pos} (ho : PE X o to) (he : PE X e te) (hs : swapsWith e (some (.Attribute o f p')) pos.line X.env = pure false := by rfl) : PS X (.Assign [.Attribute o f p'] e pos) (tOstG X.K f to te) := by
  refine ⟨fun pins s σ H D I h => ?_⟩
  refine plainObj_wpAny_Assign_Attribute (thn (he.run pins s σ H _ I h) fun v s1 ⟨y, H1, I1, r1, q1⟩ => thn (ho.run pins s1 σ H1 _ I1 q1) fun u s2 ⟨x, H2, I2, r2, a, C, ex, T, hno, ea, q⟩ => ?_) hs
  subst ex
  obtain rfl : u = Value.ref a := r2
  exact ost_newG T I2 ea hno r1 fun dx s' n ne J => ⟨σ, _, J, q dx n ne⟩
/-- an exception class of one field -/
structure Ex1 (P : Program) (w : World) (K : PySem.W.Frag) (mg : Str → Option Value) (base : Heap) (c f : Str) : Prop where
  ex : ∃ (fI : Addr) (fd : FuncData) (ps : List Str), OexG K (He.ga K c) ∧ PySem.W.findIn K (.ref (He.ga K c)) "__init__" = some (some (.ref fI)) ∧ PySem.W.typeIn K (.ref fI) = some (.type "function") ∧
    FnOk P w K mg base CX0 1 fI fd ps (spOex K (He.ga K c) f) ∧ mg c = some (.ref (He.ga K c)) ∧ Binds K fd ps []
structure De (K : PySem.W.Frag) (mg : Str → Option Value) (c f : Str) (st : Stmt) (ps : List Str) : Prop where
  ex : ∃ (fI : Addr) (fd : FuncData) (qual : Str), OexG K (He.ga K c) ∧ PySem.W.findIn K (.ref (He.ga K c)) "__init__" = some (some (.ref fI)) ∧ PySem.W.typeIn K (.ref fI) = some (.type "function") ∧ PySem.W.findIn K (.ref (He.ga K c)) f = some none ∧
    (∃ u, mg c = some u ∧ RelV (.ref (He.ga K c)) u) ∧ Fun K "__init__" qual st fI fd ∧ Binds K fd ps []
theorem ex1_of {P : Program} {w : World} {K : PySem.W.Frag} {mg : Str → Option Value} {base : Heap} {c f a b : Str} {st : Stmt} (Dd : De K mg c f st [a, b]) (S : FnScope [a, b] [a, b] (defScope st))
    (hb : ∀ (qual : Str) (fI : Addr) (cdv : Value) (A : Around) (outer : List Env) (s : Shared) (H : Hp) (E : XK), PSs (cxOf CX0 P w K mg base [a, b] qual (defScope st) fI cdv A outer s H E).nox (defBody st) (tOstG K f (tVar 0) (tVar 1))) : Ex1 P w K mg base c f := by
  obtain ⟨fI, fd, qual, T, h1, h2, h3, ⟨u, hm, r⟩, F, b⟩ := Dd.ex
  cases r
  refine ⟨fI, fd, _, T, h1, h2, F.ok S (fun vs H Q E h => ?_) (fun cdv A outer s H vs Q E hr h => ⟨_, hb qual fI cdv A outer s H E, ?_⟩), hm, b⟩
  · obtain ⟨_, _, rfl, _⟩ := h
    rfl
  · obtain ⟨x, v, rfl, hx, q⟩ := h
    refine ⟨v, rfl, .ref x, rfl, x, _, rfl, T, h3, hx, fun dx h1 h2 => ?_⟩
    exact q dx h1 h2
theorem pmk_x1 {X : Cx} {j : Nat} {c f : Str} {e : Expr} {es : List Expr} {ta : TA} {p pos : Pos} (c1 : Ex1 X.prog X.w X.K X.mg X.base c f) (hr : Room j X.A) (hj : 2 ≤ j) (hg : Gl X c) (ha : PA X (e :: es) ta)
    (hdb : (c == ("__debug__" : Str)) = false := by decide) (he : starEach (e :: es) X.env = (false, eval e X.env) :: starEach es X.env := by rfl) (hpl : (backTo pos (starEach es X.env)).any (·.1) = false := by rfl) :
    PMk X (.Call (.Name c p) (e :: es) [] pos) (tMkO (He.ga X.K c) (spOex X.K (He.ga X.K c) f) [] ta) := by
  obtain ⟨fI, fd, ps, T, h1, h2, F, hm, b⟩ := c1.ex
  exact pmk_oexG T h1 h2 F (hr.mono hj) b .nil pass0 hg hm ha hdb he hpl
/-- an own exception class without an own __init__ -/
structure Ex0 (K : PySem.W.Frag) (mg : Str → Option Value) (c : Str) : Prop where
  ex : ∃ (bmB : List Value) (B newId initId : String), ExcBaseFacts B newId initId bmB ∧ PySem.W.excIn K (He.ga K c) bmB newId = true ∧ (∃ u, mg c = some u ∧ RelV (.ref (He.ga K c)) u) ∧ PySem.W.keepIn K (.ref (He.ga K c)) = true ∧
    PySem.W.subIn K (.ref (He.ga K c)) (.type "BaseException") = some true ∧ PySem.W.typeIn K (.ref (He.ga K c)) = some (.type "type")
theorem pmk_x0 {X : Cx} {c : Str} {p pos : Pos} (c0 : Ex0 X.K X.mg c) (hg : Gl X c) (hdb : (c == ("__debug__" : Str)) = false := by decide) : PMk X (.Call (.Name c p) [] [] pos) (fun σ H Q => Q (.ref (He.ga X.K c)) none H) := by
  intro pins s σ H Q I h
  obtain ⟨bmB, B, newId, initId, F, q, ⟨u, hm, r⟩, kC, h1, h2⟩ := c0.ex
  cases r
  refine wpAny_Call_Name_kw (ld_glob I hg hm ?_ hdb)
  refine PySem.W.callWith_K0 I.kIn kC ?_
  obtain ⟨bm, N, nm, qn, bs, hdct, sn, sub, ab, col, dd, k0, k1, k2, k3, k5, mN, hC, hN, hni, T⟩ := exc_obj I.kIn q
  refine wpAny_call_exc_subT F T hC hN hni (fun h' e hm' => ?_) (by show 0 ≤ sizeLine; exact Nat.zero_le _)
  exact mk_of I hm' (raises_own h1 h2) h (I.hok.gone hm'.new)

/-! ### calls -/
section
variable {X : Cx} {k j : Nat} {x : Str} {ps : List Str} {sp : Sp} {W : WX} {p pos : Pos} {e : Expr} {es : List Expr} {t : TA}
theorem pe_cx (c : CalX X.prog X.w X.K X.mg X.base k x ps sp) (hr : Room j X.A) (hk : k ≤ j) (tk : Takes X W) (hg : Gl X x) (ha : PA X (e :: es) t)
    (hdb : (x == ("__debug__" : Str)) = false := by decide) (he : starEach (e :: es) X.env = (false, eval e X.env) :: starEach es X.env := by rfl) (hpl : (backTo pos (starEach es X.env)).any (·.1) = false := by rfl) :
    PE X (.Call (.Name x p) (e :: es) [] pos) (tCallX sp (WE W) t) := by
  obtain ⟨fd, F, hm, kp, b⟩ := c.ex
  exact pe_callS F (hr.mono hk) hg hm kp b (fun σ => passAt tk σ) ha hdb he hpl
/-- f(b=e2, a=e1): keywords alone, in the other order -/
def tCallX2 (sp : Sp) (E : L2.St → XK) (t : TA) : TE := fun σ H Q => t σ H fun zs H1 => ∃ y z, zs = [y, z] ∧ sp [z, y] H1 Q (E σ)
theorem pe_cx2 {a b : Str} {e1 e2 : Expr} {k1 k2 : Pos} (c : CalXK X.prog X.w X.K X.mg X.base k x a b sp) (hr : Room j X.A) (hk : k ≤ j) (tk : Takes X W) (hg : Gl X x) (hkw : PK X [⟨some b, e2, k1⟩, ⟨some a, e1, k2⟩] t)
    (hall : (backToKw pos (keywordEach [⟨some b, e2, k1⟩, ⟨some a, e1, k2⟩] X.env)).all (·.1.isSome) = true := by rfl) (hks : (backToKw pos (keywordEach [⟨some b, e2, k1⟩, ⟨some a, e1, k2⟩] X.env)).filterMap (·.1) = [b, a] := by rfl)
    (hdb : (x == ("__debug__" : Str)) = false := by decide) (hpl : ((backTo pos (starEach [] X.env)).any (·.1) || (backToKw pos (keywordEach [⟨some b, e2, k1⟩, ⟨some a, e1, k2⟩] X.env)).any (·.1.isNone)) = false := by rfl) :
    PE X (.Call (.Name x p) [] [⟨some b, e2, k1⟩, ⟨some a, e1, k2⟩] pos) (tCallX2 sp (WE W) t) := by
  obtain ⟨fd, F, hm, kp, bd, hbb⟩ := c.ex
  refine ⟨fun pins s σ H Q I h => ?_⟩
  refine wpAny_Call_Name_kw (ld_glob I hg hm ?_ hdb)
  refine PySem.W.callWith_KW0 (h₀ := X.base) I.ok.mod.kin kp hall (thn (hkw.run pos pins s σ H _ I h) fun ws s1 ⟨zs, H1, I1, rz, y, z, ez, q⟩ => ⟨I1.kIn, ?_⟩) hpl
  subst ez
  obtain ⟨u1, u2, rfl, r1, r2⟩ := vals2 rz
  rw [hks]
  refine wpAny_call (codeAny_mono (F.run X.A X.stack s1 H1 ⟨[], [(b, u1), (a, u2)]⟩ [u2, u1] [z, y] Q (WE W σ) (hr.mono hk) I1.env0 (hbb s1 u1 u2) (.cons r2 (.cons r1 .nil)) q) fun r s' hq => ?_)
  cases r with
  | error e => exact passAt tk σ pins H1 s1 e s' I1 hq
  | ok fl =>
    cases fl with
    | ret u => exact I1.after hq
    | next => exact False.elim hq
    | brk => exact False.elim hq
    | cont => exact False.elim hq
end
end DL

end

section
set_option maxRecDepth 100000
set_option maxHeartbeats 2000000
/-! The data layer, part Q: == and != by an own __eq__, of objects and of tuples that hold such. -/
namespace DLQ
open PySem PySem.SeqAt GQ
open AutoSeq1 (wpAny_loadPart')
open MeetsSeq MeetsSeq2 MeetsSeq3 SeqRoads2
section
variable {prog : Program} {w : World} {A : Around} {R : Result → Shared → Prop}
theorem tuple_neG (l b : Addr) (items items2 : Array Value) (n n2 : Nat) (dd dd2 : Option Addr) (sl sl2 : Array (Option Value)) (hsz : items.size = items2.size) (I : Nat → Shared → Prop)
    (turn : ∀ i (h1 : i < items.size) (h2 : i < items2.size) s, I i s → wpAny (model prog w) A.in1 (eqBool items[i] items2[i]) (fun r s' => r = true ∧ I (i + 1) s') (fun e s' => R (.error e) s') s)
    (fin : ∀ s, I items.size s → R (.ok (.ret (.bool false))) s) {s : Shared} (hl1 : s.heap.get? l = some { cls := .type "tuple", dict := dd, data := .seq items n, slots := sl }) (hb1 : s.heap.get? b = some { cls := .type "tuple", dict := dd2, data := .seq items2 n2, slots := sl2 }) (h : I 0 s) :
    wpAny (model prog w) A.in1 (Builtin.«tuple.__ne__» ⟨[.ref l, .ref b], []⟩) (FinOf prog w A R) (fun e s' => R (.error e) s') s := by
  have f2 := AutoSeq1.sub_tuple_tuple
  have hZ : (items.toList.zip items2.toList).length = items.size := by simp [hsz]
  have h0 := h
  obtain ⟨hp, g, d, tk, os⟩ := s
  wp_walk using wpAny_loadPart' hl1, wpAny_loadPart' hb1, wpAny_forIn_list _ (fun rest b s' => b.1 = none ∧ ∃ i, rest = (items.toList.zip items2.toList).drop i ∧ i ≤ items.size ∧ I i s') _
  case turn =>
    rintro ⟨y, x⟩ rest b s' ⟨hb', i, hz, hi, hI⟩
    have hlt : i < (items.toList.zip items2.toList).length := by
      rcases Nat.lt_or_ge i (items.toList.zip items2.toList).length with h' | h'
      · exact h'
      · rw [List.drop_of_length_le h'] at hz; cases hz
    have h1 : i < items.size := hZ ▸ hlt
    have h2 : i < items2.size := hsz ▸ h1
    rw [List.drop_eq_getElem_cons hlt] at hz
    injection hz with hyx hrest
    have hy : y = items[i] := by have := congrArg Prod.fst hyx; simpa using this
    have hx : x = items2[i] := by have := congrArg Prod.snd hyx; simpa using this
    subst hy hx
    refine wpAny_bind (wpAny_mono (turn i h1 h2 s' hI) (fun r s2 q2 => ?_) fun _ _ x => x)
    obtain ⟨hr, q2⟩ := q2
    subst hr
    wp_walk
    exact ⟨rfl, i + 1, hrest, h1, q2⟩
  case fin =>
    rintro ⟨b1, b2⟩ s' ⟨hb', i, hz, hi, hI⟩
    simp only at hb'
    subst hb'
    have hge : items.size ≤ i := by
      rcases Nat.lt_or_ge i (items.toList.zip items2.toList).length with h' | h'
      · rw [List.drop_eq_getElem_cons h'] at hz; cases hz
      · exact hZ ▸ h'
    have hi' : i = items.size := by omega
    have hR : R (.ok (.ret (.bool false))) s' := fin s' (hi' ▸ hI)
    wp_walk
    simpa [Builtin.Tuple.tupleCompareSizes, hsz] using hR
  case h =>
    exact ⟨rfl, 0, rfl, Nat.zero_le _, h0⟩
end
section
variable {prog : Program} {w : World} {A : Around} {E : Value → Shared → Prop} {s : Shared}
theorem rcn_tupG {l b : Addr} {items items2 : Array Value} {Q : Value → Shared → Prop} (hsz : items.size = items2.size) (hu : A.units < cLine) (I : Nat → Shared → Prop)
    (hl : s.heap.IsTuple l items) (hb : s.heap.IsTuple b items2)
    (turn : ∀ i (h1 : i < items.size) (h2 : i < items2.size) s, I i s → wpAny (model prog w) A.in1 (eqBool items[i] items2[i]) (fun r s' => r = true ∧ I (i + 1) s') E s)
    (fin : ∀ s, I items.size s → Q (.bool false) s) (h : I 0 s) : wpAny (model prog w) A (richCompare .NotEq (.ref l) (.ref b)) Q E s := by
  obtain ⟨⟨cls, dd, data, sl⟩, ho, hc, n, hd⟩ := id hl
  obtain ⟨⟨cls2, dd2, data2, sl2⟩, ho2, hc2, n2, hd2⟩ := id hb
  simp only at hc hd hc2 hd2
  subst hc hd hc2 hd2
  refine wpAny_richCompare_same_room (op := .NotEq) ⟨_, ho, rfl⟩ ⟨_, ho2, rfl⟩ F.slot_tuple_ne (call_here F.slot_tuple_ne ⟨_, ho, rfl⟩ F.entry_tuple_ne (F.args_tuple_ne_2 _ _) ?_) hu
  exact tuple_neG (R := wants (fun v s' => v ≠ .notImplemented ∧ Q v s') E) l b items items2 n n2 dd dd2 sl sl2 hsz I turn (fun s' q => ⟨(fun x => nomatch x), fin s' q⟩) ho ho2 h

end
end DLQ

end

section
set_option maxRecDepth 100000
set_option maxHeartbeats 2000000
namespace DLQ
open PySem PySem.W PySem.Calls PyProof.Rows
section
variable {prog : Program} {w : World} {A : Around} {E : Value → Shared → Prop} {s : Shared} {K : Frag} {x C L f : Addr} {h₀ : Heap} {m : Str → Option Value} {ox : Obj} {od : Option Obj} {name : Str} {b : Value}
theorem ifBound_B {M : Model} {id : String} {args : List Value} {Q : Option Value → Shared → Prop} (X : K.In s.heap) (I : InstAt s.heap x ox C od) (hs : findIn K (.ref C) name = some (some (.builtin id))) (hb : bindSpecial (.builtin id) (.ref x) = pure (.builtin id, [.ref x]))
    (h : wpAny M A (call (.builtin id) (.ref x :: args)) (fun v => Q (some v)) E s) : wpAny M A (callSpecialIfBound? (.ref x) name args) Q E s := by
  simp only [callSpecialIfBound?, bindSpecialIfBound?]
  refine wpAny_holding (wpAny_bind (wpAny_bind (wpAny_bind (I.type.here ((looks_findIn X hs).here ?_)))))
  dsimp only
  rw [hb]
  refine wpAny_bind (wpAny_askSetting (wpAny_ite ?_))
  have fin : wpAny M A (call (.builtin id) ([.ref x] ++ args) >>= fun v => pure (some v)) Q E s := wpAny_bind (wpAny_mono h (fun v s' h' => wpAny_pure h') fun _ _ h' => h')
  split
  · exact wpAny_bind (wpAny_pure (wpAny_pure fin))
  · exact wpAny_tryCatch (wpAny_bind (wpAny_pure (wpAny_pure fin)))
theorem ne_own {Q : Value → Shared → Prop} (hu : A.units + 1 < cLine) (X : K.In s.heap) (I : InstAt s.heap x ox C od) (hb : Looks (model prog w) s.heap (typeOf b) (.ref C)) (hn : findIn K (.ref C) "__ne__" = some (some (.builtin "object.__ne__")))
    (hs : findIn K (.ref C) "__eq__" = some (some (.ref f))) (hf : isFn K (.ref f) = true) (hm : mroIn K C (.type "object") = some true)
    (h : wpAny (model prog w) A.in1 (call (.ref f) [.ref x, b]) (fun r s' => r = .bool true ∧ Q (.bool false) s') E s) : wpAny (model prog w) A (richCompare .NotEq (.ref x) b) Q E s := by
  have body : wpAny (model prog w) A (call (.builtin "object.__ne__") [.ref x, b]) (fun r s' => r = .bool false ∧ Q (.bool false) s') E s := by
    have sub : Looks (model prog w) s.heap (isInstance (.ref x) (.type "object")) true := I.type.andThen (looks_mroIn X hm)
    refine wpAny_call (codeAny_call_builtin PySem.F.cmp_object.ne.plain PySem.F.cmpEntry_ne ?_)
    refine @check_slot (model prog w) _ _ s "object.__ne__" "object" "__ne__" (.ref x) [b] [] _ PySem.F.cmpKind_ne PySem.F.cmpSplit_ne sub (PySem.F.cmpArgs_ne _ _) ?_
    unfold Builtin.«object.__ne__»
    refine wpAny_bind (wpAny_of_eq (a := ((Value.ref x : Value), [b])) (by first | rfl | (simp only [slotArgs]; rfl)) ?_)
    refine wpAny_bind (wpAny_cRoomFor (show A.in1.units < cLine from hu) ?_)
    refine wpAny_bind (ifBound_K X I hs hf (wpAny_mono h (fun r s' z => ?_) fun _ _ e => e))
    obtain ⟨e, q⟩ := z
    subst e
    refine wpAny_bind (wpAny_truthy_bool ?_)
    exact wpAny_pure ⟨rfl, q⟩
  have one : wpAny (model prog w) A (tryCompare (.ref x) "__ne__" b) (fun r s' => r = some (.bool false) ∧ Q (.bool false) s') E s := by
    unfold tryCompare
    refine wpAny_bind (ifBound_B X I hn (PySem.F.cmp_object.ne.bind _) (wpAny_mono body (fun v s' hv => ?_) fun _ _ e => e))
    obtain ⟨e, q⟩ := hv
    subst e
    exact wpAny_pure ⟨rfl, q⟩
  unfold richCompare
  simp only [oneThing_ref]
  refine wpAny_holding (wpAny_bind (wpAny_cRoomFor (Nat.lt_of_succ_lt hu) ?_))
  refine wpAny_bind (I.type.here (wpAny_bind (hb.here ?_)))
  rw [if_neg (by simp)]
  refine wpAny_bind (wpAny_pure ?_)
  simp only [Bool.false_eq_true, if_false]
  refine wpAny_bind (wpAny_mono one (fun r s' z => ?_) fun _ _ e => e)
  obtain ⟨rfl, hq⟩ := z
  exact wpAny_pure hq
end
end DLQ

end

section
set_option maxRecDepth 100000
set_option maxHeartbeats 2000000
/-! The data layer, part Q3: .. by data. -/
namespace DL
open PySem PySem.Spec L2

/-- two objects are equal by the class's own __eq__ -/
def eqOb (Ff : DF) (d e : D) : Bool := match Ff [d, e] with
  | some (.bl true, _) => true
  | _ => false
mutual
def sameD (c0 : Str) (Ff : DF) : D → D → Bool
  | .non, .non => true
  | .bl a, .bl b => a == b
  | .int a, .int b => a == b
  | .str a, .str b => a == b
  | .tup as, .tup bs => sames c0 Ff as bs
  | .lst as, .lst bs => sames c0 Ff as bs
  | .obj c fs, .obj c' gs => decide (c = c0) && (decide (c' = c0) && eqOb Ff (.obj c fs) (.obj c' gs))
  | _, _ => false
def sames (c0 : Str) (Ff : DF) : List D → List D → Bool
  | [], [] => true
  | a :: as, b :: bs => sameD c0 Ff a b && sames c0 Ff as bs
  | _, _ => false
end
mutual
def depD : D → Nat
  | .tup as => depDs as + 1
  | .lst as => depDs as + 1
  | _ => 0
def depDs : List D → Nat
  | [] => 0
  | a :: as => max (depD a) (depDs as)
end
/-- equal, not nested deeper than n -/
def Sm (K : PySem.W.Frag) (c0 : Str) (Ff : DF) (n : Nat) : Eqv := fun x y H => ∃ (B : Hid) (d e : D), (∀ b, B b → ∃ o, H b = some o) ∧ Rep K B H d x ∧ Rep K B H e y ∧ sameD c0 Ff d e = true ∧ depD d ≤ n
theorem mon_Sm {K c0 Ff n} : Mon (Sm K c0 Ff n) := fun x y H H' e h => by
  obtain ⟨B, d, f, hs, r1, r2, h1, h2⟩ := h
  have x' : Ext H H' := e
  exact ⟨B, d, f, fun b z => let ⟨o, q⟩ := hs b z; ⟨o, e _ _ q⟩, r1.grow x'.grow, r2.grow x'.grow, h1, h2⟩
/-- what the own __eq__ is asked -/
def ReqF (K : PySem.W.Frag) (Ff : DF) : Addr → Addr → Hp → Prop := fun a b H => ∃ (B : Hid) (d e : D) (os : List D), (∀ b, B b → ∃ o, H b = some o) ∧ Rep K B H d (.ref a) ∧ Rep K B H e (.ref b) ∧ Ff [d, e] = some (.bl true, os)
theorem spEq_of {K : PySem.W.Frag} {Ff : DF} {vs : List V} {H : Hp} {Q : VK} {E : XK} (h : spEq (ReqF K Ff) vs H Q E) : SpF K [false, false] Ff vs H Q E := by
  obtain ⟨a, b, rfl, ⟨B, d, e, os, hs, r1, r2, hF⟩, q⟩ := h
  refine ⟨B, [d, e], .bl true, os, hs, .sh r1 (.sh r2 .nil), List.nodup_nil, hF, fun v H' kp _ _ rv => ?_⟩
  cases rv
  exact q H' fun c o z => kp c o z List.not_mem_nil
theorem prs_of {K c0 Ff n B H} (hs : ∀ b, B b → ∃ o, H b = some o) : ∀ {ds es : List D} {vs us : List V}, Reps K B H ds vs → Reps K B H es us → sames c0 Ff ds es = true → depDs ds ≤ n → Prs (Sm K c0 Ff n) vs us H
  | _, _, _, _, .nil, .nil, _, _ => Prs.nil
  | _, _, _, _, .nil, .cons _ _, h, _ => by simp [sames] at h
  | _, _, _, _, .cons _ _, .nil, h, _ => by simp [sames] at h
  | _, _, _, _, .cons r1 t1, .cons r2 t2, h, hn => by
    simp only [sames, Bool.and_eq_true] at h
    simp only [depDs] at hn
    exact Prs.cons ⟨B, _, _, hs, r1, r2, h.1, Nat.le_trans (Nat.le_max_left _ _) hn⟩ (prs_of hs t1 t2 h.2 (Nat.le_trans (Nat.le_max_right _ _) hn))
/-- how equal things are made -/
def SmC (K : PySem.W.Frag) (c0 : Str) (Ff : DF) (D : Eqv) : Eqv := fun x y H => DTup K D x y H ∨ DList D x y H ∨ DIns (He.ga K c0) (ReqF K Ff) x y H
theorem sm_cases {K c0 Ff n x y H} (h : Sm K c0 Ff n x y H) : DFlat x y H ∨ (∃ m, n = m + 1 ∧ (DTup K (Sm K c0 Ff m) x y H ∨ DList (Sm K c0 Ff m) x y H)) ∨ DIns (He.ga K c0) (ReqF K Ff) x y H := by
  obtain ⟨B, d, e, hs, r1, r2, h1, h2⟩ := h
  cases r1 with
  | non =>
    cases r2 <;> first | (simp [sameD] at h1; done) | exact .inl ⟨rfl, rfl, rfl⟩
  | bl a =>
    cases r2 <;> first | (simp [sameD] at h1; done) | (simp only [sameD] at h1; exact .inl ⟨rfl, rfl, h1⟩)
  | int a =>
    cases r2 <;> first | (simp [sameD] at h1; done) | (simp only [sameD] at h1; exact .inl ⟨rfl, rfl, h1⟩)
  | str a =>
    cases r2 <;> first | (simp [sameD] at h1; done) | (simp only [sameD] at h1; exact .inl ⟨rfl, rfl, h1⟩)
  | fn a => cases r2 <;> simp [sameD] at h1
  | ty a => cases r2 <;> simp [sameD] at h1
  | frl a => cases r2 <;> simp [sameD] at h1
  | dk a b c => cases r2 <;> simp [sameD] at h1
  | tpx a b => cases r2 <;> simp [sameD] at h1
  | tup v1 t1 =>
    cases r2 with
    | tup v2 t2 =>
      simp only [sameD] at h1
      simp only [depD] at h2
      refine .inr (.inl ⟨n - 1, by omega, .inl ⟨_, _, _, _, rfl, rfl, v1.sq, v2.sq, prs_of hs t1 t2 h1 (by omega)⟩⟩)
    | _ => simp [sameD] at h1
  | lst n1 v1 t1 =>
    cases r2 with
    | lst n2 v2 t2 =>
      simp only [sameD] at h1
      simp only [depD] at h2
      refine .inr (.inl ⟨n - 1, by omega, .inr ⟨_, _, _, _, rfl, rfl, v1, v2, prs_of hs t1 t2 h1 (by omega)⟩⟩)
    | _ => simp [sameD] at h1
  | obj n1 v1 t1 =>
    cases r2 with
    | obj n2 v2 t2 =>
      simp only [sameD, Bool.and_eq_true, decide_eq_true_eq] at h1
      obtain ⟨e1, e2, e3⟩ := h1
      subst e1
      cases e2
      unfold eqOb at e3
      split at e3
      · rename_i os eF
        exact .inr (.inr ⟨_, _, _, _, _, _, rfl, rfl, v1, v2, B, _, _, _, hs, .obj n1 v1 t1, .obj n2 v2 t2, eF⟩)
      · cases e3
    | _ => simp [sameD] at h1
theorem mon_Req {K : PySem.W.Frag} {Ff : DF} : ∀ a b H H', L2.Ext H H' → ReqF K Ff a b H → ReqF K Ff a b H' := fun a b H H' e h => by
  obtain ⟨B, d, f, os, hs, r1, r2, h1⟩ := h
  have x' : Ext H H' := e
  exact ⟨B, d, f, os, fun b z => let ⟨o, q⟩ := hs b z; ⟨o, e _ _ q⟩, r1.grow x'.grow, r2.grow x'.grow, h1⟩
section
variable {X : Cx} {k n : Nat} {c0 : Str} {Ff : DF}
theorem eqG_obj (M : MetD X.prog X.w X.K X.mg X.base k c0 "__eq__" (SpF X.K [false, false] Ff)) : RcG X k (DIns (He.ga X.K c0) (ReqF X.K Ff)) := by
  obtain ⟨f, fd, ps, hc, hm, F, b⟩ := M.ex
  exact rcG_ins (F.imp fun vs H Q E h => spEq_of h) hm.at_ hm.fn b pass0
theorem eqG_Sm (M : MetD X.prog X.w X.K X.mg X.base k c0 "__eq__" (SpF X.K [false, false] Ff)) : ∀ n : Nat, EqG X (k + n) (Sm X.K c0 Ff n)
  | 0 => by
    refine ((eqG_flat.mono (Nat.zero_le _)).or ((eqG_obj M).eqG fun _ _ _ d => let ⟨a, b, _, _, _, _, hx, hy, _⟩ := d; ⟨a, b, hx, hy⟩)).imp fun x y H h => ?_
    rcases sm_cases h with h | ⟨m, e, _⟩ | h
    · exact .inl h
    · cases e
    · exact .inr h
  | n + 1 => by
    have ih := eqG_Sm M n
    have o1 : EqG X (k + (n + 1)) (DIns (He.ga X.K c0) (ReqF X.K Ff)) := ((eqG_obj M).eqG fun _ _ _ d => let ⟨a, b, _, _, _, _, hx, hy, _⟩ := d; ⟨a, b, hx, hy⟩).mono (by omega)
    have t1 : EqG X (k + (n + 1)) (DTup X.K (Sm X.K c0 Ff n)) := eqG_tup mon_Sm ih
    have l1 : EqG X (k + (n + 1)) (DList (Sm X.K c0 Ff n)) := eqG_list mon_Sm ih
    refine ((eqG_flat.mono (Nat.zero_le _)).or ((t1.or l1).or o1)).imp fun x y H h => ?_
    rcases sm_cases h with h | ⟨m, e, h⟩ | h
    · exact .inl h
    · cases e
      rcases h with h | h
      · exact .inr (.inl (.inl h))
      · exact .inr (.inl (.inr h))
    · exact .inr (.inr h)

/-! ### != of what is equal -/
def RnG (X : Cx) (n : Nat) (D : Eqv) : Prop :=
  ∀ (A : Around) (pins : List (Addr × Obj)) (s : Shared) (σ : L2.St) (H : Hp) (x y : V) (u v : Value), Sub X n A → Inv X pins σ H s → RelV x u → RelV y v → D x y H →
    wpAny (model X.prog X.w) A (richCompare .NotEq u v) (fun r s' => r = .bool false ∧ ∃ H', Inv X pins σ H' s' ∧ L2.Ext H H') X.xe s
theorem rnG_tup {D : Eqv} (hD : Mon D) (h : EqG X n D) : RnG X (n + 1) (DTup X.K D) := by
  intro A pins s σ H x y u v sb I rx ry d
  obtain ⟨a, b, xs, ys, rfl, rfl, ha, hb, p⟩ := d
  cases rx
  cases ry
  obtain ⟨its, r, e, z⟩ := I.tuple ha
  obtain ⟨its2, r2, e2, z2⟩ := I.tuple hb
  have hsz : its.toArray.size = its2.toArray.size := by rw [List.size_toArray, List.size_toArray, ← r.length, ← r2.length]; exact p.1
  exact DLQ.rcn_tupG hsz sb.room.units0 (fun _ s' => LoopI X pins σ H s') e e2 (fun i h1 h2 s' q => turnG hD h sb p r r2 i h1 h2 s' q) (fun s' q => ⟨rfl, q⟩) ⟨H, I, L2.Ext.rfl'⟩
/-- the class's own look at != -/
structure NeC (K : PySem.W.Frag) (c0 : Str) : Prop where
  ne : PySem.W.findIn K (.ref (He.ga K c0)) "__ne__" = some (some (.builtin "object.__ne__"))
  ob : PySem.W.mroIn K (He.ga K c0) (.type "object") = some true
theorem rnG_ins (N : NeC X.K c0) (M : MetD X.prog X.w X.K X.mg X.base k c0 "__eq__" (SpF X.K [false, false] Ff)) : RnG X (k + 1) (DIns (He.ga X.K c0) (ReqF X.K Ff)) := by
  obtain ⟨f, fd, ps, hc, hm, F0, hb⟩ := M.ex
  have F := F0.imp fun vs H Q E h => spEq_of h
  intro A pins s σ H x y u v sb I rx ry d
  obtain ⟨a, b, dx, dy, fs, gs, rfl, rfl, ha, hb', hr⟩ := d
  cases rx
  cases ry
  obtain ⟨mA, J, _⟩ := ins_get I.hok ha
  obtain ⟨mB, J', _⟩ := ins_get I.hok hb'
  obtain ⟨od, J, _⟩ := J.look
  obtain ⟨od', J', _⟩ := J'.look
  have sb1 : Sub X k A.in1 := sb.in1
  refine DLQ.ne_own (by have := sb.room.un; omega) I.kIn J J'.type N.ne hm.at_ hm.fn N.ob ?_
  have hsp : spEq (ReqF X.K Ff) [.ref a, .ref b] H (fun v H' => v = .bl true ∧ L2.Ext H H') E0 := ⟨a, b, rfl, hr, fun H' e => ⟨rfl, e⟩⟩
  have e0 : Env0 X.prog X.w X.K X.mg X.base A.in1 X.stack s H := by
    have e := I.env0
    exact ⟨by rw [sb1.fr]; exact e.frames, e.mod, e.bs, e.bsz, e.funs, e.frf, e.hok, e.bare⟩
  have hl := F.len _ _ _ _ hsp
  have r2 : Vals [V.ref a, V.ref b] [Value.ref a, Value.ref b] := .cons rfl (.cons rfl .nil)
  refine wpAny_call (codeAny_mono (F.run A.in1 X.stack s H ⟨[.ref a, .ref b], []⟩ [.ref a, .ref b] [.ref a, .ref b] _ E0 sb1.room e0 (by
    have := hb s [.ref a, .ref b] I.kIn (by simpa using hl)
    simpa using this) r2 hsp) fun r s' hq => ?_)
  cases r with
  | error e => exact (pass0 pins σ H s e s' I hq)
  | ok fl =>
    cases fl with
    | ret w =>
      obtain ⟨z, H', I', rz, ez, ex⟩ := I.after hq
      subst ez
      cases rz
      exact ⟨rfl, rfl, H', I', ex⟩
    | next => exact False.elim hq
    | brk => exact False.elim hq
    | cont => exact False.elim hq

/-! ### as operations -/
def SmT (K : PySem.W.Frag) (c0 : Str) (Ff : DF) (n : Nat) : Eqv := fun x y H => DTup K (Sm K c0 Ff n) x y H ∨ DIns (He.ga K c0) (ReqF K Ff) x y H
def rEqO (K : PySem.W.Frag) (c0 : Str) (Ff : DF) (n : Nat) : R2 := fun x y H Q => SmT K c0 Ff n x y H ∧ ∀ H', L2.Ext H H' → Q (.bl true) H'
def rNeO (K : PySem.W.Frag) (c0 : Str) (Ff : DF) (n : Nat) : R2 := fun x y H Q => SmT K c0 Ff n x y H ∧ ∀ H', L2.Ext H H' → Q (.bl false) H'
theorem op_eqO {j : Nat} (M : MetD X.prog X.w X.K X.mg X.base k c0 "__eq__" (SpF X.K [false, false] Ff)) (n : Nat) (hr : Room j X.A) (hk : k + n + 1 ≤ j) : OpR X (compareOp .Eq) (rEqO X.K c0 Ff n) := by
  intro pins s σ H x y v u Q I rx ry hq
  obtain ⟨d, q⟩ := hq
  show wpAny (model X.prog X.w) X.A (richCompare .Eq v u) (EP X pins σ Q) X.xe s
  have fin : wpAny (model X.prog X.w) X.A (richCompare .Eq v u) (fun r s' => r = .bool true ∧ ∃ H', Inv X pins σ H' s' ∧ L2.Ext H H') X.xe s := by
    rcases d with d | d
    · exact rcG_tup mon_Sm (eqG_Sm M n) X.A pins s σ H x y v u ⟨hr.mono hk, rfl⟩ I rx ry d
    · exact eqG_obj M X.A pins s σ H x y v u ⟨hr.mono (by omega), rfl⟩ I rx ry d
  refine wpAny_mono fin (fun r s' z => ?_) fun _ _ x => x
  obtain ⟨hr', H', I', e⟩ := z
  subst hr'
  exact ⟨.bl true, H', I', rfl, q H' e⟩
theorem op_neO {j : Nat} (N : NeC X.K c0) (M : MetD X.prog X.w X.K X.mg X.base k c0 "__eq__" (SpF X.K [false, false] Ff)) (n : Nat) (hr : Room j X.A) (hk : k + n + 1 ≤ j) : OpR X (compareOp .NotEq) (rNeO X.K c0 Ff n) := by
  intro pins s σ H x y v u Q I rx ry hq
  obtain ⟨d, q⟩ := hq
  show wpAny (model X.prog X.w) X.A (richCompare .NotEq v u) (EP X pins σ Q) X.xe s
  have fin : wpAny (model X.prog X.w) X.A (richCompare .NotEq v u) (fun r s' => r = .bool false ∧ ∃ H', Inv X pins σ H' s' ∧ L2.Ext H H') X.xe s := by
    rcases d with d | d
    · exact rnG_tup mon_Sm (eqG_Sm M n) X.A pins s σ H x y v u ⟨hr.mono hk, rfl⟩ I rx ry d
    · exact rnG_ins N M X.A pins s σ H x y v u ⟨hr.mono (by omega), rfl⟩ I rx ry d
  refine wpAny_mono fin (fun r s' z => ?_) fun _ _ x => x
  obtain ⟨hr', H', I', e⟩ := z
  subst hr'
  exact ⟨.bl false, H', I', rfl, q H' e⟩
end
/-- tuples or objects, at most n deep -/
def sameT (c0 : Str) (Ff : DF) (n : Nat) (d e : D) : Bool := (match d with
  | .tup ds => decide (depDs ds ≤ n)
  | .obj _ _ => true
  | _ => false) && sameD c0 Ff d e
theorem smT_of {K c0 Ff n B H d e x y} (hs : ∀ b, B b → ∃ o, H b = some o) (r1 : Rep K B H d x) (r2 : Rep K B H e y) (h : sameT c0 Ff n d e = true) : SmT K c0 Ff n x y H := by
  unfold sameT at h
  rw [Bool.and_eq_true] at h
  obtain ⟨h0, h1⟩ := h
  split at h0
  · rename_i ds
    have h2 : Sm K c0 Ff (n + 1) x y H := ⟨B, _, e, hs, r1, r2, h1, by simp only [depD]; have := of_decide_eq_true h0; omega⟩
    rcases sm_cases h2 with h | ⟨m, e', h⟩ | h
    · obtain ⟨f1, _⟩ := h
      cases r1
      cases f1
    · have em : m = n := by omega
      subst em
      rcases h with h | h
      · exact .inl h
      · obtain ⟨a, b, xs, ys, e1, _, e3, _⟩ := h
        cases r1 with
        | tup v1 t1 =>
          cases e2 : e with
          | tup es =>
            subst e2
            obtain ⟨a2, us, ey, v2, t2⟩ := r2.tup_inv
            subst ey
            simp only [sameD] at h1
            exact .inl ⟨_, _, _, _, rfl, rfl, v1.sq, v2.sq, prs_of hs t1 t2 h1 (of_decide_eq_true h0)⟩
          | _ => subst e2; simp [sameD] at h1
    · exact .inr h
  · have h2 : Sm K c0 Ff 0 x y H := ⟨B, _, e, hs, r1, r2, h1, Nat.le_refl 0⟩
    rcases sm_cases h2 with h | ⟨m, e', h⟩ | h
    · obtain ⟨f1, _⟩ := h
      cases r1
      cases f1
    · cases e'
    · exact .inr h
  · cases h0
def eqO (c0 : Str) (Ff : DF) (n : Nat) (d e : D) : Option D := match eqD d e with
  | some z => some z
  | none => if sameT c0 Ff n d e = true then some (.bl true) else none
def neO (c0 : Str) (Ff : DF) (n : Nat) (d e : D) : Option D := match neD d e with
  | some z => some z
  | none => if sameT c0 Ff n d e = true then some (.bl false) else none
theorem dr_eqO {K c0 Ff n} : DR K (rU (rEqD K) (rEqO K c0 Ff n)) (eqO c0 Ff n) := by
  intro d e z h
  unfold eqO at h
  split at h
  · rename_i z' e1
    cases h
    exact (dr_eq d e z e1).inl
  · split at h
    · rename_i hs
      cases h
      refine DRat.inr fun B H x y hB rx ry Q q => ⟨smT_of hB rx ry hs, fun H' x' => q _ H' x' (.bl true)⟩
    · cases h
theorem dr_neO {K c0 Ff n} : DR K (rU (rNeD K) (rNeO K c0 Ff n)) (neO c0 Ff n) := by
  intro d e z h
  unfold neO at h
  split at h
  · rename_i z' e1
    cases h
    exact (dr_ne d e z e1).inl
  · split at h
    · rename_i hs
      cases h
      refine DRat.inr fun B H x y hB rx ry Q q => ⟨smT_of hB rx ry hs, fun H' x' => q _ H' x' (.bl false)⟩
    · cases h
end DL

end

section
set_option maxRecDepth 100000
set_option maxHeartbeats 1000000
/-! The data layer, part R: a call of a def that may raise where it does not. -/
namespace DL
open PySem PySem.Spec DLX
open L2 hiding Ext Ext.trans
def fCallX (Fx : DFX) (fa : FA) : FE := fun ρ => (fArgs fa ρ).bind fun p => (Fx p.1).bind fun r => match r with
  | .ok d => some (d, p.2)
  | .ex _ _ => none
theorem de_callX {K ta fa Fx} (ha : DA K ta fa) : DE K (tCallX (SpX K Fx) (WE fun _ _ _ _ => False) ta) (fCallX Fx fa) := by
  intro ρ d ρ' e F B σ H I Q q
  obtain ⟨⟨as, ρ1⟩, e1, e⟩ := Option.bind_eq_some_iff.mp e
  obtain ⟨r, e2, e⟩ := Option.bind_eq_some_iff.mp e
  obtain ⟨ag, e4, e5⟩ := args_split e1
  refine ha _ _ _ e4 F B σ H I _ fun vs B1 H1 I1 s1 r1 => ?_
  refine spx_of I1 (vals_reps r1 e5) e2 ?_
  cases r with
  | ok d' =>
    cases e
    exact fun v H' x rd => q v B1 H' (I1.ext x) (s1.trans x.stp) rd
  | ex c fs => cases e
end DL

end

section
set_option maxRecDepth 100000
set_option maxHeartbeats 1000000
/-! The data layer, part X5: isinstance of what a suite caught, as an expression. -/
namespace DL
open PySem PySem.Spec DLX
open L2 hiding Ext Ext.trans
/-- isinstance(e, c), e in the i-th slot what the suite caught, c a class -/
def tIsX (K : PySem.W.Frag) (a : Addr) (cls : Value) (d : Option Addr) (i : Nat) (C : Addr) : TE := fun σ H Q => ∃ D, cls = .ref D ∧ ExcC K D ∧ tCB (rIsED K D a d) (tCons (tVar i) (tCons (tC (.ref C)) tNil)) σ H Q
theorem pe_isX {X : Cx} {a : Addr} {oe : Obj} {cls : Value} {d : Option Addr} {pn : List (Addr × Obj)} {i : Nat} {C : Addr} {e1 e2 : Expr} {p pos : Pos} (hz : Zc cls d oe) (hf : ∃ vs, oe.data = .fields vs) (hg : Gl X "isinstance") (hm : X.mg "isinstance" = none)
    (ha : PA (X.suite a ((a, oe) :: pn)) [e1, e2] (tCons (tVar i) (tCons (tC (.ref C)) tNil))) (he : starEach [e1, e2] (X.suite a ((a, oe) :: pn)).env = (false, eval e1 (X.suite a ((a, oe) :: pn)).env) :: starEach [e2] (X.suite a ((a, oe) :: pn)).env := by rfl)
    (hpl : (backTo pos (starEach [e2] (X.suite a ((a, oe) :: pn)).env)).any (·.1) = false := by rfl) :
    PE (X.suite a ((a, oe) :: pn)) (.Call (.Name "isinstance" p) [e1, e2] [] pos) (tIsX X.K a cls d i C) := by
  refine ⟨fun pins s σ H Q I h => ?_⟩
  obtain ⟨D, rfl, hC, h⟩ := h
  exact (pe_callB (call_isED hC hz hf) hg hm PyProof.Rows.boot_isinstance ha (by decide) (by decide) he hpl).run pins s σ H Q I h
theorem isX_read {K : PySem.W.Frag} {a : Addr} {d : Option Addr} {i : Nat} {C D : Addr} {b : Bool} {σ : L2.St} {H : Hp} {Q : VK} (hσ : σ[i]? = some (some (V.ref a))) (hC : ExcC K D) (hk : PySem.W.kitOne K (.ref D) (.ref C) = some b) (hd : ∀ dd, d = some dd → ∃ fs, H dd = some (.xd fs)) (q : Q (.bl b) H) :
    tIsX K a (.ref D) d i C σ H Q := ⟨D, rfl, hC, .ref a, hσ, .ref C, .ref C, b, rfl, fun u r => r, hk, hd, q⟩
end DL

end

section
set_option maxRecDepth 100000
set_option maxHeartbeats 1000000
/-! The data layer, the head: what a look at the written part gives the walk. -/
namespace DL
open PySem PySem.Spec DLX
open L2 hiding Ext Ext.trans
section
variable {K : PySem.W.Frag} {mg : Str → Option Value} {h : Heap}
theorem ban {a b : Bool} (h : (a && b) = true) : a = true ∧ b = true := Bool.and_eq_true_iff.mp h
theorem mem_at {α : Type} {l : List α} {i : Nat} {x : α} (h : l[i]? = some x) : x ∈ l := List.mem_of_getElem? h
theorem gw_of (X : K.In h) (G : h.Ns mainGlobals mg) {gf gi gs gt go} (c : gwB K gf gi gs gt go = true) : GW K mg gf gi gs gt go := by
  obtain ⟨c1, c⟩ := ban c
  obtain ⟨c2, c⟩ := ban c
  obtain ⟨c3, c⟩ := ban c
  obtain ⟨c4, c5⟩ := ban c
  refine ⟨fun i x e => He.free_ok X G (List.all_eq_true.mp c1 x (mem_at e)), fun i x n e => ?_, fun i x z e => ?_, fun i x l e => ?_, fun i x e => ⟨_, He.glo_ok X G (List.all_eq_true.mp c5 x (mem_at e)), rfl⟩⟩
  · obtain ⟨t, q⟩ := He.int_ok X G (List.all_eq_true.mp c2 (x, n) (mem_at e))
    exact ⟨_, q, _, rfl⟩
  · obtain ⟨t, q⟩ := He.str_ok X G (List.all_eq_true.mp c3 (x, z) (mem_at e))
    exact ⟨_, q, _, rfl⟩
  · obtain ⟨q1, q2⟩ := ban (List.all_eq_true.mp c4 (x, l) (mem_at e))
    refine ⟨⟨_, He.glo_ok X G q1, rfl⟩, fun H => ?_⟩
    have := He.tupB_ok q2 H
    rw [List.map_map] at this
    exact this
/-- a def's facts -/
theorem fun_of {x q : Str} {st : Stmt} {f : Addr} {fd : FuncData} (F : FunD K x q (defArgs st) (defBody st) (defScope st) [] [] f fd) : Fun K x q st f fd := by
  obtain ⟨oc, od, dV, kV, doc, pm, an, cdv, ct, osl, e, lk, hcd, hD, hK⟩ := F.ex
  rcases hD with ⟨_, rfl⟩ | ⟨e2, _⟩
  · exact ⟨⟨oc, od, kV, doc, pm, an, cdv, ct, osl, e, lk, hcd⟩, F.kp⟩
  · exact absurd rfl e2
abbrev BndH (x qual : Str) (st : Stmt) (ps : List Str) : Prop := ∀ (kV doc pm : Value) (an : Option Addr) (cdv ct : Value) (us : List Value), us.length = ps.length → bindArgs (PySem.W.fnOf x qual (defArgs st) (defBody st) (defScope st) .none kV doc pm an cdv ct) ⟨us, []⟩ = pure (ps.zip us)
theorem df_of (X : K.In h) (G : h.Ns mainGlobals mg) {fa fn} (c : He.SaysD fa fn K) {x : Str} {st : Stmt} {ps : List Str} (i : Nat) (hi : fn[i]? = some (dfD x st)) (hg : (He.Fa.glo x).ok K = true) (hb : BndH x x st ps) : Df K mg x st ps := by
  obtain ⟨fd, F⟩ := c.def_ i hi
  have F' : FunD K x x (defArgs st) (defBody st) (defScope st) [] [] (He.ga K x) fd := F
  exact ⟨fd, fun_of F', ⟨_, He.glo_ok X G hg, rfl⟩, F'.bindsN hb⟩
theorem dfk_of (X : K.In h) (G : h.Ns mainGlobals mg) {fa fn} (c : He.SaysD fa fn K) {x a b : Str} {st : Stmt} (i : Nat) (hi : fn[i]? = some (dfD x st)) (hg : (He.Fa.glo x).ok K = true) (hb : BndH x x st [a, b])
    (hk : ∀ (kV doc pm : Value) (an : Option Addr) (cdv ct : Value) (y z : Value), bindArgs (PySem.W.fnOf x x (defArgs st) (defBody st) (defScope st) .none kV doc pm an cdv ct) ⟨[], [(b, y), (a, z)]⟩ = pure [(a, z), (b, y)]) : Dfk K mg x st a b := by
  obtain ⟨fd, F⟩ := c.def_ i hi
  have F' : FunD K x x (defArgs st) (defBody st) (defScope st) [] [] (He.ga K x) fd := F
  have F2 := fun_of F'
  refine ⟨fd, F2, ⟨_, He.glo_ok X G hg, rfl⟩, F'.bindsN hb, fun s y z => ?_⟩
  obtain ⟨oc, od, kV, doc, pm, an, cdv, ct, osl, e, lk, hcd⟩ := F2.ex
  subst e
  exact .of_eq (hk kV doc pm an cdv ct y z)
theorem dm_of (X : K.In h) (G : h.Ns mainGlobals mg) {fa fn} (c : He.SaysD fa fn K) {cl m q : Str} {st : Stmt} {ps : List Str} (i : Nat) (hi : fn[i]? = some (dmD cl m q st)) (hc : (He.Fa.cls cl).ok K = true) (hm : (He.Fa.meth cl m).ok K = true) (hb : BndH m q st ps) : Dm K mg cl m st ps := by
  obtain ⟨fd, F⟩ := c.def_ i hi
  have F' : FunD K m q (defArgs st) (defBody st) (defScope st) [] [] (He.ma K (He.ga K cl) m) fd := F
  exact ⟨fd, q, He.cls_ok hc, He.meth_ok hm, fun_of F', F'.bindsN hb⟩
theorem dk_of (X : K.In h) (G : h.Ns mainGlobals mg) {fa fn} (c : He.SaysD fa fn K) {cl q : Str} {st : Stmt} {ps : List Str} (i : Nat) (hi : fn[i]? = some (dmD cl "__init__" q st)) (hg : (He.Fa.glo cl).ok K = true) (hm : (He.Fa.mkr cl).ok K = true) (hb : BndH "__init__" q st ps) : Dk K mg cl st ps := by
  obtain ⟨fd, F⟩ := c.def_ i hi
  have F' : FunD K "__init__" q (defArgs st) (defBody st) (defScope st) [] [] (He.ma K (He.ga K cl) "__init__") fd := F
  exact ⟨fd, q, He.mkr_ok hm, ⟨_, He.glo_ok X G hg, rfl⟩, fun_of F', F'.bindsN hb⟩

/-! ### exception classes -/
theorem refsT_cases {tl : List Value} : ∀ {a : Value} {r : List Value}, refsT tl (a :: r) = true → (a :: r) = tl ∨ ∃ c, a = .ref c ∧ refsT tl r = true := fun {a r} e => by
  unfold refsT at e
  rcases Bool.or_eq_true_iff.mp e with h | h
  · exact .inl (beq_iff_eq.mp h)
  · cases a with
    | ref c => exact .inr ⟨c, rfl, h⟩
    | _ => cases h
theorem refsT_contains {tl : List Value} (Y : String) : ∀ {l : List Value}, refsT tl l = true → l.contains (.type Y) = tl.contains (.type Y)
  | [], e => by
    unfold refsT at e
    rw [beq_iff_eq.mp e]
  | a :: r, e => by
    rcases refsT_cases e with h | ⟨c, h1, h2⟩
    · rw [h]
    · subst h1
      rw [List.contains_cons, refsT_contains Y h2]
      rfl
theorem refsT_pass {tl : List Value} {self : Value} (hp : refuseLoop self "__setattr__" tl = pure ()) : ∀ {l : List Value}, refsT tl l = true → refuseLoop self "__setattr__" l = pure ()
  | [], e => by
    unfold refsT at e
    rw [beq_iff_eq.mp e]; exact hp
  | a :: r, e => by
    rcases refsT_cases e with h | ⟨c, h1, h2⟩
    · rw [h]; exact hp
    · subst h1
      rw [refuseLoop_ref]
      exact refsT_pass hp h2
theorem oex_of {C : Addr} {B newId initId : String} {tl : List Value} (F : ExcBaseFacts B newId initId tl) (hp : ∀ self : Value, refuseLoop self "__setattr__" tl = pure ()) (ho : tl.contains (.type "object") = true) (q : oexB K C newId tl = true) : OexG K C := by
  obtain ⟨q, q2⟩ := ban q
  obtain ⟨s1, q2⟩ := ban q2
  obtain ⟨s2, q2⟩ := ban q2
  obtain ⟨s3, s4⟩ := ban q2
  refine ⟨?_, of_decide_eq_true s1, of_decide_eq_true s2, of_decide_eq_true s3, s4⟩
  split at q
  · rename_i dd cd sl hl
    split at q
    · rename_i C' bm k0 k1 k2 k3 n k5 hm hs
      obtain ⟨e1, qa⟩ := ban q
      obtain ⟨e2, qb⟩ := ban qa
      obtain ⟨e3, qc⟩ := ban qb
      obtain ⟨e4, qd⟩ := ban qc
      clear q qa qb qc
      have e1 := beq_iff_eq.mp e1
      have e2 := beq_iff_eq.mp e2
      subst e1 e2
      obtain ⟨nm, bs, mro, ns, qn, hd, sn, sub, ab, col, del⟩ := cd
      dsimp only at hm e3 e4
      have e3' : del = false := by simpa using e3
      subst hm e3' e4
      have hsl : sl = #[k0, k1, k2, k3, some (.builtin n), k5] := by
        obtain ⟨l⟩ := sl
        simp only at hs
        rw [hs]
      subst hsl
      refine ⟨nm, qn, ns, bs, bm, sn, sub, ab, col, dd, k0, k1, k2, k3, k5, B, n, initId, tl, hl, F, fun Y => refsT_contains Y qd, fun self => ?_, ?_⟩
      · rw [refuseLoop_ref]
        exact refsT_pass (hp self) qd
      · rw [List.contains_cons, refsT_contains "object" qd, ho, Bool.or_true]
    · cases q
  · cases q
theorem de_of (X : K.In h) (G : h.Ns mainGlobals mg) {fa fn} (c : He.SaysD fa fn K) {cl f q : Str} {st : Stmt} {ps : List Str} (i : Nat) (hi : fn[i]? = some (dmD cl "__init__" q st)) (T : OexG K (He.ga K cl)) (hd : deB K cl f = true) (hb : BndH "__init__" q st ps) : De K mg cl f st ps := by
  obtain ⟨fd, F⟩ := c.def_ i hi
  have F' : FunD K "__init__" q (defArgs st) (defBody st) (defScope st) [] [] (He.ma K (He.ga K cl) "__init__") fd := F
  obtain ⟨d1, hd⟩ := ban hd
  obtain ⟨d2, hd⟩ := ban hd
  obtain ⟨d3, d4⟩ := ban hd
  exact ⟨_, fd, q, T, of_decide_eq_true d1, of_decide_eq_true d2, of_decide_eq_true d3, ⟨_, He.glo_ok X G d4, rfl⟩, fun_of F', F'.bindsN hb⟩
theorem ex0_of (X : K.In h) (G : h.Ns mainGlobals mg) {c : Str} {B newId initId : String} {bmB : List Value} (F : ExcBaseFacts B newId initId bmB) (q : ex0B K c bmB newId = true) : Ex0 K mg c := by
  obtain ⟨q1, q⟩ := ban q
  obtain ⟨q2, q⟩ := ban q
  obtain ⟨q3, q⟩ := ban q
  obtain ⟨q4, q5⟩ := ban q
  exact ⟨bmB, B, newId, initId, F, q1, ⟨_, He.glo_ok X G q2, rfl⟩, q3, of_decide_eq_true q4, of_decide_eq_true q5⟩
theorem excC_of {D : Addr} (q : excCB K D = true) : ExcC K D := by
  obtain ⟨q1, q⟩ := ban q
  obtain ⟨q2, q⟩ := ban q
  obtain ⟨q3, q⟩ := ban q
  obtain ⟨q4, q5⟩ := ban q
  have T := xfB_ok q1
  exact ⟨T.ga, T.gg, T.exC, T.hdC, of_decide_eq_true q2, of_decide_eq_true q3, of_decide_eq_true q4, of_decide_eq_true q5⟩
theorem ask_of {c : Str} (q : askB K c = true) : AskC K (He.ga K c) := by
  obtain ⟨q1, q⟩ := ban q
  obtain ⟨q2, q⟩ := ban q
  obtain ⟨q3, q⟩ := ban q
  obtain ⟨q4, q5⟩ := ban q
  exact ⟨He.cls_ok q1, of_decide_eq_true q2, of_decide_eq_true q3, of_decide_eq_true q4, of_decide_eq_true q5⟩
theorem ne_of {c : Str} (q : neB K c = true) : NeC K c := ⟨of_decide_eq_true (ban q).1, of_decide_eq_true (ban q).2⟩
end
/-! ### a hook that tells more -/
end DL

end

section
set_option maxRecDepth 100000
set_option maxHeartbeats 400000
/-! The walk of the defs, printed by gen77.py. -/
namespace W77
open PySem PySem.Spec L2 DL
def CF (c f : Str) : Bool := decide (c = "Design") && decide (f ∈ (["fields", "modes", "calls", "views", "names", "view_names", "text"] : List Str))
def kt : Ty → Ty → Option Bool
  | .b s, .b t => if s ∈ tyB ∧ t ∈ (["str", "tuple"] : List String) then some (decide (s = t)) else none
  | .u c, .b t => if c = "Design" ∧ t ∈ (["str", "tuple"] : List String) then some false else none
  | .b s, .u c => if s ∈ tyB ∧ c = "Design" then some false else none
  | .u c, .u d => if c = "Design" ∧ d = "Design" then some true else none
/-- what is asked of the exceptions' classes -/
def exmT (c t : Str) : Option Bool := if c ∈ excX ∧ t ∈ clsX then some (decide (t ∈ supX c)) else none
def kitT (c t : Str) : Option Bool := if c ∈ excX ∧ t ∈ isX then some (decide (t ∈ supX c)) else none
def xfT (c f : Str) : Bool := decide ((c, f) ∈ ([("NotADesign", "value"), ("TooManyFields", "limit"), ("TooManyCalls", "limit"), ("TooManyViews", "limit"), ("TooManyFacts", "limit")] : List (Str × Str)))
structure ExcK (K : PySem.W.Frag) : Prop where
  exm : ∀ c t b, exmT c t = some b → PySem.W.exmOne K (.ref (He.ga K c)) (.ref (He.ga K t)) = some b
  kit : ∀ c t b, kitT c t = some b → PySem.W.kitOne K (.ref (He.ga K c)) (.ref (He.ga K t)) = some b
  exc : ∀ c, decide (c ∈ excX) = true → ExcC K (He.ga K c)
  xf : ∀ c f, xfT c f = true → XfC K (He.ga K c) ∧ PySem.W.findIn K (.ref (He.ga K c)) f = some none
structure Hy (K : PySem.W.Frag) (mg : Str → Option Value) : Prop where
  G : GW K mg gf gi gs gt go
  hC : ClsOk K CF
  hT : KtOk K kt
  ne : He.ga K "is_name" ≠ He.ga K "is_field_name"
  xk : ExcK K
  neC : NeC K "Design"
  e_NotComparable : Ex0 K mg "NotComparable"
  x_NotADesign : De K mg "NotADesign" "value" (inClass (top 5) 0) ["self", "value"]
  x_TooManyFields : De K mg "TooManyFields" "limit" (inClass (top 14) 0) ["self", "limit"]
  x_TooManyCalls : De K mg "TooManyCalls" "limit" (inClass (top 15) 0) ["self", "limit"]
  x_TooManyViews : De K mg "TooManyViews" "limit" (inClass (top 16) 0) ["self", "limit"]
  x_TooManyFacts : De K mg "TooManyFacts" "limit" (inClass (top 17) 0) ["self", "limit"]
  d_is_name : Df K mg "is_name" (top 31) ["value"]
  d_is_field_name : Df K mg "is_field_name" (top 32) ["value"]
  d_is_row : Df K mg "is_row" (top 33) ["value", "count"]
  d_wrong_name : Df K mg "wrong_name" (top 34) ["value", "taken"]
  d_is_form : Df K mg "is_form" (top 37) ["value"]
  d_words_of : Df K mg "words_of" (top 38) ["form"]
  d_depth_of : Df K mg "depth_of" (top 39) ["form"]
  d_is_small : Df K mg "is_small" (top 40) ["form"]
  d_is_form_of : Df K mg "is_form_of" (top 41) ["fields", "has_given", "value"]
  d_form_text : Df K mg "form_text" (top 42) ["form"]
  d_side_text : Df K mg "side_text" (top 43) ["form"]
  d_check_fields : Df K mg "check_fields" (top 50) ["value"]
  d_check_modes : Df K mg "check_modes" (top 51) ["value"]
  d_is_fact : Df K mg "is_fact" (top 52) ["fields", "has_given", "value"]
  d_are_updates : Df K mg "are_updates" (top 53) ["fields", "has_given", "value"]
  d_is_case : Df K mg "is_case" (top 54) ["fields", "modes", "sort", "value"]
  d_is_call : Df K mg "is_call" (top 55) ["fields", "modes", "value"]
  d_check_calls : Df K mg "check_calls" (top 56) ["fields", "modes", "value"]
  d_is_view : Df K mg "is_view" (top 57) ["fields", "modes", "value"]
  d_check_views : Df K mg "check_views" (top 58) ["fields", "modes", "value"]
  d_case_lines : Df K mg "case_lines" (top 62) ["case"]
  d_design_text : Df K mg "design_text" (top 63) ["fields", "modes", "calls", "views"]
  d_Design_init : Dk K mg "Design" (inClass (top 71) 0) ["self", "fields", "modes", "calls", "views"]
  d_Design_call : Dm K mg "Design" "call" (inClass (top 71) 2) ["self", "name"]
  d_check_mode : Df K mg "check_mode" (top 73) ["design", "value"]
  d_Design_sort_of : Dm K mg "Design" "sort_of" (inClass (top 71) 3) ["self", "call"]
  d_Design_case_of : Dm K mg "Design" "case_of" (inClass (top 71) 4) ["self", "call", "mode"]
  d_Design_contains : Dm K mg "Design" "__contains__" (inClass (top 71) 10) ["self", "value"]
  d_Design_eq : Dm K mg "Design" "__eq__" (inClass (top 71) 11) ["self", "other"]
  d_can_join : Df K mg "can_join" (top 75) ["first", "second"]
  d_joined_call : Df K mg "joined_call" (top 76) ["call", "second"]
  d_spread_call : Df K mg "spread_call" (top 77) ["call", "modes"]
  d_check_design : Df K mg "check_design" (top 72) ["value"]
  d_beside : Dfk K mg "beside" (top 78) "first" "second"
  d__law_purse : Df K mg "_law_purse" (top 80) ["script"]
  d__law_draw : Df K mg "_law_draw" (top 81) ["purse", "many"]
  d__law_pick : Df K mg "_law_pick" (top 82) ["purse", "menu"]
  d__law_names : Df K mg "_law_names" (top 83) ["purse", "many"]
  d__law_form : Df K mg "_law_form" (top 84) ["purse", "words", "deep"]
  d__law_fact : Df K mg "_law_fact" (top 85) ["purse", "words"]
  d__law_update : Df K mg "_law_update" (top 86) ["purse", "slot", "fields", "words"]
  d__law_case : Df K mg "_law_case" (top 87) ["purse", "sort", "mode", "fields", "modes"]
  d__law_menu : Df K mg "_law_menu" (top 88) ["purse"]
  d__law_design : Df K mg "_law_design" (top 89) ["menu"]
  d__law_second : Df K mg "_law_second" (top 90) ["purse", "menu"]
  d__law_side_by_side : Df K mg "_law_side_by_side" (top 91) ["one", "two"]
  d__law_spoilt : Df K mg "_law_spoilt" (top 93) ["purse", "one", "two"]
  d__law_due : Df K mg "_law_due" (top 94) ["one", "two"]
  d__law_error : Df K mg "_law_error" (top 92) ["one", "two"]
  d__law_right : Df K mg "_law_right" (top 95) ["purse"]
  d_law : Df K mg "law" (top 96) ["script"]
section
variable {P : Program} {w : World} {K : PySem.W.Frag} {mg : Str → Option Value} {base : Heap}
theorem e_NotADesign (H0 : Hy K mg) : Ex1 P w K mg base "NotADesign" "value" := ex1_of H0.x_NotADesign ⟨rfl, rfl, rfl, by decide +kernel, rfl, by decide +kernel, by decide +kernel⟩ (fun qual fI cdv A outer s H E => pss_one (ps_ostG (pv 0) (pv 1)))
theorem e_TooManyFields (H0 : Hy K mg) : Ex1 P w K mg base "TooManyFields" "limit" := ex1_of H0.x_TooManyFields ⟨rfl, rfl, rfl, by decide +kernel, rfl, by decide +kernel, by decide +kernel⟩ (fun qual fI cdv A outer s H E => pss_one (ps_ostG (pv 0) (pv 1)))
theorem e_TooManyCalls (H0 : Hy K mg) : Ex1 P w K mg base "TooManyCalls" "limit" := ex1_of H0.x_TooManyCalls ⟨rfl, rfl, rfl, by decide +kernel, rfl, by decide +kernel, by decide +kernel⟩ (fun qual fI cdv A outer s H E => pss_one (ps_ostG (pv 0) (pv 1)))
theorem e_TooManyViews (H0 : Hy K mg) : Ex1 P w K mg base "TooManyViews" "limit" := ex1_of H0.x_TooManyViews ⟨rfl, rfl, rfl, by decide +kernel, rfl, by decide +kernel, by decide +kernel⟩ (fun qual fI cdv A outer s H E => pss_one (ps_ostG (pv 0) (pv 1)))
theorem e_TooManyFacts (H0 : Hy K mg) : Ex1 P w K mg base "TooManyFacts" "limit" := ex1_of H0.x_TooManyFacts ⟨rfl, rfl, rfl, by decide +kernel, rfl, by decide +kernel, by decide +kernel⟩ (fun qual fI cdv A outer s H E => pss_one (ps_ostG (pv 0) (pv 1)))
abbrev st_is_name : Stmt := top 31
theorem S_is_name : FnScope ["value", "fitting", "sign"] ["value"] (defScope st_is_name) := ⟨rfl, rfl, rfl, by decide +kernel, rfl, by decide +kernel, by decide +kernel⟩
def g_is_name  : FS := (gSeq (gIf (ftOr (ftNot (fTr (fCB (isiD kt) (faCons (fVar 0) (faCons (fC (.ty "str")) faNil))))) (fBt (fOp eqD (fVar 0) (fC (.str ""))))) (gRet (fC (.bl false))) gNext) (gSeq (gAsg (fCB allD (faCons (fL (fLc [2] (fIt (fVar 0)) (pName 2) fYes (fOp inD (fVar 2) (fC (.str "abcdefghijklmnopqrstuvwxyz0123456789"))))) faNil)) (pName 1)) (gRet (fAnd (fVar 1) (fAnd (fOp inD (fOp ixD (fVar 0) (fC (.int (0)))) (fC (.str "abcdefghijklmnopqrstuvwxyz"))) (fOp leD (fCB lenD (faCons (fVar 0) faNil)) (fC (.int 8))))))))
def F_is_name : DF := bodyF 3 [false] g_is_name
theorem w_is_name (H0 : Hy K mg) : CalD P w K mg base 1 "is_name" (SpF K [false] F_is_name) := by
  have G := H0.G
  have hC := H0.hC
  have hT := H0.hT
  have S := S_is_name
  exact (cal_of (N := ["value", "fitting", "sign"]) (ms := [false]) (k := 0) (g := g_is_name) H0.d_is_name S rfl
    (ds_seq (ds_if (dt_or (dt_not (dt_tr (de_cb (crd_isi hT) (da_cons (de_var 0) (da_cons (de_ty "str") da_nil))))) (dt_bl (de_op dr_eq (de_var 0) (de_str "")))) (ds_ret (de_bl false)) ds_next) (ds_seq (ds_asg (de_cb crd_all (da_cons (de_new (dn_lc (vs := [2]) (di_sq (de_var 0)) (dg_name 2) (by decide) dt_yes (de_op dr_in (de_var 2) (de_str "abcdefghijklmnopqrstuvwxyz0123456789")) (tame_name 2))) da_nil)) (dg_name 1)) (ds_ret (de_and (de_var 1) (de_and (de_op dr_in (de_op dr_ix (de_var 0) (de_int (0))) (de_str "abcdefghijklmnopqrstuvwxyz")) (de_op dr_le (de_cb crd_len (da_cons (de_var 0) da_nil)) (de_int 8)))))))
    (fun cdv A outer s H E hr => (pss_cons (ps_if (PW.pt (pw_or (pt_not (pt_tr (pe_callB call_isi rfl (G.free 1 _ rfl) PyProof.Rows.boot_isinstance (pa_cons (pv 0) (pa_cons (pe_bty rfl (G.free 0 _ rfl) PyProof.Rows.boot_str) pa_nil))))) (pw_or1 (pt_cmpR (op_eqD hr.units) (pv 0) pe_str (nomark _))))) (pss_one (ps_ret pe_bl)) pss_nil) (pss_cons (ps_set S.nd (i := 1) rfl (Or.inl rfl) (pe_callB (cr_all rfl) rfl (G.free 2 _ rfl) (by decide +kernel) (pa_cons (pe_lc (own := [("sign", 2)]) rfl S.nd (pi_sq (pv 0)) (blk_by (by kernel_rfl)) (fun _ _ _ _ _ => (pg_name S.nd (i := 2) rfl (Or.inl rfl))) (fun _ _ _ _ _ => pts_nil) (fun _ _ _ _ _ => (pe_cmpR op_inU (pv 2) (C8.pe_gc rfl (G.str 0 _ _ rfl)) rfl))) pa_nil))) (pss_one (ps_ret (pe_andT (pv 1) (pe_andT (pe_cmpR op_inU (pe_ix ix_seq (pv 0) pe_int (fun _ _ => rfl)) (C8.pe_gc rfl (G.str 1 _ _ rfl)) rfl) (pe_one (pe_cmpR op_leU (pe_callB ca_len rfl (G.free 3 _ rfl) PySem.boot_len (pa_cons (pv 0) pa_nil)) (C8.pe_gc rfl (G.int 0 _ _ rfl)) (nomark _)))))))))) :)
abbrev st_is_field_name : Stmt := top 32
theorem S_is_field_name : FnScope ["value"] ["value"] (defScope st_is_field_name) := ⟨rfl, rfl, rfl, by decide +kernel, rfl, by decide +kernel, by decide +kernel⟩
def g_is_field_name  : FS := (gRet (fAnd (fCall [false] F_is_name (faCons (fVar 0) faNil)) (fOp ninD (fVar 0) (fTup (faCons (fC (.str "given")) (faCons (fC (.str "none")) faNil))))))
def F_is_field_name : DF := bodyF 1 [false] g_is_field_name
theorem w_is_field_name (H0 : Hy K mg) : CalD P w K mg base 2 "is_field_name" (SpF K [false] F_is_field_name) := by
  have G := H0.G
  have hC := H0.hC
  have hT := H0.hT
  have S := S_is_field_name
  exact (cal_of (N := ["value"]) (ms := [false]) (k := 1) (g := g_is_field_name) H0.d_is_field_name S rfl
    (ds_ret (de_and (de_call (da_cons (de_var 0) da_nil)) (de_op dr_nin (de_var 0) (de_tup (da_cons (de_str "given") (da_cons (de_str "none") da_nil))))))
    (fun cdv A outer s H E hr => (pss_one (ps_ret (pe_andT (pe_cd (w_is_name H0) hr (by decide) rfl (pa_cons (pv 0) pa_nil)) (pe_one (pe_cmpR op_ninU (pv 0) (pe_tup (pa_cons (C8.pe_gc rfl (G.str 3 _ _ rfl)) (pa_cons (C8.pe_gc rfl (G.str 2 _ _ rfl)) pa_nil))) rfl)))))) :)
abbrev st_is_row : Stmt := top 33
theorem S_is_row : FnScope ["value", "count"] ["value", "count"] (defScope st_is_row) := ⟨rfl, rfl, rfl, by decide +kernel, rfl, by decide +kernel, by decide +kernel⟩
def g_is_row  : FS := (gSeq (gIf (fTr (fCB (isiD kt) (faCons (fVar 0) (faCons (fC (.ty "tuple")) faNil)))) (gRet (fOp eqD (fCB lenD (faCons (fVar 0) faNil)) (fVar 1))) gNext) (gRet (fC (.bl false))))
def F_is_row : DF := bodyF 2 [false, false] g_is_row
theorem w_is_row (H0 : Hy K mg) : CalD P w K mg base 1 "is_row" (SpF K [false, false] F_is_row) := by
  have G := H0.G
  have hC := H0.hC
  have hT := H0.hT
  have S := S_is_row
  exact (cal_of (N := ["value", "count"]) (ms := [false, false]) (k := 0) (g := g_is_row) H0.d_is_row S rfl
    (ds_seq (ds_if (dt_tr (de_cb (crd_isi hT) (da_cons (de_var 0) (da_cons (de_ty "tuple") da_nil)))) (ds_ret (de_op dr_eq (de_cb crd_len (da_cons (de_var 0) da_nil)) (de_var 1))) ds_next) (ds_ret (de_bl false)))
    (fun cdv A outer s H E hr => (pss_cons (ps_if (pt_tr (pe_callB call_isi rfl (G.free 1 _ rfl) PyProof.Rows.boot_isinstance (pa_cons (pv 0) (pa_cons (pe_bty rfl (G.free 4 _ rfl) PyProof.Rows.boot_tuple) pa_nil)))) (pss_one (ps_ret (pe_cmpR (op_eqD hr.units) (pe_callB ca_len rfl (G.free 3 _ rfl) PySem.boot_len (pa_cons (pv 0) pa_nil)) (pv 1) (nomark _)))) pss_nil) (pss_one (ps_ret pe_bl)))) :)
def heldF (x : Str) : Option DF := if x = "is_name" then some F_is_name else if x = "is_field_name" then some F_is_field_name else none
def heldA (K : PySem.W.Frag) : Addr → Option Sp := fun f => if f = He.ga K "is_name" then some (SpF K [false] F_is_name) else if f = He.ga K "is_field_name" then some (SpF K [false] F_is_field_name) else none
theorem heldS (H0 : Hy K mg) : ∀ x Ff, heldF x = some Ff → heldA K (He.ga K x) = some (SpF K [false] Ff) := by
  intro x Ff e
  unfold heldF at e
  unfold heldA
  split at e
  · rename_i h
    cases e
    rw [h, if_pos rfl]
  · split at e
    · rename_i h
      cases e
      rw [h, if_neg (Ne.symm H0.ne), if_pos rfl]
    · cases e
theorem heldT (H0 : Hy K mg) {j : Nat} (hj : 2 ≤ j) : ∀ f sp, heldA K f = some sp → Held P w K mg base j f sp := by
  intro f sp e
  unfold heldA at e
  split at e
  · rename_i h
    cases e
    rw [h]
    exact (w_is_name H0).held (by omega)
  · split at e
    · rename_i h
      cases e
      rw [h]
      exact (w_is_field_name H0).held hj
    · cases e
abbrev st_wrong_name : Stmt := top 34
theorem S_wrong_name : FnScope ["value", "taken", "earlier", "index", "name"] ["value", "taken"] (defScope st_wrong_name) := ⟨rfl, rfl, rfl, by decide +kernel, rfl, by decide +kernel, by decide +kernel⟩
def g_wrong_name  : FS := (gSeq (gAsgN (fLst faNil) 2) (gSeq (gFor (fEnumT (fVar 0)) (pTup 2 (pCons (pName 3) (pCons (pName 4) pNil))) (gSeq (gIf (ftOr (ftNot (fTr (fCallA 1 [false] heldF (faCons (fVar 4) faNil)))) (fBt (fInB false (fVar 4) (fBor 2)))) (gRet (fVar 3)) gNext) (gApp 2 (fVar 4)))) (gRet (fC (.int (-1))))))
def F_wrong_name : DF := bodyF 5 [false, false] g_wrong_name
theorem w_wrong_name (H0 : Hy K mg) : CalD P w K mg base 3 "wrong_name" (SpF K [false, false] F_wrong_name) := by
  have G := H0.G
  have hC := H0.hC
  have hT := H0.hT
  have S := S_wrong_name
  exact (cal_of (N := ["value", "taken", "earlier", "index", "name"]) (ms := [false, false]) (k := 2) (g := g_wrong_name) H0.d_wrong_name S rfl
    (ds_seq (ds_asgN (dn_lst da_nil) 2) (ds_seq (ds_for (di_enumT (de_var 0)) (dg_tup (n := 2) (dgs_cons (dg_name 3) (dgs_cons (dg_name 4) dgs_nil))) (ds_seq (ds_if (dt_or (dt_not (dt_tr (de_callA 1 (heldS H0) (da_cons (de_var 4) da_nil)))) (dt_bl (de_inB (de_var 4) (db_var 2)))) (ds_ret (de_var 3)) ds_next) (ds_app 2 (de_var 4)))) (ds_ret (de_int (-1)))))
    (fun cdv A outer s H E hr => (pss_cons (ps_set S.nd (i := 2) rfl (Or.inl rfl) (pe_lst pa_nil)) (pss_cons (ps_for PassesOwn.never rfl (pi_enumT rfl (G.free 5 _ rfl) (pa_cons (pv 0) pa_nil)) (pg_tup (n := 2) rfl (pgs_cons (pg_name S.nd (i := 3) rfl (Or.inl rfl)) (pgs_cons (pg_name S.nd (i := 4) rfl (Or.inl rfl)) pgs_nil))) (pss_cons (ps_if (PW.pt (pw_or (pt_not (pt_tr (pe_callA (heldT H0 (by decide)) hr (i := 1) rfl (Or.inl rfl) (pa_cons (pv 4) pa_nil)))) (pw_or1 (pt_cmpR op_in_seq (pv 4) (pv 2) rfl)))) (pss_one (ps_ret (pv 3))) pss_nil) (pss_one (ps_expr (pe_bm F.plainAttrs_list PySem.F.slot_list_append PySem.F.type_list_append mt_append (pv 2) (pa_cons (pv 4) pa_nil)))))) (pss_one (ps_ret pe_negc))))) :)
abbrev st_is_form : Stmt := top 37
theorem S_is_form : FnScope ["value"] ["value"] (defScope st_is_form) := ⟨rfl, rfl, rfl, by decide +kernel, rfl, by decide +kernel, by decide +kernel⟩
def g_is_form (r_is_form : DF) : FS := (gSeq (gIf (fTr (fCB (isiD kt) (faCons (fVar 0) (faCons (fC (.ty "str")) faNil)))) (gRet (fCall [false] F_is_name (faCons (fVar 0) faNil))) gNext) (gSeq (gIf (ftOr (ftNot (fTr (fCall [false, false] F_is_row (faCons (fVar 0) (faCons (fC (.int (3))) faNil))))) (ftOr (ftNot (fTr (fCB (isiD kt) (faCons (fOp ixD (fVar 0) (fC (.int (0)))) (faCons (fC (.ty "str")) faNil))))) (fBt (fOp ninD (fOp ixD (fVar 0) (fC (.int (0)))) (fC (.tup (List.map D.str ["|", "&", "-", "^"]))))))) (gRet (fC (.bl false))) gNext) (gRet (fAnd (fCall [false] r_is_form (faCons (fOp ixD (fVar 0) (fC (.int (1)))) faNil)) (fCall [false] r_is_form (faCons (fOp ixD (fVar 0) (fC (.int (2)))) faNil))))))
def F_is_form : Nat → DF
  | 0 => fun _ => none
  | n + 1 => bodyF 1 [false] (g_is_form (F_is_form n))
theorem w_is_form (H0 : Hy K mg) : ∀ n : Nat, CalD P w K mg base (1 + n) "is_form" (SpF K [false] (F_is_form n))
  | 0 => cal_none H0.d_is_form _
  | n + 1 => by
    have ih := w_is_form H0 n
    have G := H0.G
    have hC := H0.hC
    have hT := H0.hT
    have S := S_is_form
    exact (cal_of (N := ["value"]) (ms := [false]) (k := 1 + n) (g := g_is_form (F_is_form n)) H0.d_is_form S rfl
      (ds_seq (ds_if (dt_tr (de_cb (crd_isi hT) (da_cons (de_var 0) (da_cons (de_ty "str") da_nil)))) (ds_ret (de_call (da_cons (de_var 0) da_nil))) ds_next) (ds_seq (ds_if (dt_or (dt_not (dt_tr (de_call (da_cons (de_var 0) (da_cons (de_int (3)) da_nil))))) (dt_or (dt_not (dt_tr (de_cb (crd_isi hT) (da_cons (de_op dr_ix (de_var 0) (de_int (0))) (da_cons (de_ty "str") da_nil))))) (dt_bl (de_op dr_nin (de_op dr_ix (de_var 0) (de_int (0))) (de_gtup (G.tup 0 _ _ rfl).2))))) (ds_ret (de_bl false)) ds_next) (ds_ret (de_and (de_call (da_cons (de_op dr_ix (de_var 0) (de_int (1))) da_nil)) (de_call (da_cons (de_op dr_ix (de_var 0) (de_int (2))) da_nil))))))
      (fun cdv A outer s H E hr => (pss_cons (ps_if (pt_tr (pe_callB call_isi rfl (G.free 1 _ rfl) PyProof.Rows.boot_isinstance (pa_cons (pv 0) (pa_cons (pe_bty rfl (G.free 0 _ rfl) PyProof.Rows.boot_str) pa_nil)))) (pss_one (ps_ret (pe_cd (w_is_name H0) hr (by omega) rfl (pa_cons (pv 0) pa_nil)))) pss_nil) (pss_cons (ps_if (PW.pt (pw_or (pt_not (pt_tr (pe_cd (w_is_row H0) hr (by omega) rfl (pa_cons (pv 0) (pa_cons pe_int pa_nil))))) (pw_or (pt_not (pt_tr (pe_callB call_isi rfl (G.free 1 _ rfl) PyProof.Rows.boot_isinstance (pa_cons (pe_ix ix_seq (pv 0) pe_int (fun _ _ => rfl)) (pa_cons (pe_bty rfl (G.free 0 _ rfl) PyProof.Rows.boot_str) pa_nil))))) (pw_or1 (pt_cmpR op_ninU (pe_ix ix_seq (pv 0) pe_int (fun _ _ => rfl)) (C8.pe_gc rfl (G.tup 0 _ _ rfl).1) rfl))))) (pss_one (ps_ret pe_bl)) pss_nil) (pss_one (ps_ret (pe_andT (pe_cd ih hr (by omega) rfl (pa_cons (pe_ix ix_seq (pv 0) pe_int (fun _ _ => rfl)) pa_nil)) (pe_one (pe_cd ih hr (by omega) rfl (pa_cons (pe_ix ix_seq (pv 0) pe_int (fun _ _ => rfl)) pa_nil))))))))) :)
abbrev st_words_of : Stmt := top 38
theorem S_words_of : FnScope ["form"] ["form"] (defScope st_words_of) := ⟨rfl, rfl, rfl, by decide +kernel, rfl, by decide +kernel, by decide +kernel⟩
def g_words_of (r_words_of : DF) : FS := (gSeq (gIf (fTr (fCB (isiD kt) (faCons (fVar 0) (faCons (fC (.ty "str")) faNil)))) (gRet (fL (fLst (faCons (fVar 0) faNil)))) gNext) (gRet (fOp addD (fCall [false] r_words_of (faCons (fOp ixD (fVar 0) (fC (.int (1)))) faNil)) (fCall [false] r_words_of (faCons (fOp ixD (fVar 0) (fC (.int (2)))) faNil)))))
def F_words_of : Nat → DF
  | 0 => fun _ => none
  | n + 1 => bodyF 1 [false] (g_words_of (F_words_of n))
theorem w_words_of (H0 : Hy K mg) : ∀ n : Nat, CalD P w K mg base (0 + n) "words_of" (SpF K [false] (F_words_of n))
  | 0 => cal_none H0.d_words_of _
  | n + 1 => by
    have ih := w_words_of H0 n
    have G := H0.G
    have hC := H0.hC
    have hT := H0.hT
    have S := S_words_of
    exact (cal_of (N := ["form"]) (ms := [false]) (k := 0 + n) (g := g_words_of (F_words_of n)) H0.d_words_of S rfl
      (ds_seq (ds_if (dt_tr (de_cb (crd_isi hT) (da_cons (de_var 0) (da_cons (de_ty "str") da_nil)))) (ds_ret (de_new (dn_lst (da_cons (de_var 0) da_nil)))) ds_next) (ds_ret (de_op dr_add (de_call (da_cons (de_op dr_ix (de_var 0) (de_int (1))) da_nil)) (de_call (da_cons (de_op dr_ix (de_var 0) (de_int (2))) da_nil)))))
      (fun cdv A outer s H E hr => (pss_cons (ps_if (pt_tr (pe_callB call_isi rfl (G.free 1 _ rfl) PyProof.Rows.boot_isinstance (pa_cons (pv 0) (pa_cons (pe_bty rfl (G.free 0 _ rfl) PyProof.Rows.boot_str) pa_nil)))) (pss_one (ps_ret (pe_lst (pa_cons (pv 0) pa_nil)))) pss_nil) (pss_one (ps_ret (pe_op op_addU (pe_cd ih hr (by omega) rfl (pa_cons (pe_ix ix_seq (pv 0) pe_int (fun _ _ => rfl)) pa_nil)) (pe_cd ih hr (by omega) rfl (pa_cons (pe_ix ix_seq (pv 0) pe_int (fun _ _ => rfl)) pa_nil))))))) :)
abbrev st_depth_of : Stmt := top 39
theorem S_depth_of : FnScope ["form"] ["form"] (defScope st_depth_of) := ⟨rfl, rfl, rfl, by decide +kernel, rfl, by decide +kernel, by decide +kernel⟩
def g_depth_of (r_depth_of : DF) : FS := (gSeq (gIf (fTr (fCB (isiD kt) (faCons (fVar 0) (faCons (fC (.ty "str")) faNil)))) (gRet (fC (.int (1)))) gNext) (gRet (fOp addD (fC (.int (1))) (fCB maxD (faCons (fCB intD (faCons (fCall [false] r_depth_of (faCons (fOp ixD (fVar 0) (fC (.int (1)))) faNil)) faNil)) (faCons (fCB intD (faCons (fCall [false] r_depth_of (faCons (fOp ixD (fVar 0) (fC (.int (2)))) faNil)) faNil)) faNil))))))
def F_depth_of : Nat → DF
  | 0 => fun _ => none
  | n + 1 => bodyF 1 [false] (g_depth_of (F_depth_of n))
theorem w_depth_of (H0 : Hy K mg) : ∀ n : Nat, CalD P w K mg base (0 + n) "depth_of" (SpF K [false] (F_depth_of n))
  | 0 => cal_none H0.d_depth_of _
  | n + 1 => by
    have ih := w_depth_of H0 n
    have G := H0.G
    have hC := H0.hC
    have hT := H0.hT
    have S := S_depth_of
    exact (cal_of (N := ["form"]) (ms := [false]) (k := 0 + n) (g := g_depth_of (F_depth_of n)) H0.d_depth_of S rfl
      (ds_seq (ds_if (dt_tr (de_cb (crd_isi hT) (da_cons (de_var 0) (da_cons (de_ty "str") da_nil)))) (ds_ret (de_int (1))) ds_next) (ds_ret (de_op dr_add (de_int (1)) (de_cb crd_max (da_cons (de_cb crd_int (da_cons (de_call (da_cons (de_op dr_ix (de_var 0) (de_int (1))) da_nil)) da_nil)) (da_cons (de_cb crd_int (da_cons (de_call (da_cons (de_op dr_ix (de_var 0) (de_int (2))) da_nil)) da_nil)) da_nil))))))
      (fun cdv A outer s H E hr => (pss_cons (ps_if (pt_tr (pe_callB call_isi rfl (G.free 1 _ rfl) PyProof.Rows.boot_isinstance (pa_cons (pv 0) (pa_cons (pe_bty rfl (G.free 0 _ rfl) PyProof.Rows.boot_str) pa_nil)))) (pss_one (ps_ret pe_int)) pss_nil) (pss_one (ps_ret (pe_op op_addU pe_int (pe_callB (ca_max rfl) rfl (G.free 7 _ rfl) (by decide +kernel) (pa_cons (pe_callTy ca_int rfl (G.free 6 _ rfl) PyProof.Rows.boot_int (pa_cons (pe_cd ih hr (by omega) rfl (pa_cons (pe_ix ix_seq (pv 0) pe_int (fun _ _ => rfl)) pa_nil)) pa_nil)) (pa_cons (pe_callTy ca_int rfl (G.free 6 _ rfl) PyProof.Rows.boot_int (pa_cons (pe_cd ih hr (by omega) rfl (pa_cons (pe_ix ix_seq (pv 0) pe_int (fun _ _ => rfl)) pa_nil)) pa_nil)) pa_nil)))))))) :)
abbrev st_is_small : Stmt := top 40
theorem S_is_small : FnScope ["form"] ["form"] (defScope st_is_small) := ⟨rfl, rfl, rfl, by decide +kernel, rfl, by decide +kernel, by decide +kernel⟩
def g_is_small  : FS := (gRet (fAnd (fOp leD (fCall [false] (F_depth_of 30) (faCons (fVar 0) faNil)) (fC (.int 20))) (fOp leD (fCB lenD (faCons (fCall [false] (F_words_of 30) (faCons (fVar 0) faNil)) faNil)) (fC (.int 200)))))
def F_is_small : DF := bodyF 1 [false] g_is_small
theorem w_is_small (H0 : Hy K mg) : CalD P w K mg base 31 "is_small" (SpF K [false] F_is_small) := by
  have G := H0.G
  have hC := H0.hC
  have hT := H0.hT
  have S := S_is_small
  exact (cal_of (N := ["form"]) (ms := [false]) (k := 30) (g := g_is_small) H0.d_is_small S rfl
    (ds_ret (de_and (de_op dr_le (de_call (da_cons (de_var 0) da_nil)) (de_int 20)) (de_op dr_le (de_cb crd_len (da_cons (de_call (da_cons (de_var 0) da_nil)) da_nil)) (de_int 200))))
    (fun cdv A outer s H E hr => (pss_one (ps_ret (pe_andT (pe_cmpR op_leU (pe_cd (w_depth_of H0 30) hr (by decide) rfl (pa_cons (pv 0) pa_nil)) (C8.pe_gc rfl (G.int 1 _ _ rfl)) (nomark _)) (pe_one (pe_cmpR op_leU (pe_callB ca_len rfl (G.free 3 _ rfl) PySem.boot_len (pa_cons (pe_cd (w_words_of H0 30) hr (by decide) rfl (pa_cons (pv 0) pa_nil)) pa_nil)) (C8.pe_gc rfl (G.int 2 _ _ rfl)) (nomark _))))))) :)
abbrev st_is_form_of : Stmt := top 41
theorem S_is_form_of : FnScope ["fields", "has_given", "value", "word"] ["fields", "has_given", "value"] (defScope st_is_form_of) := ⟨rfl, rfl, rfl, by decide +kernel, rfl, by decide +kernel, by decide +kernel⟩
def g_is_form_of  : FS := (gSeq (gIf (ftOr (ftNot (fTr (fCall [false] (F_is_form 30) (faCons (fVar 2) faNil)))) (ftNot (fTr (fCall [false] F_is_small (faCons (fVar 2) faNil))))) (gRet (fC (.bl false))) gNext) (gRet (fCB allD (faCons (fL (fLc [3] (fIt (fCall [false] (F_words_of 30) (faCons (fVar 2) faNil))) (pName 3) fYes (fOr (fOp inD (fVar 3) (fVar 0)) (fOr (fOp eqD (fVar 3) (fC (.str "none"))) (fAnd (fVar 1) (fOp eqD (fVar 3) (fC (.str "given")))))))) faNil))))
def F_is_form_of : DF := bodyF 4 [false, false, false] g_is_form_of
theorem w_is_form_of (H0 : Hy K mg) : CalD P w K mg base 32 "is_form_of" (SpF K [false, false, false] F_is_form_of) := by
  have G := H0.G
  have hC := H0.hC
  have hT := H0.hT
  have S := S_is_form_of
  exact (cal_of (N := ["fields", "has_given", "value", "word"]) (ms := [false, false, false]) (k := 31) (g := g_is_form_of) H0.d_is_form_of S rfl
    (ds_seq (ds_if (dt_or (dt_not (dt_tr (de_call (da_cons (de_var 2) da_nil)))) (dt_not (dt_tr (de_call (da_cons (de_var 2) da_nil))))) (ds_ret (de_bl false)) ds_next) (ds_ret (de_cb crd_all (da_cons (de_new (dn_lc (vs := [3]) (di_sq (de_call (da_cons (de_var 2) da_nil))) (dg_name 3) (by decide) dt_yes (de_or (de_op dr_in (de_var 3) (de_var 0)) (de_or (de_op dr_eq (de_var 3) (de_str "none")) (de_and (de_var 1) (de_op dr_eq (de_var 3) (de_str "given"))))) (tame_name 3))) da_nil))))
    (fun cdv A outer s H E hr => (pss_cons (ps_if (PW.pt (pw_or (pt_not (pt_tr (pe_cd (w_is_form H0 30) hr (by decide) rfl (pa_cons (pv 2) pa_nil)))) (pw_or1 (pt_not (pt_tr (pe_cd (w_is_small H0) hr (by decide) rfl (pa_cons (pv 2) pa_nil))))))) (pss_one (ps_ret pe_bl)) pss_nil) (pss_one (ps_ret (pe_callB (cr_all rfl) rfl (G.free 2 _ rfl) (by decide +kernel) (pa_cons (pe_lc (own := [("word", 3)]) rfl S.nd (pi_sq (pe_cd (w_words_of H0 30) hr (by decide) rfl (pa_cons (pv 2) pa_nil))) (blk_by (by kernel_rfl)) (fun _ _ _ _ _ => (pg_name S.nd (i := 3) rfl (Or.inl rfl))) (fun _ _ _ _ _ => pts_nil) (fun _ _ _ _ _ => (pe_orT (pe_cmpR op_inU (pv 3) (pv 0) rfl) (pe_orT (pe_cmpR (op_eqD hr.units) (pv 3) (C8.pe_gc rfl (G.str 2 _ _ rfl)) (nomark _)) (pe_one (pe_andT (pv 1) (pe_one (pe_cmpR (op_eqD hr.units) (pv 3) (C8.pe_gc rfl (G.str 3 _ _ rfl)) (nomark _))))))))) pa_nil)))))) :)
abbrev st_form_text : Stmt := top 42
theorem S_form_text : FnScope ["form"] ["form"] (defScope st_form_text) := ⟨rfl, rfl, rfl, by decide +kernel, rfl, by decide +kernel, by decide +kernel⟩
def g_form_text (r_form_text : DF) (r_side_text : DF) : FS := (gSeq (gIf (fTr (fCB (isiD kt) (faCons (fVar 0) (faCons (fC (.ty "str")) faNil)))) (gRet (fVar 0)) gNext) (gRet (fJoin [(fFmt (fCall [false] r_side_text (faCons (fOp ixD (fVar 0) (fC (.int (1)))) faNil))), (fC (.str " ")), (fFmt (fOp ixD (fVar 0) (fC (.int (0))))), (fC (.str " ")), (fFmt (fCall [false] r_side_text (faCons (fOp ixD (fVar 0) (fC (.int (2)))) faNil)))])))
abbrev st_side_text : Stmt := top 43
theorem S_side_text : FnScope ["form"] ["form"] (defScope st_side_text) := ⟨rfl, rfl, rfl, by decide +kernel, rfl, by decide +kernel, by decide +kernel⟩
def g_side_text (r_form_text : DF) (r_side_text : DF) : FS := (gRet (fIf (fTr (fCB (isiD kt) (faCons (fVar 0) (faCons (fC (.ty "str")) faNil)))) (fVar 0) (fJoin [(fC (.str "(")), (fFmt (fCall [false] r_form_text (faCons (fVar 0) faNil))), (fC (.str ")"))])))
mutual
def F_form_text : Nat → DF
  | 0 => fun _ => none
  | n + 1 => bodyF 1 [false] (g_form_text (F_form_text n) (F_side_text n))
def F_side_text : Nat → DF
  | 0 => fun _ => none
  | n + 1 => bodyF 1 [false] (g_side_text (F_form_text n) (F_side_text n))
end
theorem w_form_text (H0 : Hy K mg) : ∀ n : Nat, CalD P w K mg base (0 + n) "form_text" (SpF K [false] (F_form_text n)) ∧ CalD P w K mg base (0 + n) "side_text" (SpF K [false] (F_side_text n))
  | 0 => ⟨cal_none H0.d_form_text _, cal_none H0.d_side_text _⟩
  | n + 1 => by
    have ih := w_form_text H0 n
    have G := H0.G
    have hC := H0.hC
    have hT := H0.hT
    refine ⟨?_, ?_⟩
    · have S := S_form_text
      exact (cal_of (N := ["form"]) (ms := [false]) (k := 0 + n) (g := g_form_text (F_form_text n) (F_side_text n)) H0.d_form_text S rfl
      (ds_seq (ds_if (dt_tr (de_cb (crd_isi hT) (da_cons (de_var 0) (da_cons (de_ty "str") da_nil)))) (ds_ret (de_var 0)) ds_next) (ds_ret (de_joined (.cons (de_fmt (de_call (da_cons (de_op dr_ix (de_var 0) (de_int (1))) da_nil))) (.cons (de_str " ") (.cons (de_fmt (de_op dr_ix (de_var 0) (de_int (0)))) (.cons (de_str " ") (.cons (de_fmt (de_call (da_cons (de_op dr_ix (de_var 0) (de_int (2))) da_nil))) .nil))))))))
      (fun cdv A outer s H E hr => (pss_cons (ps_if (pt_tr (pe_callB call_isi rfl (G.free 1 _ rfl) PyProof.Rows.boot_isinstance (pa_cons (pv 0) (pa_cons (pe_bty rfl (G.free 0 _ rfl) PyProof.Rows.boot_str) pa_nil)))) (pss_one (ps_ret (pv 0))) pss_nil) (pss_one (ps_ret (pe_joined (.cons (pe_fmt (pe_cd (ih.2) hr (by omega) rfl (pa_cons (pe_ix ix_seq (pv 0) pe_int (fun _ _ => rfl)) pa_nil))) (.cons pe_str (.cons (pe_fmt (pe_ix ix_seq (pv 0) pe_int (fun _ _ => rfl))) (.cons pe_str (.cons (pe_fmt (pe_cd (ih.2) hr (by omega) rfl (pa_cons (pe_ix ix_seq (pv 0) pe_int (fun _ _ => rfl)) pa_nil))) .nil)))))))))) :)
    · have S := S_side_text
      exact (cal_of (N := ["form"]) (ms := [false]) (k := 0 + n) (g := g_side_text (F_form_text n) (F_side_text n)) H0.d_side_text S rfl
      (ds_ret (de_if (dt_tr (de_cb (crd_isi hT) (da_cons (de_var 0) (da_cons (de_ty "str") da_nil)))) (de_var 0) (de_joined (.cons (de_str "(") (.cons (de_fmt (de_call (da_cons (de_var 0) da_nil))) (.cons (de_str ")") .nil))))))
      (fun cdv A outer s H E hr => (pss_one (ps_ret (pe_ifExp (pt_tr (pe_callB call_isi rfl (G.free 1 _ rfl) PyProof.Rows.boot_isinstance (pa_cons (pv 0) (pa_cons (pe_bty rfl (G.free 0 _ rfl) PyProof.Rows.boot_str) pa_nil)))) (pv 0) (pe_joined (.cons pe_str (.cons (pe_fmt (pe_cd (ih.1) hr (by omega) rfl (pa_cons (pv 0) pa_nil))) (.cons pe_str .nil)))))))) :)
abbrev st_check_fields : Stmt := top 50
theorem S_check_fields : FnScope ["value", "wrong"] ["value"] (defScope st_check_fields) := ⟨rfl, rfl, rfl, by decide +kernel, rfl, by decide +kernel, by decide +kernel⟩
def g_check_fields  : FS := (gSeq (gIf (ftOr (ftNot (fTr (fCB (isiD kt) (faCons (fVar 0) (faCons (fC (.ty "tuple")) faNil))))) (ftNot (fBt (fChain leD leD (fC (.int (1))) (fCB lenD (faCons (fVar 0) faNil)) (fC (.int 4)))))) gNev gNext) (gSeq (gAsg (fCall [false, false] F_wrong_name (faCons (fVar 0) (faCons (fC (.fn "is_field_name")) faNil))) (pName 1)) (gIf (fBt (fOp geD (fVar 1) (fC (.int (0))))) gNev gNext)))
def F_check_fields : DF := bodyF 2 [false] g_check_fields
theorem w_check_fields (H0 : Hy K mg) : CalD P w K mg base 4 "check_fields" (SpF K [false] F_check_fields) := by
  have G := H0.G
  have hC := H0.hC
  have hT := H0.hT
  have S := S_check_fields
  exact (cal_of (N := ["value", "wrong"]) (ms := [false]) (k := 3) (g := g_check_fields) H0.d_check_fields S rfl
    (ds_seq (ds_if (dt_or (dt_not (dt_tr (de_cb (crd_isi hT) (da_cons (de_var 0) (da_cons (de_ty "tuple") da_nil))))) (dt_not (dt_bl (de_chain dr_le dr_le (de_int (1)) (de_cb crd_len (da_cons (de_var 0) da_nil)) (de_int 4))))) ds_never ds_next) (ds_seq (ds_asg (de_call (da_cons (de_var 0) (da_cons (de_fn "is_field_name") da_nil))) (dg_name 1)) (ds_if (dt_bl (de_op dr_ge (de_var 1) (de_int (0)))) ds_never ds_next)))
    (fun cdv A outer s H E hr => (pss_cons (ps_if (PW.pt (pw_or (pt_not (pt_tr (pe_callB call_isi rfl (G.free 1 _ rfl) PyProof.Rows.boot_isinstance (pa_cons (pv 0) (pa_cons (pe_bty rfl (G.free 4 _ rfl) PyProof.Rows.boot_tuple) pa_nil))))) (pw_or1 (pt_not (pt_chain op_leU op_leU pe_int (pe_callB ca_len rfl (G.free 3 _ rfl) PySem.boot_len (pa_cons (pv 0) pa_nil)) (C8.pe_gc rfl (G.int 3 _ _ rfl))))))) (pss_one ps_never) pss_nil) (pss_cons (ps_set S.nd (i := 1) rfl (Or.inl rfl) (pe_cd (w_wrong_name H0) hr (by decide) rfl (pa_cons (pv 0) (pa_cons (C8.pe_gc rfl (G.obj 0 _ rfl)) pa_nil)))) (pss_one (ps_if (pt_cmpR op_geU (pv 1) pe_int (nomark _)) (pss_one ps_never) pss_nil))))) :)
abbrev st_check_modes : Stmt := top 51
theorem S_check_modes : FnScope ["value", "wrong"] ["value"] (defScope st_check_modes) := ⟨rfl, rfl, rfl, by decide +kernel, rfl, by decide +kernel, by decide +kernel⟩
def g_check_modes  : FS := (gSeq (gIf (ftOr (ftNot (fTr (fCB (isiD kt) (faCons (fVar 0) (faCons (fC (.ty "tuple")) faNil))))) (ftNot (fBt (fChain leD leD (fC (.int (1))) (fCB lenD (faCons (fVar 0) faNil)) (fC (.int 4)))))) gNev gNext) (gSeq (gAsg (fCall [false, false] F_wrong_name (faCons (fVar 0) (faCons (fC (.fn "is_name")) faNil))) (pName 1)) (gIf (fBt (fOp geD (fVar 1) (fC (.int (0))))) gNev gNext)))
def F_check_modes : DF := bodyF 2 [false] g_check_modes
theorem w_check_modes (H0 : Hy K mg) : CalD P w K mg base 4 "check_modes" (SpF K [false] F_check_modes) := by
  have G := H0.G
  have hC := H0.hC
  have hT := H0.hT
  have S := S_check_modes
  exact (cal_of (N := ["value", "wrong"]) (ms := [false]) (k := 3) (g := g_check_modes) H0.d_check_modes S rfl
    (ds_seq (ds_if (dt_or (dt_not (dt_tr (de_cb (crd_isi hT) (da_cons (de_var 0) (da_cons (de_ty "tuple") da_nil))))) (dt_not (dt_bl (de_chain dr_le dr_le (de_int (1)) (de_cb crd_len (da_cons (de_var 0) da_nil)) (de_int 4))))) ds_never ds_next) (ds_seq (ds_asg (de_call (da_cons (de_var 0) (da_cons (de_fn "is_name") da_nil))) (dg_name 1)) (ds_if (dt_bl (de_op dr_ge (de_var 1) (de_int (0)))) ds_never ds_next)))
    (fun cdv A outer s H E hr => (pss_cons (ps_if (PW.pt (pw_or (pt_not (pt_tr (pe_callB call_isi rfl (G.free 1 _ rfl) PyProof.Rows.boot_isinstance (pa_cons (pv 0) (pa_cons (pe_bty rfl (G.free 4 _ rfl) PyProof.Rows.boot_tuple) pa_nil))))) (pw_or1 (pt_not (pt_chain op_leU op_leU pe_int (pe_callB ca_len rfl (G.free 3 _ rfl) PySem.boot_len (pa_cons (pv 0) pa_nil)) (C8.pe_gc rfl (G.int 4 _ _ rfl))))))) (pss_one ps_never) pss_nil) (pss_cons (ps_set S.nd (i := 1) rfl (Or.inl rfl) (pe_cd (w_wrong_name H0) hr (by decide) rfl (pa_cons (pv 0) (pa_cons (C8.pe_gc rfl (G.obj 1 _ rfl)) pa_nil)))) (pss_one (ps_if (pt_cmpR op_geU (pv 1) pe_int (nomark _)) (pss_one ps_never) pss_nil))))) :)
abbrev st_is_fact : Stmt := top 52
theorem S_is_fact : FnScope ["fields", "has_given", "value"] ["fields", "has_given", "value"] (defScope st_is_fact) := ⟨rfl, rfl, rfl, by decide +kernel, rfl, by decide +kernel, by decide +kernel⟩
def g_is_fact  : FS := (gSeq (gIf (ftNot (fTr (fCall [false, false] F_is_row (faCons (fVar 2) (faCons (fC (.int (2))) faNil))))) (gRet (fC (.bl false))) gNext) (gRet (fAnd (fCall [false, false, false] F_is_form_of (faCons (fVar 0) (faCons (fVar 1) (faCons (fOp ixD (fVar 2) (fC (.int (0)))) faNil)))) (fCall [false, false, false] F_is_form_of (faCons (fVar 0) (faCons (fVar 1) (faCons (fOp ixD (fVar 2) (fC (.int (1)))) faNil)))))))
def F_is_fact : DF := bodyF 3 [false, false, false] g_is_fact
theorem w_is_fact (H0 : Hy K mg) : CalD P w K mg base 33 "is_fact" (SpF K [false, false, false] F_is_fact) := by
  have G := H0.G
  have hC := H0.hC
  have hT := H0.hT
  have S := S_is_fact
  exact (cal_of (N := ["fields", "has_given", "value"]) (ms := [false, false, false]) (k := 32) (g := g_is_fact) H0.d_is_fact S rfl
    (ds_seq (ds_if (dt_not (dt_tr (de_call (da_cons (de_var 2) (da_cons (de_int (2)) da_nil))))) (ds_ret (de_bl false)) ds_next) (ds_ret (de_and (de_call (da_cons (de_var 0) (da_cons (de_var 1) (da_cons (de_op dr_ix (de_var 2) (de_int (0))) da_nil)))) (de_call (da_cons (de_var 0) (da_cons (de_var 1) (da_cons (de_op dr_ix (de_var 2) (de_int (1))) da_nil)))))))
    (fun cdv A outer s H E hr => (pss_cons (ps_if (pt_not (pt_tr (pe_cd (w_is_row H0) hr (by decide) rfl (pa_cons (pv 2) (pa_cons pe_int pa_nil))))) (pss_one (ps_ret pe_bl)) pss_nil) (pss_one (ps_ret (pe_andT (pe_cd (w_is_form_of H0) hr (by decide) rfl (pa_cons (pv 0) (pa_cons (pv 1) (pa_cons (pe_ix ix_seq (pv 2) pe_int (fun _ _ => rfl)) pa_nil)))) (pe_one (pe_cd (w_is_form_of H0) hr (by decide) rfl (pa_cons (pv 0) (pa_cons (pv 1) (pa_cons (pe_ix ix_seq (pv 2) pe_int (fun _ _ => rfl)) pa_nil)))))))))) :)
abbrev st_are_updates : Stmt := top 53
theorem S_are_updates : FnScope ["fields", "has_given", "value", "earlier", "pair"] ["fields", "has_given", "value"] (defScope st_are_updates) := ⟨rfl, rfl, rfl, by decide +kernel, rfl, by decide +kernel, by decide +kernel⟩
def g_are_updates  : FS := (gSeq (gIf (ftNot (fTr (fCB (isiD kt) (faCons (fVar 2) (faCons (fC (.ty "tuple")) faNil))))) (gRet (fC (.bl false))) gNext) (gSeq (gAsgN (fLst faNil) 3) (gSeq (gFor (fIt (fVar 2)) (pName 4) (gSeq (gIf (ftOr (ftNot (fTr (fCall [false, false] F_is_row (faCons (fVar 4) (faCons (fC (.int (2))) faNil))))) (ftOr (ftNot (fTr (fCB (isiD kt) (faCons (fOp ixD (fVar 4) (fC (.int (0)))) (faCons (fC (.ty "str")) faNil))))) (ftOr (fBt (fOp ninD (fOp ixD (fVar 4) (fC (.int (0)))) (fVar 0))) (fBt (fInB false (fOp ixD (fVar 4) (fC (.int (0)))) (fBor 3)))))) (gRet (fC (.bl false))) gNext) (gSeq (gIf (ftNot (fTr (fCall [false, false, false] F_is_form_of (faCons (fVar 0) (faCons (fVar 1) (faCons (fOp ixD (fVar 4) (fC (.int (1)))) faNil)))))) (gRet (fC (.bl false))) gNext) (gApp 3 (fOp ixD (fVar 4) (fC (.int (0)))))))) (gRet (fC (.bl true))))))
def F_are_updates : DF := bodyF 5 [false, false, false] g_are_updates
theorem w_are_updates (H0 : Hy K mg) : CalD P w K mg base 33 "are_updates" (SpF K [false, false, false] F_are_updates) := by
  have G := H0.G
  have hC := H0.hC
  have hT := H0.hT
  have S := S_are_updates
  exact (cal_of (N := ["fields", "has_given", "value", "earlier", "pair"]) (ms := [false, false, false]) (k := 32) (g := g_are_updates) H0.d_are_updates S rfl
    (ds_seq (ds_if (dt_not (dt_tr (de_cb (crd_isi hT) (da_cons (de_var 2) (da_cons (de_ty "tuple") da_nil))))) (ds_ret (de_bl false)) ds_next) (ds_seq (ds_asgN (dn_lst da_nil) 3) (ds_seq (ds_for (di_sq (de_var 2)) (dg_name 4) (ds_seq (ds_if (dt_or (dt_not (dt_tr (de_call (da_cons (de_var 4) (da_cons (de_int (2)) da_nil))))) (dt_or (dt_not (dt_tr (de_cb (crd_isi hT) (da_cons (de_op dr_ix (de_var 4) (de_int (0))) (da_cons (de_ty "str") da_nil))))) (dt_or (dt_bl (de_op dr_nin (de_op dr_ix (de_var 4) (de_int (0))) (de_var 0))) (dt_bl (de_inB (de_op dr_ix (de_var 4) (de_int (0))) (db_var 3)))))) (ds_ret (de_bl false)) ds_next) (ds_seq (ds_if (dt_not (dt_tr (de_call (da_cons (de_var 0) (da_cons (de_var 1) (da_cons (de_op dr_ix (de_var 4) (de_int (1))) da_nil)))))) (ds_ret (de_bl false)) ds_next) (ds_app 3 (de_op dr_ix (de_var 4) (de_int (0))))))) (ds_ret (de_bl true)))))
    (fun cdv A outer s H E hr => (pss_cons (ps_if (pt_not (pt_tr (pe_callB call_isi rfl (G.free 1 _ rfl) PyProof.Rows.boot_isinstance (pa_cons (pv 2) (pa_cons (pe_bty rfl (G.free 4 _ rfl) PyProof.Rows.boot_tuple) pa_nil))))) (pss_one (ps_ret pe_bl)) pss_nil) (pss_cons (ps_set S.nd (i := 3) rfl (Or.inl rfl) (pe_lst pa_nil)) (pss_cons (ps_for PassesOwn.never rfl (pi_sq (pv 2)) (pg_name S.nd (i := 4) rfl (Or.inl rfl)) (pss_cons (ps_if (PW.pt (pw_or (pt_not (pt_tr (pe_cd (w_is_row H0) hr (by decide) rfl (pa_cons (pv 4) (pa_cons pe_int pa_nil))))) (pw_or (pt_not (pt_tr (pe_callB call_isi rfl (G.free 1 _ rfl) PyProof.Rows.boot_isinstance (pa_cons (pe_ix ix_seq (pv 4) pe_int (fun _ _ => rfl)) (pa_cons (pe_bty rfl (G.free 0 _ rfl) PyProof.Rows.boot_str) pa_nil))))) (pw_or (pt_cmpR op_ninU (pe_ix ix_seq (pv 4) pe_int (fun _ _ => rfl)) (pv 0) rfl) (pw_or1 (pt_cmpR op_in_seq (pe_ix ix_seq (pv 4) pe_int (fun _ _ => rfl)) (pv 3) rfl)))))) (pss_one (ps_ret pe_bl)) pss_nil) (pss_cons (ps_if (pt_not (pt_tr (pe_cd (w_is_form_of H0) hr (by decide) rfl (pa_cons (pv 0) (pa_cons (pv 1) (pa_cons (pe_ix ix_seq (pv 4) pe_int (fun _ _ => rfl)) pa_nil)))))) (pss_one (ps_ret pe_bl)) pss_nil) (pss_one (ps_expr (pe_bm F.plainAttrs_list PySem.F.slot_list_append PySem.F.type_list_append mt_append (pv 3) (pa_cons (pe_ix ix_seq (pv 4) pe_int (fun _ _ => rfl)) pa_nil))))))) (pss_one (ps_ret pe_bl)))))) :)
abbrev st_is_case : Stmt := top 54
theorem S_is_case : FnScope ["fields", "modes", "sort", "value", "mode", "facts", "updates", "after", "has_given", "fact"] ["fields", "modes", "sort", "value"] (defScope st_is_case) := ⟨rfl, rfl, rfl, by decide +kernel, rfl, by decide +kernel, by decide +kernel⟩
def g_is_case  : FS := (gSeq (gIf (ftOr (ftNot (fTr (fCall [false, false] F_is_row (faCons (fVar 3) (faCons (fC (.int (4))) faNil))))) (ftOr (ftNot (fTr (fCB (isiD kt) (faCons (fOp ixD (fVar 3) (fC (.int (0)))) (faCons (fC (.ty "str")) faNil))))) (fBt (fOp ninD (fOp ixD (fVar 3) (fC (.int (0)))) (fVar 1))))) (gRet (fC (.bl false))) gNext) (gSeq (gAsg (fVar 3) (pTup 4 (pCons (pName 4) (pCons (pName 5) (pCons (pName 6) (pCons (pName 7) pNil)))))) (gSeq (gIf (ftOr (ftNot (fTr (fCB (isiD kt) (faCons (fVar 7) (faCons (fC (.ty "str")) faNil))))) (ftOr (fBt (fOp ninD (fVar 7) (fVar 1))) (ftAnd (fBt (fOp eqD (fVar 2) (fC (.str "one")))) (fBt (fOp neD (fVar 7) (fVar 4)))))) (gRet (fC (.bl false))) gNext) (gSeq (gAsg (fOp neD (fVar 2) (fC (.str "none"))) (pName 8)) (gSeq (gIf (ftOr (ftNot (fTr (fCB (isiD kt) (faCons (fVar 5) (faCons (fC (.ty "tuple")) faNil))))) (fBt (fOp gtD (fCB lenD (faCons (fVar 5) faNil)) (fC (.int 5))))) (gRet (fC (.bl false))) gNext) (gSeq (gIf (ftNot (fTr (fCB allD (faCons (fL (fLc [9] (fIt (fVar 5)) (pName 9) fYes (fCall [false, false, false] F_is_fact (faCons (fVar 0) (faCons (fVar 8) (faCons (fVar 9) faNil)))))) faNil)))) (gRet (fC (.bl false))) gNext) (gRet (fCall [false, false, false] F_are_updates (faCons (fVar 0) (faCons (fVar 8) (faCons (fVar 6) faNil)))))))))))
def F_is_case : DF := bodyF 10 [false, false, false, false] g_is_case
theorem w_is_case (H0 : Hy K mg) : CalD P w K mg base 34 "is_case" (SpF K [false, false, false, false] F_is_case) := by
  have G := H0.G
  have hC := H0.hC
  have hT := H0.hT
  have S := S_is_case
  exact (cal_of (N := ["fields", "modes", "sort", "value", "mode", "facts", "updates", "after", "has_given", "fact"]) (ms := [false, false, false, false]) (k := 33) (g := g_is_case) H0.d_is_case S rfl
    (ds_seq (ds_if (dt_or (dt_not (dt_tr (de_call (da_cons (de_var 3) (da_cons (de_int (4)) da_nil))))) (dt_or (dt_not (dt_tr (de_cb (crd_isi hT) (da_cons (de_op dr_ix (de_var 3) (de_int (0))) (da_cons (de_ty "str") da_nil))))) (dt_bl (de_op dr_nin (de_op dr_ix (de_var 3) (de_int (0))) (de_var 1))))) (ds_ret (de_bl false)) ds_next) (ds_seq (ds_asg (de_var 3) (dg_tup (n := 4) (dgs_cons (dg_name 4) (dgs_cons (dg_name 5) (dgs_cons (dg_name 6) (dgs_cons (dg_name 7) dgs_nil)))))) (ds_seq (ds_if (dt_or (dt_not (dt_tr (de_cb (crd_isi hT) (da_cons (de_var 7) (da_cons (de_ty "str") da_nil))))) (dt_or (dt_bl (de_op dr_nin (de_var 7) (de_var 1))) (dt_and (dt_bl (de_op dr_eq (de_var 2) (de_str "one"))) (dt_bl (de_op dr_ne (de_var 7) (de_var 4)))))) (ds_ret (de_bl false)) ds_next) (ds_seq (ds_asg (de_op dr_ne (de_var 2) (de_str "none")) (dg_name 8)) (ds_seq (ds_if (dt_or (dt_not (dt_tr (de_cb (crd_isi hT) (da_cons (de_var 5) (da_cons (de_ty "tuple") da_nil))))) (dt_bl (de_op dr_gt (de_cb crd_len (da_cons (de_var 5) da_nil)) (de_int 5)))) (ds_ret (de_bl false)) ds_next) (ds_seq (ds_if (dt_not (dt_tr (de_cb crd_all (da_cons (de_new (dn_lc (vs := [9]) (di_sq (de_var 5)) (dg_name 9) (by decide) dt_yes (de_call (da_cons (de_var 0) (da_cons (de_var 8) (da_cons (de_var 9) da_nil)))) (tame_name 9))) da_nil)))) (ds_ret (de_bl false)) ds_next) (ds_ret (de_call (da_cons (de_var 0) (da_cons (de_var 8) (da_cons (de_var 6) da_nil)))))))))))
    (fun cdv A outer s H E hr => (pss_cons (ps_if (PW.pt (pw_or (pt_not (pt_tr (pe_cd (w_is_row H0) hr (by decide) rfl (pa_cons (pv 3) (pa_cons pe_int pa_nil))))) (pw_or (pt_not (pt_tr (pe_callB call_isi rfl (G.free 1 _ rfl) PyProof.Rows.boot_isinstance (pa_cons (pe_ix ix_seq (pv 3) pe_int (fun _ _ => rfl)) (pa_cons (pe_bty rfl (G.free 0 _ rfl) PyProof.Rows.boot_str) pa_nil))))) (pw_or1 (pt_cmpR op_ninU (pe_ix ix_seq (pv 3) pe_int (fun _ _ => rfl)) (pv 1) rfl))))) (pss_one (ps_ret pe_bl)) pss_nil) (pss_cons (ps_asg (pv 3) (pg_tup (n := 4) rfl (pgs_cons (pg_name S.nd (i := 4) rfl (Or.inl rfl)) (pgs_cons (pg_name S.nd (i := 5) rfl (Or.inl rfl)) (pgs_cons (pg_name S.nd (i := 6) rfl (Or.inl rfl)) (pgs_cons (pg_name S.nd (i := 7) rfl (Or.inl rfl)) pgs_nil)))))) (pss_cons (ps_if (PW.pt (pw_or (pt_not (pt_tr (pe_callB call_isi rfl (G.free 1 _ rfl) PyProof.Rows.boot_isinstance (pa_cons (pv 7) (pa_cons (pe_bty rfl (G.free 0 _ rfl) PyProof.Rows.boot_str) pa_nil))))) (pw_or (pt_cmpR op_ninU (pv 7) (pv 1) rfl) (pw_or1 (PW.pt (pw_and (pt_cmpR (op_eqD hr.units) (pv 2) pe_str (nomark _)) (pw_and1 (pt_cmpR (op_neD hr.units) (pv 7) (pv 4) (nomark _))))))))) (pss_one (ps_ret pe_bl)) pss_nil) (pss_cons (ps_set S.nd (i := 8) rfl (Or.inr rfl) (pe_cmpR (op_neD hr.units) (pv 2) pe_str (nomark _))) (pss_cons (ps_if (PW.pt (pw_or (pt_not (pt_tr (pe_callB call_isi rfl (G.free 1 _ rfl) PyProof.Rows.boot_isinstance (pa_cons (pv 5) (pa_cons (pe_bty rfl (G.free 4 _ rfl) PyProof.Rows.boot_tuple) pa_nil))))) (pw_or1 (pt_cmpR op_gtU (pe_callB ca_len rfl (G.free 3 _ rfl) PySem.boot_len (pa_cons (pv 5) pa_nil)) (C8.pe_gc rfl (G.int 5 _ _ rfl)) (nomark _))))) (pss_one (ps_ret pe_bl)) pss_nil) (pss_cons (ps_if (pt_not (pt_tr (pe_callB (cr_all rfl) rfl (G.free 2 _ rfl) (by decide +kernel) (pa_cons (pe_lc (own := [("fact", 9)]) rfl S.nd (pi_sq (pv 5)) (blk_by (by kernel_rfl)) (fun _ _ _ _ _ => (pg_name S.nd (i := 9) rfl (Or.inl rfl))) (fun _ _ _ _ _ => pts_nil) (fun _ _ _ _ _ => (pe_cd (w_is_fact H0) hr (by decide) rfl (pa_cons (pv 0) (pa_cons (pv 8) (pa_cons (pv 9) pa_nil)))))) pa_nil)))) (pss_one (ps_ret pe_bl)) pss_nil) (pss_one (ps_ret (pe_cd (w_are_updates H0) hr (by decide) rfl (pa_cons (pv 0) (pa_cons (pv 8) (pa_cons (pv 6) pa_nil))))))))))))) :)
abbrev st_is_call : Stmt := top 55
theorem S_is_call : FnScope ["fields", "modes", "value", "name", "sort", "cases", "case"] ["fields", "modes", "value"] (defScope st_is_call) := ⟨rfl, rfl, rfl, by decide +kernel, rfl, by decide +kernel, by decide +kernel⟩
def g_is_call  : FS := (gSeq (gIf (ftOr (ftNot (fTr (fCall [false, false] F_is_row (faCons (fVar 2) (faCons (fC (.int (3))) faNil))))) (ftOr (ftNot (fTr (fCall [false] F_is_name (faCons (fOp ixD (fVar 2) (fC (.int (0)))) faNil)))) (ftOr (ftNot (fTr (fCB (isiD kt) (faCons (fOp ixD (fVar 2) (fC (.int (1)))) (faCons (fC (.ty "str")) faNil))))) (fBt (fOp ninD (fOp ixD (fVar 2) (fC (.int (1)))) (fC (.tup (List.map D.str ["one", "many", "none"])))))))) (gRet (fC (.bl false))) gNext) (gSeq (gAsg (fVar 2) (pTup 3 (pCons (pName 3) (pCons (pName 4) (pCons (pName 5) pNil))))) (gSeq (gIf (ftOr (ftNot (fTr (fCB (isiD kt) (faCons (fVar 5) (faCons (fC (.ty "tuple")) faNil))))) (ftNot (fTr (fCB allD (faCons (fL (fLc [6] (fIt (fVar 5)) (pName 6) fYes (fCall [false, false, false, false] F_is_case (faCons (fVar 0) (faCons (fVar 1) (faCons (fVar 4) (faCons (fVar 6) faNil))))))) faNil))))) (gRet (fC (.bl false))) gNext) (gRet (fOp eqD (fLenSet (fL (fLc [6] (fIt (fVar 5)) (pName 6) fYes (fOp ixD (fVar 6) (fC (.int (0))))))) (fCB lenD (faCons (fVar 5) faNil)))))))
def F_is_call : DF := bodyF 7 [false, false, false] g_is_call
theorem w_is_call (H0 : Hy K mg) : CalD P w K mg base 35 "is_call" (SpF K [false, false, false] F_is_call) := by
  have G := H0.G
  have hC := H0.hC
  have hT := H0.hT
  have S := S_is_call
  exact (cal_of (N := ["fields", "modes", "value", "name", "sort", "cases", "case"]) (ms := [false, false, false]) (k := 34) (g := g_is_call) H0.d_is_call S rfl
    (ds_seq (ds_if (dt_or (dt_not (dt_tr (de_call (da_cons (de_var 2) (da_cons (de_int (3)) da_nil))))) (dt_or (dt_not (dt_tr (de_call (da_cons (de_op dr_ix (de_var 2) (de_int (0))) da_nil)))) (dt_or (dt_not (dt_tr (de_cb (crd_isi hT) (da_cons (de_op dr_ix (de_var 2) (de_int (1))) (da_cons (de_ty "str") da_nil))))) (dt_bl (de_op dr_nin (de_op dr_ix (de_var 2) (de_int (1))) (de_gtup (G.tup 1 _ _ rfl).2)))))) (ds_ret (de_bl false)) ds_next) (ds_seq (ds_asg (de_var 2) (dg_tup (n := 3) (dgs_cons (dg_name 3) (dgs_cons (dg_name 4) (dgs_cons (dg_name 5) dgs_nil))))) (ds_seq (ds_if (dt_or (dt_not (dt_tr (de_cb (crd_isi hT) (da_cons (de_var 5) (da_cons (de_ty "tuple") da_nil))))) (dt_not (dt_tr (de_cb crd_all (da_cons (de_new (dn_lc (vs := [6]) (di_sq (de_var 5)) (dg_name 6) (by decide) dt_yes (de_call (da_cons (de_var 0) (da_cons (de_var 1) (da_cons (de_var 4) (da_cons (de_var 6) da_nil))))) (tame_name 6))) da_nil))))) (ds_ret (de_bl false)) ds_next) (ds_ret (de_op dr_eq (de_lenSet (de_new (dn_lc (vs := [6]) (di_sq (de_var 5)) (dg_name 6) (by decide) dt_yes (de_op dr_ix (de_var 6) (de_int (0))) (tame_name 6)))) (de_cb crd_len (da_cons (de_var 5) da_nil)))))))
    (fun cdv A outer s H E hr => (pss_cons (ps_if (PW.pt (pw_or (pt_not (pt_tr (pe_cd (w_is_row H0) hr (by decide) rfl (pa_cons (pv 2) (pa_cons pe_int pa_nil))))) (pw_or (pt_not (pt_tr (pe_cd (w_is_name H0) hr (by decide) rfl (pa_cons (pe_ix ix_seq (pv 2) pe_int (fun _ _ => rfl)) pa_nil)))) (pw_or (pt_not (pt_tr (pe_callB call_isi rfl (G.free 1 _ rfl) PyProof.Rows.boot_isinstance (pa_cons (pe_ix ix_seq (pv 2) pe_int (fun _ _ => rfl)) (pa_cons (pe_bty rfl (G.free 0 _ rfl) PyProof.Rows.boot_str) pa_nil))))) (pw_or1 (pt_cmpR op_ninU (pe_ix ix_seq (pv 2) pe_int (fun _ _ => rfl)) (C8.pe_gc rfl (G.tup 1 _ _ rfl).1) rfl)))))) (pss_one (ps_ret pe_bl)) pss_nil) (pss_cons (ps_asg (pv 2) (pg_tup (n := 3) rfl (pgs_cons (pg_name S.nd (i := 3) rfl (Or.inl rfl)) (pgs_cons (pg_name S.nd (i := 4) rfl (Or.inr rfl)) (pgs_cons (pg_name S.nd (i := 5) rfl (Or.inl rfl)) pgs_nil))))) (pss_cons (ps_if (PW.pt (pw_or (pt_not (pt_tr (pe_callB call_isi rfl (G.free 1 _ rfl) PyProof.Rows.boot_isinstance (pa_cons (pv 5) (pa_cons (pe_bty rfl (G.free 4 _ rfl) PyProof.Rows.boot_tuple) pa_nil))))) (pw_or1 (pt_not (pt_tr (pe_callB (cr_all rfl) rfl (G.free 2 _ rfl) (by decide +kernel) (pa_cons (pe_lc (own := [("case", 6)]) rfl S.nd (pi_sq (pv 5)) (blk_by (by kernel_rfl)) (fun _ _ _ _ _ => (pg_name S.nd (i := 6) rfl (Or.inl rfl))) (fun _ _ _ _ _ => pts_nil) (fun _ _ _ _ _ => (pe_cd (w_is_case H0) hr (by decide) rfl (pa_cons (pv 0) (pa_cons (pv 1) (pa_cons (pv 4) (pa_cons (pv 6) pa_nil))))))) pa_nil))))))) (pss_one (ps_ret pe_bl)) pss_nil) (pss_one (ps_ret (pe_cmpR (op_eqD hr.units) (pe_lenSetN rfl rfl (G.free 3 _ rfl) rfl (G.free 8 _ rfl) (pe_lc (own := [("case", 6)]) rfl S.nd (pi_sq (pv 5)) (blk_by (by kernel_rfl)) (fun _ _ _ _ _ => (pg_name S.nd (i := 6) rfl (Or.inl rfl))) (fun _ _ _ _ _ => pts_nil) (fun _ _ _ _ _ => (pe_ix ix_seq (pv 6) pe_int (fun _ _ => rfl))))) (pe_callB ca_len rfl (G.free 3 _ rfl) PySem.boot_len (pa_cons (pv 5) pa_nil)) (nomark _)))))))) :)
abbrev st_check_calls : Stmt := top 56
theorem S_check_calls : FnScope ["fields", "modes", "value", "earlier", "index", "call"] ["fields", "modes", "value"] (defScope st_check_calls) := ⟨rfl, rfl, rfl, by decide +kernel, rfl, by decide +kernel, by decide +kernel⟩
def g_check_calls  : FS := (gSeq (gIf (ftOr (ftNot (fTr (fCB (isiD kt) (faCons (fVar 2) (faCons (fC (.ty "tuple")) faNil))))) (fBt (fOp gtD (fCB lenD (faCons (fVar 2) faNil)) (fC (.int 8))))) gNev gNext) (gSeq (gAsgN (fLst faNil) 3) (gFor (fEnumT (fVar 2)) (pTup 2 (pCons (pName 4) (pCons (pName 5) pNil))) (gSeq (gIf (ftOr (ftNot (fTr (fCall [false, false, false] F_is_call (faCons (fVar 0) (faCons (fVar 1) (faCons (fVar 5) faNil)))))) (fBt (fInB false (fOp ixD (fVar 5) (fC (.int (0)))) (fBor 3)))) gNev gNext) (gApp 3 (fOp ixD (fVar 5) (fC (.int (0)))))))))
def F_check_calls : DF := bodyF 6 [false, false, false] g_check_calls
theorem w_check_calls (H0 : Hy K mg) : CalD P w K mg base 36 "check_calls" (SpF K [false, false, false] F_check_calls) := by
  have G := H0.G
  have hC := H0.hC
  have hT := H0.hT
  have S := S_check_calls
  exact (cal_of (N := ["fields", "modes", "value", "earlier", "index", "call"]) (ms := [false, false, false]) (k := 35) (g := g_check_calls) H0.d_check_calls S rfl
    (ds_seq (ds_if (dt_or (dt_not (dt_tr (de_cb (crd_isi hT) (da_cons (de_var 2) (da_cons (de_ty "tuple") da_nil))))) (dt_bl (de_op dr_gt (de_cb crd_len (da_cons (de_var 2) da_nil)) (de_int 8)))) ds_never ds_next) (ds_seq (ds_asgN (dn_lst da_nil) 3) (ds_for (di_enumT (de_var 2)) (dg_tup (n := 2) (dgs_cons (dg_name 4) (dgs_cons (dg_name 5) dgs_nil))) (ds_seq (ds_if (dt_or (dt_not (dt_tr (de_call (da_cons (de_var 0) (da_cons (de_var 1) (da_cons (de_var 5) da_nil)))))) (dt_bl (de_inB (de_op dr_ix (de_var 5) (de_int (0))) (db_var 3)))) ds_never ds_next) (ds_app 3 (de_op dr_ix (de_var 5) (de_int (0))))))))
    (fun cdv A outer s H E hr => (pss_cons (ps_if (PW.pt (pw_or (pt_not (pt_tr (pe_callB call_isi rfl (G.free 1 _ rfl) PyProof.Rows.boot_isinstance (pa_cons (pv 2) (pa_cons (pe_bty rfl (G.free 4 _ rfl) PyProof.Rows.boot_tuple) pa_nil))))) (pw_or1 (pt_cmpR op_gtU (pe_callB ca_len rfl (G.free 3 _ rfl) PySem.boot_len (pa_cons (pv 2) pa_nil)) (C8.pe_gc rfl (G.int 6 _ _ rfl)) (nomark _))))) (pss_one ps_never) pss_nil) (pss_cons (ps_set S.nd (i := 3) rfl (Or.inl rfl) (pe_lst pa_nil)) (pss_one (ps_for PassesOwn.never rfl (pi_enumT rfl (G.free 5 _ rfl) (pa_cons (pv 2) pa_nil)) (pg_tup (n := 2) rfl (pgs_cons (pg_name S.nd (i := 4) rfl (Or.inl rfl)) (pgs_cons (pg_name S.nd (i := 5) rfl (Or.inl rfl)) pgs_nil))) (pss_cons (ps_if (PW.pt (pw_or (pt_not (pt_tr (pe_cd (w_is_call H0) hr (by decide) rfl (pa_cons (pv 0) (pa_cons (pv 1) (pa_cons (pv 5) pa_nil)))))) (pw_or1 (pt_cmpR op_in_seq (pe_ix ix_seq (pv 5) pe_int (fun _ _ => rfl)) (pv 3) rfl)))) (pss_one ps_never) pss_nil) (pss_one (ps_expr (pe_bm F.plainAttrs_list PySem.F.slot_list_append PySem.F.type_list_append mt_append (pv 3) (pa_cons (pe_ix ix_seq (pv 5) pe_int (fun _ _ => rfl)) pa_nil)))))))))) :)
abbrev st_is_view : Stmt := top 57
theorem S_is_view : FnScope ["fields", "modes", "value", "form"] ["fields", "modes", "value"] (defScope st_is_view) := ⟨rfl, rfl, rfl, by decide +kernel, rfl, by decide +kernel, by decide +kernel⟩
def g_is_view  : FS := (gSeq (gIf (ftOr (ftNot (fTr (fCall [false, false] F_is_row (faCons (fVar 2) (faCons (fC (.int (2))) faNil))))) (ftOr (ftNot (fTr (fCall [false] F_is_name (faCons (fOp ixD (fVar 2) (fC (.int (0)))) faNil)))) (ftNot (fTr (fCall [false, false] F_is_row (faCons (fOp ixD (fVar 2) (fC (.int (1)))) (faCons (fCB lenD (faCons (fVar 1) faNil)) faNil))))))) (gRet (fC (.bl false))) gNext) (gRet (fCB allD (faCons (fL (fLc [3] (fIt (fOp ixD (fVar 2) (fC (.int (1))))) (pName 3) fYes (fCall [false, false, false] F_is_form_of (faCons (fVar 0) (faCons (fC (.bl false)) (faCons (fVar 3) faNil)))))) faNil))))
def F_is_view : DF := bodyF 4 [false, false, false] g_is_view
theorem w_is_view (H0 : Hy K mg) : CalD P w K mg base 33 "is_view" (SpF K [false, false, false] F_is_view) := by
  have G := H0.G
  have hC := H0.hC
  have hT := H0.hT
  have S := S_is_view
  exact (cal_of (N := ["fields", "modes", "value", "form"]) (ms := [false, false, false]) (k := 32) (g := g_is_view) H0.d_is_view S rfl
    (ds_seq (ds_if (dt_or (dt_not (dt_tr (de_call (da_cons (de_var 2) (da_cons (de_int (2)) da_nil))))) (dt_or (dt_not (dt_tr (de_call (da_cons (de_op dr_ix (de_var 2) (de_int (0))) da_nil)))) (dt_not (dt_tr (de_call (da_cons (de_op dr_ix (de_var 2) (de_int (1))) (da_cons (de_cb crd_len (da_cons (de_var 1) da_nil)) da_nil))))))) (ds_ret (de_bl false)) ds_next) (ds_ret (de_cb crd_all (da_cons (de_new (dn_lc (vs := [3]) (di_sq (de_op dr_ix (de_var 2) (de_int (1)))) (dg_name 3) (by decide) dt_yes (de_call (da_cons (de_var 0) (da_cons (de_bl false) (da_cons (de_var 3) da_nil)))) (tame_name 3))) da_nil))))
    (fun cdv A outer s H E hr => (pss_cons (ps_if (PW.pt (pw_or (pt_not (pt_tr (pe_cd (w_is_row H0) hr (by decide) rfl (pa_cons (pv 2) (pa_cons pe_int pa_nil))))) (pw_or (pt_not (pt_tr (pe_cd (w_is_name H0) hr (by decide) rfl (pa_cons (pe_ix ix_seq (pv 2) pe_int (fun _ _ => rfl)) pa_nil)))) (pw_or1 (pt_not (pt_tr (pe_cd (w_is_row H0) hr (by decide) rfl (pa_cons (pe_ix ix_seq (pv 2) pe_int (fun _ _ => rfl)) (pa_cons (pe_callB ca_len rfl (G.free 3 _ rfl) PySem.boot_len (pa_cons (pv 1) pa_nil)) pa_nil))))))))) (pss_one (ps_ret pe_bl)) pss_nil) (pss_one (ps_ret (pe_callB (cr_all rfl) rfl (G.free 2 _ rfl) (by decide +kernel) (pa_cons (pe_lc (own := [("form", 3)]) rfl S.nd (pi_sq (pe_ix ix_seq (pv 2) pe_int (fun _ _ => rfl))) (blk_by (by kernel_rfl)) (fun _ _ _ _ _ => (pg_name S.nd (i := 3) rfl (Or.inl rfl))) (fun _ _ _ _ _ => pts_nil) (fun _ _ _ _ _ => (pe_cd (w_is_form_of H0) hr (by decide) rfl (pa_cons (pv 0) (pa_cons pe_bl (pa_cons (pv 3) pa_nil)))))) pa_nil)))))) :)
abbrev st_check_views : Stmt := top 58
theorem S_check_views : FnScope ["fields", "modes", "value", "earlier", "index", "view"] ["fields", "modes", "value"] (defScope st_check_views) := ⟨rfl, rfl, rfl, by decide +kernel, rfl, by decide +kernel, by decide +kernel⟩
def g_check_views  : FS := (gSeq (gIf (ftOr (ftNot (fTr (fCB (isiD kt) (faCons (fVar 2) (faCons (fC (.ty "tuple")) faNil))))) (fBt (fOp gtD (fCB lenD (faCons (fVar 2) faNil)) (fC (.int 4))))) gNev gNext) (gSeq (gAsgN (fLst faNil) 3) (gFor (fEnumT (fVar 2)) (pTup 2 (pCons (pName 4) (pCons (pName 5) pNil))) (gSeq (gIf (ftOr (ftNot (fTr (fCall [false, false, false] F_is_view (faCons (fVar 0) (faCons (fVar 1) (faCons (fVar 5) faNil)))))) (fBt (fInB false (fOp ixD (fVar 5) (fC (.int (0)))) (fBor 3)))) gNev gNext) (gApp 3 (fOp ixD (fVar 5) (fC (.int (0)))))))))
def F_check_views : DF := bodyF 6 [false, false, false] g_check_views
theorem w_check_views (H0 : Hy K mg) : CalD P w K mg base 34 "check_views" (SpF K [false, false, false] F_check_views) := by
  have G := H0.G
  have hC := H0.hC
  have hT := H0.hT
  have S := S_check_views
  exact (cal_of (N := ["fields", "modes", "value", "earlier", "index", "view"]) (ms := [false, false, false]) (k := 33) (g := g_check_views) H0.d_check_views S rfl
    (ds_seq (ds_if (dt_or (dt_not (dt_tr (de_cb (crd_isi hT) (da_cons (de_var 2) (da_cons (de_ty "tuple") da_nil))))) (dt_bl (de_op dr_gt (de_cb crd_len (da_cons (de_var 2) da_nil)) (de_int 4)))) ds_never ds_next) (ds_seq (ds_asgN (dn_lst da_nil) 3) (ds_for (di_enumT (de_var 2)) (dg_tup (n := 2) (dgs_cons (dg_name 4) (dgs_cons (dg_name 5) dgs_nil))) (ds_seq (ds_if (dt_or (dt_not (dt_tr (de_call (da_cons (de_var 0) (da_cons (de_var 1) (da_cons (de_var 5) da_nil)))))) (dt_bl (de_inB (de_op dr_ix (de_var 5) (de_int (0))) (db_var 3)))) ds_never ds_next) (ds_app 3 (de_op dr_ix (de_var 5) (de_int (0))))))))
    (fun cdv A outer s H E hr => (pss_cons (ps_if (PW.pt (pw_or (pt_not (pt_tr (pe_callB call_isi rfl (G.free 1 _ rfl) PyProof.Rows.boot_isinstance (pa_cons (pv 2) (pa_cons (pe_bty rfl (G.free 4 _ rfl) PyProof.Rows.boot_tuple) pa_nil))))) (pw_or1 (pt_cmpR op_gtU (pe_callB ca_len rfl (G.free 3 _ rfl) PySem.boot_len (pa_cons (pv 2) pa_nil)) (C8.pe_gc rfl (G.int 7 _ _ rfl)) (nomark _))))) (pss_one ps_never) pss_nil) (pss_cons (ps_set S.nd (i := 3) rfl (Or.inl rfl) (pe_lst pa_nil)) (pss_one (ps_for PassesOwn.never rfl (pi_enumT rfl (G.free 5 _ rfl) (pa_cons (pv 2) pa_nil)) (pg_tup (n := 2) rfl (pgs_cons (pg_name S.nd (i := 4) rfl (Or.inl rfl)) (pgs_cons (pg_name S.nd (i := 5) rfl (Or.inl rfl)) pgs_nil))) (pss_cons (ps_if (PW.pt (pw_or (pt_not (pt_tr (pe_cd (w_is_view H0) hr (by decide) rfl (pa_cons (pv 0) (pa_cons (pv 1) (pa_cons (pv 5) pa_nil)))))) (pw_or1 (pt_cmpR op_in_seq (pe_ix ix_seq (pv 5) pe_int (fun _ _ => rfl)) (pv 3) rfl)))) (pss_one ps_never) pss_nil) (pss_one (ps_expr (pe_bm F.plainAttrs_list PySem.F.slot_list_append PySem.F.type_list_append mt_append (pv 3) (pa_cons (pe_ix ix_seq (pv 5) pe_int (fun _ _ => rfl)) pa_nil)))))))))) :)
abbrev st_case_lines : Stmt := top 62
theorem S_case_lines : FnScope ["case", "mode", "facts", "updates", "after", "lines", "left", "right", "field", "form"] ["case"] (defScope st_case_lines) := ⟨rfl, rfl, rfl, by decide +kernel, rfl, by decide +kernel, by decide +kernel⟩
def g_case_lines  : FS := (gSeq (gAsg (fVar 0) (pTup 4 (pCons (pName 1) (pCons (pName 2) (pCons (pName 3) (pCons (pName 4) pNil)))))) (gSeq (gAsgN (fLst (faCons (fJoin [(fC (.str "case ")), (fFmt (fVar 1)), (fC (.str " ")), (fFmt (fVar 4))]) faNil)) 5) (gSeq (gExt 5 (fL (fLc [6, 7] (fIt (fVar 2)) (pTup 2 (pCons (pName 6) (pCons (pName 7) pNil))) fYes (fJoin [(fC (.str "fact ")), (fFmt (fCall [false] (F_form_text 30) (faCons (fVar 6) faNil))), (fC (.str " <= ")), (fFmt (fCall [false] (F_form_text 30) (faCons (fVar 7) faNil)))])))) (gSeq (gExt 5 (fL (fLc [8, 9] (fIt (fVar 3)) (pTup 2 (pCons (pName 8) (pCons (pName 9) pNil))) fYes (fJoin [(fC (.str "set ")), (fFmt (fVar 8)), (fC (.str " = ")), (fFmt (fCall [false] (F_form_text 30) (faCons (fVar 9) faNil)))])))) (gRet (fVar 5))))))
def F_case_lines : DF := bodyF 10 [false] g_case_lines
theorem w_case_lines (H0 : Hy K mg) : CalD P w K mg base 31 "case_lines" (SpF K [false] F_case_lines) := by
  have G := H0.G
  have hC := H0.hC
  have hT := H0.hT
  have S := S_case_lines
  exact (cal_of (N := ["case", "mode", "facts", "updates", "after", "lines", "left", "right", "field", "form"]) (ms := [false]) (k := 30) (g := g_case_lines) H0.d_case_lines S rfl
    (ds_seq (ds_asg (de_var 0) (dg_tup (n := 4) (dgs_cons (dg_name 1) (dgs_cons (dg_name 2) (dgs_cons (dg_name 3) (dgs_cons (dg_name 4) dgs_nil)))))) (ds_seq (ds_asgN (dn_lst (da_cons (de_joined (.cons (de_str "case ") (.cons (de_fmt (de_var 1)) (.cons (de_str " ") (.cons (de_fmt (de_var 4)) .nil))))) da_nil)) 5) (ds_seq (ds_ext 5 (de_new (dn_lc (vs := [6, 7]) (di_sq (de_var 2)) (dg_tup (n := 2) (dgs_cons (dg_name 6) (dgs_cons (dg_name 7) dgs_nil))) (by decide) dt_yes (de_joined (.cons (de_str "fact ") (.cons (de_fmt (de_call (da_cons (de_var 6) da_nil))) (.cons (de_str " <= ") (.cons (de_fmt (de_call (da_cons (de_var 7) da_nil))) .nil))))) (tame_tup (tame_cons (tame_name 6) (tame_cons (tame_name 7) tame_nil)))))) (ds_seq (ds_ext 5 (de_new (dn_lc (vs := [8, 9]) (di_sq (de_var 3)) (dg_tup (n := 2) (dgs_cons (dg_name 8) (dgs_cons (dg_name 9) dgs_nil))) (by decide) dt_yes (de_joined (.cons (de_str "set ") (.cons (de_fmt (de_var 8)) (.cons (de_str " = ") (.cons (de_fmt (de_call (da_cons (de_var 9) da_nil))) .nil))))) (tame_tup (tame_cons (tame_name 8) (tame_cons (tame_name 9) tame_nil)))))) (ds_ret (de_var 5))))))
    (fun cdv A outer s H E hr => (pss_cons (ps_asg (pv 0) (pg_tup (n := 4) rfl (pgs_cons (pg_name S.nd (i := 1) rfl (Or.inl rfl)) (pgs_cons (pg_name S.nd (i := 2) rfl (Or.inl rfl)) (pgs_cons (pg_name S.nd (i := 3) rfl (Or.inl rfl)) (pgs_cons (pg_name S.nd (i := 4) rfl (Or.inl rfl)) pgs_nil)))))) (pss_cons (ps_set S.nd (i := 5) rfl (Or.inl rfl) (pe_lst (pa_cons (pe_joined (.cons pe_str (.cons (pe_fmt (pv 1)) (.cons pe_str (.cons (pe_fmt (pv 4)) .nil))))) pa_nil))) (pss_cons (ps_expr (pe_bm F.plainAttrs_list PySem.F.slot_list_extend PySem.F.type_list_extend mt_extend (pv 5) (pa_cons (pe_lc (own := [("left", 6), ("right", 7)]) rfl S.nd (pi_sq (pv 2)) (blk_by (by kernel_rfl)) (fun _ _ _ _ _ => (pg_tup (n := 2) rfl (pgs_cons (pg_name S.nd (i := 6) rfl (Or.inl rfl)) (pgs_cons (pg_name S.nd (i := 7) rfl (Or.inl rfl)) pgs_nil)))) (fun _ _ _ _ _ => pts_nil) (fun _ _ _ _ _ => (pe_joined (.cons pe_str (.cons (pe_fmt (pe_cd ((w_form_text H0 30).1) hr (by decide) rfl (pa_cons (pv 6) pa_nil))) (.cons pe_str (.cons (pe_fmt (pe_cd ((w_form_text H0 30).1) hr (by decide) rfl (pa_cons (pv 7) pa_nil))) .nil))))))) pa_nil))) (pss_cons (ps_expr (pe_bm F.plainAttrs_list PySem.F.slot_list_extend PySem.F.type_list_extend mt_extend (pv 5) (pa_cons (pe_lc (own := [("field", 8), ("form", 9)]) rfl S.nd (pi_sq (pv 3)) (blk_by (by kernel_rfl)) (fun _ _ _ _ _ => (pg_tup (n := 2) rfl (pgs_cons (pg_name S.nd (i := 8) rfl (Or.inl rfl)) (pgs_cons (pg_name S.nd (i := 9) rfl (Or.inl rfl)) pgs_nil)))) (fun _ _ _ _ _ => pts_nil) (fun _ _ _ _ _ => (pe_joined (.cons pe_str (.cons (pe_fmt (pv 8)) (.cons pe_str (.cons (pe_fmt (pe_cd ((w_form_text H0 30).1) hr (by decide) rfl (pa_cons (pv 9) pa_nil))) .nil))))))) pa_nil))) (pss_one (ps_ret (pv 5)))))))) :)
abbrev st_design_text : Stmt := top 63
theorem S_design_text : FnScope ["fields", "modes", "calls", "views", "lines", "name", "sort", "cases", "case", "forms", "form"] ["fields", "modes", "calls", "views"] (defScope st_design_text) := ⟨rfl, rfl, rfl, by decide +kernel, rfl, by decide +kernel, by decide +kernel⟩
def g_design_text  : FS := (gSeq (gAsgN (fLst (faCons (fBM joinD (fC (.str " ")) (faCons (fL (fLst (faCons (fC (.str "fields")) (faStar (fVar 0) faNil)))) faNil)) (faCons (fBM joinD (fC (.str " ")) (faCons (fL (fLst (faCons (fC (.str "modes")) (faStar (fVar 1) faNil)))) faNil)) faNil))) 4) (gSeq (gFor (fIt (fVar 2)) (pTup 3 (pCons (pName 5) (pCons (pName 6) (pCons (pName 7) pNil)))) (gSeq (gApp 4 (fJoin [(fC (.str "call ")), (fFmt (fVar 5)), (fC (.str " ")), (fFmt (fVar 6))])) (gFor (fIt (fVar 7)) (pName 8) (gExt 4 (fCall [false] F_case_lines (faCons (fVar 8) faNil)))))) (gSeq (gFor (fIt (fVar 3)) (pTup 2 (pCons (pName 5) (pCons (pName 9) pNil))) (gSeq (gApp 4 (fJoin [(fC (.str "view ")), (fFmt (fVar 5))])) (gExt 4 (fL (fLc [10] (fIt (fVar 9)) (pName 10) fYes (fJoin [(fC (.str "show ")), (fFmt (fCall [false] (F_form_text 30) (faCons (fVar 10) faNil)))])))))) (gRet (fBM joinD (fC (.str "\n")) (faCons (fVar 4) faNil))))))
def F_design_text : DF := bodyF 11 [false, false, false, false] g_design_text
theorem w_design_text (H0 : Hy K mg) : CalD P w K mg base 32 "design_text" (SpF K [false, false, false, false] F_design_text) := by
  have G := H0.G
  have hC := H0.hC
  have hT := H0.hT
  have S := S_design_text
  exact (cal_of (N := ["fields", "modes", "calls", "views", "lines", "name", "sort", "cases", "case", "forms", "form"]) (ms := [false, false, false, false]) (k := 31) (g := g_design_text) H0.d_design_text S rfl
    (ds_seq (ds_asgN (dn_lst (da_cons (de_bm mrd_join (de_str " ") (da_cons (de_new (dn_lst (da_cons (de_str "fields") (da_star (de_var 0) da_nil)))) da_nil)) (da_cons (de_bm mrd_join (de_str " ") (da_cons (de_new (dn_lst (da_cons (de_str "modes") (da_star (de_var 1) da_nil)))) da_nil)) da_nil))) 4) (ds_seq (ds_for (di_sq (de_var 2)) (dg_tup (n := 3) (dgs_cons (dg_name 5) (dgs_cons (dg_name 6) (dgs_cons (dg_name 7) dgs_nil)))) (ds_seq (ds_app 4 (de_joined (.cons (de_str "call ") (.cons (de_fmt (de_var 5)) (.cons (de_str " ") (.cons (de_fmt (de_var 6)) .nil)))))) (ds_for (di_sq (de_var 7)) (dg_name 8) (ds_ext 4 (de_call (da_cons (de_var 8) da_nil)))))) (ds_seq (ds_for (di_sq (de_var 3)) (dg_tup (n := 2) (dgs_cons (dg_name 5) (dgs_cons (dg_name 9) dgs_nil))) (ds_seq (ds_app 4 (de_joined (.cons (de_str "view ") (.cons (de_fmt (de_var 5)) .nil)))) (ds_ext 4 (de_new (dn_lc (vs := [10]) (di_sq (de_var 9)) (dg_name 10) (by decide) dt_yes (de_joined (.cons (de_str "show ") (.cons (de_fmt (de_call (da_cons (de_var 10) da_nil))) .nil))) (tame_name 10)))))) (ds_ret (de_bm mrd_join (de_str "\n") (da_cons (de_var 4) da_nil))))))
    (fun cdv A outer s H E hr => (pss_cons (ps_set S.nd (i := 4) rfl (Or.inl rfl) (pe_lst (pa_cons (pe_bm F.plainAttrs_str PySem.F.slot_str_join PySem.F.type_str_join ma_join pe_str (pa_cons (pe_lst (pa_cons pe_str (StX.pa_star (pv 0) pa_nil))) pa_nil)) (pa_cons (pe_bm F.plainAttrs_str PySem.F.slot_str_join PySem.F.type_str_join ma_join pe_str (pa_cons (pe_lst (pa_cons pe_str (StX.pa_star (pv 1) pa_nil))) pa_nil)) pa_nil)))) (pss_cons (ps_for PassesOwn.never rfl (pi_sq (pv 2)) (pg_tup (n := 3) rfl (pgs_cons (pg_name S.nd (i := 5) rfl (Or.inl rfl)) (pgs_cons (pg_name S.nd (i := 6) rfl (Or.inl rfl)) (pgs_cons (pg_name S.nd (i := 7) rfl (Or.inl rfl)) pgs_nil)))) (pss_cons (ps_expr (pe_bm F.plainAttrs_list PySem.F.slot_list_append PySem.F.type_list_append mt_append (pv 4) (pa_cons (pe_joined (.cons pe_str (.cons (pe_fmt (pv 5)) (.cons pe_str (.cons (pe_fmt (pv 6)) .nil))))) pa_nil))) (pss_one (ps_for PassesOwn.never rfl (pi_sq (pv 7)) (pg_name S.nd (i := 8) rfl (Or.inl rfl)) (pss_one (ps_expr (pe_bm F.plainAttrs_list PySem.F.slot_list_extend PySem.F.type_list_extend mt_extend (pv 4) (pa_cons (pe_cd (w_case_lines H0) hr (by decide) rfl (pa_cons (pv 8) pa_nil)) pa_nil)))))))) (pss_cons (ps_for PassesOwn.never rfl (pi_sq (pv 3)) (pg_tup (n := 2) rfl (pgs_cons (pg_name S.nd (i := 5) rfl (Or.inl rfl)) (pgs_cons (pg_name S.nd (i := 9) rfl (Or.inl rfl)) pgs_nil))) (pss_cons (ps_expr (pe_bm F.plainAttrs_list PySem.F.slot_list_append PySem.F.type_list_append mt_append (pv 4) (pa_cons (pe_joined (.cons pe_str (.cons (pe_fmt (pv 5)) .nil))) pa_nil))) (pss_one (ps_expr (pe_bm F.plainAttrs_list PySem.F.slot_list_extend PySem.F.type_list_extend mt_extend (pv 4) (pa_cons (pe_lc (own := [("form", 10)]) rfl S.nd (pi_sq (pv 9)) (blk_by (by kernel_rfl)) (fun _ _ _ _ _ => (pg_name S.nd (i := 10) rfl (Or.inl rfl))) (fun _ _ _ _ _ => pts_nil) (fun _ _ _ _ _ => (pe_joined (.cons pe_str (.cons (pe_fmt (pe_cd ((w_form_text H0 30).1) hr (by decide) rfl (pa_cons (pv 10) pa_nil))) .nil))))) pa_nil)))))) (pss_one (ps_ret (pe_bm F.plainAttrs_str PySem.F.slot_str_join PySem.F.type_str_join ma_join pe_str (pa_cons (pv 4) pa_nil)))))))) :)
abbrev st_Design_init : Stmt := inClass (top 71) 0
theorem S_Design_init : FnScope ["self", "fields", "modes", "calls", "views", "call", "view"] ["self", "fields", "modes", "calls", "views"] (defScope st_Design_init) := ⟨rfl, rfl, rfl, by decide +kernel, rfl, by decide +kernel, by decide +kernel⟩
def g_Design_init  : FS := (gSeq (gDrop (fCall [false] F_check_fields (faCons (fVar 1) faNil))) (gSeq (gDrop (fCall [false] F_check_modes (faCons (fVar 2) faNil))) (gSeq (gDrop (fCall [false, false, false] F_check_calls (faCons (fVar 1) (faCons (fVar 2) (faCons (fVar 3) faNil))))) (gSeq (gDrop (fCall [false, false, false] F_check_views (faCons (fVar 1) (faCons (fVar 2) (faCons (fVar 4) faNil))))) (gSeq (gFld CF 0 "fields" (fVar 1)) (gSeq (gFld CF 0 "modes" (fVar 2)) (gSeq (gFld CF 0 "calls" (fVar 3)) (gSeq (gFld CF 0 "views" (fVar 4)) (gSeq (gFld CF 0 "names" (fCB tupFD (faCons (fL (fLc [5] (fIt (fVar 3)) (pName 5) fYes (fOp ixD (fVar 5) (fC (.int (0)))))) faNil))) (gSeq (gFld CF 0 "view_names" (fCB tupD (faCons (fL (fLc [6] (fIt (fVar 4)) (pName 6) fYes (fOp ixD (fVar 6) (fC (.int (0)))))) faNil))) (gFld CF 0 "text" (fCall [false, false, false, false] F_design_text (faCons (fVar 1) (faCons (fVar 2) (faCons (fVar 3) (faCons (fVar 4) faNil))))))))))))))))
def F_Design_init : DF := bodyF 7 [true, false, false, false, false] g_Design_init
theorem w_Design_init (H0 : Hy K mg) : MakD P w K mg base 37 "Design" (SpF K [true, false, false, false, false] F_Design_init) := by
  have G := H0.G
  have hC := H0.hC
  have hT := H0.hT
  have S := S_Design_init
  exact (mak_of (N := ["self", "fields", "modes", "calls", "views", "call", "view"]) (ms := [true, false, false, false, false]) (k := 36) (g := g_Design_init) H0.d_Design_init S rfl
    (ds_seq (ds_drop (de_call (da_cons (de_var 1) da_nil))) (ds_seq (ds_drop (de_call (da_cons (de_var 2) da_nil))) (ds_seq (ds_drop (de_call (da_cons (de_var 1) (da_cons (de_var 2) (da_cons (de_var 3) da_nil))))) (ds_seq (ds_drop (de_call (da_cons (de_var 1) (da_cons (de_var 2) (da_cons (de_var 4) da_nil))))) (ds_seq (ds_fld 0 hC (de_var 1)) (ds_seq (ds_fld 0 hC (de_var 2)) (ds_seq (ds_fld 0 hC (de_var 3)) (ds_seq (ds_fld 0 hC (de_var 4)) (ds_seq (ds_fld 0 hC (de_cb crd_tupF (da_cons (de_new (dn_lc (vs := [5]) (di_sq (de_var 3)) (dg_name 5) (by decide) dt_yes (de_op dr_ix (de_var 5) (de_int (0))) (tame_name 5))) da_nil))) (ds_seq (ds_fld 0 hC (de_cb crd_tuple (da_cons (de_new (dn_lc (vs := [6]) (di_sq (de_var 4)) (dg_name 6) (by decide) dt_yes (de_op dr_ix (de_var 6) (de_int (0))) (tame_name 6))) da_nil))) (ds_fld 0 hC (de_call (da_cons (de_var 1) (da_cons (de_var 2) (da_cons (de_var 3) (da_cons (de_var 4) da_nil))))))))))))))))
    (fun qual f cdv A outer s H E hr => (pss_cons (ps_expr (pe_cd (w_check_fields H0) hr (by decide) rfl (pa_cons (pv 1) pa_nil))) (pss_cons (ps_expr (pe_cd (w_check_modes H0) hr (by decide) rfl (pa_cons (pv 2) pa_nil))) (pss_cons (ps_expr (pe_cd (w_check_calls H0) hr (by decide) rfl (pa_cons (pv 1) (pa_cons (pv 2) (pa_cons (pv 3) pa_nil))))) (pss_cons (ps_expr (pe_cd (w_check_views H0) hr (by decide) rfl (pa_cons (pv 1) (pa_cons (pv 2) (pa_cons (pv 4) pa_nil))))) (pss_cons (ps_fld (pv 0) (pv 1) rfl) (pss_cons (ps_fld (pv 0) (pv 2) rfl) (pss_cons (ps_fld (pv 0) (pv 3) rfl) (pss_cons (ps_fld (pv 0) (pv 4) rfl) (pss_cons (ps_fld (pv 0) (pe_callTy ca_tupF rfl (G.free 4 _ rfl) PyProof.Rows.boot_tuple (pa_cons (pe_lc (own := [("call", 5)]) rfl S.nd (pi_sq (pv 3)) (blk_by (by kernel_rfl)) (fun _ _ _ _ _ => (pg_name S.nd (i := 5) rfl (Or.inl rfl))) (fun _ _ _ _ _ => pts_nil) (fun _ _ _ _ _ => (pe_ix ix_seq (pv 5) pe_int (fun _ _ => rfl)))) pa_nil)) rfl) (pss_cons (ps_fld (pv 0) (pe_callTy ca_tuple rfl (G.free 4 _ rfl) PyProof.Rows.boot_tuple (pa_cons (pe_lc (own := [("view", 6)]) rfl S.nd (pi_sq (pv 4)) (blk_by (by kernel_rfl)) (fun _ _ _ _ _ => (pg_name S.nd (i := 6) rfl (Or.inl rfl))) (fun _ _ _ _ _ => pts_nil) (fun _ _ _ _ _ => (pe_ix ix_seq (pv 6) pe_int (fun _ _ => rfl)))) pa_nil)) rfl) (pss_one (ps_fld (pv 0) (pe_cd (w_design_text H0) hr (by decide) rfl (pa_cons (pv 1) (pa_cons (pv 2) (pa_cons (pv 3) (pa_cons (pv 4) pa_nil))))) rfl))))))))))))) :)
abbrev st_Design_call : Stmt := inClass (top 71) 2
theorem S_Design_call : FnScope ["self", "name"] ["self", "name"] (defScope st_Design_call) := ⟨rfl, rfl, rfl, by decide +kernel, rfl, by decide +kernel, by decide +kernel⟩
def g_Design_call  : FS := (gSeq (gIf (ftOr (ftNot (fTr (fCB (isiD kt) (faCons (fVar 1) (faCons (fC (.ty "str")) faNil))))) (fBt (fOp ninD (fVar 1) (fWk (fFld CF "names" (fVar 0)))))) gNev gNext) (gRet (fOp ixD (fFld CF "calls" (fVar 0)) (fTM tupIxD (fFld CF "names" (fVar 0)) (faCons (fVar 1) faNil)))))
def F_Design_call : DF := bodyF 2 [false, false] g_Design_call
theorem w_Design_call (H0 : Hy K mg) : MetD P w K mg base 1 "Design" "call" (SpF K [false, false] F_Design_call) := by
  have G := H0.G
  have hC := H0.hC
  have hT := H0.hT
  have S := S_Design_call
  exact (met_of (N := ["self", "name"]) (ms := [false, false]) (k := 0) (g := g_Design_call) H0.d_Design_call S rfl
    (ds_seq (ds_if (dt_or (dt_not (dt_tr (de_cb (crd_isi hT) (da_cons (de_var 1) (da_cons (de_ty "str") da_nil))))) (dt_bl (de_op dr_nin (de_var 1) (de_wk (de_fld hC (de_var 0)))))) ds_never ds_next) (ds_ret (de_op dr_ix (de_fld hC (de_var 0)) (de_tm mtd_tupIx (de_fld hC (de_var 0)) (da_cons (de_var 1) da_nil)))))
    (fun qual f cdv A outer s H E hr => (pss_cons (ps_if (PW.pt (pw_or (pt_not (pt_tr (pe_callB call_isi rfl (G.free 1 _ rfl) PyProof.Rows.boot_isinstance (pa_cons (pv 1) (pa_cons (pe_bty rfl (G.free 0 _ rfl) PyProof.Rows.boot_str) pa_nil))))) (pw_or1 (pt_cmpR op_ninU (pv 1) (pe_fld (pv 0) rfl) rfl)))) (pss_one ps_never) pss_nil) (pss_one (ps_ret (pe_ix ix_seq (pe_fld (pv 0) rfl) (pe_tm F.plainAttrs_tuple PySem.F.slot_tuple_index PySem.F.type_tuple_index ma_tupIx (pe_fld (pv 0) rfl) (pa_cons (pv 1) pa_nil)) (fun _ _ => rfl)))))) :)
abbrev st_check_mode : Stmt := top 73
theorem S_check_mode : FnScope ["design", "value"] ["design", "value"] (defScope st_check_mode) := ⟨rfl, rfl, rfl, by decide +kernel, rfl, by decide +kernel, by decide +kernel⟩
def g_check_mode  : FS := (gIf (ftOr (ftNot (fTr (fCB (isiD kt) (faCons (fVar 1) (faCons (fC (.ty "str")) faNil))))) (fBt (fOp ninD (fVar 1) (fFld CF "modes" (fVar 0))))) gNev gNext)
def F_check_mode : DF := bodyF 2 [false, false] g_check_mode
theorem w_check_mode (H0 : Hy K mg) : CalD P w K mg base 1 "check_mode" (SpF K [false, false] F_check_mode) := by
  have G := H0.G
  have hC := H0.hC
  have hT := H0.hT
  have S := S_check_mode
  exact (cal_of (N := ["design", "value"]) (ms := [false, false]) (k := 0) (g := g_check_mode) H0.d_check_mode S rfl
    (ds_if (dt_or (dt_not (dt_tr (de_cb (crd_isi hT) (da_cons (de_var 1) (da_cons (de_ty "str") da_nil))))) (dt_bl (de_op dr_nin (de_var 1) (de_fld hC (de_var 0))))) ds_never ds_next)
    (fun cdv A outer s H E hr => (pss_one (ps_if (PW.pt (pw_or (pt_not (pt_tr (pe_callB call_isi rfl (G.free 1 _ rfl) PyProof.Rows.boot_isinstance (pa_cons (pv 1) (pa_cons (pe_bty rfl (G.free 0 _ rfl) PyProof.Rows.boot_str) pa_nil))))) (pw_or1 (pt_cmpR op_ninU (pv 1) (pe_fld (pv 0) rfl) rfl)))) (pss_one ps_never) pss_nil))) :)
abbrev st_Design_sort_of : Stmt := inClass (top 71) 3
theorem S_Design_sort_of : FnScope ["self", "call"] ["self", "call"] (defScope st_Design_sort_of) := ⟨rfl, rfl, rfl, by decide +kernel, rfl, by decide +kernel, by decide +kernel⟩
def g_Design_sort_of  : FS := (gRet (fOp ixD (fMeth "Design" "call" [false] F_Design_call (fVar 0) (faCons (fVar 1) faNil)) (fC (.int (1)))))
def F_Design_sort_of : DF := bodyF 2 [false, false] g_Design_sort_of
theorem w_Design_sort_of (H0 : Hy K mg) : MetD P w K mg base 2 "Design" "sort_of" (SpF K [false, false] F_Design_sort_of) := by
  have G := H0.G
  have hC := H0.hC
  have hT := H0.hT
  have S := S_Design_sort_of
  exact (met_of (N := ["self", "call"]) (ms := [false, false]) (k := 1) (g := g_Design_sort_of) H0.d_Design_sort_of S rfl
    (ds_ret (de_op dr_ix (de_meth (de_var 0) (da_cons (de_var 1) da_nil)) (de_int (1))))
    (fun qual f cdv A outer s H E hr => (pss_one (ps_ret (pe_ix ix_seq (pe_md (w_Design_call H0) hr (by decide) (pv 0) (pa_cons (pv 1) pa_nil)) pe_int (fun _ _ => rfl))))) :)
abbrev st_Design_case_of : Stmt := inClass (top 71) 4
theorem S_Design_case_of : FnScope ["self", "call", "mode", "cases", "case"] ["self", "call", "mode"] (defScope st_Design_case_of) := ⟨rfl, rfl, rfl, by decide +kernel, rfl, by decide +kernel, by decide +kernel⟩
def g_Design_case_of  : FS := (gSeq (gAsg (fOp ixD (fMeth "Design" "call" [false] F_Design_call (fVar 0) (faCons (fVar 1) faNil)) (fC (.int (2)))) (pName 3)) (gSeq (gDrop (fCall [false, false] F_check_mode (faCons (fVar 0) (faCons (fVar 2) faNil)))) (gSeq (gFor (fIt (fVar 3)) (pName 4) (gIf (fBt (fOp eqD (fOp ixD (fVar 4) (fC (.int (0)))) (fVar 2))) (gRet (fVar 4)) gNext)) (gRet (fC .non)))))
def F_Design_case_of : DF := bodyF 5 [false, false, false] g_Design_case_of
theorem w_Design_case_of (H0 : Hy K mg) : MetD P w K mg base 2 "Design" "case_of" (SpF K [false, false, false] F_Design_case_of) := by
  have G := H0.G
  have hC := H0.hC
  have hT := H0.hT
  have S := S_Design_case_of
  exact (met_of (N := ["self", "call", "mode", "cases", "case"]) (ms := [false, false, false]) (k := 1) (g := g_Design_case_of) H0.d_Design_case_of S rfl
    (ds_seq (ds_asg (de_op dr_ix (de_meth (de_var 0) (da_cons (de_var 1) da_nil)) (de_int (2))) (dg_name 3)) (ds_seq (ds_drop (de_call (da_cons (de_var 0) (da_cons (de_var 2) da_nil)))) (ds_seq (ds_for (di_sq (de_var 3)) (dg_name 4) (ds_if (dt_bl (de_op dr_eq (de_op dr_ix (de_var 4) (de_int (0))) (de_var 2))) (ds_ret (de_var 4)) ds_next)) (ds_ret de_non))))
    (fun qual f cdv A outer s H E hr => (pss_cons (ps_set S.nd (i := 3) rfl (Or.inl rfl) (pe_ix ix_seq (pe_md (w_Design_call H0) hr (by decide) (pv 0) (pa_cons (pv 1) pa_nil)) pe_int (fun _ _ => rfl))) (pss_cons (ps_expr (pe_cd (w_check_mode H0) hr (by decide) rfl (pa_cons (pv 0) (pa_cons (pv 2) pa_nil)))) (pss_cons (ps_for PassesOwn.never rfl (pi_sq (pv 3)) (pg_name S.nd (i := 4) rfl (Or.inl rfl)) (pss_one (ps_if (pt_cmpR (op_eqD hr.units) (pe_ix ix_seq (pv 4) pe_int (fun _ _ => rfl)) (pv 2) (nomark _)) (pss_one (ps_ret (pv 4))) pss_nil))) (pss_one (ps_ret pe_non)))))) :)
abbrev st_Design_contains : Stmt := inClass (top 71) 10
theorem S_Design_contains : FnScope ["self", "value"] ["self", "value"] (defScope st_Design_contains) := ⟨rfl, rfl, rfl, by decide +kernel, rfl, by decide +kernel, by decide +kernel⟩
def g_Design_contains  : FS := (gRet (fAnd (fCB (isiD kt) (faCons (fVar 1) (faCons (fC (.ty "str")) faNil))) (fOp inD (fVar 1) (fWk (fFld CF "names" (fVar 0))))))
def F_Design_contains : DF := bodyF 2 [false, false] g_Design_contains
theorem w_Design_contains (H0 : Hy K mg) : MetD P w K mg base 1 "Design" "__contains__" (SpF K [false, false] F_Design_contains) := by
  have G := H0.G
  have hC := H0.hC
  have hT := H0.hT
  have S := S_Design_contains
  exact (met_of (N := ["self", "value"]) (ms := [false, false]) (k := 0) (g := g_Design_contains) H0.d_Design_contains S rfl
    (ds_ret (de_and (de_cb (crd_isi hT) (da_cons (de_var 1) (da_cons (de_ty "str") da_nil))) (de_op dr_in (de_var 1) (de_wk (de_fld hC (de_var 0))))))
    (fun qual f cdv A outer s H E hr => (pss_one (ps_ret (pe_andT (pe_callB call_isi rfl (G.free 1 _ rfl) PyProof.Rows.boot_isinstance (pa_cons (pv 1) (pa_cons (pe_bty rfl (G.free 0 _ rfl) PyProof.Rows.boot_str) pa_nil))) (pe_one (pe_cmpR op_inU (pv 1) (pe_fld (pv 0) rfl) rfl)))))) :)
abbrev st_Design_eq : Stmt := inClass (top 71) 11
theorem S_Design_eq : FnScope ["self", "other"] ["self", "other"] (defScope st_Design_eq) := ⟨rfl, rfl, rfl, by decide +kernel, rfl, by decide +kernel, by decide +kernel⟩
def g_Design_eq  : FS := (gRet (fAnd (fCB (isiD kt) (faCons (fVar 1) (faCons (fC (.fn "Design")) faNil))) (fOp eqD (fFld CF "text" (fVar 0)) (fFld CF "text" (fVar 1)))))
def F_Design_eq : DF := bodyF 2 [false, false] g_Design_eq
theorem w_Design_eq (H0 : Hy K mg) : MetD P w K mg base 1 "Design" "__eq__" (SpF K [false, false] F_Design_eq) := by
  have G := H0.G
  have hC := H0.hC
  have hT := H0.hT
  have S := S_Design_eq
  exact (met_of (N := ["self", "other"]) (ms := [false, false]) (k := 0) (g := g_Design_eq) H0.d_Design_eq S rfl
    (ds_ret (de_and (de_cb (crd_isi hT) (da_cons (de_var 1) (da_cons (de_fn "Design") da_nil))) (de_op dr_eq (de_fld hC (de_var 0)) (de_fld hC (de_var 1)))))
    (fun qual f cdv A outer s H E hr => (pss_one (ps_ret (pe_andT (pe_callB call_isi rfl (G.free 1 _ rfl) PyProof.Rows.boot_isinstance (pa_cons (pv 1) (pa_cons (C8.pe_gc rfl (G.obj 2 _ rfl)) pa_nil))) (pe_one (pe_cmpR (op_eqD hr.units) (pe_fld (pv 0) rfl) (pe_fld (pv 1) rfl) (nomark _))))))) :)
abbrev st_can_join : Stmt := top 75
theorem S_can_join : FnScope ["first", "second", "field", "name", "sort", "cases"] ["first", "second"] (defScope st_can_join) := ⟨rfl, rfl, rfl, by decide +kernel, rfl, by decide +kernel, by decide +kernel⟩
def g_can_join  : FS := (gSeq (gIf (ftOr (fBt (fOp gtD (fCB lenD (faCons (fFld CF "modes" (fVar 1)) faNil)) (fC (.int (1))))) (fTr (fCB anyD (faCons (fL (fLc [2] (fIt (fFld CF "fields" (fVar 1))) (pName 2) fYes (fOp inD (fVar 2) (fFld CF "fields" (fVar 0))))) faNil)))) (gRet (fC (.bl false))) gNext) (gSeq (gIf (fTr (fCB anyD (faCons (fL (fLc [3] (fIt (fFld CF "view_names" (fVar 1))) (pName 3) fYes (fOp inD (fVar 3) (fFld CF "view_names" (fVar 0))))) faNil))) (gRet (fC (.bl false))) gNext) (gRet (fCB allD (faCons (fL (fLc [3, 4, 5] (fIt (fFld CF "calls" (fVar 1))) (pTup 3 (pCons (pName 3) (pCons (pName 4) (pCons (pName 5) pNil)))) (fBt (fInO false "Design" F_Design_contains (fVar 3) (fVar 0))) (fOp eqD (fMeth "Design" "sort_of" [false] F_Design_sort_of (fVar 0) (faCons (fVar 3) faNil)) (fVar 4)))) faNil)))))
def F_can_join : DF := bodyF 6 [false, false] g_can_join
theorem w_can_join (H0 : Hy K mg) : CalD P w K mg base 3 "can_join" (SpF K [false, false] F_can_join) := by
  have G := H0.G
  have hC := H0.hC
  have hT := H0.hT
  have S := S_can_join
  exact (cal_of (N := ["first", "second", "field", "name", "sort", "cases"]) (ms := [false, false]) (k := 2) (g := g_can_join) H0.d_can_join S rfl
    (ds_seq (ds_if (dt_or (dt_bl (de_op dr_gt (de_cb crd_len (da_cons (de_fld hC (de_var 1)) da_nil)) (de_int (1)))) (dt_tr (de_cb crd_any (da_cons (de_new (dn_lc (vs := [2]) (di_sq (de_fld hC (de_var 1))) (dg_name 2) (by decide) dt_yes (de_op dr_in (de_var 2) (de_fld hC (de_var 0))) (tame_name 2))) da_nil)))) (ds_ret (de_bl false)) ds_next) (ds_seq (ds_if (dt_tr (de_cb crd_any (da_cons (de_new (dn_lc (vs := [3]) (di_sq (de_fld hC (de_var 1))) (dg_name 3) (by decide) dt_yes (de_op dr_in (de_var 3) (de_fld hC (de_var 0))) (tame_name 3))) da_nil))) (ds_ret (de_bl false)) ds_next) (ds_ret (de_cb crd_all (da_cons (de_new (dn_lc (vs := [3, 4, 5]) (di_sq (de_fld hC (de_var 1))) (dg_tup (n := 3) (dgs_cons (dg_name 3) (dgs_cons (dg_name 4) (dgs_cons (dg_name 5) dgs_nil)))) (by decide) (dt_bl (de_inO (de_var 3) (de_var 0))) (de_op dr_eq (de_meth (de_var 0) (da_cons (de_var 3) da_nil)) (de_var 4)) (tame_tup (tame_cons (tame_name 3) (tame_cons (tame_name 4) (tame_cons (tame_name 5) tame_nil)))))) da_nil)))))
    (fun cdv A outer s H E hr => (pss_cons (ps_if (PW.pt (pw_or (pt_cmpR op_gtU (pe_callB ca_len rfl (G.free 3 _ rfl) PySem.boot_len (pa_cons (pe_fld (pv 1) rfl) pa_nil)) pe_int (nomark _)) (pw_or1 (pt_tr (pe_callB (cr_any rfl) rfl (G.free 9 _ rfl) (by decide +kernel) (pa_cons (pe_lc (own := [("field", 2)]) rfl S.nd (pi_sq (pe_fld (pv 1) rfl)) (blk_by (by kernel_rfl)) (fun _ _ _ _ _ => (pg_name S.nd (i := 2) rfl (Or.inl rfl))) (fun _ _ _ _ _ => pts_nil) (fun _ _ _ _ _ => (pe_cmpR op_inU (pv 2) (pe_fld (pv 0) rfl) rfl))) pa_nil)))))) (pss_one (ps_ret pe_bl)) pss_nil) (pss_cons (ps_if (pt_tr (pe_callB (cr_any rfl) rfl (G.free 9 _ rfl) (by decide +kernel) (pa_cons (pe_lc (own := [("name", 3)]) rfl S.nd (pi_sq (pe_fld (pv 1) rfl)) (blk_by (by kernel_rfl)) (fun _ _ _ _ _ => (pg_name S.nd (i := 3) rfl (Or.inl rfl))) (fun _ _ _ _ _ => pts_nil) (fun _ _ _ _ _ => (pe_cmpR op_inU (pv 3) (pe_fld (pv 0) rfl) rfl))) pa_nil))) (pss_one (ps_ret pe_bl)) pss_nil) (pss_one (ps_ret (pe_callB (cr_all rfl) rfl (G.free 2 _ rfl) (by decide +kernel) (pa_cons (pe_lc (own := [("name", 3), ("sort", 4), ("cases", 5)]) rfl S.nd (pi_sq (pe_fld (pv 1) rfl)) (blk_by (by kernel_rfl)) (fun _ _ _ _ _ => (pg_tup (n := 3) rfl (pgs_cons (pg_name S.nd (i := 3) rfl (Or.inl rfl)) (pgs_cons (pg_name S.nd (i := 4) rfl (Or.inl rfl)) (pgs_cons (pg_name S.nd (i := 5) rfl (Or.inl rfl)) pgs_nil))))) (fun _ _ _ _ _ => (pts_one (pt_cmpR (op_inO (w_Design_contains H0) hr (by decide)) (pv 3) (pv 0) rfl))) (fun _ _ _ _ _ => (pe_cmpR (op_eqD hr.units) (pe_md (w_Design_sort_of H0) hr (by decide) (pv 0) (pa_cons (pv 3) pa_nil)) (pv 4) (nomark _)))) pa_nil))))))) :)
abbrev st_joined_call : Stmt := top 76
theorem S_joined_call : FnScope ["call", "second", "name", "sort", "cases", "other", "made", "mode", "facts", "updates", "behind"] ["call", "second"] (defScope st_joined_call) := ⟨rfl, rfl, rfl, by decide +kernel, rfl, by decide +kernel, by decide +kernel⟩
def g_joined_call  : FS := (gSeq (gAsg (fVar 0) (pTup 3 (pCons (pName 2) (pCons (pName 3) (pCons (pName 4) pNil))))) (gSeq (gIf (fBt (fInO true "Design" F_Design_contains (fVar 2) (fVar 1))) (gRet (fVar 0)) gNext) (gSeq (gAsg (fMeth "Design" "case_of" [false, false] F_Design_case_of (fVar 1) (faCons (fVar 2) (faCons (fOp ixD (fFld CF "modes" (fVar 1)) (fC (.int (0)))) faNil))) (pName 5)) (gSeq (gIf (fBt (fOp isD (fVar 5) (fC .non))) (gRet (fTup (faCons (fVar 2) (faCons (fVar 3) (faCons (fTup faNil) faNil))))) gNext) (gSeq (gAsg (fL (fLc [7, 8, 9, 10] (fIt (fVar 4)) (pTup 4 (pCons (pName 7) (pCons (pName 8) (pCons (pName 9) (pCons (pName 10) pNil))))) fYes (fTup (faCons (fVar 7) (faCons (fOp addD (fVar 8) (fOp ixD (fVar 5) (fC (.int (1))))) (faCons (fOp addD (fVar 9) (fOp ixD (fVar 5) (fC (.int (2))))) (faCons (fVar 10) faNil))))))) (pName 6)) (gRet (fTup (faCons (fVar 2) (faCons (fVar 3) (faCons (fCB tupD (faCons (fVar 6) faNil)) faNil))))))))))
def F_joined_call : DF := bodyF 11 [false, false] g_joined_call
theorem w_joined_call (H0 : Hy K mg) : CalD P w K mg base 3 "joined_call" (SpF K [false, false] F_joined_call) := by
  have G := H0.G
  have hC := H0.hC
  have hT := H0.hT
  have S := S_joined_call
  exact (cal_of (N := ["call", "second", "name", "sort", "cases", "other", "made", "mode", "facts", "updates", "behind"]) (ms := [false, false]) (k := 2) (g := g_joined_call) H0.d_joined_call S rfl
    (ds_seq (ds_asg (de_var 0) (dg_tup (n := 3) (dgs_cons (dg_name 2) (dgs_cons (dg_name 3) (dgs_cons (dg_name 4) dgs_nil))))) (ds_seq (ds_if (dt_bl (de_inO (de_var 2) (de_var 1))) (ds_ret (de_var 0)) ds_next) (ds_seq (ds_asg (de_meth (de_var 1) (da_cons (de_var 2) (da_cons (de_op dr_ix (de_fld hC (de_var 1)) (de_int (0))) da_nil))) (dg_name 5)) (ds_seq (ds_if (dt_bl (de_op dr_is (de_var 5) de_non)) (ds_ret (de_tup (da_cons (de_var 2) (da_cons (de_var 3) (da_cons (de_tup da_nil) da_nil))))) ds_next) (ds_seq (ds_asg (de_new (dn_lc (vs := [7, 8, 9, 10]) (di_sq (de_var 4)) (dg_tup (n := 4) (dgs_cons (dg_name 7) (dgs_cons (dg_name 8) (dgs_cons (dg_name 9) (dgs_cons (dg_name 10) dgs_nil))))) (by decide) dt_yes (de_tup (da_cons (de_var 7) (da_cons (de_op dr_add (de_var 8) (de_op dr_ix (de_var 5) (de_int (1)))) (da_cons (de_op dr_add (de_var 9) (de_op dr_ix (de_var 5) (de_int (2)))) (da_cons (de_var 10) da_nil))))) (tame_tup (tame_cons (tame_name 7) (tame_cons (tame_name 8) (tame_cons (tame_name 9) (tame_cons (tame_name 10) tame_nil))))))) (dg_name 6)) (ds_ret (de_tup (da_cons (de_var 2) (da_cons (de_var 3) (da_cons (de_cb crd_tuple (da_cons (de_var 6) da_nil)) da_nil))))))))))
    (fun cdv A outer s H E hr => (pss_cons (ps_asg (pv 0) (pg_tup (n := 3) rfl (pgs_cons (pg_name S.nd (i := 2) rfl (Or.inl rfl)) (pgs_cons (pg_name S.nd (i := 3) rfl (Or.inl rfl)) (pgs_cons (pg_name S.nd (i := 4) rfl (Or.inl rfl)) pgs_nil))))) (pss_cons (ps_if (pt_cmpR (op_ninO (w_Design_contains H0) hr (by decide)) (pv 2) (pv 1) rfl) (pss_one (ps_ret (pv 0))) pss_nil) (pss_cons (ps_set S.nd (i := 5) rfl (Or.inr rfl) (pe_md (w_Design_case_of H0) hr (by decide) (pv 1) (pa_cons (pv 2) (pa_cons (pe_ix ix_seq (pe_fld (pv 1) rfl) pe_int (fun _ _ => rfl)) pa_nil)))) (pss_cons (ps_if (pt_cmpR op_isNU (pv 5) pe_non (nomark _)) (pss_one (ps_ret (pe_tup (pa_cons (pv 2) (pa_cons (pv 3) (pa_cons (pe_tup pa_nil) pa_nil)))))) pss_nil) (pss_cons (ps_setLc (own := [("mode", 7), ("facts", 8), ("updates", 9), ("behind", 10)]) rfl S.nd (i := 6) rfl rfl rfl (pi_sq (pv 4)) (blk_by (by kernel_rfl)) (fun _ _ _ _ _ => (pg_tup (n := 4) rfl (pgs_cons (pg_name S.nd (i := 7) rfl (Or.inl rfl)) (pgs_cons (pg_name S.nd (i := 8) rfl (Or.inl rfl)) (pgs_cons (pg_name S.nd (i := 9) rfl (Or.inl rfl)) (pgs_cons (pg_name S.nd (i := 10) rfl (Or.inl rfl)) pgs_nil)))))) (fun _ _ _ _ _ => pts_nil) (fun _ _ _ _ _ => (pe_tup (pa_cons (pv 7) (pa_cons (pe_op op_addU (pv 8) (pe_ix ix_seq (pv 5) pe_int (fun _ _ => rfl))) (pa_cons (pe_op op_addU (pv 9) (pe_ix ix_seq (pv 5) pe_int (fun _ _ => rfl))) (pa_cons (pv 10) pa_nil))))))) (pss_one (ps_ret (pe_tup (pa_cons (pv 2) (pa_cons (pv 3) (pa_cons (pe_callTy ca_tuple rfl (G.free 4 _ rfl) PyProof.Rows.boot_tuple (pa_cons (pv 6) pa_nil)) pa_nil)))))))))))) :)
abbrev st_spread_call : Stmt := top 77
theorem S_spread_call : FnScope ["call", "modes", "name", "sort", "cases", "case", "mode"] ["call", "modes"] (defScope st_spread_call) := ⟨rfl, rfl, rfl, by decide +kernel, rfl, by decide +kernel, by decide +kernel⟩
def g_spread_call  : FS := (gSeq (gAsg (fVar 0) (pTup 3 (pCons (pName 2) (pCons (pName 3) (pCons (pName 4) pNil))))) (gRet (fTup (faCons (fVar 2) (faCons (fVar 3) (faCons (fCB tupD (faCons (fL (fLc2 [5, 6] (fIt (fVar 4)) (pName 5) fYes [6] (fIt (fVar 1)) (pName 6) fYes (fTup (faCons (fVar 6) (faCons (fOp ixD (fVar 5) (fC (.int (1)))) (faCons (fOp ixD (fVar 5) (fC (.int (2)))) (faCons (fVar 6) faNil))))))) faNil)) faNil))))))
def F_spread_call : DF := bodyF 7 [false, false] g_spread_call
theorem w_spread_call (H0 : Hy K mg) : CalD P w K mg base 1 "spread_call" (SpF K [false, false] F_spread_call) := by
  have G := H0.G
  have hC := H0.hC
  have hT := H0.hT
  have S := S_spread_call
  exact (cal_of (N := ["call", "modes", "name", "sort", "cases", "case", "mode"]) (ms := [false, false]) (k := 0) (g := g_spread_call) H0.d_spread_call S rfl
    (ds_seq (ds_asg (de_var 0) (dg_tup (n := 3) (dgs_cons (dg_name 2) (dgs_cons (dg_name 3) (dgs_cons (dg_name 4) dgs_nil))))) (ds_ret (de_tup (da_cons (de_var 2) (da_cons (de_var 3) (da_cons (de_cb crd_tuple (da_cons (de_new (dn_lc2 (vs := [5, 6]) (vs1 := [6]) (di_sq (de_var 4)) (dg_name 5) (by decide) dt_yes (di_sq (de_var 1)) (dg_name 6) (by decide) (by decide) dt_yes (de_tup (da_cons (de_var 6) (da_cons (de_op dr_ix (de_var 5) (de_int (1))) (da_cons (de_op dr_ix (de_var 5) (de_int (2))) (da_cons (de_var 6) da_nil))))) (tame_name 5) (tame_name 6))) da_nil)) da_nil))))))
    (fun cdv A outer s H E hr => (pss_cons (ps_asg (pv 0) (pg_tup (n := 3) rfl (pgs_cons (pg_name S.nd (i := 2) rfl (Or.inl rfl)) (pgs_cons (pg_name S.nd (i := 3) rfl (Or.inl rfl)) (pgs_cons (pg_name S.nd (i := 4) rfl (Or.inl rfl)) pgs_nil))))) (pss_one (ps_ret (pe_tup (pa_cons (pv 2) (pa_cons (pv 3) (pa_cons (pe_callTy ca_tuple rfl (G.free 4 _ rfl) PyProof.Rows.boot_tuple (pa_cons (pe_lc2 (own := [("case", 5), ("mode", 6)]) (vs1 := [6]) rfl S.nd (pi_sq (pv 4)) (blk_by (by kernel_rfl)) (by decide) (fun _ _ _ _ _ => (pg_name S.nd (i := 5) rfl (Or.inl rfl))) (fun _ _ _ _ _ => pts_nil) (fun _ _ _ _ _ => (pi_sq (pv 1))) (fun _ _ _ _ _ => (pg_name S.nd (i := 6) rfl (Or.inl rfl))) (fun _ _ _ _ _ => pts_nil) (fun _ _ _ _ _ => (pe_tup (pa_cons (pv 6) (pa_cons (pe_ix ix_seq (pv 5) pe_int (fun _ _ => rfl)) (pa_cons (pe_ix ix_seq (pv 5) pe_int (fun _ _ => rfl)) (pa_cons (pv 6) pa_nil))))))) pa_nil)) pa_nil)))))))) :)
abbrev st_check_design : Stmt := top 72
theorem S_check_design : FnScope ["value"] ["value"] (defScope st_check_design) := ⟨rfl, rfl, rfl, by decide +kernel, rfl, by decide +kernel, by decide +kernel⟩
def g_check_design : FSX := (gxIf (ftNot (fTr (fCB (isiD kt) (faCons (fVar 0) (faCons (fC (.fn "Design")) faNil))))) (gxRaise1 "NotADesign" "value" (fVar 0)) (gxNm gNext))
def F_check_design : DFX := bodyX 1 1 g_check_design
theorem w_check_design (H0 : Hy K mg) : CalX P w K mg base 3 "check_design" ["value"] (SpX K F_check_design) := by
  have G := H0.G
  have hC := H0.hC
  have hT := H0.hT
  have S := S_check_design
  exact (calx_of (N := ["value"]) (k := 2) (g := g_check_design) H0.d_check_design S
    (fun W => (dx_if (dt_not (dt_tr (de_cb (crd_isi hT) (da_cons (de_var 0) (da_cons (de_fn "Design") da_nil))))) (dx_raise1 (de_var 0)) (dx_nm ds_next)))
    (fun cdv A outer s H E W hr tk => (pss_one (ps_if (pt_not (pt_tr (pe_callB call_isi rfl (G.free 1 _ rfl) PyProof.Rows.boot_isinstance (pa_cons (pv 0) (pa_cons (C8.pe_gc rfl (G.obj 2 _ rfl)) pa_nil))))) (pss_one (ps_raise rfl tk (pmk_x1 (e_NotADesign H0) hr (by decide) rfl (pa_cons (pv 0) pa_nil)))) pss_nil))) :)
abbrev st_beside : Stmt := top 78
theorem S_beside : FnScope ["first", "second", "fields", "calls", "views", "call", "name", "forms", "case"] ["first", "second"] (defScope st_beside) := ⟨rfl, rfl, rfl, by decide +kernel, rfl, by decide +kernel, by decide +kernel⟩
def g_beside : FSX := (gxSeq (gxCall F_check_design (faCons (fVar 0) faNil)) (gxSeq (gxCall F_check_design (faCons (fVar 1) faNil)) (gxSeq (gxIf (ftNot (fTr (fCall [false, false] F_can_join (faCons (fVar 0) (faCons (fVar 1) faNil))))) (gxRaise0 "NotComparable") (gxNm gNext)) (gxSeq (gxNm (gAsg (fOp addD (fFld CF "fields" (fVar 0)) (fFld CF "fields" (fVar 1))) (pName 2))) (gxSeq (gxIf (fBt (fOp gtD (fCB lenD (faCons (fVar 2) faNil)) (fC (.int 4)))) (gxRaise1 "TooManyFields" "limit" (fC (.int 4))) (gxNm gNext)) (gxSeq (gxNm (gAsgN (fLc [5] (fIt (fFld CF "calls" (fVar 0))) (pName 5) fYes (fCall [false, false] F_joined_call (faCons (fVar 5) (faCons (fVar 1) faNil)))) 3)) (gxSeq (gxNm (gExt 3 (fL (fLc [5] (fIt (fFld CF "calls" (fVar 1))) (pName 5) (fBt (fInO true "Design" F_Design_contains (fOp ixD (fVar 5) (fC (.int (0)))) (fVar 0))) (fCall [false, false] F_spread_call (faCons (fVar 5) (faCons (fFld CF "modes" (fVar 0)) faNil))))))) (gxSeq (gxIf (fBt (fOp gtD (fLenB (fBor 3)) (fC (.int 8)))) (gxRaise1 "TooManyCalls" "limit" (fC (.int 8))) (gxNm gNext)) (gxSeq (gxNm (gAsg (fOp addD (fFld CF "views" (fVar 0)) (fCB tupD (faCons (fL (fLc [6, 7] (fIt (fFld CF "views" (fVar 1))) (pTup 2 (pCons (pName 6) (pCons (pName 7) pNil))) fYes (fTup (faCons (fVar 6) (faCons (fOp mulD (fVar 7) (fCB lenD (faCons (fFld CF "modes" (fVar 0)) faNil))) faNil))))) faNil))) (pName 4))) (gxSeq (gxIf (fBt (fOp gtD (fCB lenD (faCons (fVar 4) faNil)) (fC (.int 4)))) (gxRaise1 "TooManyViews" "limit" (fC (.int 4))) (gxNm gNext)) (gxSeq (gxIf (fTr (fCB anyD (faCons (fL (fLc2 [5, 8] (fIt (fVar 3)) (pName 5) fYes [8] (fIt (fOp ixD (fVar 5) (fC (.int (2))))) (pName 8) fYes (fOp gtD (fCB lenD (faCons (fOp ixD (fVar 8) (fC (.int (1)))) faNil)) (fC (.int 5))))) faNil))) (gxRaise1 "TooManyFacts" "limit" (fC (.int 5))) (gxNm gNext)) (gxNm (gRet (fMake "Design" F_Design_init (faCons (fVar 2) (faCons (fFld CF "modes" (fVar 0)) (faCons (fCB tupD (faCons (fVar 3) faNil)) (faCons (fVar 4) faNil))))))))))))))))))
def F_beside : DFX := bodyX 9 2 g_beside
theorem w_beside (H0 : Hy K mg) : CalXK P w K mg base 39 "beside" "first" "second" (SpX K F_beside) := by
  have G := H0.G
  have hC := H0.hC
  have hT := H0.hT
  have S := S_beside
  exact (calxk_of (N := ["first", "second", "fields", "calls", "views", "call", "name", "forms", "case"]) (k := 38) (g := g_beside) H0.d_beside S
    (fun W => (dx_seq (dx_call (da_cons (de_var 0) da_nil)) (dx_seq (dx_call (da_cons (de_var 1) da_nil)) (dx_seq (dx_if (dt_not (dt_tr (de_call (da_cons (de_var 0) (da_cons (de_var 1) da_nil))))) dx_raise0 (dx_nm ds_next)) (dx_seq (dx_nm (ds_asg (de_op dr_add (de_fld hC (de_var 0)) (de_fld hC (de_var 1))) (dg_name 2))) (dx_seq (dx_if (dt_bl (de_op dr_gt (de_cb crd_len (da_cons (de_var 2) da_nil)) (de_int 4))) (dx_raise1 (de_int 4)) (dx_nm ds_next)) (dx_seq (dx_nm (ds_asgN (dn_lc (vs := [5]) (di_sq (de_fld hC (de_var 0))) (dg_name 5) (by decide) dt_yes (de_call (da_cons (de_var 5) (da_cons (de_var 1) da_nil))) (tame_name 5)) 3)) (dx_seq (dx_nm (ds_ext 3 (de_new (dn_lc (vs := [5]) (di_sq (de_fld hC (de_var 1))) (dg_name 5) (by decide) (dt_bl (de_inO (de_op dr_ix (de_var 5) (de_int (0))) (de_var 0))) (de_call (da_cons (de_var 5) (da_cons (de_fld hC (de_var 0)) da_nil))) (tame_name 5))))) (dx_seq (dx_if (dt_bl (de_op dr_gt (de_lenB (db_var 3)) (de_int 8))) (dx_raise1 (de_int 8)) (dx_nm ds_next)) (dx_seq (dx_nm (ds_asg (de_op dr_add (de_fld hC (de_var 0)) (de_cb crd_tuple (da_cons (de_new (dn_lc (vs := [6, 7]) (di_sq (de_fld hC (de_var 1))) (dg_tup (n := 2) (dgs_cons (dg_name 6) (dgs_cons (dg_name 7) dgs_nil))) (by decide) dt_yes (de_tup (da_cons (de_var 6) (da_cons (de_op dr_mul (de_var 7) (de_cb crd_len (da_cons (de_fld hC (de_var 0)) da_nil))) da_nil))) (tame_tup (tame_cons (tame_name 6) (tame_cons (tame_name 7) tame_nil))))) da_nil))) (dg_name 4))) (dx_seq (dx_if (dt_bl (de_op dr_gt (de_cb crd_len (da_cons (de_var 4) da_nil)) (de_int 4))) (dx_raise1 (de_int 4)) (dx_nm ds_next)) (dx_seq (dx_if (dt_tr (de_cb crd_any (da_cons (de_new (dn_lc2 (vs := [5, 8]) (vs1 := [8]) (di_sq (de_var 3)) (dg_name 5) (by decide) dt_yes (di_sq (de_op dr_ix (de_var 5) (de_int (2)))) (dg_name 8) (by decide) (by decide) dt_yes (de_op dr_gt (de_cb crd_len (da_cons (de_op dr_ix (de_var 8) (de_int (1))) da_nil)) (de_int 5)) (tame_name 5) (tame_name 8))) da_nil))) (dx_raise1 (de_int 5)) (dx_nm ds_next)) (dx_nm (ds_ret (de_make (n := 4) (fun ds r h => by have h2 := bodyF_len (ms := [true, false, false, false, false]) h; simpa using h2) (da_cons (de_var 2) (da_cons (de_fld hC (de_var 0)) (da_cons (de_cb crd_tuple (da_cons (de_var 3) da_nil)) (da_cons (de_var 4) da_nil)))))))))))))))))))
    (fun cdv A outer s H E W hr tk => (pss_cons (ps_expr (pe_cx (w_check_design H0) hr (by decide) tk rfl (pa_cons (pv 0) pa_nil))) (pss_cons (ps_expr (pe_cx (w_check_design H0) hr (by decide) tk rfl (pa_cons (pv 1) pa_nil))) (pss_cons (ps_if (pt_not (pt_tr (pe_cd (w_can_join H0) hr (by decide) rfl (pa_cons (pv 0) (pa_cons (pv 1) pa_nil))))) (pss_one (ps_raise rfl tk (pmk_x0 H0.e_NotComparable rfl))) pss_nil) (pss_cons (ps_set S.nd (i := 2) rfl (Or.inl rfl) (pe_op op_addU (pe_fld (pv 0) rfl) (pe_fld (pv 1) rfl))) (pss_cons (ps_if (pt_cmpR op_gtU (pe_callB ca_len rfl (G.free 3 _ rfl) PySem.boot_len (pa_cons (pv 2) pa_nil)) (C8.pe_gc rfl (G.int 3 _ _ rfl)) (nomark _)) (pss_one (ps_raise rfl tk (pmk_x1 (e_TooManyFields H0) hr (by decide) rfl (pa_cons (C8.pe_gc rfl (G.int 3 _ _ rfl)) pa_nil)))) pss_nil) (pss_cons (ps_setLc (own := [("call", 5)]) rfl S.nd (i := 3) rfl rfl rfl (pi_sq (pe_fld (pv 0) rfl)) (blk_by (by kernel_rfl)) (fun _ _ _ _ _ => (pg_name S.nd (i := 5) rfl (Or.inl rfl))) (fun _ _ _ _ _ => pts_nil) (fun _ _ _ _ _ => (pe_cd (w_joined_call H0) hr (by decide) rfl (pa_cons (pv 5) (pa_cons (pv 1) pa_nil))))) (pss_cons (ps_expr (pe_bm F.plainAttrs_list PySem.F.slot_list_extend PySem.F.type_list_extend mt_extend (pv 3) (pa_cons (pe_lc (own := [("call", 5)]) rfl S.nd (pi_sq (pe_fld (pv 1) rfl)) (blk_by (by kernel_rfl)) (fun _ _ _ _ _ => (pg_name S.nd (i := 5) rfl (Or.inl rfl))) (fun _ _ _ _ _ => (pts_one (pt_cmpR (op_ninO (w_Design_contains H0) hr (by decide)) (pe_ix ix_seq (pv 5) pe_int (fun _ _ => rfl)) (pv 0) rfl))) (fun _ _ _ _ _ => (pe_cd (w_spread_call H0) hr (by decide) rfl (pa_cons (pv 5) (pa_cons (pe_fld (pv 0) rfl) pa_nil))))) pa_nil))) (pss_cons (ps_if (pt_cmpR op_gtU (pe_callB ca_len rfl (G.free 3 _ rfl) PySem.boot_len (pa_cons (pv 3) pa_nil)) (C8.pe_gc rfl (G.int 6 _ _ rfl)) (nomark _)) (pss_one (ps_raise rfl tk (pmk_x1 (e_TooManyCalls H0) hr (by decide) rfl (pa_cons (C8.pe_gc rfl (G.int 6 _ _ rfl)) pa_nil)))) pss_nil) (pss_cons (ps_set S.nd (i := 4) rfl (Or.inl rfl) (pe_op op_addU (pe_fld (pv 0) rfl) (pe_callTy ca_tuple rfl (G.free 4 _ rfl) PyProof.Rows.boot_tuple (pa_cons (pe_lc (own := [("name", 6), ("forms", 7)]) rfl S.nd (pi_sq (pe_fld (pv 1) rfl)) (blk_by (by kernel_rfl)) (fun _ _ _ _ _ => (pg_tup (n := 2) rfl (pgs_cons (pg_name S.nd (i := 6) rfl (Or.inl rfl)) (pgs_cons (pg_name S.nd (i := 7) rfl (Or.inl rfl)) pgs_nil)))) (fun _ _ _ _ _ => pts_nil) (fun _ _ _ _ _ => (pe_tup (pa_cons (pv 6) (pa_cons (pe_op op_mulU (pv 7) (pe_callB ca_len rfl (G.free 3 _ rfl) PySem.boot_len (pa_cons (pe_fld (pv 0) rfl) pa_nil))) pa_nil))))) pa_nil)))) (pss_cons (ps_if (pt_cmpR op_gtU (pe_callB ca_len rfl (G.free 3 _ rfl) PySem.boot_len (pa_cons (pv 4) pa_nil)) (C8.pe_gc rfl (G.int 7 _ _ rfl)) (nomark _)) (pss_one (ps_raise rfl tk (pmk_x1 (e_TooManyViews H0) hr (by decide) rfl (pa_cons (C8.pe_gc rfl (G.int 7 _ _ rfl)) pa_nil)))) pss_nil) (pss_cons (ps_if (pt_tr (pe_callB (cr_any rfl) rfl (G.free 9 _ rfl) (by decide +kernel) (pa_cons (pe_lc2 (own := [("call", 5), ("case", 8)]) (vs1 := [8]) rfl S.nd (pi_sq (pv 3)) (blk_by (by kernel_rfl)) (by decide) (fun _ _ _ _ _ => (pg_name S.nd (i := 5) rfl (Or.inl rfl))) (fun _ _ _ _ _ => pts_nil) (fun _ _ _ _ _ => (pi_sq (pe_ix ix_seq (pv 5) pe_int (fun _ _ => rfl)))) (fun _ _ _ _ _ => (pg_name S.nd (i := 8) rfl (Or.inl rfl))) (fun _ _ _ _ _ => pts_nil) (fun _ _ _ _ _ => (pe_cmpR op_gtU (pe_callB ca_len rfl (G.free 3 _ rfl) PySem.boot_len (pa_cons (pe_ix ix_seq (pv 8) pe_int (fun _ _ => rfl)) pa_nil)) (C8.pe_gc rfl (G.int 5 _ _ rfl)) (nomark _)))) pa_nil))) (pss_one (ps_raise rfl tk (pmk_x1 (e_TooManyFacts H0) hr (by decide) rfl (pa_cons (C8.pe_gc rfl (G.int 5 _ _ rfl)) pa_nil)))) pss_nil) (pss_one (ps_ret (pe_mkd (w_Design_init H0) hr (by decide) rfl (pa_cons (pv 2) (pa_cons (pe_fld (pv 0) rfl) (pa_cons (pe_callTy ca_tuple rfl (G.free 4 _ rfl) PyProof.Rows.boot_tuple (pa_cons (pv 3) pa_nil)) (pa_cons (pv 4) pa_nil))))))))))))))))))) :)
abbrev st__law_purse : Stmt := top 80
theorem S__law_purse : FnScope ["script", "cell"] ["script"] (defScope st__law_purse) := ⟨rfl, rfl, rfl, by decide +kernel, rfl, by decide +kernel, by decide +kernel⟩
def g__law_purse : En → Option (List D × En) := (fLst (faCons (fOp addD (fL (fLc [1] (fIt (fAlt (fSl cutD (fVar 0) fNoPart (fPart (fC (.int (40))))) (fL (fSlL (fVar 0) fNoPart (fPart (fC (.int (40)))))))) (pName 1) fYes (fCB absD (faCons (fCB intD (faCons (fVar 1) faNil)) faNil)))) (fL (fLst (faCons (fC (.int (11))) faNil)))) (faCons (fC (.int (0))) (faCons (fC (.int (0))) (faCons (fC (.int (1))) faNil)))))
def F__law_purse : List D → Option (List D) := bodyN 2 1 g__law_purse
theorem w__law_purse (H0 : Hy K mg) : CalD P w K mg base 1 "_law_purse" (SpN K F__law_purse) := by
  have G := H0.G
  have hC := H0.hC
  have hT := H0.hT
  have S := S__law_purse
  exact (caln_of (N := ["script", "cell"]) (k := 0) (f := g__law_purse) H0.d__law_purse S
    (dn_lst (da_cons (de_op dr_add (de_new (dn_lc (vs := [1]) (di_sq (de_alt (de_sl (de_var 0) do_none (do_some (de_int (40)))) (de_new (dn_slL (de_var 0) do_none (do_some (de_int (40))))))) (dg_name 1) (by decide) dt_yes (de_cb crd_abs (da_cons (de_cb crd_int (da_cons (de_var 1) da_nil)) da_nil)) (tame_name 1))) (de_new (dn_lst (da_cons (de_int (11)) da_nil)))) (da_cons (de_int (0)) (da_cons (de_int (0)) (da_cons (de_int (1)) da_nil)))))
    (fun cdv A outer s H E hr => pss_one (ps_ret (pe_lst (pa_cons (pe_op op_addU (pe_lc (own := [("cell", 1)]) rfl S.nd (pi_sq (pe_alt (pe_slice sl_U (pv 0) po_none (po_some pe_int)) (pe_slice sl_list (pv 0) po_none (po_some pe_int)))) (blk_by (by kernel_rfl)) (fun _ _ _ _ _ => (pg_name S.nd (i := 1) rfl (Or.inl rfl))) (fun _ _ _ _ _ => pts_nil) (fun _ _ _ _ _ => (pe_callB ca_abs rfl (G.free 10 _ rfl) PyProof.Rows.boot_abs (pa_cons (pe_callTy ca_int rfl (G.free 6 _ rfl) PyProof.Rows.boot_int (pa_cons (pv 1) pa_nil)) pa_nil)))) (pe_lst (pa_cons pe_int pa_nil))) (pa_cons pe_int (pa_cons pe_int (pa_cons pe_int pa_nil))))))) :)
abbrev st__law_draw : Stmt := top 81
theorem S__law_draw : FnScope ["purse", "many", "digit", "place", "cells", "cell", "mixed"] ["purse", "many"] (defScope st__law_draw) := ⟨rfl, rfl, rfl, by decide +kernel, rfl, by decide +kernel, by decide +kernel⟩
def g__law_draw  : FS := (gSeq (gIf (fBt (fOp gtD (fIxB (fBor 0) 2) (fC (.int (0))))) (gSeq (gAsg (fOp modD (fCB intD (faCons (fIxB (fBor 0) 2) faNil)) (fVar 1)) (pName 2)) (gSeq (gSet 0 (fC (.int (2))) (fOp fdivD (fIxB (fBor 0) 2) (fVar 1))) (gRet (fVar 2)))) gNext) (gSeq (gPar [3, 4] (fvVal (fIxB (fBor 0) 1) (fvVal (fIxB (fBor 0) 0) fvNil))) (gSeq (gSet 0 (fC (.int (1))) (fOp addD (fVar 3) (fC (.int (1))))) (gSeq (gAsg (fOp ixD (fVar 4) (fOp modD (fCB intD (faCons (fVar 3) faNil)) (fCB lenD (faCons (fVar 4) faNil)))) (pName 5)) (gSeq (gIf (ftAnd (fBt (fOp geD (fVar 5) (fOp powD (fC (.int (10))) (fC (.int (18)))))) (fBt (fOp ltD (fVar 3) (fCB lenD (faCons (fVar 4) faNil))))) (gSeq (gSet 0 (fC (.int (2))) (fOp fdivD (fVar 5) (fVar 1))) (gRet (fOp modD (fCB intD (faCons (fVar 5) faNil)) (fVar 1)))) gNext) (gSeq (gAsg (fOp modD (fCB intD (faCons (fOp addD (fOp addD (fOp mulD (fIxB (fBor 0) 3) (fC (.int (48271)))) (fOp mulD (fOp addD (fVar 5) (fVar 3)) (fC (.int (69997))))) (fC (.int (7)))) faNil)) (fC (.int (2147483647)))) (pName 6)) (gSeq (gSet 0 (fC (.int (3))) (fOp addD (fOp modD (fCB intD (faCons (fOp addD (fOp powD (fVar 6) (fC (.int (3)))) (fVar 3)) faNil)) (fC (.int (2147483629)))) (fC (.int (1))))) (gRet (fOp modD (fCB intD (faCons (fOp fdivD (fVar 6) (fC (.int (257)))) faNil)) (fVar 1))))))))))
def F__law_draw : DF := bodyF 7 [true, false] g__law_draw
theorem w__law_draw (H0 : Hy K mg) : CalD P w K mg base 1 "_law_draw" (SpF K [true, false] F__law_draw) := by
  have G := H0.G
  have hC := H0.hC
  have hT := H0.hT
  have S := S__law_draw
  exact (cal_of (N := ["purse", "many", "digit", "place", "cells", "cell", "mixed"]) (ms := [true, false]) (k := 0) (g := g__law_draw) H0.d__law_draw S rfl
    (ds_seq (ds_if (dt_bl (de_op dr_gt (de_ixB (i := 2) (db_var 0)) (de_int (0)))) (ds_seq (ds_asg (de_op dr_mod (de_cb crd_int (da_cons (de_ixB (i := 2) (db_var 0)) da_nil)) (de_var 1)) (dg_name 2)) (ds_seq (ds_set 0 (de_op dr_fdiv (de_ixB (i := 2) (db_var 0)) (de_var 1)) (de_int (2))) (ds_ret (de_var 2)))) ds_next) (ds_seq (ds_par (dv_val (de_ixB (i := 1) (db_var 0)) (dv_val (de_ixB (i := 0) (db_var 0)) dv_nil))) (ds_seq (ds_set 0 (de_op dr_add (de_var 3) (de_int (1))) (de_int (1))) (ds_seq (ds_asg (de_op dr_ix (de_var 4) (de_op dr_mod (de_cb crd_int (da_cons (de_var 3) da_nil)) (de_cb crd_len (da_cons (de_var 4) da_nil)))) (dg_name 5)) (ds_seq (ds_if (dt_and (dt_bl (de_op dr_ge (de_var 5) (de_op dr_pow (de_int (10)) (de_int (18))))) (dt_bl (de_op dr_lt (de_var 3) (de_cb crd_len (da_cons (de_var 4) da_nil))))) (ds_seq (ds_set 0 (de_op dr_fdiv (de_var 5) (de_var 1)) (de_int (2))) (ds_ret (de_op dr_mod (de_cb crd_int (da_cons (de_var 5) da_nil)) (de_var 1)))) ds_next) (ds_seq (ds_asg (de_op dr_mod (de_cb crd_int (da_cons (de_op dr_add (de_op dr_add (de_op dr_mul (de_ixB (i := 3) (db_var 0)) (de_int (48271))) (de_op dr_mul (de_op dr_add (de_var 5) (de_var 3)) (de_int (69997)))) (de_int (7))) da_nil)) (de_int (2147483647))) (dg_name 6)) (ds_seq (ds_set 0 (de_op dr_add (de_op dr_mod (de_cb crd_int (da_cons (de_op dr_add (de_op dr_pow (de_var 6) (de_int (3))) (de_var 3)) da_nil)) (de_int (2147483629))) (de_int (1))) (de_int (3))) (ds_ret (de_op dr_mod (de_cb crd_int (da_cons (de_op dr_fdiv (de_var 6) (de_int (257))) da_nil)) (de_var 1))))))))))
    (fun cdv A outer s H E hr => (pss_cons (ps_if (pt_cmpR op_gtU (pe_ix ix_seq (pv 0) pe_int (fun _ _ => rfl)) pe_int (nomark _)) (pss_cons (ps_set S.nd (i := 2) rfl (Or.inl rfl) (pe_op op_modU (pe_callTy ca_int rfl (G.free 6 _ rfl) PyProof.Rows.boot_int (pa_cons (pe_ix ix_seq (pv 0) pe_int (fun _ _ => rfl)) pa_nil)) (pv 1))) (pss_cons (ps_asg (pe_op op_fdivU (pe_ix ix_seq (pv 0) pe_int (fun _ _ => rfl)) (pv 1)) (pg_sub (pv 0) pe_int set_list)) (pss_one (ps_ret (pv 2))))) pss_nil) (pss_cons (ps_par (i := 3) (j := 4) rfl S.nd rfl rfl (by decide) rfl rfl (pa_cons (pe_ix ix_seq (pv 0) pe_int (fun _ _ => rfl)) (pa_cons (pe_ix ix_seq (pv 0) pe_int (fun _ _ => rfl)) pa_nil)) rfl) (pss_cons (ps_asg (pe_op op_addU (pv 3) pe_int) (pg_sub (pv 0) pe_int set_list)) (pss_cons (ps_set S.nd (i := 5) rfl (Or.inl rfl) (pe_ix ix_seq (pv 4) (pe_op op_modU (pe_callTy ca_int rfl (G.free 6 _ rfl) PyProof.Rows.boot_int (pa_cons (pv 3) pa_nil)) (pe_callB ca_len rfl (G.free 3 _ rfl) PySem.boot_len (pa_cons (pv 4) pa_nil))) (fun _ _ => rfl))) (pss_cons (ps_if (PW.pt (pw_and (pt_cmpR op_geU (pv 5) (pe_op op_powU pe_int pe_int) (nomark _)) (pw_and1 (pt_cmpR op_ltU (pv 3) (pe_callB ca_len rfl (G.free 3 _ rfl) PySem.boot_len (pa_cons (pv 4) pa_nil)) (nomark _))))) (pss_cons (ps_asg (pe_op op_fdivU (pv 5) (pv 1)) (pg_sub (pv 0) pe_int set_list)) (pss_one (ps_ret (pe_op op_modU (pe_callTy ca_int rfl (G.free 6 _ rfl) PyProof.Rows.boot_int (pa_cons (pv 5) pa_nil)) (pv 1))))) pss_nil) (pss_cons (ps_set S.nd (i := 6) rfl (Or.inl rfl) (pe_op op_modU (pe_callTy ca_int rfl (G.free 6 _ rfl) PyProof.Rows.boot_int (pa_cons (pe_op op_addU (pe_op op_addU (pe_op op_mulU (pe_ix ix_seq (pv 0) pe_int (fun _ _ => rfl)) pe_int) (pe_op op_mulU (pe_op op_addU (pv 5) (pv 3)) pe_int)) pe_int) pa_nil)) pe_int)) (pss_cons (ps_asg (pe_op op_addU (pe_op op_modU (pe_callTy ca_int rfl (G.free 6 _ rfl) PyProof.Rows.boot_int (pa_cons (pe_op op_addU (pe_op op_powU (pv 6) pe_int) (pv 3)) pa_nil)) pe_int) pe_int) (pg_sub (pv 0) pe_int set_list)) (pss_one (ps_ret (pe_op op_modU (pe_callTy ca_int rfl (G.free 6 _ rfl) PyProof.Rows.boot_int (pa_cons (pe_op op_fdivU (pv 6) pe_int) pa_nil)) (pv 1)))))))))))) :)
abbrev st__law_pick : Stmt := top 82
theorem S__law_pick : FnScope ["purse", "menu"] ["purse", "menu"] (defScope st__law_pick) := ⟨rfl, rfl, rfl, by decide +kernel, rfl, by decide +kernel, by decide +kernel⟩
def g__law_pick  : FS := (gRet (fOp ixD (fVar 1) (fCall [true, false] F__law_draw (faOwn 0 (faCons (fCB lenD (faCons (fVar 1) faNil)) faNil)))))
def F__law_pick : DF := bodyF 2 [true, false] g__law_pick
theorem w__law_pick (H0 : Hy K mg) : CalD P w K mg base 2 "_law_pick" (SpF K [true, false] F__law_pick) := by
  have G := H0.G
  have hC := H0.hC
  have hT := H0.hT
  have S := S__law_pick
  exact (cal_of (N := ["purse", "menu"]) (ms := [true, false]) (k := 1) (g := g__law_pick) H0.d__law_pick S rfl
    (ds_ret (de_op dr_ix (de_var 1) (de_call (da_own 0 (da_cons (de_cb crd_len (da_cons (de_var 1) da_nil)) da_nil)))))
    (fun cdv A outer s H E hr => (pss_one (ps_ret (pe_ix ix_seq (pv 1) (pe_cd (w__law_draw H0) hr (by decide) rfl (pa_cons (pv 0) (pa_cons (pe_callB ca_len rfl (G.free 3 _ rfl) PySem.boot_len (pa_cons (pv 1) pa_nil)) pa_nil))) (fun _ _ => rfl))))) :)
abbrev st__law_names : Stmt := top 83
theorem S__law_names : FnScope ["purse", "many", "signs", "start", "words", "wide", "head", "cut", "tail", "front", "back", "k"] ["purse", "many"] (defScope st__law_names) := ⟨rfl, rfl, rfl, by decide +kernel, rfl, by decide +kernel, by decide +kernel⟩
def g__law_names  : FS := (gSeq (gPar [2, 3] (fvVal (fC (.str "abcdefghijklmnopqrstuvwxyz0123456789")) (fvVal (fCall [true, false] F__law_draw (faOwn 0 (faCons (fC (.int (36))) faNil))) fvNil))) (gSeq (gAsg (fL (fLst (faCons (fC (.str "one")) (faCons (fC (.str "many")) (faCons (fC (.str "x")) (faCons (fC (.str "y")) (faCons (fC (.str "case")) (faCons (fC (.str "set")) (faCons (fC (.str "fields")) (faCons (fC (.str "all")) faNil)))))))))) (pName 4)) (gSeq (gIf (fBt (fOp eqD (fCall [true, false] F__law_draw (faOwn 0 (faCons (fC (.int (4))) faNil))) (fC (.int (0))))) (gRet (fL (fLc [11] (fRng1 (faCons (fVar 1) faNil)) (pName 11) fYes (fOp ixD (fVar 4) (fOp modD (fCB intD (faCons (fOp addD (fVar 3) (fOp mulD (fC (.int (3))) (fVar 11))) faNil)) (fC (.int (8)))))))) gNext) (gSeq (gAsg (fCall [true, false] F__law_draw (faOwn 0 (faCons (fC (.int (7))) faNil))) (pName 5)) (gSeq (gPar [6, 7, 8] (fvVal (fOp ixD (fVar 2) (fCall [true, false] F__law_draw (faOwn 0 (faCons (fC (.int (26))) faNil)))) (fvVal (fCall [true, false] F__law_draw (faOwn 0 (faCons (fOp addD (fVar 5) (fC (.int (1)))) faNil))) (fvVal (fOp ixD (fVar 2) (fCall [true, false] F__law_draw (faOwn 0 (faCons (fC (.int (36))) faNil)))) fvNil)))) (gSeq (gPar [9, 10] (fvVal (fOp addD (fVar 6) (fOp mulD (fVar 8) (fVar 7))) (fvVal (fOp mulD (fVar 8) (fOp subD (fVar 5) (fVar 7))) fvNil))) (gRet (fL (fLc [11] (fRng1 (faCons (fVar 1) faNil)) (pName 11) fYes (fOp addD (fOp addD (fVar 9) (fOp ixD (fVar 2) (fOp modD (fCB intD (faCons (fOp addD (fVar 3) (fOp mulD (fC (.int (5))) (fVar 11))) faNil)) (fC (.int (36)))))) (fVar 10)))))))))))
def F__law_names : DF := bodyF 12 [true, false] g__law_names
theorem w__law_names (H0 : Hy K mg) : CalD P w K mg base 2 "_law_names" (SpF K [true, false] F__law_names) := by
  have G := H0.G
  have hC := H0.hC
  have hT := H0.hT
  have S := S__law_names
  exact (cal_of (N := ["purse", "many", "signs", "start", "words", "wide", "head", "cut", "tail", "front", "back", "k"]) (ms := [true, false]) (k := 1) (g := g__law_names) H0.d__law_names S rfl
    (ds_seq (ds_parT (n := 2) [2, 3] rfl (by decide) (dv_val (de_str "abcdefghijklmnopqrstuvwxyz0123456789") (dv_val (de_call (da_own 0 (da_cons (de_int (36)) da_nil))) dv_nil))) (ds_seq (ds_asg (de_new (dn_lst (da_cons (de_str "one") (da_cons (de_str "many") (da_cons (de_str "x") (da_cons (de_str "y") (da_cons (de_str "case") (da_cons (de_str "set") (da_cons (de_str "fields") (da_cons (de_str "all") da_nil)))))))))) (dg_name 4)) (ds_seq (ds_if (dt_bl (de_op dr_eq (de_call (da_own 0 (da_cons (de_int (4)) da_nil))) (de_int (0)))) (ds_ret (de_new (dn_lc (vs := [11]) (di_rng1 (da_cons (de_var 1) da_nil)) (dg_name 11) (by decide) dt_yes (de_op dr_ix (de_var 4) (de_op dr_mod (de_cb crd_int (da_cons (de_op dr_add (de_var 3) (de_op dr_mul (de_int (3)) (de_var 11))) da_nil)) (de_int (8)))) (tame_name 11)))) ds_next) (ds_seq (ds_asg (de_call (da_own 0 (da_cons (de_int (7)) da_nil))) (dg_name 5)) (ds_seq (ds_par3 (dv_val (de_op dr_ix (de_var 2) (de_call (da_own 0 (da_cons (de_int (26)) da_nil)))) (dv_val (de_call (da_own 0 (da_cons (de_op dr_add (de_var 5) (de_int (1))) da_nil))) (dv_val (de_op dr_ix (de_var 2) (de_call (da_own 0 (da_cons (de_int (36)) da_nil)))) dv_nil)))) (ds_seq (ds_parT (n := 2) [9, 10] rfl (by decide) (dv_val (de_op dr_add (de_var 6) (de_op dr_mul (de_var 8) (de_var 7))) (dv_val (de_op dr_mul (de_var 8) (de_op dr_sub (de_var 5) (de_var 7))) dv_nil))) (ds_ret (de_new (dn_lc (vs := [11]) (di_rng1 (da_cons (de_var 1) da_nil)) (dg_name 11) (by decide) dt_yes (de_op dr_add (de_op dr_add (de_var 9) (de_op dr_ix (de_var 2) (de_op dr_mod (de_cb crd_int (da_cons (de_op dr_add (de_var 3) (de_op dr_mul (de_int (5)) (de_var 11))) da_nil)) (de_int (36))))) (de_var 10)) (tame_name 11))))))))))
    (fun cdv A outer s H E hr => (pss_cons (ps_asg (pe_tup (pa_cons pe_str (pa_cons (pe_cd (w__law_draw H0) hr (by decide) rfl (pa_cons (pv 0) (pa_cons pe_int pa_nil))) pa_nil))) (pg_tup (n := 2) rfl (pgs_cons (pg_name S.nd (i := 2) rfl (Or.inr rfl)) (pgs_cons (pg_name S.nd (i := 3) rfl (Or.inr rfl)) pgs_nil)))) (pss_cons (ps_set S.nd (i := 4) rfl (Or.inr rfl) (pe_lst (pa_cons pe_str (pa_cons pe_str (pa_cons pe_str (pa_cons pe_str (pa_cons pe_str (pa_cons pe_str (pa_cons pe_str (pa_cons pe_str pa_nil)))))))))) (pss_cons (ps_if (pt_cmpR (op_eqD hr.units) (pe_cd (w__law_draw H0) hr (by decide) rfl (pa_cons (pv 0) (pa_cons pe_int pa_nil))) pe_int (nomark _)) (pss_one (ps_ret (pe_lc (own := [("k", 11)]) rfl S.nd (pi_range1 rfl (G.free 11 _ rfl) (pa_cons (pv 1) pa_nil)) (blk_by (by kernel_rfl)) (fun _ _ _ _ _ => (pg_name S.nd (i := 11) rfl (Or.inl rfl))) (fun _ _ _ _ _ => pts_nil) (fun _ _ _ _ _ => (pe_ix ix_seq (pv 4) (pe_op op_modU (pe_callTy ca_int rfl (G.free 6 _ rfl) PyProof.Rows.boot_int (pa_cons (pe_op op_addU (pv 3) (pe_op op_mulU pe_int (pv 11))) pa_nil)) pe_int) (fun _ _ => rfl)))))) pss_nil) (pss_cons (ps_set S.nd (i := 5) rfl (Or.inl rfl) (pe_cd (w__law_draw H0) hr (by decide) rfl (pa_cons (pv 0) (pa_cons pe_int pa_nil)))) (pss_cons (ps_par3 (i := 6) (j := 7) (l := 8) rfl S.nd rfl rfl rfl (by decide) (by decide) (by decide) rfl rfl rfl (pa_cons (pe_ix ix_seq (pv 2) (pe_cd (w__law_draw H0) hr (by decide) rfl (pa_cons (pv 0) (pa_cons pe_int pa_nil))) (fun _ _ => rfl)) (pa_cons (pe_cd (w__law_draw H0) hr (by decide) rfl (pa_cons (pv 0) (pa_cons (pe_op op_addU (pv 5) pe_int) pa_nil))) (pa_cons (pe_ix ix_seq (pv 2) (pe_cd (w__law_draw H0) hr (by decide) rfl (pa_cons (pv 0) (pa_cons pe_int pa_nil))) (fun _ _ => rfl)) pa_nil))) rfl) (pss_cons (ps_asg (pe_tup (pa_cons (pe_op op_addU (pv 6) (pe_op op_mulU (pv 8) (pv 7))) (pa_cons (pe_op op_mulU (pv 8) (pe_op op_subU (pv 5) (pv 7))) pa_nil))) (pg_tup (n := 2) rfl (pgs_cons (pg_name S.nd (i := 9) rfl (Or.inr rfl)) (pgs_cons (pg_name S.nd (i := 10) rfl (Or.inr rfl)) pgs_nil)))) (pss_one (ps_ret (pe_lc (own := [("k", 11)]) rfl S.nd (pi_range1 rfl (G.free 11 _ rfl) (pa_cons (pv 1) pa_nil)) (blk_by (by kernel_rfl)) (fun _ _ _ _ _ => (pg_name S.nd (i := 11) rfl (Or.inl rfl))) (fun _ _ _ _ _ => pts_nil) (fun _ _ _ _ _ => (pe_op op_addU (pe_op op_addU (pv 9) (pe_ix ix_seq (pv 2) (pe_op op_modU (pe_callTy ca_int rfl (G.free 6 _ rfl) PyProof.Rows.boot_int (pa_cons (pe_op op_addU (pv 3) (pe_op op_mulU pe_int (pv 11))) pa_nil)) pe_int) (fun _ _ => rfl))) (pv 10))))))))))))) :)
abbrev st__law_form : Stmt := top 84
theorem S__law_form : FnScope ["purse", "words", "deep", "sign"] ["purse", "words", "deep"] (defScope st__law_form) := ⟨rfl, rfl, rfl, by decide +kernel, rfl, by decide +kernel, by decide +kernel⟩
def g__law_form (r__law_form : DF) : FS := (gSeq (gIf (ftOr (fBt (fOp eqD (fVar 2) (fC (.int (0))))) (fBt (fOp eqD (fCall [true, false] F__law_draw (faOwn 0 (faCons (fC (.int (3))) faNil))) (fC (.int (0)))))) (gRet (fCall [true, false] F__law_pick (faOwn 0 (faCons (fVar 1) faNil)))) gNext) (gSeq (gAsg (fOp ixD (fL (fLst (faCons (fC (.str "|")) (faCons (fC (.str "&")) (faCons (fC (.str "-")) (faCons (fC (.str "^")) (faCons (fC (.str "-")) faNil))))))) (fCall [true, false] F__law_draw (faOwn 0 (faCons (fC (.int (5))) faNil)))) (pName 3)) (gRet (fTup (faCons (fVar 3) (faCons (fCall [true, false, false] r__law_form (faOwn 0 (faCons (fVar 1) (faCons (fOp subD (fVar 2) (fC (.int (1)))) faNil)))) (faCons (fCall [true, false, false] r__law_form (faOwn 0 (faCons (fVar 1) (faCons (fOp subD (fVar 2) (fC (.int (1)))) faNil)))) faNil)))))))
def F__law_form : Nat → DF
  | 0 => fun _ => none
  | n + 1 => bodyF 4 [true, false, false] (g__law_form (F__law_form n))
theorem w__law_form (H0 : Hy K mg) : ∀ n : Nat, CalD P w K mg base (2 + n) "_law_form" (SpF K [true, false, false] (F__law_form n))
  | 0 => cal_none H0.d__law_form _
  | n + 1 => by
    have ih := w__law_form H0 n
    have G := H0.G
    have hC := H0.hC
    have hT := H0.hT
    have S := S__law_form
    exact (cal_of (N := ["purse", "words", "deep", "sign"]) (ms := [true, false, false]) (k := 2 + n) (g := g__law_form (F__law_form n)) H0.d__law_form S rfl
      (ds_seq (ds_if (dt_or (dt_bl (de_op dr_eq (de_var 2) (de_int (0)))) (dt_bl (de_op dr_eq (de_call (da_own 0 (da_cons (de_int (3)) da_nil))) (de_int (0))))) (ds_ret (de_call (da_own 0 (da_cons (de_var 1) da_nil)))) ds_next) (ds_seq (ds_asg (de_op dr_ix (de_new (dn_lst (da_cons (de_str "|") (da_cons (de_str "&") (da_cons (de_str "-") (da_cons (de_str "^") (da_cons (de_str "-") da_nil))))))) (de_call (da_own 0 (da_cons (de_int (5)) da_nil)))) (dg_name 3)) (ds_ret (de_tup (da_cons (de_var 3) (da_cons (de_call (da_own 0 (da_cons (de_var 1) (da_cons (de_op dr_sub (de_var 2) (de_int (1))) da_nil)))) (da_cons (de_call (da_own 0 (da_cons (de_var 1) (da_cons (de_op dr_sub (de_var 2) (de_int (1))) da_nil)))) da_nil)))))))
      (fun cdv A outer s H E hr => (pss_cons (ps_if (PW.pt (pw_or (pt_cmpR (op_eqD hr.units) (pv 2) pe_int (nomark _)) (pw_or1 (pt_cmpR (op_eqD hr.units) (pe_cd (w__law_draw H0) hr (by omega) rfl (pa_cons (pv 0) (pa_cons pe_int pa_nil))) pe_int (nomark _))))) (pss_one (ps_ret (pe_cd (w__law_pick H0) hr (by omega) rfl (pa_cons (pv 0) (pa_cons (pv 1) pa_nil))))) pss_nil) (pss_cons (ps_set S.nd (i := 3) rfl (Or.inl rfl) (pe_ix ix_seq (pe_lst (pa_cons pe_str (pa_cons pe_str (pa_cons pe_str (pa_cons pe_str (pa_cons pe_str pa_nil)))))) (pe_cd (w__law_draw H0) hr (by omega) rfl (pa_cons (pv 0) (pa_cons pe_int pa_nil))) (fun _ _ => rfl))) (pss_one (ps_ret (pe_tup (pa_cons (pv 3) (pa_cons (pe_cd ih hr (by omega) rfl (pa_cons (pv 0) (pa_cons (pv 1) (pa_cons (pe_op op_subU (pv 2) pe_int) pa_nil)))) (pa_cons (pe_cd ih hr (by omega) rfl (pa_cons (pv 0) (pa_cons (pv 1) (pa_cons (pe_op op_subU (pv 2) pe_int) pa_nil)))) pa_nil))))))))) :)
abbrev st__law_fact : Stmt := top 85
theorem S__law_fact : FnScope ["purse", "words"] ["purse", "words"] (defScope st__law_fact) := ⟨rfl, rfl, rfl, by decide +kernel, rfl, by decide +kernel, by decide +kernel⟩
def g__law_fact  : FS := (gSeq (gIf (fBt (fOp eqD (fCall [true, false] F__law_draw (faOwn 0 (faCons (fC (.int (3))) faNil))) (fC (.int (0))))) (gRet (fTup (faCons (fCall [true, false, false] (F__law_form 30) (faOwn 0 (faCons (fVar 1) (faCons (fC (.int (1))) faNil)))) (faCons (fC (.str "none")) faNil)))) gNext) (gRet (fTup (faCons (fCall [true, false, false] (F__law_form 30) (faOwn 0 (faCons (fVar 1) (faCons (fC (.int (1))) faNil)))) (faCons (fCall [true, false, false] (F__law_form 30) (faOwn 0 (faCons (fOp addD (fVar 1) (fL (fLst (faCons (fC (.str "none")) faNil)))) (faCons (fC (.int (1))) faNil)))) faNil)))))
def F__law_fact : DF := bodyF 2 [true, false] g__law_fact
theorem w__law_fact (H0 : Hy K mg) : CalD P w K mg base 33 "_law_fact" (SpF K [true, false] F__law_fact) := by
  have G := H0.G
  have hC := H0.hC
  have hT := H0.hT
  have S := S__law_fact
  exact (cal_of (N := ["purse", "words"]) (ms := [true, false]) (k := 32) (g := g__law_fact) H0.d__law_fact S rfl
    (ds_seq (ds_if (dt_bl (de_op dr_eq (de_call (da_own 0 (da_cons (de_int (3)) da_nil))) (de_int (0)))) (ds_ret (de_tup (da_cons (de_call (da_own 0 (da_cons (de_var 1) (da_cons (de_int (1)) da_nil)))) (da_cons (de_str "none") da_nil)))) ds_next) (ds_ret (de_tup (da_cons (de_call (da_own 0 (da_cons (de_var 1) (da_cons (de_int (1)) da_nil)))) (da_cons (de_call (da_own 0 (da_cons (de_op dr_add (de_var 1) (de_new (dn_lst (da_cons (de_str "none") da_nil)))) (da_cons (de_int (1)) da_nil)))) da_nil)))))
    (fun cdv A outer s H E hr => (pss_cons (ps_if (pt_cmpR (op_eqD hr.units) (pe_cd (w__law_draw H0) hr (by decide) rfl (pa_cons (pv 0) (pa_cons pe_int pa_nil))) pe_int (nomark _)) (pss_one (ps_ret (pe_tup (pa_cons (pe_cd (w__law_form H0 30) hr (by decide) rfl (pa_cons (pv 0) (pa_cons (pv 1) (pa_cons pe_int pa_nil)))) (pa_cons pe_str pa_nil))))) pss_nil) (pss_one (ps_ret (pe_tup (pa_cons (pe_cd (w__law_form H0 30) hr (by decide) rfl (pa_cons (pv 0) (pa_cons (pv 1) (pa_cons pe_int pa_nil)))) (pa_cons (pe_cd (w__law_form H0 30) hr (by decide) rfl (pa_cons (pv 0) (pa_cons (pe_op op_addU (pv 1) (pe_lst (pa_cons pe_str pa_nil))) (pa_cons pe_int pa_nil)))) pa_nil))))))) :)
abbrev st__law_update : Stmt := top 86
theorem S__law_update : FnScope ["purse", "slot", "fields", "words", "way", "near", "more", "menu"] ["purse", "slot", "fields", "words"] (defScope st__law_update) := ⟨rfl, rfl, rfl, by decide +kernel, rfl, by decide +kernel, by decide +kernel⟩
def g__law_update  : FS := (gSeq (gPar [4, 5] (fvVal (fCall [true, false] F__law_draw (faOwn 0 (faCons (fC (.int (6))) faNil))) (fvVal (fCall [true, false] F__law_pick (faOwn 0 (faCons (fVar 2) faNil))) fvNil))) (gSeq (gAsg (fIf (fBt (fOp inD (fC (.str "given")) (fVar 3))) (fC (.str "given")) (fVar 5)) (pName 6)) (gSeq (gAsg (fL (fLst (faCons (fTup (faCons (fC (.str "|")) (faCons (fVar 1) (faCons (fVar 6) faNil)))) (faCons (fTup (faCons (fC (.str "-")) (faCons (fVar 1) (faCons (fVar 6) faNil)))) (faCons (fTup (faCons (fC (.str "|")) (faCons (fVar 1) (faCons (fTup (faCons (fC (.str "&")) (faCons (fVar 5) (faCons (fVar 6) faNil)))) faNil)))) (faCons (fC (.str "none")) (faCons (fVar 5) faNil))))))) (pName 7)) (gRet (fTup (faCons (fVar 1) (faCons (fIf (fBt (fOp ltD (fVar 4) (fC (.int (5))))) (fOp ixD (fVar 7) (fVar 4)) (fCall [true, false, false] (F__law_form 30) (faOwn 0 (faCons (fOp addD (fVar 3) (fL (fLst (faCons (fC (.str "none")) faNil)))) (faCons (fC (.int (2))) faNil))))) faNil)))))))
def F__law_update : DF := bodyF 8 [true, false, false, false] g__law_update
theorem w__law_update (H0 : Hy K mg) : CalD P w K mg base 33 "_law_update" (SpF K [true, false, false, false] F__law_update) := by
  have G := H0.G
  have hC := H0.hC
  have hT := H0.hT
  have S := S__law_update
  exact (cal_of (N := ["purse", "slot", "fields", "words", "way", "near", "more", "menu"]) (ms := [true, false, false, false]) (k := 32) (g := g__law_update) H0.d__law_update S rfl
    (ds_seq (ds_par (dv_val (de_call (da_own 0 (da_cons (de_int (6)) da_nil))) (dv_val (de_call (da_own 0 (da_cons (de_var 2) da_nil))) dv_nil))) (ds_seq (ds_asg (de_if (dt_bl (de_op dr_in (de_str "given") (de_var 3))) (de_str "given") (de_var 5)) (dg_name 6)) (ds_seq (ds_asg (de_new (dn_lst (da_cons (de_tup (da_cons (de_str "|") (da_cons (de_var 1) (da_cons (de_var 6) da_nil)))) (da_cons (de_tup (da_cons (de_str "-") (da_cons (de_var 1) (da_cons (de_var 6) da_nil)))) (da_cons (de_tup (da_cons (de_str "|") (da_cons (de_var 1) (da_cons (de_tup (da_cons (de_str "&") (da_cons (de_var 5) (da_cons (de_var 6) da_nil)))) da_nil)))) (da_cons (de_str "none") (da_cons (de_var 5) da_nil))))))) (dg_name 7)) (ds_ret (de_tup (da_cons (de_var 1) (da_cons (de_if (dt_bl (de_op dr_lt (de_var 4) (de_int (5)))) (de_op dr_ix (de_var 7) (de_var 4)) (de_call (da_own 0 (da_cons (de_op dr_add (de_var 3) (de_new (dn_lst (da_cons (de_str "none") da_nil)))) (da_cons (de_int (2)) da_nil))))) da_nil)))))))
    (fun cdv A outer s H E hr => (pss_cons (ps_par (i := 4) (j := 5) rfl S.nd rfl rfl (by decide) rfl rfl (pa_cons (pe_cd (w__law_draw H0) hr (by decide) rfl (pa_cons (pv 0) (pa_cons pe_int pa_nil))) (pa_cons (pe_cd (w__law_pick H0) hr (by decide) rfl (pa_cons (pv 0) (pa_cons (pv 2) pa_nil))) pa_nil)) rfl) (pss_cons (ps_set S.nd (i := 6) rfl (Or.inl rfl) (pe_ifExp (pt_cmpR op_inU pe_str (pv 3) rfl) pe_str (pv 5))) (pss_cons (ps_set S.nd (i := 7) rfl (Or.inl rfl) (pe_lst (pa_cons (pe_tup (pa_cons pe_str (pa_cons (pv 1) (pa_cons (pv 6) pa_nil)))) (pa_cons (pe_tup (pa_cons pe_str (pa_cons (pv 1) (pa_cons (pv 6) pa_nil)))) (pa_cons (pe_tup (pa_cons pe_str (pa_cons (pv 1) (pa_cons (pe_tup (pa_cons pe_str (pa_cons (pv 5) (pa_cons (pv 6) pa_nil)))) pa_nil)))) (pa_cons pe_str (pa_cons (pv 5) pa_nil))))))) (pss_one (ps_ret (pe_tup (pa_cons (pv 1) (pa_cons (pe_ifExp (pt_cmpR op_ltU (pv 4) pe_int (nomark _)) (pe_ix ix_seq (pv 7) (pv 4) (fun _ _ => rfl)) (pe_cd (w__law_form H0 30) hr (by decide) rfl (pa_cons (pv 0) (pa_cons (pe_op op_addU (pv 3) (pe_lst (pa_cons pe_str pa_nil))) (pa_cons pe_int pa_nil))))) pa_nil))))))))) :)
abbrev st__law_case : Stmt := top 87
theorem S__law_case : FnScope ["purse", "sort", "mode", "fields", "modes", "words", "facts", "updates", "turn", "slot"] ["purse", "sort", "mode", "fields", "modes"] (defScope st__law_case) := ⟨rfl, rfl, rfl, by decide +kernel, rfl, by decide +kernel, by decide +kernel⟩
def g__law_case  : FS := (gSeq (gAsg (fOp addD (fL (fList (fVar 3))) (fOp mulD (fL (fLst (faCons (fC (.str "given")) faNil))) (fCB intD (faCons (fOp neD (fVar 1) (fC (.str "none"))) faNil)))) (pName 5)) (gSeq (gAsg (fCB tupD (faCons (fL (fLc [8] (fRng1 (faCons (fOp ixD (fL (fLst (faCons (fC (.int (0))) (faCons (fC (.int (0))) (faCons (fC (.int (1))) (faCons (fC (.int (1))) (faCons (fC (.int (2))) faNil))))))) (fCall [true, false] F__law_draw (faOwn 0 (faCons (fC (.int (5))) faNil)))) faNil)) (pName 8) fYes (fCall [true, false] F__law_fact (faOwn 0 (faCons (fVar 5) faNil))))) faNil)) (pName 6)) (gSeq (gAsg (fCB tupD (faCons (fL (fLc [9] (fIt (fVar 3)) (pName 9) (fBt (fOp eqD (fCall [true, false] F__law_draw (faOwn 0 (faCons (fC (.int (2))) faNil))) (fC (.int (0))))) (fCall [true, false, false, false] F__law_update (faOwn 0 (faCons (fVar 9) (faCons (fVar 3) (faCons (fVar 5) faNil))))))) faNil)) (pName 7)) (gRet (fTup (faCons (fVar 2) (faCons (fVar 6) (faCons (fVar 7) (faCons (fIf (fBt (fOp eqD (fVar 1) (fC (.str "one")))) (fVar 2) (fCall [true, false] F__law_pick (faOwn 0 (faCons (fVar 4) faNil)))) faNil)))))))))
def F__law_case : DF := bodyF 10 [true, false, false, false, false] g__law_case
theorem w__law_case (H0 : Hy K mg) : CalD P w K mg base 34 "_law_case" (SpF K [true, false, false, false, false] F__law_case) := by
  have G := H0.G
  have hC := H0.hC
  have hT := H0.hT
  have S := S__law_case
  exact (cal_of (N := ["purse", "sort", "mode", "fields", "modes", "words", "facts", "updates", "turn", "slot"]) (ms := [true, false, false, false, false]) (k := 33) (g := g__law_case) H0.d__law_case S rfl
    (ds_seq (ds_asg (de_op dr_add (de_new (dn_list (de_var 3))) (de_op dr_mul (de_new (dn_lst (da_cons (de_str "given") da_nil))) (de_cb crd_int (da_cons (de_op dr_ne (de_var 1) (de_str "none")) da_nil)))) (dg_name 5)) (ds_seq (ds_asg (de_cb crd_tuple (da_cons (de_new (dn_lc (vs := [8]) (di_rng1 (da_cons (de_op dr_ix (de_new (dn_lst (da_cons (de_int (0)) (da_cons (de_int (0)) (da_cons (de_int (1)) (da_cons (de_int (1)) (da_cons (de_int (2)) da_nil))))))) (de_call (da_own 0 (da_cons (de_int (5)) da_nil)))) da_nil)) (dg_name 8) (by decide) dt_yes (de_call (da_own 0 (da_cons (de_var 5) da_nil))) (tame_name 8))) da_nil)) (dg_name 6)) (ds_seq (ds_asg (de_cb crd_tuple (da_cons (de_new (dn_lc (vs := [9]) (di_sq (de_var 3)) (dg_name 9) (by decide) (dt_bl (de_op dr_eq (de_call (da_own 0 (da_cons (de_int (2)) da_nil))) (de_int (0)))) (de_call (da_own 0 (da_cons (de_var 9) (da_cons (de_var 3) (da_cons (de_var 5) da_nil))))) (tame_name 9))) da_nil)) (dg_name 7)) (ds_ret (de_tup (da_cons (de_var 2) (da_cons (de_var 6) (da_cons (de_var 7) (da_cons (de_if (dt_bl (de_op dr_eq (de_var 1) (de_str "one"))) (de_var 2) (de_call (da_own 0 (da_cons (de_var 4) da_nil)))) da_nil)))))))))
    (fun cdv A outer s H E hr => (pss_cons (ps_set S.nd (i := 5) rfl (Or.inr rfl) (pe_op op_addU (pe_callTy ca_list rfl (G.free 12 _ rfl) PyProof.Rows.boot_list (pa_cons (pv 3) pa_nil)) (pe_op op_mulU (pe_lst (pa_cons pe_str pa_nil)) (pe_callTy ca_int rfl (G.free 6 _ rfl) PyProof.Rows.boot_int (pa_cons (pe_cmpR (op_neD hr.units) (pv 1) pe_str (nomark _)) pa_nil))))) (pss_cons (ps_set S.nd (i := 6) rfl (Or.inl rfl) (pe_callTy ca_tuple rfl (G.free 4 _ rfl) PyProof.Rows.boot_tuple (pa_cons (pe_lc (own := [("turn", 8)]) rfl S.nd (pi_range1 rfl (G.free 11 _ rfl) (pa_cons (pe_ix ix_seq (pe_lst (pa_cons pe_int (pa_cons pe_int (pa_cons pe_int (pa_cons pe_int (pa_cons pe_int pa_nil)))))) (pe_cd (w__law_draw H0) hr (by decide) rfl (pa_cons (pv 0) (pa_cons pe_int pa_nil))) (fun _ _ => rfl)) pa_nil)) (blk_by (by kernel_rfl)) (fun _ _ _ _ _ => (pg_name S.nd (i := 8) rfl (Or.inl rfl))) (fun _ _ _ _ _ => pts_nil) (fun _ _ _ _ _ => (pe_cd (w__law_fact H0) hr (by decide) rfl (pa_cons (pv 0) (pa_cons (pv 5) pa_nil))))) pa_nil))) (pss_cons (ps_set S.nd (i := 7) rfl (Or.inl rfl) (pe_callTy ca_tuple rfl (G.free 4 _ rfl) PyProof.Rows.boot_tuple (pa_cons (pe_lc (own := [("slot", 9)]) rfl S.nd (pi_sq (pv 3)) (blk_by (by kernel_rfl)) (fun _ _ _ _ _ => (pg_name S.nd (i := 9) rfl (Or.inl rfl))) (fun _ _ _ _ _ => (pts_one (pt_cmpR (op_eqD hr.units) (pe_cd (w__law_draw H0) hr (by decide) rfl (pa_cons (pv 0) (pa_cons pe_int pa_nil))) pe_int (nomark _)))) (fun _ _ _ _ _ => (pe_cd (w__law_update H0) hr (by decide) rfl (pa_cons (pv 0) (pa_cons (pv 9) (pa_cons (pv 3) (pa_cons (pv 5) pa_nil))))))) pa_nil))) (pss_one (ps_ret (pe_tup (pa_cons (pv 2) (pa_cons (pv 6) (pa_cons (pv 7) (pa_cons (pe_ifExp (pt_cmpR (op_eqD hr.units) (pv 1) pe_str (nomark _)) (pv 2) (pe_cd (w__law_pick H0) hr (by decide) rfl (pa_cons (pv 0) (pa_cons (pv 4) pa_nil)))) pa_nil))))))))))) :)
abbrev st__law_menu : Stmt := top 88
theorem S__law_menu : FnScope ["purse", "fields", "modes", "calls", "name", "sort", "cases", "views", "mode"] ["purse"] (defScope st__law_menu) := ⟨rfl, rfl, rfl, by decide +kernel, rfl, by decide +kernel, by decide +kernel⟩
def g__law_menu  : FS := (gSeq (gPar [1, 2] (fvVal (fCall [true, false] F__law_names (faOwn 0 (faCons (fOp addD (fC (.int (1))) (fCall [true, false] F__law_draw (faOwn 0 (faCons (fC (.int (3))) faNil)))) faNil))) (fvVal (fCall [true, false] F__law_names (faOwn 0 (faCons (fOp addD (fC (.int (1))) (fCall [true, false] F__law_draw (faOwn 0 (faCons (fC (.int (3))) faNil)))) faNil))) fvNil))) (gSeq (gAsgN (fLst faNil) 3) (gSeq (gFor (fIt (fCall [true, false] F__law_names (faOwn 0 (faCons (fOp addD (fC (.int (2))) (fCall [true, false] F__law_draw (faOwn 0 (faCons (fC (.int (4))) faNil)))) faNil)))) (pName 4) (gSeq (gAsg (fCall [true, false] F__law_pick (faOwn 0 (faCons (fL (fLst (faCons (fC (.str "one")) (faCons (fC (.str "one")) (faCons (fC (.str "many")) (faCons (fC (.str "none")) faNil)))))) faNil))) (pName 5)) (gSeq (gAsg (fL (fLc [8] (fIt (fVar 2)) (pName 8) (fBt (fOp gtD (fCall [true, false] F__law_draw (faOwn 0 (faCons (fC (.int (4))) faNil))) (fC (.int (0))))) (fCall [true, false, false, false, false] F__law_case (faOwn 0 (faCons (fVar 5) (faCons (fVar 8) (faCons (fVar 1) (faCons (fVar 2) faNil)))))))) (pName 6)) (gApp 3 (fTup (faCons (fVar 4) (faCons (fVar 5) (faCons (fCB tupD (faCons (fVar 6) faNil)) faNil)))))))) (gSeq (gAsgN (fLst faNil) 7) (gSeq (gFor (fIt (fCall [true, false] F__law_names (faOwn 0 (faCons (fCall [true, false] F__law_draw (faOwn 0 (faCons (fC (.int (3))) faNil))) faNil)))) (pName 4) (gApp 7 (fTup (faCons (fVar 4) (faCons (fCB tupD (faCons (fL (fLc [8] (fIt (fVar 2)) (pName 8) fYes (fCall [true, false, false] (F__law_form 30) (faOwn 0 (faCons (fOp addD (fVar 1) (fL (fLst (faCons (fC (.str "none")) faNil)))) (faCons (fC (.int (1))) faNil)))))) faNil)) faNil))))) (gRet (fTup (faCons (fCB tupD (faCons (fVar 1) faNil)) (faCons (fCB tupD (faCons (fVar 2) faNil)) (faCons (fCB tupD (faCons (fVar 3) faNil)) (faCons (fCB tupD (faCons (fVar 7) faNil)) faNil)))))))))))
def F__law_menu : DF := bodyF 9 [true] g__law_menu
theorem w__law_menu (H0 : Hy K mg) : CalD P w K mg base 35 "_law_menu" (SpF K [true] F__law_menu) := by
  have G := H0.G
  have hC := H0.hC
  have hT := H0.hT
  have S := S__law_menu
  exact (cal_of (N := ["purse", "fields", "modes", "calls", "name", "sort", "cases", "views", "mode"]) (ms := [true]) (k := 34) (g := g__law_menu) H0.d__law_menu S rfl
    (ds_seq (ds_parT (n := 2) [1, 2] rfl (by decide) (dv_val (de_call (da_own 0 (da_cons (de_op dr_add (de_int (1)) (de_call (da_own 0 (da_cons (de_int (3)) da_nil)))) da_nil))) (dv_val (de_call (da_own 0 (da_cons (de_op dr_add (de_int (1)) (de_call (da_own 0 (da_cons (de_int (3)) da_nil)))) da_nil))) dv_nil))) (ds_seq (ds_asgN (dn_lst da_nil) 3) (ds_seq (ds_for (di_sq (de_call (da_own 0 (da_cons (de_op dr_add (de_int (2)) (de_call (da_own 0 (da_cons (de_int (4)) da_nil)))) da_nil)))) (dg_name 4) (ds_seq (ds_asg (de_call (da_own 0 (da_cons (de_new (dn_lst (da_cons (de_str "one") (da_cons (de_str "one") (da_cons (de_str "many") (da_cons (de_str "none") da_nil)))))) da_nil))) (dg_name 5)) (ds_seq (ds_asg (de_new (dn_lc (vs := [8]) (di_sq (de_var 2)) (dg_name 8) (by decide) (dt_bl (de_op dr_gt (de_call (da_own 0 (da_cons (de_int (4)) da_nil))) (de_int (0)))) (de_call (da_own 0 (da_cons (de_var 5) (da_cons (de_var 8) (da_cons (de_var 1) (da_cons (de_var 2) da_nil)))))) (tame_name 8))) (dg_name 6)) (ds_app 3 (de_tup (da_cons (de_var 4) (da_cons (de_var 5) (da_cons (de_cb crd_tuple (da_cons (de_var 6) da_nil)) da_nil)))))))) (ds_seq (ds_asgN (dn_lst da_nil) 7) (ds_seq (ds_for (di_sq (de_call (da_own 0 (da_cons (de_call (da_own 0 (da_cons (de_int (3)) da_nil))) da_nil)))) (dg_name 4) (ds_app 7 (de_tup (da_cons (de_var 4) (da_cons (de_cb crd_tuple (da_cons (de_new (dn_lc (vs := [8]) (di_sq (de_var 2)) (dg_name 8) (by decide) dt_yes (de_call (da_own 0 (da_cons (de_op dr_add (de_var 1) (de_new (dn_lst (da_cons (de_str "none") da_nil)))) (da_cons (de_int (1)) da_nil)))) (tame_name 8))) da_nil)) da_nil))))) (ds_ret (de_tup (da_cons (de_cb crd_tuple (da_cons (de_var 1) da_nil)) (da_cons (de_cb crd_tuple (da_cons (de_var 2) da_nil)) (da_cons (de_cb crd_tuple (da_cons (de_var 3) da_nil)) (da_cons (de_cb crd_tuple (da_cons (de_var 7) da_nil)) da_nil)))))))))))
    (fun cdv A outer s H E hr => (pss_cons (ps_asg (pe_tup (pa_cons (pe_cd (w__law_names H0) hr (by decide) rfl (pa_cons (pv 0) (pa_cons (pe_op op_addU pe_int (pe_cd (w__law_draw H0) hr (by decide) rfl (pa_cons (pv 0) (pa_cons pe_int pa_nil)))) pa_nil))) (pa_cons (pe_cd (w__law_names H0) hr (by decide) rfl (pa_cons (pv 0) (pa_cons (pe_op op_addU pe_int (pe_cd (w__law_draw H0) hr (by decide) rfl (pa_cons (pv 0) (pa_cons pe_int pa_nil)))) pa_nil))) pa_nil))) (pg_tup (n := 2) rfl (pgs_cons (pg_name S.nd (i := 1) rfl (Or.inr rfl)) (pgs_cons (pg_name S.nd (i := 2) rfl (Or.inr rfl)) pgs_nil)))) (pss_cons (ps_set S.nd (i := 3) rfl (Or.inl rfl) (pe_lst pa_nil)) (pss_cons (ps_for PassesOwn.never rfl (pi_sq (pe_cd (w__law_names H0) hr (by decide) rfl (pa_cons (pv 0) (pa_cons (pe_op op_addU pe_int (pe_cd (w__law_draw H0) hr (by decide) rfl (pa_cons (pv 0) (pa_cons pe_int pa_nil)))) pa_nil)))) (pg_name S.nd (i := 4) rfl (Or.inl rfl)) (pss_cons (ps_set S.nd (i := 5) rfl (Or.inr rfl) (pe_cd (w__law_pick H0) hr (by decide) rfl (pa_cons (pv 0) (pa_cons (pe_lst (pa_cons pe_str (pa_cons pe_str (pa_cons pe_str (pa_cons pe_str pa_nil))))) pa_nil)))) (pss_cons (ps_setLc (own := [("mode", 8)]) rfl S.nd (i := 6) rfl rfl rfl (pi_sq (pv 2)) (blk_by (by kernel_rfl)) (fun _ _ _ _ _ => (pg_name S.nd (i := 8) rfl (Or.inl rfl))) (fun _ _ _ _ _ => (pts_one (pt_cmpR op_gtU (pe_cd (w__law_draw H0) hr (by decide) rfl (pa_cons (pv 0) (pa_cons pe_int pa_nil))) pe_int (nomark _)))) (fun _ _ _ _ _ => (pe_cd (w__law_case H0) hr (by decide) rfl (pa_cons (pv 0) (pa_cons (pv 5) (pa_cons (pv 8) (pa_cons (pv 1) (pa_cons (pv 2) pa_nil)))))))) (pss_one (ps_expr (pe_bm F.plainAttrs_list PySem.F.slot_list_append PySem.F.type_list_append mt_append (pv 3) (pa_cons (pe_tup (pa_cons (pv 4) (pa_cons (pv 5) (pa_cons (pe_callTy ca_tuple rfl (G.free 4 _ rfl) PyProof.Rows.boot_tuple (pa_cons (pv 6) pa_nil)) pa_nil)))) pa_nil))))))) (pss_cons (ps_set S.nd (i := 7) rfl (Or.inl rfl) (pe_lst pa_nil)) (pss_cons (ps_for PassesOwn.never rfl (pi_sq (pe_cd (w__law_names H0) hr (by decide) rfl (pa_cons (pv 0) (pa_cons (pe_cd (w__law_draw H0) hr (by decide) rfl (pa_cons (pv 0) (pa_cons pe_int pa_nil))) pa_nil)))) (pg_name S.nd (i := 4) rfl (Or.inl rfl)) (pss_one (ps_expr (pe_bm F.plainAttrs_list PySem.F.slot_list_append PySem.F.type_list_append mt_append (pv 7) (pa_cons (pe_tup (pa_cons (pv 4) (pa_cons (pe_callTy ca_tuple rfl (G.free 4 _ rfl) PyProof.Rows.boot_tuple (pa_cons (pe_lc (own := [("mode", 8)]) rfl S.nd (pi_sq (pv 2)) (blk_by (by kernel_rfl)) (fun _ _ _ _ _ => (pg_name S.nd (i := 8) rfl (Or.inl rfl))) (fun _ _ _ _ _ => pts_nil) (fun _ _ _ _ _ => (pe_cd (w__law_form H0 30) hr (by decide) rfl (pa_cons (pv 0) (pa_cons (pe_op op_addU (pv 1) (pe_lst (pa_cons pe_str pa_nil))) (pa_cons pe_int pa_nil)))))) pa_nil)) pa_nil))) pa_nil))))) (pss_one (ps_ret (pe_tup (pa_cons (pe_callTy ca_tuple rfl (G.free 4 _ rfl) PyProof.Rows.boot_tuple (pa_cons (pv 1) pa_nil)) (pa_cons (pe_callTy ca_tuple rfl (G.free 4 _ rfl) PyProof.Rows.boot_tuple (pa_cons (pv 2) pa_nil)) (pa_cons (pe_callTy ca_tuple rfl (G.free 4 _ rfl) PyProof.Rows.boot_tuple (pa_cons (pv 3) pa_nil)) (pa_cons (pe_callTy ca_tuple rfl (G.free 4 _ rfl) PyProof.Rows.boot_tuple (pa_cons (pv 7) pa_nil)) pa_nil))))))))))))) :)
abbrev st__law_design : Stmt := top 89
theorem S__law_design : FnScope ["menu"] ["menu"] (defScope st__law_design) := ⟨rfl, rfl, rfl, by decide +kernel, rfl, by decide +kernel, by decide +kernel⟩
def g__law_design  : FS := (gRet (fMake "Design" F_Design_init (faCons (fOp ixD (fVar 0) (fC (.int (0)))) (faCons (fOp ixD (fVar 0) (fC (.int (1)))) (faCons (fOp ixD (fVar 0) (fC (.int (2)))) (faCons (fOp ixD (fVar 0) (fC (.int (3)))) faNil))))))
def F__law_design : DF := bodyF 1 [false] g__law_design
theorem w__law_design (H0 : Hy K mg) : CalD P w K mg base 39 "_law_design" (SpF K [false] F__law_design) := by
  have G := H0.G
  have hC := H0.hC
  have hT := H0.hT
  have S := S__law_design
  exact (cal_of (N := ["menu"]) (ms := [false]) (k := 38) (g := g__law_design) H0.d__law_design S rfl
    (ds_ret (de_make (n := 4) (fun ds r h => by have h2 := bodyF_len (ms := [true, false, false, false, false]) h; simpa using h2) (da_cons (de_op dr_ix (de_var 0) (de_int (0))) (da_cons (de_op dr_ix (de_var 0) (de_int (1))) (da_cons (de_op dr_ix (de_var 0) (de_int (2))) (da_cons (de_op dr_ix (de_var 0) (de_int (3))) da_nil))))))
    (fun cdv A outer s H E hr => (pss_one (ps_ret (pe_mkd (w_Design_init H0) hr (by decide) rfl (pa_cons (pe_ix ix_seq (pv 0) pe_int (fun _ _ => rfl)) (pa_cons (pe_ix ix_seq (pv 0) pe_int (fun _ _ => rfl)) (pa_cons (pe_ix ix_seq (pv 0) pe_int (fun _ _ => rfl)) (pa_cons (pe_ix ix_seq (pv 0) pe_int (fun _ _ => rfl)) pa_nil)))))))) :)
abbrev st__law_second : Stmt := top 90
theorem S__law_second : FnScope ["purse", "menu", "fields", "call", "mode", "calls", "known", "fresh", "cases", "taken", "views", "name", "each", "view"] ["purse", "menu"] (defScope st__law_second) := ⟨rfl, rfl, rfl, by decide +kernel, rfl, by decide +kernel, by decide +kernel⟩
def g__law_second  : FS := (gSeq (gAsg (fL (fLc [11] (fIt (fCall [true, false] F__law_names (faOwn 0 (faCons (fOp addD (fC (.int (1))) (fCall [true, false] F__law_draw (faOwn 0 (faCons (fC (.int (2))) faNil)))) faNil)))) (pName 11) (fBt (fOp ninD (fVar 11) (fOp ixD (fVar 1) (fC (.int (0)))))) (fVar 11))) (pName 2)) (gSeq (gIf (fBt (fOp eqD (fVar 2) (fL (fLst faNil)))) (gAsg (fAlt (fSl cutD (fL (fLc [11] (fIt (fL (fLst (faCons (fC (.str "u1")) (faCons (fC (.str "u2")) (faCons (fC (.str "u3")) (faCons (fC (.str "u4")) faNil))))))) (pName 11) (fBt (fOp ninD (fVar 11) (fOp ixD (fVar 1) (fC (.int (0)))))) (fVar 11))) fNoPart (fPart (fC (.int (1))))) (fL (fSlL (fL (fLc [11] (fIt (fL (fLst (faCons (fC (.str "u1")) (faCons (fC (.str "u2")) (faCons (fC (.str "u3")) (faCons (fC (.str "u4")) faNil))))))) (pName 11) (fBt (fOp ninD (fVar 11) (fOp ixD (fVar 1) (fC (.int (0)))))) (fVar 11))) fNoPart (fPart (fC (.int (1))))))) (pName 2)) gNext) (gSeq (gPar [4, 5, 6] (fvVal (fOp ixD (fCall [true, false] F__law_names (faOwn 0 (faCons (fC (.int (1))) faNil))) (fC (.int (0)))) (fvNew (fLst faNil) (fvVal (fL (fLc [3] (fIt (fOp ixD (fVar 1) (fC (.int (2))))) (pName 3) fYes (fOp ixD (fVar 3) (fC (.int (0)))))) fvNil)))) (gSeq (gAsg (fL (fLc [3] (fIt (fL (fLst (faCons (fTup (faCons (fC (.str "w1")) (faCons (fC (.str "one")) (faCons (fTup faNil) faNil)))) (faCons (fTup (faCons (fC (.str "w2")) (faCons (fC (.str "many")) (faCons (fTup faNil) faNil)))) (faCons (fTup (faCons (fC (.str "w3")) (faCons (fC (.str "none")) (faCons (fTup faNil) faNil)))) faNil)))))) (pName 3) (fBt (fOp ninD (fOp ixD (fVar 3) (fC (.int (0)))) (fVar 6))) (fVar 3))) (pName 7)) (gSeq (gFor (fIt (fOp addD (fL (fList (fOp ixD (fVar 1) (fC (.int (2)))))) (fVar 7))) (pName 3) (gIf (ftAnd (fBt (fOp eqD (fCall [true, false] F__law_draw (faOwn 0 (faCons (fC (.int (2))) faNil))) (fC (.int (0))))) (fBt (fOp ninD (fOp ixD (fVar 3) (fC (.int (0)))) (fL (fLcB [12] 5 (pName 12) fYes (fOp ixD (fVar 12) (fC (.int (0))))))))) (gSeq (gAsg (fIf (fBt (fOp gtD (fCall [true, false] F__law_draw (faOwn 0 (faCons (fC (.int (6))) faNil))) (fC (.int (0))))) (fL (fLst (faCons (fCall [true, false, false, false, false] F__law_case (faOwn 0 (faCons (fOp ixD (fVar 3) (fC (.int (1)))) (faCons (fVar 4) (faCons (fVar 2) (faCons (fL (fLst (faCons (fVar 4) faNil))) faNil)))))) faNil))) (fL (fLst faNil))) (pName 8)) (gApp 5 (fTup (faCons (fOp ixD (fVar 3) (fC (.int (0)))) (faCons (fOp ixD (fVar 3) (fC (.int (1)))) (faCons (fCB tupD (faCons (fVar 8) faNil)) faNil)))))) gNext)) (gSeq (gAsg (fL (fLc [13] (fIt (fOp ixD (fVar 1) (fC (.int (3))))) (pName 13) fYes (fOp ixD (fVar 13) (fC (.int (0)))))) (pName 9)) (gSeq (gAsg (fL (fLc [11] (fIt (fL (fLst (faCons (fC (.str "seen")) (faCons (fC (.str "v2")) faNil))))) (pName 11) (fBt (fOp ninD (fVar 11) (fVar 9))) (fTup (faCons (fVar 11) (faCons (fTup (faCons (fCall [true, false, false] (F__law_form 30) (faOwn 0 (faCons (fVar 2) (faCons (fC (.int (1))) faNil)))) faNil)) faNil))))) (pName 10)) (gRet (fTup (faCons (fCB tupD (faCons (fVar 2) faNil)) (faCons (fTup (faCons (fVar 4) faNil)) (faCons (fCB tupD (faCons (fVar 5) faNil)) (faCons (fCB tupD (faCons (fAlt (fSl cutD (fVar 10) fNoPart (fPart (fCall [true, false] F__law_draw (faOwn 0 (faCons (fC (.int (3))) faNil))))) (fL (fSlL (fVar 10) fNoPart (fPart (fCall [true, false] F__law_draw (faOwn 0 (faCons (fC (.int (3))) faNil))))))) faNil)) faNil)))))))))))))
def F__law_second : DF := bodyF 14 [true, false] g__law_second
theorem w__law_second (H0 : Hy K mg) : CalD P w K mg base 35 "_law_second" (SpF K [true, false] F__law_second) := by
  have G := H0.G
  have hC := H0.hC
  have hT := H0.hT
  have S := S__law_second
  exact (cal_of (N := ["purse", "menu", "fields", "call", "mode", "calls", "known", "fresh", "cases", "taken", "views", "name", "each", "view"]) (ms := [true, false]) (k := 34) (g := g__law_second) H0.d__law_second S rfl
    (ds_seq (ds_asg (de_new (dn_lc (vs := [11]) (di_sq (de_call (da_own 0 (da_cons (de_op dr_add (de_int (1)) (de_call (da_own 0 (da_cons (de_int (2)) da_nil)))) da_nil)))) (dg_name 11) (by decide) (dt_bl (de_op dr_nin (de_var 11) (de_op dr_ix (de_var 1) (de_int (0))))) (de_var 11) (tame_name 11))) (dg_name 2)) (ds_seq (ds_if (dt_bl (de_op dr_eq (de_var 2) (de_new (dn_lst da_nil)))) (ds_asg (de_alt (de_sl (de_new (dn_lc (vs := [11]) (di_sq (de_new (dn_lst (da_cons (de_str "u1") (da_cons (de_str "u2") (da_cons (de_str "u3") (da_cons (de_str "u4") da_nil))))))) (dg_name 11) (by decide) (dt_bl (de_op dr_nin (de_var 11) (de_op dr_ix (de_var 1) (de_int (0))))) (de_var 11) (tame_name 11))) do_none (do_some (de_int (1)))) (de_new (dn_slL (de_new (dn_lc (vs := [11]) (di_sq (de_new (dn_lst (da_cons (de_str "u1") (da_cons (de_str "u2") (da_cons (de_str "u3") (da_cons (de_str "u4") da_nil))))))) (dg_name 11) (by decide) (dt_bl (de_op dr_nin (de_var 11) (de_op dr_ix (de_var 1) (de_int (0))))) (de_var 11) (tame_name 11))) do_none (do_some (de_int (1)))))) (dg_name 2)) ds_next) (ds_seq (ds_parT (n := 3) [4, 5, 6] rfl (by decide) (dv_val (de_op dr_ix (de_call (da_own 0 (da_cons (de_int (1)) da_nil))) (de_int (0))) (dv_new (dn_lst da_nil) (dv_val (de_new (dn_lc (vs := [3]) (di_sq (de_op dr_ix (de_var 1) (de_int (2)))) (dg_name 3) (by decide) dt_yes (de_op dr_ix (de_var 3) (de_int (0))) (tame_name 3))) dv_nil)))) (ds_seq (ds_asg (de_new (dn_lc (vs := [3]) (di_sq (de_new (dn_lst (da_cons (de_tup (da_cons (de_str "w1") (da_cons (de_str "one") (da_cons (de_tup da_nil) da_nil)))) (da_cons (de_tup (da_cons (de_str "w2") (da_cons (de_str "many") (da_cons (de_tup da_nil) da_nil)))) (da_cons (de_tup (da_cons (de_str "w3") (da_cons (de_str "none") (da_cons (de_tup da_nil) da_nil)))) da_nil)))))) (dg_name 3) (by decide) (dt_bl (de_op dr_nin (de_op dr_ix (de_var 3) (de_int (0))) (de_var 6))) (de_var 3) (tame_name 3))) (dg_name 7)) (ds_seq (ds_for (di_sq (de_op dr_add (de_new (dn_list (de_op dr_ix (de_var 1) (de_int (2))))) (de_var 7))) (dg_name 3) (ds_if (dt_and (dt_bl (de_op dr_eq (de_call (da_own 0 (da_cons (de_int (2)) da_nil))) (de_int (0)))) (dt_bl (de_op dr_nin (de_op dr_ix (de_var 3) (de_int (0))) (de_new (dn_lcB (vs := [12]) 5 (dg_name 12) (by decide) dt_yes (de_op dr_ix (de_var 12) (de_int (0))) (tame_name 12)))))) (ds_seq (ds_asg (de_if (dt_bl (de_op dr_gt (de_call (da_own 0 (da_cons (de_int (6)) da_nil))) (de_int (0)))) (de_new (dn_lst (da_cons (de_call (da_own 0 (da_cons (de_op dr_ix (de_var 3) (de_int (1))) (da_cons (de_var 4) (da_cons (de_var 2) (da_cons (de_new (dn_lst (da_cons (de_var 4) da_nil))) da_nil)))))) da_nil))) (de_new (dn_lst da_nil))) (dg_name 8)) (ds_app 5 (de_tup (da_cons (de_op dr_ix (de_var 3) (de_int (0))) (da_cons (de_op dr_ix (de_var 3) (de_int (1))) (da_cons (de_cb crd_tuple (da_cons (de_var 8) da_nil)) da_nil)))))) ds_next)) (ds_seq (ds_asg (de_new (dn_lc (vs := [13]) (di_sq (de_op dr_ix (de_var 1) (de_int (3)))) (dg_name 13) (by decide) dt_yes (de_op dr_ix (de_var 13) (de_int (0))) (tame_name 13))) (dg_name 9)) (ds_seq (ds_asg (de_new (dn_lc (vs := [11]) (di_sq (de_new (dn_lst (da_cons (de_str "seen") (da_cons (de_str "v2") da_nil))))) (dg_name 11) (by decide) (dt_bl (de_op dr_nin (de_var 11) (de_var 9))) (de_tup (da_cons (de_var 11) (da_cons (de_tup (da_cons (de_call (da_own 0 (da_cons (de_var 2) (da_cons (de_int (1)) da_nil)))) da_nil)) da_nil))) (tame_name 11))) (dg_name 10)) (ds_ret (de_tup (da_cons (de_cb crd_tuple (da_cons (de_var 2) da_nil)) (da_cons (de_tup (da_cons (de_var 4) da_nil)) (da_cons (de_cb crd_tuple (da_cons (de_var 5) da_nil)) (da_cons (de_cb crd_tuple (da_cons (de_alt (de_sl (de_var 10) do_none (do_some (de_call (da_own 0 (da_cons (de_int (3)) da_nil))))) (de_new (dn_slL (de_var 10) do_none (do_some (de_call (da_own 0 (da_cons (de_int (3)) da_nil))))))) da_nil)) da_nil)))))))))))))
    (fun cdv A outer s H E hr => (pss_cons (ps_set S.nd (i := 2) rfl (Or.inr rfl) (pe_lc (own := [("name", 11)]) rfl S.nd (pi_sq (pe_cd (w__law_names H0) hr (by decide) rfl (pa_cons (pv 0) (pa_cons (pe_op op_addU pe_int (pe_cd (w__law_draw H0) hr (by decide) rfl (pa_cons (pv 0) (pa_cons pe_int pa_nil)))) pa_nil)))) (blk_by (by kernel_rfl)) (fun _ _ _ _ _ => (pg_name S.nd (i := 11) rfl (Or.inl rfl))) (fun _ _ _ _ _ => (pts_one (pt_cmpR op_ninU (pv 11) (pe_ix ix_seq (pv 1) pe_int (fun _ _ => rfl)) rfl))) (fun _ _ _ _ _ => (pv 11)))) (pss_cons (ps_if (pt_cmpR (op_eqD hr.units) (pv 2) (pe_lst pa_nil) (nomark _)) (pss_one (ps_set S.nd (i := 2) rfl (Or.inr rfl) (pe_alt (pe_slice sl_U (pe_lc (own := [("name", 11)]) rfl S.nd (pi_sq (pe_lst (pa_cons pe_str (pa_cons pe_str (pa_cons pe_str (pa_cons pe_str pa_nil)))))) (blk_by (by kernel_rfl)) (fun _ _ _ _ _ => (pg_name S.nd (i := 11) rfl (Or.inl rfl))) (fun _ _ _ _ _ => (pts_one (pt_cmpR op_ninU (pv 11) (pe_ix ix_seq (pv 1) pe_int (fun _ _ => rfl)) rfl))) (fun _ _ _ _ _ => (pv 11))) po_none (po_some pe_int)) (pe_slice sl_list (pe_lc (own := [("name", 11)]) rfl S.nd (pi_sq (pe_lst (pa_cons pe_str (pa_cons pe_str (pa_cons pe_str (pa_cons pe_str pa_nil)))))) (blk_by (by kernel_rfl)) (fun _ _ _ _ _ => (pg_name S.nd (i := 11) rfl (Or.inl rfl))) (fun _ _ _ _ _ => (pts_one (pt_cmpR op_ninU (pv 11) (pe_ix ix_seq (pv 1) pe_int (fun _ _ => rfl)) rfl))) (fun _ _ _ _ _ => (pv 11))) po_none (po_some pe_int))))) pss_nil) (pss_cons (ps_asg (pe_tup (pa_cons (pe_ix ix_seq (pe_cd (w__law_names H0) hr (by decide) rfl (pa_cons (pv 0) (pa_cons pe_int pa_nil))) pe_int (fun _ _ => rfl)) (pa_cons (pe_lst pa_nil) (pa_cons (pe_lc (own := [("call", 3)]) rfl S.nd (pi_sq (pe_ix ix_seq (pv 1) pe_int (fun _ _ => rfl))) (blk_by (by kernel_rfl)) (fun _ _ _ _ _ => (pg_name S.nd (i := 3) rfl (Or.inl rfl))) (fun _ _ _ _ _ => pts_nil) (fun _ _ _ _ _ => (pe_ix ix_seq (pv 3) pe_int (fun _ _ => rfl)))) pa_nil)))) (pg_tup (n := 3) rfl (pgs_cons (pg_name S.nd (i := 4) rfl (Or.inl rfl)) (pgs_cons (pg_name S.nd (i := 5) rfl (Or.inl rfl)) (pgs_cons (pg_name S.nd (i := 6) rfl (Or.inr rfl)) pgs_nil))))) (pss_cons (ps_setLc (own := [("call", 3)]) rfl S.nd (i := 7) rfl rfl rfl (pi_sq (pe_lst (pa_cons (pe_tup (pa_cons pe_str (pa_cons pe_str (pa_cons (pe_tup pa_nil) pa_nil)))) (pa_cons (pe_tup (pa_cons pe_str (pa_cons pe_str (pa_cons (pe_tup pa_nil) pa_nil)))) (pa_cons (pe_tup (pa_cons pe_str (pa_cons pe_str (pa_cons (pe_tup pa_nil) pa_nil)))) pa_nil))))) (blk_by (by kernel_rfl)) (fun _ _ _ _ _ => (pg_name S.nd (i := 3) rfl (Or.inl rfl))) (fun _ _ _ _ _ => (pts_one (pt_cmpR op_ninU (pe_ix ix_seq (pv 3) pe_int (fun _ _ => rfl)) (pv 6) rfl))) (fun _ _ _ _ _ => (pv 3))) (pss_cons (ps_for PassesOwn.never rfl (pi_sq (pe_op op_addU (pe_callTy ca_list rfl (G.free 12 _ rfl) PyProof.Rows.boot_list (pa_cons (pe_ix ix_seq (pv 1) pe_int (fun _ _ => rfl)) pa_nil)) (pv 7))) (pg_name S.nd (i := 3) rfl (Or.inl rfl)) (pss_one (ps_if (PW.pt (pw_and (pt_cmpR (op_eqD hr.units) (pe_cd (w__law_draw H0) hr (by decide) rfl (pa_cons (pv 0) (pa_cons pe_int pa_nil))) pe_int (nomark _)) (pw_and1 (pt_cmpR op_ninU (pe_ix ix_seq (pv 3) pe_int (fun _ _ => rfl)) (pe_lc (own := [("each", 12)]) rfl S.nd (pi_sq (pv 5)) (blk_by (by kernel_rfl)) (fun _ _ _ _ _ => (pg_name S.nd (i := 12) rfl (Or.inl rfl))) (fun _ _ _ _ _ => pts_nil) (fun _ _ _ _ _ => (pe_ix ix_seq (pv 12) pe_int (fun _ _ => rfl)))) rfl)))) (pss_cons (ps_set S.nd (i := 8) rfl (Or.inl rfl) (pe_ifExp (pt_cmpR op_gtU (pe_cd (w__law_draw H0) hr (by decide) rfl (pa_cons (pv 0) (pa_cons pe_int pa_nil))) pe_int (nomark _)) (pe_lst (pa_cons (pe_cd (w__law_case H0) hr (by decide) rfl (pa_cons (pv 0) (pa_cons (pe_ix ix_seq (pv 3) pe_int (fun _ _ => rfl)) (pa_cons (pv 4) (pa_cons (pv 2) (pa_cons (pe_lst (pa_cons (pv 4) pa_nil)) pa_nil)))))) pa_nil)) (pe_lst pa_nil))) (pss_one (ps_expr (pe_bm F.plainAttrs_list PySem.F.slot_list_append PySem.F.type_list_append mt_append (pv 5) (pa_cons (pe_tup (pa_cons (pe_ix ix_seq (pv 3) pe_int (fun _ _ => rfl)) (pa_cons (pe_ix ix_seq (pv 3) pe_int (fun _ _ => rfl)) (pa_cons (pe_callTy ca_tuple rfl (G.free 4 _ rfl) PyProof.Rows.boot_tuple (pa_cons (pv 8) pa_nil)) pa_nil)))) pa_nil))))) pss_nil))) (pss_cons (ps_set S.nd (i := 9) rfl (Or.inr rfl) (pe_lc (own := [("view", 13)]) rfl S.nd (pi_sq (pe_ix ix_seq (pv 1) pe_int (fun _ _ => rfl))) (blk_by (by kernel_rfl)) (fun _ _ _ _ _ => (pg_name S.nd (i := 13) rfl (Or.inl rfl))) (fun _ _ _ _ _ => pts_nil) (fun _ _ _ _ _ => (pe_ix ix_seq (pv 13) pe_int (fun _ _ => rfl))))) (pss_cons (ps_setLc (own := [("name", 11)]) rfl S.nd (i := 10) rfl rfl rfl (pi_sq (pe_lst (pa_cons pe_str (pa_cons pe_str pa_nil)))) (blk_by (by kernel_rfl)) (fun _ _ _ _ _ => (pg_name S.nd (i := 11) rfl (Or.inl rfl))) (fun _ _ _ _ _ => (pts_one (pt_cmpR op_ninU (pv 11) (pv 9) rfl))) (fun _ _ _ _ _ => (pe_tup (pa_cons (pv 11) (pa_cons (pe_tup (pa_cons (pe_cd (w__law_form H0 30) hr (by decide) rfl (pa_cons (pv 0) (pa_cons (pv 2) (pa_cons pe_int pa_nil)))) pa_nil)) pa_nil))))) (pss_one (ps_ret (pe_tup (pa_cons (pe_callTy ca_tuple rfl (G.free 4 _ rfl) PyProof.Rows.boot_tuple (pa_cons (pv 2) pa_nil)) (pa_cons (pe_tup (pa_cons (pv 4) pa_nil)) (pa_cons (pe_callTy ca_tuple rfl (G.free 4 _ rfl) PyProof.Rows.boot_tuple (pa_cons (pv 5) pa_nil)) (pa_cons (pe_callTy ca_tuple rfl (G.free 4 _ rfl) PyProof.Rows.boot_tuple (pa_cons (pe_alt (pe_slice sl_U (pv 10) po_none (po_some (pe_cd (w__law_draw H0) hr (by decide) rfl (pa_cons (pv 0) (pa_cons pe_int pa_nil))))) (pe_slice sl_list (pv 10) po_none (po_some (pe_cd (w__law_draw H0) hr (by decide) rfl (pa_cons (pv 0) (pa_cons pe_int pa_nil)))))) pa_nil)) pa_nil))))))))))))))) :)
abbrev st__law_side_by_side : Stmt := top 91
theorem S__law_side_by_side : FnScope ["one", "two", "calls", "name", "sort", "cases", "twin", "made", "is_shut", "more", "mode", "facts", "updates", "later", "case", "views", "call", "forms"] ["one", "two"] (defScope st__law_side_by_side) := ⟨rfl, rfl, rfl, by decide +kernel, rfl, by decide +kernel, by decide +kernel⟩
def g__law_side_by_side  : FS := (gSeq (gAsgN (fLst faNil) 2) (gSeq (gFor (fIt (fOp ixD (fVar 0) (fC (.int (2))))) (pTup 3 (pCons (pName 3) (pCons (pName 4) (pCons (pName 5) pNil)))) (gSeq (gAsg (fL (fLc [16] (fIt (fOp ixD (fVar 1) (fC (.int (2))))) (pName 16) (fBt (fOp eqD (fOp ixD (fVar 16) (fC (.int (0)))) (fVar 3))) (fVar 16))) (pName 6)) (gSeq (gPar [7, 8] (fvNew (fLst faNil) (fvVal (fAnd (fOp neD (fVar 6) (fL (fLst faNil))) (fOp eqD (fOp ixD (fOp ixD (fVar 6) (fC (.int (0)))) (fC (.int (2)))) (fTup faNil))) fvNil))) (gSeq (gAsg (fIf (ftAnd (fBt (fOp neD (fVar 6) (fL (fLst faNil)))) (ftNot (fTr (fVar 8)))) (fOp ixD (fOp ixD (fOp ixD (fVar 6) (fC (.int (0)))) (fC (.int (2)))) (fC (.int (0)))) (fTup (faCons (fC (.str "")) (faCons (fTup faNil) (faCons (fTup faNil) (faCons (fC (.str "")) faNil)))))) (pName 9)) (gSeq (gFor (fIt (fIf (fTr (fVar 8)) (fTup faNil) (fVar 5))) (pTup 4 (pCons (pName 10) (pCons (pName 11) (pCons (pName 12) (pCons (pName 13) pNil))))) (gApp 7 (fTup (faCons (fVar 10) (faCons (fOp addD (fVar 11) (fOp ixD (fVar 9) (fC (.int (1))))) (faCons (fOp addD (fVar 12) (fOp ixD (fVar 9) (fC (.int (2))))) (faCons (fVar 13) faNil))))))) (gApp 2 (fTup (faCons (fVar 3) (faCons (fVar 4) (faCons (fCB tupD (faCons (fVar 7) faNil)) faNil)))))))))) (gSeq (gFor (fIt (fOp ixD (fVar 1) (fC (.int (2))))) (pTup 3 (pCons (pName 3) (pCons (pName 4) (pCons (pName 5) pNil)))) (gSeq (gAsgN (fLst faNil) 7) (gSeq (gFor (fIt (fIf (fBt (fOp ninD (fVar 3) (fL (fLc [16] (fIt (fOp ixD (fVar 0) (fC (.int (2))))) (pName 16) fYes (fOp ixD (fVar 16) (fC (.int (0)))))))) (fVar 5) (fTup faNil))) (pName 14) (gAsg (fOp addD (fVar 7) (fL (fLc [10] (fIt (fOp ixD (fVar 0) (fC (.int (1))))) (pName 10) fYes (fTup (faCons (fVar 10) (faCons (fOp ixD (fVar 14) (fC (.int (1)))) (faCons (fOp ixD (fVar 14) (fC (.int (2)))) (faCons (fVar 10) faNil)))))))) (pName 7))) (gIf (fBt (fOp ninD (fVar 3) (fL (fLc [16] (fIt (fOp ixD (fVar 0) (fC (.int (2))))) (pName 16) fYes (fOp ixD (fVar 16) (fC (.int (0)))))))) (gApp 2 (fTup (faCons (fVar 3) (faCons (fVar 4) (faCons (fCB tupD (faCons (fVar 7) faNil)) faNil))))) gNext)))) (gSeq (gAsg (fOp addD (fOp ixD (fVar 0) (fC (.int (3)))) (fCB tupD (faCons (fL (fLc [3, 17] (fIt (fOp ixD (fVar 1) (fC (.int (3))))) (pTup 2 (pCons (pName 3) (pCons (pName 17) pNil))) fYes (fTup (faCons (fVar 3) (faCons (fOp mulD (fVar 17) (fCB lenD (faCons (fOp ixD (fVar 0) (fC (.int (1)))) faNil))) faNil))))) faNil))) (pName 15)) (gRet (fTup (faCons (fOp addD (fOp ixD (fVar 0) (fC (.int (0)))) (fOp ixD (fVar 1) (fC (.int (0))))) (faCons (fOp ixD (fVar 0) (fC (.int (1)))) (faCons (fCB tupD (faCons (fVar 2) faNil)) (faCons (fVar 15) faNil))))))))))
def F__law_side_by_side : DF := bodyF 18 [false, false] g__law_side_by_side
theorem w__law_side_by_side (H0 : Hy K mg) : CalD P w K mg base 1 "_law_side_by_side" (SpF K [false, false] F__law_side_by_side) := by
  have G := H0.G
  have hC := H0.hC
  have hT := H0.hT
  have S := S__law_side_by_side
  exact (cal_of (N := ["one", "two", "calls", "name", "sort", "cases", "twin", "made", "is_shut", "more", "mode", "facts", "updates", "later", "case", "views", "call", "forms"]) (ms := [false, false]) (k := 0) (g := g__law_side_by_side) H0.d__law_side_by_side S rfl
    (ds_seq (ds_asgN (dn_lst da_nil) 2) (ds_seq (ds_for (di_sq (de_op dr_ix (de_var 0) (de_int (2)))) (dg_tup (n := 3) (dgs_cons (dg_name 3) (dgs_cons (dg_name 4) (dgs_cons (dg_name 5) dgs_nil)))) (ds_seq (ds_asg (de_new (dn_lc (vs := [16]) (di_sq (de_op dr_ix (de_var 1) (de_int (2)))) (dg_name 16) (by decide) (dt_bl (de_op dr_eq (de_op dr_ix (de_var 16) (de_int (0))) (de_var 3))) (de_var 16) (tame_name 16))) (dg_name 6)) (ds_seq (ds_par (dv_new (dn_lst da_nil) (dv_val (de_and (de_op dr_ne (de_var 6) (de_new (dn_lst da_nil))) (de_op dr_eq (de_op dr_ix (de_op dr_ix (de_var 6) (de_int (0))) (de_int (2))) (de_tup da_nil))) dv_nil))) (ds_seq (ds_asg (de_if (dt_and (dt_bl (de_op dr_ne (de_var 6) (de_new (dn_lst da_nil)))) (dt_not (dt_tr (de_var 8)))) (de_op dr_ix (de_op dr_ix (de_op dr_ix (de_var 6) (de_int (0))) (de_int (2))) (de_int (0))) (de_tup (da_cons (de_str "") (da_cons (de_tup da_nil) (da_cons (de_tup da_nil) (da_cons (de_str "") da_nil)))))) (dg_name 9)) (ds_seq (ds_for (di_sq (de_if (dt_tr (de_var 8)) (de_tup da_nil) (de_var 5))) (dg_tup (n := 4) (dgs_cons (dg_name 10) (dgs_cons (dg_name 11) (dgs_cons (dg_name 12) (dgs_cons (dg_name 13) dgs_nil))))) (ds_app 7 (de_tup (da_cons (de_var 10) (da_cons (de_op dr_add (de_var 11) (de_op dr_ix (de_var 9) (de_int (1)))) (da_cons (de_op dr_add (de_var 12) (de_op dr_ix (de_var 9) (de_int (2)))) (da_cons (de_var 13) da_nil))))))) (ds_app 2 (de_tup (da_cons (de_var 3) (da_cons (de_var 4) (da_cons (de_cb crd_tuple (da_cons (de_var 7) da_nil)) da_nil)))))))))) (ds_seq (ds_for (di_sq (de_op dr_ix (de_var 1) (de_int (2)))) (dg_tup (n := 3) (dgs_cons (dg_name 3) (dgs_cons (dg_name 4) (dgs_cons (dg_name 5) dgs_nil)))) (ds_seq (ds_asgN (dn_lst da_nil) 7) (ds_seq (ds_for (di_sq (de_if (dt_bl (de_op dr_nin (de_var 3) (de_new (dn_lc (vs := [16]) (di_sq (de_op dr_ix (de_var 0) (de_int (2)))) (dg_name 16) (by decide) dt_yes (de_op dr_ix (de_var 16) (de_int (0))) (tame_name 16))))) (de_var 5) (de_tup da_nil))) (dg_name 14) (ds_asg (de_op dr_add (de_var 7) (de_new (dn_lc (vs := [10]) (di_sq (de_op dr_ix (de_var 0) (de_int (1)))) (dg_name 10) (by decide) dt_yes (de_tup (da_cons (de_var 10) (da_cons (de_op dr_ix (de_var 14) (de_int (1))) (da_cons (de_op dr_ix (de_var 14) (de_int (2))) (da_cons (de_var 10) da_nil))))) (tame_name 10)))) (dg_name 7))) (ds_if (dt_bl (de_op dr_nin (de_var 3) (de_new (dn_lc (vs := [16]) (di_sq (de_op dr_ix (de_var 0) (de_int (2)))) (dg_name 16) (by decide) dt_yes (de_op dr_ix (de_var 16) (de_int (0))) (tame_name 16))))) (ds_app 2 (de_tup (da_cons (de_var 3) (da_cons (de_var 4) (da_cons (de_cb crd_tuple (da_cons (de_var 7) da_nil)) da_nil))))) ds_next)))) (ds_seq (ds_asg (de_op dr_add (de_op dr_ix (de_var 0) (de_int (3))) (de_cb crd_tuple (da_cons (de_new (dn_lc (vs := [3, 17]) (di_sq (de_op dr_ix (de_var 1) (de_int (3)))) (dg_tup (n := 2) (dgs_cons (dg_name 3) (dgs_cons (dg_name 17) dgs_nil))) (by decide) dt_yes (de_tup (da_cons (de_var 3) (da_cons (de_op dr_mul (de_var 17) (de_cb crd_len (da_cons (de_op dr_ix (de_var 0) (de_int (1))) da_nil))) da_nil))) (tame_tup (tame_cons (tame_name 3) (tame_cons (tame_name 17) tame_nil))))) da_nil))) (dg_name 15)) (ds_ret (de_tup (da_cons (de_op dr_add (de_op dr_ix (de_var 0) (de_int (0))) (de_op dr_ix (de_var 1) (de_int (0)))) (da_cons (de_op dr_ix (de_var 0) (de_int (1))) (da_cons (de_cb crd_tuple (da_cons (de_var 2) da_nil)) (da_cons (de_var 15) da_nil))))))))))
    (fun cdv A outer s H E hr => (pss_cons (ps_set S.nd (i := 2) rfl (Or.inl rfl) (pe_lst pa_nil)) (pss_cons (ps_for PassesOwn.never rfl (pi_sq (pe_ix ix_seq (pv 0) pe_int (fun _ _ => rfl))) (pg_tup (n := 3) rfl (pgs_cons (pg_name S.nd (i := 3) rfl (Or.inr rfl)) (pgs_cons (pg_name S.nd (i := 4) rfl (Or.inl rfl)) (pgs_cons (pg_name S.nd (i := 5) rfl (Or.inl rfl)) pgs_nil)))) (pss_cons (ps_setLc (own := [("call", 16)]) rfl S.nd (i := 6) rfl rfl rfl (pi_sq (pe_ix ix_seq (pv 1) pe_int (fun _ _ => rfl))) (blk_by (by kernel_rfl)) (fun _ _ _ _ _ => (pg_name S.nd (i := 16) rfl (Or.inl rfl))) (fun _ _ _ _ _ => (pts_one (pt_cmpR (op_eqD hr.units) (pe_ix ix_seq (pv 16) pe_int (fun _ _ => rfl)) (pv 3) (nomark _)))) (fun _ _ _ _ _ => (pv 16))) (pss_cons (ps_par (i := 7) (j := 8) rfl S.nd rfl rfl (by decide) rfl rfl (pa_cons (pe_lst pa_nil) (pa_cons (pe_andT (pe_cmpR (op_neD hr.units) (pv 6) (pe_lst pa_nil) (nomark _)) (pe_one (pe_cmpR (op_eqD hr.units) (pe_ix ix_seq (pe_ix ix_seq (pv 6) pe_int (fun _ _ => rfl)) pe_int (fun _ _ => rfl)) (pe_tup pa_nil) (nomark _)))) pa_nil)) rfl) (pss_cons (ps_set S.nd (i := 9) rfl (Or.inl rfl) (pe_ifExp (PW.pt (pw_and (pt_cmpR (op_neD hr.units) (pv 6) (pe_lst pa_nil) (nomark _)) (pw_and1 (pt_not (pt_tr (pv 8)))))) (pe_ix ix_seq (pe_ix ix_seq (pe_ix ix_seq (pv 6) pe_int (fun _ _ => rfl)) pe_int (fun _ _ => rfl)) pe_int (fun _ _ => rfl)) (pe_tup (pa_cons pe_str (pa_cons (pe_tup pa_nil) (pa_cons (pe_tup pa_nil) (pa_cons pe_str pa_nil))))))) (pss_cons (ps_for PassesOwn.never rfl (pi_sq (pe_ifExp (pt_tr (pv 8)) (pe_tup pa_nil) (pv 5))) (pg_tup (n := 4) rfl (pgs_cons (pg_name S.nd (i := 10) rfl (Or.inl rfl)) (pgs_cons (pg_name S.nd (i := 11) rfl (Or.inl rfl)) (pgs_cons (pg_name S.nd (i := 12) rfl (Or.inl rfl)) (pgs_cons (pg_name S.nd (i := 13) rfl (Or.inl rfl)) pgs_nil))))) (pss_one (ps_expr (pe_bm F.plainAttrs_list PySem.F.slot_list_append PySem.F.type_list_append mt_append (pv 7) (pa_cons (pe_tup (pa_cons (pv 10) (pa_cons (pe_op op_addU (pv 11) (pe_ix ix_seq (pv 9) pe_int (fun _ _ => rfl))) (pa_cons (pe_op op_addU (pv 12) (pe_ix ix_seq (pv 9) pe_int (fun _ _ => rfl))) (pa_cons (pv 13) pa_nil))))) pa_nil))))) (pss_one (ps_expr (pe_bm F.plainAttrs_list PySem.F.slot_list_append PySem.F.type_list_append mt_append (pv 2) (pa_cons (pe_tup (pa_cons (pv 3) (pa_cons (pv 4) (pa_cons (pe_callTy ca_tuple rfl (G.free 4 _ rfl) PyProof.Rows.boot_tuple (pa_cons (pv 7) pa_nil)) pa_nil)))) pa_nil))))))))) (pss_cons (ps_for PassesOwn.never rfl (pi_sq (pe_ix ix_seq (pv 1) pe_int (fun _ _ => rfl))) (pg_tup (n := 3) rfl (pgs_cons (pg_name S.nd (i := 3) rfl (Or.inr rfl)) (pgs_cons (pg_name S.nd (i := 4) rfl (Or.inl rfl)) (pgs_cons (pg_name S.nd (i := 5) rfl (Or.inl rfl)) pgs_nil)))) (pss_cons (ps_set S.nd (i := 7) rfl (Or.inl rfl) (pe_lst pa_nil)) (pss_cons (ps_for PassesOwn.never rfl (pi_sq (pe_ifExp (pt_cmpR op_ninU (pv 3) (pe_lc (own := [("call", 16)]) rfl S.nd (pi_sq (pe_ix ix_seq (pv 0) pe_int (fun _ _ => rfl))) (blk_by (by kernel_rfl)) (fun _ _ _ _ _ => (pg_name S.nd (i := 16) rfl (Or.inl rfl))) (fun _ _ _ _ _ => pts_nil) (fun _ _ _ _ _ => (pe_ix ix_seq (pv 16) pe_int (fun _ _ => rfl)))) rfl) (pv 5) (pe_tup pa_nil))) (pg_name S.nd (i := 14) rfl (Or.inr rfl)) (pss_one (ps_set S.nd (i := 7) rfl (Or.inl rfl) (pe_op op_addU (pv 7) (pe_lc (own := [("mode", 10)]) rfl S.nd (pi_sq (pe_ix ix_seq (pv 0) pe_int (fun _ _ => rfl))) (blk_by (by kernel_rfl)) (fun _ _ _ _ _ => (pg_name S.nd (i := 10) rfl (Or.inl rfl))) (fun _ _ _ _ _ => pts_nil) (fun _ _ _ _ _ => (pe_tup (pa_cons (pv 10) (pa_cons (pe_ix ix_seq (pv 14) pe_int (fun _ _ => rfl)) (pa_cons (pe_ix ix_seq (pv 14) pe_int (fun _ _ => rfl)) (pa_cons (pv 10) pa_nil))))))))))) (pss_one (ps_if (pt_cmpR op_ninU (pv 3) (pe_lc (own := [("call", 16)]) rfl S.nd (pi_sq (pe_ix ix_seq (pv 0) pe_int (fun _ _ => rfl))) (blk_by (by kernel_rfl)) (fun _ _ _ _ _ => (pg_name S.nd (i := 16) rfl (Or.inl rfl))) (fun _ _ _ _ _ => pts_nil) (fun _ _ _ _ _ => (pe_ix ix_seq (pv 16) pe_int (fun _ _ => rfl)))) rfl) (pss_one (ps_expr (pe_bm F.plainAttrs_list PySem.F.slot_list_append PySem.F.type_list_append mt_append (pv 2) (pa_cons (pe_tup (pa_cons (pv 3) (pa_cons (pv 4) (pa_cons (pe_callTy ca_tuple rfl (G.free 4 _ rfl) PyProof.Rows.boot_tuple (pa_cons (pv 7) pa_nil)) pa_nil)))) pa_nil)))) pss_nil))))) (pss_cons (ps_set S.nd (i := 15) rfl (Or.inl rfl) (pe_op op_addU (pe_ix ix_seq (pv 0) pe_int (fun _ _ => rfl)) (pe_callTy ca_tuple rfl (G.free 4 _ rfl) PyProof.Rows.boot_tuple (pa_cons (pe_lc (own := [("name", 3), ("forms", 17)]) rfl S.nd (pi_sq (pe_ix ix_seq (pv 1) pe_int (fun _ _ => rfl))) (blk_by (by kernel_rfl)) (fun _ _ _ _ _ => (pg_tup (n := 2) rfl (pgs_cons (pg_name S.nd (i := 3) rfl (Or.inl rfl)) (pgs_cons (pg_name S.nd (i := 17) rfl (Or.inl rfl)) pgs_nil)))) (fun _ _ _ _ _ => pts_nil) (fun _ _ _ _ _ => (pe_tup (pa_cons (pv 3) (pa_cons (pe_op op_mulU (pv 17) (pe_callB ca_len rfl (G.free 3 _ rfl) PySem.boot_len (pa_cons (pe_ix ix_seq (pv 0) pe_int (fun _ _ => rfl)) pa_nil))) pa_nil))))) pa_nil)))) (pss_one (ps_ret (pe_tup (pa_cons (pe_op op_addU (pe_ix ix_seq (pv 0) pe_int (fun _ _ => rfl)) (pe_ix ix_seq (pv 1) pe_int (fun _ _ => rfl))) (pa_cons (pe_ix ix_seq (pv 0) pe_int (fun _ _ => rfl)) (pa_cons (pe_callTy ca_tuple rfl (G.free 4 _ rfl) PyProof.Rows.boot_tuple (pa_cons (pv 2) pa_nil)) (pa_cons (pv 15) pa_nil)))))))))))) :)
abbrev st__law_spoilt : Stmt := top 93
theorem S__law_spoilt : FnScope ["purse", "one", "two", "fields", "modes", "calls", "views", "way", "more", "sorts", "facts", "name", "forms", "k"] ["purse", "one", "two"] (defScope st__law_spoilt) := ⟨rfl, rfl, rfl, by decide +kernel, rfl, by decide +kernel, by decide +kernel⟩
def g__law_spoilt  : FS := (gSeq (gAsg (fVar 2) (pTup 4 (pCons (pName 3) (pCons (pName 4) (pCons (pName 5) (pCons (pName 6) pNil)))))) (gSeq (gAsg (fCall [true, false] F__law_draw (faOwn 0 (faCons (fC (.int (9))) faNil))) (pName 7)) (gSeq (gIf (fBt (fOp eqD (fVar 7) (fC (.int (0))))) (gSeq (gAsg (fAlt (fSl cutD (fL (fLc [11] (fIt (fL (fLst (faCons (fC (.str "m1")) (faCons (fC (.str "m2")) faNil))))) (pName 11) (fBt (fOp neD (fVar 11) (fOp ixD (fVar 4) (fC (.int (0)))))) (fVar 11))) fNoPart (fPart (fC (.int (1))))) (fL (fSlL (fL (fLc [11] (fIt (fL (fLst (faCons (fC (.str "m1")) (faCons (fC (.str "m2")) faNil))))) (pName 11) (fBt (fOp neD (fVar 11) (fOp ixD (fVar 4) (fC (.int (0)))))) (fVar 11))) fNoPart (fPart (fC (.int (1))))))) (pName 8)) (gRet (fTup (faCons (fVar 3) (faCons (fOp addD (fVar 4) (fCB tupD (faCons (fVar 8) faNil))) (faCons (fTup faNil) (faCons (fCB tupD (faCons (fL (fLc [11, 12] (fIt (fVar 6)) (pTup 2 (pCons (pName 11) (pCons (pName 12) pNil))) fYes (fTup (faCons (fVar 11) (faCons (fOp mulD (fVar 12) (fC (.int (2)))) faNil))))) faNil)) faNil))))))) gNext) (gSeq (gIf (fBt (fOp eqD (fVar 7) (fC (.int (1))))) (gRet (fTup (faCons (fTup (faCons (fOp ixD (fOp ixD (fVar 1) (fC (.int (0)))) (fC (.int (0)))) faNil)) (faCons (fVar 4) (faCons (fTup faNil) (faCons (fTup faNil) faNil)))))) gNext) (gSeq (gIf (ftAnd (fBt (fOp eqD (fVar 7) (fC (.int (2))))) (fBt (fOp neD (fOp ixD (fVar 1) (fC (.int (3)))) (fTup faNil)))) (gRet (fTup (faCons (fVar 3) (faCons (fVar 4) (faCons (fVar 5) (faCons (fTup (faCons (fTup (faCons (fOp ixD (fOp ixD (fOp ixD (fVar 1) (fC (.int (3)))) (fC (.int (0)))) (fC (.int (0)))) (faCons (fTup (faCons (fOp ixD (fVar 3) (fC (.int (0)))) faNil)) faNil))) faNil)) faNil)))))) gNext) (gSeq (gIf (fBt (fOp eqD (fVar 7) (fC (.int (3))))) (gSeq (gAsg (fC (.dk (dispD [("one", "many"), ("many", "none"), ("none", "one")]))) (pName 9)) (gRet (fTup (faCons (fVar 3) (faCons (fVar 4) (faCons (fTup (faCons (fTup (faCons (fOp ixD (fOp ixD (fOp ixD (fVar 1) (fC (.int (2)))) (fC (.int (0)))) (fC (.int (0)))) (faCons (fDget (fVar 9) (fOp ixD (fOp ixD (fOp ixD (fVar 1) (fC (.int (2)))) (fC (.int (0)))) (fC (.int (1))))) (faCons (fTup faNil) faNil)))) faNil)) (faCons (fVar 6) faNil))))))) gNext) (gSeq (gIf (fBt (fOp eqD (fVar 7) (fC (.int (4))))) (gRet (fTup (faCons (fCB tupD (faCons (fL (fLc [13] (fRng1 (faCons (fC (.int (4))) faNil)) (pName 13) fYes (fOp addD (fOp addD (fC (.str "f")) (fCB strD (faCons (fVar 13) faNil))) (fAlt (fSl cutD (fOp ixD (fVar 3) (fC (.int (0)))) fNoPart (fPart (fC (.int (5))))) (fL (fSlL (fOp ixD (fVar 3) (fC (.int (0)))) fNoPart (fPart (fC (.int (5)))))))))) faNil)) (faCons (fVar 4) (faCons (fTup faNil) (faCons (fTup faNil) faNil)))))) gNext) (gSeq (gIf (fBt (fOp eqD (fVar 7) (fC (.int (5))))) (gRet (fTup (faCons (fVar 3) (faCons (fVar 4) (faCons (fCB tupD (faCons (fL (fLc [13] (fRng1 (faCons (fC (.int (8))) faNil)) (pName 13) fYes (fTup (faCons (fOp addD (fOp addD (fC (.str "c")) (fCB strD (faCons (fVar 13) faNil))) (fC (.str "w"))) (faCons (fC (.str "one")) (faCons (fTup faNil) faNil)))))) faNil)) (faCons (fVar 6) faNil)))))) gNext) (gSeq (gIf (fBt (fOp eqD (fVar 7) (fC (.int (6))))) (gRet (fTup (faCons (fVar 3) (faCons (fVar 4) (faCons (fVar 5) (faCons (fCB tupD (faCons (fL (fLc [13] (fRng1 (faCons (fC (.int (4))) faNil)) (pName 13) fYes (fTup (faCons (fOp addD (fOp addD (fC (.str "v")) (fCB strD (faCons (fVar 13) faNil))) (fC (.str "w"))) (faCons (fTup (faCons (fOp ixD (fVar 3) (fC (.int (0)))) faNil)) faNil))))) faNil)) faNil)))))) gNext) (gSeq (gIf (fBt (fOp eqD (fVar 7) (fC (.int (7))))) (gSeq (gAsg (fOp mulD (fTup (faCons (fTup (faCons (fOp ixD (fVar 3) (fC (.int (0)))) (faCons (fOp ixD (fVar 3) (fC (.int (0)))) faNil))) faNil)) (fC (.int (5)))) (pName 10)) (gRet (fTup (faCons (fVar 3) (faCons (fVar 4) (faCons (fTup (faCons (fTup (faCons (fOp ixD (fOp ixD (fOp ixD (fVar 1) (fC (.int (2)))) (fC (.int (0)))) (fC (.int (0)))) (faCons (fOp ixD (fOp ixD (fOp ixD (fVar 1) (fC (.int (2)))) (fC (.int (0)))) (fC (.int (1)))) (faCons (fTup (faCons (fTup (faCons (fOp ixD (fVar 4) (fC (.int (0)))) (faCons (fVar 10) (faCons (fTup faNil) (faCons (fOp ixD (fVar 4) (fC (.int (0)))) faNil))))) faNil)) faNil)))) faNil)) (faCons (fVar 6) faNil))))))) gNext) (gRet (fVar 2))))))))))))
def F__law_spoilt : DF := bodyF 14 [true, false, false] g__law_spoilt
theorem w__law_spoilt (H0 : Hy K mg) : CalD P w K mg base 2 "_law_spoilt" (SpF K [true, false, false] F__law_spoilt) := by
  have G := H0.G
  have hC := H0.hC
  have hT := H0.hT
  have S := S__law_spoilt
  exact (cal_of (N := ["purse", "one", "two", "fields", "modes", "calls", "views", "way", "more", "sorts", "facts", "name", "forms", "k"]) (ms := [true, false, false]) (k := 1) (g := g__law_spoilt) H0.d__law_spoilt S rfl
    (ds_seq (ds_asg (de_var 2) (dg_tup (n := 4) (dgs_cons (dg_name 3) (dgs_cons (dg_name 4) (dgs_cons (dg_name 5) (dgs_cons (dg_name 6) dgs_nil)))))) (ds_seq (ds_asg (de_call (da_own 0 (da_cons (de_int (9)) da_nil))) (dg_name 7)) (ds_seq (ds_if (dt_bl (de_op dr_eq (de_var 7) (de_int (0)))) (ds_seq (ds_asg (de_alt (de_sl (de_new (dn_lc (vs := [11]) (di_sq (de_new (dn_lst (da_cons (de_str "m1") (da_cons (de_str "m2") da_nil))))) (dg_name 11) (by decide) (dt_bl (de_op dr_ne (de_var 11) (de_op dr_ix (de_var 4) (de_int (0))))) (de_var 11) (tame_name 11))) do_none (do_some (de_int (1)))) (de_new (dn_slL (de_new (dn_lc (vs := [11]) (di_sq (de_new (dn_lst (da_cons (de_str "m1") (da_cons (de_str "m2") da_nil))))) (dg_name 11) (by decide) (dt_bl (de_op dr_ne (de_var 11) (de_op dr_ix (de_var 4) (de_int (0))))) (de_var 11) (tame_name 11))) do_none (do_some (de_int (1)))))) (dg_name 8)) (ds_ret (de_tup (da_cons (de_var 3) (da_cons (de_op dr_add (de_var 4) (de_cb crd_tuple (da_cons (de_var 8) da_nil))) (da_cons (de_tup da_nil) (da_cons (de_cb crd_tuple (da_cons (de_new (dn_lc (vs := [11, 12]) (di_sq (de_var 6)) (dg_tup (n := 2) (dgs_cons (dg_name 11) (dgs_cons (dg_name 12) dgs_nil))) (by decide) dt_yes (de_tup (da_cons (de_var 11) (da_cons (de_op dr_mul (de_var 12) (de_int (2))) da_nil))) (tame_tup (tame_cons (tame_name 11) (tame_cons (tame_name 12) tame_nil))))) da_nil)) da_nil))))))) ds_next) (ds_seq (ds_if (dt_bl (de_op dr_eq (de_var 7) (de_int (1)))) (ds_ret (de_tup (da_cons (de_tup (da_cons (de_op dr_ix (de_op dr_ix (de_var 1) (de_int (0))) (de_int (0))) da_nil)) (da_cons (de_var 4) (da_cons (de_tup da_nil) (da_cons (de_tup da_nil) da_nil)))))) ds_next) (ds_seq (ds_if (dt_and (dt_bl (de_op dr_eq (de_var 7) (de_int (2)))) (dt_bl (de_op dr_ne (de_op dr_ix (de_var 1) (de_int (3))) (de_tup da_nil)))) (ds_ret (de_tup (da_cons (de_var 3) (da_cons (de_var 4) (da_cons (de_var 5) (da_cons (de_tup (da_cons (de_tup (da_cons (de_op dr_ix (de_op dr_ix (de_op dr_ix (de_var 1) (de_int (3))) (de_int (0))) (de_int (0))) (da_cons (de_tup (da_cons (de_op dr_ix (de_var 3) (de_int (0))) da_nil)) da_nil))) da_nil)) da_nil)))))) ds_next) (ds_seq (ds_if (dt_bl (de_op dr_eq (de_var 7) (de_int (3)))) (ds_seq (ds_asg (de_disp [("one", "many"), ("many", "none"), ("none", "one")] (by decide +kernel) (by decide)) (dg_name 9)) (ds_ret (de_tup (da_cons (de_var 3) (da_cons (de_var 4) (da_cons (de_tup (da_cons (de_tup (da_cons (de_op dr_ix (de_op dr_ix (de_op dr_ix (de_var 1) (de_int (2))) (de_int (0))) (de_int (0))) (da_cons (de_dget (de_var 9) (de_op dr_ix (de_op dr_ix (de_op dr_ix (de_var 1) (de_int (2))) (de_int (0))) (de_int (1)))) (da_cons (de_tup da_nil) da_nil)))) da_nil)) (da_cons (de_var 6) da_nil))))))) ds_next) (ds_seq (ds_if (dt_bl (de_op dr_eq (de_var 7) (de_int (4)))) (ds_ret (de_tup (da_cons (de_cb crd_tuple (da_cons (de_new (dn_lc (vs := [13]) (di_rng1 (da_cons (de_int (4)) da_nil)) (dg_name 13) (by decide) dt_yes (de_op dr_add (de_op dr_add (de_str "f") (de_cb crd_str (da_cons (de_var 13) da_nil))) (de_alt (de_sl (de_op dr_ix (de_var 3) (de_int (0))) do_none (do_some (de_int (5)))) (de_new (dn_slL (de_op dr_ix (de_var 3) (de_int (0))) do_none (do_some (de_int (5))))))) (tame_name 13))) da_nil)) (da_cons (de_var 4) (da_cons (de_tup da_nil) (da_cons (de_tup da_nil) da_nil)))))) ds_next) (ds_seq (ds_if (dt_bl (de_op dr_eq (de_var 7) (de_int (5)))) (ds_ret (de_tup (da_cons (de_var 3) (da_cons (de_var 4) (da_cons (de_cb crd_tuple (da_cons (de_new (dn_lc (vs := [13]) (di_rng1 (da_cons (de_int (8)) da_nil)) (dg_name 13) (by decide) dt_yes (de_tup (da_cons (de_op dr_add (de_op dr_add (de_str "c") (de_cb crd_str (da_cons (de_var 13) da_nil))) (de_str "w")) (da_cons (de_str "one") (da_cons (de_tup da_nil) da_nil)))) (tame_name 13))) da_nil)) (da_cons (de_var 6) da_nil)))))) ds_next) (ds_seq (ds_if (dt_bl (de_op dr_eq (de_var 7) (de_int (6)))) (ds_ret (de_tup (da_cons (de_var 3) (da_cons (de_var 4) (da_cons (de_var 5) (da_cons (de_cb crd_tuple (da_cons (de_new (dn_lc (vs := [13]) (di_rng1 (da_cons (de_int (4)) da_nil)) (dg_name 13) (by decide) dt_yes (de_tup (da_cons (de_op dr_add (de_op dr_add (de_str "v") (de_cb crd_str (da_cons (de_var 13) da_nil))) (de_str "w")) (da_cons (de_tup (da_cons (de_op dr_ix (de_var 3) (de_int (0))) da_nil)) da_nil))) (tame_name 13))) da_nil)) da_nil)))))) ds_next) (ds_seq (ds_if (dt_bl (de_op dr_eq (de_var 7) (de_int (7)))) (ds_seq (ds_asg (de_op dr_mul (de_tup (da_cons (de_tup (da_cons (de_op dr_ix (de_var 3) (de_int (0))) (da_cons (de_op dr_ix (de_var 3) (de_int (0))) da_nil))) da_nil)) (de_int (5))) (dg_name 10)) (ds_ret (de_tup (da_cons (de_var 3) (da_cons (de_var 4) (da_cons (de_tup (da_cons (de_tup (da_cons (de_op dr_ix (de_op dr_ix (de_op dr_ix (de_var 1) (de_int (2))) (de_int (0))) (de_int (0))) (da_cons (de_op dr_ix (de_op dr_ix (de_op dr_ix (de_var 1) (de_int (2))) (de_int (0))) (de_int (1))) (da_cons (de_tup (da_cons (de_tup (da_cons (de_op dr_ix (de_var 4) (de_int (0))) (da_cons (de_var 10) (da_cons (de_tup da_nil) (da_cons (de_op dr_ix (de_var 4) (de_int (0))) da_nil))))) da_nil)) da_nil)))) da_nil)) (da_cons (de_var 6) da_nil))))))) ds_next) (ds_ret (de_var 2))))))))))))
    (fun cdv A outer s H E hr => (pss_cons (ps_asg (pv 2) (pg_tup (n := 4) rfl (pgs_cons (pg_name S.nd (i := 3) rfl (Or.inr rfl)) (pgs_cons (pg_name S.nd (i := 4) rfl (Or.inr rfl)) (pgs_cons (pg_name S.nd (i := 5) rfl (Or.inl rfl)) (pgs_cons (pg_name S.nd (i := 6) rfl (Or.inl rfl)) pgs_nil)))))) (pss_cons (ps_set S.nd (i := 7) rfl (Or.inl rfl) (pe_cd (w__law_draw H0) hr (by decide) rfl (pa_cons (pv 0) (pa_cons pe_int pa_nil)))) (pss_cons (ps_if (pt_cmpR (op_eqD hr.units) (pv 7) pe_int (nomark _)) (pss_cons (ps_set S.nd (i := 8) rfl (Or.inl rfl) (pe_alt (pe_slice sl_U (pe_lc (own := [("name", 11)]) rfl S.nd (pi_sq (pe_lst (pa_cons pe_str (pa_cons pe_str pa_nil)))) (blk_by (by kernel_rfl)) (fun _ _ _ _ _ => (pg_name S.nd (i := 11) rfl (Or.inl rfl))) (fun _ _ _ _ _ => (pts_one (pt_cmpR (op_neD hr.units) (pv 11) (pe_ix ix_seq (pv 4) pe_int (fun _ _ => rfl)) (nomark _)))) (fun _ _ _ _ _ => (pv 11))) po_none (po_some pe_int)) (pe_slice sl_list (pe_lc (own := [("name", 11)]) rfl S.nd (pi_sq (pe_lst (pa_cons pe_str (pa_cons pe_str pa_nil)))) (blk_by (by kernel_rfl)) (fun _ _ _ _ _ => (pg_name S.nd (i := 11) rfl (Or.inl rfl))) (fun _ _ _ _ _ => (pts_one (pt_cmpR (op_neD hr.units) (pv 11) (pe_ix ix_seq (pv 4) pe_int (fun _ _ => rfl)) (nomark _)))) (fun _ _ _ _ _ => (pv 11))) po_none (po_some pe_int)))) (pss_one (ps_ret (pe_tup (pa_cons (pv 3) (pa_cons (pe_op op_addU (pv 4) (pe_callTy ca_tuple rfl (G.free 4 _ rfl) PyProof.Rows.boot_tuple (pa_cons (pv 8) pa_nil))) (pa_cons (pe_tup pa_nil) (pa_cons (pe_callTy ca_tuple rfl (G.free 4 _ rfl) PyProof.Rows.boot_tuple (pa_cons (pe_lc (own := [("name", 11), ("forms", 12)]) rfl S.nd (pi_sq (pv 6)) (blk_by (by kernel_rfl)) (fun _ _ _ _ _ => (pg_tup (n := 2) rfl (pgs_cons (pg_name S.nd (i := 11) rfl (Or.inl rfl)) (pgs_cons (pg_name S.nd (i := 12) rfl (Or.inl rfl)) pgs_nil)))) (fun _ _ _ _ _ => pts_nil) (fun _ _ _ _ _ => (pe_tup (pa_cons (pv 11) (pa_cons (pe_op op_mulU (pv 12) pe_int) pa_nil))))) pa_nil)) pa_nil)))))))) pss_nil) (pss_cons (ps_if (pt_cmpR (op_eqD hr.units) (pv 7) pe_int (nomark _)) (pss_one (ps_ret (pe_tup (pa_cons (pe_tup (pa_cons (pe_ix ix_seq (pe_ix ix_seq (pv 1) pe_int (fun _ _ => rfl)) pe_int (fun _ _ => rfl)) pa_nil)) (pa_cons (pv 4) (pa_cons (pe_tup pa_nil) (pa_cons (pe_tup pa_nil) pa_nil))))))) pss_nil) (pss_cons (ps_if (PW.pt (pw_and (pt_cmpR (op_eqD hr.units) (pv 7) pe_int (nomark _)) (pw_and1 (pt_cmpR (op_neD hr.units) (pe_ix ix_seq (pv 1) pe_int (fun _ _ => rfl)) (pe_tup pa_nil) (nomark _))))) (pss_one (ps_ret (pe_tup (pa_cons (pv 3) (pa_cons (pv 4) (pa_cons (pv 5) (pa_cons (pe_tup (pa_cons (pe_tup (pa_cons (pe_ix ix_seq (pe_ix ix_seq (pe_ix ix_seq (pv 1) pe_int (fun _ _ => rfl)) pe_int (fun _ _ => rfl)) pe_int (fun _ _ => rfl)) (pa_cons (pe_tup (pa_cons (pe_ix ix_seq (pv 3) pe_int (fun _ _ => rfl)) pa_nil)) pa_nil))) pa_nil)) pa_nil))))))) pss_nil) (pss_cons (ps_if (pt_cmpR (op_eqD hr.units) (pv 7) pe_int (nomark _)) (pss_cons (ps_set S.nd (i := 9) rfl (Or.inl rfl) (pe_disp (pps_cons pe_str pe_str (pps_cons pe_str pe_str (pps_cons pe_str pe_str pps_nil))) rfl rfl (by simp) (by decide))) (pss_one (ps_ret (pe_tup (pa_cons (pv 3) (pa_cons (pv 4) (pa_cons (pe_tup (pa_cons (pe_tup (pa_cons (pe_ix ix_seq (pe_ix ix_seq (pe_ix ix_seq (pv 1) pe_int (fun _ _ => rfl)) pe_int (fun _ _ => rfl)) pe_int (fun _ _ => rfl)) (pa_cons (pe_dget (hu_of hr) (pv 9) (pe_ix ix_seq (pe_ix ix_seq (pe_ix ix_seq (pv 1) pe_int (fun _ _ => rfl)) pe_int (fun _ _ => rfl)) pe_int (fun _ _ => rfl)) (fun _ _ => rfl)) (pa_cons (pe_tup pa_nil) pa_nil)))) pa_nil)) (pa_cons (pv 6) pa_nil)))))))) pss_nil) (pss_cons (ps_if (pt_cmpR (op_eqD hr.units) (pv 7) pe_int (nomark _)) (pss_one (ps_ret (pe_tup (pa_cons (pe_callTy ca_tuple rfl (G.free 4 _ rfl) PyProof.Rows.boot_tuple (pa_cons (pe_lc (own := [("k", 13)]) rfl S.nd (pi_range1 rfl (G.free 11 _ rfl) (pa_cons pe_int pa_nil)) (blk_by (by kernel_rfl)) (fun _ _ _ _ _ => (pg_name S.nd (i := 13) rfl (Or.inl rfl))) (fun _ _ _ _ _ => pts_nil) (fun _ _ _ _ _ => (pe_op op_addU (pe_op op_addU pe_str (pe_callTy ca_str rfl (G.free 0 _ rfl) PyProof.Rows.boot_str (pa_cons (pv 13) pa_nil))) (pe_alt (pe_slice sl_U (pe_ix ix_seq (pv 3) pe_int (fun _ _ => rfl)) po_none (po_some pe_int)) (pe_slice sl_list (pe_ix ix_seq (pv 3) pe_int (fun _ _ => rfl)) po_none (po_some pe_int)))))) pa_nil)) (pa_cons (pv 4) (pa_cons (pe_tup pa_nil) (pa_cons (pe_tup pa_nil) pa_nil))))))) pss_nil) (pss_cons (ps_if (pt_cmpR (op_eqD hr.units) (pv 7) pe_int (nomark _)) (pss_one (ps_ret (pe_tup (pa_cons (pv 3) (pa_cons (pv 4) (pa_cons (pe_callTy ca_tuple rfl (G.free 4 _ rfl) PyProof.Rows.boot_tuple (pa_cons (pe_lc (own := [("k", 13)]) rfl S.nd (pi_range1 rfl (G.free 11 _ rfl) (pa_cons pe_int pa_nil)) (blk_by (by kernel_rfl)) (fun _ _ _ _ _ => (pg_name S.nd (i := 13) rfl (Or.inl rfl))) (fun _ _ _ _ _ => pts_nil) (fun _ _ _ _ _ => (pe_tup (pa_cons (pe_op op_addU (pe_op op_addU pe_str (pe_callTy ca_str rfl (G.free 0 _ rfl) PyProof.Rows.boot_str (pa_cons (pv 13) pa_nil))) pe_str) (pa_cons pe_str (pa_cons (pe_tup pa_nil) pa_nil)))))) pa_nil)) (pa_cons (pv 6) pa_nil))))))) pss_nil) (pss_cons (ps_if (pt_cmpR (op_eqD hr.units) (pv 7) pe_int (nomark _)) (pss_one (ps_ret (pe_tup (pa_cons (pv 3) (pa_cons (pv 4) (pa_cons (pv 5) (pa_cons (pe_callTy ca_tuple rfl (G.free 4 _ rfl) PyProof.Rows.boot_tuple (pa_cons (pe_lc (own := [("k", 13)]) rfl S.nd (pi_range1 rfl (G.free 11 _ rfl) (pa_cons pe_int pa_nil)) (blk_by (by kernel_rfl)) (fun _ _ _ _ _ => (pg_name S.nd (i := 13) rfl (Or.inl rfl))) (fun _ _ _ _ _ => pts_nil) (fun _ _ _ _ _ => (pe_tup (pa_cons (pe_op op_addU (pe_op op_addU pe_str (pe_callTy ca_str rfl (G.free 0 _ rfl) PyProof.Rows.boot_str (pa_cons (pv 13) pa_nil))) pe_str) (pa_cons (pe_tup (pa_cons (pe_ix ix_seq (pv 3) pe_int (fun _ _ => rfl)) pa_nil)) pa_nil))))) pa_nil)) pa_nil))))))) pss_nil) (pss_cons (ps_if (pt_cmpR (op_eqD hr.units) (pv 7) pe_int (nomark _)) (pss_cons (ps_set S.nd (i := 10) rfl (Or.inl rfl) (pe_op op_mulU (pe_tup (pa_cons (pe_tup (pa_cons (pe_ix ix_seq (pv 3) pe_int (fun _ _ => rfl)) (pa_cons (pe_ix ix_seq (pv 3) pe_int (fun _ _ => rfl)) pa_nil))) pa_nil)) pe_int)) (pss_one (ps_ret (pe_tup (pa_cons (pv 3) (pa_cons (pv 4) (pa_cons (pe_tup (pa_cons (pe_tup (pa_cons (pe_ix ix_seq (pe_ix ix_seq (pe_ix ix_seq (pv 1) pe_int (fun _ _ => rfl)) pe_int (fun _ _ => rfl)) pe_int (fun _ _ => rfl)) (pa_cons (pe_ix ix_seq (pe_ix ix_seq (pe_ix ix_seq (pv 1) pe_int (fun _ _ => rfl)) pe_int (fun _ _ => rfl)) pe_int (fun _ _ => rfl)) (pa_cons (pe_tup (pa_cons (pe_tup (pa_cons (pe_ix ix_seq (pv 4) pe_int (fun _ _ => rfl)) (pa_cons (pv 10) (pa_cons (pe_tup pa_nil) (pa_cons (pe_ix ix_seq (pv 4) pe_int (fun _ _ => rfl)) pa_nil))))) pa_nil)) pa_nil)))) pa_nil)) (pa_cons (pv 6) pa_nil)))))))) pss_nil) (pss_one (ps_ret (pv 2)))))))))))))) :)
abbrev st__law_due : Stmt := top 94
theorem S__law_due : FnScope ["one", "two", "both", "call", "shared", "names", "made", "each", "slot", "view", "pair", "case"] ["one", "two"] (defScope st__law_due) := ⟨rfl, rfl, rfl, by decide +kernel, rfl, by decide +kernel, by decide +kernel⟩
def g__law_due  : FS := (gSeq (gAsg (fL (fLst faNil)) (pName 2)) (gSeq (gFor (fIt (fOp ixD (fVar 0) (fC (.int (2))))) (pName 3) (gAsg (fOp addD (fVar 2) (fL (fLc [7] (fIt (fOp ixD (fVar 1) (fC (.int (2))))) (pName 7) (fBt (fOp eqD (fOp ixD (fVar 3) (fC (.int (0)))) (fOp ixD (fVar 7) (fC (.int (0)))))) (fTup (faCons (fOp ixD (fVar 3) (fC (.int (1)))) (faCons (fOp ixD (fVar 7) (fC (.int (1)))) faNil)))))) (pName 2))) (gSeq (gAsg (fL (fLc [8] (fIt (fOp ixD (fVar 1) (fC (.int (0))))) (pName 8) (fBt (fOp inD (fVar 8) (fOp ixD (fVar 0) (fC (.int (0)))))) (fVar 8))) (pName 4)) (gSeq (gAsg (fL (fLc [9] (fIt (fOp ixD (fVar 1) (fC (.int (3))))) (pName 9) (fBt (fOp inD (fOp ixD (fVar 9) (fC (.int (0)))) (fL (fLc [7] (fIt (fOp ixD (fVar 0) (fC (.int (3))))) (pName 7) fYes (fOp ixD (fVar 7) (fC (.int (0)))))))) (fOp ixD (fVar 9) (fC (.int (0)))))) (pName 5)) (gSeq (gIf (ftOr (fBt (fOp gtD (fCB lenD (faCons (fOp ixD (fVar 1) (fC (.int (1)))) faNil)) (fC (.int (1))))) (ftOr (fBt (fOp neD (fOp addD (fVar 4) (fVar 5)) (fL (fLst faNil)))) (fBt (fOp neD (fL (fLc [10] (fIt (fVar 2)) (pName 10) (fBt (fOp neD (fOp ixD (fVar 10) (fC (.int (0)))) (fOp ixD (fVar 10) (fC (.int (1)))))) (fVar 10))) (fL (fLst faNil)))))) (gRet (fTup (faCons (fC (.str "apart")) (faCons (fC (.bl true)) faNil)))) gNext) (gSeq (gAsg (fCall [false, false] F__law_side_by_side (faCons (fVar 0) (faCons (fVar 1) faNil))) (pName 6)) (gSeq (gIf (fBt (fOp gtD (fCB lenD (faCons (fOp ixD (fVar 6) (fC (.int (0)))) faNil)) (fC (.int (4))))) (gRet (fTup (faCons (fC (.str "fields")) (faCons (fC (.int (4))) faNil)))) gNext) (gSeq (gIf (fBt (fOp gtD (fCB lenD (faCons (fOp ixD (fVar 6) (fC (.int (2)))) faNil)) (fC (.int (8))))) (gRet (fTup (faCons (fC (.str "calls")) (faCons (fC (.int (8))) faNil)))) gNext) (gSeq (gIf (fBt (fOp gtD (fCB lenD (faCons (fOp ixD (fVar 6) (fC (.int (3)))) faNil)) (fC (.int (4))))) (gRet (fTup (faCons (fC (.str "views")) (faCons (fC (.int (4))) faNil)))) gNext) (gSeq (gFor (fIt (fOp ixD (fVar 6) (fC (.int (2))))) (pName 3) (gIf (fBt (fOp neD (fL (fLc [11] (fIt (fOp ixD (fVar 3) (fC (.int (2))))) (pName 11) (fBt (fOp gtD (fCB lenD (faCons (fOp ixD (fVar 11) (fC (.int (1)))) faNil)) (fC (.int (5))))) (fVar 11))) (fL (fLst faNil)))) (gRet (fTup (faCons (fC (.str "facts")) (faCons (fC (.int (5))) faNil)))) gNext)) (gRet (fTup (faCons (fC (.str "fine")) (faCons (fCall [false] F__law_design (faCons (fVar 6) faNil)) faNil))))))))))))))
def F__law_due : DF := bodyF 12 [false, false] g__law_due
theorem w__law_due (H0 : Hy K mg) : CalD P w K mg base 40 "_law_due" (SpF K [false, false] F__law_due) := by
  have G := H0.G
  have hC := H0.hC
  have hT := H0.hT
  have S := S__law_due
  exact (cal_of (N := ["one", "two", "both", "call", "shared", "names", "made", "each", "slot", "view", "pair", "case"]) (ms := [false, false]) (k := 39) (g := g__law_due) H0.d__law_due S rfl
    (ds_seq (ds_asg (de_new (dn_lst da_nil)) (dg_name 2)) (ds_seq (ds_for (di_sq (de_op dr_ix (de_var 0) (de_int (2)))) (dg_name 3) (ds_asg (de_op dr_add (de_var 2) (de_new (dn_lc (vs := [7]) (di_sq (de_op dr_ix (de_var 1) (de_int (2)))) (dg_name 7) (by decide) (dt_bl (de_op dr_eq (de_op dr_ix (de_var 3) (de_int (0))) (de_op dr_ix (de_var 7) (de_int (0))))) (de_tup (da_cons (de_op dr_ix (de_var 3) (de_int (1))) (da_cons (de_op dr_ix (de_var 7) (de_int (1))) da_nil))) (tame_name 7)))) (dg_name 2))) (ds_seq (ds_asg (de_new (dn_lc (vs := [8]) (di_sq (de_op dr_ix (de_var 1) (de_int (0)))) (dg_name 8) (by decide) (dt_bl (de_op dr_in (de_var 8) (de_op dr_ix (de_var 0) (de_int (0))))) (de_var 8) (tame_name 8))) (dg_name 4)) (ds_seq (ds_asg (de_new (dn_lc (vs := [9]) (di_sq (de_op dr_ix (de_var 1) (de_int (3)))) (dg_name 9) (by decide) (dt_bl (de_op dr_in (de_op dr_ix (de_var 9) (de_int (0))) (de_new (dn_lc (vs := [7]) (di_sq (de_op dr_ix (de_var 0) (de_int (3)))) (dg_name 7) (by decide) dt_yes (de_op dr_ix (de_var 7) (de_int (0))) (tame_name 7))))) (de_op dr_ix (de_var 9) (de_int (0))) (tame_name 9))) (dg_name 5)) (ds_seq (ds_if (dt_or (dt_bl (de_op dr_gt (de_cb crd_len (da_cons (de_op dr_ix (de_var 1) (de_int (1))) da_nil)) (de_int (1)))) (dt_or (dt_bl (de_op dr_ne (de_op dr_add (de_var 4) (de_var 5)) (de_new (dn_lst da_nil)))) (dt_bl (de_op dr_ne (de_new (dn_lc (vs := [10]) (di_sq (de_var 2)) (dg_name 10) (by decide) (dt_bl (de_op dr_ne (de_op dr_ix (de_var 10) (de_int (0))) (de_op dr_ix (de_var 10) (de_int (1))))) (de_var 10) (tame_name 10))) (de_new (dn_lst da_nil)))))) (ds_ret (de_tup (da_cons (de_str "apart") (da_cons (de_bl true) da_nil)))) ds_next) (ds_seq (ds_asg (de_call (da_cons (de_var 0) (da_cons (de_var 1) da_nil))) (dg_name 6)) (ds_seq (ds_if (dt_bl (de_op dr_gt (de_cb crd_len (da_cons (de_op dr_ix (de_var 6) (de_int (0))) da_nil)) (de_int (4)))) (ds_ret (de_tup (da_cons (de_str "fields") (da_cons (de_int (4)) da_nil)))) ds_next) (ds_seq (ds_if (dt_bl (de_op dr_gt (de_cb crd_len (da_cons (de_op dr_ix (de_var 6) (de_int (2))) da_nil)) (de_int (8)))) (ds_ret (de_tup (da_cons (de_str "calls") (da_cons (de_int (8)) da_nil)))) ds_next) (ds_seq (ds_if (dt_bl (de_op dr_gt (de_cb crd_len (da_cons (de_op dr_ix (de_var 6) (de_int (3))) da_nil)) (de_int (4)))) (ds_ret (de_tup (da_cons (de_str "views") (da_cons (de_int (4)) da_nil)))) ds_next) (ds_seq (ds_for (di_sq (de_op dr_ix (de_var 6) (de_int (2)))) (dg_name 3) (ds_if (dt_bl (de_op dr_ne (de_new (dn_lc (vs := [11]) (di_sq (de_op dr_ix (de_var 3) (de_int (2)))) (dg_name 11) (by decide) (dt_bl (de_op dr_gt (de_cb crd_len (da_cons (de_op dr_ix (de_var 11) (de_int (1))) da_nil)) (de_int (5)))) (de_var 11) (tame_name 11))) (de_new (dn_lst da_nil)))) (ds_ret (de_tup (da_cons (de_str "facts") (da_cons (de_int (5)) da_nil)))) ds_next)) (ds_ret (de_tup (da_cons (de_str "fine") (da_cons (de_call (da_cons (de_var 6) da_nil)) da_nil))))))))))))))
    (fun cdv A outer s H E hr => (pss_cons (ps_set S.nd (i := 2) rfl (Or.inl rfl) (pe_lst pa_nil)) (pss_cons (ps_for PassesOwn.never rfl (pi_sq (pe_ix ix_seq (pv 0) pe_int (fun _ _ => rfl))) (pg_name S.nd (i := 3) rfl (Or.inr rfl)) (pss_one (ps_set S.nd (i := 2) rfl (Or.inl rfl) (pe_op op_addU (pv 2) (pe_lc (own := [("each", 7)]) rfl S.nd (pi_sq (pe_ix ix_seq (pv 1) pe_int (fun _ _ => rfl))) (blk_by (by kernel_rfl)) (fun _ _ _ _ _ => (pg_name S.nd (i := 7) rfl (Or.inl rfl))) (fun _ _ _ _ _ => (pts_one (pt_cmpR (op_eqD hr.units) (pe_ix ix_seq (pv 3) pe_int (fun _ _ => rfl)) (pe_ix ix_seq (pv 7) pe_int (fun _ _ => rfl)) (nomark _)))) (fun _ _ _ _ _ => (pe_tup (pa_cons (pe_ix ix_seq (pv 3) pe_int (fun _ _ => rfl)) (pa_cons (pe_ix ix_seq (pv 7) pe_int (fun _ _ => rfl)) pa_nil))))))))) (pss_cons (ps_setLc (own := [("slot", 8)]) rfl S.nd (i := 4) rfl rfl rfl (pi_sq (pe_ix ix_seq (pv 1) pe_int (fun _ _ => rfl))) (blk_by (by kernel_rfl)) (fun _ _ _ _ _ => (pg_name S.nd (i := 8) rfl (Or.inl rfl))) (fun _ _ _ _ _ => (pts_one (pt_cmpR op_inU (pv 8) (pe_ix ix_seq (pv 0) pe_int (fun _ _ => rfl)) rfl))) (fun _ _ _ _ _ => (pv 8))) (pss_cons (ps_setLc (own := [("view", 9)]) rfl S.nd (i := 5) rfl rfl rfl (pi_sq (pe_ix ix_seq (pv 1) pe_int (fun _ _ => rfl))) (blk_by (by kernel_rfl)) (fun _ _ _ _ _ => (pg_name S.nd (i := 9) rfl (Or.inl rfl))) (fun _ _ _ _ _ => (pts_one (pt_cmpR op_inU (pe_ix ix_seq (pv 9) pe_int (fun _ _ => rfl)) (pe_lc (own := [("each", 7)]) rfl S.nd (pi_sq (pe_ix ix_seq (pv 0) pe_int (fun _ _ => rfl))) (blk_by (by kernel_rfl)) (fun _ _ _ _ _ => (pg_name S.nd (i := 7) rfl (Or.inl rfl))) (fun _ _ _ _ _ => pts_nil) (fun _ _ _ _ _ => (pe_ix ix_seq (pv 7) pe_int (fun _ _ => rfl)))) rfl))) (fun _ _ _ _ _ => (pe_ix ix_seq (pv 9) pe_int (fun _ _ => rfl)))) (pss_cons (ps_if (PW.pt (pw_or (pt_cmpR op_gtU (pe_callB ca_len rfl (G.free 3 _ rfl) PySem.boot_len (pa_cons (pe_ix ix_seq (pv 1) pe_int (fun _ _ => rfl)) pa_nil)) pe_int (nomark _)) (pw_or (pt_cmpR (op_neD hr.units) (pe_op op_addU (pv 4) (pv 5)) (pe_lst pa_nil) (nomark _)) (pw_or1 (pt_cmpR (op_neD hr.units) (pe_lc (own := [("pair", 10)]) rfl S.nd (pi_sq (pv 2)) (blk_by (by kernel_rfl)) (fun _ _ _ _ _ => (pg_name S.nd (i := 10) rfl (Or.inl rfl))) (fun _ _ _ _ _ => (pts_one (pt_cmpR (op_neD hr.units) (pe_ix ix_seq (pv 10) pe_int (fun _ _ => rfl)) (pe_ix ix_seq (pv 10) pe_int (fun _ _ => rfl)) (nomark _)))) (fun _ _ _ _ _ => (pv 10))) (pe_lst pa_nil) (nomark _)))))) (pss_one (ps_ret (pe_tup (pa_cons pe_str (pa_cons pe_bl pa_nil))))) pss_nil) (pss_cons (ps_set S.nd (i := 6) rfl (Or.inl rfl) (pe_cd (w__law_side_by_side H0) hr (by decide) rfl (pa_cons (pv 0) (pa_cons (pv 1) pa_nil)))) (pss_cons (ps_if (pt_cmpR op_gtU (pe_callB ca_len rfl (G.free 3 _ rfl) PySem.boot_len (pa_cons (pe_ix ix_seq (pv 6) pe_int (fun _ _ => rfl)) pa_nil)) pe_int (nomark _)) (pss_one (ps_ret (pe_tup (pa_cons pe_str (pa_cons pe_int pa_nil))))) pss_nil) (pss_cons (ps_if (pt_cmpR op_gtU (pe_callB ca_len rfl (G.free 3 _ rfl) PySem.boot_len (pa_cons (pe_ix ix_seq (pv 6) pe_int (fun _ _ => rfl)) pa_nil)) pe_int (nomark _)) (pss_one (ps_ret (pe_tup (pa_cons pe_str (pa_cons pe_int pa_nil))))) pss_nil) (pss_cons (ps_if (pt_cmpR op_gtU (pe_callB ca_len rfl (G.free 3 _ rfl) PySem.boot_len (pa_cons (pe_ix ix_seq (pv 6) pe_int (fun _ _ => rfl)) pa_nil)) pe_int (nomark _)) (pss_one (ps_ret (pe_tup (pa_cons pe_str (pa_cons pe_int pa_nil))))) pss_nil) (pss_cons (ps_for PassesOwn.never rfl (pi_sq (pe_ix ix_seq (pv 6) pe_int (fun _ _ => rfl))) (pg_name S.nd (i := 3) rfl (Or.inr rfl)) (pss_one (ps_if (pt_cmpR (op_neD hr.units) (pe_lc (own := [("case", 11)]) rfl S.nd (pi_sq (pe_ix ix_seq (pv 3) pe_int (fun _ _ => rfl))) (blk_by (by kernel_rfl)) (fun _ _ _ _ _ => (pg_name S.nd (i := 11) rfl (Or.inl rfl))) (fun _ _ _ _ _ => (pts_one (pt_cmpR op_gtU (pe_callB ca_len rfl (G.free 3 _ rfl) PySem.boot_len (pa_cons (pe_ix ix_seq (pv 11) pe_int (fun _ _ => rfl)) pa_nil)) pe_int (nomark _)))) (fun _ _ _ _ _ => (pv 11))) (pe_lst pa_nil) (nomark _)) (pss_one (ps_ret (pe_tup (pa_cons pe_str (pa_cons pe_int pa_nil))))) pss_nil))) (pss_one (ps_ret (pe_tup (pa_cons pe_str (pa_cons (pe_cd (w__law_design H0) hr (by decide) rfl (pa_cons (pv 6) pa_nil)) pa_nil)))))))))))))))) :)
abbrev st__law_error : Stmt := top 92
theorem S__law_error : FnScope ["one", "two", "e", "kinds", "words"] ["one", "two"] (defScope st__law_error) := ⟨rfl, rfl, rfl, by decide +kernel, rfl, by decide +kernel, by decide +kernel⟩
def hdl (c : Str) (fs : List (Str × D)) : Option D := match fs with
  | [] => if c = "NotComparable" then some (.tup [.str "apart", .bl true]) else none
  | [(f, d)] => if c = "NotADesign" ∧ f = "value" then some (.tup [.str "design", d]) else if c = "TooManyFields" ∧ f = "limit" then some (.tup [.str "fields", d]) else if c = "TooManyCalls" ∧ f = "limit" then some (.tup [.str "calls", d]) else
    if c = "TooManyViews" ∧ f = "limit" then some (.tup [.str "views", d]) else if c = "TooManyFacts" ∧ f = "limit" then some (.tup [.str "facts", d]) else none
  | _ => none
def F__law_error : DF := fun ds => match ds with
  | [d1, d2] => (match F_beside [d1, d2] with
    | some (.ok d) => some (.tup [.str "fine", d], [.non, .non])
    | some (.ex c fs) => (hdl c fs).map fun d => (d, [.non, .non])
    | none => none)
  | _ => none
abbrev tI (K : PySem.W.Frag) (a : Addr) (cls : Value) (d : Option Addr) (c : Str) : TE := tIsX K a cls d 2 (He.ga K c)
abbrev tX (K : PySem.W.Frag) (a : Addr) (cls : Value) (d : Option Addr) (c : Str) : TE := tXf a cls d (He.ga K c) "limit" (tVar 2)
abbrev tTrue : TA := tCons (tC (.bl true)) tNil
abbrev ts1 (K : PySem.W.Frag) : Addr → Value → Option Addr → TS := fun a cls d => tRet (tTup (tCons (tC (.str "design")) (tCons (tXf a cls d (He.ga K "NotADesign") "value" (tVar 2)) tNil)))
abbrev ts2 (K : PySem.W.Frag) : Addr → Value → Option Addr → TS := fun a cls d => tRet (tTup (tCons (tC (.str "apart")) (tCons (tAndT K (tI K a cls d "StateError") (tNotT K (tI K a cls d "SetError"))) tNil)))
abbrev ts3 (K : PySem.W.Frag) : Addr → Value → Option Addr → TS := fun a cls d => tSeq (tAsg (tLst (tCons (tI K a cls d "TooManyFields") (tCons (tI K a cls d "TooManyCalls") (tCons (tI K a cls d "TooManyViews") tNil)))) (gName 3))
  (tSeq (tDrop (tBM K "list" rAppend (tVar 3) (tCons (tI K a cls d "TooManyFacts") tNil))) (tSeq (tAsg (tLst (tCons (tC (.str "fields")) (tCons (tC (.str "calls")) (tCons (tC (.str "views")) (tCons (tC (.str "facts")) tNil))))) (gName 4))
    (tRet (tTup (tCons (tIf (tTest (tOp (rEqD K) (tBM K "list" (rCntB K) (tVar 3) tTrue) (tC (.int 1)))) (tOp (rIx K) (tVar 4) (tBM K "list" (rIndex K) (tVar 3) tTrue)) (tC (.str "many")))
      (tCons (tAlt (tX K a cls d "TooManyFields") (tAlt (tX K a cls d "TooManyCalls") (tAlt (tX K a cls d "TooManyViews") (tX K a cls d "TooManyFacts")))) tNil))))))
def clauses (K : PySem.W.Frag) : List (Value × Nat × (Addr → Value → Option Addr → TS)) := [(.ref (He.ga K "NotADesign"), 2, ts1 K), (.ref (He.ga K "NotComparable"), 2, ts2 K), (.ref (He.ga K "LimitError"), 2, ts3 K)]
abbrev tbE (K : PySem.W.Frag) (W : WX) : TS := tRet (tTup (tCons (tC (.str "fine")) (tCons (tCallX2 (SpX K F_beside) (WE W) (tCons (tVar 1) (tCons (tVar 0) tNil))) tNil)))
def t_err (K : PySem.W.Frag) : TS := fun D σ H => tbE K (DLX.wManyA K (fun _ _ _ _ => False) D (clauses K)) D σ H
theorem ps_err (H0 : Hy K mg) (cdv : Value) (A : Around) (outer : List Env) (s : Shared) (H : Hp) (E : XK) (hr : Room 39 (A.deeper (PyProof.Rows.envOfC "_law_error" (defScope st__law_error) s.heap.objs.size (He.ga K "_law_error") cdv))) :
    PSs (cxOf CX0 P w K mg base ["one", "two", "e", "kinds", "words"] "_law_error" (defScope st__law_error) (He.ga K "_law_error") cdv A outer s H E).nox (defBody st__law_error) (t_err K) := by
  have G := H0.G
  have S := S__law_error
  have nm : ∀ {x : Str}, (∃ u, mg x = some u ∧ RelV (.ref (He.ga K x)) u) → mg x = some (.ref (He.ga K x)) := fun {x} h => by
    obtain ⟨u, e, r⟩ := h
    cases r
    exact e
  refine pss_one (DLX.ps_try_manyAs (tb := tbE K) (l := clauses K) rfl S.nd rfl takes0 (fun W pn xe tk _ => ?_) ?_)
  · exact pss_one (ps_ret (pe_tup (pa_cons pe_str (pa_cons (pe_cx2 (w_beside H0) hr (by decide) tk rfl (pk_cons (pv 1) (pk_cons (pv 0) pk_nil))) pa_nil))))
  · refine .cons (i := 2) rfl rfl ⟨rfl, by decide, .inl (nm (G.obj 3 _ rfl))⟩ (fun a oe cls d pn hz hf => ?_) (.cons (i := 2) rfl rfl ⟨rfl, by decide, .inl (nm (G.obj 4 _ rfl))⟩ (fun a oe cls d pn hz hf => ?_) (.cons (i := 2) rfl rfl ⟨rfl, by decide, .inl (nm (G.obj 5 _ rfl))⟩ (fun a oe cls d pn hz hf => ?_) .nil))
    · exact pss_one (ps_ret (pe_tup (pa_cons pe_str (pa_cons (pe_xf (H0.xk.xf "NotADesign" "value" rfl).1 (H0.xk.xf "NotADesign" "value" rfl).2 hz hf (pv 2)) pa_nil))))
    · exact pss_one (ps_ret (pe_tup (pa_cons pe_str (pa_cons (pe_andT (pe_isX hz hf rfl (G.free 1 _ rfl) (pa_cons (pv 2) (pa_cons (C8.pe_gc rfl (G.obj 6 _ rfl)) pa_nil))) (pe_one (pe_notT (pe_isX hz hf rfl (G.free 1 _ rfl) (pa_cons (pv 2) (pa_cons (C8.pe_gc rfl (G.obj 7 _ rfl)) pa_nil)))))) pa_nil))))
    · exact pss_cons (ps_set S.nd (i := 3) rfl (Or.inl rfl) (pe_lst (pa_cons (pe_isX hz hf rfl (G.free 1 _ rfl) (pa_cons (pv 2) (pa_cons (C8.pe_gc rfl (G.obj 8 _ rfl)) pa_nil))) (pa_cons (pe_isX hz hf rfl (G.free 1 _ rfl) (pa_cons (pv 2) (pa_cons (C8.pe_gc rfl (G.obj 9 _ rfl)) pa_nil))) (pa_cons (pe_isX hz hf rfl (G.free 1 _ rfl) (pa_cons (pv 2) (pa_cons (C8.pe_gc rfl (G.obj 10 _ rfl)) pa_nil))) pa_nil)))))
        (pss_cons (ps_expr (pe_bm F.plainAttrs_list PySem.F.slot_list_append PySem.F.type_list_append mt_append (pv 3) (pa_cons (pe_isX hz hf rfl (G.free 1 _ rfl) (pa_cons (pv 2) (pa_cons (C8.pe_gc rfl (G.obj 11 _ rfl)) pa_nil))) pa_nil)))
          (pss_cons (ps_set S.nd (i := 4) rfl (Or.inl rfl) (pe_lst (pa_cons pe_str (pa_cons pe_str (pa_cons pe_str (pa_cons pe_str pa_nil))))))
            (pss_one (ps_ret (pe_tup (pa_cons (pe_ifExp (pt_cmpR (op_eqD hr.units) (pe_bm F.plainAttrs_list PySem.F.slot_list_count PySem.F.type_list_count ma_cntB (pv 3) (pa_cons pe_bl pa_nil)) pe_int (nomark _)) (pe_ix ix_seq (pv 4) (pe_bm F.plainAttrs_list PySem.F.slot_list_index PySem.F.type_list_index mt_index (pv 3) (pa_cons pe_bl pa_nil)) (fun _ _ => rfl)) pe_str)
              (pa_cons (pe_alt (pe_xf (H0.xk.xf "TooManyFields" "limit" rfl).1 (H0.xk.xf "TooManyFields" "limit" rfl).2 hz hf (pv 2)) (pe_alt (pe_xf (H0.xk.xf "TooManyCalls" "limit" rfl).1 (H0.xk.xf "TooManyCalls" "limit" rfl).2 hz hf (pv 2)) (pe_alt (pe_xf (H0.xk.xf "TooManyViews" "limit" rfl).1 (H0.xk.xf "TooManyViews" "limit" rfl).2 hz hf (pv 2)) (pe_xf (H0.xk.xf "TooManyFacts" "limit" rfl).1 (H0.xk.xf "TooManyFacts" "limit" rfl).2 hz hf (pv 2))))) pa_nil)))))))
theorem three_read {a : Addr} {dd : Addr} {D : Addr} {lv : V} {b1 b2 b3 b4 : Bool} {j : Nat} {wd : Str} {σ : L2.St} {H : Hp} {E : Ends} {Q : VK} (hσ : σ.length = 5) (h2 : σ[2]? = some (some (V.ref a))) (hC : ExcC K D)
    (k1 : PySem.W.kitOne K (.ref D) (.ref (He.ga K "TooManyFields")) = some b1) (k2 : PySem.W.kitOne K (.ref D) (.ref (He.ga K "TooManyCalls")) = some b2) (k3 : PySem.W.kitOne K (.ref D) (.ref (He.ga K "TooManyViews")) = some b3) (k4 : PySem.W.kitOne K (.ref D) (.ref (He.ga K "TooManyFacts")) = some b4)
    (hcnt : [b1, b2, b3, b4].count true = 1) (hj : [b1, b2, b3, b4][j]? = some true) (hno : ∀ m, m < j → [b1, b2, b3, b4][m]? ≠ some true) (hw : (["fields", "calls", "views", "facts"] : List Str)[j]? = some wd)
    (hD : D = He.ga K "TooManyFields" ∨ D = He.ga K "TooManyCalls" ∨ D = He.ga K "TooManyViews" ∨ D = He.ga K "TooManyFacts")
    (hx : H dd = some (.xd [("limit", lv)])) (hrt : E.rt = Q) (q : ∀ H' p, DL.Ext H H' → H' p = none → Q (.ref p) (upd H' p (.tup [.str wd, lv]))) : ts3 K a (.ref D) (some dd) E σ H := by
  have st : ∀ {H'}, DL.Ext H H' → ∀ d', some dd = some d' → ∃ fs, H' d' = some (.xd fs) := fun {H'} x d' e => by
    cases e
    exact ⟨_, x _ _ hx⟩
  have x0 : DL.Ext H H := DL.Ext.refl H
  refine isX_read h2 hC k1 (st x0) (isX_read h2 hC k2 (st x0) (isX_read h2 hC k3 (st x0) ?_))
  refine ⟨by show 3 ≤ sizeLine; decide, fun p hp => ?_⟩
  have x1 : DL.Ext H (upd H p (.lst [.bl b1, .bl b2, .bl b3])) := DL.Ext.new hp
  have s3 : (σ.set 3 (some (V.ref p)))[3]? = some (some (V.ref p)) := List.getElem?_set_self (by omega)
  have s2 : (σ.set 3 (some (V.ref p)))[2]? = some (some (V.ref a)) := by rw [List.getElem?_set_ne (by decide)]; exact h2
  refine ⟨.ref p, s3, .inl ⟨rfl, _, .inl (.inl upd_same)⟩, ?_⟩
  refine isX_read s2 hC k4 (st x1) ?_
  refine ⟨p, [.bl b1, .bl b2, .bl b3], .bl b4, rfl, rfl, upd_same, by show 3 < sizeLine; decide, ?_⟩
  rw [upd_upd]
  have x2 : DL.Ext H (upd H p (.lst ([.bl b1, .bl b2, .bl b3] ++ [.bl b4]))) := DL.Ext.new hp
  refine ⟨by show 4 ≤ sizeLine; decide, fun p2 hp2 => ?_⟩
  have x3 := x2.trans (DL.Ext.new (o := .lst [.str "fields", .str "calls", .str "views", .str "facts"]) hp2)
  have hne : p ≠ p2 := fun z => by rw [← z, upd_same] at hp2; cases hp2
  have t4 : ((σ.set 3 (some (V.ref p))).set 4 (some (V.ref p2)))[4]? = some (some (V.ref p2)) := List.getElem?_set_self (by rw [List.length_set]; omega)
  have t3 : ((σ.set 3 (some (V.ref p))).set 4 (some (V.ref p2)))[3]? = some (some (V.ref p)) := by rw [List.getElem?_set_ne (by decide)]; exact s3
  have t2 : ((σ.set 3 (some (V.ref p))).set 4 (some (V.ref p2)))[2]? = some (some (V.ref a)) := by rw [List.getElem?_set_ne (by decide)]; exact s2
  have hp4 : (upd (upd H p (.lst ([.bl b1, .bl b2, .bl b3] ++ [.bl b4]))) p2 (.lst [.str "fields", .str "calls", .str "views", .str "facts"])) p = some (.lst ([b1, b2, b3, b4].map V.bl)) := by rw [upd_ne hne, upd_same]; rfl
  have sqk : SqL K (upd (upd H p (.lst ([.bl b1, .bl b2, .bl b3] ++ [.bl b4]))) p2 (.lst [.str "fields", .str "calls", .str "views", .str "facts"])) p ([b1, b2, b3, b4].map V.bl) := .inl (.inl hp4)
  -- the pair
  refine ⟨.ref p, t3, .inl ⟨rfl, _, sqk⟩, p, [b1, b2, b3, b4], true, rfl, rfl, sqk, ?_⟩
  rw [hcnt]
  refine ⟨.int 1, .int 1, .int _, .int _, rfl, rfl, true, rfl, ?_⟩
  dsimp only
  rw [if_pos rfl]
  have sqw : SqL K (upd (upd H p (.lst ([.bl b1, .bl b2, .bl b3] ++ [.bl b4]))) p2 (.lst [.str "fields", .str "calls", .str "views", .str "facts"])) p2 ((["fields", "calls", "views", "facts"] : List Str).map V.str) := .inl (.inl upd_same)
  refine ⟨.ref p2, t4, .ref p, t3, .inl ⟨rfl, _, sqk⟩, p, [b1, b2, b3, b4].map V.bl, .bl true, j, .bl true, rfl, rfl, sqk, rfl, flat_bls _, by rw [List.getElem?_map, hj]; rfl, rfl, fun m z hm hz => ?_, ?_⟩
  · rw [List.getElem?_map] at hz
    obtain ⟨b, hb, rfl⟩ := Option.map_eq_some_iff.mp hz
    have hne' : b ≠ true := fun e => hno m hm (by rw [hb, e])
    cases b with
    | true => exact absurd rfl hne'
    | false => rfl
  have hjl : j < 4 := by
    have := (List.getElem?_eq_some_iff.mp hj).1
    simpa using this
  refine .inl ⟨p2, _, (j : Int), .str wd, rfl, rfl, sqw, ?_, ?_⟩
  · rcases j with _ | _ | _ | _ | j
    · cases hw; rfl
    · cases hw; rfl
    · cases hw; rfl
    · cases hw; rfl
    · omega
  have hX : (upd (upd H p (.lst ([.bl b1, .bl b2, .bl b3] ++ [.bl b4]))) p2 (.lst [.str "fields", .str "calls", .str "views", .str "facts"])) dd = some (.xd [("limit", lv)]) := x3 _ _ hx
  have fin : tAlt (tX K a (.ref D) (some dd) "TooManyFields") (tAlt (tX K a (.ref D) (some dd) "TooManyCalls") (tAlt (tX K a (.ref D) (some dd) "TooManyViews") (tX K a (.ref D) (some dd) "TooManyFacts"))) ((σ.set 3 (some (V.ref p))).set 4 (some (V.ref p2)))
      (upd (upd H p (.lst ([.bl b1, .bl b2, .bl b3] ++ [.bl b4]))) p2 (.lst [.str "fields", .str "calls", .str "views", .str "facts"])) fun x H3 => ([V.str wd, x]).length ≤ sizeLine ∧ ∀ p, H3 p = none → E.rt (.ref p) (upd H3 p (.tup [.str wd, x])) := by
    have one : ∀ c : Str, D = He.ga K c → tX K a (.ref D) (some dd) c ((σ.set 3 (some (V.ref p))).set 4 (some (V.ref p2))) (upd (upd H p (.lst ([.bl b1, .bl b2, .bl b3] ++ [.bl b4]))) p2 (.lst [.str "fields", .str "calls", .str "views", .str "facts"]))
        fun x H3 => ([V.str wd, x]).length ≤ sizeLine ∧ ∀ p, H3 p = none → E.rt (.ref p) (upd H3 p (.tup [.str wd, x])) := fun c hc => by
      refine ⟨.ref a, t2, rfl, by rw [hc], dd, [("limit", lv)], lv, rfl, hX, by first | rfl | simp [List.lookup], by show 2 ≤ sizeLine; decide, fun p3 hp3 => ?_⟩
      rw [hrt]
      exact q _ p3 x3 hp3
    rcases hD with h | h | h | h
    · exact .inl (one _ h)
    · exact .inr (.inl (one _ h))
    · exact .inr (.inr (.inl (one _ h)))
    · exact .inr (.inr (.inr (one _ h)))
  exact fin
theorem err_read (H0 : Hy K mg) {B : Hid} {ds os : List D} {d : D} {vs : List V} {H : Hp} {Q : VK} (hs : ∀ b, B b → ∃ o, H b = some o) (ar : AR K B H [false, false] ds vs) (e : F__law_error ds = some (d, os))
    (q : ∀ v H', DL.Ext H H' → Rep K B H' d v → Q v H') : t_err K { nx := fun _ H' => Q .non H', rt := Q } (start ["one", "two", "e", "kinds", "words"] vs) H := by
  cases ar with
  | sh r1 t =>
  cases t with
  | sh r2 t =>
  cases t
  rename_i d1 v1 d2 v2
  unfold F__law_error at e
  dsimp only at e
  refine ⟨v2, rfl, v1, rfl, v2, v1, rfl, ?_⟩
  split at e
  · rename_i d0 eF
    cases e
    refine ⟨B, [d1, d2], _, hs, .cons r1 (.cons r2 .nil), eF, fun v H' x rd => ?_⟩
    refine ⟨by show 2 ≤ sizeLine; decide, fun p hp => ?_⟩
    have y : DL.Ext H' (upd H' p (.tup [.str "fine", v])) := DL.Ext.new hp
    have hs' : ∀ b, B b → ∃ o, H' b = some o := fun b z => let ⟨o, h⟩ := hs b z; ⟨o, x _ _ h⟩
    exact q _ _ (x.trans y) (rep_newT hs' hp (.cons (.str _) (.cons rd .nil)))
  · rename_i c fs eF
    obtain ⟨d0, e1, e2⟩ := Option.map_eq_some_iff.mp e
    cases e2
    refine ⟨B, [d1, d2], _, hs, .cons r1 (.cons r2 .nil), eF, fun cls dd H' x xf => ?_⟩
    obtain ⟨ec, xf⟩ := xf
    subst ec
    have hs' : ∀ b, B b → ∃ o, H' b = some o := fun b z => let ⟨o, h⟩ := hs b z; ⟨o, x _ _ h⟩
    show DLX.wManyA K (fun _ _ _ _ => False) _ (clauses K) _ dd _ H'
    unfold hdl at e1
    split at e1
    · split at e1
      · rename_i hc
        subst hc
        cases e1
        have edd : dd = none := by
          rcases xf with h | ⟨h, _⟩
          · exact h.2
          · exact absurd rfl h
        subst edd
        refine ⟨false, H0.xk.exm _ _ _ (by decide +kernel), fun h => (by cases h), fun _ => ?_⟩
        refine ⟨true, H0.xk.exm _ _ _ (by decide +kernel), fun _ a ha => ?_, fun h => (by cases h)⟩
        have hE := H0.xk.exc "NotComparable" (by decide +kernel)
        refine isX_read rfl hE (H0.xk.kit _ _ true (by decide +kernel)) (fun _ z => by cases z) ⟨true, rfl, ?_⟩
        rw [if_pos rfl]
        refine isX_read rfl hE (H0.xk.kit _ _ false (by decide +kernel)) (fun _ z => by cases z) ⟨false, rfl, ?_⟩
        refine ⟨by show 2 ≤ sizeLine; decide, fun p hp => ?_⟩
        have y : DL.Ext H' (upd H' p (.tup [.str "apart", .bl true])) := DL.Ext.new hp
        exact q _ _ (x.trans y) (rep_newT hs' hp (.cons (.str _) (.cons (.bl _) .nil)))
      · cases e1
    · rename_i f dv
      obtain ⟨ddv, vfs, e3, hx, nb, rf⟩ : ∃ d vfs, dd = some d ∧ H' d = some (.xd vfs) ∧ ¬ B d ∧ Repf K B H' [(f, dv)] vfs := by
        rcases xf with h | ⟨_, h⟩
        · cases h.1
        · exact h
      subst e3
      cases rf with
      | cons rd rn =>
      cases rn
      rename_i lv
      have tk : ∀ (wd : Str) (H2 : Hp) (p : Addr), DL.Ext H' H2 → H2 p = none → Q (.ref p) (upd H2 p (.tup [.str wd, lv])) ∨ True := fun _ _ _ _ _ => .inr trivial
      have ret : ∀ (wd : Str), d = .tup [.str wd, dv] → ∀ (H2 : Hp) (p : Addr), DL.Ext H' H2 → H2 p = none → Q (.ref p) (upd H2 p (.tup [.str wd, lv])) := fun wd ed H2 p x2 hp => by
        subst ed
        have y : DL.Ext H2 (upd H2 p (.tup [.str wd, lv])) := DL.Ext.new hp
        have hs2 : ∀ b, B b → ∃ o, H2 b = some o := fun b z => let ⟨o, h⟩ := hs' b z; ⟨o, x2 _ _ h⟩
        exact q _ _ ((x.trans x2).trans y) (rep_newT hs2 hp (.cons (.str _) (.cons (rd.grow x2.grow) .nil)))
      split at e1
      · rename_i hc
        obtain ⟨rfl, rfl⟩ := hc
        cases e1
        refine ⟨true, H0.xk.exm _ _ _ (by decide +kernel), fun _ a ha => ?_, fun h => (by cases h)⟩
        refine ⟨.ref a, rfl, rfl, rfl, ddv, _, lv, rfl, hx, by first | rfl | simp [List.lookup], by show 2 ≤ sizeLine; decide, fun p hp => ?_⟩
        exact ret _ rfl H' p (DL.Ext.refl H') hp
      · have three : ∀ (c : Str) (b1 b2 b3 b4 : Bool) (j : Nat) (wd : Str), f = "limit" → exmT c "NotADesign" = some false → exmT c "NotComparable" = some false → exmT c "LimitError" = some true → decide (c ∈ excX) = true →
            kitT c "TooManyFields" = some b1 → kitT c "TooManyCalls" = some b2 → kitT c "TooManyViews" = some b3 → kitT c "TooManyFacts" = some b4 → [b1, b2, b3, b4].count true = 1 → [b1, b2, b3, b4][j]? = some true → (∀ m, m < j → [b1, b2, b3, b4][m]? ≠ some true) →
            (["fields", "calls", "views", "facts"] : List Str)[j]? = some wd → (c = "TooManyFields" ∨ c = "TooManyCalls" ∨ c = "TooManyViews" ∨ c = "TooManyFacts") → d = .tup [.str wd, dv] →
            DLX.wManyA K (fun _ _ _ _ => False) { nx := fun _ H' => Q .non H', rt := Q } (clauses K) (.ref (He.ga K c)) (some ddv) [some v1, some v2, none, none, none] H' := by
          intro c b1 b2 b3 b4 j wd ef m1 m2 m3 hex k1 k2 k3 k4 hc hj hno hw hcs ed
          subst ef
          refine ⟨false, H0.xk.exm _ _ _ m1, fun h => (by cases h), fun _ => ?_⟩
          refine ⟨false, H0.xk.exm _ _ _ m2, fun h => (by cases h), fun _ => ?_⟩
          refine ⟨true, H0.xk.exm _ _ _ m3, fun _ a ha => ?_, fun h => (by cases h)⟩
          refine three_read (lv := lv) (Q := Q) rfl rfl (H0.xk.exc c hex) (H0.xk.kit _ _ _ k1) (H0.xk.kit _ _ _ k2) (H0.xk.kit _ _ _ k3) (H0.xk.kit _ _ _ k4) hc hj hno hw ?_ hx rfl fun H2 p x2 hp => ret wd ed H2 p x2 hp
          rcases hcs with h | h | h | h <;> subst h
          · exact .inl rfl
          · exact .inr (.inl rfl)
          · exact .inr (.inr (.inl rfl))
          · exact .inr (.inr (.inr rfl))
        have nlt : ∀ {bs : List Bool} (j : Nat), bs.take j = List.replicate j false → j ≤ bs.length → ∀ m, m < j → bs[m]? ≠ some true := fun {bs} j ht hl m hm h => by
          have h2 : (bs.take j)[m]? = some true := by rw [List.getElem?_take_of_lt hm]; exact h
          rw [ht, List.getElem?_replicate, if_pos hm] at h2
          cases h2
        split at e1
        · rename_i hc
          obtain ⟨rfl, ef⟩ := hc
          cases e1
          exact three _ true false false false 0 _ ef (by decide +kernel) (by decide +kernel) (by decide +kernel) (by decide +kernel) (by decide +kernel) (by decide +kernel) (by decide +kernel) (by decide +kernel) (by decide) rfl (nlt 0 rfl (by decide)) rfl (.inl rfl) rfl
        · split at e1
          · rename_i hc
            obtain ⟨rfl, ef⟩ := hc
            cases e1
            exact three _ false true false false 1 _ ef (by decide +kernel) (by decide +kernel) (by decide +kernel) (by decide +kernel) (by decide +kernel) (by decide +kernel) (by decide +kernel) (by decide +kernel) (by decide) rfl (nlt 1 rfl (by decide)) rfl (.inr (.inl rfl)) rfl
          · split at e1
            · rename_i hc
              obtain ⟨rfl, ef⟩ := hc
              cases e1
              exact three _ false false true false 2 _ ef (by decide +kernel) (by decide +kernel) (by decide +kernel) (by decide +kernel) (by decide +kernel) (by decide +kernel) (by decide +kernel) (by decide +kernel) (by decide) rfl (nlt 2 rfl (by decide)) rfl (.inr (.inr (.inl rfl))) rfl
            · split at e1
              · rename_i hc
                obtain ⟨rfl, ef⟩ := hc
                cases e1
                exact three _ false false false true 3 _ ef (by decide +kernel) (by decide +kernel) (by decide +kernel) (by decide +kernel) (by decide +kernel) (by decide +kernel) (by decide +kernel) (by decide +kernel) (by decide) rfl (nlt 3 rfl (by decide)) rfl (.inr (.inr (.inr rfl))) rfl
              · cases e1
    · cases e1
  · cases e
theorem w__law_error (H0 : Hy K mg) : CalD P w K mg base 40 "_law_error" (SpF K [false, false] F__law_error) := by
  obtain ⟨fd, F, ⟨u, hm, r⟩, b⟩ := H0.d__law_error.ex
  cases r
  refine ⟨fd, _, L2.Fun.ok (k := 39) F S__law_error (fun vs H Q E h => ?_) (fun cdv A outer s H vs Q E hr h => ⟨t_err K, ps_err H0 cdv A outer s H E hr, ?_⟩), hm, F.kp, b⟩
  · obtain ⟨B, ds, d, os, _, ar, _⟩ := h
    exact ar.len.2
  · obtain ⟨B, ds, d, os, hs, ar, nd, e, q⟩ := h
    refine err_read H0 hs ar e fun v H' x rv => q v H' (fun b o z _ => x b o z) (fun b o z => ⟨o, x b o z⟩) ?_ rv
    have eo : os = [.non, .non] := by
      unfold F__law_error at e
      split at e
      · split at e
        · cases e; rfl
        · obtain ⟨_, _, e2⟩ := Option.map_eq_some_iff.mp e
          cases e2; rfl
        · cases e
      · cases e
    subst eo
    cases ar with
    | sh r1 t =>
    cases t with
    | sh r2 t =>
    cases t
    exact .sh (.sh .nil)

abbrev st__law_right : Stmt := top 95
theorem S__law_right : FnScope ["purse", "one", "two", "mine", "other", "told", "due", "odd"] ["purse"] (defScope st__law_right) := ⟨rfl, rfl, rfl, by decide +kernel, rfl, by decide +kernel, by decide +kernel⟩
def g__law_right  : FS := (gSeq (gAsg (fCall [true] F__law_menu (faOwn 0 faNil)) (pName 1)) (gSeq (gAsg (fCall [true, false] F__law_second (faOwn 0 (faCons (fVar 1) faNil))) (pName 2)) (gSeq (gAsg (fIf (fBt (fOp (eqO "Design" F_Design_eq 3) (fCall [true, false] F__law_draw (faOwn 0 (faCons (fC (.int (3))) faNil))) (fC (.int (0))))) (fVar 2) (fCall [true, false, false] F__law_spoilt (faOwn 0 (faCons (fVar 1) (faCons (fVar 2) faNil))))) (pName 2)) (gSeq (gPar [3, 4] (fvVal (fCall [false] F__law_design (faCons (fVar 1) faNil)) (fvVal (fCall [false] F__law_design (faCons (fVar 2) faNil)) fvNil))) (gSeq (gPar [5, 6] (fvVal (fCall [false, false] F__law_error (faCons (fVar 3) (faCons (fVar 4) faNil))) (fvVal (fCall [false, false] F__law_due (faCons (fVar 1) (faCons (fVar 2) faNil))) fvNil))) (gSeq (gIf (ftOr (fBt (fOp (neO "Design" F_Design_eq 3) (fVar 5) (fVar 6))) (ftAnd (fBt (fOp (eqO "Design" F_Design_eq 3) (fOp ixD (fVar 6) (fC (.int (0)))) (fC (.str "fine")))) (fBt (fOp (neO "Design" F_Design_eq 3) (fCallX F_beside (faCons (fVar 3) (faCons (fVar 4) faNil))) (fOp ixD (fVar 6) (fC (.int (1)))))))) (gRet (fC (.bl false))) gNext) (gSeq (gAsg (fCall [true, false] F__law_pick (faOwn 0 (faCons (fL (fLst (faCons (fC .non) (faCons (fC (.int (0))) (faCons (fC (.str "")) (faCons (fTup faNil) (faCons (fL (fLst faNil)) (faCons (fVar 1) (faCons (fC (.bl true)) faNil))))))))) faNil))) (pName 7)) (gSeq (gIf (ftOr (fBt (fOp (neO "Design" F_Design_eq 3) (fCall [false, false] F__law_error (faCons (fVar 7) (faCons (fVar 4) faNil))) (fTup (faCons (fC (.str "design")) (faCons (fVar 7) faNil))))) (fBt (fOp (neO "Design" F_Design_eq 3) (fCall [false, false] F__law_error (faCons (fVar 3) (faCons (fVar 7) faNil))) (fTup (faCons (fC (.str "design")) (faCons (fVar 7) faNil)))))) (gRet (fC (.bl false))) gNext) (gRet (fAnd (fOp (eqO "Design" F_Design_eq 3) (fCall [false, false] F__law_error (faCons (fVar 7) (faCons (fC .non) faNil))) (fTup (faCons (fC (.str "design")) (faCons (fVar 7) faNil)))) (fAnd (fOp (eqO "Design" F_Design_eq 3) (fVar 3) (fCall [false] F__law_design (faCons (fVar 1) faNil))) (fOp (eqO "Design" F_Design_eq 3) (fVar 4) (fCall [false] F__law_design (faCons (fVar 2) faNil))))))))))))))
def F__law_right : DF := bodyF 8 [true] g__law_right
theorem w__law_right (H0 : Hy K mg) : CalD P w K mg base 41 "_law_right" (SpF K [true] F__law_right) := by
  have G := H0.G
  have hC := H0.hC
  have hT := H0.hT
  have S := S__law_right
  exact (cal_of (N := ["purse", "one", "two", "mine", "other", "told", "due", "odd"]) (ms := [true]) (k := 40) (g := g__law_right) H0.d__law_right S rfl
    (ds_seq (ds_asg (de_call (da_own 0 da_nil)) (dg_name 1)) (ds_seq (ds_asg (de_call (da_own 0 (da_cons (de_var 1) da_nil))) (dg_name 2)) (ds_seq (ds_asg (de_if (dt_bl (de_op dr_eqO (de_call (da_own 0 (da_cons (de_int (3)) da_nil))) (de_int (0)))) (de_var 2) (de_call (da_own 0 (da_cons (de_var 1) (da_cons (de_var 2) da_nil))))) (dg_name 2)) (ds_seq (ds_par (dv_val (de_call (da_cons (de_var 1) da_nil)) (dv_val (de_call (da_cons (de_var 2) da_nil)) dv_nil))) (ds_seq (ds_par (dv_val (de_call (da_cons (de_var 3) (da_cons (de_var 4) da_nil))) (dv_val (de_call (da_cons (de_var 1) (da_cons (de_var 2) da_nil))) dv_nil))) (ds_seq (ds_if (dt_or (dt_bl (de_op dr_neO (de_var 5) (de_var 6))) (dt_and (dt_bl (de_op dr_eqO (de_op dr_ix (de_var 6) (de_int (0))) (de_str "fine"))) (dt_bl (de_op dr_neO (de_callX (da_cons (de_var 3) (da_cons (de_var 4) da_nil))) (de_op dr_ix (de_var 6) (de_int (1))))))) (ds_ret (de_bl false)) ds_next) (ds_seq (ds_asg (de_call (da_own 0 (da_cons (de_new (dn_lst (da_cons de_non (da_cons (de_int (0)) (da_cons (de_str "") (da_cons (de_tup da_nil) (da_cons (de_new (dn_lst da_nil)) (da_cons (de_var 1) (da_cons (de_bl true) da_nil))))))))) da_nil))) (dg_name 7)) (ds_seq (ds_if (dt_or (dt_bl (de_op dr_neO (de_call (da_cons (de_var 7) (da_cons (de_var 4) da_nil))) (de_tup (da_cons (de_str "design") (da_cons (de_var 7) da_nil))))) (dt_bl (de_op dr_neO (de_call (da_cons (de_var 3) (da_cons (de_var 7) da_nil))) (de_tup (da_cons (de_str "design") (da_cons (de_var 7) da_nil)))))) (ds_ret (de_bl false)) ds_next) (ds_ret (de_and (de_op dr_eqO (de_call (da_cons (de_var 7) (da_cons de_non da_nil))) (de_tup (da_cons (de_str "design") (da_cons (de_var 7) da_nil)))) (de_and (de_op dr_eqO (de_var 3) (de_call (da_cons (de_var 1) da_nil))) (de_op dr_eqO (de_var 4) (de_call (da_cons (de_var 2) da_nil))))))))))))))
    (fun cdv A outer s H E hr => (pss_cons (ps_set S.nd (i := 1) rfl (Or.inl rfl) (pe_cd (w__law_menu H0) hr (by decide) rfl (pa_cons (pv 0) pa_nil))) (pss_cons (ps_set S.nd (i := 2) rfl (Or.inl rfl) (pe_cd (w__law_second H0) hr (by decide) rfl (pa_cons (pv 0) (pa_cons (pv 1) pa_nil)))) (pss_cons (ps_set S.nd (i := 2) rfl (Or.inl rfl) (pe_ifExp (pt_cmpR ((op_eqD hr.units).or (op_eqO (w_Design_eq H0) 3 hr (by decide))) (pe_cd (w__law_draw H0) hr (by decide) rfl (pa_cons (pv 0) (pa_cons pe_int pa_nil))) pe_int (nomark _)) (pv 2) (pe_cd (w__law_spoilt H0) hr (by decide) rfl (pa_cons (pv 0) (pa_cons (pv 1) (pa_cons (pv 2) pa_nil)))))) (pss_cons (ps_par (i := 3) (j := 4) rfl S.nd rfl rfl (by decide) rfl rfl (pa_cons (pe_cd (w__law_design H0) hr (by decide) rfl (pa_cons (pv 1) pa_nil)) (pa_cons (pe_cd (w__law_design H0) hr (by decide) rfl (pa_cons (pv 2) pa_nil)) pa_nil)) rfl) (pss_cons (ps_par (i := 5) (j := 6) rfl S.nd rfl rfl (by decide) rfl rfl (pa_cons (pe_cd (w__law_error H0) hr (by decide) rfl (pa_cons (pv 3) (pa_cons (pv 4) pa_nil))) (pa_cons (pe_cd (w__law_due H0) hr (by decide) rfl (pa_cons (pv 1) (pa_cons (pv 2) pa_nil))) pa_nil)) rfl) (pss_cons (ps_if (PW.pt (pw_or (pt_cmpR ((op_neD hr.units).or (op_neO H0.neC (w_Design_eq H0) 3 hr (by decide))) (pv 5) (pv 6) (nomark _)) (pw_or1 (PW.pt (pw_and (pt_cmpR ((op_eqD hr.units).or (op_eqO (w_Design_eq H0) 3 hr (by decide))) (pe_ix ix_seq (pv 6) pe_int (fun _ _ => rfl)) pe_str (nomark _)) (pw_and1 (pt_cmpR ((op_neD hr.units).or (op_neO H0.neC (w_Design_eq H0) 3 hr (by decide))) (pe_cx (w_beside H0).cal hr (by decide) takes0 rfl (pa_cons (pv 3) (pa_cons (pv 4) pa_nil))) (pe_ix ix_seq (pv 6) pe_int (fun _ _ => rfl)) (nomark _)))))))) (pss_one (ps_ret pe_bl)) pss_nil) (pss_cons (ps_set S.nd (i := 7) rfl (Or.inl rfl) (pe_cd (w__law_pick H0) hr (by decide) rfl (pa_cons (pv 0) (pa_cons (pe_lst (pa_cons pe_non (pa_cons pe_int (pa_cons pe_str (pa_cons (pe_tup pa_nil) (pa_cons (pe_lst pa_nil) (pa_cons (pv 1) (pa_cons pe_bl pa_nil)))))))) pa_nil)))) (pss_cons (ps_if (PW.pt (pw_or (pt_cmpR ((op_neD hr.units).or (op_neO H0.neC (w_Design_eq H0) 3 hr (by decide))) (pe_cd (w__law_error H0) hr (by decide) rfl (pa_cons (pv 7) (pa_cons (pv 4) pa_nil))) (pe_tup (pa_cons pe_str (pa_cons (pv 7) pa_nil))) (nomark _)) (pw_or1 (pt_cmpR ((op_neD hr.units).or (op_neO H0.neC (w_Design_eq H0) 3 hr (by decide))) (pe_cd (w__law_error H0) hr (by decide) rfl (pa_cons (pv 3) (pa_cons (pv 7) pa_nil))) (pe_tup (pa_cons pe_str (pa_cons (pv 7) pa_nil))) (nomark _))))) (pss_one (ps_ret pe_bl)) pss_nil) (pss_one (ps_ret (pe_andT (pe_cmpR ((op_eqD hr.units).or (op_eqO (w_Design_eq H0) 3 hr (by decide))) (pe_cd (w__law_error H0) hr (by decide) rfl (pa_cons (pv 7) (pa_cons pe_non pa_nil))) (pe_tup (pa_cons pe_str (pa_cons (pv 7) pa_nil))) (nomark _)) (pe_andT (pe_cmpR ((op_eqD hr.units).or (op_eqO (w_Design_eq H0) 3 hr (by decide))) (pv 3) (pe_cd (w__law_design H0) hr (by decide) rfl (pa_cons (pv 1) pa_nil)) (nomark _)) (pe_one (pe_cmpR ((op_eqD hr.units).or (op_eqO (w_Design_eq H0) 3 hr (by decide))) (pv 4) (pe_cd (w__law_design H0) hr (by decide) rfl (pa_cons (pv 2) pa_nil)) (nomark _)))))))))))))))) :)
abbrev st_law : Stmt := top 96
theorem S_law : FnScope ["script", "purse", "turn"] ["script"] (defScope st_law) := ⟨rfl, rfl, rfl, by decide +kernel, rfl, by decide +kernel, by decide +kernel⟩
def g_law  : FS := (gSeq (gAsgN (fCallN F__law_purse (faCons (fVar 0) faNil)) 1) (gRet (fCB allD (faCons (fL (fLc [2] (fRng1 (faCons (fC (.int (5))) faNil)) (pName 2) fYes (fCall [true] F__law_right (faOwn 1 faNil)))) faNil))))
def F_law : DF := bodyF 3 [false] g_law
theorem w_law (H0 : Hy K mg) : CalD P w K mg base 42 "law" (SpF K [false] F_law) := by
  have G := H0.G
  have hC := H0.hC
  have hT := H0.hT
  have S := S_law
  exact (cal_of (N := ["script", "purse", "turn"]) (ms := [false]) (k := 41) (g := g_law) H0.d_law S rfl
    (ds_seq (ds_asgN (dn_callN (da_cons (de_var 0) da_nil)) 1) (ds_ret (de_cb crd_all (da_cons (de_new (dn_lc (vs := [2]) (di_rng1 (da_cons (de_int (5)) da_nil)) (dg_name 2) (by decide) dt_yes (de_call (da_own 1 da_nil)) (tame_name 2))) da_nil))))
    (fun cdv A outer s H E hr => (pss_cons (ps_set S.nd (i := 1) rfl (Or.inr rfl) (pe_cd (w__law_purse H0) hr (by decide) rfl (pa_cons (pv 0) pa_nil))) (pss_one (ps_ret (pe_callB (cr_all rfl) rfl (G.free 2 _ rfl) (by decide +kernel) (pa_cons (pe_lc (own := [("turn", 2)]) rfl S.nd (pi_range1 rfl (G.free 11 _ rfl) (pa_cons pe_int pa_nil)) (blk_by (by kernel_rfl)) (fun _ _ _ _ _ => (pg_name S.nd (i := 2) rfl (Or.inl rfl))) (fun _ _ _ _ _ => pts_nil) (fun _ _ _ _ _ => (pe_cd (w__law_right H0) hr (by decide) rfl (pa_cons (pv 1) pa_nil)))) pa_nil)))))) :)
theorem ok_law {fd : FuncData} (H0 : Hy K mg) (F : Fun K "law" "law" st_law (He.ga K "law") fd) : FnOk P w K mg base CX0 42 (He.ga K "law") fd ["script"] (SpF K [false] F_law) := by
  have G := H0.G
  have hC := H0.hC
  have hT := H0.hT
  have S := S_law
  exact (fn_body (N := ["script", "purse", "turn"]) (ms := [false]) (k := 41) (g := g_law) F S rfl
    (ds_seq (ds_asgN (dn_callN (da_cons (de_var 0) da_nil)) 1) (ds_ret (de_cb crd_all (da_cons (de_new (dn_lc (vs := [2]) (di_rng1 (da_cons (de_int (5)) da_nil)) (dg_name 2) (by decide) dt_yes (de_call (da_own 1 da_nil)) (tame_name 2))) da_nil))))
    (fun cdv A outer s H E hr => (pss_cons (ps_set S.nd (i := 1) rfl (Or.inr rfl) (pe_cd (w__law_purse H0) hr (by decide) rfl (pa_cons (pv 0) pa_nil))) (pss_one (ps_ret (pe_callB (cr_all rfl) rfl (G.free 2 _ rfl) (by decide +kernel) (pa_cons (pe_lc (own := [("turn", 2)]) rfl S.nd (pi_range1 rfl (G.free 11 _ rfl) (pa_cons pe_int pa_nil)) (blk_by (by kernel_rfl)) (fun _ _ _ _ _ => (pg_name S.nd (i := 2) rfl (Or.inl rfl))) (fun _ _ _ _ _ => pts_nil) (fun _ _ _ _ _ => (pe_cd (w__law_right H0) hr (by decide) rfl (pa_cons (pv 1) pa_nil)))) pa_nil)))))) :)
end
end W77

end

section
set_option maxRecDepth 100000
set_option maxHeartbeats 0
/-! The head of k77, printed by genhd.py. -/
namespace W77
open PySem PySem.Spec L2 DL
theorem ps_ValueError : ∀ self : Value, refuseLoop self "__setattr__" tlValueError = pure () := fun self => by kernel_rfl
theorem ps_ArithmeticError : ∀ self : Value, refuseLoop self "__setattr__" tlArithmeticError = pure () := fun self => by kernel_rfl
theorem kitB_ok : ∀ s ∈ tyB, ∀ t ∈ tyT, kitB s t = some (decide (s = t)) := by decide +kernel
section
variable {K : PySem.W.Frag} {mg : Str → Option Value} {h : Heap}
theorem hC_of (c : b3 K = true) : ClsOk K CF := fun x f e => by
  obtain ⟨c1, c2⟩ := ban c
  obtain ⟨e1, e2⟩ := ban e
  cases of_decide_eq_true e1
  exact ⟨He.cls_ok c1, He.noat_ok (List.all_eq_true.mp c2 f (of_decide_eq_true e2))⟩
theorem hT_of (c : b5 K = true) : KtOk K kt := by
  obtain ⟨c1, c⟩ := ban c
  obtain ⟨c2, c3⟩ := ban c
  refine ⟨fun s t b e => ?_, fun x t b e => ?_⟩
  · cases s with
    | b s =>
      cases t with
      | b t =>
        dsimp only [kt] at e
        split at e
        · rename_i q
          cases e
          exact kit_ty (kitB_ok s q.1 t q.2)
        · cases e
      | u d =>
        dsimp only [kt] at e
        split at e
        · rename_i q
          cases e
          cases q.2
          exact of_decide_eq_true (List.all_eq_true.mp c2 s q.1)
        · cases e
    | u d =>
      cases t with
      | b t =>
        dsimp only [kt] at e
        split at e
        · rename_i q
          cases e
          cases q.1
          exact of_decide_eq_true (List.all_eq_true.mp c1 t q.2)
        · cases e
      | u d2 =>
        dsimp only [kt] at e
        split at e
        · rename_i q
          cases e
          cases q.1
          cases q.2
          exact if_pos (beq_self_eq_true _)
        · cases e
  · have : x = "Design" := by
      cases t <;> dsimp only [kt] at e <;> split at e
      all_goals first
        | (rename_i q; exact q.1)
        | cases e
    cases this
    exact ask_of c3
theorem xk_of (c7 : b7 K = true) (c8 : b8 K = true) (c9 : b9 K = true) (c10 : b10 K = true) : ExcK K := by
  refine ⟨fun c t b e => ?_, fun c t b e => ?_, fun c e => ?_, fun c f e => ?_⟩
  · unfold exmT at e
    split at e
    · rename_i q
      cases e
      exact of_decide_eq_true (List.all_eq_true.mp (List.all_eq_true.mp c7 c q.1) t q.2)
    · cases e
  · unfold kitT at e
    split at e
    · rename_i q
      cases e
      exact of_decide_eq_true (List.all_eq_true.mp (List.all_eq_true.mp c8 c q.1) t q.2)
    · cases e
  · exact excC_of (List.all_eq_true.mp c9 c (of_decide_eq_true e))
  · have m := of_decide_eq_true e
    obtain ⟨q1, q2⟩ := ban (List.all_eq_true.mp c10 (c, f) m)
    exact ⟨xfB_ok q1, of_decide_eq_true q2⟩
theorem hy_of {fa : List He.Fa} (X : K.In h) (G : h.Ns mainGlobals mg) (c : He.SaysD fa fn K) (q : xb K = true) : Hy K mg := by
  obtain ⟨q1, q⟩ := ban q
  obtain ⟨q2, q⟩ := ban q
  obtain ⟨q3, q⟩ := ban q
  obtain ⟨q4, q⟩ := ban q
  obtain ⟨q5, q⟩ := ban q
  obtain ⟨q6, q⟩ := ban q
  obtain ⟨q7, q⟩ := ban q
  obtain ⟨q8, q⟩ := ban q
  obtain ⟨q9, q⟩ := ban q
  obtain ⟨q10, q⟩ := ban q
  obtain ⟨q11, q⟩ := ban q
  obtain ⟨q12, q13⟩ := ban q
  have GG : GW K mg gf gi gs gt go := gw_of X G q1
  have gl : ∀ x, x ∈ globs → (He.Fa.glo x).ok K = true := fun x m => List.all_eq_true.mp q2 x m
  have hcls := (ban q3).1
  have me : ∀ m, m ∈ meths → (He.Fa.meth "Design" m).ok K = true := fun m z => List.all_eq_true.mp (ban q4).2 m z
  have hmk := (ban q4).1
  obtain ⟨w1, w⟩ := ban q1
  obtain ⟨w2, w⟩ := ban w
  obtain ⟨w3, w⟩ := ban w
  obtain ⟨w4, w5⟩ := ban w
  have hglo : (He.Fa.glo "Design").ok K = true := List.all_eq_true.mp w5 "Design" (by decide +kernel)
  have oxe : ∀ (x : Str) (n : String) (l : List Value), (x, n, l) ∈ oxl → oexB K (He.ga K x) n l = true := fun x n l m => List.all_eq_true.mp q12 (x, n, l) m
  have dee : ∀ (x f : Str), (x, f) ∈ del → deB K x f = true := fun x f m => List.all_eq_true.mp q13 (x, f) m
  exact {
    G := GG
    hC := hC_of q3
    hT := hT_of q5
    ne := of_decide_eq_true q6
    xk := xk_of q7 q8 q9 q10
    neC := ne_of (ban q11).1
    e_NotComparable := ex0_of X G PySem.F.excBase_LookupError (ban q11).2
    x_NotADesign := de_of X G c (q := "NotADesign.__init__") 0 rfl (oex_of PySem.F.excBase_ValueError ps_ValueError (by decide +kernel) (oxe "NotADesign" "ValueError.__new__" tlValueError (by simp [oxl]))) (dee "NotADesign" "value" (by simp [del])) (fun _ _ _ _ _ _ us hl => match us, hl with | [_, _], _ => rfl)
    x_TooManyFields := de_of X G c (q := "TooManyFields.__init__") 1 rfl (oex_of PySem.F.excBase_ArithmeticError ps_ArithmeticError (by decide +kernel) (oxe "TooManyFields" "ArithmeticError.__new__" tlArithmeticError (by simp [oxl]))) (dee "TooManyFields" "limit" (by simp [del])) (fun _ _ _ _ _ _ us hl => match us, hl with | [_, _], _ => rfl)
    x_TooManyCalls := de_of X G c (q := "TooManyCalls.__init__") 2 rfl (oex_of PySem.F.excBase_ArithmeticError ps_ArithmeticError (by decide +kernel) (oxe "TooManyCalls" "ArithmeticError.__new__" tlArithmeticError (by simp [oxl]))) (dee "TooManyCalls" "limit" (by simp [del])) (fun _ _ _ _ _ _ us hl => match us, hl with | [_, _], _ => rfl)
    x_TooManyViews := de_of X G c (q := "TooManyViews.__init__") 3 rfl (oex_of PySem.F.excBase_ArithmeticError ps_ArithmeticError (by decide +kernel) (oxe "TooManyViews" "ArithmeticError.__new__" tlArithmeticError (by simp [oxl]))) (dee "TooManyViews" "limit" (by simp [del])) (fun _ _ _ _ _ _ us hl => match us, hl with | [_, _], _ => rfl)
    x_TooManyFacts := de_of X G c (q := "TooManyFacts.__init__") 4 rfl (oex_of PySem.F.excBase_ArithmeticError ps_ArithmeticError (by decide +kernel) (oxe "TooManyFacts" "ArithmeticError.__new__" tlArithmeticError (by simp [oxl]))) (dee "TooManyFacts" "limit" (by simp [del])) (fun _ _ _ _ _ _ us hl => match us, hl with | [_, _], _ => rfl)
    d_is_name := df_of X G c 5 rfl (gl "is_name" (by decide +kernel)) (fun _ _ _ _ _ _ us hl => match us, hl with | [_], _ => rfl)
    d_is_field_name := df_of X G c 6 rfl (gl "is_field_name" (by decide +kernel)) (fun _ _ _ _ _ _ us hl => match us, hl with | [_], _ => rfl)
    d_is_row := df_of X G c 7 rfl (gl "is_row" (by decide +kernel)) (fun _ _ _ _ _ _ us hl => match us, hl with | [_, _], _ => rfl)
    d_wrong_name := df_of X G c 8 rfl (gl "wrong_name" (by decide +kernel)) (fun _ _ _ _ _ _ us hl => match us, hl with | [_, _], _ => rfl)
    d_is_form := df_of X G c 9 rfl (gl "is_form" (by decide +kernel)) (fun _ _ _ _ _ _ us hl => match us, hl with | [_], _ => rfl)
    d_words_of := df_of X G c 10 rfl (gl "words_of" (by decide +kernel)) (fun _ _ _ _ _ _ us hl => match us, hl with | [_], _ => rfl)
    d_depth_of := df_of X G c 11 rfl (gl "depth_of" (by decide +kernel)) (fun _ _ _ _ _ _ us hl => match us, hl with | [_], _ => rfl)
    d_is_small := df_of X G c 12 rfl (gl "is_small" (by decide +kernel)) (fun _ _ _ _ _ _ us hl => match us, hl with | [_], _ => rfl)
    d_is_form_of := df_of X G c 13 rfl (gl "is_form_of" (by decide +kernel)) (fun _ _ _ _ _ _ us hl => match us, hl with | [_, _, _], _ => rfl)
    d_form_text := df_of X G c 14 rfl (gl "form_text" (by decide +kernel)) (fun _ _ _ _ _ _ us hl => match us, hl with | [_], _ => rfl)
    d_side_text := df_of X G c 15 rfl (gl "side_text" (by decide +kernel)) (fun _ _ _ _ _ _ us hl => match us, hl with | [_], _ => rfl)
    d_check_fields := df_of X G c 16 rfl (gl "check_fields" (by decide +kernel)) (fun _ _ _ _ _ _ us hl => match us, hl with | [_], _ => rfl)
    d_check_modes := df_of X G c 17 rfl (gl "check_modes" (by decide +kernel)) (fun _ _ _ _ _ _ us hl => match us, hl with | [_], _ => rfl)
    d_is_fact := df_of X G c 18 rfl (gl "is_fact" (by decide +kernel)) (fun _ _ _ _ _ _ us hl => match us, hl with | [_, _, _], _ => rfl)
    d_are_updates := df_of X G c 19 rfl (gl "are_updates" (by decide +kernel)) (fun _ _ _ _ _ _ us hl => match us, hl with | [_, _, _], _ => rfl)
    d_is_case := df_of X G c 20 rfl (gl "is_case" (by decide +kernel)) (fun _ _ _ _ _ _ us hl => match us, hl with | [_, _, _, _], _ => rfl)
    d_is_call := df_of X G c 21 rfl (gl "is_call" (by decide +kernel)) (fun _ _ _ _ _ _ us hl => match us, hl with | [_, _, _], _ => rfl)
    d_check_calls := df_of X G c 22 rfl (gl "check_calls" (by decide +kernel)) (fun _ _ _ _ _ _ us hl => match us, hl with | [_, _, _], _ => rfl)
    d_is_view := df_of X G c 23 rfl (gl "is_view" (by decide +kernel)) (fun _ _ _ _ _ _ us hl => match us, hl with | [_, _, _], _ => rfl)
    d_check_views := df_of X G c 24 rfl (gl "check_views" (by decide +kernel)) (fun _ _ _ _ _ _ us hl => match us, hl with | [_, _, _], _ => rfl)
    d_case_lines := df_of X G c 25 rfl (gl "case_lines" (by decide +kernel)) (fun _ _ _ _ _ _ us hl => match us, hl with | [_], _ => rfl)
    d_design_text := df_of X G c 26 rfl (gl "design_text" (by decide +kernel)) (fun _ _ _ _ _ _ us hl => match us, hl with | [_, _, _, _], _ => rfl)
    d_Design_init := dk_of X G c (q := "Design.__init__") 27 rfl hglo hmk (fun _ _ _ _ _ _ us hl => match us, hl with | [_, _, _, _, _], _ => rfl)
    d_Design_call := dm_of X G c (q := "Design.call") 28 rfl hcls (me "call" (by decide +kernel)) (fun _ _ _ _ _ _ us hl => match us, hl with | [_, _], _ => rfl)
    d_check_mode := df_of X G c 29 rfl (gl "check_mode" (by decide +kernel)) (fun _ _ _ _ _ _ us hl => match us, hl with | [_, _], _ => rfl)
    d_Design_sort_of := dm_of X G c (q := "Design.sort_of") 30 rfl hcls (me "sort_of" (by decide +kernel)) (fun _ _ _ _ _ _ us hl => match us, hl with | [_, _], _ => rfl)
    d_Design_case_of := dm_of X G c (q := "Design.case_of") 31 rfl hcls (me "case_of" (by decide +kernel)) (fun _ _ _ _ _ _ us hl => match us, hl with | [_, _, _], _ => rfl)
    d_Design_contains := dm_of X G c (q := "Design.__contains__") 32 rfl hcls (me "__contains__" (by decide +kernel)) (fun _ _ _ _ _ _ us hl => match us, hl with | [_, _], _ => rfl)
    d_Design_eq := dm_of X G c (q := "Design.__eq__") 33 rfl hcls (me "__eq__" (by decide +kernel)) (fun _ _ _ _ _ _ us hl => match us, hl with | [_, _], _ => rfl)
    d_can_join := df_of X G c 34 rfl (gl "can_join" (by decide +kernel)) (fun _ _ _ _ _ _ us hl => match us, hl with | [_, _], _ => rfl)
    d_joined_call := df_of X G c 35 rfl (gl "joined_call" (by decide +kernel)) (fun _ _ _ _ _ _ us hl => match us, hl with | [_, _], _ => rfl)
    d_spread_call := df_of X G c 36 rfl (gl "spread_call" (by decide +kernel)) (fun _ _ _ _ _ _ us hl => match us, hl with | [_, _], _ => rfl)
    d_check_design := df_of X G c 37 rfl (gl "check_design" (by decide +kernel)) (fun _ _ _ _ _ _ us hl => match us, hl with | [_], _ => rfl)
    d_beside := dfk_of X G c 38 rfl (gl "beside" (by decide +kernel)) (fun _ _ _ _ _ _ us hl => match us, hl with | [_, _], _ => rfl) (fun _ _ _ _ _ _ _ _ => rfl)
    d__law_purse := df_of X G c 39 rfl (gl "_law_purse" (by decide +kernel)) (fun _ _ _ _ _ _ us hl => match us, hl with | [_], _ => rfl)
    d__law_draw := df_of X G c 40 rfl (gl "_law_draw" (by decide +kernel)) (fun _ _ _ _ _ _ us hl => match us, hl with | [_, _], _ => rfl)
    d__law_pick := df_of X G c 41 rfl (gl "_law_pick" (by decide +kernel)) (fun _ _ _ _ _ _ us hl => match us, hl with | [_, _], _ => rfl)
    d__law_names := df_of X G c 42 rfl (gl "_law_names" (by decide +kernel)) (fun _ _ _ _ _ _ us hl => match us, hl with | [_, _], _ => rfl)
    d__law_form := df_of X G c 43 rfl (gl "_law_form" (by decide +kernel)) (fun _ _ _ _ _ _ us hl => match us, hl with | [_, _, _], _ => rfl)
    d__law_fact := df_of X G c 44 rfl (gl "_law_fact" (by decide +kernel)) (fun _ _ _ _ _ _ us hl => match us, hl with | [_, _], _ => rfl)
    d__law_update := df_of X G c 45 rfl (gl "_law_update" (by decide +kernel)) (fun _ _ _ _ _ _ us hl => match us, hl with | [_, _, _, _], _ => rfl)
    d__law_case := df_of X G c 46 rfl (gl "_law_case" (by decide +kernel)) (fun _ _ _ _ _ _ us hl => match us, hl with | [_, _, _, _, _], _ => rfl)
    d__law_menu := df_of X G c 47 rfl (gl "_law_menu" (by decide +kernel)) (fun _ _ _ _ _ _ us hl => match us, hl with | [_], _ => rfl)
    d__law_design := df_of X G c 48 rfl (gl "_law_design" (by decide +kernel)) (fun _ _ _ _ _ _ us hl => match us, hl with | [_], _ => rfl)
    d__law_second := df_of X G c 49 rfl (gl "_law_second" (by decide +kernel)) (fun _ _ _ _ _ _ us hl => match us, hl with | [_, _], _ => rfl)
    d__law_side_by_side := df_of X G c 50 rfl (gl "_law_side_by_side" (by decide +kernel)) (fun _ _ _ _ _ _ us hl => match us, hl with | [_, _], _ => rfl)
    d__law_spoilt := df_of X G c 51 rfl (gl "_law_spoilt" (by decide +kernel)) (fun _ _ _ _ _ _ us hl => match us, hl with | [_, _, _], _ => rfl)
    d__law_due := df_of X G c 52 rfl (gl "_law_due" (by decide +kernel)) (fun _ _ _ _ _ _ us hl => match us, hl with | [_, _], _ => rfl)
    d__law_error := df_of X G c 53 rfl (gl "_law_error" (by decide +kernel)) (fun _ _ _ _ _ _ us hl => match us, hl with | [_, _], _ => rfl)
    d__law_right := df_of X G c 54 rfl (gl "_law_right" (by decide +kernel)) (fun _ _ _ _ _ _ us hl => match us, hl with | [_], _ => rfl)
    d_law := df_of X G c 55 rfl (gl "law" (by decide +kernel)) (fun _ _ _ _ _ _ us hl => match us, hl with | [_], _ => rfl)
  }
end
end W77

end

section
set_option maxRecDepth 100000
set_option maxHeartbeats 1000000
/-! The plain laws' tools: what a data function ends in, by continuations. -/
namespace DL
open PySem PySem.Spec L2
def Ok1 {α : Type} (o : Option α) (P : α → Prop) : Prop := ∃ a, o = some a ∧ P a
def Ok2 {α β : Type} (o : Option (α × β)) (P : α → β → Prop) : Prop := ∃ a b, o = some (a, b) ∧ P a b
def OkS (o : Option Out) (N : En → Prop) (R : D → En → Prop) (B C : En → Prop) : Prop := ∃ x, o = some x ∧ match x with
  | .nx ρ => N ρ
  | .rt d ρ => R d ρ
  | .bk ρ => B ρ
  | .ct ρ => C ρ
def OkX (o : Option OX) (N : En → Prop) (R : D → En → Prop) (X : Str → List (Str × D) → Prop) : Prop := ∃ x, o = some x ∧ match x with
  | .nm (.nx ρ) => N ρ
  | .nm (.rt d ρ) => R d ρ
  | .ex c fs _ => X c fs
  | _ => False
section
variable {α β : Type} {ρ ρ1 ρ2 : En} {a b z d : D} {fa fb fe fo : FE} {ft : FT}
theorem Ok1.imp {o : Option α} {P Q : α → Prop} (h : Ok1 o P) (k : ∀ a, P a → Q a) : Ok1 o Q := let ⟨a, e, p⟩ := h; ⟨a, e, k a p⟩
theorem Ok2.imp {o : Option (α × β)} {P Q : α → β → Prop} (h : Ok2 o P) (k : ∀ a b, P a b → Q a b) : Ok2 o Q := let ⟨a, b, e, p⟩ := h; ⟨a, b, e, k a b p⟩
theorem OkS.imp {o : Option Out} {N N' R R' B B' C C'} (h : OkS o N R B C) (kn : ∀ ρ, N ρ → N' ρ) (kr : ∀ d ρ, R d ρ → R' d ρ) (kb : ∀ ρ, B ρ → B' ρ) (kc : ∀ ρ, C ρ → C' ρ) : OkS o N' R' B' C' := by
  obtain ⟨x, e, h⟩ := h
  refine ⟨x, e, ?_⟩
  cases x with
  | nx ρ => exact kn _ h
  | rt d ρ => exact kr _ _ h
  | bk ρ => exact kb _ h
  | ct ρ => exact kc _ h
theorem ok_eq1 {o : Option α} {x : α} {P : α → Prop} (h : o = some x) (k : P x) : Ok1 o P := ⟨x, h, k⟩
theorem ok_eq2 {o : Option (α × β)} {x : α} {y : β} {P : α → β → Prop} (h : o = some (x, y)) (k : P x y) : Ok2 o P := ⟨x, y, h, k⟩
theorem Ok2.eq {o : Option (α × β)} {x : α} {y : β} (h : Ok2 o fun a b => a = x ∧ b = y) : o = some (x, y) := by
  obtain ⟨a, b, e, rfl, rfl⟩ := h
  exact e
theorem Ok1.eq {o : Option α} {x : α} (h : Ok1 o fun a => a = x) : o = some x := by
  obtain ⟨a, e, rfl⟩ := h
  exact e
/-! environments -/
inductive SetAt : En → Nat → Option Sl → En → Prop
  | z {x s : Option Sl} {ρ : En} : SetAt (x :: ρ) 0 s (s :: ρ)
  | s {x s : Option Sl} {ρ ρ' : En} {i : Nat} : SetAt ρ i s ρ' → SetAt (x :: ρ) (i + 1) s (x :: ρ')
theorem SetAt.eq {s : Option Sl} {i : Nat} (h : SetAt ρ i s ρ1) : ρ.set i s = ρ1 ∧ i < ρ.length := by
  induction h with
  | z => exact ⟨rfl, by simp⟩
  | s _ ih => exact ⟨by rw [List.set_cons_succ, ih.1], by simpa using ih.2⟩
inductive WipeAt : En → List Nat → En → Prop
  | nil {ρ : En} : WipeAt ρ [] ρ
  | cons {ρ ρ1 ρ2 : En} {v : Nat} {vs : List Nat} : WipeAt ρ vs ρ1 → SetAt ρ1 v none ρ2 → WipeAt ρ (v :: vs) ρ2
theorem WipeAt.eq {vs : List Nat} (h : WipeAt ρ vs ρ1) : wipeE ρ vs = ρ1 := by
  induction h with
  | nil => rfl
  | cons _ s ih => unfold wipeE; rw [ih]; exact s.eq.1
/-! expressions -/
theorem ok_C {P : D → En → Prop} (k : P d ρ) : Ok2 (fC d ρ) P := ⟨d, ρ, rfl, k⟩
theorem ok_var {i : Nat} {P : D → En → Prop} (h : ρ[i]? = some (some (.sh d))) (k : P d ρ) : Ok2 (fVar i ρ) P := ⟨d, ρ, by unfold fVar; rw [h], k⟩
theorem ok_varO {i : Nat} {P : D → En → Prop} (h : ρ[i]? = some (some (.ow true d))) (s : SetAt ρ i (some (.sh d)) ρ1) (k : P d ρ1) : Ok2 (fVar i ρ) P := ⟨d, ρ1, by unfold fVar; rw [h, ← s.eq.1], k⟩
theorem ok_op {g : D → D → Option D} {P : D → En → Prop} (k : Ok2 (fa ρ) fun a ρ1 => Ok2 (fb ρ1) fun b ρ2 => Ok1 (g a b) fun z => P z ρ2) : Ok2 (fOp g fa fb ρ) P := by
  obtain ⟨a, ρ1, e1, b, ρ2, e2, z, e3, k⟩ := k
  exact ⟨z, ρ2, by unfold fOp; rw [e1]; show ((fb ρ1).bind _) = _; rw [e2]; show (g a b).map _ = _; rw [e3]; rfl, k⟩
theorem ok_un {g : D → Option D} {P : D → En → Prop} (k : Ok2 (fa ρ) fun a ρ1 => Ok1 (g a) fun z => P z ρ1) : Ok2 (fUn g fa ρ) P := by
  obtain ⟨a, ρ1, e1, z, e3, k⟩ := k
  exact ⟨z, ρ1, by unfold fUn; rw [e1]; show (g a).map _ = _; rw [e3]; rfl, k⟩
theorem ok_ixB {fb : En → Option (List D × En)} {i : Int} {P : D → En → Prop} (k : Ok2 (fb ρ) fun ds ρ1 => Ok1 (atI ds i) fun z => P z ρ1) : Ok2 (fIxB fb i ρ) P := by
  obtain ⟨a, ρ1, e1, z, e3, k⟩ := k
  exact ⟨z, ρ1, by unfold fIxB; rw [e1]; show (atI a i).map _ = _; rw [e3]; rfl, k⟩
theorem ok_bor {i : Nat} {ds : List D} {P : List D → En → Prop} (h : ρ[i]? = some (some (.sh (.lst ds)))) (k : P ds ρ) : Ok2 (fBor i ρ) P := ⟨ds, ρ, by unfold fBor; rw [h], k⟩
theorem ok_borO {i : Nat} {l : Bool} {ds : List D} {P : List D → En → Prop} (h : ρ[i]? = some (some (.ow l (.lst ds)))) (k : P ds ρ) : Ok2 (fBor i ρ) P := ⟨ds, ρ, by unfold fBor; rw [h], k⟩
theorem ok_borE {P : List D → En → Prop} (k : Ok2 (fa ρ) fun d ρ1 => ∃ ds, d = .lst ds ∧ P ds ρ1) : Ok2 (fBorE fa ρ) P := by
  obtain ⟨_, ρ1, e1, ds, rfl, k⟩ := k
  exact ⟨ds, ρ1, by unfold fBorE; rw [e1]; rfl, k⟩
def inBD (neg : Bool) (a : D) (ds : List D) : Option D := if flatD a = true ∧ ds.all flatD = true then some (.bl (if neg then !inF a ds else inF a ds)) else none
theorem ok_inB {neg : Bool} {fb : En → Option (List D × En)} {P : D → En → Prop} (k : Ok2 (fa ρ) fun a ρ1 => Ok2 (fb ρ1) fun ds ρ2 => Ok1 (inBD neg a ds) fun z => P z ρ2) : Ok2 (fInB neg fa fb ρ) P := by
  obtain ⟨a, ρ1, e1, ds, ρ2, e2, z, e3, k⟩ := k
  unfold inBD at e3
  split at e3
  · rename_i h
    cases e3
    exact ⟨_, ρ2, by unfold fInB; rw [e1]; show ((fb ρ1).bind _) = _; rw [e2]; exact if_pos h, k⟩
  · cases e3
theorem ok_and {P : D → En → Prop} (k : Ok2 (fa ρ) fun a ρ1 => ∃ t, truD a = some t ∧ (t = true → Ok2 (fb ρ1) P) ∧ (t = false → P a ρ1)) : Ok2 (fAnd fa fb ρ) P := by
  obtain ⟨a, ρ1, e1, t, e2, k1, k2⟩ := k
  unfold fAnd
  rw [e1]
  show Ok2 ((truD a).bind _) P
  rw [e2]
  cases t with
  | true => exact k1 rfl
  | false => exact ⟨_, _, rfl, k2 rfl⟩
theorem ok_or {P : D → En → Prop} (k : Ok2 (fa ρ) fun a ρ1 => ∃ t, truD a = some t ∧ (t = true → P a ρ1) ∧ (t = false → Ok2 (fb ρ1) P)) : Ok2 (fOr fa fb ρ) P := by
  obtain ⟨a, ρ1, e1, t, e2, k1, k2⟩ := k
  unfold fOr
  rw [e1]
  show Ok2 ((truD a).bind _) P
  rw [e2]
  cases t with
  | true => exact ⟨_, _, rfl, k1 rfl⟩
  | false => exact k2 rfl
theorem ok_not {P : D → En → Prop} (k : Ok2 (fa ρ) fun a ρ1 => ∃ t, truD a = some t ∧ P (.bl (!t)) ρ1) : Ok2 (fNot fa ρ) P := by
  obtain ⟨a, ρ1, e1, t, e2, k1⟩ := k
  exact ⟨_, ρ1, by unfold fNot; rw [e1]; show (truD a).map _ = _; rw [e2]; rfl, k1⟩
theorem ok_tr {P : Bool → En → Prop} (k : Ok2 (fa ρ) fun a ρ1 => ∃ t, truD a = some t ∧ P t ρ1) : Ok2 (fTr fa ρ) P := by
  obtain ⟨a, ρ1, e1, t, e2, k1⟩ := k
  exact ⟨_, ρ1, by unfold fTr; rw [e1]; show (truD a).map _ = _; rw [e2]; rfl, k1⟩
theorem ok_bt {P : Bool → En → Prop} (k : Ok2 (fa ρ) fun a ρ1 => ∃ t, a = .bl t ∧ P t ρ1) : Ok2 (fBt fa ρ) P := by
  obtain ⟨_, ρ1, e1, t, rfl, k1⟩ := k
  exact ⟨_, ρ1, by unfold fBt; rw [e1]; rfl, k1⟩
theorem ok_tand {f g : FT} {P : Bool → En → Prop} (k : Ok2 (f ρ) fun t ρ1 => (t = true → Ok2 (g ρ1) P) ∧ (t = false → P false ρ1)) : Ok2 (ftAnd f g ρ) P := by
  obtain ⟨t, ρ1, e1, k1, k2⟩ := k
  unfold ftAnd
  rw [e1]
  cases t with
  | true => exact k1 rfl
  | false => exact ⟨_, _, rfl, k2 rfl⟩
theorem ok_tor {f g : FT} {P : Bool → En → Prop} (k : Ok2 (f ρ) fun t ρ1 => (t = true → P true ρ1) ∧ (t = false → Ok2 (g ρ1) P)) : Ok2 (ftOr f g ρ) P := by
  obtain ⟨t, ρ1, e1, k1, k2⟩ := k
  unfold ftOr
  rw [e1]
  cases t with
  | true => exact ⟨_, _, rfl, k1 rfl⟩
  | false => exact k2 rfl
theorem ok_tnot {f : FT} {P : Bool → En → Prop} (k : Ok2 (f ρ) fun t ρ1 => P (!t) ρ1) : Ok2 (ftNot f ρ) P := by
  obtain ⟨t, ρ1, e1, k1⟩ := k
  exact ⟨_, _, by unfold ftNot; rw [e1]; rfl, k1⟩
theorem ok_yes {P : Bool → En → Prop} (k : P true ρ) : Ok2 (fYes ρ) P := ⟨_, _, rfl, k⟩
theorem ok_fIf {P : D → En → Prop} (k : Ok2 (ft ρ) fun t ρ1 => (t = true → Ok2 (fa ρ1) P) ∧ (t = false → Ok2 (fb ρ1) P)) : Ok2 (fIf ft fa fb ρ) P := by
  obtain ⟨t, ρ1, e1, k1, k2⟩ := k
  unfold fIf
  rw [e1]
  cases t with
  | true => exact k1 rfl
  | false => exact k2 rfl
theorem ok_L {f : En → Option (List D × En)} {P : D → En → Prop} (k : Ok2 (f ρ) fun ds ρ1 => P (.lst ds) ρ1) : Ok2 (fL f ρ) P := by
  obtain ⟨ds, ρ1, e1, k1⟩ := k
  exact ⟨_, _, by unfold fL; rw [e1]; rfl, k1⟩
/-! arguments -/
theorem ok_gnil {P : List D → En → Prop} (k : P [] ρ) : Ok2 (fArgs faNil ρ) P := ⟨_, _, rfl, k⟩
theorem ok_gcons {g : FA} {P : List D → En → Prop} (k : Ok2 (fa ρ) fun d ρ1 => Ok2 (fArgs g ρ1) fun ds ρ2 => P (d :: ds) ρ2) : Ok2 (fArgs (faCons fa g) ρ) P := by
  obtain ⟨a, ρ1, h1, ds, ρ2, h2, k⟩ := k
  refine ⟨_, _, ?_, k⟩
  unfold fArgs at h2 ⊢
  obtain ⟨⟨as, ρ'⟩, e1, e2⟩ := Option.bind_eq_some_iff.mp h2
  obtain ⟨ds', e3, e4⟩ := Option.map_eq_some_iff.mp e2
  cases e4
  unfold faCons
  rw [h1]
  show ((g ρ1).map _).bind _ = _
  rw [e1]
  show (vals (.val a :: as)).map _ = _
  show ((vals as).map _).map _ = _
  rw [e3]; rfl
theorem vals_app {as : List Ag} {ds : List D} (h : vals as = some ds) : ∀ es : List D, vals (es.map .val ++ as) = some (es ++ ds)
  | [] => h
  | e :: es => by
    show (vals (es.map .val ++ as)).map _ = _
    rw [vals_app h es]; rfl
theorem ok_gstar {g : FA} {P : List D → En → Prop} (k : Ok2 (fa ρ) fun d ρ1 => Ok2 (fArgs g ρ1) fun ds ρ2 => ∃ es, (d = .tup es ∨ d = .lst es) ∧ P (es ++ ds) ρ2) : Ok2 (fArgs (faStar fa g) ρ) P := by
  obtain ⟨a, ρ1, h1, ds, ρ2, h2, es, ha, k⟩ := k
  refine ⟨_, _, ?_, k⟩
  unfold fArgs at h2 ⊢
  obtain ⟨⟨as, ρ'⟩, e1, e2⟩ := Option.bind_eq_some_iff.mp h2
  obtain ⟨ds', e3, e4⟩ := Option.map_eq_some_iff.mp e2
  cases e4
  unfold faStar
  rw [h1]
  show ((g ρ1).bind _).bind _ = _
  rw [e1]
  rcases ha with rfl | rfl
  · show (vals (es.map Ag.val ++ as)).map _ = _
    rw [vals_app e3]; rfl
  · show (vals (es.map Ag.val ++ as)).map _ = _
    rw [vals_app e3]; rfl
theorem ok_tup {fas : FA} {P : D → En → Prop} (k : Ok2 (fArgs fas ρ) fun ds ρ1 => ds.length ≤ 1000000 ∧ P (.tup ds) ρ1) : Ok2 (fTup fas ρ) P := by
  obtain ⟨ds, ρ1, e1, h, k⟩ := k
  exact ⟨_, _, by unfold fTup; rw [e1]; exact if_pos h, k⟩
theorem ok_lst {fas : FA} {P : List D → En → Prop} (k : Ok2 (fArgs fas ρ) fun ds ρ1 => ds.length ≤ 1000000 ∧ P ds ρ1) : Ok2 (fLst fas ρ) P := by
  obtain ⟨ds, ρ1, e1, h, k⟩ := k
  exact ⟨_, _, by unfold fLst; rw [e1]; exact if_pos h, k⟩
theorem ok_cb {g : List D → Option D} {fas : FA} {P : D → En → Prop} (k : Ok2 (fArgs fas ρ) fun ds ρ1 => Ok1 (g ds) fun z => P z ρ1) : Ok2 (fCB g fas ρ) P := by
  obtain ⟨ds, ρ1, e1, z, e2, k⟩ := k
  exact ⟨_, _, by unfold fCB; rw [e1]; show (g ds).map _ = _; rw [e2]; rfl, k⟩
theorem ok_bm {g : D → List D → Option D} {fas : FA} {P : D → En → Prop} (k : Ok2 (fo ρ) fun d ρ1 => Ok2 (fArgs fas ρ1) fun ds ρ2 => Ok1 (g d ds) fun z => P z ρ2) : Ok2 (fBM g fo fas ρ) P := by
  obtain ⟨d, ρ1, e1, ds, ρ2, e2, z, e3, k⟩ := k
  exact ⟨_, _, by unfold fBM; rw [e1]; show ((fArgs fas ρ1).bind _) = _; rw [e2]; show (g d ds).map _ = _; rw [e3]; rfl, k⟩
theorem ok_tm {g : List D → List D → Option D} {fas : FA} {P : D → En → Prop} (k : Ok2 (fo ρ) fun d ρ1 => ∃ l, d = .tpx l ∧ Ok2 (fArgs fas ρ1) fun ds ρ2 => Ok1 (g l ds) fun z => P z ρ2) : Ok2 (fTM g fo fas ρ) P := by
  obtain ⟨_, ρ1, e1, l, rfl, ds, ρ2, e2, z, e3, k⟩ := k
  exact ⟨_, _, by unfold fTM; rw [e1]; show ((fArgs fas ρ1).bind _) = _; rw [e2]; show (g l ds).map _ = _; rw [e3]; rfl, k⟩
theorem ok_wk {P : D → En → Prop} (k : Ok2 (fa ρ) fun d ρ1 => ∃ l, d = .tpx l ∧ P (.tup l) ρ1) : Ok2 (fWk fa ρ) P := by
  obtain ⟨_, ρ1, e1, l, rfl, k⟩ := k
  exact ⟨_, _, by unfold fWk; rw [e1]; rfl, k⟩
theorem ok_lenB {fb : En → Option (List D × En)} {P : D → En → Prop} (k : Ok2 (fb ρ) fun ds ρ1 => P (.int ds.length) ρ1) : Ok2 (fLenB fb ρ) P := by
  obtain ⟨ds, ρ1, e1, k⟩ := k
  exact ⟨_, _, by unfold fLenB; rw [e1]; rfl, k⟩
theorem ok_fList {P : List D → En → Prop} (k : Ok2 (fa ρ) fun d ρ1 => ∃ l, (d = .tup l ∨ d = .lst l) ∧ P l ρ1) : Ok2 (fList fa ρ) P := by
  obtain ⟨_, ρ1, e1, l, rfl | rfl, k⟩ := k
  · exact ⟨_, _, by unfold fList; rw [e1]; rfl, k⟩
  · exact ⟨_, _, by unfold fList; rw [e1]; rfl, k⟩
theorem ok_fld {CF : Str → Str → Bool} {f : Str} {P : D → En → Prop} (k : Ok2 (fo ρ) fun d ρ1 => ∃ c fs, d = .obj c fs ∧ CF c f = true ∧ Ok1 (fs.lookup f) fun z => P z ρ1) : Ok2 (fFld CF f fo ρ) P := by
  obtain ⟨_, ρ1, e1, c, fs, rfl, h, z, e2, k⟩ := k
  exact ⟨_, _, by unfold fFld; rw [e1]; show (if CF c f = true then _ else _) = _; rw [if_pos h, e2]; rfl, k⟩
theorem ok_fmt {P : D → En → Prop} (k : Ok2 (fa ρ) fun d ρ1 => Ok1 (fmtD d) fun y => P (.str y) ρ1) : Ok2 (fFmt fa ρ) P := by
  obtain ⟨d, ρ1, e1, z, e3, k⟩ := k
  exact ⟨_, ρ1, by unfold fFmt; rw [e1]; show (fmtD d).map _ = _; rw [e3]; rfl, k⟩
theorem ok_jnil {acc : Str} {P : Str → En → Prop} (k : P acc ρ) : Ok2 (fJs [] acc ρ) P := ⟨_, _, rfl, k⟩
theorem ok_jcons {fs : List FE} {acc : Str} {P : Str → En → Prop} (k : Ok2 (fa ρ) fun d ρ1 => ∃ y, d = .str y ∧ (acc ++ y).length ≤ 1000000 ∧ Ok2 (fJs fs (acc ++ y) ρ1) P) : Ok2 (fJs (fa :: fs) acc ρ) P := by
  obtain ⟨_, ρ1, e1, y, rfl, h, k⟩ := k
  unfold fJs
  rw [e1]
  show Ok2 (if (acc ++ y).length ≤ 1000000 then _ else _) P
  rw [if_pos h]
  exact k
theorem ok_join {fs : List FE} {P : D → En → Prop} (k : Ok2 (fJs fs Str.empty ρ) fun y ρ1 => P (.str y) ρ1) : Ok2 (fJoin fs ρ) P := by
  obtain ⟨y, ρ1, e1, k⟩ := k
  exact ⟨_, _, by unfold fJoin; rw [e1]; rfl, k⟩
theorem ok_lenSet {P : D → En → Prop} (k : Ok2 (fa ρ) fun d ρ1 => ∃ xs : List Str, d = .lst (xs.map .str) ∧ xs.length ≤ 1000 ∧ P (.int (cntS xs xs.length)) ρ1) : Ok2 (fLenSet fa ρ) P := by
  obtain ⟨_, ρ1, e1, xs, rfl, h, k⟩ := k
  refine ⟨_, ρ1, ?_, k⟩
  unfold fLenSet
  rw [e1]
  show (strsD (xs.map D.str)).bind _ = _
  rw [strsD_map]
  exact if_pos h
theorem ok_chain {g g' : D → D → Option D} {fc : FE} {P : D → En → Prop} (k : Ok2 (fa ρ) fun a ρ1 => Ok2 (fb ρ1) fun b ρ2 => ∃ t, g a b = some (.bl t) ∧ (t = true → Ok2 (fc ρ2) fun c ρ3 => Ok1 (g' b c) fun z => P z ρ3) ∧ (t = false → P (.bl false) ρ2)) : Ok2 (fChain g g' fa fb fc ρ) P := by
  obtain ⟨a, ρ1, e1, b, ρ2, e2, t, e3, k1, k2⟩ := k
  unfold fChain
  rw [e1]; show Ok2 ((fb ρ1).bind _) P
  rw [e2]; show Ok2 ((g a b).bind _) P
  rw [e3]
  cases t with
  | true =>
    obtain ⟨c, ρ3, e4, z, e5, k⟩ := k1 rfl
    exact ⟨_, _, by show (fc ρ2).bind _ = _; rw [e4]; show (g' b c).map _ = _; rw [e5]; rfl, k⟩
  | false => exact ⟨_, _, rfl, k2 rfl⟩
theorem ok_dget {fk : FE} {P : D → En → Prop} (k : Ok2 (fo ρ) fun o ρ1 => Ok2 (fk ρ1) fun q ρ2 => ∃ kvs key, o = .dk kvs ∧ keyD q = some key ∧ Ok1 ((kvs.find? fun kv => decide (kv.1 = key)).map (·.2)) fun z => P z ρ2) : Ok2 (fDget fo fk ρ) P := by
  obtain ⟨_, ρ1, e1, q, ρ2, e2, kvs, key, rfl, e3, z, e4, k⟩ := k
  refine ⟨z, ρ2, ?_, k⟩
  unfold fDget
  rw [e1]; show (fk ρ1).bind _ = _
  rw [e2]
  show (keyD q).bind _ = _
  rw [e3]
  show (((kvs.find? fun kv => decide (kv.1 = key)).map (·.2)).map _) = _
  rw [e4]; rfl
theorem ok_noP {P : Option Int → En → Prop} (k : P none ρ) : Ok2 (fNoPart ρ) P := ⟨_, _, rfl, k⟩
theorem ok_part {P : Option Int → En → Prop} (k : Ok2 (fa ρ) fun d ρ1 => ∃ i, d = .int i ∧ P (some i) ρ1) : Ok2 (fPart fa ρ) P := by
  obtain ⟨_, ρ1, e1, i, rfl, k⟩ := k
  exact ⟨_, _, by unfold fPart; rw [e1]; rfl, k⟩
theorem ok_sl {g : D → Option Int → Option Int → Option D} {fl fh : En → Option (Option Int × En)} {P : D → En → Prop} (k : Ok2 (fa ρ) fun d ρ1 => Ok2 (fl ρ1) fun i ρ2 => Ok2 (fh ρ2) fun j ρ3 => Ok1 (g d i j) fun z => P z ρ3) : Ok2 (fSl g fa fl fh ρ) P := by
  obtain ⟨d, ρ1, e1, i, ρ2, e2, j, ρ3, e3, z, e4, k⟩ := k
  exact ⟨_, _, by unfold fSl; rw [e1]; show (fl ρ1).bind _ = _; rw [e2]; show (fh ρ2).bind _ = _; rw [e3]; show (g d i j).map _ = _; rw [e4]; rfl, k⟩
theorem ok_slL {fl fh : En → Option (Option Int × En)} {P : List D → En → Prop} (k : Ok2 (fa ρ) fun d ρ1 => Ok2 (fl ρ1) fun i ρ2 => Ok2 (fh ρ2) fun j ρ3 => (∃ ds, d = .lst ds ∧ P (cutL ds i j) ρ3) ∨ ∃ ns, d = .frl ns ∧ P ((cutL ns i j).map .int) ρ3) : Ok2 (fSlL fa fl fh ρ) P := by
  obtain ⟨d, ρ1, e1, i, ρ2, e2, j, ρ3, e3, k⟩ := k
  rcases k with ⟨ds, rfl, k⟩ | ⟨ds, rfl, k⟩
  · exact ⟨_, _, by unfold fSlL; rw [e1]; show (fl ρ1).bind _ = _; rw [e2]; show (fh ρ2).bind _ = _; rw [e3]; rfl, k⟩
  · exact ⟨_, _, by unfold fSlL; rw [e1]; show (fl ρ1).bind _ = _; rw [e2]; show (fh ρ2).bind _ = _; rw [e3]; rfl, k⟩
theorem ok_alt1 {P : D → En → Prop} (k : Ok2 (fa ρ) P) : Ok2 (fAlt fa fb ρ) P := by
  obtain ⟨a, b, e, k⟩ := k
  exact ⟨a, b, by unfold fAlt; rw [e], k⟩
theorem ok_alt2 {P : D → En → Prop} (h : fa ρ = none) (k : Ok2 (fb ρ) P) : Ok2 (fAlt fa fb ρ) P := by
  unfold fAlt; rw [h]; exact k
/-- a slice of whatever it is -/
theorem ok_sl2 {fl fh : En → Option (Option Int × En)} {P : D → En → Prop} (k : Ok2 (fa ρ) fun d ρ1 => Ok2 (fl ρ1) fun i ρ2 => Ok2 (fh ρ2) fun j ρ3 => (∃ ds, d = .lst ds ∧ P (.lst (cutL ds i j)) ρ3) ∨ (∃ ns, d = .frl ns ∧ P (.lst ((cutL ns i j).map .int)) ρ3) ∨ ∃ z, cutD d i j = some z ∧ P z ρ3) : Ok2 (fAlt (fSl cutD fa fl fh) (fL (fSlL fa fl fh)) ρ) P := by
  obtain ⟨d, ρ1, e1, i, ρ2, e2, j, ρ3, e3, k⟩ := k
  have es : fSl cutD fa fl fh ρ = (cutD d i j).map fun z => (z, ρ3) := by
    unfold fSl; rw [e1]; show (fl ρ1).bind _ = _; rw [e2]; show (fh ρ2).bind _ = _; rw [e3]; rfl
  rcases k with ⟨ds, rfl, k⟩ | ⟨ds, rfl, k⟩ | ⟨z, e4, k⟩
  · refine ok_alt2 (by rw [es]; rfl) (ok_L (ok_slL ?_))
    exact ⟨_, _, e1, _, _, e2, _, _, e3, .inl ⟨_, rfl, k⟩⟩
  · refine ok_alt2 (by rw [es]; rfl) (ok_L (ok_slL ?_))
    exact ⟨_, _, e1, _, _, e2, _, _, e3, .inr ⟨_, rfl, k⟩⟩
  · exact ok_alt1 ⟨_, _, by rw [es, e4]; rfl, k⟩
/-! calls -/
def Call (ms : List Bool) (Ff : DF) (as : List Ag) (ρ : En) (P : D → En → Prop) : Prop := Ok2 (callD ms Ff as ρ) P
theorem ok_call {ms : List Bool} {Ff : DF} {fas : FA} {P : D → En → Prop} (k : Ok2 (fas ρ) fun as ρ1 => Call ms Ff as ρ1 P) : Ok2 (fCall ms Ff fas ρ) P := by
  obtain ⟨as, ρ1, e, k⟩ := k
  unfold fCall
  rw [e]
  exact k
theorem ok_anil {P : List Ag → En → Prop} (k : P [] ρ) : Ok2 (faNil ρ) P := ⟨_, _, rfl, k⟩
theorem ok_acons {g : FA} {P : List Ag → En → Prop} (k : Ok2 (fa ρ) fun d ρ1 => Ok2 (g ρ1) fun as ρ2 => P (.val d :: as) ρ2) : Ok2 (faCons fa g ρ) P := by
  obtain ⟨a, ρ1, h1, as, ρ2, h2, k⟩ := k
  exact ⟨_, _, by unfold faCons; rw [h1]; show (g ρ1).map _ = _; rw [h2]; rfl, k⟩
theorem ok_aown {i : Nat} {l : Bool} {g : FA} {P : List Ag → En → Prop} (h : ρ[i]? = some (some (.ow l d))) (k : Ok2 (g ρ) fun as ρ2 => P (.own i :: as) ρ2) : Ok2 (faOwn i g ρ) P := by
  obtain ⟨as, ρ2, h2, k⟩ := k
  exact ⟨_, _, by unfold faOwn; rw [h]; show (g ρ).map _ = _; rw [h2]; rfl, k⟩
def nos (ds : List D) : List D := ds.map fun _ => .non
theorem vals_own : ∀ {as : List Ag} {ds : List D}, vals as = some ds → ownIx as = [] ∧ (∀ ρ, resolve ρ as = some (ds.map fun _ => false, ds)) ∧ ∀ ρ, putBack as (nos ds) ρ = some ρ
  | [], _, e => by cases e; exact ⟨rfl, fun _ => rfl, fun _ => rfl⟩
  | .val d :: r, _, e => by
    obtain ⟨ds, e1, e2⟩ := Option.map_eq_some_iff.mp e
    subst e2
    obtain ⟨h1, h2, h3⟩ := vals_own e1
    exact ⟨h1, fun ρ => by show (resolve ρ r).map _ = _; rw [h2]; rfl, fun ρ => h3 ρ⟩
  | .own _ :: _, _, e => by cases e
/-- a call with plain arguments alone -/
theorem ok_callV {ms : List Bool} {Ff : DF} {as : List Ag} {ds : List D} {P : D → En → Prop} (h : vals as = some ds) (hm : (ds.map fun _ => false) = ms) (k : Ok2 (Ff ds) fun d os => os = nos ds ∧ P d ρ) : Call ms Ff as ρ P := by
  obtain ⟨d, os, e, rfl, k⟩ := k
  obtain ⟨h1, h2, h3⟩ := vals_own h
  refine ⟨d, ρ, ?_, k⟩
  unfold callD
  rw [if_pos (by rw [h1]; exact List.nodup_nil), h2]
  show (if _ = ms then _ else _) = _
  rw [if_pos hm, e]
  show (putBack as (nos ds) ρ).map _ = _
  rw [h3]; rfl
/-- a call whose first argument is the caller's slot 0 -/
def CallP (Ff : DF) (p : D) (ds : List D) (l : Bool) (ρ : En) (P : D → En → Prop) : Prop := Ok2 (Ff (p :: ds)) fun d os => ∃ p', os = p' :: nos ds ∧ P d (some (.ow l p') :: ρ)
theorem ok_callP {ms : List Bool} {Ff : DF} {as : List Ag} {ds : List D} {l : Bool} {p : D} {P : D → En → Prop} (h : vals as = some ds) (hm : (ds.map fun _ => false) = ms) (k : CallP Ff p ds l ρ P) : Call (true :: ms) Ff (.own 0 :: as) (some (.ow l p) :: ρ) P := by
  obtain ⟨d, os, e, p', rfl, k⟩ := k
  obtain ⟨h1, h2, h3⟩ := vals_own h
  refine ⟨d, _, ?_, k⟩
  unfold callD
  have hi : ownIx (.own 0 :: as) = [0] := by show 0 :: ownIx as = _; rw [h1]
  rw [if_pos (by rw [hi]; decide)]
  have hr : resolve (some (.ow l p) :: ρ) (.own 0 :: as) = some (true :: (ds.map fun _ => false), p :: ds) := by
    show (resolve (some (.ow l p) :: ρ) as).map _ = _
    rw [h2]; rfl
  rw [hr]
  show (if true :: _ = true :: ms then _ else _) = _
  rw [if_pos (by rw [hm]), e]
  show (putBack (.own 0 :: as) (p' :: nos ds) (some (.ow l p) :: ρ)).map _ = _
  show (putBack as (nos ds) (some (.ow l p') :: ρ)).map _ = _
  rw [h3]; rfl
theorem ok_meth {c m : Str} {ms : List Bool} {Ff : DF} {fas : FA} {P : D → En → Prop} (k : Ok2 (fo ρ) fun d ρ1 => ∃ fs, d = .obj c fs ∧ fs.lookup m = none ∧ Ok2 (fas ρ1) fun as ρ2 => Call (false :: ms) Ff (.val (.obj c fs) :: as) ρ2 P) : Ok2 (fMeth c m ms Ff fo fas ρ) P := by
  obtain ⟨_, ρ1, e1, fs, rfl, h, as, ρ2, e2, k⟩ := k
  unfold fMeth
  rw [e1]
  show Ok2 (if c = c ∧ fs.lookup m = none then _ else _) P
  rw [if_pos ⟨rfl, h⟩, e2]
  exact k
theorem ok_inO {neg : Bool} {c : Str} {Ff : DF} {P : D → En → Prop} (k : Ok2 (fa ρ) fun a ρ1 => Ok2 (fb ρ1) fun b ρ2 => ∃ fs, b = .obj c fs ∧ Ok2 (Ff [.obj c fs, a]) fun d os => os = [.non, .non] ∧ ∃ t, d = .bl t ∧ P (.bl (if neg then !t else t)) ρ2) : Ok2 (fInO neg c Ff fa fb ρ) P := by
  obtain ⟨a, ρ1, e1, _, ρ2, e2, fs, rfl, d, os, e3, rfl, t, rfl, k⟩ := k
  refine ⟨_, _, ?_, k⟩
  unfold fInO
  rw [e1]; show (fb ρ1).bind _ = _
  rw [e2]
  show (if c = c then _ else _) = _
  rw [if_pos rfl]
  have : callD [false, false] Ff [.val (.obj c fs), .val a] ρ2 = some (.bl t, ρ2) := by
    unfold callD
    rw [if_pos (show (ownIx [.val (.obj c fs), .val a]).Nodup from List.nodup_nil)]
    have hr : resolve ρ2 [.val (.obj c fs), .val a] = some ([false, false], [.obj c fs, a]) := rfl
    rw [hr]
    simp only [Option.bind_some, if_true, e3]
    rfl
  rw [this]; rfl
theorem ok_make {c : Str} {Ff : DF} {fas : FA} {P : D → En → Prop} (k : Ok2 (fArgs fas ρ) fun ds ρ1 => Ok2 (Ff (.obj c [] :: ds)) fun d os => ∃ fs r, d = .non ∧ os = .obj c fs :: r ∧ P (.obj c fs) ρ1) : Ok2 (fMake c Ff fas ρ) P := by
  obtain ⟨ds, ρ1, e1, d, os, e2, fs, r, rfl, rfl, k⟩ := k
  refine ⟨_, _, ?_, k⟩
  unfold fMake
  rw [e1]; show (Ff (.obj c [] :: ds)).bind _ = _
  rw [e2]
  exact if_pos rfl
theorem ok_callA {i : Nat} {ms : List Bool} {T : Str → Option DF} {x : Str} {Ff : DF} {fas : FA} {P : D → En → Prop} (h : ρ[i]? = some (some (.sh (.fn x)))) (ht : T x = some Ff) (k : Ok2 (fas ρ) fun as ρ1 => Call ms Ff as ρ1 P) : Ok2 (fCallA i ms T fas ρ) P := by
  obtain ⟨as, ρ1, e, k⟩ := k
  unfold fCallA
  rw [h]
  show Ok2 ((T x).bind _) P
  rw [ht]
  show Ok2 ((fas ρ).bind _) P
  rw [e]
  exact k
theorem ok_callX {Fx : DFX} {fas : FA} {P : D → En → Prop} (k : Ok2 (fArgs fas ρ) fun ds ρ1 => ∃ d, Fx ds = some (.ok d) ∧ P d ρ1) : Ok2 (fCallX Fx fas ρ) P := by
  obtain ⟨ds, ρ1, e1, d, e2, k⟩ := k
  exact ⟨d, ρ1, by unfold fCallX; rw [e1]; show (Fx ds).bind _ = _; rw [e2]; rfl, k⟩
theorem ok_callN {Ff : List D → Option (List D)} {fas : FA} {P : List D → En → Prop} (k : Ok2 (fArgs fas ρ) fun ds ρ1 => ∃ l, Ff ds = some l ∧ P l ρ1) : Ok2 (fCallN Ff fas ρ) P := by
  obtain ⟨ds, ρ1, e1, d, e2, k⟩ := k
  exact ⟨d, ρ1, by unfold fCallN; rw [e1]; show (Ff ds).map _ = _; rw [e2]; rfl, k⟩
/-! iterables -/
theorem ok_it {P : List D → En → Prop} (k : Ok2 (fa ρ) fun d ρ1 => ∃ ds, itD d = some ds ∧ P ds ρ1) : Ok2 (fIt fa ρ) P := by
  obtain ⟨d, ρ1, e1, ds, e2, k⟩ := k
  exact ⟨ds, ρ1, by unfold fIt; rw [e1]; show (itD d).map _ = _; rw [e2]; rfl, k⟩
theorem ok_rng1 {fas : FA} {P : List D → En → Prop} (k : Ok2 (fArgs fas ρ) fun ds ρ1 => ∃ j, ds = [.int j] ∧ (-(2 ^ 62) ≤ j ∧ j < 2 ^ 62) ∧ P (rangeD 0 j.toNat) ρ1) : Ok2 (fRng1 fas ρ) P := by
  obtain ⟨_, ρ1, e1, j, rfl, h, k⟩ := k
  exact ⟨_, ρ1, by unfold fRng1; rw [e1]; exact if_pos h, k⟩
def enT : D → Option (List D)
  | .tup ds => some (enumD ds)
  | _ => none
theorem ok_enumT {P : List D → En → Prop} (k : Ok2 (fa ρ) fun d ρ1 => Ok1 (enT d) fun ds => P ds ρ1) : Ok2 (fEnumT fa ρ) P := by
  obtain ⟨d, ρ1, e1, es, e2, k⟩ := k
  unfold enT at e2
  split at e2
  · cases e2
    exact ⟨_, ρ1, by unfold fEnumT; rw [e1]; rfl, k⟩
  · cases e2
/-! targets -/
theorem ok_name {i : Nat} {N : En → Prop} (s : SetAt ρ i (some (.sh d)) ρ1) (k : N ρ1) : Ok1 (pName i d ρ) N := ⟨ρ1, by unfold pName; rw [if_pos s.eq.2, s.eq.1], k⟩
theorem ok_pnil {N : En → Prop} (k : N ρ) : Ok1 (pNil [] ρ) N := ⟨ρ, rfl, k⟩
theorem ok_pcons {p : D → En → Option En} {ps : List D → En → Option En} {ds : List D} {N : En → Prop} (k : Ok1 (p d ρ) fun ρ1 => Ok1 (ps ds ρ1) N) : Ok1 (pCons p ps (d :: ds) ρ) N := by
  obtain ⟨ρ1, e1, ρ2, e2, k⟩ := k
  exact ⟨ρ2, by show (p d ρ).bind _ = _; rw [e1]; exact e2, k⟩
theorem ok_ptup {n : Nat} {ps : List D → En → Option En} {ds : List D} {N : En → Prop} (h : ds.length = n) (k : Ok1 (ps ds ρ) N) : Ok1 (pTup n ps (.tup ds) ρ) N := by
  obtain ⟨ρ2, e2, k⟩ := k
  exact ⟨ρ2, by show (if ds.length = n then _ else _) = _; rw [if_pos h]; exact e2, k⟩
/-! statements -/
variable {N B C : En → Prop} {R : D → En → Prop} {X : Str → List (Str × D) → Prop}
theorem ok_next (k : N ρ) : OkS (gNext ρ) N R B C := ⟨_, rfl, k⟩
theorem ok_seq {g h : FS} (k : OkS (g ρ) (fun ρ1 => OkS (h ρ1) N R B C) R B C) : OkS (gSeq g h ρ) N R B C := by
  obtain ⟨x, e, k⟩ := k
  unfold gSeq
  rw [e]
  cases x with
  | nx ρ1 => exact k
  | rt d ρ1 => exact ⟨_, rfl, k⟩
  | bk ρ1 => exact ⟨_, rfl, k⟩
  | ct ρ1 => exact ⟨_, rfl, k⟩
theorem ok_ret (k : Ok2 (fa ρ) R) : OkS (gRet fa ρ) N R B C := by
  obtain ⟨d, ρ1, e, k⟩ := k
  exact ⟨_, by unfold gRet; rw [e]; rfl, k⟩
theorem ok_retN (k : R .non ρ) : OkS (gRetN ρ) N R B C := ⟨_, rfl, k⟩
theorem ok_drop (k : Ok2 (fa ρ) fun _ ρ1 => N ρ1) : OkS (gDrop fa ρ) N R B C := by
  obtain ⟨d, ρ1, e, k⟩ := k
  exact ⟨_, by unfold gDrop; rw [e]; rfl, k⟩
theorem ok_if {g h : FS} (k : Ok2 (ft ρ) fun t ρ1 => (t = true → OkS (g ρ1) N R B C) ∧ (t = false → OkS (h ρ1) N R B C)) : OkS (gIf ft g h ρ) N R B C := by
  obtain ⟨t, ρ1, e, k1, k2⟩ := k
  unfold gIf
  rw [e]
  cases t with
  | true => exact k1 rfl
  | false => exact k2 rfl
theorem ok_asg {p : D → En → Option En} (k : Ok2 (fa ρ) fun d ρ1 => Ok1 (p d ρ1) N) : OkS (gAsg fa p ρ) N R B C := by
  obtain ⟨d, ρ1, e1, ρ2, e2, k⟩ := k
  exact ⟨_, by unfold gAsg; rw [e1]; show (p d ρ1).map _ = _; rw [e2]; rfl, k⟩
theorem ok_asgN {f : En → Option (List D × En)} {i : Nat} (k : Ok2 (f ρ) fun ds ρ1 => ∃ ρ2, SetAt ρ1 i (some (.ow true (.lst ds))) ρ2 ∧ N ρ2) : OkS (gAsgN f i ρ) N R B C := by
  obtain ⟨ds, ρ1, e1, ρ2, s, k⟩ := k
  exact ⟨_, by unfold gAsgN; rw [e1]; show (if i < ρ1.length then _ else _) = _; rw [if_pos s.eq.2, s.eq.1], k⟩
theorem ownL_of {i : Nat} {l : Bool} {ds : List D} (h : ρ[i]? = some (some (.ow l (.lst ds)))) : ownL ρ i = some (l, ds) := by unfold ownL; rw [h]
/-- name.append(e) -/
theorem ok_app {i : Nat} {l0 : Bool} {ds0 : List D} (h0 : ρ[i]? = some (some (.ow l0 (.lst ds0)))) (k : Ok2 (fa ρ) fun d ρ1 => ∃ l ds ρ2, ρ1[i]? = some (some (.ow l (.lst ds))) ∧ ds.length < 1000000 ∧ SetAt ρ1 i (some (.ow l (.lst (ds ++ [d])))) ρ2 ∧ N ρ2) : OkS (gApp i fa ρ) N R B C := by
  obtain ⟨d, ρ1, e1, l, ds, ρ2, h1, h2, s, k⟩ := k
  refine ⟨.nx ρ2, ?_, k⟩
  unfold gApp
  rw [ownL_of h0]; show (fa ρ).bind _ = _
  rw [e1]; show (ownL ρ1 i).bind _ = _
  rw [ownL_of h1]; show (if ds.length < 1000000 then _ else _) = _
  rw [if_pos h2, s.eq.1]
theorem ok_ext {i : Nat} {l0 : Bool} {ds0 : List D} (h0 : ρ[i]? = some (some (.ow l0 (.lst ds0)))) (k : Ok2 (fa ρ) fun d ρ1 => ∃ es l ds ρ2, d = .lst es ∧ ρ1[i]? = some (some (.ow l (.lst ds))) ∧ ds.length + es.length ≤ 1000000 ∧ SetAt ρ1 i (some (.ow l (.lst (ds ++ es)))) ρ2 ∧ N ρ2) : OkS (gExt i fa ρ) N R B C := by
  obtain ⟨_, ρ1, e1, es, l, ds, ρ2, rfl, h1, h2, s, k⟩ := k
  refine ⟨.nx ρ2, ?_, k⟩
  unfold gExt
  rw [ownL_of h0]; show (fa ρ).bind _ = _
  rw [e1]; show (ownL ρ1 i).bind _ = _
  rw [ownL_of h1]; show (if ds.length + es.length ≤ 1000000 then _ else _) = _
  rw [if_pos h2, s.eq.1]
theorem ok_gset {i : Nat} {fk : FE} (k : Ok2 (fa ρ) fun d ρ1 => ∃ l0 ds0, ρ1[i]? = some (some (.ow l0 (.lst ds0))) ∧ Ok2 (fk ρ1) fun q ρ2 => ∃ j l ds n ρ3, q = .int j ∧ ρ2[i]? = some (some (.ow l (.lst ds))) ∧ ixN ds.length j = some n ∧ SetAt ρ2 i (some (.ow l (.lst (ds.set n d)))) ρ3 ∧ N ρ3) : OkS (gSet i fk fa ρ) N R B C := by
  obtain ⟨d, ρ1, e1, l0, ds0, h0, _, ρ2, e2, j, l, ds, n, ρ3, rfl, h1, h2, s, k⟩ := k
  refine ⟨.nx ρ3, ?_, k⟩
  unfold gSet
  rw [e1]; show (ownL ρ1 i).bind _ = _
  rw [ownL_of h0]; show (fk ρ1).bind _ = _
  rw [e2]; show (ownL ρ2 i).bind _ = _
  rw [ownL_of h1]; show (ixN ds.length j).map _ = _
  rw [h2, ← s.eq.1]; rfl
theorem ok_gfld {CF : Str → Str → Bool} {i : Nat} {f : Str} (k : Ok2 (fa ρ) fun d ρ1 => ∃ l c fs ρ2, ρ1[i]? = some (some (.ow l (.obj c fs))) ∧ (CF c f = true ∧ fs.length < 1000) ∧ SetAt ρ1 i (some (.ow l (.obj c (putD f d fs)))) ρ2 ∧ N ρ2) : OkS (gFld CF i f fa ρ) N R B C := by
  obtain ⟨d, ρ1, e1, l, c, fs, ρ2, h1, h2, s, k⟩ := k
  refine ⟨.nx ρ2, ?_, k⟩
  unfold gFld
  rw [e1]
  show (match ρ1[i]? with | some (some (.ow l (.obj c fs))) => _ | _ => none) = _
  rw [h1]
  show (if CF c f = true ∧ fs.length < 1000 then _ else _) = _
  rw [if_pos h2, s.eq.1]
theorem ok_aug {i : Nat} {g : D → D → Option D} {x : D} (h : ρ[i]? = some (some (.sh x))) (k : Ok2 (fa ρ) fun d ρ1 => Ok1 (g x d) fun z => ∃ ρ2, SetAt ρ1 i (some (.sh z)) ρ2 ∧ N ρ2) : OkS (gAug i g fa ρ) N R B C := by
  obtain ⟨d, ρ1, e1, z, e2, ρ2, s, k⟩ := k
  refine ⟨.nx ρ2, ?_, k⟩
  unfold gAug
  rw [h]; show (fa ρ).bind _ = _
  rw [e1]; show (if i < ρ1.length then _ else _) = _
  rw [if_pos s.eq.2, e2, ← s.eq.1]; rfl
theorem ok_vnil {P : List Fv → En → Prop} (k : P [] ρ) : Ok2 (fvNil ρ) P := ⟨_, _, rfl, k⟩
theorem ok_vval {g : En → Option (List Fv × En)} {P : List Fv → En → Prop} (k : Ok2 (fa ρ) fun d ρ1 => Ok2 (g ρ1) fun fs ρ2 => P (.val d :: fs) ρ2) : Ok2 (fvVal fa g ρ) P := by
  obtain ⟨d, ρ1, e1, fs, ρ2, e2, k⟩ := k
  exact ⟨_, _, by unfold fvVal; rw [e1]; show (g ρ1).map _ = _; rw [e2]; rfl, k⟩
theorem ok_vnew {f : En → Option (List D × En)} {g : En → Option (List Fv × En)} {P : List Fv → En → Prop} (k : Ok2 (f ρ) fun d ρ1 => Ok2 (g ρ1) fun fs ρ2 => P (.new d :: fs) ρ2) : Ok2 (fvNew f g ρ) P := by
  obtain ⟨d, ρ1, e1, fs, ρ2, e2, k⟩ := k
  exact ⟨_, _, by unfold fvNew; rw [e1]; show (g ρ1).map _ = _; rw [e2]; rfl, k⟩
inductive PutF : List Nat → List Fv → En → En → Prop
  | nil {ρ : En} : PutF [] [] ρ ρ
  | val {i : Nat} {is : List Nat} {d : D} {fs : List Fv} {ρ ρ1 ρ2 : En} : SetAt ρ i (some (.sh d)) ρ1 → PutF is fs ρ1 ρ2 → PutF (i :: is) (.val d :: fs) ρ ρ2
  | new {i : Nat} {is : List Nat} {ds : List D} {fs : List Fv} {ρ ρ1 ρ2 : En} : SetAt ρ i (some (.ow true (.lst ds))) ρ1 → PutF is fs ρ1 ρ2 → PutF (i :: is) (.new ds :: fs) ρ ρ2
theorem PutF.eq {is : List Nat} {fs : List Fv} (h : PutF is fs ρ ρ1) : putFv is fs ρ = some ρ1 := by
  induction h with
  | nil => rfl
  | val s _ ih => unfold putFv; rw [if_pos s.eq.2, s.eq.1]; exact ih
  | new s _ ih => unfold putFv; rw [if_pos s.eq.2, s.eq.1]; exact ih
theorem ok_par {is : List Nat} {f : En → Option (List Fv × En)} (k : Ok2 (f ρ) fun fs ρ1 => ∃ ρ2, PutF is fs ρ1 ρ2 ∧ N ρ2) : OkS (gPar is f ρ) N R B C := by
  obtain ⟨fs, ρ1, e1, ρ2, s, k⟩ := k
  exact ⟨_, by unfold gPar; rw [e1]; show (putFv is fs ρ1).map _ = _; rw [s.eq]; rfl, k⟩
/-! bodies -/
theorem ok_body {n : Nat} {ms : List Bool} {g : FS} {ds : List D} {P : D → List D → Prop} (hl : ds.length = ms.length)
    (k : OkS (g (argE ms ds ++ List.replicate (n - ms.length) none)) (fun ρ => Ok1 (outs ms ρ) fun os => P .non os) (fun d ρ => Ok1 (outs ms ρ) fun os => P d os) (fun _ => False) (fun _ => False)) : Ok2 (bodyF n ms g ds) P := by
  obtain ⟨x, e, k⟩ := k
  unfold bodyF
  rw [if_pos hl, e]
  cases x with
  | nx ρ =>
    obtain ⟨os, e2, k⟩ := k
    exact ⟨_, _, by show (outs ms ρ).map _ = _; rw [e2]; rfl, k⟩
  | rt d ρ =>
    obtain ⟨os, e2, k⟩ := k
    exact ⟨_, _, by show (outs ms ρ).map _ = _; rw [e2]; rfl, k⟩
  | bk ρ => exact k.elim
  | ct ρ => exact k.elim
/-! defs that may raise -/
theorem okx_nm {g : FS} (k : OkS (g ρ) N R (fun _ => False) (fun _ => False)) : OkX (gxNm g ρ) N R X := by
  obtain ⟨x, e, k⟩ := k
  refine ⟨.nm x, by unfold gxNm; rw [e]; rfl, ?_⟩
  cases x <;> exact k
theorem okx_seq {g h : FSX} (k : OkX (g ρ) (fun ρ1 => OkX (h ρ1) N R X) R X) : OkX (gxSeq g h ρ) N R X := by
  obtain ⟨x, e, k⟩ := k
  unfold gxSeq
  rw [e]
  cases x with
  | nm o =>
    cases o with
    | nx ρ1 => exact k
    | rt d ρ1 => exact ⟨_, rfl, k⟩
    | bk ρ1 => exact k.elim
    | ct ρ1 => exact k.elim
  | ex c fs ρ1 => exact ⟨_, rfl, k⟩
theorem okx_if {g h : FSX} (k : Ok2 (ft ρ) fun t ρ1 => (t = true → OkX (g ρ1) N R X) ∧ (t = false → OkX (h ρ1) N R X)) : OkX (gxIf ft g h ρ) N R X := by
  obtain ⟨t, ρ1, e, k1, k2⟩ := k
  unfold gxIf
  rw [e]
  cases t with
  | true => exact k1 rfl
  | false => exact k2 rfl
theorem okx_raise1 {c f : Str} (k : Ok2 (fa ρ) fun d _ => X c [(f, d)]) : OkX (gxRaise1 c f fa ρ) N R X := by
  obtain ⟨d, ρ1, e, k⟩ := k
  exact ⟨_, by unfold gxRaise1; rw [e]; rfl, k⟩
theorem okx_call {Fx : DFX} {fas : FA} (k : Ok2 (fArgs fas ρ) fun ds ρ1 => Ok1 (Fx ds) fun r => match r with
    | .ok _ => N ρ1
    | .ex c fs => X c fs) : OkX (gxCall Fx fas ρ) N R X := by
  obtain ⟨ds, ρ1, e1, r, e2, k⟩ := k
  unfold gxCall
  rw [e1]; show OkX ((Fx ds).map _) N R X
  rw [e2]
  cases r with
  | ok d => exact ⟨_, rfl, k⟩
  | ex c fs => exact ⟨_, rfl, k⟩
theorem ok_bodyX {n m : Nat} {g : FSX} {ds : List D} {P : Rz → Prop} (hl : ds.length = m)
    (k : OkX (g ((ds.map fun d => some (.sh d)) ++ List.replicate (n - m) none)) (fun _ => P (.ok .non)) (fun d _ => P (.ok d)) (fun c fs => P (.ex c fs))) : Ok1 (bodyX n m g ds) P := by
  obtain ⟨x, e, k⟩ := k
  unfold bodyX
  rw [if_pos hl, e]
  cases x with
  | nm o =>
    cases o with
    | nx ρ => exact ⟨_, rfl, k⟩
    | rt d ρ => exact ⟨_, rfl, k⟩
    | bk ρ => exact k.elim
    | ct ρ => exact k.elim
  | ex c fs ρ => exact ⟨_, rfl, k⟩
theorem okx_raise0 {c : Str} (k : X c []) : OkX (gxRaise0 c ρ) N R X := ⟨_, rfl, k⟩
end
end DL

end

section
set_option maxRecDepth 100000
set_option maxHeartbeats 1000000
/-! The plain laws' tools: loops, primitives. -/
namespace DL
open PySem PySem.Spec L2
section
variable {α : Type} {ι : α → D} {ρ ρ1 : En} {vs : List Nat} {p : D → En → Option En} {ft : FT} {fe : FE} {gb : FS}
theorem lc_pure (t : α → Bool) (h : α → D) : ∀ (xs : List α) (acc : List D), acc.length + xs.length ≤ 1000000 →
    (∀ x ∈ xs, Ok1 (p (ι x) ρ) fun ρ2 => Ok2 (ft ρ2) fun b ρ3 => b = t x ∧ (t x = true → Ok2 (fe ρ3) fun z ρ4 => z = h x ∧ wipeE ρ4 vs = ρ) ∧ (t x = false → wipeE ρ3 vs = ρ)) →
    lcGo vs p ft fe (xs.map ι) acc ρ = some (acc ++ (xs.filter t).map h, ρ)
  | [], acc, _, _ => by simp [lcGo]
  | x :: xs, acc, hl, st => by
    obtain ⟨ρ2, e1, b, ρ3, e2, rfl, k1, k2⟩ := st x (List.mem_cons_self ..)
    have hl' : acc.length + (xs.length + 1) ≤ 1000000 := by simpa using hl
    rw [List.map_cons]
    unfold lcGo
    rw [e1]
    show (ft ρ2).bind _ = _
    rw [e2]
    show (if t x = true then _ else _) = _
    cases ht : t x with
    | true =>
      obtain ⟨z, ρ4, e3, rfl, e4⟩ := k1 ht
      rw [if_pos rfl, e3]
      show (if acc.length < 1000000 then _ else _) = _
      rw [if_pos (by omega), e4, lc_pure t h xs (acc ++ [h x]) (by simp; omega) fun y hy => st y (List.mem_cons_of_mem _ hy), List.filter_cons_of_pos ht]
      simp
    | false =>
      have e4 := k2 ht
      rw [if_neg (by simp), e4, lc_pure t h xs acc (by omega) fun y hy => st y (List.mem_cons_of_mem _ hy), List.filter_cons_of_neg (by simp [ht])]
theorem ok_lc {fi : En → Option (List D × En)} {P : List D → En → Prop} (k : Ok2 (fi ρ) fun ds ρ1 => ∃ ρ2, WipeAt ρ1 vs ρ2 ∧ Ok2 (lcGo vs p ft fe ds [] ρ2) P) : Ok2 (fLc vs fi p ft fe ρ) P := by
  obtain ⟨ds, ρ1, e1, ρ2, w, ds2, ρ3, e2, k⟩ := k
  exact ⟨ds2, ρ3, by unfold fLc; rw [e1]; show lcGo vs p ft fe ds [] (wipeE ρ1 vs) = _; rw [w.eq]; exact e2, k⟩
/-- a comprehension that changes nothing -/
theorem ok_lcP {xs : List α} (t : α → Bool) (h : α → D) {P : List D → En → Prop} (hl : xs.length ≤ 1000000)
    (st : ∀ x ∈ xs, Ok1 (p (ι x) ρ) fun ρ2 => Ok2 (ft ρ2) fun b ρ3 => b = t x ∧ (t x = true → Ok2 (fe ρ3) fun z ρ4 => z = h x ∧ wipeE ρ4 vs = ρ) ∧ (t x = false → wipeE ρ3 vs = ρ))
    (k : P ((xs.filter t).map h) ρ) : Ok2 (lcGo vs p ft fe (xs.map ι) [] ρ) P :=
  ⟨_, _, lc_pure t h xs [] (by simpa using hl) st, by simpa using k⟩
/-- .. without a condition -/
theorem ok_lcM {xs : List α} (h : α → D) {P : List D → En → Prop} (hl : xs.length ≤ 1000000)
    (st : ∀ x ∈ xs, Ok1 (p (ι x) ρ) fun ρ2 => Ok2 (fe ρ2) fun z ρ4 => z = h x ∧ wipeE ρ4 vs = ρ)
    (k : P (xs.map h) ρ) : Ok2 (lcGo vs p fYes fe (xs.map ι) [] ρ) P :=
  ok_lcP (fun _ => true) h hl (fun x hx => (st x hx).imp fun ρ2 z => ok_yes ⟨rfl, fun _ => z, fun e => by cases e⟩) (by rw [List.filter_eq_self.mpr (fun _ _ => rfl)]; exact k)
theorem lc_inv' {I : List α → List D → En → Prop} {xs : List α}
    (st : ∀ (done : List α) (x : α) (rest : List α), xs = done ++ x :: rest → ∀ acc ρ, I done acc ρ → Ok1 (p (ι x) ρ) fun ρ2 => Ok2 (ft ρ2) fun b ρ3 => (b = true → Ok2 (fe ρ3) fun z ρ4 => acc.length < 1000000 ∧ I (done ++ [x]) (acc ++ [z]) (wipeE ρ4 vs)) ∧ (b = false → I (done ++ [x]) acc (wipeE ρ3 vs))) :
    ∀ (rest done : List α) (acc : List D) (ρ : En), xs = done ++ rest → I done acc ρ → Ok2 (lcGo vs p ft fe (rest.map ι) acc ρ) fun acc ρ' => I xs acc ρ'
  | [], done, acc, ρ, e, i => ⟨acc, ρ, rfl, by rw [e, List.append_nil]; exact i⟩
  | x :: rest, done, acc, ρ, e, i => by
    obtain ⟨ρ2, e1, b, ρ3, e2, k1, k2⟩ := st done x rest e acc ρ i
    rw [List.map_cons]
    unfold lcGo
    rw [e1]
    show Ok2 ((ft ρ2).bind _) _
    rw [e2]
    show Ok2 (if b = true then _ else _) _
    cases hb : b with
    | true =>
      obtain ⟨z, ρ4, e3, hl, i'⟩ := k1 hb
      rw [if_pos rfl, e3]
      show Ok2 (if acc.length < 1000000 then _ else _) _
      rw [if_pos hl]
      exact lc_inv' st rest (done ++ [x]) _ _ (by rw [e]; simp) i'
    | false =>
      rw [if_neg (by simp)]
      exact lc_inv' st rest (done ++ [x]) _ _ (by rw [e]; simp) (k2 hb)
/-- a comprehension with an invariant -/
theorem ok_lcI {I : List α → List D → En → Prop} {xs : List α} {P : List D → En → Prop} (start : I [] [] ρ)
    (st : ∀ (done : List α) (x : α) (rest : List α), xs = done ++ x :: rest → ∀ acc ρ, I done acc ρ → Ok1 (p (ι x) ρ) fun ρ2 => Ok2 (ft ρ2) fun b ρ3 => (b = true → Ok2 (fe ρ3) fun z ρ4 => acc.length < 1000000 ∧ I (done ++ [x]) (acc ++ [z]) (wipeE ρ4 vs)) ∧ (b = false → I (done ++ [x]) acc (wipeE ρ3 vs)))
    (k : ∀ acc ρ, I xs acc ρ → P acc ρ) : Ok2 (lcGo vs p ft fe (xs.map ι) [] ρ) P :=
  (lc_inv' st xs [] [] ρ rfl start).imp k
theorem for_inv' {I : List α → En → Prop} {xs : List α} {N B C : En → Prop} {R : D → En → Prop}
    (st : ∀ (done : List α) (x : α) (rest : List α), xs = done ++ x :: rest → ∀ ρ, I done ρ → Ok1 (p (ι x) ρ) fun ρ1 => OkS (gb ρ1) (fun ρ2 => I (done ++ [x]) ρ2) R N (fun ρ2 => I (done ++ [x]) ρ2)) (fin : ∀ ρ, I xs ρ → N ρ) :
    ∀ (rest done : List α) (ρ : En), xs = done ++ rest → I done ρ → OkS (forGo p gb (rest.map ι) ρ) N R B C
  | [], done, ρ, e, i => ⟨_, rfl, fin ρ (by rw [e, List.append_nil]; exact i)⟩
  | x :: rest, done, ρ, e, i => by
    obtain ⟨ρ2, e1, o, e2, k⟩ := st done x rest e ρ i
    rw [List.map_cons]
    unfold forGo
    rw [e1]
    show OkS ((gb ρ2).bind _) _ _ _ _
    rw [e2]
    cases o with
    | nx ρ3 => exact for_inv' st fin rest (done ++ [x]) ρ3 (by rw [e]; simp) k
    | ct ρ3 => exact for_inv' st fin rest (done ++ [x]) ρ3 (by rw [e]; simp) k
    | bk ρ3 => exact ⟨_, rfl, k⟩
    | rt d ρ3 => exact ⟨_, rfl, k⟩
theorem ok_forI {I : List α → En → Prop} {xs : List α} {N B C : En → Prop} {R : D → En → Prop} (start : I [] ρ)
    (st : ∀ (done : List α) (x : α) (rest : List α), xs = done ++ x :: rest → ∀ ρ, I done ρ → Ok1 (p (ι x) ρ) fun ρ1 => OkS (gb ρ1) (fun ρ2 => I (done ++ [x]) ρ2) R N (fun ρ2 => I (done ++ [x]) ρ2)) (fin : ∀ ρ, I xs ρ → N ρ) :
    OkS (forGo p gb (xs.map ι) ρ) N R B C := for_inv' st fin xs [] ρ rfl start
theorem ok_for {fi : En → Option (List D × En)} {N B C : En → Prop} {R : D → En → Prop} (k : Ok2 (fi ρ) fun ds ρ1 => OkS (forGo p gb ds ρ1) N R B C) : OkS (gFor fi p gb ρ) N R B C := by
  obtain ⟨ds, ρ1, e1, k⟩ := k
  unfold gFor
  rw [e1]; exact k
theorem ok_lc2 {vs1 : List Nat} {fi fi1 : En → Option (List D × En)} {p1 : D → En → Option En} {ft1 : FT} {P : List D → En → Prop} (k : Ok2 (fi ρ) fun ds ρ1 => ∃ ρ2, WipeAt ρ1 vs ρ2 ∧ Ok2 (lc2Go vs p ft vs1 fi1 p1 ft1 fe ds [] ρ2) P) : Ok2 (fLc2 vs fi p ft vs1 fi1 p1 ft1 fe ρ) P := by
  obtain ⟨ds, ρ1, e1, ρ2, w, ds2, ρ3, e2, k⟩ := k
  exact ⟨ds2, ρ3, by unfold fLc2; rw [e1]; show lc2Go vs p ft vs1 fi1 p1 ft1 fe ds [] (wipeE ρ1 vs) = _; rw [w.eq]; exact e2, k⟩
theorem lc2_pure {vs1 : List Nat} {fi1 : En → Option (List D × En)} {p1 : D → En → Option En} {ft1 : FT} (h : α → List D) : ∀ (xs : List α) (acc : List D), acc.length + ((xs.map h).map List.length).sum ≤ 1000000 →
    (∀ x ∈ xs, ∀ acc, acc.length + (h x).length ≤ 1000000 → Ok1 (p (ι x) ρ) fun ρ2 => Ok2 (fi1 ρ2) fun ds ρ3 => ∃ ρ4, lcGo vs1 p1 ft1 fe ds acc (wipeE ρ3 vs1) = some (acc ++ h x, ρ4) ∧ wipeE ρ4 vs = ρ) →
    lc2Go vs p fYes vs1 fi1 p1 ft1 fe (xs.map ι) acc ρ = some (acc ++ (xs.map h).flatten, ρ)
  | [], acc, _, _ => by simp [lc2Go]
  | x :: xs, acc, hl, st => by
    have hl' : acc.length + ((h x).length + ((xs.map h).map List.length).sum) ≤ 1000000 := by simpa using hl
    obtain ⟨ρ2, e1, ds, ρ3, e2, ρ4, e3, e4⟩ := st x (List.mem_cons_self ..) acc (by omega)
    rw [List.map_cons]
    unfold lc2Go
    rw [e1]
    show (fi1 ρ2).bind _ = _
    rw [e2]
    show (lcGo vs1 p1 ft1 fe ds acc (wipeE ρ3 vs1)).bind _ = _
    rw [e3]
    show lc2Go vs p fYes vs1 fi1 p1 ft1 fe (xs.map ι) (acc ++ h x) (wipeE ρ4 vs) = _
    rw [e4, lc2_pure h xs (acc ++ h x) (by rw [List.length_append]; omega) fun y hy => st y (List.mem_cons_of_mem _ hy)]
    simp
end
/-! primitives -/
def okS (x : Str) : Prop := PyData.strOk x = true
theorem okD_str {x : Str} (h : okS x) : okD (.str x) = true := by
  unfold okD SeqAt.shaped
  simp only [toPy, dat, PyData.canLay0, PyData.depth, Bool.true_and]
  rw [h]; rfl
theorem okD_int (i : Int) : okD (.int i) = true := rfl
theorem okD_bl (i : Bool) : okD (.bl i) = true := rfl
theorem eq_str {a b : Str} (ha : okS a) (hb : okS b) : eqD (.str a) (.str b) = some (.bl (decide (a = b))) := by
  unfold eqD
  rw [if_pos ⟨okD_str ha, okD_str hb⟩]
  simp only [toPy, PyData.eqv]
  congr 2
theorem ne_str {a b : Str} (ha : okS a) (hb : okS b) : neD (.str a) (.str b) = some (.bl (!decide (a = b))) := by
  unfold neD
  rw [if_pos ⟨okD_str ha, okD_str hb⟩]
  simp only [toPy, PyData.eqv]
  congr 2
theorem eq_int (i j : Int) : eqD (.int i) (.int j) = some (.bl (decide (i = j))) := by
  unfold eqD
  rw [if_pos ⟨okD_int i, okD_int j⟩]
  simp only [toPy, PyData.eqv]
  congr 2
theorem inF_str (x : Str) (xs : List Str) : inF (.str x) (xs.map .str) = decide (x ∈ xs) := by
  unfold inF inV
  induction xs with
  | nil => rfl
  | cons y ys ih =>
    simp only [List.map_cons, List.any_cons] at ih ⊢
    rw [ih]
    simp only [fv, eqV, List.mem_cons]
    by_cases h : y = x
    · subst h; simp
    · have h2 : ¬ x = y := fun e => h e.symm
      simp [h, h2]
theorem flat_strs (xs : List Str) : (xs.map D.str).all flatD = true := by
  rw [List.all_map]
  exact List.all_eq_true.mpr fun _ _ => rfl
theorem in_tup (x : Str) (xs : List Str) : inD (.str x) (.tup (xs.map .str)) = some (.bl (decide (x ∈ xs))) := by
  unfold inD
  have : inB (.str x) (.tup (xs.map .str)) = some (inF (.str x) (xs.map .str)) := if_pos ⟨rfl, flat_strs xs⟩
  rw [this, inF_str]; rfl
theorem in_lst (x : Str) (xs : List Str) : inD (.str x) (.lst (xs.map .str)) = some (.bl (decide (x ∈ xs))) := by
  unfold inD
  have : inB (.str x) (.lst (xs.map .str)) = some (inF (.str x) (xs.map .str)) := if_pos ⟨rfl, flat_strs xs⟩
  rw [this, inF_str]; rfl
theorem nin_tup (x : Str) (xs : List Str) : ninD (.str x) (.tup (xs.map .str)) = some (.bl (!decide (x ∈ xs))) := by
  unfold ninD
  have : inB (.str x) (.tup (xs.map .str)) = some (inF (.str x) (xs.map .str)) := if_pos ⟨rfl, flat_strs xs⟩
  rw [this, inF_str]; rfl
theorem nin_lst (x : Str) (xs : List Str) : ninD (.str x) (.lst (xs.map .str)) = some (.bl (!decide (x ∈ xs))) := by
  unfold ninD
  have : inB (.str x) (.lst (xs.map .str)) = some (inF (.str x) (xs.map .str)) := if_pos ⟨rfl, flat_strs xs⟩
  rw [this, inF_str]; rfl
theorem in_sgn (c : Nat) (z : Str) : inD (.str ⟨#[c]⟩) (.str z) = some (.bl (decide (c ∈ z.cps.toList))) := rfl
theorem all_bls (bs : List Bool) : allD [.lst (bs.map .bl)] = some (.bl (bs.all id)) := by
  show (blsD (bs.map .bl)).map _ = _
  rw [blsD_map]; rfl
theorem any_bls (bs : List Bool) : anyD [.lst (bs.map .bl)] = some (.bl (bs.any id)) := by
  show (blsD (bs.map .bl)).map _ = _
  rw [blsD_map]; rfl
theorem at_get {α : Type} {xs : List α} {i : Nat} {d : α} (h : xs[i]? = some d) : atI xs (i : Int) = some d := by
  have hl : i < xs.length := (List.getElem?_eq_some_iff.mp h).1
  unfold atI ixN
  rw [if_pos (Int.natCast_nonneg i), if_pos (by omega)]
  exact h
theorem at_0 {α : Type} {x : α} {xs : List α} : atI (x :: xs) 0 = some x := at_get (i := 0) rfl
theorem at_int {α : Type} {xs : List α} {i : Int} {d : α} (h0 : 0 ≤ i) (h : xs[i.toNat]? = some d) : atI xs i = some d := by
  obtain ⟨n, rfl⟩ := Int.eq_ofNat_of_zero_le h0
  exact at_get h
end DL
namespace DL
section
variable {P : Bool → Prop} {X Y : Prop} {ds : List D}
theorem tru_bl {b : Bool} (k : P b) : ∃ t, truD (.bl b) = some t ∧ P t := ⟨b, rfl, k⟩
theorem tru_lst (k : P (!ds.isEmpty)) : ∃ t, truD (.lst ds) = some t ∧ P t := ⟨_, rfl, k⟩
theorem tru_tup (k : P (!ds.isEmpty)) : ∃ t, truD (.tup ds) = some t ∧ P t := ⟨_, rfl, k⟩
theorem ex_bl {b : Bool} (k : P b) : ∃ t, (D.bl b) = .bl t ∧ P t := ⟨b, rfl, k⟩
theorem br_t (k : X) : (true = true → X) ∧ (true = false → Y) := ⟨fun _ => k, fun e => Bool.noConfusion e⟩
theorem br_f (k : Y) : (false = true → X) ∧ (false = false → Y) := ⟨fun e => Bool.noConfusion e, fun _ => k⟩
theorem br_nt (k : Y) : ((!true) = true → X) ∧ ((!true) = false → Y) := ⟨fun e => Bool.noConfusion e, fun _ => k⟩
theorem br_nf (k : X) : ((!false) = true → X) ∧ ((!false) = false → Y) := ⟨fun _ => k, fun e => Bool.noConfusion e⟩
theorem br_true {b : Bool} (h : b = true) (k : X) : (b = true → X) ∧ (b = false → Y) := ⟨fun _ => k, fun e => (by rw [h] at e; cases e)⟩
theorem br_false {b : Bool} (h : b = false) (k : Y) : (b = true → X) ∧ (b = false → Y) := ⟨fun e => (by rw [h] at e; cases e), fun _ => k⟩
end
end DL
namespace DL
open PySem PySem.Spec L2
section
variable {P : D → Prop} {ds es : List D} {i j : Int} {a b z : D}
theorem p_lenT (k : P (.int ds.length)) : Ok1 (lenD [.tup ds]) P := ⟨_, rfl, k⟩
theorem p_lenL (k : P (.int ds.length)) : Ok1 (lenD [.lst ds]) P := ⟨_, rfl, k⟩
theorem p_le (k : P (.bl (decide (i ≤ j)))) : Ok1 (leD (.int i) (.int j)) P := ⟨_, rfl, k⟩
theorem p_ge (k : P (.bl (decide (j ≤ i)))) : Ok1 (geD (.int i) (.int j)) P := ⟨_, rfl, k⟩
theorem p_gt (k : P (.bl (decide (j < i)))) : Ok1 (gtD (.int i) (.int j)) P := ⟨_, rfl, k⟩
theorem p_lt (k : P (.bl (decide (i < j)))) : Ok1 (ltD (.int i) (.int j)) P := ⟨_, rfl, k⟩
theorem p_addI (k : P (.int (i + j))) : Ok1 (addD (.int i) (.int j)) P := ⟨_, rfl, k⟩
theorem p_subI (k : P (.int (i - j))) : Ok1 (subD (.int i) (.int j)) P := ⟨_, rfl, k⟩
theorem p_addT (h : ds.length + es.length ≤ 1000000) (k : P (.tup (ds ++ es))) : Ok1 (addD (.tup ds) (.tup es)) P := ⟨_, if_pos h, k⟩
theorem p_addL (h : ds.length + es.length ≤ 1000000) (k : P (.lst (ds ++ es))) : Ok1 (addD (.lst ds) (.lst es)) P := ⟨_, if_pos h, k⟩
theorem p_addS {x y : Str} (h : x.length + y.length ≤ 1000000) (k : P (.str (x ++ y))) : Ok1 (addD (.str x) (.str y)) P := ⟨_, if_pos h, k⟩
theorem p_ix (h : ixD a b = some z) (k : P z) : Ok1 (ixD a b) P := ⟨_, h, k⟩
theorem p_at (h : atI ds i = some z) (k : P z) : Ok1 (atI ds i) P := ⟨_, h, k⟩
theorem p_tupL (k : P (.tup ds)) : Ok1 (tupD [.lst ds]) P := ⟨_, rfl, k⟩
theorem p_tupT (k : P (.tup ds)) : Ok1 (tupD [.tup ds]) P := ⟨_, rfl, k⟩
theorem p_tupF (k : P (.tpx ds)) : Ok1 (tupFD [.lst ds]) P := ⟨_, rfl, k⟩
theorem p_int (k : P (.int i)) : Ok1 (intD [.int i]) P := ⟨_, rfl, k⟩
theorem p_intB {t : Bool} (k : P (.int (if t then 1 else 0))) : Ok1 (intD [.bl t]) P := ⟨_, rfl, k⟩
theorem p_max (k : P (.int (if j > i then j else i))) : Ok1 (maxD [.int i, .int j]) P := ⟨_, rfl, k⟩
theorem p_eqI (k : P (.bl (decide (i = j)))) : Ok1 (eqD (.int i) (.int j)) P := ⟨_, eq_int i j, k⟩
theorem p_eqS {x y : Str} (hx : okS x) (hy : okS y) (k : P (.bl (decide (x = y)))) : Ok1 (eqD (.str x) (.str y)) P := ⟨_, eq_str hx hy, k⟩
theorem p_neS {x y : Str} (hx : okS x) (hy : okS y) (k : P (.bl (!decide (x = y)))) : Ok1 (neD (.str x) (.str y)) P := ⟨_, ne_str hx hy, k⟩
theorem p_inT {x : Str} {xs : List Str} (k : P (.bl (decide (x ∈ xs)))) : Ok1 (inD (.str x) (.tup (xs.map .str))) P := ⟨_, in_tup x xs, k⟩
theorem p_inL {x : Str} {xs : List Str} (k : P (.bl (decide (x ∈ xs)))) : Ok1 (inD (.str x) (.lst (xs.map .str))) P := ⟨_, in_lst x xs, k⟩
theorem p_ninT {x : Str} {xs : List Str} (k : P (.bl (!decide (x ∈ xs)))) : Ok1 (ninD (.str x) (.tup (xs.map .str))) P := ⟨_, nin_tup x xs, k⟩
theorem p_ninL {x : Str} {xs : List Str} (k : P (.bl (!decide (x ∈ xs)))) : Ok1 (ninD (.str x) (.lst (xs.map .str))) P := ⟨_, nin_lst x xs, k⟩
theorem p_sgn {c : Nat} {z : Str} (k : P (.bl (decide (c ∈ z.cps.toList)))) : Ok1 (inD (.str ⟨#[c]⟩) (.str z)) P := ⟨_, rfl, k⟩
theorem p_lenS {x : Str} (h : x.length ≤ 1000000) (k : P (.int x.length)) : Ok1 (lenD [.str x]) P := ⟨_, if_pos h, k⟩
theorem bls_eq {α : Type} {f : α → Bool} {h : α → D} (e : ∀ x, h x = .bl (f x)) (xs : List α) : blsD (xs.map h) = some (xs.map f) := by
  have : xs.map h = (xs.map f).map D.bl := by rw [List.map_map]; exact List.map_congr_left fun x _ => e x
  rw [this, blsD_map]
theorem p_all {α : Type} {f : α → Bool} {h : α → D} {xs : List α} (e : ∀ x, h x = .bl (f x)) (k : P (.bl (xs.all f))) : Ok1 (allD [.lst (xs.map h)]) P := by
  refine ⟨_, ?_, k⟩
  show (blsD (xs.map h)).map _ = _
  rw [bls_eq e]
  simp [Function.comp_def, List.all_map]
theorem p_any {α : Type} {f : α → Bool} {h : α → D} {xs : List α} (e : ∀ x, h x = .bl (f x)) (k : P (.bl (xs.any f))) : Ok1 (anyD [.lst (xs.map h)]) P := by
  refine ⟨_, ?_, k⟩
  show (blsD (xs.map h)).map _ = _
  rw [bls_eq e]
  simp [Function.comp_def, List.any_map]
theorem p_isN (k : P (.bl (isN a))) : Ok1 (isD a .non) P := ⟨_, rfl, k⟩
theorem p_mod (h : j ≠ 0) (k : P (.int (i.fmod j))) : Ok1 (modD (.int i) (.int j)) P := ⟨_, if_pos h, k⟩
theorem p_mulI (h : (-(2 ^ 64) < i ∧ i < 2 ^ 64) ∨ (-(2 ^ 64) < j ∧ j < 2 ^ 64)) (k : P (.int (i * j))) : Ok1 (mulD (.int i) (.int j)) P := ⟨_, if_pos h, k⟩
theorem p_mulS {x : Str} (h : 0 ≤ j ∧ j ≤ 1000 ∧ x.length ≤ 1000) (k : P (.str (repS x j.toNat))) : Ok1 (mulD (.str x) (.int j)) P := ⟨_, if_pos h, k⟩
end
end DL
namespace DL
open PySem PySem.Spec L2
section
variable {ds : List D} {P : List D → Prop}
theorem it_T (k : P ds) : ∃ es, itD (.tup ds) = some es ∧ P es := ⟨_, rfl, k⟩
theorem it_L (k : P ds) : ∃ es, itD (.lst ds) = some es ∧ P es := ⟨_, rfl, k⟩
theorem it_S {x : Str} (k : P (x.cps.toList.map fun c => .str ⟨#[c]⟩)) : ∃ es, itD (.str x) = some es ∧ P es := ⟨_, rfl, k⟩
theorem wp_ {ρ ρ1 : En} {vs : List Nat} {Q : En → Prop} (w : WipeAt ρ vs ρ1) (k : Q ρ1) : ∃ ρ2, WipeAt ρ vs ρ2 ∧ Q ρ2 := ⟨_, w, k⟩
theorem st_ {ρ ρ1 : En} {i : Nat} {s : Option Sl} {Q : En → Prop} (w : SetAt ρ i s ρ1) (k : Q ρ1) : ∃ ρ2, SetAt ρ i s ρ2 ∧ Q ρ2 := ⟨_, w, k⟩
theorem pf_ {ρ ρ1 : En} {is : List Nat} {fs : List Fv} {Q : En → Prop} (w : PutF is fs ρ ρ1) (k : Q ρ1) : ∃ ρ2, PutF is fs ρ ρ2 ∧ Q ρ2 := ⟨_, w, k⟩
end
end DL
namespace DL
open PySem PySem.Spec L2
section
variable {P : D → Prop} {ρ ρ1 ρ2 : En} {N : En → Prop} {d : D}
theorem p_inb {x : Str} {xs : List Str} (k : P (.bl (decide (x ∈ xs)))) : Ok1 (inBD false (.str x) (xs.map D.str)) P :=
  ⟨_, by unfold inBD; rw [if_pos ⟨rfl, flat_strs xs⟩, if_neg (by decide), inF_str], k⟩
theorem p_inbN {x : Str} {xs : List Str} (k : P (.bl (!decide (x ∈ xs)))) : Ok1 (inBD true (.str x) (xs.map D.str)) P :=
  ⟨_, by unfold inBD; rw [if_pos ⟨rfl, flat_strs xs⟩, if_pos rfl, inF_str], k⟩
theorem app_ {i : Nat} {l : Bool} {ds : List D} (h : ρ1[i]? = some (some (.ow l (.lst ds)))) (s : SetAt ρ1 i (some (.ow l (.lst (ds ++ [d])))) ρ2) (k : N ρ2) (hl : ds.length < 1000000) : ∃ l ds ρ2, ρ1[i]? = some (some (.ow l (.lst ds))) ∧ ds.length < 1000000 ∧ SetAt ρ1 i (some (.ow l (.lst (ds ++ [d])))) ρ2 ∧ N ρ2 := ⟨l, ds, ρ2, h, hl, s, k⟩
theorem ext_ {i : Nat} {l : Bool} {ds es : List D} (h : ρ1[i]? = some (some (.ow l (.lst ds)))) (s : SetAt ρ1 i (some (.ow l (.lst (ds ++ es)))) ρ2) (k : N ρ2) (hl : ds.length + es.length ≤ 1000000) : ∃ es' l ds ρ2, D.lst es = .lst es' ∧ ρ1[i]? = some (some (.ow l (.lst ds))) ∧ ds.length + es'.length ≤ 1000000 ∧ SetAt ρ1 i (some (.ow l (.lst (ds ++ es')))) ρ2 ∧ N ρ2 := ⟨es, l, ds, ρ2, rfl, h, hl, s, k⟩
end
end DL
namespace DL
theorem len_ {n : Nat} {X : Prop} (h : Nat.ble n 1000000 = true) (k : X) : n ≤ 1000000 ∧ X := ⟨Nat.le_of_ble_eq_true h, k⟩
end DL
namespace DL
open PySem PySem.Spec L2
theorem enumD_eq {α : Type} (κ : α → D) (xs : List α) : enumD (xs.map κ) = xs.zipIdx.map fun p => .tup [.int (p.2 : Nat), κ p.1] := by
  unfold enumD
  refine List.ext_getElem (by simp) fun i h1 h2 => ?_
  simp at h1 h2
  simp [h2]
theorem p_enum {α : Type} {κ : α → D} {xs : List α} {P : List D → Prop} (k : P (xs.zipIdx.map fun p => .tup [.int (p.2 : Nat), κ p.1])) : Ok1 (enT (.tup (xs.map κ))) P := ⟨_, congrArg some (enumD_eq κ xs), k⟩
theorem zipIdx_fst {α : Type} (xs : List α) : xs.zipIdx.map Prod.fst = xs := by simp
/-- the items ahead, the item itself -/
theorem zip_split {α : Type} {xs : List α} {done : List (α × Nat)} {x : α × Nat} {rest : List (α × Nat)} (e : xs.zipIdx = done ++ x :: rest) : xs = done.map Prod.fst ++ x.1 :: rest.map Prod.fst := by
  have := zipIdx_fst xs
  rw [e] at this
  simpa using this.symm
theorem nd_split {α : Type} {xs a b : List α} {x : α} (h : xs.Nodup) (e : xs = a ++ x :: b) : x ∉ a := by
  rw [e] at h
  exact fun z => (List.nodup_append.mp h).2.2 _ z _ (List.mem_cons_self ..) rfl
theorem cntS_nd {xs : List Str} (h : xs.Nodup) : ∀ i, i ≤ xs.length → cntS xs i = i
  | 0, _ => rfl
  | i + 1, hi => by
    unfold cntS
    rw [cntS_nd h i (by omega)]
    rw [if_neg ?_]
    intro e
    obtain ⟨y, hy, e2⟩ := List.any_eq_true.mp e
    have e3 : y = xs.getD i Str.empty := by simpa using e2
    have hlt : i < xs.length := by omega
    rw [List.getD_eq_getElem?_getD, List.getElem?_eq_getElem hlt] at e3
    have e5 : xs = xs.take i ++ xs[i] :: xs.drop (i + 1) := by rw [← List.drop_eq_getElem_cons hlt, List.take_append_drop]
    have e6 : y = xs[i] := e3
    exact nd_split h e5 (e6 ▸ hy)
/-! texts -/
theorem okS_app {x y : Str} (h : okS x) (h2 : okS y) : okS (x ++ y) := by
  show (x.cps ++ y.cps).all _ = true
  rw [Array.all_append]
  show (x.cps.all _ && y.cps.all _) = true
  rw [show (x.cps.all fun c => decide (c < 0x110000)) = true from h, show (y.cps.all fun c => decide (c < 0x110000)) = true from h2]; rfl
theorem len_app (x y : Str) : (x ++ y).length = x.length + y.length := Array.size_append ..
structure Tx (n : Nat) (x : Str) : Prop where
  ok : okS x
  le : x.length ≤ n
theorem Tx.mono {n m : Nat} {x : Str} (h : Tx n x) (k : n ≤ m) : Tx m x := ⟨h.ok, Nat.le_trans h.le k⟩
theorem Tx.app {n m : Nat} {x y : Str} (h : Tx n x) (k : Tx m y) : Tx (n + m) (x ++ y) := ⟨okS_app h.ok k.ok, by rw [len_app]; have := h.le; have := k.le; omega⟩
theorem tx_lit {x : Str} {n : Nat} (h : (PyData.strOk x && Nat.ble x.length n) = true) : Tx n x := by
  rw [Bool.and_eq_true] at h
  exact ⟨h.1, Nat.le_of_ble_eq_true h.2⟩
theorem okS_join {sep : Str} (hs : okS sep) : ∀ {xs : List Str}, (∀ x ∈ xs, okS x) → okS (Str.join sep xs)
  | [], _ => by show PyData.strOk Str.empty = true; decide +kernel
  | [x], h => h x (List.mem_cons_self ..)
  | x :: y :: r, h => okS_app (okS_app (h x (List.mem_cons_self ..)) hs) (okS_join hs (xs := y :: r) fun z hz => h z (List.mem_cons_of_mem _ hz))
theorem okS_tjoin {sep : Str} (hs : okS sep) {xs : List Str} (h : ∀ x ∈ xs, okS x) : okS (Txt.join sep xs) := by
  show okS (Builtin.Str.glued sep xs)
  rw [StrLaws.glued_eq_join]
  exact okS_join hs h
theorem sum_le {n : Nat} : ∀ {xs : List Str}, (∀ x ∈ xs, x.length ≤ n) → (xs.map (·.length)).sum ≤ xs.length * n
  | [], _ => Nat.zero_le _
  | x :: xs, h => by
    have h1 := h x (List.mem_cons_self ..)
    have h2 := sum_le (xs := xs) fun y hy => h y (List.mem_cons_of_mem _ hy)
    simp only [List.map_cons, List.sum_cons, List.length_cons, Nat.succ_mul]
    omega
theorem p_joinL {a : Str} {xs : List Str} {P : D → Prop} (h : (xs.map (·.length)).sum + xs.length * a.length ≤ 16777216) (k : P (.str (Txt.join a xs))) : Ok1 (joinD (.str a) [.lst (xs.map .str)]) P := by
  refine ⟨_, ?_, k⟩
  show (strsD (xs.map .str)).bind _ = _
  rw [strsD_map]
  exact if_pos h
theorem p_fmtS {y : Str} {P : Str → Prop} (h : y.length ≤ 1000000) (k : P y) : Ok1 (fmtD (.str y)) P := ⟨_, if_pos h, k⟩
/-- a part of an f-string -/
theorem ex_part {acc y : Str} {Q : Str → Prop} (h : (acc ++ y).length ≤ 1000000) (k : Q y) : ∃ z, D.str y = .str z ∧ (acc ++ z).length ≤ 1000000 ∧ Q z := ⟨_, rfl, h, k⟩
end DL
namespace DL
open PySem PySem.Spec L2
theorem ix_mem {α : Type} (κ : α → D) {xs : List α} {i : Int} (h0 : 0 ≤ i) (h1 : i < xs.length) : ∃ x ∈ xs, ixD (.lst (xs.map κ)) (.int i) = some (κ x) := by
  obtain ⟨n, rfl⟩ := Int.eq_ofNat_of_zero_le h0
  have hn : n < xs.length := by omega
  exact ⟨xs[n], List.getElem_mem hn, at_get (by rw [List.getElem?_map, List.getElem?_eq_getElem hn]; rfl)⟩
theorem fm (a b : Nat) : ((a : Int)).fmod (b : Int) = ((a % b : Nat) : Int) := by
  rw [Int.fmod_eq_emod_of_nonneg _ (by omega)]
  exact (Int.natCast_emod a b).symm
theorem app_list (a b : Str) : (a ++ b).cps.toList = a.cps.toList ++ b.cps.toList := Array.toList_append ..
theorem rep_list (t : Nat) : ∀ (n : Nat) (a : Array Nat), ((List.replicate n (#[t] : Array Nat)).foldl (· ++ ·) a).toList = a.toList ++ List.replicate n t
  | 0, a => by simp
  | n + 1, a => by
    rw [List.replicate_succ, List.foldl_cons, rep_list t n]
    simp [List.replicate_succ]
theorem repS_list (t n : Nat) : (repS ⟨#[t]⟩ n).cps.toList = List.replicate n t := by
  have := rep_list t n #[]
  simpa [repS] using this
theorem ix_sgn {z : Str} {c n : Nat} (hz : z.length ≤ 1000000) (h : z.cps.toList[n]? = some c) : ixD (.str z) (.int (n : Nat)) = some (.str ⟨#[c]⟩) := by
  show (if z.length ≤ 1000000 then (atI z.cps.toList (n : Int)).map _ else none) = _
  rw [if_pos hz, at_get h]; rfl
theorem nd_len {α : Type} [DecidableEq α] : ∀ {l m : List α}, l.Nodup → (∀ x ∈ l, x ∈ m) → l.length ≤ m.length
  | [], _, _, _ => Nat.zero_le _
  | x :: l, m, h, k => by
    obtain ⟨h1, h2⟩ := List.nodup_cons.mp h
    have hx := k x (List.mem_cons_self ..)
    have := nd_len (l := l) (m := m.erase x) h2 fun y hy => (List.mem_erase_of_ne (by rintro rfl; exact h1 hy)).mpr (k y (List.mem_cons_of_mem _ hy))
    rw [List.length_erase_of_mem hx] at this
    have := List.length_pos_of_mem hx
    simp only [List.length_cons]
    omega
end DL
namespace DL
open PySem PySem.Spec L2
theorem fl_T {ds : List D} {P : List D → Prop} (k : P ds) : ∃ l, (D.tup ds = .tup l ∨ D.tup ds = .lst l) ∧ P l := ⟨_, .inl rfl, k⟩
theorem fl_L {ds : List D} {P : List D → Prop} (k : P ds) : ∃ l, (D.lst ds = .tup l ∨ D.lst ds = .lst l) ∧ P l := ⟨_, .inr rfl, k⟩
theorem cutL_to {α : Type} (xs : List α) (k : Nat) : cutL xs none (some (k : Int)) = xs.take k := by
  unfold cutL
  rw [HT.sIx_none, HT.sIx_nat, List.drop_zero, Nat.sub_zero]
  by_cases h : k ≤ xs.length
  · rw [Nat.min_eq_left h]
  · rw [Nat.min_eq_right (by omega), List.take_of_length_le (Nat.le_refl _), List.take_of_length_le (by omega)]
/-! data that can be compared -/
structure OkN (n : Nat) (d : D) : Prop where
  dat : dat d = true
  lay : (toPy d).canLay0 = true
  dep : (toPy d).depth ≤ n
theorem OkN.ok {n : Nat} {d : D} (h : OkN n d) (hn : n ≤ 64) : okD d = true := by
  unfold okD SeqAt.shaped
  rw [h.dat, h.lay, decide_eq_true (Nat.le_trans h.dep hn)]; rfl
theorem OkN.mono {n m : Nat} {d : D} (h : OkN n d) (hn : n ≤ m) : OkN m d := ⟨h.dat, h.lay, Nat.le_trans h.dep hn⟩
theorem okN_str {x : Str} (h : okS x) : OkN 0 (.str x) := ⟨rfl, h, Nat.le_refl _⟩
theorem okN_bl (b : Bool) : OkN 0 (.bl b) := ⟨rfl, rfl, Nat.le_refl _⟩
theorem okN_int (i : Int) : OkN 0 (.int i) := ⟨rfl, rfl, Nat.le_refl _⟩
theorem okN_non : OkN 0 .non := ⟨rfl, rfl, Nat.le_refl _⟩
theorem okNs {n : Nat} : ∀ {ds : List D}, (∀ d ∈ ds, OkN n d) → dats ds = true ∧ PyData.canLayAll0 (toPys ds) = true ∧ PyData.depthAll (toPys ds) ≤ n
  | [], _ => ⟨rfl, rfl, Nat.zero_le _⟩
  | d :: ds, h => by
    obtain ⟨h1, h2, h3⟩ := okNs (ds := ds) fun x hx => h x (List.mem_cons_of_mem _ hx)
    have h0 := h d (List.mem_cons_self ..)
    refine ⟨?_, ?_, ?_⟩
    · show (DL.dat d && dats ds) = true
      rw [h0.dat, h1]; rfl
    · show ((toPy d).canLay0 && PyData.canLayAll0 (toPys ds)) = true
      rw [h0.lay, h2]; rfl
    · show max (toPy d).depth (PyData.depthAll (toPys ds)) ≤ n
      have := h0.dep
      omega
theorem okN_tup {n : Nat} {ds : List D} (h : ∀ d ∈ ds, OkN n d) : OkN (n + 1) (.tup ds) := by
  obtain ⟨h1, h2, h3⟩ := okNs h
  exact ⟨h1, h2, Nat.succ_le_succ h3⟩
theorem okN_lst {n : Nat} {ds : List D} (h : ∀ d ∈ ds, OkN n d) : OkN (n + 1) (.lst ds) := by
  obtain ⟨h1, h2, h3⟩ := okNs h
  exact ⟨h1, h2, Nat.succ_le_succ h3⟩
theorem okN_map {α : Type} {κ : α → D} {n : Nat} {xs : List α} (h : ∀ x ∈ xs, OkN n (κ x)) : ∀ d ∈ xs.map κ, OkN n d := fun d hd => by
  obtain ⟨x, hx, rfl⟩ := List.mem_map.mp hd
  exact h x hx
theorem eq_nilL {n : Nat} {ds : List D} (h : OkN n (.lst ds)) (hn : n ≤ 64) : eqD (.lst ds) (.lst []) = some (.bl ds.isEmpty) := by
  unfold eqD
  rw [if_pos ⟨h.ok hn, by decide⟩]
  cases ds <;> simp [toPy, toPys, PyData.eqv, PyData.eqvAll]
theorem ne_nilL {n : Nat} {ds : List D} (h : OkN n (.lst ds)) (hn : n ≤ 64) : neD (.lst ds) (.lst []) = some (.bl (!ds.isEmpty)) := by
  unfold neD
  rw [if_pos ⟨h.ok hn, by decide⟩]
  cases ds <;> simp [toPy, toPys, PyData.eqv, PyData.eqvAll]
theorem eq_nilT {n : Nat} {ds : List D} (h : OkN n (.tup ds)) (hn : n ≤ 64) : eqD (.tup ds) (.tup []) = some (.bl ds.isEmpty) := by
  unfold eqD
  rw [if_pos ⟨h.ok hn, by decide⟩]
  cases ds <;> simp [toPy, toPys, PyData.eqv, PyData.eqvAll]
theorem ne_nilT {n : Nat} {ds : List D} (h : OkN n (.tup ds)) (hn : n ≤ 64) : neD (.tup ds) (.tup []) = some (.bl (!ds.isEmpty)) := by
  unfold neD
  rw [if_pos ⟨h.ok hn, by decide⟩]
  cases ds <;> simp [toPy, toPys, PyData.eqv, PyData.eqvAll]
mutual
theorem eqv_self : ∀ d : D, PyData.eqv (toPy d) (toPy d) = true
  | .non => by simp [toPy, PyData.eqv]
  | .bl b => by simp [toPy, PyData.eqv]
  | .int i => by simp [toPy, PyData.eqv]
  | .str x => by simp [toPy, PyData.eqv]
  | .tup ds => by simp only [toPy, PyData.eqv]; exact eqvs_self ds
  | .lst ds => by simp only [toPy, PyData.eqv]; exact eqvs_self ds
  | .tpx _ => by simp [toPy, PyData.eqv]
  | .obj _ _ => by simp [toPy, PyData.eqv]
  | .fn _ => by simp [toPy, PyData.eqv]
  | .dk _ => by simp [toPy, PyData.eqv]
  | .frl _ => by simp [toPy, PyData.eqv]
  | .ty _ => by simp [toPy, PyData.eqv]
theorem eqvs_self : ∀ ds : List D, PyData.eqvAll (toPys ds) (toPys ds) = true
  | [] => by simp [toPys, PyData.eqvAll]
  | d :: ds => by
    simp only [toPys, PyData.eqvAll, Bool.and_eq_true]
    exact ⟨eqv_self d, eqvs_self ds⟩
end
theorem eq_same {n : Nat} {d : D} (h : OkN n d) (hn : n ≤ 64) : eqD d d = some (.bl true) := by
  unfold eqD
  rw [if_pos ⟨h.ok hn, h.ok hn⟩, eqv_self]
theorem ne_same {n : Nat} {d : D} (h : OkN n d) (hn : n ≤ 64) : neD d d = some (.bl false) := by
  unfold neD
  rw [if_pos ⟨h.ok hn, h.ok hn⟩, eqv_self]; rfl
/-- over a list of one's own -/
theorem ok_lcB {vs : List Nat} {i : Nat} {p : D → En → Option En} {ft : FT} {fe : FE} {ρ : En} {P : List D → En → Prop} {l : Bool} {items : List D} (h : ρ[i]? = some (some (.ow l (.lst items))))
    (k : ∃ ρ1, SetAt ρ i none ρ1 ∧ ∃ ρ2, WipeAt ρ1 vs ρ2 ∧ Ok2 (lcGo vs p ft fe items [] ρ2) fun ds ρ3 => ρ3[i]? = some none ∧ ∃ ρ4, SetAt ρ3 i (some (.ow l (.lst items))) ρ4 ∧ P ds ρ4) : Ok2 (fLcB vs i p ft fe ρ) P := by
  obtain ⟨ρ1, s1, ρ2, w, ds, ρ3, e1, h3, ρ4, s4, k⟩ := k
  refine ⟨ds, ρ4, ?_, k⟩
  unfold fLcB
  rw [h]
  show (lcGo vs p ft fe items [] (wipeE (ρ.set i none) vs)).bind _ = _
  rw [s1.eq.1, w.eq, e1]
  show (match ρ3[i]? with | some none => _ | _ => none) = _
  rw [h3, ← s4.eq.1]
end DL
namespace DL
open PySem PySem.Spec L2
theorem cutS_list (z : Str) (k : Nat) : (cutS z none (some (k : Int))).cps.toList = z.cps.toList.take k := by
  have h : cutS z none (some (k : Int)) = ⟨(cutL z.cps.toList none (some (k : Int))).toArray⟩ := by
    unfold cutS cutL
    have : z.length = z.cps.toList.length := Array.length_toList.symm
    rw [this]
  rw [h, cutL_to]
theorem p_strI {i : Int} {P : D → Prop} (h : i.natAbs.log2 < 1920) (k : P (.str (toString i))) : Ok1 (strD [.int i]) P := ⟨_, if_pos h, k⟩
theorem p_neI {n m : Nat} {d e : D} {P : D → Prop} (h : OkN n d) (h2 : OkN m e) (hn : n ≤ 64) (hm : m ≤ 64) (k : P (.bl (!PyData.eqv (toPy d) (toPy e)))) : Ok1 (neD d e) P := ⟨_, if_pos ⟨h.ok hn, h2.ok hm⟩, k⟩
end DL
namespace DL
open PySem PySem.Spec L2
theorem p_ix0 {x : D} {xs : List D} {P : D → Prop} (k : P x) : Ok1 (ixD (.tup (x :: xs)) (.int 0)) P := ⟨x, at_0, k⟩
theorem p_ix0L {x : D} {xs : List D} {P : D → Prop} (k : P x) : Ok1 (ixD (.lst (x :: xs)) (.int 0)) P := ⟨x, at_0, k⟩
end DL
namespace DL
open PySem PySem.Spec L2
theorem p_mulT {a : List D} {k : Nat} {P : D → Prop} (h : a ≠ []) (h1 : 1 ≤ k) (h2 : k ≤ 1000) (hl : a.length ≤ 1000) (q : P (.tup (List.replicate k a).flatten)) : Ok1 (mulD (.tup a) (.int (k : Nat))) P := by
  refine ⟨_, ?_, q⟩
  show (if ((k : Nat) : Int) = 1 then some (D.tup a) else if a ≠ [] ∧ (2 : Int) ≤ (k : Nat) ∧ ((k : Nat) : Int) ≤ 1000 ∧ a.length ≤ 1000 then some (D.tup (List.replicate (((k : Nat) : Int)).toNat a).flatten) else none) = _
  by_cases e : k = 1
  · subst e
    rw [if_pos (by decide : ((1 : Nat) : Int) = 1)]
    simp
  · rw [if_neg (by omega), if_pos ⟨h, by omega, by omega, hl⟩, Int.toNat_natCast]
end DL
namespace DL
/-- an if whose test is reckoned apart -/
theorem ok_ifE {ρ : En} {ft : FT} {g h : FS} {N B C : En → Prop} {R : D → En → Prop} (b : Bool) (k : Ok2 (ft ρ) fun t ρ' => t = b ∧ ρ' = ρ) (k1 : b = true → OkS (g ρ) N R B C) (k2 : b = false → OkS (h ρ) N R B C) : OkS (gIf ft g h ρ) N R B C := by
  obtain ⟨t, ρ', e, rfl, rfl⟩ := k
  exact ok_if ⟨t, ρ', e, k1, k2⟩
theorem ok_ifM {ρ ρ1 : En} {ft : FT} {g h : FS} {N B C : En → Prop} {R : D → En → Prop} (b : Bool) (k : Ok2 (ft ρ) fun t ρ' => t = b ∧ ρ' = ρ1) (k1 : b = true → OkS (g ρ1) N R B C) (k2 : b = false → OkS (h ρ1) N R B C) : OkS (gIf ft g h ρ) N R B C := by
  obtain ⟨t, ρ', e, rfl, rfl⟩ := k
  exact ok_if ⟨t, ρ', e, k1, k2⟩
end DL
namespace DL
section
variable {ρ : En} {p : D → En → Option En} {gb : FS} {N B C : En → Prop} {R : D → En → Prop}
theorem ok_for0 (k : N ρ) : OkS (forGo p gb [] ρ) N R B C := ⟨_, rfl, k⟩
theorem ok_for1 {x : D} (k : Ok1 (p x ρ) fun ρ1 => OkS (gb ρ1) N R N N) : OkS (forGo p gb [x] ρ) N R B C := by
  obtain ⟨ρ1, e1, o, e2, k⟩ := k
  unfold forGo
  rw [e1]
  show OkS ((gb ρ1).bind _) N R B C
  rw [e2]
  cases o with
  | nx ρ2 => exact ⟨_, rfl, k⟩
  | rt d ρ2 => exact ⟨_, rfl, k⟩
  | bk ρ2 => exact ⟨_, rfl, k⟩
  | ct ρ2 => exact ⟨_, rfl, k⟩
end
end DL
namespace DL
section
variable {ρ : En} {p : D → En → Option En} {gb : FS} {N B C : En → Prop} {R : D → En → Prop} {ds : List D}
theorem ok_for0e (h : ds = []) (k : N ρ) : OkS (forGo p gb ds ρ) N R B C := by subst h; exact ok_for0 k
theorem ok_for1e {x : D} (h : ds = [x]) (k : Ok1 (p x ρ) fun ρ1 => OkS (gb ρ1) N R N N) : OkS (forGo p gb ds ρ) N R B C := by subst h; exact ok_for1 k
end
end DL

end

section
set_option maxRecDepth 100000
set_option maxHeartbeats 1000000
local macro_rules | `(tactic| walk_at "set") => `(tactic| repeat (first | exact DL.SetAt.z | apply DL.SetAt.s))
local macro_rules | `(tactic| walk_at "wipe") => `(tactic| repeat (first | exact DL.WipeAt.nil | exact DL.SetAt.z | apply DL.SetAt.s | apply DL.WipeAt.cons))
local macro_rules | `(tactic| walk_at "put") => `(tactic| repeat (first | exact DL.PutF.nil | exact DL.SetAt.z | apply DL.SetAt.s | apply DL.PutF.val | apply DL.PutF.new))
local macro_rules | `(tactic| walk_at "ok1") => `(tactic| first
  | with_reducible refine DL.ok_C ?_
  | ((with_reducible refine' DL.ok_var ?h ?_); (case h => rfl))
  | ((with_reducible refine' DL.ok_varO ?h ?s ?_); (case h => rfl); (case s => walk_at "set"))
  | with_reducible refine DL.ok_seq ?_
  | with_reducible refine DL.ok_next ?_
  | with_reducible refine DL.ok_ret ?_
  | with_reducible refine DL.ok_if ?_
  | with_reducible refine DL.ok_asg ?_
  | ((with_reducible refine' DL.ok_name ?s ?_); (case s => walk_at "set"))
  | with_reducible refine DL.ok_gnil ?_
  | with_reducible refine DL.ok_gcons ?_
  | with_reducible refine DL.ok_cb ?_
  | with_reducible refine DL.ok_op ?_
  | with_reducible refine DL.ok_tr ?_
  | with_reducible refine DL.ok_bt ?_
  | with_reducible refine DL.tru_bl ?_
  | with_reducible refine DL.ex_bl ?_
  | with_reducible refine DL.br_t ?_
  | with_reducible refine DL.br_f ?_
  | with_reducible refine DL.br_nt ?_
  | with_reducible refine DL.br_nf ?_
  | with_reducible refine DL.p_lenT ?_
  | with_reducible refine DL.p_lenL ?_
  | with_reducible refine DL.p_le ?_
  | with_reducible refine DL.p_ge ?_
  | with_reducible refine DL.p_gt ?_
  | with_reducible refine DL.p_lt ?_
  | with_reducible refine DL.p_addI ?_
  | with_reducible refine DL.p_subI ?_
  | with_reducible refine DL.p_ix0 ?_
  | with_reducible refine DL.p_ix0L ?_
  | ((with_reducible refine' DL.p_ix ?h ?_); (case h => rfl))
  | ((with_reducible refine' DL.p_at ?h ?_); (case h => rfl))
  | with_reducible refine DL.p_tupL ?_
  | with_reducible refine DL.p_tupT ?_
  | with_reducible refine DL.p_tupF ?_
  | with_reducible refine DL.p_int ?_
  | with_reducible refine DL.p_max ?_
  | with_reducible refine DL.p_eqI ?_
  | with_reducible refine DL.p_inT ?_
  | with_reducible refine DL.p_inL ?_
  | with_reducible refine DL.p_ninT ?_
  | with_reducible refine DL.p_ninL ?_
  | with_reducible refine DL.p_sgn ?_
  | with_reducible refine DL.p_isN ?_
  | with_reducible refine DL.it_T ?_
  | with_reducible refine DL.it_L ?_
  | with_reducible refine DL.it_S ?_
  | ((with_reducible refine' DL.wp_ ?h ?_); (case h => walk_at "wipe"))
  | ((with_reducible refine' DL.st_ ?h ?_); (case h => walk_at "set"))
  | ((with_reducible refine' DL.pf_ ?h ?_); (case h => walk_at "put"))
  | with_reducible refine DL.p_inb ?_
  | with_reducible refine DL.p_inbN ?_
  | ((with_reducible refine' DL.ok_app ?h ?_); (case h => rfl))
  | ((with_reducible refine' DL.ok_ext ?h ?_); (case h => rfl))
  | ((with_reducible refine' DL.app_ ?h ?s ?_ ?_); (case h => rfl); (case s => walk_at "set"))
  | ((with_reducible refine' DL.ext_ ?h ?s ?_ ?_); (case h => rfl); (case s => walk_at "set"))
  | ((with_reducible refine' DL.len_ ?h ?_); (case h => rfl))
  | with_reducible refine DL.p_enum ?_
  | with_reducible refine DL.fl_T ?_
  | with_reducible refine DL.fl_L ?_
  | with_reducible refine DL.p_intB ?_
  | with_reducible refine DL.ok_sl2 ?_
  | ((with_reducible refine' DL.ok_lcB ?h ?_); (case h => rfl))
  | with_reducible refine DL.ok_tnot ?_
  | with_reducible refine DL.ok_tor ?_
  | with_reducible refine DL.ok_tand ?_
  | with_reducible refine DL.ok_call ?_
  | with_reducible refine DL.ok_anil ?_
  | with_reducible refine DL.ok_acons ?_
  | ((with_reducible refine' DL.ok_aown ?h ?_); (case h => rfl))
  | ((with_reducible refine' DL.ok_callV ?h ?g ?_); (case h => rfl); (case g => rfl))
  | ((with_reducible refine' DL.ok_callP ?h ?g ?_); (case h => rfl); (case g => rfl))
  | with_reducible refine DL.ok_and ?_
  | with_reducible refine DL.ok_or ?_
  | with_reducible refine DL.ok_not ?_
  | with_reducible refine DL.ok_fIf ?_
  | with_reducible refine DL.ok_L ?_
  | with_reducible refine DL.ok_yes ?_
  | ((with_reducible refine DL.ok_tup ?_); (walk_at "ok1"); repeat (walk_at "ok1"))
  | with_reducible refine DL.ok_drop ?_
  | with_reducible refine DL.ok_par ?_
  | with_reducible refine DL.ok_vnil ?_
  | with_reducible refine DL.ok_vval ?_
  | with_reducible refine DL.ok_vnew ?_
  | with_reducible refine DL.ok_asgN ?_
  | with_reducible refine DL.ok_lst ?_
  | with_reducible refine DL.ok_it ?_
  | with_reducible refine DL.ok_for ?_
  | with_reducible refine DL.ok_lc ?_
  | with_reducible refine DL.ok_ixB ?_
  | ((with_reducible refine' DL.ok_bor ?h ?_); (case h => rfl))
  | ((with_reducible refine' DL.ok_borO ?h ?_); (case h => rfl))
  | with_reducible refine DL.ok_borE ?_
  | with_reducible refine DL.ok_inB ?_
  | with_reducible refine DL.ok_bm ?_
  | with_reducible refine DL.ok_tm ?_
  | with_reducible refine DL.ok_wk ?_
  | with_reducible refine DL.ok_lenB ?_
  | with_reducible refine DL.ok_fList ?_
  | with_reducible refine DL.ok_fld ?_
  | with_reducible refine DL.ok_fmt ?_
  | with_reducible refine DL.ok_join ?_
  | with_reducible refine DL.ok_jnil ?_
  | with_reducible refine DL.ok_jcons ?_
  | with_reducible refine DL.ok_lenSet ?_
  | with_reducible refine DL.ok_chain ?_
  | with_reducible refine DL.ok_dget ?_
  | with_reducible refine DL.ok_noP ?_
  | with_reducible refine DL.ok_part ?_
  | with_reducible refine DL.ok_sl ?_
  | with_reducible refine DL.ok_slL ?_
  | with_reducible refine DL.ok_meth ?_
  | with_reducible refine DL.ok_inO ?_
  | with_reducible refine DL.ok_make ?_
  | with_reducible refine DL.ok_callX ?_
  | with_reducible refine DL.ok_callN ?_
  | with_reducible refine DL.ok_rng1 ?_
  | with_reducible refine DL.ok_enumT ?_
  | with_reducible refine DL.ok_pnil ?_
  | with_reducible refine DL.ok_pcons ?_
  | ((with_reducible refine' DL.ok_ptup ?h ?_); (case h => rfl))
  | with_reducible refine DL.ok_gstar ?_
  | with_reducible refine DL.okx_nm ?_
  | with_reducible refine DL.okx_seq ?_
  | with_reducible refine DL.okx_if ?_
  | with_reducible refine DL.okx_raise1 ?_
  | with_reducible refine DL.okx_raise0 ?_
  | with_reducible refine DL.okx_call ?_)
local macro_rules | `(tactic| walk_at "ok") => `(tactic| repeat (walk_at "ok1"))

/-! k77, the plain law: typed data, the checks of names and forms. -/
namespace W77
open PySem PySem.Spec L2 DL
/-! ### isinstance -/
theorem kt_bb {s t : String} (hs : s ∈ tyB) (ht : t ∈ (["str", "tuple"] : List String)) : kt (.b s) (.b t) = some (decide (s = t)) := if_pos ⟨hs, ht⟩
theorem i_ss {x : Str} : isiD kt [.str x, .ty "str"] = some (.bl true) := congrArg (Option.map D.bl) (kt_bb (s := "str") (t := "str") (by decide) (by decide))
theorem i_st {x : Str} : isiD kt [.str x, .ty "tuple"] = some (.bl false) := congrArg (Option.map D.bl) (kt_bb (s := "str") (t := "tuple") (by decide) (by decide))
theorem i_tt {x : List D} : isiD kt [.tup x, .ty "tuple"] = some (.bl true) := congrArg (Option.map D.bl) (kt_bb (s := "tuple") (t := "tuple") (by decide) (by decide))
theorem i_ts {x : List D} : isiD kt [.tup x, .ty "str"] = some (.bl false) := congrArg (Option.map D.bl) (kt_bb (s := "tuple") (t := "str") (by decide) (by decide))
theorem i_dd {fs : List (Str × D)} : isiD kt [.obj "Design" fs, .fn "Design"] = some (.bl true) := by
  have h : kt (.u "Design") (.u "Design") = some true := by unfold kt; exact if_pos ⟨rfl, rfl⟩
  show (kt (.u "Design") (.u "Design")).map D.bl = _
  rw [h]; rfl
theorem kt_bu {s : String} (hs : s ∈ tyB) : kt (.b s) (.u "Design") = some false := by unfold kt; exact if_pos ⟨hs, rfl⟩
section
variable {P : D → Prop}
theorem q_ss {x : Str} (k : P (.bl true)) : Ok1 (isiD kt [.str x, .ty "str"]) P := ⟨_, i_ss, k⟩
theorem q_st {x : Str} (k : P (.bl false)) : Ok1 (isiD kt [.str x, .ty "tuple"]) P := ⟨_, i_st, k⟩
theorem q_tt {x : List D} (k : P (.bl true)) : Ok1 (isiD kt [.tup x, .ty "tuple"]) P := ⟨_, i_tt, k⟩
theorem q_ts {x : List D} (k : P (.bl false)) : Ok1 (isiD kt [.tup x, .ty "str"]) P := ⟨_, i_ts, k⟩
theorem q_dd {fs : List (Str × D)} (k : P (.bl true)) : Ok1 (isiD kt [.obj "Design" fs, .fn "Design"]) P := ⟨_, i_dd, k⟩
end
end W77
local macro_rules | `(tactic| walk_at "isi") => `(tactic| first | with_reducible refine W77.q_ss ?_ | with_reducible refine W77.q_st ?_ | with_reducible refine W77.q_tt ?_ | with_reducible refine W77.q_ts ?_ | with_reducible refine W77.q_dd ?_)
local macro_rules | `(tactic| walk_at "go") => `(tactic| repeat (first | walk_at "ok1" | walk_at "isi"))
namespace W77
open PySem PySem.Spec L2 DL
/-! ### names -/
def SG : List Nat := ("abcdefghijklmnopqrstuvwxyz0123456789" : Str).cps.toList
def LT : List Nat := ("abcdefghijklmnopqrstuvwxyz" : Str).cps.toList
structure Nm (x : Str) : Prop where
  ex : ∃ c l, x.cps.toList = c :: l ∧ c ∈ LT ∧ (∀ a ∈ c :: l, a ∈ SG) ∧ l.length ≤ 7
theorem sg_ok : ∀ c ∈ SG, c < 0x110000 := by decide +kernel
theorem Nm.okS {x : Str} (h : Nm x) : okS x := by
  obtain ⟨c, l, e, _, h2, _⟩ := h.ex
  show x.cps.all _ = true
  rw [← Array.all_toList, e]
  exact List.all_eq_true.mpr fun a ha => decide_eq_true (sg_ok a (h2 a ha))
theorem Nm.len {x : Str} (h : Nm x) : x.length ≤ 8 := by
  obtain ⟨c, l, e, _, _, h3⟩ := h.ex
  have : x.cps.toList.length = l.length + 1 := by rw [e]; rfl
  rw [Array.length_toList] at this
  show x.cps.size ≤ 8
  omega
theorem Nm.ne {x : Str} (h : Nm x) : x ≠ "" := by
  obtain ⟨c, l, e, _⟩ := h.ex
  rintro rfl
  have : (("" : Str).cps.toList) = [] := by decide +kernel
  rw [this] at e; cases e
theorem nm_of {x : Str} (c : Nat) (l : List Nat) (e : x.cps.toList = c :: l) (h1 : LT.contains c = true) (h2 : (c :: l).all (fun a => SG.contains a) = true) (h3 : l.length ≤ 7) : Nm x :=
  ⟨c, l, e, List.contains_iff_mem.mp h1, fun a ha => List.contains_iff_mem.mp (List.all_eq_true.mp h2 a ha), h3⟩
/-- a test that the kernel can run -/
def nmB (x : Str) : Bool := match x.cps.toList with
  | [] => false
  | c :: l => LT.contains c && (c :: l).all (fun a => SG.contains a) && decide (l.length ≤ 7)
theorem nm_b {x : Str} (h : nmB x = true) : Nm x := by
  unfold nmB at h
  split at h
  · cases h
  · rename_i c l e
    rw [Bool.and_eq_true, Bool.and_eq_true] at h
    exact nm_of c l e h.1.1 h.1.2 (of_decide_eq_true h.2)
theorem okS_e : okS "" := by show PyData.strOk "" = true; decide +kernel
theorem okS_none : okS "none" := by show PyData.strOk "none" = true; decide +kernel
theorem okS_given : okS "given" := by show PyData.strOk "given" = true; decide +kernel
theorem t_is_name {x : Str} (h : Nm x) : F_is_name [.str x] = some (.bl true, [.non]) := by
  refine Ok2.eq (ok_body rfl ?_)
  show OkS (g_is_name [_, _, _]) _ _ _ _
  unfold g_is_name
  walk_at "go"
  refine p_eqS h.okS okS_e ?_
  walk_at "go"
  refine br_false (decide_eq_false h.ne) ?_
  walk_at "go"
  obtain ⟨c, l, e, h1, h2, h3⟩ := h.ex
  refine ok_lcM (ι := fun c => .str ⟨#[c]⟩) (fun c => .bl (decide (c ∈ SG))) ?_ (fun a ha => ?_) ?_
  · rw [e]; show l.length + 1 ≤ _; omega
  · walk_at "go"
    exact ⟨rfl, rfl⟩
  walk_at "go"
  refine p_all (f := fun c => decide (c ∈ SG)) (fun _ => rfl) ?_
  have e1 : (x.cps.toList.all fun c => decide (c ∈ SG)) = true := by
    rw [e]; exact List.all_eq_true.mpr fun a ha => decide_eq_true (h2 a ha)
  rw [e1]
  walk_at "go"
  have hl := h.len
  refine p_ix (z := .str ⟨#[c]⟩) ?_ ?_
  · show (if x.length ≤ 1000000 then _ else _) = _
    rw [if_pos (by omega), e, at_0]; rfl
  walk_at "go"
  refine br_true (decide_eq_true h1) ?_
  walk_at "go"
  refine p_lenS (by omega) ?_
  walk_at "go"
  refine ok_eq1 rfl ⟨?_, rfl⟩
  rw [decide_eq_true (by omega)]
structure FNm (x : Str) : Prop where
  nm : Nm x
  ng : x ≠ "given"
  nn : x ≠ "none"
theorem t_is_field_name {x : Str} (h : FNm x) : F_is_field_name [.str x] = some (.bl true, [.non]) := by
  refine Ok2.eq (ok_body rfl ?_)
  show OkS (g_is_field_name [_]) _ _ _ _
  unfold g_is_field_name
  walk_at "go"
  refine ok_eq2 (t_is_name h.nm) ⟨rfl, ?_⟩
  walk_at "go"
  refine ok_eq1 (nin_tup x ["given", "none"]) ?_
  refine ok_eq1 rfl ⟨?_, rfl⟩
  rw [decide_eq_false (by simp [h.ng, h.nn])]; rfl
theorem t_is_row {ds : List D} {n : Int} (h : (ds.length : Int) = n) : F_is_row [.tup ds, .int n] = some (.bl true, [.non, .non]) := by
  refine Ok2.eq (ok_body rfl ?_)
  show OkS (g_is_row [_, _]) _ _ _ _
  unfold g_is_row
  walk_at "go"
  refine ok_eq1 rfl ⟨?_, rfl⟩
  rw [decide_eq_true h]
end W77

/-! k77, the plain law: forms, facts, updates. -/
namespace W77
open PySem PySem.Spec L2 DL
inductive Fm where
  | w (s : Str)
  | t (g : Str) (a b : Fm)
def Fm.d : Fm → D
  | .w s => .str s
  | .t g a b => .tup [.str g, a.d, b.d]
def Fm.dep : Fm → Nat
  | .w _ => 1
  | .t _ a b => 1 + max a.dep b.dep
def Fm.lv : Fm → List Str
  | .w s => [s]
  | .t _ a b => a.lv ++ b.lv
def SGN : List Str := ["|", "&", "-", "^"]
inductive FmOk (W : Str → Prop) : Fm → Prop
  | w {s : Str} : W s → FmOk W (.w s)
  | t {g : Str} {a b : Fm} : g ∈ SGN → FmOk W a → FmOk W b → FmOk W (.t g a b)
theorem FmOk.imp {W V : Str → Prop} (k : ∀ x, W x → V x) : ∀ {f : Fm}, FmOk W f → FmOk V f
  | _, .w h => .w (k _ h)
  | _, .t g a b => .t g (a.imp k) (b.imp k)
theorem FmOk.all {W : Str → Prop} : ∀ {f : Fm}, FmOk W f → ∀ x ∈ f.lv, W x
  | _, .w h, x, hx => by rw [List.mem_singleton.mp hx]; exact h
  | _, .t g a b, x, hx => (List.mem_append.mp hx).elim (a.all x) (b.all x)
theorem Fm.dep1 : ∀ f : Fm, 1 ≤ f.dep
  | .w _ => Nat.le_refl _
  | .t _ a b => by unfold Fm.dep; omega
theorem Fm.lv1 : ∀ f : Fm, 1 ≤ f.lv.length
  | .w _ => Nat.le_refl _
  | .t _ a b => by unfold Fm.lv; rw [List.length_append]; have := Fm.lv1 a; omega
theorem nm_none : Nm "none" := nm_b (by decide +kernel)
theorem nm_given : Nm "given" := nm_b (by decide +kernel)
theorem t_is_form : ∀ (n : Nat) (f : Fm), f.dep ≤ n → FmOk Nm f → F_is_form n [f.d] = some (.bl true, [.non])
  | 0, f, h, _ => absurd h (by have := f.dep1; omega)
  | n + 1, .w s, h, .w k => by
    refine Ok2.eq (ok_body rfl ?_)
    show OkS (g_is_form _ [some (.sh (.str s))]) _ _ _ _
    unfold g_is_form
    walk_at "go"
    refine ok_eq2 (t_is_name k) ⟨rfl, ?_⟩
    exact ok_eq1 rfl ⟨rfl, rfl⟩
  | n + 1, .t g a b, h, .t kg ka kb => by
    have ha : a.dep ≤ n := by unfold Fm.dep at h; omega
    have hb : b.dep ≤ n := by unfold Fm.dep at h; omega
    refine Ok2.eq (ok_body rfl ?_)
    show OkS (g_is_form _ [some (.sh (.tup [.str g, a.d, b.d]))]) _ _ _ _
    unfold g_is_form
    walk_at "go"
    refine ok_eq2 (t_is_row (n := 3) rfl) ⟨rfl, ?_⟩
    walk_at "go"
    refine br_false (by simp only [Bool.not_eq_false', decide_eq_true_eq]; exact kg) ?_
    walk_at "go"
    refine ok_eq2 (t_is_form n a ha ka) ⟨rfl, ?_⟩
    walk_at "go"
    refine ok_eq2 (t_is_form n b hb kb) ⟨rfl, ?_⟩
    exact ok_eq1 rfl ⟨rfl, rfl⟩
theorem t_words_of : ∀ (n : Nat) (f : Fm), f.dep ≤ n → f.lv.length ≤ 200 → F_words_of n [f.d] = some (.lst (f.lv.map .str), [.non])
  | 0, f, h, _ => absurd h (by have := f.dep1; omega)
  | n + 1, .w s, h, _ => by
    refine Ok2.eq (ok_body rfl ?_)
    show OkS (g_words_of _ [some (.sh (.str s))]) _ _ _ _
    unfold g_words_of
    walk_at "go"
    exact ok_eq1 rfl ⟨rfl, rfl⟩
  | n + 1, .t g a b, h, hl => by
    have ha : a.dep ≤ n := by unfold Fm.dep at h; omega
    have hb : b.dep ≤ n := by unfold Fm.dep at h; omega
    have hl2 : a.lv.length + b.lv.length ≤ 200 := by unfold Fm.lv at hl; rwa [List.length_append] at hl
    refine Ok2.eq (ok_body rfl ?_)
    show OkS (g_words_of _ [some (.sh (.tup [.str g, a.d, b.d]))]) _ _ _ _
    unfold g_words_of
    walk_at "go"
    refine ok_eq2 (t_words_of n a ha (by omega)) ⟨rfl, ?_⟩
    walk_at "go"
    refine ok_eq2 (t_words_of n b hb (by omega)) ⟨rfl, ?_⟩
    refine p_addL (by simp only [List.length_map]; omega) ?_
    refine ok_eq1 rfl ⟨?_, rfl⟩
    show D.lst _ = D.lst ((a.lv ++ b.lv).map .str)
    rw [List.map_append]
theorem t_depth_of : ∀ (n : Nat) (f : Fm), f.dep ≤ n → F_depth_of n [f.d] = some (.int f.dep, [.non])
  | 0, f, h => absurd h (by have := f.dep1; omega)
  | n + 1, .w s, h => by
    refine Ok2.eq (ok_body rfl ?_)
    show OkS (g_depth_of _ [some (.sh (.str s))]) _ _ _ _
    unfold g_depth_of
    walk_at "go"
    exact ok_eq1 rfl ⟨rfl, rfl⟩
  | n + 1, .t g a b, h => by
    have ha : a.dep ≤ n := by unfold Fm.dep at h; omega
    have hb : b.dep ≤ n := by unfold Fm.dep at h; omega
    refine Ok2.eq (ok_body rfl ?_)
    show OkS (g_depth_of _ [some (.sh (.tup [.str g, a.d, b.d]))]) _ _ _ _
    unfold g_depth_of
    walk_at "go"
    refine ok_eq2 (t_depth_of n a ha) ⟨rfl, ?_⟩
    walk_at "go"
    refine ok_eq2 (t_depth_of n b hb) ⟨rfl, ?_⟩
    walk_at "go"
    refine ok_eq1 rfl ⟨?_, rfl⟩
    show D.int _ = D.int ((1 + max a.dep b.dep : Nat) : Int)
    congr 1
    split <;> omega
/-- a form in its limits -/
structure FmS (f : Fm) : Prop where
  dep : f.dep ≤ 10
  lv : f.lv.length ≤ 200
theorem t_is_small {f : Fm} (h : FmS f) : F_is_small [f.d] = some (.bl true, [.non]) := by
  refine Ok2.eq (ok_body rfl ?_)
  show OkS (g_is_small [_]) _ _ _ _
  unfold g_is_small
  have := h.dep
  have := h.lv
  walk_at "go"
  refine ok_eq2 (t_depth_of 30 f (by omega)) ⟨rfl, ?_⟩
  walk_at "go"
  refine br_true (decide_eq_true (by omega)) ?_
  walk_at "go"
  refine ok_eq2 (t_words_of 30 f (by omega) h.lv) ⟨rfl, ?_⟩
  walk_at "go"
  refine ok_eq1 rfl ⟨?_, rfl⟩
  rw [List.length_map, decide_eq_true (by omega)]
/-- the words of forms -/
def Wd (fs : List Str) (g : Bool) (x : Str) : Prop := x ∈ fs ∨ x = "none" ∨ (g = true ∧ x = "given")
structure FmV (fs : List Str) (g : Bool) (f : Fm) : Prop extends FmS f where
  ok : FmOk (Wd fs g) f
theorem Wd.nm {fs : List Str} {g : Bool} (hf : ∀ x ∈ fs, FNm x) {x : Str} (h : Wd fs g x) : Nm x := by
  rcases h with h | rfl | ⟨_, rfl⟩
  · exact (hf x h).nm
  · exact nm_none
  · exact nm_given
abbrev txs (xs : List Str) : D := .tup (xs.map .str)
theorem t_is_form_of {fs : List Str} {g : Bool} {f : Fm} (hf : ∀ x ∈ fs, FNm x) (h : FmV fs g f) : F_is_form_of [txs fs, .bl g, f.d] = some (.bl true, [.non, .non, .non]) := by
  refine Ok2.eq (ok_body rfl ?_)
  show OkS (g_is_form_of [_, _, _, _]) _ _ _ _
  unfold g_is_form_of
  have := h.dep
  walk_at "go"
  refine ok_eq2 (t_is_form 30 f (by omega) (h.ok.imp fun x => Wd.nm hf)) ⟨rfl, ?_⟩
  walk_at "go"
  refine ok_eq2 (t_is_small h.toFmS) ⟨rfl, ?_⟩
  walk_at "go"
  refine ok_eq2 (t_words_of 30 f (by omega) h.lv) ⟨rfl, ?_⟩
  walk_at "go"
  refine ok_lcM (fun _ => .bl true) ?_ (fun a ha => ?_) ?_
  · have := h.lv; omega
  · have wa := h.ok.all a ha
    walk_at "go"
    refine ⟨fun e => ⟨by rw [e], rfl⟩, fun e => ?_⟩
    walk_at "go"
    refine p_eqS (wa.nm hf).okS okS_none ?_
    walk_at "go"
    refine ⟨fun e => ⟨by rw [e], rfl⟩, fun e2 => ?_⟩
    walk_at "go"
    rcases wa with h | h | ⟨h, h2⟩
    · exact absurd h (of_decide_eq_false e)
    · exact absurd h (of_decide_eq_false e2)
    · subst h
      refine br_t ?_
      walk_at "go"
      refine p_eqS (by rw [h2]; exact okS_given) okS_given ?_
      exact ⟨by rw [h2]; rfl, rfl⟩
  walk_at "go"
  refine p_all (f := fun _ => true) (fun _ => rfl) ?_
  exact ok_eq1 rfl ⟨by simp, rfl⟩
abbrev Fct := Fm × Fm
abbrev Upd := Str × Fm
def fcD (f : Fct) : D := .tup [f.1.d, f.2.d]
def upD (f : Upd) : D := .tup [.str f.1, f.2.d]
theorem t_is_fact {fs : List Str} {g : Bool} {f : Fct} (hf : ∀ x ∈ fs, FNm x) (h1 : FmV fs g f.1) (h2 : FmV fs g f.2) : F_is_fact [txs fs, .bl g, fcD f] = some (.bl true, [.non, .non, .non]) := by
  refine Ok2.eq (ok_body rfl ?_)
  show OkS (g_is_fact [_, _, some (.sh (.tup [f.1.d, f.2.d]))]) _ _ _ _
  unfold g_is_fact
  walk_at "go"
  refine ok_eq2 (t_is_row (n := 2) rfl) ⟨rfl, ?_⟩
  walk_at "go"
  refine ok_eq2 (t_is_form_of hf h1) ⟨rfl, ?_⟩
  walk_at "go"
  refine ok_eq2 (t_is_form_of hf h2) ⟨rfl, ?_⟩
  exact ok_eq1 rfl ⟨rfl, rfl⟩
structure UpsV (fs : List Str) (g : Bool) (us : List Upd) : Prop where
  nd : (us.map (·.1)).Nodup
  mem : ∀ u ∈ us, u.1 ∈ fs
  ok : ∀ u ∈ us, FmV fs g u.2
theorem t_are_updates {fs : List Str} {g : Bool} {us : List Upd} (hf : ∀ x ∈ fs, FNm x) (h : UpsV fs g us) (hl : us.length ≤ 1000) : F_are_updates [txs fs, .bl g, .tup (us.map upD)] = some (.bl true, [.non, .non, .non]) := by
  refine Ok2.eq (ok_body rfl ?_)
  show OkS (g_are_updates [_, _, _, none, none]) _ _ _ _
  unfold g_are_updates
  walk_at "go"
  refine ok_forI (I := fun done ρ => ∃ x, ρ = [some (.sh (txs fs)), some (.sh (.bl g)), some (.sh (.tup (us.map upD))), some (.ow true (.lst ((done.map (·.1)).map .str))), x]) ⟨_, rfl⟩ ?_ ?_
  · rintro done u rest e ρ ⟨x, rfl⟩
    have hu : u ∈ us := by rw [e]; simp
    have hd : u.1 ∉ done.map (·.1) := by
      have := h.nd
      rw [e, List.map_append, List.map_cons] at this
      exact fun z => (List.nodup_append.mp this).2.2 _ z _ (List.mem_cons_self ..) rfl
    have hlen : done.length < 1000 := by rw [e] at hl; simp at hl; omega
    walk_at "go"
    refine ok_eq2 (t_is_row (n := 2) rfl) ⟨rfl, ?_⟩
    walk_at "go"
    refine br_false (by simp [h.mem u hu]) ?_
    walk_at "go"
    refine br_false (decide_eq_false hd) ?_
    walk_at "go"
    refine ok_eq2 (t_is_form_of hf (h.ok u hu)) ⟨rfl, ?_⟩
    walk_at "go"
    · exact ⟨_, by rw [List.map_append, List.map_append]; rfl⟩
    · simp; omega
  · rintro ρ ⟨x, rfl⟩
    walk_at "go"
    exact ok_eq1 rfl ⟨rfl, rfl⟩
end W77

/-! k77, the plain law: cases, calls, views, the checks of a design. -/
namespace W77
open PySem PySem.Spec L2 DL
structure Cs where
  m : Str
  fa : List Fct
  up : List Upd
  af : Str
def csD (c : Cs) : D := .tup [.str c.m, .tup (c.fa.map fcD), .tup (c.up.map upD), .str c.af]
structure Cl where
  nm : Str
  so : Str
  cs : List Cs
def clD (c : Cl) : D := .tup [.str c.nm, .str c.so, .tup (c.cs.map csD)]
structure Vw where
  nm : Str
  fs : List Fm
def vwD (c : Vw) : D := .tup [.str c.nm, .tup (c.fs.map Fm.d)]
structure Mn where
  fl : List Str
  md : List Str
  cl : List Cl
  vw : List Vw
def mnD (m : Mn) : D := .tup [txs m.fl, txs m.md, .tup (m.cl.map clD), .tup (m.vw.map vwD)]
structure CsV (fs ms : List Str) (so : Str) (c : Cs) : Prop where
  m : c.m ∈ ms
  af : c.af ∈ ms
  one : so = "one" → c.af = c.m
  len : c.fa.length ≤ 5
  fa : ∀ f ∈ c.fa, FmV fs (!decide (so = "none")) f.1 ∧ FmV fs (!decide (so = "none")) f.2
  up : UpsV fs (!decide (so = "none")) c.up
  ul : c.up.length ≤ 4
def SOR : List Str := ["one", "many", "none"]
theorem okS_one : okS "one" := by show PyData.strOk "one" = true; decide +kernel
theorem t_is_case {fs ms : List Str} {so : Str} {c : Cs} (hf : ∀ x ∈ fs, FNm x) (hm : ∀ x ∈ ms, Nm x) (hs : okS so) (h : CsV fs ms so c) : F_is_case [txs fs, txs ms, .str so, csD c] = some (.bl true, [.non, .non, .non, .non]) := by
  have m1 := (hm _ h.m).okS
  have m2 := (hm _ h.af).okS
  have := h.len
  refine Ok2.eq (ok_body rfl ?_)
  show OkS (g_is_case [_, _, _, some (.sh (.tup [.str c.m, .tup (c.fa.map fcD), .tup (c.up.map upD), .str c.af])), none, none, none, none, none, none]) _ _ _ _
  unfold g_is_case
  walk_at "go"
  refine ok_eq2 (t_is_row (n := 4) rfl) ⟨rfl, ?_⟩
  walk_at "go"
  refine br_false (by simp [h.m]) ?_
  walk_at "go"
  refine br_false (by simp [h.af]) ?_
  walk_at "go"
  refine p_eqS hs okS_one ?_
  walk_at "go"
  refine ⟨fun e => ?_, fun e => ?_⟩
  have e2 := h.one (of_decide_eq_true e)
  walk_at "go"
  refine p_neS m2 m1 ?_
  walk_at "go"
  refine br_false (by simp [e2]) ?_
  all_goals
    walk_at "go"
    refine p_neS hs okS_none ?_
    walk_at "go"
    refine br_false (by simp only [decide_eq_false_iff_not, List.length_map]; omega) ?_
    walk_at "go"
    refine ok_lcM (fun _ => .bl true) ?_ (fun a ha => ?_) ?_
    · omega
    · walk_at "go"
      exact ok_eq2 (t_is_fact hf (h.fa a ha).1 (h.fa a ha).2) ⟨rfl, rfl, rfl⟩
    walk_at "go"
    refine p_all (f := fun _ => true) (fun _ => rfl) ?_
    walk_at "go"
    refine br_false (by simp) ?_
    walk_at "go"
    refine ok_eq2 (t_are_updates hf h.up (Nat.le_trans h.ul (by decide))) ⟨rfl, ?_⟩
    exact ok_eq1 rfl ⟨rfl, rfl⟩
structure ClV (fs ms : List Str) (c : Cl) : Prop where
  nm : Nm c.nm
  so : c.so ∈ SOR
  cs : ∀ x ∈ c.cs, CsV fs ms c.so x
  nd : (c.cs.map (·.m)).Nodup
  le : c.cs.length ≤ 4
theorem sor_ok : ∀ x ∈ SOR, okS x := by
  intro x hx
  show PyData.strOk x = true
  exact List.all_eq_true.mp (by decide +kernel : SOR.all (fun x => PyData.strOk x) = true) x hx
theorem t_is_call {fs ms : List Str} {c : Cl} (hf : ∀ x ∈ fs, FNm x) (hm : ∀ x ∈ ms, Nm x) (h : ClV fs ms c) : F_is_call [txs fs, txs ms, clD c] = some (.bl true, [.non, .non, .non]) := by
  have := h.le
  refine Ok2.eq (ok_body rfl ?_)
  show OkS (g_is_call [_, _, some (.sh (.tup [.str c.nm, .str c.so, .tup (c.cs.map csD)])), none, none, none, none]) _ _ _ _
  unfold g_is_call
  walk_at "go"
  refine ok_eq2 (t_is_row (n := 3) rfl) ⟨rfl, ?_⟩
  walk_at "go"
  refine ok_eq2 (t_is_name h.nm) ⟨rfl, ?_⟩
  walk_at "go"
  refine br_false (by simp only [Bool.not_eq_false', decide_eq_true_eq]; exact h.so) ?_
  walk_at "go"
  refine ok_lcM (fun _ => .bl true) ?_ (fun a ha => ?_) ?_
  · omega
  · walk_at "go"
    exact ok_eq2 (t_is_case hf hm (sor_ok _ h.so) (h.cs a ha)) ⟨rfl, rfl, rfl⟩
  walk_at "go"
  refine p_all (f := fun _ => true) (fun _ => rfl) ?_
  walk_at "go"
  refine br_false (by simp) ?_
  walk_at "go"
  refine ok_lcM (fun a => .str a.m) ?_ (fun a ha => ?_) ?_
  · omega
  · walk_at "go"
    exact ⟨rfl, rfl⟩
  walk_at "go"
  refine ⟨c.cs.map (·.m), by rw [List.map_map]; rfl, by rw [List.length_map]; omega, ?_⟩
  walk_at "go"
  refine ok_eq1 rfl ⟨?_, rfl⟩
  rw [cntS_nd h.nd _ (Nat.le_refl _)]
  simp
structure VwV (fs ms : List Str) (v : Vw) : Prop where
  nm : Nm v.nm
  len : v.fs.length = ms.length
  ok : ∀ f ∈ v.fs, FmV fs false f
theorem t_is_view {fs ms : List Str} {v : Vw} (hf : ∀ x ∈ fs, FNm x) (hm : ms.length ≤ 4) (h : VwV fs ms v) : F_is_view [txs fs, txs ms, vwD v] = some (.bl true, [.non, .non, .non]) := by
  have := h.len
  refine Ok2.eq (ok_body rfl ?_)
  show OkS (g_is_view [_, _, some (.sh (.tup [.str v.nm, .tup (v.fs.map Fm.d)])), none]) _ _ _ _
  unfold g_is_view
  walk_at "go"
  refine ok_eq2 (t_is_row (n := 2) rfl) ⟨rfl, ?_⟩
  walk_at "go"
  refine ok_eq2 (t_is_name h.nm) ⟨rfl, ?_⟩
  walk_at "go"
  refine ok_eq2 (t_is_row (by simp [h.len])) ⟨rfl, ?_⟩
  walk_at "go"
  refine ok_lcM (fun _ => .bl true) ?_ (fun a ha => ?_) ?_
  · omega
  · walk_at "go"
    exact ok_eq2 (t_is_form_of hf (h.ok a ha)) ⟨rfl, rfl, rfl⟩
  walk_at "go"
  refine p_all (f := fun _ => true) (fun _ => rfl) ?_
  exact ok_eq1 rfl ⟨by simp, rfl⟩
/-! ### names that differ -/
theorem held_n : heldF "is_name" = some F_is_name := if_pos rfl
theorem held_f : heldF "is_field_name" = some F_is_field_name := by
  unfold heldF
  rw [if_neg (by decide +kernel), if_pos rfl]
theorem t_wrong_name {xs : List Str} {x : Str} {Ff : DF} (hx : heldF x = some Ff) (h : ∀ y ∈ xs, Ff [.str y] = some (.bl true, [.non])) (nd : xs.Nodup) (hl : xs.length ≤ 1000) : F_wrong_name [txs xs, .fn x] = some (.int (-1), [.non, .non]) := by
  refine Ok2.eq (ok_body rfl ?_)
  show OkS (g_wrong_name [_, _, none, none, none]) _ _ _ _
  unfold g_wrong_name
  walk_at "go"
  refine ok_forI (I := fun done ρ => ∃ a b, ρ = [some (.sh (txs xs)), some (.sh (.fn x)), some (.ow true (.lst ((done.map Prod.fst).map .str))), a, b]) ⟨_, _, rfl⟩ ?_ ?_
  · rintro done u rest e ρ ⟨a, b, rfl⟩
    have e2 := zip_split e
    have hu : u.1 ∈ xs := by rw [e2]; simp
    have hd := nd_split nd e2
    have hlen : done.length < 1000 := by rw [e2] at hl; simp at hl; omega
    walk_at "go"
    refine ok_callA rfl hx ?_
    walk_at "go"
    refine ok_eq2 (h _ hu) ⟨rfl, ?_⟩
    walk_at "go"
    refine br_false (decide_eq_false hd) ?_
    walk_at "go"
    · exact ⟨_, _, by rw [List.map_append, List.map_append]; rfl⟩
    · simp; omega
  · rintro ρ ⟨a, b, rfl⟩
    walk_at "go"
    exact ok_eq1 rfl ⟨rfl, rfl⟩
theorem t_check_fields {xs : List Str} (h : ∀ x ∈ xs, FNm x) (nd : xs.Nodup) (h1 : 1 ≤ xs.length) (h4 : xs.length ≤ 4) : F_check_fields [txs xs] = some (.non, [.non]) := by
  refine Ok2.eq (ok_body rfl ?_)
  show OkS (g_check_fields [_, none]) _ _ _ _
  unfold g_check_fields
  walk_at "go"
  refine ⟨_, rfl, br_true (decide_eq_true (by simp; omega)) ?_⟩
  walk_at "go"
  refine br_false (by rw [decide_eq_true (by simp; omega)]; rfl) ?_
  walk_at "go"
  refine ok_eq2 (t_wrong_name held_f (fun y hy => t_is_field_name (h y hy)) nd (by omega)) ⟨rfl, ?_⟩
  walk_at "go"
  refine br_false (by decide) ?_
  walk_at "go"
  exact ok_eq1 rfl ⟨rfl, rfl⟩
theorem t_check_modes {xs : List Str} (h : ∀ x ∈ xs, Nm x) (nd : xs.Nodup) (h1 : 1 ≤ xs.length) (h4 : xs.length ≤ 4) : F_check_modes [txs xs] = some (.non, [.non]) := by
  refine Ok2.eq (ok_body rfl ?_)
  show OkS (g_check_modes [_, none]) _ _ _ _
  unfold g_check_modes
  walk_at "go"
  refine ⟨_, rfl, br_true (decide_eq_true (by simp; omega)) ?_⟩
  walk_at "go"
  refine br_false (by rw [decide_eq_true (by simp; omega)]; rfl) ?_
  walk_at "go"
  refine ok_eq2 (t_wrong_name held_n (fun y hy => t_is_name (h y hy)) nd (by omega)) ⟨rfl, ?_⟩
  walk_at "go"
  refine br_false (by decide) ?_
  walk_at "go"
  exact ok_eq1 rfl ⟨rfl, rfl⟩
theorem t_check_calls {fs ms : List Str} {cs : List Cl} (hf : ∀ x ∈ fs, FNm x) (hm : ∀ x ∈ ms, Nm x) (h : ∀ c ∈ cs, ClV fs ms c) (nd : (cs.map (·.nm)).Nodup) (hl : cs.length ≤ 8) : F_check_calls [txs fs, txs ms, .tup (cs.map clD)] = some (.non, [.non, .non, .non]) := by
  refine Ok2.eq (ok_body rfl ?_)
  show OkS (g_check_calls [_, _, _, none, none, none]) _ _ _ _
  unfold g_check_calls
  walk_at "go"
  refine br_false (by simp only [decide_eq_false_iff_not, List.length_map]; omega) ?_
  walk_at "go"
  refine ok_forI (I := fun done ρ => ∃ a b, ρ = [some (.sh (txs fs)), some (.sh (txs ms)), some (.sh (.tup (cs.map clD))), some (.ow true (.lst ((done.map fun p => p.1.nm).map .str))), a, b]) ⟨_, _, rfl⟩ ?_ ?_
  · rintro done u rest e ρ ⟨a, b, rfl⟩
    have e2 := zip_split e
    have hu : u.1 ∈ cs := by rw [e2]; simp
    have hd : u.1.nm ∉ done.map fun p => p.1.nm := by
      have e3 : cs.map (·.nm) = (done.map fun p => p.1.nm) ++ u.1.nm :: (rest.map fun p => p.1.nm) := by
        rw [e2]; simp [Function.comp_def]
      exact nd_split nd e3
    have hlen : done.length < 1000 := by rw [e2] at hl; simp at hl; omega
    walk_at "go"
    refine ok_eq2 (t_is_call hf hm (h _ hu)) ⟨rfl, ?_⟩
    walk_at "go"
    refine br_false (decide_eq_false hd) ?_
    walk_at "go"
    · exact ⟨_, _, by rw [List.map_append, List.map_append]; rfl⟩
    · simp; omega
  · rintro ρ ⟨a, b, rfl⟩
    exact ok_eq1 rfl ⟨rfl, rfl⟩
theorem t_check_views {fs ms : List Str} {cs : List Vw} (hf : ∀ x ∈ fs, FNm x) (hm : ms.length ≤ 4) (h : ∀ c ∈ cs, VwV fs ms c) (nd : (cs.map (·.nm)).Nodup) (hl : cs.length ≤ 4) : F_check_views [txs fs, txs ms, .tup (cs.map vwD)] = some (.non, [.non, .non, .non]) := by
  refine Ok2.eq (ok_body rfl ?_)
  show OkS (g_check_views [_, _, _, none, none, none]) _ _ _ _
  unfold g_check_views
  walk_at "go"
  refine br_false (by simp only [decide_eq_false_iff_not, List.length_map]; omega) ?_
  walk_at "go"
  refine ok_forI (I := fun done ρ => ∃ a b, ρ = [some (.sh (txs fs)), some (.sh (txs ms)), some (.sh (.tup (cs.map vwD))), some (.ow true (.lst ((done.map fun p => p.1.nm).map .str))), a, b]) ⟨_, _, rfl⟩ ?_ ?_
  · rintro done u rest e ρ ⟨a, b, rfl⟩
    have e2 := zip_split e
    have hu : u.1 ∈ cs := by rw [e2]; simp
    have hd : u.1.nm ∉ done.map fun p => p.1.nm := by
      have e3 : cs.map (·.nm) = (done.map fun p => p.1.nm) ++ u.1.nm :: (rest.map fun p => p.1.nm) := by
        rw [e2]; simp [Function.comp_def]
      exact nd_split nd e3
    have hlen : done.length < 1000 := by rw [e2] at hl; simp at hl; omega
    walk_at "go"
    refine ok_eq2 (t_is_view hf hm (h _ hu)) ⟨rfl, ?_⟩
    walk_at "go"
    refine br_false (decide_eq_false hd) ?_
    walk_at "go"
    · exact ⟨_, _, by rw [List.map_append, List.map_append]; rfl⟩
    · simp; omega
  · rintro ρ ⟨a, b, rfl⟩
    exact ok_eq1 rfl ⟨rfl, rfl⟩
end W77

/-! k77, the plain law: the text of a design, the design. -/
namespace W77
open PySem PySem.Spec L2 DL
theorem SGN_tx : ∀ g ∈ SGN, Tx 1 g := fun g hg => by
  have := List.all_eq_true.mp (by decide +kernel : SGN.all (fun x => PyData.strOk x && Nat.ble x.length 1) = true) g hg
  exact tx_lit this
theorem Nm.tx {x : Str} (h : Nm x) : Tx 8 x := ⟨h.okS, h.len⟩
theorem tx_e : Tx 0 Str.empty := tx_lit (by decide +kernel)
theorem tx_sp : Tx 1 " " := tx_lit (by decide +kernel)
theorem tx_o : Tx 1 "(" := tx_lit (by decide +kernel)
theorem tx_c : Tx 1 ")" := tx_lit (by decide +kernel)
theorem t_texts : ∀ (n : Nat) (f : Fm), FmOk Nm f → f.lv.length ≤ 200 →
    (2 * f.dep ≤ n + 1 → ∃ t, F_form_text n [f.d] = some (.str t, [.non]) ∧ okS t ∧ t.length + 7 ≤ 15 * f.lv.length) ∧
    (2 * f.dep ≤ n → ∃ t, F_side_text n [f.d] = some (.str t, [.non]) ∧ okS t ∧ t.length + 5 ≤ 15 * f.lv.length)
  | 0, f, _, _ => ⟨fun h => absurd h (by have := f.dep1; omega), fun h => absurd h (by have := f.dep1; omega)⟩
  | n + 1, .w s, .w k, _ => by
    have kl := k.len
    refine ⟨fun h => ⟨s, ?_, k.okS, by show _ + 7 ≤ 15 * 1; omega⟩, fun h => ⟨s, ?_, k.okS, by show _ + 5 ≤ 15 * 1; omega⟩⟩
    · refine Ok2.eq (ok_body rfl ?_)
      show OkS (g_form_text _ _ [some (.sh (.str s))]) _ _ _ _
      unfold g_form_text
      walk_at "go"
      exact ok_eq1 rfl ⟨rfl, rfl⟩
    · refine Ok2.eq (ok_body rfl ?_)
      show OkS (g_side_text _ _ [some (.sh (.str s))]) _ _ _ _
      unfold g_side_text
      walk_at "go"
      exact ok_eq1 rfl ⟨rfl, rfl⟩
  | n + 1, .t g a b, .t kg ka kb, hl => by
    have hl2 : (Fm.t g a b).lv.length = a.lv.length + b.lv.length := by show (a.lv ++ b.lv).length = _; rw [List.length_append]
    have hd : (Fm.t g a b).dep = 1 + max a.dep b.dep := rfl
    refine ⟨fun h => ?_, fun h => ?_⟩
    · obtain ⟨ta, e1, o1, l1⟩ := (t_texts n a ka (by omega)).2 (by omega)
      obtain ⟨tb, e2, o2, l2⟩ := (t_texts n b kb (by omega)).2 (by omega)
      have tg := SGN_tx g kg
      have x1 : Tx ta.length ta := ⟨o1, Nat.le_refl _⟩
      have x2 : Tx tb.length tb := ⟨o2, Nat.le_refl _⟩
      have y1 := tx_e.app x1
      have y2 := y1.app tx_sp
      have y3 := y2.app tg
      have y4 := y3.app tx_sp
      have y5 := y4.app x2
      refine ⟨_, Ok2.eq (ok_body rfl ?_), y5.ok, ?_⟩
      · show OkS (g_form_text _ _ [some (.sh (.tup [.str g, a.d, b.d]))]) _ _ _ _
        unfold g_form_text
        walk_at "go"
        refine ok_eq2 e1 ⟨rfl, ?_⟩
        refine p_fmtS (by omega) (ex_part (by have := y1.le; omega) ?_)
        walk_at "go"
        refine ex_part (by have := y2.le; omega) ?_
        walk_at "go"
        refine p_fmtS (by have := tg.le; omega) (ex_part (by have := y3.le; omega) ?_)
        walk_at "go"
        refine ex_part (by have := y4.le; omega) ?_
        walk_at "go"
        refine ok_eq2 e2 ⟨rfl, ?_⟩
        refine p_fmtS (by omega) (ex_part (by have := y5.le; omega) ?_)
        walk_at "go"
        exact ok_eq1 rfl ⟨rfl, rfl⟩
      · have := y5.le
        omega
    · obtain ⟨ta, e1, o1, l1⟩ := (t_texts n (.t g a b) (.t kg ka kb) hl).1 (by omega)
      have x1 : Tx ta.length ta := ⟨o1, Nat.le_refl _⟩
      have y1 := tx_e.app tx_o
      have y2 := y1.app x1
      have y3 := y2.app tx_c
      refine ⟨_, Ok2.eq (ok_body rfl ?_), y3.ok, ?_⟩
      · show OkS (g_side_text _ _ [some (.sh (.tup [.str g, a.d, b.d]))]) _ _ _ _
        unfold g_side_text
        walk_at "go"
        refine ex_part (by have := y1.le; omega) ?_
        walk_at "go"
        refine ok_eq2 e1 ⟨rfl, ?_⟩
        refine p_fmtS (by omega) (ex_part (by have := y2.le; omega) ?_)
        walk_at "go"
        refine ex_part (by have := y3.le; omega) ?_
        walk_at "go"
        exact ok_eq1 rfl ⟨rfl, rfl⟩
      · have := y3.le
        omega
/-- the text of a form -/
def fmTx (f : Fm) : Str := match F_form_text 30 [f.d] with
  | some (.str t, _) => t
  | _ => Str.empty
theorem t_form_text {f : Fm} (h : FmS f) (k : FmOk Nm f) : F_form_text 30 [f.d] = some (.str (fmTx f), [.non]) ∧ Tx 3000 (fmTx f) := by
  obtain ⟨t, e, o, l⟩ := (t_texts 30 f k h.lv).1 (by have := h.dep; omega)
  have e2 : fmTx f = t := by unfold fmTx; rw [e]
  rw [e2]
  exact ⟨e, o, by have := h.lv; omega⟩
theorem FmV.tx {fs : List Str} {g : Bool} {f : Fm} (hf : ∀ x ∈ fs, FNm x) (h : FmV fs g f) : F_form_text 30 [f.d] = some (.str (fmTx f), [.non]) ∧ Tx 3000 (fmTx f) := t_form_text h.toFmS (h.ok.imp fun x => Wd.nm hf)
/-- lines of a text -/
structure Lns (n : Nat) (ts : List Str) : Prop where
  len : ts.length ≤ n
  tx : ∀ t ∈ ts, Tx 7000 t
theorem Lns.nil : Lns 0 [] := ⟨Nat.le_refl _, fun _ h => by cases h⟩
theorem Lns.app {n m : Nat} {ts us : List Str} (h : Lns n ts) (k : Lns m us) : Lns (n + m) (ts ++ us) := ⟨by rw [List.length_append]; have := h.len; have := k.len; omega, fun t ht => (List.mem_append.mp ht).elim (h.tx t) (k.tx t)⟩
theorem Lns.one {t : Str} (h : Tx 7000 t) : Lns 1 [t] := ⟨Nat.le_refl _, fun _ k => by rw [List.mem_singleton.mp k]; exact h⟩
theorem Lns.map {α : Type} {h : α → Str} {xs : List α} {n : Nat} (hl : xs.length ≤ n) (k : ∀ x ∈ xs, Tx 7000 (h x)) : Lns n (xs.map h) := ⟨by rw [List.length_map]; exact hl, fun t ht => by
  obtain ⟨x, hx, rfl⟩ := List.mem_map.mp ht
  exact k x hx⟩
theorem tx_1 : Tx 5 "case " := tx_lit (by decide +kernel)
theorem tx_2 : Tx 5 "fact " := tx_lit (by decide +kernel)
theorem tx_3 : Tx 4 " <= " := tx_lit (by decide +kernel)
theorem tx_4 : Tx 4 "set " := tx_lit (by decide +kernel)
theorem tx_5 : Tx 3 " = " := tx_lit (by decide +kernel)
theorem tx_6 : Tx 5 "call " := tx_lit (by decide +kernel)
theorem tx_7 : Tx 5 "view " := tx_lit (by decide +kernel)
theorem tx_8 : Tx 5 "show " := tx_lit (by decide +kernel)
theorem tx_9 : Tx 6 "fields" := tx_lit (by decide +kernel)
theorem tx_10 : Tx 5 "modes" := tx_lit (by decide +kernel)
theorem t_case_lines {fs ms : List Str} {so : Str} {c : Cs} (hf : ∀ x ∈ fs, FNm x) (hm : ∀ x ∈ ms, Nm x) (h : CsV fs ms so c) : ∃ ts, F_case_lines [csD c] = some (.lst (ts.map .str), [.non]) ∧ Lns 10 ts := by
  have m1 := (hm _ h.m).tx
  have m2 := (hm _ h.af).tx
  have := h.len
  have := h.ul
  have y1 := tx_e.app tx_1
  have y2 := y1.app m1
  have y3 := y2.app tx_sp
  have y4 := y3.app m2
  have L2 : Lns 5 (c.fa.map fun f => (((Str.empty ++ ("fact " : Str)) ++ fmTx f.1) ++ (" <= " : Str)) ++ fmTx f.2) := .map h.len fun f hfa => ((((tx_e.app tx_2).app ((h.fa f hfa).1.tx hf).2).app tx_3).app ((h.fa f hfa).2.tx hf).2).mono (by omega)
  have L3 : Lns 4 (c.up.map fun f => (((Str.empty ++ ("set " : Str)) ++ f.1) ++ (" = " : Str)) ++ fmTx f.2) := .map h.ul fun f hfa => ((((tx_e.app tx_4).app (hf _ (h.up.mem f hfa)).nm.tx).app tx_5).app ((h.up.ok f hfa).tx hf).2).mono (by omega)
  refine ⟨_, Ok2.eq (ok_body rfl ?_), ((Lns.one (y4.mono (by omega))).app L2).app L3⟩
  show OkS (g_case_lines [some (.sh (.tup [.str c.m, .tup (c.fa.map fcD), .tup (c.up.map upD), .str c.af])), none, none, none, none, none, none, none, none, none]) _ _ _ _
  unfold g_case_lines
  walk_at "go"
  refine ex_part (by have := y1.le; omega) ?_
  walk_at "go"
  refine p_fmtS (by have := m1.le; omega) (ex_part (by have := y2.le; omega) ?_)
  walk_at "go"
  refine ex_part (by have := y3.le; omega) ?_
  walk_at "go"
  refine p_fmtS (by have := m2.le; omega) (ex_part (by have := y4.le; omega) ?_)
  walk_at "go"
  refine ok_lcM (fun f => .str ((((Str.empty ++ ("fact " : Str)) ++ fmTx f.1) ++ (" <= " : Str)) ++ fmTx f.2)) ?_ (fun f hfa => ?_) ?_
  · omega
  · obtain ⟨e1, z1⟩ := (h.fa f hfa).1.tx hf
    obtain ⟨e2, z2⟩ := (h.fa f hfa).2.tx hf
    have w1 := tx_e.app tx_2
    have w2 := w1.app z1
    have w3 := w2.app tx_3
    have w4 := w3.app z2
    show Ok1 (pTup 2 _ (.tup [f.1.d, f.2.d]) _) _
    walk_at "go"
    refine ex_part (by have := w1.le; omega) ?_
    walk_at "go"
    refine ok_eq2 e1 ⟨rfl, ?_⟩
    refine p_fmtS (by have := z1.le; omega) (ex_part (by have := w2.le; omega) ?_)
    walk_at "go"
    refine ex_part (by have := w3.le; omega) ?_
    walk_at "go"
    refine ok_eq2 e2 ⟨rfl, ?_⟩
    refine p_fmtS (by have := z2.le; omega) (ex_part (by have := w4.le; omega) ?_)
    walk_at "go"
    exact ⟨rfl, rfl⟩
  walk_at "go"
  refine ok_lcM (fun f => .str ((((Str.empty ++ ("set " : Str)) ++ f.1) ++ (" = " : Str)) ++ fmTx f.2)) ?_ (fun f hfa => ?_) ?_
  · omega
  · have z1 := (hf _ (h.up.mem f hfa)).nm.tx
    obtain ⟨e2, z2⟩ := (h.up.ok f hfa).tx hf
    have w1 := tx_e.app tx_4
    have w2 := w1.app z1
    have w3 := w2.app tx_5
    have w4 := w3.app z2
    show Ok1 (pTup 2 _ (.tup [.str f.1, f.2.d]) _) _
    walk_at "go"
    refine ex_part (by have := w1.le; omega) ?_
    walk_at "go"
    refine p_fmtS (by have := z1.le; omega) (ex_part (by have := w2.le; omega) ?_)
    walk_at "go"
    refine ex_part (by have := w3.le; omega) ?_
    walk_at "go"
    refine ok_eq2 e2 ⟨rfl, ?_⟩
    refine p_fmtS (by have := z2.le; omega) (ex_part (by have := w4.le; omega) ?_)
    walk_at "go"
    exact ⟨rfl, rfl⟩
  walk_at "go"
  · refine ok_eq1 rfl ⟨?_, rfl⟩
    simp only [List.map_append, List.map_cons, List.map_nil, List.map_map]
    rfl
  · simp; omega
  · simp; omega
end W77

/-! k77, the plain law: the text of a design, the design. -/
namespace W77
open PySem PySem.Spec L2 DL
structure MnV (m : Mn) : Prop where
  f : ∀ x ∈ m.fl, FNm x
  fn : m.fl.Nodup
  f1 : 1 ≤ m.fl.length
  f4 : m.fl.length ≤ 4
  g : ∀ x ∈ m.md, Nm x
  gn : m.md.Nodup
  g1 : 1 ≤ m.md.length
  g4 : m.md.length ≤ 4
  c : ∀ x ∈ m.cl, ClV m.fl m.md x
  cn : (m.cl.map (·.nm)).Nodup
  c8 : m.cl.length ≤ 8
  v : ∀ x ∈ m.vw, VwV m.fl m.md x
  vn : (m.vw.map (·.nm)).Nodup
  v4 : m.vw.length ≤ 4
theorem tjoin_tx {w : Str} {xs : List Str} (hw : Tx 6 w) (h : ∀ x ∈ xs, Nm x) (hl : xs.length ≤ 4) : Tx 7000 (Txt.join " " (w :: xs)) ∧ ((w :: xs).map (·.length)).sum + (w :: xs).length * (" " : Str).length ≤ 16777216 := by
  have h1 : ∀ x ∈ w :: xs, Tx 8 x := fun x hx => by
    rcases List.mem_cons.mp hx with rfl | hx
    · exact hw.mono (by omega)
    · exact (h x hx).tx
  have h2 := sum_le fun x hx => (h1 x hx).le
  have h3 : (w :: xs).length ≤ 5 := by simp; omega
  have h4 : (" " : Str).length = 1 := by decide +kernel
  have h5 := StrLaws.join_length_le " " (w :: xs)
  refine ⟨⟨okS_tjoin tx_sp.ok fun x hx => (h1 x hx).ok, ?_⟩, ?_⟩
  · show (Builtin.Str.glued " " (w :: xs)).length ≤ _
    rw [StrLaws.glued_eq_join]
    rw [h4] at h5
    omega
  · rw [h4]; omega
theorem t_design_text {m : Mn} (h : MnV m) : ∃ t, F_design_text [txs m.fl, txs m.md, .tup (m.cl.map clD), .tup (m.vw.map vwD)] = some (.str t, [.non, .non, .non, .non]) ∧ okS t := by
  obtain ⟨j1, k1⟩ := tjoin_tx (tx_9.mono (by omega)) (fun x hx => (h.f x hx).nm) h.f4
  obtain ⟨j2, k2⟩ := tjoin_tx (tx_10.mono (by omega)) h.g h.g4
  have hf4 := h.f4
  have hg4 := h.g4
  suffices H : Ok2 (F_design_text [txs m.fl, txs m.md, .tup (m.cl.map clD), .tup (m.vw.map vwD)]) fun d os => (∃ t, d = .str t ∧ okS t) ∧ os = [.non, .non, .non, .non] by
    obtain ⟨_, _, e, ⟨t, rfl, ht⟩, rfl⟩ := H
    exact ⟨t, e, ht⟩
  refine ok_body rfl ?_
  show OkS (g_design_text [_, _, _, _, none, none, none, none, none, none, none]) _ _ _ _
  unfold g_design_text
  walk_at "go"
  rw [List.append_nil]
  refine ⟨by simp; omega, ?_⟩
  walk_at "go"
  refine p_joinL (xs := "fields" :: m.fl) k1 ?_
  walk_at "go"
  rw [List.append_nil]
  refine ⟨by simp; omega, ?_⟩
  walk_at "go"
  refine p_joinL (xs := "modes" :: m.md) k2 ?_
  walk_at "go"
  refine ok_forI (I := fun done ρ => ∃ ts x5 x6 x7 x8, Lns (2 + done.length * 41) ts ∧ ρ = [some (.sh (txs m.fl)), some (.sh (txs m.md)), some (.sh (.tup (m.cl.map clD))), some (.sh (.tup (m.vw.map vwD))), some (.ow true (.lst (ts.map .str))), x5, x6, x7, x8, none, none])
    ⟨[_, _], _, _, _, _, (Lns.one j1).app (Lns.one j2), rfl⟩ ?_ ?_
  · rintro done u rest e ρ ⟨ts, x5, x6, x7, x8, hts, rfl⟩
    have hu : u ∈ m.cl := by rw [e]; simp
    have hc := h.c u hu
    have hlen : done.length < 8 := by have := h.c8; rw [e] at this; simp at this; omega
    have n1 := hc.nm.tx
    have n2 : Tx 8 u.so := ⟨sor_ok _ hc.so, by
      have := List.all_eq_true.mp (by decide +kernel : SOR.all (fun x => Nat.ble x.length 8) = true) u.so hc.so
      exact Nat.le_of_ble_eq_true this⟩
    have y1 := tx_e.app tx_6
    have y2 := y1.app n1
    have y3 := y2.app tx_sp
    have y4 := y3.app n2
    have hl := hts.len
    show Ok1 (pTup 3 _ (.tup [.str u.nm, .str u.so, .tup (u.cs.map csD)]) _) _
    walk_at "go"
    refine ex_part (by have := y1.le; omega) ?_
    walk_at "go"
    refine p_fmtS (by have := n1.le; omega) (ex_part (by have := y2.le; omega) ?_)
    walk_at "go"
    refine ex_part (by have := y3.le; omega) ?_
    walk_at "go"
    refine p_fmtS (by have := n2.le; omega) (ex_part (by have := y4.le; omega) ?_)
    walk_at "go"
    refine ok_forI (I := fun dn ρ => ∃ us x8, Lns (2 + done.length * 41 + 1 + dn.length * 10) us ∧ ρ = [some (.sh (txs m.fl)), some (.sh (txs m.md)), some (.sh (.tup (m.cl.map clD))), some (.sh (.tup (m.vw.map vwD))), some (.ow true (.lst (us.map .str))), some (.sh (.str u.nm)), some (.sh (.str u.so)), some (.sh (.tup (u.cs.map csD))), x8, none, none])
      ⟨ts ++ [_], _, hts.app (Lns.one (y4.mono (by omega))), by rw [List.map_append]; rfl⟩ ?_ ?_
    · rintro dn v rs e2 ρ ⟨us, x8, hus, rfl⟩
      have hv : v ∈ u.cs := by rw [e2]; simp
      have hdn : dn.length < 4 := by have := hc.le; rw [e2] at this; simp at this; omega
      obtain ⟨vs, e3, hvs⟩ := t_case_lines h.f h.g (hc.cs v hv)
      have l1 := hus.len
      have l2 := hvs.len
      walk_at "go"
      refine ok_eq2 e3 ⟨rfl, ?_⟩
      walk_at "go"
      · refine ⟨us ++ vs, _, ⟨?_, (hus.app hvs).tx⟩, by rw [List.map_append]⟩
        rw [List.length_append, List.length_append]
        simp only [List.length_cons, List.length_nil]
        omega
      · simp only [List.length_map]; omega
    · rintro ρ ⟨us, x8, hus, rfl⟩
      refine ⟨us, _, _, _, _, ⟨?_, hus.tx⟩, rfl⟩
      have l1 := hus.len
      have := hc.le
      rw [List.length_append]
      simp only [List.length_cons, List.length_nil]
      omega
    · simp only [List.length_map]; omega
  · rintro ρ ⟨ts, x5, x6, x7, x8, hts, rfl⟩
    walk_at "go"
    refine ok_forI (I := fun done ρ => ∃ us x5 x9 x10, Lns (2 + m.cl.length * 41 + done.length * 5) us ∧ ρ = [some (.sh (txs m.fl)), some (.sh (txs m.md)), some (.sh (.tup (m.cl.map clD))), some (.sh (.tup (m.vw.map vwD))), some (.ow true (.lst (us.map .str))), x5, x6, x7, x8, x9, x10])
      ⟨ts, _, _, _, hts, rfl⟩ ?_ ?_
    · rintro done u rest e ρ ⟨us, x5, x9, x10, hus, rfl⟩
      have hu : u ∈ m.vw := by rw [e]; simp
      have hc := h.v u hu
      have hlen : done.length < 4 := by have := h.v4; rw [e] at this; simp at this; omega
      have n1 := hc.nm.tx
      have y1 := tx_e.app tx_7
      have y2 := y1.app n1
      have l1 := hus.len
      have l8 := h.c8
      have hfl : u.fs.length ≤ 4 := by rw [hc.len]; exact h.g4
      have L2 : Lns 4 (u.fs.map fun f => (Str.empty ++ ("show " : Str)) ++ fmTx f) := .map hfl fun f hfa => ((tx_e.app tx_8).app ((hc.ok f hfa).tx h.f).2).mono (by omega)
      show Ok1 (pTup 2 _ (.tup [.str u.nm, .tup (u.fs.map Fm.d)]) _) _
      walk_at "go"
      refine ex_part (by have := y1.le; omega) ?_
      walk_at "go"
      refine p_fmtS (by have := n1.le; omega) (ex_part (by have := y2.le; omega) ?_)
      walk_at "go"
      refine ok_lcM (fun f => .str ((Str.empty ++ ("show " : Str)) ++ fmTx f)) ?_ (fun f hfa => ?_) ?_
      · omega
      · obtain ⟨e2, z2⟩ := (hc.ok f hfa).tx h.f
        have w1 := tx_e.app tx_8
        have w2 := w1.app z2
        walk_at "go"
        refine ex_part (by have := w1.le; omega) ?_
        walk_at "go"
        refine ok_eq2 e2 ⟨rfl, ?_⟩
        refine p_fmtS (by have := z2.le; omega) (ex_part (by have := w2.le; omega) ?_)
        walk_at "go"
        exact ⟨rfl, rfl⟩
      walk_at "go"
      · have L3 := (hus.app (Lns.one (y2.mono (m := 7000) (by omega)))).app L2
        refine ⟨_, _, _, _, ⟨?_, L3.tx⟩, by rw [List.map_append, List.map_append, List.map_map]; rfl⟩
        have := L3.len
        rw [List.length_append] at this ⊢
        simp only [List.length_append, List.length_cons, List.length_nil] at this ⊢
        omega
      · simp; omega
      · simp; omega
    · rintro ρ ⟨us, x5, x9, x10, hus, rfl⟩
      have l1 := hus.len
      have l8 := h.c8
      have l9 := h.v4
      have l2 := sum_le fun x hx => (hus.tx x hx).le
      have hn : ("\n" : Str).length = 1 := by decide +kernel
      walk_at "go"
      refine p_joinL (by rw [hn]; omega) ?_
      refine ok_eq1 rfl ⟨⟨_, rfl, okS_tjoin (tx_lit (n := 1) (by decide +kernel)).ok fun x hx => (hus.tx x hx).ok⟩, rfl⟩
/-- the text of a design -/
def mnTx (m : Mn) : Str := match F_design_text [txs m.fl, txs m.md, .tup (m.cl.map clD), .tup (m.vw.map vwD)] with
  | some (.str t, _) => t
  | _ => Str.empty
theorem MnV.text {m : Mn} (h : MnV m) : F_design_text [txs m.fl, txs m.md, .tup (m.cl.map clD), .tup (m.vw.map vwD)] = some (.str (mnTx m), [.non, .non, .non, .non]) ∧ okS (mnTx m) := by
  obtain ⟨t, e, k⟩ := t_design_text h
  have e2 : mnTx m = t := by unfold mnTx; rw [e]
  rw [e2]
  exact ⟨e, k⟩
/-- the fields of a design -/
def dsF (m : Mn) : List (Str × D) := [("fields", txs m.fl), ("modes", txs m.md), ("calls", .tup (m.cl.map clD)), ("views", .tup (m.vw.map vwD)), ("names", .tpx ((m.cl.map (·.nm)).map .str)), ("view_names", txs (m.vw.map (·.nm))), ("text", .str (mnTx m))]
abbrev obL (a b c d e f g : D) : List (Str × D) := [("fields", a), ("modes", b), ("calls", c), ("views", d), ("names", e), ("view_names", f), ("text", g)]
theorem put_all (a b c d e f g : D) : putD "text" g (putD "view_names" f (putD "names" e (putD "views" d (putD "calls" c (putD "modes" b (putD "fields" a [])))))) = obL a b c d e f g := by
  have n1 : ¬ ("fields" : Str) = "modes" := by decide +kernel
  have n2 : ¬ ("fields" : Str) = "calls" := by decide +kernel
  have n3 : ¬ ("fields" : Str) = "views" := by decide +kernel
  have n4 : ¬ ("fields" : Str) = "names" := by decide +kernel
  have n5 : ¬ ("fields" : Str) = "view_names" := by decide +kernel
  have n6 : ¬ ("fields" : Str) = "text" := by decide +kernel
  have n7 : ¬ ("modes" : Str) = "calls" := by decide +kernel
  have n8 : ¬ ("modes" : Str) = "views" := by decide +kernel
  have n9 : ¬ ("modes" : Str) = "names" := by decide +kernel
  have n10 : ¬ ("modes" : Str) = "view_names" := by decide +kernel
  have n11 : ¬ ("modes" : Str) = "text" := by decide +kernel
  have n12 : ¬ ("calls" : Str) = "views" := by decide +kernel
  have n13 : ¬ ("calls" : Str) = "names" := by decide +kernel
  have n14 : ¬ ("calls" : Str) = "view_names" := by decide +kernel
  have n15 : ¬ ("calls" : Str) = "text" := by decide +kernel
  have n16 : ¬ ("views" : Str) = "names" := by decide +kernel
  have n17 : ¬ ("views" : Str) = "view_names" := by decide +kernel
  have n18 : ¬ ("views" : Str) = "text" := by decide +kernel
  have n19 : ¬ ("names" : Str) = "view_names" := by decide +kernel
  have n20 : ¬ ("names" : Str) = "text" := by decide +kernel
  have n21 : ¬ ("view_names" : Str) = "text" := by decide +kernel
  simp only [putD, n1, n2, n3, n4, n5, n6, n7, n8, n9, n10, n11, n12, n13, n14, n15, n16, n17, n18, n19, n20, n21, if_false]
theorem look_all (a b c d e f g : D) : (obL a b c d e f g).lookup ("fields" : Str) = some a ∧ (obL a b c d e f g).lookup ("modes" : Str) = some b ∧ (obL a b c d e f g).lookup ("calls" : Str) = some c ∧ (obL a b c d e f g).lookup ("views" : Str) = some d ∧ (obL a b c d e f g).lookup ("names" : Str) = some e ∧ (obL a b c d e f g).lookup ("view_names" : Str) = some f ∧ (obL a b c d e f g).lookup ("text" : Str) = some g := by
  have n1 : (("modes" : Str) == "fields") = false := by decide +kernel
  have n2 : (("calls" : Str) == "fields") = false := by decide +kernel
  have n3 : (("calls" : Str) == "modes") = false := by decide +kernel
  have n4 : (("views" : Str) == "fields") = false := by decide +kernel
  have n5 : (("views" : Str) == "modes") = false := by decide +kernel
  have n6 : (("views" : Str) == "calls") = false := by decide +kernel
  have n7 : (("names" : Str) == "fields") = false := by decide +kernel
  have n8 : (("names" : Str) == "modes") = false := by decide +kernel
  have n9 : (("names" : Str) == "calls") = false := by decide +kernel
  have n10 : (("names" : Str) == "views") = false := by decide +kernel
  have n11 : (("view_names" : Str) == "fields") = false := by decide +kernel
  have n12 : (("view_names" : Str) == "modes") = false := by decide +kernel
  have n13 : (("view_names" : Str) == "calls") = false := by decide +kernel
  have n14 : (("view_names" : Str) == "views") = false := by decide +kernel
  have n15 : (("view_names" : Str) == "names") = false := by decide +kernel
  have n16 : (("text" : Str) == "fields") = false := by decide +kernel
  have n17 : (("text" : Str) == "modes") = false := by decide +kernel
  have n18 : (("text" : Str) == "calls") = false := by decide +kernel
  have n19 : (("text" : Str) == "views") = false := by decide +kernel
  have n20 : (("text" : Str) == "names") = false := by decide +kernel
  have n21 : (("text" : Str) == "view_names") = false := by decide +kernel
  simp only [List.lookup, n1, n2, n3, n4, n5, n6, n7, n8, n9, n10, n11, n12, n13, n14, n15, n16, n17, n18, n19, n20, n21, beq_self_eq_true, and_self]
theorem cf_1 : CF "Design" "fields" = true := by decide +kernel
theorem cf_2 : CF "Design" "modes" = true := by decide +kernel
theorem cf_3 : CF "Design" "calls" = true := by decide +kernel
theorem cf_4 : CF "Design" "views" = true := by decide +kernel
theorem cf_5 : CF "Design" "names" = true := by decide +kernel
theorem cf_6 : CF "Design" "view_names" = true := by decide +kernel
theorem cf_7 : CF "Design" "text" = true := by decide +kernel
abbrev dsD (m : Mn) : D := .obj "Design" (dsF m)
theorem put_len (f : Str) (d : D) : ∀ l : List (Str × D), (putD f d l).length ≤ l.length + 1
  | [] => Nat.le_refl _
  | (g, e) :: r => by
    unfold putD
    split
    · simp
    · have := put_len f d r
      simp; omega
theorem gf_ {ρ ρ2 : En} {i : Nat} {l : Bool} {c f : Str} {d : D} {fs : List (Str × D)} {N : En → Prop} (h1 : ρ[i]? = some (some (.ow l (.obj c fs)))) (h2 : CF c f = true) (h3 : fs.length < 1000) (s : SetAt ρ i (some (.ow l (.obj c (putD f d fs)))) ρ2) (k : N ρ2) : ∃ l c fs ρ2, ρ[i]? = some (some (.ow l (.obj c fs))) ∧ (CF c f = true ∧ fs.length < 1000) ∧ SetAt ρ i (some (.ow l (.obj c (putD f d fs)))) ρ2 ∧ N ρ2 := ⟨l, c, fs, ρ2, h1, ⟨h2, h3⟩, s, k⟩
theorem t_init {m : Mn} (h : MnV m) : F_Design_init [.obj "Design" [], txs m.fl, txs m.md, .tup (m.cl.map clD), .tup (m.vw.map vwD)] = some (.non, [dsD m, .non, .non, .non, .non]) := by
  refine Ok2.eq (ok_body rfl ?_)
  show OkS (g_Design_init [some (.ow false (.obj "Design" [])), _, _, _, _, none, none]) _ _ _ _
  unfold g_Design_init
  have l1 := put_len "fields" (txs m.fl) []
  have l2 := put_len "modes" (txs m.md) (putD "fields" (txs m.fl) [])
  have l3 := put_len "calls" (.tup (m.cl.map clD)) (putD "modes" (txs m.md) (putD "fields" (txs m.fl) []))
  have l4 := put_len "views" (.tup (m.vw.map vwD)) (putD "calls" (.tup (m.cl.map clD)) (putD "modes" (txs m.md) (putD "fields" (txs m.fl) [])))
  have l5 := put_len "names" (.tpx (m.cl.map fun c => .str c.nm)) (putD "views" (.tup (m.vw.map vwD)) (putD "calls" (.tup (m.cl.map clD)) (putD "modes" (txs m.md) (putD "fields" (txs m.fl) []))))
  have l6 := put_len "view_names" (.tup (m.vw.map fun c => .str c.nm)) (putD "names" (.tpx (m.cl.map fun c => .str c.nm)) (putD "views" (.tup (m.vw.map vwD)) (putD "calls" (.tup (m.cl.map clD)) (putD "modes" (txs m.md) (putD "fields" (txs m.fl) [])))))
  have l0 : ([] : List (Str × D)).length = 0 := rfl
  walk_at "go"
  refine ok_eq2 (t_check_fields h.f h.fn h.f1 h.f4) ⟨rfl, ?_⟩
  walk_at "go"
  refine ok_eq2 (t_check_modes h.g h.gn h.g1 h.g4) ⟨rfl, ?_⟩
  walk_at "go"
  refine ok_eq2 (t_check_calls h.f h.g h.c h.cn h.c8) ⟨rfl, ?_⟩
  walk_at "go"
  refine ok_eq2 (t_check_views h.f h.g4 h.v h.vn h.v4) ⟨rfl, ?_⟩
  refine ok_seq (ok_gfld ?_)
  walk_at "go"
  refine gf_ rfl cf_1 (by decide) .z ?_
  refine ok_seq (ok_gfld ?_)
  walk_at "go"
  refine gf_ rfl cf_2 (by omega) .z ?_
  refine ok_seq (ok_gfld ?_)
  walk_at "go"
  refine gf_ rfl cf_3 (by omega) .z ?_
  refine ok_seq (ok_gfld ?_)
  walk_at "go"
  refine gf_ rfl cf_4 (by omega) .z ?_
  refine ok_seq (ok_gfld ?_)
  walk_at "go"
  refine ok_lcM (fun c => .str c.nm) ?_ (fun c hc => ?_) ?_
  · have := h.c8; omega
  · walk_at "go"
    exact ⟨rfl, rfl⟩
  walk_at "go"
  refine gf_ rfl cf_5 (by omega) .z ?_
  refine ok_seq (ok_gfld ?_)
  walk_at "go"
  refine ok_lcM (fun c => .str c.nm) ?_ (fun c hc => ?_) ?_
  · have := h.v4; omega
  · walk_at "go"
    exact ⟨rfl, rfl⟩
  walk_at "go"
  refine gf_ rfl cf_6 (by omega) .z ?_
  refine ok_gfld ?_
  walk_at "go"
  refine ok_eq2 h.text.1 ⟨rfl, ?_⟩
  refine gf_ rfl cf_7 (by omega) .z ?_
  refine ok_eq1 rfl ⟨rfl, ?_⟩
  rw [put_all]
  unfold dsD dsF txs
  simp only [List.map_map]
  rfl
end W77

/-! k77, the plain law: what is drawn. -/
namespace W77
open PySem PySem.Spec L2 DL
structure PurseOk (p : D) : Prop where
  ex : ∃ (cs : List Int) (pl dg sd : Int), p = .lst [.lst (cs.map .int), .int pl, .int dg, .int sd] ∧ cs ≠ []
/-- a drawing def: its value has R -/
def SpP (Ff : DF) (p : D) (ds : List D) (R : D → Prop) : Prop := Ok2 (Ff (p :: ds)) fun d os => ∃ p', PurseOk p' ∧ os = p' :: nos ds ∧ R d
theorem kP {Ff : DF} {p : D} {ds : List D} {l : Bool} {ρ : En} {P : D → En → Prop} {R : D → Prop} (h : SpP Ff p ds R) (k : ∀ p' d, PurseOk p' → R d → P d (some (.ow l p') :: ρ)) : CallP Ff p ds l ρ P := by
  obtain ⟨d, os, e, p', hp, e2, r⟩ := h
  exact ⟨d, os, e, p', e2, k p' d hp r⟩
theorem SpP.imp {Ff : DF} {p : D} {ds : List D} {R S : D → Prop} (h : SpP Ff p ds R) (k : ∀ d, R d → S d) : SpP Ff p ds S := by
  obtain ⟨d, os, e, p', hp, e2, r⟩ := h
  exact ⟨d, os, e, p', hp, e2, k d r⟩
def IsI (n : Int) (d : D) : Prop := ∃ i : Nat, d = .int (i : Nat) ∧ (i : Int) < n
theorem isI {i n : Int} (h0 : 0 < n) : IsI n (.int (i.fmod n)) := by
  have h1 := Int.fmod_nonneg_of_pos i h0
  have h2 := Int.fmod_lt_of_pos i h0
  obtain ⟨j, e⟩ := Int.eq_ofNat_of_zero_le h1
  exact ⟨j, by rw [e], by omega⟩
theorem p_fdiv {i j : Int} {P : D → Prop} (h : j ≠ 0 ∧ j.natAbs < 1073741824) (k : P (.int (i.fdiv j))) : Ok1 (fdivD (.int i) (.int j)) P := ⟨_, if_pos h, k⟩
theorem p_pow {i j : Int} {P : D → Prop} (h : 0 ≤ j ∧ j ≤ 1000000 ∧ i.natAbs < 2 ^ 64) (k : P (.int (i ^ j.toNat))) : Ok1 (powD (.int i) (.int j)) P := ⟨_, if_pos h, k⟩
theorem d_draw {p : D} {n : Int} (hp : PurseOk p) (h1 : 0 < n) (h2 : n < 1000000) : SpP F__law_draw p [.int n] (IsI n) := by
  obtain ⟨cs, pl, dg, sd, rfl, hc⟩ := hp.ex
  have hm : n ≠ 0 := by omega
  have hb : n.natAbs < 1073741824 := by omega
  have hl : 0 < cs.length := List.length_pos_iff.mpr hc
  have hl2 : ((cs.map D.int).length : Int) ≠ 0 := by rw [List.length_map]; omega
  refine ok_body rfl ?_
  show OkS (g__law_draw [_, _, none, none, none, none, none]) _ _ _ _
  unfold g__law_draw
  walk_at "go"
  refine ⟨fun e => ?_, fun e => ?_⟩
  · walk_at "go"
    refine p_mod hm ?_
    walk_at "go"
    refine ok_gset ?_
    walk_at "go"
    refine p_fdiv ⟨hm, hb⟩ ?_
    refine ⟨_, _, rfl, ?_⟩
    walk_at "go"
    refine ⟨_, _, _, _, _, rfl, rfl, rfl, .z, ?_⟩
    walk_at "go"
    exact ok_eq1 rfl ⟨_, ⟨_, _, _, _, rfl, hc⟩, rfl, isI h1⟩
  · walk_at "go"
    refine ok_gset ?_
    walk_at "go"
    refine ⟨_, _, rfl, ?_⟩
    walk_at "go"
    refine ⟨_, _, _, _, _, rfl, rfl, rfl, .z, ?_⟩
    walk_at "go"
    refine p_mod hl2 ?_
    have h0 : 0 ≤ pl.fmod ((cs.map D.int).length : Int) := Int.fmod_nonneg_of_pos _ (by rw [List.length_map]; omega)
    have hlt : pl.fmod ((cs.map D.int).length : Int) < (cs.map D.int).length := Int.fmod_lt_of_pos _ (by rw [List.length_map]; omega)
    rw [List.length_map] at h0 hlt
    obtain ⟨c, _, ec⟩ := ix_mem D.int h0 hlt
    rw [List.length_map]
    refine p_ix ec ?_
    walk_at "go"
    refine p_pow (by decide) ?_
    walk_at "go"
    have rest : ∀ {N : En → Prop} {R : D → En → Prop} {B C : En → Prop}, (∀ d p', PurseOk p' → IsI n d → ∀ x6, R d [some (.ow false p'), some (.sh (.int n)), none, some (.sh (.int pl)), some (.sh (.lst (cs.map .int))), some (.sh (.int c)), x6]) →
        OkS ((gSeq (gAsg (fOp modD (fCB intD (faCons (fOp addD (fOp addD (fOp mulD (fIxB (fBor 0) 3) (fC (.int (48271)))) (fOp mulD (fOp addD (fVar 5) (fVar 3)) (fC (.int (69997))))) (fC (.int (7)))) faNil)) (fC (.int (2147483647)))) (pName 6)) (gSeq (gSet 0 (fC (.int (3))) (fOp addD (fOp modD (fCB intD (faCons (fOp addD (fOp powD (fVar 6) (fC (.int (3)))) (fVar 3)) faNil)) (fC (.int (2147483629)))) (fC (.int (1))))) (gRet (fOp modD (fCB intD (faCons (fOp fdivD (fVar 6) (fC (.int (257)))) faNil)) (fVar 1)))))
          [some (.ow false (.lst [.lst (cs.map .int), .int (pl + 1), .int dg, .int sd])), some (.sh (.int n)), none, some (.sh (.int pl)), some (.sh (.lst (cs.map .int))), some (.sh (.int c)), none]) N R B C := by
      intro N R B C k
      walk_at "go"
      refine p_mulI (.inr (by decide)) ?_
      walk_at "go"
      refine p_mulI (.inr (by decide)) ?_
      walk_at "go"
      refine p_mod (by decide) ?_
      have hx0 := Int.fmod_nonneg_of_pos (sd * 48271 + (c + pl) * 69997 + 7) (b := 2147483647) (by decide)
      have hx1 := Int.fmod_lt_of_pos (sd * 48271 + (c + pl) * 69997 + 7) (b := 2147483647) (by decide)
      walk_at "go"
      refine ok_gset ?_
      walk_at "go"
      refine p_pow ⟨by decide, by decide, by omega⟩ ?_
      walk_at "go"
      refine p_mod (by decide) ?_
      walk_at "go"
      refine ⟨_, _, rfl, ?_⟩
      walk_at "go"
      refine ⟨_, _, _, _, _, rfl, rfl, rfl, .z, ?_⟩
      walk_at "go"
      refine p_fdiv (by decide) ?_
      walk_at "go"
      refine p_mod hm ?_
      exact k _ _ ⟨_, _, _, _, rfl, hc⟩ (isI h1) _
    refine ⟨fun e => ?_, fun e => ?_⟩
    · walk_at "go"
      refine ⟨fun e => ?_, fun e => ?_⟩
      · refine ok_seq (ok_gset ?_)
        walk_at "go"
        refine p_fdiv ⟨hm, hb⟩ ?_
        refine ⟨_, _, rfl, ?_⟩
        walk_at "go"
        refine ⟨_, _, _, _, _, rfl, rfl, rfl, .z, ?_⟩
        walk_at "go"
        refine p_mod hm ?_
        exact ok_eq1 rfl ⟨_, ⟨_, _, _, _, rfl, hc⟩, rfl, isI h1⟩
      · refine ok_next ?_
        exact rest fun d p' hp' hd x6 => ok_eq1 rfl ⟨_, hp', rfl, hd⟩
    · refine br_f (ok_next ?_)
      exact rest fun d p' hp' hd x6 => ok_eq1 rfl ⟨_, hp', rfl, hd⟩
theorem d_pick {α : Type} {κ : α → D} {p : D} {xs : List α} (hp : PurseOk p) (h1 : 0 < xs.length) (h2 : xs.length < 1000000) : SpP F__law_pick p [.lst (xs.map κ)] fun d => ∃ x ∈ xs, d = κ x := by
  refine ok_body rfl ?_
  show OkS (g__law_pick [_, _]) _ _ _ _
  unfold g__law_pick
  walk_at "go"
  refine kP (d_draw hp (by rw [List.length_map]; omega) (by rw [List.length_map]; omega)) ?_
  rintro p1 _ hp1 ⟨i, rfl, hi⟩
  rw [List.length_map] at hi
  obtain ⟨x, hx, e⟩ := ix_mem κ (Int.natCast_nonneg i) hi
  refine p_ix e ?_
  exact ok_eq1 rfl ⟨p1, hp1, rfl, x, hx, rfl⟩
/-! ### names -/
def W8 : List Str := ["one", "many", "x", "y", "case", "set", "fields", "all"]
def fnB (x : Str) : Bool := nmB x && (!decide (x = "given")) && !decide (x = "none")
theorem fn_b {x : Str} (h : fnB x = true) : FNm x := by
  unfold fnB at h
  rw [Bool.and_eq_true, Bool.and_eq_true] at h
  exact ⟨nm_b h.1.1, of_decide_eq_false (by simpa using h.1.2), of_decide_eq_false (by simpa using h.2)⟩
theorem W8_ok : ∀ x ∈ W8, FNm x := fun x hx => fn_b (List.all_eq_true.mp (by decide +kernel : W8.all fnB = true) x hx)
theorem W8_nd : ∀ s, s < 36 → ∀ n, n < 6 → ((List.range n).map fun k => W8.getD ((s + 3 * k) % 8) Str.empty).Nodup := by decide +kernel
def SGS : Str := "abcdefghijklmnopqrstuvwxyz0123456789"
theorem sgs_len : SGS.length = 36 := by decide +kernel
theorem sgl_len : SGS.cps.toList.length = 36 := by decide +kernel
theorem sgs_lt : ∀ i, i < 26 → (SGS.cps.toList.getD i 0) ∈ LT := by decide +kernel
theorem sgs_sg : ∀ i, i < 36 → (SGS.cps.toList.getD i 0) ∈ SG := by decide +kernel
theorem sgs_ne : ∀ s, s < 36 → ∀ j, j < 6 → ∀ i, i < j → ¬ SGS.cps.toList.getD ((s + 5 * i) % 36) 0 = SGS.cps.toList.getD ((s + 5 * j) % 36) 0 := by decide +kernel
theorem sgs_at {i : Nat} (h : i < 36) : ixD (.str SGS) (.int (i : Nat)) = some (.str ⟨#[SGS.cps.toList.getD i 0]⟩) := by
  refine ix_sgn (by rw [sgs_len]; decide) ?_
  rw [List.getElem?_eq_getElem (by rw [sgl_len]; exact h), List.getD_eq_getElem?_getD, List.getElem?_eq_getElem (by rw [sgl_len]; exact h)]
  rfl
/-- a name made of signs -/
def mkN (h t s : Nat) (cut back : Nat) : Str := (((⟨#[h]⟩ : Str) ++ repS ⟨#[t]⟩ cut) ++ ⟨#[s]⟩) ++ repS ⟨#[t]⟩ back
theorem mkN_list (h t s cut back : Nat) : (mkN h t s cut back).cps.toList = h :: (List.replicate cut t ++ s :: List.replicate back t) := by
  unfold mkN
  rw [app_list, app_list, app_list, repS_list, repS_list]
  simp
theorem mkN_ok {h t s cut back : Nat} (h1 : h ∈ LT) (h2 : h ∈ SG) (h3 : t ∈ SG) (h4 : s ∈ SG) (hl : cut + back ≤ 6) : FNm (mkN h t s cut back) := by
  have e := mkN_list h t s cut back
  have hall : ∀ a ∈ h :: (List.replicate cut t ++ s :: List.replicate back t), a ∈ SG := by
    intro a ha
    simp only [List.mem_cons, List.mem_append, List.mem_replicate] at ha
    rcases ha with rfl | ⟨_, rfl⟩ | rfl | ⟨_, rfl⟩ <;> assumption
  refine ⟨⟨h, _, e, h1, hall, ?_⟩, fun z => ?_, fun z => ?_⟩
  · simp; omega
  · rw [z] at e
    have e2 : ("given" : Str).cps.toList = [103, 105, 118, 101, 110] := by decide +kernel
    rw [e2] at e
    injection e with _ e
    have el := congrArg List.length e
    simp at el
    have : cut = 0 ∨ cut = 1 ∨ cut = 2 ∨ cut = 3 := by omega
    rcases this with rfl | rfl | rfl | rfl
    · have : back = 3 := by omega
      subst this; simp [List.replicate] at e; omega
    · have : back = 2 := by omega
      subst this; simp [List.replicate] at e; omega
    · have : back = 1 := by omega
      subst this; simp [List.replicate] at e; omega
    · have : back = 0 := by omega
      subst this; simp [List.replicate] at e; omega
  · rw [z] at e
    have e2 : ("none" : Str).cps.toList = [110, 111, 110, 101] := by decide +kernel
    rw [e2] at e
    injection e with _ e
    have el := congrArg List.length e
    simp at el
    have : cut = 0 ∨ cut = 1 ∨ cut = 2 := by omega
    rcases this with rfl | rfl | rfl
    · have : back = 2 := by omega
      subst this; simp [List.replicate] at e; omega
    · have : back = 1 := by omega
      subst this; simp [List.replicate] at e; omega
    · have : back = 0 := by omega
      subst this; simp [List.replicate] at e; omega
theorem mkN_inj {h t s s' cut back : Nat} (e : mkN h t s cut back = mkN h t s' cut back) : s = s' := by
  have e2 := congrArg (fun x : Str => x.cps.toList) e
  simp only [mkN_list] at e2
  injection e2 with _ e2
  have e3 := List.append_cancel_left e2
  injection e3
structure NsOk (n : Nat) (ns : List Str) : Prop where
  len : ns.length = n
  nd : ns.Nodup
  ok : ∀ x ∈ ns, FNm x
theorem len1 (c : Nat) : (⟨#[c]⟩ : Str).length = 1 := rfl
theorem repS_len (t n : Nat) : (repS ⟨#[t]⟩ n).length = n := by
  have := congrArg List.length (repS_list t n)
  show (repS ⟨#[t]⟩ n).cps.size = n
  simpa using this
theorem d_names {p : D} {n : Nat} (hp : PurseOk p) (hn : n < 6) : SpP F__law_names p [.int (n : Nat)] fun d => ∃ ns, d = .lst (ns.map .str) ∧ NsOk n ns := by
  refine ok_body rfl ?_
  show OkS (g__law_names [_, _, none, none, none, none, none, none, none, none, none, none]) _ _ _ _
  unfold g__law_names
  walk_at "go"
  refine kP (d_draw hp (by decide) (by decide)) ?_
  rintro p1 _ hp1 ⟨s, rfl, hs⟩
  have hs36 : s < 36 := by omega
  walk_at "go"
  refine kP (d_draw hp1 (by decide) (by decide)) ?_
  rintro p2 _ hp2 ⟨w, rfl, hw⟩
  walk_at "go"
  refine ⟨fun e => ?_, fun e => ?_⟩
  · walk_at "go"
    refine ⟨_, rfl, ⟨by omega, by omega⟩, ?_⟩
    walk_at "go"
    refine ok_lcM (xs := List.range n) (fun k => .str (W8.getD ((s + 3 * k) % 8) Str.empty)) ?_ (fun k hk => ?_) ?_
    · rw [List.length_range]; omega
    · have hk := List.mem_range.mp hk
      walk_at "go"
      refine p_mulI (.inl ⟨by decide, by decide⟩) ?_
      walk_at "go"
      refine p_mod (by decide) ?_
      have e1 : ((s : Nat) : Int) + 3 * (0 + (k : Nat)) = ((s + 3 * k : Nat) : Int) := by omega
      rw [e1, show (8 : Int) = ((8 : Nat) : Int) from rfl, fm]
      refine p_ix (z := .str (W8.getD ((s + 3 * k) % 8) Str.empty)) ?_ ⟨rfl, rfl⟩
      have h8 : (s + 3 * k) % 8 < W8.length := Nat.mod_lt _ (by decide)
      show atI (W8.map D.str) _ = _
      refine at_get ?_
      rw [List.getElem?_map, List.getD_eq_getElem?_getD, List.getElem?_eq_getElem h8]
      rfl
    · refine ok_eq1 rfl ⟨p2, hp2, rfl, (List.range n).map fun k => W8.getD ((s + 3 * k) % 8) Str.empty, by rw [List.map_map]; rfl, by simp, W8_nd s hs36 n hn, fun x hx => ?_⟩
      obtain ⟨k, _, rfl⟩ := List.mem_map.mp hx
      have h8 : (s + 3 * k) % 8 < W8.length := Nat.mod_lt _ (by decide)
      rw [List.getD_eq_getElem?_getD, List.getElem?_eq_getElem h8]
      exact W8_ok _ (List.getElem_mem h8)
  · walk_at "go"
    refine kP (d_draw hp2 (by decide) (by decide)) ?_
    rintro p3 _ hp3 ⟨wd, rfl, hwd⟩
    walk_at "go"
    refine kP (d_draw hp3 (by decide) (by decide)) ?_
    rintro p4 _ hp4 ⟨hd, rfl, hhd⟩
    refine p_ix (sgs_at (i := hd) (by omega)) ?_
    walk_at "go"
    refine kP (d_draw hp4 (by omega) (by omega)) ?_
    rintro p5 _ hp5 ⟨cut, rfl, hcut⟩
    walk_at "go"
    refine kP (d_draw hp5 (by decide) (by decide)) ?_
    rintro p6 _ hp6 ⟨tl, rfl, htl⟩
    refine p_ix (sgs_at (i := tl) (by omega)) ?_
    walk_at "go"
    refine p_mulS ⟨by omega, by omega, by rw [len1]; decide⟩ ?_
    refine p_addS (by rw [len1, Int.toNat_natCast, repS_len]; omega) ?_
    walk_at "go"
    refine p_mulS ⟨by omega, by omega, by rw [len1]; decide⟩ ?_
    walk_at "go"
    refine ⟨_, rfl, ⟨by omega, by omega⟩, ?_⟩
    walk_at "go"
    have eb : (((wd : Nat) : Int) - ((cut : Nat) : Int)).toNat = wd - cut := by omega
    refine ok_lcM (xs := List.range n) (fun k => .str (mkN (SGS.cps.toList.getD hd 0) (SGS.cps.toList.getD tl 0) (SGS.cps.toList.getD ((s + 5 * k) % 36) 0) cut (wd - cut))) ?_ (fun k hk => ?_) ?_
    · rw [List.length_range]; omega
    · have hk := List.mem_range.mp hk
      walk_at "go"
      refine p_mulI (.inl ⟨by decide, by decide⟩) ?_
      walk_at "go"
      refine p_mod (by decide) ?_
      have e1 : ((s : Nat) : Int) + 5 * (0 + (k : Nat)) = ((s + 5 * k : Nat) : Int) := by omega
      rw [e1, show (36 : Int) = ((36 : Nat) : Int) from rfl, fm]
      refine p_ix (sgs_at (Nat.mod_lt _ (by decide))) ?_
      refine p_addS (by rw [len_app, len1, len1, Int.toNat_natCast, repS_len]; omega) ?_
      walk_at "go"
      refine p_addS (by rw [len_app, len_app, len1, len1, Int.toNat_natCast, repS_len, eb, repS_len]; omega) ?_
      rw [eb, Int.toNat_natCast]
      exact ⟨rfl, rfl⟩
    · refine ok_eq1 rfl ⟨p6, hp6, rfl, (List.range n).map fun k => mkN (SGS.cps.toList.getD hd 0) (SGS.cps.toList.getD tl 0) (SGS.cps.toList.getD ((s + 5 * k) % 36) 0) cut (wd - cut), by rw [List.map_map]; rfl, by simp, ?_, fun x hx => ?_⟩
      · refine List.pairwise_map.mpr (List.Pairwise.imp_of_mem (R := fun a b => a < b) (fun {a b} ha hb hab => fun z => ?_) List.pairwise_lt_range)
        exact sgs_ne s hs36 b (by have := List.mem_range.mp hb; omega) a hab (mkN_inj z)
      · obtain ⟨k, _, rfl⟩ := List.mem_map.mp hx
        exact mkN_ok (sgs_lt hd (by omega)) (sgs_sg hd (by omega)) (sgs_sg tl (by omega)) (sgs_sg _ (Nat.mod_lt _ (by decide))) (by omega)
end W77

/-! k77, the plain law: drawn forms, facts, updates, cases, designs. -/
namespace W77
open PySem PySem.Spec L2 DL
def inW (ws : List Str) (x : Str) : Prop := x ∈ ws
structure FmD (ws : List Str) (k : Nat) (f : Fm) : Prop where
  ok : FmOk (inW ws) f
  dep : f.dep ≤ k + 1
  lv : f.lv.length ≤ 2 ^ k
theorem d_form : ∀ (n k : Nat) {p : D} {ws : List Str}, PurseOk p → 0 < ws.length → ws.length < 1000 → k < n → SpP (F__law_form n) p [.lst (ws.map .str), .int (k : Nat)] fun d => ∃ f, d = f.d ∧ FmD ws k f
  | 0, k, p, ws, _, _, _, h => absurd h (by omega)
  | n + 1, k, p, ws, hp, h1, h2, hk => by
    refine ok_body rfl ?_
    show OkS (g__law_form (F__law_form n) [_, _, _, none]) _ _ _ _
    unfold g__law_form
    have leaf : ∀ {p : D}, PurseOk p → SpP F__law_pick p [.lst (ws.map .str)] fun d => ∃ f, d = f.d ∧ FmD ws k f := fun hp => (d_pick hp h1 (by omega)).imp fun d ⟨x, hx, e⟩ => ⟨.w x, e, .w hx, by show 1 ≤ _; omega, by show 1 ≤ _; exact Nat.one_le_two_pow⟩
    walk_at "go"
    refine ⟨fun e => ?_, fun e => ?_⟩
    · walk_at "go"
      refine kP (leaf hp) ?_
      rintro p1 d hp1 hd
      exact ok_eq1 rfl ⟨_, hp1, rfl, hd⟩
    · have k0 : 0 < k := by
        have := of_decide_eq_false e
        omega
      walk_at "go"
      refine kP (d_draw hp (by decide) (by decide)) ?_
      rintro p1 _ hp1 ⟨i, rfl, hi⟩
      walk_at "go"
      refine ⟨fun e => ?_, fun e => ?_⟩
      · walk_at "go"
        refine kP (leaf hp1) ?_
        rintro p2 d hp2 hd
        exact ok_eq1 rfl ⟨_, hp2, rfl, hd⟩
      · walk_at "go"
        refine kP (d_draw hp1 (by decide) (by decide)) ?_
        rintro p2 _ hp2 ⟨j, rfl, hj⟩
        obtain ⟨g, hg, eg⟩ := ix_mem (κ := D.str) (xs := (["|", "&", "-", "^", "-"] : List Str)) (Int.natCast_nonneg j) hj
        have hg2 : g ∈ SGN := by
          simp only [List.mem_cons, List.not_mem_nil, or_false] at hg
          rcases hg with rfl | rfl | rfl | rfl | rfl <;> simp [SGN]
        refine p_ix eg ?_
        have ek : ((k : Nat) : Int) - 1 = ((k - 1 : Nat) : Int) := by omega
        walk_at "go"
        rw [ek]
        refine kP (d_form n (k - 1) hp2 h1 h2 (by omega)) ?_
        rintro p3 _ hp3 ⟨f1, rfl, hf1⟩
        walk_at "go"
        rw [ek]
        refine kP (d_form n (k - 1) hp3 h1 h2 (by omega)) ?_
        rintro p4 _ hp4 ⟨f2, rfl, hf2⟩
        walk_at "go"
        refine ok_eq1 rfl ⟨_, hp4, rfl, .t g f1 f2, rfl, .t hg2 hf1.ok hf2.ok, ?_, ?_⟩
        · have a := hf1.dep
          have b := hf2.dep
          show 1 + max f1.dep f2.dep ≤ _
          omega
        · have a := hf1.lv
          have b := hf2.lv
          show (f1.lv ++ f2.lv).length ≤ _
          rw [List.length_append]
          have : (2 : Nat) ^ k = 2 ^ (k - 1) * 2 := by rw [← Nat.pow_succ]; congr 1; omega
          omega
theorem FmD.v {ws fs : List Str} {g : Bool} {k : Nat} {f : Fm} (h : FmD ws k f) (hk : k ≤ 2) (hw : ∀ x ∈ ws, Wd fs g x) : FmV fs g f := by
  have h1 := h.dep
  have h2 := h.lv
  have : (2 : Nat) ^ k ≤ 2 ^ 2 := Nat.pow_le_pow_right (by decide) hk
  exact ⟨⟨by omega, by omega⟩, h.ok.imp hw⟩
def nn : Str := "none"
def gg : Str := "given"
/-- the words of a case -/
def wds (fs : List Str) (g : Bool) : List Str := fs ++ (if g then [gg] else [])
theorem wds_ok {fs : List Str} {g : Bool} : ∀ x ∈ wds fs g, Wd fs g x := fun x hx => by
  unfold wds at hx
  rcases List.mem_append.mp hx with h | h
  · exact .inl h
  · cases g with
    | true => rw [if_pos rfl] at h; exact .inr (.inr ⟨rfl, List.mem_singleton.mp h⟩)
    | false => rw [if_neg (by decide)] at h; cases h
theorem wds_none {fs : List Str} {g : Bool} : ∀ x ∈ wds fs g ++ [nn], Wd fs g x := fun x hx => by
  rcases List.mem_append.mp hx with h | h
  · exact wds_ok x h
  · exact .inr (.inl (List.mem_singleton.mp h))
theorem wds_len {fs : List Str} {g : Bool} (h : fs.length ≤ 4) : (wds fs g).length ≤ 5 := by
  unfold wds
  rw [List.length_append]
  cases g <;> simp <;> omega
theorem fac_none (g : Bool) (fs : List Str) : FmV fs g (.w "none") := ⟨⟨by show 1 ≤ 10; decide, by show 1 ≤ 200; decide⟩, .w (.inr (.inl rfl))⟩
theorem add_none {ws : List Str} {P : D → Prop} (h : ws.length ≤ 10) (k : P (.lst ((ws ++ [nn]).map .str))) : Ok1 (addD (.lst (ws.map .str)) (.lst [.str "none"])) P := by
  refine p_addL (by simp; omega) ?_
  rw [List.map_append] at k
  exact k
structure FcV (fs : List Str) (g : Bool) (f : Fct) : Prop where
  a : FmV fs g f.1
  b : FmV fs g f.2
theorem d_fact {p : D} {fs : List Str} {g : Bool} (hp : PurseOk p) (h1 : 0 < fs.length) (h4 : fs.length ≤ 4) : SpP F__law_fact p [.lst ((wds fs g).map .str)] fun d => ∃ f, d = fcD f ∧ FcV fs g f := by
  have l1 : 0 < (wds fs g).length := by unfold wds; rw [List.length_append]; omega
  have l2 := wds_len (g := g) h4
  refine ok_body rfl ?_
  show OkS (g__law_fact [_, _]) _ _ _ _
  unfold g__law_fact
  walk_at "go"
  refine kP (d_draw hp (by decide) (by decide)) ?_
  rintro p1 _ hp1 ⟨i, rfl, hi⟩
  walk_at "go"
  refine ⟨fun e => ?_, fun e => ?_⟩
  · walk_at "go"
    refine kP (d_form 30 1 hp1 l1 (by omega) (by decide)) ?_
    rintro p2 _ hp2 ⟨f1, rfl, hf1⟩
    walk_at "go"
    exact ok_eq1 rfl ⟨_, hp2, rfl, (f1, .w "none"), rfl, hf1.v (by decide) wds_ok, fac_none g fs⟩
  · walk_at "go"
    refine kP (d_form 30 1 hp1 l1 (by omega) (by decide)) ?_
    rintro p2 _ hp2 ⟨f1, rfl, hf1⟩
    walk_at "go"
    refine add_none (by omega) ?_
    walk_at "go"
    refine kP (d_form 30 1 hp2 (by simp) (by simp; omega) (by decide)) ?_
    rintro p3 _ hp3 ⟨f2, rfl, hf2⟩
    walk_at "go"
    exact ok_eq1 rfl ⟨_, hp3, rfl, (f1, f2), rfl, hf1.v (by decide) wds_ok, hf2.v (by decide) wds_none⟩
theorem mem_given {fs : List Str} {g : Bool} (hf : ∀ x ∈ fs, FNm x) : (gg ∈ wds fs g) ↔ g = true := by
  unfold wds
  rw [List.mem_append]
  constructor
  · rintro (h | h)
    · exact absurd rfl (hf _ h).ng
    · cases g with
      | true => rfl
      | false => rw [if_neg (by decide)] at h; cases h
  · rintro rfl
    exact .inr (List.mem_singleton.mpr rfl)
theorem d_update {p : D} {fs : List Str} {g : Bool} {s : Str} (hp : PurseOk p) (hf : ∀ x ∈ fs, FNm x) (hs : s ∈ fs) (h4 : fs.length ≤ 4) : SpP F__law_update p [.str s, .lst (fs.map .str), .lst ((wds fs g).map .str)] fun d => ∃ u : Upd, d = upD u ∧ u.1 = s ∧ FmV fs g u.2 := by
  have l0 : 0 < fs.length := List.length_pos_of_mem hs
  have l2 := wds_len (g := g) h4
  refine ok_body rfl ?_
  show OkS (g__law_update [_, _, _, _, none, none, none, none]) _ _ _ _
  unfold g__law_update
  walk_at "go"
  refine kP (d_draw hp (by decide) (by decide)) ?_
  rintro p1 _ hp1 ⟨i, rfl, hi⟩
  walk_at "go"
  refine kP (d_pick hp1 l0 (by omega)) ?_
  rintro p2 _ hp2 ⟨near, hnear, rfl⟩
  walk_at "go"
  have rest : ∀ (more : Str), Wd fs g more → ∀ {ρ : En} {N : En → Prop} {R : D → En → Prop} {B C : En → Prop}, ρ = [some (.ow false p2), some (.sh (.str s)), some (.sh (.lst (fs.map .str))), some (.sh (.lst ((wds fs g).map .str))), some (.sh (.int (i : Nat))), some (.sh (.str near)), some (.sh (.str more)), none] →
      (∀ u : Upd, u.1 = s → FmV fs g u.2 → ∀ p', PurseOk p' → ∀ x7, R (upD u) [some (.ow false p'), some (.sh (.str s)), some (.sh (.lst (fs.map .str))), some (.sh (.lst ((wds fs g).map .str))), some (.sh (.int (i : Nat))), some (.sh (.str near)), some (.sh (.str more)), x7]) →
      OkS ((gSeq (gAsg (fL (fLst (faCons (fTup (faCons (fC (.str "|")) (faCons (fVar 1) (faCons (fVar 6) faNil)))) (faCons (fTup (faCons (fC (.str "-")) (faCons (fVar 1) (faCons (fVar 6) faNil)))) (faCons (fTup (faCons (fC (.str "|")) (faCons (fVar 1) (faCons (fTup (faCons (fC (.str "&")) (faCons (fVar 5) (faCons (fVar 6) faNil)))) faNil)))) (faCons (fC (.str "none")) (faCons (fVar 5) faNil))))))) (pName 7)) (gRet (fTup (faCons (fVar 1) (faCons (fIf (fBt (fOp ltD (fVar 4) (fC (.int (5))))) (fOp ixD (fVar 7) (fVar 4)) (fCall [true, false, false] (F__law_form 30) (faOwn 0 (faCons (fOp addD (fVar 3) (fL (fLst (faCons (fC (.str "none")) faNil)))) (faCons (fC (.int (2))) faNil))))) faNil))))) ρ) N R B C := by
    intro more hmore ρ N R B C eρ k
    subst eρ
    walk_at "go"
    refine ⟨fun e => ?_, fun e => ?_⟩
    · walk_at "go"
      have w1 : FmOk (Wd fs g) (.w s) := .w (.inl hs)
      have w2 : FmOk (Wd fs g) (.w near) := .w (.inl hnear)
      have w3 : FmOk (Wd fs g) (.w more) := .w hmore
      have b1 : ("|" : Str) ∈ SGN := by simp [SGN]
      have b2 : ("-" : Str) ∈ SGN := by simp [SGN]
      have b3 : ("&" : Str) ∈ SGN := by simp [SGN]
      have hl : ((i : Nat) : Int) < ([Fm.t "|" (.w s) (.w more), Fm.t "-" (.w s) (.w more), Fm.t "|" (.w s) (.t "&" (.w near) (.w more)), .w "none", .w near] : List Fm).length := of_decide_eq_true e
      obtain ⟨f, hfm, ef⟩ := ix_mem Fm.d (xs := [Fm.t "|" (.w s) (.w more), Fm.t "-" (.w s) (.w more), Fm.t "|" (.w s) (.t "&" (.w near) (.w more)), .w "none", .w near]) (Int.natCast_nonneg i) hl
      refine p_ix ef ?_
      walk_at "go"
      refine k (s, f) rfl ?_ _ hp2 _
      simp only [List.mem_cons, List.not_mem_nil, or_false] at hfm
      rcases hfm with rfl | rfl | rfl | rfl | rfl
      · exact ⟨⟨by simp [Fm.dep], by simp [Fm.lv]⟩, .t b1 w1 w3⟩
      · exact ⟨⟨by simp [Fm.dep], by simp [Fm.lv]⟩, .t b2 w1 w3⟩
      · exact ⟨⟨by simp [Fm.dep], by simp [Fm.lv]⟩, .t b1 w1 (.t b3 w2 w3)⟩
      · exact fac_none g fs
      · exact ⟨⟨by simp [Fm.dep], by simp [Fm.lv]⟩, w2⟩
    · walk_at "go"
      refine add_none (by omega) ?_
      walk_at "go"
      refine kP (d_form 30 2 hp2 (by simp) (by simp; omega) (by decide)) ?_
      rintro p3 _ hp3 ⟨f, rfl, hf2⟩
      walk_at "go"
      exact k (s, f) rfl (hf2.v (by decide) wds_none) _ hp3 _
  have fin : ∀ u : Upd, u.1 = s → FmV fs g u.2 → ∀ p', PurseOk p' → ∀ x4 x5 x6 x7, Ok1 (outs [true, false, false, false] [some (.ow false p'), some (.sh (.str s)), some (.sh (.lst (fs.map .str))), some (.sh (.lst ((wds fs g).map .str))), x4, x5, x6, x7]) fun os => ∃ p', PurseOk p' ∧ os = p' :: nos [.str s, .lst (fs.map .str), .lst ((wds fs g).map .str)] ∧ ∃ v : Upd, upD u = upD v ∧ v.1 = s ∧ FmV fs g v.2 := fun u h1 h2 p' hp' x4 x5 x6 x7 => ok_eq1 rfl ⟨_, hp', rfl, u, rfl, h1, h2⟩
  refine ⟨fun e => ?_, fun e => ?_⟩
  · walk_at "ok1"
    refine ok_name (.s (.s (.s (.s (.s (.s .z)))))) ?_
    refine rest "given" (.inr (.inr ⟨(mem_given hf).mp (of_decide_eq_true e), rfl⟩)) rfl ?_
    intro u h1 h2 p' hp' x7
    exact fin u h1 h2 p' hp' _ _ _ _
  · walk_at "ok1"
    refine ok_name (.s (.s (.s (.s (.s (.s .z)))))) ?_
    refine rest near (.inl hnear) rfl ?_
    intro u h1 h2 p' hp' x7
    exact fin u h1 h2 p' hp' _ _ _ _
end W77

/-! k77, the plain law: drawn cases, designs. -/
namespace W77
open PySem PySem.Spec L2 DL
theorem mul_given (g : Bool) : mulD (.lst [.str "given"]) (.int (if g then 1 else 0)) = some (.lst ((if g then [gg] else []).map .str)) := by
  cases g <;> rfl
theorem nomem {α : Type} {P : α → Prop} : ∀ x, x ∈ ([] : List α) → P x := fun _ h => (by cases h)
theorem d_case {p : D} {fs ms : List Str} {so mode : Str} (hp : PurseOk p) (hf : ∀ x ∈ fs, FNm x) (fnd : fs.Nodup) (h1 : 0 < fs.length) (h4 : fs.length ≤ 4) (hs : so ∈ SOR) (hm : mode ∈ ms) (m4 : ms.length ≤ 4) :
    SpP F__law_case p [.str so, .str mode, .lst (fs.map .str), .lst (ms.map .str)] fun d => ∃ c, d = csD c ∧ c.m = mode ∧ CsV fs ms so c := by
  have os := sor_ok so hs
  have hm0 : 0 < ms.length := List.length_pos_of_mem hm
  refine ok_body rfl ?_
  show OkS (g__law_case [_, _, _, _, _, none, none, none, none, none]) _ _ _ _
  unfold g__law_case
  walk_at "go"
  refine p_neS os okS_none ?_
  walk_at "go"
  refine ok_eq1 (mul_given _) ?_
  have hw : (fs.map D.str) ++ ((if (!decide (so = "none")) = true then [gg] else []).map D.str) = (wds fs (!decide (so = "none"))).map .str := by unfold wds; rw [List.map_append]
  refine p_addL (by cases (!decide (so = "none")) <;> simp <;> omega) ?_
  rw [hw]
  generalize hg : (!decide (so = ("none" : Str))) = g
  walk_at "go"
  refine kP (d_draw hp (by decide) (by decide)) ?_
  rintro p1 _ hp1 ⟨i, rfl, hi⟩
  obtain ⟨x, hx, ex⟩ := ix_mem D.int (xs := [0, 0, 1, 1, 2]) (Int.natCast_nonneg i) hi
  have hx2 : 0 ≤ x ∧ x ≤ 2 := by
    simp only [List.mem_cons, List.not_mem_nil, or_false] at hx
    omega
  refine p_ix ex ?_
  walk_at "go"
  refine ⟨_, rfl, ⟨by omega, by omega⟩, ?_⟩
  walk_at "go"
  refine ok_lcI (xs := List.range x.toNat) (I := fun done acc ρ => ∃ (p' : D) (qs : List Fct), PurseOk p' ∧ acc = qs.map fcD ∧ qs.length = done.length ∧ (∀ f ∈ qs, FcV fs g f) ∧ ρ = [some (.ow false p'), some (.sh (.str so)), some (.sh (.str mode)), some (.sh (.lst (fs.map .str))), some (.sh (.lst (ms.map .str))), some (.sh (.lst ((wds fs g).map .str))), none, none, none, none])
    ⟨p1, [], hp1, rfl, rfl, nomem, rfl⟩ ?_ ?_
  · rintro done y rest e acc ρ ⟨p', qs, hp', rfl, hl, hq, rfl⟩
    have hdl : done.length < 3 := by
      have := congrArg List.length e
      rw [List.length_range, List.length_append, List.length_cons] at this
      omega
    walk_at "go"
    refine kP (d_fact hp' h1 h4) ?_
    rintro p2 _ hp2 ⟨f, rfl, hfv⟩
    refine ⟨by simp; omega, p2, qs ++ [f], hp2, by rw [List.map_append]; rfl, by rw [List.length_append, List.length_append, hl]; rfl, fun z hz => ?_, rfl⟩
    rcases List.mem_append.mp hz with h | h
    · exact hq z h
    · rw [List.mem_singleton.mp h]; exact hfv
  · rintro acc ρ ⟨p', qs, hp', rfl, hl, hq, rfl⟩
    rw [List.length_range] at hl
    walk_at "go"
    refine ok_lcI (xs := fs) (I := fun done acc ρ => ∃ (p' : D) (us : List Upd), PurseOk p' ∧ acc = us.map upD ∧ (us.map (·.1)).Sublist done ∧ (∀ u ∈ us, FmV fs g u.2) ∧ ρ = [some (.ow false p'), some (.sh (.str so)), some (.sh (.str mode)), some (.sh (.lst (fs.map .str))), some (.sh (.lst (ms.map .str))), some (.sh (.lst ((wds fs g).map .str))), some (.sh (.tup (qs.map fcD))), none, none, none])
      ⟨p', [], hp', rfl, List.Sublist.refl _, nomem, rfl⟩ ?_ ?_
    · rintro done s rest e acc ρ ⟨p2, us, hp2, rfl, hsub, hu, rfl⟩
      have hsf : s ∈ fs := by rw [e]; simp
      have hul : us.length ≤ fs.length := by
        have := hsub.length_le
        rw [List.length_map] at this
        have e2 := congrArg List.length e
        rw [List.length_append] at e2
        omega
      walk_at "go"
      refine kP (d_draw hp2 (by decide) (by decide)) ?_
      rintro p3 _ hp3 ⟨j, rfl, hj⟩
      walk_at "go"
      refine ⟨fun _ => ?_, fun _ => ⟨p3, us, hp3, rfl, hsub.trans (List.sublist_append_left ..), hu, rfl⟩⟩
      walk_at "go"
      refine kP (d_update hp3 hf hsf h4) ?_
      rintro p4 _ hp4 ⟨u, rfl, hus, huv⟩
      refine ⟨by simp; omega, p4, us ++ [u], hp4, by rw [List.map_append]; rfl, ?_, fun z hz => ?_, rfl⟩
      · rw [List.map_append]
        refine hsub.append ?_
        show [u.1].Sublist [s]
        rw [hus]
        exact List.Sublist.refl _
      · rcases List.mem_append.mp hz with h | h
        · exact hu z h
        · rw [List.mem_singleton.mp h]; exact huv
    · rintro acc ρ ⟨p2, us, hp2, rfl, hsub, hu, rfl⟩
      have hmem : ∀ u ∈ us, u.1 ∈ fs := fun u h => hsub.subset (List.mem_map_of_mem h)
      have hups : UpsV fs g us := ⟨hsub.nodup fnd, hmem, hu⟩
      have hul : us.length ≤ 4 := by
        have := hsub.length_le
        rw [List.length_map] at this
        omega
      walk_at "go"
      refine p_eqS os okS_one ?_
      walk_at "go"
      refine ⟨fun e => ?_, fun e => ?_⟩
      · walk_at "go"
        exact ok_eq1 rfl ⟨p2, hp2, rfl, ⟨mode, qs, us, mode⟩, rfl, rfl, hm, hm, fun _ => rfl, by show qs.length ≤ 5; omega, by rw [hg]; exact fun f h => ⟨(hq f h).a, (hq f h).b⟩, by rw [hg]; exact hups, hul⟩
      · have ne := of_decide_eq_false e
        walk_at "go"
        refine kP (d_pick hp2 hm0 (by omega)) ?_
        rintro p3 _ hp3 ⟨af, haf, rfl⟩
        walk_at "go"
        exact ok_eq1 rfl ⟨p3, hp3, rfl, ⟨mode, qs, us, af⟩, rfl, rfl, hm, haf, fun z => absurd z ne, by show qs.length ≤ 5; omega, by rw [hg]; exact fun f h => ⟨(hq f h).a, (hq f h).b⟩, by rw [hg]; exact hups, hul⟩
structure MnX (m : Mn) : Prop extends MnV m where
  f3 : m.fl.length ≤ 3
  c2 : 2 ≤ m.cl.length
  c5 : m.cl.length ≤ 5
theorem add_noneF {ws : List Str} {P : D → Prop} (h : ws.length ≤ 10) (k : P (.lst ((ws ++ [nn]).map .str))) : Ok1 (addD (.lst (ws.map .str)) (.lst [.str "none"])) P := add_none h k
theorem Wd_none {fs : List Str} {g : Bool} : ∀ x ∈ fs ++ [nn], Wd fs g x := fun x hx => (List.mem_append.mp hx).elim .inl fun h => .inr (.inl (List.mem_singleton.mp h))
theorem d_menu {p : D} (hp : PurseOk p) : SpP F__law_menu p [] fun d => ∃ m, d = mnD m ∧ MnX m := by
  refine ok_body rfl ?_
  show OkS (g__law_menu [_, none, none, none, none, none, none, none, none]) _ _ _ _
  unfold g__law_menu
  walk_at "go"
  refine kP (d_draw hp (by decide) (by decide)) ?_
  rintro p1 _ hp1 ⟨i, rfl, hi⟩
  have ei : (1 : Int) + (i : Nat) = ((1 + i : Nat) : Int) := by omega
  walk_at "go"
  rw [ei]
  refine kP (d_names hp1 (by omega)) ?_
  rintro p2 _ hp2 ⟨fs, rfl, hfs⟩
  walk_at "go"
  refine kP (d_draw hp2 (by decide) (by decide)) ?_
  rintro p3 _ hp3 ⟨j, rfl, hj⟩
  have ej : (1 : Int) + (j : Nat) = ((1 + j : Nat) : Int) := by omega
  walk_at "go"
  rw [ej]
  refine kP (d_names hp3 (by omega)) ?_
  rintro p4 _ hp4 ⟨ms, rfl, hms⟩
  have hfl := hfs.len
  have hml := hms.len
  walk_at "go"
  refine kP (d_draw hp4 (by decide) (by decide)) ?_
  rintro p5 _ hp5 ⟨k, rfl, hk⟩
  have ek : (2 : Int) + (k : Nat) = ((2 + k : Nat) : Int) := by omega
  walk_at "go"
  rw [ek]
  refine kP (d_names hp5 (by omega)) ?_
  rintro p6 _ hp6 ⟨ns, rfl, hns⟩
  have hnl := hns.len
  walk_at "go"
  refine ok_forI (I := fun done ρ => ∃ (p' : D) (cs : List Cl) (x4 x5 x6 : Option Sl), PurseOk p' ∧ cs.map (·.nm) = done ∧ (∀ c ∈ cs, ClV fs ms c) ∧ ρ = [some (.ow false p'), some (.sh (.lst (fs.map .str))), some (.sh (.lst (ms.map .str))), some (.ow true (.lst (cs.map clD))), x4, x5, x6, none, none])
    ⟨p6, [], _, _, _, hp6, rfl, nomem, rfl⟩ ?_ ?_
  · rintro done nm rest e ρ ⟨p', cs, x4, x5, x6, hp', hcd, hcs, rfl⟩
    have hnm : nm ∈ ns := by rw [e]; simp
    have hcl : cs.length < 6 := by
      have := congrArg List.length hcd
      rw [List.length_map] at this
      have e2 := congrArg List.length e
      rw [List.length_append, List.length_cons] at e2
      omega
    walk_at "go"
    refine kP (d_pick (κ := D.str) (xs := (["one", "one", "many", "none"] : List Str)) hp' (by decide) (by decide)) ?_
    rintro p2 _ hp2 ⟨so, hso, rfl⟩
    have hso2 : so ∈ SOR := by
      simp only [List.mem_cons, List.not_mem_nil, or_false] at hso
      rcases hso with rfl | rfl | rfl | rfl <;> simp [SOR]
    walk_at "go"
    refine ok_lcI (xs := ms) (I := fun dn acc ρ => ∃ (p' : D) (ks : List Cs), PurseOk p' ∧ acc = ks.map csD ∧ (ks.map (·.m)).Sublist dn ∧ (∀ c ∈ ks, CsV fs ms so c) ∧ ρ = [some (.ow false p'), some (.sh (.lst (fs.map .str))), some (.sh (.lst (ms.map .str))), some (.ow true (.lst (cs.map clD))), some (.sh (.str nm)), some (.sh (.str so)), x6, none, none])
      ⟨p2, [], hp2, rfl, List.Sublist.refl _, nomem, rfl⟩ ?_ ?_
    · rintro dn md rs e2 acc ρ ⟨p', ks, hp', rfl, hsub, hk, rfl⟩
      have hmd : md ∈ ms := by rw [e2]; simp
      have hkl : ks.length ≤ ms.length := by
        have := hsub.length_le
        rw [List.length_map] at this
        have e3 := congrArg List.length e2
        rw [List.length_append] at e3
        omega
      walk_at "go"
      refine kP (d_draw hp' (by decide) (by decide)) ?_
      rintro p3 _ hp3 ⟨j, rfl, hj⟩
      walk_at "go"
      refine ⟨fun _ => ?_, fun _ => ⟨p3, ks, hp3, rfl, hsub.trans (List.sublist_append_left ..), hk, rfl⟩⟩
      walk_at "go"
      refine kP (d_case hp3 hfs.ok hfs.nd (by omega) (by omega) hso2 hmd (by omega)) ?_
      rintro p4 _ hp4 ⟨c, rfl, hcm, hcv⟩
      refine ⟨by simp; omega, p4, ks ++ [c], hp4, by rw [List.map_append]; rfl, ?_, fun z hz => ?_, rfl⟩
      · rw [List.map_append]
        refine hsub.append ?_
        show [c.m].Sublist [md]
        rw [hcm]
        exact List.Sublist.refl _
      · rcases List.mem_append.mp hz with h | h
        · exact hk z h
        · rw [List.mem_singleton.mp h]; exact hcv
    · rintro acc ρ ⟨p3, ks, hp3, rfl, hsub, hk, rfl⟩
      walk_at "go"
      · refine ⟨p3, cs ++ [⟨nm, so, ks⟩], _, _, _, hp3, by rw [List.map_append, hcd]; rfl, fun z hz => ?_, by rw [List.map_append]; rfl⟩
        rcases List.mem_append.mp hz with h | h
        · exact hcs z h
        · rw [List.mem_singleton.mp h]
          have hkl : ks.length ≤ 4 := by
            have := hsub.length_le
            rw [List.length_map] at this
            omega
          exact ⟨(hns.ok nm hnm).nm, hso2, hk, hsub.nodup hms.nd, hkl⟩
      · simp; omega
  · rintro ρ ⟨p', cs, x4, x5, x6, hp', hcd, hcs, rfl⟩
    have hcl := congrArg List.length hcd
    rw [List.length_map] at hcl
    walk_at "go"
    refine kP (d_draw hp' (by decide) (by decide)) ?_
    rintro q1 _ hq1 ⟨v, rfl, hv⟩
    walk_at "go"
    refine kP (d_names hq1 (by omega)) ?_
    rintro q2 _ hq2 ⟨vn, rfl, hvn⟩
    have hvl := hvn.len
    walk_at "go"
    refine ok_forI (I := fun done ρ => ∃ (p' : D) (vs : List Vw) (x4 : Option Sl), PurseOk p' ∧ vs.map (·.nm) = done ∧ (∀ c ∈ vs, VwV fs ms c) ∧ ρ = [some (.ow false p'), some (.sh (.lst (fs.map .str))), some (.sh (.lst (ms.map .str))), some (.ow true (.lst (cs.map clD))), x4, x5, x6, some (.ow true (.lst (vs.map vwD))), none])
      ⟨q2, [], _, hq2, rfl, nomem, rfl⟩ ?_ ?_
    · rintro done nm rest e ρ ⟨p', vs, x4, hp', hvd, hvs, rfl⟩
      have hnm : nm ∈ vn := by rw [e]; simp
      have hvl2 : vs.length < 6 := by
        have := congrArg List.length hvd
        rw [List.length_map] at this
        have e2 := congrArg List.length e
        rw [List.length_append, List.length_cons] at e2
        omega
      walk_at "go"
      refine ok_lcI (xs := ms) (I := fun dn acc ρ => ∃ (p' : D) (ks : List Fm), PurseOk p' ∧ acc = ks.map Fm.d ∧ ks.length = dn.length ∧ (∀ c ∈ ks, FmV fs false c) ∧ ρ = [some (.ow false p'), some (.sh (.lst (fs.map .str))), some (.sh (.lst (ms.map .str))), some (.ow true (.lst (cs.map clD))), some (.sh (.str nm)), x5, x6, some (.ow true (.lst (vs.map vwD))), none])
        ⟨p', [], hp', rfl, rfl, nomem, rfl⟩ ?_ ?_
      · rintro dn md rs e2 acc ρ ⟨p', ks, hp', rfl, hkl, hk, rfl⟩
        have hkl2 : ks.length ≤ ms.length := by
          have e3 := congrArg List.length e2
          rw [List.length_append] at e3
          omega
        walk_at "go"
        refine add_none (by omega) ?_
        walk_at "go"
        refine kP (d_form 30 1 hp' (by simp) (by simp; omega) (by decide)) ?_
        rintro p3 _ hp3 ⟨f, rfl, hf⟩
        refine ⟨by simp; omega, p3, ks ++ [f], hp3, by rw [List.map_append]; rfl, by rw [List.length_append, List.length_append, hkl]; rfl, fun z hz => ?_, rfl⟩
        rcases List.mem_append.mp hz with h | h
        · exact hk z h
        · rw [List.mem_singleton.mp h]; exact hf.v (by decide) Wd_none
      · rintro acc ρ ⟨p3, ks, hp3, rfl, hkl, hk, rfl⟩
        walk_at "go"
        · refine ⟨p3, vs ++ [⟨nm, ks⟩], _, hp3, by rw [List.map_append, hvd]; rfl, fun z hz => ?_, by rw [List.map_append]; rfl⟩
          rcases List.mem_append.mp hz with h | h
          · exact hvs z h
          · rw [List.mem_singleton.mp h]
            exact ⟨(hvn.ok nm hnm).nm, hkl, hk⟩
        · simp; omega
    · rintro ρ ⟨p', vs, x4, hp', hvd, hvs, rfl⟩
      have hvl2 := congrArg List.length hvd
      rw [List.length_map] at hvl2
      walk_at "go"
      refine ok_eq1 rfl ⟨p', hp', rfl, ⟨fs, ms, cs, vs⟩, rfl, ?_⟩
      exact { f := hfs.ok, fn := hfs.nd, f1 := by show 1 ≤ fs.length; omega, f4 := by show fs.length ≤ 4; omega, g := fun x hx => (hms.ok x hx).nm, gn := hms.nd, g1 := by show 1 ≤ ms.length; omega, g4 := by show ms.length ≤ 4; omega, c := hcs, cn := by rw [hcd]; exact hns.nd, c8 := by show cs.length ≤ 8; omega, v := hvs, vn := by rw [hvd]; exact hvn.nd, v4 := by show vs.length ≤ 4; omega, f3 := by show fs.length ≤ 3; omega, c2 := by show 2 ≤ cs.length; omega, c5 := by show cs.length ≤ 5; omega }
end W77

/-! k77, the plain law: the second design. -/
namespace W77
open PySem PySem.Spec L2 DL
def W3 : List Cl := [⟨"w1", "one", []⟩, ⟨"w2", "many", []⟩, ⟨"w3", "none", []⟩]
theorem clV_nil {fs ms : List Str} {nm so : Str} (h1 : Nm nm) (h2 : so ∈ SOR) : ClV fs ms ⟨nm, so, []⟩ := ⟨h1, h2, nomem, List.nodup_nil, Nat.zero_le _⟩
def U4 : List Str := ["u1", "u2", "u3", "u4"]
theorem U4_ok : ∀ x ∈ U4, FNm x := fun x hx => fn_b (List.all_eq_true.mp (by decide +kernel : U4.all fnB = true) x hx)
theorem U4_nd : U4.Nodup := by decide +kernel
def W3n : List Str := ["w1", "w2", "w3"]
theorem W3_ok : ∀ c ∈ W3, Nm c.nm ∧ c.so ∈ SOR := fun c hc => by
  have h := List.all_eq_true.mp (by decide +kernel : W3.all (fun c => nmB c.nm && decide (c.so ∈ SOR)) = true) c hc
  rw [Bool.and_eq_true] at h
  exact ⟨nm_b h.1, of_decide_eq_true h.2⟩
def VS : List Str := ["seen", "v2"]
theorem VS_ok : ∀ x ∈ VS, Nm x := fun x hx => nm_b (List.all_eq_true.mp (by decide +kernel : VS.all nmB = true) x hx)
theorem VS_nd : VS.Nodup := by decide +kernel
theorem okN_txs {xs : List Str} (h : ∀ x ∈ xs, okS x) : OkN 1 (.lst (xs.map .str)) := okN_lst (okN_map fun x hx => okN_str (h x hx))
/-- some u that is none of four names at most -/
theorem u_left {fl : List Str} (h : fl.length ≤ 3) : (U4.filter fun x => !decide (x ∈ fl)) ≠ [] := by
  intro e
  have h1 : ∀ x ∈ U4, x ∈ fl := fun x hx => by
    by_cases hm : x ∈ fl
    · exact hm
    · have : x ∈ U4.filter fun x => !decide (x ∈ fl) := List.mem_filter.mpr ⟨hx, by simp [hm]⟩
      rw [e] at this; cases this
  have := nd_len U4_nd h1
  have h4 : U4.length = 4 := rfl
  omega
structure MnY (m : Mn) : Prop extends MnV m where
  m1 : m.md.length = 1
  f2 : m.fl.length ≤ 2
abbrev mnL (m : Mn) : List D := [txs m.fl, txs m.md, .tup (m.cl.map clD), .tup (m.vw.map vwD)]
theorem d_second {p : D} {one : Mn} (hp : PurseOk p) (h : MnX one) : SpP F__law_second p [mnD one] fun d => ∃ m, d = mnD m ∧ MnY m := by
  have hf3 := h.f3
  have hc5 := h.c5
  refine ok_body rfl ?_
  show OkS (g__law_second [_, some (.sh (.tup (mnL one))), none, none, none, none, none, none, none, none, none, none, none, none]) _ _ _ _
  unfold g__law_second
  walk_at "go"
  refine kP (d_draw hp (by decide) (by decide)) ?_
  rintro p1 _ hp1 ⟨i, rfl, hi⟩
  have ei : (1 : Int) + (i : Nat) = ((1 + i : Nat) : Int) := by omega
  walk_at "go"
  rw [ei]
  refine kP (d_names hp1 (by omega)) ?_
  rintro p2 _ hp2 ⟨ns, rfl, hns⟩
  have hnl := hns.len
  walk_at "go"
  refine ok_lcP (fun x => !decide (x ∈ one.fl)) D.str ?_ (fun x hx => ?_) ?_
  · omega
  · walk_at "go"
    refine ⟨rfl, fun _ => ?_, fun _ => rfl⟩
    walk_at "go"
    exact ⟨rfl, rfl⟩
  have hxs : ∀ x ∈ ns.filter fun x => !decide (x ∈ one.fl), okS x := fun x hx => (hns.ok x (List.mem_filter.mp hx).1).nm.okS
  have hxf : ∀ x ∈ ns.filter fun x => !decide (x ∈ one.fl), FNm x := fun x hx => hns.ok x (List.mem_filter.mp hx).1
  have hxl : (ns.filter fun x => !decide (x ∈ one.fl)).length ≤ 2 := by
    have := List.length_filter_le (fun x => !decide (x ∈ one.fl)) ns
    omega
  have hxn : (ns.filter fun x => !decide (x ∈ one.fl)).Nodup := hns.nd.filter _
  generalize hX : (ns.filter fun x => !decide (x ∈ one.fl)) = X at hxs hxf hxl hxn
  walk_at "go"
  refine ok_eq1 (eq_nilL (okN_txs hxs) (by decide)) ?_
  walk_at "go"
  have rest : ∀ (fs : List Str), (∀ x ∈ fs, FNm x) → fs.Nodup → 0 < fs.length → fs.length ≤ 2 → ∀ {N : En → Prop} {R : D → En → Prop} {B C : En → Prop},
      (∀ p' m, PurseOk p' → MnY m → ∀ x1 x2 x3 x4 x5 x6 x7 x8 x9 x10 x11 x12 x13, R (mnD m) [some (.ow false p'), some (.sh x1), x2, x3, x4, x5, x6, x7, x8, x9, x10, x11, x12, x13]) →
      OkS ((gSeq (gPar [4, 5, 6] (fvVal (fOp ixD (fCall [true, false] F__law_names (faOwn 0 (faCons (fC (.int (1))) faNil))) (fC (.int (0)))) (fvNew (fLst faNil) (fvVal (fL (fLc [3] (fIt (fOp ixD (fVar 1) (fC (.int (2))))) (pName 3) fYes (fOp ixD (fVar 3) (fC (.int (0)))))) fvNil)))) (gSeq (gAsg (fL (fLc [3] (fIt (fL (fLst (faCons (fTup (faCons (fC (.str "w1")) (faCons (fC (.str "one")) (faCons (fTup faNil) faNil)))) (faCons (fTup (faCons (fC (.str "w2")) (faCons (fC (.str "many")) (faCons (fTup faNil) faNil)))) (faCons (fTup (faCons (fC (.str "w3")) (faCons (fC (.str "none")) (faCons (fTup faNil) faNil)))) faNil)))))) (pName 3) (fBt (fOp ninD (fOp ixD (fVar 3) (fC (.int (0)))) (fVar 6))) (fVar 3))) (pName 7)) (gSeq (gFor (fIt (fOp addD (fL (fList (fOp ixD (fVar 1) (fC (.int (2)))))) (fVar 7))) (pName 3) (gIf (ftAnd (fBt (fOp eqD (fCall [true, false] F__law_draw (faOwn 0 (faCons (fC (.int (2))) faNil))) (fC (.int (0))))) (fBt (fOp ninD (fOp ixD (fVar 3) (fC (.int (0)))) (fL (fLcB [12] 5 (pName 12) fYes (fOp ixD (fVar 12) (fC (.int (0))))))))) (gSeq (gAsg (fIf (fBt (fOp gtD (fCall [true, false] F__law_draw (faOwn 0 (faCons (fC (.int (6))) faNil))) (fC (.int (0))))) (fL (fLst (faCons (fCall [true, false, false, false, false] F__law_case (faOwn 0 (faCons (fOp ixD (fVar 3) (fC (.int (1)))) (faCons (fVar 4) (faCons (fVar 2) (faCons (fL (fLst (faCons (fVar 4) faNil))) faNil)))))) faNil))) (fL (fLst faNil))) (pName 8)) (gApp 5 (fTup (faCons (fOp ixD (fVar 3) (fC (.int (0)))) (faCons (fOp ixD (fVar 3) (fC (.int (1)))) (faCons (fCB tupD (faCons (fVar 8) faNil)) faNil)))))) gNext)) (gSeq (gAsg (fL (fLc [13] (fIt (fOp ixD (fVar 1) (fC (.int (3))))) (pName 13) fYes (fOp ixD (fVar 13) (fC (.int (0)))))) (pName 9)) (gSeq (gAsg (fL (fLc [11] (fIt (fL (fLst (faCons (fC (.str "seen")) (faCons (fC (.str "v2")) faNil))))) (pName 11) (fBt (fOp ninD (fVar 11) (fVar 9))) (fTup (faCons (fVar 11) (faCons (fTup (faCons (fCall [true, false, false] (F__law_form 30) (faOwn 0 (faCons (fVar 2) (faCons (fC (.int (1))) faNil)))) faNil)) faNil))))) (pName 10)) (gRet (fTup (faCons (fCB tupD (faCons (fVar 2) faNil)) (faCons (fTup (faCons (fVar 4) faNil)) (faCons (fCB tupD (faCons (fVar 5) faNil)) (faCons (fCB tupD (faCons (fAlt (fSl cutD (fVar 10) fNoPart (fPart (fCall [true, false] F__law_draw (faOwn 0 (faCons (fC (.int (3))) faNil))))) (fL (fSlL (fVar 10) fNoPart (fPart (fCall [true, false] F__law_draw (faOwn 0 (faCons (fC (.int (3))) faNil))))))) faNil)) faNil)))))))))))
        [some (.ow false p2), some (.sh (.tup (mnL one))), some (.sh (.lst (fs.map .str))), none, none, none, none, none, none, none, none, none, none, none]) N R B C := by
    intro fs hf hfn hf0 hf2 N R B C k
    walk_at "go"
    refine kP (d_names (n := 1) hp2 (by decide)) ?_
    rintro p3 _ hp3 ⟨md, rfl, hmd⟩
    obtain ⟨mode, rfl⟩ : ∃ m, md = [m] := by
      have := hmd.len
      match md, this with
      | [m], _ => exact ⟨m, rfl⟩
    have hmn : Nm mode := (hmd.ok mode (List.mem_cons_self ..)).nm
    walk_at "go"
    refine ok_lcM (fun c => .str c.nm) ?_ (fun c hc => ?_) ?_
    · omega
    · walk_at "go"
      exact ⟨rfl, rfl⟩
    rw [show (one.cl.map fun c => D.str c.nm) = (one.cl.map (·.nm)).map .str by rw [List.map_map]; rfl]
    walk_at "go"
    refine ok_lcP (ι := clD) (xs := W3) (fun c => !decide (c.nm ∈ one.cl.map (·.nm))) clD ?_ (fun c hc => ?_) ?_
    · decide
    · walk_at "go"
      refine ⟨rfl, fun _ => ?_, fun _ => rfl⟩
      walk_at "go"
      exact ⟨rfl, rfl⟩
    have hF : ∀ c ∈ W3.filter (fun c => !decide (c.nm ∈ one.cl.map (·.nm))), Nm c.nm ∧ c.so ∈ SOR := fun c hc => W3_ok c (List.mem_filter.mp hc).1
    have hFl : (W3.filter (fun c => !decide (c.nm ∈ one.cl.map (·.nm)))).length ≤ 3 := List.length_filter_le _ W3
    generalize hFr : W3.filter (fun c => !decide (c.nm ∈ one.cl.map (·.nm))) = Fr at hF hFl
    walk_at "go"
    refine p_addL (by simp; omega) ?_
    rw [← List.map_append]
    have hall : ∀ c ∈ one.cl ++ Fr, Nm c.nm ∧ c.so ∈ SOR := fun c hc => (List.mem_append.mp hc).elim (fun z => ⟨(h.c c z).nm, (h.c c z).so⟩) (hF c)
    have hal : (one.cl ++ Fr).length ≤ 8 := by rw [List.length_append]; omega
    walk_at "go"
    refine ok_forI (I := fun done ρ => ∃ (p' : D) (cs : List Cl) (x3 x8 : Option Sl), PurseOk p' ∧ (cs.map (·.nm)).Nodup ∧ cs.length ≤ done.length ∧ (∀ c ∈ cs, ClV fs [mode] c) ∧ ρ = [some (.ow false p'), some (.sh (.tup (mnL one))), some (.sh (.lst (fs.map .str))), x3, some (.sh (.str mode)), some (.ow true (.lst (cs.map clD))), some (.sh (.lst ((one.cl.map (·.nm)).map .str))), some (.sh (.lst (Fr.map clD))), x8, none, none, none, none, none])
      ⟨p3, [], _, _, hp3, List.nodup_nil, Nat.le_refl _, nomem, rfl⟩ ?_ ?_
    · rintro done c rest e ρ ⟨p', cs, x3, x8, hp', hnd, hcl, hcs, rfl⟩
      obtain ⟨hcn, hcso⟩ := hall c (by rw [e]; simp)
      have hdl : done.length < 8 := by
        have := congrArg List.length e
        rw [List.length_append (as := done), List.length_cons] at this
        omega
      walk_at "go"
      refine kP (d_draw hp' (by decide) (by decide)) ?_
      rintro p4 _ hp4 ⟨j, rfl, hj⟩
      have skip : ∀ {x3 x8 : Option Sl}, ∃ (p' : D) (cs' : List Cl) (y3 y8 : Option Sl), PurseOk p' ∧ (cs'.map (·.nm)).Nodup ∧ cs'.length ≤ (done ++ [c]).length ∧ (∀ c ∈ cs', ClV fs [mode] c) ∧ [some (.ow false p4), some (.sh (.tup (mnL one))), some (.sh (.lst (fs.map .str))), x3, some (.sh (.str mode)), some (.ow true (.lst (cs.map clD))), some (.sh (.lst ((one.cl.map (·.nm)).map .str))), some (.sh (.lst (Fr.map clD))), x8, none, none, none, none, none] = [some (.ow false p'), some (.sh (.tup (mnL one))), some (.sh (.lst (fs.map .str))), y3, some (.sh (.str mode)), some (.ow true (.lst (cs'.map clD))), some (.sh (.lst ((one.cl.map (·.nm)).map .str))), some (.sh (.lst (Fr.map clD))), y8, none, none, none, none, none] := ⟨p4, cs, _, _, hp4, hnd, by rw [List.length_append]; omega, hcs, rfl⟩
      walk_at "go"
      refine ⟨fun _ => ?_, fun _ => br_f (ok_next skip)⟩
      walk_at "go"
      refine ok_lcM (fun c => .str c.nm) ?_ (fun c hc => ?_) ?_
      · omega
      · walk_at "go"
        exact ⟨rfl, rfl⟩
      refine ⟨rfl, _, .s (.s (.s (.s (.s .z)))), ?_⟩
      rw [show (cs.map fun c => D.str c.nm) = (cs.map (·.nm)).map .str by rw [List.map_map]; rfl]
      walk_at "go"
      refine ⟨fun en => ?_, fun _ => ok_next skip⟩
      have hnew : c.nm ∉ cs.map (·.nm) := by simpa using en
      have app : ∀ (ks : List Cs), ClV fs [mode] ⟨c.nm, c.so, ks⟩ → ((cs ++ [(⟨c.nm, c.so, ks⟩ : Cl)]).map (·.nm)).Nodup ∧ (cs ++ [(⟨c.nm, c.so, ks⟩ : Cl)]).length ≤ (done ++ [c]).length ∧ ∀ c' ∈ cs ++ [(⟨c.nm, c.so, ks⟩ : Cl)], ClV fs [mode] c' := fun ks hk => by
        refine ⟨?_, by simp; omega, fun z hz => ?_⟩
        · rw [List.map_append]
          refine List.nodup_append.mpr ⟨hnd, by simp, fun a ha b hb => ?_⟩
          rw [List.mem_singleton.mp hb]
          rintro rfl
          exact hnew ha
        · rcases List.mem_append.mp hz with h | h
          · exact hcs z h
          · rw [List.mem_singleton.mp h]; exact hk
      walk_at "go"
      refine kP (d_draw hp4 (by decide) (by decide)) ?_
      rintro p5 _ hp5 ⟨j2, rfl, hj2⟩
      walk_at "go"
      refine ⟨fun _ => ?_, fun _ => ?_⟩
      · walk_at "go"
        refine kP (d_case (ms := [mode]) hp5 hf hfn hf0 (by omega) hcso (List.mem_cons_self ..) (by simp)) ?_
        rintro p6 _ hp6 ⟨k, rfl, hkm, hkv⟩
        obtain ⟨a1, a2, a3⟩ := app [k] ⟨hcn, hcso, fun x hx => by rw [List.mem_singleton.mp hx]; exact hkv, by simp, by simp⟩
        walk_at "go"
        · exact ⟨p6, _, _, _, hp6, a1, a2, a3, by rw [List.map_append]; rfl⟩
        · simp; omega
      · obtain ⟨a1, a2, a3⟩ := app [] (clV_nil hcn hcso)
        walk_at "go"
        · exact ⟨p5, _, _, _, hp5, a1, a2, a3, by rw [List.map_append]; rfl⟩
        · simp; omega
    · rintro ρ ⟨p', cs, x3, x8, hp', hnd, hcl, hcs, rfl⟩
      have hv4 := h.v4
      walk_at "go"
      refine ok_lcM (fun c => .str c.nm) ?_ (fun c hc => ?_) ?_
      · omega
      · walk_at "go"
        exact ⟨rfl, rfl⟩
      rw [show (one.vw.map fun c => D.str c.nm) = (one.vw.map (·.nm)).map .str by rw [List.map_map]; rfl]
      walk_at "go"
      refine ok_lcI (ι := D.str) (xs := VS) (I := fun done acc ρ => ∃ (p' : D) (vs : List Vw), PurseOk p' ∧ acc = vs.map vwD ∧ (vs.map (·.nm)).Sublist done ∧ (∀ v ∈ vs, VwV fs [mode] v) ∧ ρ = [some (.ow false p'), some (.sh (.tup (mnL one))), some (.sh (.lst (fs.map .str))), x3, some (.sh (.str mode)), some (.ow true (.lst (cs.map clD))), some (.sh (.lst ((one.cl.map (·.nm)).map .str))), some (.sh (.lst (Fr.map clD))), x8, some (.sh (.lst ((one.vw.map (·.nm)).map .str))), none, none, none, none])
        ⟨p', [], hp', rfl, List.Sublist.refl _, nomem, rfl⟩ ?_ ?_
      · rintro done nm rest e acc ρ ⟨p2, vs, hp2, rfl, hsub, hv, rfl⟩
        have hnm := VS_ok nm (by rw [e]; simp)
        have hvl : vs.length ≤ 2 := by
          have := hsub.length_le
          rw [List.length_map] at this
          have e3 := congrArg List.length e
          rw [List.length_append] at e3
          have : VS.length = 2 := rfl
          omega
        walk_at "go"
        refine ⟨fun _ => ?_, fun _ => ⟨p2, vs, hp2, rfl, hsub.trans (List.sublist_append_left ..), hv, rfl⟩⟩
        walk_at "go"
        refine kP (d_form 30 1 hp2 hf0 (by omega) (by decide)) ?_
        rintro p3 _ hp3 ⟨f, rfl, hfd⟩
        walk_at "go"
        refine ⟨by simp; omega, p3, vs ++ [⟨nm, [f]⟩], hp3, by rw [List.map_append]; rfl, ?_, fun z hz => ?_, rfl⟩
        · rw [List.map_append]
          exact hsub.append (List.Sublist.refl _)
        · rcases List.mem_append.mp hz with h | h
          · exact hv z h
          · rw [List.mem_singleton.mp h]
            exact ⟨hnm, rfl, fun g hg => by rw [List.mem_singleton.mp hg]; exact hfd.v (by decide) fun x hx => .inl hx⟩
      · rintro acc ρ ⟨p2, vs, hp2, rfl, hsub, hv, rfl⟩
        walk_at "go"
        refine kP (d_draw hp2 (by decide) (by decide)) ?_
        rintro p3 _ hp3 ⟨j, rfl, hj⟩
        refine ⟨_, rfl, .inl ⟨_, rfl, ?_⟩⟩
        rw [cutL_to, ← List.map_take]
        walk_at "go"
        have hvl : vs.length ≤ 2 := by
          have := hsub.length_le
          rw [List.length_map] at this
          exact this
        refine k p3 ⟨fs, [mode], cs, vs.take j⟩ hp3 ?_ _ _ _ _ _ _ _ _ _ _ _ _ _
        exact { f := hf, fn := hfn, f1 := hf0, f4 := by show fs.length ≤ 4; omega, g := fun x hx => by rw [List.mem_singleton.mp hx]; exact hmn, gn := by simp, g1 := Nat.le_refl 1, g4 := by show 1 ≤ 4; decide, c := hcs, cn := hnd, c8 := by show cs.length ≤ 8; omega, v := fun v hv2 => hv v (List.mem_of_mem_take hv2), vn := by show ((vs.take j).map _).Nodup; rw [List.map_take]; exact (hsub.nodup VS_nd).sublist (List.take_sublist ..), v4 := by show (vs.take j).length ≤ 4; rw [List.length_take]; omega, m1 := rfl, f2 := hf2 }
  refine ⟨fun e => ?_, fun e => ?_⟩
  · walk_at "go"
    refine ok_lcP (ι := D.str) (xs := U4) (fun x => !decide (x ∈ one.fl)) D.str ?_ (fun x hx => ?_) ?_
    · decide
    · walk_at "go"
      refine ⟨rfl, fun _ => ?_, fun _ => rfl⟩
      walk_at "go"
      exact ⟨rfl, rfl⟩
    have hne := u_left hf3
    have hU : ∀ x ∈ U4.filter fun x => !decide (x ∈ one.fl), FNm x := fun x hx => U4_ok x (List.mem_filter.mp hx).1
    have hUn := U4_nd.filter fun x => !decide (x ∈ one.fl)
    generalize hY : (U4.filter fun x => !decide (x ∈ one.fl)) = Y at hne hU hUn
    walk_at "ok1"
    walk_at "ok1"
    walk_at "ok1"
    refine ⟨_, rfl, .inl ⟨_, rfl, ?_⟩⟩
    rw [show (1 : Int) = ((1 : Nat) : Int) from rfl, cutL_to, ← List.map_take]
    refine ok_name (.s (.s .z)) ?_
    refine rest (Y.take 1) (fun x hx => hU x (List.mem_of_mem_take hx)) (hUn.sublist (List.take_sublist ..)) ?_ ?_ ?_
    · cases Y with
      | nil => exact absurd rfl hne
      | cons a b => simp
    · rw [List.length_take]; omega
    · intro p' m hp' hm x1 x2 x3 x4 x5 x6 x7 x8 x9 x10 x11 x12 x13
      exact ok_eq1 rfl ⟨p', hp', rfl, m, rfl, hm⟩
  · refine ok_next ?_
    refine rest X hxf hxn ?_ hxl ?_
    · cases X with
      | nil => cases e
      | cons a b => simp
    · intro p' m hp' hm x1 x2 x3 x4 x5 x6 x7 x8 x9 x10 x11 x12 x13
      exact ok_eq1 rfl ⟨p', hp', rfl, m, rfl, hm⟩
end W77

/-! k77, the plain law: spoilt designs. -/
namespace W77
open PySem PySem.Spec L2 DL
theorem SGN_ok : ∀ g ∈ SGN, okS g := fun g hg => (SGN_tx g hg).ok
theorem okN_fm : ∀ {f : Fm}, FmOk Nm f → OkN f.dep f.d
  | .w s, .w k => (okN_str k.okS).mono (Nat.zero_le _)
  | .t g a b, .t kg ka kb => by
    have h : ∀ d ∈ [D.str g, a.d, b.d], OkN (max a.dep b.dep) d := by
      intro d hd
      simp only [List.mem_cons, List.not_mem_nil, or_false] at hd
      rcases hd with rfl | rfl | rfl
      · exact (okN_str (SGN_ok g kg)).mono (Nat.zero_le _)
      · exact (okN_fm ka).mono (Nat.le_max_left ..)
      · exact (okN_fm kb).mono (Nat.le_max_right ..)
    have := okN_tup h
    show OkN (1 + max a.dep b.dep) (.tup [D.str g, a.d, b.d])
    rw [Nat.add_comm]
    exact this
theorem FmV.okN {fs : List Str} {g : Bool} {f : Fm} (hf : ∀ x ∈ fs, FNm x) (h : FmV fs g f) : OkN 10 f.d := (okN_fm (h.ok.imp fun x => Wd.nm hf)).mono h.dep
theorem okN_2 {n : Nat} {a b : D} (ha : OkN n a) (hb : OkN n b) : OkN (n + 1) (.tup [a, b]) := okN_tup fun d hd => by
  simp only [List.mem_cons, List.not_mem_nil, or_false] at hd
  rcases hd with rfl | rfl <;> assumption
theorem okN_3 {n : Nat} {a b c : D} (ha : OkN n a) (hb : OkN n b) (hc : OkN n c) : OkN (n + 1) (.tup [a, b, c]) := okN_tup fun d hd => by
  simp only [List.mem_cons, List.not_mem_nil, or_false] at hd
  rcases hd with rfl | rfl | rfl <;> assumption
theorem okN_4 {n : Nat} {a b c e : D} (ha : OkN n a) (hb : OkN n b) (hc : OkN n c) (he : OkN n e) : OkN (n + 1) (.tup [a, b, c, e]) := okN_tup fun d hd => by
  simp only [List.mem_cons, List.not_mem_nil, or_false] at hd
  rcases hd with rfl | rfl | rfl | rfl <;> assumption
theorem MnV.okN_vw {m : Mn} (h : MnV m) : OkN 13 (.tup (m.vw.map vwD)) := okN_tup (okN_map fun v hv => okN_2 ((okN_str (h.v v hv).nm.okS).mono (Nat.zero_le 11)) (okN_tup (okN_map fun f hf => ((h.v v hv).ok f hf).okN h.f)))
theorem MnV.okN_cs {m : Mn} (h : MnV m) {c : Cl} (hc : c ∈ m.cl) {k : Cs} (hk : k ∈ c.cs) : OkN 13 (csD k) := by
  have hv := (h.c c hc).cs k hk
  exact okN_4 ((okN_str (h.g _ hv.m).okS).mono (Nat.zero_le _)) (okN_tup (okN_map fun f hf => okN_2 ((hv.fa f hf).1.okN h.f) ((hv.fa f hf).2.okN h.f)))
    (okN_tup (okN_map fun u hu => okN_2 ((okN_str (h.f _ (hv.up.mem u hu)).nm.okS).mono (Nat.zero_le _)) ((hv.up.ok u hu).okN h.f))) ((okN_str (h.g _ hv.af).okS).mono (Nat.zero_le _))
theorem MnV.okN_cl1 {m : Mn} (h : MnV m) {c : Cl} (hc : c ∈ m.cl) : OkN 15 (clD c) := okN_3 ((okN_str (h.c c hc).nm.okS).mono (Nat.zero_le _)) ((okN_str (sor_ok _ (h.c c hc).so)).mono (Nat.zero_le _)) (okN_tup (okN_map fun k hk => h.okN_cs hc hk))
theorem MnV.okN_cl {m : Mn} (h : MnV m) : OkN 16 (.tup (m.cl.map clD)) := okN_tup (okN_map fun _ hc => h.okN_cl1 hc)
theorem MnV.okN {m : Mn} (h : MnV m) : OkN 17 (mnD m) := okN_4 ((okN_tup (okN_map fun x hx => okN_str (h.f x hx).nm.okS)).mono (by decide)) ((okN_tup (okN_map fun x hx => okN_str (h.g x hx).okS)).mono (by decide)) h.okN_cl (h.okN_vw.mono (by decide))
def MM : List Str := ["m1", "m2"]
theorem MM_ok : ∀ x ∈ MM, Nm x := fun x hx => nm_b (List.all_eq_true.mp (by decide +kernel : MM.all nmB = true) x hx)
theorem MM_ne (m : Str) : (MM.filter fun x => !decide (x = m)) ≠ [] := by
  intro e
  have h : ∀ x ∈ MM, x = m := fun x hx => by
    by_cases hm : x = m
    · exact hm
    · have : x ∈ MM.filter fun x => !decide (x = m) := List.mem_filter.mpr ⟨hx, by simp [hm]⟩
      rw [e] at this; cases this
  have h1 := h "m1" (by simp [MM])
  have h2 := h "m2" (by simp [MM])
  have : ¬ ("m1" : Str) = "m2" := by decide +kernel
  exact this (h1.trans h2.symm)
theorem disp_so {so : Str} (h : so ∈ SOR) : ∃ s ∈ SOR, ((dispD [("one", "many"), ("many", "none"), ("none", "one")]).find? fun kv => decide (kv.1 = Sum.inr so)).map (·.2) = some (.str s) := by
  simp only [SOR, List.mem_cons, List.not_mem_nil, or_false] at h
  have n1 : ¬ ("one" : Str) = "many" := by decide +kernel
  have n2 : ¬ ("one" : Str) = "none" := by decide +kernel
  have n3 : ¬ ("many" : Str) = "none" := by decide +kernel
  rcases h with rfl | rfl | rfl
  · exact ⟨"many", by simp [SOR], by simp [dispD]⟩
  · exact ⟨"none", by simp [SOR], by simp [dispD, n1]⟩
  · exact ⟨"one", by simp [SOR], by simp [dispD, n2, n3]⟩
def dig (k : Nat) : Str := ((toString ((0 : Int) + (k : Nat)) : String) : Str)
theorem dig_list : ∀ k, k < 8 → (dig k).cps.toList = [48 + k] := by decide +kernel
def fK (k : Nat) (z : Str) : Str := (("f" : Str) ++ dig k) ++ cutS z none (some 5)
theorem fK_list {k : Nat} (hk : k < 8) (z : Str) : (fK k z).cps.toList = 102 :: (48 + k) :: z.cps.toList.take 5 := by
  unfold fK
  rw [app_list, app_list, dig_list k hk, show (5 : Int) = ((5 : Nat) : Int) from rfl, cutS_list]
  have : ("f" : Str).cps.toList = [102] := by decide +kernel
  rw [this]; rfl
theorem dg_sg : ∀ k, k < 8 → 48 + k ∈ SG := by decide +kernel
theorem fK_ok {k : Nat} (hk : k < 8) {z : Str} (hz : Nm z) : FNm (fK k z) := by
  have e := fK_list hk z
  obtain ⟨c, l, e1, h1, h2, h3⟩ := hz.ex
  refine ⟨⟨102, _, e, by decide +kernel, fun a ha => ?_, ?_⟩, fun q => ?_, fun q => ?_⟩
  · rcases List.mem_cons.mp ha with rfl | ha
    · decide +kernel
    rcases List.mem_cons.mp ha with rfl | ha
    · exact dg_sg k hk
    · exact h2 a (by rw [← e1]; exact List.mem_of_mem_take ha)
  · simp; omega
  · rw [q] at e
    have e2 : ("given" : Str).cps.toList = [103, 105, 118, 101, 110] := by decide +kernel
    rw [e2] at e
    injection e with e
    omega
  · rw [q] at e
    have e2 : ("none" : Str).cps.toList = [110, 111, 110, 101] := by decide +kernel
    rw [e2] at e
    injection e with e
    omega
theorem fK_inj {k j : Nat} (hk : k < 8) (hj : j < 8) {z : Str} (h : fK k z = fK j z) : k = j := by
  have e := congrArg (fun x : Str => x.cps.toList) h
  simp only [fK_list hk, fK_list hj] at e
  injection e with _ e
  injection e with e
  omega
theorem range_nd {h : Nat → Str} {n : Nat} (k : ∀ i j, i < n → j < n → h i = h j → i = j) : ((List.range n).map h).Nodup :=
  List.pairwise_map.mpr (List.Pairwise.imp_of_mem (R := fun a b => a < b) (fun {a b} ha hb hab z => by have := k a b (List.mem_range.mp ha) (List.mem_range.mp hb) z; omega) List.pairwise_lt_range)
def cK (w : Str) (k : Nat) : Str := (w ++ dig k) ++ "w"
theorem cK_b : ∀ k, k < 8 → nmB (cK "c" k) = true := by decide +kernel
theorem vK_b : ∀ k, k < 8 → nmB (cK "v" k) = true := by decide +kernel
theorem cK_n : ((List.range 8).map (cK "c")).Nodup := by decide +kernel
theorem vK_n : ((List.range 4).map (cK "v")).Nodup := by decide +kernel
theorem log_ok : ∀ k, k < 8 → ((0 : Int) + (k : Nat)).natAbs.log2 < 1920 := by decide +kernel
theorem f0V {fs : List Str} {g : Bool} {x : Str} (h : x ∈ fs) : FmV fs g (.w x) := ⟨⟨by show 1 ≤ 10; decide, by show 1 ≤ 200; decide⟩, .w (.inl h)⟩
theorem d_spoilt {p : D} {one two : Mn} (hp : PurseOk p) (h1 : MnX one) (h2 : MnY two) : SpP F__law_spoilt p [mnD one, mnD two] fun d => ∃ m, d = mnD m ∧ MnV m := by
  obtain ⟨ofl, omd, ocl, ovw⟩ := one
  obtain ⟨tfl, tmd, tcl, tvw⟩ := two
  obtain ⟨mode, rfl⟩ : ∃ m, tmd = [m] := by
    have := h2.m1
    match tmd, this with
    | [m], _ => exact ⟨m, rfl⟩
  obtain ⟨c0, ocl, rfl⟩ : ∃ c r, ocl = c :: r := by
    have := h1.c2
    match ocl, this with
    | c :: r, _ => exact ⟨c, r, rfl⟩
  obtain ⟨o0, ofl, rfl⟩ : ∃ c r, ofl = c :: r := by
    have := h1.f1
    match ofl, this with
    | c :: r, _ => exact ⟨c, r, rfl⟩
  obtain ⟨f0, tfl, rfl⟩ : ∃ c r, tfl = c :: r := by
    have := h2.f1
    match tfl, this with
    | c :: r, _ => exact ⟨c, r, rfl⟩
  have hmode : Nm mode := h2.g mode (List.mem_cons_self ..)
  have ho0 : FNm o0 := h1.f o0 (List.mem_cons_self ..)
  have hf0 : FNm f0 := h2.f f0 (List.mem_cons_self ..)
  have hc0 := h1.c c0 (List.mem_cons_self ..)
  have f0m : f0 ∈ f0 :: tfl := List.mem_cons_self ..
  refine ok_body rfl ?_
  show OkS (g__law_spoilt [_, some (.sh (.tup [.tup (.str o0 :: ofl.map .str), txs omd, .tup (clD c0 :: ocl.map clD), .tup (ovw.map vwD)])), some (.sh (.tup [.tup (.str f0 :: tfl.map .str), .tup [.str mode], .tup (tcl.map clD), .tup (tvw.map vwD)])), none, none, none, none, none, none, none, none, none, none, none]) _ _ _ _
  unfold g__law_spoilt
  walk_at "go"
  refine kP (d_draw hp (by decide) (by decide)) ?_
  rintro p1 _ hp1 ⟨way, rfl, hway⟩
  walk_at "go"
  refine ⟨fun _ => ?_, fun _ => ?_⟩
  · walk_at "go"
    refine ok_lcP (ι := D.str) (xs := MM) (fun x => !decide (x = mode)) D.str ?_ (fun x hx => ?_) ?_
    · decide
    · walk_at "go"
      refine p_neS (MM_ok x hx).okS hmode.okS ?_
      walk_at "go"
      refine ⟨rfl, fun _ => ?_, fun _ => rfl⟩
      walk_at "go"
      exact ⟨rfl, rfl⟩
    have hne := MM_ne mode
    have hok : ∀ x ∈ MM.filter fun x => !decide (x = mode), Nm x ∧ x ≠ mode := fun x hx => ⟨MM_ok x (List.mem_filter.mp hx).1, by have := (List.mem_filter.mp hx).2; simpa using this⟩
    generalize hY : (MM.filter fun x => !decide (x = mode)) = Y at hne hok
    walk_at "go"
    refine ⟨_, rfl, .inl ⟨_, rfl, ?_⟩⟩
    rw [show (1 : Int) = ((1 : Nat) : Int) from rfl, cutL_to, ← List.map_take]
    obtain ⟨y, Y, rfl⟩ : ∃ c r, Y = c :: r := by
      match Y, hne with
      | c :: r, _ => exact ⟨c, r, rfl⟩
    obtain ⟨y1, y2⟩ := hok y (List.mem_cons_self ..)
    walk_at "go"
    refine p_addT (by simp) ?_
    walk_at "go"
    refine ok_lcM (fun v => vwD ⟨v.nm, v.fs ++ v.fs⟩) ?_ (fun v hv => ?_) ?_
    · have := h2.v4
      show tvw.length ≤ _
      have : tvw.length ≤ 4 := this
      omega
    · have hvl : v.fs.length = 1 := (h2.v v hv).len
      show Ok1 (pTup 2 _ (.tup [.str v.nm, .tup (v.fs.map Fm.d)]) _) _
      walk_at "go"
      have e1 : v.fs.map Fm.d ≠ [] := by
        intro z
        have := congrArg List.length z
        rw [List.length_map, hvl] at this
        cases this
      refine p_mulT (k := 2) e1 (by decide) (by decide) (by rw [List.length_map, hvl]; decide) ?_
      walk_at "go"
      refine ⟨?_, rfl⟩
      show D.tup [.str v.nm, .tup (v.fs.map Fm.d ++ (v.fs.map Fm.d ++ []))] = D.tup [.str v.nm, .tup ((v.fs ++ v.fs).map Fm.d)]
      rw [List.map_append, List.append_nil]
    walk_at "go"
    refine ok_eq1 rfl ⟨p1, hp1, rfl, ⟨f0 :: tfl, [mode, y], [], tvw.map fun v => ⟨v.nm, v.fs ++ v.fs⟩⟩, ?_, ?_⟩
    · show _ = D.tup [_, _, _, .tup ((tvw.map fun v => (⟨v.nm, v.fs ++ v.fs⟩ : Vw)).map vwD)]
      rw [List.map_map]
      rfl
    · exact { f := h2.f, fn := h2.fn, f1 := h2.f1, f4 := h2.f4, g := fun x hx => by simp only [List.mem_cons, List.not_mem_nil, or_false] at hx; rcases hx with rfl | rfl; exact hmode; exact y1, gn := by simp [Ne.symm y2], g1 := by show 1 ≤ 2; decide, g4 := by show 2 ≤ 4; decide, c := nomem, cn := List.nodup_nil, c8 := Nat.zero_le _, v := fun v hv => by
                obtain ⟨w, hw, rfl⟩ := List.mem_map.mp hv
                have hwv := h2.v w hw
                exact ⟨hwv.nm, by show (w.fs ++ w.fs).length = 2; rw [List.length_append, hwv.len]; rfl, fun f hf => hwv.ok f ((List.mem_append.mp hf).elim id id)⟩,
              vn := by rw [List.map_map]; exact h2.vn, v4 := by rw [List.length_map]; exact h2.v4 }
  walk_at "go"
  refine ⟨fun _ => ?_, fun _ => ?_⟩
  · walk_at "go"
    refine ok_eq1 rfl ⟨p1, hp1, rfl, ⟨[o0], [mode], [], []⟩, rfl, ?_⟩
    exact { f := fun x hx => by rw [List.mem_singleton.mp hx]; exact ho0, fn := by simp, f1 := Nat.le_refl 1, f4 := by show 1 ≤ 4; decide, g := h2.g, gn := h2.gn, g1 := h2.g1, g4 := h2.g4, c := nomem, cn := List.nodup_nil, c8 := Nat.zero_le _, v := nomem, vn := List.nodup_nil, v4 := Nat.zero_le _ }
  have mk : ∀ (cl : List Cl) (vw : List Vw), (∀ c ∈ cl, ClV (f0 :: tfl) [mode] c) → (cl.map (·.nm)).Nodup → cl.length ≤ 8 → (∀ v ∈ vw, VwV (f0 :: tfl) [mode] v) → (vw.map (·.nm)).Nodup → vw.length ≤ 4 → MnV ⟨f0 :: tfl, [mode], cl, vw⟩ := fun cl vw a1 a2 a3 a4 a5 a6 =>
    { f := h2.f, fn := h2.fn, f1 := h2.f1, f4 := h2.f4, g := h2.g, gn := h2.gn, g1 := h2.g1, g4 := h2.g4, c := a1, cn := a2, c8 := a3, v := a4, vn := a5, v4 := a6 }
  have v0 : ∀ nm, Nm nm → VwV (f0 :: tfl) [mode] ⟨nm, [.w f0]⟩ := fun nm h => ⟨h, rfl, fun f hf => by rw [List.mem_singleton.mp hf]; exact f0V f0m⟩
  refine ok_next (ok_seq (ok_ifE (decide ((way : Int) = 2) && !(ovw.map vwD).isEmpty) ?_ (fun e => ?_) fun _ => ?_))
  · walk_at "go"
    refine ⟨fun e => ?_, fun e => ⟨by rw [e]; rfl, rfl⟩⟩
    walk_at "go"
    refine ok_eq1 (ne_nilT h1.okN_vw (by decide)) ?_
    walk_at "go"
    exact ⟨by rw [e]; rfl, rfl⟩
  · rw [Bool.and_eq_true] at e
    obtain ⟨v, ovw, rfl⟩ : ∃ c r, ovw = c :: r := by
      match ovw, e.2 with
      | c :: r, _ => exact ⟨c, r, rfl⟩
    have hv := h1.v v (List.mem_cons_self ..)
    simp only [List.map_cons]
    walk_at "go"
    exact ok_eq1 rfl ⟨p1, hp1, rfl, _, rfl, mk tcl [⟨v.nm, [.w f0]⟩] h2.c h2.cn h2.c8 (fun x hx => by rw [List.mem_singleton.mp hx]; exact v0 _ hv.nm) (by simp) (by show 1 ≤ 4; decide)⟩
  walk_at "go"
  refine ⟨fun _ => ?_, fun _ => ?_⟩
  · obtain ⟨so, hso, es⟩ := disp_so hc0.so
    walk_at "go"
    refine ⟨_, _, rfl, rfl, ok_eq1 es ?_⟩
    walk_at "go"
    exact ok_eq1 rfl ⟨p1, hp1, rfl, _, rfl, mk [⟨c0.nm, so, []⟩] tvw (fun x hx => by rw [List.mem_singleton.mp hx]; exact clV_nil hc0.nm hso) (by simp) (by show 1 ≤ 8; decide) h2.v h2.vn h2.v4⟩
  walk_at "go"
  refine ⟨fun _ => ?_, fun _ => ?_⟩
  · walk_at "go"
    refine ⟨_, rfl, ⟨by decide, by decide⟩, ?_⟩
    walk_at "go"
    refine ok_lcM (xs := List.range 4) (fun k => .str (fK k f0)) ?_ (fun k hk => ?_) ?_
    · decide
    · have hk4 := List.mem_range.mp hk
      have hk8 : k < 8 := by omega
      have l1 : (("f" : Str) ++ dig k).length = 2 := by
        have := congrArg List.length (app_list "f" (dig k))
        rw [dig_list k hk8, show ("f" : Str).cps.toList = [102] by decide +kernel] at this
        show (("f" : Str) ++ dig k).cps.size = 2
        simpa using this
      have l2 := cutS_length f0 none (some 5)
      have l3 := hf0.nm.len
      have l4 : (dig k).length = 1 := by
        have := congrArg List.length (dig_list k hk8)
        show (dig k).cps.size = 1
        simpa using this
      have l5 : ("f" : Str).length = 1 := by decide +kernel
      walk_at "go"
      refine p_strI (log_ok k hk8) ?_
      refine p_addS (by show ("f" : Str).length + (dig k).length ≤ _; omega) ?_
      walk_at "go"
      refine ⟨_, rfl, .inr (.inr ⟨_, if_pos (by omega), ?_⟩)⟩
      refine p_addS (by show (("f" : Str) ++ dig k).length + _ ≤ _; omega) ?_
      exact ⟨rfl, rfl⟩
    walk_at "go"
    refine ok_eq1 rfl ⟨p1, hp1, rfl, ⟨(List.range 4).map fun k => fK k f0, [mode], [], []⟩, ?_, ?_⟩
    · show _ = D.tup [.tup (((List.range 4).map fun k => fK k f0).map .str), _, _, _]
      rw [List.map_map]
      rfl
    · exact { f := fun x hx => by
                obtain ⟨k, hk, rfl⟩ := List.mem_map.mp hx
                exact fK_ok (by have := List.mem_range.mp hk; omega) hf0.nm,
              fn := range_nd fun i j hi hj e => fK_inj (by omega) (by omega) e, f1 := by show 1 ≤ 4; decide, f4 := by show 4 ≤ 4; decide, g := h2.g, gn := h2.gn, g1 := h2.g1, g4 := h2.g4, c := nomem, cn := List.nodup_nil, c8 := Nat.zero_le _, v := nomem, vn := List.nodup_nil, v4 := Nat.zero_le _ }
  have litc : ∀ (w : Str), okS w → w.length = 1 → ∀ k, k < 8 → (w.length + (dig k).length ≤ 1000000 ∧ (w ++ dig k).length + ("w" : Str).length ≤ 1000000) := fun w hw hl k hk8 => by
    have l4 : (dig k).length = 1 := by
      have := congrArg List.length (dig_list k hk8)
      show (dig k).cps.size = 1
      simpa using this
    have l5 : ("w" : Str).length = 1 := by decide +kernel
    rw [len_app]
    omega
  walk_at "go"
  refine ⟨fun _ => ?_, fun _ => ?_⟩
  · walk_at "go"
    refine ⟨_, rfl, ⟨by decide, by decide⟩, ?_⟩
    walk_at "go"
    refine ok_lcM (xs := List.range 8) (fun k => clD ⟨cK "c" k, "one", []⟩) ?_ (fun k hk => ?_) ?_
    · decide
    · have hk8 := List.mem_range.mp hk
      obtain ⟨l1, l2⟩ := litc "c" (by show PyData.strOk "c" = true; decide +kernel) (by decide +kernel) k hk8
      walk_at "go"
      refine p_strI (log_ok k hk8) ?_
      refine p_addS l1 ?_
      walk_at "go"
      refine p_addS l2 ?_
      walk_at "go"
      exact ⟨rfl, rfl⟩
    walk_at "go"
    refine ok_eq1 rfl ⟨p1, hp1, rfl, ⟨f0 :: tfl, [mode], (List.range 8).map fun k => ⟨cK "c" k, "one", []⟩, tvw⟩, ?_, mk _ _ ?_ ?_ ?_ h2.v h2.vn h2.v4⟩
    · show _ = D.tup [_, _, .tup (((List.range 8).map fun k => (⟨cK "c" k, "one", []⟩ : Cl)).map clD), _]
      rw [List.map_map]
      rfl
    · intro c hc
      obtain ⟨k, hk, rfl⟩ := List.mem_map.mp hc
      exact clV_nil (nm_b (cK_b k (List.mem_range.mp hk))) (by simp [SOR])
    · rw [List.map_map]
      exact cK_n
    · simp
  walk_at "go"
  refine ⟨fun _ => ?_, fun _ => ?_⟩
  · walk_at "go"
    refine ⟨_, rfl, ⟨by decide, by decide⟩, ?_⟩
    walk_at "go"
    refine ok_lcM (xs := List.range 4) (fun k => vwD ⟨cK "v" k, [.w f0]⟩) ?_ (fun k hk => ?_) ?_
    · decide
    · have hk4 := List.mem_range.mp hk
      obtain ⟨l1, l2⟩ := litc "v" (by show PyData.strOk "v" = true; decide +kernel) (by decide +kernel) k (by omega)
      walk_at "go"
      refine p_strI (log_ok k (by omega)) ?_
      refine p_addS l1 ?_
      walk_at "go"
      refine p_addS l2 ?_
      walk_at "go"
      exact ⟨rfl, rfl⟩
    walk_at "go"
    refine ok_eq1 rfl ⟨p1, hp1, rfl, ⟨f0 :: tfl, [mode], tcl, (List.range 4).map fun k => ⟨cK "v" k, [.w f0]⟩⟩, ?_, mk _ _ h2.c h2.cn h2.c8 ?_ ?_ ?_⟩
    · show _ = D.tup [_, _, _, .tup (((List.range 4).map fun k => (⟨cK "v" k, [.w f0]⟩ : Vw)).map vwD)]
      rw [List.map_map]
      rfl
    · intro c hc
      obtain ⟨k, hk, rfl⟩ := List.mem_map.mp hc
      exact v0 _ (nm_b (vK_b k (by have := List.mem_range.mp hk; omega)))
    · rw [List.map_map]
      exact vK_n
    · simp
  walk_at "go"
  refine ⟨fun _ => ?_, fun _ => ?_⟩
  · walk_at "go"
    refine p_mulT (k := 5) (by simp) (by decide) (by decide) (by simp) ?_
    walk_at "go"
    refine ok_eq1 rfl ⟨p1, hp1, rfl, ⟨f0 :: tfl, [mode], [⟨c0.nm, c0.so, [⟨mode, [(.w f0, .w f0), (.w f0, .w f0), (.w f0, .w f0), (.w f0, .w f0), (.w f0, .w f0)], [], mode⟩]⟩], tvw⟩, rfl, mk _ _ (fun x hx => ?_) (by simp) (by show 1 ≤ 8; decide) h2.v h2.vn h2.v4⟩
    rw [List.mem_singleton.mp hx]
    refine ⟨hc0.nm, hc0.so, fun c hc => ?_, by simp, by show 1 ≤ 4; decide⟩
    rw [List.mem_singleton.mp hc]
    refine ⟨List.mem_cons_self .., List.mem_cons_self .., fun _ => rfl, by show 5 ≤ 5; decide, fun f hf => ?_, ⟨List.nodup_nil, nomem, nomem⟩, Nat.zero_le _⟩
    simp only [List.mem_cons, List.not_mem_nil, or_false, or_self] at hf
    subst hf
    exact ⟨f0V f0m, f0V f0m⟩
  · walk_at "go"
    exact ok_eq1 rfl ⟨p1, hp1, rfl, _, rfl, h2.toMnV⟩
end W77

/-! k77, the plain law: designs asked, joined. -/
namespace W77
open PySem PySem.Spec L2 DL
section
variable {m : Mn} {P : D → Prop}
theorem fl_1 (k : P (txs m.fl)) : ∃ c fs, dsD m = .obj c fs ∧ CF c "fields" = true ∧ Ok1 (fs.lookup ("fields" : Str)) P := ⟨_, _, rfl, cf_1, ok_eq1 (look_all ..).1 k⟩
theorem fl_2 (k : P (txs m.md)) : ∃ c fs, dsD m = .obj c fs ∧ CF c "modes" = true ∧ Ok1 (fs.lookup ("modes" : Str)) P := ⟨_, _, rfl, cf_2, ok_eq1 (look_all ..).2.1 k⟩
theorem fl_3 (k : P (.tup (m.cl.map clD))) : ∃ c fs, dsD m = .obj c fs ∧ CF c "calls" = true ∧ Ok1 (fs.lookup ("calls" : Str)) P := ⟨_, _, rfl, cf_3, ok_eq1 (look_all ..).2.2.1 k⟩
theorem fl_4 (k : P (.tup (m.vw.map vwD))) : ∃ c fs, dsD m = .obj c fs ∧ CF c "views" = true ∧ Ok1 (fs.lookup ("views" : Str)) P := ⟨_, _, rfl, cf_4, ok_eq1 (look_all ..).2.2.2.1 k⟩
theorem fl_5 (k : P (.tpx ((m.cl.map (·.nm)).map .str))) : ∃ c fs, dsD m = .obj c fs ∧ CF c "names" = true ∧ Ok1 (fs.lookup ("names" : Str)) P := ⟨_, _, rfl, cf_5, ok_eq1 (look_all ..).2.2.2.2.1 k⟩
theorem fl_6 (k : P (txs (m.vw.map (·.nm)))) : ∃ c fs, dsD m = .obj c fs ∧ CF c "view_names" = true ∧ Ok1 (fs.lookup ("view_names" : Str)) P := ⟨_, _, rfl, cf_6, ok_eq1 (look_all ..).2.2.2.2.2.1 k⟩
theorem fl_7 (k : P (.str (mnTx m))) : ∃ c fs, dsD m = .obj c fs ∧ CF c "text" = true ∧ Ok1 (fs.lookup ("text" : Str)) P := ⟨_, _, rfl, cf_7, ok_eq1 (look_all ..).2.2.2.2.2.2 k⟩
end
end W77
local macro_rules | `(tactic| walk_at "fld") => `(tactic| first | with_reducible refine W77.fl_1 ?_ | with_reducible refine W77.fl_2 ?_ | with_reducible refine W77.fl_3 ?_ | with_reducible refine W77.fl_4 ?_ | with_reducible refine W77.fl_5 ?_ | with_reducible refine W77.fl_6 ?_ | with_reducible refine W77.fl_7 ?_)
local macro_rules | `(tactic| walk_at "gof") => `(tactic| repeat (first | walk_at "ok1" | walk_at "isi" | walk_at "fld"))
namespace W77
open PySem PySem.Spec L2 DL
theorem idxS_mem {z : Str} : ∀ {ys : List Str}, z ∈ ys → ∃ j, idxS z ys = some j
  | y :: ys, h => by
    unfold idxS
    by_cases e : y = z
    · exact ⟨0, by rw [if_pos e]⟩
    · obtain ⟨j, hj⟩ := idxS_mem (ys := ys) ((List.mem_cons.mp h).resolve_left fun q => e q.symm)
      exact ⟨j + 1, by rw [if_neg e, hj]; rfl⟩
theorem nd_get {α : Type} {f : α → Str} {xs : List α} (h : (xs.map f).Nodup) {x : α} (hx : x ∈ xs) {j : Nat} (e : (xs.map f)[j]? = some (f x)) : xs[j]? = some x := by
  obtain ⟨i, hi, rfl⟩ := List.getElem_of_mem hx
  have hj : j < xs.length := by
    have := (List.getElem?_eq_some_iff.mp e).1
    simpa using this
  have e2 : (xs.map f)[j]'(by simpa using hj) = (xs.map f)[i]'(by simpa using hi) := by
    rw [List.getElem?_eq_getElem (by simpa using hj)] at e
    injection e with e
    rw [e]; simp
  have e3 : j = i := by
    rcases Nat.lt_trichotomy j i with k | k | k
    · exact absurd e2 (List.pairwise_iff_getElem.mp h j i (by simpa using hj) (by simpa using hi) k)
    · exact k
    · exact absurd e2.symm (List.pairwise_iff_getElem.mp h i j (by simpa using hi) (by simpa using hj) k)
  subst e3
  rw [List.getElem?_eq_getElem hj]
theorem lk_call {m : Mn} : (dsF m).lookup ("call" : Str) = none := by
  have n0 : (("call" : Str) == "fields") = false := by decide +kernel
  have n1 : (("call" : Str) == "modes") = false := by decide +kernel
  have n2 : (("call" : Str) == "calls") = false := by decide +kernel
  have n3 : (("call" : Str) == "views") = false := by decide +kernel
  have n4 : (("call" : Str) == "names") = false := by decide +kernel
  have n5 : (("call" : Str) == "view_names") = false := by decide +kernel
  have n6 : (("call" : Str) == "text") = false := by decide +kernel
  unfold dsF
  simp only [List.lookup, n0, n1, n2, n3, n4, n5, n6]
theorem lk_sort_of {m : Mn} : (dsF m).lookup ("sort_of" : Str) = none := by
  have n0 : (("sort_of" : Str) == "fields") = false := by decide +kernel
  have n1 : (("sort_of" : Str) == "modes") = false := by decide +kernel
  have n2 : (("sort_of" : Str) == "calls") = false := by decide +kernel
  have n3 : (("sort_of" : Str) == "views") = false := by decide +kernel
  have n4 : (("sort_of" : Str) == "names") = false := by decide +kernel
  have n5 : (("sort_of" : Str) == "view_names") = false := by decide +kernel
  have n6 : (("sort_of" : Str) == "text") = false := by decide +kernel
  unfold dsF
  simp only [List.lookup, n0, n1, n2, n3, n4, n5, n6]
theorem lk_case_of {m : Mn} : (dsF m).lookup ("case_of" : Str) = none := by
  have n0 : (("case_of" : Str) == "fields") = false := by decide +kernel
  have n1 : (("case_of" : Str) == "modes") = false := by decide +kernel
  have n2 : (("case_of" : Str) == "calls") = false := by decide +kernel
  have n3 : (("case_of" : Str) == "views") = false := by decide +kernel
  have n4 : (("case_of" : Str) == "names") = false := by decide +kernel
  have n5 : (("case_of" : Str) == "view_names") = false := by decide +kernel
  have n6 : (("case_of" : Str) == "text") = false := by decide +kernel
  unfold dsF
  simp only [List.lookup, n0, n1, n2, n3, n4, n5, n6]
theorem t_call {m : Mn} (h : MnV m) {c : Cl} (hc : c ∈ m.cl) : F_Design_call [dsD m, .str c.nm] = some (clD c, [.non, .non]) := by
  have hm : c.nm ∈ m.cl.map (·.nm) := List.mem_map_of_mem hc
  refine Ok2.eq (ok_body rfl ?_)
  show OkS (g_Design_call [_, _]) _ _ _ _
  unfold g_Design_call
  walk_at "gof"
  refine ⟨_, rfl, ?_⟩
  walk_at "gof"
  refine br_false (by simp only [Bool.not_eq_false', decide_eq_true_eq]; exact hm) ?_
  walk_at "gof"
  refine ⟨_, rfl, ?_⟩
  walk_at "gof"
  obtain ⟨j, hj⟩ := idxS_mem hm
  have hj2 := nd_get h.cn hc (idxS_ok hj).1
  refine ok_eq1 (x := .int (j : Nat)) ?_ ?_
  · show (strsD ((m.cl.map (·.nm)).map .str)).bind _ = _
    rw [strsD_map]
    show (idxS c.nm (m.cl.map (·.nm))).map _ = _
    rw [hj]; rfl
  · refine p_ix (z := clD c) ?_ (ok_eq1 rfl ⟨rfl, rfl⟩)
    exact at_get (by rw [List.getElem?_map, hj2]; rfl)
theorem t_sort_of {m : Mn} (h : MnV m) {c : Cl} (hc : c ∈ m.cl) : F_Design_sort_of [dsD m, .str c.nm] = some (.str c.so, [.non, .non]) := by
  refine Ok2.eq (ok_body rfl ?_)
  show OkS (g_Design_sort_of [_, _]) _ _ _ _
  unfold g_Design_sort_of
  walk_at "gof"
  refine ⟨_, rfl, lk_call, ?_⟩
  walk_at "gof"
  refine ok_eq2 (t_call h hc) ⟨rfl, ?_⟩
  walk_at "gof"
  exact ok_eq1 rfl ⟨rfl, rfl⟩
theorem t_contains {m : Mn} {x : Str} : F_Design_contains [dsD m, .str x] = some (.bl (decide (x ∈ m.cl.map (·.nm))), [.non, .non]) := by
  refine Ok2.eq (ok_body rfl ?_)
  show OkS (g_Design_contains [_, _]) _ _ _ _
  unfold g_Design_contains
  walk_at "gof"
  refine ⟨_, rfl, ?_⟩
  walk_at "gof"
  exact ok_eq1 rfl ⟨rfl, rfl⟩
theorem t_eq {m : Mn} (h : MnV m) : F_Design_eq [dsD m, dsD m] = some (.bl true, [.non, .non]) := by
  refine Ok2.eq (ok_body rfl ?_)
  show OkS (g_Design_eq [_, _]) _ _ _ _
  unfold g_Design_eq
  walk_at "gof"
  refine p_eqS h.text.2 h.text.2 ?_
  exact ok_eq1 rfl ⟨by simp, rfl⟩
theorem t_check_mode {m : Mn} {x : Str} (hx : x ∈ m.md) : F_check_mode [dsD m, .str x] = some (.non, [.non, .non]) := by
  refine Ok2.eq (ok_body rfl ?_)
  show OkS (g_check_mode [_, _]) _ _ _ _
  unfold g_check_mode
  walk_at "gof"
  refine br_false (by simp only [Bool.not_eq_false', decide_eq_true_eq]; exact hx) ?_
  walk_at "gof"
  exact ok_eq1 rfl ⟨rfl, rfl⟩
/-- the first case, where there is but one mode -/
def hdD : List Cs → D
  | [] => .non
  | k :: _ => csD k
theorem t_case_of {m : Mn} (h : MnV m) {mode : Str} (hm : m.md = [mode]) {c : Cl} (hc : c ∈ m.cl) : F_Design_case_of [dsD m, .str c.nm, .str mode] = some (hdD c.cs, [.non, .non, .non]) := by
  have hmm : mode ∈ m.md := by rw [hm]; exact List.mem_cons_self ..
  have hmn := (h.g mode hmm).okS
  have hcs : ∀ k ∈ c.cs, k.m = mode := fun k hk => by
    have := ((h.c c hc).cs k hk).m
    rw [hm] at this
    exact List.mem_singleton.mp this
  refine Ok2.eq (ok_body rfl ?_)
  show OkS (g_Design_case_of [_, _, _, none, none]) _ _ _ _
  unfold g_Design_case_of
  walk_at "gof"
  refine ⟨_, rfl, lk_call, ?_⟩
  walk_at "gof"
  refine ok_eq2 (t_call h hc) ⟨rfl, ?_⟩
  walk_at "gof"
  refine ok_eq2 (t_check_mode hmm) ⟨rfl, ?_⟩
  walk_at "gof"
  refine ok_forI (I := fun done ρ => done = [] ∧ ρ = [some (.sh (dsD m)), some (.sh (.str c.nm)), some (.sh (.str mode)), some (.sh (.tup (c.cs.map csD))), none]) ⟨rfl, rfl⟩ ?_ ?_
  · rintro done k rest e ρ ⟨rfl, rfl⟩
    have hk := hcs k (by rw [e]; simp)
    walk_at "gof"
    refine p_eqS (by rw [hk]; exact hmn) hmn ?_
    walk_at "gof"
    refine br_true (decide_eq_true hk) ?_
    walk_at "gof"
    refine ok_eq1 rfl ⟨?_, rfl⟩
    rw [e]; rfl
  · rintro ρ ⟨e, rfl⟩
    walk_at "gof"
    refine ok_eq1 rfl ⟨?_, rfl⟩
    rw [e]; rfl
/-! ### what can be joined -/
def nms (m : Mn) : List Str := m.cl.map (·.nm)
def vns (m : Mn) : List Str := m.vw.map (·.nm)
def sortIn (m : Mn) (x : Str) : Str := ((m.cl.find? fun c => decide (c.nm = x)).map (·.so)).getD Str.empty
theorem find_nm {m : Mn} (h : (m.cl.map (·.nm)).Nodup) {c : Cl} (hc : c ∈ m.cl) : m.cl.find? (fun d => decide (d.nm = c.nm)) = some c := by
  cases e : m.cl.find? (fun d => decide (d.nm = c.nm)) with
  | none =>
    have := List.find?_eq_none.mp e c hc
    simp at this
  | some d =>
    have h1 := List.mem_of_find?_eq_some e
    have h2 : d.nm = c.nm := by simpa using List.find?_some e
    obtain ⟨j, hj, rfl⟩ := List.getElem_of_mem h1
    have : m.cl[j]? = some c := nd_get h hc (by rw [List.getElem?_map, List.getElem?_eq_getElem hj]; exact congrArg some h2)
    rw [List.getElem?_eq_getElem hj] at this
    exact this
theorem sortIn_eq {m : Mn} (h : (m.cl.map (·.nm)).Nodup) {c : Cl} (hc : c ∈ m.cl) : sortIn m c.nm = c.so := by
  unfold sortIn
  rw [find_nm h hc]; rfl
def jb2 (one two : Mn) : Bool := two.fl.any fun x => decide (x ∈ one.fl)
def jb3 (one two : Mn) : Bool := (vns two).any fun x => decide (x ∈ vns one)
def jb4 (one two : Mn) : Bool := (two.cl.filter fun e => decide (e.nm ∈ nms one)).all fun e => decide (sortIn one e.nm = e.so)
def canB (one two : Mn) : Bool := decide (two.md.length ≤ 1) && (!jb2 one two && (!jb3 one two && jb4 one two))
theorem t_can_join {one two : Mn} (h1 : MnV one) (h2 : MnV two) : F_can_join [dsD one, dsD two] = some (.bl (canB one two), [.non, .non]) := by
  refine Ok2.eq (ok_body rfl ?_)
  show OkS (g_can_join [_, _, none, none, none, none]) _ _ _ _
  unfold g_can_join
  have hf := h2.f4
  have hv := h2.v4
  have hc := h2.c8
  walk_at "gof"
  refine ⟨fun e => ?_, fun e => ?_⟩
  · walk_at "gof"
    refine ok_eq1 rfl ⟨?_, rfl⟩
    unfold canB
    have : ¬ two.md.length ≤ 1 := by
      have := of_decide_eq_true e
      rw [List.length_map] at this
      omega
    rw [decide_eq_false this]; rfl
  have hm1 : two.md.length ≤ 1 := by
    have := of_decide_eq_false e
    rw [List.length_map] at this
    omega
  walk_at "gof"
  refine ok_lcM (fun x => .bl (decide (x ∈ one.fl))) ?_ (fun x hx => ?_) ?_
  · omega
  · walk_at "gof"
    exact ⟨rfl, rfl⟩
  walk_at "gof"
  refine p_any (f := fun x => decide (x ∈ one.fl)) (fun _ => rfl) ?_
  walk_at "gof"
  show (jb2 one two = true → _) ∧ (jb2 one two = false → _)
  refine ⟨fun e2 => ?_, fun e2 => ?_⟩
  · walk_at "gof"
    refine ok_eq1 rfl ⟨?_, rfl⟩
    unfold canB
    rw [e2, decide_eq_true hm1]; rfl
  walk_at "gof"
  refine ok_lcM (xs := vns two) (fun x => .bl (decide (x ∈ vns one))) ?_ (fun x hx => ?_) ?_
  · show (two.vw.map _).length ≤ _; rw [List.length_map]; omega
  · walk_at "gof"
    exact ⟨rfl, rfl⟩
  walk_at "gof"
  refine p_any (f := fun x => decide (x ∈ vns one)) (fun _ => rfl) ?_
  walk_at "gof"
  show (jb3 one two = true → _) ∧ (jb3 one two = false → _)
  refine ⟨fun e3 => ?_, fun e3 => ?_⟩
  · walk_at "gof"
    refine ok_eq1 rfl ⟨?_, rfl⟩
    unfold canB
    rw [e2, e3, decide_eq_true hm1]; rfl
  walk_at "gof"
  refine ok_lcP (fun e => decide (e.nm ∈ nms one)) (fun e => .bl (decide (sortIn one e.nm = e.so))) ?_ (fun e he => ?_) ?_
  · omega
  · have hso := sor_ok _ (h2.c e he).so
    show Ok1 (pTup 3 _ (.tup [.str e.nm, .str e.so, .tup (e.cs.map csD)]) _) _
    walk_at "gof"
    refine ⟨_, rfl, ok_eq2 t_contains ⟨rfl, _, rfl, ?_⟩⟩
    walk_at "gof"
    refine ⟨rfl, fun e5 => ?_, fun _ => rfl⟩
    obtain ⟨c, hc1, hc2⟩ := List.mem_map.mp (of_decide_eq_true e5)
    walk_at "gof"
    refine ⟨_, rfl, lk_sort_of, ?_⟩
    walk_at "gof"
    rw [← hc2]
    refine ok_eq2 (t_sort_of h1 hc1) ⟨rfl, ?_⟩
    walk_at "gof"
    refine p_eqS (sor_ok _ (h1.c c hc1).so) hso ?_
    rw [sortIn_eq h1.cn hc1]
    exact ⟨rfl, rfl⟩
  walk_at "gof"
  refine p_all (f := fun e => decide (sortIn one e.nm = e.so)) (fun _ => rfl) ?_
  refine ok_eq1 rfl ⟨?_, rfl⟩
  show D.bl (jb4 one two) = _
  unfold canB
  rw [e2, e3, decide_eq_true hm1]; rfl
/-! ### the joined calls -/
def addCs (k : Cs) (q : Cs) : Cs := ⟨q.m, q.fa ++ k.fa, q.up ++ k.up, q.af⟩
def joinCl (two : Mn) (c : Cl) : Cl := match two.cl.find? (fun d => decide (d.nm = c.nm)) with
  | none => c
  | some d => match d.cs with
    | [] => ⟨c.nm, c.so, []⟩
    | k :: _ => ⟨c.nm, c.so, c.cs.map (addCs k)⟩
theorem find_none {m : Mn} {x : Str} (h : x ∉ nms m) : m.cl.find? (fun d => decide (d.nm = x)) = none :=
  List.find?_eq_none.mpr fun c hc => by
    have : c.nm ≠ x := fun e => h (e ▸ List.mem_map_of_mem hc)
    simpa using this
theorem t_joined_call {one two : Mn} {mode : Str} (h1 : MnV one) (h2 : MnV two) (hm : two.md = [mode]) {c : Cl} (hc : c ∈ one.cl) : F_joined_call [clD c, dsD two] = some (clD (joinCl two c), [.non, .non]) := by
  have hcv := h1.c c hc
  refine Ok2.eq (ok_body rfl ?_)
  show OkS (g_joined_call [some (.sh (.tup [.str c.nm, .str c.so, .tup (c.cs.map csD)])), _, none, none, none, none, none, none, none, none, none]) _ _ _ _
  unfold g_joined_call
  walk_at "gof"
  refine ⟨_, rfl, ok_eq2 t_contains ⟨rfl, _, rfl, ?_⟩⟩
  walk_at "gof"
  refine ⟨fun e => ?_, fun e => ?_⟩
  · have hn : c.nm ∉ nms two := by simpa [nms] using e
    walk_at "gof"
    refine ok_eq1 rfl ⟨?_, rfl⟩
    unfold joinCl
    rw [find_none hn]; rfl
  have hn : c.nm ∈ nms two := by simpa [nms] using e
  obtain ⟨d, hd1, hd2⟩ := List.mem_map.mp hn
  have hd2 : d.nm = c.nm := hd2
  have hfd : two.cl.find? (fun e => decide (e.nm = c.nm)) = some d := by rw [← hd2]; exact find_nm h2.cn hd1
  walk_at "gof"
  refine ⟨_, rfl, lk_case_of, ?_⟩
  walk_at "gof"
  rw [hm]
  walk_at "gof"
  rw [← hd2]
  refine ok_eq2 (t_case_of h2 hm hd1) ⟨rfl, ?_⟩
  walk_at "gof"
  cases hk : d.cs with
  | nil =>
    refine br_true rfl ?_
    walk_at "gof"
    refine ok_eq1 rfl ⟨?_, rfl⟩
    unfold joinCl
    rw [hfd]
    simp only [hk]
    rw [hd2]
    rfl
  | cons k ks =>
    have hkv := (h2.c d hd1).cs k (by rw [hk]; exact List.mem_cons_self ..)
    have hkl := hkv.len
    have hku := hkv.ul
    have hcl := hcv.le
    refine br_false rfl ?_
    walk_at "gof"
    refine ok_lcM (fun q => csD (addCs k q)) ?_ (fun q hq => ?_) ?_
    · omega
    · have hqv := hcv.cs q hq
      have hql := hqv.len
      have hqu := hqv.ul
      show Ok1 (pTup 4 _ (.tup [.str q.m, .tup (q.fa.map fcD), .tup (q.up.map upD), .str q.af]) _) _
      walk_at "gof"
      refine p_addT (by simp; omega) ?_
      walk_at "gof"
      refine p_addT (by simp; omega) ?_
      walk_at "gof"
      refine ⟨?_, rfl⟩
      show _ = D.tup [.str q.m, .tup ((q.fa ++ k.fa).map fcD), .tup ((q.up ++ k.up).map upD), .str q.af]
      rw [List.map_append, List.map_append]
    walk_at "gof"
    refine ok_eq1 rfl ⟨?_, rfl⟩
    unfold joinCl
    rw [hfd]
    simp only [hk]
    rw [hd2]
    show _ = D.tup [.str c.nm, .str c.so, .tup ((c.cs.map (addCs k)).map csD)]
    rw [List.map_map]; rfl
def sprCl (md : List Str) (c : Cl) : Cl := ⟨c.nm, c.so, (c.cs.map fun k => md.map fun m => (⟨m, k.fa, k.up, m⟩ : Cs)).flatten⟩
theorem flat_len {α β : Type} {f : α → List β} {n : Nat} : ∀ {xs : List α}, (∀ x ∈ xs, (f x).length ≤ n) → ((xs.map f).map List.length).sum ≤ xs.length * n
  | [], _ => Nat.zero_le _
  | x :: xs, h => by
    have a := h x (List.mem_cons_self ..)
    have b := flat_len (xs := xs) fun y hy => h y (List.mem_cons_of_mem _ hy)
    simp only [List.map_cons, List.sum_cons, List.length_cons, Nat.succ_mul]
    omega
theorem t_spread_call {c : Cl} {md : List Str} (hc : c.cs.length ≤ 4) (hm : md.length ≤ 4) : F_spread_call [clD c, txs md] = some (clD (sprCl md c), [.non, .non]) := by
  refine Ok2.eq (ok_body rfl ?_)
  show OkS (g_spread_call [some (.sh (.tup [.str c.nm, .str c.so, .tup (c.cs.map csD)])), _, none, none, none, none, none]) _ _ _ _
  unfold g_spread_call
  walk_at "gof"
  refine ok_lc2 ?_
  walk_at "gof"
  have hlen : ((c.cs.map fun k => md.map fun m => csD ⟨m, k.fa, k.up, m⟩).map List.length).sum ≤ 16 := by
    have := flat_len (f := fun k : Cs => md.map fun m => csD ⟨m, k.fa, k.up, m⟩) (xs := c.cs) (n := 4) fun k _ => by rw [List.length_map]; exact hm
    omega
  refine ⟨_, _, lc2_pure (ι := csD) (fun k => md.map fun m => csD ⟨m, k.fa, k.up, m⟩) c.cs [] (by simp only [List.length_nil]; omega) (fun k hk acc hacc => ?_), ?_⟩
  · walk_at "gof"
    have hacc : acc.length + md.length ≤ 1000000 := by simpa using hacc
    refine ⟨[some (.sh (clD c)), some (.sh (txs md)), some (.sh (.str c.nm)), some (.sh (.str c.so)), some (.sh (.tup (c.cs.map csD))), some (.sh (csD k)), none], ?_, rfl⟩
    have := lc_pure (ι := D.str) (vs := [6]) (p := pName 6) (ft := fYes) (fe := fTup (faCons (fVar 6) (faCons (fOp ixD (fVar 5) (fC (.int 1))) (faCons (fOp ixD (fVar 5) (fC (.int 2))) (faCons (fVar 6) faNil)))))
        (ρ := [some (.sh (clD c)), some (.sh (txs md)), some (.sh (.str c.nm)), some (.sh (.str c.so)), some (.sh (.tup (c.cs.map csD))), some (.sh (csD k)), none]) (fun _ => true) (fun m => csD ⟨m, k.fa, k.up, m⟩) md acc hacc (fun m hm2 => by
          walk_at "gof"
          exact ⟨rfl, fun _ => (by walk_at "gof"; exact ⟨rfl, rfl⟩), fun e => by cases e⟩)
    rw [List.filter_eq_self.mpr (fun _ _ => rfl)] at this
    exact this
  · rw [List.nil_append]
    walk_at "gof"
    refine ok_eq1 rfl ⟨?_, rfl⟩
    show _ = D.tup [.str c.nm, .str c.so, .tup (((c.cs.map fun k => md.map fun m => (⟨m, k.fa, k.up, m⟩ : Cs)).flatten).map csD)]
    rw [List.map_flatten, List.map_map]
    have e : (c.cs.map fun k => md.map fun m => csD ⟨m, k.fa, k.up, m⟩) = c.cs.map (List.map csD ∘ fun k => md.map fun m => (⟨m, k.fa, k.up, m⟩ : Cs)) := List.map_congr_left fun k _ => by
      show _ = (md.map _).map csD
      rw [List.map_map]; rfl
    rw [e]
end W77

/-! k77, the plain law: the joined design. -/
namespace W77
open PySem PySem.Spec L2 DL
def repV (n : Nat) (v : Vw) : Vw := ⟨v.nm, (List.replicate n v.fs).flatten⟩
def newC (one two : Mn) : List Cl := two.cl.filter fun c => !decide (c.nm ∈ nms one)
def joinM (one two : Mn) : Mn := ⟨one.fl ++ two.fl, one.md, one.cl.map (joinCl two) ++ (newC one two).map (sprCl one.md), one.vw ++ two.vw.map (repV one.md.length)⟩
def manyF (m : Mn) : Bool := m.cl.any fun c => c.cs.any fun k => decide (5 < k.fa.length)
theorem FmV.sub {fs gs : List Str} {g : Bool} {f : Fm} (h : FmV fs g f) (k : ∀ x ∈ fs, x ∈ gs) : FmV gs g f := ⟨h.toFmS, h.ok.imp fun x hx => hx.elim (fun z => .inl (k x z)) .inr⟩
theorem UpsV.sub {fs gs : List Str} {g : Bool} {us : List Upd} (h : UpsV fs g us) (k : ∀ x ∈ fs, x ∈ gs) : UpsV gs g us := ⟨h.nd, fun u hu => k _ (h.mem u hu), fun u hu => (h.ok u hu).sub k⟩
theorem CsV.sub {fs gs ms : List Str} {so : Str} {c : Cs} (h : CsV fs ms so c) (k : ∀ x ∈ fs, x ∈ gs) : CsV gs ms so c := ⟨h.m, h.af, h.one, h.len, fun f hf => ⟨(h.fa f hf).1.sub k, (h.fa f hf).2.sub k⟩, h.up.sub k, h.ul⟩
theorem ClV.sub {fs gs ms : List Str} {c : Cl} (h : ClV fs ms c) (k : ∀ x ∈ fs, x ∈ gs) : ClV gs ms c := ⟨h.nm, h.so, fun q hq => (h.cs q hq).sub k, h.nd, h.le⟩
theorem VwV.sub {fs gs ms : List Str} {v : Vw} (h : VwV fs ms v) (k : ∀ x ∈ fs, x ∈ gs) : VwV gs ms v := ⟨h.nm, h.len, fun f hf => (h.ok f hf).sub k⟩
theorem joinCl_nm (two : Mn) (c : Cl) : (joinCl two c).nm = c.nm := by
  unfold joinCl
  split
  · rfl
  · split <;> rfl
theorem one_case {m : Mn} (h : MnV m) {mode : Str} (hm : m.md = [mode]) {c : Cl} (hc : c ∈ m.cl) : c.cs = [] ∨ ∃ k, c.cs = [k] := by
  have hv := h.c c hc
  have : (c.cs.map (·.m)).length ≤ [mode].length := nd_len hv.nd fun x hx => by
    obtain ⟨k, hk, rfl⟩ := List.mem_map.mp hx
    rw [← hm]
    exact (hv.cs k hk).m
  rw [List.length_map] at this
  match hcs : c.cs, this with
  | [], _ => exact .inl rfl
  | [k], _ => exact .inr ⟨k, rfl⟩
  | _ :: _ :: _, h => exact absurd h (by simp)
theorem flat_rep {α : Type} : ∀ (n : Nat) (l : List α), (List.replicate n l).flatten.length = n * l.length
  | 0, l => by simp
  | n + 1, l => by rw [List.replicate_succ, List.flatten_cons, List.length_append, flat_rep n l, Nat.succ_mul]; omega
theorem mem_rep {α : Type} {x : α} : ∀ {n : Nat} {l : List α}, x ∈ (List.replicate n l).flatten → x ∈ l
  | 0, l, h => by simp at h
  | n + 1, l, h => by
    rw [List.replicate_succ, List.flatten_cons] at h
    exact (List.mem_append.mp h).elim id mem_rep
theorem nd_app {α : Type} {a b : List α} (ha : a.Nodup) (hb : b.Nodup) (h : ∀ x ∈ a, x ∉ b) : (a ++ b).Nodup := List.nodup_append.mpr ⟨ha, hb, fun x hx y hy e => h x hx (e ▸ hy)⟩
theorem join_ok {one two : Mn} (h1 : MnV one) (h2 : MnV two) (hc : canB one two = true) (hf : (joinM one two).fl.length ≤ 4) (hc8 : (joinM one two).cl.length ≤ 8) (hv4 : (joinM one two).vw.length ≤ 4) (hmf : manyF (joinM one two) = false) : MnV (joinM one two) := by
  unfold canB at hc
  rw [Bool.and_eq_true, Bool.and_eq_true, Bool.and_eq_true] at hc
  obtain ⟨c1, c2, c3, c4⟩ := hc
  have c1 := of_decide_eq_true c1
  obtain ⟨mode, hm⟩ : ∃ m, two.md = [m] := by
    have := h2.g1
    match h : two.md, c1, this with
    | [m], _, _ => exact ⟨m, rfl⟩
  have dis : ∀ x ∈ one.fl, x ∉ two.fl := fun x hx hy => by
    have : jb2 one two = true := List.any_eq_true.mpr ⟨x, hy, decide_eq_true hx⟩
    rw [this] at c2; cases c2
  have sub1 : ∀ x ∈ one.fl, x ∈ one.fl ++ two.fl := fun x h => List.mem_append_left _ h
  have sub2 : ∀ x ∈ two.fl, x ∈ one.fl ++ two.fl := fun x h => List.mem_append_right _ h
  have few : ∀ c ∈ (joinM one two).cl, ∀ k ∈ c.cs, k.fa.length ≤ 5 := fun c hc k hk => by
    by_cases hl : 5 < k.fa.length
    · have : manyF (joinM one two) = true := List.any_eq_true.mpr ⟨c, hc, List.any_eq_true.mpr ⟨k, hk, decide_eq_true hl⟩⟩
      rw [this] at hmf; cases hmf
    · omega
  have hf4 : (one.fl ++ two.fl).length ≤ 4 := hf
  exact { f := fun x hx => (List.mem_append.mp hx).elim (h1.f x) (h2.f x),
          fn := nd_app h1.fn h2.fn dis,
          f1 := by show 1 ≤ (one.fl ++ two.fl).length; rw [List.length_append]; have := h1.f1; omega,
          f4 := hf, g := h1.g, gn := h1.gn, g1 := h1.g1, g4 := h1.g4,
          c := fun c hc => by
            rcases List.mem_append.mp hc with hc' | hc'
            · obtain ⟨q, hq, rfl⟩ := List.mem_map.mp hc'
              have hqv := h1.c q hq
              have few' := few _ hc
              show ClV (one.fl ++ two.fl) one.md (joinCl two q)
              unfold joinCl at few' ⊢
              cases e : two.cl.find? (fun d => decide (d.nm = q.nm)) with
              | none => exact hqv.sub sub1
              | some d =>
                have hd := List.mem_of_find?_eq_some e
                have hdn : d.nm = q.nm := by simpa using List.find?_some e
                have hdv := h2.c d hd
                have hso : q.so = d.so := by
                  have hin : d ∈ two.cl.filter fun e => decide (e.nm ∈ nms one) := List.mem_filter.mpr ⟨hd, decide_eq_true (by rw [hdn]; exact List.mem_map_of_mem hq)⟩
                  have := of_decide_eq_true (List.all_eq_true.mp c4 d hin)
                  rw [hdn, sortIn_eq h1.cn hq] at this
                  exact this
                rw [e] at few'
                simp only at few' ⊢
                cases e2 : d.cs with
                | nil => exact clV_nil hqv.nm hqv.so
                | cons k ks =>
                  rw [e2] at few'
                  have hkv := hdv.cs k (by rw [e2]; exact List.mem_cons_self ..)
                  rw [← hso] at hkv
                  refine ⟨hqv.nm, hqv.so, fun z hz => ?_, by rw [List.map_map]; exact hqv.nd, by rw [List.length_map]; exact hqv.le⟩
                  have fz := few' z hz
                  obtain ⟨y, hy, rfl⟩ := List.mem_map.mp hz
                  have hyv := hqv.cs y hy
                  have hups : UpsV (one.fl ++ two.fl) (!decide (q.so = "none")) (y.up ++ k.up) := by
                    refine ⟨?_, fun u hu => (List.mem_append.mp hu).elim (fun z => sub1 _ (hyv.up.mem u z)) (fun z => sub2 _ (hkv.up.mem u z)), fun u hu => (List.mem_append.mp hu).elim (fun z => (hyv.up.ok u z).sub sub1) (fun z => (hkv.up.ok u z).sub sub2)⟩
                    rw [List.map_append]
                    refine nd_app hyv.up.nd hkv.up.nd fun x hx hx2 => ?_
                    obtain ⟨u, hu, rfl⟩ := List.mem_map.mp hx
                    obtain ⟨w, hw, e3⟩ := List.mem_map.mp hx2
                    have : w.1 ∈ two.fl := hkv.up.mem w hw
                    rw [e3] at this
                    exact dis _ (hyv.up.mem u hu) this
                  refine ⟨hyv.m, hyv.af, hyv.one, fz, fun f hf => (List.mem_append.mp hf).elim (fun z => ⟨(hyv.fa f z).1.sub sub1, (hyv.fa f z).2.sub sub1⟩) (fun z => ⟨(hkv.fa f z).1.sub sub2, (hkv.fa f z).2.sub sub2⟩), hups, ?_⟩
                  have := nd_len hups.nd fun x hx => by
                    obtain ⟨u, hu, rfl⟩ := List.mem_map.mp hx
                    exact hups.mem u hu
                  rw [List.length_map] at this
                  show (y.up ++ k.up).length ≤ 4
                  omega
            · obtain ⟨q, hq, rfl⟩ := List.mem_map.mp hc'
              have hq2 := (List.mem_filter.mp hq).1
              have hqv := h2.c q hq2
              show ClV (one.fl ++ two.fl) one.md (sprCl one.md q)
              unfold sprCl
              rcases one_case h2 hm hq2 with e | ⟨k, e⟩
              · rw [e]; exact clV_nil hqv.nm hqv.so
              · rw [e]
                have hkv := hqv.cs k (by rw [e]; exact List.mem_cons_self ..)
                have ef : ([k].map fun k => one.md.map fun m => (⟨m, k.fa, k.up, m⟩ : Cs)).flatten = one.md.map fun m => (⟨m, k.fa, k.up, m⟩ : Cs) := by simp
                rw [ef]
                refine ⟨hqv.nm, hqv.so, fun z hz => ?_, by rw [List.map_map]; simpa [Function.comp_def] using h1.gn, by rw [List.length_map]; exact h1.g4⟩
                obtain ⟨md, hmd, rfl⟩ := List.mem_map.mp hz
                exact ⟨hmd, hmd, fun _ => rfl, hkv.len, fun f hf => ⟨(hkv.fa f hf).1.sub sub2, (hkv.fa f hf).2.sub sub2⟩, hkv.up.sub sub2, hkv.ul⟩,
          cn := by
            show ((one.cl.map (joinCl two) ++ (newC one two).map (sprCl one.md)).map (·.nm)).Nodup
            rw [List.map_append, List.map_map, List.map_map]
            have e1 : one.cl.map ((fun c : Cl => c.nm) ∘ joinCl two) = nms one := List.map_congr_left fun c _ => joinCl_nm two c
            have e2 : (newC one two).map ((fun c : Cl => c.nm) ∘ sprCl one.md) = (newC one two).map (·.nm) := List.map_congr_left fun c _ => rfl
            rw [e1, e2]
            refine nd_app h1.cn ((List.filter_sublist.map _).nodup h2.cn) fun x hx hy => ?_
            obtain ⟨c, hc, rfl⟩ := List.mem_map.mp hy
            have := (List.mem_filter.mp hc).2
            simp at this
            exact this hx,
          c8 := hc8,
          v := fun v hv => by
            rcases List.mem_append.mp hv with hv | hv
            · exact (h1.v v hv).sub sub1
            · obtain ⟨w, hw, rfl⟩ := List.mem_map.mp hv
              have hwv := h2.v w hw
              refine ⟨hwv.nm, ?_, fun f hf => (hwv.ok f (mem_rep hf)).sub sub2⟩
              show (List.replicate one.md.length w.fs).flatten.length = one.md.length
              rw [flat_rep, hwv.len, hm]; simp,
          vn := by
            show ((one.vw ++ two.vw.map (repV one.md.length)).map (·.nm)).Nodup
            rw [List.map_append, List.map_map]
            refine nd_app h1.vn h2.vn fun x hx hy => ?_
            have : jb3 one two = true := List.any_eq_true.mpr ⟨x, hy, decide_eq_true hx⟩
            exact (by rw [this] at c3; cases c3),
          v4 := hv4 }
/-- what beside says -/
def outB (one two : Mn) : Rz := if canB one two = false then .ex "NotComparable" [] else if 4 < (joinM one two).fl.length then .ex "TooManyFields" [("limit", .int 4)] else if 8 < (joinM one two).cl.length then .ex "TooManyCalls" [("limit", .int 8)]
  else if 4 < (joinM one two).vw.length then .ex "TooManyViews" [("limit", .int 4)] else if manyF (joinM one two) = true then .ex "TooManyFacts" [("limit", .int 5)] else .ok (dsD (joinM one two))
theorem t_check_design {m : Mn} : F_check_design [dsD m] = some (.ok .non) := by
  refine Ok1.eq (ok_bodyX rfl ?_)
  show OkX (g_check_design [_]) _ _ _
  unfold g_check_design
  walk_at "gof"
  rfl
theorem can_md {one two : Mn} (h2 : MnV two) (h : canB one two = true) : ∃ m, two.md = [m] := by
  unfold canB at h
  rw [Bool.and_eq_true] at h
  have c1 := of_decide_eq_true h.1
  have := h2.g1
  match h : two.md, c1, this with
  | [m], _, _ => exact ⟨m, rfl⟩
theorem rep_map {α : Type} (κ : α → D) : ∀ (n : Nat) (l : List α), (List.replicate n (l.map κ)).flatten = ((List.replicate n l).flatten).map κ
  | 0, l => by simp
  | n + 1, l => by rw [List.replicate_succ, List.flatten_cons, rep_map κ n l, List.replicate_succ, List.flatten_cons, List.map_append]
theorem mul_forms {fs : List Fm} {n : Nat} {P : D → Prop} (h : 1 ≤ fs.length) (h1 : fs.length ≤ 4) (hn : 1 ≤ n) (hn4 : n ≤ 4) (k : P (.tup (((List.replicate n fs).flatten).map Fm.d))) : Ok1 (mulD (.tup (fs.map Fm.d)) (.int (n : Nat))) P := by
  have e1 : fs.map Fm.d ≠ [] := by
    intro z
    have := congrArg List.length z
    rw [List.length_map] at this
    simp at this
    rw [this] at h
    simp at h
  refine p_mulT e1 hn (by omega) (by rw [List.length_map]; omega) ?_
  rw [rep_map]
  exact k
theorem t_beside {one two : Mn} (h1 : MnV one) (h2 : MnV two) : F_beside [dsD one, dsD two] = some (outB one two) := by
  have hf1 := h1.f4
  have hf2 := h2.f4
  have hc1 := h1.c8
  have hc2 := h2.c8
  have hv1 := h1.v4
  have hv2 := h2.v4
  refine Ok1.eq (ok_bodyX rfl ?_)
  show OkX (g_beside [_, _, none, none, none, none, none, none, none]) _ _ _
  unfold g_beside
  walk_at "gof"
  refine ok_eq1 t_check_design ?_
  walk_at "gof"
  refine ok_eq1 t_check_design ?_
  walk_at "gof"
  refine ok_eq2 (t_can_join h1 h2) ⟨rfl, ?_⟩
  walk_at "gof"
  refine ⟨fun e => ?_, fun e => ?_⟩
  · walk_at "gof"
    have e : canB one two = false := by simpa using e
    unfold outB
    rw [if_pos e]
  have hcan : canB one two = true := by simpa using e
  obtain ⟨mode, hm⟩ := can_md h2 hcan
  have nc : ¬ canB one two = false := by rw [hcan]; decide
  walk_at "gof"
  refine p_addT (by simp; omega) ?_
  rw [← List.map_append]
  walk_at "gof"
  have lf : (joinM one two).fl.length = one.fl.length + two.fl.length := List.length_append ..
  refine ⟨fun e => ?_, fun e => ?_⟩
  · have e := of_decide_eq_true e
    rw [List.length_map] at e
    walk_at "gof"
    unfold outB
    rw [if_neg nc, if_pos (by show 4 < (one.fl ++ two.fl).length; omega)]
  have nf : ¬ 4 < (joinM one two).fl.length := by
    have e := of_decide_eq_false e
    rw [List.length_map] at e
    show ¬ 4 < (one.fl ++ two.fl).length
    omega
  walk_at "gof"
  refine ok_lcM (fun c => clD (joinCl two c)) ?_ (fun c hc => ?_) ?_
  · omega
  · walk_at "gof"
    exact ok_eq2 (t_joined_call h1 h2 hm hc) ⟨rfl, rfl, rfl⟩
  walk_at "gof"
  refine ok_lcP (fun c => !decide (c.nm ∈ nms one)) (fun c => clD (sprCl one.md c)) ?_ (fun c hc => ?_) ?_
  · omega
  · walk_at "gof"
    refine ⟨_, rfl, ok_eq2 t_contains ⟨rfl, _, rfl, ?_⟩⟩
    walk_at "gof"
    refine ⟨rfl, fun _ => ?_, fun _ => rfl⟩
    walk_at "gof"
    exact ok_eq2 (t_spread_call (h2.c c hc).le h1.g4) ⟨rfl, rfl, rfl⟩
  have ecl : one.cl.map (fun c => clD (joinCl two c)) ++ (two.cl.filter fun c => !decide (c.nm ∈ nms one)).map (fun c => clD (sprCl one.md c)) = (joinM one two).cl.map clD := by
    show _ = (one.cl.map (joinCl two) ++ (newC one two).map (sprCl one.md)).map clD
    rw [List.map_append, List.map_map, List.map_map]; rfl
  walk_at "gof"
  rotate_left
  · have := List.length_filter_le (fun c => !decide (c.nm ∈ nms one)) two.cl
    simp only [List.length_map]
    omega
  simp only [List.nil_append]
  rw [ecl]
  have lcl : (joinM one two).cl.length ≤ 16 := by
    have := List.length_filter_le (fun c => !decide (c.nm ∈ nms one)) two.cl
    show (one.cl.map (joinCl two) ++ (newC one two).map (sprCl one.md)).length ≤ 16
    rw [List.length_append, List.length_map, List.length_map]
    unfold newC
    omega
  walk_at "gof"
  refine ⟨fun e => ?_, fun e => ?_⟩
  · have e := of_decide_eq_true e
    rw [List.length_map] at e
    walk_at "gof"
    unfold outB
    rw [if_neg nc, if_neg nf, if_pos (by omega)]
  have ncl : ¬ 8 < (joinM one two).cl.length := by
    have e := of_decide_eq_false e
    rw [List.length_map] at e
    omega
  walk_at "gof"
  refine ok_lcM (fun v => vwD (repV one.md.length v)) ?_ (fun v hv => ?_) ?_
  · omega
  · have hvv := h2.v v hv
    have hvl : v.fs.length = 1 := by rw [hvv.len, hm]; rfl
    show Ok1 (pTup 2 _ (.tup [.str v.nm, .tup (v.fs.map Fm.d)]) _) _
    walk_at "gof"
    rw [List.length_map]
    refine mul_forms (by omega) (by omega) h1.g1 h1.g4 ?_
    walk_at "gof"
    exact ⟨rfl, rfl⟩
  walk_at "gof"
  refine p_addT (by simp; omega) ?_
  have evw : one.vw.map vwD ++ two.vw.map (fun v => vwD (repV one.md.length v)) = (joinM one two).vw.map vwD := by
    show _ = (one.vw ++ two.vw.map (repV one.md.length)).map vwD
    rw [List.map_append, List.map_map]; rfl
  rw [evw]
  walk_at "gof"
  refine ⟨fun e => ?_, fun e => ?_⟩
  · have e := of_decide_eq_true e
    rw [List.length_map] at e
    walk_at "gof"
    unfold outB
    rw [if_neg nc, if_neg nf, if_neg ncl, if_pos (by omega)]
  have nv : ¬ 4 < (joinM one two).vw.length := by
    have e := of_decide_eq_false e
    rw [List.length_map] at e
    omega
  walk_at "gof"
  refine ok_lc2 ?_
  walk_at "gof"
  have lcs : ∀ c ∈ (joinM one two).cl, c.cs.length ≤ 4 := fun c hc => by
    rcases List.mem_append.mp hc with hc | hc
    · obtain ⟨q, hq, rfl⟩ := List.mem_map.mp hc
      have := (h1.c q hq).le
      unfold joinCl
      split
      · exact this
      · split
        · exact Nat.zero_le _
        · show (q.cs.map _).length ≤ 4
          rw [List.length_map]; exact this
    · obtain ⟨q, hq, rfl⟩ := List.mem_map.mp hc
      have := h1.g4
      unfold sprCl
      rcases one_case h2 hm (List.mem_filter.mp hq).1 with e | ⟨k, e⟩
      · rw [e]; exact Nat.zero_le _
      · rw [e]; simp; omega
  have lsum : ((((joinM one two).cl.map fun c : Cl => c.cs.map fun k => D.bl (decide (5 < k.fa.length))).map List.length).sum) ≤ 64 := by
    have : ∀ (xs : List Cl), (∀ c ∈ xs, c.cs.length ≤ 4) → ((xs.map fun c : Cl => c.cs.map fun k => D.bl (decide (5 < k.fa.length))).map List.length).sum ≤ xs.length * 4 := by
      intro xs hx
      induction xs with
      | nil => exact Nat.zero_le _
      | cons x xs ih =>
        have a := hx x (List.mem_cons_self ..)
        have b := ih fun y hy => hx y (List.mem_cons_of_mem _ hy)
        simp only [List.map_cons, List.sum_cons, List.length_cons, Nat.succ_mul, List.length_map] at b ⊢
        omega
    have := this (joinM one two).cl lcs
    omega
  refine ⟨_, _, lc2_pure (ι := clD) (fun c : Cl => c.cs.map fun k => D.bl (decide (5 < k.fa.length))) (joinM one two).cl [] (by simp only [List.length_nil]; omega) (fun c hc acc hacc => ?_), ?_⟩
  · walk_at "gof"
    have hacc : acc.length + c.cs.length ≤ 1000000 := by simpa using hacc
    refine ⟨[some (.sh (dsD one)), some (.sh (dsD two)), some (.sh (.tup ((one.fl ++ two.fl).map .str))), some (.sh (.lst ((joinM one two).cl.map clD))), some (.sh (.tup ((joinM one two).vw.map vwD))), some (.sh (clD c)), none, none, none], ?_, rfl⟩
    have := lc_pure (ι := csD) (vs := [8]) (p := pName 8) (ft := fYes) (fe := (fOp gtD (fCB lenD (faCons (fOp ixD (fVar 8) (fC (.int (1)))) faNil)) (fC (.int 5))))
        (ρ := [some (.sh (dsD one)), some (.sh (dsD two)), some (.sh (.tup ((one.fl ++ two.fl).map .str))), some (.sh (.lst ((joinM one two).cl.map clD))), some (.sh (.tup ((joinM one two).vw.map vwD))), some (.sh (clD c)), none, none, none]) (fun _ => true) (fun k => D.bl (decide (5 < k.fa.length))) c.cs acc hacc (fun k hk => by
          walk_at "gof"
          refine ⟨rfl, fun _ => ?_, fun e => by cases e⟩
          walk_at "gof"
          refine ⟨?_, rfl⟩
          rw [List.length_map]
          congr 2
          simp only [eq_iff_iff]
          omega)
    rw [List.filter_eq_self.mpr (fun _ _ => rfl)] at this
    exact this
  have eany : ((joinM one two).cl.map fun c : Cl => c.cs.map fun k => D.bl (decide (5 < k.fa.length))).flatten = (((joinM one two).cl.map (·.cs)).flatten).map fun k => D.bl (decide (5 < k.fa.length)) := by
    rw [List.map_flatten, List.map_map]; rfl
  rw [List.nil_append, eany]
  walk_at "gof"
  refine p_any (f := fun k => decide (5 < k.fa.length)) (fun _ => rfl) ?_
  have em : ((((joinM one two).cl.map (·.cs)).flatten).any fun k => decide (5 < k.fa.length)) = manyF (joinM one two) := by
    unfold manyF
    rw [List.any_flatten, List.any_map]; rfl
  rw [em]
  walk_at "gof"
  refine ⟨fun e => ?_, fun e => ?_⟩
  · walk_at "gof"
    unfold outB
    rw [if_neg nc, if_neg nf, if_neg ncl, if_neg nv, if_pos e]
  walk_at "gof"
  refine ok_eq2 (t_init (join_ok h1 h2 hcan (by omega) (by omega) (by omega) e)) ⟨_, _, rfl, rfl, ?_⟩
  unfold outB
  rw [if_neg nc, if_neg nf, if_neg ncl, if_neg nv, if_neg (by rw [e]; decide)]
/-- what is no design -/
structure Odd (d : D) : Prop where
  n : ∀ fs, d ≠ .obj "Design" fs
  is : isiD kt [d, .fn "Design"] = some (.bl false)
  ok : OkN 20 d
theorem t_check_odd {d : D} (h : Odd d) : F_check_design [d] = some (.ex "NotADesign" [("value", d)]) := by
  refine Ok1.eq (ok_bodyX rfl ?_)
  show OkX (g_check_design [_]) _ _ _
  unfold g_check_design
  walk_at "gof"
  refine ok_eq1 h.is ?_
  walk_at "gof"
  rfl
theorem t_beside_odd1 {d e : D} (h : Odd d) : F_beside [d, e] = some (.ex "NotADesign" [("value", d)]) := by
  refine Ok1.eq (ok_bodyX rfl ?_)
  show OkX (g_beside [_, _, none, none, none, none, none, none, none]) _ _ _
  unfold g_beside
  walk_at "gof"
  refine ok_eq1 (t_check_odd h) ?_
  rfl
theorem t_beside_odd2 {m : Mn} {d : D} (h : Odd d) : F_beside [dsD m, d] = some (.ex "NotADesign" [("value", d)]) := by
  refine Ok1.eq (ok_bodyX rfl ?_)
  show OkX (g_beside [_, _, none, none, none, none, none, none, none]) _ _ _
  unfold g_beside
  walk_at "gof"
  refine ok_eq1 t_check_design ?_
  walk_at "gof"
  refine ok_eq1 (t_check_odd h) ?_
  rfl
end W77

/-! k77, the plain law: what the law puts together. -/
namespace W77
open PySem PySem.Spec L2 DL
theorem filt_one {m : Mn} (h : (m.cl.map (·.nm)).Nodup) {d : Cl} (hd : d ∈ m.cl) : m.cl.filter (fun e => decide (e.nm = d.nm)) = [d] := by
  have hs : (m.cl.filter fun e => decide (e.nm = d.nm)).Sublist m.cl := List.filter_sublist
  have hn : ((m.cl.filter fun e => decide (e.nm = d.nm)).map (·.nm)).Nodup := (hs.map _).nodup h
  have hall : ∀ e ∈ m.cl.filter (fun e => decide (e.nm = d.nm)), e.nm = d.nm := fun e he => of_decide_eq_true (List.mem_filter.mp he).2
  have hin : d ∈ m.cl.filter (fun e => decide (e.nm = d.nm)) := List.mem_filter.mpr ⟨hd, by simp⟩
  cases hf : m.cl.filter (fun e => decide (e.nm = d.nm)) with
  | nil => rw [hf] at hin; cases hin
  | cons x r =>
    cases r with
    | nil => rw [hf] at hin; rw [List.mem_singleton.mp hin]
    | cons y r =>
      rw [hf] at hn hall
      have e1 := hall x (List.mem_cons_self ..)
      have e2 := hall y (List.mem_cons_of_mem _ (List.mem_cons_self ..))
      simp [e1, e2] at hn
theorem filt_no {m : Mn} {x : Str} (h : x ∉ nms m) : m.cl.filter (fun e => decide (e.nm = x)) = [] := List.filter_eq_nil_iff.mpr fun c hc => by
  have : c.nm ≠ x := fun e => h (e ▸ List.mem_map_of_mem hc)
  simpa using this
theorem t_side {one two : Mn} {mode : Str} (h1 : MnV one) (h2 : MnV two) (hm : two.md = [mode]) : F__law_side_by_side [mnD one, mnD two] = some (mnD (joinM one two), [.non, .non]) := by
  have hf1 := h1.f4
  have hf2 := h2.f4
  have hc1 := h1.c8
  have hc2 := h2.c8
  have hv1 := h1.v4
  have hv2 := h2.v4
  refine Ok2.eq (ok_body rfl ?_)
  show OkS (g__law_side_by_side [some (.sh (.tup (mnL one))), some (.sh (.tup (mnL two))), none, none, none, none, none, none, none, none, none, none, none, none, none, none, none, none]) _ _ _ _
  unfold g__law_side_by_side
  walk_at "gof"
  refine ok_forI (I := fun done ρ => ∃ (x3 x4 x5 x6 x7 x8 x9 x10 x11 x12 x13 : Option Sl), ρ = [some (.sh (.tup (mnL one))), some (.sh (.tup (mnL two))), some (.ow true (.lst ((done.map (joinCl two)).map clD))), x3, x4, x5, x6, x7, x8, x9, x10, x11, x12, x13, none, none, none, none])
    ⟨_, _, _, _, _, _, _, _, _, _, _, rfl⟩ ?_ ?_
  · rintro done c rest e ρ ⟨x3, x4, x5, x6, x7, x8, x9, x10, x11, x12, x13, rfl⟩
    have hc : c ∈ one.cl := by rw [e]; simp
    have hcv := h1.c c hc
    have hcle := hcv.le
    have hdl : done.length < 8 := by rw [e] at hc1; simp at hc1; omega
    have fin : ∀ (q : Cl), joinCl two c = q → ∀ (x3 x4 x5 x6 x7 x8 x9 x10 x11 x12 x13 : Option Sl), ∃ (y3 y4 y5 y6 y7 y8 y9 y10 y11 y12 y13 : Option Sl), [some (.sh (.tup (mnL one))), some (.sh (.tup (mnL two))), some (.ow true (.lst ((done.map (joinCl two)).map clD ++ [clD q]))), x3, x4, x5, x6, x7, x8, x9, x10, x11, x12, x13, none, none, none, none] = [some (.sh (.tup (mnL one))), some (.sh (.tup (mnL two))), some (.ow true (.lst (((done ++ [c]).map (joinCl two)).map clD))), y3, y4, y5, y6, y7, y8, y9, y10, y11, y12, y13, none, none, none, none] := by
      rintro q rfl x3 x4 x5 x6 x7 x8 x9 x10 x11 x12 x13
      exact ⟨_, _, _, _, _, _, _, _, _, _, _, by rw [List.map_append, List.map_append]; rfl⟩
    show Ok1 (pTup 3 _ (.tup [.str c.nm, .str c.so, .tup (c.cs.map csD)]) _) _
    walk_at "gof"
    refine ok_lcP (ι := clD) (fun d => decide (d.nm = c.nm)) clD ?_ (fun d hd => ?_) ?_
    · omega
    · walk_at "gof"
      refine p_eqS (h2.c d hd).nm.okS hcv.nm.okS ?_
      walk_at "gof"
      refine ⟨rfl, fun _ => ?_, fun _ => rfl⟩
      walk_at "gof"
      exact ⟨rfl, rfl⟩
    by_cases hn : c.nm ∈ nms two
    · obtain ⟨d, hd1, hd2⟩ := List.mem_map.mp hn
      have hd2 : d.nm = c.nm := hd2
      have hff : two.cl.filter (fun e => decide (e.nm = c.nm)) = [d] := by rw [← hd2]; exact filt_one h2.cn hd1
      have hfd : two.cl.find? (fun e => decide (e.nm = c.nm)) = some d := by rw [← hd2]; exact find_nm h2.cn hd1
      have hok : OkN 16 (.lst [clD d]) := okN_lst fun x hx => by rw [List.mem_singleton.mp hx]; exact h2.okN_cl1 hd1
      rw [hff]
      simp only [List.map_cons, List.map_nil]
      walk_at "gof"
      refine ok_eq1 (ne_nilL hok (by decide)) ?_
      refine ⟨true, rfl, br_t ?_⟩
      walk_at "gof"
      show Ok1 (eqD (.tup (d.cs.map csD)) (.tup [])) _
      refine ok_eq1 (eq_nilT (okN_tup (n := 13) (okN_map fun k hk => h2.okN_cs hd1 hk)) (by decide)) ?_
      walk_at "gof"
      refine ok_eq1 (ne_nilL hok (by decide)) ?_
      walk_at "gof"
      refine br_true rfl ?_
      walk_at "gof"
      cases hk : d.cs with
      | nil =>
        have hj : joinCl two c = ⟨c.nm, c.so, []⟩ := by
          unfold joinCl
          rw [hfd]
          simp only [hk]
        refine br_false rfl ?_
        walk_at "gof"
        refine br_true rfl ?_
        walk_at "gof"
        refine ok_for0 ?_
        walk_at "gof"
        · exact fin _ hj _ _ _ _ _ _ _ _ _ _ _
        · simp; omega
      | cons k ks =>
        have hkv := (h2.c d hd1).cs k (by rw [hk]; exact List.mem_cons_self ..)
        have hkl := hkv.len
        have hku := hkv.ul
        have hj : joinCl two c = ⟨c.nm, c.so, c.cs.map (addCs k)⟩ := by
          unfold joinCl
          rw [hfd]
          simp only [hk]
        refine br_true rfl ?_
        walk_at "gof"
        rw [hk]
        simp only [List.map_cons]
        walk_at "gof"
        refine br_false rfl ?_
        walk_at "gof"
        refine ok_forI (I := fun dn ρ => ∃ (x10 x11 x12 x13 : Option Sl), ρ = [some (.sh (.tup (mnL one))), some (.sh (.tup (mnL two))), some (.ow true (.lst ((done.map (joinCl two)).map clD))), some (.sh (.str c.nm)), some (.sh (.str c.so)), some (.sh (.tup (c.cs.map csD))), some (.sh (.lst [clD d])), some (.ow true (.lst ((dn.map (addCs k)).map csD))), some (.sh (.bl false)), some (.sh (csD k)), x10, x11, x12, x13, none, none, none, none])
          ⟨_, _, _, _, rfl⟩ ?_ ?_
        · rintro dn q rs e2 ρ ⟨x10, x11, x12, x13, rfl⟩
          have hq : q ∈ c.cs := by rw [e2]; simp
          have hqv := hcv.cs q hq
          have hql := hqv.len
          have hqu := hqv.ul
          have hdn : dn.length < 4 := by rw [e2] at hcle; simp at hcle; omega
          show Ok1 (pTup 4 _ (.tup [.str q.m, .tup (q.fa.map fcD), .tup (q.up.map upD), .str q.af]) _) _
          walk_at "gof"
          refine p_addT (by simp; omega) ?_
          walk_at "gof"
          refine p_addT (by simp; omega) ?_
          walk_at "gof"
          · have el : ((dn.map (addCs k)).map csD) ++ [D.tup [.str q.m, .tup (q.fa.map fcD ++ k.fa.map fcD), .tup (q.up.map upD ++ k.up.map upD), .str q.af]] = ((dn ++ [q]).map (addCs k)).map csD := by
              rw [List.map_append (l₁ := dn), List.map_append (f := csD), ← List.map_append (f := fcD), ← List.map_append (f := upD)]; rfl
            exact ⟨_, _, _, _, by rw [el]⟩
          · simp; omega
        · rintro ρ ⟨x10, x11, x12, x13, rfl⟩
          walk_at "gof"
          · exact fin ⟨c.nm, c.so, c.cs.map (addCs k)⟩ hj _ _ _ _ _ _ _ _ _ _ _
          · simp; omega
    · have hff := filt_no hn
      have hj : joinCl two c = c := by
        unfold joinCl
        rw [find_none hn]
      have hok : OkN 1 (.lst []) := okN_lst nomem
      rw [hff]
      simp only [List.map_nil]
      walk_at "gof"
      refine ok_eq1 (ne_nilL hok (by decide)) ?_
      refine ⟨false, rfl, br_f ?_⟩
      walk_at "gof"
      refine ok_eq1 (ne_nilL hok (by decide)) ?_
      walk_at "gof"
      refine br_false rfl ?_
      walk_at "gof"
      refine br_false rfl ?_
      walk_at "gof"
      refine ok_forI (I := fun dn ρ => ∃ (x10 x11 x12 x13 : Option Sl), ρ = [some (.sh (.tup (mnL one))), some (.sh (.tup (mnL two))), some (.ow true (.lst ((done.map (joinCl two)).map clD))), some (.sh (.str c.nm)), some (.sh (.str c.so)), some (.sh (.tup (c.cs.map csD))), some (.sh (.lst [])), some (.ow true (.lst (dn.map csD))), some (.sh (.bl false)), some (.sh (.tup [.str "", .tup [], .tup [], .str ""])), x10, x11, x12, x13, none, none, none, none])
        ⟨_, _, _, _, rfl⟩ ?_ ?_
      · rintro dn q rs e2 ρ ⟨x10, x11, x12, x13, rfl⟩
        have hq : q ∈ c.cs := by rw [e2]; simp
        have hqv := hcv.cs q hq
        have hql := hqv.len
        have hqu := hqv.ul
        have hdn : dn.length < 4 := by rw [e2] at hcle; simp at hcle; omega
        show Ok1 (pTup 4 _ (.tup [.str q.m, .tup (q.fa.map fcD), .tup (q.up.map upD), .str q.af]) _) _
        walk_at "gof"
        refine p_addT (by simp; omega) ?_
        walk_at "gof"
        refine p_addT (by simp; omega) ?_
        walk_at "gof"
        · have el : dn.map csD ++ [D.tup [.str q.m, .tup (q.fa.map fcD ++ []), .tup (q.up.map upD ++ []), .str q.af]] = (dn ++ [q]).map csD := by
            rw [List.append_nil, List.append_nil, List.map_append]; rfl
          exact ⟨_, _, _, _, by rw [el]⟩
        · simp; omega
      · rintro ρ ⟨x10, x11, x12, x13, rfl⟩
        walk_at "gof"
        · exact fin c hj _ _ _ _ _ _ _ _ _ _ _
        · simp; omega
  rintro ρ ⟨x3, x4, x5, x6, x7, x8, x9, x10, x11, x12, x13, rfl⟩
  walk_at "gof"
  refine ok_forI (I := fun done ρ => ∃ (x3 x4 x5 x7 x10 x14 : Option Sl), ρ = [some (.sh (.tup (mnL one))), some (.sh (.tup (mnL two))), some (.ow true (.lst ((one.cl.map (joinCl two) ++ (done.filter fun c => !decide (c.nm ∈ nms one)).map (sprCl one.md)).map clD))), x3, x4, x5, x6, x7, x8, x9, x10, x11, x12, x13, x14, none, none, none])
    ⟨x3, x4, x5, x7, x10, none, by simp⟩ ?_ ?_
  · rintro done c rest e ρ ⟨x3, x4, x5, x7, x10, x14, rfl⟩
    have hc : c ∈ two.cl := by rw [e]; simp
    have hcv := h2.c c hc
    have hdl : done.length < 8 := by rw [e] at hc2; simp at hc2; omega
    have hdf := List.length_filter_le (fun c : Cl => !decide (c.nm ∈ nms one)) done
    have ent : ∀ {ρ : En} {P : List D → En → Prop}, True := trivial
    show Ok1 (pTup 3 _ (.tup [.str c.nm, .str c.so, .tup (c.cs.map csD)]) _) _
    walk_at "gof"
    refine ok_lcM (ι := clD) (fun c => .str c.nm) ?_ (fun c hc => ?_) ?_
    · omega
    · walk_at "gof"
      exact ⟨rfl, rfl⟩
    rw [show (one.cl.map fun c => D.str c.nm) = (nms one).map .str by unfold nms; rw [List.map_map]; rfl]
    walk_at "gof"
    by_cases hn : c.nm ∈ nms one
    · have hfl : (done ++ [c]).filter (fun c => !decide (c.nm ∈ nms one)) = done.filter (fun c => !decide (c.nm ∈ nms one)) := by simp [hn]
      refine br_false (by simp [hn]) ?_
      walk_at "gof"
      refine ok_for0 ?_
      walk_at "gof"
      refine ok_lcM (ι := clD) (fun c => .str c.nm) ?_ (fun c hc => ?_) ?_
      · omega
      · walk_at "gof"
        exact ⟨rfl, rfl⟩
      rw [show (one.cl.map fun c => D.str c.nm) = (nms one).map .str by unfold nms; rw [List.map_map]; rfl]
      walk_at "gof"
      refine br_false (by simp [hn]) ?_
      exact ok_next ⟨_, _, _, _, _, _, by rw [hfl]⟩
    · have hfl : (done ++ [c]).filter (fun c => !decide (c.nm ∈ nms one)) = done.filter (fun c => !decide (c.nm ∈ nms one)) ++ [c] := by simp [hn]
      have last : ∀ (x14 : Option Sl) (y7 : Sl), (y7 = .ow true (.lst ((sprCl one.md c).cs.map csD)) ∨ y7 = .sh (.lst ((sprCl one.md c).cs.map csD))) → ∀ {R : D → En → Prop} {B C : En → Prop} {x10 : Option Sl},
          OkS (gIf (fBt (fOp ninD (fVar 3) (fL (fLc [16] (fIt (fOp ixD (fVar 0) (fC (.int (2))))) (pName 16) fYes (fOp ixD (fVar 16) (fC (.int (0)))))))) (gApp 2 (fTup (faCons (fVar 3) (faCons (fVar 4) (faCons (fCB tupD (faCons (fVar 7) faNil)) faNil))))) gNext
            [some (.sh (.tup (mnL one))), some (.sh (.tup (mnL two))), some (.ow true (.lst ((one.cl.map (joinCl two) ++ (done.filter fun c => !decide (c.nm ∈ nms one)).map (sprCl one.md)).map clD))), some (.sh (.str c.nm)), some (.sh (.str c.so)), some (.sh (.tup (c.cs.map csD))), x6, some y7, x8, x9, x10, x11, x12, x13, x14, none, none, none])
            (fun ρ => ∃ (x3 x4 x5 x7 x10 x14 : Option Sl), ρ = [some (.sh (.tup (mnL one))), some (.sh (.tup (mnL two))), some (.ow true (.lst ((one.cl.map (joinCl two) ++ ((done ++ [c]).filter fun c => !decide (c.nm ∈ nms one)).map (sprCl one.md)).map clD))), x3, x4, x5, x6, x7, x8, x9, x10, x11, x12, x13, x14, none, none, none]) R B C := by
        intro x14 y7 hy R B C x10
        walk_at "gof"
        refine ok_lcM (ι := clD) (fun c => .str c.nm) ?_ (fun c hc => ?_) ?_
        · omega
        · walk_at "gof"
          exact ⟨rfl, rfl⟩
        rw [show (one.cl.map fun c => D.str c.nm) = (nms one).map .str by unfold nms; rw [List.map_map]; rfl]
        walk_at "gof"
        refine br_true (by simp [hn]) ?_
        rcases hy with rfl | rfl
        all_goals
          walk_at "gof"
          · have el : (one.cl.map (joinCl two) ++ (done.filter fun c => !decide (c.nm ∈ nms one)).map (sprCl one.md)).map clD ++ [D.tup [.str c.nm, .str c.so, .tup ((sprCl one.md c).cs.map csD)]] = (one.cl.map (joinCl two) ++ ((done ++ [c]).filter fun c => !decide (c.nm ∈ nms one)).map (sprCl one.md)).map clD := by
              rw [hfl, List.map_append (l₁ := done.filter _), ← List.append_assoc, List.map_append (f := clD) (l₂ := [c].map (sprCl one.md))]
              rfl
            exact ⟨_, _, _, _, _, _, by rw [el]⟩
          · simp; omega
      refine br_true (by simp [hn]) ?_
      rcases one_case h2 hm hc with ec | ⟨k, ec⟩
      · have es : (sprCl one.md c).cs = [] := by unfold sprCl; rw [ec]; rfl
        walk_at "gof"
        refine ok_for0e (by rw [ec]; rfl) ?_
        exact last _ (.ow true (.lst [])) (.inl (by rw [es]; rfl))
      · have es : (sprCl one.md c).cs = one.md.map fun m => (⟨m, k.fa, k.up, m⟩ : Cs) := by unfold sprCl; rw [ec]; simp
        have hg4 := h1.g4
        walk_at "gof"
        refine ok_for1e (x := csD k) (by rw [ec]; rfl) ?_
        walk_at "gof"
        refine ok_lcM (ι := D.str) (xs := one.md) (fun m => csD ⟨m, k.fa, k.up, m⟩) ?_ (fun m hm => ?_) ?_
        · omega
        · walk_at "gof"
          exact ⟨rfl, rfl⟩
        refine p_addL (by simp; omega) ?_
        rw [List.nil_append]
        refine ok_name (.s (.s (.s (.s (.s (.s (.s .z))))))) ?_
        refine last _ (.sh (.lst (one.md.map fun m => csD ⟨m, k.fa, k.up, m⟩))) (.inr ?_)
        rw [es, List.map_map]; rfl
  · rintro ρ ⟨x3, x4, x5, x7, x10, x14, rfl⟩
    walk_at "gof"
    refine ok_lcM (ι := vwD) (fun v => vwD (repV one.md.length v)) ?_ (fun v hv => ?_) ?_
    · omega
    · have hvv := h2.v v hv
      have hvl : v.fs.length = 1 := by rw [hvv.len, hm]; rfl
      show Ok1 (pTup 2 _ (.tup [.str v.nm, .tup (v.fs.map Fm.d)]) _) _
      walk_at "gof"
      rw [List.length_map]
      refine mul_forms (by omega) (by omega) h1.g1 h1.g4 ?_
      walk_at "gof"
      exact ⟨rfl, rfl⟩
    walk_at "gof"
    refine p_addT (by simp; omega) ?_
    walk_at "gof"
    refine p_addT (by simp; omega) ?_
    walk_at "gof"
    refine ok_eq1 rfl ⟨?_, rfl⟩
    show _ = D.tup [.tup ((one.fl ++ two.fl).map .str), txs one.md, .tup ((one.cl.map (joinCl two) ++ (newC one two).map (sprCl one.md)).map clD), .tup ((one.vw ++ two.vw.map (repV one.md.length)).map vwD)]
    rw [List.map_append (l₁ := one.fl), List.map_append (l₁ := one.vw), List.map_map (l := two.vw)]
    rfl
end W77

/-! k77, the plain law: what is due; the law. -/
namespace W77
open PySem PySem.Spec L2 DL
theorem t_law_design {m : Mn} (h : MnV m) : F__law_design [mnD m] = some (dsD m, [.non]) := by
  refine Ok2.eq (ok_body rfl ?_)
  show OkS (g__law_design [some (.sh (.tup (mnL m)))]) _ _ _ _
  unfold g__law_design
  walk_at "gof"
  refine ok_eq2 (t_init h) ⟨_, _, rfl, rfl, ?_⟩
  exact ok_eq1 rfl ⟨rfl, rfl⟩
def dueD (one two : Mn) : D := if canB one two = false then .tup [.str "apart", .bl true] else if 4 < (joinM one two).fl.length then .tup [.str "fields", .int 4] else if 8 < (joinM one two).cl.length then .tup [.str "calls", .int 8]
  else if 4 < (joinM one two).vw.length then .tup [.str "views", .int 4] else if manyF (joinM one two) = true then .tup [.str "facts", .int 5] else .tup [.str "fine", dsD (joinM one two)]
theorem h_design {d : D} : hdl "NotADesign" [("value", d)] = some (.tup [.str "design", d]) := by unfold hdl; dsimp only; rw [if_pos ⟨rfl, rfl⟩]
theorem h_fields {d : D} : hdl "TooManyFields" [("limit", d)] = some (.tup [.str "fields", d]) := by
  unfold hdl; dsimp only; rw [if_neg (by decide +kernel), if_pos ⟨rfl, rfl⟩]
theorem h_calls {d : D} : hdl "TooManyCalls" [("limit", d)] = some (.tup [.str "calls", d]) := by
  unfold hdl; dsimp only; rw [if_neg (by decide +kernel), if_neg (by decide +kernel), if_pos ⟨rfl, rfl⟩]
theorem h_views {d : D} : hdl "TooManyViews" [("limit", d)] = some (.tup [.str "views", d]) := by
  unfold hdl; dsimp only; rw [if_neg (by decide +kernel), if_neg (by decide +kernel), if_neg (by decide +kernel), if_pos ⟨rfl, rfl⟩]
theorem h_facts {d : D} : hdl "TooManyFacts" [("limit", d)] = some (.tup [.str "facts", d]) := by
  unfold hdl; dsimp only; rw [if_neg (by decide +kernel), if_neg (by decide +kernel), if_neg (by decide +kernel), if_neg (by decide +kernel), if_pos ⟨rfl, rfl⟩]
theorem h_apart : hdl "NotComparable" [] = some (.tup [.str "apart", .bl true]) := by unfold hdl; dsimp only; rw [if_pos rfl]
theorem t_error {one two : Mn} (h1 : MnV one) (h2 : MnV two) : F__law_error [dsD one, dsD two] = some (dueD one two, [.non, .non]) := by
  unfold F__law_error
  simp only [t_beside h1 h2]
  unfold outB dueD
  by_cases c1 : canB one two = false
  · simp only [if_pos c1, h_apart]; rfl
  by_cases c2 : 4 < (joinM one two).fl.length
  · simp only [if_neg c1, if_pos c2, h_fields]; rfl
  by_cases c3 : 8 < (joinM one two).cl.length
  · simp only [if_neg c1, if_neg c2, if_pos c3, h_calls]; rfl
  by_cases c4 : 4 < (joinM one two).vw.length
  · simp only [if_neg c1, if_neg c2, if_neg c3, if_pos c4, h_views]; rfl
  by_cases c5 : manyF (joinM one two) = true
  · simp only [if_neg c1, if_neg c2, if_neg c3, if_neg c4, if_pos c5, h_facts]; rfl
  · simp only [if_neg c1, if_neg c2, if_neg c3, if_neg c4, if_neg c5]
theorem t_error1 {d e : D} (h : Odd d) : F__law_error [d, e] = some (.tup [.str "design", d], [.non, .non]) := by
  unfold F__law_error
  simp only [t_beside_odd1 h, h_design]; rfl
theorem t_error2 {m : Mn} {d : D} (h : Odd d) : F__law_error [dsD m, d] = some (.tup [.str "design", d], [.non, .non]) := by
  unfold F__law_error
  simp only [t_beside_odd2 h, h_design]; rfl
def prD (p : Str × Str) : D := .tup [.str p.1, .str p.2]
def sorts2 (two : Mn) (c : Cl) : List (Str × Str) := (two.cl.filter fun e => decide (c.nm = e.nm)).map fun e => (c.so, e.so)
def both (one two : Mn) : List (Str × Str) := (one.cl.map (sorts2 two)).flatten
def shared (one two : Mn) : List Str := two.fl.filter fun x => decide (x ∈ one.fl)
def sharedV (one two : Mn) : List Str := (two.vw.filter fun v => decide (v.nm ∈ vns one)).map (·.nm)
def bad (one two : Mn) : List (Str × Str) := (both one two).filter fun p => !decide (p.1 = p.2)
theorem filt_e {α : Type} (p : α → Bool) : ∀ xs : List α, (xs.filter p).isEmpty = !xs.any p
  | [] => rfl
  | x :: xs => by
    cases h : p x with
    | true => rw [List.filter_cons_of_pos h, List.any_cons, h]; rfl
    | false => rw [List.filter_cons_of_neg (by simp [h]), List.any_cons, h, filt_e p xs]; rfl
theorem b4_bad {one two : Mn} (h1 : MnV one) : jb4 one two = (bad one two).isEmpty := by
  unfold bad
  rw [filt_e]
  cases h : (both one two).any fun p => !decide (p.1 = p.2) with
  | true =>
    obtain ⟨p, hp, hne⟩ := List.any_eq_true.mp h
    obtain ⟨l, hl, hpl⟩ := List.mem_flatten.mp hp
    obtain ⟨c, hc, rfl⟩ := List.mem_map.mp hl
    obtain ⟨e, he, rfl⟩ := List.mem_map.mp hpl
    have hcn : c.nm = e.nm := of_decide_eq_true (List.mem_filter.mp he).2
    have he2 := (List.mem_filter.mp he).1
    have hin : e ∈ two.cl.filter fun e => decide (e.nm ∈ nms one) := List.mem_filter.mpr ⟨he2, decide_eq_true (by rw [← hcn]; exact List.mem_map_of_mem hc)⟩
    cases hb : jb4 one two with
    | false => rfl
    | true =>
      have := of_decide_eq_true (List.all_eq_true.mp hb e hin)
      rw [← hcn, sortIn_eq h1.cn hc] at this
      simp [this] at hne
  | false =>
    refine List.all_eq_true.mpr fun e he => decide_eq_true ?_
    obtain ⟨he1, he2⟩ := List.mem_filter.mp he
    obtain ⟨c, hc, hcn⟩ := List.mem_map.mp (of_decide_eq_true he2)
    have hcn : c.nm = e.nm := hcn
    rw [← hcn, sortIn_eq h1.cn hc]
    have hp : (c.so, e.so) ∈ both one two := List.mem_flatten.mpr ⟨_, List.mem_map_of_mem hc, List.mem_map.mpr ⟨e, List.mem_filter.mpr ⟨he1, decide_eq_true hcn⟩, rfl⟩⟩
    have := List.any_eq_false.mp h _ hp
    simpa using this
theorem can_due {one two : Mn} (h1 : MnV one) : canB one two = !(decide (1 < two.md.length) || (!(shared one two ++ sharedV one two).isEmpty || !(bad one two).isEmpty)) := by
  unfold canB
  rw [b4_bad h1]
  have e1 : (shared one two ++ sharedV one two).isEmpty = (!jb2 one two && !jb3 one two) := by
    rw [show ∀ a b : List Str, (a ++ b).isEmpty = (a.isEmpty && b.isEmpty) from fun a b => by cases a <;> rfl]
    unfold shared sharedV jb2 jb3 vns
    rw [filt_e, List.isEmpty_map, filt_e, List.any_map]; rfl
  rw [e1]
  by_cases hl : 1 < two.md.length
  · rw [decide_eq_true hl, decide_eq_false (by omega)]; rfl
  · rw [decide_eq_false hl, decide_eq_true (by omega)]
    cases jb2 one two <;> cases jb3 one two <;> cases (bad one two).isEmpty <;> rfl
theorem t_due {one two : Mn} (h1 : MnV one) (h2 : MnV two) : F__law_due [mnD one, mnD two] = some (dueD one two, [.non, .non]) := by
  have hf1 := h1.f4
  have hf2 := h2.f4
  have hc1 := h1.c8
  have hc2 := h2.c8
  have hv1 := h1.v4
  have hv2 := h2.v4
  refine Ok2.eq (ok_body rfl ?_)
  show OkS (g__law_due [some (.sh (.tup (mnL one))), some (.sh (.tup (mnL two))), none, none, none, none, none, none, none, none, none, none]) _ _ _ _
  unfold g__law_due
  walk_at "gof"
  refine ok_forI (I := fun done ρ => ∃ (x3 : Option Sl), ρ = [some (.sh (.tup (mnL one))), some (.sh (.tup (mnL two))), some (.sh (.lst (((done.map (sorts2 two)).flatten).map prD))), x3, none, none, none, none, none, none, none, none] ∧ ((done.map (sorts2 two)).flatten).length ≤ done.length * 8)
    ⟨_, rfl, Nat.le_refl _⟩ ?_ ?_
  · rintro done c rest e ρ ⟨x3, rfl, hlen⟩
    have hc : c ∈ one.cl := by rw [e]; simp
    have hcv := h1.c c hc
    have hdl : done.length < 8 := by rw [e] at hc1; simp at hc1; omega
    have hsl : (sorts2 two c).length ≤ 8 := by
      unfold sorts2
      rw [List.length_map]
      exact Nat.le_trans (List.length_filter_le ..) hc2
    walk_at "gof"
    refine ok_lcP (ι := clD) (fun e => decide (c.nm = e.nm)) (fun e => prD (c.so, e.so)) ?_ (fun d hd => ?_) ?_
    · omega
    · walk_at "gof"
      refine p_eqS hcv.nm.okS (h2.c d hd).nm.okS ?_
      walk_at "gof"
      refine ⟨rfl, fun _ => ?_, fun _ => rfl⟩
      walk_at "gof"
      exact ⟨rfl, rfl⟩
    have es : (two.cl.filter fun e => decide (c.nm = e.nm)).map (fun e => prD (c.so, e.so)) = (sorts2 two c).map prD := by
      unfold sorts2
      rw [List.map_map]; rfl
    rw [es]
    refine p_addL (by rw [List.length_map, List.length_map]; omega) ?_
    walk_at "gof"
    have ef : ((done ++ [c]).map (sorts2 two)).flatten = (done.map (sorts2 two)).flatten ++ sorts2 two c := by simp
    refine ⟨_, by rw [← List.map_append, ef], ?_⟩
    rw [ef, List.length_append, List.length_append, List.length_cons, List.length_nil]
    omega
  rintro ρ ⟨x3, rfl, hlen⟩
  have hbl : (both one two).length ≤ 64 := by
    have : (both one two).length ≤ one.cl.length * 8 := hlen
    omega
  show OkS ((gSeq (gAsg _ _) _) [_, _, some (.sh (.lst ((both one two).map prD))), _, _, _, _, _, _, _, _, _]) _ _ _ _
  walk_at "gof"
  refine ok_lcP (ι := D.str) (fun x => decide (x ∈ one.fl)) D.str ?_ (fun x hx => ?_) ?_
  · omega
  · walk_at "gof"
    refine ⟨rfl, fun _ => ?_, fun _ => rfl⟩
    walk_at "gof"
    exact ⟨rfl, rfl⟩
  walk_at "gof"
  refine ok_lcP (ι := vwD) (fun v => decide (v.nm ∈ vns one)) (fun v => .str v.nm) ?_ (fun v hv => ?_) ?_
  · omega
  · walk_at "gof"
    refine ok_lcM (ι := vwD) (fun v => .str v.nm) ?_ (fun v hv => ?_) ?_
    · omega
    · walk_at "gof"
      exact ⟨rfl, rfl⟩
    rw [show (one.vw.map fun v => D.str v.nm) = (vns one).map .str by unfold vns; rw [List.map_map]; rfl]
    walk_at "gof"
    refine ⟨rfl, fun _ => ?_, fun _ => rfl⟩
    walk_at "gof"
    exact ⟨rfl, rfl⟩
  have ev : (two.vw.filter fun v => decide (v.nm ∈ vns one)).map (fun v => D.str v.nm) = (sharedV one two).map .str := by
    unfold sharedV
    rw [List.map_map]; rfl
  rw [ev]
  have hsl : (shared one two).length ≤ 4 := Nat.le_trans (List.length_filter_le ..) hf2
  have hsvl : (sharedV one two).length ≤ 4 := by
    unfold sharedV
    rw [List.length_map]
    exact Nat.le_trans (List.length_filter_le ..) hv2
  have hok1 : ∀ x ∈ shared one two ++ sharedV one two, okS x := fun x hx => by
    rcases List.mem_append.mp hx with h | h
    · exact (h2.f x (List.mem_filter.mp h).1).nm.okS
    · obtain ⟨v, hv, rfl⟩ := List.mem_map.mp h
      exact (h2.v v (List.mem_filter.mp hv).1).nm.okS
  have hbo : ∀ p ∈ both one two, okS p.1 ∧ okS p.2 := fun p hp => by
    obtain ⟨l, hl, hpl⟩ := List.mem_flatten.mp hp
    obtain ⟨c, hc, rfl⟩ := List.mem_map.mp hl
    obtain ⟨e, he, rfl⟩ := List.mem_map.mp hpl
    exact ⟨sor_ok _ (h1.c c hc).so, sor_ok _ (h2.c e (List.mem_filter.mp he).1).so⟩
  show Ok1 (pName 5 _ [_, _, _, _, some (.sh (.lst ((shared one two).map .str))), _, _, _, _, _, _, _]) _
  refine ok_name (.s (.s (.s (.s (.s .z))))) ?_
  refine ok_seq (ok_ifE (!canB one two) ?_ (fun e => ?_) fun e => ?_)
  · rw [can_due h1, Bool.not_not]
    walk_at "gof"
    refine ⟨fun e => ?_, fun e => ?_⟩
    · refine ⟨?_, rfl⟩
      have e := of_decide_eq_true e
      rw [List.length_map] at e
      rw [decide_eq_true (by omega : 1 < two.md.length)]; rfl
    have e := of_decide_eq_false e
    rw [List.length_map] at e
    rw [decide_eq_false (by omega : ¬ 1 < two.md.length), Bool.false_or]
    walk_at "gof"
    refine p_addL (by rw [List.length_map, List.length_map]; omega) ?_
    rw [← List.map_append]
    walk_at "gof"
    refine ok_eq1 (ne_nilL (okN_txs hok1) (by decide)) ?_
    rw [List.isEmpty_map]
    walk_at "gof"
    refine ⟨fun e2 => ⟨by rw [e2]; rfl, rfl⟩, fun e2 => ?_⟩
    rw [e2, Bool.false_or]
    walk_at "gof"
    refine ok_lcP (ι := prD) (fun p => !decide (p.1 = p.2)) prD ?_ (fun p hp => ?_) ?_
    · omega
    · walk_at "gof"
      refine p_neS (hbo p hp).1 (hbo p hp).2 ?_
      walk_at "gof"
      refine ⟨rfl, fun _ => ?_, fun _ => rfl⟩
      walk_at "gof"
      exact ⟨rfl, rfl⟩
    walk_at "gof"
    have hbok : OkN 2 (.lst (((both one two).filter fun p => !decide (p.1 = p.2)).map prD)) := okN_lst (okN_map fun p hp => okN_2 (okN_str (hbo p (List.mem_filter.mp hp).1).1) (okN_str (hbo p (List.mem_filter.mp hp).1).2))
    refine ok_eq1 (ne_nilL hbok (by decide)) ?_
    rw [List.isEmpty_map]
    walk_at "gof"
    exact ⟨rfl, rfl⟩
  · walk_at "gof"
    refine ok_eq1 rfl ⟨?_, rfl⟩
    unfold dueD
    rw [if_pos (by simpa using e)]
  have hcan : canB one two = true := by simpa using e
  have nc : ¬ canB one two = false := by rw [hcan]; decide
  obtain ⟨mode, hm⟩ := can_md h2 hcan
  walk_at "gof"
  refine ok_eq2 (t_side h1 h2 hm) ⟨rfl, ?_⟩
  walk_at "gof"
  refine ⟨fun e => ?_, fun e => ?_⟩
  · have e := of_decide_eq_true e
    rw [List.length_map] at e
    walk_at "gof"
    refine ok_eq1 rfl ⟨?_, rfl⟩
    unfold dueD
    rw [if_neg nc, if_pos (by omega)]
  have nf : ¬ 4 < (joinM one two).fl.length := by
    have e := of_decide_eq_false e
    rw [List.length_map] at e
    omega
  walk_at "gof"
  refine ⟨fun e => ?_, fun e => ?_⟩
  · have e := of_decide_eq_true e
    rw [List.length_map] at e
    walk_at "gof"
    refine ok_eq1 rfl ⟨?_, rfl⟩
    unfold dueD
    rw [if_neg nc, if_neg nf, if_pos (by omega)]
  have ncl : ¬ 8 < (joinM one two).cl.length := by
    have e := of_decide_eq_false e
    rw [List.length_map] at e
    omega
  walk_at "gof"
  refine ⟨fun e => ?_, fun e => ?_⟩
  · have e := of_decide_eq_true e
    rw [List.length_map] at e
    walk_at "gof"
    refine ok_eq1 rfl ⟨?_, rfl⟩
    unfold dueD
    rw [if_neg nc, if_neg nf, if_neg ncl, if_pos (by omega)]
  have nv : ¬ 4 < (joinM one two).vw.length := by
    have e := of_decide_eq_false e
    rw [List.length_map] at e
    omega
  have lcs : ∀ c ∈ (joinM one two).cl, c.cs.length ≤ 4 ∧ ∀ k ∈ c.cs, OkN 14 (csD k) := fun c hc => by
    rcases List.mem_append.mp hc with hc | hc
    · obtain ⟨q, hq, rfl⟩ := List.mem_map.mp hc
      have h4 := (h1.c q hq).le
      unfold joinCl
      cases e : two.cl.find? (fun d => decide (d.nm = q.nm)) with
      | none => exact ⟨h4, fun k hk => (h1.okN_cs hq hk).mono (by decide)⟩
      | some d =>
        have hd := List.mem_of_find?_eq_some e
        simp only
        cases e2 : d.cs with
        | nil => exact ⟨Nat.zero_le _, nomem⟩
        | cons k ks =>
          refine ⟨by show (q.cs.map _).length ≤ 4; rw [List.length_map]; exact h4, fun z hz => ?_⟩
          obtain ⟨y, hy, rfl⟩ := List.mem_map.mp hz
          have hyv := (h1.c q hq).cs y hy
          have hkv := (h2.c d hd).cs k (by rw [e2]; exact List.mem_cons_self ..)
          refine (okN_4 (n := 12) ((okN_str (h1.g _ hyv.m).okS).mono (Nat.zero_le _)) (okN_tup (okN_map fun f hf => ?_)) (okN_tup (okN_map fun u hu => ?_)) ((okN_str (h1.g _ hyv.af).okS).mono (Nat.zero_le _))).mono (by decide)
          · rcases List.mem_append.mp hf with hf | hf
            · exact okN_2 ((hyv.fa f hf).1.okN h1.f) ((hyv.fa f hf).2.okN h1.f)
            · exact okN_2 ((hkv.fa f hf).1.okN h2.f) ((hkv.fa f hf).2.okN h2.f)
          · rcases List.mem_append.mp hu with hu | hu
            · exact okN_2 ((okN_str (h1.f _ (hyv.up.mem u hu)).nm.okS).mono (Nat.zero_le _)) ((hyv.up.ok u hu).okN h1.f)
            · exact okN_2 ((okN_str (h2.f _ (hkv.up.mem u hu)).nm.okS).mono (Nat.zero_le _)) ((hkv.up.ok u hu).okN h2.f)
    · obtain ⟨q, hq, rfl⟩ := List.mem_map.mp hc
      have hq2 := (List.mem_filter.mp hq).1
      have hg4 := h1.g4
      unfold sprCl
      rcases one_case h2 hm hq2 with e | ⟨k, e⟩
      · rw [e]; exact ⟨Nat.zero_le _, nomem⟩
      · rw [e]
        have ef : ([k].map fun k => one.md.map fun m => (⟨m, k.fa, k.up, m⟩ : Cs)).flatten = one.md.map fun m => (⟨m, k.fa, k.up, m⟩ : Cs) := by simp
        rw [ef]
        refine ⟨by rw [List.length_map]; exact hg4, fun z hz => ?_⟩
        obtain ⟨md, hmd, rfl⟩ := List.mem_map.mp hz
        have hkv := (h2.c q hq2).cs k (by rw [e]; exact List.mem_cons_self ..)
        refine (okN_4 (n := 12) ((okN_str (h1.g _ hmd).okS).mono (Nat.zero_le _)) (okN_tup (okN_map fun f hf => okN_2 ((hkv.fa f hf).1.okN h2.f) ((hkv.fa f hf).2.okN h2.f))) (okN_tup (okN_map fun u hu => okN_2 ((okN_str (h2.f _ (hkv.up.mem u hu)).nm.okS).mono (Nat.zero_le _)) ((hkv.up.ok u hu).okN h2.f))) ((okN_str (h1.g _ hmd).okS).mono (Nat.zero_le _))).mono (by decide)
  walk_at "gof"
  refine ok_forI (xs := (joinM one two).cl) (I := fun done ρ => ∃ (x3 : Option Sl), ρ = [some (.sh (.tup (mnL one))), some (.sh (.tup (mnL two))), some (.sh (.lst ((both one two).map prD))), x3, some (.sh (.lst ((shared one two).map .str))), some (.sh (.lst ((sharedV one two).map .str))), some (.sh (mnD (joinM one two))), none, none, none, none, none] ∧ (done.any fun c => c.cs.any fun k => decide (5 < k.fa.length)) = false)
    ⟨_, rfl, rfl⟩ ?_ ?_
  · rintro done c rest e ρ ⟨x3, rfl, hno⟩
    have hc : c ∈ (joinM one two).cl := by rw [e]; simp
    obtain ⟨hc4, hcok⟩ := lcs c hc
    show Ok1 (pName 3 (.tup [.str c.nm, .str c.so, .tup (c.cs.map csD)]) _) _
    walk_at "gof"
    refine ok_lcP (ι := csD) (fun k => decide (5 < k.fa.length)) csD ?_ (fun k hk => ?_) ?_
    · omega
    · walk_at "gof"
      refine ⟨?_, fun _ => ?_, fun _ => rfl⟩
      · rw [List.length_map]
        congr 1
        simp only [eq_iff_iff]
        omega
      walk_at "gof"
      exact ⟨rfl, rfl⟩
    walk_at "gof"
    refine ok_eq1 (ne_nilL (n := 15) (okN_lst (okN_map fun k hk => hcok k (List.mem_filter.mp hk).1)) (by decide)) ?_
    rw [List.isEmpty_map, filt_e, Bool.not_not]
    walk_at "gof"
    refine ⟨fun e2 => ?_, fun e2 => ?_⟩
    · walk_at "gof"
      refine ok_eq1 rfl ⟨?_, rfl⟩
      unfold dueD
      rw [if_neg nc, if_neg nf, if_neg ncl, if_neg nv, if_pos]
      exact List.any_eq_true.mpr ⟨c, hc, e2⟩
    · refine ok_next ⟨_, rfl, ?_⟩
      rw [List.any_append, hno]
      simp only [List.any_cons, List.any_nil, e2]; rfl
  · rintro ρ ⟨x3, rfl, hno⟩
    have hmf : manyF (joinM one two) = false := hno
    walk_at "gof"
    refine ok_eq2 (t_law_design (join_ok h1 h2 hcan (by omega) (by omega) (by omega) hmf)) ⟨rfl, ?_⟩
    walk_at "gof"
    refine ok_eq1 rfl ⟨?_, rfl⟩
    unfold dueD
    rw [if_neg nc, if_neg nf, if_neg ncl, if_neg nv, if_neg (by rw [hmf]; decide)]
end W77

/-! k77, the plain law: the law. -/
namespace W77
open PySem PySem.Spec L2 DL
theorem due_cases {one two : Mn} (h1 : MnV one) (h2 : MnV two) : (∃ w x, dueD one two = .tup [.str w, x] ∧ w ≠ "fine" ∧ okS w ∧ OkN 0 x) ∨ (dueD one two = .tup [.str "fine", dsD (joinM one two)] ∧ outB one two = .ok (dsD (joinM one two)) ∧ MnV (joinM one two)) := by
  unfold dueD outB
  have ok : ∀ w : Str, PyData.strOk w = true → okS w := fun _ h => h
  by_cases c1 : canB one two = false
  · rw [if_pos c1, if_pos c1]
    exact .inl ⟨_, _, rfl, by decide +kernel, ok _ (by decide +kernel), okN_bl _⟩
  by_cases c2 : 4 < (joinM one two).fl.length
  · rw [if_neg c1, if_neg c1, if_pos c2, if_pos c2]
    exact .inl ⟨_, _, rfl, by decide +kernel, ok _ (by decide +kernel), okN_int _⟩
  by_cases c3 : 8 < (joinM one two).cl.length
  · rw [if_neg c1, if_neg c1, if_neg c2, if_neg c2, if_pos c3, if_pos c3]
    exact .inl ⟨_, _, rfl, by decide +kernel, ok _ (by decide +kernel), okN_int _⟩
  by_cases c4 : 4 < (joinM one two).vw.length
  · rw [if_neg c1, if_neg c1, if_neg c2, if_neg c2, if_neg c3, if_neg c3, if_pos c4, if_pos c4]
    exact .inl ⟨_, _, rfl, by decide +kernel, ok _ (by decide +kernel), okN_int _⟩
  by_cases c5 : manyF (joinM one two) = true
  · rw [if_neg c1, if_neg c1, if_neg c2, if_neg c2, if_neg c3, if_neg c3, if_neg c4, if_neg c4, if_pos c5, if_pos c5]
    exact .inl ⟨_, _, rfl, by decide +kernel, ok _ (by decide +kernel), okN_int _⟩
  · rw [if_neg c1, if_neg c1, if_neg c2, if_neg c2, if_neg c3, if_neg c3, if_neg c4, if_neg c4, if_neg c5, if_neg c5]
    exact .inr ⟨rfl, rfl, join_ok h1 h2 (by simpa using c1) (by omega) (by omega) (by omega) (by simpa using c5)⟩
theorem eqO_of {c : Str} {F : DF} {n : Nat} {d e z : D} (h : eqD d e = some z) : eqO c F n d e = some z := by unfold eqO; rw [h]
theorem neO_of {c : Str} {F : DF} {n : Nat} {d e z : D} (h : neD d e = some z) : neO c F n d e = some z := by unfold neO; rw [h]
theorem sameD_ds {m : Mn} (h : MnV m) : sameD "Design" F_Design_eq (dsD m) (dsD m) = true := by
  unfold dsD
  rw [sameD]
  have : eqOb F_Design_eq (.obj "Design" (dsF m)) (.obj "Design" (dsF m)) = true := by
    unfold eqOb
    rw [t_eq h]
  rw [this]
  simp
theorem eqO_ds {m : Mn} (h : MnV m) : eqO "Design" F_Design_eq 3 (dsD m) (dsD m) = some (.bl true) := by
  have h0 : eqD (dsD m) (dsD m) = none := by unfold eqD; rw [if_neg (by simp [okD, dat])]
  unfold eqO
  rw [h0]
  exact if_pos (by unfold sameT; rw [sameD_ds h]; rfl)
theorem neO_ds {m : Mn} (h : MnV m) : neO "Design" F_Design_eq 3 (dsD m) (dsD m) = some (.bl false) := by
  have h0 : neD (dsD m) (dsD m) = none := by unfold neD; rw [if_neg (by simp [okD, dat])]
  unfold neO
  rw [h0]
  exact if_pos (by unfold sameT; rw [sameD_ds h]; rfl)
theorem neO_fine {m : Mn} (h : MnV m) : neO "Design" F_Design_eq 3 (.tup [.str "fine", dsD m]) (.tup [.str "fine", dsD m]) = some (.bl false) := by
  have hd : dat (.tup [.str "fine", dsD m]) = false := by simp [dat, dats]
  have h0 : neD (.tup [.str "fine", dsD m]) (.tup [.str "fine", dsD m]) = none := by
    unfold neD okD
    rw [hd]
    simp
  unfold neO
  rw [h0]
  refine if_pos ?_
  unfold sameT
  rw [sameD, sames, sames, sames, sameD_ds h]
  simp [depDs, depD, sameD]
theorem odd_of {d : D} {s : String} (h1 : tyOf d = some (.b s)) (h2 : s ∈ tyB) (h3 : OkN 20 d) : Odd d := by
  refine ⟨fun fs e => ?_, ?_, h3⟩
  · rw [e] at h1; cases h1
  · show (tyOf d).bind _ = _
    rw [h1]
    show (kt (.b s) (.u "Design")).map D.bl = _
    rw [kt_bu h2]; rfl
def odds (one : Mn) : List D := [.non, .int 0, .str "", .tup [], .lst [], mnD one, .bl true]
theorem odds_ok {one : Mn} (h : MnV one) : ∀ d ∈ odds one, Odd d := by
  intro d hd
  unfold odds at hd
  simp only [List.mem_cons, List.not_mem_nil, or_false] at hd
  rcases hd with rfl | rfl | rfl | rfl | rfl | rfl | rfl
  · exact odd_of (s := "NoneType") rfl (by decide) (okN_non.mono (by decide))
  · exact odd_of (s := "int") rfl (by decide) ((okN_int _).mono (by decide))
  · exact odd_of (s := "str") rfl (by decide) ((okN_str okS_e).mono (by decide))
  · exact odd_of (s := "tuple") rfl (by decide) ((okN_tup (n := 0) nomem).mono (by decide))
  · exact odd_of (s := "list") rfl (by decide) ((okN_lst (n := 0) nomem).mono (by decide))
  · exact odd_of (s := "tuple") rfl (by decide) (h.okN.mono (by decide))
  · exact odd_of (s := "bool") rfl (by decide) ((okN_bl _).mono (by decide))
theorem okS_design : okS "design" := by show PyData.strOk "design" = true; decide +kernel
theorem okS_fine : okS "fine" := by show PyData.strOk "fine" = true; decide +kernel
theorem d_right {p : D} (hp : PurseOk p) : SpP F__law_right p [] fun d => d = .bl true := by
  refine ok_body rfl ?_
  show OkS (g__law_right [_, none, none, none, none, none, none, none]) _ _ _ _
  unfold g__law_right
  walk_at "gof"
  refine kP (d_menu hp) ?_
  rintro p1 _ hp1 ⟨one, rfl, h1⟩
  walk_at "gof"
  refine kP (d_second hp1 h1) ?_
  rintro p2 _ hp2 ⟨two0, rfl, h20⟩
  refine ok_name (.s (.s .z)) ?_
  refine ok_seq (ok_asg (Ok2.imp (P := fun d ρ => ∃ p' two, PurseOk p' ∧ MnV two ∧ d = mnD two ∧ ρ = [some (.ow false p'), some (.sh (mnD one)), some (.sh (mnD two0)), none, none, none, none, none]) ?_ ?_))
  · walk_at "gof"
    refine kP (d_draw hp2 (by decide) (by decide)) ?_
    rintro p3 _ hp3 ⟨i, rfl, hi⟩
    walk_at "gof"
    refine ok_eq1 (eqO_of (eq_int _ _)) ?_
    walk_at "gof"
    refine ⟨fun _ => ?_, fun _ => ?_⟩
    · walk_at "gof"
      exact ⟨p3, two0, hp3, h20.toMnV, rfl, rfl⟩
    · walk_at "gof"
      refine kP (d_spoilt hp3 h1 h20) ?_
      rintro p4 _ hp4 ⟨two, rfl, h2⟩
      exact ⟨p4, two, hp4, h2, rfl, rfl⟩
  rintro _ _ ⟨p3, two, hp3, h2, rfl, rfl⟩
  have h1 := h1.toMnV
  walk_at "gof"
  refine ok_eq2 (t_law_design h1) ⟨rfl, ?_⟩
  walk_at "gof"
  refine ok_eq2 (t_law_design h2) ⟨rfl, ?_⟩
  walk_at "gof"
  refine ok_eq2 (t_error h1 h2) ⟨rfl, ?_⟩
  walk_at "gof"
  refine ok_eq2 (t_due h1 h2) ⟨rfl, ?_⟩
  refine ok_vnil (pf_ (.val (.s (.s (.s (.s (.s .z))))) (.val (.s (.s (.s (.s (.s (.s .z)))))) .nil)) ?_)
  have hne : neO "Design" F_Design_eq 3 (dueD one two) (dueD one two) = some (.bl false) := by
    rcases due_cases h1 h2 with ⟨w, x, e, _, ow, ox⟩ | ⟨e, _, hj⟩
    · rw [e]; exact neO_of (ne_same (okN_2 (okN_str ow) ox) (by decide))
    · rw [e]; exact neO_fine hj
  refine ok_seq (ok_ifE false ?_ (fun e => by cases e) fun _ => ?_)
  · walk_at "gof"
    refine ok_eq1 hne ?_
    walk_at "gof"
    rcases due_cases h1 h2 with ⟨w, x, e, wf, ow, ox⟩ | ⟨e, eo, hj⟩
    · rw [e]
      walk_at "gof"
      refine ok_eq1 (eqO_of (eq_str ow okS_fine)) ?_
      walk_at "gof"
      refine br_false (decide_eq_false wf) ⟨rfl, rfl⟩
    · rw [e]
      walk_at "gof"
      refine ok_eq1 (eqO_of (eq_str okS_fine okS_fine)) ?_
      walk_at "gof"
      refine br_true (by simp) ?_
      walk_at "gof"
      refine ⟨_, by rw [t_beside h1 h2, eo], ?_⟩
      walk_at "gof"
      refine ok_eq1 (neO_ds hj) ?_
      walk_at "gof"
      exact ⟨rfl, rfl⟩
  walk_at "gof"
  refine kP (d_pick (κ := id) (xs := odds one) hp3 (by simp [odds]) (by simp [odds])) ?_
  rintro p4 odd0 hp4 ⟨odd, hodd, e⟩
  have e : odd0 = odd := e
  subst e
  
  have ho := odds_ok h1 _ hodd
  have hoo : OkN 21 (.tup [.str "design", odd0]) := okN_2 ((okN_str okS_design).mono (Nat.zero_le _)) ho.ok
  walk_at "gof"
  refine ok_eq2 (t_error1 ho) ⟨rfl, ?_⟩
  walk_at "gof"
  refine ok_eq1 (neO_of (ne_same hoo (by decide))) ?_
  walk_at "gof"
  refine ok_eq2 (t_error2 ho) ⟨rfl, ?_⟩
  walk_at "gof"
  refine ok_eq1 (neO_of (ne_same hoo (by decide))) ?_
  walk_at "gof"
  refine ok_eq2 (t_error1 ho) ⟨rfl, ?_⟩
  walk_at "gof"
  refine ok_eq1 (eqO_of (eq_same hoo (by decide))) ?_
  walk_at "gof"
  refine ok_eq2 (t_law_design h1) ⟨rfl, ?_⟩
  refine ok_eq1 (eqO_ds h1) ?_
  walk_at "gof"
  refine ok_eq2 (t_law_design h2) ⟨rfl, ?_⟩
  refine ok_eq1 (eqO_ds h2) ?_
  exact ok_eq1 rfl ⟨p4, hp4, rfl, rfl⟩
theorem bodyN_eq {n m : Nat} {f : En → Option (List D × En)} {ds l : List D} {ρ : En} (h : ds.length = m) (e : f ((ds.map fun d => some (.sh d)) ++ List.replicate (n - m) none) = some (l, ρ)) : bodyN n m f ds = some l := by
  unfold bodyN
  rw [if_pos h, e]; rfl
theorem t_purse (ns : List Int) : ∃ l, F__law_purse [.frl ns] = some l ∧ PurseOk (.lst l) := by
  have H : Ok2 (g__law_purse [some (.sh (.frl ns)), none]) fun l _ => PurseOk (.lst l) := by
    unfold g__law_purse
    walk_at "gof"
    refine ⟨_, rfl, .inr (.inl ⟨_, rfl, ?_⟩)⟩
    rw [show (40 : Int) = ((40 : Nat) : Int) from rfl, cutL_to]
    walk_at "gof"
    have hl : (ns.take 40).length ≤ 40 := by rw [List.length_take]; omega
    refine ok_lcM (ι := D.int) (fun i => .int (if i < 0 then -i else i)) ?_ (fun i hi => ?_) ?_
    · omega
    · walk_at "gof"
      exact ⟨_, rfl, rfl, rfl⟩
    walk_at "gof"
    refine p_addL (by simp; omega) ?_
    walk_at "gof"
    refine ⟨⟨(ns.take 40).map (fun i => if i < 0 then -i else i) ++ [11], 0, 0, 1, ?_, by simp⟩⟩
    rw [List.map_append, List.map_map]
    rfl
  obtain ⟨l, ρ, e, h⟩ := H
  exact ⟨l, bodyN_eq rfl e, h⟩
theorem ok_call1 {Ff : DF} {a : Option Sl} {l : Bool} {p : D} {ρ : En} {P : D → En → Prop} (k : Ok2 (Ff [p]) fun d os => ∃ p', os = [p'] ∧ P d (a :: some (.ow l p') :: ρ)) : Call [true] Ff [.own 1] (a :: some (.ow l p) :: ρ) P := by
  obtain ⟨d, os, e, p', rfl, k⟩ := k
  refine ⟨d, _, ?_, k⟩
  unfold callD
  rw [if_pos (by decide)]
  show (if [true] = [true] then (Ff [p]).bind _ else none) = _
  rw [if_pos rfl, e]; rfl
theorem plain : ∀ ns : List Int, ns.length ≤ 63 → ∃ r, F_law [.frl ns] = some (.bl true, r) := by
  intro ns hns
  suffices H : Ok2 (F_law [.frl ns]) fun d _ => d = .bl true by
    obtain ⟨_, r, e, rfl⟩ := H
    exact ⟨r, e⟩
  obtain ⟨l, el, hl⟩ := t_purse ns
  refine ok_body rfl ?_
  show OkS (g_law [_, none, none]) _ _ _ _
  unfold g_law
  walk_at "gof"
  refine ⟨l, el, ?_⟩
  walk_at "gof"
  refine ⟨_, rfl, ⟨by decide, by decide⟩, ?_⟩
  walk_at "gof"
  refine ok_lcI (xs := List.range 5) (I := fun done acc ρ => ∃ p', PurseOk p' ∧ acc = done.map (fun _ => D.bl true) ∧ ρ = [some (.sh (.frl ns)), some (.ow true p'), none]) ⟨_, hl, rfl, rfl⟩ ?_ ?_
  · rintro done x rest e acc ρ ⟨p', hp', rfl, rfl⟩
    have hdl : done.length < 5 := by
      have := congrArg List.length e
      rw [List.length_range, List.length_append, List.length_cons] at this
      omega
    walk_at "gof"
    refine ok_call1 ?_
    obtain ⟨d, os, e2, p2, hp2, rfl, rfl⟩ := d_right hp'
    refine ok_eq2 e2 ⟨p2, rfl, ?_⟩
    exact ⟨by rw [List.length_map]; omega, p2, hp2, by rw [List.map_append]; rfl, rfl⟩
  · rintro acc ρ ⟨p', hp', rfl, rfl⟩
    walk_at "gof"
    refine p_all (f := fun _ => true) (fun _ => rfl) ?_
    exact ok_eq1 rfl (by simp)
end W77

end

set_option maxRecDepth 100000
set_option maxHeartbeats 0
/-! k77: the statement from the plain law (F_law answers True). -/
namespace W77
open PySem PySem.Spec L2 DL
/-- the plain law: what is left to prove -/
def Plain : Prop := ∀ ns : List Int, ns.length ≤ 63 → ∃ r, F_law [.frl ns] = some (.bl true, r)
end W77
open PySem PySem.W PySem.Calls PyProof.Rows
theorem W77.holds_of (hP : W77.Plain) : PySem.Challenge.rw_soleguest_k77_designs_side_by_side.Holds := by
  w_on; o_law
  refine HandSHeadRun.head_any (r := OpenLaw.row PySem.Challenge.rw_soleguest_k77_designs_side_by_side) (q := W77.qv) (H := W77.hk) (ob := W77.ob) (M := 30000) (loose := W77.names) (d := HandSHeadRun.topDef (OpenLaw.row PySem.Challenge.rw_soleguest_k77_designs_side_by_side).prog 96) (kwd := []) W77.ob_eq
    (by kernel_rfl) (fun s => by kernel_rfl) W77.run (by kernel_rfl) (by kernel_rfl) (by kernel_rfl) (by rfl) (by first | assumption | decide +kernel) (by decide +kernel) ⟨rfl, rfl, rfl, rfl, rfl, by decide +kernel⟩ ?hw ?hc
  case hw => w_witness2
  case hc =>
    refine L2.walk_ofE (l := PySem.Challenge.rw_soleguest_k77_designs_side_by_side) (n := 63) (k := 42) (x := "script") (CX := L2.CX0) rfl (by decide) (by kernel_rfl) ⟨rfl, by decide, by decide⟩ ?F (fun _ _ _ _ z => z)
    intro w mg fa h Y G hmg0
    obtain ⟨K, KX, q, c⟩ := Y
    have hmg : mg ("law" : PySem.Str) = some (.ref fa) := by
      have e : (HandSHeadRun.topDef (OpenLaw.row PySem.Challenge.rw_soleguest_k77_designs_side_by_side).prog 96).name = ("law" : PySem.Str) := by kernel_rfl
      rw [← e]
      exact hmg0
    have H0 : W77.Hy K mg := W77.hy_of KX G c q
    obtain ⟨fd0, F0, ⟨u, hm, r⟩, _⟩ := H0.d_law.ex
    cases r
    have e := hmg.symm.trans hm
    cases e
    obtain ⟨fd, F⟩ := c.def_ 55 (d := DL.dfD "law" (W77.top 96)) rfl
    have F' : L2.FunD K "law" "law" (L2.defArgs (W77.top 96)) (L2.defBody (W77.top 96)) (L2.defScope (W77.top 96)) [] [] (He.ga K "law") fd := F
    have b := L2.FunD.bindsA (ps := ["script"]) F' fun _ _ _ _ _ _ us hl => match us, hl with | [_], _ => rfl
    refine ⟨K, fd, DL.SpF K [false] W77.F_law, KX, fun s v => b s [v] rfl, fun H a ns hl _ hS => ?_, fun base _ _ => W77.ok_law H0 (DL.fun_of F')⟩
    obtain ⟨r, hr⟩ := hP ns hl
    have hv : DL.VLi K (fun _ => False) H a (ns.map L2.V.int) := hS.elim (fun z => .inl ⟨id, z⟩) .inr
    refine ⟨fun _ => False, _, _, _, fun b z => z.elim, .sh (.frl hv) .nil, by first | exact List.nodup_nil | (unfold DL.ownA; decide) | simp [DL.ownA], hr, fun v H' _ _ _ rv => ?_⟩
    cases rv
    rfl

theorem PySem.Challenge.cw_soleguest_k77_designs_side_by_side_holds : PySem.Challenge.rw_soleguest_k77_designs_side_by_side.Holds :=
  W77.holds_of W77.plain
