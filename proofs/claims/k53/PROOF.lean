import PyProof.Rows.All
import Wide.All
import OpenK.AllK
import Wide.FinOn
import HandS.ForMost
import HandS.ForExc
import HandS.IsInst
import HandS.Property
import HandS.DictComp
import HandS.SortInts
import HandS.HeadHook2
import HandS.ExcInit
import HandS.HeadEnd
import HandS.Star
import HandS.Head2
import KE.KExcSuper
import PySem.Challenge.RW_fewleft_k53_safe_places
import HandS.Defaults
import KE.KOpsOwn
import KE.KDictList
import HandS.ListItems
import HandS.DictEq
import HandS.SetFor
import HandS.Style
import PyProof.InstEq
import PyProof.Rows.ReprR
import KE.KExcIs
import HandS.ExcIs
import HandS.ExcField
import HandS.ExcOwn
import HandS.TryMany
set_option Elab.async false
set_option linter.all false
set_option maxRecDepth 100000
set_option maxHeartbeats 4000000
/-! What is looked at behind the top. -/
namespace Fw
open PySem PySem.Spec PyProof.Rows L2
def insB (K : PySem.W.Frag) (c : Str) : Bool := He.Fa.ok K (.cls c) && (He.eqO (PySem.W.findIn K (.ref (He.ga K c)) "__class__") (some (some (.builtin "object.__class__"))) && (He.eqO (PySem.W.specialIn K (.builtin "object.__class__") "__get__") (some (some (.builtin "getset_descriptor.__get__"))) &&
  (decide (PySem.W.takesIn K (.builtin "object.__class__") = some true) && decide (PySem.W.mroIn K (He.ga K c) (.type "object") = some true))))
/-- a path to a def: a global; a class's method; a property's getter -/
inductive Pa where
  | g (x : Str) | m (c x : Str) | p (c x : Str)
def getter (K : PySem.W.Frag) (C : Addr) (x : Str) : Addr := match PySem.W.recIn K (He.ma K C x) "property" with
  | some (.ref a :: _) => a
  | _ => 0
def Pa.ad (K : PySem.W.Frag) : Pa → Addr
  | .g x => He.ga K x
  | .m c x => He.ma K (He.ga K c) x
  | .p c x => getter K (He.ga K c) x
structure DfP where
  at_ : Pa
  name : Str
  qual : Str
  st : Stmt
  /-- closed over the class, for super() -/
  sup : Bool := false
def fnP (K : PySem.W.Frag) (a : Addr) : He.FnW := match K.lookup a with
  | some ⟨_, _, .func fd, _⟩ => some (fd.name, fd.qualname, fd.params, fd.body, fd.scope, fd.globals, fd.closure.map fun c => (c.1, 0), fd.builtins)
  | _ => none
def DfP.val (d : DfP) : He.FnW := some (d.name, d.qual, defArgs d.st, .stmts (defBody d.st), defScope d.st, mainGlobals, (if d.sup then [(("__class__" : Str), (0 : Addr))] else []), builtinsNs)
def isNone : Value → Bool
  | .none => true
  | _ => false
def DfP.ok (K : PySem.W.Frag) (d : DfP) : Bool := PySem.W.keepIn K (.ref (d.at_.ad K)) && (match K.lookup (d.at_.ad K) with
  | some ⟨_, _, .func fd, _⟩ => PySem.W.codeIn K fd.code d.qual && isNone fd.defaults
  | _ => false)
/-- a type: a built-in one, an own class -/
inductive Tv where
  | ty (n : String) | own (c : Str)
def Tv.v (K : PySem.W.Frag) : Tv → Value
  | .ty n => .type n
  | .own c => .ref (He.ga K c)
/-- the built-in classes below which own exceptions stand -/
inductive Bs where
  | lookup | runtime | overflow | value
def Bs.nm : Bs → String
  | .lookup => "LookupError"
  | .runtime => "RuntimeError"
  | .overflow => "OverflowError"
  | .value => "ValueError"
def Bs.new : Bs → String
  | .lookup => "LookupError.__new__"
  | .runtime => "RuntimeError.__new__"
  | .overflow => "OverflowError.__new__"
  | .value => "ValueError.__new__"
def Bs.ini : Bs → String
  | .lookup => "LookupError.__init__"
  | .runtime => "RuntimeError.__init__"
  | .overflow => "OverflowError.__init__"
  | .value => "ValueError.__init__"
def Bs.mro : Bs → List Value
  | .lookup => [.type "LookupError", .type "Exception", .type "BaseException", .type "object"]
  | .runtime => [.type "RuntimeError", .type "Exception", .type "BaseException", .type "object"]
  | .overflow => [.type "OverflowError", .type "ArithmeticError", .type "Exception", .type "BaseException", .type "object"]
  | .value => [.type "ValueError", .type "Exception", .type "BaseException", .type "object"]
/-- a class of exceptions, caught and read -/
def exbB (K : PySem.W.Frag) (C : Addr) : Bool := He.eqO (PySem.W.findIn K (.ref C) "__getattribute__") (some (some (.builtin "BaseException.__getattribute__"))) && (He.eqO (PySem.W.findIn K (.ref C) "__getattr__") (some none) && (decide (PySem.W.subIn K (.ref C) (.type "BaseException") = some true) &&
  (PySem.W.hasDictIn K C && (He.eqO (PySem.W.findIn K (.ref C) "__class__") (some (some (.builtin "object.__class__"))) && (He.eqO (PySem.W.specialIn K (.builtin "object.__class__") "__get__") (some (some (.builtin "getset_descriptor.__get__"))) &&
  (decide (PySem.W.takesIn K (.builtin "object.__class__") = some true) && (decide (PySem.W.mroIn K C (.type "object") = some true) && (decide (PySem.W.typeIn K (.ref C) = some (.type "type")) && PySem.W.keepIn K (.ref C)))))))))
/-- its __init__ is closed over the class; the text's file -/
def supB (K : PySem.W.Frag) (C fI : Addr) : Bool := match K.lookup fI with
  | some ⟨_, _, .func fd, _⟩ => (match fd.closure with
    | [(_, cc)] => (match K.lookup cc with
      | some ⟨_, _, .cell (some (.ref c)), _⟩ => decide (c = C)
      | _ => false)
    | _ => false) && (match fd.code with
    | .ref cda => (match K.lookup cda with
      | some ⟨_, _, .fields vs, _⟩ => (match (vs[2]? : Option Value) with
        | some (.str n _) => decide (n = "/claim/cut.py")
        | _ => false)
      | _ => false)
    | _ => false)
  | _ => false
/-- made with a field -/
def exiB (K : PySem.W.Frag) (C : Addr) (f : Str) (b : Bs) : Bool := He.eqO (PySem.W.findIn K (.ref C) "__init__") (some (some (.ref (He.ma K C "__init__")))) && (PySem.W.excInitIn K C b.mro b.new && (decide (PySem.W.typeIn K (.ref (He.ma K C "__init__")) = some (.type "function")) &&
  (He.eqO (PySem.W.findIn K (.ref C) "__setattr__") (some (some (.builtin "object.__setattr__"))) && (PySem.W.excOver K C b.mro && (He.eqO (PySem.W.takerIn K C f) (some none) && (decide (PySem.W.subIn K (.ref C) (.type b.nm) = some true) &&
  (He.eqO (PySem.W.nsIn K cStatics "thirdparty.any") (some none) && (He.eqO (PySem.W.nsIn K mainGlobals "super") (some none) && (decide (PySem.W.mroIn K C (.ref C) = some true) && (He.eqO (PySem.W.ks_superIn K C C "__init__") (some (some (.builtin b.ini))) && supB K C (He.ma K C "__init__")))))))))))
inductive Fc where
  | a (f : He.Fa)
  | ins (c : Str)
  | prop (c x : Str)
  | kit (t u : Tv) (b : Bool)
  | first (c : Str)
  | bin2 (c e : Str) (nm : String)
  | callo (c e : Str)
  | neo (c : Str)
  | fnin (c m : Str)
  | exb (c : Str)
  | exi (c f : Str) (b : Bs)
  | exo (c : Str) (b : Bs)
  | exf (c f : Str)
  | exs (c d : Str) (b : Bool)
def Fc.ok (K : PySem.W.Frag) : Fc → Bool
  | .a f => f.ok K
  | .ins c => insB K c
  | .prop c x => He.eqO (PySem.W.findIn K (.ref (He.ga K c)) x) (some (some (.ref (He.ma K (He.ga K c) x)))) && (He.eqO (PySem.W.specialIn K (.ref (He.ma K (He.ga K c) x)) "__get__") (some (some (.builtin "property.__get__"))) &&
      (decide (PySem.W.takesIn K (.ref (He.ma K (He.ga K c) x)) = some true) && (match PySem.W.recIn K (He.ma K (He.ga K c) x) "property" with
        | some (.ref _ :: _) => true
        | _ => false)))
  | .kit t u b => decide (PySem.W.kitOne K (t.v K) (u.v K) = some b)
  | .first c => PySem.W.selfFirst K (He.ga K c)
  | .bin2 c e nm => !(decide (He.ga K c = He.ga K e)) && (PySem.W.selfFirst K (He.ga K c) && (PySem.W.selfFirst K (He.ga K e) && (He.eqO (PySem.W.findIn K (.ref (He.ga K e)) (PySem.dunder nm)) (some (some (.ref (He.ma K (He.ga K e) (PySem.dunder nm))))) &&
      (He.eqO (PySem.W.findIn K (.ref (He.ga K c)) (dunderR nm)) (some none) && (He.eqO (PySem.W.findIn K (.ref (He.ga K e)) (dunderR nm)) (some none) && decide (PySem.W.subIn K (.ref (He.ga K e)) (.ref (He.ga K c)) = some false))))))
  | .exb c => exbB K (He.ga K c)
  | .exi c f b => exiB K (He.ga K c) f b
  | .exo c b => PySem.W.excIn K (He.ga K c) b.mro b.new
  | .exf c f => He.eqO (PySem.W.findIn K (.ref (He.ga K c)) f) (some none)
  | .exs c d b => decide (PySem.W.exmOne K (.ref (He.ga K c)) (.ref (He.ga K d)) = some b)
  | .fnin c m => PySem.W.fnIn K (He.ma K (He.ga K c) m)
  | .neo c => He.eqO (PySem.W.findIn K (.ref (He.ga K c)) "__ne__") (some (some (.builtin "object.__ne__"))) && decide (PySem.W.mroIn K (He.ga K c) (.type "object") = some true)
  | .callo c e => He.eqO (PySem.W.findIn K (.ref (He.ga K c)) "__call__") (some (some (.ref (He.ma K (He.ga K e) "__call__")))) && (PySem.W.isFn K (.ref (He.ma K (He.ga K e) "__call__")) && PySem.W.fnIn K (He.ma K (He.ga K e) "__call__"))
/-! ### the Hook -/
abbrev AlP : Type := Bool × List He.FnW
def obsP (fc : List Fc) (ds : List DfP) (K : PySem.W.Frag) : AlP := ((fc.all fun f => f.ok K) && ds.all fun d => d.ok K, ds.map fun d => fnP K (d.at_.ad K))
def valP (ds : List DfP) : AlP := (true, ds.map DfP.val)
def obsPG (n : Nat) (fc : List Fc) (ds : List DfP) (g : Addr → Option Obj) : AlP := obsP fc ds (He.frG g (cStatics :: He.asD g n))
def hookP (n : Nat) (fc : List Fc) (ds : List DfP) : PySem.W.Hook where
  α := AlP
  obs := fun s => obsPG n fc ds s.heap.get?
  val := fun _ => valP ds
  says := fun _ h => ∃ K : PySem.W.Frag, K.In h ∧ obsP fc ds K = valP ds
  of := fun _ _ e => ⟨_, He.frG_in, e⟩
  keeps := fun _ _ _ ⟨K, hK, c⟩ k => ⟨K, PySem.W.Frag.In.keeps hK k, c⟩
theorem obsPG_eq {n : Nat} {fc : List Fc} {ds : List DfP} {g : Addr → Option Obj} {s : Shared} (h : ∀ a, g a = s.heap.get? a) : obsPG n fc ds g = (hookP n fc ds).obs s := by
  have e : g = s.heap.get? := funext h
  rw [e] <;> rfl
end Fw

set_option maxHeartbeats 4000000
/-! The places of the program's text and the facts asked of its top. -/
namespace Fw
open PySem PySem.Spec PyProof.Rows L2
def top (i : Nat) : Stmt := PySem.Challenge.pw_fewleft_k53_safe_places.main.body.getD i (.Pass ⟨0, 0, 0, 0⟩)
abbrev s_is_name : Stmt := top 14
abbrev N_is_name : List Str := ["candidate", "letter"]
theorem sc_is_name : FnScope N_is_name ["candidate"] (defScope s_is_name) := ⟨rfl, rfl, rfl, by decide +kernel, rfl, by decide +kernel, by decide +kernel⟩
def d_is_name : DfP := ⟨.g "is_name", "is_name", "is_name", s_is_name, false⟩
abbrev s_are_names : Stmt := top 15
abbrev N_are_names : List Str := ["candidate", "name"]
theorem sc_are_names : FnScope N_are_names ["candidate"] (defScope s_are_names) := ⟨rfl, rfl, rfl, by decide +kernel, rfl, by decide +kernel, by decide +kernel⟩
def d_are_names : DfP := ⟨.g "are_names", "are_names", "are_names", s_are_names, false⟩
abbrev s_distinct : Stmt := top 17
abbrev N_distinct : List Str := ["names", "name"]
theorem sc_distinct : FnScope N_distinct ["names"] (defScope s_distinct) := ⟨rfl, rfl, rfl, by decide +kernel, rfl, by decide +kernel, by decide +kernel⟩
def d_distinct : DfP := ⟨.g "distinct", "distinct", "distinct", s_distinct, false⟩
abbrev s_Committee_init : Stmt := inClass (top 19) 0
abbrev N_Committee_init : List Str := ["self", "names"]
theorem sc_Committee_init : FnScope N_Committee_init ["self", "names"] (defScope s_Committee_init) := ⟨rfl, rfl, rfl, by decide +kernel, rfl, by decide +kernel, by decide +kernel⟩
def d_Committee_init : DfP := ⟨.m "Committee" "__init__", "__init__", "Committee.__init__", s_Committee_init, false⟩
abbrev s_Committee_members : Stmt := inClass (top 19) 1
abbrev N_Committee_members : List Str := ["self"]
theorem sc_Committee_members : FnScope N_Committee_members ["self"] (defScope s_Committee_members) := ⟨rfl, rfl, rfl, by decide +kernel, rfl, by decide +kernel, by decide +kernel⟩
def d_Committee_members : DfP := ⟨.p "Committee" "members", "members", "Committee.members", s_Committee_members, false⟩
abbrev s_Committee_len : Stmt := inClass (top 19) 2
abbrev N_Committee_len : List Str := ["self"]
theorem sc_Committee_len : FnScope N_Committee_len ["self"] (defScope s_Committee_len) := ⟨rfl, rfl, rfl, by decide +kernel, rfl, by decide +kernel, by decide +kernel⟩
def d_Committee_len : DfP := ⟨.m "Committee" "__len__", "__len__", "Committee.__len__", s_Committee_len, false⟩
abbrev s_Committee_eq : Stmt := inClass (top 19) 4
abbrev N_Committee_eq : List Str := ["self", "other"]
theorem sc_Committee_eq : FnScope N_Committee_eq ["self", "other"] (defScope s_Committee_eq) := ⟨rfl, rfl, rfl, by decide +kernel, rfl, by decide +kernel, by decide +kernel⟩
def d_Committee_eq : DfP := ⟨.m "Committee" "__eq__", "__eq__", "Committee.__eq__", s_Committee_eq, false⟩
abbrev s_Ranking_init : Stmt := inClass (top 21) 0
abbrev N_Ranking_init : List Str := ["self", "alternatives", "place", "name"]
theorem sc_Ranking_init : FnScope N_Ranking_init ["self", "alternatives"] (defScope s_Ranking_init) := ⟨rfl, rfl, rfl, by decide +kernel, rfl, by decide +kernel, by decide +kernel⟩
def d_Ranking_init : DfP := ⟨.m "Ranking" "__init__", "__init__", "Ranking.__init__", s_Ranking_init, false⟩
abbrev s_Ranking_alternatives : Stmt := inClass (top 21) 1
abbrev N_Ranking_alternatives : List Str := ["self"]
theorem sc_Ranking_alternatives : FnScope N_Ranking_alternatives ["self"] (defScope s_Ranking_alternatives) := ⟨rfl, rfl, rfl, by decide +kernel, rfl, by decide +kernel, by decide +kernel⟩
def d_Ranking_alternatives : DfP := ⟨.p "Ranking" "alternatives", "alternatives", "Ranking.alternatives", s_Ranking_alternatives, false⟩
abbrev s_Ranking_len : Stmt := inClass (top 21) 2
abbrev N_Ranking_len : List Str := ["self"]
theorem sc_Ranking_len : FnScope N_Ranking_len ["self"] (defScope s_Ranking_len) := ⟨rfl, rfl, rfl, by decide +kernel, rfl, by decide +kernel, by decide +kernel⟩
def d_Ranking_len : DfP := ⟨.m "Ranking" "__len__", "__len__", "Ranking.__len__", s_Ranking_len, false⟩
abbrev s_Ranking_contains : Stmt := inClass (top 21) 4
abbrev N_Ranking_contains : List Str := ["self", "name"]
theorem sc_Ranking_contains : FnScope N_Ranking_contains ["self", "name"] (defScope s_Ranking_contains) := ⟨rfl, rfl, rfl, by decide +kernel, rfl, by decide +kernel, by decide +kernel⟩
def d_Ranking_contains : DfP := ⟨.m "Ranking" "__contains__", "__contains__", "Ranking.__contains__", s_Ranking_contains, false⟩
abbrev s_members_known : Stmt := top 22
abbrev N_members_known : List Str := ["ranking", "committee", "name"]
theorem sc_members_known : FnScope N_members_known ["ranking", "committee"] (defScope s_members_known) := ⟨rfl, rfl, rfl, by decide +kernel, rfl, by decide +kernel, by decide +kernel⟩
def d_members_known : DfP := ⟨.g "members_known", "members_known", "members_known", s_members_known, false⟩
abbrev s_as_committee : Stmt := top 23
abbrev N_as_committee : List Str := ["ranking"]
theorem sc_as_committee : FnScope N_as_committee ["ranking"] (defScope s_as_committee) := ⟨rfl, rfl, rfl, by decide +kernel, rfl, by decide +kernel, by decide +kernel⟩
def d_as_committee : DfP := ⟨.g "as_committee", "as_committee", "as_committee", s_as_committee, false⟩
abbrev s_UnknownName_init : Stmt := inClass (top 8) 0
def d_UnknownName_init : DfP := ⟨.m "UnknownName" "__init__", "__init__", "UnknownName.__init__", s_UnknownName_init, true⟩
abbrev s_Turns_init : Stmt := inClass (top 25) 0
abbrev N_Turns_init : List Str := ["self", "players"]
theorem sc_Turns_init : FnScope N_Turns_init ["self", "players"] (defScope s_Turns_init) := ⟨rfl, rfl, rfl, by decide +kernel, rfl, by decide +kernel, by decide +kernel⟩
def d_Turns_init : DfP := ⟨.m "Turns" "__init__", "__init__", "Turns.__init__", s_Turns_init, false⟩
abbrev s_Turns_players : Stmt := inClass (top 25) 1
abbrev N_Turns_players : List Str := ["self"]
theorem sc_Turns_players : FnScope N_Turns_players ["self"] (defScope s_Turns_players) := ⟨rfl, rfl, rfl, by decide +kernel, rfl, by decide +kernel, by decide +kernel⟩
def d_Turns_players : DfP := ⟨.p "Turns" "players", "players", "Turns.players", s_Turns_players, false⟩
abbrev s_Turns_len : Stmt := inClass (top 25) 2
abbrev N_Turns_len : List Str := ["self"]
theorem sc_Turns_len : FnScope N_Turns_len ["self"] (defScope s_Turns_len) := ⟨rfl, rfl, rfl, by decide +kernel, rfl, by decide +kernel, by decide +kernel⟩
def d_Turns_len : DfP := ⟨.m "Turns" "__len__", "__len__", "Turns.__len__", s_Turns_len, false⟩
abbrev s_Game_first_ranking : Stmt := inClass (top 32) 2
abbrev N_Game_first_ranking : List Str := ["self"]
theorem sc_Game_first_ranking : FnScope N_Game_first_ranking ["self"] (defScope s_Game_first_ranking) := ⟨rfl, rfl, rfl, by decide +kernel, rfl, by decide +kernel, by decide +kernel⟩
def d_Game_first_ranking : DfP := ⟨.m "Game" "first_ranking", "first_ranking", "Game.first_ranking", s_Game_first_ranking, false⟩
abbrev s_Game_rankings : Stmt := inClass (top 32) 3
abbrev N_Game_rankings : List Str := ["self"]
theorem sc_Game_rankings : FnScope N_Game_rankings ["self"] (defScope s_Game_rankings) := ⟨rfl, rfl, rfl, by decide +kernel, rfl, by decide +kernel, by decide +kernel⟩
def d_Game_rankings : DfP := ⟨.p "Game" "rankings", "rankings", "Game.rankings", s_Game_rankings, false⟩
abbrev s_Game_turns : Stmt := inClass (top 32) 4
abbrev N_Game_turns : List Str := ["self"]
theorem sc_Game_turns : FnScope N_Game_turns ["self"] (defScope s_Game_turns) := ⟨rfl, rfl, rfl, by decide +kernel, rfl, by decide +kernel, by decide +kernel⟩
def d_Game_turns : DfP := ⟨.p "Game" "turns", "turns", "Game.turns", s_Game_turns, false⟩
abbrev s_Game_alternatives : Stmt := inClass (top 32) 5
abbrev N_Game_alternatives : List Str := ["self"]
theorem sc_Game_alternatives : FnScope N_Game_alternatives ["self"] (defScope s_Game_alternatives) := ⟨rfl, rfl, rfl, by decide +kernel, rfl, by decide +kernel, by decide +kernel⟩
def d_Game_alternatives : DfP := ⟨.p "Game" "alternatives", "alternatives", "Game.alternatives", s_Game_alternatives, false⟩
abbrev s_Game_ranking_of : Stmt := inClass (top 32) 10
abbrev N_Game_ranking_of : List Str := ["self", "player"]
theorem sc_Game_ranking_of : FnScope N_Game_ranking_of ["self", "player"] (defScope s_Game_ranking_of) := ⟨rfl, rfl, rfl, by decide +kernel, rfl, by decide +kernel, by decide +kernel⟩
def d_Game_ranking_of : DfP := ⟨.m "Game" "ranking_of", "ranking_of", "Game.ranking_of", s_Game_ranking_of, false⟩
abbrev s_Game_check_turns : Stmt := inClass (top 32) 1
abbrev N_Game_check_turns : List Str := ["self", "turns", "player"]
theorem sc_Game_check_turns : FnScope N_Game_check_turns ["self", "turns"] (defScope s_Game_check_turns) := ⟨rfl, rfl, rfl, by decide +kernel, rfl, by decide +kernel, by decide +kernel⟩
def d_Game_check_turns : DfP := ⟨.m "Game" "check_turns", "check_turns", "Game.check_turns", s_Game_check_turns, false⟩
abbrev s_check_rankings : Stmt := top 31
abbrev N_check_rankings : List Str := ["rankings", "player", "ranking", "first"]
theorem sc_check_rankings : FnScope N_check_rankings ["rankings"] (defScope s_check_rankings) := ⟨rfl, rfl, rfl, by decide +kernel, rfl, by decide +kernel, by decide +kernel⟩
def d_check_rankings : DfP := ⟨.g "check_rankings", "check_rankings", "check_rankings", s_check_rankings, false⟩
abbrev s_Game_init : Stmt := inClass (top 32) 0
abbrev N_Game_init : List Str := ["self", "rankings", "turns", "player"]
theorem sc_Game_init : FnScope N_Game_init ["self", "rankings", "turns"] (defScope s_Game_init) := ⟨rfl, rfl, rfl, by decide +kernel, rfl, by decide +kernel, by decide +kernel⟩
def d_Game_init : DfP := ⟨.m "Game" "__init__", "__init__", "Game.__init__", s_Game_init, false⟩
abbrev s_check_group : Stmt := top 27
abbrev N_check_group : List Str := ["game", "group", "target", "player"]
theorem sc_check_group : FnScope N_check_group ["game", "group", "target"] (defScope s_check_group) := ⟨rfl, rfl, rfl, by decide +kernel, rfl, by decide +kernel, by decide +kernel⟩
def d_check_group : DfP := ⟨.g "check_group", "check_group", "check_group", s_check_group, false⟩
abbrev s_number_left : Stmt := top 28
abbrev N_number_left : List Str := ["game", "group", "target", "own", "player", "others", "outside"]
theorem sc_number_left : FnScope N_number_left ["game", "group", "target"] (defScope s_number_left) := ⟨rfl, rfl, rfl, by decide +kernel, rfl, by decide +kernel, by decide +kernel⟩
def d_number_left : DfP := ⟨.g "number_left", "number_left", "number_left", s_number_left, false⟩
abbrev s_safe_place : Stmt := top 29
abbrev N_safe_place : List Str := ["game", "player", "ranking", "place"]
theorem sc_safe_place : FnScope N_safe_place ["game", "player"] (defScope s_safe_place) := ⟨rfl, rfl, rfl, by decide +kernel, rfl, by decide +kernel, by decide +kernel⟩
def d_safe_place : DfP := ⟨.g "safe_place", "safe_place", "safe_place", s_safe_place, false⟩
abbrev s_law_stream : Stmt := top 34
abbrev N_law_stream : List Str := ["_law_script", "_law_k", "_law_cell", "_law_size", "_law_mixed"]
theorem sc_law_stream : FnScope N_law_stream ["_law_script", "_law_k"] (defScope s_law_stream) := ⟨rfl, rfl, rfl, by decide +kernel, rfl, by decide +kernel, by decide +kernel⟩
def d_law_stream : DfP := ⟨.g "_law_stream", "_law_stream", "_law_stream", s_law_stream, false⟩
abbrev s_law_draw : Stmt := top 35
abbrev N_law_draw : List Str := ["_law_stream_here", "_law_count", "_law_result"]
theorem sc_law_draw : FnScope N_law_draw ["_law_stream_here", "_law_count"] (defScope s_law_draw) := ⟨rfl, rfl, rfl, by decide +kernel, rfl, by decide +kernel, by decide +kernel⟩
def d_law_draw : DfP := ⟨.g "_law_draw", "_law_draw", "_law_draw", s_law_draw, false⟩
abbrev s_law_shuffled : Stmt := top 36
abbrev N_law_shuffled : List Str := ["_law_stream_here", "_law_items", "_law_left", "_law_found", "_law_turn"]
theorem sc_law_shuffled : FnScope N_law_shuffled ["_law_stream_here", "_law_items"] (defScope s_law_shuffled) := ⟨rfl, rfl, rfl, by decide +kernel, rfl, by decide +kernel, by decide +kernel⟩
def d_law_shuffled : DfP := ⟨.g "_law_shuffled", "_law_shuffled", "_law_shuffled", s_law_shuffled, false⟩
abbrev s_law_players : Stmt := top 37
abbrev N_law_players : List Str := ["_law_stream_here", "_law_most"]
theorem sc_law_players : FnScope N_law_players ["_law_stream_here", "_law_most"] (defScope s_law_players) := ⟨rfl, rfl, rfl, by decide +kernel, rfl, by decide +kernel, by decide +kernel⟩
def d_law_players : DfP := ⟨.g "_law_players", "_law_players", "_law_players", s_law_players, false⟩
abbrev s_law_names : Stmt := top 38
abbrev N_law_names : List Str := ["_law_stream_here", "_law_many"]
theorem sc_law_names : FnScope N_law_names ["_law_stream_here", "_law_many"] (defScope s_law_names) := ⟨rfl, rfl, rfl, by decide +kernel, rfl, by decide +kernel, by decide +kernel⟩
def d_law_names : DfP := ⟨.g "_law_names", "_law_names", "_law_names", s_law_names, false⟩
abbrev s_law_own : Stmt := top 39
abbrev N_law_own : List Str := ["_law_stream_here", "_law_most", "_law_names_here", "_law_players_here", "_law_rankings", "_law_player", "_law_turns", "_law_turn"]
theorem sc_law_own : FnScope N_law_own ["_law_stream_here", "_law_most"] (defScope s_law_own) := ⟨rfl, rfl, rfl, by decide +kernel, rfl, by decide +kernel, by decide +kernel⟩
def d_law_own : DfP := ⟨.g "_law_own", "_law_own", "_law_own", s_law_own, false⟩
abbrev s_law_game : Stmt := top 40
abbrev N_law_game : List Str := ["_law_own_here", "_law_player"]
theorem sc_law_game : FnScope N_law_game ["_law_own_here"] (defScope s_law_game) := ⟨rfl, rfl, rfl, by decide +kernel, rfl, by decide +kernel, by decide +kernel⟩
def d_law_game : DfP := ⟨.g "_law_game", "_law_game", "_law_game", s_law_game, false⟩
abbrev s_law_all : Stmt := top 43
abbrev N_law_all : List Str := ["_law_own_here"]
theorem sc_law_all : FnScope N_law_all ["_law_own_here"] (defScope s_law_all) := ⟨rfl, rfl, rfl, by decide +kernel, rfl, by decide +kernel, by decide +kernel⟩
def d_law_all : DfP := ⟨.g "_law_all", "_law_all", "_law_all", s_law_all, false⟩
abbrev s_law_refused : Stmt := top 45
abbrev N_law_refused : List Str := ["_law_game_here", "_law_odd", "e"]
theorem sc_law_refused : FnScope N_law_refused ["_law_game_here", "_law_odd"] (defScope s_law_refused) := ⟨rfl, rfl, rfl, by decide +kernel, rfl, by decide +kernel, by decide +kernel⟩
def d_law_refused : DfP := ⟨.g "_law_refused", "_law_refused", "_law_refused", s_law_refused, false⟩
abbrev s_law_worst : Stmt := top 41
abbrev N_law_worst : List Str := ["_law_ranking", "_law_left", "_law_name"]
theorem sc_law_worst : FnScope N_law_worst ["_law_ranking", "_law_left"] (defScope s_law_worst) := ⟨rfl, rfl, rfl, by decide +kernel, rfl, by decide +kernel, by decide +kernel⟩
def d_law_worst : DfP := ⟨.g "_law_worst", "_law_worst", "_law_worst", s_law_worst, false⟩
abbrev s_law_value : Stmt := top 44
abbrev N_law_value : List Str := ["_law_own_here", "_law_player", "_law_turns", "_law_left", "_law_best", "_law_name", "_law_rest", "_law_other", "_law_found"]
theorem sc_law_value : FnScope N_law_value ["_law_own_here", "_law_player", "_law_turns", "_law_left"] (defScope s_law_value) := ⟨rfl, rfl, rfl, by decide +kernel, rfl, by decide +kernel, by decide +kernel⟩
def d_law_value : DfP := ⟨.g "_law_value", "_law_value", "_law_value", s_law_value, false⟩
abbrev s_law : Stmt := top 46
abbrev N_law : List Str := ["_law_script", "_law_k", "_law_stream_here", "_law_own_here", "_law_game_here", "_law_player", "_law_due", "_law_odd"]
theorem sc_law : FnScope N_law ["_law_script"] (defScope s_law) := ⟨rfl, rfl, rfl, by decide +kernel, rfl, by decide +kernel, by decide +kernel⟩
def d_law : DfP := ⟨.g "law", "law", "law", s_law, false⟩
def dfs : List DfP := ([d_is_name, d_are_names, d_distinct, d_Committee_init, d_Committee_members, d_Committee_len, d_Committee_eq, d_Ranking_init, d_Ranking_alternatives, d_Ranking_len, d_Ranking_contains, d_members_known, d_as_committee, d_UnknownName_init, d_Turns_init, d_Turns_players, d_Turns_len, d_Game_first_ranking, d_Game_rankings, d_Game_turns, d_Game_alternatives, d_Game_ranking_of, d_Game_check_turns, d_check_rankings, d_Game_init] : List DfP) ++ ([d_check_group, d_number_left, d_safe_place, d_law_stream, d_law_draw, d_law_shuffled, d_law_players, d_law_names, d_law_own, d_law_game, d_law_all, d_law_refused, d_law_worst, d_law_value, d_law] : List DfP)
def fcs : List Fc := ([.a (.free "isinstance"), .a (.free "str"), .a (.free "len"), .a (.free "all"), .a (.free "list"), .a (.glo "is_name"), .a (.free "sorted"), .a (.glo "are_names"), .a (.glo "distinct"), .a (.cls "Committee"), .a (.noat "Committee" "own_members"), .a (.glo "Committee"), .a (.int "MAX_LETTERS" 8), .a (.str "LETTERS" "abcdefghijklmnopqrstuvwxyz"), .a (.int "MAX_NAMES" 30), .a (.cls "Ranking"), .a (.noat "Ranking" "order"), .a (.free "enumerate"), .a (.noat "Ranking" "places"), .prop "Committee" "members", .a (.meth "Ranking" "__contains__"), .a (.mkr "Committee"), .prop "Ranking" "alternatives", .a (.cls "Turns"), .a (.noat "Turns" "order")] : List Fc) ++ ([.a (.cls "Game"), .a (.noat "Game" "own_rankings"), .a (.free "dict"), .a (.noat "Game" "own_turns"), .a (.glo "as_committee"), .a (.meth "Game" "first_ranking"), .exi "UnknownName" "name" .lookup, .exb "UnknownName", .a (.glo "UnknownName"), .a (.glo "Turns"), .a (.meth "Turns" "__len__"), .a (.meth "Ranking" "__len__"), .prop "Turns" "players", .a (.glo "Ranking"), .a (.meth "Committee" "__eq__"), .a (.glo "check_rankings"), .a (.meth "Game" "check_turns"), .prop "Game" "rankings", .a (.glo "members_known"), .a (.glo "check_group"), .prop "Game" "turns", .prop "Game" "alternatives", .a (.meth "Committee" "__len__"), .a (.free "max"), .a (.meth "Game" "ranking_of")] : List Fc) ++ ([.a (.free "range"), .a (.glo "number_left"), .a (.free "int"), .a (.glo "_law_draw"), .a (.glo "_law_shuffled"), .a (.glo "_law_players"), .a (.glo "_law_names"), .a (.mkr "Game"), .a (.glo "Game"), .a (.mkr "Turns"), .a (.mkr "Ranking"), .a (.glo "safe_place"), .a (.free "repr"), .exf "UnknownName" "name", .a (.free "LookupError"), .exs "UnknownName" "UnknownName" true, .kit (.own "UnknownName") (.ty "LookupError") true, .a (.glo "_law_worst"), .a (.glo "_law_value"), .a (.free "min"), .a (.glo "_law_stream"), .a (.glo "_law_own"), .a (.glo "_law_game"), .a (.glo "_law_all"), .a (.glo "_law_refused")] : List Fc) ++ ([.a (.glo "law"), .kit (.ty "str") (.ty "str") true, .kit (.ty "int") (.ty "int") true, .kit (.ty "list") (.ty "list") true, .kit (.ty "dict") (.ty "dict") true, .kit (.own "Committee") (.own "Committee") true, .kit (.own "Ranking") (.own "Ranking") true, .kit (.own "Turns") (.own "Turns") true, .kit (.own "Game") (.own "Game") true, .kit (.ty "NoneType") (.ty "str") false, .kit (.ty "int") (.ty "str") false, .kit (.ty "list") (.ty "str") false, .kit (.ty "bool") (.ty "str") false, .kit (.ty "int") (.ty "bool") false, .kit (.ty "bool") (.ty "int") true, .kit (.ty "bool") (.ty "bool") true, .ins "Committee", .ins "Game", .ins "Ranking", .ins "Turns"] : List Fc)
end Fw

set_option maxHeartbeats 4000000
/-! The look behind the top, over a tree of its objects. -/
namespace Fw
open PySem PySem.Spec PyProof.Rows L2
/-- an object off the tree -/
def getB (t : PySem.W.BT) (n : Nat) (a : Addr) : Option Obj := match Nat.blt a n with
  | true => (match t.get a with
    | some o => PySem.W.alive o
    | none => PySem.W.alive default)
  | false => none
theorem getB_eq {t : PySem.W.BT} {n : Nat} {life : Life} {s : Shared} (e : PySem.W.absHeap t n life = s.heap) (a : Addr) : getB t n a = s.heap.get? a := by
  have h := HandSHeadRun.getT_eq ⟨t, n, life, s.gens, s.drawn, s.toks, s.os⟩ a
  have h2 : HandSHeadRun.getT ⟨t, n, life, s.gens, s.drawn, s.toks, s.os⟩ a = getB t n a := rfl
  rw [← h2, h]
  show (PySem.W.absHeap t n life).get? a = _
  rw [e]
/-- the observation -/
def obsT (n : Nat) (fc : List Fc) (ds : List DfP) (s : Shared) : AlP := match HandSHeadRun.putAll s.heap.objs.toList .nil 0 with
  | some (t, m) => obsPG n fc ds (getB t m)
  | none => (false, [])
theorem obsT_ok {n : Nat} {fc : List Fc} {ds : List DfP} {s : Shared} (h : obsT n fc ds s = valP ds) : obsPG n fc ds s.heap.get? = valP ds := by
  unfold obsT at h
  cases e : HandSHeadRun.putAll s.heap.objs.toList .nil 0 with
  | none =>
    rw [e] at h
    have z : false = true := congrArg (fun x : AlP => x.1) h
    cases z
  | some r =>
    obtain ⟨t, m⟩ := r
    rw [e] at h
    have eg : getB t m = s.heap.get? := funext fun a => getB_eq (HandSHeadRun.putAll_heap e) a
    rw [← eg]; exact h
def hookT (n : Nat) (fc : List Fc) (ds : List DfP) : PySem.W.Hook where
  α := AlP
  obs := fun s => obsT n fc ds s
  val := fun _ => valP ds
  says := fun _ h => ∃ K : PySem.W.Frag, K.In h ∧ obsP fc ds K = valP ds
  of := fun _ _ e => ⟨_, He.frG_in, obsT_ok e⟩
  keeps := fun _ _ _ ⟨K, hK, c⟩ k => ⟨K, PySem.W.Frag.In.keeps hK k, c⟩
end Fw

set_option maxHeartbeats 4000000
/-! The data layer: what a Python value is as a datum, what stands in the heap for it. -/
namespace Fw
open PySem PySem.Spec PyProof.Rows L2

/-- a datum -/
inductive D where
  | non | bl (b : Bool) | int (i : Int) | str (s : Str) | ty (n : String)
  | glo (x : Str)
  | lst (xs : List D) | tup (xs : List D) | dic (kvs : List (Key × D)) | obj (c : Str) (fs : List (Str × D))
  | stm | scr (ns : List Int)
  /-- a caught exception without fields; one with the field f -/
  | exc0 (c : Str) (a : Addr) | exc (c : Str) (a dd : Addr) (f : Str) (d : D)

/-- the stream: a list of two bounded ints, whatever they are -/
def StmB (a b : Int) : Prop := 0 ≤ a ∧ 0 ≤ b ∧ b < 2147483647
def stmO (a : Addr) : HO := .ext fun h => ∃ (i j : Int) (t u : Tok) (n : Nat), StmB i j ∧ h.get? a = some { cls := .type "list", data := .seq #[.int i t, .int j u] n }

/-- a list of the written part -/
def KL (K : PySem.W.Frag) (a : Addr) (xs : List V) : Prop := ∃ (o : Obj) (its : Array Value) (n : Nat), K.lookup a = some o ∧ o.cls = .type "list" ∧ o.dict = none ∧ o.data = .seq its n ∧ its.size ≤ sizeLine ∧ Vals xs its.toList
section
variable (K : PySem.W.Frag) (S : Addr → Prop) (H : Hp)
mutual
inductive Rep : V → D → Prop where
  | non : Rep .non .non
  | bl (b : Bool) : Rep (.bl b) (.bl b)
  | int (i : Int) : Rep (.int i) (.int i)
  | str (s : Str) : Rep (.str s) (.str s)
  | ty (n : String) : Rep (.ty n) (.ty n)
  | glo (x : Str) : Rep (.ref (He.ga K x)) (.glo x)
  | lst {a : Addr} {vs : List V} {ds : List D} (n : ¬ S a) (h : H a = some (.lst vs)) (r : Reps vs ds) : Rep (.ref a) (.lst ds)
  | tup {a : Addr} {vs : List V} {ds : List D} (n : ¬ S a) (h : H a = some (.tup vs)) (r : Reps vs ds) : Rep (.ref a) (.tup ds)
  | dic {a : Addr} {kvs : List (Key × V)} {ds : List (Key × D)} (n : ¬ S a) (h : Rd H a (.dK kvs)) (e : kvs.map Prod.fst = ds.map Prod.fst) (r : Reps (kvs.map Prod.snd) (ds.map Prod.snd)) : Rep (.ref a) (.dic ds)
  | obj {a dx : Addr} {c : Str} {fs : List (Str × V)} {ds : List (Str × D)} (n : ¬ S a) (h : H a = some (.ins (He.ga K c) dx fs)) (e : fs.map Prod.fst = ds.map Prod.fst) (r : Reps (fs.map Prod.snd) (ds.map Prod.snd)) : Rep (.ref a) (.obj c ds)
  | stm {a : Addr} (n : ¬ S a) (h : H a = some (stmO a)) : Rep (.ref a) .stm
  | scr {a : Addr} {ns : List Int} (n : ¬ S a) (h : Rd H a (.lst (ns.map V.int))) : Rep (.ref a) (.scr ns)
  | scrK {a : Addr} {ns : List Int} (h : KL K a (ns.map V.int)) : Rep (.ref a) (.scr ns)
  | exc0 {a : Addr} {c : Str} : Rep (.ref a) (.exc0 c a)
  | exc {a dd : Addr} {c f : Str} {v : V} {d : D} (n : ¬ S dd) (h : H dd = some (.xd [(f, v)])) (r : Rep v d) : Rep (.ref a) (.exc c a dd f d)
inductive Reps : List V → List D → Prop where
  | nil : Reps [] []
  | cons {v : V} {d : D} {vs : List V} {ds : List D} (h : Rep v d) (t : Reps vs ds) : Reps (v :: vs) (d :: ds)
end
end

/-! ### heaps that grow -/
/-- objects that never change their description -/
def Solid : HO → Prop
  | .dK _ => False
  | .frz _ (.dK _) => False
  | _ => True
def LeX (S : Addr → Prop) (H H' : Hp) : Prop := ∀ a, ¬ S a → (∀ u, Solid u → H a = some u → H' a = some u) ∧ (∀ kvs, Rd H a (.dK kvs) → Rd H' a (.dK kvs))
abbrev Le (H H' : Hp) : Prop := LeX (fun _ => False) H H'
theorem LeX.rfl' {S : Addr → Prop} {H : Hp} : LeX S H H := fun _ _ => ⟨fun _ _ h => h, fun _ h => h⟩
theorem LeX.trans {S : Addr → Prop} {H H1 H2 : Hp} (a : LeX S H H1) (b : LeX S H1 H2) : LeX S H H2 := fun c n => ⟨fun u s h => (b c n).1 u s ((a c n).1 u s h), fun k h => (b c n).2 k ((a c n).2 k h)⟩
theorem LeX.weak {S T : Addr → Prop} {H H' : Hp} (h : LeX S H H') (s : ∀ a, S a → T a) : LeX T H H' := fun a n => h a fun z => n (s a z)
theorem Le.x {S : Addr → Prop} {H H' : Hp} (h : Le H H') : LeX S H H' := h.weak fun _ z => z.elim
theorem Le.of_same {H H' : Hp} (h : Same H H') : Le H H' := fun a _ => ⟨fun u _ e => h a u e, fun k r => by
  rcases r with r | ⟨o, r⟩
  · exact .inl (h a _ r)
  · exact .inr ⟨o, h a _ r⟩⟩
theorem Le.upd {H : Hp} {p : Addr} {o : HO} (h : H p = none) : Le H (upd H p o) := Le.of_same fun b u e => by
  rw [upd_ne (ne_of_none e h)]; exact e
theorem LeX.free {S : Addr → Prop} {H H' : Hp} (l : LeX S H H') {p : Addr} (n : ¬ S p) (h : H' p = none) : H p = none := by
  cases e : H p with
  | none => rfl
  | some u =>
    exfalso
    by_cases s : Solid u
    · have := (l p n).1 u s e
      rw [h] at this; cases this
    · have rd : ∃ kvs, Rd H p (.dK kvs) := by
        cases u with
        | dK kvs => exact ⟨kvs, .inl e⟩
        | frz o w =>
          cases w with
          | dK kvs => exact ⟨kvs, .inr ⟨o, e⟩⟩
          | _ => exact absurd trivial s
        | _ => exact absurd trivial s
      obtain ⟨kvs, r⟩ := rd
      rcases (l p n).2 kvs r with r | ⟨o, r⟩
      · rw [h] at r; cases r
      · rw [h] at r; cases r
theorem Le.free {H H' : Hp} (l : Le H H') {p : Addr} (h : H' p = none) : H p = none := LeX.free l (fun z => z) h
/-- an owned thing is changed -/
theorem LeX.put {S : Addr → Prop} {H : Hp} {p : Addr} {o : HO} (s : S p) : LeX S H (upd H p o) := fun a n => by
  have e : upd H p o a = H a := upd_ne fun z => n (z ▸ s)
  exact ⟨fun u _ h => e.trans h, fun k h => by
    rcases h with h | ⟨o', h⟩
    · exact .inl (e.trans h)
    · exact .inr ⟨o', e.trans h⟩⟩

theorem Rd.lex {S : Addr → Prop} {H H' : Hp} {a : Addr} {xs : List V} (l : LeX S H H') (n : ¬ S a) (h : Rd H a (.lst xs)) : Rd H' a (.lst xs) := by
  rcases h with h | ⟨o, h⟩
  · exact .inl ((l a n).1 _ trivial h)
  · exact .inr ⟨o, (l a n).1 _ trivial h⟩
section
variable {K : PySem.W.Frag} {S T : Addr → Prop} {H H' : Hp}
mutual
theorem Rep.mono {v : V} {d : D} (l : LeX S H H') : Rep K S H v d → Rep K S H' v d
  | .non => .non
  | .bl b => .bl b
  | .int i => .int i
  | .str s => .str s
  | .ty n => .ty n
  | .glo x => .glo x
  | .lst n h r => .lst n ((l _ n).1 _ trivial h) (Reps.mono l r)
  | .tup n h r => .tup n ((l _ n).1 _ trivial h) (Reps.mono l r)
  | .dic n h e r => .dic n ((l _ n).2 _ h) e (Reps.mono l r)
  | .obj n h e r => .obj n ((l _ n).1 _ trivial h) e (Reps.mono l r)
  | .stm n h => .stm n ((l _ n).1 _ trivial h)
  | .scr n h => .scr n (Rd.lex l n h)
  | .scrK h => .scrK h
  | .exc0 => .exc0
  | .exc n h r => .exc n ((l _ n).1 _ trivial h) (Rep.mono l r)
theorem Reps.mono {vs : List V} {ds : List D} (l : LeX S H H') : Reps K S H vs ds → Reps K S H' vs ds
  | .nil => .nil
  | .cons h t => .cons (Rep.mono l h) (Reps.mono l t)
end
mutual
theorem Rep.weak {v : V} {d : D} (s : ∀ a, T a → S a) : Rep K S H v d → Rep K T H v d
  | .non => .non
  | .bl b => .bl b
  | .int i => .int i
  | .str s => .str s
  | .ty n => .ty n
  | .glo x => .glo x
  | .lst n h r => .lst (fun z => n (s _ z)) h (Reps.weak s r)
  | .tup n h r => .tup (fun z => n (s _ z)) h (Reps.weak s r)
  | .dic n h e r => .dic (fun z => n (s _ z)) h e (Reps.weak s r)
  | .obj n h e r => .obj (fun z => n (s _ z)) h e (Reps.weak s r)
  | .stm n h => .stm (fun z => n (s _ z)) h
  | .scr n h => .scr (fun z => n (s _ z)) h
  | .scrK h => .scrK h
  | .exc0 => .exc0
  | .exc n h r => .exc (fun z => n (s _ z)) h (Rep.weak s r)
theorem Reps.weak {vs : List V} {ds : List D} (s : ∀ a, T a → S a) : Reps K S H vs ds → Reps K T H vs ds
  | .nil => .nil
  | .cons h t => .cons (Rep.weak s h) (Reps.weak s t)
end
end
end Fw

set_option maxHeartbeats 4000000
/-! The data calculus: what a reading gives, told of data alone. -/
namespace Fw
open PySem PySem.Spec PyProof.Rows L2

/-! ### all but what is owned stands -/
def SameX (S : Addr → Prop) (H H' : Hp) : Prop := ∀ a, ¬ S a → ∀ u, H a = some u → H' a = some u
theorem SameX.lex {S : Addr → Prop} {H H' : Hp} (h : SameX S H H') : LeX S H H' := fun a n => ⟨fun u _ e => h a n u e, fun k r => by
  rcases r with r | ⟨o, r⟩
  · exact .inl (h a n _ r)
  · exact .inr ⟨o, h a n _ r⟩⟩
theorem SameX.rfl' {S : Addr → Prop} {H : Hp} : SameX S H H := fun _ _ _ h => h
theorem Same.sx {S : Addr → Prop} {H H' : Hp} (h : Same H H') : SameX S H H' := fun a _ u e => h a u e
theorem Same.lex {S : Addr → Prop} {H H' : Hp} (h : Same H H') : LeX S H H' := (Same.sx h).lex
theorem Same.put {H : Hp} {p : Addr} {o : HO} (h : H p = none) : Same H (upd H p o) := fun b u e => by rw [upd_ne (ne_of_none e h)]; exact e

section
variable {K : PySem.W.Frag} {S T : Addr → Prop} {H H' : Hp}
theorem Rep.same {v : V} {d : D} (r : Rep K S H v d) (s : Same H H') : Rep K S H' v d := Rep.mono (Same.lex s) r
theorem Reps.same {v : List V} {d : List D} (r : Reps K S H v d) (s : Same H H') : Reps K S H' v d := Reps.mono (Same.lex s) r
mutual
/-- what is not there is not in it -/
theorem Rep.avoid {v : V} {d : D} (s : ∀ a, T a → S a ∨ H a = none) : Rep K S H v d → Rep K T H v d
  | .non => .non
  | .bl b => .bl b
  | .int i => .int i
  | .str s => .str s
  | .ty n => .ty n
  | .glo x => .glo x
  | .lst n h r => .lst (fun z => (s _ z).elim n fun q => by rw [h] at q; cases q) h (Reps.avoid s r)
  | .tup n h r => .tup (fun z => (s _ z).elim n fun q => by rw [h] at q; cases q) h (Reps.avoid s r)
  | .dic n h e r => .dic (fun z => (s _ z).elim n fun q => by rcases h with h | ⟨_, h⟩ <;> (rw [h] at q; cases q)) h e (Reps.avoid s r)
  | .obj n h e r => .obj (fun z => (s _ z).elim n fun q => by rw [h] at q; cases q) h e (Reps.avoid s r)
  | .stm n h => .stm (fun z => (s _ z).elim n fun q => by rw [h] at q; cases q) h
  | .scr n h => .scr (fun z => (s _ z).elim n fun q => by rcases h with h | ⟨_, h⟩ <;> (rw [h] at q; cases q)) h
  | .scrK h => .scrK h
  | .exc0 => .exc0
  | .exc n h r => .exc (fun z => (s _ z).elim n fun q => by rw [h] at q; cases q) h (Rep.avoid s r)
theorem Reps.avoid {vs : List V} {ds : List D} (s : ∀ a, T a → S a ∨ H a = none) : Reps K S H vs ds → Reps K T H vs ds
  | .nil => .nil
  | .cons h t => .cons (Rep.avoid s h) (Reps.avoid s t)
end
theorem Reps.length {vs : List V} {ds : List D} : Reps K S H vs ds → vs.length = ds.length
  | .nil => rfl
  | .cons _ t => congrArg Nat.succ (Reps.length t)
theorem Reps.get {vs : List V} {ds : List D} : ∀ {i : Nat} {v : V}, Reps K S H vs ds → vs[i]? = some v → ∃ d, ds[i]? = some d ∧ Rep K S H v d
  | _, _, .nil, e => by simp at e
  | 0, _, .cons h _, e => by simp at e; subst e; exact ⟨_, rfl, h⟩
  | i + 1, _, .cons _ t, e => by
    obtain ⟨d, h1, h2⟩ := Reps.get (i := i) t (by simpa using e)
    exact ⟨d, by simpa using h1, h2⟩
theorem Reps.get' {vs : List V} {ds : List D} : ∀ {i : Nat} {d : D}, Reps K S H vs ds → ds[i]? = some d → ∃ v, vs[i]? = some v ∧ Rep K S H v d
  | _, _, .nil, e => by simp at e
  | 0, _, .cons h _, e => by simp at e; subst e; exact ⟨_, rfl, h⟩
  | i + 1, _, .cons _ t, e => by
    obtain ⟨d, h1, h2⟩ := Reps.get' (i := i) t (by simpa using e)
    exact ⟨d, by simpa using h1, h2⟩
theorem Reps.append {vs ws : List V} {ds es : List D} : Reps K S H vs ds → Reps K S H ws es → Reps K S H (vs ++ ws) (ds ++ es)
  | .nil, t => t
  | .cons h r, t => .cons h (Reps.append r t)
theorem Reps.set {v : V} {d : D} (h : Rep K S H v d) : ∀ {vs : List V} {ds : List D} (i : Nat), Reps K S H vs ds → Reps K S H (vs.set i v) (ds.set i d)
  | _, _, _, .nil => .nil
  | _, _, 0, .cons _ t => .cons h t
  | _, _, i + 1, .cons q t => .cons q (Reps.set h i t)
theorem Reps.take {vs : List V} {ds : List D} : ∀ (n : Nat), Reps K S H vs ds → Reps K S H (vs.take n) (ds.take n)
  | 0, _ => .nil
  | _ + 1, .nil => .nil
  | n + 1, .cons r t => .cons r (Reps.take n t)
theorem Reps.drop {vs : List V} {ds : List D} : ∀ (n : Nat), Reps K S H vs ds → Reps K S H (vs.drop n) (ds.drop n)
  | 0, r => r
  | _ + 1, .nil => .nil
  | n + 1, .cons r t => Reps.drop n t
theorem Reps.erase {vs : List V} {ds : List D} : ∀ (n : Nat), Reps K S H vs ds → Reps K S H (vs.eraseIdx n) (ds.eraseIdx n)
  | _, .nil => .nil
  | 0, .cons _ t => t
  | n + 1, .cons r t => .cons r (Reps.erase n t)
theorem Reps.dropLast {vs : List V} {ds : List D} (r : Reps K S H vs ds) : Reps K S H vs.dropLast ds.dropLast := by
  rw [List.dropLast_eq_take, List.dropLast_eq_take, r.length]; exact r.take _
theorem Reps.reverse {vs : List V} {ds : List D} : Reps K S H vs ds → Reps K S H vs.reverse ds.reverse
  | .nil => .nil
  | .cons r t => by rw [List.reverse_cons, List.reverse_cons]; exact (Reps.reverse t).append (.cons r .nil)
theorem Reps.strs {vs : List V} {ss : List Str} (r : Reps K S H vs (ss.map D.str)) : vs = ss.map V.str := by
  induction ss generalizing vs with
  | nil => cases r; rfl
  | cons s ss ih => cases r with | cons h t => cases h; rw [ih t]; rfl
theorem Reps.ints {vs : List V} {ss : List Int} (r : Reps K S H vs (ss.map D.int)) : vs = ss.map V.int := by
  induction ss generalizing vs with
  | nil => cases r; rfl
  | cons s ss ih => cases r with | cons h t => cases h; rw [ih t]; rfl
theorem Reps.bls {vs : List V} {ss : List Bool} (r : Reps K S H vs (ss.map D.bl)) : vs = ss.map V.bl := by
  induction ss generalizing vs with
  | nil => cases r; rfl
  | cons s ss ih => cases r with | cons h t => cases h; rw [ih t]; rfl
theorem reps_strs (ss : List Str) : Reps K S H (ss.map V.str) (ss.map D.str) := by
  induction ss with
  | nil => exact .nil
  | cons s ss ih => exact .cons (.str s) ih
theorem reps_ints (ss : List Int) : Reps K S H (ss.map V.int) (ss.map D.int) := by
  induction ss with
  | nil => exact .nil
  | cons s ss ih => exact .cons (.int s) ih
theorem reps_bls (ss : List Bool) : Reps K S H (ss.map V.bl) (ss.map D.bl) := by
  induction ss with
  | nil => exact .nil
  | cons s ss ih => exact .cons (.bl s) ih
end

/-! ### what is owned -/
inductive Ow where
  | lst (xs : List D) | dic (kvs : List (Key × D)) | obj (c : Str) (fs : List (Str × D)) | slf (a : Addr) (c : Str) (fs : List (Str × D))
def Ow.d : Ow → D
  | .lst xs => .lst xs
  | .dic kvs => .dic kvs
  | .obj c fs => .obj c fs
  | .slf _ c fs => .obj c fs
section
variable (K : PySem.W.Frag)
def OwnAt (S : Addr → Prop) (H : Hp) (a : Addr) : Ow → Prop
  | .lst ds => ∃ vs, H a = some (.lst vs) ∧ Reps K S H vs ds
  | .dic ds => ∃ kvs : List (Key × V), H a = some (.dK kvs) ∧ kvs.map Prod.fst = ds.map Prod.fst ∧ Reps K S H (kvs.map Prod.snd) (ds.map Prod.snd)
  | .obj c ds => ∃ (dx : Addr) (fs : List (Str × V)), H a = some (.ins (He.ga K c) dx fs) ∧ fs.map Prod.fst = ds.map Prod.fst ∧ Reps K S H (fs.map Prod.snd) (ds.map Prod.snd)
  | .slf a' c ds => a = a' ∧ ∃ (dx : Addr) (fs : List (Str × V)), H a = some (.ins (He.ga K c) dx fs) ∧ fs.map Prod.fst = ds.map Prod.fst ∧ Reps K S H (fs.map Prod.snd) (ds.map Prod.snd)
abbrev OL := List (Nat × Ow)
abbrev OLa := List (Addr × Nat × Ow)
abbrev Gm := List (Option D)
def W (Os : OLa) : Addr → Prop := fun b => b ∈ Os.map (·.1)
def SO (S0 : Addr → Prop) (Os : OLa) : Addr → Prop := fun b => S0 b ∨ W Os b
def RE (S : Addr → Prop) (H : Hp) (σ : L2.St) (G : Gm) : Prop := ∀ (i : Nat) (d : D), G[i]? = some (some d) → ∃ v, σ[i]? = some (some v) ∧ Rep K S H v d
structure St1 (S0 : Addr → Prop) (G : Gm) (O : OL) (Os : OLa) (σ : L2.St) (H : Hp) : Prop where
  os : Os.map (·.2) = O
  nd : (Os.map (·.1)).Nodup
  dom : ∀ a, S0 a → H a ≠ none
  ns : ∀ a, W Os a → ¬ S0 a
  len : σ.length = G.length
  re : RE K (SO S0 Os) H σ G
  own : ∀ p ∈ Os, σ[p.2.1]? = some (some (.ref p.1)) ∧ OwnAt K (SO S0 Os) H p.1 p.2.2
end
section
variable {K : PySem.W.Frag} {S T S0 : Addr → Prop} {H H' : Hp} {G : Gm} {O : OL} {Os : OLa} {σ : L2.St}
theorem OwnAt.there {a : Addr} {o : Ow} (h : OwnAt K S H a o) : H a ≠ none := by
  cases o with
  | lst ds => obtain ⟨vs, e, _⟩ := h; rw [e]; simp
  | dic ds => obtain ⟨vs, e, _⟩ := h; rw [e]; simp
  | obj c ds => obtain ⟨dx, fs, e, _⟩ := h; rw [e]; simp
  | slf _ c ds => obtain ⟨ea, dx, fs, e, _⟩ := h; rw [e]; simp
theorem OwnAt.same {a : Addr} {o : Ow} (h : OwnAt K S H a o) (s : Same H H') : OwnAt K S H' a o := by
  cases o with
  | lst ds => obtain ⟨vs, e, r⟩ := h; exact ⟨vs, s _ _ e, r.same s⟩
  | dic ds => obtain ⟨vs, e, q, r⟩ := h; exact ⟨vs, s _ _ e, q, r.same s⟩
  | obj c ds => obtain ⟨dx, fs, e, q, r⟩ := h; exact ⟨dx, fs, s _ _ e, q, r.same s⟩
  | slf _ c ds => obtain ⟨ea, dx, fs, e, q, r⟩ := h; exact ⟨ea, dx, fs, s _ _ e, q, r.same s⟩
theorem St1.domW (h : St1 K S0 G O Os σ H) : ∀ a, SO S0 Os a → H a ≠ none := fun a ha => by
  rcases ha with ha | ha
  · exact h.dom a ha
  · obtain ⟨p, hp, e⟩ := List.mem_map.mp ha
    rw [← e]; exact (h.own p hp).2.there
theorem St1.same (h : St1 K S0 G O Os σ H) (s : Same H H') : St1 K S0 G O Os σ H' where
  os := h.os
  nd := h.nd
  dom := fun a ha => fun z => h.dom a ha (s.free z)
  ns := h.ns
  len := h.len
  re := fun i d e => let ⟨v, e1, r⟩ := h.re i d e; ⟨v, e1, r.same s⟩
  own := fun p hp => ⟨(h.own p hp).1, (h.own p hp).2.same s⟩
theorem St1.set (h : St1 K S0 G O Os σ H) {i : Nat} {v : V} {d : D} (r : Rep K (SO S0 Os) H v d) (hi : ∀ o ∈ O, o.1 ≠ i) : St1 K S0 (G.set i (some d)) O Os (σ.set i (some v)) H where
  os := h.os
  nd := h.nd
  dom := h.dom
  ns := h.ns
  len := by rw [List.length_set, List.length_set]; exact h.len
  re := fun j e q => by
    by_cases hj : i = j
    · subst hj
      by_cases hl : i < G.length
      · rw [List.getElem?_set_self hl] at q
        cases q
        exact ⟨v, by rw [List.getElem?_set_self (by rw [h.len]; exact hl)], r⟩
      · rw [List.getElem?_eq_none (by simpa using hl)] at q; cases q
    · rw [List.getElem?_set_ne hj] at q
      obtain ⟨w, e1, r1⟩ := h.re j e q
      exact ⟨w, by rw [List.getElem?_set_ne hj]; exact e1, r1⟩
  own := fun p hp => by
    have hne : i ≠ p.2.1 := fun z => hi p.2 (by rw [← h.os]; exact List.mem_map_of_mem hp) z.symm
    exact ⟨by rw [List.getElem?_set_ne hne]; exact (h.own p hp).1, (h.own p hp).2⟩
end

/-! ### exceptions as data -/
structure Xd where
  cls : Str
  arg : Option (Str × D) := none
def RepX (K : PySem.W.Frag) (S : Addr → Prop) (H : Hp) (cls : Value) (dd : Option Addr) (x : Xd) : Prop :=
  cls = .ref (He.ga K x.cls) ∧ match x.arg with
    | none => dd = none
    | some (f, d) => ∃ (p : Addr) (v : V), dd = some p ∧ ¬ S p ∧ H p = some (.xd [(f, v)]) ∧ Rep K S H v d
def EOk (K : PySem.W.Frag) (S : Addr → Prop) (H : Hp) (E : XK) (ke : Xd → Prop) : Prop := ∀ (cls : Value) (dd : Option Addr) (H' : Hp) (x : Xd), ke x → Same H H' → RepX K S H' cls dd x → E cls dd H'
theorem EOk.same {K : PySem.W.Frag} {S : Addr → Prop} {H H' : Hp} {E : XK} {ke : Xd → Prop} (h : EOk K S H E ke) (s : Same H H') : EOk K S H' E ke := fun c d H2 x k l r => h c d H2 x k (s.trans l) r

/-! ### judgements -/
section
variable (K : PySem.W.Frag) (E : XK)
def DT (t : TE) (G : Gm) (O : OL) (k : D → Prop) (ke : Xd → Prop) : Prop := ∀ (S0 : Addr → Prop) (Os : OLa) (σ : L2.St) (H : Hp) (Q : VK), St1 K S0 G O Os σ H →
  (∀ v H' d, k d → Same H H' → Rep K (SO S0 Os) H' v d → Q v H') → EOk K (SO S0 Os) H E ke → t σ H Q
def DTT (t : TT) (G : Gm) (O : OL) (k : Bool → Prop) (ke : Xd → Prop) : Prop := ∀ (S0 : Addr → Prop) (Os : OLa) (σ : L2.St) (H : Hp) (Q : Bool → Hp → Prop), St1 K S0 G O Os σ H →
  (∀ b H', k b → Same H H' → Q b H') → EOk K (SO S0 Os) H E ke → t σ H Q
def DA (t : TA) (G : Gm) (O : OL) (k : List D → Prop) (ke : Xd → Prop) : Prop := ∀ (S0 : Addr → Prop) (Os : OLa) (σ : L2.St) (H : Hp) (Q : List V → Hp → Prop), St1 K S0 G O Os σ H →
  (∀ vs H' ds, k ds → Same H H' → Reps K (SO S0 Os) H' vs ds → Q vs H') → EOk K (SO S0 Os) H E ke → t σ H Q
/-- a new thing, not yet anybody's -/
def DF (t : TE) (G : Gm) (O : OL) (k : Ow → Prop) (ke : Xd → Prop) : Prop := ∀ (S0 : Addr → Prop) (Os : OLa) (σ : L2.St) (H : Hp) (Q : VK), St1 K S0 G O Os σ H →
  (∀ p H' o, k o → Same H H' → H p = none → OwnAt K (fun b => SO S0 Os b ∨ b = p) H' p o → Q (.ref p) H') → EOk K (SO S0 Os) H E ke → t σ H Q
end
section
variable {K : PySem.W.Frag} {E : XK} {G : Gm} {O : OL} {ke : Xd → Prop}

theorem dt_var {i : Nat} {d : D} {k : D → Prop} (h : G[i]? = some (some d)) (q : k d) : DT K E (tVar i) G O k ke := fun S0 Os σ H Q st hq _ => by
  obtain ⟨v, e, r⟩ := st.re i d h
  exact ⟨v, e, hq v H d q (Same.refl H) r⟩
theorem dt_int {i : Int} {k : D → Prop} (q : k (.int i)) : DT K E (tC (.int i)) G O k ke := fun S0 Os σ H Q st hq _ => hq _ H _ q (Same.refl H) (.int i)
theorem dt_str {i : Str} {k : D → Prop} (q : k (.str i)) : DT K E (tC (.str i)) G O k ke := fun S0 Os σ H Q st hq _ => hq _ H _ q (Same.refl H) (.str i)
theorem dt_bl {i : Bool} {k : D → Prop} (q : k (.bl i)) : DT K E (tC (.bl i)) G O k ke := fun S0 Os σ H Q st hq _ => hq _ H _ q (Same.refl H) (.bl i)
theorem dt_non {k : D → Prop} (q : k .non) : DT K E (tC .non) G O k ke := fun S0 Os σ H Q st hq _ => hq _ H _ q (Same.refl H) .non
theorem dt_ty {n : String} {k : D → Prop} (q : k (.ty n)) : DT K E (tC (.ty n)) G O k ke := fun S0 Os σ H Q st hq _ => hq _ H _ q (Same.refl H) (.ty n)
theorem dt_glo {x : Str} {k : D → Prop} (q : k (.glo x)) : DT K E (tC (.ref (He.ga K x))) G O k ke := fun S0 Os σ H Q st hq _ => hq _ H _ q (Same.refl H) (.glo x)
theorem DT.imp {t : TE} {k k' : D → Prop} (h : DT K E t G O k ke) (i : ∀ d, k d → k' d) : DT K E t G O k' ke := fun S0 Os σ H Q st hq he => h S0 Os σ H Q st (fun v H' d kd s r => hq v H' d (i d kd) s r) he
theorem DT.bind {t : TE} {k : D → Prop} (h : DT K E t G O k ke) {S0 : Addr → Prop} {Os : OLa} {σ : L2.St} {H : Hp} {Q : VK} (st : St1 K S0 G O Os σ H) (he : EOk K (SO S0 Os) H E ke)
    (hq : ∀ v H' d, k d → Same H H' → St1 K S0 G O Os σ H' → EOk K (SO S0 Os) H' E ke → Rep K (SO S0 Os) H' v d → Q v H') : t σ H Q :=
  h S0 Os σ H Q st (fun v H' d kd s r => hq v H' d kd s (st.same s) (he.same s) r) he
theorem DA.bind {t : TA} {k : List D → Prop} (h : DA K E t G O k ke) {S0 : Addr → Prop} {Os : OLa} {σ : L2.St} {H : Hp} {Q : List V → Hp → Prop} (st : St1 K S0 G O Os σ H) (he : EOk K (SO S0 Os) H E ke)
    (hq : ∀ v H' d, k d → Same H H' → St1 K S0 G O Os σ H' → EOk K (SO S0 Os) H' E ke → Reps K (SO S0 Os) H' v d → Q v H') : t σ H Q :=
  h S0 Os σ H Q st (fun v H' d kd s r => hq v H' d kd s (st.same s) (he.same s) r) he
theorem DTT.bind {t : TT} {k : Bool → Prop} (h : DTT K E t G O k ke) {S0 : Addr → Prop} {Os : OLa} {σ : L2.St} {H : Hp} {Q : Bool → Hp → Prop} (st : St1 K S0 G O Os σ H) (he : EOk K (SO S0 Os) H E ke)
    (hq : ∀ b H', k b → Same H H' → St1 K S0 G O Os σ H' → EOk K (SO S0 Os) H' E ke → Q b H') : t σ H Q :=
  h S0 Os σ H Q st (fun b H' kd s => hq b H' kd s (st.same s) (he.same s)) he

/-! ### operators by values -/
abbrev F2 := D → D → (D → Prop) → Prop
def OpD (K : PySem.W.Frag) (r : R2) (f : F2) : Prop := ∀ (S : Addr → Prop) (H : Hp) (x y : V) (a b : D) (Q : VK) (k : D → Prop), (∀ a, S a → H a ≠ none) → Rep K S H x a → Rep K S H y b → f a b k →
  (∀ v H' d, k d → Same H H' → Rep K S H' v d → Q v H') → r x y H Q
theorem dt_op {r : R2} {f : F2} {ta tb : TE} {k : D → Prop} (hr : OpD K r f) (h : DT K E ta G O (fun a => DT K E tb G O (fun b => f a b k) ke) ke) : DT K E (tOp r ta tb) G O k ke := fun S0 Os σ H Q st hq he =>
  h.bind st he fun x H1 a ha s1 st1 he1 rx => ha.bind st1 he1 fun y H2 b hb s2 st2 he2 ry =>
    hr _ H2 x y a b Q k st2.domW (rx.same s2) ry hb fun v H' d kd s r => hq v H' d kd ((s1.trans s2).trans s) r
abbrev F1 := D → (D → Prop) → Prop
def UnD (K : PySem.W.Frag) (r : V → Hp → VK → Prop) (f : F1) : Prop := ∀ (S : Addr → Prop) (H : Hp) (x : V) (a : D) (Q : VK) (k : D → Prop), (∀ a, S a → H a ≠ none) → Rep K S H x a → f a k →
  (∀ v H' d, k d → Same H H' → Rep K S H' v d → Q v H') → r x H Q
theorem dt_un {r : V → Hp → VK → Prop} {f : F1} {ta : TE} {k : D → Prop} (hr : UnD K r f) (h : DT K E ta G O (fun a => f a k) ke) : DT K E (tUn r ta) G O k ke := fun S0 Os σ H Q st hq he =>
  h.bind st he fun x H1 a ha s1 st1 he1 rx => hr _ H1 x a Q k st1.domW rx ha fun v H' d kd s r => hq v H' d kd (s1.trans s) r
abbrev Fn := List D → (D → Prop) → Prop
def CaD (K : PySem.W.Frag) (r : List V → Hp → VK → Prop) (f : Fn) : Prop := ∀ (S : Addr → Prop) (H : Hp) (xs : List V) (ds : List D) (Q : VK) (k : D → Prop), (∀ a, S a → H a ≠ none) → Reps K S H xs ds → f ds k →
  (∀ v H' d, k d → Same H H' → Rep K S H' v d → Q v H') → r xs H Q
theorem dt_cb {r : List V → Hp → VK → Prop} {f : Fn} {ta : TA} {k : D → Prop} (hr : CaD K r f) (h : DA K E ta G O (fun ds => f ds k) ke) : DT K E (tCB r ta) G O k ke := fun S0 Os σ H Q st hq he =>
  h.bind st he fun xs H1 ds ha s1 st1 he1 rx => hr _ H1 xs ds Q k st1.domW rx ha fun v H' d kd s r => hq v H' d kd (s1.trans s) r
/-- results that are new lists, dicts -/
def CaF (K : PySem.W.Frag) (r : List V → Hp → VK → Prop) (f : List D → (Ow → Prop) → Prop) : Prop := ∀ (S : Addr → Prop) (H : Hp) (xs : List V) (ds : List D) (Q : VK) (k : Ow → Prop), (∀ a, S a → H a ≠ none) → Reps K S H xs ds → f ds k →
  (∀ p H' o, k o → Same H H' → H p = none → OwnAt K (fun b => S b ∨ b = p) H' p o → Q (.ref p) H') → r xs H Q
theorem df_cb {r : List V → Hp → VK → Prop} {f : List D → (Ow → Prop) → Prop} {ta : TA} {k : Ow → Prop} (hr : CaF K r f) (h : DA K E ta G O (fun ds => f ds k) ke) : DF K E (tCB r ta) G O k ke := fun S0 Os σ H Q st hq he =>
  h.bind st he fun xs H1 ds ha s1 st1 he1 rx => hr _ H1 xs ds Q k st1.domW rx ha fun p H' d kd s n r => hq p H' d kd (s1.trans s) (s1.free n) r
theorem OwnAt.rep {S T : Addr → Prop} {H : Hp} {p : Addr} {o : Ow} (h : OwnAt K (fun b => S b ∨ b = p) H p o) (n : ¬ S p) : Rep K S H (.ref p) o.d := by
  cases o with
  | lst ds => obtain ⟨vs, e, r⟩ := h; exact .lst n e (Reps.weak (fun a z => .inl z) r)
  | dic ds => obtain ⟨vs, e, q, r⟩ := h; exact .dic n (.inl e) q (Reps.weak (fun a z => .inl z) r)
  | obj c ds => obtain ⟨dx, fs, e, q, r⟩ := h; exact .obj n e q (Reps.weak (fun a z => .inl z) r)
  | slf _ c ds => obtain ⟨ea, dx, fs, e, q, r⟩ := h; exact .obj n e q (Reps.weak (fun a z => .inl z) r)
theorem DF.dt {t : TE} {k : D → Prop} (h : DF K E t G O (fun o => k o.d) ke) : DT K E t G O k ke := fun S0 Os σ H Q st hq he =>
  h S0 Os σ H Q st (fun p H' o ko s n r => hq _ H' _ ko s (OwnAt.rep (T := fun _ => False) r fun z => (st.domW p z) n)) he
theorem CaF.ca {r : List V → Hp → VK → Prop} {f : List D → (Ow → Prop) → Prop} (h : CaF K r f) : CaD K r (fun ds k => f ds fun o => k o.d) := fun S H xs ds Q k dm rx ha hq =>
  h S H xs ds Q _ dm rx ha fun p H' o ko s n r => hq _ H' _ ko s (OwnAt.rep (T := fun _ => False) r fun z => dm p z n)

/-! ### arguments, displays -/
theorem da_nil {k : List D → Prop} (q : k []) : DA K E tNil G O k ke := fun S0 Os σ H Q st hq _ => hq _ H _ q (Same.refl H) .nil
theorem da_cons {ta : TE} {tr : TA} {k : List D → Prop} (h : DT K E ta G O (fun a => DA K E tr G O (fun ds => k (a :: ds)) ke) ke) : DA K E (tCons ta tr) G O k ke := fun S0 Os σ H Q st hq he =>
  h.bind st he fun x H1 a ha s1 st1 he1 rx => ha.bind st1 he1 fun ys H2 ds hb s2 st2 he2 ry => hq _ H2 _ hb (s1.trans s2) (.cons (rx.same s2) ry)
theorem df_lst {t : TA} {k : Ow → Prop} (h : DA K E t G O (fun ds => ds.length ≤ sizeLine ∧ k (.lst ds)) ke) : DF K E (tLst t) G O k ke := fun S0 Os σ H Q st hq he =>
  h.bind st he fun xs H1 ds ⟨hl, ha⟩ s1 st1 he1 rx => ⟨by rw [rx.length]; exact hl, fun p np => by
    have sp : Same H1 (upd H1 p (.lst xs)) := Same.put np
    exact hq p _ _ ha (s1.trans sp) (s1.free np) ⟨xs, upd_same, Reps.same (Reps.avoid (fun a z => z.elim .inl fun e => .inr (e ▸ np)) rx) sp⟩⟩
theorem dt_lst {t : TA} {k : D → Prop} (h : DA K E t G O (fun ds => ds.length ≤ sizeLine ∧ k (.lst ds)) ke) : DT K E (tLst t) G O k ke := (df_lst h).dt
theorem dt_tup {t : TA} {k : D → Prop} (h : DA K E t G O (fun ds => ds.length ≤ sizeLine ∧ k (.tup ds)) ke) : DT K E (tTup t) G O k ke := fun S0 Os σ H Q st hq he =>
  h.bind st he fun xs H1 ds ⟨hl, ha⟩ s1 st1 he1 rx => ⟨by rw [rx.length]; exact hl, fun p np => by
    have sp : Same H1 (upd H1 p (.tup xs)) := Same.put np
    exact hq _ _ _ ha (s1.trans sp) (.tup (fun z => st1.domW p z np) upd_same (rx.same sp))⟩

/-! ### tests -/
theorem dtt_test {t : TE} {k : Bool → Prop} (h : DT K E t G O (fun d => ∃ b, d = .bl b ∧ k b) ke) : DTT K E (tTest t) G O k ke := fun S0 Os σ H Q st hq he =>
  h.bind st he fun x H1 d ⟨b, e, kb⟩ s1 st1 he1 rx => by subst e; cases rx; exact ⟨b, rfl, hq b H1 kb s1⟩
theorem dtt_b {t : TE} {k : Bool → Prop} (h : DT K E t G O (fun d => ∃ b, d = .bl b ∧ k b) ke) : DTT K E (tB t) G O k ke := fun S0 Os σ H Q st hq he =>
  h.bind st he fun x H1 d ⟨b, e, kb⟩ s1 st1 he1 rx => by subst e; cases rx; exact ⟨b, rfl, hq b H1 kb s1⟩
theorem dtt_yes {k : Bool → Prop} (h : k true) : DTT K E tYes G O k ke := fun S0 Os σ H Q st hq he => hq true H h (Same.refl H)
theorem dtt_not {t : TT} {k : Bool → Prop} (h : DTT K E t G O (fun b => k (!b)) ke) : DTT K E (tNot t) G O k ke := fun S0 Os σ H Q st hq he =>
  h.bind st he fun b H1 kb s1 st1 he1 => hq (!b) H1 kb s1
theorem dtt_and {t u : TT} {k : Bool → Prop} (h : DTT K E t G O (fun b => (b = true → DTT K E u G O k ke) ∧ (b = false → k false)) ke) : DTT K E (tAnd t u) G O k ke := fun S0 Os σ H Q st hq he =>
  h.bind st he fun b H1 kb s1 st1 he1 => by
    cases b with
    | true => exact iteT ((kb.1 rfl).bind st1 he1 fun c H2 kc s2 _ _ => hq c H2 kc (s1.trans s2))
    | false => exact iteF (hq false H1 (kb.2 rfl) s1)
theorem dtt_or {t u : TT} {k : Bool → Prop} (h : DTT K E t G O (fun b => (b = false → DTT K E u G O k ke) ∧ (b = true → k true)) ke) : DTT K E (tOr t u) G O k ke := fun S0 Os σ H Q st hq he =>
  h.bind st he fun b H1 kb s1 st1 he1 => by
    cases b with
    | false => exact iteF ((kb.1 rfl).bind st1 he1 fun c H2 kc s2 _ _ => hq c H2 kc (s1.trans s2))
    | true => exact iteT (hq true H1 (kb.2 rfl) s1)
theorem dt_andV {t u : TE} {k : D → Prop} (h : DT K E t G O (fun a => ∃ b, a = .bl b ∧ (b = true → DT K E u G O k ke) ∧ (b = false → k (.bl false))) ke) : DT K E (tAndV t u) G O k ke := fun S0 Os σ H Q st hq he =>
  h.bind st he fun x H1 d ⟨b, e, k1, k2⟩ s1 st1 he1 rx => by
    subst e; cases rx
    refine ⟨b, rfl, ?_⟩
    cases b with
    | true => exact iteT ((k1 rfl).bind st1 he1 fun c H2 d2 kc s2 _ _ r => hq c H2 d2 kc (s1.trans s2) r)
    | false => exact iteF (hq _ H1 _ (k2 rfl) s1 (.bl false))
theorem dt_orV {t u : TE} {k : D → Prop} (h : DT K E t G O (fun a => ∃ b, a = .bl b ∧ (b = false → DT K E u G O k ke) ∧ (b = true → k (.bl true))) ke) : DT K E (tOrV t u) G O k ke := fun S0 Os σ H Q st hq he =>
  h.bind st he fun x H1 d ⟨b, e, k1, k2⟩ s1 st1 he1 rx => by
    subst e; cases rx
    refine ⟨b, rfl, ?_⟩
    cases b with
    | false => exact iteF ((k1 rfl).bind st1 he1 fun c H2 d2 kc s2 _ _ r => hq c H2 d2 kc (s1.trans s2) r)
    | true => exact iteT (hq _ H1 _ (k2 rfl) s1 (.bl true))
theorem dt_notV {t : TE} {k : D → Prop} (h : DT K E t G O (fun a => ∃ b, a = .bl b ∧ k (.bl (!b))) ke) : DT K E (tNotV t) G O k ke := fun S0 Os σ H Q st hq he =>
  h.bind st he fun x H1 d ⟨b, e, k1⟩ s1 st1 he1 rx => by
    subst e; cases rx
    exact ⟨b, rfl, hq _ H1 _ k1 s1 (.bl _)⟩
theorem dt_if {c : TT} {t u : TE} {k : D → Prop} (h : DTT K E c G O (fun b => (b = true → DT K E t G O k ke) ∧ (b = false → DT K E u G O k ke)) ke) : DT K E (tIf c t u) G O k ke := fun S0 Os σ H Q st hq he =>
  h.bind st he fun b H1 kb s1 st1 he1 => by
    cases b with
    | true => exact iteT ((kb.1 rfl).bind st1 he1 fun c H2 d2 kc s2 _ _ r => hq c H2 d2 kc (s1.trans s2) r)
    | false => exact iteF ((kb.2 rfl).bind st1 he1 fun c H2 d2 kc s2 _ _ r => hq c H2 d2 kc (s1.trans s2) r)
end
end Fw

set_option maxHeartbeats 4000000
/-! Operators, built-in calls, methods, subscripts, by data. -/
namespace Fw
open PySem PySem.Spec PyProof.Rows L2
section
variable {K : PySem.W.Frag} {E : XK} {G : Gm} {O : OL} {ke : Xd → Prop}

theorem opd_I0 {g : Int → Int → V} {g' : Int → Int → D} (hg : ∀ i j S H, Rep K S H (g i j) (g' i j)) : OpD K (rI0 g) (fun a b k => ∃ i j, a = .int i ∧ b = .int j ∧ k (g' i j)) := by
  intro S H x y a b Q k dm rx ry ⟨i, j, e1, e2, q⟩ hq
  subst e1 e2; cases rx; cases ry
  exact ⟨i, j, rfl, rfl, hq _ H _ q (Same.refl H) (hg i j S H)⟩
theorem opd_I {C : Int → Int → Prop} {g : Int → Int → V} {g' : Int → Int → D} (hg : ∀ i j S H, Rep K S H (g i j) (g' i j)) : OpD K (rI C g) (fun a b k => ∃ i j, a = .int i ∧ b = .int j ∧ C i j ∧ k (g' i j)) := by
  intro S H x y a b Q k dm rx ry ⟨i, j, e1, e2, c, q⟩ hq
  subst e1 e2; cases rx; cases ry
  exact ⟨i, j, rfl, rfl, c, hq _ H _ q (Same.refl H) (hg i j S H)⟩
theorem opd_add : OpD K (rI0 fun i j => .int (i + j)) (fun a b k => ∃ i j, a = .int i ∧ b = .int j ∧ k (.int (i + j))) := opd_I0 fun _ _ _ _ => .int _
theorem opd_sub : OpD K (rI0 fun i j => .int (i - j)) (fun a b k => ∃ i j, a = .int i ∧ b = .int j ∧ k (.int (i - j))) := opd_I0 fun _ _ _ _ => .int _
theorem opd_mul : OpD K (rI CMul fun i j => .int (i * j)) (fun a b k => ∃ i j, a = .int i ∧ b = .int j ∧ CMul i j ∧ k (.int (i * j))) := opd_I fun _ _ _ _ => .int _
theorem opd_fdivN : OpD K (rI CDivN fun i j => .int (i.fdiv j)) (fun a b k => ∃ i j, a = .int i ∧ b = .int j ∧ CDivN i j ∧ k (.int (i.fdiv j))) := opd_I fun _ _ _ _ => .int _
theorem opd_mod : OpD K (rI (fun _ j => 0 < j) fun i j => .int (i % j)) (fun a b k => ∃ i j, a = .int i ∧ b = .int j ∧ 0 < j ∧ k (.int (i % j))) := opd_I (C := fun _ j => 0 < j) fun _ _ _ _ => .int _
theorem opd_pow : OpD K (rI CPow fun i j => .int (i ^ j.toNat)) (fun a b k => ∃ i j, a = .int i ∧ b = .int j ∧ CPow i j ∧ k (.int (i ^ j.toNat))) := opd_I fun _ _ _ _ => .int _
theorem opd_lt : OpD K (rI0 fun i j => .bl (decide (i < j))) (fun a b k => ∃ i j, a = .int i ∧ b = .int j ∧ k (.bl (decide (i < j)))) := opd_I0 fun _ _ _ _ => .bl _
theorem opd_le : OpD K (rI0 fun i j => .bl (decide (i ≤ j))) (fun a b k => ∃ i j, a = .int i ∧ b = .int j ∧ k (.bl (decide (i ≤ j)))) := opd_I0 fun _ _ _ _ => .bl _
theorem opd_gt : OpD K (rI0 fun i j => .bl (decide (j < i))) (fun a b k => ∃ i j, a = .int i ∧ b = .int j ∧ k (.bl (decide (j < i)))) := opd_I0 fun _ _ _ _ => .bl _
theorem opd_ge : OpD K (rI0 fun i j => .bl (decide (j ≤ i))) (fun a b k => ∃ i j, a = .int i ∧ b = .int j ∧ k (.bl (decide (j ≤ i)))) := opd_I0 fun _ _ _ _ => .bl _
/-- flat data -/
def D.flat : D → Bool
  | .non => true
  | .bl _ => true
  | .int _ => true
  | .str _ => true
  | _ => false
def D.v : D → V
  | .bl b => .bl b
  | .int i => .int i
  | .str s => .str s
  | _ => .non
theorem D.flat_v {S : Addr → Prop} {H : Hp} {x : V} {d : D} (r : Rep K S H x d) (f : d.flat = true) : x = d.v ∧ flatV x = true := by
  cases r <;> first | exact ⟨rfl, rfl⟩ | cases f
theorem D.rep {S : Addr → Prop} {H : Hp} {d : D} (f : d.flat = true) : Rep K S H d.v d := by
  cases d <;> first | constructor | cases f
theorem Reps.flat {S : Addr → Prop} {H : Hp} : ∀ {xs : List V} {ds : List D}, Reps K S H xs ds → ds.all D.flat = true → xs = ds.map D.v ∧ xs.all flatV = true
  | _, _, .nil, _ => ⟨rfl, rfl⟩
  | _, _, .cons h t, f => by
    rw [List.all_cons, Bool.and_eq_true] at f
    obtain ⟨e1, f1⟩ := D.flat_v h f.1
    obtain ⟨e2, f2⟩ := Reps.flat t f.2
    exact ⟨by rw [e1, e2]; rfl, by rw [List.all_cons, f1, f2]; rfl⟩
/-- == of flat data -/
def D.eqf (a b : D) : Bool := eqV a.v b.v
/-- scalars by == (op_eq) -/
theorem opd_eq : OpD K rEq (fun a b k => a.flat = true ∧ b.flat = true ∧ scal a.v b.v = true ∧ k (.bl (decide (a.v = b.v)))) := by
  intro S H x y a b Q k dm rx ry ⟨fa, fb, sc, q⟩ hq
  obtain ⟨e1, _⟩ := D.flat_v rx fa
  obtain ⟨e2, _⟩ := D.flat_v ry fb
  subst e1 e2
  exact ⟨sc, hq _ H _ q (Same.refl H) (.bl _)⟩
theorem opd_ne : OpD K rNe (fun a b k => a.flat = true ∧ b.flat = true ∧ scal a.v b.v = true ∧ k (.bl (!decide (a.v = b.v)))) := by
  intro S H x y a b Q k dm rx ry ⟨fa, fb, sc, q⟩ hq
  obtain ⟨e1, _⟩ := D.flat_v rx fa
  obtain ⟨e2, _⟩ := D.flat_v ry fb
  subst e1 e2
  exact ⟨sc, hq _ H _ q (Same.refl H) (.bl _)⟩
/-- x in a list or a tuple of flat data -/
def inD (a : D) (xs : List D) : Bool := inV a.v (xs.map D.v)
theorem opd_in {neg : Bool} : OpD K (rIn K neg) (fun a b k => ∃ xs, (b = .lst xs ∨ b = .tup xs) ∧ a.flat = true ∧ xs.all D.flat = true ∧ k (.bl (if neg then !inD a xs else inD a xs))) := by
  intro S H x y a b Q k dm rx ry ⟨xs, hb, fa, fx, q⟩ hq
  obtain ⟨e1, f1⟩ := D.flat_v rx fa
  subst e1
  rcases hb with hb | hb
  · subst hb
    cases ry with
    | lst n h r =>
      obtain ⟨e2, f2⟩ := Reps.flat r fx
      refine ⟨_, _, rfl, .inl (SqL.of h), f1, f2, ?_⟩
      rw [e2]
      exact hq _ H _ q (Same.refl H) (.bl _)
  · subst hb
    cases ry with
    | tup n h r =>
      obtain ⟨e2, f2⟩ := Reps.flat r fx
      refine ⟨_, _, rfl, .inr (SqT.of h), f1, f2, ?_⟩
      rw [e2]
      exact hq _ H _ q (Same.refl H) (.bl _)
theorem opd_in_sign : OpD K (fun x y H Q => ∃ (c : Nat) (z : Str), x = .str ⟨#[c]⟩ ∧ y = .str z ∧ Q (.bl (decide (c ∈ z.cps.toList))) H) (fun a b k => ∃ (c : Nat) (z : Str), a = .str ⟨#[c]⟩ ∧ b = .str z ∧ k (.bl (decide (c ∈ z.cps.toList)))) := by
  intro S H x y a b Q k dm rx ry ⟨c, z, e1, e2, q⟩ hq
  subst e1 e2; cases rx; cases ry
  exact ⟨c, z, rfl, rfl, hq _ H _ q (Same.refl H) (.bl _)⟩
def D.isN : D → Bool
  | .non => true
  | _ => false
theorem opd_isN : OpD K (fun x y H Q => y = .non ∧ Q (.bl (decide (x = .non))) H) (fun a b k => b = .non ∧ k (.bl a.isN)) := by
  intro S H x y a b Q k dm rx ry ⟨e2, q⟩ hq
  subst e2; cases ry
  refine ⟨rfl, ?_⟩
  have e : decide (x = V.non) = a.isN := by cases rx <;> rfl
  rw [e]
  exact hq _ H _ q (Same.refl H) (.bl _)
theorem opd_notN : OpD K (fun x y H Q => y = .non ∧ Q (.bl (!decide (x = .non))) H) (fun a b k => b = .non ∧ k (.bl (!a.isN))) := by
  intro S H x y a b Q k dm rx ry ⟨e2, q⟩ hq
  subst e2; cases ry
  refine ⟨rfl, ?_⟩
  have e : (!decide (x = V.non)) = (!a.isN) := by cases rx <;> rfl
  rw [e]
  exact hq _ H _ q (Same.refl H) (.bl _)
/-- a new list of results -/
theorem own_new {S : Addr → Prop} {H : Hp} {p : Addr} {xs : List V} {ds : List D} (np : H p = none) (r : Reps K S H xs ds) : OwnAt K (fun b => S b ∨ b = p) (upd H p (.lst xs)) p (.lst ds) :=
  ⟨xs, upd_same, Reps.same (Reps.avoid (fun a z => z.elim .inl fun e => .inr (e ▸ np)) r) (Same.put np)⟩
/-- operators that make a new list -/
def OpF (K : PySem.W.Frag) (r : R2) (f : D → D → (Ow → Prop) → Prop) : Prop := ∀ (S : Addr → Prop) (H : Hp) (x y : V) (a b : D) (Q : VK) (k : Ow → Prop), (∀ a, S a → H a ≠ none) → Rep K S H x a → Rep K S H y b → f a b k →
  (∀ p H' o, k o → Same H H' → H p = none → OwnAt K (fun b => S b ∨ b = p) H' p o → Q (.ref p) H') → r x y H Q
theorem OpF.op {r : R2} {f : D → D → (Ow → Prop) → Prop} (h : OpF K r f) : OpD K r (fun a b k => f a b fun o => k o.d) := fun S H x y a b Q k dm rx ry hf hq =>
  h S H x y a b Q _ dm rx ry hf fun p H' o ko s n r => hq _ H' _ ko s (OwnAt.rep (T := fun _ => False) r fun z => dm p z n)
theorem df_op {r : R2} {f : D → D → (Ow → Prop) → Prop} {ta tb : TE} {k : Ow → Prop} (hr : OpF K r f) (h : DT K E ta G O (fun a => DT K E tb G O (fun b => f a b k) ke) ke) : DF K E (tOp r ta tb) G O k ke := fun S0 Os σ H Q st hq he =>
  h.bind st he fun x H1 a ha s1 st1 he1 rx => ha.bind st1 he1 fun y H2 b hb s2 st2 he2 ry =>
    hr _ H2 x y a b Q k st2.domW (rx.same s2) ry hb fun p H' d kd s n r => hq p H' d kd ((s1.trans s2).trans s) ((s1.trans s2).free n) r
theorem opf_cat : OpF K rCat (fun a b k => ∃ xs ys, a = .lst xs ∧ b = .lst ys ∧ xs.length + ys.length ≤ sizeLine ∧ k (.lst (xs ++ ys))) := by
  intro S H x y a b Q k dm rx ry ⟨xs, ys, e1, e2, l, q⟩ hq
  subst e1 e2
  cases rx with
  | lst n h r =>
    cases ry with
    | lst n2 h2 r2 =>
      exact ⟨_, _, _, _, rfl, rfl, h, h2, by rw [r.length, r2.length]; exact l, fun p np => hq p _ _ q (Same.put np) np (own_new np (r.append r2))⟩
theorem reps_rep {S : Addr → Prop} {H : Hp} {xs : List V} {ds : List D} (r : Reps K S H xs ds) : ∀ n : Nat, Reps K S H (List.replicate n xs).flatten (List.replicate n ds).flatten
  | 0 => .nil
  | n + 1 => by
    rw [List.replicate_succ, List.replicate_succ, List.flatten_cons, List.flatten_cons]
    exact r.append (reps_rep r n)
theorem opf_rep : OpF K rRep (fun a b k => ∃ xs i, a = .lst xs ∧ b = .int i ∧ -(2 ^ 63) ≤ i ∧ i < 2 ^ 63 ∧ xs.length * i.toNat ≤ sizeLine ∧ k (.lst (List.replicate i.toNat xs).flatten)) := by
  intro S H x y a b Q k dm rx ry ⟨xs, i, e1, e2, l1, l2, l3, q⟩ hq
  subst e1 e2
  cases ry
  cases rx with
  | lst n h r => exact ⟨_, _, _, rfl, rfl, h, l1, l2, by rw [r.length]; exact l3, fun p np => hq p _ _ q (Same.put np) np (own_new np (reps_rep r _))⟩

/-! ### subscripts -/
theorem atI_rep {S : Addr → Prop} {H : Hp} {xs : List V} {ds : List D} {i : Int} {d : D} (r : Reps K S H xs ds) (h : atI ds i = some d) : ∃ v, atI xs i = some v ∧ Rep K S H v d := by
  unfold atI at h ⊢
  rw [r.length]
  cases e : ixN ds.length i with
  | none => rw [e] at h; cases h
  | some j =>
    rw [e] at h
    exact r.get' h
theorem opd_ixL : OpD K (rIxL K) (fun a b k => ∃ xs i d, a = .lst xs ∧ b = .int i ∧ atI xs i = some d ∧ k d) := by
  intro S H x y a b Q k dm rx ry ⟨xs, i, d, e1, e2, l, q⟩ hq
  subst e1 e2
  cases ry
  cases rx with
  | lst n h r =>
    obtain ⟨v, hv, rv⟩ := atI_rep r l
    exact ⟨_, _, _, v, rfl, rfl, SqL.of h, hv, hq _ H _ q (Same.refl H) rv⟩
theorem opd_ixT : OpD K (rIxT K) (fun a b k => ∃ xs i d, a = .tup xs ∧ b = .int i ∧ atI xs i = some d ∧ k d) := by
  intro S H x y a b Q k dm rx ry ⟨xs, i, d, e1, e2, l, q⟩ hq
  subst e1 e2
  cases ry
  cases rx with
  | tup n h r =>
    obtain ⟨v, hv, rv⟩ := atI_rep r l
    exact ⟨_, _, _, v, rfl, rfl, SqT.of h, hv, hq _ H _ q (Same.refl H) rv⟩
/-- a dict's entry -/
def getD (kvs : List (Key × D)) (k : Key) : Option D := (kvs.find? fun kv => decide (kv.1 = k)).map (·.2)
theorem valV_rep {S : Addr → Prop} {H : Hp} {k : Key} : ∀ {kvs : List (Key × V)} {ds : List (Key × D)}, kvs.map Prod.fst = ds.map Prod.fst → Reps K S H (kvs.map Prod.snd) (ds.map Prod.snd) →
    (getD ds k = none ∧ valV kvs k = none) ∨ ∃ v d, getD ds k = some d ∧ valV kvs k = some v ∧ Rep K S H v d
  | [], [], _, _ => .inl ⟨rfl, rfl⟩
  | [], _ :: _, h, _ => by simp at h
  | _ :: _, [], h, _ => by simp at h
  | p :: r, q :: s, h, .cons hv t => by
    have h1 : p.1 = q.1 := by simpa using (List.cons.inj (by simpa using h)).1
    have h2 : r.map Prod.fst = s.map Prod.fst := by simpa using (List.cons.inj (by simpa using h)).2
    by_cases e : q.1 = k
    · refine .inr ⟨p.2, q.2, ?_, valV_pos (h1.trans e), hv⟩
      unfold getD; rw [List.find?_cons_of_pos (by simpa using e)]; rfl
    · have e2 : getD (q :: s) k = getD s k := by
        show Option.map _ _ = Option.map _ _
        rw [List.find?_cons_of_neg (by simpa using e)]
      rw [e2, valV_neg (fun z => e (h1.symm.trans z))]
      exact valV_rep h2 t
theorem kV_key {S : Addr → Prop} {H : Hp} {y : V} {b : D} {k : Key} (e : b = (match k with | .inl i => .int i | .inr s => .str s)) (r : Rep K S H y b) : y = kV k := by
  subst e
  cases k <;> (cases r; rfl)
def kD : Key → D
  | .inl i => .int i
  | .inr s => .str s
theorem kD_rep {S : Addr → Prop} {H : Hp} (k : Key) : Rep K S H (kV k) (kD k) := by cases k <;> constructor
theorem kD_v {S : Addr → Prop} {H : Hp} {y : V} {k : Key} (r : Rep K S H y (kD k)) : y = kV k := by cases k <;> (cases r; rfl)
theorem dt_dget {td ty : TE} {k : D → Prop} (h : DT K E td G O (fun a => DT K E ty G O (fun b => ∃ kvs key d, a = .dic kvs ∧ b = kD key ∧ getD kvs key = some d ∧ k d) ke) ke) : DT K E (tDGet td ty) G O k ke := fun S0 Os σ H Q st hq he =>
  h.bind st he fun x H1 a ha s1 st1 he1 rx => ha.bind st1 he1 fun y H2 b ⟨kvs, key, d, e1, e2, g, kd⟩ s2 st2 he2 ry => by
    subst e1 e2
    have ey := kD_v ry
    subst ey
    have rx2 := rx.same s2
    cases rx2 with
    | dic n hr e r =>
      rcases valV_rep (k := key) e r with ⟨z, _⟩ | ⟨v, d', g1, g2, rv⟩
      · rw [g] at z; cases z
      · rw [g] at g1; cases g1
        exact ⟨_, v, rfl, .inl ⟨_, key, hr, rfl, g2.symm⟩, hq v H2 _ kd (s1.trans s2) rv⟩
theorem dt_din {td ty : TE} {k : D → Prop} (h : DT K E ty G O (fun b => DT K E td G O (fun a => ∃ kvs key, a = .dic kvs ∧ b = kD key ∧ k (.bl (getD kvs key).isSome)) ke) ke) : DT K E (tDIn ty td) G O k ke := fun S0 Os σ H Q st hq he =>
  h.bind st he fun y H1 b hb s1 st1 he1 ry => hb.bind st1 he1 fun x H2 a ⟨kvs, key, e1, e2, kd⟩ s2 st2 he2 rx => by
    subst e1 e2
    have ey := kD_v ry
    subst ey
    cases rx with
    | dic n hr e r =>
      refine ⟨_, _, rfl, .inl ⟨_, key, hr, rfl, rfl⟩, ?_⟩
      rcases valV_rep (k := key) e r with ⟨z1, z2⟩ | ⟨v, d', g1, g2, rv⟩
      · rw [z2]; rw [z1] at kd; exact hq _ H2 _ kd (s1.trans s2) (.bl _)
      · rw [g2]; rw [g1] at kd; exact hq _ H2 _ kd (s1.trans s2) (.bl _)
theorem dt_dnotin {td ty : TE} {k : D → Prop} (h : DT K E ty G O (fun b => DT K E td G O (fun a => ∃ kvs key, a = .dic kvs ∧ b = kD key ∧ k (.bl (!(getD kvs key).isSome))) ke) ke) : DT K E (tDNotIn ty td) G O k ke := fun S0 Os σ H Q st hq he =>
  h.bind st he fun y H1 b hb s1 st1 he1 ry => hb.bind st1 he1 fun x H2 a ⟨kvs, key, e1, e2, kd⟩ s2 st2 he2 rx => by
    subst e1 e2
    have ey := kD_v ry
    subst ey
    cases rx with
    | dic n hr e r =>
      refine ⟨_, _, rfl, .inl ⟨_, key, hr, rfl, rfl⟩, ?_⟩
      rcases valV_rep (k := key) e r with ⟨z1, z2⟩ | ⟨v, d', g1, g2, rv⟩
      · rw [z2]; rw [z1] at kd; exact hq _ H2 _ kd (s1.trans s2) (.bl _)
      · rw [g2]; rw [g1] at kd; exact hq _ H2 _ kd (s1.trans s2) (.bl _)

/-! ### slices of lists -/
def cutD (xs : List D) (lo hi : Option Int) : List D := (xs.drop (HT.sIx xs.length 0 lo)).take (HT.sIx xs.length xs.length hi - HT.sIx xs.length 0 lo)
def DO (K : PySem.W.Frag) (E : XK) (t : TO) (G : Gm) (O : OL) (k : Option Int → Prop) (ke : Xd → Prop) : Prop := ∀ (S0 : Addr → Prop) (Os : OLa) (σ : L2.St) (H : Hp) (Q : Option Int → Hp → Prop), St1 K S0 G O Os σ H →
  (∀ i H', k i → Same H H' → Q i H') → EOk K (SO S0 Os) H E ke → t σ H Q
theorem do_none {k : Option Int → Prop} (q : k none) : DO K E tNoPart G O k ke := fun S0 Os σ H Q st hq he => hq none H q (Same.refl H)
theorem do_some {t : TE} {k : Option Int → Prop} (h : DT K E t G O (fun d => ∃ i, d = .int i ∧ k (some i)) ke) : DO K E (tPart t) G O k ke := fun S0 Os σ H Q st hq he =>
  h.bind st he fun x H1 d ⟨i, e, q⟩ s1 st1 he1 rx => by subst e; cases rx; exact ⟨i, rfl, hq _ H1 q s1⟩
theorem df_slL {te : TE} {tl th : TO} {k : Ow → Prop} (h : DT K E te G O (fun a => DO K E tl G O (fun l => DO K E th G O (fun u => ∃ xs, a = .lst xs ∧ k (.lst (cutD xs l u))) ke) ke) ke) : DF K E (tSl (rSlL K) te tl th) G O k ke := fun S0 Os σ H Q st hq he =>
  h.bind st he fun x H1 a ha s1 st1 he1 rx => ha S0 Os σ H1 _ st1 (fun l H2 hl s2 => hl S0 Os σ H2 _ (st1.same s2) (fun u H3 ⟨xs, e, q⟩ s3 => by
    subst e
    have rx3 := rx.same (s2.trans s3)
    cases rx3 with
    | lst n hh r =>
      refine ⟨_, _, rfl, SqL.of hh, fun p np => hq p _ _ q ((s1.trans (s2.trans s3)).trans (Same.put np)) ((s1.trans (s2.trans s3)).free np) (own_new np ?_)⟩
      unfold cutV cutD
      rw [r.length]
      exact (r.drop _).take _) (he1.same s2)) he1

/-! ### built-in calls -/
theorem caf_list : CaF K (fun xs H Q => ∃ p ys, xs = [.ref p] ∧ (SqL K H p ys ∨ SqT K H p ys) ∧ ∀ l, H l = none → Q (.ref l) (upd H l (.lst ys))) (fun ds k => ∃ xs, (ds = [.lst xs] ∨ ds = [.tup xs]) ∧ k (.lst xs)) := by
  intro S H xs ds Q k dm rx ⟨ys, e, q⟩ hq
  rcases e with e | e <;> subst e
  · cases rx with
    | cons h t =>
      cases t
      cases h with
      | lst n hh r => exact ⟨_, _, rfl, .inl (SqL.of hh), fun p np => hq p _ _ q (Same.put np) np (own_new np r)⟩
  · cases rx with
    | cons h t =>
      cases t
      cases h with
      | tup n hh r => exact ⟨_, _, rfl, .inr (SqT.of hh), fun p np => hq p _ _ q (Same.put np) np (own_new np r)⟩
theorem reps_kV {S : Addr → Prop} {H : Hp} : ∀ {kvs : List (Key × V)} {ds : List (Key × D)}, kvs.map Prod.fst = ds.map Prod.fst → Reps K S H (kvs.map fun kv => kV kv.1) (ds.map fun kv => kD kv.1)
  | [], [], _ => .nil
  | [], _ :: _, h => by simp at h
  | _ :: _, [], h => by simp at h
  | p :: r, q :: s, h => by
    have h1 : p.1 = q.1 := by simpa using (List.cons.inj (by simpa using h)).1
    have h2 : r.map Prod.fst = s.map Prod.fst := by simpa using (List.cons.inj (by simpa using h)).2
    refine .cons ?_ (reps_kV h2)
    show Rep K S H (kV p.1) (kD q.1)
    rw [h1]; exact kD_rep _
theorem caf_listD : CaF K (fun xs H Q => ∃ (a : Addr) (kvs : List (Key × V)), xs = [.ref a] ∧ Rd H a (.dK kvs) ∧ ∀ p, H p = none → Q (.ref p) (upd H p (.lst (kvs.map fun kv => kV kv.1)))) (fun ds k => ∃ kvs : List (Key × D), ds = [.dic kvs] ∧ k (.lst (kvs.map fun kv => kD kv.1))) := by
  intro S H xs ds Q k dm rx ⟨ys, e, q⟩ hq
  subst e
  cases rx with
  | cons h t =>
    cases t
    cases h with
    | dic n hh e r => exact ⟨_, _, rfl, hh, fun p np => hq p _ _ q (Same.put np) np (own_new np (reps_kV e))⟩
theorem caf_dictD : CaF K (fun xs H Q => ∃ (a : Addr) (kvs : List (Key × V)), xs = [.ref a] ∧ Rd H a (.dK kvs) ∧ ∀ p, H p = none → Q (.ref p) (upd H p (.dK kvs))) (fun ds k => ∃ kvs : List (Key × D), ds = [.dic kvs] ∧ k (.dic kvs)) := by
  intro S H xs ds Q k dm rx ⟨ys, e, q⟩ hq
  subst e
  cases rx with
  | cons h t =>
    cases t
    cases h with
    | dic n hh e r => exact ⟨_, _, rfl, hh, fun p np => hq p _ _ q (Same.put np) np ⟨_, upd_same, e, Reps.same (Reps.avoid (fun a z => z.elim .inl fun e => .inr (e ▸ np)) r) (Same.put np)⟩⟩
theorem cad_all : CaD K (rAll K) (fun ds k => ∃ bs : List Bool, ds = [.lst (bs.map D.bl)] ∧ k (.bl (bs.all id))) := by
  intro S H xs ds Q k dm rx ⟨bs, e, q⟩ hq
  subst e
  cases rx with
  | cons h t =>
    cases t
    cases h with
    | lst n hh r =>
      have e := r.bls
      subst e
      exact ⟨_, bs, rfl, SqL.of hh, hq _ H _ q (Same.refl H) (.bl _)⟩
theorem cad_any : CaD K (rAny K) (fun ds k => ∃ bs : List Bool, ds = [.lst (bs.map D.bl)] ∧ k (.bl (bs.any id))) := by
  intro S H xs ds Q k dm rx ⟨bs, e, q⟩ hq
  subst e
  cases rx with
  | cons h t =>
    cases t
    cases h with
    | lst n hh r =>
      have e := r.bls
      subst e
      exact ⟨_, bs, rfl, SqL.of hh, hq _ H _ q (Same.refl H) (.bl _)⟩
theorem cad_sum : CaD K (rSum K) (fun ds k => ∃ bs : List Int, ds = [.lst (bs.map D.int)] ∧ k (.int bs.sum)) := by
  intro S H xs ds Q k dm rx ⟨bs, e, q⟩ hq
  subst e
  cases rx with
  | cons h t =>
    cases t
    cases h with
    | lst n hh r =>
      have e := r.ints
      subst e
      exact ⟨_, bs, rfl, SqL.of hh, hq _ H _ q (Same.refl H) (.int _)⟩
theorem caf_sortedS : CaF K (rSortedS K) (fun ds k => ∃ ss : List Str, ds = [.lst (ss.map D.str)] ∧ ss.length < 64 ∧ ∀ ys : List Str, ys.Perm ss → sortedS ys = true → k (.lst (ys.map D.str))) := by
  intro S H xs ds Q k dm rx ⟨ss, e, l, q⟩ hq
  subst e
  cases rx with
  | cons h t =>
    cases t
    cases h with
    | lst n hh r =>
      have e := r.strs
      subst e
      exact ⟨_, ss, rfl, SqL.of hh, l, fun ys p pm so np => hq p _ _ (q ys pm so) (Same.put np) np (own_new np (reps_strs ys))⟩
theorem caf_sortedD : CaF K (fun xs H Q => ∃ (a : Addr) (kvs : List (Key × V)) (ks : List Str), xs = [.ref a] ∧ Rd H a (.dK kvs) ∧ kvs.map (·.1) = ks.map Sum.inr ∧ ks.length < 64 ∧ ∀ ys p, ys.Perm ks → sortedS ys = true → H p = none → Q (.ref p) (upd H p (.lst (ys.map V.str))))
    (fun ds k => ∃ (kvs : List (Key × D)) (ss : List Str), ds = [.dic kvs] ∧ kvs.map (·.1) = ss.map Sum.inr ∧ ss.length < 64 ∧ ∀ ys : List Str, ys.Perm ss → sortedS ys = true → k (.lst (ys.map D.str))) := by
  intro S H xs ds Q k dm rx ⟨kvs, ss, e, ek, l, q⟩ hq
  subst e
  cases rx with
  | cons h t =>
    cases t
    cases h with
    | dic n hh e r =>
      exact ⟨_, _, ss, rfl, hh, e.trans ek, l, fun ys p pm so np => hq p _ _ (q ys pm so) (Same.put np) np (own_new np (reps_strs ys))⟩
/-- len -/
def lenD : D → Option Nat
  | .str s => some s.length
  | .lst xs => some xs.length
  | .tup xs => some xs.length
  | .dic kvs => some kvs.length
  | _ => none
theorem cad_max2 : CaD K (fun xs H Q => ∃ i j, xs = [.int i, .int j] ∧ Q (.int (if j > i then j else i)) H) (fun ds k => ∃ i j, ds = [.int i, .int j] ∧ k (.int (if j > i then j else i))) := by
  intro S H xs ds Q k dm rx ⟨i, j, e, q⟩ hq
  subst e
  cases rx with | cons h t => cases h; cases t with | cons h t => cases h; cases t; exact ⟨i, j, rfl, hq _ H _ q (Same.refl H) (.int _)⟩
theorem cad_min2 : CaD K (fun xs H Q => ∃ i j, xs = [.int i, .int j] ∧ Q (.int (if j < i then j else i)) H) (fun ds k => ∃ i j, ds = [.int i, .int j] ∧ k (.int (if j < i then j else i))) := by
  intro S H xs ds Q k dm rx ⟨i, j, e, q⟩ hq
  subst e
  cases rx with | cons h t => cases h; cases t with | cons h t => cases h; cases t; exact ⟨i, j, rfl, hq _ H _ q (Same.refl H) (.int _)⟩
theorem cad_int1 : CaD K (fun xs H Q => (∃ i, xs = [.int i] ∧ Q (.int i) H) ∨ ∃ k, xs = [.bl k] ∧ Q (.int (if k then 1 else 0)) H) (fun ds k => (∃ i, ds = [.int i] ∧ k (.int i)) ∨ ∃ b, ds = [.bl b] ∧ k (.int (if b then 1 else 0))) := by
  intro S H xs ds Q k dm rx h hq
  rcases h with ⟨i, e, q⟩ | ⟨b, e, q⟩
  · subst e
    cases rx with | cons h t => cases h; cases t; exact .inl ⟨i, rfl, hq _ H _ q (Same.refl H) (.int _)⟩
  · subst e
    cases rx with | cons h t => cases h; cases t; exact .inr ⟨b, rfl, hq _ H _ q (Same.refl H) (.int _)⟩
end
end Fw

set_option maxHeartbeats 4000000
/-! Specs of defs, calls, objects, statements, loops, comprehensions, by data. -/
namespace Fw
open PySem PySem.Spec PyProof.Rows L2
abbrev Wt := List D → (D → Prop) → (Xd → Prop) → Prop
/-- a def that changes nothing that stands: what it gives, by data -/
def spD (K : PySem.W.Frag) (w : Wt) : Sp := fun vs H Q E => ∃ (S : Addr → Prop) (ds : List D) (k : D → Prop) (ke : Xd → Prop), (∀ a, S a → H a ≠ none) ∧ Reps K S H vs ds ∧ w ds k ke ∧
  (∀ v H' d, k d → Same H H' → Rep K S H' v d → Q v H') ∧ EOk K S H E ke
abbrev WtI := List D → (List (Str × D) → Prop) → (Xd → Prop) → Prop
/-- an __init__: what the fields are -/
def spI (K : PySem.W.Frag) (c : Str) (w : WtI) : Sp := fun vs H Q E => ∃ (S : Addr → Prop) (x dx : Addr) (vs' : List V) (ds : List D) (k : List (Str × D) → Prop) (ke : Xd → Prop),
  vs = .ref x :: vs' ∧ H x = some (.ins (He.ga K c) dx []) ∧ ¬ S x ∧ (∀ a, S a → H a ≠ none) ∧ Reps K (fun b => S b ∨ b = x) H vs' ds ∧ w ds k ke ∧
  (∀ H' fs, k fs → SameX (fun b => b = x) H H' → OwnAt K (fun b => S b ∨ b = x) H' x (.obj c fs) → Q .non H') ∧ EOk K S (del H x) E ke
abbrev F0 : Xd → Prop := fun _ => False

section
variable {K : PySem.W.Frag} {E : XK} {G : Gm} {O : OL} {ke : Xd → Prop}
theorem eok_e0 {S : Addr → Prop} {H : Hp} {E : XK} : EOk K S H E F0 := fun _ _ _ _ z => z.elim
theorem dt_call0 {w : Wt} {t : TA} {k : D → Prop} (h : DA K E t G O (fun ds => w ds k F0) ke) : DT K E (tCall (spD K w) [] E0 t) G O k ke := fun S0 Os σ H Q st hq he =>
  h.bind st he fun xs H1 ds ha s1 st1 he1 rx => by
    show spD K w (xs ++ []) H1 Q E0
    rw [List.append_nil]
    exact ⟨SO S0 Os, ds, k, F0, st1.domW, rx, ha, fun v H' d kd s r => hq v H' d kd (s1.trans s) r, eok_e0⟩
theorem dt_callE {w : Wt} {t : TA} {k : D → Prop} (h : DA K E t G O (fun ds => w ds k ke) ke) : DT K E (tCall (spD K w) [] E t) G O k ke := fun S0 Os σ H Q st hq he =>
  h.bind st he fun xs H1 ds ha s1 st1 he1 rx => by
    show spD K w (xs ++ []) H1 Q E
    rw [List.append_nil]
    exact ⟨SO S0 Os, ds, k, ke, st1.domW, rx, ha, fun v H' d kd s r => hq v H' d kd (s1.trans s) r, he1⟩
theorem lookup_rep {S : Addr → Prop} {H : Hp} {f : Str} : ∀ {fs : List (Str × V)} {ds : List (Str × D)}, fs.map Prod.fst = ds.map Prod.fst → Reps K S H (fs.map Prod.snd) (ds.map Prod.snd) →
    (ds.lookup f = none ∧ fs.lookup f = none) ∨ ∃ v d, ds.lookup f = some d ∧ fs.lookup f = some v ∧ Rep K S H v d
  | [], [], _, _ => .inl ⟨rfl, rfl⟩
  | [], _ :: _, h, _ => by simp at h
  | _ :: _, [], h, _ => by simp at h
  | (p, v) :: r, (q, d) :: s, h, .cons hv t => by
    have h1 : p = q := by simpa using (List.cons.inj (by simpa using h)).1
    have h2 : r.map Prod.fst = s.map Prod.fst := by simpa using (List.cons.inj (by simpa using h)).2
    subst h1
    cases hb : f == p with
    | true => exact .inr ⟨v, d, by rw [List.lookup_cons, hb], by rw [List.lookup_cons, hb], hv⟩
    | false =>
      rw [List.lookup_cons, List.lookup_cons, hb]
      exact lookup_rep h2 t
theorem dt_meth0 {w : Wt} {c m : Str} {ta : TE} {t : TA} {k : D → Prop} (h : DT K E ta G O (fun a => ∃ fs, a = .obj c fs ∧ fs.lookup m = none ∧ DA K E t G O (fun ds => w (a :: ds) k F0) ke) ke) :
    DT K E (tMeth (He.ga K c) m (spD K w) [] E0 ta t) G O k ke := fun S0 Os σ H Q st hq he =>
  h.bind st he fun x H1 a ⟨fs, e, l, ha⟩ s1 st1 he1 rx => by
    subst e
    have rx0 := rx
    cases rx with
    | obj n hh ef r =>
      refine ⟨_, _, _, rfl, hh, ?_, ha.bind st1 he1 fun xs H2 ds hw s2 st2 he2 ry => ?_⟩
      · rcases lookup_rep (f := m) ef r with ⟨_, z⟩ | ⟨v, d, z, _⟩
        · exact z
        · rw [l] at z; cases z
      · rw [List.append_nil]
        exact ⟨SO S0 Os, _, k, F0, st2.domW, .cons (rx0.same s2) ry, hw, fun v H' d kd s r => hq v H' d kd ((s1.trans s2).trans s) r, eok_e0⟩
theorem dt_methE {w : Wt} {c m : Str} {ta : TE} {t : TA} {k : D → Prop} (h : DT K E ta G O (fun a => ∃ fs, a = .obj c fs ∧ fs.lookup m = none ∧ DA K E t G O (fun ds => w (a :: ds) k ke) ke) ke) :
    DT K E (tMeth (He.ga K c) m (spD K w) [] E ta t) G O k ke := fun S0 Os σ H Q st hq he =>
  h.bind st he fun x H1 a ⟨fs, e, l, ha⟩ s1 st1 he1 rx => by
    subst e
    have rx0 := rx
    cases rx with
    | obj n hh ef r =>
      refine ⟨_, _, _, rfl, hh, ?_, ha.bind st1 he1 fun xs H2 ds hw s2 st2 he2 ry => ?_⟩
      · rcases lookup_rep (f := m) ef r with ⟨_, z⟩ | ⟨v, d, z, _⟩
        · exact z
        · rw [l] at z; cases z
      · rw [List.append_nil]
        exact ⟨SO S0 Os, _, k, ke, st2.domW, .cons (rx0.same s2) ry, hw, fun v H' d kd s r => hq v H' d kd ((s1.trans s2).trans s) r, he2⟩
theorem dt_prop {w : Wt} {c : Str} {ta : TE} {k : D → Prop} (h : DT K E ta G O (fun a => ∃ fs, a = .obj c fs ∧ w [a] k F0) ke) :
    DT K E (tProp (He.ga K c) (spD K w) [] E0 ta) G O k ke := fun S0 Os σ H Q st hq he =>
  h.bind st he fun x H1 a ⟨fs, e, ha⟩ s1 st1 he1 rx => by
    subst e
    have rx0 := rx
    cases rx with
    | obj n hh ef r => exact ⟨_, _, _, rfl, hh, SO S0 Os, _, k, F0, st1.domW, .cons rx0 .nil, ha, fun v H' d kd s r => hq v H' d kd (s1.trans s) r, eok_e0⟩
theorem dt_fld {c f : Str} {ta : TE} {k : D → Prop} (cl : Cls K (He.ga K c)) (na : NoAttr K (He.ga K c) f) (h : DT K E ta G O (fun a => ∃ fs d, a = .obj c fs ∧ fs.lookup f = some d ∧ k d) ke) : DT K E (tFld K ta f) G O k ke := fun S0 Os σ H Q st hq he =>
  h.bind st he fun x H1 a ⟨fs, d, e, l, kd⟩ s1 st1 he1 rx => by
    subst e
    cases rx with
    | obj n hh ef r =>
      rcases lookup_rep (f := f) ef r with ⟨z, _⟩ | ⟨v, d', z1, z2, rv⟩
      · rw [l] at z; cases z
      · rw [l] at z1; cases z1
        exact ⟨_, _, _, _, v, rfl, hh, cl, na, z2, hq v H1 _ kd s1 rv⟩
theorem map_erase {α β : Type} (f : α → β) : ∀ (xs : List α) (j : Nat), (xs.eraseIdx j).map f = (xs.map f).eraseIdx j
  | [], _ => rfl
  | _ :: _, 0 => rfl
  | x :: r, j + 1 => by
    show f x :: (r.eraseIdx j).map f = f x :: (r.map f).eraseIdx j
    rw [map_erase f r j]
theorem own_at {Os : OLa} {O : OL} (e : Os.map (·.2) = O) {j : Nat} {o : Nat × Ow} (h : O[j]? = some o) : ∃ p ∈ Os, p.2 = o ∧ Os[j]? = some p := by
  rw [← e, List.getElem?_map] at h
  cases q : Os[j]? with
  | none => rw [q] at h; cases h
  | some p => rw [q] at h; cases h; exact ⟨p, List.mem_of_getElem? q, rfl, rfl⟩
/-- a field of what is owned -/
theorem dt_fldO (j : Nat) {c f : Str} {i : Nat} {fs : List (Str × D)} {d : D} {k : D → Prop} (cl : Cls K (He.ga K c)) (na : NoAttr K (He.ga K c) f) (ho : O[j]? = some (i, .obj c fs)) (l : fs.lookup f = some d) (kd : k d) : DT K E (tFld K (tVar i) f) G O k ke := fun S0 Os σ H Q st hq he => by
  obtain ⟨p, hp, e, _⟩ := own_at st.os ho
  obtain ⟨hs, oa⟩ := st.own p hp
  rw [e] at hs oa
  obtain ⟨dx, gs, hh, ef, r⟩ := oa
  rcases lookup_rep (f := f) ef r with ⟨z, _⟩ | ⟨v, d', z1, z2, rv⟩
  · rw [l] at z; cases z
  · rw [l] at z1; cases z1
    exact ⟨_, hs, _, _, _, _, v, rfl, hh, cl, na, z2, hq v H _ kd (Same.refl H) rv⟩
/-- a field of the instance that an __init__ fills -/
theorem dt_fldS (j : Nat) {x : Addr} {c f : Str} {i : Nat} {fs : List (Str × D)} {d : D} {k : D → Prop} (cl : Cls K (He.ga K c)) (na : NoAttr K (He.ga K c) f) (ho : O[j]? = some (i, .slf x c fs)) (l : fs.lookup f = some d) (kd : k d) : DT K E (tFld K (tVar i) f) G O k ke := fun S0 Os σ H Q st hq he => by
  obtain ⟨p, hp, e, _⟩ := own_at st.os ho
  obtain ⟨hs, oa⟩ := st.own p hp
  rw [e] at hs oa
  obtain ⟨ea, dx, gs, hh, ef, r⟩ := oa
  rcases lookup_rep (f := f) ef r with ⟨z, _⟩ | ⟨v, d', z1, z2, rv⟩
  · rw [l] at z; cases z
  · rw [l] at z1; cases z1
    exact ⟨_, hs, _, _, _, _, v, rfl, hh, cl, na, z2, hq v H _ kd (Same.refl H) rv⟩
theorem reps_S {S T : Addr → Prop} {H : Hp} {vs : List V} {ds : List D} (r : Reps K S H vs ds) (h : ∀ a, T a ↔ S a) : Reps K T H vs ds := Reps.weak (fun a z => (h a).mp z) r
theorem df_make {w : WtI} {c : Str} {t : TA} {k : Ow → Prop} (h : DA K E t G O (fun ds => w ds (fun fs => k (.obj c fs)) F0) ke) : DF K E (tMake (He.ga K c) (spI K c w) [] E0 t) G O k ke := fun S0 Os σ H Q st hq he =>
  h.bind st he fun xs H1 ds ha s1 st1 he1 rx x dx nx ndx ne => by
    rw [List.append_nil]
    have sp : Same H1 (upd (upd H1 dx (.own x)) x (.ins (He.ga K c) dx [])) := fun b o e => by
      rw [upd_ne (ne_of_none e nx), upd_ne (ne_of_none e ndx)]; exact e
    refine ⟨SO S0 Os, x, dx, xs, ds, _, F0, rfl, upd_same, fun z => st1.domW x z nx, fun a z q => st1.domW a z (sp.free q), Reps.same (Reps.avoid (fun a z => z.elim .inl fun e => .inr (e ▸ nx)) rx) sp, ha, fun H' fs kf sx oa => ⟨rfl, ?_⟩, eok_e0⟩
    refine hq x H' _ kf (fun b o e => ?_) (s1.free nx) oa
    exact sx b (fun z => by rw [z] at e; rw [s1 _ _ e] at nx; cases nx) o (sp b o (s1 b o e))
theorem dt_make {w : WtI} {c : Str} {t : TA} {k : D → Prop} (h : DA K E t G O (fun ds => w ds (fun fs => k (.obj c fs)) F0) ke) : DT K E (tMake (He.ga K c) (spI K c w) [] E0 t) G O k ke := (df_make h).dt

/-! ### statements -/
structure Frm (S0 : Addr → Prop) (H0 : Hp) (Os : OLa) (H : Hp) : Prop where
  same : Same H0 H
  new : ∀ a, W Os a → H0 a = none
  dom : ∀ a, S0 a → H0 a ≠ none
/-- what a statement may have changed -/
structure Chg (Os : OLa) (H : Hp) (Os' : OLa) (H' : Hp) : Prop where
  same : SameX (W Os) H H'
  new : ∀ a, W Os' a → W Os a ∨ H a = none
theorem Chg.refl {Os : OLa} {H : Hp} : Chg Os H Os H := ⟨SameX.rfl', fun _ z => .inl z⟩
theorem Chg.of_same {Os : OLa} {H H' : Hp} (h : Same H H') : Chg Os H Os H' := ⟨Same.sx h, fun _ z => .inl z⟩
theorem Chg.trans {Os Os1 Os2 : OLa} {H H1 H2 : Hp} (a : Chg Os H Os1 H1) (b : Chg Os1 H1 Os2 H2) : Chg Os H Os2 H2 :=
  ⟨fun c n u e => b.same c (fun z => (a.new c z).elim n fun q => by rw [e] at q; cases q) u (a.same c n u e), fun c z => (b.new c z).elim (a.new c) fun q => by
    cases e : H c with
    | none => exact .inr rfl
    | some u =>
      by_cases n : W Os c
      · exact .inl n
      · rw [a.same c n u e] at q; cases q⟩
theorem Frm.step {S0 : Addr → Prop} {H0 : Hp} {Os Os' : OLa} {H H' : Hp} (f : Frm S0 H0 Os H) (c : Chg Os H Os' H') : Frm S0 H0 Os' H' :=
  ⟨fun a u e => c.same a (fun z => by rw [f.new a z] at e; cases e) u (f.same a u e), fun a z => (c.new a z).elim (f.new a) fun q => f.same.free q, f.dom⟩
def DS (K : PySem.W.Frag) (E : XK) (t : TS) (G : Gm) (O : OL) (kn : Gm → OL → Prop) (kr : D → Prop) (ke : Xd → Prop) : Prop :=
  ∀ (S0 : Addr → Prop) (H0 : Hp) (Os : OLa) (σ : L2.St) (H : Hp) (Ds : Ends), Frm S0 H0 Os H → St1 K S0 G O Os σ H →
    (∀ G' O' Os' σ' H', kn G' O' → Chg Os H Os' H' → St1 K S0 G' O' Os' σ' H' → Ds.nx σ' H') →
    (∀ v H' d, kr d → Same H0 H' → Rep K S0 H' v d → Ds.rt v H') → EOk K S0 H0 E ke → t Ds σ H
variable {kn : Gm → OL → Prop} {kr : D → Prop}
theorem EOk.so {S0 : Addr → Prop} {Os : OLa} {H0 H : Hp} (h : EOk K S0 H0 E ke) (f : Frm S0 H0 Os H) : EOk K (SO S0 Os) H E ke := fun c d H2 x k l r => h c d H2 x k (f.same.trans l) (by
  obtain ⟨e, r⟩ := r
  refine ⟨e, ?_⟩
  cases q : x.arg with
  | none => rw [q] at r; exact r
  | some p =>
    rw [q] at r
    obtain ⟨a, v, h1, hn, h2, h3⟩ := r
    exact ⟨a, v, h1, fun z => hn (.inl z), h2, Rep.weak (fun a z => .inl z) h3⟩)
/-- an expression in a statement -/
theorem DT.at_ {t : TE} {k : D → Prop} (h : DT K E t G O k ke) {S0 : Addr → Prop} {H0 : Hp} {Os : OLa} {σ : L2.St} {H : Hp} {Q : VK} (f : Frm S0 H0 Os H) (st : St1 K S0 G O Os σ H) (he : EOk K S0 H0 E ke)
    (hq : ∀ v H' d, k d → Same H H' → Frm S0 H0 Os H' → St1 K S0 G O Os σ H' → Rep K (SO S0 Os) H' v d → Q v H') : t σ H Q :=
  h.bind st (he.so f) fun v H' d kd s st' _ r => hq v H' d kd s (f.step (Chg.of_same s)) st' r
theorem DTT.at_ {t : TT} {k : Bool → Prop} (h : DTT K E t G O k ke) {S0 : Addr → Prop} {H0 : Hp} {Os : OLa} {σ : L2.St} {H : Hp} {Q : Bool → Hp → Prop} (f : Frm S0 H0 Os H) (st : St1 K S0 G O Os σ H) (he : EOk K S0 H0 E ke)
    (hq : ∀ b H', k b → Same H H' → Frm S0 H0 Os H' → St1 K S0 G O Os σ H' → Q b H') : t σ H Q :=
  h.bind st (he.so f) fun b H' kd s st' _ => hq b H' kd s (f.step (Chg.of_same s)) st'
theorem DA.at_ {t : TA} {k : List D → Prop} (h : DA K E t G O k ke) {S0 : Addr → Prop} {H0 : Hp} {Os : OLa} {σ : L2.St} {H : Hp} {Q : List V → Hp → Prop} (f : Frm S0 H0 Os H) (st : St1 K S0 G O Os σ H) (he : EOk K S0 H0 E ke)
    (hq : ∀ v H' d, k d → Same H H' → Frm S0 H0 Os H' → St1 K S0 G O Os σ H' → Reps K (SO S0 Os) H' v d → Q v H') : t σ H Q :=
  h.bind st (he.so f) fun v H' d kd s st' _ r => hq v H' d kd s (f.step (Chg.of_same s)) st' r
theorem ds_seq {t u : TS} (h : DS K E t G O (fun G1 O1 => DS K E u G1 O1 kn kr ke) kr ke) : DS K E (tSeq t u) G O kn kr ke := fun S0 H0 Os σ H Ds f st hn hr he =>
  h S0 H0 Os σ H { Ds with nx := u Ds } f st (fun G1 O1 Os1 σ1 H1 k1 c1 st1 => k1 S0 H0 Os1 σ1 H1 Ds (f.step c1) st1 (fun G2 O2 Os2 σ2 H2 k2 c2 st2 => hn G2 O2 Os2 σ2 H2 k2 (c1.trans c2) st2) hr he) hr he
theorem ds_next (h : kn G O) : DS K E tNext G O kn kr ke := fun S0 H0 Os σ H Ds f st hn hr he => hn G O Os σ H h Chg.refl st
theorem ds_expr {te : TE} (h : DT K E te G O (fun _ => kn G O) ke) : DS K E (tDrop te) G O kn kr ke := fun S0 H0 Os σ H Ds f st hn hr he =>
  h.at_ f st he fun v H1 d kd s f1 st1 r => hn G O Os σ H1 kd (Chg.of_same s) st1
theorem ds_ret {te : TE} (h : DT K E te G O kr ke) : DS K E (tRet te) G O kn kr ke := fun S0 H0 Os σ H Ds f st hn hr he =>
  h.at_ f st he fun v H1 d kd s f1 st1 r => hr v H1 d kd f1.same (Rep.weak (fun a z => .inl z) r)
theorem ds_retN (h : kr .non) : DS K E tRetN G O kn kr ke := fun S0 H0 Os σ H Ds f st hn hr he => hr .non H .non h f.same .non
theorem ds_if {c : TT} {t u : TS} (h : DTT K E c G O (fun b => (b = true → DS K E t G O kn kr ke) ∧ (b = false → DS K E u G O kn kr ke)) ke) : DS K E (tIfS c t u) G O kn kr ke := fun S0 H0 Os σ H Ds f st hn hr he =>
  h.at_ f st he fun b H1 kb s f1 st1 => by
    cases b with
    | true => exact iteT (kb.1 rfl S0 H0 Os σ H1 Ds f1 st1 (fun G2 O2 Os2 σ2 H2 k2 c2 st2 => hn G2 O2 Os2 σ2 H2 k2 ((Chg.of_same s).trans c2) st2) hr he)
    | false => exact iteF (kb.2 rfl S0 H0 Os σ H1 Ds f1 st1 (fun G2 O2 Os2 σ2 H2 k2 c2 st2 => hn G2 O2 Os2 σ2 H2 k2 ((Chg.of_same s).trans c2) st2) hr he)
theorem ds_asg {te : TE} {i : Nat} (hi : ∀ o ∈ O, o.1 ≠ i) (h : DT K E te G O (fun d => kn (G.set i (some d)) O) ke) : DS K E (tAsg te (gName i)) G O kn kr ke := fun S0 H0 Os σ H Ds f st hn hr he =>
  h.at_ f st he fun v H1 d kd s f1 st1 r => hn _ O Os _ H1 kd (Chg.of_same s) (st1.set r hi)
/-- what is new becomes owned -/
theorem St1.own_new {S0 : Addr → Prop} {Os : OLa} {σ : L2.St} {H H1 : Hp} (st : St1 K S0 G O Os σ H) {p : Addr} {o : Ow} {i : Nat} (s : Same H H1) (np : H p = none) (oa : OwnAt K (fun b => SO S0 Os b ∨ b = p) H1 p o) (hi : ∀ o ∈ O, o.1 ≠ i) (hl : i < G.length) :
    St1 K S0 (G.set i none) ((i, o) :: O) ((p, i, o) :: Os) (σ.set i (some (.ref p))) H1 := by
  have st1 := st.same s
  have wp : ∀ a, W ((p, i, o) :: Os) a ↔ a = p ∨ W Os a := fun a => by
    show a ∈ List.map _ _ ↔ _
    rw [List.map_cons, List.mem_cons]; exact Iff.rfl
  have so : ∀ a, SO S0 ((p, i, o) :: Os) a → SO S0 Os a ∨ a = p := fun a z => by
    rcases z with z | z
    · exact .inl (.inl z)
    · rcases (wp a).mp z with z | z
      · exact .inr z
      · exact .inl (.inr z)
  have nw : ¬ W Os p := fun z => st.domW p (.inr z) np
  have av : ∀ a, SO S0 ((p, i, o) :: Os) a → SO S0 Os a ∨ H a = none := fun a z => (so a z).elim .inl fun e => .inr (by rw [e]; exact np)
  refine ⟨by rw [List.map_cons, st.os], ?_, st1.dom, fun a z => ?_, by rw [List.length_set, List.length_set]; exact st.len, fun j d e => ?_, fun q hq => ?_⟩
  · rw [List.map_cons]
    exact List.nodup_cons.mpr ⟨nw, st.nd⟩
  · rcases (wp a).mp z with z | z
    · rw [z]; exact fun y => st.dom p y np
    · exact st.ns a z
  · by_cases hj : i = j
    · subst hj
      rw [List.getElem?_set_self hl] at e; cases e
    · rw [List.getElem?_set_ne hj] at e
      obtain ⟨v, e1, r⟩ := st.re j d e
      exact ⟨v, by rw [List.getElem?_set_ne hj]; exact e1, Rep.same (Rep.avoid av r) s⟩
  · rcases List.mem_cons.mp hq with e | hq
    · subst e
      refine ⟨List.getElem?_set_self (by rw [st.len]; exact hl), ?_⟩
      cases o with
      | lst ds => obtain ⟨vs, e, r⟩ := oa; exact ⟨vs, e, Reps.weak so r⟩
      | dic ds => obtain ⟨vs, e, q, r⟩ := oa; exact ⟨vs, e, q, Reps.weak so r⟩
      | obj c ds => obtain ⟨dx, vs, e, q, r⟩ := oa; exact ⟨dx, vs, e, q, Reps.weak so r⟩
      | slf _ c ds => obtain ⟨ea, dx, vs, e, q, r⟩ := oa; exact ⟨ea, dx, vs, e, q, Reps.weak so r⟩
    · obtain ⟨hs, oa'⟩ := st.own q hq
      have hne : i ≠ q.2.1 := fun z => hi q.2 (by rw [← st.os]; exact List.mem_map_of_mem hq) z.symm
      refine ⟨by rw [List.getElem?_set_ne hne]; exact hs, ?_⟩
      generalize q.2.2 = o' at oa' ⊢
      cases o' with
      | lst ds => obtain ⟨vs, e, r⟩ := oa'; exact ⟨vs, s _ _ e, Reps.same (Reps.avoid av r) s⟩
      | dic ds => obtain ⟨vs, e, q, r⟩ := oa'; exact ⟨vs, s _ _ e, q, Reps.same (Reps.avoid av r) s⟩
      | obj c ds => obtain ⟨dx, vs, e, q, r⟩ := oa'; exact ⟨dx, vs, s _ _ e, q, Reps.same (Reps.avoid av r) s⟩
      | slf _ c ds => obtain ⟨ea, dx, vs, e, q, r⟩ := oa'; exact ⟨ea, dx, vs, s _ _ e, q, Reps.same (Reps.avoid av r) s⟩
theorem ds_asgF {te : TE} {i : Nat} (hi : ∀ o ∈ O, o.1 ≠ i) (hl : i < G.length) (h : DF K E te G O (fun o => kn (G.set i none) ((i, o) :: O)) ke) : DS K E (tAsg te (gName i)) G O kn kr ke := fun S0 H0 Os σ H Ds f st hn hr he =>
  h S0 Os σ H _ st (fun p H1 o ko s np oa => hn _ _ ((p, i, o) :: Os) _ H1 ko ⟨Same.sx s, fun a z => by
    have z' : a ∈ List.map _ _ := z
    rw [List.map_cons, List.mem_cons] at z'
    rcases z' with z' | z'
    · exact .inr (by rw [z']; exact np)
    · exact .inl z'⟩ (st.own_new s np oa hi hl)) (he.so f)
/-- the owned thing at slot j of O is changed by the statement -/
theorem St1.own_set {S0 : Addr → Prop} {Os : OLa} {σ : L2.St} {H : Hp} (st : St1 K S0 G O Os σ H) {j : Nat} {p : Addr} {i : Nat} {o o' : Ow} (hp : Os[j]? = some (p, i, o)) {ho' : HO} (oa : OwnAt K (SO S0 Os) (upd H p ho') p o') (hl : SameX (W Os) H (upd H p ho')) :
    St1 K S0 G (O.set j (i, o')) (Os.set j (p, i, o')) σ (upd H p ho') := by
  have hj : j < Os.length := (List.getElem?_eq_some_iff.mp hp).1
  have em : (Os.set j (p, i, o')).map (·.1) = Os.map (·.1) := by
    rw [List.map_set]
    apply List.ext_getElem?
    intro n
    by_cases hn : j = n
    · subst hn
      rw [List.getElem?_set_self (by rw [List.length_map]; exact hj), List.getElem?_map, hp]; rfl
    · rw [List.getElem?_set_ne hn]
  have w : ∀ a, W (Os.set j (p, i, o')) a ↔ W Os a := fun a => by show a ∈ _ ↔ a ∈ _; rw [em]
  have so : SO S0 (Os.set j (p, i, o')) = SO S0 Os := by
    funext a; exact propext ⟨fun z => z.imp id (w a).mp, fun z => z.imp id (w a).mpr⟩
  have lx : LeX (SO S0 Os) H (upd H p ho') := hl.lex.weak fun a z => .inr z
  have hmem : (p, i, o) ∈ Os := List.mem_of_getElem? hp
  refine ⟨by rw [List.map_set, st.os], by rw [em]; exact st.nd, fun a z => ?_, fun a z => st.ns a ((w a).mp z), st.len, fun n d e => ?_, fun q hq => ?_⟩
  · have na : ¬ W Os a := fun y => st.ns a y z
    have ne : a ≠ p := fun y => na (by rw [y]; exact List.mem_map_of_mem (f := (·.1)) hmem)
    rw [upd_ne ne]; exact st.dom a z
  · obtain ⟨v, e1, r⟩ := st.re n d e
    rw [so]
    exact ⟨v, e1, Rep.mono lx r⟩
  · rw [so]
    obtain ⟨n, hn⟩ := List.mem_iff_getElem?.mp hq
    by_cases hjn : j = n
    · subst hjn
      rw [List.getElem?_set_self hj] at hn
      cases hn
      exact ⟨(st.own _ hmem).1, oa⟩
    · rw [List.getElem?_set_ne hjn] at hn
      have hq' := List.mem_of_getElem? hn
      obtain ⟨hs, ob⟩ := st.own q hq'
      refine ⟨hs, ?_⟩
      have ne : q.1 ≠ p := fun z => hjn (by
        have nd := st.nd
        have h1 : (Os.map (·.1))[j]? = some p := by rw [List.getElem?_map, hp]; rfl
        have h2 : (Os.map (·.1))[n]? = some p := by rw [List.getElem?_map, hn]; exact congrArg some z
        obtain ⟨l1, g1⟩ := List.getElem?_eq_some_iff.mp h1
        obtain ⟨l2, g2⟩ := List.getElem?_eq_some_iff.mp h2
        exact (List.getElem_inj nd).mp (g1.trans g2.symm))
      generalize q.2.2 = ow at ob ⊢
      cases ow with
      | lst ds => obtain ⟨vs, e, r⟩ := ob; exact ⟨vs, by rw [upd_ne ne]; exact e, Reps.mono lx r⟩
      | dic ds => obtain ⟨vs, e, q, r⟩ := ob; exact ⟨vs, by rw [upd_ne ne]; exact e, q, Reps.mono lx r⟩
      | obj c ds => obtain ⟨dx, vs, e, q, r⟩ := ob; exact ⟨dx, vs, by rw [upd_ne ne]; exact e, q, Reps.mono lx r⟩
      | slf _ c ds => obtain ⟨ea, dx, vs, e, q, r⟩ := ob; exact ⟨ea, dx, vs, by rw [upd_ne ne]; exact e, q, Reps.mono lx r⟩
theorem chg_put {Os : OLa} {H : Hp} {p : Addr} {ho : HO} {j i : Nat} {o o' : Ow} (hp : Os[j]? = some (p, i, o)) : Chg Os H (Os.set j (p, i, o')) (upd H p ho) := by
  have hmem : (p, i, o) ∈ Os := List.mem_of_getElem? hp
  refine ⟨fun a n u e => ?_, fun a z => ?_⟩
  · rw [upd_ne fun z => n (by rw [z]; exact List.mem_map_of_mem (f := (·.1)) hmem)]; exact e
  · have z' : a ∈ (Os.set j (p, i, o')).map (·.1) := z
    obtain ⟨q, hq, e⟩ := List.mem_map.mp z'
    rcases List.mem_or_eq_of_mem_set hq with hq | hq
    · exact .inl (e ▸ List.mem_map_of_mem (f := (·.1)) hq)
    · subst hq
      exact .inl (e ▸ List.mem_map_of_mem (f := (·.1)) hmem)
/-- what is owned is given up: it is a datum from now on -/
theorem ds_freeze (j : Nat) {i : Nat} {o : Ow} {t : TS} (ho : O[j]? = some (i, o)) (hl : i < G.length) (h : DS K E t (G.set i (some o.d)) (O.eraseIdx j) kn kr ke) : DS K E t G O kn kr ke := fun S0 H0 Os σ H Ds f st hn hr he => by
  obtain ⟨p, hp, e, hpj⟩ := own_at st.os ho
  have w : ∀ a, W (Os.eraseIdx j) a → W Os a := fun a z => by
    obtain ⟨q, hq, e⟩ := List.mem_map.mp (show a ∈ (Os.eraseIdx j).map (·.1) from z)
    exact e ▸ List.mem_map_of_mem (f := (·.1)) (List.mem_of_mem_eraseIdx hq)
  have so : ∀ a, SO S0 (Os.eraseIdx j) a → SO S0 Os a := fun a z => z.imp id (w a)
  have np : ¬ W (Os.eraseIdx j) p.1 := fun z => by
    obtain ⟨q, hq, e⟩ := List.mem_map.mp (show p.1 ∈ (Os.eraseIdx j).map (·.1) from z)
    obtain ⟨n, hn2, hq2⟩ := List.mem_eraseIdx_iff_getElem?.mp hq
    have h1 : (Os.map (·.1))[j]? = some p.1 := by rw [List.getElem?_map, hpj]; rfl
    have h2 : (Os.map (·.1))[n]? = some p.1 := by rw [List.getElem?_map, hq2]; exact congrArg some e
    obtain ⟨l1, g1⟩ := List.getElem?_eq_some_iff.mp h1
    obtain ⟨l2, g2⟩ := List.getElem?_eq_some_iff.mp h2
    exact hn2 ((List.getElem_inj st.nd).mp (g2.trans g1.symm))
  obtain ⟨hs, oa⟩ := st.own p hp
  have e1 : p.2.1 = i := by rw [e]
  have e2 : p.2.2 = o := by rw [e]
  rw [e1] at hs
  rw [e2] at oa
  have rp : Rep K (SO S0 (Os.eraseIdx j)) H (.ref p.1) o.d := by
    have n1 : ¬ SO S0 (Os.eraseIdx j) p.1 := fun z => z.elim (st.ns _ (List.mem_map_of_mem (f := (·.1)) hp)) np
    cases o with
    | lst ds => obtain ⟨vs, q, r⟩ := oa; exact .lst n1 q (Reps.weak so r)
    | dic ds => obtain ⟨vs, q, q2, r⟩ := oa; exact .dic n1 (.inl q) q2 (Reps.weak so r)
    | obj c ds => obtain ⟨dx, vs, q, q2, r⟩ := oa; exact .obj n1 q q2 (Reps.weak so r)
    | slf _ c ds => obtain ⟨ea, dx, vs, q, q2, r⟩ := oa; exact .obj n1 q q2 (Reps.weak so r)
  refine h S0 H0 (Os.eraseIdx j) σ H Ds ⟨f.same, fun a z => f.new a (w a z), f.dom⟩ ⟨?_, ?_, st.dom, fun a z => st.ns a (w a z), by rw [List.length_set]; exact st.len, fun n d q => ?_, fun q hq => ?_⟩
    (fun G' O' Os' σ' H' k c s => hn G' O' Os' σ' H' k ⟨fun a n u q => c.same a (fun z => n (w a z)) u q, fun a z => (c.new a z).imp (w a) id⟩ s) hr he
  · rw [map_erase, st.os]
  · rw [map_erase]
    exact st.nd.sublist (List.eraseIdx_sublist _ _)
  · by_cases hin : i = n
    · subst hin
      rw [List.getElem?_set_self hl] at q
      cases q
      exact ⟨_, hs, rp⟩
    · rw [List.getElem?_set_ne hin] at q
      obtain ⟨v, q1, r⟩ := st.re n d q
      exact ⟨v, q1, Rep.weak so r⟩
  · obtain ⟨h1, h2⟩ := st.own q (List.mem_of_mem_eraseIdx hq)
    refine ⟨h1, ?_⟩
    generalize q.2.2 = ow at h2 ⊢
    cases ow with
    | lst ds => obtain ⟨vs, e, r⟩ := h2; exact ⟨vs, e, Reps.weak so r⟩
    | dic ds => obtain ⟨vs, e, q, r⟩ := h2; exact ⟨vs, e, q, Reps.weak so r⟩
    | obj c ds => obtain ⟨dx, vs, e, q, r⟩ := h2; exact ⟨dx, vs, e, q, Reps.weak so r⟩
    | slf _ c ds => obtain ⟨ea, dx, vs, e, q, r⟩ := h2; exact ⟨ea, dx, vs, e, q, Reps.weak so r⟩
/-- forgetting -/
theorem DS.imp {t : TS} {kn' : Gm → OL → Prop} {kr' : D → Prop} (h : DS K E t G O kn kr ke) (i : ∀ G O, kn G O → kn' G O) (ir : ∀ d, kr d → kr' d) : DS K E t G O kn' kr' ke := fun S0 H0 Os σ H Ds f st hn hr he =>
  h S0 H0 Os σ H Ds f st (fun G' O' Os' σ' H' k c s => hn G' O' Os' σ' H' (i _ _ k) c s) (fun v H' d k s r => hr v H' d (ir d k) s r) he
end
end Fw

set_option maxHeartbeats 4000000
/-! Loops and comprehensions by data; dicts are locked while they are walked. -/
namespace Fw
open PySem PySem.Spec PyProof.Rows L2

/-! ### locks laid by the reading -/
section
variable {X : Cx} {pins : List (Addr × Obj)} {σ : L2.St} {H : Hp} {s : Shared}
/-- behind e the dict that it gives is locked (or was so) -/
def tLk (td : TE) : TE := fun σ H Q => td σ H fun x H1 => ∃ (d : Addr) (kvs : List (Key × V)), x = .ref d ∧ Rd H1 d (.dK kvs) ∧
  ∀ (od : Obj) (H2 : Hp), ((H1 d = some (.dK kvs) ∧ H2 = upd H1 d (.frz od (.dK kvs))) ∨ (H1 d = some (.frz od (.dK kvs)) ∧ H2 = H1)) → Q x H2
theorem pe_lk {e : Expr} {td : TE} (h : PE X e td) : PE X e (tLk td) := by
  refine ⟨fun pins s σ H Q I q => ?_⟩
  refine thn (h.run pins s σ H _ I q) fun v s1 ⟨x, H1, I1, r1, d, kvs, ex, rd, k⟩ => ?_
  rcases rd with rd | ⟨o, rd⟩
  · obtain ⟨od, I2⟩ := I1.lock rd trivial
    exact ⟨x, _, I2, r1, k od _ (.inl ⟨rd, rfl⟩)⟩
  · exact ⟨x, H1, I1, r1, k o H1 (.inr ⟨rd, rfl⟩)⟩
/-- a lock that was laid since is taken away -/
def Ulk (H H2 H3 : Hp) : Prop := H3 = H2 ∨ ∃ (d : Addr) (od : Obj) (kvs : List (Key × V)), H2 d = some (.frz od (.dK kvs)) ∧ (∀ o u, H d ≠ some (.frz o u)) ∧ H3 = upd H2 d (.dK kvs)
theorem Inv.ulk {σ' : L2.St} {s' : Shared} {H2 H3 : Hp} (I : Inv X pins σ H s) (I2 : Inv X pins σ' H2 s') (u : Ulk H H2 H3) : Inv X pins σ' H3 s' := by
  rcases u with e | ⟨d, od, kvs, e, n, e3⟩
  · subst e; exact I2
  · subst e3
    exact I2.unlock e fun o' u' z => n o' u' (I.base.frzs _ _ _ z)
def tUnlE (t : TE) : TE := fun σ H Q => t σ H fun v H2 => ∃ H3, Ulk H H2 H3 ∧ Q v H3
theorem pe_unl {e : Expr} {t : TE} (h : PE X e t) : PE X e (tUnlE t) := by
  refine ⟨fun pins s σ H Q I q => ?_⟩
  refine thn (h.run pins s σ H _ I q) fun v s1 ⟨x, H2, I2, r1, H3, u, k⟩ => ?_
  exact ⟨x, H3, Inv.ulk I I2 u, r1, k⟩
def tUnlS (t : TS) : TS := fun D σ H => t ⟨fun σ' H' => ∃ H3, Ulk H H' H3 ∧ D.nx σ' H3, fun v H' => ∃ H3, Ulk H H' H3 ∧ D.rt v H3, fun σ' H' => ∃ H3, Ulk H H' H3 ∧ D.bk σ' H3, fun σ' H' => ∃ H3, Ulk H H' H3 ∧ D.ct σ' H3⟩ σ H
theorem ps_unl {st : Stmt} {t : TS} (h : PS X st t) : PS X st (tUnlS t) := by
  refine ⟨fun pins s σ H D I q => ?_⟩
  refine thn (h.run pins s σ H _ I q) fun f s1 q => ?_
  cases f with
  | next => obtain ⟨σ', H', I2, H3, u, k⟩ := q; exact ⟨σ', H3, Inv.ulk I I2 u, k⟩
  | brk => obtain ⟨σ', H', I2, H3, u, k⟩ := q; exact ⟨σ', H3, Inv.ulk I I2 u, k⟩
  | cont => obtain ⟨σ', H', I2, H3, u, k⟩ := q; exact ⟨σ', H3, Inv.ulk I I2 u, k⟩
  | ret v => obtain ⟨x, σ', H', I2, r, H3, u, k⟩ := q; exact ⟨x, σ', H3, Inv.ulk I I2 u, r, k⟩
end

section
variable {K : PySem.W.Frag} {E : XK} {G : Gm} {O : OL} {ke : Xd → Prop}
/-- H1: H, one dict of no owner's locked -/
def Lkd (S : Addr → Prop) (H H1 : Hp) : Prop := H1 = H ∨ ∃ (d : Addr) (od : Obj) (kvs : List (Key × V)), ¬ S d ∧ H d = some (.dK kvs) ∧ H1 = upd H d (.frz od (.dK kvs))
theorem Lkd.lex {S T : Addr → Prop} {H H1 : Hp} (l : Lkd S H H1) : LeX T H H1 := by
  rcases l with e | ⟨d, od, kvs, n, hd, e⟩
  · subst e; exact LeX.rfl'
  · subst e
    intro a _
    by_cases h : a = d
    · subst h
      refine ⟨fun u su q => ?_, fun k r => ?_⟩
      · rw [hd] at q; cases q; exact su.elim
      · rcases r with r | ⟨o, r⟩
        · rw [hd] at r; cases r; exact .inr ⟨od, upd_same⟩
        · rw [hd] at r; cases r
    · refine ⟨fun u su q => by rw [upd_ne h]; exact q, fun k r => ?_⟩
      rcases r with r | ⟨o, r⟩
      · exact .inl (by rw [upd_ne h]; exact r)
      · exact .inr ⟨o, by rw [upd_ne h]; exact r⟩
theorem Lkd.noneIff {S : Addr → Prop} {H H1 : Hp} (l : Lkd S H H1) {a : Addr} : H1 a = none ↔ H a = none := by
  rcases l with e | ⟨d, od, kvs, n, hd, e⟩
  · subst e; exact Iff.rfl
  · subst e
    by_cases h : a = d
    · subst h; rw [upd_same, hd]; exact ⟨fun z => (nomatch z), fun z => (nomatch z)⟩
    · rw [upd_ne h]
theorem Lkd.at_ {S : Addr → Prop} {H H1 : Hp} (l : Lkd S H H1) {a : Addr} (s : S a) : H1 a = H a := by
  rcases l with e | ⟨d, od, kvs, n, hd, e⟩
  · rw [e]
  · subst e
    exact upd_ne fun z => n (z ▸ s)
/-- what comes of it when the lock is taken away -/
def unl (H H1 H2 H3 : Hp) : Prop := (H1 = H ∧ H3 = H2) ∨ ∃ (d : Addr) (od : Obj) (kvs : List (Key × V)), H d = some (.dK kvs) ∧ H1 = upd H d (.frz od (.dK kvs)) ∧ H3 = upd H2 d (.dK kvs)
theorem Lkd.unl {S T : Addr → Prop} {H H1 H2 : Hp} (l : Lkd S H H1) (hT : ∀ a, T a → S a ∨ H1 a = none) (s : SameX T H1 H2) : ∃ H3, Fw.unl H H1 H2 H3 ∧ Ulk H H2 H3 ∧ SameX T H H3 ∧ LeX (fun _ => False) H2 H3 ∧ (∀ a, T a → H3 a = H2 a) := by
  rcases l with e | ⟨d, od, kvs, n, hd, e⟩
  · subst e
    exact ⟨H2, .inl ⟨rfl, rfl⟩, .inl rfl, s, LeX.rfl', fun _ _ => rfl⟩
  · have e1 : H1 d = some (.frz od (.dK kvs)) := by rw [e]; exact upd_same
    have nT : ¬ T d := fun z => (hT d z).elim n fun q => by rw [e1] at q; cases q
    have e2 := s d nT _ e1
    refine ⟨upd H2 d (.dK kvs), .inr ⟨d, od, kvs, hd, e, rfl⟩, .inr ⟨d, od, kvs, e2, (fun o u z => by rw [hd] at z; cases z), rfl⟩, fun a na u q => ?_, fun a _ => ?_, fun a ta => upd_ne fun z => nT (z ▸ ta)⟩
    · by_cases h : a = d
      · subst h; rw [hd] at q; cases q; exact upd_same
      · rw [upd_ne h]
        exact s a na u (by rw [e, upd_ne h]; exact q)
    · by_cases h : a = d
      · subst h
        refine ⟨fun u su q => ?_, fun k r => ?_⟩
        · rw [e2] at q; cases q; exact su.elim
        · rcases r with r | ⟨o, r⟩
          · rw [e2] at r; cases r
          · rw [e2] at r; cases r; exact .inl upd_same
      · refine ⟨fun u su q => by rw [upd_ne h]; exact q, fun k r => ?_⟩
        rcases r with r | ⟨o, r⟩
        · exact .inl (by rw [upd_ne h]; exact r)
        · exact .inr ⟨o, by rw [upd_ne h]; exact r⟩
theorem OwnAt.lex {S : Addr → Prop} {H H1 : Hp} {a : Addr} {o : Ow} (h : OwnAt K S H a o) (l : LeX S H H1) (e : H1 a = H a) : OwnAt K S H1 a o := by
  cases o with
  | lst ds => obtain ⟨vs, q, r⟩ := h; exact ⟨vs, e.trans q, Reps.mono l r⟩
  | dic ds => obtain ⟨vs, q, q2, r⟩ := h; exact ⟨vs, e.trans q, q2, Reps.mono l r⟩
  | obj c ds => obtain ⟨dx, vs, q, q2, r⟩ := h; exact ⟨dx, vs, e.trans q, q2, Reps.mono l r⟩
  | slf _ c ds => obtain ⟨ea, dx, vs, q, q2, r⟩ := h; exact ⟨ea, dx, vs, e.trans q, q2, Reps.mono l r⟩
theorem St1.lex {S0 : Addr → Prop} {Os : OLa} {σ : L2.St} {H H1 : Hp} (h : St1 K S0 G O Os σ H) (l : LeX (SO S0 Os) H H1) (e : ∀ a, SO S0 Os a → H1 a = H a) : St1 K S0 G O Os σ H1 where
  os := h.os
  nd := h.nd
  dom := fun a ha => by rw [e a (.inl ha)]; exact h.dom a ha
  ns := h.ns
  len := h.len
  re := fun i d q => let ⟨v, e1, r⟩ := h.re i d q; ⟨v, e1, Rep.mono l r⟩
  own := fun p hp => ⟨(h.own p hp).1, (h.own p hp).2.lex l (e _ (.inr (List.mem_map_of_mem (f := (·.1)) hp)))⟩

/-! ### what is walked -/
def Wk (K : PySem.W.Frag) (S : Addr → Prop) (J : It) (H1 : Hp) (xs : List D) : Prop := ∀ (S' : Addr → Prop) (H' : Hp), (∀ a, S' a → S a ∨ H1 a = none) → (∀ a, S' a → H' a ≠ none) → SameX S H1 H' → ∀ i,
  (i < xs.length → J.go i H') ∧ (xs.length ≤ i → J.stop i H') ∧ ∀ x H'', i < xs.length → J.yld i H' x H'' → ∃ d, xs[i]? = some d ∧ Same H' H'' ∧ Rep K S' H'' x d
def DI (K : PySem.W.Frag) (E : XK) (wi : TI) (G : Gm) (O : OL) (k : List D → Prop) (ke : Xd → Prop) : Prop := ∀ (S0 : Addr → Prop) (Os : OLa) (σ : L2.St) (H : Hp) (R : It → Hp → Prop), St1 K S0 G O Os σ H →
  (∀ J H1 xs, k xs → Same H H1 → Wk K (SO S0 Os) J H1 xs → R J H1) → EOk K (SO S0 Os) H E ke → wi σ H R
/-- .. a dict of the walk locked -/
def DIL (K : PySem.W.Frag) (E : XK) (wi : TI) (G : Gm) (O : OL) (k : List D → Prop) (ke : Xd → Prop) : Prop := ∀ (S0 : Addr → Prop) (Os : OLa) (σ : L2.St) (H : Hp) (R : It → Hp → Prop), St1 K S0 G O Os σ H →
  (∀ J Hm H1 xs, k xs → Same H Hm → Lkd (SO S0 Os) Hm H1 → Wk K (SO S0 Os) J H1 xs → R J H1) → EOk K (SO S0 Os) H E ke → wi σ H R
theorem rep_walk {S S' : Addr → Prop} {H1 H' : Hp} {v : V} {d : D} (r : Rep K S H1 v d) (hS : ∀ a, S' a → S a ∨ H1 a = none) (s : SameX S H1 H') : Rep K S' H' v d := by
  have r1 : Rep K (fun a => S a ∨ S' a) H1 v d := Rep.avoid (fun a z => z.elim .inl (hS a)) r
  exact Rep.weak (fun a z => .inr z) (Rep.mono (s.lex.weak fun a z => .inl z) r1)
theorem wk_list {S : Addr → Prop} {H1 : Hp} {a : Addr} {vs : List V} {xs : List D} (n : ¬ S a) (h : H1 a = some (.lst vs)) (r : Reps K S H1 vs xs) : Wk K S (Itl K a) H1 xs := fun S' H' hS dm s i => by
  have e := s a n _ h
  have q : SqL K H' a vs := SqL.of e
  refine ⟨fun hi => ⟨vs, vs[i]'(by rw [r.length]; exact hi), q, List.getElem?_eq_getElem _⟩, fun hi => ⟨vs, q, by rw [r.length]; exact hi⟩, fun x H'' _ ⟨e2, y⟩ => ?_⟩
  subst e2
  obtain ⟨d, e3, rd⟩ := r.get (y vs q)
  exact ⟨d, e3, Same.refl _, rep_walk rd hS s⟩
theorem di_list {tl : TE} {k : List D → Prop} (h : DT K E tl G O (fun a => ∃ xs, a = .lst xs ∧ k xs) ke) : DI K E (iList K tl) G O k ke := fun S0 Os σ H R st hR he =>
  h.bind st he fun x H1 a ⟨xs, e, kx⟩ s1 st1 he1 rx => by
    subst e
    cases rx with
    | lst n hh r => exact ⟨_, rfl, ⟨_, SqL.of hh⟩, hR _ H1 xs kx s1 (wk_list n hh r)⟩
def rngD (lo : Int) (n : Nat) : List D := (List.range n).map fun i => D.int (lo + (i : Nat))
theorem rngD_get {lo : Int} {n i : Nat} (h : i < n) : (rngD lo n)[i]? = some (.int (lo + (i : Nat))) := by
  unfold rngD
  rw [List.getElem?_map, List.getElem?_range h]; rfl
theorem rngD_len {lo : Int} {n : Nat} : (rngD lo n).length = n := by unfold rngD; simp
theorem wk_range {S : Addr → Prop} {H1 : Hp} {lo : Int} {n : Nat} : Wk K S (Itr lo n) H1 (rngD lo n) := fun S' H' hS dm s i => by
  refine ⟨fun hi => by rw [rngD_len] at hi; exact hi, fun hi => by rw [rngD_len] at hi; exact hi, fun x H'' hi y => ?_⟩
  obtain ⟨e1, e2⟩ := y
  subst e1 e2
  rw [rngD_len] at hi
  exact ⟨_, rngD_get hi, Same.refl _, .int _⟩
theorem di_range1 {ta : TA} {k : List D → Prop} (h : DA K E ta G O (fun ds => ∃ j : Int, ds = [.int j] ∧ -(2 ^ 62) ≤ j ∧ j < 2 ^ 62 ∧ k (rngD 0 j.toNat)) ke) : DI K E (iRng1 ta) G O k ke := fun S0 Os σ H R st hR he =>
  h.bind st he fun xs H1 ds ⟨j, e, l1, l2, kx⟩ s1 st1 he1 rx => by
    subst e
    cases rx with | cons h t => cases h; cases t; exact ⟨j, rfl, l1, l2, hR _ H1 _ kx s1 wk_range⟩
theorem di_range2 {ta : TA} {k : List D → Prop} (h : DA K E ta G O (fun ds => ∃ i j : Int, ds = [.int i, .int j] ∧ (-(2 ^ 62) ≤ i ∧ i < 2 ^ 62 ∧ -(2 ^ 62) ≤ j ∧ j < 2 ^ 62) ∧ k (rngD i (j - i).toNat)) ke) : DI K E (iRng2 ta) G O k ke := fun S0 Os σ H R st hR he =>
  h.bind st he fun xs H1 ds ⟨i, j, e, l, kx⟩ s1 st1 he1 rx => by
    subst e
    cases rx with | cons h t => cases h; cases t with | cons h t => cases h; cases t; exact ⟨i, j, rfl, l, hR _ H1 _ kx s1 wk_range⟩
/-- range with a step -/
def rngC (lo c : Int) (n : Nat) : List D := (List.range n).map fun i => D.int (lo + (i : Nat) * c)
theorem rngC_get {lo c : Int} {n i : Nat} (h : i < n) : (rngC lo c n)[i]? = some (.int (lo + (i : Nat) * c)) := by
  unfold rngC
  rw [List.getElem?_map, List.getElem?_range h]; rfl
theorem rngC_len {lo c : Int} {n : Nat} : (rngC lo c n).length = n := by unfold rngC; simp
theorem wk_rangeC {S : Addr → Prop} {H1 : Hp} {lo c : Int} {n : Nat} : Wk K S (Itc lo c n) H1 (rngC lo c n) := fun S' H' hS dm s i => by
  refine ⟨fun hi => by rw [rngC_len] at hi; exact hi, fun hi => by rw [rngC_len] at hi; exact hi, fun x H'' hi y => ?_⟩
  obtain ⟨e1, e2⟩ := y
  subst e1 e2
  rw [rngC_len] at hi
  exact ⟨_, rngC_get hi, Same.refl _, .int _⟩
theorem di_range3 {ta : TA} {k : List D → Prop} (h : DA K E ta G O (fun ds => ∃ (i j c : Int) (n : Nat), ds = [.int i, .int j, .int c] ∧ RgC i j c n ∧ k (rngC i c n)) ke) : DI K E (iRng3 ta) G O k ke := fun S0 Os σ H R st hR he =>
  h.bind st he fun xs H1 ds ⟨i, j, c, n, e, l, kx⟩ s1 st1 he1 rx => by
    subst e
    cases rx with | cons h t => cases h; cases t with | cons h t => cases h; cases t with | cons h t => cases h; cases t; exact ⟨i, j, c, n, rfl, l, hR _ H1 _ kx s1 wk_rangeC⟩
/-- a text, sign by sign -/
def signs (x : Str) : List D := x.cps.toList.map fun c => D.str ⟨#[c]⟩
theorem wk_str {S : Addr → Prop} {H1 : Hp} {x : Str} : Wk K S (Its x) H1 (signs x) := fun S' H' hS dm s i => by
  have hl : (signs x).length = x.cps.size := by unfold signs; simp
  refine ⟨fun hi => by rw [hl] at hi; exact hi, fun hi => by rw [hl] at hi; exact hi, fun v H'' hi y => ?_⟩
  obtain ⟨e1, c, e2, e3⟩ := y
  subst e1 e3
  refine ⟨.str ⟨#[c]⟩, ?_, Same.refl _, .str _⟩
  unfold signs
  rw [List.getElem?_map, Array.getElem?_toList, e2]; rfl
theorem di_str {te : TE} {k : List D → Prop} (h : DT K E te G O (fun a => ∃ x, a = .str x ∧ k (signs x)) ke) : DI K E (iStr te) G O k ke := fun S0 Os σ H R st hR he =>
  h.bind st he fun v H1 a ⟨x, e, kx⟩ s1 st1 he1 rx => by
    subst e
    cases rx
    exact ⟨x, rfl, hR _ H1 _ kx s1 wk_str⟩
theorem reps_pair {S : Addr → Prop} {H : Hp} {i : Nat} {key : Key} {v : V} {kvs : List (Key × V)} {ds : List (Key × D)} (e : kvs.map Prod.fst = ds.map Prod.fst) (r : Reps K S H (kvs.map Prod.snd) (ds.map Prod.snd)) (h : kvs[i]? = some (key, v)) : ∃ d, ds[i]? = some (key, d) ∧ Rep K S H v d := by
  have h1 : (kvs.map Prod.snd)[i]? = some v := by rw [List.getElem?_map, h]; rfl
  obtain ⟨d, hd, rd⟩ := r.get h1
  have h2 : (ds.map Prod.fst)[i]? = some key := by rw [← e, List.getElem?_map, h]; rfl
  rw [List.getElem?_map] at hd h2
  cases q : ds[i]? with
  | none => rw [q] at hd; cases hd
  | some p =>
    rw [q] at hd h2
    obtain ⟨p1, p2⟩ := p
    cases hd; cases h2
    exact ⟨_, rfl, rd⟩
theorem len_pair {kvs : List (Key × V)} {ds : List (Key × D)} (e : kvs.map Prod.fst = ds.map Prod.fst) : kvs.length = ds.length := by
  have := congrArg List.length e
  simpa using this
/-- the dict behind tLk -/
theorem lk_dic {S : Addr → Prop} {td : TE} {S0 : Addr → Prop} {Os : OLa} {σ : L2.St} {H : Hp} {Q : VK} {k : List (Key × D) → Prop} (h : DT K E td G O (fun a => ∃ kvs, a = .dic kvs ∧ k kvs) ke) (st : St1 K S0 G O Os σ H) (he : EOk K (SO S0 Os) H E ke)
    (hq : ∀ (d : Addr) (od : Obj) (kvs : List (Key × V)) (ds : List (Key × D)) (Hm H1 : Hp), k ds → Same H Hm → Lkd (SO S0 Os) Hm H1 → ¬ SO S0 Os d → H1 d = some (.frz od (.dK kvs)) → kvs.map Prod.fst = ds.map Prod.fst → Reps K (SO S0 Os) H1 (kvs.map Prod.snd) (ds.map Prod.snd) → Q (.ref d) H1) :
    tLk td σ H Q :=
  h.bind st he fun x H1 a ⟨ds, e, kx⟩ s1 st1 he1 rx => by
    subst e
    cases rx with
    | dic n hh ek r =>
      refine ⟨_, _, rfl, hh, fun od H2 hl => ?_⟩
      have lk : Lkd (SO S0 Os) H1 H2 := by
        rcases hl with ⟨h1, h2⟩ | ⟨_, h2⟩
        · exact .inr ⟨_, od, _, n, h1, h2⟩
        · exact .inl h2
      refine hq _ od _ ds H1 H2 kx s1 lk n ?_ ek (Reps.mono lk.lex r)
      rcases hl with ⟨_, h2⟩ | ⟨h1, h2⟩
      · rw [h2]; exact upd_same
      · rw [h2]; exact h1
theorem di_items {td : TE} {k : List D → Prop} (h : DT K E td G O (fun a => ∃ kvs : List (Key × D), a = .dic kvs ∧ k (kvs.map fun p => D.tup [kD p.1, p.2])) ke) : DIL K E (iItems (tLk td)) G O k ke := fun S0 Os σ H R st hR he =>
  lk_dic (S := SO S0 Os) h st he fun d od kvs ds Hm H1 kx s1 lk n hd ek r => by
    refine ⟨d, od, kvs, rfl, hd, hR _ Hm H1 _ kx s1 lk fun S' H' hS dm s i => ?_⟩
    have e := s d n _ hd
    have hl : (ds.map fun p => D.tup [kD p.1, p.2]).length = kvs.length := by rw [List.length_map, len_pair ek]
    refine ⟨fun hi => ⟨e, by rw [← hl]; exact hi⟩, fun hi => ⟨e, by rw [← hl]; exact hi⟩, fun x H'' _ y => ?_⟩
    obtain ⟨T, key, v, h1, h2, h3, h4⟩ := y
    subst h2 h4
    obtain ⟨d', hd', rd⟩ := reps_pair ek r h1
    refine ⟨D.tup [kD key, d'], by rw [List.getElem?_map, hd']; rfl, Same.put h3, ?_⟩
    have nT : ¬ S' T := fun z => dm T z h3
    exact .tup nT upd_same (.cons (kD_rep _) (.cons (Rep.same (rep_walk rd hS s) (Same.put h3)) .nil))
theorem di_values {td : TE} {k : List D → Prop} (h : DT K E td G O (fun a => ∃ kvs : List (Key × D), a = .dic kvs ∧ k (kvs.map fun p => p.2)) ke) : DIL K E (iVals (tLk td)) G O k ke := fun S0 Os σ H R st hR he =>
  lk_dic (S := SO S0 Os) h st he fun d od kvs ds Hm H1 kx s1 lk n hd ek r => by
    refine ⟨d, od, kvs, rfl, hd, hR _ Hm H1 _ kx s1 lk fun S' H' hS dm s i => ?_⟩
    have e := s d n _ hd
    have hl : (ds.map fun p => p.2).length = kvs.length := by rw [List.length_map, len_pair ek]
    refine ⟨fun hi => ⟨e, by rw [← hl]; exact hi⟩, fun hi => ⟨e, by rw [← hl]; exact hi⟩, fun x H'' _ y => ?_⟩
    obtain ⟨h1, key, h2⟩ := y
    subst h1
    obtain ⟨d', hd', rd⟩ := reps_pair ek r h2
    exact ⟨d', by rw [List.getElem?_map, hd']; rfl, Same.refl _, rep_walk rd hS s⟩
theorem di_keys {td : TE} {k : List D → Prop} (h : DT K E td G O (fun a => ∃ kvs : List (Key × D), a = .dic kvs ∧ k (kvs.map fun p => kD p.1)) ke) : DIL K E (iKeys (tLk td)) G O k ke := fun S0 Os σ H R st hR he =>
  lk_dic (S := SO S0 Os) h st he fun d od kvs ds Hm H1 kx s1 lk n hd ek r => by
    refine ⟨d, od, rfl, .inl ⟨kvs, hd, hR _ Hm H1 _ kx s1 lk fun S' H' hS dm s i => ?_⟩⟩
    have e := s d n _ hd
    have hl : (ds.map fun p => kD p.1).length = kvs.length := by rw [List.length_map, len_pair ek]
    refine ⟨fun hi => ⟨e, by rw [← hl]; exact hi⟩, fun hi => ⟨e, by rw [← hl]; exact hi⟩, fun x H'' _ y => ?_⟩
    obtain ⟨h1, key, v, h2, h3⟩ := y
    subst h1 h3
    obtain ⟨d', hd', rd⟩ := reps_pair ek r h2
    exact ⟨kD key, by rw [List.getElem?_map, hd']; rfl, Same.refl _, kD_rep _⟩
theorem di_keysM {td : TE} {k : List D → Prop} (h : DT K E td G O (fun a => ∃ kvs : List (Key × D), a = .dic kvs ∧ k (kvs.map fun p => kD p.1)) ke) : DIL K E (iKeysM (tLk td)) G O k ke := fun S0 Os σ H R st hR he =>
  lk_dic (S := SO S0 Os) h st he fun d od kvs ds Hm H1 kx s1 lk n hd ek r => by
    refine ⟨d, od, kvs, rfl, hd, hR _ Hm H1 _ kx s1 lk fun S' H' hS dm s i => ?_⟩
    have e := s d n _ hd
    have hl : (ds.map fun p => kD p.1).length = kvs.length := by rw [List.length_map, len_pair ek]
    refine ⟨fun hi => ⟨e, by rw [← hl]; exact hi⟩, fun hi => ⟨e, by rw [← hl]; exact hi⟩, fun x H'' _ y => ?_⟩
    obtain ⟨h1, key, v, h2, h3⟩ := y
    subst h1 h3
    obtain ⟨d', hd', rd⟩ := reps_pair ek r h2
    exact ⟨kD key, by rw [List.getElem?_map, hd']; rfl, Same.refl _, kD_rep _⟩
/-- enumerate -/
def enumD (xs : List D) : List D := (List.range xs.length).map fun i => D.tup [.int (i : Nat), xs.getD i .non]
theorem di_enum {ta : TA} {k : List D → Prop} (h : DA K E ta G O (fun ds => ∃ xs, ds = [.lst xs] ∧ k (enumD xs)) ke) : DI K E (iEnum K ta) G O k ke := fun S0 Os σ H R st hR he =>
  h.bind st he fun vs H1 ds ⟨xs, e, kx⟩ s1 st1 he1 rx => by
    subst e
    cases rx with
    | cons h t =>
      cases t
      cases h with
      | lst n hh r =>
        rename_i a us
        have hl : (enumD xs).length = xs.length := by unfold enumD; simp
        refine ⟨_, _, rfl, SqL.of hh, hR _ H1 _ kx s1 fun S' H' hS dm s i => ?_⟩
        have e := s a n _ hh
        have q : SqL K H' a us := SqL.of e
        refine ⟨fun hi => ?_, fun hi => ?_, fun x H'' hi y => ?_⟩
        · exact ⟨us, us[i]'(by rw [r.length, ← hl]; exact hi), q, List.getElem?_eq_getElem _⟩
        · exact ⟨us, q, by rw [r.length, ← hl]; exact hi⟩
        · obtain ⟨T, z, e1, e2, e3, e4⟩ := y
          subst e1 e3
          obtain ⟨d, hd, rd⟩ := r.get (e4 us q)
          refine ⟨D.tup [.int (i : Nat), d], ?_, Same.put e2, ?_⟩
          · have hi' : i < xs.length := by rw [← hl]; exact hi
            unfold enumD
            rw [List.getElem?_map, List.getElem?_range hi']
            show some (D.tup [.int (i : Nat), xs.getD i .non]) = _
            rw [List.getD_eq_getElem?_getD, hd]; rfl
          · exact .tup (fun z => dm T z e2) upd_same (.cons (.int _) (.cons (Rep.same (rep_walk rd hS s) (Same.put e2)) .nil))
/-! ### targets -/
def DG (K : PySem.W.Frag) (g : TG) (is : List Nat) (d : D) (G : Gm) (O : OL) (k : Gm → Prop) : Prop := ∀ (S0 : Addr → Prop) (Os : OLa) (σ : L2.St) (H : Hp) (v : V) (Q : L2.St → Hp → Prop), St1 K S0 G O Os σ H → Rep K (SO S0 Os) H v d →
  (∀ G' σ', k G' → St1 K S0 G' O Os σ' H → σ'.length = σ.length → (∀ n, n ∉ is → σ'[n]? = σ[n]?) → Q σ' H) → g v σ H Q
def DGs (K : PySem.W.Frag) (g : TGs) (is : List Nat) (ds : List D) (G : Gm) (O : OL) (k : Gm → Prop) : Prop := ∀ (S0 : Addr → Prop) (Os : OLa) (σ : L2.St) (H : Hp) (vs : List V) (Q : L2.St → Hp → Prop), St1 K S0 G O Os σ H → Reps K (SO S0 Os) H vs ds →
  (∀ G' σ', k G' → St1 K S0 G' O Os σ' H → σ'.length = σ.length → (∀ n, n ∉ is → σ'[n]? = σ[n]?) → Q σ' H) → g vs σ H Q
theorem dg_name {i : Nat} {d : D} {k : Gm → Prop} (hi : ∀ o ∈ O, o.1 ≠ i) (h : k (G.set i (some d))) : DG K (gName i) [i] d G O k := fun S0 Os σ H v Q st r hq =>
  hq _ _ h (st.set r hi) (List.length_set ..) fun n hn => List.getElem?_set_ne fun z => hn (by rw [z]; exact List.mem_singleton.mpr rfl)
theorem dgs_nil {k : Gm → Prop} (h : k G) : DGs K gNil [] [] G O k := fun S0 Os σ H vs Q st r hq => by
  cases r
  exact ⟨rfl, hq G σ h st rfl fun _ _ => rfl⟩
theorem dgs_cons {t : TG} {u : TGs} {is js : List Nat} {d : D} {ds : List D} {k : Gm → Prop} (h : DG K t is d G O (fun G1 => DGs K u js ds G1 O k)) : DGs K (gCons t u) (is ++ js) (d :: ds) G O k := fun S0 Os σ H vs Q st r hq => by
  cases r with
  | cons h1 h2 =>
    refine ⟨_, _, rfl, h S0 Os σ H _ _ st h1 fun G1 σ1 k1 st1 l1 e1 => k1 S0 Os σ1 H _ Q st1 h2 fun G2 σ2 k2 st2 l2 e2 => hq G2 σ2 k2 st2 (l2.trans l1) fun n hn => ?_⟩
    rw [e2 n (fun z => hn (List.mem_append_right _ z)), e1 n (fun z => hn (List.mem_append_left _ z))]
theorem dg_tup {n : Nat} {t : TGs} {is : List Nat} {ds : List D} {k : Gm → Prop} (hl : ds.length = n) (h : DGs K t is ds G O k) : DG K (gTup K n t) is (.tup ds) G O k := fun S0 Os σ H v Q st r hq => by
  cases r with
  | tup nn hh rr => exact ⟨_, _, rfl, SqT.of hh, by rw [rr.length]; exact hl, h S0 Os σ H _ Q st rr hq⟩

/-! ### comprehensions -/
def wipeG (G : Gm) : List Nat → Gm
  | [] => G
  | v :: vs => (wipeG G vs).set v none
theorem wipeG_len (G : Gm) : ∀ vs : List Nat, (wipeG G vs).length = G.length
  | [] => rfl
  | v :: vs => by unfold wipeG; rw [List.length_set, wipeG_len G vs]
theorem wipe_get {σ : L2.St} {n : Nat} : ∀ {vs : List Nat}, n ∉ vs → (wipe σ vs)[n]? = σ[n]?
  | [], _ => rfl
  | v :: vs, h => by
    unfold wipe
    rw [List.getElem?_set_ne fun z => h (by rw [z]; exact List.mem_cons_self), wipe_get fun z => h (List.mem_cons_of_mem _ z)]
theorem wipe_in {σ : L2.St} {n : Nat} (hn : n < σ.length) : ∀ {vs : List Nat}, n ∈ vs → (wipe σ vs)[n]? = some none
  | v :: vs, h => by
    unfold wipe
    by_cases e : v = n
    · subst e; rw [List.getElem?_set_self (by rw [wipe_length]; exact hn)]
    · rw [List.getElem?_set_ne e]
      exact wipe_in hn ((List.mem_cons.mp h).resolve_left fun z => e z.symm)
theorem wipeG_some {n : Nat} {d : D} : ∀ {vs : List Nat}, (wipeG G vs)[n]? = some (some d) → G[n]? = some (some d) ∧ n ∉ vs
  | [], h => ⟨h, by simp⟩
  | v :: vs, h => by
    unfold wipeG at h
    by_cases hi : v = n
    · subst hi
      by_cases hv : v < (wipeG G vs).length
      · rw [List.getElem?_set_self hv] at h; cases h
      · rw [List.getElem?_eq_none (by simpa using hv)] at h; cases h
    · rw [List.getElem?_set_ne hi] at h
      obtain ⟨h1, h2⟩ := wipeG_some h
      exact ⟨h1, by simp only [List.mem_cons, not_or]; exact ⟨fun e => hi e.symm, h2⟩⟩
theorem wipe_same {σ τ : L2.St} {vs is : List Nat} (hs : ∀ i ∈ is, i ∈ vs) (hl : τ.length = σ.length) (h : ∀ n, n ∉ is → τ[n]? = (wipe σ vs)[n]?) : wipe τ vs = wipe σ vs := by
  apply List.ext_getElem?
  intro n
  by_cases hn : n ∈ vs
  · by_cases hlt : n < σ.length
    · rw [wipe_in (by rw [hl]; exact hlt) hn, wipe_in hlt hn]
    · rw [List.getElem?_eq_none (by rw [wipe_length, hl]; omega), List.getElem?_eq_none (by rw [wipe_length]; omega)]
  · rw [wipe_get hn, h n fun z => hn (hs n z)]
theorem St1.wipe {S0 : Addr → Prop} {Os : OLa} {σ : L2.St} {H : Hp} (h : St1 K S0 G O Os σ H) {vs : List Nat} (hv : ∀ o ∈ O, o.1 ∉ vs) : St1 K S0 (wipeG G vs) O Os (L2.wipe σ vs) H where
  os := h.os
  nd := h.nd
  dom := h.dom
  ns := h.ns
  len := by rw [wipe_length, wipeG_len]; exact h.len
  re := fun i d e => by
    obtain ⟨e1, e2⟩ := wipeG_some e
    obtain ⟨v, e3, r⟩ := h.re i d e1
    exact ⟨v, by rw [wipe_get e2]; exact e3, r⟩
  own := fun p hp => by
    obtain ⟨h1, h2⟩ := h.own p hp
    refine ⟨?_, h2⟩
    rw [wipe_get (hv p.2 (by rw [← h.os]; exact List.mem_map_of_mem hp))]
    exact h1
/-- what a comprehension makes of the items -/
inductive LcR (R : D → Option D → Prop) : List D → List D → Prop where
  | nil : LcR R [] []
  | keep {x y : D} {xs ys : List D} : R x (some y) → LcR R xs ys → LcR R (x :: xs) (y :: ys)
  | skip {x : D} {xs ys : List D} : R x none → LcR R xs ys → LcR R (x :: xs) ys
theorem LcR.snoc {R : D → Option D → Prop} {xs ys : List D} {x y : D} (h : LcR R xs ys) (r : R x (some y)) : LcR R (xs ++ [x]) (ys ++ [y]) := by
  induction h with
  | nil => exact .keep r .nil
  | keep q _ ih => exact .keep q ih
  | skip q _ ih => exact .skip q ih
theorem LcR.snoc0 {R : D → Option D → Prop} {xs ys : List D} {x : D} (h : LcR R xs ys) (r : R x none) : LcR R (xs ++ [x]) ys := by
  induction h with
  | nil => exact .skip r .nil
  | keep q _ ih => exact .keep q ih
  | skip q _ ih => exact .skip q ih
theorem LcR.le {R : D → Option D → Prop} {xs ys : List D} (h : LcR R xs ys) : ys.length ≤ xs.length := by
  induction h with
  | nil => exact Nat.le_refl _
  | keep q _ ih => exact Nat.succ_le_succ ih
  | skip q _ ih => exact Nat.le_succ_of_le ih
theorem LcR.map {R : D → Option D → Prop} {f : D → D} : ∀ {xs ys : List D}, LcR R xs ys → (∀ x ∈ xs, ∀ o, R x o → o = some (f x)) → ys = xs.map f
  | _, _, .nil, _ => rfl
  | _, _, .keep r t, h => by
    have e := h _ List.mem_cons_self _ r
    cases e
    rw [LcR.map t fun x hx => h x (List.mem_cons_of_mem _ hx)]; rfl
  | _, _, .skip r t, h => by cases h _ List.mem_cons_self _ r
theorem LcR.filter {R : D → Option D → Prop} {p : D → Bool} {f : D → D} : ∀ {xs ys : List D}, LcR R xs ys → (∀ x ∈ xs, ∀ o, R x o → o = if p x then some (f x) else none) → ys = (xs.filter p).map f
  | _, _, .nil, _ => rfl
  | x :: _, _, .keep r t, h => by
    have e := h x List.mem_cons_self _ r
    cases hp : p x with
    | false => rw [hp] at e; cases e
    | true =>
      rw [hp] at e; cases e
      rw [LcR.filter t fun x hx => h x (List.mem_cons_of_mem _ hx), List.filter_cons_of_pos hp]; rfl
  | x :: _, _, .skip r t, h => by
    have e := h x List.mem_cons_self _ r
    cases hp : p x with
    | true => rw [hp] at e; cases e
    | false =>
      rw [LcR.filter t fun x hx => h x (List.mem_cons_of_mem _ hx), List.filter_cons_of_neg (by rw [hp]; exact Bool.false_ne_true)]
theorem take_snoc {xs : List D} {i : Nat} {d : D} (h : xs[i]? = some d) : xs.take (i + 1) = xs.take i ++ [d] := by
  obtain ⟨hl, e⟩ := List.getElem?_eq_some_iff.mp h
  rw [List.take_succ, h]; rfl
/-- an item's turn -/
def LcT (K : PySem.W.Frag) (E : XK) (g : TG) (is : List Nat) (tt : TT) (te : TE) (G : Gm) (O : OL) (R : D → Option D → Prop) (x : D) : Prop :=
  DG K g is x G O fun G1 => DTT K E tt G1 O (fun b => (b = true → DT K E te G1 O (fun y => R x (some y)) F0) ∧ (b = false → R x none)) F0
theorem lc_loop {g : TG} {is : List Nat} {tt : TT} {te : TE} {vs : List Nat} {R : D → Option D → Prop} {xs : List D} {J : It} {S0 : Addr → Prop} {Os : OLa} {σ : L2.St} {H1 : Hp} {Q : VK} (st : St1 K S0 G O Os σ H1) (wk : Wk K (SO S0 Os) J H1 xs)
    (hs : ∀ i ∈ is, i ∈ vs) (hv : ∀ o ∈ O, o.1 ∉ vs) (hl : xs.length < sizeLine) (ht : ∀ x ∈ xs, LcT K E g is tt te (wipeG G vs) O R x)
    (hq : ∀ p H' ys, LcR R xs ys → Same H1 H' → H1 p = none → OwnAt K (fun b => SO S0 Os b ∨ b = p) H' p (.lst ys) → Q (.ref p) H') :
    ∀ p, H1 p = none → ∃ W : Nat → Nat → Hp → Prop, (∃ m, W 0 m (upd H1 p (.lst []))) ∧ ∀ i m H, W i m H → (J.stop i H ∧ Q (.ref p) H) ∨ (J.go i H ∧ ∃ Nx : Hp → Prop, (∀ H', Nx H' → ∃ m', m' < m ∧ W (i + 1) m' H') ∧ ∀ x H', J.yld i H x H' → g x (wipe σ vs) H' fun σ2 H2 => wipe σ2 vs = wipe σ vs ∧ tt σ2 H2 fun b H3 =>
        if b = true then te σ2 H3 fun y H4 => ∃ acc, H4 p = some (.lst acc) ∧ acc.length < sizeLine ∧ Nx (upd H4 p (.lst (acc ++ [y]))) else Nx H3) := fun p np => by
  have nS : ¬ SO S0 Os p := fun z => st.domW p z np
  let S' : Addr → Prop := fun b => SO S0 Os b ∨ b = p
  let Pv : Nat → Hp → Prop := fun i H => Same H1 H ∧ ∃ acc ys, H p = some (.lst acc) ∧ Reps K S' H acc ys ∧ LcR R (xs.take i) ys
  refine ⟨fun i m H => m = xs.length - i ∧ i ≤ xs.length ∧ Pv i H, ⟨_, rfl, Nat.zero_le _, Same.put np, [], [], upd_same, .nil, .nil⟩, ?_⟩
  rintro i m H ⟨rfl, hi, s1, acc, ys, hp, ra, lr⟩
  have hS' : ∀ a, S' a → SO S0 Os a ∨ H1 a = none := fun a z => z.elim .inl fun e => .inr (by rw [e]; exact np)
  have dm : ∀ a, S' a → H a ≠ none := fun a z q => z.elim (fun y => st.domW a y (s1.free q)) fun e => by rw [e, hp] at q; cases q
  obtain ⟨wg, ws, wy⟩ := wk S' H hS' dm (Same.sx s1) i
  by_cases hlt : i < xs.length
  · refine .inr ⟨wg hlt, Pv (i + 1), fun H' p' => ⟨xs.length - (i + 1), by omega, rfl, hlt, p'⟩, fun x H' y => ?_⟩
    obtain ⟨d, hd, s2, rd⟩ := wy x H' hlt y
    -- the block's state
    let S0' : Addr → Prop := fun b => S0 b ∨ b = p
    have so : ∀ a, SO S0' Os a → S' a := fun a z => z.elim (fun z => z.elim (fun z => .inl (.inl z)) .inr) fun z => .inl (.inr z)
    have os : ∀ a, S' a → SO S0' Os a := fun a z => z.elim (fun z => z.elim (fun z => .inl (.inl z)) .inr) fun z => .inl (.inr z)
    have s12 : Same H1 H' := s1.trans s2
    have st0 := (st.wipe hv).same s12
    have hp' : H' p = some (.lst acc) := s2 _ _ hp
    have stI : St1 K S0' (wipeG G vs) O Os (wipe σ vs) H' := by
      refine ⟨st0.os, st0.nd, fun a z => z.elim (st0.dom a) fun e => by rw [e, hp']; simp, fun a w z => z.elim (st0.ns a w) fun e => nS (by rw [← e]; exact .inr w), st0.len, fun j e q => ?_, fun q hq => ?_⟩
      · obtain ⟨v, e1, r⟩ := (st.wipe hv).re j e q
        exact ⟨v, e1, Rep.same (Rep.avoid (fun a z => hS' a (so a z)) r) s12⟩
      · obtain ⟨h1, h2⟩ := (st.wipe hv).own q hq
        refine ⟨h1, ?_⟩
        generalize q.2.2 = ow at h2 ⊢
        cases ow with
        | lst ds => obtain ⟨us, e, r⟩ := h2; exact ⟨us, s12 _ _ e, Reps.same (Reps.avoid (fun a z => hS' a (so a z)) r) s12⟩
        | dic ds => obtain ⟨us, e, q, r⟩ := h2; exact ⟨us, s12 _ _ e, q, Reps.same (Reps.avoid (fun a z => hS' a (so a z)) r) s12⟩
        | obj c ds => obtain ⟨dx, us, e, q, r⟩ := h2; exact ⟨dx, us, s12 _ _ e, q, Reps.same (Reps.avoid (fun a z => hS' a (so a z)) r) s12⟩
        | slf _ c ds => obtain ⟨ea, dx, us, e, q, r⟩ := h2; exact ⟨ea, dx, us, s12 _ _ e, q, Reps.same (Reps.avoid (fun a z => hS' a (so a z)) r) s12⟩
    refine ht d (List.mem_of_getElem? hd) S0' Os (wipe σ vs) H' x _ stI (Rep.weak so rd) fun G1 σ1 k1 st1 l1 e1 => ?_
    refine ⟨wipe_same hs (l1.trans (wipe_length σ vs)) e1, ?_⟩
    refine k1.bind st1 eok_e0 fun b H3 kb s3 st3 he3 => ?_
    have ra3 : Reps K S' H3 acc ys := ra.same (s2.trans s3)
    have hp3 : H3 p = some (.lst acc) := s3 _ _ hp'
    cases b with
    | true =>
      refine iteT ((kb.1 rfl).bind st3 he3 fun y H4 e ke s4 st4 he4 ry => ?_)
      have hp4 : H4 p = some (.lst acc) := s4 _ _ hp3
      have la : acc.length < sizeLine := by
        rw [ra.length]
        have l1 := lr.le
        rw [List.length_take] at l1
        omega
      refine ⟨acc, hp4, la, fun a u q => ?_, acc ++ [y], ys ++ [e], upd_same, ?_, ?_⟩
      · rw [upd_ne fun z => by rw [z, np] at q; cases q]
        exact s4 _ _ (s3 _ _ (s12 _ _ q))
      · exact Reps.mono (LeX.put (S := S') (.inr rfl)) ((ra3.same s4).append (.cons (Rep.weak os ry) .nil))
      · rw [take_snoc hd]; exact lr.snoc ke
    | false =>
      refine iteF ⟨s12.trans s3, acc, ys, hp3, ra3, ?_⟩
      rw [take_snoc hd]; exact lr.snoc0 (kb.2 rfl)
  · have e : i = xs.length := by omega
    subst e
    rw [List.take_length] at lr
    exact .inl ⟨ws (Nat.le_refl _), hq p H ys lr s1 np ⟨acc, hp, ra⟩⟩
/-- a comprehension over what stands -/
theorem df_lc {wi : TI} {g : TG} {tt : TT} {te : TE} {vs : List Nat} (is : List Nat) (R : D → Option D → Prop) {k : Ow → Prop} (hs : ∀ i ∈ is, i ∈ vs) (hv : ∀ o ∈ O, o.1 ∉ vs)
    (h : DI K E wi G O (fun xs => xs.length < sizeLine ∧ (∀ x ∈ xs, LcT K E g is tt te (wipeG G vs) O R x) ∧ ∀ ys, LcR R xs ys → k (.lst ys)) ke) : DF K E (tLc wi g tt te vs) G O k ke := fun S0 Os σ H Q st hq he =>
  h S0 Os σ H _ st (fun J H1 xs ⟨hl, ht, hk⟩ s1 wk => lc_loop (st.same s1) wk hs hv hl ht fun p H' ys lr s2 np oa => hq p H' _ (hk ys lr) (s1.trans s2) (s1.free np) oa) he
/-- .. over a dict, which is locked meanwhile -/
theorem unl_same {H H1 H2 H3 : Hp} {S : Addr → Prop} (l : Lkd S H H1) (s : Same H1 H2) : ∃ H3, Ulk H H2 H3 ∧ Same H H3 ∧ LeX (fun _ => False) H2 H3 ∧ ∀ a, (S a ∨ H1 a = none) → H3 a = H2 a := by
  rcases l with e | ⟨d, od, kvs, n, hd, e⟩
  · subst e
    exact ⟨H2, .inl rfl, s, LeX.rfl', fun _ _ => rfl⟩
  · have e1 : H1 d = some (.frz od (.dK kvs)) := by rw [e]; exact upd_same
    have e2 := s d _ e1
    refine ⟨upd H2 d (.dK kvs), .inr ⟨d, od, kvs, e2, (fun o u z => by rw [hd] at z; cases z), rfl⟩, fun a u q => ?_, fun a _ => ?_, fun a ta => upd_ne fun z => ?_⟩
    · by_cases h : a = d
      · subst h; rw [hd] at q; cases q; exact upd_same
      · rw [upd_ne h]
        exact s a u (by rw [e, upd_ne h]; exact q)
    · by_cases h : a = d
      · subst h
        refine ⟨fun u su q => ?_, fun k r => ?_⟩
        · rw [e2] at q; cases q; exact su.elim
        · rcases r with r | ⟨o, r⟩
          · rw [e2] at r; cases r
          · rw [e2] at r; cases r; exact .inl upd_same
      · refine ⟨fun u su q => by rw [upd_ne h]; exact q, fun k r => ?_⟩
        rcases r with r | ⟨o, r⟩
        · exact .inl (by rw [upd_ne h]; exact r)
        · exact .inr ⟨o, by rw [upd_ne h]; exact r⟩
    · rw [z] at ta
      rcases ta with ta | ta
      · exact n ta
      · rw [e1] at ta; cases ta
theorem df_lcL {wi : TI} {g : TG} {tt : TT} {te : TE} {vs : List Nat} (is : List Nat) (R : D → Option D → Prop) {k : Ow → Prop} (hs : ∀ i ∈ is, i ∈ vs) (hv : ∀ o ∈ O, o.1 ∉ vs)
    (h : DIL K E wi G O (fun xs => xs.length < sizeLine ∧ (∀ x ∈ xs, LcT K E g is tt te (wipeG G vs) O R x) ∧ ∀ ys, LcR R xs ys → k (.lst ys)) ke) : DF K E (tUnlE (tLc wi g tt te vs)) G O k ke := fun S0 Os σ H Q st hq he =>
  h S0 Os σ H _ st (fun J Hm H1 xs ⟨hl, ht, hk⟩ s1 lk wk => by
    have st1 : St1 K S0 G O Os σ H1 := (st.same s1).lex lk.lex fun a z => lk.at_ z
    refine lc_loop (Q := fun v H2 => ∃ H3, Ulk H H2 H3 ∧ Q v H3) st1 wk hs hv hl ht fun p H' ys lr s2 np oa => ?_
    obtain ⟨H3, u, s3, lx, e3⟩ := unl_same (H3 := H') lk s2
    have npm : Hm p = none := (lk.noneIff).mp np
    refine ⟨H3, ?_, hq p H3 _ (hk ys lr) (s1.trans s3) (s1.free npm) ?_⟩
    · rcases u with u | ⟨d, od, kvs, h1, h2, h3⟩
      · exact .inl u
      · exact .inr ⟨d, od, kvs, h1, fun o u z => h2 o u (s1 _ _ z), h3⟩
    · obtain ⟨acc, q, r⟩ := oa
      exact ⟨acc, (e3 p (.inr np)).trans q, Reps.mono (lx.weak fun _ z => z.elim) r⟩) he

/-! ### dict comprehensions -/
def putD (kvs : List (Key × D)) (k : Key) (v : D) : List (Key × D) :=
  if (kvs.any fun kv => decide (kv.1 = k)) = true then kvs.map (fun kv => if kv.1 = k then (kv.1, v) else kv) else kvs ++ [(k, v)]
theorem any_keys {k : Key} : ∀ {kvs : List (Key × V)} {ds : List (Key × D)}, kvs.map Prod.fst = ds.map Prod.fst → (kvs.any fun kv => decide (kv.1 = k)) = (ds.any fun kv => decide (kv.1 = k))
  | [], [], _ => rfl
  | [], _ :: _, h => by simp at h
  | _ :: _, [], h => by simp at h
  | p :: r, q :: s, h => by
    have h1 : p.1 = q.1 := by simpa using (List.cons.inj (by simpa using h)).1
    have h2 : r.map Prod.fst = s.map Prod.fst := by simpa using (List.cons.inj (by simpa using h)).2
    rw [List.any_cons, List.any_cons, any_keys h2, h1]
theorem put_map {S : Addr → Prop} {H : Hp} {k : Key} {v : V} {d : D} (rv : Rep K S H v d) : ∀ {kvs : List (Key × V)} {ds : List (Key × D)}, kvs.map Prod.fst = ds.map Prod.fst → Reps K S H (kvs.map Prod.snd) (ds.map Prod.snd) →
    (kvs.map fun kv => if kv.1 = k then (kv.1, v) else kv).map Prod.fst = (ds.map fun kv => if kv.1 = k then (kv.1, d) else kv).map Prod.fst ∧ Reps K S H ((kvs.map fun kv => if kv.1 = k then (kv.1, v) else kv).map Prod.snd) ((ds.map fun kv => if kv.1 = k then (kv.1, d) else kv).map Prod.snd)
  | [], [], _, _ => ⟨rfl, .nil⟩
  | [], _ :: _, h, _ => by simp at h
  | _ :: _, [], h, _ => by simp at h
  | p :: r, q :: s, h, .cons hv t => by
    have h1 : p.1 = q.1 := by simpa using (List.cons.inj (by simpa using h)).1
    have h2 : r.map Prod.fst = s.map Prod.fst := by simpa using (List.cons.inj (by simpa using h)).2
    obtain ⟨i1, i2⟩ := put_map (k := k) rv h2 t
    by_cases e : q.1 = k
    · have e1 : (if p.1 = k then (p.1, v) else p) = (p.1, v) := if_pos (h1.trans e)
      have e2 : (if q.1 = k then (q.1, d) else q) = (q.1, d) := if_pos e
      rw [List.map_cons (l := r), List.map_cons (l := s), e1, e2, List.map_cons, List.map_cons, List.map_cons, List.map_cons, i1]
      exact ⟨by rw [h1], .cons rv i2⟩
    · have e1 : (if p.1 = k then (p.1, v) else p) = p := if_neg fun z => e (h1.symm.trans z)
      have e2 : (if q.1 = k then (q.1, d) else q) = q := if_neg e
      rw [List.map_cons (l := r), List.map_cons (l := s), e1, e2, List.map_cons, List.map_cons, List.map_cons, List.map_cons, i1]
      exact ⟨by rw [h1], .cons hv i2⟩
theorem put_rep {S : Addr → Prop} {H : Hp} {k : Key} {v : V} {d : D} (rv : Rep K S H v d) {kvs : List (Key × V)} {ds : List (Key × D)} (e : kvs.map Prod.fst = ds.map Prod.fst) (r : Reps K S H (kvs.map Prod.snd) (ds.map Prod.snd)) :
    (putK kvs k v).map Prod.fst = (putD ds k d).map Prod.fst ∧ Reps K S H ((putK kvs k v).map Prod.snd) ((putD ds k d).map Prod.snd) := by
  unfold putK putD
  rw [any_keys e]
  by_cases h : (ds.any fun kv => decide (kv.1 = k)) = true
  · rw [if_pos h, if_pos h]; exact put_map rv e r
  · rw [if_neg h, if_neg h]
    refine ⟨by rw [List.map_append, List.map_append, e]; rfl, ?_⟩
    rw [List.map_append, List.map_append]
    exact r.append (.cons rv .nil)
theorem putD_len (kvs : List (Key × D)) (k : Key) (v : D) : (putD kvs k v).length ≤ kvs.length + 1 := by
  unfold putD
  split
  · rw [List.length_map]; omega
  · rw [List.length_append]; exact Nat.le_refl _
/-- what a dict comprehension makes of the items -/
inductive DcR (R : D → Option (Key × D) → Prop) : List D → List (Key × D) → Prop where
  | nil : DcR R [] []
  | keep {x : D} {k : Key} {y : D} {xs : List D} {ys : List (Key × D)} : DcR R xs ys → R x (some (k, y)) → DcR R (xs ++ [x]) (putD ys k y)
  | skip {x : D} {xs : List D} {ys : List (Key × D)} : DcR R xs ys → R x none → DcR R (xs ++ [x]) ys
theorem DcR.le {R : D → Option (Key × D) → Prop} {xs : List D} {ys : List (Key × D)} (h : DcR R xs ys) : ys.length ≤ xs.length := by
  induction h with
  | nil => exact Nat.le_refl _
  | keep q _ ih => rw [List.length_append]; exact Nat.le_trans (putD_len _ _ _) (Nat.succ_le_succ ih)
  | skip q _ ih => rw [List.length_append]; exact Nat.le_succ_of_le ih
def DcT (K : PySem.W.Frag) (E : XK) (g : TG) (is : List Nat) (tt : TT) (tk te : TE) (G : Gm) (O : OL) (R : D → Option (Key × D) → Prop) (x : D) : Prop :=
  DG K g is x G O fun G1 => DTT K E tt G1 O (fun b => (b = true → DT K E tk G1 O (fun y => DT K E te G1 O (fun z => ∃ k, y = kD k ∧ R x (some (k, z))) F0) F0) ∧ (b = false → R x none)) F0
theorem dc_loop {g : TG} {is : List Nat} {tt : TT} {tk te : TE} {vs : List Nat} {R : D → Option (Key × D) → Prop} {xs : List D} {J : It} {S0 : Addr → Prop} {Os : OLa} {σ : L2.St} {H1 : Hp} {Q : VK} (st : St1 K S0 G O Os σ H1) (wk : Wk K (SO S0 Os) J H1 xs)
    (hs : ∀ i ∈ is, i ∈ vs) (hv : ∀ o ∈ O, o.1 ∉ vs) (hl : xs.length < sizeLine) (ht : ∀ x ∈ xs, DcT K E g is tt tk te (wipeG G vs) O R x)
    (hq : ∀ p H' ys, DcR R xs ys → Same H1 H' → H1 p = none → OwnAt K (fun b => SO S0 Os b ∨ b = p) H' p (.dic ys) → Q (.ref p) H') :
    ∀ p, H1 p = none → ∃ W : Nat → Nat → Hp → Prop, (∃ m, W 0 m (upd H1 p (.dK []))) ∧ ∀ i m H, W i m H → (J.stop i H ∧ Q (.ref p) H) ∨ (J.go i H ∧ ∃ Nx : Hp → Prop, (∀ H', Nx H' → ∃ m', m' < m ∧ W (i + 1) m' H') ∧ ∀ x H', J.yld i H x H' → g x (wipe σ vs) H' fun σ2 H2 => wipe σ2 vs = wipe σ vs ∧ tt σ2 H2 fun b H3 =>
        if b = true then tk σ2 H3 fun y H4 => te σ2 H4 fun z H5 => ∃ kvs k, y = kV k ∧ H5 p = some (.dK kvs) ∧ kvs.length < sizeLine ∧ Nx (upd H5 p (.dK (putK kvs k z))) else Nx H3) := fun p np => by
  have nS : ¬ SO S0 Os p := fun z => st.domW p z np
  let S' : Addr → Prop := fun b => SO S0 Os b ∨ b = p
  let Pv : Nat → Hp → Prop := fun i H => Same H1 H ∧ ∃ (acc : List (Key × V)) (ys : List (Key × D)), H p = some (.dK acc) ∧ acc.map Prod.fst = ys.map Prod.fst ∧ Reps K S' H (acc.map Prod.snd) (ys.map Prod.snd) ∧ DcR R (xs.take i) ys
  refine ⟨fun i m H => m = xs.length - i ∧ i ≤ xs.length ∧ Pv i H, ⟨_, rfl, Nat.zero_le _, Same.put np, [], [], upd_same, rfl, .nil, .nil⟩, ?_⟩
  rintro i m H ⟨rfl, hi, s1, acc, ys, hp, ek, ra, lr⟩
  have hS' : ∀ a, S' a → SO S0 Os a ∨ H1 a = none := fun a z => z.elim .inl fun e => .inr (by rw [e]; exact np)
  have dm : ∀ a, S' a → H a ≠ none := fun a z q => z.elim (fun y => st.domW a y (s1.free q)) fun e => by rw [e, hp] at q; cases q
  obtain ⟨wg, ws, wy⟩ := wk S' H hS' dm (Same.sx s1) i
  by_cases hlt : i < xs.length
  · refine .inr ⟨wg hlt, Pv (i + 1), fun H' p' => ⟨xs.length - (i + 1), by omega, rfl, hlt, p'⟩, fun x H' y => ?_⟩
    obtain ⟨d, hd, s2, rd⟩ := wy x H' hlt y
    let S0' : Addr → Prop := fun b => S0 b ∨ b = p
    have so : ∀ a, SO S0' Os a → S' a := fun a z => z.elim (fun z => z.elim (fun z => .inl (.inl z)) .inr) fun z => .inl (.inr z)
    have os : ∀ a, S' a → SO S0' Os a := fun a z => z.elim (fun z => z.elim (fun z => .inl (.inl z)) .inr) fun z => .inl (.inr z)
    have s12 : Same H1 H' := s1.trans s2
    have st0 := (st.wipe hv).same s12
    have hp' : H' p = some (.dK acc) := s2 _ _ hp
    have stI : St1 K S0' (wipeG G vs) O Os (wipe σ vs) H' := by
      refine ⟨st0.os, st0.nd, fun a z => z.elim (st0.dom a) fun e => by rw [e, hp']; simp, fun a w z => z.elim (st0.ns a w) fun e => nS (by rw [← e]; exact .inr w), st0.len, fun j e q => ?_, fun q hq => ?_⟩
      · obtain ⟨v, e1, r⟩ := (st.wipe hv).re j e q
        exact ⟨v, e1, Rep.same (Rep.avoid (fun a z => hS' a (so a z)) r) s12⟩
      · obtain ⟨h1, h2⟩ := (st.wipe hv).own q hq
        refine ⟨h1, ?_⟩
        generalize q.2.2 = ow at h2 ⊢
        cases ow with
        | lst ds => obtain ⟨us, e, r⟩ := h2; exact ⟨us, s12 _ _ e, Reps.same (Reps.avoid (fun a z => hS' a (so a z)) r) s12⟩
        | dic ds => obtain ⟨us, e, q, r⟩ := h2; exact ⟨us, s12 _ _ e, q, Reps.same (Reps.avoid (fun a z => hS' a (so a z)) r) s12⟩
        | obj c ds => obtain ⟨dx, us, e, q, r⟩ := h2; exact ⟨dx, us, s12 _ _ e, q, Reps.same (Reps.avoid (fun a z => hS' a (so a z)) r) s12⟩
        | slf _ c ds => obtain ⟨ea, dx, us, e, q, r⟩ := h2; exact ⟨ea, dx, us, s12 _ _ e, q, Reps.same (Reps.avoid (fun a z => hS' a (so a z)) r) s12⟩
    refine ht d (List.mem_of_getElem? hd) S0' Os (wipe σ vs) H' x _ stI (Rep.weak so rd) fun G1 σ1 k1 st1 l1 e1 => ?_
    refine ⟨wipe_same hs (l1.trans (wipe_length σ vs)) e1, ?_⟩
    refine k1.bind st1 eok_e0 fun b H3 kb s3 st3 he3 => ?_
    have ra3 : Reps K S' H3 (acc.map Prod.snd) (ys.map Prod.snd) := ra.same (s2.trans s3)
    have hp3 : H3 p = some (.dK acc) := s3 _ _ hp'
    cases b with
    | true =>
      refine iteT ((kb.1 rfl).bind st3 he3 fun y H4 e ke s4 st4 he4 ry => ke.bind st4 he4 fun z H5 e5 ⟨key, ey, rk⟩ s5 st5 he5 rz => ?_)
      have hp5 : H5 p = some (.dK acc) := s5 _ _ (s4 _ _ hp3)
      have la : acc.length < sizeLine := by
        rw [len_pair ek]
        have l1 := lr.le
        rw [List.length_take] at l1
        omega
      subst ey
      have yk := kD_v ry
      have nS5 : LeX S' H5 (upd H5 p (.dK (putK acc key z))) := LeX.put (S := S') (.inr rfl)
      obtain ⟨p1, p2⟩ := put_rep (k := key) (Rep.mono nS5 (Rep.weak os rz)) ek (Reps.mono nS5 (ra3.same (s4.trans s5)))
      refine ⟨acc, key, yk, hp5, la, fun a u q => ?_, putK acc key z, putD ys key e5, upd_same, p1, p2, ?_⟩
      · rw [upd_ne fun z => by rw [z, np] at q; cases q]
        exact s5 _ _ (s4 _ _ (s3 _ _ (s12 _ _ q)))
      · rw [take_snoc hd]; exact .keep lr rk
    | false =>
      refine iteF ⟨s12.trans s3, acc, ys, hp3, ek, ra3, ?_⟩
      rw [take_snoc hd]; exact .skip lr (kb.2 rfl)
  · have e : i = xs.length := by omega
    subst e
    rw [List.take_length] at lr
    exact .inl ⟨ws (Nat.le_refl _), hq p H ys lr s1 np ⟨acc, hp, ek, ra⟩⟩
theorem df_dc {wi : TI} {g : TG} {tt : TT} {tk te : TE} {vs : List Nat} (is : List Nat) (R : D → Option (Key × D) → Prop) {k : Ow → Prop} (hs : ∀ i ∈ is, i ∈ vs) (hv : ∀ o ∈ O, o.1 ∉ vs)
    (h : DI K E wi G O (fun xs => xs.length < sizeLine ∧ (∀ x ∈ xs, DcT K E g is tt tk te (wipeG G vs) O R x) ∧ ∀ ys, DcR R xs ys → k (.dic ys)) ke) : DF K E (tDc wi g tt tk te vs) G O k ke := fun S0 Os σ H Q st hq he =>
  h S0 Os σ H _ st (fun J H1 xs ⟨hl, ht, hk⟩ s1 wk => dc_loop (st.same s1) wk hs hv hl ht fun p H' ys lr s2 np oa => hq p H' _ (hk ys lr) (s1.trans s2) (s1.free np) oa) he
theorem df_dcL {wi : TI} {g : TG} {tt : TT} {tk te : TE} {vs : List Nat} (is : List Nat) (R : D → Option (Key × D) → Prop) {k : Ow → Prop} (hs : ∀ i ∈ is, i ∈ vs) (hv : ∀ o ∈ O, o.1 ∉ vs)
    (h : DIL K E wi G O (fun xs => xs.length < sizeLine ∧ (∀ x ∈ xs, DcT K E g is tt tk te (wipeG G vs) O R x) ∧ ∀ ys, DcR R xs ys → k (.dic ys)) ke) : DF K E (tUnlE (tDc wi g tt tk te vs)) G O k ke := fun S0 Os σ H Q st hq he =>
  h S0 Os σ H _ st (fun J Hm H1 xs ⟨hl, ht, hk⟩ s1 lk wk => by
    have st1 : St1 K S0 G O Os σ H1 := (st.same s1).lex lk.lex fun a z => lk.at_ z
    refine dc_loop (Q := fun v H2 => ∃ H3, Ulk H H2 H3 ∧ Q v H3) st1 wk hs hv hl ht fun p H' ys lr s2 np oa => ?_
    obtain ⟨H3, u, s3, lx, e3⟩ := unl_same (H3 := H') lk s2
    have npm : Hm p = none := (lk.noneIff).mp np
    refine ⟨H3, ?_, hq p H3 _ (hk ys lr) (s1.trans s3) (s1.free npm) ?_⟩
    · rcases u with u | ⟨d, od, kvs, h1, h2, h3⟩
      · exact .inl u
      · exact .inr ⟨d, od, kvs, h1, fun o u z => h2 o u (s1 _ _ z), h3⟩
    · obtain ⟨acc, q, ek, r⟩ := oa
      exact ⟨acc, (e3 p (.inr np)).trans q, ek, Reps.mono (lx.weak fun _ z => z.elim) r⟩) he
end
end Fw

set_option maxHeartbeats 4000000
/-! Loops as statements; what is owned, changed. -/
namespace Fw
open PySem PySem.Spec PyProof.Rows L2
section
variable {K : PySem.W.Frag} {E : XK} {G : Gm} {O : OL} {ke : Xd → Prop} {kn : Gm → OL → Prop} {kr : D → Prop}

theorem Chg.sx {S0 : Addr → Prop} {Os Os' : OLa} {H H' : Hp} (c : Chg Os H Os' H') : SameX (SO S0 Os) H H' := fun a n u e => c.same a (fun z => n (.inr z)) u e
/-- the turns of a for -/
theorem for_loop {g : TG} {tb : TS} {xs : List D} {J : It} {S0 : Addr → Prop} {H0 : Hp} {Os : OLa} {σ : L2.St} {H1 : Hp} {Ds : Ends} (is : List Nat) (P : Nat → Gm → OL → Prop) (f : Frm S0 H0 Os H1) (st : St1 K S0 G O Os σ H1) (wk : Wk K (SO S0 Os) J H1 xs)
    (h0 : P 0 G O) (ht : ∀ i x G' O', xs[i]? = some x → P i G' O' → DG K g is x G' O' fun G2 => DS K E tb G2 O' (P (i + 1)) kr ke)
    (hd : ∀ G' O' Os' σ' H', P xs.length G' O' → Chg Os H1 Os' H' → St1 K S0 G' O' Os' σ' H' → Ds.nx σ' H')
    (hr : ∀ v H' d, kr d → Same H0 H' → Rep K S0 H' v d → Ds.rt v H') (he : EOk K S0 H0 E ke) :
    ∃ W : Nat → Nat → L2.St → Hp → Prop, (∃ m, W 0 m σ H1) ∧ ∀ i m σ H, W i m σ H →
      (J.stop i H ∧ Ds.nx σ H) ∨ (J.go i H ∧ ∃ N : L2.St → Hp → Prop, (∀ σ' H', N σ' H' → ∃ m', m' < m ∧ W (i + 1) m' σ' H') ∧ ∀ x H', J.yld i H x H' → g x σ H' fun σ2 H2 => tb { Ds with nx := N, ct := N, bk := Ds.nx } σ2 H2) := by
  let Pv : Nat → L2.St → Hp → Prop := fun i σ' H => ∃ G' O' Os', P i G' O' ∧ Chg Os H1 Os' H ∧ St1 K S0 G' O' Os' σ' H
  refine ⟨fun i m σ' H => m = xs.length - i ∧ i ≤ xs.length ∧ Pv i σ' H, ⟨_, rfl, Nat.zero_le _, G, O, Os, h0, Chg.refl, st⟩, ?_⟩
  rintro i m σ' H ⟨rfl, hi, G', O', Os', p, c, st'⟩
  have hS : ∀ a, SO S0 Os' a → SO S0 Os a ∨ H1 a = none := fun a z => z.elim (fun z => .inl (.inl z)) fun z => (c.new a z).imp .inr id
  obtain ⟨wg, ws, wy⟩ := wk (SO S0 Os') H hS st'.domW c.sx i
  by_cases hlt : i < xs.length
  · refine .inr ⟨wg hlt, Pv (i + 1), fun σ2 H2 p' => ⟨xs.length - (i + 1), by omega, rfl, hlt, p'⟩, fun x H2 y => ?_⟩
    obtain ⟨d, hd2, s2, rd⟩ := wy x H2 hlt y
    refine ht i d G' O' hd2 p S0 Os' σ' H2 x _ (st'.same s2) rd fun G2 σ2 k2 st2 _ _ => ?_
    have c2 : Chg Os H1 Os' H2 := c.trans (Chg.of_same s2)
    exact k2 S0 H0 Os' σ2 H2 _ (f.step c2) st2 (fun G3 O3 Os3 σ3 H3 p3 c3 st3 => ⟨G3, O3, Os3, p3, c2.trans c3, st3⟩) hr he
  · have e : i = xs.length := by omega
    subst e
    exact .inl ⟨ws (Nat.le_refl _), hd G' O' Os' σ' H p c st'⟩
theorem ds_for {wi : TI} {g : TG} {tb : TS} (is : List Nat) (P : List D → Nat → Gm → OL → Prop)
    (h : DI K E wi G O (fun xs => P xs 0 G O ∧ (∀ i x G' O', xs[i]? = some x → P xs i G' O' → DG K g is x G' O' fun G2 => DS K E tb G2 O' (P xs (i + 1)) kr ke) ∧ ∀ G' O', P xs xs.length G' O' → kn G' O') ke) :
    DS K E (tFor wi g tb) G O kn kr ke := fun S0 H0 Os σ H Ds f st hn hr he =>
  h S0 Os σ H _ st (fun J H1 xs ⟨h0, ht, hd⟩ s1 wk => by
    have c1 := Chg.of_same (Os := Os) s1
    exact for_loop is (P xs) (f.step c1) (st.same s1) wk h0 ht (fun G' O' Os' σ' H' p c st' => hn G' O' Os' σ' H' (hd G' O' p) (c1.trans c) st') hr he) (he.so f)
/-- a for over a dict, locked meanwhile; no exception leaves it -/
theorem ds_forL {wi : TI} {g : TG} {tb : TS} (is : List Nat) (P : List D → Nat → Gm → OL → Prop) (hke : ∀ x, ¬ ke x)
    (h : DIL K E wi G O (fun xs => P xs 0 G O ∧ (∀ i x G' O', xs[i]? = some x → P xs i G' O' → DG K g is x G' O' fun G2 => DS K E tb G2 O' (P xs (i + 1)) kr ke) ∧ ∀ G' O', P xs xs.length G' O' → kn G' O') ke) :
    DS K E (tUnlS (tFor wi g tb)) G O kn kr ke := fun S0 H0 Os σ H Ds f st hn hr he =>
  h S0 Os σ H _ st (fun J Hm H1 xs ⟨h0, ht, hd⟩ s1 lk wk => by
    have cm := Chg.of_same (Os := Os) s1
    have fm := f.step cm
    have st1 : St1 K S0 G O Os σ H1 := (st.same s1).lex lk.lex fun a z => lk.at_ z
    have nn : ∀ {a : Addr}, H1 a = none ↔ Hm a = none := lk.noneIff
    -- the entry's heap with the lock
    let H0' : Hp := fun b => if H0 b = none then none else H1 b
    have z0 : ∀ a, H0 a = none → H0' a = none := fun a e => if_pos e
    have z1 : ∀ a, H0 a ≠ none → H0' a = H1 a := fun a e => if_neg e
    have f' : Frm S0 H0' Os H1 := ⟨fun a u e => by
      by_cases q : H0 a = none
      · rw [z0 a q] at e; cases e
      · rw [z1 a q] at e; exact e, fun a z => z0 a (f.new a z), fun a z e => by
      rw [z1 a (f.dom a z)] at e
      exact st1.dom a z e⟩
    have ul : ∀ {σ' : L2.St} {Os' : OLa} {H' : Hp}, SameX (W Os) H1 H' → (∀ a, W Os' a → W Os a ∨ H1 a = none) → ∃ H3, Ulk H H' H3 ∧ SameX (W Os) Hm H3 ∧ LeX (fun _ => False) H' H3 ∧ (∀ a, SO S0 Os a ∨ H1 a = none → H3 a = H' a) := fun {σ' Os' H'} sx hw => by
      rcases lk with e | ⟨d, od, kvs, n, hdd, e⟩
      · subst e
        exact ⟨H', .inl rfl, sx, LeX.rfl', fun _ _ => rfl⟩
      · have e1 : H1 d = some (.frz od (.dK kvs)) := by rw [e]; exact upd_same
        have e2 := sx d (fun z => n (.inr z)) _ e1
        refine ⟨upd H' d (.dK kvs), .inr ⟨d, od, kvs, e2, (fun o u z => by rw [s1 _ _ z] at hdd; cases hdd), rfl⟩, fun a na u q => ?_, fun a _ => ?_, fun a ta => upd_ne fun z => ?_⟩
        · by_cases h : a = d
          · subst h; rw [hdd] at q; cases q; exact upd_same
          · rw [upd_ne h]
            exact sx a na u (by rw [e, upd_ne h]; exact q)
        · by_cases h : a = d
          · subst h
            refine ⟨fun u su q => ?_, fun k r => ?_⟩
            · rw [e2] at q; cases q; exact su.elim
            · rcases r with r | ⟨o, r⟩
              · rw [e2] at r; cases r
              · rw [e2] at r; cases r; exact .inl upd_same
          · refine ⟨fun u su q => by rw [upd_ne h]; exact q, fun k r => ?_⟩
            rcases r with r | ⟨o, r⟩
            · exact .inl (by rw [upd_ne h]; exact r)
            · exact .inr ⟨o, by rw [upd_ne h]; exact r⟩
        · rw [z] at ta
          rcases ta with ta | ta
          · exact n ta
          · rw [e1] at ta; cases ta
    refine for_loop is (P xs) f' st1 wk h0 ht (fun G' O' Os' σ' H' p c st' => ?_) (fun v H' d kd s r => ?_) (fun _ _ _ x z => (hke x z).elim)
    · obtain ⟨H3, u, sx3, lx, e3⟩ := ul (σ' := σ') (Os' := Os') c.same c.new
      have e4 : ∀ a, SO S0 Os' a → H3 a = H' a := fun a z => e3 a (z.elim (fun z => .inl (.inl z)) fun z => (c.new a z).imp .inr id)
      refine ⟨H3, u, hn G' O' Os' σ' H3 (hd G' O' p) (cm.trans ⟨sx3, fun a z => (c.new a z).imp id nn.mp⟩) (st'.lex (lx.weak fun _ z => z.elim) e4)⟩
    · -- a return out of the loop
      have hS0 : ∀ a, S0 a → H1 a ≠ none := st1.dom
      rcases lk with e | ⟨dd, od, kvs, n, hdd, e⟩
      · subst e
        refine ⟨H', .inl rfl, hr v H' d kd (fun a u q => s a u ?_) r⟩
        rw [z1 a (by rw [q]; simp)]
        exact s1 _ _ (f.same _ _ q)
      · have e1 : H1 dd = some (.frz od (.dK kvs)) := by rw [e]; exact upd_same
        by_cases q0 : H0 dd = none
        · -- the dict is ours: it may stay locked
          refine ⟨H', .inl rfl, hr v H' d kd (fun a u q => s a u ?_) r⟩
          have ne : a ≠ dd := fun z => by rw [z, q0] at q; cases q
          rw [z1 a (by rw [q]; simp), e, upd_ne ne]
          exact s1 _ _ (f.same _ _ q)
        · have e2 : H' dd = some (.frz od (.dK kvs)) := s dd _ (by rw [z1 dd q0]; exact e1)
          have h0d : H0 dd = some (.dK kvs) := by
            cases q : H0 dd with
            | none => exact absurd q q0
            | some u =>
              have := s1 _ _ (f.same _ _ q)
              rw [hdd] at this
              exact this.symm
          refine ⟨upd H' dd (.dK kvs), .inr ⟨dd, od, kvs, e2, (fun o u z => by rw [s1 _ _ z] at hdd; cases hdd), rfl⟩, hr v _ d kd (fun a u q => ?_) ?_⟩
          · by_cases h : a = dd
            · subst h; rw [h0d] at q; cases q; exact upd_same
            · rw [upd_ne h]
              refine s a u ?_
              rw [z1 a (by rw [q]; simp), e, upd_ne h]
              exact s1 _ _ (f.same _ _ q)
          · refine Rep.mono (fun a _ => ?_) r
            by_cases h : a = dd
            · subst h
              refine ⟨fun u su q => ?_, fun k r => ?_⟩
              · rw [e2] at q; cases q; exact su.elim
              · rcases r with r | ⟨o, r⟩
                · rw [e2] at r; cases r
                · rw [e2] at r; cases r; exact .inl upd_same
            · refine ⟨fun u su q => by rw [upd_ne h]; exact q, fun k r => ?_⟩
              rcases r with r | ⟨o, r⟩
              · exact .inl (by rw [upd_ne h]; exact r)
              · exact .inr ⟨o, by rw [upd_ne h]; exact r⟩) (he.so f)
/-- while, by a word and a measure -/
theorem ds_while {c : TT} {tb : TS} (P : Gm → OL → Prop) (mu : Gm → OL → Nat) (h0 : P G O)
    (ht : ∀ G' O', P G' O' → DTT K E c G' O' (fun b => (b = true → DS K E tb G' O' (fun G2 O2 => P G2 O2 ∧ mu G2 O2 < mu G' O') kr ke) ∧ (b = false → kn G' O')) ke) : DS K E (tWhile c tb) G O kn kr ke := fun S0 H0 Os σ H Ds f st hn hr he => by
  let Pv : Nat → L2.St → Hp → Prop := fun m σ' H' => ∃ G' O' Os', m = mu G' O' ∧ P G' O' ∧ Chg Os H Os' H' ∧ St1 K S0 G' O' Os' σ' H'
  refine ⟨Pv, ⟨_, G, O, Os, rfl, h0, Chg.refl, st⟩, ?_⟩
  rintro m σ' H' ⟨G', O', Os', rfl, p, c1, st'⟩
  have f' := f.step c1
  refine (ht G' O' p).at_ f' st' he fun b H2 kb s2 f2 st2 => ?_
  have c2 : Chg Os H Os' H2 := c1.trans (Chg.of_same s2)
  cases b with
  | true =>
    exact ⟨fun σ3 H3 => ∃ m', m' < mu G' O' ∧ Pv m' σ3 H3, fun _ _ z => z, kb.1 rfl S0 H0 Os' σ' H2 _ f2 st2 (fun G3 O3 Os3 σ3 H3 ⟨p3, l3⟩ c3 st3 => ⟨_, l3, G3, O3, Os3, rfl, p3, c2.trans c3, st3⟩) hr he⟩
  | false => exact hn G' O' Os' σ' H2 (kb.2 rfl) c2 st2
end
end Fw

set_option maxHeartbeats 4000000
/-! What is owned, changed; isinstance; == of data. -/
namespace Fw
open PySem PySem.Spec PyProof.Rows L2
section
variable {K : PySem.W.Frag} {E : XK} {G : Gm} {O : OL} {ke : Xd → Prop} {kn : Gm → OL → Prop} {kr : D → Prop}
/-- an expression that may change what is owned -/
def DM (K : PySem.W.Frag) (E : XK) (t : TE) (G : Gm) (O : OL) (k : D → OL → Prop) (ke : Xd → Prop) : Prop := ∀ (S0 : Addr → Prop) (H0 : Hp) (Os : OLa) (σ : L2.St) (H : Hp) (Q : VK), Frm S0 H0 Os H → St1 K S0 G O Os σ H → EOk K S0 H0 E ke →
  (∀ v H' d O' Os', k d O' → Chg Os H Os' H' → St1 K S0 G O' Os' σ H' → Rep K (SO S0 Os') H' v d → Q v H') → t σ H Q
theorem DT.dm {t : TE} {k : D → OL → Prop} (h : DT K E t G O (fun d => k d O) ke) : DM K E t G O k ke := fun S0 H0 Os σ H Q f st he hq =>
  h.at_ f st he fun v H' d kd s _ st' r => hq v H' d O Os kd (Chg.of_same s) st' r
theorem ds_asgM {te : TE} {i : Nat} (h : DM K E te G O (fun d O' => (∀ o ∈ O', o.1 ≠ i) ∧ kn (G.set i (some d)) O') ke) : DS K E (tAsg te (gName i)) G O kn kr ke := fun S0 H0 Os σ H Ds f st hn hr he =>
  h S0 H0 Os σ H _ f st he fun v H' d O' Os' ⟨hi, kd⟩ c st' r => hn _ O' Os' _ H' kd c (st'.set r hi)
/-- the owned list in slot i -/
theorem lst_at {S0 : Addr → Prop} {Os : OLa} {σ : L2.St} {H : Hp} (st : St1 K S0 G O Os σ H) {j i : Nat} {ds : List D} (ho : O[j]? = some (i, .lst ds)) :
    ∃ (p : Addr) (vs : List V), Os[j]? = some (p, i, .lst ds) ∧ σ[i]? = some (some (.ref p)) ∧ H p = some (.lst vs) ∧ Reps K (SO S0 Os) H vs ds := by
  obtain ⟨p, hp, e, hpj⟩ := own_at st.os ho
  obtain ⟨hs, oa⟩ := st.own p hp
  obtain ⟨p1, p2⟩ := p
  have e' : p2 = (i, .lst ds) := e
  subst e'
  obtain ⟨vs, h1, h2⟩ := oa
  exact ⟨p1, vs, hpj, hs, h1, h2⟩
theorem w_at {Os : OLa} {j i : Nat} {p : Addr} {o : Ow} (h : Os[j]? = some (p, i, o)) : W Os p := List.mem_map_of_mem (f := (·.1)) (List.mem_of_getElem? h)
theorem St1.lst_put {S0 : Addr → Prop} {Os : OLa} {σ : L2.St} {H : Hp} (st : St1 K S0 G O Os σ H) {j i : Nat} {ds ds' : List D} {p : Addr} {vs' : List V} (hp : Os[j]? = some (p, i, .lst ds)) (r : Reps K (SO S0 Os) H vs' ds') :
    St1 K S0 G (O.set j (i, .lst ds')) (Os.set j (p, i, .lst ds')) σ (upd H p (.lst vs')) := by
  have sx : SameX (W Os) H (upd H p (.lst vs')) := fun a n u e => by rw [upd_ne fun z => n (by rw [z]; exact w_at hp)]; exact e
  exact st.own_set hp ⟨vs', upd_same, Reps.mono (sx.lex.weak fun a z => .inr z) r⟩ sx
theorem ty_list {H : Hp} {p : Addr} {vs : List V} (h : H p = some (.lst vs)) : tyV K "list" (.ref p) H := .inl ⟨rfl, _, SqL.of h⟩
/-- x.append(e) -/
theorem ds_append (j : Nat) {i : Nat} {ds : List D} {te : TE} (ho : O[j]? = some (i, .lst ds)) (h : DM K E te G O (fun d O' => ∃ ds', O'[j]? = some (i, .lst ds') ∧ ds'.length < sizeLine ∧ kn G (O'.set j (i, .lst (ds' ++ [d])))) ke) :
    DS K E (tDrop (tBM K "list" rAppend (tVar i) (tCons te tNil))) G O kn kr ke := fun S0 H0 Os σ H Ds f st hn hr he => by
  obtain ⟨p, vs, hpj, hs, hh, r⟩ := lst_at st ho
  refine ⟨_, hs, ty_list hh, h S0 H0 Os σ H _ f st he fun v H' d O' Os' ⟨ds', ho', hl, kd⟩ c st' rd => ?_⟩
  obtain ⟨p', vs', hpj', hs', hh', r'⟩ := lst_at st' ho'
  rw [hs] at hs'; cases hs'
  exact ⟨p, vs', v, rfl, rfl, hh', by rw [r'.length]; exact hl, hn G _ _ σ _ kd (c.trans (chg_put hpj')) (st'.lst_put hpj' (r'.append (.cons rd .nil)))⟩
/-- x.pop(e) -/
theorem dm_popAt (j : Nat) {i : Nat} {ds : List D} {te : TE} {k : D → OL → Prop} (ho : O[j]? = some (i, .lst ds)) (h : DT K E te G O (fun d => ∃ n m y, d = .int n ∧ -(2 ^ 63) ≤ n ∧ n < 2 ^ 63 ∧ seqIndex? n ds.length = some m ∧ ds[m]? = some y ∧ k y (O.set j (i, .lst (ds.eraseIdx m)))) ke) :
    DM K E (tBM K "list" rPopAt (tVar i) (tCons te tNil)) G O k ke := fun S0 H0 Os σ H Q f st he hq => by
  obtain ⟨p, vs, hpj, hs, hh, r⟩ := lst_at st ho
  refine ⟨_, hs, ty_list hh, h.at_ f st he fun v H' d ⟨n, m, y, e, l1, l2, hm, hy, kd⟩ s f' st' rd => ?_⟩
  subst e; cases rd
  have hh' := s _ _ hh
  obtain ⟨w, hw, rw_⟩ := (r.same s).get' hy
  have st2 := st'.lst_put hpj ((r.same s).erase m)
  have so : SO S0 (Os.set j (p, i, .lst (ds.eraseIdx m))) = SO S0 Os := by
    funext a
    have em : ∀ b, W (Os.set j (p, i, Ow.lst (ds.eraseIdx m))) b ↔ W Os b := fun b => by
      have hj : j < Os.length := (List.getElem?_eq_some_iff.mp hpj).1
      have e2 : (Os.set j (p, i, Ow.lst (ds.eraseIdx m))).map (·.1) = Os.map (·.1) := by
        rw [List.map_set]
        apply List.ext_getElem?
        intro n
        by_cases hn : j = n
        · subst hn
          rw [List.getElem?_set_self (by rw [List.length_map]; exact hj), List.getElem?_map, hpj]; rfl
        · rw [List.getElem?_set_ne hn]
      show b ∈ _ ↔ b ∈ _
      rw [e2]
    exact propext ⟨fun z => z.imp id (em a).mp, fun z => z.imp id (em a).mpr⟩
  refine ⟨p, vs, n, m, w, rfl, rfl, hh', l1, l2, by rw [r.length]; exact hm, hw, hq w _ y _ _ kd ((Chg.of_same s).trans (chg_put hpj)) st2 ?_⟩
  rw [so]
  exact Rep.mono (LeX.put (S := SO S0 Os) (.inr (w_at hpj))) rw_
/-- x.extend(e) -/
theorem ds_extend (j : Nat) {i : Nat} {ds : List D} {te : TE} (ho : O[j]? = some (i, .lst ds)) (h : DT K E te G O (fun d => ∃ ys, d = .lst ys ∧ ds.length + ys.length ≤ sizeLine ∧ kn G (O.set j (i, .lst (ds ++ ys)))) ke) :
    DS K E (tDrop (tBM K "list" rExtend (tVar i) (tCons te tNil))) G O kn kr ke := fun S0 H0 Os σ H Ds f st hn hr he => by
  obtain ⟨p, vs, hpj, hs, hh, r⟩ := lst_at st ho
  refine ⟨_, hs, ty_list hh, h.at_ f st he fun v H' d ⟨ys, e, hl, kd⟩ s f' st' rd => ?_⟩
  subst e
  cases rd with
  | lst n h2 r2 =>
    exact ⟨p, _, vs, _, rfl, rfl, s _ _ hh, h2, by rw [r.length, r2.length]; exact hl, hn G _ _ σ _ kd ((Chg.of_same s).trans (chg_put hpj)) (st'.lst_put hpj ((r.same s).append r2))⟩
/-- x[e] = v -/
theorem ds_setitem (j : Nat) {i : Nat} {ds : List D} {tv ti : TE} (ho : O[j]? = some (i, .lst ds)) (h : DT K E tv G O (fun d => DT K E ti G O (fun e => ∃ n m, e = .int n ∧ ixN ds.length n = some m ∧ kn G (O.set j (i, .lst (ds.set m d)))) ke) ke) :
    DS K E (tAsg tv (gSub (tVar i) ti rSetL)) G O kn kr ke := fun S0 H0 Os σ H Ds f st hn hr he =>
  h.at_ f st he fun v H1 d hd s1 f1 st1 rd => by
    obtain ⟨p, vs, hpj, hs, hh, r⟩ := lst_at st1 ho
    refine ⟨_, hs, hd.at_ f1 st1 he fun w H2 e ⟨n, m, ee, hm, kd⟩ s2 f2 st2 re => ?_⟩
    subst ee; cases re
    exact ⟨p, vs, n, m, rfl, rfl, s2 _ _ hh, by rw [r.length]; exact hm, hn G _ _ σ _ kd ((Chg.of_same (s1.trans s2)).trans (chg_put hpj)) (st2.lst_put hpj ((r.same s2).set (rd.same s2) m))⟩
/-- the owned dict -/
theorem dic_at {S0 : Addr → Prop} {Os : OLa} {σ : L2.St} {H : Hp} (st : St1 K S0 G O Os σ H) {j i : Nat} {ds : List (Key × D)} (ho : O[j]? = some (i, .dic ds)) :
    ∃ (p : Addr) (vs : List (Key × V)), Os[j]? = some (p, i, .dic ds) ∧ σ[i]? = some (some (.ref p)) ∧ H p = some (.dK vs) ∧ vs.map Prod.fst = ds.map Prod.fst ∧ Reps K (SO S0 Os) H (vs.map Prod.snd) (ds.map Prod.snd) := by
  obtain ⟨p, hp, e, hpj⟩ := own_at st.os ho
  obtain ⟨hs, oa⟩ := st.own p hp
  obtain ⟨p1, p2⟩ := p
  have e' : p2 = (i, .dic ds) := e
  subst e'
  obtain ⟨vs, h1, h2, h3⟩ := oa
  exact ⟨p1, vs, hpj, hs, h1, h2, h3⟩
theorem St1.dic_put {S0 : Addr → Prop} {Os : OLa} {σ : L2.St} {H : Hp} (st : St1 K S0 G O Os σ H) {j i : Nat} {ds ds' : List (Key × D)} {p : Addr} {vs' : List (Key × V)} (hp : Os[j]? = some (p, i, .dic ds)) (ek : vs'.map Prod.fst = ds'.map Prod.fst) (r : Reps K (SO S0 Os) H (vs'.map Prod.snd) (ds'.map Prod.snd)) :
    St1 K S0 G (O.set j (i, .dic ds')) (Os.set j (p, i, .dic ds')) σ (upd H p (.dK vs')) := by
  have sx : SameX (W Os) H (upd H p (.dK vs')) := fun a n u e => by rw [upd_ne fun z => n (by rw [z]; exact w_at hp)]; exact e
  exact st.own_set hp ⟨vs', upd_same, ek, Reps.mono (sx.lex.weak fun a z => .inr z) r⟩ sx
/-- d[e] = v -/
theorem ds_dput (j : Nat) {i : Nat} {ds : List (Key × D)} {tv ty : TE} (ho : O[j]? = some (i, .dic ds)) (h : DT K E tv G O (fun d => DT K E ty G O (fun e => ∃ key, e = kD key ∧ ds.length < sizeLine ∧ kn G (O.set j (i, .dic (putD ds key d)))) ke) ke) :
    DS K E (sDPut (tVar i) ty tv) G O kn kr ke := fun S0 H0 Os σ H Ds f st hn hr he =>
  h.at_ f st he fun v H1 d hd s1 f1 st1 rd => by
    obtain ⟨p, vs, hpj, hs, hh, ek, r⟩ := dic_at st1 ho
    refine ⟨_, hs, hd.at_ f1 st1 he fun w H2 e ⟨key, ee, hl, kd⟩ s2 f2 st2 re => ?_⟩
    subst ee
    have ew := kD_v re
    subst ew
    obtain ⟨q1, q2⟩ := put_rep (k := key) (rd.same s2) ek (r.same s2)
    exact ⟨p, _, rfl, DPut.k (s2 _ _ hh) (by rw [len_pair ek]; exact hl), hn G _ _ σ _ kd ((Chg.of_same (s1.trans s2)).trans (chg_put hpj)) (st2.dic_put hpj q1 q2)⟩
/-- the owned object -/
theorem obj_at {S0 : Addr → Prop} {Os : OLa} {σ : L2.St} {H : Hp} (st : St1 K S0 G O Os σ H) {j i : Nat} {c : Str} {ds : List (Str × D)} (ho : O[j]? = some (i, .obj c ds)) :
    ∃ (p dx : Addr) (vs : List (Str × V)), Os[j]? = some (p, i, .obj c ds) ∧ σ[i]? = some (some (.ref p)) ∧ H p = some (.ins (He.ga K c) dx vs) ∧ vs.map Prod.fst = ds.map Prod.fst ∧ Reps K (SO S0 Os) H (vs.map Prod.snd) (ds.map Prod.snd) := by
  obtain ⟨p, hp, e, hpj⟩ := own_at st.os ho
  obtain ⟨hs, oa⟩ := st.own p hp
  obtain ⟨p1, p2⟩ := p
  have e' : p2 = (i, .obj c ds) := e
  subst e'
  obtain ⟨dx, vs, h1, h2, h3⟩ := oa
  exact ⟨p1, dx, vs, hpj, hs, h1, h2, h3⟩
def putG (f : Str) (v : D) : List (Str × D) → List (Str × D)
  | [] => [(f, v)]
  | (g, u) :: r => if g = f then (g, v) :: r else (g, u) :: putG f v r
theorem putG_rep {S : Addr → Prop} {H : Hp} {f : Str} {v : V} {d : D} (rv : Rep K S H v d) : ∀ {fs : List (Str × V)} {ds : List (Str × D)}, fs.map Prod.fst = ds.map Prod.fst → Reps K S H (fs.map Prod.snd) (ds.map Prod.snd) →
    (putF f v fs).map Prod.fst = (putG f d ds).map Prod.fst ∧ Reps K S H ((putF f v fs).map Prod.snd) ((putG f d ds).map Prod.snd)
  | [], [], _, _ => ⟨rfl, .cons rv .nil⟩
  | [], _ :: _, h, _ => by simp at h
  | _ :: _, [], h, _ => by simp at h
  | (p, x) :: r, (q, y) :: s, h, .cons hv t => by
    have h1 : p = q := by simpa using (List.cons.inj (by simpa using h)).1
    have h2 : r.map Prod.fst = s.map Prod.fst := by simpa using (List.cons.inj (by simpa using h)).2
    subst h1
    obtain ⟨i1, i2⟩ := putG_rep (f := f) rv h2 t
    by_cases e : p = f
    · have e1 : putF f v ((p, x) :: r) = (p, v) :: r := by unfold putF; exact if_pos e
      have e2 : putG f d ((p, y) :: s) = (p, d) :: s := by unfold putG; exact if_pos e
      rw [e1, e2]
      exact ⟨by rw [List.map_cons, List.map_cons, h2], .cons rv t⟩
    · have e1 : putF f v ((p, x) :: r) = (p, x) :: putF f v r := by
        show (if p = f then _ else _) = _
        exact if_neg e
      have e2 : putG f d ((p, y) :: s) = (p, y) :: putG f d s := by
        show (if p = f then _ else _) = _
        exact if_neg e
      rw [e1, e2]
      exact ⟨by rw [List.map_cons, List.map_cons, i1], .cons hv i2⟩
/-- self.f = e, self owned -/
theorem ds_fld (j : Nat) {i : Nat} {c f : Str} {ds : List (Str × D)} {tv : TE} (cl : Cls K (He.ga K c)) (na : NoAttr K (He.ga K c) f) (ho : O[j]? = some (i, .obj c ds)) (hl : ds.length < 1000) (h : DT K E tv G O (fun d => kn G (O.set j (i, .obj c (putG f d ds)))) ke) :
    DS K E (sFld K (tVar i) tv f) G O kn kr ke := fun S0 H0 Os σ H Ds ff st hn hr he =>
  h.at_ ff st he fun v H1 d kd s1 f1 st1 rd => by
    obtain ⟨p, dx, vs, hpj, hs, hh, ek, r⟩ := obj_at st1 ho
    obtain ⟨q1, q2⟩ := putG_rep (f := f) rd ek r
    have hle : vs.length = ds.length := by
      have := congrArg List.length ek
      simpa using this
    have sx : SameX (W Os) H1 (upd H1 p (.ins (He.ga K c) dx (putF f v vs))) := fun a n u e => by rw [upd_ne fun z => n (by rw [z]; exact w_at hpj)]; exact e
    have st2 := st1.own_set hpj (o' := .obj c (putG f d ds)) ⟨dx, _, upd_same, q1, Reps.mono (sx.lex.weak fun a z => .inr z) q2⟩ sx
    exact ⟨_, hs, p, _, dx, vs, rfl, hh, cl, na, by rw [hle]; exact hl, hn G _ _ σ _ kd ((Chg.of_same s1).trans (chg_put hpj)) st2⟩
/-- .. the instance that an __init__ fills -/
theorem ds_fldS (j : Nat) {x : Addr} {i : Nat} {c f : Str} {ds : List (Str × D)} {tv : TE} (cl : Cls K (He.ga K c)) (na : NoAttr K (He.ga K c) f) (ho : O[j]? = some (i, .slf x c ds)) (hl : ds.length < 1000) (h : DT K E tv G O (fun d => kn G (O.set j (i, .slf x c (putG f d ds)))) ke) :
    DS K E (sFld K (tVar i) tv f) G O kn kr ke := fun S0 H0 Os σ H Ds ff st hn hr he =>
  h.at_ ff st he fun v H1 d kd s1 f1 st1 rd => by
    obtain ⟨p0, hp, e, hpj⟩ := own_at st1.os ho
    obtain ⟨hs, oa⟩ := st1.own p0 hp
    obtain ⟨p, p2⟩ := p0
    have e' : p2 = (i, .slf x c ds) := e
    subst e'
    obtain ⟨ea, dx, vs, hh, ek, r⟩ := oa
    obtain ⟨q1, q2⟩ := putG_rep (f := f) rd ek r
    have hle : vs.length = ds.length := by
      have := congrArg List.length ek
      simpa using this
    have sx : SameX (W Os) H1 (upd H1 p (.ins (He.ga K c) dx (putF f v vs))) := fun a n u e => by rw [upd_ne fun z => n (by rw [z]; exact w_at hpj)]; exact e
    have st2 := st1.own_set hpj (o' := .slf x c (putG f d ds)) ⟨ea, dx, _, upd_same, q1, Reps.mono (sx.lex.weak fun a z => .inr z) q2⟩ sx
    exact ⟨_, hs, p, _, dx, vs, rfl, hh, cl, na, by rw [hle]; exact hl, hn G _ _ σ _ kd ((Chg.of_same s1).trans (chg_put hpj)) st2⟩
/-! ### len -/
abbrev rLenB (K : PySem.W.Frag) : List V → Hp → VK → Prop := fun xs H Q => ∃ x n, xs = [x] ∧ LenV K x H n ∧ Q (.int n) H
theorem dt_lenO (j : Nat) {i : Nat} {ds : List D} {k : D → Prop} (ho : O[j]? = some (i, .lst ds)) (h : k (.int (ds.length : Nat))) : DT K E (tCB (rLenB K) (tCons (tVar i) tNil)) G O k ke := fun S0 Os σ H Q st hq he => by
  obtain ⟨p, vs, hpj, hs, hh, r⟩ := lst_at st ho
  refine ⟨_, hs, _, vs.length, rfl, .inl ⟨vs, SqL.of hh, rfl⟩, ?_⟩
  rw [r.length]
  exact hq _ H _ h (Same.refl H) (.int _)
theorem cad_len : CaD K (rLenB K) (fun ds k => ∃ d, ds = [d] ∧ ((∃ xs, d = .lst xs ∧ k (.int (xs.length : Nat))) ∨ (∃ xs, d = .tup xs ∧ k (.int (xs.length : Nat))) ∨ ∃ z : Str, d = .str z ∧ z.length ≤ sizeLine ∧ k (.int (z.length : Nat)))) := by
  intro S H xs ds Q k dm rx ⟨d, e, h⟩ hq
  subst e
  cases rx with
  | cons hx t =>
    cases t
    rcases h with ⟨ys, e, q⟩ | ⟨ys, e, q⟩ | ⟨z, e, l, q⟩
    · subst e
      cases hx with
      | lst n hh r => exact ⟨_, _, rfl, .inl ⟨_, SqL.of hh, rfl⟩, by rw [r.length]; exact hq _ H _ q (Same.refl H) (.int _)⟩
    · subst e
      cases hx with
      | tup n hh r => exact ⟨_, _, rfl, .inr ⟨_, SqT.of hh, rfl⟩, by rw [r.length]; exact hq _ H _ q (Same.refl H) (.int _)⟩
    · subst e
      cases hx
      exact ⟨_, _, rfl, ⟨l, rfl⟩, hq _ H _ q (Same.refl H) (.int _)⟩
theorem cad_lenS : CaD K (rLenB K) (fun ds k => ∃ ns, ds = [.scr ns] ∧ k (.int (ns.length : Nat))) := by
  intro S H xs ds Q k dm rx ⟨ns, e, q⟩ hq
  subst e
  cases rx with
  | cons hx t =>
    cases t
    cases hx with
    | scr n h => exact ⟨_, _, rfl, .inl ⟨_, .inl h, rfl⟩, by rw [List.length_map]; exact hq _ H _ q (Same.refl H) (.int _)⟩
    | scrK h => exact ⟨_, _, rfl, .inl ⟨_, .inr h, rfl⟩, by rw [List.length_map]; exact hq _ H _ q (Same.refl H) (.int _)⟩
theorem opd_ixS : OpD K (rIxL K) (fun a b k => ∃ ns i n, a = .scr ns ∧ b = .int i ∧ atI ns i = some n ∧ k (.int n)) := by
  intro S H x y a b Q k dm rx ry ⟨ns, i, n, e1, e2, l, q⟩ hq
  subst e1 e2
  cases ry
  have l2 : atI (ns.map V.int) i = some (.int n) := by
    unfold atI at l ⊢
    rw [List.length_map]
    cases e : ixN ns.length i with
    | none => rw [e] at l; cases l
    | some j =>
      rw [e] at l
      show (ns.map V.int)[j]? = some (V.int n)
      have l' : ns[j]? = some n := l
      rw [List.getElem?_map, l']; rfl
  cases rx with
  | scr m h => exact ⟨_, _, _, _, rfl, rfl, .inl h, l2, hq _ H _ q (Same.refl H) (.int _)⟩
  | scrK h => exact ⟨_, _, _, _, rfl, rfl, .inr h, l2, hq _ H _ q (Same.refl H) (.int _)⟩
theorem cad_lenD : CaD K (fun xs H Q => ∃ (a : Addr) (kvs : List (Key × V)), xs = [.ref a] ∧ H a = some (.dK kvs) ∧ Q (.int kvs.length) H) (fun ds k => False) := fun _ _ _ _ _ _ _ _ h => h.elim

/-! ### == of data -/
mutual
def D.pd : D → Option PyData
  | .non => some .none
  | .bl b => some (.bool b)
  | .int i => some (.int i)
  | .str s => some (.str s)
  | .lst xs => (D.pds xs).map .list
  | .tup xs => (D.pds xs).map .tuple
  | .ty _ => none
  | .glo _ => none
  | .dic _ => none
  | .obj _ _ => none
  | .stm => none
  | .scr _ => none
  | .exc0 _ _ => none
  | .exc _ _ _ _ _ => none
def D.pds : List D → Option (List PyData)
  | [] => some []
  | d :: r => match D.pd d, D.pds r with
    | some a, some b => some (a :: b)
    | _, _ => none
end
mutual
theorem dp_of {S : Addr → Prop} {H : Hp} : ∀ (d : D) (v : V) (p : PyData), Rep K S H v d → d.pd = some p → Dp K H v p
  | .non, _, p, r, e => by cases r; unfold D.pd at e; cases e; exact .non
  | .bl b, _, p, r, e => by cases r; unfold D.pd at e; cases e; exact .bl b
  | .int i, _, p, r, e => by cases r; unfold D.pd at e; cases e; exact .int i
  | .str s, _, p, r, e => by cases r; unfold D.pd at e; cases e; exact .str s
  | .lst xs, _, p, r, e => by
    unfold D.pd at e
    cases r with
    | lst n hh rr =>
      cases q : D.pds xs with
      | none => rw [q] at e; cases e
      | some ps => rw [q] at e; cases e; exact .lst (SqL.of hh) (dps_of xs _ ps rr q)
  | .tup xs, _, p, r, e => by
    unfold D.pd at e
    cases r with
    | tup n hh rr =>
      cases q : D.pds xs with
      | none => rw [q] at e; cases e
      | some ps => rw [q] at e; cases e; exact .tup (SqT.of hh) (dps_of xs _ ps rr q)
  | .ty _, _, p, r, e => by unfold D.pd at e; cases e
  | .glo _, _, p, r, e => by unfold D.pd at e; cases e
  | .dic _, _, p, r, e => by unfold D.pd at e; cases e
  | .obj _ _, _, p, r, e => by unfold D.pd at e; cases e
  | .stm, _, p, r, e => by unfold D.pd at e; cases e
  | .scr _, _, p, r, e => by unfold D.pd at e; cases e
  | .exc0 _ _, _, p, r, e => by unfold D.pd at e; cases e
  | .exc _ _ _ _ _, _, p, r, e => by unfold D.pd at e; cases e
theorem dps_of {S : Addr → Prop} {H : Hp} : ∀ (ds : List D) (vs : List V) (ps : List PyData), Reps K S H vs ds → D.pds ds = some ps → DpAll K H vs ps
  | [], _, ps, r, e => by cases r; unfold D.pds at e; cases e; exact .nil
  | d :: ds, _, ps, r, e => by
    cases r with
    | cons h t =>
      unfold D.pds at e
      cases q1 : d.pd with
      | none => rw [q1] at e; cases e
      | some a =>
        cases q2 : D.pds ds with
        | none => rw [q1, q2] at e; cases e
        | some b => rw [q1, q2] at e; cases e; exact .cons (dp_of d _ a h q1) (dps_of ds _ b t q2)
end
theorem opd_eqD : OpD K (rEqD K) (fun a b k => ∃ p q, a.pd = some p ∧ b.pd = some q ∧ SeqAt.shaped p = true ∧ SeqAt.shaped q = true ∧ k (.bl (PyData.eqv p q))) := by
  intro S H x y a b Q k dm rx ry ⟨p, q, e1, e2, s1, s2, h⟩ hq
  exact ⟨p, q, dp_of a x p rx e1, dp_of b y q ry e2, s1, s2, hq _ H _ h (Same.refl H) (.bl _)⟩
theorem opd_neD : OpD K (rNeD K) (fun a b k => ∃ p q, a.pd = some p ∧ b.pd = some q ∧ SeqAt.shaped p = true ∧ SeqAt.shaped q = true ∧ k (.bl (!PyData.eqv p q))) := by
  intro S H x y a b Q k dm rx ry ⟨p, q, e1, e2, s1, s2, h⟩ hq
  exact ⟨p, q, dp_of a x p rx e1, dp_of b y q ry e2, s1, s2, hq _ H _ h (Same.refl H) (.bl _)⟩
/-! ### isinstance -/
/-- what isinstance asks of an own class -/
structure InsK (K : PySem.W.Frag) (c : Str) : Prop where
  cl : Cls K (He.ga K c)
  ha : PySem.W.findIn K (.ref (He.ga K c)) "__class__" = some (some (.builtin "object.__class__"))
  hn : PySem.W.specialIn K (.builtin "object.__class__") "__get__" = some (some (.builtin "getset_descriptor.__get__"))
  htk : PySem.W.takesIn K (.builtin "object.__class__") = some true
  hm : PySem.W.mroIn K (He.ga K c) (.type "object") = some true
theorem insB_ok {K : PySem.W.Frag} {c : Str} (h : insB K c = true) : InsK K c := by
  obtain ⟨h1, h⟩ := He.ba h
  obtain ⟨h2, h⟩ := He.ba h
  obtain ⟨h3, h⟩ := He.ba h
  obtain ⟨h4, h5⟩ := He.ba h
  exact ⟨He.cls_ok h1, He.eqO_ok h2, He.eqO_ok h3, of_decide_eq_true h4, of_decide_eq_true h5⟩
inductive TyD (K : PySem.W.Frag) : D → Value → Prop where
  | non : TyD K .non (.type "NoneType")
  | bl (b : Bool) : TyD K (.bl b) (.type "bool")
  | int (i : Int) : TyD K (.int i) (.type "int")
  | str (s : Str) : TyD K (.str s) (.type "str")
  | lst (xs : List D) : TyD K (.lst xs) (.type "list")
  | tup (xs : List D) : TyD K (.tup xs) (.type "tuple")
  | dic (xs : List (Key × D)) : TyD K (.dic xs) (.type "dict")
  | obj (c : Str) (fs : List (Str × D)) (h : InsK K c) : TyD K (.obj c fs) (.ref (He.ga K c))
theorem tyx_of {S : Addr → Prop} {H : Hp} {v : V} {d : D} {t : Value} (r : Rep K S H v d) (h : TyD K d t) : TyX K H v t := by
  cases h with
  | non => cases r; exact .base .non
  | bl b => cases r; exact .base (.bl b)
  | int b => cases r; exact .base (.int b)
  | str b => cases r; exact .base (.str b)
  | lst xs => cases r with | lst n hh rr => exact .base (.lst hh)
  | tup xs => cases r with | tup n hh rr => exact .base (.tup hh)
  | dic xs =>
    cases r with
    | dic n hh e rr =>
      rcases hh with hh | ⟨o, hh⟩
      · exact .base (.dK hh)
      · exact .fDict hh
  | obj c fs hc => cases r with | obj n hh e rr => exact .base (.ins hh hc.cl hc.ha hc.hn hc.htk hc.hm)
inductive ClD (K : PySem.W.Frag) : D → Value → Prop where
  | ty (n : String) : ClD K (.ty n) (.type n)
  | glo (x : Str) : ClD K (.glo x) (.ref (He.ga K x))
theorem cad_isi : CaD K (rIsi K) (fun ds k => ∃ d c t u b, ds = [d, c] ∧ TyD K d t ∧ ClD K c u ∧ PySem.W.kitOne K t u = some b ∧ k (.bl b)) := by
  intro S H xs ds Q k dm rx ⟨d, c, t, u, b, e, ht, hc, hk, q⟩ hq
  subst e
  cases rx with
  | cons h1 tt =>
    cases tt with
    | cons h2 t2 =>
      cases t2
      refine ⟨_, _, t, u, b, rfl, ?_, tyx_of h1 ht, hk, hq _ H _ q (Same.refl H) (.bl _)⟩
      cases hc with
      | ty n => cases h2; exact .ty n
      | glo x => cases h2; exact .own _
end
end Fw

set_option maxHeartbeats 4000000
/-! Calls under which no display is under way: room with guards. -/
namespace Fw
open PySem PySem.Spec PyProof.Rows L2
structure RoomG (k : Nat) (A : Around) : Prop where
  rm : Room k A
  gd : A.guards = some []
section
variable {k j : Nat} {A : Around}
theorem RoomG.mono (r : RoomG k A) (h : j ≤ k) : RoomG j A := ⟨r.rm.mono h, r.gd⟩
theorem RoomG.in1 (r : RoomG (k + 1) A) : RoomG k A.in1 := ⟨r.rm.in1, r.gd⟩
theorem RoomG.deeper (r : RoomG (k + 1) A) (env : Env) : RoomG k (A.deeper env) := ⟨r.rm.deeper env, r.gd⟩
theorem RoomG.make (r : RoomG (k + 1) A) (C : Addr) (us : List Value) : RoomG k (A.under (.builtin "type.__call__" ⟨.ref C :: us, []⟩)) := ⟨r.rm.make C us [], by
  have e : (Code.builtin "type.__call__" ⟨.ref C :: us, []⟩).guards = [] := by
    have g0 : (Code.builtin "type.__call__" ⟨.ref C :: us, []⟩).isGuard = false := by
      show guardIds.contains "type.__call__" = false
      decide +kernel
    unfold Code.guards
    rw [g0]; rfl
  simp [Around.under, pushGuards, e, r.gd]⟩
end
/-- a def's promise, where no display is under way -/
structure FnG (P : Program) (w : World) (K : PySem.W.Frag) (mg : Str → Option Value) (base : Heap) (CX : CXT) (k : Nat) (f : Addr) (fd : FuncData) (ps : List Str) (sp : Sp) : Prop where
  len : ∀ vs H Q E, sp vs H Q E → vs.length = ps.length
  run : ∀ (A : Around) (outer : List Env) (s : Shared) (H : Hp) (args : Args) (us : List Value) (vs : List V) (Q : VK) (E : XK), RoomG k A → Env0 P w K mg base A outer s H → BindsTo s fd args (ps.zip us) → Vals vs us → sp vs H Q E →
    codeAny (model P w) A (.call (.ref f) args) (CR CX outer P w H s Q E) s
section
variable {X : Cx} {CX : CXT} {k : Nat} {f C : Addr} {fd : FuncData} {ps : List Str} {sp : Sp} {E : XK} {x m : Str} {p pos apos : Pos} {e o : Expr} {es : List Expr} {ta : TE} {t : TA} {pins : List (Addr × Obj)} {σ : L2.St} {H : Hp} {s : Shared} {Q : VK} {us : List Value} {vs : List V}
theorem FnG.go (G : FnG X.prog X.w X.K X.mg X.base CX k f fd ps sp) (hr : RoomG k X.A) (hb : Binds X.K fd ps []) (hx : Passes CX X E) (I : Inv X pins σ H s) (r : Vals vs us) (h : sp vs H Q E) : wpAny (model X.prog X.w) X.A (call (.ref f) us) (EP X pins σ Q) X.xe s := by
  have nl : (us ++ []).length = ps.length := by
    have l1 := G.len _ _ _ _ h
    have l2 := r.length
    rw [List.append_nil]; omega
  have b0 := hb s us I.kIn nl
  rw [List.append_nil] at b0
  have g0 := G.run X.A X.stack s H ⟨us, []⟩ us vs Q E hr I.env0 b0 r h
  refine wpAny_call (codeAny_mono g0 fun res st hq => ?_)
  match res, hq with
  | .error er, hq => exact hx pins σ H s er st I hq
  | .ok (.ret _), hq => exact I.after hq
theorem FnG.code (G : FnG X.prog X.w X.K X.mg X.base CX k f fd ps sp) (hr : RoomG k X.A) (hb : Binds X.K fd ps []) (hx : Passes CX X E) (I : Inv X pins σ H s) (r : Vals vs us) (h : sp vs H Q E) :
    codeAny (model X.prog X.w) X.A (.call (.ref f) ⟨us, []⟩) (fun res st => match res with | .ok (.ret v) => EP X pins σ Q v st | .ok _ => False | .error er => X.xe er st) s := by
  have nl : (us ++ []).length = ps.length := by
    have l1 := G.len _ _ _ _ h
    have l2 := r.length
    rw [List.append_nil]; omega
  have b0 := hb s us I.kIn nl
  rw [List.append_nil] at b0
  refine codeAny_mono (G.run X.A X.stack s H ⟨us, []⟩ us vs Q E hr I.env0 b0 r h) fun res st hq => ?_
  match res, hq with
  | .error er, hq => exact hx pins σ H s er st I hq
  | .ok (.ret _), hq => exact I.after hq
theorem g_call (G : FnG X.prog X.w X.K X.mg X.base CX k f fd ps sp) (hr : RoomG k X.A) (hg : Gl X x) (hm : X.mg x = some (.ref f)) (hk : PySem.W.keepIn X.K (.ref f) = true) (hb : Binds X.K fd ps []) (hx : Passes CX X E) (ha : PA X (e :: es) t)
    (hdb : (x == ("__debug__" : Str)) = false) (h1 : starEach (e :: es) X.env = (false, eval e X.env) :: starEach es X.env) (h2 : (backTo pos (starEach es X.env)).any (·.1) = false) : PE X (.Call (.Name x p) (e :: es) [] pos) (tCall sp [] E t) := ⟨fun pins s σ H Q I h =>
  wpAny_Call_Name_kw (ld_glob I hg hm (PySem.W.callWith_K (h₀ := X.base) I.ok.mod.kin hk (thn (ha.run pos pins s σ H _ I h) fun us s1 ⟨vs, H1, I1, r, q⟩ => ⟨I1.kIn, G.go hr hb hx I1 r (by
    have q' : sp (vs ++ []) H1 Q E := q
    rwa [List.append_nil] at q')⟩) h1 h2) hdb)⟩
theorem g_call0 (G : FnG X.prog X.w X.K X.mg X.base CX k f fd ps sp) (hr : RoomG k X.A) (hg : Gl X x) (hm : X.mg x = some (.ref f)) (hk : PySem.W.keepIn X.K (.ref f) = true) (hb : Binds X.K fd ps []) (hx : Passes CX X E) (hdb : (x == ("__debug__" : Str)) = false) : PE X (.Call (.Name x p) [] [] pos) (tCall sp [] E tNil) := ⟨fun pins s σ H Q I h =>
  wpAny_Call_Name_kw (ld_glob I hg hm (PySem.W.callWith_K0 I.kIn hk (G.go (us := []) hr hb hx I .nil h)) hdb)⟩
theorem g_meth {pl : Sem Bool} (he : PE X o ta) (c : Cls X.K C) (hm : Meth X.K C m f) (G : FnG X.prog X.w X.K X.mg X.base CX k f fd ps sp) (hr : RoomG k X.A) (hb : Binds X.K fd ps []) (hx : Passes CX X E) (ha : PA X (e :: es) t)
    (h1 : starEach (e :: es) X.env = (false, eval e X.env) :: starEach es X.env) (h2 : (backTo pos (starEach es X.env)).any (·.1) = false)
    (ht : eval (.Call (.Attribute o m apos) (e :: es) [] pos) X.env = (do
      let ov ← eval o X.env
      standAt apos.atName
      let (f, first) ← holding [ov] (getMethod ov m pl)
      callWith pos f first (backTo pos (starEach (e :: es) X.env)) (backToKw pos (keywordEach [] X.env)))) : PE X (.Call (.Attribute o m apos) (e :: es) [] pos) (tMeth C m sp [] E ta t) := ⟨fun pins s σ H Q I h =>
  PySem.W.methodCall_KW (pl := pl) (thn (he.run pins s σ H _ I h) fun u s1 ⟨y, H1, I1, ry, a, dx, fs, ey, ea, l, q⟩ => by
    subst ey
    cases ry
    exact getmeth_ok I1 ea c hm l (PySem.W.callWith_K (first := [.ref a]) (h₀ := X.base) I.ok.mod.kin hm.kp (thn (ha.run pos pins s1 σ H1 _ I1 q) fun us s2 ⟨vs, H2, I2, r, q2⟩ => ⟨I2.kIn, G.go (us := .ref a :: us) (vs := .ref a :: vs) hr hb hx I2 (.cons rfl r) (by
      have q' : sp (V.ref a :: (vs ++ [])) H2 Q E := q2
      rwa [List.append_nil] at q')⟩) h1 h2)) ht⟩
theorem g_meth0 {pl : Sem Bool} (he : PE X o ta) (c : Cls X.K C) (hm : Meth X.K C m f) (G : FnG X.prog X.w X.K X.mg X.base CX k f fd ps sp) (hr : RoomG k X.A) (hb : Binds X.K fd ps []) (hx : Passes CX X E)
    (ht : eval (.Call (.Attribute o m apos) [] [] pos) X.env = (do
      let ov ← eval o X.env
      standAt apos.atName
      let (f, first) ← holding [ov] (getMethod ov m pl)
      callWith pos f first (backTo pos (starEach [] X.env)) (backToKw pos (keywordEach [] X.env)))) : PE X (.Call (.Attribute o m apos) [] [] pos) (tMeth C m sp [] E ta tNil) := ⟨fun pins s σ H Q I h =>
  PySem.W.methodCall_KW (pl := pl) (thn (he.run pins s σ H _ I h) fun u s1 ⟨y, H1, I1, ry, a, dx, fs, ey, ea, l, q⟩ => by
    subst ey
    cases ry
    exact getmeth_ok I1 ea c hm l (PySem.W.callWith_K0 (first := [.ref a]) I1.kIn hm.kp (G.go (us := [.ref a]) (vs := [.ref a]) hr hb hx I1 (.cons rfl .nil) q))) ht⟩
theorem g_made (M : Mk X.K C f) (G : FnG X.prog X.w X.K X.mg X.base CX k f fd ps sp) (hr : RoomG (k + 1) X.A) (hb : Binds X.K fd ps []) (hx : Passes CX X E) (I : Inv X pins σ H s) (r : Vals vs us)
    (h : ∀ x dx, H x = none → H dx = none → dx ≠ x → sp (.ref x :: vs) (upd (upd H dx (.own x)) x (.ins C dx [])) (fun v H2 => v = .non ∧ Q (.ref x) H2) E) : wpAny (model X.prog X.w) X.A (call (.ref C) us) (EP X pins σ Q) X.xe s := by
  have h0 := h (s.heap.objs.size + 1) s.heap.objs.size (I.hok.fresh (Nat.le_succ _)) (I.hok.fresh (Nat.le_refl _)) (Nat.ne_of_lt (Nat.lt_succ_self _))
  have J := Inv.made (C := C) I
  have rr : Vals (V.ref (s.heap.objs.size + 1) :: vs) (Value.ref (s.heap.objs.size + 1) :: us) := .cons rfl r
  have nl : ((Value.ref (s.heap.objs.size + 1) :: us) ++ []).length = ps.length := by
    have l1 := G.len _ _ _ _ h0
    have l2 := rr.length
    rw [List.append_nil]; omega
  have b0 := hb _ (Value.ref (s.heap.objs.size + 1) :: us) J.kIn nl
  rw [List.append_nil] at b0
  have g0 := G.run _ X.stack _ _ ⟨Value.ref (s.heap.objs.size + 1) :: us, []⟩ _ _ _ E (hr.make C us) (J.env0.make C us []) b0 rr h0
  refine wpAny_call (make_map (f := f) I.kIn M.makes M.init (beq_iff_eq.mp M.fn) (codeAny_mono g0 fun res st hq => ?_))
  match res, hq with
  | .error er, hq => exact hx pins σ _ _ er st J hq
  | .ok (.ret _), hq =>
    obtain ⟨v, H', I3, rv, ev, q3⟩ := J.after hq
    subst ev
    exact ⟨rv, V.ref (s.heap.objs.size + 1), H', I3, rfl, q3⟩
theorem g_make (M : Mk X.K C f) (G : FnG X.prog X.w X.K X.mg X.base CX k f fd ps sp) (hr : RoomG (k + 1) X.A) (hg : Gl X x) (hm : X.mg x = some (.ref C)) (hb : Binds X.K fd ps []) (hx : Passes CX X E) (ha : PA X (e :: es) t)
    (hdb : (x == ("__debug__" : Str)) = false) (h1 : starEach (e :: es) X.env = (false, eval e X.env) :: starEach es X.env) (h2 : (backTo pos (starEach es X.env)).any (·.1) = false) : PE X (.Call (.Name x p) (e :: es) [] pos) (tMake C sp [] E t) := ⟨fun pins s σ H Q I h =>
  wpAny_Call_Name_kw (ld_glob I hg hm (PySem.W.callWith_K (h₀ := X.base) I.ok.mod.kin M.kp (thn (ha.run pos pins s σ H _ I h) fun us s1 ⟨vs, H1, I1, r, q⟩ => ⟨I1.kIn, g_made M G hr hb hx I1 r (by
    intro y dy a b c
    have q' : sp (.ref y :: (vs ++ [])) (upd (upd H1 dy (.own y)) y (.ins C dy [])) (fun v H2 => v = .non ∧ Q (.ref y) H2) E := q y dy a b c
    rwa [List.append_nil] at q')⟩) h1 h2) hdb)⟩
theorem g_prop {pp g : Addr} {fnm : Str} (he : PE X e ta) (c : Cls X.K C) (hp : PropOf X.K C fnm pp g) (G : FnG X.prog X.w X.K X.mg X.base CX k g fd ps sp) (hr : RoomG (k + 1) X.A) (hb : Binds X.K fd ps []) (hx : Passes CX X.nox E)
    (hab : attributeBase e fnm X.env (eval e X.env) = eval e X.env) : PE X (.Attribute e fnm pos) (tProp C sp [] E ta) := ⟨fun pins s σ H Q I h =>
  attr_of hab (thn (he.run pins s σ H _ I h) fun u s1 ⟨y, H1, I1, ry, a, dx, fs, ey, ea, q⟩ => by
    subst ey
    cases ry
    obtain ⟨mA, O, _, _, _, _⟩ := ins_get I1.hok ea
    obtain ⟨od, J, _⟩ := O.look
    obtain ⟨rest, hrec⟩ := hp.rec_
    have I2 := I1.tok (s1.toks + 1)
    have nl : ([Value.ref a] ++ []).length = ps.length := by rw [← G.len _ _ _ _ q]; rfl
    have some_ : (PySem.W.clsIn X.K C).isSome = true := by
      obtain ⟨cd, hc, _⟩ := PySem.W.any_some c.hd
      rw [hc]; rfl
    have b0 := hb { s1 with toks := s1.toks + 1 } [.ref a] I2.kIn nl
    have g0 := G.run X.A.in1 X.stack { s1 with toks := s1.toks + 1 } H1 ⟨[.ref a], []⟩ [.ref a] [.ref a] Q E hr.in1 I2.env0.in1 b0 (.cons rfl .nil) q
    refine PySem.W.get_bind I1.kIn J (PySem.W.plainGet_of (c.get fnm)).1 (PySem.W.findObj_data some_ hp.at_ hp.get hp.tak) (PySem.W.plainGet_of (c.get fnm)).2 (wpAny_call (PySem.W.prop_get (s := { s1 with toks := s1.toks + 1 }) I1.kIn hrec (codeAny_mono g0 fun res st hq => ?_)))
    match res, hq with
    | .error er, hq => exact (hx pins σ H1 { s1 with toks := s1.toks + 1 } er st (I2.wish _) hq).elim
    | .ok (.ret u), hq =>
      obtain ⟨v, H', I3, rv, q3⟩ := I2.after hq
      show wpAny _ _ (handedOut u) _ _ _
      rw [PySem.W.handedOut_of (handed_of rv)]
      exact wpAny_pure ⟨v, H', I3, rv, q3⟩)⟩
end
section
variable {CX : CXT} {P : Program} {w : World} {K : PySem.W.Frag} {mg : Str → Option Value} {base : Heap} {k : Nat} {f : Addr} {x qual : Str} {params : Arguments} {body : List Stmt} {scope : Scope} {fd : FuncData} {N ps : List Str} {sp : Sp}
/-- a def by its body -/
theorem g_fun (F : FunD K x qual params body scope [] [] f fd) (S : FnScope N ps scope) (len : ∀ vs H Q E, sp vs H Q E → vs.length = ps.length)
    (hbody : ∀ (cdv : Value) (A : Around) (outer : List Env) (s : Shared) (H : Hp) (vs : List V) (Q : VK) (E : XK), RoomG k (A.deeper (envOfC qual scope s.heap.objs.size f cdv)) → sp vs H Q E →
      ∃ t, PSs (cxOf CX P w K mg base N qual scope f cdv A outer s H E) body t ∧ t { nx := fun _ H' => Q .non H', rt := Q } (start N vs) H) : FnG P w K mg base CX (k + 1) f fd ps sp := by
  obtain ⟨oc, od, dV, kV, doc, pm, an, cdv, ct, osl, rfl, lk, hcd, _, _⟩ := F.ex
  refine ⟨len, fun A outer s H args us vs Q E hr e0 hb r hsp => ?_⟩
  have inK : K.In s.heap := e0.mod.kin.keeps fun b o e => (e0.bs b o e).1
  have nolim : s.heap.NoLimit := e0.mod.nolimit.keeps fun b o e => (e0.bs b o e).1
  refine codeAny_call_function hr.rm.depth (inK _ _ lk) rfl S.co S.gen rfl (PySem.W.codeRec_of inK hcd) (hb _ _ _ _ (wpAny_newFunctionEnv_cells S.kind (fun pr hpr => ?_) fun env henv s1 ent => ?_))
  · rcases S.par pr.1 (List.of_mem_zip (a := pr.1) (b := pr.2) hpr).1 with z | z
    · exact Or.inl z
    · exact Or.inr ⟨z, PySem.W.cellsFrom_some _ _ _ (Or.inl z)⟩
  · subst henv
    refine ⟨nolim.keeps ent.toInCall.keep, codeAny_func ?_⟩
    obtain ⟨t, ht, hq⟩ := hbody cdv A outer s H vs Q E (hr.deeper _) hsp
    have I0 : Inv (cxOf CX P w K mg base N qual scope f cdv A outer s H E) [] (start N vs) H s1 := inv_start S hr.rm.hd e0 (len _ _ _ _ hsp) r ent
    refine wpAny_mono (ht.run [] s1 (start N vs) H _ I0 hq) (fun fl st hs => ?_) fun _ _ z => z
    cases fl with
    | ret u =>
      obtain ⟨v, σ', H', J, rv, q⟩ := hs
      exact ⟨v, H', J.os, J.bare, J.base, J.hok, rv, q⟩
    | next =>
      obtain ⟨σ', H', J, q⟩ := hs
      exact ⟨V.non, H', J.os, J.bare, J.base, J.hok, rfl, q⟩
    | brk => obtain ⟨_, _, _, z⟩ := hs; exact z.elim
    | cont => obtain ⟨_, _, _, z⟩ := hs; exact z.elim
end
end Fw

set_option maxHeartbeats 4000000
/-! The end, for a law that may ask that no display is under way. -/
namespace Fw
open PySem PySem.Spec PyProof.Rows L2
theorem callerG {k : Nat} (hr : Room k callerA) : RoomG k callerA := ⟨hr, rfl⟩
theorem g_law {P : Program} {w : World} {K : PySem.W.Frag} {mg mb : Str → Option Value} {CX : CXT} {k : Nat} {fa l : Addr} {fd : FuncData} {x : Str} {sp : Sp} {s1 : Shared} {ws : List Value} {js : List Int}
    (inK : K.In s1.heap) (glob : s1.heap.Ns mainGlobals mg) (blt : s1.heap.Ns builtinsNs mb) (bltb : ∀ y : Str, y ≠ "__name__" → mb y = bootBuiltins y) (nolim : s1.heap.NoLimit) (gens : s1.gens = #[])
    (hl : s1.heap.get? l = some { cls := .type "list", data := .seq ws.toArray }) (areI : IntsAre ws js) (short : js.length ≤ sizeLine) (room : Room k callerA)
    (G : ∀ b : Heap, K.In b → b.Ns mainGlobals mg → FnG P w K mg b CX k fa fd [x] sp) (bind : ∀ (s : Shared) (u : Value), BindsTo s fd ⟨[u], []⟩ [(x, u)])
    (want : ∀ H : Hp, Only H → SqL K H l (js.map V.int) → sp [.ref l] H (fun v _ => v = .bl true) fun _ _ _ => False) (noX : ∀ H e st, CX [] H s1 (fun _ _ _ => False) e st → False) :
    codeAny (model P w) callerA (.call (.ref fa) ⟨[.ref l], []⟩) (fun res st => res = .ok (.ret (.bool true)) ∧ OldK s1.heap st.heap ∧ st.os = s1.os ∧ AllBare st.gens) s1 := by
  have rel := vals_ints areI
  have size := areI.length
  have from_ : ∀ H : Hp, Only H → SqL K H l (js.map V.int) → HOk P w H s1.heap → (∀ b, H b ≠ none → b = l) → (H l ≠ none → K.lookup l = none) → codeAny (model P w) callerA (.call (.ref fa) ⟨[.ref l], []⟩) (fun res st => res = .ok (.ret (.bool true)) ∧ OldK s1.heap st.heap ∧ st.os = s1.os ∧ AllBare st.gens) s1 := fun H only sq ok one apart => by
    have hid : ∀ {b : Addr} {o : Obj}, s1.heap.get? b = some o → H b = none → (hidT s1.heap H).get? b = some o := fun g n => hidT_get g n
    have hidNs : ∀ {b : Addr} {m : Str → Option Value}, s1.heap.Ns b m → (hidT s1.heap H).Ns b m := fun {b m} ⟨o, es, ep, g, d, r⟩ => ⟨o, es, ep, hid g (by
      cases q : H b with
      | none => rfl
      | some u =>
        have eb : b = l := one b (by rw [q]; exact fun z => by cases z)
        rw [eb, hl] at g
        cases g
        have z : Data.seq ws.toArray _ = Data.dict es ep := d
        cases z), d, r⟩
    have hidK : K.In (hidT s1.heap H) := fun b o g => hid (inK b o g) (by
      cases q : H b with
      | none => rfl
      | some u =>
        have eb : b = l := one b (by rw [q]; exact fun z => by cases z)
        have z := apart (by rw [← eb, q]; exact fun z => by cases z)
        rw [eb, z] at g
        cases g)
    have mod_ : Mod K mg (hidT s1.heap H) := ⟨hidK, hidNs glob, ⟨mb, hidNs blt, bltb⟩, let ⟨mc, h1, h2⟩ := nolim; ⟨mc, hidNs h1, h2⟩⟩
    have env : Env0 P w K mg (hidT s1.heap H) callerA [] s1 H := ⟨rfl, mod_, fun b o g => of_hidT g, Nat.le_of_eq (hidT_size _ _), trivial, (fun b hb => by cases hb), ok, .of_eq gens⟩
    have ran := (G _ hidK (hidNs glob)).run callerA [] s1 H ⟨[.ref l], []⟩ [.ref l] [.ref l] _ _ (callerG room) env (bind s1 (.ref l)) (.cons rfl .nil) (want H only sq)
    refine codeAny_mono ran fun res st h => ?_
    cases res with
    | error e => exact (noX H e st h).elim
    | ok fl =>
      cases fl with
      | ret u =>
        obtain ⟨v, H2, os, bare, un, ok2, ru, q⟩ := h
        have ev : v = .bl true := q
        rw [ev] at ru
        have eu : u = Value.bool true := ru
        rw [eu]
        refine ⟨rfl, OldK.of_keep fun b o g => ?_, os, bare⟩
        cases qb : H b with
        | none => exact un.keep b o g qb (fun z => by cases z) (fun z => by cases z)
        | some u2 =>
          rcases only b with z | ⟨ob, xs, z⟩
          · rw [qb] at z; cases z
          · obtain ⟨g1, _⟩ := ok b _ z
            obtain ⟨g2, _⟩ := ok2 b _ (un.frzs b ob _ z)
            rw [g] at g1
            cases g1
            exact g2
      | next => exact h.elim
      | brk => exact h.elim
      | cont => exact h.elim
  cases own : K.lookup l with
  | some o =>
    have g := inK l o own
    rw [hl] at g
    cases g
    exact from_ (fun _ => none) (fun _ => .inl rfl) (.inr ⟨_, ws.toArray, _, own, rfl, rfl, rfl, by rw [List.size_toArray, size]; exact short, by simpa using rel⟩) (fun b u z => by cases (show (none : Option HO) = some u from z)) (fun b z => (z rfl).elim) fun z => (z rfl).elim
  | none =>
    let Hl : Hp := fun b => if b = l then some (.frz { cls := .type "list", data := .seq ws.toArray } (.lst (js.map V.int))) else none
    have at_ : Hl l = some (.frz { cls := .type "list", data := .seq ws.toArray } (.lst (js.map V.int))) := if_pos rfl
    have off : ∀ b, b ≠ l → Hl b = none := fun b hb => if_neg hb
    refine from_ Hl (fun b => ?_) (.inl (.inr ⟨_, at_⟩)) (fun b u z => ?_) (fun b z => Classical.byContradiction fun hb => z (off b hb)) fun _ => own
    · by_cases hb : b = l
      · exact .inr ⟨_, _, by rw [hb]; exact at_⟩
      · exact .inl (off b hb)
    · by_cases hb : b = l
      · subst hb
        rw [at_] at z
        cases z
        exact ⟨hl, by rw [List.length_map]; exact short, ws, _, rel, hl⟩
      · rw [off b hb] at z; cases z
theorem walk_ofG {l : PySem.W.OpenLaw} {n k : Nat} {q : Program} {loose : List Str} {XP : (Str → Option Value) → Heap → Prop} {YP : World → Heap → Prop} {d : DefRec} {CX : CXT} {x : Str}
    (most : l.most = some n) (small : n ≤ sizeLine) (nodef : d.params.defaults = []) (room : Room k callerA)
    (G : ∀ (w : World) (mg : Str → Option Value) (fa : Addr) (h : Heap), YP w h → h.Ns mainGlobals mg → mg d.name = some (.ref fa) → ∃ (K : PySem.W.Frag) (fd : FuncData) (sp : Sp), K.In h ∧ (∀ (s : Shared) (u : Value), BindsTo s fd ⟨[u], []⟩ [(x, u)]) ∧
      (∀ (H : Hp) (a : Addr) (ns : List Int), ns.length ≤ n → Only H → SqL K H a (ns.map V.int) → sp [.ref a] H (fun v _ => v = .bl true) fun _ _ _ => False) ∧ ∀ b : Heap, K.In b → b.Ns mainGlobals mg → FnG l.prog w K mg b CX k fa fd [x] sp)
    (noX : ∀ (H : Hp) (s : Shared) (e : Value) (st : Shared), CX [] H s (fun _ _ _ => False) e st → False) : PySem.W.WalkO q loose XP YP l.row.toRowW d [] (fun f vs => PySem.call f vs) := by
  refine Att.attach_call most nodef fun w s0 s1 mg mb fa o pm cd doc a vs ns T Y ho hd hcd hmg hobj hints hlen hg => ?_
  obtain ⟨K, fd, sp, inK, bind, want, run⟩ := G w mg fa _ Y T.T.g hmg
  exact g_law inK T.T.g T.T.b T.T.builtins T.T.nolimit hg hobj hints (Nat.le_trans hlen small) room run bind (fun H hO hS => want H a ns hlen hO hS) fun H e st => noX H s1 e st
end Fw

set_option maxHeartbeats 4000000
/-! Own special methods: len, in, operators, ==, subscripts; list(d.values()). -/
namespace Fw
open PySem PySem.Spec PyProof.Rows L2
section
variable {X : Cx} {CX : CXT} {k : Nat} {f C Dc : Addr} {fd : FuncData} {ps : List Str} {sp : Sp} {E : XK} {pins : List (Addr × Obj)} {σ : L2.St} {H : Hp} {s : Shared} {A : Around}
theorem call_at {Q : VK} {us : List Value} {vs : List V} (F : FnG X.prog X.w X.K X.mg X.base CX k f fd ps sp) (hr : RoomG k A) (hA : A.frames = X.A.frames) (hb : Binds X.K fd ps []) (hx : Passes CX X E)
    (I : Inv X pins σ H s) (r : Vals vs us) (h : sp vs H Q E) : wpAny (model X.prog X.w) A (call (.ref f) us) (EP X pins σ Q) X.xe s := by
  have hl : (us ++ []).length = ps.length := by rw [List.append_nil, ← r.length]; exact F.len _ _ _ _ h
  have e0 : Env0 X.prog X.w X.K X.mg X.base A X.stack s H := by
    have e := I.env0
    exact ⟨by rw [hA]; exact e.frames, e.mod, e.bs, e.bsz, e.funs, e.frf, e.hok, e.bare⟩
  have hb' := hb s us I.kIn hl
  rw [List.append_nil] at hb'
  refine wpAny_call (codeAny_mono (F.run A X.stack s H ⟨us, []⟩ us vs Q E hr e0 hb' r h) fun r s' hq => ?_)
  cases r with
  | error e => exact hx pins σ H s e s' I hq
  | ok fl =>
    cases fl with
    | ret u => exact I.after hq
    | next => exact False.elim hq
    | brk => exact False.elim hq
    | cont => exact False.elim hq
theorem rr {a : Addr} : RelV (.ref a) (Value.ref a) := rfl
theorem ins_at {a dx : Addr} {fs : List (Str × V)} (I : Inv X pins σ H s) (h : H a = some (.ins C dx fs)) : ∃ od, PySem.W.InstAt s.heap a (PySem.W.instObj C dx) C (some od) := by
  obtain ⟨mA, J, _⟩ := ins_get I.hok h
  obtain ⟨od, J, _⟩ := J.look
  exact ⟨od, J⟩
theorem back_ok {Q : Value → Shared → Prop} {v : V} {u : Value} {s : Shared} (r : RelV v u) (h : Q u s) : PySem.W.CmpBack Q u s := by
  cases v with
  | non => cases r; exact h
  | bl b => cases r; exact h
  | int i => obtain ⟨t, rfl⟩ := r; exact h
  | str i => obtain ⟨t, rfl⟩ := r; exact h
  | byt i => obtain ⟨t, rfl⟩ := r; exact h
  | flt i => obtain ⟨t, rfl⟩ := r; exact h
  | ref a => cases r; exact h
  | ty n => cases r; exact h
/-- len(o) -/
def rLenI (C : Addr) (sp : Sp) : List V → Hp → VK → Prop := fun xs H Q => ∃ a dx fs, xs = [.ref a] ∧ H a = some (.ins C dx fs) ∧ sp [.ref a] H (fun v H' => ∃ n : Int, v = .int n ∧ (0 ≤ n ∧ n < 2 ^ 63) ∧ Q (.int n) H') E0
theorem call_lenI (F : FnG X.prog X.w X.K X.mg X.base (L2.CX X.prog X.w) k f fd ps sp) (hr : RoomG (k + 1) X.A) (hm : Meth X.K C "__len__" f) (hb : Binds X.K fd ps []) : CallR X (.builtin "len") (rLenI C sp) := by
  intro pins s σ H xs us Q I r ⟨a, dx, fs, e, ha, h⟩
  subst e
  obtain ⟨u, eu, ru⟩ := vals1 r
  subst eu; cases ru
  obtain ⟨od, J⟩ := ins_at I ha
  obtain ⟨m, hF⟩ := I.fr
  refine PySem.W.len_K hF I.ok.mod.kin J hm.at_ hm.fn (wpAny_mono (call_at F hr.in1 rfl hb passL I (.cons (rr (a := a)) .nil) h) (fun v s' hv => ?_) fun _ _ z => z)
  obtain ⟨w, H', I', rw_, n, ew, hn, q⟩ := hv
  subst ew
  obtain ⟨t, rfl⟩ := rw_
  exact ⟨hn, .int n, H', I'.tok _, ⟨_, rfl⟩, q⟩
/-- x in o, x not in o -/
def rInI (C : Addr) (sp : Sp) (neg : Bool) : R2 := fun x y H Q => ∃ a dx fs, y = .ref a ∧ H a = some (.ins C dx fs) ∧ sp [.ref a, x] H (fun v H' => ∃ b : Bool, v = .bl b ∧ Q (.bl (if neg then !b else b)) H') E0
theorem op_inI (F : FnG X.prog X.w X.K X.mg X.base (L2.CX X.prog X.w) k f fd ps sp) (hr : RoomG k X.A) (hm : Meth X.K C "__contains__" f) (hb : Binds X.K fd ps []) : OpR X (compareOp .In) (rInI C sp false) := by
  intro pins s σ H x y v u Q I rx ry ⟨a, dx, fs, e, ha, h⟩
  subst e; cases ry
  obtain ⟨od, J⟩ := ins_at I ha
  obtain ⟨m, hF⟩ := I.fr
  refine PySem.W.in_K hF I.ok.mod.kin J hm.at_ hm.fn (wpAny_mono (call_at F hr rfl hb passL I (.cons (rr (a := a)) (.cons rx .nil)) h) (fun v s' hv => ?_) fun _ _ z => z)
  obtain ⟨w, H', I', rw_, b, ew, q⟩ := hv
  subst ew; cases rw_
  exact wpAny_truthy_bool ⟨.bl b, H', I', rfl, q⟩
theorem op_notInI (F : FnG X.prog X.w X.K X.mg X.base (L2.CX X.prog X.w) k f fd ps sp) (hr : RoomG k X.A) (hm : Meth X.K C "__contains__" f) (hb : Binds X.K fd ps []) : OpR X (compareOp .NotIn) (rInI C sp true) := by
  intro pins s σ H x y v u Q I rx ry ⟨a, dx, fs, e, ha, h⟩
  subst e; cases ry
  obtain ⟨od, J⟩ := ins_at I ha
  obtain ⟨m, hF⟩ := I.fr
  refine PySem.W.notIn_K hF I.ok.mod.kin J hm.at_ hm.fn (wpAny_mono (call_at F hr rfl hb passL I (.cons (rr (a := a)) (.cons rx .nil)) h) (fun v s' hv => ?_) fun _ _ z => z)
  obtain ⟨w, H', I', rw_, b, ew, q⟩ := hv
  subst ew; cases rw_
  exact wpAny_truthy_bool ⟨.bl (!b), H', I', rfl, q⟩
/-- o + p by an own method -/
def rBinI (C Dc : Addr) (sp : Sp) : R2 := fun x y H Q => ∃ a dx fs b dy gs, x = .ref a ∧ y = .ref b ∧ H a = some (.ins C dx fs) ∧ H b = some (.ins Dc dy gs) ∧ sp [.ref a, .ref b] H Q E0
theorem op_binI {op : Operator} (F : FnG X.prog X.w X.K X.mg X.base (L2.CX X.prog X.w) k f fd ps sp) (hr : RoomG k X.A) (hm : Meth X.K C (PySem.dunder op.info.2) f) (hc : PySem.W.selfFirst X.K C = true) (hb : Binds X.K fd ps []) : OpR X (binaryOp op) (rBinI C C sp) := by
  intro pins s σ H x y v u Q I rx ry ⟨a, dx, fs, b, dy, gs, e1, e2, ha, hb', h⟩
  subst e1 e2; cases rx; cases ry
  obtain ⟨od, J⟩ := ins_at I ha
  obtain ⟨od', J'⟩ := ins_at I hb'
  obtain ⟨m, hF⟩ := I.fr
  refine PySem.W.binop_K hF I.ok.mod.kin J J'.type hc hm.at_ hm.fn (wpAny_mono (call_at F hr rfl hb passL I (.cons (rr (a := a)) (.cons (rr (a := b)) .nil)) h) (fun v s' hv => ?_) fun _ _ z => z)
  obtain ⟨w, H', I', rw_, q⟩ := hv
  exact back_ok (Q := EP X pins σ Q) rw_ ⟨w, H', I', rw_, q⟩
end
section
open PySem.W PySem.Calls
variable {prog : Program} {w : World} {A : Around} {E : Value → Shared → Prop} {s : Shared} {K : Frag} {x C y Dc L f f2 : Addr} {h₀ : Heap} {m : Str → Option Value} {ox oy : Obj} {od od' : Option Obj}
/-- o op p, of two own classes that both have the method, none above the other -/
theorem bin_two {op : Operator} {rc rd : Option Value} {Q : Value → Shared → Prop} (F : Fr h₀ L s.heap m) (X₀ : K.In h₀) (I : InstAt s.heap x ox C od) (J : InstAt s.heap y oy Dc od') (hne : C ≠ Dc) (hc : selfFirst K C = true) (hd : selfFirst K Dc = true)
    (hs : findIn K (.ref C) (PySem.dunder op.info.2) = some (some (.ref f))) (hf : isFn K (.ref f) = true) (hs2 : findIn K (.ref Dc) (PySem.dunder op.info.2) = some (some (.ref f2)))
    (hr : findIn K (.ref C) (dunderR op.info.2) = some rc) (hp : rc = none ∨ ∃ g : Addr, rc = some (.ref g)) (hr2 : findIn K (.ref Dc) (dunderR op.info.2) = some rd) (hp2 : rd = none ∨ ∃ g : Addr, rd = some (.ref g)) (hsub : subIn K (.ref Dc) (.ref C) = some false)
    (h : wpAny (model prog w) A (call (.ref f) [.ref x, .ref y]) (PySem.W.CmpBack Q) E s) : wpAny (model prog w) A (binaryOp op (.ref x) (.ref y)) Q E s := by
  have X := X₀.keeps F.keep
  obtain ⟨cd, rest, hcd, hm⟩ := ksp_first hc
  obtain ⟨cd2, rest2, hcd2, hm2⟩ := ksp_first hd
  rcases hi : op.info with ⟨sym, nm'⟩
  rw [hi] at hs hr hs2 hr2
  dsimp only at hs hr hs2 hr2
  have one := ksp_try X I hs hf h
  obtain ⟨hh, g, d, tt, os⟩ := s
  have L1 : Looks (model prog w) hh (typeOf (.ref x)) (.ref C) := I.type
  have L2 : Looks (model prog w) hh (typeOf (.ref y)) (.ref Dc) := J.type
  have L3 : Looks (model prog w) hh (fillsNumberSlot (.ref C) nm') true := fills_K X hcd hm hs
  have L4 : Looks (model prog w) hh (fillsNumberSlot (.ref Dc) nm') true := fills_K X hcd2 hm2 hs2
  have L5 : Looks (model prog w) hh (isSubtype (.ref Dc) (.ref C)) false := looks_subIn X hsub
  have L6 : Looks (model prog w) hh (numberSlotInPython (.ref C) nm') true := ksp_inPy X hs hr hp
  have L7 : Looks (model prog w) hh (numberSlotInPython (.ref Dc) nm') true := ksp_inPy X hs2 hr2 hp2
  have hne' : (Value.ref C == Value.ref Dc) = false := Bool.eq_false_iff.mpr fun q => by
    have := beq_iff_eq.mp q
    cases this; exact hne rfl
  simp only [binaryOp, hi]
  refine wpAny_holding (wpAny_bind ?_)
  unfold binaryOp1
  refine wpAny_bind (L1.at (wpAny_bind (L2.at (wpAny_bind (L3.at ?_)))))
  simp only [hne', Bool.false_eq_true, if_false]
  ksp_lk
  refine wpAny_mono one (fun r s' hr' => ?_) fun _ _ e => e
  obtain ⟨v, rfl, hq⟩ := hr'
  ksp_lk
  exact hq
end
section
variable {X : Cx} {CX : CXT} {k : Nat} {f f2 C Dc : Addr} {fd : FuncData} {ps : List Str} {sp : Sp} {E : XK} {pins : List (Addr × Obj)} {σ : L2.St} {H : Hp} {s : Shared} {A : Around}
structure Bin2 (K : PySem.W.Frag) (C Dc : Addr) (nm : String) (f2 : Addr) : Prop where
  ne : C ≠ Dc
  sc : PySem.W.selfFirst K C = true
  sd : PySem.W.selfFirst K Dc = true
  at2 : PySem.W.findIn K (.ref Dc) (PySem.dunder nm) = some (some (.ref f2))
  r1 : PySem.W.findIn K (.ref C) (dunderR nm) = some none
  r2 : PySem.W.findIn K (.ref Dc) (dunderR nm) = some none
  sub : PySem.W.subIn K (.ref Dc) (.ref C) = some false
theorem op_binI2 {op : Operator} (F : FnG X.prog X.w X.K X.mg X.base (L2.CX X.prog X.w) k f fd ps sp) (hr : RoomG k X.A) (hm : Meth X.K C (PySem.dunder op.info.2) f) (b2 : Bin2 X.K C Dc op.info.2 f2) (hb : Binds X.K fd ps []) : OpR X (binaryOp op) (rBinI C Dc sp) := by
  intro pins s σ H x y v u Q I rx ry ⟨a, dx, fs, b, dy, gs, e1, e2, ha, hb', h⟩
  subst e1 e2; cases rx; cases ry
  obtain ⟨od, J⟩ := ins_at I ha
  obtain ⟨od', J'⟩ := ins_at I hb'
  obtain ⟨m, hF⟩ := I.fr
  refine bin_two hF I.ok.mod.kin J J' b2.ne b2.sc b2.sd hm.at_ hm.fn b2.at2 b2.r1 (.inl rfl) b2.r2 (.inl rfl) b2.sub (wpAny_mono (call_at F hr rfl hb passL I (.cons (rr (a := a)) (.cons (rr (a := b)) .nil)) h) (fun v s' hv => ?_) fun _ _ z => z)
  obtain ⟨w, H', I', rw_, q⟩ := hv
  exact back_ok (Q := EP X pins σ Q) rw_ ⟨w, H', I', rw_, q⟩
/-- ~o -/
def rInvI (C : Addr) (sp : Sp) : V → Hp → VK → Prop := fun x H Q => ∃ a dx fs, x = .ref a ∧ H a = some (.ins C dx fs) ∧ sp [.ref a] H Q E0
theorem un_invI (F : FnG X.prog X.w X.K X.mg X.base (L2.CX X.prog X.w) k f fd ps sp) (hr : RoomG k X.A) (hm : Meth X.K C "__invert__" f) (hb : Binds X.K fd ps []) : UnR X (unaryOp .Invert) (rInvI C sp) := by
  intro pins s σ H x v Q I rx ⟨a, dx, fs, e1, ha, h⟩
  subst e1; cases rx
  obtain ⟨od, J⟩ := ins_at I ha
  obtain ⟨m, hF⟩ := I.fr
  exact PySem.W.ksp_inv hF I.ok.mod.kin J hm.at_ hm.fn (call_at F hr rfl hb passL I (.cons (rr (a := a)) .nil) h)
/-- o == p -/
def rEqI (C : Addr) (sp : Sp) : R2 := fun x y H Q => ∃ a dx fs b dy gs, x = .ref a ∧ y = .ref b ∧ H a = some (.ins C dx fs) ∧ H b = some (.ins C dy gs) ∧ sp [.ref a, .ref b] H (fun v H' => ∃ t : Bool, v = .bl t ∧ Q (.bl t) H') E0
theorem op_eqI (F : FnG X.prog X.w X.K X.mg X.base (L2.CX X.prog X.w) k f fd ps sp) (hr : RoomG k X.A) (hm : Meth X.K C "__eq__" f) (hb : Binds X.K fd ps []) : OpR X (compareOp .Eq) (rEqI C sp) := by
  intro pins s σ H x y v u Q I rx ry ⟨a, dx, fs, b, dy, gs, e1, e2, ha, hb', h⟩
  subst e1 e2; cases rx; cases ry
  obtain ⟨od, J⟩ := ins_at I ha
  obtain ⟨od', J'⟩ := ins_at I hb'
  obtain ⟨m, hF⟩ := I.fr
  show wpAny (model X.prog X.w) X.A (richCompare .Eq (.ref a) (.ref b)) (EP X pins σ Q) X.xe s
  refine PySem.W.cmp_K (op := .Eq) (tb := .ref C) hr.rm.units0 hF I.ok.mod.kin J J'.type (by simp [PySem.W.notFirst]) hm.at_ hm.fn (wpAny_mono (call_at F hr rfl hb passL I (.cons (rr (a := a)) (.cons (rr (a := b)) .nil)) h) (fun v s' hv => ?_) fun _ _ z => z)
  obtain ⟨w, H', I', rw_, t, ew, q⟩ := hv
  subst ew; cases rw_
  exact ⟨.bl t, H', I', rfl, q⟩
/-- o[i] by an own method -/
def rGetI (C : Addr) (sp : Sp) : R2 := fun x y H Q => ∃ a dx fs, x = .ref a ∧ H a = some (.ins C dx fs) ∧ sp [.ref a, y] H Q E0
theorem ix_own (F : FnG X.prog X.w X.K X.mg X.base (L2.CX X.prog X.w) k f fd ps sp) (hr : RoomG (k + 1) X.A) (hm : Meth X.K C "__getitem__" f) (hn : PySem.W.fnIn X.K f = true) (hb : Binds X.K fd ps []) {a b : Expr} {ta tb : TE} {pos : Pos} (ha : PE X a ta) (hb2 : PE X b tb)
    (hsl : ∀ o i, subscripted b true o i = runValue (.builtin "lifetime.subscript" ⟨[o, i], []⟩) := by intro _ _; with_unfolding_all rfl) : PE X (.Subscript a b pos) (tOp (rGetI C sp) ta tb) := by
  refine ⟨fun pins s σ H Q I h => ?_⟩
  refine Subscript_ (binT ha hb2 I h fun v u s2 x y H2 I2 rx ry q => ?_)
  obtain ⟨c, dx, fs, e, hc, h2⟩ := q
  subst e; cases rx
  obtain ⟨od, J⟩ := ins_at I2 hc
  obtain ⟨m, hF⟩ := I2.fr
  exact PySem.W.sub_K hF I2.ok.mod.kin J hm.at_ hn hm.fn (call_at F hr.in1 rfl hb passL I2 (.cons (rr (a := c)) (.cons ry .nil)) h2) (hsl _ _)
end
end Fw

set_option maxHeartbeats 4000000
/-! The special methods by data; list(d.values()); dict(pairs). -/
namespace Fw
open PySem PySem.Spec PyProof.Rows L2
section
variable {K : PySem.W.Frag} {E : XK} {G : Gm} {O : OL} {ke : Xd → Prop}
theorem cad_lenI {c : Str} {w : Wt} : CaD K (rLenI (He.ga K c) (spD K w)) (fun ds k => ∃ fs, ds = [.obj c fs] ∧ w [.obj c fs] (fun d => ∃ n : Int, d = .int n ∧ (0 ≤ n ∧ n < 2 ^ 63) ∧ k (.int n)) F0) := by
  intro S H xs ds Q k dm rx ⟨fs, e, h⟩ hq
  subst e
  cases rx with
  | cons h1 t =>
    cases t
    have h0 := h1
    cases h1 with
    | obj n hh ek r =>
      exact ⟨_, _, _, rfl, hh, S, _, _, F0, dm, .cons h0 .nil, h, fun v H' d ⟨m, e, hb, kd⟩ s rv => by
        subst e; cases rv
        exact ⟨m, rfl, hb, hq _ H' _ kd s (.int _)⟩, eok_e0⟩
theorem opd_inI {c : Str} {w : Wt} {neg : Bool} : OpD K (rInI (He.ga K c) (spD K w) neg) (fun a b k => ∃ fs, b = .obj c fs ∧ w [b, a] (fun d => ∃ t, d = .bl t ∧ k (.bl (if neg then !t else t))) F0) := by
  intro S H x y a b Q k dm rx ry ⟨fs, e, h⟩ hq
  subst e
  have r0 := ry
  cases ry with
  | obj n hh ek r =>
    exact ⟨_, _, _, rfl, hh, S, _, _, F0, dm, .cons r0 (.cons rx .nil), h, fun v H' d ⟨t, e, kd⟩ s rv => by
      subst e; cases rv
      exact ⟨t, rfl, hq _ H' _ kd s (.bl _)⟩, eok_e0⟩
theorem opd_binI {c e : Str} {w : Wt} : OpD K (rBinI (He.ga K c) (He.ga K e) (spD K w)) (fun a b k => ∃ fs gs, a = .obj c fs ∧ b = .obj e gs ∧ w [a, b] k F0) := by
  intro S H x y a b Q k dm rx ry ⟨fs, gs, e1, e2, h⟩ hq
  subst e1 e2
  have r1 := rx
  have r2 := ry
  cases rx with
  | obj n hh ek r =>
    cases ry with
    | obj n' hh' ek' r' => exact ⟨_, _, _, _, _, _, rfl, rfl, hh, hh', S, _, _, F0, dm, .cons r1 (.cons r2 .nil), h, hq, eok_e0⟩
theorem und_invI {c : Str} {w : Wt} : UnD K (rInvI (He.ga K c) (spD K w)) (fun a k => ∃ fs, a = .obj c fs ∧ w [a] k F0) := by
  intro S H x a Q k dm rx ⟨fs, e1, h⟩ hq
  subst e1
  have r1 := rx
  cases rx with
  | obj n hh ek r => exact ⟨_, _, _, rfl, hh, S, _, _, F0, dm, .cons r1 .nil, h, hq, eok_e0⟩
theorem opd_eqI {c : Str} {w : Wt} : OpD K (rEqI (He.ga K c) (spD K w)) (fun a b k => ∃ fs gs, a = .obj c fs ∧ b = .obj c gs ∧ w [a, b] (fun d => ∃ t, d = .bl t ∧ k (.bl t)) F0) := by
  intro S H x y a b Q k dm rx ry ⟨fs, gs, e1, e2, h⟩ hq
  subst e1 e2
  have r1 := rx
  have r2 := ry
  cases rx with
  | obj n hh ek r =>
    cases ry with
    | obj n' hh' ek' r' => exact ⟨_, _, _, _, _, _, rfl, rfl, hh, hh', S, _, _, F0, dm, .cons r1 (.cons r2 .nil), h, fun v H' d ⟨t, e, kd⟩ s rv => by
        subst e; cases rv
        exact ⟨t, rfl, hq _ H' _ kd s (.bl _)⟩, eok_e0⟩
theorem opd_getI {c : Str} {w : Wt} : OpD K (rGetI (He.ga K c) (spD K w)) (fun a b k => ∃ fs, a = .obj c fs ∧ w [a, b] k F0) := by
  intro S H x y a b Q k dm rx ry ⟨fs, e1, h⟩ hq
  subst e1
  have r1 := rx
  cases rx with
  | obj n hh ek r => exact ⟨_, _, _, rfl, hh, S, _, _, F0, dm, .cons r1 (.cons ry .nil), h, hq, eok_e0⟩
end
/-! ### list(d.values()) -/
def rValsL : V → Hp → VK → Prop := fun x H Q => ∃ (d : Addr) (kvs : List (Key × V)), x = .ref d ∧ Rd H d (.dK kvs) ∧ ∀ p, H p = none → Q (.ref p) (upd H p (.lst (kvs.map Prod.snd)))
def tListVals (te : TE) : TE := fun σ H Q => te σ H fun x H1 => rValsL x H1 Q
section
variable {X : Cx} {e : Expr} {te : TE} {p apos cpos pos : Pos}
theorem vals_snd : ∀ {kvs : List (Key × V)} {vs : List (Key × Value)}, KV kvs vs → Vals (kvs.map Prod.snd) (vs.map Prod.snd)
  | _, _, .nil => .nil
  | _, _, .cons h t => .cons h.2 (vals_snd t)
theorem pe_listVals (hc : X.calm = true) (he : PE X e te) (hg : Gl X "list") (hm : X.mg "list" = none) (hv : bootBuiltins "list" = some (.type "list")) (hbase : attributeBase e "values" X.env (eval e X.env) = eval e X.env := by rfl) (hline : (apos.endLine == cpos.line) = true := by rfl)
    (hs : starEach [.Call (.Attribute e "values" apos) [] [] cpos] X.env = (false, eval (.Call (.Attribute e "values" apos) [] [] cpos) X.env) :: starEach [] X.env := by rfl) :
    PE X (.Call (.Name "list" p) [.Call (.Attribute e "values" apos) [] [] cpos] [] pos) (tListVals te) := by
  refine ⟨fun pins s σ H Q I hq => ?_⟩
  refine wpAny_Call_Name_kw (ld_blt I hg hm hv ?_)
  refine PyProof.Rows.callWith_type1 ?_ hs rfl
  rw [hs]
  show wpAny _ _ (spliced ((false, eval (.Call (.Attribute e "values" apos) [] [] cpos) X.env) :: backTo pos (starEach [] X.env))) _ _ s
  refine Calls.spliced_cons ?_
  refine wpAny_Call_method (T := "dict") (id := "dict.values") hbase rfl hline F.plainAttrs_dict F.slot_dict_values F.type_dict_values (thn (he.run pins s σ H _ I hq) fun u s1 ⟨x, H1, I1, rx, d, kvs, ex, hd, q⟩ => ?_)
  subst ex
  obtain rfl : u = Value.ref d := rx
  obtain ⟨hz, hs0, vs, kv, hdo⟩ := dk_rd I1.hok hd
  obtain ⟨ep, hat⟩ := hdo.dictAt
  have lk : kvs.length = vs.length := Paired.length kv
  have I2 : Inv X pins σ H1 { s1 with heap := s1.heap.push { cls := .type "dict_values", data := .fields #[.ref d] } } := I1.kept (t' := s1.toks) fun b ob q => Heap.get?_push_of_some _ q
  refine ⟨hdo.typeIs, hdo.mapOf.noDict, ?_⟩
  show wpAny _ _ (callWith cpos (.builtin "dict.values") [.ref d] [] []) _ X.xe s1
  refine method_meetsIn F.slot_dict_values F.entry_dict_values rfl (PySem.evalArgs_none ⟨rfl, hdo.typeIs, F.args_dict_values_1 _, _, meets_dict_values (mixKind X.prog X.w) d hs0, ⟨vs, hdo⟩, ?_⟩)
  refine Calls.spliced_nil ?_
  refine PySem.W.kdl_call (PySem.W.kdl_values (knd := mixKind X.prog X.w) (kvs := vs) (ep := ep)) (I1.ok.hd hc) ⟨⟨_, Heap.get?_push_size _ rfl, rfl, rfl⟩, hat.push _⟩ (by omega) fun h' tk acc c' hk hD hacc => ?_
  have ev : acc.toList = vs.map Prod.snd := PySem.W.kdl_vals_eq acc.toList (by rw [Array.length_toList]; exact hacc.1) fun j v e => hacc.2 j v (by rw [← Array.getElem?_toList]; exact e)
  have fr := I2.hok.fresh (Nat.le_refl _)
  refine ⟨.ref _, upd H1 _ (.lst (kvs.map Prod.snd)), I2.laid (t' := tk) hk (Nat.le_refl _) ⟨by rw [List.length_map]; exact hz, acc.toList, c', by rw [ev]; exact vals_snd kv, by rw [Array.toArray_toList]; exact hD⟩, rr, q _ fr⟩
end
section
variable {K : PySem.W.Frag} {E : XK} {G : Gm} {O : OL} {ke : Xd → Prop}
theorem df_listVals {te : TE} {k : Ow → Prop} (h : DT K E te G O (fun a => ∃ kvs : List (Key × D), a = .dic kvs ∧ k (.lst (kvs.map Prod.snd))) ke) : DF K E (tListVals te) G O k ke := fun S0 Os σ H Q st hq he =>
  h.bind st he fun x H1 a ⟨kvs, e, q⟩ s1 st1 he1 rx => by
    subst e
    cases rx with
    | dic n hh ek r => exact ⟨_, _, rfl, hh, fun p np => hq p _ _ q (s1.trans (Same.put np)) (s1.free np) (own_new np r)⟩
/-! ### dict(pairs) -/
def mergeD (kvs more : List (Key × D)) : List (Key × D) := more.foldl (fun acc kv => putD acc kv.1 kv.2) kvs
theorem merge_rep {S : Addr → Prop} {H : Hp} : ∀ {more : List (Key × V)} {md : List (Key × D)} {kvs : List (Key × V)} {ds : List (Key × D)}, more.map Prod.fst = md.map Prod.fst → Reps K S H (more.map Prod.snd) (md.map Prod.snd) → kvs.map Prod.fst = ds.map Prod.fst → Reps K S H (kvs.map Prod.snd) (ds.map Prod.snd) →
    (mergeK kvs more).map Prod.fst = (mergeD ds md).map Prod.fst ∧ Reps K S H ((mergeK kvs more).map Prod.snd) ((mergeD ds md).map Prod.snd)
  | [], [], _, _, _, _, e, r => ⟨e, r⟩
  | [], _ :: _, _, _, h, _, _, _ => by simp at h
  | _ :: _, [], _, _, h, _, _, _ => by simp at h
  | p :: m, q :: n, kvs, ds, h, .cons hv t, e, r => by
    have h1 : p.1 = q.1 := by simpa using (List.cons.inj (by simpa using h)).1
    have h2 : m.map Prod.fst = n.map Prod.fst := by simpa using (List.cons.inj (by simpa using h)).2
    obtain ⟨e2, r2⟩ := put_rep (k := p.1) hv e r
    show (mergeK (putK kvs p.1 p.2) m).map Prod.fst = (mergeD (putD ds q.1 q.2) n).map Prod.fst ∧ Reps K S H ((mergeK (putK kvs p.1 p.2) m).map Prod.snd) ((mergeD (putD ds q.1 q.2) n).map Prod.snd)
    rw [← h1]
    exact merge_rep h2 t e2 r2
theorem pairs_of {S : Addr → Prop} {H : Hp} : ∀ {vs : List V} {kvs : List (Key × D)}, Reps K S H vs (kvs.map fun p => D.tup [kD p.1, p.2]) → ∃ (ps : List Addr) (ks : List (Key × V)), vs = ps.map V.ref ∧ Paired (fun p kv => SqT K H p [kV kv.1, kv.2]) ps ks ∧ ks.map Prod.fst = kvs.map Prod.fst ∧ Reps K S H (ks.map Prod.snd) (kvs.map Prod.snd)
  | _, [], .nil => ⟨[], [], rfl, .nil, rfl, .nil⟩
  | _, q :: r, .cons h t => by
    obtain ⟨ps, ks, e1, e2, e3, e4⟩ := pairs_of t
    cases h with
    | tup n hh rr =>
      rename_i a us
      cases rr with
      | cons ha tt =>
        cases tt with
        | cons hb t3 =>
          cases t3
          have ea := kD_v ha
          subst ea
          exact ⟨a :: ps, (q.1, _) :: ks, by rw [List.map_cons, e1], .cons (SqT.of hh) e2, by rw [List.map_cons, List.map_cons, e3], .cons hb e4⟩
theorem caf_dictP : CaF K (fun xs H Q => ∃ (a : Addr) (ps : List Addr) (kvs : List (Key × V)), xs = [.ref a] ∧ SqL K H a (ps.map V.ref) ∧ Paired (fun p kv => SqT K H p [kV kv.1, kv.2]) ps kvs ∧ ∀ p, H p = none → Q (.ref p) (upd H p (.dK (mergeK [] kvs))))
    (fun ds k => ∃ kvs : List (Key × D), ds = [.lst (kvs.map fun p => D.tup [kD p.1, p.2])] ∧ k (.dic (mergeD [] kvs))) := by
  intro S H xs ds Q k dm rx ⟨kvs, e, q⟩ hq
  subst e
  cases rx with
  | cons h t =>
    cases t
    cases h with
    | lst n hh r =>
      obtain ⟨ps, ks, e1, e2, e3, e4⟩ := pairs_of r
      subst e1
      refine ⟨_, ps, ks, rfl, SqL.of hh, e2, fun p np => hq p _ _ q (Same.put np) np ?_⟩
      obtain ⟨m1, m2⟩ := merge_rep (kvs := []) (ds := []) e3 e4 rfl .nil
      exact ⟨_, upd_same, m1, Reps.same (Reps.avoid (fun a z => z.elim .inl fun e => .inr (by rw [e]; exact np)) m2) (Same.put np)⟩
end
end Fw

set_option maxHeartbeats 4000000
/-! A def by its body, told of data; the stream. -/
namespace Fw
open PySem PySem.Spec PyProof.Rows L2
def startG (N : List Str) (ds : List D) : Gm := ds.map some ++ List.replicate (N.length - ds.length) none
section
variable {P : Program} {w : World} {K : PySem.W.Frag} {mg : Str → Option Value} {base : Heap} {x qual : Str} {params : Arguments} {body : List Stmt} {scope : Scope} {f : Addr} {fd : FuncData}
theorem start_len {N : List Str} {vs : List V} (h : vs.length ≤ N.length) : (L2.start N vs).length = N.length := by
  unfold L2.start; rw [List.length_append, List.length_map, List.length_replicate]; omega
theorem start_st {S : Addr → Prop} {H : Hp} {N : List Str} {vs : List V} {ds : List D} (r : Reps K S H vs ds) (dm : ∀ a, S a → H a ≠ none) : St1 K S (startG N ds) [] [] (L2.start N vs) H := by
  refine ⟨rfl, List.nodup_nil, dm, (fun a z => by cases z), ?_, fun i d e => ?_, (fun p hp => by cases hp)⟩
  · unfold L2.start startG
    rw [List.length_append, List.length_append, List.length_map, List.length_map, List.length_replicate, List.length_replicate, r.length]
  · unfold startG at e
    by_cases hi : i < ds.length
    · rw [List.getElem?_append_left (by simpa using hi), List.getElem?_map] at e
      cases q : ds[i]? with
      | none => rw [q] at e; cases e
      | some d' =>
        rw [q] at e; cases e
        obtain ⟨v, hv, rv⟩ := r.get' q
        refine ⟨v, ?_, Rep.weak (fun a z => z.elim id fun y => by cases y) rv⟩
        unfold L2.start
        rw [List.getElem?_append_left (by rw [List.length_map, r.length]; exact hi), List.getElem?_map, hv]; rfl
    · rw [List.getElem?_append_right (by simpa using hi), List.getElem?_replicate] at e
      split at e <;> cases e
/-- THE RULE for a def, by data -/
theorem fnD {N ps : List Str} {k : Nat} {wt : Wt} (F : FunD K x qual params body scope [] [] f fd) (S : FnScope N ps scope) (len : ∀ ds kk ke, wt ds kk ke → ds.length = ps.length)
    (hb : ∀ (cdv : Value) (A : Around) (outer : List Env) (s : Shared) (H : Hp) (E : XK), RoomG k (A.deeper (envOfC qual scope s.heap.objs.size f cdv)) →
      ∃ t, PSs (cxOf (L2.CX P w) P w K mg base N qual scope f cdv A outer s H E) body t ∧ ∀ ds kk ke, wt ds kk ke → DS K E t (startG N ds) [] (fun _ _ => kk .non) kk ke) : FnG P w K mg base (L2.CX P w) (k + 1) f fd ps (spD K wt) := by
  refine g_fun F S (fun vs H Q E ⟨T, ds, kk, ke, dm, rr, hw, _⟩ => by rw [rr.length]; exact len ds kk ke hw) (fun cdv A outer s H vs Q E hr ⟨T, ds, kk, ke, dm, rr, hw, hq, he⟩ => ?_)
  obtain ⟨t, ht, hd⟩ := hb cdv A outer s H E hr
  refine ⟨t, ht, hd ds kk ke hw T H [] (L2.start N vs) H _ ⟨Same.refl H, fun a z => (by cases z), dm⟩ (start_st rr dm) (fun G' O' Os' σ' H' kn c st => ?_) (fun v H' d kd s r => hq v H' d kd s r) he⟩
  exact hq .non H' .non kn (fun a u e => c.same a (fun z => by cases z) u e) .non
/-- .. an __init__ -/
theorem fnI {N ps : List Str} {k : Nat} {c : Str} {wt : WtI} (F : FunD K x qual params body scope [] [] f fd) (S : FnScope N ps scope) (hN : 0 < N.length) (len : ∀ ds kk ke, wt ds kk ke → ds.length + 1 = ps.length)
    (hb : ∀ (cdv : Value) (A : Around) (outer : List Env) (s : Shared) (H : Hp) (E : XK), RoomG k (A.deeper (envOfC qual scope s.heap.objs.size f cdv)) →
      ∃ t, PSs (cxOf (L2.CX P w) P w K mg base N qual scope f cdv A outer s H E) body t ∧ ∀ (x : Addr) ds kk ke, wt ds kk ke → DS K E t (none :: (ds.map some ++ List.replicate (N.length - (ds.length + 1)) none)) [(0, .slf x c [])] (fun _ O' => ∃ fs, O' = [(0, .slf x c fs)] ∧ kk fs) (fun _ => False) ke) : FnG P w K mg base (L2.CX P w) (k + 1) f fd ps (spI K c wt) := by
  refine g_fun F S (fun vs H Q E ⟨T, x, dx, vs', ds, kk, ke, e, hx, nx, dm, rr, hw, _⟩ => by rw [e, List.length_cons, rr.length]; exact len ds kk ke hw) (fun cdv A outer s H vs Q E hr ⟨T, x, dx, vs', ds, kk, ke, e, hx, nx, dm, rr, hw, hq, he⟩ => ?_)
  subst e
  obtain ⟨t, ht, hd⟩ := hb cdv A outer s H E hr
  have s0 : Same (del H x) H := fun a u e => by
    by_cases h : a = x
    · subst h; rw [del_same] at e; cases e
    · rw [del_ne h] at e; exact e
  have wx : ∀ a, W [(x, 0, Ow.slf x c [])] a ↔ a = x := fun a => by
    show a ∈ [x] ↔ _
    exact List.mem_singleton
  have so : ∀ a, SO T [(x, 0, Ow.slf x c [])] a → T a ∨ a = x := fun a z => z.imp id (wx a).mp
  have hl : (L2.start N (V.ref x :: vs')).length = (none :: (ds.map some ++ List.replicate (N.length - (ds.length + 1)) none) : Gm).length := by
    unfold L2.start
    rw [List.length_append, List.length_map, List.length_replicate, List.length_cons, List.length_cons, List.length_append, List.length_map, List.length_replicate, rr.length]; omega
  refine ⟨t, ht, hd x ds kk ke hw T (del H x) [(x, 0, .slf x c [])] (L2.start N (.ref x :: vs')) H _ ⟨s0, fun a z => by rw [(wx a).mp z]; exact del_same, fun a ta => by rw [del_ne fun z => nx (by rw [← z]; exact ta)]; exact dm a ta⟩ ⟨rfl, ?_, dm, fun a z => by rw [(wx a).mp z]; exact nx, hl, fun i d e => ?_, fun p hp => ?_⟩ (fun G' O' Os' σ' H' ⟨fs, eo, kf⟩ cc st => ?_) (fun v H' d kd _ _ => kd.elim) he⟩
  · exact List.nodup_cons.mpr ⟨by simp, List.nodup_nil⟩
  · cases i with
    | zero => cases e
    | succ i =>
      have e' : (ds.map some ++ List.replicate (N.length - (ds.length + 1)) none : Gm)[i]? = some (some d) := e
      by_cases hi : i < ds.length
      · rw [List.getElem?_append_left (by simpa using hi), List.getElem?_map] at e'
        cases q : ds[i]? with
        | none => rw [q] at e'; cases e'
        | some d' =>
          rw [q] at e'; cases e'
          obtain ⟨v, hv, rv⟩ := rr.get' q
          refine ⟨v, ?_, Rep.weak so rv⟩
          unfold L2.start
          rw [List.getElem?_append_left (by rw [List.length_map, List.length_cons, rr.length]; omega), List.getElem?_map, List.getElem?_cons_succ, hv]; rfl
      · rw [List.getElem?_append_right (by simpa using hi), List.getElem?_replicate] at e'
        split at e' <;> cases e'
  · have e := List.mem_singleton.mp hp
    subst e
    exact ⟨rfl, rfl, dx, [], hx, rfl, .nil⟩
  · have hos := st.os
    rw [eo] at hos
    cases Os' with
    | nil => cases hos
    | cons q qs =>
      cases qs with
      | cons _ _ =>
        have hz := congrArg List.length hos
        simp at hz
      | nil =>
        obtain ⟨q1, q2⟩ := q
        have e2 : q2 = (0, .slf x c fs) := by simpa using hos
        obtain ⟨hs, oa⟩ := st.own (q1, q2) List.mem_cons_self
        subst e2
        obtain ⟨ea, dx', vs2, h1, h2, h3⟩ := oa
        have ea' : q1 = x := ea
        subst ea'
        have w1 : ∀ a, (T a ∨ a = q1) → SO T [(q1, 0, .slf q1 c fs)] a := fun a z => z.imp id fun e => by
          show a ∈ [q1]
          rw [e]; exact List.mem_singleton.mpr rfl
        exact hq H' fs kf (fun a n u e => cc.same a (fun z => n ((wx a).mp z)) u e) ⟨dx', vs2, h1, h2, Reps.weak w1 h3⟩
end
end Fw

set_option maxHeartbeats 4000000
/-! What the top has written: the facts read off it, and short words for the rules. -/
namespace Fw
open PySem PySem.Spec PyProof.Rows L2
theorem DfP.funD {K : PySem.W.Frag} {d : DfP} (e : fnP K (d.at_.ad K) = d.val) (hs : d.sup = false) (c : d.ok K = true) : ∃ fd, FunD K d.name d.qual (defArgs d.st) (defBody d.st) (defScope d.st) [] [] (d.at_.ad K) fd := by
  obtain ⟨kp, c2⟩ := He.ba c
  unfold fnP at e
  cases q : K.lookup (d.at_.ad K) with
  | none => rw [q] at c2; cases c2
  | some o =>
    obtain ⟨oc, od, dt, osl⟩ := o
    rw [q] at c2 e
    cases dt with
    | func fd =>
      obtain ⟨n1, n2, n3, n4, n5, n6, n7, n8, n9, n10, n11, n12, n13, n14, n15⟩ := fd
      have e2 : (some (n1, n2, n3, n4, n5, n6, n7.map fun c => (c.1, 0), n15) : He.FnW) = some (d.name, d.qual, defArgs d.st, .stmts (defBody d.st), defScope d.st, mainGlobals, (if d.sup then [(("__class__" : Str), (0 : Addr))] else []), builtinsNs) := e
      rw [hs, if_neg Bool.false_ne_true] at e2
      simp only [Option.some.injEq, Prod.mk.injEq] at e2
      obtain ⟨h1, h2, h3, h4, h5, h6, h7, h8⟩ := e2
      have h7 : n7 = [] := by cases n7 with
        | nil => rfl
        | cons _ _ => cases h7
      subst h1 h2 h3 h4 h5 h6 h7 h8
      have c3 : (PySem.W.codeIn K n13 d.qual && isNone n8) = true := c2
      obtain ⟨k1, k2⟩ := He.ba c3
      have e8 : n8 = .none := by cases n8 <;> first | rfl | cases k2
      exact ⟨_, ⟨oc, od, n8, n9, n10, n11, n12, n13, n14, osl, rfl, q, k1, .inl ⟨rfl, e8⟩, .inl rfl⟩, kp⟩
    | _ => cases c2
theorem prop_ok {K : PySem.W.Frag} {c x : Str} (h : (Fc.prop c x).ok K = true) : PropOf K (He.ga K c) x (He.ma K (He.ga K c) x) (getter K (He.ga K c) x) := by
  obtain ⟨h1, h⟩ := He.ba h
  obtain ⟨h2, h⟩ := He.ba h
  obtain ⟨h3, h4⟩ := He.ba h
  refine ⟨He.eqO_ok h1, He.eqO_ok h2, of_decide_eq_true h3, ?_⟩
  unfold getter
  cases q : PySem.W.recIn K (He.ma K (He.ga K c) x) "property" with
  | none => rw [q] at h4; cases h4
  | some l =>
    rw [q] at h4
    cases l with
    | nil => cases h4
    | cons v r =>
      cases v with
      | ref a => exact ⟨r, rfl⟩
      | _ => cases h4
theorem bin2_ok {K : PySem.W.Frag} {c e : Str} {nm : String} (h : (Fc.bin2 c e nm).ok K = true) : Bin2 K (He.ga K c) (He.ga K e) nm (He.ma K (He.ga K e) (PySem.dunder nm)) := by
  obtain ⟨h1, h⟩ := He.ba h
  obtain ⟨h2, h⟩ := He.ba h
  obtain ⟨h3, h⟩ := He.ba h
  obtain ⟨h4, h⟩ := He.ba h
  obtain ⟨h5, h⟩ := He.ba h
  obtain ⟨h6, h7⟩ := He.ba h
  refine ⟨fun z => ?_, h2, h3, He.eqO_ok h4, He.eqO_ok h5, He.eqO_ok h6, of_decide_eq_true h7⟩
  rw [decide_eq_true z] at h1; cases h1
theorem callo_ok {K : PySem.W.Frag} {c e : Str} (h : (Fc.callo c e).ok K = true) : StX.CallO K (He.ga K c) (He.ma K (He.ga K e) "__call__") := by
  obtain ⟨h1, h⟩ := He.ba h
  obtain ⟨h2, h3⟩ := He.ba h
  exact ⟨He.eqO_ok h1, h2, h3⟩
theorem kit_ok {K : PySem.W.Frag} {t u : Tv} {b : Bool} (h : (Fc.kit t u b).ok K = true) : PySem.W.kitOne K (t.v K) (u.v K) = some b := of_decide_eq_true h
/-- the facts, behind the top -/
structure Tx (fc : List Fc) (ds : List DfP) (K : PySem.W.Frag) (mg : Str → Option Value) : Prop where
  says : obsP fc ds K = valP ds
  some_ : ∀ x v, PySem.W.nsIn K mainGlobals x = some (some v) → mg x = some v
  none_ : ∀ x, PySem.W.nsIn K mainGlobals x = some none → mg x = none
section
variable {fc : List Fc} {ds : List DfP} {K : PySem.W.Frag} {mg : Str → Option Value}
theorem Tx.mk' {h : Heap} (X : K.In h) (G : h.Ns mainGlobals mg) (c : obsP fc ds K = valP ds) : Tx fc ds K mg := ⟨c, fun _ _ e => PySem.W.mg_of X G e, fun _ e => PySem.W.mg_none_of X G e⟩
theorem Tx.fact (T : Tx fc ds K mg) (i : Nat) {f : Fc} (h : fc[i]? = some f := by rfl) : f.ok K = true := by
  have c1 := (He.ba (show ((fc.all fun f => f.ok K) && ds.all fun d => d.ok K) = true from congrArg (fun z : AlP => z.1) T.says)).1
  exact List.all_eq_true.mp c1 f (List.mem_of_getElem? h)
theorem Tx.def_ (T : Tx fc ds K mg) (i : Nat) {d : DfP} (h : ds[i]? = some d := by rfl) (hs : d.sup = false := by rfl) : ∃ fd, FunD K d.name d.qual (defArgs d.st) (defBody d.st) (defScope d.st) [] [] (d.at_.ad K) fd := by
  have c2 := (He.ba (show ((fc.all fun f => f.ok K) && ds.all fun d => d.ok K) = true from congrArg (fun z : AlP => z.1) T.says)).2
  have e : ds.map (fun d => fnP K (d.at_.ad K)) = ds.map DfP.val := congrArg (fun z : AlP => z.2) T.says
  have e2 : (ds.map fun d => fnP K (d.at_.ad K))[i]? = (ds.map DfP.val)[i]? := by rw [e]
  rw [List.getElem?_map, List.getElem?_map, h] at e2
  exact DfP.funD (Option.some.inj e2) hs (List.all_eq_true.mp c2 d (List.mem_of_getElem? h))
theorem Tx.glo (T : Tx fc ds K mg) (i : Nat) {x : Str} (h : fc[i]? = some (.a (.glo x)) := by rfl) : mg x = some (.ref (He.ga K x)) := T.some_ _ _ (He.eqO_ok (show He.eqO _ _ = true from T.fact i h))
theorem Tx.free (T : Tx fc ds K mg) (i : Nat) {x : Str} (h : fc[i]? = some (.a (.free x)) := by rfl) : mg x = none := T.none_ _ (He.eqO_ok (show He.eqO _ _ = true from T.fact i h))
theorem Tx.int (T : Tx fc ds K mg) (i : Nat) {x : Str} {n : Int} (h : fc[i]? = some (.a (.int x n)) := by rfl) : ∃ t, mg x = some (.int n t) := by
  have c2 : (match PySem.W.nsIn K mainGlobals x with
    | some (some (.int j _)) => decide (j = n)
    | _ => false) = true := T.fact i h
  cases e : PySem.W.nsIn K mainGlobals x with
  | none => rw [e] at c2; cases c2
  | some o =>
    rw [e] at c2
    cases o with
    | none => cases c2
    | some v =>
      cases v with
      | int j t =>
        have ej : j = n := of_decide_eq_true c2
        rw [ej] at e
        exact ⟨t, T.some_ _ _ e⟩
      | _ => cases c2
theorem Tx.str (T : Tx fc ds K mg) (i : Nat) {x z : Str} (h : fc[i]? = some (.a (.str x z)) := by rfl) : ∃ t, mg x = some (.str z t) := by
  have c2 : (match PySem.W.nsIn K mainGlobals x with
    | some (some (.str y _)) => decide (y = z)
    | _ => false) = true := T.fact i h
  cases e : PySem.W.nsIn K mainGlobals x with
  | none => rw [e] at c2; cases c2
  | some o =>
    rw [e] at c2
    cases o with
    | none => cases c2
    | some v =>
      cases v with
      | str y t =>
        have ej : y = z := of_decide_eq_true c2
        rw [ej] at e
        exact ⟨t, T.some_ _ _ e⟩
      | _ => cases c2
theorem Tx.cls (T : Tx fc ds K mg) (i : Nat) {c : Str} (h : fc[i]? = some (.a (.cls c)) := by rfl) : Cls K (He.ga K c) := He.cls_ok (T.fact i h)
theorem Tx.noat (T : Tx fc ds K mg) (i : Nat) {c f : Str} (h : fc[i]? = some (.a (.noat c f)) := by rfl) : NoAttr K (He.ga K c) f := He.noat_ok (T.fact i h)
theorem Tx.meth (T : Tx fc ds K mg) (i : Nat) {c m : Str} (h : fc[i]? = some (.a (.meth c m)) := by rfl) : Meth K (He.ga K c) m (He.ma K (He.ga K c) m) := He.meth_ok (T.fact i h)
theorem Tx.mkr (T : Tx fc ds K mg) (i : Nat) {c : Str} (h : fc[i]? = some (.a (.mkr c)) := by rfl) : Mk K (He.ga K c) (He.ma K (He.ga K c) "__init__") := He.mkr_ok (T.fact i h)
theorem Tx.ins (T : Tx fc ds K mg) (i : Nat) {c : Str} (h : fc[i]? = some (.ins c) := by rfl) : InsK K c := insB_ok (T.fact i h)
theorem Tx.prop (T : Tx fc ds K mg) (i : Nat) {c x : Str} (h : fc[i]? = some (.prop c x) := by rfl) : PropOf K (He.ga K c) x (He.ma K (He.ga K c) x) (getter K (He.ga K c) x) := prop_ok (T.fact i h)
theorem Tx.kit (T : Tx fc ds K mg) (i : Nat) {t u : Tv} {b : Bool} (h : fc[i]? = some (.kit t u b) := by rfl) : PySem.W.kitOne K (t.v K) (u.v K) = some b := kit_ok (T.fact i h)
theorem Tx.first (T : Tx fc ds K mg) (i : Nat) {c : Str} (h : fc[i]? = some (.first c) := by rfl) : PySem.W.selfFirst K (He.ga K c) = true := T.fact i h
theorem Tx.bin2 (T : Tx fc ds K mg) (i : Nat) {c e : Str} {nm : String} (h : fc[i]? = some (.bin2 c e nm) := by rfl) : Bin2 K (He.ga K c) (He.ga K e) nm (He.ma K (He.ga K e) (PySem.dunder nm)) := bin2_ok (T.fact i h)
theorem Tx.callo (T : Tx fc ds K mg) (i : Nat) {c e : Str} (h : fc[i]? = some (.callo c e) := by rfl) : StX.CallO K (He.ga K c) (He.ma K (He.ga K e) "__call__") := callo_ok (T.fact i h)
theorem Tx.fnin (T : Tx fc ds K mg) (i : Nat) {c m : Str} (h : fc[i]? = some (.fnin c m) := by rfl) : PySem.W.fnIn K (He.ma K (He.ga K c) m) = true := T.fact i h
end
/-! ### a def that stands and keeps its promise -/
structure Ok (P : Program) (w : World) (K : PySem.W.Frag) (mg : Str → Option Value) (base : Heap) (k : Nat) (f : Addr) (ps : List Str) (sp : Sp) : Prop where
  ex : ∃ fd, FnG P w K mg base (L2.CX P w) k f fd ps sp ∧ Binds K fd ps []
  kp : PySem.W.keepIn K (.ref f) = true
section
variable {X : Cx} {j k : Nat} {f C p g Dc : Addr} {ps : List Str} {sp : Sp} {x m : Str} {E : XK} {pp pos apos : Pos} {e o : Expr} {es : List Expr} {t : TA} {ta tb : TE}
theorem q_call (F : Ok X.prog X.w X.K X.mg X.base k f ps sp) (hr : RoomG j X.A) (hm : X.mg x = some (.ref f)) (ha : PA X (e :: es) t) (hj : k ≤ j := by first | decide | omega) (hg : Gl X x := by rfl) (hdb : (x == ("__debug__" : Str)) = false := by decide)
    (he : starEach (e :: es) X.env = (false, eval e X.env) :: starEach es X.env := by rfl) (hpl : (backTo pos (starEach es X.env)).any (·.1) = false := by rfl) : PE X (.Call (.Name x pp) (e :: es) [] pos) (tCall sp [] E0 t) := by
  obtain ⟨fd, F1, B⟩ := F.ex
  exact g_call F1 (hr.mono hj) hg hm F.kp B passL ha hdb he hpl
theorem q_callE (F : Ok X.prog X.w X.K X.mg X.base k f ps sp) (hr : RoomG j X.A) (hp : Passes (L2.CX X.prog X.w) X E) (hm : X.mg x = some (.ref f)) (ha : PA X (e :: es) t) (hj : k ≤ j := by first | decide | omega) (hg : Gl X x := by rfl) (hdb : (x == ("__debug__" : Str)) = false := by decide)
    (he : starEach (e :: es) X.env = (false, eval e X.env) :: starEach es X.env := by rfl) (hpl : (backTo pos (starEach es X.env)).any (·.1) = false := by rfl) : PE X (.Call (.Name x pp) (e :: es) [] pos) (tCall sp [] E t) := by
  obtain ⟨fd, F1, B⟩ := F.ex
  exact g_call F1 (hr.mono hj) hg hm F.kp B hp ha hdb he hpl
theorem q_call0 (F : Ok X.prog X.w X.K X.mg X.base k f ps sp) (hr : RoomG j X.A) (hm : X.mg x = some (.ref f)) (hj : k ≤ j := by first | decide | omega) (hg : Gl X x := by rfl) (hdb : (x == ("__debug__" : Str)) = false := by decide) : PE X (.Call (.Name x pp) [] [] pos) (tCall sp [] E0 tNil) := by
  obtain ⟨fd, F1, B⟩ := F.ex
  exact g_call0 F1 (hr.mono hj) hg hm F.kp B passL hdb
theorem q_make (F : Ok X.prog X.w X.K X.mg X.base k f ps sp) (M : Mk X.K C f) (hr : RoomG j X.A) (hm : X.mg x = some (.ref C)) (ha : PA X (e :: es) t) (hj : k + 1 ≤ j := by first | decide | omega) (hg : Gl X x := by rfl) (hdb : (x == ("__debug__" : Str)) = false := by decide)
    (he : starEach (e :: es) X.env = (false, eval e X.env) :: starEach es X.env := by rfl) (hpl : (backTo pos (starEach es X.env)).any (·.1) = false := by rfl) : PE X (.Call (.Name x pp) (e :: es) [] pos) (tMake C sp [] E0 t) := by
  obtain ⟨fd, F1, B⟩ := F.ex
  exact g_make M F1 (hr.mono hj) hg hm B passL ha hdb he hpl
theorem q_meth {pl : Sem Bool} (F : Ok X.prog X.w X.K X.mg X.base k f ps sp) (he : PE X o ta) (c : Cls X.K C) (hm : Meth X.K C m f) (hr : RoomG j X.A) (ha : PA X (e :: es) t) (hj : k ≤ j := by first | decide | omega)
    (hst : starEach (e :: es) X.env = (false, eval e X.env) :: starEach es X.env := by rfl) (hpl : (backTo pos (starEach es X.env)).any (·.1) = false := by rfl)
    (ht : eval (.Call (.Attribute o m apos) (e :: es) [] pos) X.env = (do
      let ov ← eval o X.env
      standAt apos.atName
      let (f, first) ← holding [ov] (getMethod ov m pl)
      callWith pos f first (backTo pos (starEach (e :: es) X.env)) (backToKw pos (keywordEach [] X.env))) := by rfl) :
    PE X (.Call (.Attribute o m apos) (e :: es) [] pos) (tMeth C m sp [] E0 ta t) := by
  obtain ⟨fd, F1, B⟩ := F.ex
  exact g_meth he c hm F1 (hr.mono hj) B passL ha hst hpl ht
theorem q_meth0 {pl : Sem Bool} (F : Ok X.prog X.w X.K X.mg X.base k f ps sp) (he : PE X o ta) (c : Cls X.K C) (hm : Meth X.K C m f) (hr : RoomG j X.A) (hj : k ≤ j := by first | decide | omega)
    (ht : eval (.Call (.Attribute o m apos) [] [] pos) X.env = (do
      let ov ← eval o X.env
      standAt apos.atName
      let (f, first) ← holding [ov] (getMethod ov m pl)
      callWith pos f first (backTo pos (starEach [] X.env)) (backToKw pos (keywordEach [] X.env))) := by rfl) :
    PE X (.Call (.Attribute o m apos) [] [] pos) (tMeth C m sp [] E0 ta tNil) := by
  obtain ⟨fd, F1, B⟩ := F.ex
  exact g_meth0 he c hm F1 (hr.mono hj) B passL ht
theorem q_prop (F : Ok X.prog X.w X.K X.mg X.base k g ps sp) (he : PE X e ta) (c : Cls X.K C) (hp : PropOf X.K C m p g) (hr : RoomG j X.A) (hj : k + 1 ≤ j := by first | decide | omega)
    (hab : attributeBase e m X.env (eval e X.env) = eval e X.env := by rfl) : PE X (.Attribute e m pos) (tProp C sp [] E0 ta) := by
  obtain ⟨fd, F1, B⟩ := F.ex
  exact g_prop he c hp F1 (hr.mono hj) B passL hab
theorem q_len (F : Ok X.prog X.w X.K X.mg X.base k f ps sp) (hm : Meth X.K C "__len__" f) (hr : RoomG j X.A) (hn : X.mg "len" = none) (ha : PA X (e :: es) t) (hj : k + 1 ≤ j := by first | decide | omega) (hg : Gl X "len" := by rfl)
    (he : starEach (e :: es) X.env = (false, eval e X.env) :: starEach es X.env := by rfl) (hpl : (backTo pos (starEach es X.env)).any (·.1) = false := by rfl) : PE X (.Call (.Name "len" pp) (e :: es) [] pos) (tCB (rLenI C sp) t) := by
  obtain ⟨fd, F1, B⟩ := F.ex
  exact pe_callB (call_lenI F1 (hr.mono hj) hm B) hg hn boot_len ha (by decide) (by decide) he hpl
theorem q_in (F : Ok X.prog X.w X.K X.mg X.base k f ps sp) (hm : Meth X.K C "__contains__" f) (hr : RoomG j X.A) (hj : k ≤ j := by first | decide | omega) : OpR X (compareOp .In) (rInI C sp false) := by
  obtain ⟨fd, F1, B⟩ := F.ex
  exact op_inI F1 (hr.mono hj) hm B
theorem q_notin (F : Ok X.prog X.w X.K X.mg X.base k f ps sp) (hm : Meth X.K C "__contains__" f) (hr : RoomG j X.A) (hj : k ≤ j := by first | decide | omega) : OpR X (compareOp .NotIn) (rInI C sp true) := by
  obtain ⟨fd, F1, B⟩ := F.ex
  exact op_notInI F1 (hr.mono hj) hm B
theorem q_bin {op : Operator} (F : Ok X.prog X.w X.K X.mg X.base k f ps sp) (hm : Meth X.K C (PySem.dunder op.info.2) f) (hc : PySem.W.selfFirst X.K C = true) (hr : RoomG j X.A) (hj : k ≤ j := by first | decide | omega) : OpR X (binaryOp op) (rBinI C C sp) := by
  obtain ⟨fd, F1, B⟩ := F.ex
  exact op_binI F1 (hr.mono hj) hm hc B
theorem q_bin2 {op : Operator} {f2 : Addr} (F : Ok X.prog X.w X.K X.mg X.base k f ps sp) (hm : Meth X.K C (PySem.dunder op.info.2) f) (b2 : Bin2 X.K C Dc op.info.2 f2) (hr : RoomG j X.A) (hj : k ≤ j := by first | decide | omega) : OpR X (binaryOp op) (rBinI C Dc sp) := by
  obtain ⟨fd, F1, B⟩ := F.ex
  exact op_binI2 F1 (hr.mono hj) hm b2 B
theorem q_eq (F : Ok X.prog X.w X.K X.mg X.base k f ps sp) (hm : Meth X.K C "__eq__" f) (hr : RoomG j X.A) (hj : k ≤ j := by first | decide | omega) : OpR X (compareOp .Eq) (rEqI C sp) := by
  obtain ⟨fd, F1, B⟩ := F.ex
  exact op_eqI F1 (hr.mono hj) hm B
theorem q_inv (F : Ok X.prog X.w X.K X.mg X.base k f ps sp) (hm : Meth X.K C "__invert__" f) (hr : RoomG j X.A) (hj : k ≤ j := by first | decide | omega) : UnR X (unaryOp .Invert) (rInvI C sp) := by
  obtain ⟨fd, F1, B⟩ := F.ex
  exact un_invI F1 (hr.mono hj) hm B
theorem q_get (F : Ok X.prog X.w X.K X.mg X.base k f ps sp) (hm : Meth X.K C "__getitem__" f) (hn : PySem.W.fnIn X.K f = true) (hr : RoomG j X.A) (ha : PE X e ta) (hb : PE X o tb) (hj : k + 1 ≤ j := by first | decide | omega)
    (hsl : ∀ u i, subscripted o true u i = runValue (.builtin "lifetime.subscript" ⟨[u, i], []⟩) := by intro _ _; with_unfolding_all rfl) : PE X (.Subscript e o pos) (tOp (rGetI C sp) ta tb) := by
  obtain ⟨fd, F1, B⟩ := F.ex
  exact ix_own F1 (hr.mono hj) hm hn B ha hb hsl
end
end Fw

set_option maxHeartbeats 4000000
/-! More rules by data: chains, pairs, == of dicts, the stream. -/
namespace Fw
open PySem PySem.Spec PyProof.Rows L2
section
variable {K : PySem.W.Frag} {E : XK} {G : Gm} {O : OL} {ke : Xd → Prop} {kn : Gm → OL → Prop} {kr : D → Prop}
theorem dt_chain {r r' : R2} {f f' : F2} {ta tb tc : TE} {k : D → Prop} (hr : OpD K r f) (hr' : OpD K r' f')
    (h : DT K E ta G O (fun a => DT K E tb G O (fun b => f a b (fun d => ∃ t, d = .bl t ∧ (t = true → DT K E tc G O (fun c => f' b c k) ke) ∧ (t = false → k (.bl false)))) ke) ke) : DT K E (tChain r r' ta tb tc) G O k ke := fun S0 Os σ H Q st hq he =>
  h.bind st he fun x H1 a ha s1 st1 he1 rx => ha.bind st1 he1 fun y H2 b hb s2 st2 he2 ry =>
    hr _ H2 x y a b _ _ st2.domW (rx.same s2) ry hb fun z H3 d ⟨t, e, k1, k2⟩ s3 rz => by
      subst e; cases rz
      refine ⟨t, rfl, ?_⟩
      cases t with
      | true => exact iteT ((k1 rfl).bind (st2.same s3) (he2.same s3) fun w H4 c hc s4 st4 he4 rw' => hr' _ H4 y w b c Q k st4.domW (ry.same (s3.trans s4)) rw' hc fun v H5 d kd s5 r => hq v H5 d kd (((s1.trans s2).trans s3).trans (s4.trans s5)) r)
      | false => exact iteF (hq _ H3 _ (k2 rfl) ((s1.trans s2).trans s3) (.bl false))
theorem ds_par {i j : Nat} {ta : TA} (hi : ∀ o ∈ O, o.1 ≠ i) (hj : ∀ o ∈ O, o.1 ≠ j) (h : DA K E ta G O (fun ds => ∃ a b, ds = [a, b] ∧ kn ((G.set i (some a)).set j (some b)) O) ke) : DS K E (tPar i j ta) G O kn kr ke := fun S0 H0 Os σ H Ds f st hn hr he =>
  h.at_ f st he fun vs H1 ds ⟨a, b, e, kd⟩ s f1 st1 r => by
    subst e
    cases r with
    | cons ra t =>
      cases t with
      | cons rb t =>
        cases t
        exact ⟨_, _, rfl, hn _ O Os _ H1 kd (Chg.of_same s) ((st1.set ra hi).set rb hj)⟩
theorem ds_asgG {te : TE} {g : TG} {is : List Nat} (h : DT K E te G O (fun d => DG K g is d G O (fun G' => kn G' O)) ke) : DS K E (tAsg te g) G O kn kr ke := fun S0 H0 Os σ H Ds f st hn hr he =>
  h.at_ f st he fun v H1 d kd s f1 st1 r => kd S0 Os σ H1 v _ st1 r fun G' σ' k' st' _ _ => hn G' O Os σ' H1 k' (Chg.of_same s) st'
theorem ds_asgT {te : TE} {i j : Nat} (hi : ∀ o ∈ O, o.1 ≠ i) (hj : ∀ o ∈ O, o.1 ≠ j) (h : DT K E te G O (fun d => ∃ a b, d = .tup [a, b] ∧ kn ((G.set i (some a)).set j (some b)) O) ke) : DS K E (tAsg te (gTup K 2 (gCons (gName i) (gCons (gName j) gNil)))) G O kn kr ke :=
  ds_asgG (is := [i] ++ ([j] ++ [])) fun S0 Os σ H Q st hq he => h S0 Os σ H Q st (fun v H' d ⟨a, b, e, kd⟩ s r => hq v H' d (by
    subst e
    exact dg_tup rfl (dgs_cons (dg_name hi (dgs_cons (dg_name hj (dgs_nil kd)))))) s r) he
/-- a new empty list, to be filled -/
theorem ds_asgE {i : Nat} (hi : ∀ o ∈ O, o.1 ≠ i) (hl : i < G.length) (h : kn (G.set i none) ((i, .lst []) :: O)) : DS K E (tAsg (tLst tNil) (gName i)) G O kn kr ke :=
  ds_asgF hi hl (df_lst (da_nil ⟨Nat.zero_le _, h⟩))
/-- what holds between -/
theorem ds_cut {t : TS} (A : Gm → OL → Prop) (h : DS K E t G O A kr ke) (i : ∀ G1 O1, A G1 O1 → kn G1 O1) : DS K E t G O kn kr ke := h.imp i fun _ h => h
/-- both new -/
theorem ds_parF {i j : Nat} {ta tb : TE} (hij : i ≠ j) (hi : ∀ o ∈ O, o.1 ≠ i) (hj : ∀ o ∈ O, o.1 ≠ j) (hl : i < G.length) (hl2 : j < G.length)
    (h : DF K E ta G O (fun o1 => DF K E tb G O (fun o2 => kn ((G.set i none).set j none) ((j, o2) :: (i, o1) :: O)) ke) ke) : DS K E (tPar i j (tCons ta (tCons tb tNil))) G O kn kr ke := fun S0 H0 Os σ H Ds f st hn hr he =>
  h S0 Os σ H _ st (fun p H1 o1 k1 s1 np1 oa1 => by
    have st1 := st.same s1
    have hp1 : H1 p ≠ none := oa1.there
    let S0' : Addr → Prop := fun b => S0 b ∨ b = p
    have nW : ¬ W Os p := fun z => st.domW p (.inr z) np1
    have so : ∀ a, SO S0' Os a → SO S0 Os a ∨ a = p := fun a z => z.elim (fun z => z.elim (fun z => .inl (.inl z)) .inr) fun z => .inl (.inr z)
    have so2 : ∀ a, SO S0' Os a → SO S0 Os a ∨ H a = none := fun a z => (so a z).elim .inl fun e => .inr (by rw [e]; exact np1)
    have st1' : St1 K S0' G O Os σ H1 := by
      refine ⟨st1.os, st1.nd, fun a z => z.elim (st1.dom a) fun e => by rw [e]; exact hp1, fun a w z => z.elim (st1.ns a w) fun e => nW (by rw [← e]; exact w), st1.len, fun n e q => ?_, fun q hq => ?_⟩
      · obtain ⟨v, e1, r⟩ := st.re n e q
        exact ⟨v, e1, Rep.same (Rep.avoid so2 r) s1⟩
      · obtain ⟨h1, h2⟩ := st.own q hq
        refine ⟨h1, ?_⟩
        generalize q.2.2 = ow at h2 ⊢
        cases ow with
        | lst ds => obtain ⟨us, e, r⟩ := h2; exact ⟨us, s1 _ _ e, Reps.same (Reps.avoid so2 r) s1⟩
        | dic ds => obtain ⟨us, e, q, r⟩ := h2; exact ⟨us, s1 _ _ e, q, Reps.same (Reps.avoid so2 r) s1⟩
        | obj c ds => obtain ⟨dx, us, e, q, r⟩ := h2; exact ⟨dx, us, s1 _ _ e, q, Reps.same (Reps.avoid so2 r) s1⟩
        | slf _ c ds => obtain ⟨ea, dx, us, e, q, r⟩ := h2; exact ⟨ea, dx, us, s1 _ _ e, q, Reps.same (Reps.avoid so2 r) s1⟩
    have he1 : EOk K (SO S0' Os) H1 E ke := fun c d H2 x kx l r => (he.so f) c d H2 x kx (s1.trans l) (by
      obtain ⟨e, r⟩ := r
      refine ⟨e, ?_⟩
      cases q : x.arg with
      | none => rw [q] at r; exact r
      | some pr =>
        rw [q] at r
        obtain ⟨a, v, h1, hn, h2, h3⟩ := r
        exact ⟨a, v, h1, fun z => hn (z.elim (fun z => .inl (.inl z)) .inr), h2, Rep.weak (fun a z => z.elim (fun z => .inl (.inl z)) .inr) h3⟩)
    refine k1 S0' Os σ H1 _ st1' (fun p2 H2 o2 k2 s2 np2 oa2 => ⟨_, _, rfl, ?_⟩) he1
    have A := st.own_new (i := i) s1 np1 oa1 hi hl
    have wp : ∀ a, W ((p, i, o1) :: Os) a ↔ a = p ∨ W Os a := fun a => by
      show a ∈ List.map _ _ ↔ _
      rw [List.map_cons, List.mem_cons]; exact Iff.rfl
    have oa2' : OwnAt K (fun b => SO S0 ((p, i, o1) :: Os) b ∨ b = p2) H2 p2 o2 := by
      have w1 : ∀ a, (SO S0 ((p, i, o1) :: Os) a ∨ a = p2) → (SO S0' Os a ∨ a = p2) := fun a z => z.imp (fun z => z.elim (fun z => .inl (.inl z)) fun z => ((wp a).mp z).elim (fun e => .inl (.inr e)) .inr) id
      cases o2 with
      | lst ds => obtain ⟨us, e, r⟩ := oa2; exact ⟨us, e, Reps.weak w1 r⟩
      | dic ds => obtain ⟨us, e, q, r⟩ := oa2; exact ⟨us, e, q, Reps.weak w1 r⟩
      | obj c ds => obtain ⟨dx, us, e, q, r⟩ := oa2; exact ⟨dx, us, e, q, Reps.weak w1 r⟩
      | slf _ c ds => obtain ⟨ea, dx, us, e, q, r⟩ := oa2; exact ⟨ea, dx, us, e, q, Reps.weak w1 r⟩
    have B := A.own_new (i := j) s2 np2 oa2' (fun o ho => by
      rcases List.mem_cons.mp ho with e | ho
      · rw [e]; exact hij
      · exact hj o ho) (by rw [List.length_set]; exact hl2)
    refine hn _ _ _ _ H2 k2 ⟨Same.sx (s1.trans s2), fun a z => ?_⟩ B
    have z' : a ∈ List.map _ _ := z
    rw [List.map_cons, List.map_cons, List.mem_cons, List.mem_cons] at z'
    rcases z' with z' | z' | z'
    · exact .inr (by rw [z']; exact s1.free np2)
    · exact .inr (by rw [z']; exact np1)
    · exact .inl z') (he.so f)
theorem ds_never {P : Prop} (h : False) : DS K E tNever G O kn kr ke := h.elim
theorem df_dnew {k : Ow → Prop} (h : k (.dic [])) : DF K E tDNewK G O k ke := fun S0 Os σ H Q st hq he => fun p np => hq p _ _ h (Same.put np) np ⟨[], upd_same, rfl, .nil⟩
/-- == of dicts of different sizes -/
def rEqDn : R2 := fun x y H Q => ∃ (a b : Addr) (ka kb : List (Key × V)), x = .ref a ∧ y = .ref b ∧ Rd H a (.dK ka) ∧ Rd H b (.dK kb) ∧ ka.length ≠ kb.length ∧ Q (.bl false) H
theorem opd_eqDn : OpD K rEqDn (fun a b k => ∃ ka kb, a = .dic ka ∧ b = .dic kb ∧ ka.length ≠ kb.length ∧ k (.bl false)) := by
  intro S H x y a b Q k dm rx ry ⟨ka, kb, e1, e2, l, q⟩ hq
  subst e1 e2
  cases rx with
  | dic n h e r =>
    cases ry with
    | dic n2 h2 e2 r2 => exact ⟨_, _, _, _, rfl, rfl, h, h2, by rw [len_pair e, len_pair e2]; exact l, hq _ H _ q (Same.refl H) (.bl _)⟩
end
theorem op_eqDn {X : Cx} {k : Nat} (hr : RoomG k X.A) : OpR X (compareOp .Eq) rEqDn := by
  intro pins s σ H x y v u Q I rx ry ⟨a, b, ka, kb, e1, e2, ha, hb, hl, q⟩
  subst e1 e2; cases rx; cases ry
  obtain ⟨_, sa, va, kva, da⟩ := dk_rd I.hok ha
  obtain ⟨_, sb, vb, kvb, db⟩ := dk_rd I.hok hb
  have la : ka.length = va.length := Paired.length kva
  have lb : kb.length = vb.length := Paired.length kvb
  refine PySem.W.rcP_dicts (r := false) sa sb da db hr.rm.units0 (fun z => absurd (by rw [la, lb]; exact z) hl) X.xe (EP X pins σ Q) ?_
  exact ⟨.bl false, H, I, by rw [Bool.and_false]; exact rfl, q⟩

section
variable {X : Cx} {k : Nat} {o i : Expr} {td ty : TE} {pos : Pos}
theorem q_dget (hr : RoomG k X.A) (ho : PE X o td) (hi : PE X i ty) (hs : NoSl i) : PE X (.Subscript o i pos) (tDGet td ty) := pe_dget (hu_of hr.rm) ho hi hs
theorem q_din (hr : RoomG k X.A) (hi : PE X i ty) (ho : PE X o td) : PC X .In i o (tDIn ty td) := pc_din (hu_of hr.rm) hi ho
theorem q_dnotin (hr : RoomG k X.A) (hi : PE X i ty) (ho : PE X o td) : PC X .NotIn i o (tDNotIn ty td) := pc_dnotin (hu_of hr.rm) hi ho
theorem q_eqD (hr : RoomG k X.A) : OpR X (compareOp .Eq) (rEqD X.K) := op_eqD hr.rm.units
theorem q_neD (hr : RoomG k X.A) : OpR X (compareOp .NotEq) (rNeD X.K) := op_neD hr.rm.units
end
section
variable {K : PySem.W.Frag}
theorem und_neg : UnD K (rU fun i => .int (-i)) (fun a k => ∃ i, a = .int i ∧ k (.int (-i))) := by
  intro S H x a Q k dm rx ⟨i, e, q⟩ hq
  subst e; cases rx
  exact ⟨i, rfl, hq _ H _ q (Same.refl H) (.int _)⟩
/-- what has a length -/
inductive LenD : List D → Nat → Prop where
  | lst (xs : List D) : LenD [.lst xs] xs.length
  | tup (xs : List D) : LenD [.tup xs] xs.length
  | str (z : Str) (h : z.length ≤ sizeLine) : LenD [.str z] z.length
  | scr (ns : List Int) : LenD [.scr ns] ns.length
theorem cad_lenA : CaD K (rLenB K) (fun ds k => ∃ n : Nat, LenD ds n ∧ k (.int (n : Nat))) := by
  intro S H xs ds Q k dm rx ⟨n, h, q⟩ hq
  cases h with
  | lst ys => exact cad_len S H xs _ Q k dm rx ⟨_, rfl, .inl ⟨_, rfl, q⟩⟩ hq
  | tup ys => exact cad_len S H xs _ Q k dm rx ⟨_, rfl, .inr (.inl ⟨_, rfl, q⟩)⟩ hq
  | str z h => exact cad_len S H xs _ Q k dm rx ⟨_, rfl, .inr (.inr ⟨_, rfl, h, q⟩)⟩ hq
  | scr ns => exact cad_lenS S H xs _ Q k dm rx ⟨_, rfl, q⟩ hq
end
/-! the same, the written part told by name (a comprehension's block asks it) -/
section
variable {X : Cx} {k : Nat} {e o i : Expr} {ta td ty : TE} {pos : Pos} {f : Str} (K : PySem.W.Frag)
theorem z_fld (he : PE X e ta) (hK : X.K = K := by rfl) (hb : attributeBase e f X.env (eval e X.env) = eval e X.env := by rfl) : PE X (.Attribute e f pos) (tFld K ta f) := by subst hK; exact pe_fld he hb
theorem z_ixL (hK : X.K = K := by rfl) : IxR X (rIxL K) := by subst hK; exact ix_list
theorem z_ixT (hK : X.K = K := by rfl) : IxR X (rIxT K) := by subst hK; exact ix_tup
theorem z_in (hK : X.K = K := by rfl) : OpR X (compareOp .In) (rIn K false) := by subst hK; exact op_in_seq
theorem z_nin (hK : X.K = K := by rfl) : OpR X (compareOp .NotIn) (rIn K true) := by subst hK; exact op_notIn_seq
theorem z_eqD (hr : RoomG k X.A) (hK : X.K = K := by rfl) : OpR X (compareOp .Eq) (rEqD K) := by subst hK; exact q_eqD hr
theorem z_neD (hr : RoomG k X.A) (hK : X.K = K := by rfl) : OpR X (compareOp .NotEq) (rNeD K) := by subst hK; exact q_neD hr
theorem z_len (hK : X.K = K := by rfl) : CallR X (.builtin "len") (rLenB K) := by subst hK; exact call_len
theorem z_isi (hK : X.K = K := by rfl) : CallR X (.builtin "isinstance") (rIsi K) := by subst hK; exact call_isi
theorem z_all (hc : X.calm = true) (hK : X.K = K := by rfl) : CallR X (.builtin "all") (rAll K) := by subst hK; exact cr_all hc
theorem z_any (hc : X.calm = true) (hK : X.K = K := by rfl) : CallR X (.builtin "any") (rAny K) := by subst hK; exact cr_any hc
theorem z_sum (hc : X.calm = true) (hK : X.K = K := by rfl) : CallR X (.builtin "sum") (rSum K) := by subst hK; exact cr_sum hc
theorem z_sortedS (hK : X.K = K := by rfl) : CallR X (.builtin "sorted") (rSortedS K) := by subst hK; exact cr_sortedS
theorem z_listof (hK : X.K = K := by rfl) : CallR X (.type "list") (fun xs H Q => ∃ p ys, xs = [.ref p] ∧ (SqL K H p ys ∨ SqT K H p ys) ∧ ∀ l, H l = none → Q (.ref l) (upd H l (.lst ys))) := by subst hK; exact call_list_of
theorem z_dictP (hc : X.calm = true) (hK : X.K = K := by rfl) : CallR X (.type "dict") (fun xs H Q => ∃ (a : Addr) (ps : List Addr) (kvs : List (Key × V)), xs = [.ref a] ∧ SqL K H a (ps.map V.ref) ∧ Paired (fun p kv => SqT K H p [kV kv.1, kv.2]) ps kvs ∧ ∀ p, H p = none → Q (.ref p) (upd H p (.dK (mergeK [] kvs)))) := by subst hK; exact call_dictP hc
theorem z_slL (hK : X.K = K := by rfl) : SlR X (rSlL K) := by subst hK; exact sl_list
theorem z_plist {tg : Expr} (hl : PE X e ta) (hK : X.K = K := by rfl) : PI X tg e (iList K ta) := by subst hK; exact pi_list hl
end
theorem q_tup {X : Cx} {pos : Pos} {es : List Expr} {k : Nat} {t : TGs} {n : Nat} (K : PySem.W.Frag) (hK : X.K = K) (hc : X.calm = true) (h : PGs X es t)
    (hn : (assignEach es X.env).length = n := by rfl) (hst : (assignEach es X.env).findIdx? (·.1) = none := by rfl) : PG X (.Tuple es k pos) (gTup K n t) := by
  subst hK; exact pg_tup hc h hn hst
/-! ### the stream -/
section
variable {X : Cx} {pins : List (Addr × Obj)} {σ : L2.St} {H : Hp} {s : Shared} {p : Addr}
theorem Inv.stm {i j : Int} (I : Inv X pins σ H s) (h : H p = some (.lst [.int i, .int j])) (hb : StmB i j) : Inv X pins σ (upd H p (stmO p)) s := by
  obtain ⟨_, its, n, r, hg⟩ := I.hok p _ h
  cases r with
  | cons h1 t =>
    cases t with
    | cons h2 t =>
      cases t
      obtain ⟨t1, rfl⟩ := h1
      obtain ⟨t2, rfl⟩ := h2
      refine I.write (x := p) (e := p) (t' := s.toks) (h' := s.heap) (by rw [h]; trivial) (.inl rfl) (fun b v _ q => q) ⟨_, hg⟩ ?_
      exact ⟨⟨i, j, _, _, n, hb, hg⟩, ⟨_, hg⟩, fun h1 h2 ⟨i, j, t, u, n, hb, e⟩ k => ⟨i, j, t, u, n, hb, k _ e⟩⟩
theorem Inv.unstm (I : Inv X pins σ H s) (h : H p = some (stmO p)) : ∃ i j, StmB i j ∧ Inv X pins σ (upd H p (.lst [.int i, .int j])) s := by
  obtain ⟨⟨i, j, t, u, n, hb, hg⟩, _, _⟩ := I.hok p _ h
  exact ⟨i, j, hb, I.write (x := p) (e := p) (t' := s.toks) (h' := s.heap) (by rw [h]; trivial) (.inl rfl) (fun b v _ q => q) ⟨_, hg⟩ ⟨by show (2 : Nat) ≤ sizeLine; decide, [.int i t, .int j u], n, .cons ⟨t, rfl⟩ (.cons ⟨u, rfl⟩ .nil), hg⟩⟩
/-- a new pair of ints is a stream from now on -/
def tStm (t : TE) : TE := fun σ H Q => t σ H fun x H1 => ∃ p i j, x = .ref p ∧ H1 p = some (.lst [.int i, .int j]) ∧ StmB i j ∧ Q x (upd H1 p (stmO p))
theorem pe_stm {e : Expr} {t : TE} (h : PE X e t) : PE X e (tStm t) := by
  refine ⟨fun pins s σ H Q I q => ?_⟩
  refine thn (h.run pins s σ H _ I q) fun v s1 ⟨x, H1, I1, r1, p, i, j, e, hp, hb, k⟩ => ?_
  exact ⟨x, _, Inv.stm I1 hp hb, r1, k⟩
/-- a def over the stream in slot 0, opened -/
def tOpenS (t : TS) : TS := fun D σ H => ∃ p, σ[0]? = some (some (.ref p)) ∧ H p = some (stmO p) ∧ ∀ i j, StmB i j →
  t { nx := fun _ _ => False, rt := fun v H' => ∃ i' j', StmB i' j' ∧ H' p = some (.lst [.int i', .int j']) ∧ D.rt v (upd H' p (stmO p)) } σ (upd H p (.lst [.int i, .int j]))
theorem pss_openS {st : List Stmt} {t : TS} (h : PSs X st t) : PSs X st (tOpenS t) := by
  refine ⟨fun pins s σ H D I ⟨p, hs, hp, k⟩ => ?_⟩
  obtain ⟨i, j, hb, I2⟩ := Inv.unstm I hp
  refine thn (h.run pins s σ _ _ I2 (k i j hb)) fun f s1 q => ?_
  cases f with
  | next => obtain ⟨σ', H', I2, z⟩ := q; exact z.elim
  | brk => obtain ⟨σ', H', I2, z⟩ := q; exact z.elim
  | cont => obtain ⟨σ', H', I2, z⟩ := q; exact z.elim
  | ret v => obtain ⟨x, σ', H', I2, r, i', j', hb', hp', z⟩ := q; exact ⟨x, σ', _, Inv.stm I2 hp' hb', r, z⟩
end
section
variable {K : PySem.W.Frag} {E : XK} {G : Gm} {O : OL} {ke : Xd → Prop}
theorem dt_stm {t : TE} {k : D → Prop} (h : DF K E t G O (fun o => ∃ i j, o = .lst [.int i, .int j] ∧ StmB i j ∧ k .stm) ke) : DT K E (tStm t) G O k ke := fun S0 Os σ H Q st hq he =>
  h S0 Os σ H _ st (fun p H1 o ⟨i, j, e, hb, kd⟩ s1 np oa => by
    subst e
    obtain ⟨vs, hp, r⟩ := oa
    cases r with
    | cons h1 t1 =>
      cases t1 with
      | cons h2 t2 =>
        cases t2
        cases h1; cases h2
        refine ⟨p, i, j, rfl, hp, hb, hq _ _ _ kd (fun a u e => ?_) (.stm (fun z => st.domW p z np) upd_same)⟩
        rw [upd_ne fun z => by rw [z, np] at e; cases e]
        exact s1 a u e) he
end
end Fw

set_option maxHeartbeats 4000000
/-! The program's data: names, sorted lists, committees, rankings, turns, games. -/
namespace Fw
open PySem PySem.Spec PyProof.Rows L2
def LET : Str := "abcdefghijklmnopqrstuvwxyz"
def isName (s : Str) : Bool := (decide ((1 : Int) ≤ (s.length : Nat)) && decide (((s.length : Nat) : Int) ≤ 8)) && s.cps.toList.all fun c => decide (c ∈ LET.cps.toList)
theorem isName_len {s : Str} (h : isName s = true) : s.length ≤ 8 := by
  unfold isName at h
  simp only [Bool.and_eq_true, decide_eq_true_eq] at h
  omega
theorem lt_conn : ∀ {a b : List Nat}, ltCps a b = false → ltCps b a = false → a = b
  | [], [], _, _ => rfl
  | [], _ :: _, h, _ => by simp [ltCps] at h
  | _ :: _, [], _, h => by simp [ltCps] at h
  | x :: r, y :: t, h1, h2 => by
    simp only [ltCps, Bool.or_eq_false_iff, Bool.and_eq_false_iff, decide_eq_false_iff_not, beq_eq_false_iff_ne, ne_eq] at h1 h2
    have e : x = y := by omega
    subst e
    obtain ⟨_, h1⟩ := h1
    obtain ⟨_, h2⟩ := h2
    rw [lt_conn (h1.resolve_left fun z => z rfl) (h2.resolve_left fun z => z rfl)]
theorem le_trans : ∀ {a b c : List Nat}, ltCps b a = false → ltCps c b = false → ltCps c a = false
  | [], _, [], _, _ => rfl
  | [], _, _ :: _, _, _ => rfl
  | _ :: _, [], _, h, _ => by simp [ltCps] at h
  | _ :: _, _ :: _, [], _, h => by simp [ltCps] at h
  | x :: r, y :: t, z :: u, h1, h2 => by
    simp only [ltCps, Bool.or_eq_false_iff, Bool.and_eq_false_iff, decide_eq_false_iff_not, beq_eq_false_iff_ne, ne_eq] at h1 h2 ⊢
    refine ⟨by omega, ?_⟩
    by_cases e : z = x
    · right
      have e1 : y = x := by omega
      subst e e1
      exact le_trans (h1.2.resolve_left fun z => z rfl) (h2.2.resolve_left fun z => z rfl)
    · exact .inl e
def leS (a b : Str) : Prop := ltCps b.cps.toList a.cps.toList = false
theorem rising_pw : ∀ {p : Str} {l : List Str}, risingS p l = true → (p :: l).Pairwise leS
  | p, [], _ => by simp
  | p, x :: r, h => by
    have h' : (!ltCps x.cps.toList p.cps.toList && risingS x r) = true := h
    rw [Bool.and_eq_true, Bool.not_eq_true'] at h'
    have ih := rising_pw h'.2
    refine List.pairwise_cons.mpr ⟨fun y hy => ?_, ih⟩
    rcases List.mem_cons.mp hy with e | hy
    · subst e; exact h'.1
    · exact le_trans h'.1 ((List.pairwise_cons.mp ih).1 y hy)
theorem sorted_pw : ∀ {l : List Str}, sortedS l = true → l.Pairwise leS
  | [], _ => .nil
  | x :: r, h => rising_pw h
theorem leS_anti {a b : Str} (h1 : leS a b) (h2 : leS b a) : a = b := by
  have e := lt_conn h2 h1
  cases a; cases b
  congr 1
  exact Array.toList_inj.mp e
def SortedOf (ss ys : List Str) : Prop := ys.Nodup ∧ (∀ x, x ∈ ys ↔ x ∈ ss) ∧ sortedS ys = true
theorem SortedOf.uniq {ss ys zs : List Str} (h1 : SortedOf ss ys) (h2 : SortedOf ss zs) : ys = zs := by
  have p : ys.Perm zs := (List.perm_ext_iff_of_nodup h1.1 h2.1).mpr fun x => (h1.2.1 x).trans (h2.2.1 x).symm
  exact p.eq_of_pairwise (fun _ _ _ _ => leS_anti) (sorted_pw h1.2.2) (sorted_pw h2.2.2)
/-- the names, each once, sorted -/
noncomputable def srt (ss : List Str) : List Str := open Classical in if h : ∃ ys, SortedOf ss ys then h.choose else []
theorem srt_eq {ss ys : List Str} (h : SortedOf ss ys) : srt ss = ys := by
  unfold srt
  rw [dif_pos ⟨ys, h⟩]
  exact SortedOf.uniq (Exists.choose_spec (⟨ys, h⟩ : ∃ ys, SortedOf ss ys)) h
/-- there is always one -/
def insS (x : Str) : List Str → List Str
  | [] => [x]
  | y :: r => if ltCps y.cps.toList x.cps.toList then y :: insS x r else x :: y :: r
theorem lt_asymm : ∀ {a b : List Nat}, ltCps a b = true → ltCps b a = false
  | [], [], h => rfl
  | [], _ :: _, _ => rfl
  | _ :: _, [], h => by simp [ltCps] at h
  | x :: r, y :: t, h => by
    simp only [ltCps, Bool.or_eq_true, Bool.and_eq_true, decide_eq_true_eq, beq_iff_eq] at h
    simp only [ltCps, Bool.or_eq_false_iff, Bool.and_eq_false_iff, decide_eq_false_iff_not, beq_eq_false_iff_ne, ne_eq]
    rcases h with h | ⟨e, h⟩
    · exact ⟨by omega, .inl (by omega)⟩
    · exact ⟨by omega, .inr (lt_asymm h)⟩
theorem insS_mem {x y : Str} : ∀ {l : List Str}, y ∈ insS x l ↔ y = x ∨ y ∈ l
  | [] => by simp [insS]
  | z :: r => by
    unfold insS
    split
    · rw [List.mem_cons, insS_mem, List.mem_cons]
      constructor
      · rintro (h | h | h)
        · exact .inr (.inl h)
        · exact .inl h
        · exact .inr (.inr h)
      · rintro (h | h | h)
        · exact .inr (.inl h)
        · exact .inl h
        · exact .inr (.inr h)
    · rw [List.mem_cons]
theorem insS_pw {x : Str} : ∀ {l : List Str}, l.Pairwise leS → (insS x l).Pairwise leS
  | [], _ => by simp [insS]
  | z :: r, h => by
    have h2 := List.pairwise_cons.mp h
    unfold insS
    split
    · rename_i hz
      refine List.pairwise_cons.mpr ⟨fun y hy => ?_, insS_pw h2.2⟩
      rcases insS_mem.mp hy with e | hy
      · subst e; exact lt_asymm hz
      · exact h2.1 y hy
    · rename_i hz
      have hz' : leS x z := by
        unfold leS
        cases q : ltCps z.cps.toList x.cps.toList with
        | true => exact absurd q hz
        | false => rfl
      refine List.pairwise_cons.mpr ⟨fun y hy => ?_, h⟩
      rcases List.mem_cons.mp hy with e | hy
      · subst e; exact hz'
      · exact le_trans hz' (h2.1 y hy)
theorem insS_nodup {x : Str} : ∀ {l : List Str}, l.Nodup → x ∉ l → (insS x l).Nodup
  | [], _, _ => by simp [insS]
  | z :: r, h, hx => by
    have h2 := List.nodup_cons.mp h
    unfold insS
    split
    · refine List.nodup_cons.mpr ⟨fun y => ?_, insS_nodup h2.2 fun y => hx (List.mem_cons_of_mem _ y)⟩
      rcases insS_mem.mp y with e | y
      · exact hx (by rw [e]; exact List.mem_cons_self)
      · exact h2.1 y
    · exact List.nodup_cons.mpr ⟨hx, h⟩
theorem srt_ex : ∀ ss : List Str, ∃ ys, SortedOf ss ys
  | [] => ⟨[], .nil, fun x => Iff.rfl, rfl⟩
  | s :: r => by
    obtain ⟨ys, h1, h2, h3⟩ := srt_ex r
    by_cases hs : s ∈ r
    · exact ⟨ys, h1, fun x => by rw [h2, List.mem_cons]; exact ⟨.inr, fun h => h.elim (fun e => e ▸ hs) id⟩, h3⟩
    · refine ⟨insS s ys, insS_nodup h1 fun z => hs ((h2 s).mp z), fun x => by rw [insS_mem, h2, List.mem_cons], ?_⟩
      exact sortedS_of_pairwise _ (insS_pw (sorted_pw h3))
theorem srt_ok (ss : List Str) : SortedOf ss (srt ss) := by
  obtain ⟨ys, h⟩ := srt_ex ss
  rw [srt_eq h]; exact h
theorem srt_mem {ss : List Str} {x : Str} : x ∈ srt ss ↔ x ∈ ss := (srt_ok ss).2.1 x
theorem srt_nodup (ss : List Str) : (srt ss).Nodup := (srt_ok ss).1
theorem srt_sorted (ss : List Str) : sortedS (srt ss) = true := (srt_ok ss).2.2
theorem srt_congr {ss ts : List Str} (h : ∀ x, x ∈ ss ↔ x ∈ ts) : srt ss = srt ts := srt_eq ⟨srt_nodup ts, fun x => srt_mem.trans (h x).symm, srt_sorted ts⟩
theorem srt_perm {ss : List Str} (h : ss.Nodup) : (srt ss).Perm ss := (List.perm_ext_iff_of_nodup (srt_nodup ss) h).mpr fun x => srt_mem
theorem srt_len {ss : List Str} (h : ss.Nodup) : (srt ss).length = ss.length := (srt_perm h).length_eq
theorem srt_srt (ss : List Str) : srt (srt ss) = srt ss := srt_congr fun x => srt_mem
theorem nodup_le : ∀ {xs ys : List Str}, xs.Nodup → (∀ x ∈ xs, x ∈ ys) → xs.length ≤ ys.length
  | [], _, _, _ => Nat.zero_le _
  | x :: xs, ys, h, s => by
    have h2 := List.nodup_cons.mp h
    have hx : x ∈ ys := s x List.mem_cons_self
    have ih := nodup_le (ys := ys.erase x) h2.2 fun y hy => by
      have ne : y ≠ x := fun e => h2.1 (e ▸ hy)
      exact (List.mem_erase_of_ne ne).mpr (s y (List.mem_cons_of_mem _ hy))
    rw [List.length_erase_of_mem hx] at ih
    have : 0 < ys.length := List.length_pos_of_mem hx
    rw [List.length_cons]; omega
theorem srt_le (ss : List Str) : (srt ss).length ≤ ss.length := nodup_le (srt_nodup ss) fun x hx => srt_mem.mp hx
/-! ### objects -/
abbrev sl (ss : List Str) : D := .lst (ss.map D.str)
noncomputable def cmt (ss : List Str) : D := .obj "Committee" [("own_members", sl (srt ss))]
/-- the places of a ranking -/
def plc (ss : List Str) : List (Key × D) := ss.zipIdx.map fun p => ((.inr p.1 : Key), D.int (p.2 : Nat))
def rk (ss : List Str) : D := .obj "Ranking" [("order", sl ss), ("places", .dic (plc ss))]
def tn (ss : List Str) : D := .obj "Turns" [("order", sl ss)]
def rks (rs : List (Str × List Str)) : List (Key × D) := rs.map fun p => ((.inr p.1 : Key), rk p.2)
def gm (rs : List (Str × List Str)) (ts : List Str) : D := .obj "Game" [("own_rankings", .dic (rks rs)), ("own_turns", tn ts)]
/-- lists of names that are allowed -/
structure Nm (ss : List Str) : Prop where
  name : ∀ s ∈ ss, isName s = true
  len : ss.length ≤ 30
/-! ### comprehensions over a list of data of one kind -/
def RM {α : Type} (g f : α → D) : D → Option D → Prop := fun x o => ∀ a, x = g a → o = some (f a)
def RF {α : Type} (g : α → D) (p : α → Bool) (f : α → D) : D → Option D → Prop := fun x o => ∀ a, x = g a → o = if p a then some (f a) else none
theorem LcR.mapOf {α : Type} {g f : α → D} : ∀ {as : List α} {ys : List D}, LcR (RM g f) (as.map g) ys → ys = as.map f
  | [], _, .nil => rfl
  | a :: as, _, .keep r t => by
    have e := r a rfl
    cases e
    rw [LcR.mapOf t]; rfl
  | a :: as, _, .skip r t => by cases r a rfl
theorem LcR.filterOf {α : Type} {g f : α → D} {p : α → Bool} : ∀ {as : List α} {ys : List D}, LcR (RF g p f) (as.map g) ys → ys = (as.filter p).map f
  | [], _, .nil => rfl
  | a :: as, _, .keep r t => by
    have e := r a rfl
    cases hp : p a with
    | false => rw [hp] at e; cases e
    | true =>
      rw [hp] at e; cases e
      rw [LcR.filterOf t, List.filter_cons_of_pos hp]; rfl
  | a :: as, _, .skip r t => by
    have e := r a rfl
    cases hp : p a with
    | true => rw [hp] at e; cases e
    | false => rw [LcR.filterOf t, List.filter_cons_of_neg (by rw [hp]; exact Bool.false_ne_true)]
theorem all_id {α : Type} {p : α → Bool} {as : List α} : (as.map p).all id = as.all p := by rw [List.all_map]; rfl
theorem sizeL : (1000000 : Nat) < sizeLine := by decide
end Fw

set_option maxHeartbeats 4000000
/-! Comprehensions that map and filter; dicts by their keys. -/
namespace Fw
open PySem PySem.Spec PyProof.Rows L2
section
variable {K : PySem.W.Frag} {E : XK} {G : Gm} {O : OL} {ke : Xd → Prop}
theorem DG.imp {g : TG} {is : List Nat} {d : D} {k k' : Gm → Prop} (h : DG K g is d G O k) (i : ∀ G, k G → k' G) : DG K g is d G O k' := fun S0 Os σ H v Q st r hq => h S0 Os σ H v Q st r fun G' σ' k1 => hq G' σ' (i _ k1)
theorem DTT.imp {t : TT} {k k' : Bool → Prop} (h : DTT K E t G O k ke) (i : ∀ b, k b → k' b) : DTT K E t G O k' ke := fun S0 Os σ H Q st hq he => h S0 Os σ H Q st (fun b H' kb => hq b H' (i b kb)) he
theorem LcT.imp {g : TG} {is : List Nat} {tt : TT} {te : TE} {R R' : D → Option D → Prop} {x : D} (h : LcT K E g is tt te G O R x) (i : ∀ o, R x o → R' x o) : LcT K E g is tt te G O R' x :=
  DG.imp h fun G1 h1 => DTT.imp h1 fun b ⟨h2, h3⟩ => ⟨fun e => (h2 e).imp fun d => i _, fun e => i _ (h3 e)⟩
theorem DcT.imp {g : TG} {is : List Nat} {tt : TT} {tk te : TE} {R R' : D → Option (Key × D) → Prop} {x : D} (h : DcT K E g is tt tk te G O R x) (i : ∀ o, R x o → R' x o) : DcT K E g is tt tk te G O R' x :=
  DG.imp h fun G1 h1 => DTT.imp h1 fun b ⟨h2, h3⟩ => ⟨fun e => (h2 e).imp fun d hd => hd.imp fun z ⟨k, e, r⟩ => ⟨k, e, i _ r⟩, fun e => i _ (h3 e)⟩
theorem lct {g : TG} {is : List Nat} {tt : TT} {te : TE} {R : D → Option D → Prop} {x : D} (h : DG K g is x G O fun G1 => DTT K E tt G1 O (fun b => (b = true → DT K E te G1 O (fun y => R x (some y)) F0) ∧ (b = false → R x none)) F0) : LcT K E g is tt te G O R x := h
theorem dct {g : TG} {is : List Nat} {tt : TT} {tk te : TE} {R : D → Option (Key × D) → Prop} {x : D} (h : DG K g is x G O fun G1 => DTT K E tt G1 O (fun b => (b = true → DT K E tk G1 O (fun y => DT K E te G1 O (fun z => ∃ k, y = kD k ∧ R x (some (k, z))) F0) F0) ∧ (b = false → R x none)) F0) : DcT K E g is tt tk te G O R x := h
variable {α : Type} {wi : TI} {gt : TG} {tt : TT} {te tk : TE} {vs : List Nat} {k : Ow → Prop}
theorem df_lcM (is : List Nat) (g f : α → D) (inj : ∀ a b, g a = g b → f a = f b) (hs : ∀ i ∈ is, i ∈ vs) (hv : ∀ o ∈ O, o.1 ∉ vs)
    (h : DI K E wi G O (fun xs => ∃ as : List α, xs = as.map g ∧ as.length < sizeLine ∧ (∀ a ∈ as, LcT K E gt is tt te (wipeG G vs) O (fun _ o => o = some (f a)) (g a)) ∧ k (.lst (as.map f))) ke) : DF K E (tLc wi gt tt te vs) G O k ke :=
  df_lc is (RM g f) hs hv fun S0 Os σ H R st hR he => h S0 Os σ H R st (fun J H1 xs ⟨as, e, hl, ht, hk⟩ s wk => hR J H1 xs (by
    subst e
    refine ⟨by rw [List.length_map]; exact hl, fun x hx => ?_, fun ys r => by rw [r.mapOf]; exact hk⟩
    obtain ⟨a, ha, rfl⟩ := List.mem_map.mp hx
    exact (ht a ha).imp fun o e a' e' => by rw [e, inj _ _ e']) s wk) he
theorem df_lcF (is : List Nat) (g : α → D) (p : α → Bool) (f : α → D) (inj : ∀ a b, g a = g b → p a = p b ∧ f a = f b) (hs : ∀ i ∈ is, i ∈ vs) (hv : ∀ o ∈ O, o.1 ∉ vs)
    (h : DI K E wi G O (fun xs => ∃ as : List α, xs = as.map g ∧ as.length < sizeLine ∧ (∀ a ∈ as, LcT K E gt is tt te (wipeG G vs) O (fun _ o => o = if p a then some (f a) else none) (g a)) ∧ k (.lst ((as.filter p).map f))) ke) : DF K E (tLc wi gt tt te vs) G O k ke :=
  df_lc is (RF g p f) hs hv fun S0 Os σ H R st hR he => h S0 Os σ H R st (fun J H1 xs ⟨as, e, hl, ht, hk⟩ s wk => hR J H1 xs (by
    subst e
    refine ⟨by rw [List.length_map]; exact hl, fun x hx => ?_, fun ys r => by rw [r.filterOf]; exact hk⟩
    obtain ⟨a, ha, rfl⟩ := List.mem_map.mp hx
    exact (ht a ha).imp fun o e a' e' => by rw [e, (inj _ _ e').1, (inj _ _ e').2]) s wk) he
theorem df_lcLM (is : List Nat) (g f : α → D) (inj : ∀ a b, g a = g b → f a = f b) (hs : ∀ i ∈ is, i ∈ vs) (hv : ∀ o ∈ O, o.1 ∉ vs)
    (h : DIL K E wi G O (fun xs => ∃ as : List α, xs = as.map g ∧ as.length < sizeLine ∧ (∀ a ∈ as, LcT K E gt is tt te (wipeG G vs) O (fun _ o => o = some (f a)) (g a)) ∧ k (.lst (as.map f))) ke) : DF K E (tUnlE (tLc wi gt tt te vs)) G O k ke :=
  df_lcL is (RM g f) hs hv fun S0 Os σ H R st hR he => h S0 Os σ H R st (fun J Hm H1 xs ⟨as, e, hl, ht, hk⟩ s lk wk => hR J Hm H1 xs (by
    subst e
    refine ⟨by rw [List.length_map]; exact hl, fun x hx => ?_, fun ys r => by rw [r.mapOf]; exact hk⟩
    obtain ⟨a, ha, rfl⟩ := List.mem_map.mp hx
    exact (ht a ha).imp fun o e a' e' => by rw [e, inj _ _ e']) s lk wk) he
theorem df_lcLF (is : List Nat) (g : α → D) (p : α → Bool) (f : α → D) (inj : ∀ a b, g a = g b → p a = p b ∧ f a = f b) (hs : ∀ i ∈ is, i ∈ vs) (hv : ∀ o ∈ O, o.1 ∉ vs)
    (h : DIL K E wi G O (fun xs => ∃ as : List α, xs = as.map g ∧ as.length < sizeLine ∧ (∀ a ∈ as, LcT K E gt is tt te (wipeG G vs) O (fun _ o => o = if p a then some (f a) else none) (g a)) ∧ k (.lst ((as.filter p).map f))) ke) : DF K E (tUnlE (tLc wi gt tt te vs)) G O k ke :=
  df_lcL is (RF g p f) hs hv fun S0 Os σ H R st hR he => h S0 Os σ H R st (fun J Hm H1 xs ⟨as, e, hl, ht, hk⟩ s lk wk => hR J Hm H1 xs (by
    subst e
    refine ⟨by rw [List.length_map]; exact hl, fun x hx => ?_, fun ys r => by rw [r.filterOf]; exact hk⟩
    obtain ⟨a, ha, rfl⟩ := List.mem_map.mp hx
    exact (ht a ha).imp fun o e a' e' => by rw [e, (inj _ _ e').1, (inj _ _ e').2]) s lk wk) he
theorem DcR.mapOf {g : α → D} {h : α → Key × D} {xs : List D} {ys : List (Key × D)} (r : DcR (fun x o => ∀ a, x = g a → o = some (h a)) xs ys) : ∀ {as : List α}, xs = as.map g → ys = mergeD [] (as.map h) := by
  induction r with
  | nil =>
    intro as e
    cases as with
    | nil => rfl
    | cons _ _ => cases e
  | keep q r ih =>
    intro as e
    obtain ⟨bs, cs, rfl, e1, e2⟩ := List.map_eq_append_iff.mp e.symm
    cases cs with
    | nil => cases e2
    | cons c cs =>
      cases cs with
      | cons _ _ => cases e2
      | nil =>
        have ec : g c = _ := (List.cons.inj e2).1
        have eo := r c ec.symm
        injection eo with eo
        rw [ih e1.symm, List.map_append]
        unfold mergeD
        rw [List.foldl_append]
        show _ = putD _ (h c).1 (h c).2
        rw [← eo]
  | skip q r ih =>
    intro as e
    obtain ⟨bs, cs, rfl, e1, e2⟩ := List.map_eq_append_iff.mp e.symm
    cases cs with
    | nil => cases e2
    | cons c cs =>
      have ec : g c = _ := (List.cons.inj e2).1
      have eo := r c ec.symm
      cases eo
theorem df_dcM (is : List Nat) (g : α → D) (f : α → Key × D) (inj : ∀ a b, g a = g b → f a = f b) (hs : ∀ i ∈ is, i ∈ vs) (hv : ∀ o ∈ O, o.1 ∉ vs)
    (h : DI K E wi G O (fun xs => ∃ as : List α, xs = as.map g ∧ as.length < sizeLine ∧ (∀ a ∈ as, DcT K E gt is tt tk te (wipeG G vs) O (fun _ o => o = some (f a)) (g a)) ∧ k (.dic (mergeD [] (as.map f)))) ke) : DF K E (tDc wi gt tt tk te vs) G O k ke :=
  df_dc is (fun x o => ∀ a, x = g a → o = some (f a)) hs hv fun S0 Os σ H R st hR he => h S0 Os σ H R st (fun J H1 xs ⟨as, e, hl, ht, hk⟩ s wk => hR J H1 xs (by
    subst e
    refine ⟨by rw [List.length_map]; exact hl, fun x hx => ?_, fun ys r => by rw [r.mapOf rfl]; exact hk⟩
    obtain ⟨a, ha, rfl⟩ := List.mem_map.mp hx
    exact (ht a ha).imp fun o e a' e' => by rw [e, inj _ _ e']) s wk) he
theorem df_dcLM (is : List Nat) (g : α → D) (f : α → Key × D) (inj : ∀ a b, g a = g b → f a = f b) (hs : ∀ i ∈ is, i ∈ vs) (hv : ∀ o ∈ O, o.1 ∉ vs)
    (h : DIL K E wi G O (fun xs => ∃ as : List α, xs = as.map g ∧ as.length < sizeLine ∧ (∀ a ∈ as, DcT K E gt is tt tk te (wipeG G vs) O (fun _ o => o = some (f a)) (g a)) ∧ k (.dic (mergeD [] (as.map f)))) ke) : DF K E (tUnlE (tDc wi gt tt tk te vs)) G O k ke :=
  df_dcL is (fun x o => ∀ a, x = g a → o = some (f a)) hs hv fun S0 Os σ H R st hR he => h S0 Os σ H R st (fun J Hm H1 xs ⟨as, e, hl, ht, hk⟩ s lk wk => hR J Hm H1 xs (by
    subst e
    refine ⟨by rw [List.length_map]; exact hl, fun x hx => ?_, fun ys r => by rw [r.mapOf rfl]; exact hk⟩
    obtain ⟨a, ha, rfl⟩ := List.mem_map.mp hx
    exact (ht a ha).imp fun o e a' e' => by rw [e, inj _ _ e']) s lk wk) he
end
/-! ### keys -/
theorem any_iff {ds : List (Key × D)} {k : Key} : (ds.any fun kv => decide (kv.1 = k)) = true ↔ k ∈ ds.map Prod.fst := by
  rw [List.any_eq_true, List.mem_map]
  exact ⟨fun ⟨x, hx, e⟩ => ⟨x, hx, of_decide_eq_true e⟩, fun ⟨x, hx, e⟩ => ⟨x, hx, decide_eq_true e⟩⟩
theorem putD_keys (ds : List (Key × D)) (k : Key) (v : D) : (putD ds k v).map Prod.fst = if (ds.any fun kv => decide (kv.1 = k)) = true then ds.map Prod.fst else ds.map Prod.fst ++ [k] := by
  unfold putD
  by_cases h : (ds.any fun kv => decide (kv.1 = k)) = true
  · rw [if_pos h, if_pos h, List.map_map]
    apply List.map_congr_left
    intro x _
    show (if x.1 = k then (x.1, v) else x).1 = x.1
    split <;> rfl
  · rw [if_neg h, if_neg h, List.map_append]; rfl
theorem mergeD_keys : ∀ (more ds : List (Key × D)), (ds.map Prod.fst).Nodup → ((mergeD ds more).map Prod.fst).Nodup ∧ ∀ k, k ∈ (mergeD ds more).map Prod.fst ↔ k ∈ ds.map Prod.fst ∨ k ∈ more.map Prod.fst
  | [], ds, h => ⟨h, fun k => by simp [mergeD]⟩
  | p :: r, ds, h => by
    have h1 : ((putD ds p.1 p.2).map Prod.fst).Nodup := by
      rw [putD_keys]
      split
      · exact h
      · rename_i q
        refine List.nodup_append.mpr ⟨h, by simp, fun a ha b hb => ?_⟩
        rw [List.mem_singleton] at hb
        exact fun z => q (any_iff.mpr (by rw [← hb, ← z]; exact ha))
    obtain ⟨a, b⟩ := mergeD_keys r (putD ds p.1 p.2) h1
    refine ⟨a, fun k => (b k).trans ?_⟩
    rw [putD_keys, List.map_cons, List.mem_cons]
    split
    · rename_i q
      constructor
      · rintro (h | h)
        · exact .inl h
        · exact .inr (.inr h)
      · rintro (h | h | h)
        · exact .inl h
        · exact .inl (by rw [h]; exact any_iff.mp q)
        · exact .inr h
    · rw [List.mem_append, List.mem_singleton]
      constructor
      · rintro ((h | h) | h)
        · exact .inl h
        · exact .inr (.inl h)
        · exact .inr (.inr h)
      · rintro (h | h | h)
        · exact .inl (.inl h)
        · exact .inl (.inr h)
        · exact .inr h
/-- new keys alone: the pairs as they are -/
theorem mergeD_app : ∀ (more ds : List (Key × D)), ((ds ++ more).map Prod.fst).Nodup → mergeD ds more = ds ++ more
  | [], ds, _ => by simp [mergeD]
  | p :: r, ds, h => by
    have hp : p.1 ∉ ds.map Prod.fst := fun z => by
      rw [List.map_append, List.nodup_append] at h
      exact h.2.2 _ z p.1 (by simp) rfl
    have e : putD ds p.1 p.2 = ds ++ [p] := by
      unfold putD
      rw [if_neg fun z => hp (any_iff.mp z)]
    show mergeD (putD ds p.1 p.2) r = _
    rw [e, mergeD_app r (ds ++ [p]) (by simpa using h)]
    simp
theorem mergeD_nil {more : List (Key × D)} (h : (more.map Prod.fst).Nodup) : mergeD [] more = more := mergeD_app more [] (by simpa using h)
theorem getD_some {kvs : List (Key × D)} {k : Key} {d : D} (nd : (kvs.map Prod.fst).Nodup) (h : (k, d) ∈ kvs) : getD kvs k = some d := by
  unfold getD
  induction kvs with
  | nil => cases h
  | cons p r ih =>
    have nd2 := List.nodup_cons.mp (show (p.1 :: r.map Prod.fst).Nodup from nd)
    rcases List.mem_cons.mp h with e | h
    · subst e
      rw [List.find?_cons_of_pos (by simp)]; rfl
    · have ne : p.1 ≠ k := fun z => nd2.1 (by rw [z]; exact List.mem_map_of_mem (f := Prod.fst) h)
      rw [List.find?_cons_of_neg (by simpa using ne)]
      exact ih nd2.2 h
theorem getD_is {kvs : List (Key × D)} {k : Key} : (getD kvs k).isSome = true ↔ k ∈ kvs.map Prod.fst := by
  unfold getD
  induction kvs with
  | nil => simp
  | cons p r ih =>
    by_cases e : p.1 = k
    · rw [List.find?_cons_of_pos (by simpa using e)]
      refine ⟨fun _ => ?_, fun _ => rfl⟩
      rw [List.map_cons, e]; exact List.mem_cons_self
    · rw [List.find?_cons_of_neg (by simpa using e), ih, List.map_cons, List.mem_cons]
      exact ⟨.inr, fun h => h.resolve_left fun z => e z.symm⟩
theorem strs_inj {a b : Str} (h : D.str a = D.str b) : a = b := by cases h; rfl
theorem keys_nodup {ss : List Str} (h : ss.Nodup) : (ss.map (Sum.inr : Str → Key)).Nodup := by
  induction ss with
  | nil => exact .nil
  | cons s r ih =>
    have h2 := List.nodup_cons.mp h
    refine List.nodup_cons.mpr ⟨fun z => ?_, ih h2.2⟩
    obtain ⟨x, hx, e⟩ := List.mem_map.mp z
    cases e
    exact h2.1 hx
theorem key_mem {ss : List Str} {x : Str} : (Sum.inr x : Key) ∈ ss.map (Sum.inr : Str → Key) ↔ x ∈ ss := by
  rw [List.mem_map]
  exact ⟨fun ⟨y, hy, e⟩ => by cases e; exact hy, fun h => ⟨x, h, rfl⟩⟩
theorem flat_strs (ss : List Str) : (ss.map D.str).all D.flat = true := by
  rw [List.all_map, List.all_eq_true]; intro _ _; rfl
theorem inV_strs {x : Str} {ss : List Str} : inD (.str x) (ss.map D.str) = decide (x ∈ ss) := by
  have e : inD (.str x) (ss.map D.str) = ss.any fun s => s == x := by
    unfold inD inV
    rw [List.map_map, List.any_map]; rfl
  rw [e, Bool.eq_iff_iff, List.any_eq_true, decide_eq_true_eq]
  exact ⟨fun ⟨y, hy, e⟩ => by rw [← beq_iff_eq.mp e]; exact hy, fun h => ⟨x, h, beq_self_eq_true x⟩⟩
end Fw

set_option maxHeartbeats 4000000
/-! == of lists of names; a method of what is being made; games. -/
namespace Fw
open PySem PySem.Spec PyProof.Rows L2
theorem let_ok : (LET.cps.toList.all fun c => decide (c < 1114112)) = true := by decide +kernel
theorem isName_ok {s : Str} (h : isName s = true) : PyData.strOk s = true := by
  unfold isName at h
  rw [Bool.and_eq_true] at h
  unfold PyData.strOk
  rw [← Array.all_toList, List.all_eq_true]
  intro c hc
  have := List.all_eq_true.mp h.2 c hc
  exact List.all_eq_true.mp let_ok c (of_decide_eq_true this)
theorem pds_strs : ∀ ss : List Str, D.pds (ss.map D.str) = some (ss.map PyData.str)
  | [] => rfl
  | s :: r => by
    show (match D.pd (.str s), D.pds (r.map D.str) with
      | some a, some b => some (a :: b)
      | _, _ => none) = _
    rw [pds_strs r]; rfl
theorem pd_sl (ss : List Str) : (sl ss).pd = some (.list (ss.map PyData.str)) := by
  show (D.pds (ss.map D.str)).map PyData.list = _
  rw [pds_strs]; rfl
theorem lay_strs : ∀ {ss : List Str}, (∀ s ∈ ss, isName s = true) → PyData.canLayAll0 (ss.map PyData.str) = true
  | [], _ => by simp [PyData.canLayAll0]
  | s :: r, h => by
    rw [List.map_cons]
    simp only [PyData.canLayAll0, PyData.canLay0, Bool.and_eq_true]
    exact ⟨isName_ok (h s List.mem_cons_self), lay_strs fun x hx => h x (List.mem_cons_of_mem _ hx)⟩
theorem depth_strs : ∀ {ss : List Str}, PyData.depthAll (ss.map PyData.str) ≤ 1
  | [] => by simp [PyData.depthAll]
  | s :: r => by
    rw [List.map_cons]
    simp only [PyData.depthAll, PyData.depth]
    have := depth_strs (ss := r)
    omega
theorem shaped_sl {ss : List Str} (h : ∀ s ∈ ss, isName s = true) : SeqAt.shaped (.list (ss.map PyData.str)) = true := by
  unfold SeqAt.shaped
  rw [Bool.and_eq_true, decide_eq_true_eq]
  refine ⟨by simp only [PyData.canLay0]; exact lay_strs h, ?_⟩
  have := depth_strs (ss := ss)
  simp only [PyData.depth]
  omega
theorem eqvAll_strs : ∀ {ss ts : List Str}, PyData.eqvAll (ss.map .str) (ts.map .str) = decide (ss = ts)
  | [], [] => by simp [PyData.eqvAll]
  | [], _ :: _ => by simp [PyData.eqvAll]
  | _ :: _, [] => by simp [PyData.eqvAll]
  | s :: r, t :: u => by
    rw [List.map_cons, List.map_cons]
    simp only [PyData.eqvAll, PyData.eqv]
    rw [eqvAll_strs, Bool.eq_iff_iff, Bool.and_eq_true, decide_eq_true_eq, decide_eq_true_eq, beq_iff_eq, List.cons.injEq]
theorem eqv_sl {ss ts : List Str} : PyData.eqv (.list (ss.map .str)) (.list (ts.map .str)) = decide (ss = ts) := by
  simp only [PyData.eqv]; exact eqvAll_strs
/-! ### keys that are texts -/
theorem keys_strs : ∀ {ks : List Key}, (∀ k ∈ ks, ∃ s : Str, k = .inr s) → ∃ ts : List Str, ks = ts.map (Sum.inr : Str → Key)
  | [], _ => ⟨[], rfl⟩
  | k :: r, h => by
    obtain ⟨s, rfl⟩ := h k List.mem_cons_self
    obtain ⟨ts, rfl⟩ := keys_strs fun k hk => h k (List.mem_cons_of_mem _ hk)
    exact ⟨s :: ts, rfl⟩
theorem nodup_keys {ts : List Str} (h : (ts.map (Sum.inr : Str → Key)).Nodup) : ts.Nodup := by
  induction ts with
  | nil => exact .nil
  | cons s r ih =>
    have h2 := List.nodup_cons.mp (show ((Sum.inr s : Key) :: r.map Sum.inr).Nodup from h)
    exact List.nodup_cons.mpr ⟨fun z => h2.1 (List.mem_map_of_mem z), ih h2.2⟩
/-- the keys of a dict made of names -/
theorem merge_strs (f : Str → D) (ss : List Str) : ∃ ts : List Str, (mergeD [] (ss.map fun s => ((.inr s : Key), f s))).map Prod.fst = ts.map (Sum.inr : Str → Key) ∧ ts.Nodup ∧ ∀ x, x ∈ ts ↔ x ∈ ss := by
  obtain ⟨h1, h2⟩ := mergeD_keys (ss.map fun s => ((.inr s : Key), f s)) [] (by simp)
  have e : (ss.map fun s => ((.inr s : Key), f s)).map Prod.fst = ss.map (Sum.inr : Str → Key) := by rw [List.map_map]; rfl
  rw [e] at h2
  obtain ⟨ts, ht⟩ := keys_strs (ks := (mergeD [] (ss.map fun s => ((.inr s : Key), f s))).map Prod.fst) fun k hk => by
    rcases (h2 k).mp hk with z | z
    · cases z
    · obtain ⟨s, _, e⟩ := List.mem_map.mp z
      exact ⟨s, e.symm⟩
  rw [ht] at h1 h2
  refine ⟨ts, ht, nodup_keys h1, fun x => ?_⟩
  have := h2 (.inr x)
  rw [key_mem, key_mem] at this
  exact this.trans ⟨fun h => h.resolve_left (by simp), .inr⟩
theorem ts_len {ss ts : List Str} (h1 : ts.Nodup) (h2 : ∀ x, x ∈ ts ↔ x ∈ ss) : ts.length = (srt ss).length :=
  ((List.perm_ext_iff_of_nodup h1 (srt_nodup ss)).mpr fun x => (h2 x).trans srt_mem.symm).length_eq
theorem ts_srt {ss ts ys : List Str} (h1 : ts.Nodup) (h2 : ∀ x, x ∈ ts ↔ x ∈ ss) (p : ys.Perm ts) (s : sortedS ys = true) : ys = srt ss :=
  (srt_eq ⟨(List.Perm.nodup_iff p).mpr h1, fun x => p.mem_iff.trans (h2 x), s⟩).symm
/-! ### places -/
theorem enum_strs (ss : List Str) : enumD (ss.map D.str) = ss.zipIdx.map fun p => D.tup [.int (p.2 : Nat), .str p.1] := by
  unfold enumD
  apply List.ext_getElem?
  intro i
  rw [List.length_map, List.getElem?_map, List.getElem?_map, List.getElem?_zipIdx]
  by_cases h : i < ss.length
  · rw [List.getElem?_range h, List.getElem?_eq_getElem h]
    show some (D.tup [.int (i : Nat), (ss.map D.str).getD i .non]) = some _
    rw [List.getD_eq_getElem?_getD, List.getElem?_map, List.getElem?_eq_getElem h]
    show some (D.tup [.int (i : Nat), D.str ss[i]]) = some (D.tup [.int ((0 + i : Nat) : Int), D.str ss[i]])
    rw [Nat.zero_add]
  · rw [List.getElem?_eq_none (by simpa using h), List.getElem?_eq_none (by simpa using h)]; rfl
theorem plc_keys (ss : List Str) : (plc ss).map Prod.fst = ss.map (Sum.inr : Str → Key) := by
  unfold plc
  rw [List.map_map]
  have : (ss.zipIdx.map Prod.fst).map (Sum.inr : Str → Key) = ss.map Sum.inr := by rw [List.zipIdx_map_fst]
  rw [← this, List.map_map]; rfl
theorem plc_merge {ss : List Str} (h : ss.Nodup) : mergeD [] (ss.zipIdx.map fun p => ((.inr p.1 : Key), D.int (p.2 : Nat))) = plc ss := mergeD_nil (by
  show ((plc ss).map Prod.fst).Nodup
  rw [plc_keys]; exact keys_nodup h)
/-! ### a method of the instance that an __init__ fills, its answer no object -/
section
variable {K : PySem.W.Frag} {E : XK} {G : Gm} {O : OL} {ke : Xd → Prop}
theorem DA.bindS {t : TA} {k : List D → Prop} (h : DA K E t G O k ke) {S0 : Addr → Prop} {Os : OLa} {σ : L2.St} {H : Hp} {Q : List V → Hp → Prop} (st : St1 K S0 G O Os σ H) (he : EOk K (SO S0 Os) H E ke)
    (hq : ∀ v H' d, k d → Same H H' → St1 K S0 G O Os σ H' → Reps K (SO S0 Os) H' v d → Q v H') : t σ H Q := h.bind st he fun v H' d kd s st' _ r => hq v H' d kd s st' r
theorem dt_methS (j : Nat) {x : Addr} {i : Nat} {w : Wt} {c m : Str} {fs : List (Str × D)} {t : TA} {k : D → Prop} (ho : O[j]? = some (i, .slf x c fs)) (l : fs.lookup m = none) (h : DA K E t G O (fun ds => w (.obj c fs :: ds) (fun d => d.flat = true ∧ k d) F0) ke) :
    DT K E (tMeth (He.ga K c) m (spD K w) [] E0 (tVar i) t) G O k ke := fun S0 Os σ H Q st hq he => by
  obtain ⟨p0, hp, e, hpj⟩ := own_at st.os ho
  obtain ⟨hs, oa⟩ := st.own p0 hp
  obtain ⟨p, p2⟩ := p0
  have e' : p2 = (i, .slf x c fs) := e
  subst e'
  obtain ⟨ea, dx, gs, hh, ek, r⟩ := oa
  refine ⟨_, hs, p, dx, gs, rfl, hh, ?_, h.bindS st he fun xs H2 ds hw s2 st2 ry => ?_⟩
  · rcases lookup_rep (f := m) ek r with ⟨_, z⟩ | ⟨v, d, z, _⟩
    · exact z
    · rw [l] at z; cases z
  · rw [List.append_nil]
    let T : Addr → Prop := fun b => SO S0 Os b ∧ b ≠ p
    have wk : ∀ a, T a → SO S0 Os a := fun a z => z.1
    refine ⟨T, _, _, F0, fun a z => st2.domW a z.1, .cons (.obj (fun z => z.2 rfl) (s2 _ _ hh) ek (Reps.weak wk (Reps.same r s2))) (Reps.weak wk ry), hw, fun v H' d ⟨fl, kd⟩ s rv => ?_, eok_e0⟩
    refine hq v H' d kd (s2.trans s) ?_
    rw [(D.flat_v rv fl).1]
    exact D.rep fl
end
/-! ### games -/
theorem rks_keys (rs : List (Str × List Str)) : (rks rs).map Prod.fst = (rs.map Prod.fst).map (Sum.inr : Str → Key) := by
  unfold rks; rw [List.map_map, List.map_map]; rfl
/-- a player's ranking -/
def lk (rs : List (Str × List Str)) (p : Str) : List Str := (rs.lookup p).getD []
theorem getD_rks {rs : List (Str × List Str)} {p : Str} (h : p ∈ rs.map Prod.fst) : getD (rks rs) (.inr p) = some (rk (lk rs p)) := by
  induction rs with
  | nil => cases h
  | cons q r ih =>
    unfold lk
    rw [List.lookup_cons]
    by_cases e : q.1 = p
    · subst e
      unfold getD rks
      rw [List.map_cons, List.find?_cons_of_pos (by simp), beq_self_eq_true]; rfl
    · have hb : (p == q.1) = false := by
        rw [beq_eq_false_iff_ne]; exact fun z => e z.symm
      rw [hb]
      have hr : p ∈ r.map Prod.fst := by
        rcases List.mem_cons.mp (show p ∈ q.1 :: r.map Prod.fst from h) with z | z
        · exact absurd z.symm e
        · exact z
      have := ih hr
      unfold getD rks at this ⊢
      rw [List.map_cons, List.find?_cons_of_neg (by simpa using e)]
      exact this
theorem getD_rks_is {rs : List (Str × List Str)} {p : Str} : (getD (rks rs) (.inr p)).isSome = decide (p ∈ rs.map Prod.fst) := by
  rw [Bool.eq_iff_iff, getD_is, rks_keys, key_mem, decide_eq_true_eq]
end Fw

set_option maxHeartbeats 4000000
/-! The plain law: what whole groups can hold. -/
namespace Fw
open PySem PySem.Spec PyProof.Rows L2
def mx (i j : Int) : Int := if j > i then j else i
def ownN (ts g : List Str) : Int := ((ts.filter fun t => decide (t ∈ g)).length : Nat)
def nl (ts g : List Str) (m n : Nat) : Int := mx 0 ((m : Int) - ownN ts g - mx 0 ((ts.length : Int) - ownN ts g - ((n : Int) - (m : Int))))
/-- by what is in and what is out -/
def fv (ts g : List Str) (a b : Int) : Int := mx 0 (a - ownN ts g - mx 0 ((ts.length : Int) - ownN ts g - b))
theorem nl_fv {ts g : List Str} {m n : Nat} : nl ts g m n = fv ts g m ((n : Int) - (m : Int)) := rfl
theorem ownN_cons (t : Str) (r g : List Str) : ownN (t :: r) g = ownN r g + (if t ∈ g then 1 else 0) := by
  unfold ownN
  by_cases h : t ∈ g
  · rw [List.filter_cons_of_pos (by simpa using h), if_pos h, List.length_cons]; omega
  · rw [List.filter_cons_of_neg (by simpa using h), if_neg h]; omega
theorem ownN_le (r g : List Str) : 0 ≤ ownN r g ∧ ownN r g ≤ r.length := by
  unfold ownN
  have := List.length_filter_le (fun t => decide (t ∈ g)) r
  omega
theorem fv_nil {g : List Str} {a b : Int} (ha : 0 ≤ a) (hb : 0 ≤ b) : fv [] g a b = a := by
  have e : ownN [] g = 0 := rfl
  unfold fv mx
  rw [e, List.length_nil]
  split <;> split <;> omega
theorem fv_le {t : Str} {r g : List Str} {a b : Int} : fv r g (a - 1) b ≤ fv r g a (b - 1) := by
  have := ownN_le r g
  unfold fv mx
  split <;> split <;> split <;> split <;> omega
theorem fv_in {t : Str} {r g : List Str} {a b : Int} (ha : 0 < a) (hb : 0 ≤ b) (hl : ((t :: r).length : Int) ≤ a + b) (h : t ∈ g ∨ b = 0) : fv (t :: r) g a b = fv r g (a - 1) b := by
  have := ownN_le r g
  unfold fv mx
  rw [ownN_cons]
  rw [List.length_cons] at hl ⊢
  by_cases q : t ∈ g
  · rw [if_pos q]
    split <;> split <;> split <;> split <;> omega
  · rw [if_neg q]
    have := h.resolve_left q
    split <;> split <;> split <;> split <;> omega
theorem fv_out {t : Str} {r g : List Str} {a b : Int} (ha : 0 ≤ a) (hb : 0 < b) (hl : ((t :: r).length : Int) ≤ a + b) (h : t ∉ g ∨ a = 0) : fv (t :: r) g a b = fv r g a (b - 1) := by
  have := ownN_le r g
  unfold fv mx
  rw [ownN_cons]
  rw [List.length_cons] at hl ⊢
  by_cases q : t ∈ g
  · rw [if_pos q]
    have := h.resolve_left (fun z => z q)
    split <;> split <;> split <;> split <;> omega
  · rw [if_neg q]
    split <;> split <;> split <;> split <;> omega
end Fw

set_option maxHeartbeats 4000000
/-! Instances called; texts added; counts; max and min of lists of ints. -/
namespace Fw
open PySem PySem.Spec PyProof.Rows L2
section
variable {K : PySem.W.Frag} {E : XK} {G : Gm} {O : OL} {ke : Xd → Prop}
/-! ### f(e), f an instance of one of two classes -/
def tCall2 (C1 C2 : Addr) (sp1 sp2 : Sp) (E : XK) (tf : TE) (t : TA) : TE := fun σ H Q => tf σ H fun y H1 => ∃ a, y = V.ref a ∧ t σ H1 fun vs H2 =>
  (∃ dx fs, H2 a = some (.ins C1 dx fs) ∧ sp1 (V.ref a :: vs) H2 Q E) ∨ (∃ dx fs, H2 a = some (.ins C2 dx fs) ∧ sp2 (V.ref a :: vs) H2 Q E)
theorem dt_call2 {c1 c2 : Str} {w1 w2 : Wt} {tf : TE} {t : TA} {k : D → Prop} (h : DT K E tf G O (fun a => (∃ fs, a = .obj c1 fs ∧ DA K E t G O (fun ds => w1 (a :: ds) k F0) ke) ∨ (∃ fs, a = .obj c2 fs ∧ DA K E t G O (fun ds => w2 (a :: ds) k F0) ke)) ke) :
    DT K E (tCall2 (He.ga K c1) (He.ga K c2) (spD K w1) (spD K w2) E0 tf t) G O k ke := fun S0 Os σ H Q st hq he =>
  h.bind st he fun x H1 a ha s1 st1 he1 rx => by
    rcases ha with ⟨fs, e, ha⟩ | ⟨fs, e, ha⟩
    · subst e
      have r0 := rx
      cases rx with
      | obj n hh ef r => exact ⟨_, rfl, ha.bind st1 he1 fun ys H2 ds hb s2 st2 he2 ry => .inl ⟨_, _, s2 _ _ hh, SO S0 Os, _, k, F0, st2.domW, .cons (r0.same s2) ry, hb, fun v H' d kd s r => hq v H' d kd ((s1.trans s2).trans s) r, eok_e0⟩⟩
    · subst e
      have r0 := rx
      cases rx with
      | obj n hh ef r => exact ⟨_, rfl, ha.bind st1 he1 fun ys H2 ds hb s2 st2 he2 ry => .inr ⟨_, _, s2 _ _ hh, SO S0 Os, _, k, F0, st2.domW, .cons (r0.same s2) ry, hb, fun v H' d kd s r => hq v H' d kd ((s1.trans s2).trans s) r, eok_e0⟩⟩
end
section
variable {X : Cx} {j k1 k2 : Nat} {C1 C2 g1 g2 : Addr} {ps1 ps2 : List Str} {sp1 sp2 : Sp} {fe e : Expr} {es : List Expr} {pos : Pos} {tf : TE} {t : TA}
theorem q_call2 (hf : PE X fe tf) (c1 : StX.CallO X.K C1 g1) (c2 : StX.CallO X.K C2 g2) (F1 : Ok X.prog X.w X.K X.mg X.base k1 g1 ps1 sp1) (F2 : Ok X.prog X.w X.K X.mg X.base k2 g2 ps2 sp2) (hr : RoomG j X.A) (ha : PA X (e :: es) t) (hj : k1 ≤ j := by first | decide | omega) (hj2 : k2 ≤ j := by first | decide | omega)
    (ht : eval (.Call fe (e :: es) [] pos) X.env = (do callWith pos (← eval fe X.env) [] (backTo pos (starEach (e :: es) X.env)) (backToKw pos (keywordEach [] X.env))) := by rfl)
    (he : starEach (e :: es) X.env = (false, eval e X.env) :: starEach es X.env := by rfl) (hpl : (backTo pos (starEach es X.env)).any (·.1) = false := by rfl) : PE X (.Call fe (e :: es) [] pos) (tCall2 C1 C2 sp1 sp2 E0 tf t) := by
  refine ⟨fun pins s σ H Q I h => ?_⟩
  refine Call_ (thn (hf.run pins s σ H _ I h) fun u s1 ⟨y, H1, I1, ry, a, ey, q⟩ => ?_) ht
  subst ey
  obtain rfl : u = Value.ref a := ry
  refine StX.callO_with (thn (ha.run pos pins s1 σ H1 _ I1 q) fun us s2 ⟨vs, H2, I2, r, hi⟩ => ?_) he hpl
  obtain ⟨fd1, G1, B1⟩ := F1.ex
  obtain ⟨fd2, G2, B2⟩ := F2.ex
  rcases hi with ⟨dx, fs, hi, q2⟩ | ⟨dx, fs, hi, q2⟩
  · obtain ⟨ox, od, J, hd⟩ := StX.insC_at I2 (.inr ⟨_, _, hi⟩)
    refine ⟨⟨C1, ox, od, J, hd⟩, wpAny_call (PySem.W.kco_code I2.kIn J hd c1.at_ c1.fn c1.fi (G1.code (us := .ref a :: us) (vs := .ref a :: vs) (hr.mono hj) B1 passL I2 (.cons rfl r) q2))⟩
  · obtain ⟨ox, od, J, hd⟩ := StX.insC_at I2 (.inr ⟨_, _, hi⟩)
    refine ⟨⟨C2, ox, od, J, hd⟩, wpAny_call (PySem.W.kco_code I2.kIn J hd c2.at_ c2.fn c2.fi (G2.code (us := .ref a :: us) (vs := .ref a :: vs) (hr.mono hj2) B2 passL I2 (.cons rfl r) q2))⟩
end
section
variable {X : Cx} {j k1 k2 : Nat} {C1 C2 g1 g2 : Addr} {ps1 ps2 : List Str} {sp1 sp2 : Sp} {x : Str} {e : Expr} {es : List Expr} {pos p : Pos} {tf : TE} {t : TA}
theorem q_call2N (hf : PE X (.Name x p) tf) (c1 : StX.CallO X.K C1 g1) (c2 : StX.CallO X.K C2 g2) (F1 : Ok X.prog X.w X.K X.mg X.base k1 g1 ps1 sp1) (F2 : Ok X.prog X.w X.K X.mg X.base k2 g2 ps2 sp2) (hr : RoomG j X.A) (ha : PA X (e :: es) t) (hj : k1 ≤ j := by first | decide | omega) (hj2 : k2 ≤ j := by first | decide | omega)
    (he : starEach (e :: es) X.env = (false, eval e X.env) :: starEach es X.env := by rfl) (hpl : (backTo pos (starEach es X.env)).any (·.1) = false := by rfl) : PE X (.Call (.Name x p) (e :: es) [] pos) (tCall2 C1 C2 sp1 sp2 E0 tf t) := by
  refine ⟨fun pins s σ H Q I h => ?_⟩
  refine wpAny_Call_Name_kw (thn (hf.run pins s σ H _ I h) fun u s1 ⟨y, H1, I1, ry, a, ey, q⟩ => ?_)
  subst ey
  obtain rfl : u = Value.ref a := ry
  refine StX.callO_with (thn (ha.run pos pins s1 σ H1 _ I1 q) fun us s2 ⟨vs, H2, I2, r, hi⟩ => ?_) he hpl
  obtain ⟨fd1, G1, B1⟩ := F1.ex
  obtain ⟨fd2, G2, B2⟩ := F2.ex
  rcases hi with ⟨dx, fs, hi, q2⟩ | ⟨dx, fs, hi, q2⟩
  · obtain ⟨ox, od, J, hd⟩ := StX.insC_at I2 (.inr ⟨_, _, hi⟩)
    refine ⟨⟨C1, ox, od, J, hd⟩, wpAny_call (PySem.W.kco_code I2.kIn J hd c1.at_ c1.fn c1.fi (G1.code (us := .ref a :: us) (vs := .ref a :: vs) (hr.mono hj) B1 passL I2 (.cons rfl r) q2))⟩
  · obtain ⟨ox, od, J, hd⟩ := StX.insC_at I2 (.inr ⟨_, _, hi⟩)
    refine ⟨⟨C2, ox, od, J, hd⟩, wpAny_call (PySem.W.kco_code I2.kIn J hd c2.at_ c2.fn c2.fi (G2.code (us := .ref a :: us) (vs := .ref a :: vs) (hr.mono hj2) B2 passL I2 (.cons rfl r) q2))⟩
end
section
variable {K : PySem.W.Frag} {E : XK} {G : Gm} {O : OL} {ke : Xd → Prop}
theorem opd_add_str : OpD K (fun x y H Q => ∃ i j, x = .str i ∧ y = .str j ∧ i.length + j.length ≤ sizeLine ∧ Q (.str (i ++ j)) H) (fun a b k => ∃ i j : Str, a = .str i ∧ b = .str j ∧ i.length + j.length ≤ sizeLine ∧ k (.str (i ++ j))) := by
  intro S H x y a b Q k dm rx ry ⟨i, j, e1, e2, hl, q⟩ hq
  subst e1 e2; cases rx; cases ry
  exact ⟨i, j, rfl, rfl, hl, hq _ H _ q (Same.refl H) (.str _)⟩
theorem cad_max : CaD K (rMax K) (fun ds k => ∃ ns : List Int, ds = [.lst (ns.map D.int)] ∧ 0 < ns.length ∧ ∀ m, m ∈ ns → (∀ y, y ∈ ns → y ≤ m) → k (.int m)) := by
  intro S H xs ds Q k dm rx ⟨ns, e, hl, q⟩ hq
  subst e
  cases rx with
  | cons h t =>
    cases t
    cases h with
    | lst n hh r =>
      have e := r.ints
      subst e
      exact ⟨_, ns, rfl, SqL.of hh, hl, fun m h1 h2 => hq _ H _ (q m h1 h2) (Same.refl H) (.int _)⟩
theorem cad_min : CaD K (rMin K) (fun ds k => ∃ ns : List Int, ds = [.lst (ns.map D.int)] ∧ 0 < ns.length ∧ ∀ m, m ∈ ns → (∀ y, y ∈ ns → m ≤ y) → k (.int m)) := by
  intro S H xs ds Q k dm rx ⟨ns, e, hl, q⟩ hq
  subst e
  cases rx with
  | cons h t =>
    cases t
    cases h with
    | lst n hh r =>
      have e := r.ints
      subst e
      exact ⟨_, ns, rfl, SqL.of hh, hl, fun m h1 h2 => hq _ H _ (q m h1 h2) (Same.refl H) (.int _)⟩
end
theorem DS.f0 {t : TS} {G : Gm} {O : OL} {kn : Gm → OL → Prop} {kr : D → Prop} {ke : Xd → Prop} {K : PySem.W.Frag} {E : XK} (h : DS K E t G O kn kr F0) : DS K E t G O kn kr ke := fun S0 H0 Os σ H Ds f st hn hr _ => h S0 H0 Os σ H Ds f st hn hr eok_e0
def rLenDR : List V → Hp → VK → Prop := fun xs H Q => ∃ (a : Addr) (kvs : List (Key × V)), xs = [V.ref a] ∧ Rd H a (.dK kvs) ∧ Q (.int kvs.length) H
theorem call_lenDR {X : Cx} : CallR X (.builtin "len") rLenDR := by
  intro pins s σ H xs us Q I r h
  obtain ⟨a, kvs, rfl, ha, q⟩ := h
  obtain ⟨u, rfl, ru⟩ := vals1 r
  cases ru
  exact d_len I ha fun t s' I' => ⟨.int kvs.length, H, I', ⟨t, rfl⟩, q⟩
theorem cad_lenDR {K : PySem.W.Frag} : CaD K rLenDR (fun ds k => ∃ kvs : List (Key × D), ds = [.dic kvs] ∧ k (.int (kvs.length : Nat))) := by
  intro S H xs ds Q k dm rx ⟨kvs, e, q⟩ hq
  subst e
  cases rx with
  | cons h t =>
    cases t
    cases h with
    | dic n hh ek r =>
      refine ⟨_, _, rfl, hh, ?_⟩
      rw [len_pair ek]
      exact hq _ H _ q (Same.refl H) (.int _)
theorem z_max {X : Cx} (K : PySem.W.Frag) (hc : X.calm = true) (hK : X.K = K := by rfl) : CallR X (.builtin "max") (rMax K) := by subst hK; exact cr_max hc
theorem z_min {X : Cx} (K : PySem.W.Frag) (hc : X.calm = true) (hK : X.K = K := by rfl) : CallR X (.builtin "min") (rMin K) := by subst hK; exact cr_min hc
/-- x in, x not in the owned list -/
theorem dt_inO (j : Nat) {neg : Bool} {i : Nat} {ds : List D} {K : PySem.W.Frag} {E : XK} {G : Gm} {O : OL} {ke : Xd → Prop} {ta : TE} {k : D → Prop} (ho : O[j]? = some (i, .lst ds)) (h : DT K E ta G O (fun a => a.flat = true ∧ ds.all D.flat = true ∧ k (.bl (if neg then !inD a ds else inD a ds))) ke) : DT K E (tOp (rIn K neg) ta (tVar i)) G O k ke := fun S0 Os σ H Q st hq he =>
  h.bind st he fun x H1 a ⟨fa, fx, q⟩ s1 st1 he1 rx => by
    obtain ⟨p, vs, hpj, hs, hh, r⟩ := lst_at st1 ho
    obtain ⟨e1, f1⟩ := D.flat_v rx fa
    subst e1
    obtain ⟨e2, f2⟩ := Reps.flat r fx
    refine ⟨_, hs, _, _, rfl, .inl (SqL.of hh), f1, f2, ?_⟩
    rw [e2]
    exact hq _ H1 _ q s1 (.bl _)
theorem ds_unlAsg {t : TE} {i : Nat} {G : Gm} {O : OL} {kn : Gm → OL → Prop} {kr : D → Prop} {ke : Xd → Prop} {K : PySem.W.Frag} {E : XK} (h : DS K E (tAsg (tUnlE t) (gName i)) G O kn kr ke) : DS K E (tUnlS (tAsg t (gName i))) G O kn kr ke := h
/-! ### list.count of texts -/
def eqs (k : Str) (v : Value) : Bool := match v with
  | .str n _ => n.cps.toList == k.cps.toList
  | _ => false
theorem eqs_gives {k : Str} {t : Tok} : ∀ {us : List Value} {ns : List Str}, Vals (ns.map V.str) us → ∀ y ∈ us, MeetsSeq.EqGives y (.str k t) (eqs k y)
  | _, [], .nil => fun y hy => by cases hy
  | _, n :: ns, .cons r h => fun y hy => by
    obtain ⟨t', rfl⟩ := r
    rcases List.mem_cons.mp hy with e | e
    · rw [e]
      exact SeqRoads2.EqGives.str n k t' t
    · exact eqs_gives h y e
theorem eqs_count {k : Str} : ∀ {us : List Value} {ns : List Str}, Vals (ns.map V.str) us → us.countP (eqs k) = ns.count k
  | _, [], .nil => rfl
  | _, n :: ns, .cons r h => by
    obtain ⟨t', rfl⟩ := r
    have ih := eqs_count (k := k) h
    rw [List.countP_cons, List.count_cons, ih]
    have e : eqs k (.str n t') = (n == k) := by
      show (n.cps.toList == k.cps.toList) = (n == k)
      rw [Bool.eq_iff_iff, beq_iff_eq, beq_iff_eq]
      refine ⟨fun h => ?_, fun h => by rw [h]⟩
      cases n; cases k
      congr 1
      exact Array.toList_inj.mp h
    rw [e]
section
variable {X : Cx} {K : PySem.W.Frag}
def rCntS (K : PySem.W.Frag) : V → List V → Hp → VK → Prop := fun x xs H Q => ∃ (p : Addr) (ns : List Str) (k : Str), x = .ref p ∧ xs = [.str k] ∧ SqL K H p (ns.map V.str) ∧ Q (.int (ns.count k : Nat)) H
theorem mt_countS : MtR X "list.count" (rCntS X.K) := by
  intro pins s σ H x xs v us Q I rx rxs h
  obtain ⟨p, ns, k, rfl, rfl, hs, q⟩ := h
  cases rx
  obtain ⟨u, rfl, ru⟩ := rxs.one
  obtain ⟨t, rfl⟩ := ru
  obtain ⟨its, rv, ⟨⟨cls, dd, data, sl⟩, n, ho, hc, hdn, hd⟩, hlen⟩ := I.list hs
  simp only at hc hd
  subst hc hd
  refine call_meets PySem.F.slot_list_count ⟨_, ho, rfl⟩ PySem.F.entry_list_count (PySem.F.args_list_count_2 _ _)
    (SeqAt.list_countAt p its.toArray n dd sl (.str k t) (eqs k)) ⟨ho, fun y hy => (eqs_gives rv y (by simpa using hy)).at _ _, ?_⟩
  have ec : its.toArray.toList.countP (eqs k) = ns.count k := eqs_count rv
  refine ⟨.int (ns.count k : Nat), H, I.tok _, ⟨s.toks, ?_⟩, q⟩
  show Value.int ((its.toArray.toList.countP (eqs k) : Nat) : Int) s.toks = Value.int ((ns.count k : Nat) : Int) s.toks
  rw [ec]
theorem z_bm {T id : String} {r : V → List V → Hp → VK → Prop} {o e : Expr} {es : List Expr} {name : Str} {apos cpos : Pos} {to : TE} {t : TA} (K : PySem.W.Frag) (pa : PlainAttrs T) (slot : Slot T name id) (hty : typeOf (.builtin id) = pure (.type "method_descriptor")) (hm : MtR X id r) (ho : PE X o to) (ha : PA X (e :: es) t) (hK : X.K = K := by rfl)
    (hbase : attributeBase o name X.env (eval o X.env) = eval o X.env := by rfl)
    (hfew : ((backTo cpos (starEach (e :: es) X.env)).all (fun x => !x.1) && (backToKw cpos (keywordEach [] X.env)).all (fun x => x.1.isSome)
      && decide ((e :: es).length + ([] : List Keyword).length + (if ([] : List Keyword).isEmpty then 0 else 1) < 30)) = true := by rfl)
    (hline : (apos.endLine == cpos.line) = true := by rfl) (hs : starEach (e :: es) X.env = (false, eval e X.env) :: starEach es X.env := by rfl) (hplain : (backTo cpos (starEach es X.env)).any (·.1) = false := by rfl) :
    PE X (.Call (.Attribute o name apos) (e :: es) [] cpos) (tBM K T r to t) := by subst hK; exact pe_bm pa slot hty hm ho ha hbase hfew hline hs hplain
theorem z_countS (K : PySem.W.Frag) (hK : X.K = K := by rfl) : MtR X "list.count" (rCntS K) := by subst hK; exact mt_countS
end
section
variable {K : PySem.W.Frag} {E : XK} {G : Gm} {O : OL} {ke : Xd → Prop}
theorem dt_countS {to te : TE} {k : D → Prop} (h : DT K E to G O (fun a => ∃ ns : List Str, a = .lst (ns.map D.str) ∧ DT K E te G O (fun d => ∃ s : Str, d = .str s ∧ k (.int (ns.count s : Nat))) ke) ke) : DT K E (tBM K "list" (rCntS K) to (tCons te tNil)) G O k ke := fun S0 Os σ H Q st hq he =>
  h.bind st he fun x H1 a ⟨ns, e, ha⟩ s1 st1 he1 rx => by
    subst e
    cases rx with
    | lst n hh r =>
      have er := r.strs
      subst er
      refine ⟨ty_list hh, ha.bind st1 he1 fun y H2 d ⟨z, e2, kd⟩ s2 st2 he2 ry => ?_⟩
      subst e2; cases ry
      exact ⟨_, ns, z, rfl, rfl, SqL.of (s2 _ _ hh), hq _ H2 _ kd (s1.trans s2) (.int _)⟩
end
end Fw

set_option maxHeartbeats 4000000
/-! Own !=; xs[::-1]; starred items. -/
namespace Fw
open PySem PySem.Spec PyProof.Rows L2
section
open PySem.W PySem.Calls
variable {prog : Program} {w : World} {A : Around} {E : Value → Shared → Prop} {s : Shared} {K : Frag} {x y C L f : Addr} {h₀ : Heap} {m : Str → Option Value} {ox oy : Obj} {od od' : Option Obj}
/-- the built-in != of an instance whose class has its own == -/
theorem obj_ne {Q : Value → Shared → Prop} (hu : A.units + 8 < cLine) (X : K.In s.heap) (I : InstAt s.heap x ox C od) (J : InstAt s.heap y oy C od') (he : findIn K (.ref C) "__eq__" = some (some (.ref f))) (hf : isFn K (.ref f) = true) (ho : mroIn K C (.type "object") = some true)
    (h : wpAny (model prog w) A.in1 (call (.ref f) [.ref x, .ref y]) (fun v s' => ∃ b, v = .bool b ∧ Q (.bool (!b)) s') E s) : wpAny (model prog w) A (call (.builtin "object.__ne__") [.ref x, .ref y]) Q E s := by
  have sub : Looks (model prog w) s.heap (isInstance (.ref x) (.type "object")) true := I.type.andThen (looks_mroIn X ho)
  refine wpAny_call (codeAny_call_builtin F.cmp_object.ne.plain F.cmpEntry_ne (@W.check_slot (model prog w) _ _ s "object.__ne__" "object" "__ne__" (.ref x) [.ref y] [] _ F.cmpKind_ne F.cmpSplit_ne sub (F.cmpArgs_ne (.ref x) (.ref y)) ?_))
  unfold Builtin.«object.__ne__»
  refine wpAny_bind (wpAny_of_eq (a := (Value.ref x, [Value.ref y])) (by rfl) ?_)
  refine wpAny_bind (wpAny_cRoomFor (by show A.units + 1 < cLine; omega) ?_)
  refine wpAny_bind (ifBound_K X I he hf (wpAny_mono h (fun v s' hv => ?_) fun _ _ z => z))
  obtain ⟨b, rfl, hq⟩ := hv
  refine wpAny_bind (wpAny_truthy_bool ?_)
  exact wpAny_pure hq
/-- o != p, the class has its own == alone -/
theorem neq_own {Q : Value → Shared → Prop} (hu : A.units + 16 < cLine) (Fh : Fr h₀ L s.heap m) (X₀ : K.In h₀) (I : InstAt s.heap x ox C od) (J : InstAt s.heap y oy C od') (hs : findIn K (.ref C) "__ne__" = some (some (.builtin "object.__ne__"))) (he : findIn K (.ref C) "__eq__" = some (some (.ref f))) (hf : isFn K (.ref f) = true) (ho : mroIn K C (.type "object") = some true)
    (h : wpAny (model prog w) A.in1 (call (.ref f) [.ref x, .ref y]) (fun v s' => ∃ b, v = .bool b ∧ Q (.bool (!b)) s') E s) : wpAny (model prog w) A (richCompare .NotEq (.ref x) (.ref y)) Q E s := by
  have X := X₀.keeps Fh.keep
  have one : wpAny (model prog w) A (callSpecialIfBound? (.ref x) "__ne__" [.ref y]) (fun r s' => ∃ b, r = some (.bool b) ∧ Q (.bool b) s') E s := by
    simp only [callSpecialIfBound?, bindSpecialIfBound?]
    refine wpAny_holding (wpAny_bind (wpAny_bind (wpAny_bind (I.type.here ((looks_findIn X hs).here ?_)))))
    simp only [F.cmp_object.ne.bind]
    have end_ : wpAny (model prog w) A (call (.builtin "object.__ne__") ([.ref x] ++ [.ref y]) >>= fun v => pure (some v)) (fun r s' => ∃ b, r = some (.bool b) ∧ Q (.bool b) s') E s :=
      wpAny_bind (wpAny_mono (obj_ne (Q := fun v s' => ∃ b, v = .bool b ∧ Q (.bool b) s') (by omega) X I J he hf ho (wpAny_mono h (fun v s' hv => by
        obtain ⟨b, e, q⟩ := hv
        exact ⟨b, e, _, rfl, q⟩) fun _ _ z => z)) (fun v s' hv => by
        obtain ⟨b, rfl, q⟩ := hv
        exact wpAny_pure ⟨b, rfl, q⟩) fun _ _ z => z)
    refine wpAny_bind (wpAny_askSetting (wpAny_ite ?_))
    split
    · exact wpAny_bind (wpAny_pure (wpAny_pure end_))
    · exact wpAny_tryCatch (wpAny_bind (wpAny_pure (wpAny_pure end_)))
  have two : wpAny (model prog w) A (tryCompare (.ref x) (cmpInfo .NotEq).2.1 (.ref y)) (fun r s' => ∃ v, r = some v ∧ Q v s') E s := by
    unfold tryCompare
    refine wpAny_bind (wpAny_mono one (fun r s' hr => ?_) fun _ _ z => z)
    obtain ⟨b, rfl, q⟩ := hr
    exact wpAny_pure ⟨_, rfl, q⟩
  unfold richCompare
  simp only [oneThing_ref]
  refine wpAny_holding (wpAny_bind (wpAny_cRoomFor (by omega) ?_))
  refine wpAny_bind (I.type.here (wpAny_bind (J.type.here ?_)))
  have e0 : (Value.ref C != Value.ref C) = false := by simp
  simp only [e0, Bool.false_eq_true, if_false]
  refine wpAny_bind (wpAny_pure ?_)
  simp only [Bool.false_eq_true, if_false]
  refine wpAny_bind (wpAny_mono two (fun r s' hr => ?_) fun _ _ z => z)
  obtain ⟨v, rfl, q⟩ := hr
  exact wpAny_pure q
end
section
variable {X : Cx} {k : Nat} {f C : Addr} {ps : List Str} {sp : Sp}
/-- o != p by own == -/
structure NeOf (K : PySem.W.Frag) (C : Addr) : Prop where
  ne : PySem.W.findIn K (.ref C) "__ne__" = some (some (.builtin "object.__ne__"))
  ob : PySem.W.mroIn K C (.type "object") = some true
theorem neo_ok {K : PySem.W.Frag} {c : Str} (h : (Fc.neo c).ok K = true) : NeOf K (He.ga K c) := by
  obtain ⟨h1, h2⟩ := He.ba h
  exact ⟨He.eqO_ok h1, of_decide_eq_true h2⟩
theorem Tx.neo {fc : List Fc} {ds : List DfP} {K : PySem.W.Frag} {mg : Str → Option Value} (T : Tx fc ds K mg) (i : Nat) {c : Str} (h : fc[i]? = some (.neo c) := by rfl) : NeOf K (He.ga K c) := neo_ok (T.fact i h)
def rNeI (C : Addr) (sp : Sp) : R2 := fun x y H Q => ∃ a dx fs b dy gs, x = .ref a ∧ y = .ref b ∧ H a = some (.ins C dx fs) ∧ H b = some (.ins C dy gs) ∧ sp [.ref a, .ref b] H (fun v H' => ∃ t : Bool, v = .bl t ∧ Q (.bl (!t)) H') E0
theorem q_ne (F : Ok X.prog X.w X.K X.mg X.base k f ps sp) (hm : Meth X.K C "__eq__" f) (hn : NeOf X.K C) {j : Nat} (hr : RoomG j X.A) (hj : k + 1 ≤ j := by first | decide | omega) : OpR X (compareOp .NotEq) (rNeI C sp) := by
  obtain ⟨fd, F1, B⟩ := F.ex
  have hr1 := hr.mono hj
  intro pins s σ H x y v u Q I rx ry ⟨a, dx, fs, b, dy, gs, e1, e2, ha, hb', h⟩
  subst e1 e2; cases rx; cases ry
  obtain ⟨od, J⟩ := ins_at I ha
  obtain ⟨od', J'⟩ := ins_at I hb'
  obtain ⟨m, hF⟩ := I.fr
  show wpAny (model X.prog X.w) X.A (richCompare .NotEq (.ref a) (.ref b)) (EP X pins σ Q) X.xe s
  refine neq_own (by have := hr1.rm.un; omega) hF I.ok.mod.kin J J' hn.ne hm.at_ hm.fn hn.ob (wpAny_mono (call_at F1 hr1.in1 rfl B passL I (.cons (rr (a := a)) (.cons (rr (a := b)) .nil)) h) (fun v s' hv => ?_) fun _ _ z => z)
  obtain ⟨w, H', I', rw_, t, ew, q⟩ := hv
  subst ew; cases rw_
  exact ⟨t, rfl, .bl (!t), H', I', rfl, q⟩
theorem z_revL {e : Expr} {te : TE} {k : Nat} {p1 p2 p3 pos : Pos} (K : PySem.W.Frag) (he : PE X e te) (hK : X.K = K := by rfl) : PE X (.Subscript e (.Slice none none (some (.UnaryOp .USub (.Constant (.int 1) k p1) p2)) p3) pos) (tRevL K te) := by subst hK; exact pe_revL he
theorem z_star {e : Expr} {es : List Expr} {te : TE} {t : TA} {p : Pos} (K : PySem.W.Frag) (he : PE X e te) (hr : PA X es t) (hK : X.K = K := by rfl) (hs : starEach (.Starred e p :: es) X.env = (true, eval e X.env) :: starEach es X.env := by rfl) : PA X (.Starred e p :: es) (StX.tStar K te t) := by subst hK; exact StX.pa_star he hr hs
end
section
variable {K : PySem.W.Frag} {E : XK} {G : Gm} {O : OL} {ke : Xd → Prop}
theorem opd_neI {c : Str} {w : Wt} : OpD K (rNeI (He.ga K c) (spD K w)) (fun a b k => ∃ fs gs, a = .obj c fs ∧ b = .obj c gs ∧ w [a, b] (fun d => ∃ t, d = .bl t ∧ k (.bl (!t))) F0) := by
  intro S H x y a b Q k dm rx ry ⟨fs, gs, e1, e2, h⟩ hq
  subst e1 e2
  have r1 := rx
  have r2 := ry
  cases rx with
  | obj n hh ek r =>
    cases ry with
    | obj n' hh' ek' r' => exact ⟨_, _, _, _, _, _, rfl, rfl, hh, hh', S, _, _, F0, dm, .cons r1 (.cons r2 .nil), h, fun v H' d ⟨t, e, kd⟩ s rv => by
        subst e; cases rv
        exact ⟨t, rfl, hq _ H' _ kd s (.bl _)⟩, eok_e0⟩
theorem df_rev {te : TE} {k : Ow → Prop} (h : DT K E te G O (fun a => ∃ xs, a = .lst xs ∧ k (.lst xs.reverse)) ke) : DF K E (tRevL K te) G O k ke := fun S0 Os σ H Q st hq he =>
  h.bind st he fun x H1 a ⟨xs, e, q⟩ s1 st1 he1 rx => by
    subst e
    cases rx with
    | lst n hh r => exact ⟨_, _, rfl, SqL.of hh, fun p np => hq p _ _ q (s1.trans (Same.put np)) (s1.free np) (own_new np r.reverse)⟩
theorem da_star {te : TE} {t : TA} {k : List D → Prop} (h : DT K E te G O (fun a => ∃ xs, (a = .lst xs ∨ a = .tup xs) ∧ DA K E t G O (fun ds => k (xs ++ ds)) ke) ke) : DA K E (StX.tStar K te t) G O k ke := fun S0 Os σ H Q st hq he =>
  h.bind st he fun x H1 a ⟨xs, e, ha⟩ s1 st1 he1 rx => by
    rcases e with e | e <;> subst e
    · cases rx with
      | lst n hh r => exact ⟨_, _, rfl, .inr (SqL.of hh), ha.bind st1 he1 fun ys H2 ds hb s2 st2 he2 ry => hq _ H2 _ hb (s1.trans s2) ((r.same s2).append ry)⟩
    · cases rx with
      | tup n hh r => exact ⟨_, _, rfl, .inl (SqT.of hh), ha.bind st1 he1 fun ys H2 ds hb s2 st2 he2 ry => hq _ H2 _ hb (s1.trans s2) ((r.same s2).append ry)⟩
end
end Fw

set_option maxHeartbeats 4000000
/-! Owned instances (rooms): lent for an expression; data in which no instance of a class lies. -/
namespace Fw
open PySem PySem.Spec PyProof.Rows L2
/-! ### data whose instances are of known classes -/
mutual
inductive NoX (ok : Str → Prop) : D → Prop where
  | non : NoX ok .non
  | bl (b : Bool) : NoX ok (.bl b)
  | int (i : Int) : NoX ok (.int i)
  | str (s : Str) : NoX ok (.str s)
  | ty (n : String) : NoX ok (.ty n)
  | stm : NoX ok .stm
  | scr (ns : List Int) : NoX ok (.scr ns)
  | lst {xs : List D} (h : NoXs ok xs) : NoX ok (.lst xs)
  | tup {xs : List D} (h : NoXs ok xs) : NoX ok (.tup xs)
  | dic {kvs : List (Key × D)} (h : NoXs ok (kvs.map Prod.snd)) : NoX ok (.dic kvs)
  | obj {c : Str} {fs : List (Str × D)} (hc : ok c) (h : NoXs ok (fs.map Prod.snd)) : NoX ok (.obj c fs)
  | exc0 (c : Str) (a : Addr) : NoX ok (.exc0 c a)
  | exc {c f : Str} {a dd : Addr} {d : D} (h : NoX ok d) : NoX ok (.exc c a dd f d)
inductive NoXs (ok : Str → Prop) : List D → Prop where
  | nil : NoXs ok []
  | cons {d : D} {ds : List D} (h : NoX ok d) (t : NoXs ok ds) : NoXs ok (d :: ds)
end
theorem NoXs.map {α : Type} {ok : Str → Prop} {f : α → D} : ∀ {xs : List α}, (∀ x ∈ xs, NoX ok (f x)) → NoXs ok (xs.map f)
  | [], _ => .nil
  | x :: xs, h => .cons (h x List.mem_cons_self) (NoXs.map (xs := xs) fun y hy => h y (List.mem_cons_of_mem _ hy))
theorem NoX.strs {ok : Str → Prop} (ss : List Str) : NoX ok (.lst (ss.map D.str)) := .lst (NoXs.map fun s _ => .str s)
theorem D.noX_flat {ok : Str → Prop} {d : D} (h : d.flat = true) : NoX ok d := by
  cases d <;> first | exact .non | exact .bl _ | exact .int _ | exact .str _ | exact .ty _ | cases h
section
variable {K : PySem.W.Frag} {S : Addr → Prop} {H : Hp} {ok : Str → Prop} {p dx : Addr} {c : Str} {fs : List (Str × V)}
mutual
theorem Rep.keep {v : V} {d : D} (hp : H p = some (.ins (He.ga K c) dx fs)) (ne : ∀ e, ok e → He.ga K e ≠ He.ga K c) : NoX ok d → Rep K S H v d → Rep K (fun b => S b ∨ b = p) H v d
  | _, .non => .non
  | _, .bl b => .bl b
  | _, .int i => .int i
  | _, .str s => .str s
  | _, .ty n => .ty n
  | .lst q, .lst n h r => .lst (fun z => z.elim n fun e => by rw [e, hp] at h; cases h) h (Reps.keep hp ne q r)
  | .tup q, .tup n h r => .tup (fun z => z.elim n fun e => by rw [e, hp] at h; cases h) h (Reps.keep hp ne q r)
  | .dic q, .dic n h e r => .dic (fun z => z.elim n fun e => by
      rcases h with h | ⟨o, h⟩
      · rw [e, hp] at h; cases h
      · rw [e, hp] at h; cases h) h e (Reps.keep hp ne q r)
  | .obj hc q, .obj n h e r => .obj (fun z => z.elim n fun e => by
      rw [e, hp] at h
      injection h with h
      injection h with h1
      exact ne _ hc h1.symm) h e (Reps.keep hp ne q r)
  | _, .stm n h => .stm (fun z => z.elim n fun e => by rw [e, hp] at h; cases h) h
  | _, .scr n h => .scr (fun z => z.elim n fun e => by
      rcases h with h | ⟨o, h⟩
      · rw [e, hp] at h; cases h
      · rw [e, hp] at h; cases h) h
  | _, .scrK h => .scrK h
  | _, .exc0 => .exc0
  | .exc q, .exc n h r => .exc (fun z => z.elim n fun e => by rw [e, hp] at h; cases h) h (Rep.keep hp ne q r)
theorem Reps.keep {vs : List V} {ds : List D} (hp : H p = some (.ins (He.ga K c) dx fs)) (ne : ∀ e, ok e → He.ga K e ≠ He.ga K c) : NoXs ok ds → Reps K S H vs ds → Reps K (fun b => S b ∨ b = p) H vs ds
  | _, .nil => .nil
  | .cons q qs, .cons h t => .cons (Rep.keep hp ne q h) (Reps.keep hp ne qs t)
end
end
/-! ### lent -/
section
variable {K : PySem.W.Frag} {E : XK} {G : Gm} {O : OL} {ke : Xd → Prop} {S0 : Addr → Prop} {Os : OLa} {σ : L2.St} {H : Hp}
theorem OwnAt.weak {S T : Addr → Prop} {a : Addr} {o : Ow} (so : ∀ b, T b → S b) (h : OwnAt K S H a o) : OwnAt K T H a o := by
  cases o with
  | lst ds => obtain ⟨vs, e, r⟩ := h; exact ⟨vs, e, Reps.weak so r⟩
  | dic ds => obtain ⟨vs, e, q, r⟩ := h; exact ⟨vs, e, q, Reps.weak so r⟩
  | obj c ds => obtain ⟨dx, vs, e, q, r⟩ := h; exact ⟨dx, vs, e, q, Reps.weak so r⟩
  | slf _ c ds => obtain ⟨ea, dx, vs, e, q, r⟩ := h; exact ⟨ea, dx, vs, e, q, Reps.weak so r⟩
/-- an owned thing is plain data for a while -/
theorem St1.lend (st : St1 K S0 G O Os σ H) {j i : Nat} {o : Ow} (ho : O[j]? = some (i, o)) (hl : i < G.length) :
    ∃ p, (p, i, o) ∈ Os ∧ OwnAt K (SO S0 Os) H p o ∧ (∀ a, SO S0 Os a ↔ SO S0 (Os.eraseIdx j) a ∨ a = p) ∧ St1 K S0 (G.set i (some o.d)) (O.eraseIdx j) (Os.eraseIdx j) σ H := by
  obtain ⟨p, hp, e, hpj⟩ := own_at st.os ho
  have w : ∀ a, W (Os.eraseIdx j) a → W Os a := fun a z => by
    obtain ⟨q, hq, e⟩ := List.mem_map.mp (show a ∈ (Os.eraseIdx j).map (·.1) from z)
    exact e ▸ List.mem_map_of_mem (f := (·.1)) (List.mem_of_mem_eraseIdx hq)
  have so : ∀ a, SO S0 (Os.eraseIdx j) a → SO S0 Os a := fun a z => z.imp id (w a)
  have np : ¬ W (Os.eraseIdx j) p.1 := fun z => by
    obtain ⟨q, hq, e⟩ := List.mem_map.mp (show p.1 ∈ (Os.eraseIdx j).map (·.1) from z)
    obtain ⟨n, hn2, hq2⟩ := List.mem_eraseIdx_iff_getElem?.mp hq
    have h1 : (Os.map (·.1))[j]? = some p.1 := by rw [List.getElem?_map, hpj]; rfl
    have h2 : (Os.map (·.1))[n]? = some p.1 := by rw [List.getElem?_map, hq2]; exact congrArg some e
    obtain ⟨l1, g1⟩ := List.getElem?_eq_some_iff.mp h1
    obtain ⟨l2, g2⟩ := List.getElem?_eq_some_iff.mp h2
    exact hn2 ((List.getElem_inj st.nd).mp (g2.trans g1.symm))
  obtain ⟨hs, oa⟩ := st.own p hp
  obtain ⟨p1, p2⟩ := p
  have e' : p2 = (i, o) := e
  subst e'
  have n1 : ¬ SO S0 (Os.eraseIdx j) p1 := fun z => z.elim (st.ns _ (List.mem_map_of_mem (f := (·.1)) hp)) np
  have rp : Rep K (SO S0 (Os.eraseIdx j)) H (.ref p1) o.d := by
    cases o with
    | lst ds => obtain ⟨vs, q, r⟩ := oa; exact .lst n1 q (Reps.weak so r)
    | dic ds => obtain ⟨vs, q, q2, r⟩ := oa; exact .dic n1 (.inl q) q2 (Reps.weak so r)
    | obj c ds => obtain ⟨dx, vs, q, q2, r⟩ := oa; exact .obj n1 q q2 (Reps.weak so r)
    | slf _ c ds => obtain ⟨ea, dx, vs, q, q2, r⟩ := oa; exact .obj n1 q q2 (Reps.weak so r)
  refine ⟨p1, hp, oa, fun a => ⟨fun z => ?_, fun z => z.elim (so a) fun e => .inr ?_⟩, ⟨?_, ?_, st.dom, fun a z => st.ns a (w a z), by rw [List.length_set]; exact st.len, fun n d q => ?_, fun q hq => ?_⟩⟩
  · rcases z with z | z
    · exact .inl (.inl z)
    · obtain ⟨q, hq, e⟩ := List.mem_map.mp (show a ∈ Os.map (·.1) from z)
      obtain ⟨n, hn⟩ := List.mem_iff_getElem?.mp hq
      by_cases hj : n = j
      · subst hj
        rw [hpj] at hn
        cases hn
        exact .inr e.symm
      · exact .inl (.inr (List.mem_map.mpr ⟨q, List.mem_eraseIdx_iff_getElem?.mpr ⟨n, hj, hn⟩, e⟩))
  · rw [e]
    exact List.mem_map_of_mem (f := (·.1)) hp
  · rw [map_erase, st.os]
  · rw [map_erase]
    exact st.nd.sublist (List.eraseIdx_sublist _ _)
  · by_cases hin : i = n
    · subst hin
      rw [List.getElem?_set_self hl] at q
      cases q
      exact ⟨_, hs, rp⟩
    · rw [List.getElem?_set_ne hin] at q
      obtain ⟨v, q1, r⟩ := st.re n d q
      exact ⟨v, q1, Rep.weak so r⟩
  · obtain ⟨h1, h2⟩ := st.own q (List.mem_of_mem_eraseIdx hq)
    exact ⟨h1, h2.weak so⟩
/-- what an exception says holds no such instance -/
def Xd.noX (ok : Str → Prop) (x : Xd) : Prop := ∀ f d, x.arg = some (f, d) → NoX ok d
theorem eok_lend {S T : Addr → Prop} {ok : Str → Prop} {p dx : Addr} {c : Str} {fs : List (Str × V)} (hp : H p = some (.ins (He.ga K c) dx fs)) (ne : ∀ e, ok e → He.ga K e ≠ He.ga K c) (so : ∀ a, T a → S a ∨ a = p) (he : EOk K T H E ke) : EOk K S H E (fun x => x.noX ok ∧ ke x) :=
  fun cls dd H' x ⟨nx, kx⟩ s r => he cls dd H' x kx s (by
    obtain ⟨r1, r2⟩ := r
    refine ⟨r1, ?_⟩
    cases ea : x.arg with
    | none => rw [ea] at r2; exact r2
    | some y =>
      obtain ⟨f, d⟩ := y
      rw [ea] at r2
      obtain ⟨q, v, h1, hn, h2, h3⟩ := r2
      exact ⟨q, v, h1, fun z => (so q z).elim hn fun e => (by rw [e, s _ _ hp] at h2; cases h2), h2, Rep.weak so (Rep.keep (s _ _ hp) ne (nx f d ea) h3)⟩)
/-- THE RULE: an expression that reads an owned instance; its answer holds no such instance -/
theorem dt_lend (j : Nat) {i : Nat} {c : Str} {fs : List (Str × D)} {o : Ow} {ok : Str → Prop} {t : TE} {k : D → Prop} (hoo : o = .obj c fs ∨ ∃ a, o = .slf a c fs) (ho : O[j]? = some (i, o)) (hl : i < G.length) (ne : ∀ e, ok e → He.ga K e ≠ He.ga K c)
    (h : DT K E t (G.set i (some (.obj c fs))) (O.eraseIdx j) (fun d => NoX ok d ∧ k d) (fun x => x.noX ok ∧ ke x)) : DT K E t G O k ke := fun S0 Os σ H Q st hq he => by
  obtain ⟨p, hp, oa, so, st2⟩ := st.lend ho hl
  have ed : o.d = .obj c fs := by rcases hoo with rfl | ⟨a, rfl⟩ <;> rfl
  rw [ed] at st2
  have hi : ∃ dx gs, H p = some (.ins (He.ga K c) dx gs) := by
    rcases hoo with rfl | ⟨a, rfl⟩
    · obtain ⟨dx, gs, e, _⟩ := oa; exact ⟨dx, gs, e⟩
    · obtain ⟨_, dx, gs, e, _⟩ := oa; exact ⟨dx, gs, e⟩
  obtain ⟨dx, gs, hi⟩ := hi
  exact h S0 _ σ H Q st2 (fun v H' d ⟨nd, kd⟩ s r => hq v H' d kd s (Rep.weak (fun a z => (so a).mp z) (Rep.keep (s _ _ hi) ne nd r))) (eok_lend hi ne (fun a z => (so a).mp z) he)
/-- .. a test -/
theorem dtt_lend (j : Nat) {i : Nat} {c : Str} {fs : List (Str × D)} {o : Ow} {ok : Str → Prop} {t : TT} {k : Bool → Prop} (hoo : o = .obj c fs ∨ ∃ a, o = .slf a c fs) (ho : O[j]? = some (i, o)) (hl : i < G.length) (ne : ∀ e, ok e → He.ga K e ≠ He.ga K c)
    (h : DTT K E t (G.set i (some (.obj c fs))) (O.eraseIdx j) k (fun x => x.noX ok ∧ ke x)) : DTT K E t G O k ke := fun S0 Os σ H Q st hq he => by
  obtain ⟨p, hp, oa, so, st2⟩ := st.lend ho hl
  have ed : o.d = .obj c fs := by rcases hoo with rfl | ⟨a, rfl⟩ <;> rfl
  rw [ed] at st2
  have hi : ∃ dx gs, H p = some (.ins (He.ga K c) dx gs) := by
    rcases hoo with rfl | ⟨a, rfl⟩
    · obtain ⟨dx, gs, e, _⟩ := oa; exact ⟨dx, gs, e⟩
    · obtain ⟨_, dx, gs, e, _⟩ := oa; exact ⟨dx, gs, e⟩
  obtain ⟨dx, gs, hi⟩ := hi
  exact h S0 _ σ H Q st2 hq (eok_lend hi ne (fun a z => (so a).mp z) he)
/-- .. arguments -/
theorem da_lend (j : Nat) {i : Nat} {c : Str} {fs : List (Str × D)} {o : Ow} {ok : Str → Prop} {t : TA} {k : List D → Prop} (hoo : o = .obj c fs ∨ ∃ a, o = .slf a c fs) (ho : O[j]? = some (i, o)) (hl : i < G.length) (ne : ∀ e, ok e → He.ga K e ≠ He.ga K c)
    (h : DA K E t (G.set i (some (.obj c fs))) (O.eraseIdx j) (fun d => NoXs ok d ∧ k d) (fun x => x.noX ok ∧ ke x)) : DA K E t G O k ke := fun S0 Os σ H Q st hq he => by
  obtain ⟨p, hp, oa, so, st2⟩ := st.lend ho hl
  have ed : o.d = .obj c fs := by rcases hoo with rfl | ⟨a, rfl⟩ <;> rfl
  rw [ed] at st2
  have hi : ∃ dx gs, H p = some (.ins (He.ga K c) dx gs) := by
    rcases hoo with rfl | ⟨a, rfl⟩
    · obtain ⟨dx, gs, e, _⟩ := oa; exact ⟨dx, gs, e⟩
    · obtain ⟨_, dx, gs, e, _⟩ := oa; exact ⟨dx, gs, e⟩
  obtain ⟨dx, gs, hi⟩ := hi
  exact h S0 _ σ H Q st2 (fun v H' d ⟨nd, kd⟩ s r => hq v H' d kd s (Reps.weak (fun a z => (so a).mp z) (Reps.keep (s _ _ hi) ne nd r))) (eok_lend hi ne (fun a z => (so a).mp z) he)
end
end Fw

set_option maxHeartbeats 4000000
/-! Defs that change an owned instance (spO), defs whose answer is a new thing (spF); returns that keep what is owned (DSR) or give it away (DSF). -/
namespace Fw
open PySem PySem.Spec PyProof.Rows L2
section
variable {K : PySem.W.Frag} {E : XK} {G : Gm} {O : OL} {ke : Xd → Prop}
/-- a statement whose return tells what is owned -/
def DSR (K : PySem.W.Frag) (E : XK) (t : TS) (G : Gm) (O : OL) (kn : Gm → OL → Prop) (kr : D → OL → Prop) (ke : Xd → Prop) : Prop :=
  ∀ (S0 : Addr → Prop) (H0 : Hp) (Os : OLa) (σ : L2.St) (H : Hp) (Ds : Ends), Frm S0 H0 Os H → St1 K S0 G O Os σ H →
    (∀ G' O' Os' σ' H', kn G' O' → Chg Os H Os' H' → St1 K S0 G' O' Os' σ' H' → Ds.nx σ' H') →
    (∀ v G' O' Os' σ' H' d, kr d O' → Chg Os H Os' H' → St1 K S0 G' O' Os' σ' H' → Rep K (SO S0 Os') H' v d → Ds.rt v H') → EOk K S0 H0 E ke → t Ds σ H
variable {kn : Gm → OL → Prop} {kr : D → OL → Prop}
theorem dsr_of {t : TS} (h : DS K E t G O kn (fun _ => False) ke) : DSR K E t G O kn kr ke := fun S0 H0 Os σ H Ds f st hn hr he =>
  h S0 H0 Os σ H Ds f st hn (fun v H' d kd _ _ => kd.elim) he
theorem dsr_ret {te : TE} (h : DT K E te G O (fun d => kr d O) ke) : DSR K E (tRet te) G O kn kr ke := fun S0 H0 Os σ H Ds f st hn hr he =>
  h.at_ f st he fun v H1 d kd s f1 st1 r => hr v G O Os σ H1 d kd (Chg.of_same s) st1 r
theorem dsr_seq {t u : TS} (h : DS K E t G O (fun G1 O1 => DSR K E u G1 O1 kn kr ke) (fun _ => False) ke) : DSR K E (tSeq t u) G O kn kr ke := fun S0 H0 Os σ H Ds f st hn hr he =>
  h S0 H0 Os σ H { Ds with nx := u Ds } f st (fun G1 O1 Os1 σ1 H1 k1 c1 st1 => k1 S0 H0 Os1 σ1 H1 Ds (f.step c1) st1 (fun G2 O2 Os2 σ2 H2 k2 c2 st2 => hn G2 O2 Os2 σ2 H2 k2 (c1.trans c2) st2)
    (fun v G2 O2 Os2 σ2 H2 d k2 c2 st2 r => hr v G2 O2 Os2 σ2 H2 d k2 (c1.trans c2) st2 r) he) (fun v H' d kd _ _ => kd.elim) he
theorem dsr_seqR {t u : TS} (h : DSR K E t G O (fun G1 O1 => DSR K E u G1 O1 kn kr ke) kr ke) : DSR K E (tSeq t u) G O kn kr ke := fun S0 H0 Os σ H Ds f st hn hr he =>
  h S0 H0 Os σ H { Ds with nx := u Ds } f st (fun G1 O1 Os1 σ1 H1 k1 c1 st1 => k1 S0 H0 Os1 σ1 H1 Ds (f.step c1) st1 (fun G2 O2 Os2 σ2 H2 k2 c2 st2 => hn G2 O2 Os2 σ2 H2 k2 (c1.trans c2) st2)
    (fun v G2 O2 Os2 σ2 H2 d k2 c2 st2 r => hr v G2 O2 Os2 σ2 H2 d k2 (c1.trans c2) st2 r) he) hr he
theorem dsr_if {c : TT} {t u : TS} (h : DTT K E c G O (fun b => (b = true → DSR K E t G O kn kr ke) ∧ (b = false → DSR K E u G O kn kr ke)) ke) : DSR K E (tIfS c t u) G O kn kr ke := fun S0 H0 Os σ H Ds f st hn hr he =>
  h.at_ f st he fun b H1 kb s f1 st1 => by
    cases b with
    | true => exact iteT (kb.1 rfl S0 H0 Os σ H1 Ds f1 st1 (fun G2 O2 Os2 σ2 H2 k2 c2 st2 => hn G2 O2 Os2 σ2 H2 k2 ((Chg.of_same s).trans c2) st2) (fun v G2 O2 Os2 σ2 H2 d k2 c2 st2 r => hr v G2 O2 Os2 σ2 H2 d k2 ((Chg.of_same s).trans c2) st2 r) he)
    | false => exact iteF (kb.2 rfl S0 H0 Os σ H1 Ds f1 st1 (fun G2 O2 Os2 σ2 H2 k2 c2 st2 => hn G2 O2 Os2 σ2 H2 k2 ((Chg.of_same s).trans c2) st2) (fun v G2 O2 Os2 σ2 H2 d k2 c2 st2 r => hr v G2 O2 Os2 σ2 H2 d k2 ((Chg.of_same s).trans c2) st2 r) he)
theorem dsr_next (h : kn G O) : DSR K E tNext G O kn kr ke := dsr_of (ds_next h)
/-- a statement whose return gives a new thing away -/
def DSF (K : PySem.W.Frag) (E : XK) (t : TS) (G : Gm) (O : OL) (kn : Gm → OL → Prop) (kf : Ow → Prop) (ke : Xd → Prop) : Prop :=
  ∀ (S0 : Addr → Prop) (H0 : Hp) (Os : OLa) (σ : L2.St) (H : Hp) (Ds : Ends), Frm S0 H0 Os H → St1 K S0 G O Os σ H →
    (∀ G' O' Os' σ' H', kn G' O' → Chg Os H Os' H' → St1 K S0 G' O' Os' σ' H' → Ds.nx σ' H') →
    (∀ p H' o, kf o → Same H0 H' → H0 p = none → OwnAt K (fun b => S0 b ∨ b = p) H' p o → Ds.rt (.ref p) H') → EOk K S0 H0 E ke → t Ds σ H
variable {kf : Ow → Prop}
theorem dsf_of {t : TS} (h : DS K E t G O kn (fun _ => False) ke) : DSF K E t G O kn kf ke := fun S0 H0 Os σ H Ds f st hn hr he =>
  h S0 H0 Os σ H Ds f st hn (fun v H' d kd _ _ => kd.elim) he
/-- an owned local -/
theorem dsf_own (j : Nat) {i : Nat} {o : Ow} (ho : O[j]? = some (i, o)) (h : kf o) : DSF K E (tRet (tVar i)) G O kn kf ke := fun S0 H0 Os σ H Ds f st hn hr he => by
  obtain ⟨p, hp, e, _⟩ := own_at st.os ho
  obtain ⟨hs, oa⟩ := st.own p hp
  obtain ⟨p1, p2⟩ := p
  have e' : p2 = (i, o) := e
  subst e'
  have wp : W Os p1 := List.mem_map_of_mem (f := (·.1)) hp
  exact ⟨_, hs, hr p1 H o h f.same (f.new p1 wp) (oa.weak fun b z => z.elim .inl fun e => .inr (e ▸ wp))⟩
/-- a new thing -/
theorem dsf_ret {te : TE} (h : DF K E te G O kf ke) : DSF K E (tRet te) G O kn kf ke := fun S0 H0 Os σ H Ds f st hn hr he =>
  h S0 Os σ H _ st (fun p H' o ko s np oa => hr p H' o ko (f.same.trans s) (f.same.free np) (oa.weak fun b z => z.imp (fun y => .inl y) id)) (he.so f)
theorem dsf_seq {t u : TS} (h : DS K E t G O (fun G1 O1 => DSF K E u G1 O1 kn kf ke) (fun _ => False) ke) : DSF K E (tSeq t u) G O kn kf ke := fun S0 H0 Os σ H Ds f st hn hr he =>
  h S0 H0 Os σ H { Ds with nx := u Ds } f st (fun G1 O1 Os1 σ1 H1 k1 c1 st1 => k1 S0 H0 Os1 σ1 H1 Ds (f.step c1) st1 (fun G2 O2 Os2 σ2 H2 k2 c2 st2 => hn G2 O2 Os2 σ2 H2 k2 (c1.trans c2) st2) hr he) (fun v H' d kd _ _ => kd.elim) he
theorem dsf_if {c : TT} {t u : TS} (h : DTT K E c G O (fun b => (b = true → DSF K E t G O kn kf ke) ∧ (b = false → DSF K E u G O kn kf ke)) ke) : DSF K E (tIfS c t u) G O kn kf ke := fun S0 H0 Os σ H Ds f st hn hr he =>
  h.at_ f st he fun b H1 kb s f1 st1 => by
    cases b with
    | true => exact iteT (kb.1 rfl S0 H0 Os σ H1 Ds f1 st1 (fun G2 O2 Os2 σ2 H2 k2 c2 st2 => hn G2 O2 Os2 σ2 H2 k2 ((Chg.of_same s).trans c2) st2) hr he)
    | false => exact iteF (kb.2 rfl S0 H0 Os σ H1 Ds f1 st1 (fun G2 O2 Os2 σ2 H2 k2 c2 st2 => hn G2 O2 Os2 σ2 H2 k2 ((Chg.of_same s).trans c2) st2) hr he)
end
/-! ### promises -/
abbrev WtF := List D → (Ow → Prop) → (Xd → Prop) → Prop
/-- a def whose answer is a new thing -/
def spF (K : PySem.W.Frag) (w : WtF) : Sp := fun vs H Q E => ∃ (S : Addr → Prop) (ds : List D) (k : Ow → Prop) (ke : Xd → Prop), (∀ a, S a → H a ≠ none) ∧ Reps K S H vs ds ∧ w ds k ke ∧
  (∀ p H' o, k o → Same H H' → H p = none → OwnAt K (fun b => S b ∨ b = p) H' p o → Q (.ref p) H') ∧ EOk K S H E ke
abbrev WtO := List D → List (Str × D) → List D → (D → List (Str × D) → Prop) → Prop
/-- a def that changes an instance that it is handed, after ds1; it lets nothing out -/
def spO (K : PySem.W.Frag) (c : Str) (w : WtO) : Sp := fun vs H Q _ => ∃ (S : Addr → Prop) (x : Addr) (vs1 vs2 : List V) (ds1 ds2 : List D) (fs : List (Str × D)) (k : D → List (Str × D) → Prop),
  vs = vs1 ++ .ref x :: vs2 ∧ ¬ S x ∧ (∀ a, S a → H a ≠ none) ∧ OwnAt K (fun b => S b ∨ b = x) H x (.obj c fs) ∧ Reps K (fun b => S b ∨ b = x) H vs1 ds1 ∧ Reps K (fun b => S b ∨ b = x) H vs2 ds2 ∧ w ds1 fs ds2 k ∧
  (∀ v H' d fs', k d fs' → SameX (fun b => b = x) H H' → OwnAt K (fun b => S b ∨ b = x) H' x (.obj c fs') → Rep K (fun b => S b ∨ b = x) H' v d → Q v H')
section
variable {K : PySem.W.Frag} {E : XK} {G : Gm} {O : OL} {ke : Xd → Prop}
theorem df_callF {w : WtF} {t : TA} {k : Ow → Prop} (h : DA K E t G O (fun ds => w ds k F0) ke) : DF K E (tCall (spF K w) [] E0 t) G O k ke := fun S0 Os σ H Q st hq he =>
  h.bind st he fun xs H1 ds ha s1 st1 he1 rx => by
    show spF K w (xs ++ []) H1 Q E0
    rw [List.append_nil]
    exact ⟨SO S0 Os, ds, k, F0, st1.domW, rx, ha, fun p H' o ko s np oa => hq p H' o ko (s1.trans s) (s1.free np) oa, eok_e0⟩
end
section
variable {P : Program} {w : World} {K : PySem.W.Frag} {mg : Str → Option Value} {base : Heap} {x qual : Str} {params : Arguments} {body : List Stmt} {scope : Scope} {f : Addr} {fd : FuncData}
/-- THE RULE for a def whose answer is new -/
theorem fnF {N ps : List Str} {k : Nat} {wt : WtF} (F : FunD K x qual params body scope [] [] f fd) (S : FnScope N ps scope) (len : ∀ ds kk ke, wt ds kk ke → ds.length = ps.length)
    (hb : ∀ (cdv : Value) (A : Around) (outer : List Env) (s : Shared) (H : Hp) (E : XK), RoomG k (A.deeper (envOfC qual scope s.heap.objs.size f cdv)) →
      ∃ t, PSs (cxOf (L2.CX P w) P w K mg base N qual scope f cdv A outer s H E) body t ∧ ∀ ds kk ke, wt ds kk ke → DSF K E t (startG N ds) [] (fun _ _ => False) kk ke) : FnG P w K mg base (L2.CX P w) (k + 1) f fd ps (spF K wt) := by
  refine g_fun F S (fun vs H Q E ⟨T, ds, kk, ke, dm, rr, hw, _⟩ => by rw [rr.length]; exact len ds kk ke hw) (fun cdv A outer s H vs Q E hr ⟨T, ds, kk, ke, dm, rr, hw, hq, he⟩ => ?_)
  obtain ⟨t, ht, hd⟩ := hb cdv A outer s H E hr
  exact ⟨t, ht, hd ds kk ke hw T H [] (L2.start N vs) H _ ⟨Same.refl H, fun a z => (by cases z), dm⟩ (start_st rr dm) (fun G' O' Os' σ' H' kn c st => kn.elim) (fun p H' o ko s np oa => hq p H' o ko s np oa) he⟩
/-- the locals at the start, the owned one left out -/
def startO (N : List Str) (ds1 ds2 : List D) : Gm := ds1.map some ++ none :: (ds2.map some ++ List.replicate (N.length - (ds1.length + 1 + ds2.length)) none)
theorem startO_get {N : List Str} {S : Addr → Prop} {H : Hp} {vs1 vs2 : List V} {ds1 ds2 : List D} {z : V} (r1 : Reps K S H vs1 ds1) (r2 : Reps K S H vs2 ds2) {i : Nat} {d : D} (e : (startO N ds1 ds2)[i]? = some (some d)) : ∃ v, (L2.start N (vs1 ++ z :: vs2))[i]? = some (some v) ∧ Rep K S H v d := by
  unfold startO at e
  unfold L2.start
  by_cases hi : i < ds1.length
  · rw [List.getElem?_append_left (by simpa using hi), List.getElem?_map] at e
    cases q : ds1[i]? with
    | none => rw [q] at e; cases e
    | some d' =>
      rw [q] at e; cases e
      obtain ⟨v, hv, rv⟩ := r1.get' q
      refine ⟨v, ?_, rv⟩
      rw [List.getElem?_append_left (by rw [List.length_map, List.length_append, r1.length]; omega), List.getElem?_map, List.getElem?_append_left (by rw [r1.length]; exact hi), hv]; rfl
  · rw [List.getElem?_append_right (by simpa using hi), List.length_map] at e
    cases hm : i - ds1.length with
    | zero => rw [hm] at e; cases e
    | succ n =>
      rw [hm, List.getElem?_cons_succ] at e
      by_cases hn : n < ds2.length
      · rw [List.getElem?_append_left (by simpa using hn), List.getElem?_map] at e
        cases q : ds2[n]? with
        | none => rw [q] at e; cases e
        | some d' =>
          rw [q] at e; cases e
          obtain ⟨v, hv, rv⟩ := r2.get' q
          refine ⟨v, ?_, rv⟩
          rw [List.getElem?_append_left (by rw [List.length_map, List.length_append, List.length_cons, r1.length, r2.length]; omega), List.getElem?_map, List.getElem?_append_right (by rw [r1.length]; omega), r1.length, hm, List.getElem?_cons_succ, hv]; rfl
      · rw [List.getElem?_append_right (by simpa using hn), List.getElem?_replicate] at e
        split at e <;> cases e
/-- THE RULE for a def that changes an instance -/
theorem fnO {N ps : List Str} {k : Nat} {c : Str} {wt : WtO} (F : FunD K x qual params body scope [] [] f fd) (S : FnScope N ps scope) (hN : ps.length ≤ N.length) (len : ∀ ds1 fs ds2 kk, wt ds1 fs ds2 kk → ds1.length + 1 + ds2.length = ps.length)
    (hb : ∀ (cdv : Value) (A : Around) (outer : List Env) (s : Shared) (H : Hp) (E : XK), RoomG k (A.deeper (envOfC qual scope s.heap.objs.size f cdv)) →
      ∃ t, PSs (cxOf (L2.CX P w) P w K mg base N qual scope f cdv A outer s H E) body t ∧ ∀ (x : Addr) ds1 fs ds2 kk, wt ds1 fs ds2 kk → DSR K E t (startO N ds1 ds2) [(ds1.length, .slf x c fs)] (fun _ O' => ∃ fs', O' = [(ds1.length, .slf x c fs')] ∧ kk .non fs') (fun d O' => ∃ fs', O' = [(ds1.length, .slf x c fs')] ∧ kk d fs') F0) : FnG P w K mg base (L2.CX P w) (k + 1) f fd ps (spO K c wt) := by
  refine g_fun F S (fun vs H Q E ⟨T, x, vs1, vs2, ds1, ds2, fs, kk, e, nx, dm, oa, r1, r2, hw, _⟩ => by rw [e, List.length_append, List.length_cons, r1.length, r2.length]; have := len ds1 fs ds2 kk hw; omega) (fun cdv A outer s H vs Q E hr ⟨T, x, vs1, vs2, ds1, ds2, fs, kk, e, nx, dm, oa, r1, r2, hw, hq⟩ => ?_)
  subst e
  obtain ⟨t, ht, hd⟩ := hb cdv A outer s H E hr
  have hlen := len ds1 fs ds2 kk hw
  have s0 : Same (del H x) H := fun a u e => by
    by_cases h : a = x
    · subst h; rw [del_same] at e; cases e
    · rw [del_ne h] at e; exact e
  have wx : ∀ o a, W [(x, ds1.length, o)] a ↔ a = x := fun o a => by
    show a ∈ [x] ↔ _
    exact List.mem_singleton
  have so : ∀ o a, SO T [(x, ds1.length, o)] a → T a ∨ a = x := fun o a z => z.imp id (wx o a).mp
  have w1 : ∀ o a, (T a ∨ a = x) → SO T [(x, ds1.length, o)] a := fun o a z => z.imp id (wx o a).mpr
  have fin : ∀ {G' : Gm} {O' : OL} {Os' : OLa} {σ' : L2.St} {H' : Hp} {fs' : List (Str × D)}, O' = [(ds1.length, .slf x c fs')] → St1 K T G' O' Os' σ' H' → Os' = [(x, ds1.length, .slf x c fs')] ∧ OwnAt K (fun b => T b ∨ b = x) H' x (.obj c fs') := fun {G' O' Os' σ' H' fs'} eo st => by
    have hos := st.os
    rw [eo] at hos
    cases Os' with
    | nil => cases hos
    | cons q qs =>
      cases qs with
      | cons _ _ =>
        have hz := congrArg List.length hos
        simp at hz
      | nil =>
        obtain ⟨q1, q2⟩ := q
        have e2 : q2 = (ds1.length, .slf x c fs') := by simpa using hos
        obtain ⟨hs, oa⟩ := st.own (q1, q2) List.mem_cons_self
        subst e2
        obtain ⟨ea, dx', vs2, h1, h2, h3⟩ := oa
        have ea' : q1 = x := ea
        subst ea'
        exact ⟨rfl, dx', vs2, h1, h2, Reps.weak (w1 _) h3⟩
  refine ⟨t, ht, hd x ds1 fs ds2 kk hw T (del H x) [(x, ds1.length, .slf x c fs)] (L2.start N (vs1 ++ .ref x :: vs2)) H _ ⟨s0, fun a z => by rw [(wx _ a).mp z]; exact del_same, fun a ta => by rw [del_ne fun z => nx (by rw [← z]; exact ta)]; exact dm a ta⟩
    ⟨rfl, ?_, dm, fun a z => by rw [(wx _ a).mp z]; exact nx, ?_, fun i d e => startO_get (Reps.weak (so _) r1) (Reps.weak (so _) r2) e, fun p hp => ?_⟩ (fun G' O' Os' σ' H' ⟨fs', eo, kf⟩ cc st => ?_) (fun v G' O' Os' σ' H' d ⟨fs', eo, kf⟩ cc st r => ?_) (fun _ _ _ _ z => z.elim)⟩
  · exact List.nodup_cons.mpr ⟨by simp, List.nodup_nil⟩
  · unfold L2.start startO
    simp only [List.length_append, List.length_map, List.length_replicate, List.length_cons, r1.length, r2.length]
    omega
  · have e := List.mem_singleton.mp hp
    subst e
    refine ⟨?_, rfl, ?_⟩
    · show (L2.start N (vs1 ++ .ref x :: vs2))[ds1.length]? = _
      unfold L2.start
      rw [List.getElem?_append_left (by rw [List.length_map, List.length_append, List.length_cons, r1.length]; omega), List.getElem?_map, List.getElem?_append_right (by rw [r1.length]; omega), r1.length, Nat.sub_self]; rfl
    · obtain ⟨dx, gs, h1, h2, h3⟩ := oa
      exact ⟨dx, gs, h1, h2, Reps.weak (so _) h3⟩
  · obtain ⟨eO, oa'⟩ := fin eo st
    exact hq .non H' .non fs' kf (fun a n u e => cc.same a (fun z => n ((wx _ a).mp z)) u e) oa' .non
  · obtain ⟨eO, oa'⟩ := fin eo st
    subst eO
    exact hq v H' d fs' kf (fun a n u e => cc.same a (fun z => n ((wx _ a).mp z)) u e) oa' (Rep.weak (w1 _) r)
end
end Fw

set_option maxHeartbeats 4000000
/-! Calls that change an owned instance. -/
namespace Fw
open PySem PySem.Spec PyProof.Rows L2
section
variable {K : PySem.W.Frag} {E : XK} {G : Gm} {O : OL} {ke : Xd → Prop} {kn : Gm → OL → Prop} {kr : D → Prop}
theorem St1.own_setX {S0 : Addr → Prop} {Os : OLa} {σ : L2.St} {H H' : Hp} (st : St1 K S0 G O Os σ H) {j : Nat} {p : Addr} {i : Nat} {o o' : Ow} (hp : Os[j]? = some (p, i, o)) (oa : OwnAt K (SO S0 Os) H' p o') (hl : SameX (fun b => b = p) H H') :
    St1 K S0 G (O.set j (i, o')) (Os.set j (p, i, o')) σ H' := by
  have hj : j < Os.length := (List.getElem?_eq_some_iff.mp hp).1
  have em : (Os.set j (p, i, o')).map (·.1) = Os.map (·.1) := by
    rw [List.map_set]
    apply List.ext_getElem?
    intro n
    by_cases hn : j = n
    · subst hn
      rw [List.getElem?_set_self (by rw [List.length_map]; exact hj), List.getElem?_map, hp]; rfl
    · rw [List.getElem?_set_ne hn]
  have w : ∀ a, W (Os.set j (p, i, o')) a ↔ W Os a := fun a => by show a ∈ _ ↔ a ∈ _; rw [em]
  have so : SO S0 (Os.set j (p, i, o')) = SO S0 Os := by
    funext a; exact propext ⟨fun z => z.imp id (w a).mp, fun z => z.imp id (w a).mpr⟩
  have hmem : (p, i, o) ∈ Os := List.mem_of_getElem? hp
  have wp : W Os p := List.mem_map_of_mem (f := (·.1)) hmem
  have lx : LeX (SO S0 Os) H H' := hl.lex.weak fun a z => .inr (z ▸ wp)
  refine ⟨by rw [List.map_set, st.os], by rw [em]; exact st.nd, fun a z => ?_, fun a z => st.ns a ((w a).mp z), st.len, fun n d e => ?_, fun q hq => ?_⟩
  · have na : ¬ W Os a := fun y => st.ns a y z
    have ne : a ≠ p := fun y => na (by rw [y]; exact wp)
    cases e : H a with
    | none => exact absurd e (st.dom a z)
    | some u => rw [hl a ne u e]; simp
  · obtain ⟨v, e1, r⟩ := st.re n d e
    rw [so]
    exact ⟨v, e1, Rep.mono lx r⟩
  · rw [so]
    obtain ⟨n, hn⟩ := List.mem_iff_getElem?.mp hq
    by_cases hjn : j = n
    · subst hjn
      rw [List.getElem?_set_self hj] at hn
      cases hn
      exact ⟨(st.own _ hmem).1, oa⟩
    · rw [List.getElem?_set_ne hjn] at hn
      have hq' := List.mem_of_getElem? hn
      obtain ⟨hs, ob⟩ := st.own q hq'
      refine ⟨hs, ?_⟩
      have ne : q.1 ≠ p := fun z => hjn (by
        have nd := st.nd
        have h1 : (Os.map (·.1))[j]? = some p := by rw [List.getElem?_map, hp]; rfl
        have h2 : (Os.map (·.1))[n]? = some p := by rw [List.getElem?_map, hn]; exact congrArg some z
        obtain ⟨l1, g1⟩ := List.getElem?_eq_some_iff.mp h1
        obtain ⟨l2, g2⟩ := List.getElem?_eq_some_iff.mp h2
        exact (List.getElem_inj nd).mp (g1.trans g2.symm))
      generalize q.2.2 = ow at ob ⊢
      cases ow with
      | lst ds => obtain ⟨vs, e, r⟩ := ob; exact ⟨vs, hl _ ne _ e, Reps.mono lx r⟩
      | dic ds => obtain ⟨vs, e, q, r⟩ := ob; exact ⟨vs, hl _ ne _ e, q, Reps.mono lx r⟩
      | obj c ds => obtain ⟨dx, vs, e, q, r⟩ := ob; exact ⟨dx, vs, hl _ ne _ e, q, Reps.mono lx r⟩
      | slf _ c ds => obtain ⟨ea, dx, vs, e, q, r⟩ := ob; exact ⟨ea, dx, vs, hl _ ne _ e, q, Reps.mono lx r⟩
theorem chg_putX {Os : OLa} {H H' : Hp} {p : Addr} {j i : Nat} {o o' : Ow} (hp : Os[j]? = some (p, i, o)) (hl : SameX (fun b => b = p) H H') : Chg Os H (Os.set j (p, i, o')) H' := by
  have hmem : (p, i, o) ∈ Os := List.mem_of_getElem? hp
  refine ⟨fun a n u e => hl a (fun z => n (by rw [z]; exact List.mem_map_of_mem (f := (·.1)) hmem)) u e, fun a z => ?_⟩
  have z' : a ∈ (Os.set j (p, i, o')).map (·.1) := z
  obtain ⟨q, hq, e⟩ := List.mem_map.mp z'
  rcases List.mem_or_eq_of_mem_set hq with hq | hq
  · exact .inl (e ▸ List.mem_map_of_mem (f := (·.1)) hq)
  · subst hq
    exact .inl (e ▸ List.mem_map_of_mem (f := (·.1)) hmem)
/-- the fields of an instance have no method's name -/
theorem fld_none {S : Addr → Prop} {H : Hp} {m : Str} {fs : List (Str × V)} {ds : List (Str × D)} (ek : fs.map Prod.fst = ds.map Prod.fst) (r : Reps K S H (fs.map Prod.snd) (ds.map Prod.snd)) (l : ds.lookup m = none) : fs.lookup m = none := by
  rcases lookup_rep (f := m) ek r with ⟨_, z⟩ | ⟨v, d, z, _⟩
  · exact z
  · rw [l] at z; cases z
/-- x.m(..), x an owned local that it changes -/
theorem ds_methO (j : Nat) {i : Nat} {w : WtO} {c m : Str} {fs : List (Str × D)} {t : TA} (ho : O[j]? = some (i, .obj c fs)) (l : fs.lookup m = none)
    (h : DA K E t G O (fun ds => w [] fs ds (fun d fs' => kn G (O.set j (i, .obj c fs')))) ke) : DS K E (tDrop (tMeth (He.ga K c) m (spO K c w) [] E0 (tVar i) t)) G O kn kr ke := fun S0 H0 Os σ H Ds f st hn hr he => by
  obtain ⟨p0, hp, e, hpj⟩ := own_at st.os ho
  obtain ⟨hs, oa⟩ := st.own p0 hp
  obtain ⟨p, p2⟩ := p0
  have e' : p2 = (i, .obj c fs) := e
  subst e'
  obtain ⟨dx, gs, hh, ek, r⟩ := oa
  refine ⟨_, hs, p, dx, gs, rfl, hh, fld_none ek r l, h.at_ f st he fun xs H2 ds hw s2 f2 st2 ry => ?_⟩
  rw [List.append_nil]
  have hp2 : (p, i, Ow.obj c fs) ∈ Os := hp
  have wp : W Os p := List.mem_map_of_mem (f := (·.1)) hp
  obtain ⟨_, oa2⟩ := st2.own _ hp2
  let T : Addr → Prop := fun b => SO S0 Os b ∧ b ≠ p
  have so : ∀ a, (T a ∨ a = p) ↔ SO S0 Os a := fun a => ⟨fun z => z.elim (fun y => y.1) fun y => .inr (y ▸ wp), fun z => (Classical.em (a = p)).elim .inr fun n => .inl ⟨z, n⟩⟩
  refine ⟨T, p, [], xs, [], ds, fs, _, rfl, fun z => z.2 rfl, fun a z => st2.domW a z.1, oa2.weak fun a z => (so a).mp z, .nil, Reps.weak (fun a z => (so a).mp z) ry, hw, fun v H' d fs' kd sx oa' rv => ?_⟩
  exact hn _ _ _ σ H' kd ((Chg.of_same s2).trans (chg_putX hpj sx)) (st2.own_setX hpj (oa'.weak fun a z => (so a).mpr z) sx)
/-- f(a, new): the new instance is changed and forgotten -/
theorem dt_callO2 {w : WtO} {c : Str} {ta tf : TE} {k : D → Prop} (h : DT K E ta G O (fun a => DF K E tf G O (fun o => ∃ fs, o = .obj c fs ∧ w [a] fs [] (fun d _ => k d)) ke) ke) : DT K E (tCall (spO K c w) [] E0 (tCons ta (tCons tf tNil))) G O k ke := fun S0 Os σ H Q st hq he =>
  h.bind st he fun x H1 a ha s1 st1 he1 rx => ha S0 Os σ H1 _ st1 (fun p H2 o ⟨fs, e, hw⟩ s2 np oa => by
    subst e
    show spO K c w ([x, .ref p] ++ []) H2 Q E0
    rw [List.append_nil]
    have st2 := st1.same s2
    refine ⟨SO S0 Os, p, [x], [], [a], [], fs, _, rfl, fun z => st1.domW p z np, fun a z => st2.domW a z, oa, Reps.same (Reps.avoid (fun a z => z.elim .inl fun e => .inr (e ▸ np)) (.cons rx .nil)) s2, .nil, hw, fun v H' d fs' kd sx oa' rv => ?_⟩
    refine hq v H' d kd (fun b u e => ?_) (Rep.weak (fun a z => .inl z) rv)
    have e1 := s1 b u e
    exact sx b (fun z => by rw [z, np] at e1; cases e1) u (s2 b u e1)) he1
end
end Fw

set_option maxHeartbeats 4000000
/-! a, b = new, datum. -/
namespace Fw
open PySem PySem.Spec PyProof.Rows L2
section
variable {K : PySem.W.Frag} {E : XK} {G : Gm} {O : OL} {ke : Xd → Prop} {kn : Gm → OL → Prop} {kr : D → Prop}
/-- the first is new -/
theorem ds_parFV {i j : Nat} {ta tb : TE} (hij : i ≠ j) (hi : ∀ o ∈ O, o.1 ≠ i) (hj : ∀ o ∈ O, o.1 ≠ j) (hl : i < G.length)
    (h : DF K E ta G O (fun o1 => DT K E tb G O (fun b => kn ((G.set i none).set j (some b)) ((i, o1) :: O)) ke) ke) : DS K E (tPar i j (tCons ta (tCons tb tNil))) G O kn kr ke := fun S0 H0 Os σ H Ds f st hn hr he =>
  h S0 Os σ H _ st (fun p H1 o1 k1 s1 np1 oa1 => by
    have st1 := st.same s1
    have hp1 : H1 p ≠ none := oa1.there
    let S0' : Addr → Prop := fun b => S0 b ∨ b = p
    have nW : ¬ W Os p := fun z => st.domW p (.inr z) np1
    have so : ∀ a, SO S0' Os a → SO S0 Os a ∨ a = p := fun a z => z.elim (fun z => z.elim (fun z => .inl (.inl z)) .inr) fun z => .inl (.inr z)
    have so2 : ∀ a, SO S0' Os a → SO S0 Os a ∨ H a = none := fun a z => (so a z).elim .inl fun e => .inr (by rw [e]; exact np1)
    have st1' : St1 K S0' G O Os σ H1 := by
      refine ⟨st1.os, st1.nd, fun a z => z.elim (st1.dom a) fun e => by rw [e]; exact hp1, fun a w z => z.elim (st1.ns a w) fun e => nW (by rw [← e]; exact w), st1.len, fun n e q => ?_, fun q hq => ?_⟩
      · obtain ⟨v, e1, r⟩ := st.re n e q
        exact ⟨v, e1, Rep.same (Rep.avoid so2 r) s1⟩
      · obtain ⟨h1, h2⟩ := st.own q hq
        refine ⟨h1, ?_⟩
        generalize q.2.2 = ow at h2 ⊢
        cases ow with
        | lst ds => obtain ⟨us, e, r⟩ := h2; exact ⟨us, s1 _ _ e, Reps.same (Reps.avoid so2 r) s1⟩
        | dic ds => obtain ⟨us, e, q, r⟩ := h2; exact ⟨us, s1 _ _ e, q, Reps.same (Reps.avoid so2 r) s1⟩
        | obj c ds => obtain ⟨dx, us, e, q, r⟩ := h2; exact ⟨dx, us, s1 _ _ e, q, Reps.same (Reps.avoid so2 r) s1⟩
        | slf _ c ds => obtain ⟨ea, dx, us, e, q, r⟩ := h2; exact ⟨ea, dx, us, s1 _ _ e, q, Reps.same (Reps.avoid so2 r) s1⟩
    have he1 : EOk K (SO S0' Os) H1 E ke := fun c d H2 x kx l r => (he.so f) c d H2 x kx (s1.trans l) (by
      obtain ⟨e, r⟩ := r
      refine ⟨e, ?_⟩
      cases q : x.arg with
      | none => rw [q] at r; exact r
      | some pr =>
        rw [q] at r
        obtain ⟨a, v, h1, hn, h2, h3⟩ := r
        exact ⟨a, v, h1, fun z => hn (z.elim (fun z => .inl (.inl z)) .inr), h2, Rep.weak (fun a z => z.elim (fun z => .inl (.inl z)) .inr) h3⟩)
    refine k1 S0' Os σ H1 _ st1' (fun v H2 b kb s2 rv => ⟨_, _, rfl, ?_⟩) he1
    have A := (st.own_new (i := i) s1 np1 oa1 hi hl).same s2
    have w1 : ∀ a, SO S0 ((p, i, o1) :: Os) a → SO S0' Os a := fun a z => by
      rcases z with z | z
      · exact .inl (.inl z)
      · have z' : a ∈ List.map _ _ := z
        rw [List.map_cons, List.mem_cons] at z'
        rcases z' with z' | z'
        · exact .inl (.inr z')
        · exact .inr z'
    refine hn _ _ ((p, i, o1) :: Os) _ H2 kb ⟨Same.sx (s1.trans s2), fun a z => ?_⟩ (A.set (Rep.weak w1 rv) fun o ho => ?_)
    · have z' : a ∈ List.map _ _ := z
      rw [List.map_cons, List.mem_cons] at z'
      rcases z' with z' | z'
      · exact .inr (by rw [z']; exact np1)
      · exact .inl z'
    · rcases List.mem_cons.mp ho with rfl | ho
      · exact hij
      · exact hj o ho) (he.so f)
end
end Fw

set_option maxHeartbeats 4000000
/-! repr of data; owned lists read; owned instances changed by a method within a def that owns them; new things made from a lent instance. -/
namespace Fw
open PySem PySem.Spec PyProof.Rows L2
/-! ### repr -/
def rReprD (K : PySem.W.Frag) : List V → Hp → VK → Prop := fun xs H Q => ∃ x d, xs = [x] ∧ Dp K H x d ∧ d.canLay0 = true ∧ d.depth ≤ 20 ∧ d.showable = true ∧ d.shown.length ≤ sizeLine ∧ Q (.str d.shown) H
theorem z_reprH {X : Cx} (K : PySem.W.Frag) (hu0 : X.A.units + 64 < cLine) (hgd : X.A.guards = some []) (hK : X.K = K := by rfl) : CallR X (.builtin "repr") (rReprD K) := by
  subst hK
  intro pins s σ H xs us Q I r h
  obtain ⟨x, d, rfl, hd, sh, dp, hs, hz, q⟩ := h
  obtain ⟨u, rfl, ru⟩ := vals1 r
  obtain ⟨as, rd⟩ := Dp.reads I d x u hd ru
  have hu : X.A.units + (d.depth + 1) < cLine := Nat.lt_of_le_of_lt (Nat.add_le_add_left (by omega : d.depth + 1 ≤ 64) _) hu0
  have go : ∀ a, u = .ref a → wpAny (model X.prog X.w) X.A (call (.builtin "repr") [u]) (EP X pins σ Q) X.xe s := fun a e => by
    subst e
    exact repr_of_reads' rd hs (PyData.noDict_hsm (PyData.hasDict_of_canLay d sh)) hgd hu (fun _ _ e => e) (fun h' u tk hk => ⟨.str _, H, I.kept hk, ⟨_, rfl⟩, q⟩) hz
  cases hd with
  | non =>
    obtain rfl : u = Value.none := ru
    exact PySem.P.repr_of_none ⟨.str _, H, I.tok _, ⟨_, rfl⟩, q⟩
  | bl b =>
    obtain rfl : u = Value.bool b := ru
    exact PySem.P.repr_of_bool ⟨.str _, H, I.tok _, ⟨_, rfl⟩, q⟩
  | int i =>
    obtain ⟨t, rfl⟩ := ru
    exact PySem.P.repr_of_int (of_decide_eq_true hs) ⟨.str _, H, I.tok _, ⟨_, rfl⟩, q⟩
  | str z =>
    obtain ⟨t, rfl⟩ := ru
    exact PySem.P.repr_of_str ⟨.str _, H, I.tok _, ⟨_, rfl⟩, q⟩ hz
  | lst h1 h2 => exact go _ ru
  | tup h1 h2 => exact go _ ru
theorem z_repr {X : Cx} {k : Nat} (K : PySem.W.Frag) (hr : RoomG k X.A) (hK : X.K = K := by rfl) : CallR X (.builtin "repr") (rReprD K) := z_reprH K hr.rm.units hr.gd hK
/-- what repr writes -/
def shownD (d : D) : Str := match d.pd with
  | some p => p.shown
  | none => ""
def ReprOk (d : D) : Prop := ∃ p, d.pd = some p ∧ p.canLay0 = true ∧ p.depth ≤ 20 ∧ p.showable = true ∧ p.shown.length ≤ sizeLine
theorem cad_repr {K : PySem.W.Frag} : CaD K (rReprD K) (fun ds k => ∃ d, ds = [d] ∧ ReprOk d ∧ k (.str (shownD d))) := by
  intro S H xs ds Q k dm rx ⟨d, e, ⟨p, e1, h1, h2, h3, h4⟩, kd⟩ hq
  subst e
  cases rx with
  | cons hx t =>
    cases t
    have es : shownD d = p.shown := by unfold shownD; rw [e1]
    rw [es] at kd
    exact ⟨_, p, rfl, dp_of d _ p hx e1, h1, h2, h3, h4, hq _ H _ kd (Same.refl H) (.str _)⟩
theorem pds_nats : ∀ ns : List Nat, D.pds (ns.map fun n => D.int (n : Nat)) = some (ns.map fun n => PyData.int (n : Nat))
  | [] => rfl
  | n :: r => by
    rw [List.map_cons]
    unfold D.pds
    rw [pds_nats r]; rfl
theorem pd_nats (ns : List Nat) : (D.lst (ns.map fun n => D.int (n : Nat))).pd = some (.list (ns.map fun n => PyData.int (n : Nat))) := by
  unfold D.pd; rw [pds_nats]; rfl
theorem lay_nats : ∀ ns : List Nat, PyData.canLayAll0 (ns.map fun n => PyData.int (n : Nat)) = true
  | [] => rfl
  | n :: r => by
    rw [List.map_cons]
    simp only [PyData.canLayAll0, PyData.canLay0, lay_nats r, Bool.and_self]
theorem depth_nats : ∀ ns : List Nat, PyData.depthAll (ns.map fun n => PyData.int (n : Nat)) = 0
  | [] => rfl
  | n :: r => by
    rw [List.map_cons]
    simp only [PyData.depthAll, PyData.depth, depth_nats r, Nat.max_self]
theorem shaped_nats (ns : List Nat) : SeqAt.shaped (.list (ns.map fun n => PyData.int (n : Nat))) = true := by
  show (PyData.canLay0 (.list _) && decide (PyData.depth (.list _) ≤ 64)) = true
  simp only [PyData.canLay0, PyData.depth, lay_nats, depth_nats, Bool.true_and]
  decide
theorem eqvAll_nats : ∀ ms ns : List Nat, PyData.eqvAll (ms.map fun n => PyData.int (n : Nat)) (ns.map fun n => PyData.int (n : Nat)) = decide (ms = ns)
  | [], [] => by simp [PyData.eqvAll]
  | [], _ :: _ => by simp [PyData.eqvAll]
  | _ :: _, [] => by simp [PyData.eqvAll]
  | m :: ms, n :: ns => by
    rw [List.map_cons, List.map_cons]
    simp only [PyData.eqvAll, PyData.eqv, eqvAll_nats ms ns]
    by_cases h : m = n
    · subst h; simp
    · have h2 : ¬ ((m : Int) = (n : Int)) := by omega
      simp [h, h2]
theorem eqv_nats (ms ns : List Nat) : PyData.eqv (.list (ms.map fun n => PyData.int (n : Nat))) (.list (ns.map fun n => PyData.int (n : Nat))) = decide (ms = ns) := by
  simp only [PyData.eqv, eqvAll_nats]
theorem small_nat {n : Nat} (h : n < 1000) : n.log2 < 10 := by
  by_cases z : n = 0
  · subst z; decide
  · exact (Nat.log2_lt z).mpr (by omega)
theorem repr_nats {ns : List Nat} (hl : ns.length ≤ 1000) (h : ∀ n ∈ ns, n < 1000) : ReprOk (.lst (ns.map fun n => D.int (n : Nat))) := by
  refine ⟨_, pd_nats ns, ?_, ?_, ?_, ?_⟩
  · simp only [PyData.canLay0, lay_nats]
  · simp only [PyData.depth, depth_nats]; decide
  · have : ∀ ms : List Nat, (∀ n ∈ ms, n < 1000) → PyData.showableAll (ms.map fun n => PyData.int (n : Nat)) = true := by
      intro ms
      induction ms with
      | nil => intro _; rfl
      | cons n r ih =>
        intro hm
        rw [List.map_cons]
        simp only [PyData.showableAll, PyData.showable, ih fun m hm' => hm m (List.mem_cons_of_mem _ hm'), Bool.and_true, decide_eq_true_eq]
        have := small_nat (hm n List.mem_cons_self)
        show (n : Int).natAbs.log2 < 1920
        rw [Int.natAbs_natCast]; omega
    simp only [PyData.showable]
    exact this ns h
  · have hi : ∀ ms : List Nat, (∀ n ∈ ms, n < 1000) → PyData.intsShortAll 13 (ms.map fun n => PyData.int (n : Nat)) = true := by
      intro ms
      induction ms with
      | nil => intro _; rfl
      | cons n r ih =>
        intro hm
        rw [List.map_cons]
        simp only [PyData.intsShortAll, PyData.intsShort, ih fun m hm' => hm m (List.mem_cons_of_mem _ hm'), Bool.and_true, decide_eq_true_eq]
        refine PyData.shown_int_le ?_
        rw [Int.natAbs_natCast]
        have := hm n List.mem_cons_self
        omega
    have hw : ∀ ms : List Nat, (∀ n ∈ ms, n < 1000) → PyData.weightAll (ms.map fun n => PyData.int (n : Nat)) ≤ 20 * ms.length := by
      intro ms
      induction ms with
      | nil => intro _; exact Nat.le_refl _
      | cons n r ih =>
        intro hm
        rw [List.map_cons]
        simp only [PyData.weightAll, PyData.weight, List.length_cons]
        have i1 := ih fun m hm' => hm m (List.mem_cons_of_mem _ hm')
        have i2 := small_nat (hm n List.mem_cons_self)
        rw [Int.natAbs_natCast]
        split <;> omega
    have b := PyData.shown_le 13 (by decide) (.list (ns.map fun n => PyData.int (n : Nat))) (PyData.leavesShort_of_canLay0 13 _ (by simp only [PyData.canLay0, lay_nats]) (by simp only [PyData.intsShort]; exact hi ns h))
    have w := hw ns h
    have e : PyData.weight (.list (ns.map fun n => PyData.int (n : Nat))) = PyData.weightAll (ns.map fun n => PyData.int (n : Nat)) := by simp only [PyData.weight]
    rw [e] at b
    rw [sizeLine_eq]
    omega
/-! ### lent -/
section
variable {K : PySem.W.Frag} {E : XK} {G : Gm} {O : OL} {ke : Xd → Prop}
/-- an owned thing is read; the answer is flat -/
theorem dt_lendV (j : Nat) {i : Nat} {o : Ow} {t : TE} {k : D → Prop} (ho : O[j]? = some (i, o)) (hl : i < G.length) (h : DT K E t (G.set i (some o.d)) (O.eraseIdx j) (fun d => d.flat = true ∧ k d) F0) : DT K E t G O k ke := fun S0 Os σ H Q st hq he => by
  obtain ⟨p, hp, oa, so, st2⟩ := st.lend ho hl
  exact h S0 _ σ H Q st2 (fun v H' d ⟨fd, kd⟩ s r => hq v H' d kd s (by
    obtain ⟨e, _⟩ := D.flat_v r fd
    rw [e]; exact D.rep fd)) (fun _ _ _ _ z => z.elim)
theorem dtt_lendV (j : Nat) {i : Nat} {o : Ow} {t : TT} {k : Bool → Prop} (ho : O[j]? = some (i, o)) (hl : i < G.length) (h : DTT K E t (G.set i (some o.d)) (O.eraseIdx j) k F0) : DTT K E t G O k ke := fun S0 Os σ H Q st hq he => by
  obtain ⟨p, hp, oa, so, st2⟩ := st.lend ho hl
  exact h S0 _ σ H Q st2 hq (fun _ _ _ _ z => z.elim)
/-- what is in a new thing holds no such instance -/
def NoXo (ok : Str → Prop) : Ow → Prop
  | .lst ds => NoXs ok ds
  | .dic ds => NoXs ok (ds.map Prod.snd)
  | .obj _ ds => NoXs ok (ds.map Prod.snd)
  | .slf _ _ ds => NoXs ok (ds.map Prod.snd)
theorem OwnAt.keep {S : Addr → Prop} {H : Hp} {p q dx : Addr} {c : Str} {fs : List (Str × V)} {ok : Str → Prop} {o : Ow} (hp : H p = some (.ins (He.ga K c) dx fs)) (ne : ∀ e, ok e → He.ga K e ≠ He.ga K c) (nx : NoXo ok o)
    (h : OwnAt K (fun b => S b ∨ b = q) H q o) : OwnAt K (fun b => (S b ∨ b = p) ∨ b = q) H q o := by
  have sw : ∀ b, ((S b ∨ b = p) ∨ b = q) → (S b ∨ b = q) ∨ b = p := fun b z => by
    rcases z with (z | z) | z
    · exact .inl (.inl z)
    · exact .inr z
    · exact .inl (.inr z)
  cases o with
  | lst ds => obtain ⟨vs, e, r⟩ := h; exact ⟨vs, e, Reps.weak sw (Reps.keep hp ne nx r)⟩
  | dic ds => obtain ⟨vs, e, q, r⟩ := h; exact ⟨vs, e, q, Reps.weak sw (Reps.keep hp ne nx r)⟩
  | obj c ds => obtain ⟨dx, vs, e, q, r⟩ := h; exact ⟨dx, vs, e, q, Reps.weak sw (Reps.keep hp ne nx r)⟩
  | slf _ c ds => obtain ⟨ea, dx, vs, e, q, r⟩ := h; exact ⟨ea, dx, vs, e, q, Reps.weak sw (Reps.keep hp ne nx r)⟩
theorem df_lend (j : Nat) {i : Nat} {c : Str} {fs : List (Str × D)} {o : Ow} {ok : Str → Prop} {t : TE} {k : Ow → Prop} (hoo : o = .obj c fs ∨ ∃ a, o = .slf a c fs) (ho : O[j]? = some (i, o)) (hl : i < G.length) (ne : ∀ e, ok e → He.ga K e ≠ He.ga K c)
    (h : DF K E t (G.set i (some (.obj c fs))) (O.eraseIdx j) (fun o => NoXo ok o ∧ k o) (fun x => x.noX ok ∧ ke x)) : DF K E t G O k ke := fun S0 Os σ H Q st hq he => by
  obtain ⟨p, hp, oa, so, st2⟩ := st.lend ho hl
  have ed : o.d = .obj c fs := by rcases hoo with rfl | ⟨a, rfl⟩ <;> rfl
  rw [ed] at st2
  have hi : ∃ dx gs, H p = some (.ins (He.ga K c) dx gs) := by
    rcases hoo with rfl | ⟨a, rfl⟩
    · obtain ⟨dx, gs, e, _⟩ := oa; exact ⟨dx, gs, e⟩
    · obtain ⟨_, dx, gs, e, _⟩ := oa; exact ⟨dx, gs, e⟩
  obtain ⟨dx, gs, hi⟩ := hi
  exact h S0 _ σ H Q st2 (fun q H' o2 ⟨nd, kd⟩ s np oa2 => hq q H' o2 kd s np ((OwnAt.keep (s _ _ hi) ne nd oa2).weak fun b z => z.imp (fun y => (so b).mp y) id)) (eok_lend hi ne (fun a z => (so a).mp z) he)
variable {kn : Gm → OL → Prop} {kr : D → Prop}
/-- x.m(..), x the instance that this def was handed, which it changes -/
theorem ds_methOS (j : Nat) {a : Addr} {i : Nat} {w : WtO} {c m : Str} {fs : List (Str × D)} {t : TA} (ho : O[j]? = some (i, .slf a c fs)) (l : fs.lookup m = none)
    (h : DA K E t G O (fun ds => w [] fs ds (fun d fs' => kn G (O.set j (i, .slf a c fs')))) ke) : DS K E (tDrop (tMeth (He.ga K c) m (spO K c w) [] E0 (tVar i) t)) G O kn kr ke := fun S0 H0 Os σ H Ds f st hn hr he => by
  obtain ⟨p0, hp, e, hpj⟩ := own_at st.os ho
  obtain ⟨hs, oa⟩ := st.own p0 hp
  obtain ⟨p, p2⟩ := p0
  have e' : p2 = (i, .slf a c fs) := e
  subst e'
  obtain ⟨ea, dx, gs, hh, ek, r⟩ := oa
  refine ⟨_, hs, p, dx, gs, rfl, hh, fld_none ek r l, h.at_ f st he fun xs H2 ds hw s2 f2 st2 ry => ?_⟩
  rw [List.append_nil]
  have hp2 : (p, i, Ow.slf a c fs) ∈ Os := hp
  have wp : W Os p := List.mem_map_of_mem (f := (·.1)) hp
  obtain ⟨_, oa2⟩ := st2.own _ hp2
  let T : Addr → Prop := fun b => SO S0 Os b ∧ b ≠ p
  have so : ∀ a, (T a ∨ a = p) ↔ SO S0 Os a := fun a => ⟨fun z => z.elim (fun y => y.1) fun y => .inr (y ▸ wp), fun z => (Classical.em (a = p)).elim .inr fun n => .inl ⟨z, n⟩⟩
  have oa3 : OwnAt K (SO S0 Os) H2 p (.obj c fs) := by obtain ⟨_, dx, gs, h1, h2, h3⟩ := oa2; exact ⟨dx, gs, h1, h2, h3⟩
  refine ⟨T, p, [], xs, [], ds, fs, _, rfl, fun z => z.2 rfl, fun a z => st2.domW a z.1, oa3.weak fun a z => (so a).mp z, .nil, Reps.weak (fun a z => (so a).mp z) ry, hw, fun v H' d fs' kd sx oa' rv => ?_⟩
  have oa4 : OwnAt K (SO S0 Os) H' p (.slf a c fs') := by obtain ⟨dx, gs, h1, h2, h3⟩ := oa'.weak (T := SO S0 Os) fun a z => (so a).mpr z; exact ⟨ea, dx, gs, h1, h2, h3⟩
  exact hn _ _ _ σ H' kd ((Chg.of_same s2).trans (chg_putX hpj sx)) (st2.own_setX hpj oa4 sx)
/-- x.m(..), the answer new -/
theorem df_methF {w : WtF} {c m : Str} {ta : TE} {t : TA} {k : Ow → Prop} (h : DT K E ta G O (fun a => ∃ fs, a = .obj c fs ∧ fs.lookup m = none ∧ DA K E t G O (fun ds => w (a :: ds) k F0) ke) ke) :
    DF K E (tMeth (He.ga K c) m (spF K w) [] E0 ta t) G O k ke := fun S0 Os σ H Q st hq he =>
  h.bind st he fun x H1 a ⟨fs, e, l, ha⟩ s1 st1 he1 rx => by
    subst e
    have rx0 := rx
    cases rx with
    | obj n hh ef r =>
      refine ⟨_, _, _, rfl, hh, fld_none ef r l, ha.bind st1 he1 fun xs H2 ds hw s2 st2 he2 ry => ?_⟩
      rw [List.append_nil]
      exact ⟨SO S0 Os, _, k, F0, st2.domW, .cons (rx0.same s2) ry, hw, fun p H' o ko s np oa => hq p H' o ko ((s1.trans s2).trans s) ((s1.trans s2).free np) oa, eok_e0⟩
theorem ne_of_kit {a b : Str} (h1 : PySem.W.kitOne K (Tv.v K (.own a)) (Tv.v K (.own b)) = some false) (h2 : PySem.W.kitOne K (Tv.v K (.own b)) (Tv.v K (.own b)) = some true) : He.ga K a ≠ He.ga K b := fun z => by
  have e : Tv.v K (.own a) = Tv.v K (.own b) := by show Value.ref _ = Value.ref _; rw [z]
  rw [e, h2] at h1
  cases h1
end
end Fw

set_option maxHeartbeats 4000000
/-! Own exceptions whose __init__ calls the built-in one with a text and stores its argument: made. -/
namespace Fw
open PySem PySem.Spec PyProof.Rows L2
theorem Bs.fb : ∀ b : Bs, ExcBaseFacts b.nm b.new b.ini b.mro
  | .lookup => F.excBase_LookupError
  | .runtime => F.excBase_RuntimeError
  | .overflow => F.excBase_OverflowError
  | .value => F.excBase_ValueError
theorem Bs.kf : ∀ b : Bs, PySem.W.KxsFacts b.nm b.ini
  | .lookup => PySem.W.kxs_LookupError
  | .runtime => PySem.W.kxs_RuntimeError
  | .overflow => PySem.W.kxs_OverflowError
  | .value => PySem.W.kxs_ValueError
theorem Bs.sf : ∀ b : Bs, StoreFacts b.nm b.mro "object.__setattr__" "object"
  | .lookup => F.store_LookupError
  | .runtime => F.store_RuntimeError
  | .overflow => F.store_OverflowError
  | .value => F.store_ValueError
/-- such a class: at C, over b; its __init__ at fI, the field f -/
structure XcT (K : PySem.W.Frag) (C : Addr) (b : Bs) (fI : Addr) (f : Str) : Prop where
  hi : PySem.W.findIn K (.ref C) "__init__" = some (some (.ref fI))
  q : PySem.W.excInitIn K C b.mro b.new = true
  tf : PySem.W.typeIn K (.ref fI) = some (.type "function")
  sa : PySem.W.findIn K (.ref C) "__setattr__" = some (some (.builtin "object.__setattr__"))
  ov : PySem.W.excOver K C b.mro = true
  tk : PySem.W.takerIn K C f = some none
  hd : PySem.W.hasDictIn K C = true
  kp : PySem.W.keepIn K (.ref C) = true
  sb : PySem.W.subIn K (.ref C) (.type b.nm) = some true
  exC : PySem.W.subIn K (.ref C) (.type "BaseException") = some true
  ty : PySem.W.typeIn K (.ref C) = some (.type "type")
  tp : PySem.W.nsIn K cStatics "thirdparty.any" = some none
  su : PySem.W.nsIn K mainGlobals "super" = some none
  sr : PySem.W.mroIn K C (.ref C) = some true
  si : PySem.W.ks_superIn K C C "__init__" = some (some (.builtin b.ini))
/-- the text's file -/
abbrev mainFile : Str := "/claim/cut.py"
/-- what the program is -/
class PMain (P : Program) : Prop where
  file : (P.main.file == mainFile) = true
  nosup : (P.main.scope.names.lookup ("super" : Str)).isSome = false
/-- its __init__: a function whose text is this, closed over the class -/
structure XcI (K : PySem.W.Frag) (C fI : Addr) (params : Arguments) (body : List Stmt) (scope : Scope) (qual : Str) : Prop where
  ex : ∃ (oc kV doc pm ct ccl cl : Value) (od cdd cld an : Option Addr) (osl ccs csl : Array (Option Value)) (cda cc : Addr) (vs : Array Value) (tf : Tok),
    K.lookup fI = some ⟨oc, od, .func (PySem.W.fnX "__init__" qual params body scope [("__class__", cc)] .none kV doc pm an (.ref cda) ct), osl⟩ ∧ PySem.W.codeIn K (.ref cda) qual = true ∧
    K.lookup cda = some ⟨ccl, cdd, .fields vs, ccs⟩ ∧ vs[2]? = some (.str mainFile tf) ∧ K.lookup cc = some ⟨cl, cld, .cell (some (.ref C)), csl⟩
/-- its text -/
structure XcB (params : Arguments) (body : List Stmt) (scope : Scope) (f : Str) : Prop where
  shape : ∃ (self par msg : Str) (ar : Arg) (j : Nat) (q0 q1 q2 q3 q4 q5 q6 q7 q8 q9 : Pos),
    body = [.Expr (.Call (.Attribute (.Call (.Name "super" q0) [] [] q1) "__init__" q2) [.Constant (.str msg) j q3] [] q4) q5, .Assign [.Attribute (.Name self q6) f q7] (.Name par q8) q9] ∧
    (params.posonlyargs ++ params.args).head? = some ar ∧ ar.arg = self ∧ self ≠ par ∧
    (∀ (qual : Str) (cc : Addr) (kV doc pm cdv ct : Value) (an : Option Addr) (u v : Value), bindArgs (PySem.W.fnX "__init__" qual params body scope [("__class__", cc)] .none kV doc pm an cdv ct) ⟨[u, v], []⟩ = pure [(self, u), (par, v)]) ∧
    scope.names.lookup ("super" : Str) = some .globalImplicit ∧ scope.names.lookup ("__class__" : Str) = some .free ∧ scope.names.lookup self = some .local ∧ scope.names.lookup par = some .local ∧
    (self == ("__debug__" : Str)) = false ∧ (par == ("__debug__" : Str)) = false ∧
    (∀ env : Env, ∃ pl : Sem Bool, eval (.Call (.Attribute (.Call (.Name "super" q0) [] [] q1) "__init__" q2) [.Constant (.str msg) j q3] [] q4) env = (do
      let ov ← attributeBase (.Call (.Name "super" q0) [] [] q1) "__init__" env (eval (.Call (.Name "super" q0) [] [] q1) env)
      standAt q2.atName
      let (g, first) ← holding [ov] (getMethod ov "__init__" pl)
      callWith q4 g first (backTo q4 (starEach [.Constant (.str msg) j q3] env)) [])) ∧
    (∀ env : Env, swapsWith (.Call (.Attribute (.Call (.Name "super" q0) [] [] q1) "__init__" q2) [.Constant (.str msg) j q3] [] q4) none q5.line env = pure false) ∧
    (∀ env : Env, swapsWith (.Name par q8) (some (.Attribute (.Name self q6) f q7)) q9.line env = pure false)
  kind : scope.kind = .function
  nocell : ∀ x ∈ scope.names, x.2 ≠ .cell
  noco : scope.isCoroutine = false
  nogen : scope.isGenerator = false
section
variable {prog : Program} {w : World} {A : Around} {K : PySem.W.Frag} {mg : Str → Option Value} {h0 : Heap} {C fI : Addr} {b : Bs} {f : Str} {params : Arguments} {body : List Stmt} {scope : Scope} {qual : Str}
/-- __init__ run -/
theorem run_init [hP : PMain prog] {hp : Heap} {g : Array GenState} {d : Drawn} {tk : Nat} {os : OsState} {e t : Addr} {v : Value} {R : Result → Shared → Prop} (T : XcT K C b fI f) (FI : XcI K C fI params body scope qual) (FB : XcB params body scope f) (M0 : L2.Mod K mg h0)
    (hu : A.depth < recursionLimit) (keep0 : ∀ c o, h0.get? c = some o → hp.get? c = some o) (he : hp.get? e = some (PySem.W.excObj C t none .none)) (ne : h0.get? e = none)
    (hR : ∀ dx t' h' tk' n key hsh, (∀ c o, hp.get? c = some o → c ≠ e → h'.get? c = some o) → h'.get? e = some (PySem.W.excObj C t' (some dx) .none) → h'.get? dx = some (PySem.W.dictOf [⟨hsh, .str f key, v⟩] n) → hp.objs.size ≤ dx →
      R (.ok (.ret .none)) ⟨h', g, d, tk', os⟩) :
    codeAny (model prog w) A (.call (.ref fI) ⟨[.ref e, v], []⟩) R ⟨hp, g, d, tk, os⟩ := by
  obtain ⟨oc, kV, doc, pm, ct, ccl, cl, od, cdd, cld, an, osl, ccs, csl, cda, cc, vs, tf, hf, hcd, hcda, hvs, hcc⟩ := FI.ex
  obtain ⟨self, par, msg, ar, j, q0, q1, q2, q3, q4, q5, q6, q7, q8, q9, hb, har, harg, hsp, hbind, ks, kc, k1, k2, d1, d2, hev, hsw1, hsw2⟩ := FB.shape
  have X : K.In hp := fun a o z => keep0 a o (M0.kin a o z)
  let G := PySem.W.hideAll hp [e]
  have gK : ∀ {c : Addr} {o : Obj}, h0.get? c = some o → G.get? c = some o := fun {c o} z => PySem.W.hideAll_get [e] (keep0 c o z) (fun y => by rw [List.mem_singleton.mp y, ne] at z; cases z)
  have XG : K.In G := fun a o z => gK (M0.kin a o z)
  have gz : G.objs.size = hp.objs.size := PySem.W.hideAll_size _ _
  have hfd : hp.get? fI = some ⟨oc, od, .func (PySem.W.fnX "__init__" qual params body scope [("__class__", cc)] .none kV doc pm an (.ref cda) ct), osl⟩ := X _ _ hf
  refine ks_codeAny_call_defAt (fd := PySem.W.fnX "__init__" qual params body scope [("__class__", cc)] .none kV doc pm an (.ref cda) ct) (body := body) (binds := [(self, .ref e), (par, v)]) hu hfd rfl (M0.nolimit.keeps keep0) (PySem.W.codeRec_of X hcd) rfl (.of_eq (hbind _ _ _ _ _ _ _ _ _ _)) FB.nocell (fun x hx => ?_) (fun h1 hns hk1 => ?_) FB.noco FB.nogen FB.kind
  · rcases List.mem_cons.mp hx with rfl | hx
    · exact k1
    · rw [List.mem_singleton.mp hx]; exact k2
  have hns1 : (fun x => List.lookup x [(self, Value.ref e), (par, v)].reverse) self = some (.ref e) := by
    have e1 : (self == par) = false := by simpa using hsp
    show List.lookup self [(par, v), (self, Value.ref e)] = _
    rw [List.lookup_cons, e1, List.lookup_cons, beq_self_eq_true]
  have hns2 : (fun x => List.lookup x [(self, Value.ref e), (par, v)].reverse) par = some v := by
    show List.lookup par [(par, v), (self, Value.ref e)] = _
    rw [List.lookup_cons, beq_self_eq_true]
  have F1 : Fr G hp.objs.size h1 (fun x => List.lookup x [(self, Value.ref e), (par, v)].reverse) := ⟨hns, fun c o z => hk1 c o (PySem.W.of_hideAll _ z), Nat.le_of_eq gz⟩
  have N1 : News G hp.objs.size h1 [(e, PySem.W.excObj C t none .none)] := fun p hp' => by
    rw [List.mem_singleton.mp hp']
    exact ⟨hk1 _ _ he, Nat.ne_of_lt (Heap.lt_size he), PySem.W.hideAll_none [e] List.mem_cons_self⟩
  subst hb harg
  have hk1' : ∀ c o, hp.get? c = some o → h1.get? c = some o := hk1
  obtain ⟨mb, hb1, hb2⟩ := M0.blt
  have k01 : ∀ c o, h0.get? c = some o → h1.get? c = some o := fun c o z => hk1 c o (keep0 c o z)
  have X1 : K.In h1 := fun a o z => k01 a o (M0.kin a o z)
  obtain ⟨nm, N', qn, bs, bm, hdct, sn, sub, ab, col, dd, c0, c1, c2, c3, c5, hC, hT⟩ := PySem.W.excInit_of X1 T.q
  have hmg : mg ("super" : Str) = none := PySem.W.mg_none_of M0.kin M0.glob T.su
  have hlt : hp.objs.size < h1.objs.size := hns.lt
  obtain ⟨pl, hev⟩ := hev (callEnv (PySem.W.fnX "__init__" qual params _ scope [("__class__", cc)] .none kV doc pm an (.ref cda) ct) hp.objs.size fI)
  refine ks_wpAt_execs_cons (ks_wpAt_Expr_any (ks_wpAt_MethodCall (pl := pl) ?_ hev) (by have := FB.kind; simp [interactive, callEnv, newEnv, this]) (hsw1 _))
  refine ks_wpAt_super_base (fd := PySem.W.fnX "__init__" qual params _ scope [("__class__", cc)] .none kV doc pm an (.ref cda) ct) (ar := ar) ks kc (by decide +kernel) rfl (hk1 _ _ hfd) rfl har rfl (hk1 _ _ (X _ _ hcda)) rfl hvs hP.file hP.nosup ?_
  refine PySem.W.ks_loadName_global FB.kind ks (PySem.Calls.loadGlobal_builtin (mg := mg) (mb := mb) (M0.glob.keeps k01) hmg (hb1.keeps k01) ((hb2 _ (by decide +kernel)).trans PyProof.Rows.Boot.«super») ⟨rfl, ?_⟩)
  refine wpAny_loadName_free FB.kind kc rfl ⟨_, hk1 _ _ (X _ _ hcc), rfl⟩ ?_
  refine wpAny_loadName_local FB.kind k1 hns hns1 ?_
  refine ks_wpAny_isType_cls hC rfl ⟨rfl, ?_⟩
  refine ks_wpAny_call_super hC rfl (hk1 _ _ he) rfl (fun c z => by cases z) (PySem.W.looks_mroIn X1 T.sr) (fun h2 e2 kp2 => ?_)
  obtain ⟨F2, N2, l2⟩ := PySem.W.ks_newsPush (s := ⟨h1, g, d, tk + 2, os⟩) F1 N1 rfl e2 kp2
  refine PySem.W.kxs_method (odx := none) b.kf F2 XG N2 List.mem_cons_self ⟨(N2 _ (.tail _ (.head _))).1, rfl, rfl, trivial⟩ T.tp T.si T.sb rfl (fun q h3 F3 N3 l3 => ?_)
  refine PySem.W.kxs_callWith1 N3 List.mem_cons_self ?_
  refine PySem.Calls.spliced_cons ?_
  refine PySem.Calls.Constant_str (k := j) (pos := q3) ?_
  refine PySem.Calls.spliced_nil ⟨PySem.W.kxs_at N3 List.mem_cons_self, ?_⟩
  have neq : ∀ {a1 a2 : Addr}, a1 < a2 → a2 ≠ a1 := fun z => Nat.ne_of_gt z
  have le2 := l2 _ (.head _)
  have le3 := l3 _ (.tail _ (.head _))
  have ls3 := l3 _ (.head _)
  refine PySem.W.kxs_call F3 XG N3 b.fb T.q List.mem_cons_self (.tail (neq le3) (.tail (neq le2) (.head fun p z => by cases z))) (by show 1 ≤ sizeLine; rw [sizeLine_eq]; omega) (fun t' h4 F4 N4 l4 => ?_)
  have le4 := l4 _ (.tail _ (.tail _ (.head _)))
  refine ks_wpAt_execs_cons (ks_wpAt_Assign_Attr (wpAt_of_wpAny (wpAny_Name (wpAny_loadName_local FB.kind k2 F4.ns hns2 ?_) d2)) (hsw2 _))
  refine wpAny_Name (wpAny_loadName_local FB.kind k1 F4.ns hns1 ?_) d1
  refine PySem.W.set_exc0 b.sf F4 XG N4 (.tail _ (.tail _ (.tail _ (.head _)))) T.sa T.ov T.tk T.hd rfl (.tail (neq le4) (.tail (neq le3) (.tail (neq le2) (.head fun p z => by cases z)))) (show 1 ≤ 1000 by omega) (fun dx h5 F5 N5 l5 => ?_)
  refine wpAt_of_wpAny (wpAny_execs_nil ?_)
  have ls5 : h1.objs.size < dx := l5 _ (.tail _ (.tail _ (.head _)))
  refine hR dx t' h5 _ _ _ _ (fun c o z zc => ?_) (N5 _ (.tail _ (.tail _ (.tail _ (.tail _ (.head _)))))).1 (N5 _ (.head _)).1 (by omega)
  exact F5.keep c o (PySem.W.hideAll_get [e] z fun y => zc (List.mem_singleton.mp y))
end
/-! ### the dict of an exception -/
theorem one_ns1 {h : Heap} {dx : Addr} {f : Str} {hsh : Int} {key : Tok} {v : Value} {n : Nat} (e : h.get? dx = some (PySem.W.dictOf [⟨hsh, .str f key, v⟩] n)) : h.Ns1 dx (fun y => if y = f then some v else none) := by
  refine ⟨_, _, _, e, rfl, ?_, ?_, fun name => ?_⟩
  · intro x hx
    have hx' : x = ⟨hsh, .str f key, v⟩ := by simpa using hx
    rw [hx']; exact ⟨_, _, rfl⟩
  · show List.Pairwise _ [_]
    exact List.pairwise_singleton _ _
  · by_cases h : name = f
    · subst h
      simp [nsFind, findBy, Value.isStr]
    · have h' : ¬ f = name := fun z => h z.symm
      simp [nsFind, findBy, Value.isStr, h, h']
section
variable {X : Cx} {C fI : Addr} {b : Bs} {f : Str} {params : Arguments} {body : List Stmt} {scope : Scope} {qual : Str} {x : Str} {e : Expr} {te : TE} {p pos : Pos} {k : Nat}
/-- the reading: C(e) -/
def tXc (C : Addr) (f : Str) (te : TE) : L2.St → Hp → XK → Prop := fun σ H Q => te σ H fun v H1 => ∀ dx, H1 dx = none → Q (.ref C) (some dx) (upd H1 dx (.xd [(f, v)]))
theorem pmk_fld [PMain X.prog] (T : XcT X.K C b fI f) (FI : XcI X.K C fI params body scope qual) (FB : XcB params body scope f) (hr : Room (k + 1) X.A) (hg : Gl X x) (hm : X.mg x = some (.ref C)) (he : PE X e te)
    (hdb : (x == ("__debug__" : Str)) = false := by decide) (hst : starEach [e] X.env = (false, eval e X.env) :: starEach [] X.env := by rfl) : PMk X (.Call (.Name x p) [e] [] pos) (tXc C f te) := by
  intro pins s σ H Q I h
  refine wpAny_Call_Name_kw (ld_glob I hg hm ?_ hdb)
  refine PySem.W.callWith_K (h₀ := X.base) I.ok.mod.kin T.kp ?_ hst (by rfl)
  rw [hst]
  show wpAny _ _ (spliced ((false, eval e X.env) :: backTo pos (starEach [] X.env))) _ _ s
  refine PySem.Calls.spliced_cons (thn (he.run pins s σ H _ I h) fun u s1 ⟨v, H1, I1, r1, q1⟩ => ?_)
  refine PySem.Calls.spliced_nil ⟨I1.kIn, ?_⟩
  show wpAny _ _ (call (.ref C) [u]) _ _ _
  obtain ⟨nm, N', qn, bs, bm, hdct, sn, sub, ab, col, dd, c0, c1, c2, c3, c5, hC, hT⟩ := PySem.W.excInit_of I1.kIn T.q
  obtain ⟨hp, g, d, tk, os⟩ := s1
  have kk : ∀ c o, hp.get? c = some o → ((hp.push (PySem.W.kdv_tup [u])).push (PySem.HandSPX.excO C hp.objs.size)).get? c = some o := fun c o z => Heap.get?_push_of_some _ (Heap.get?_push_of_some _ z)
  have ge : ((hp.push (PySem.W.kdv_tup [u])).push (PySem.HandSPX.excO C hp.objs.size)).get? (hp.objs.size + 1) = some (PySem.HandSPX.excO C hp.objs.size) := by heap_get
  have b0 : ∀ c o, X.base.get? c = some o → hp.get? c = some o := I1.bk
  have nb : X.base.get? (hp.objs.size + 1) = none := by
    cases z : X.base.get? (hp.objs.size + 1) with
    | none => rfl
    | some o =>
      have y : hp.objs.size + 1 < hp.objs.size := Heap.lt_size (b0 _ _ z)
      exact absurd y (by omega)
  refine wpAny_call (PySem.HandSPX.call_own b.fb hT hC (PySem.W.looks_findIn I1.kIn T.hi) (fun self => PySem.W.bind_fn I1.kIn self T.tf) (by show 1 ≤ sizeLine; rw [sizeLine_eq]; omega) ?_)
  refine run_init (h0 := X.base) (t := hp.objs.size) T FI FB I1.mod (by have := (hr.make C [u] []).dp; omega) (fun c o z => kk c o (b0 c o z)) ge nb (fun dx t' h' tk' n key hsh hkp hee hdx hsz => ?_)
  have hsz1 : ((hp.push (PySem.W.kdv_tup [u])).push (PySem.HandSPX.excO C hp.objs.size)).objs.size ≤ dx := hsz
  rw [Heap.size_push, Heap.size_push] at hsz1
  have hsz' : hp.objs.size + 2 ≤ dx := hsz1
  refine ⟨rfl, ?_⟩
  obtain ⟨G, g1, g2⟩ := restrict h' fun c => decide (c ≠ hp.objs.size + 1)
  have gk : ∀ c, c ≠ hp.objs.size + 1 → G.get? c = h'.get? c := fun c hc => g1 c (decide_eq_true hc)
  have gn : G.get? (hp.objs.size + 1) = none := g2 _ (by simp)
  have nlt : ∀ {c : Addr} {o : Obj}, hp.get? c = some o → c ≠ hp.objs.size + 1 := fun {c o} z y => by
    rw [y] at z
    exact absurd (Heap.lt_size z) (Nat.not_lt.mpr (Nat.le_succ _))
  have kG : ∀ c o, hp.get? c = some o → G.get? c = some o := fun c o z => (gk c (nlt z)).trans (hkp c o (kk c o z) (nlt z))
  have dne : dx ≠ hp.objs.size + 1 := Nat.ne_of_gt (Nat.lt_of_lt_of_le (Nat.lt_succ_self _) hsz')
  have hd1 : H1 dx = none := I1.hok.fresh (by show hp.objs.size ≤ dx; omega)
  have hn : H1 (hp.objs.size + 1) = none := I1.hok.fresh (by show hp.objs.size ≤ hp.objs.size + 1; omega)
  have J : Inv X pins σ (upd H1 dx (.xd [(f, v)])) ⟨G, g, d, tk', os⟩ := I1.laid (t' := tk') kG (by show hp.objs.size ≤ dx; omega) ⟨_, one_ns1 ((gk dx dne).trans hdx), relO_put (fs := []) (mA := fun _ => none) r1 fun _ => trivial⟩
  refine ⟨hp.objs.size + 1, _, _, ⟨G, g, d, tk', os⟩, _, .ref C, some dx, rfl, J, fun c o z => ?_, gn, hee, ⟨rfl, rfl⟩, rfl, rfl, ?_, rfl, I1.bare, raises_own T.exC T.ty, q1 dx hd1⟩
  · by_cases hc : c = hp.objs.size + 1
    · rw [hc, gn] at z; cases z
    · exact (gk c hc).symm.trans z
  · rw [upd_ne (Ne.symm dne)]; exact hn
end
/-! ### off the facts -/
theorem DfP.xcI {K : PySem.W.Frag} {d : DfP} {C : Addr} (e : fnP K (d.at_.ad K) = d.val) (hs : d.sup = true) (hn : d.name = "__init__") (c : d.ok K = true) (sb : supB K C (d.at_.ad K) = true) : XcI K C (d.at_.ad K) (defArgs d.st) (defBody d.st) (defScope d.st) d.qual := by
  obtain ⟨kp, c2⟩ := He.ba c
  unfold fnP at e
  unfold supB at sb
  cases q : K.lookup (d.at_.ad K) with
  | none => rw [q] at c2; cases c2
  | some o =>
    obtain ⟨oc, od, dt, osl⟩ := o
    rw [q] at c2 e sb
    cases dt with
    | func fd =>
      obtain ⟨n1, n2, n3, n4, n5, n6, n7, n8, n9, n10, n11, n12, n13, n14, n15⟩ := fd
      have e2 : (some (n1, n2, n3, n4, n5, n6, n7.map fun c => (c.1, 0), n15) : He.FnW) = some (d.name, d.qual, defArgs d.st, .stmts (defBody d.st), defScope d.st, mainGlobals, (if d.sup then [(("__class__" : Str), (0 : Addr))] else []), builtinsNs) := e
      rw [hs, if_pos rfl, hn] at e2
      simp only [Option.some.injEq, Prod.mk.injEq] at e2
      obtain ⟨h1, h2, h3, h4, h5, h6, h7, h8⟩ := e2
      subst h1 h2 h3 h4 h5 h6 h8
      have c3 : (PySem.W.codeIn K n13 d.qual && isNone n8) = true := c2
      obtain ⟨k1, k2⟩ := He.ba c3
      have e8 : n8 = .none := by cases n8 <;> first | rfl | cases k2
      subst e8
      match n7, h7 with
      | [(y, cc)], h7 =>
        have ey : y = "__class__" := by
          have := congrArg (fun l : List (Str × Addr) => l.head?) h7
          simpa using this
        subst ey
        obtain ⟨s1, s2⟩ := He.ba sb
        dsimp only at s1 s2
        cases qc : K.lookup cc with
        | none => rw [qc] at s1; cases s1
        | some oc2 =>
          obtain ⟨cl, cld, cdt, csl⟩ := oc2
          rw [qc] at s1
          cases cdt with
          | cell v =>
            cases v with
            | none => cases s1
            | some v =>
              cases v with
              | ref c =>
                have ec : c = C := of_decide_eq_true s1
                subst ec
                cases n13 with
                | ref cda =>
                  dsimp only at s2
                  cases qd : K.lookup cda with
                  | none => rw [qd] at s2; cases s2
                  | some od2 =>
                    obtain ⟨ccl, cdd, ddt, ccs⟩ := od2
                    rw [qd] at s2
                    cases ddt with
                    | fields vs =>
                      dsimp only at s2
                      cases qv : vs[2]? with
                      | none => rw [qv] at s2; cases s2
                      | some v2 =>
                        rw [qv] at s2
                        cases v2 with
                        | str n tf =>
                          have en : n = "/claim/cut.py" := of_decide_eq_true s2
                          subst en
                          exact ⟨oc, n9, n10, n11, n14, ccl, cl, od, cdd, cld, n12, osl, ccs, csl, cda, cc, vs, tf, q, k1, qd, qv, qc⟩
                        | _ => cases s2
                    | _ => cases s2
                | _ => cases s2
              | _ => cases s1
          | _ => cases s1
    | _ => cases c2
theorem exi_ok {K : PySem.W.Frag} {C : Addr} {f : Str} {b : Bs} (h : exiB K C f b = true) (hb : exbB K C = true) : XcT K C b (He.ma K C "__init__") f ∧ supB K C (He.ma K C "__init__") = true := by
  obtain ⟨h1, h⟩ := He.ba h
  obtain ⟨h2, h⟩ := He.ba h
  obtain ⟨h3, h⟩ := He.ba h
  obtain ⟨h4, h⟩ := He.ba h
  obtain ⟨h5, h⟩ := He.ba h
  obtain ⟨h6, h⟩ := He.ba h
  obtain ⟨h7, h⟩ := He.ba h
  obtain ⟨h8, h⟩ := He.ba h
  obtain ⟨h9, h⟩ := He.ba h
  obtain ⟨h10, h⟩ := He.ba h
  obtain ⟨h11, h12⟩ := He.ba h
  obtain ⟨g1, hb⟩ := He.ba hb
  obtain ⟨g2, hb⟩ := He.ba hb
  obtain ⟨g3, hb⟩ := He.ba hb
  obtain ⟨g4, hb⟩ := He.ba hb
  obtain ⟨g5, hb⟩ := He.ba hb
  obtain ⟨g6, hb⟩ := He.ba hb
  obtain ⟨g7, hb⟩ := He.ba hb
  obtain ⟨g8, hb⟩ := He.ba hb
  obtain ⟨g9, g10⟩ := He.ba hb
  exact ⟨⟨He.eqO_ok h1, h2, of_decide_eq_true h3, He.eqO_ok h4, h5, He.eqO_ok h6, g4, g10, of_decide_eq_true h7, of_decide_eq_true g3, of_decide_eq_true g9, He.eqO_ok h8, He.eqO_ok h9, of_decide_eq_true h10, He.eqO_ok h11⟩, h12⟩
/-- a class of exceptions, caught -/
structure ExK (K : PySem.W.Frag) (c : Str) : Prop where
  ec : ExcC K (He.ga K c)
  ty : PySem.W.typeIn K (.ref (He.ga K c)) = some (.type "type")
  kp : PySem.W.keepIn K (.ref (He.ga K c)) = true
theorem exb_ok {K : PySem.W.Frag} {c : Str} (hb : exbB K (He.ga K c) = true) : ExK K c := by
  obtain ⟨g1, hb⟩ := He.ba hb
  obtain ⟨g2, hb⟩ := He.ba hb
  obtain ⟨g3, hb⟩ := He.ba hb
  obtain ⟨g4, hb⟩ := He.ba hb
  obtain ⟨g5, hb⟩ := He.ba hb
  obtain ⟨g6, hb⟩ := He.ba hb
  obtain ⟨g7, hb⟩ := He.ba hb
  obtain ⟨g8, hb⟩ := He.ba hb
  obtain ⟨g9, g10⟩ := He.ba hb
  exact ⟨⟨He.eqO_ok g1, He.eqO_ok g2, of_decide_eq_true g3, g4, He.eqO_ok g5, He.eqO_ok g6, of_decide_eq_true g7, of_decide_eq_true g8⟩, of_decide_eq_true g9, g10⟩
theorem ExK.xf {K : PySem.W.Frag} {c : Str} (h : ExK K c) : XfC K (He.ga K c) := ⟨h.ec.hg, h.ec.hk, h.ec.hs, h.ec.hd⟩
section
variable {fc : List Fc} {ds : List DfP} {K : PySem.W.Frag} {mg : Str → Option Value}
theorem Tx.exb (T : Tx fc ds K mg) (i : Nat) {c : Str} (h : fc[i]? = some (.exb c) := by rfl) : ExK K c := exb_ok (T.fact i h)
theorem Tx.exf (T : Tx fc ds K mg) (i : Nat) {c f : Str} (h : fc[i]? = some (.exf c f) := by rfl) : PySem.W.findIn K (.ref (He.ga K c)) f = some none := He.eqO_ok (T.fact i h)
theorem Tx.exs (T : Tx fc ds K mg) (i : Nat) {c d : Str} {b : Bool} (h : fc[i]? = some (.exs c d b) := by rfl) : PySem.W.exmOne K (.ref (He.ga K c)) (.ref (He.ga K d)) = some b := of_decide_eq_true (T.fact i h)
theorem Tx.exo (T : Tx fc ds K mg) (i : Nat) {c : Str} {b : Bs} (h : fc[i]? = some (.exo c b) := by rfl) : PySem.W.excIn K (He.ga K c) b.mro b.new = true := T.fact i h
/-- made with a field -/
structure XfM (K : PySem.W.Frag) (c : Str) (b : Bs) (f qual : Str) (st : Stmt) : Prop where
  t : XcT K (He.ga K c) b (He.ma K (He.ga K c) "__init__") f
  i : XcI K (He.ga K c) (He.ma K (He.ga K c) "__init__") (defArgs st) (defBody st) (defScope st) qual
theorem Tx.exi (T : Tx fc ds K mg) (i j k : Nat) {c f qual : Str} {b : Bs} {st : Stmt} (h : fc[i]? = some (.exi c f b) := by rfl) (hb : fc[j]? = some (.exb c) := by rfl) (hd : ds[k]? = some ⟨.m c "__init__", "__init__", qual, st, true⟩ := by rfl) : XfM K c b f qual st := by
  obtain ⟨t, sb⟩ := exi_ok (T.fact i h) (T.fact j hb)
  refine ⟨t, ?_⟩
  have c2 := (He.ba (show ((fc.all fun f => f.ok K) && ds.all fun d => d.ok K) = true from congrArg (fun z : AlP => z.1) T.says)).2
  have e : ds.map (fun d => fnP K (d.at_.ad K)) = ds.map DfP.val := congrArg (fun z : AlP => z.2) T.says
  have e2 : (ds.map fun d => fnP K (d.at_.ad K))[k]? = (ds.map DfP.val)[k]? := by rw [e]
  rw [List.getElem?_map, List.getElem?_map, hd] at e2
  exact DfP.xcI (d := ⟨.m c "__init__", "__init__", qual, st, true⟩) (Option.some.inj e2) rfl rfl (List.all_eq_true.mp c2 _ (List.mem_of_getElem? hd)) sb
end
end Fw

set_option maxHeartbeats 4000000
/-! try with several clauses, named or not; calls whose exceptions are wished for at the slots. -/
namespace Fw
open PySem PySem.Spec PyProof.Rows L2
/-- a clause: the class it names, its name's slot, its suite -/
structure Hd where
  c : Value
  n : Option Nat
  ts : Addr → Value → Option Addr → TS
/-- behind a named suite the name is gone -/
def endsN (D : Ends) (i : Nat) : Ends := { nx := fun σ H => D.nx (σ.set i none) H, rt := D.rt, bk := fun σ H => D.bk (σ.set i none) H, ct := fun σ H => D.ct (σ.set i none) H }
def Hd.go (h : Hd) (D : Ends) (a : Addr) (cls : Value) (d : Option Addr) (σ : L2.St) (H : Hp) : Prop := match h.n with
  | none => h.ts a cls d D σ H
  | some i => h.ts a cls d (endsN D i) (σ.set i (some (.ref a))) H
/-- the clauses, one behind another -/
def wHd (K : PySem.W.Frag) (Wout : WX) (D : Ends) : List Hd → WX
  | [] => Wout
  | h :: r => fun cls d σ H => ∃ b, PySem.W.exmOne K cls h.c = some b ∧ (b = true → ∀ a, H a = none → h.go D a cls d σ H) ∧ (b = false → wHd K Wout D r cls d σ H)
/-- the text of the clauses -/
abbrev SuOk (X : Cx) (b₀ : Stmt) (suite : List Stmt) (ts : Addr → Value → Option Addr → TS) : Prop :=
  ∀ (a : Addr) (oe : Obj) (cls : Value) (d : Option Addr) (pn : List (Addr × Obj)), Zc cls d oe → (∃ vs, oe.data = .fields vs) → PSs (X.suite a ((a, oe) :: pn)) (b₀ :: suite) (ts a cls d)
inductive HdsX (X : Cx) : List ExceptHandler → List Hd → Prop
  | nil : HdsX X [] []
  | plain {x : Str} {c : Value} {ts : Addr → Value → Option Addr → TS} {b₀ : Stmt} {suite : List Stmt} {np p : Pos} {hds : List ExceptHandler} {l : List Hd} (hc : Names X x c) (su : SuOk X b₀ suite ts) (r : HdsX X hds l) :
      HdsX X (.ExceptHandler (some (.Name x np)) none (b₀ :: suite) p :: hds) (⟨c, none, ts⟩ :: l)
  | named {x n : Str} {i : Nat} {c : Value} {ts : Addr → Value → Option Addr → TS} {b₀ : Stmt} {suite : List Stmt} {np p : Pos} {hds : List ExceptHandler} {l : List Hd} (hc : Names X x c) (hN : X.N.Nodup) (hi : X.N[i]? = some n) (hl : X.env.kindOf n = some .local) (su : SuOk X b₀ suite ts) (r : HdsX X hds l) :
      HdsX X (.ExceptHandler (some (.Name x np)) (some n) (b₀ :: suite) p :: hds) (⟨c, some i, ts⟩ :: l)
section
variable {X : Cx} {pins : List (Addr × Obj)} {a : Addr} {B : Heap} {cls : Value} {d : Option Addr} {D : Ends} {Wout : WX} {σ : L2.St} {H : Hp}
/-- an exception that lies on the ground: what is said of it -/
structure Down (X : Cx) (pins : List (Addr × Obj)) (B : Heap) (a : Addr) (cls : Value) (d : Option Addr) (σ : L2.St) (H : Hp) (sI : Shared) (s : Shared) : Prop where
  fl : HandSPX.FlyingZ B (X.env :: X.outer) a (Zc cls d) s.heap
  up : sI.heap.UpToSlots s.heap
  inv : Inv X pins σ H sI
  nb : ∀ b o, sI.heap.get? b = some o → b ∉ frs X.stack → B.get? b = some o
  na : H a = none
  os : s.os = sI.os
  ag : AllBare s.gens
/-- .. then our invariant holds, and a stands apart -/
theorem Down.here {sI s : Shared} (hf : X.env.frame = some X.env.locals) (w : Down X pins B a cls d σ H sI s) : Inv X pins σ H s ∧ ∃ oe vs, s.heap.get? a = some oe ∧ Zc cls d oe ∧ oe.data = .fields vs ∧ a ≠ X.env.locals ∧ a ∉ X.fs := by
  have J : Inv X pins σ H { s with heap := s.heap } := w.inv.landed w.nb w.fl.1 w.up w.os w.ag
  obtain ⟨oe, vs, he, hz, hd⟩ := w.fl.there
  have nf : a ∉ frs (X.env :: X.outer) := fun hm => by
    obtain ⟨_, o, e, q⟩ := w.fl.2.2.1.mem hm
    rw [he] at e
    cases e
    exact q _ hd
  refine ⟨J, oe, vs, he, hz, hd, fun z => nf (List.mem_filterMap.mpr ⟨X.env, .head _, ?_⟩), fun z => nf ?_⟩
  · rw [hf, z]
  · obtain ⟨e, m, q⟩ := List.mem_filterMap.mp z
    exact List.mem_filterMap.mpr ⟨e, .tail _ m, q⟩
/-- the class of a clause, read -/
theorem names_read {M : Type} {x : Str} {c : Value} {np : Pos} {oe : Obj} {vs : Array Value} {s : Shared} {Q : Value → Shared → Prop} {E : Value → Shared → Prop} (hc : Names X x c) (J : Inv X pins σ H s) (he : s.heap.get? a = some oe) (hd : oe.data = .fields vs) (na : H a = none) (nL : a ≠ X.env.locals) (nF : a ∉ X.fs)
    (q : Q c s) : wpAny (model X.prog X.w) (X.A.mark (some (.ref a))) (eval (.Name x np) X.env) Q E s := by
  have S := J.suite he hd na nL nF
  obtain ⟨hg, hdb, h⟩ := hc
  rcases h with h | ⟨h1, h2, h3⟩
  · exact ld_glob (X := X.suite a ((a, oe) :: (X.pn ++ pins))) S hg h q hdb
  · exact ld_blt (X := X.suite a ((a, oe) :: (X.pn ++ pins))) S hg h1 h2 q h3 hdb
/-- the ends of a suite -/
theorem sp_unsuite {q : Addr × Obj} {f : Flow} {s : Shared} (ok : X.Ok) (h : SP (X.suite a (q :: (X.pn ++ pins))) [] D f s) : SP X pins D f s := by
  cases f with
  | next => obtain ⟨σ', H', S, w⟩ := h; exact ⟨σ', H', S.unsuite ok, w⟩
  | brk => obtain ⟨σ', H', S, w⟩ := h; exact ⟨σ', H', S.unsuite ok, w⟩
  | cont => obtain ⟨σ', H', S, w⟩ := h; exact ⟨σ', H', S.unsuite ok, w⟩
  | ret u => obtain ⟨v, σ', H', S, r, w⟩ := h; exact ⟨v, σ', H', S.unsuite ok, r, w⟩
/-- the clauses, run -/
theorem hds_run (hs : X.stack = X.env :: X.outer) (hf : X.env.frame = some X.env.locals) (tk : Takes X Wout) : ∀ {hds : List ExceptHandler} {l : List Hd} {sI s : Shared}, HdsX X hds l → Down X pins B a cls d σ H sI s → wHd X.K Wout D l cls d σ H →
    wpAny (model X.prog X.w) X.A (handleBy (.ref a) X.env hds) (SP X pins D) X.xe s := by
  intro hds l sI s hh
  induction hh with
  | nil =>
    intro w q
    obtain ⟨_, _, _, oe, vs, T, _, _, he, _, hd, h1, _⟩ := id w.fl
    refine wpAny_handleBy_nil ?_
    have go : wpAny (model X.prog X.w) X.A (setFlight (.ref a) X.env.frame) (fun _ s4 => wpAny (model X.prog X.w) X.A (throw (.ref a) : Sem Flow) (SP X pins D) X.xe s4) X.xe s := by
      rw [hf]
      refine HandSPX.setFlight_upZ w.fl fun h4 held up4 => wpAny_throw (tk _ _ ⟨a, B, sI, pins, σ, H, cls, d, rfl, w.inv, w.nb, w.up.trans up4, ?_, w.na, w.os, w.ag, q⟩)
      rw [hs]
      exact .inr (.inr held)
    unfold PySem.passOn
    refine wpAny_bind (wpAny_field he hd h1 ?_)
    rw [if_neg (show ¬ ((Value.ref T == Value.none) = true) by simp)]
    first
      | exact wpAny_bind (wpAny_pure (wpAny_bind go))
      | exact wpAny_bind go
  | @plain x c ts b₀ suite np p hds l hc su r ih =>
    intro w q
    obtain ⟨b, eb, yes, no⟩ := q
    obtain ⟨J, oe, vs, he, hz, hd, nL, nF⟩ := w.here hf
    refine wpAny_handleBy_cons (codeAny_handlers_test ?_) (fun z => nomatch z)
    refine names_read (M := Unit) hc J he hd w.na nL nF ?_
    have LT : PySem.W.Looks (model X.prog X.w) s.heap (typeOf (.ref a)) cls := fun _ _ _ _ k y => wpAny_typeOf_ref (k _ _ he) (by rw [hz.1]; exact y)
    refine (PySem.W.exm_one J.kIn LT eb).here ?_
    cases b with
    | false => exact ih w (no rfl)
    | true =>
      refine codeAny_handlers_suite (HandSPX.lands_againZ w.fl fun h4 fl4 up4 => ?_)
      have w4 : Down X pins B a cls d σ H sI { s with heap := h4 } := ⟨fl4, w.up.trans up4, w.inv, w.nb, w.na, w.os, w.ag⟩
      obtain ⟨J4, oe4, vs4, he4, hz4, hd4, _, _⟩ := w4.here hf
      exact wpAny_mono ((su a oe4 cls d (X.pn ++ pins) hz4 ⟨_, hd4⟩).run [] _ _ _ _ (J4.suite he4 hd4 w.na nL nF) (yes rfl a w.na)) (fun f s6 y => by
        have y' := sp_unsuite w.inv.ok y
        cases f <;> exact y') fun _ _ z => z.elim
  | @named x n i c ts b₀ suite np p hds l hc hN hi hl su r ih =>
    intro w q
    obtain ⟨b, eb, yes, no⟩ := q
    obtain ⟨J, oe, vs, he, hz, hd, nL, nF⟩ := w.here hf
    refine wpAny_handleBy_cons (codeAny_handlers_test ?_) (fun z => nomatch z)
    refine names_read (M := Unit) hc J he hd w.na nL nF ?_
    have LT : PySem.W.Looks (model X.prog X.w) s.heap (typeOf (.ref a)) cls := fun _ _ _ _ k y => wpAny_typeOf_ref (k _ _ he) (by rw [hz.1]; exact y)
    refine (PySem.W.exm_one J.kIn LT eb).here ?_
    cases b with
    | false => exact ih w (no rfl)
    | true =>
      refine codeAny_handlers_suite_as (HandSPX.lands_againZ w.fl fun h4 fl4 up4 => ?_)
      have w4 : Down X pins B a cls d σ H sI { s with heap := h4 } := ⟨fl4, w.up.trans up4, w.inv, w.nb, w.na, w.os, w.ag⟩
      obtain ⟨J4, oe4, vs4, he4, hz4, hd4, _, _⟩ := w4.here hf
      refine store_ok (X := X.suite a ((a, oe4) :: (X.pn ++ pins))) (v := .ref a) (J4.suite he4 hd4 w.na nL nF) hN hi (.inl hl) rfl (fun s5 S5 => ?_) (.inr hl)
      refine wpAny_mono ((su a oe4 cls d (X.pn ++ pins) hz4 ⟨_, hd4⟩).run [] s5 _ _ (endsN D i) S5 (yes rfl a w.na)) (fun f s6 y => ?_) fun _ _ z => z.elim
      have y' : SP X pins (endsN D i) f s6 := sp_unsuite w.inv.ok y
      cases f with
      | next => obtain ⟨σ6, H6, J6, z⟩ := y'; exact gone_ok J6 hN hi hl fun s7 J7 => ⟨_, _, J7, z⟩
      | brk => obtain ⟨σ6, H6, J6, z⟩ := y'; exact gone_ok J6 hN hi hl fun s7 J7 => ⟨_, _, J7, z⟩
      | cont => obtain ⟨σ6, H6, J6, z⟩ := y'; exact gone_ok J6 hN hi hl fun s7 J7 => ⟨_, _, J7, z⟩
      | ret u => obtain ⟨v6, σ6, H6, J6, r6, z⟩ := y'; exact gone_ok J6 hN hi hl fun s7 J7 => ⟨_, _, _, J7, r6, z⟩
end
section
variable {X : Cx} {body : List Stmt} {h₀ : ExceptHandler} {hds : List ExceptHandler} {l : List Hd} {pos : Pos} {tb : WX → TS} {Wout : WX}
/-- THE RULE: try: body, except ..: .. -/
theorem ps_tryX (hs : X.stack = X.env :: X.outer) (hf : X.env.frame = some X.env.locals) (tk : Takes X Wout)
    (hb : ∀ (W : WX) (pn : List (Addr × Obj)) (xe : Value → Shared → Prop), Takes (X.tr pn xe) W → PassesOwn (model X.prog X.w) X.A X.env xe → PSs (X.tr pn xe) body (tb W))
    (hh : HdsX X (h₀ :: hds) l) : PS X (.Try body (h₀ :: hds) [] [] pos) (fun D σ H => tb (wHd X.K Wout D l) D σ H) := by
  refine ⟨fun pins s σ H D I h => wpAny_Try_except ?_⟩
  have ok := I.ok
  have frms : X.A.frames = some (X.env :: X.outer) := by rw [ok.frames, hs]
  have body_ := (hb (wHd X.K Wout D l) (X.pn ++ pins) (fun e s₁ => wpAny (model X.prog X.w) X.A (noteFrame e X.env) (fun _ s₂ => wpAny (model X.prog X.w) X.A (setFlight e none) (fun _ s₃ =>
    wpAny (model X.prog X.w) X.A (handleBy e X.env (h₀ :: hds)) (SP X pins D) X.xe s₃) X.xe s₂) X.xe s₁) (fun u s' ⟨a, B, sI, pins', σ', H', cls, d, eu, J', nb, up, sky, na, os, ag, q⟩ => by
      subst eu
      have sky' : Sky B (X.env :: X.outer) a (Zc cls d) X.env.locals s'.heap := hs ▸ sky
      show wpAny (model X.prog X.w) X.A (noteFrame (.ref a) X.env) _ _ _
      exact Sky.land Zc.steady frms hf sky' fun h3 fl3 up3 => hds_run hs hf tk hh ⟨fl3, up.trans up3, J'.ofTry ok, nb, na, os, ag⟩ q) PassesOwn.looking).run [] s σ H D (I.toTry _) h
  refine wpAny_mono body_ (fun f s1 y => ?_) fun _ _ z => z
  cases f with
  | next => obtain ⟨σ', H', J, z⟩ := y; exact wpAny_execs_nil ⟨σ', H', J.ofTry ok, z⟩
  | brk => obtain ⟨σ', H', J, z⟩ := y; exact ⟨σ', H', J.ofTry ok, z⟩
  | cont => obtain ⟨σ', H', J, z⟩ := y; exact ⟨σ', H', J.ofTry ok, z⟩
  | ret u => obtain ⟨v, σ', H', J, r, z⟩ := y; exact ⟨v, σ', H', J.ofTry ok, r, z⟩
end
end Fw

set_option maxHeartbeats 4000000
/-! raise and try, by data. -/
namespace Fw
open PySem PySem.Spec PyProof.Rows L2
/-! ### calls at the slots -/
/-- an expression whose exceptions are wished for at the slots where it stands -/
def tAt (te : XK → TE) (W : WX) : TE := fun σ H Q => te (WE W σ) σ H Q
section
variable {X : Cx} {CX : CXT} {k j : Nat} {f C : Addr} {fd : FuncData} {ps : List Str} {sp : Sp} {E : XK} {W : WX} {x m : Str} {p pp pos apos : Pos} {e o : Expr} {es : List Expr} {ta : TE} {t : TA} {pins : List (Addr × Obj)} {σ : L2.St} {H : Hp} {s : Shared} {Q : VK} {us : List Value} {vs : List V}
theorem FnG.goAt (G : FnG X.prog X.w X.K X.mg X.base CX k f fd ps sp) (hr : RoomG k X.A) (hb : Binds X.K fd ps []) (hx : PassesAt CX X σ E) (I : Inv X pins σ H s) (r : Vals vs us) (h : sp (vs ++ []) H Q E) : wpAny (model X.prog X.w) X.A (call (.ref f) us) (EP X pins σ Q) X.xe s := by
  rw [List.append_nil] at h
  have b0 := hb s us I.kIn (by rw [List.append_nil, ← r.length]; exact G.len _ _ _ _ h)
  rw [List.append_nil] at b0
  refine wpAny_call (codeAny_mono (G.run X.A X.stack s H ⟨us, []⟩ us vs Q E hr I.env0 b0 r h) fun res st hq => ?_)
  match res, hq with
  | .ok (.ret _), hq => exact I.after hq
  | .error er, hq => exact hx pins H s er st I hq
theorem q_callW (F : Ok X.prog X.w X.K X.mg X.base k f ps sp) (hr : RoomG j X.A) (tk : Takes X W) (hm : X.mg x = some (.ref f)) (ha : PA X (e :: es) t) (hj : k ≤ j := by first | decide | omega) (hg : Gl X x := by rfl) (hdb : (x == ("__debug__" : Str)) = false := by decide)
    (he : starEach (e :: es) X.env = (false, eval e X.env) :: starEach es X.env := by rfl) (hpl : (backTo pos (starEach es X.env)).any (·.1) = false := by rfl) : PE X (.Call (.Name x pp) (e :: es) [] pos) (tAt (fun E => tCall sp [] E t) W) := by
  obtain ⟨fd, G, B⟩ := F.ex
  exact ⟨fun pins s σ H Q I h => wpAny_Call_Name_kw (ld_glob I hg hm (PySem.W.callWith_K (h₀ := X.base) I.ok.mod.kin F.kp (thn (ha.run pos pins s σ H _ I h) fun us s1 ⟨vs, H1, I1, r, q⟩ => ⟨I1.kIn, G.goAt (hr.mono hj) B (passAt tk σ) I1 r q⟩) he hpl) hdb)⟩
theorem q_methW {pl : Sem Bool} (F : Ok X.prog X.w X.K X.mg X.base k f ps sp) (he : PE X o ta) (c : Cls X.K C) (hm : Meth X.K C m f) (hr : RoomG j X.A) (tk : Takes X W) (ha : PA X (e :: es) t) (hj : k ≤ j := by first | decide | omega)
    (hst : starEach (e :: es) X.env = (false, eval e X.env) :: starEach es X.env := by rfl) (hpl : (backTo pos (starEach es X.env)).any (·.1) = false := by rfl)
    (ht : eval (.Call (.Attribute o m apos) (e :: es) [] pos) X.env = (do
      let ov ← eval o X.env
      standAt apos.atName
      let (f, first) ← holding [ov] (getMethod ov m pl)
      callWith pos f first (backTo pos (starEach (e :: es) X.env)) (backToKw pos (keywordEach [] X.env))) := by rfl) :
    PE X (.Call (.Attribute o m apos) (e :: es) [] pos) (tAt (fun E => tMeth C m sp [] E ta t) W) := by
  obtain ⟨fd, G, B⟩ := F.ex
  exact ⟨fun pins s σ H Q I h => PySem.W.methodCall_KW (pl := pl) (thn (he.run pins s σ H _ I h) fun u s1 ⟨y, H1, I1, ry, a, dx, fs, ey, ea, l, q⟩ => by
    subst ey
    cases ry
    exact getmeth_ok I1 ea c hm l (PySem.W.callWith_K (first := [.ref a]) (h₀ := X.base) I.ok.mod.kin hm.kp (thn (ha.run pos pins s1 σ H1 _ I1 q) fun us s2 ⟨vs, H2, I2, r, q2⟩ => ⟨I2.kIn, G.goAt (us := .ref a :: us) (vs := .ref a :: vs) (hr.mono hj) B (passAt tk σ) I2 (.cons rfl r) q2⟩) hst hpl)) ht⟩
theorem q_meth0W {pl : Sem Bool} (F : Ok X.prog X.w X.K X.mg X.base k f ps sp) (he : PE X o ta) (c : Cls X.K C) (hm : Meth X.K C m f) (hr : RoomG j X.A) (tk : Takes X W) (hj : k ≤ j := by first | decide | omega)
    (ht : eval (.Call (.Attribute o m apos) [] [] pos) X.env = (do
      let ov ← eval o X.env
      standAt apos.atName
      let (f, first) ← holding [ov] (getMethod ov m pl)
      callWith pos f first (backTo pos (starEach [] X.env)) (backToKw pos (keywordEach [] X.env))) := by rfl) :
    PE X (.Call (.Attribute o m apos) [] [] pos) (tAt (fun E => tMeth C m sp [] E ta tNil) W) := by
  obtain ⟨fd, G, B⟩ := F.ex
  exact ⟨fun pins s σ H Q I h => PySem.W.methodCall_KW (pl := pl) (thn (he.run pins s σ H _ I h) fun u s1 ⟨y, H1, I1, ry, a, dx, fs, ey, ea, l, q⟩ => by
    subst ey
    cases ry
    exact getmeth_ok I1 ea c hm l (PySem.W.callWith_K0 (first := [.ref a]) I1.kIn hm.kp (G.goAt (us := [.ref a]) (vs := [.ref a]) (hr.mono hj) B (passAt tk σ) I1 (.cons rfl .nil) q))) ht⟩
/-- a call that may let an exception through, in a def's own context -/
theorem q_methE {pl : Sem Bool} (F : Ok X.prog X.w X.K X.mg X.base k f ps sp) (he : PE X o ta) (c : Cls X.K C) (hm : Meth X.K C m f) (hr : RoomG j X.A) (hp : Passes (L2.CX X.prog X.w) X E) (ha : PA X (e :: es) t) (hj : k ≤ j := by first | decide | omega)
    (hst : starEach (e :: es) X.env = (false, eval e X.env) :: starEach es X.env := by rfl) (hpl : (backTo pos (starEach es X.env)).any (·.1) = false := by rfl)
    (ht : eval (.Call (.Attribute o m apos) (e :: es) [] pos) X.env = (do
      let ov ← eval o X.env
      standAt apos.atName
      let (f, first) ← holding [ov] (getMethod ov m pl)
      callWith pos f first (backTo pos (starEach (e :: es) X.env)) (backToKw pos (keywordEach [] X.env))) := by rfl) :
    PE X (.Call (.Attribute o m apos) (e :: es) [] pos) (tMeth C m sp [] E ta t) := by
  obtain ⟨fd, F1, B⟩ := F.ex
  exact g_meth he c hm F1 (hr.mono hj) B hp ha hst hpl ht
theorem q_meth0E {pl : Sem Bool} (F : Ok X.prog X.w X.K X.mg X.base k f ps sp) (he : PE X o ta) (c : Cls X.K C) (hm : Meth X.K C m f) (hr : RoomG j X.A) (hp : Passes (L2.CX X.prog X.w) X E) (hj : k ≤ j := by first | decide | omega)
    (ht : eval (.Call (.Attribute o m apos) [] [] pos) X.env = (do
      let ov ← eval o X.env
      standAt apos.atName
      let (f, first) ← holding [ov] (getMethod ov m pl)
      callWith pos f first (backTo pos (starEach [] X.env)) (backToKw pos (keywordEach [] X.env))) := by rfl) :
    PE X (.Call (.Attribute o m apos) [] [] pos) (tMeth C m sp [] E ta tNil) := by
  obtain ⟨fd, F1, B⟩ := F.ex
  exact g_meth0 he c hm F1 (hr.mono hj) B hp ht
end
/-- a def's own wish -/
theorem takesE {P : Program} {w : World} {K : PySem.W.Frag} {mg : Str → Option Value} {base : Heap} {N : List Str} {qual : Str} {scope : Scope} {f : Addr} {cd : Value} {A : Around} {outer : List Env} {s : Shared} {H : Hp} {E : XK} : Takes (cxOf (L2.CX P w) P w K mg base N qual scope f cd A outer s H E) (fun c d _ H => E c d H) := takes_of rfl rfl rfl rfl
theorem passesE {P : Program} {w : World} {K : PySem.W.Frag} {mg : Str → Option Value} {base : Heap} {N : List Str} {qual : Str} {scope : Scope} {f : Addr} {cd : Value} {A : Around} {outer : List Env} {s : Shared} {H : Hp} {E : XK} : Passes (L2.CX P w) (cxOf (L2.CX P w) P w K mg base N qual scope f cd A outer s H E) E := passes_call takesE fun _ _ _ _ h => h
/-! ### raise -/
section
variable {K : PySem.W.Frag} {E : XK} {G : Gm} {O : OL} {ke : Xd → Prop} {kn : Gm → OL → Prop} {kr : D → Prop}
def tRaiseX (E : XK) (C : Addr) (f : Str) (te : TE) : TS := fun _ σ H => tXc C f te σ H fun cls d H' => E cls d H'
theorem ds_raiseX {c f : Str} {te : TE} (h : DT K E te G O (fun d => ke ⟨c, some (f, d)⟩) ke) : DS K E (tRaiseX E (He.ga K c) f te) G O kn kr ke := fun S0 H0 Os σ H Ds fr st hn hr he =>
  h.at_ fr st he fun v H1 d kd s f1 st1 r dx hdx => he (.ref (He.ga K c)) (some dx) _ ⟨c, some (f, d)⟩ kd (f1.same.trans (Same.put hdx)) ⟨rfl, dx, v, rfl, fun z => st1.dom dx z hdx, upd_same, Rep.same (Rep.weak (fun a z => .inl z) r) (Same.put hdx)⟩
def tRaise0 (E : XK) (C : Addr) : TS := fun _ σ H => E (.ref C) none H
theorem ds_raise0 {c : Str} (h : ke ⟨c, none⟩) : DS K E (tRaise0 E (He.ga K c)) G O kn kr ke := fun S0 H0 Os σ H Ds fr st hn hr he => he (.ref (He.ga K c)) none _ ⟨c, none⟩ h fr.same ⟨rfl, rfl⟩
end
section
variable {P : Program} {w : World} {K : PySem.W.Frag} {mg : Str → Option Value} {base : Heap} {N : List Str} {qual : Str} {scope : Scope} {f : Addr} {cd : Value} {A : Around} {outer : List Env} {s : Shared} {H : Hp} {E : XK} {c fl q x : Str} {b : Bs} {st : Stmt} {j : Nat} {e : Expr} {te : TE} {p pos pos2 : Pos}
theorem z_raiseX [PMain P] (M : XfM K c b fl q st) (FB : XcB (defArgs st) (defBody st) (defScope st) fl) (hr : RoomG (j + 1) (A.deeper (envOfC qual scope s.heap.objs.size f cd))) (hm : mg c = some (.ref (He.ga K c))) (he : PE (cxOf (L2.CX P w) P w K mg base N qual scope f cd A outer s H E) e te)
    (hg : Gl (cxOf (L2.CX P w) P w K mg base N qual scope f cd A outer s H E) c := by rfl) (hdb : (c == ("__debug__" : Str)) = false := by decide)
    (hst : starEach [e] (cxOf (L2.CX P w) P w K mg base N qual scope f cd A outer s H E).env = (false, eval e (cxOf (L2.CX P w) P w K mg base N qual scope f cd A outer s H E).env) :: starEach [] (cxOf (L2.CX P w) P w K mg base N qual scope f cd A outer s H E).env := by rfl) :
    PS (cxOf (L2.CX P w) P w K mg base N qual scope f cd A outer s H E) (.Raise (some (.Call (.Name c p) [e] [] pos)) none pos2) (tRaiseX E (He.ga K c) fl te) :=
  haveI : PMain (cxOf (L2.CX P w) P w K mg base N qual scope f cd A outer s H E).prog := ‹PMain P›
  ps_raise rfl takesE (pmk_fld (X := cxOf (L2.CX P w) P w K mg base N qual scope f cd A outer s H E) M.t M.i FB hr.rm hg hm he hdb hst)
theorem z_raise0 {m : Str} {i : Nat} {p2 : Pos} (hx : ExK K c) (ho : PySem.W.excIn K (He.ga K c) b.mro b.new = true) (hm : mg c = some (.ref (He.ga K c)))
    (hg : Gl (cxOf (L2.CX P w) P w K mg base N qual scope f cd A outer s H E) c := by rfl) (hdb : (c == ("__debug__" : Str)) = false := by decide) :
    PS (cxOf (L2.CX P w) P w K mg base N qual scope f cd A outer s H E) (.Raise (some (.Call (.Name c p) [.Constant (.str m) i p2] [] pos)) none pos2) (tRaise0 E (He.ga K c)) :=
  ps_raise rfl takesE (pmk_own (X := cxOf (L2.CX P w) P w K mg base N qual scope f cd A outer s H E) b.fb ho hm hx.kp (raises_own hx.ec.hs hx.ty) hg hdb)
end
/-! ### the caught one, read -/
section
variable {K : PySem.W.Frag} {E : XK} {G : Gm} {O : OL} {ke : Xd → Prop}
theorem dt_xf {c f : Str} {a dd : Addr} {te : TE} {k : D → Prop} (h : DT K E te G O (fun x => ∃ d, x = .exc c a dd f d ∧ k d) ke) : DT K E (tXf a (.ref (He.ga K c)) (some dd) (He.ga K c) f te) G O k ke := fun S0 Os σ H Q st hq he =>
  h.bind st he fun x H1 y ⟨d, e, kd⟩ s1 st1 he1 rx => by
    subst e
    cases rx with
    | exc n hh r =>
      refine ⟨rfl, rfl, dd, _, _, rfl, hh, ?_, hq _ H1 d kd s1 r⟩
      rw [List.lookup_cons, beq_self_eq_true]
/-- isinstance(e, ..), e the caught one -/
def rIsX (K : PySem.W.Frag) (a : Addr) (cls : Value) (d : Option Addr) : List V → Hp → VK → Prop := fun xs H Q => ∃ (c : Str) (v : V) (cv : Value) (b : Bool), cls = .ref (He.ga K c) ∧ ExK K c ∧ (d = none ∨ ∃ dd fs, d = some dd ∧ H dd = some (.xd fs)) ∧ xs = [.ref a, v] ∧ (∀ u, RelV v u → u = cv) ∧ PySem.W.kitOne K (.ref (He.ga K c)) cv = some b ∧ Q (.bl b) H
/-- the datum of a caught exception -/
def isExc (c : Str) (a : Addr) (d : Option Addr) (x : D) : Prop := (x = .exc0 c a ∧ d = none) ∨ ∃ dd f y, x = .exc c a dd f y ∧ d = some dd
theorem cad_isX {a : Addr} {c : Str} {d : Option Addr} : CaD K (rIsX K a (.ref (He.ga K c)) d) (fun ds k => ∃ x y cv b, ds = [x, y] ∧ isExc c a d x ∧ ExK K c ∧ ClD K y cv ∧ PySem.W.kitOne K (.ref (He.ga K c)) cv = some b ∧ k (.bl b)) := by
  intro S H xs ds Q k dm rx ⟨x, y, cv, b, e, hx, hc, hy, hk, q⟩ hq
  subst e
  cases rx with
  | cons h1 tt =>
    cases tt with
    | cons h2 t2 =>
      cases t2
      have fin := hq (.bl b) H _ q (Same.refl H) (.bl _)
      have e1 : ∀ v, Rep K S H v x → v = .ref a ∧ (d = none ∨ ∃ dd fs, d = some dd ∧ H dd = some (.xd fs)) := fun v r => by
        rcases hx with ⟨rfl, e⟩ | ⟨dd, f, y, rfl, e⟩
        · cases r; exact ⟨rfl, .inl e⟩
        · cases r with
          | exc n hh r => exact ⟨rfl, .inr ⟨dd, _, e, hh⟩⟩
      obtain ⟨e2, e3⟩ := e1 _ h1
      rw [e2]
      cases hy with
      | ty n => cases h2; exact ⟨c, _, .type n, b, rfl, hc, e3, rfl, fun u r => r, hk, fin⟩
      | glo z => cases h2; exact ⟨c, _, .ref (He.ga K z), b, rfl, hc, e3, rfl, fun u r => r, hk, fin⟩
end
theorem call_isX {X : Cx} {a : Addr} {oe : Obj} {cls : Value} {d : Option Addr} {pn : List (Addr × Obj)} (hz : Zc cls d oe) (hf : ∃ vs, oe.data = .fields vs) : CallR (X.suite a ((a, oe) :: pn)) (.builtin "isinstance") (rIsX X.K a cls d) := by
  intro pins s σ H xs us Q I r ⟨c, v, cv, b, ec, hc, hd, ex, hv, hk, q⟩
  subst ex ec
  cases r with
  | cons r1 rr =>
    cases rr with
    | cons r2 rr =>
      cases rr
      cases r1
      have e2 := hv _ r2
      subst e2
      obtain ⟨ga, _⟩ := I.pin (a, oe) (List.mem_append_left _ (.head _))
      obtain ⟨vs, hdt⟩ := hf
      have J : ∃ od, PySem.W.InstAt s.heap a oe (He.ga X.K c) od := by
        rcases hd with e | ⟨dd, fs, e, hh⟩
        · exact ⟨none, ga, hz.1, by unfold PySem.W.notCls; rw [hdt] <;> rfl, by rw [hz.2, e]; trivial⟩
        · have ok : ObjOk X.prog X.w H s.heap dd (.xd fs) := I.hok dd _ hh
          obtain ⟨mA, hns, _⟩ := ok
          obtain ⟨od, ho, _⟩ := lookIn_ns hns
          exact ⟨some od, ga, hz.1, by unfold PySem.W.notCls; rw [hdt] <;> rfl, by rw [hz.2, e]; exact ho⟩
      obtain ⟨od, J⟩ := J
      have cs : (PySem.W.clsIn X.K (He.ga X.K c)).isSome = true := by
        obtain ⟨cd, h, _⟩ := PySem.W.any_some hc.ec.hd
        rw [h]; rfl
      exact PySem.W.kia_one (PySem.W.kitx_exc (od := od) cs hc.ec.hg hc.ec.hk hc.ec.hs hc.ec.ha hc.ec.hn hc.ec.ht hc.ec.hm) I.kIn J hk (fun z => nomatch z) fun tk => ⟨.bl b, H, I.kept (t' := tk) fun _ _ z => z, rfl, q⟩
/-! ### try -/
section
variable {K : PySem.W.Frag} {E : XK} {G : Gm} {O : OL} {ke : Xd → Prop} {kn : Gm → OL → Prop} {kr : D → Prop}
/-- a try's body: its exceptions are wished for where they are let out -/
def DSW (K : PySem.W.Frag) (W : WX) (t : TS) (G : Gm) (O : OL) (kn : Gm → OL → Prop) (kr : D → Prop) (kx : Gm → OL → Xd → Prop) : Prop :=
  ∀ (S0 : Addr → Prop) (H0 : Hp) (Os : OLa) (σ : L2.St) (H : Hp) (Ds : Ends), Frm S0 H0 Os H → St1 K S0 G O Os σ H →
    (∀ G' O' Os' σ' H', kn G' O' → Chg Os H Os' H' → St1 K S0 G' O' Os' σ' H' → Ds.nx σ' H') →
    (∀ v H' d, kr d → Same H0 H' → Rep K S0 H' v d → Ds.rt v H') →
    (∀ G' O' Os' σ' H' cls dd x, kx G' O' x → Chg Os H Os' H' → St1 K S0 G' O' Os' σ' H' → RepX K (SO S0 Os') H' cls dd x → W cls dd σ' H') → t Ds σ H
variable {W : WX} {kx : Gm → OL → Xd → Prop}
theorem dsw_of {t : TS} (h : DS K E0 t G O kn kr F0) : DSW K W t G O kn kr kx := fun S0 H0 Os σ H Ds f st hn hr hx => h S0 H0 Os σ H Ds f st hn hr fun _ _ _ _ z => z.elim
theorem dsw_seq {t u : TS} (h : DSW K W t G O (fun G1 O1 => DSW K W u G1 O1 kn kr kx) kr kx) : DSW K W (tSeq t u) G O kn kr kx := fun S0 H0 Os σ H Ds f st hn hr hx =>
  h S0 H0 Os σ H { Ds with nx := u Ds } f st (fun G1 O1 Os1 σ1 H1 k1 c1 st1 => k1 S0 H0 Os1 σ1 H1 Ds (f.step c1) st1 (fun G2 O2 Os2 σ2 H2 k2 c2 st2 => hn G2 O2 Os2 σ2 H2 k2 (c1.trans c2) st2) hr
    fun G2 O2 Os2 σ2 H2 cls dd x k2 c2 st2 r => hx G2 O2 Os2 σ2 H2 cls dd x k2 (c1.trans c2) st2 r) hr hx
/-- a reading at the slots -/
theorem dt_at {te : XK → TE} {k : D → Prop} {kd : Xd → Prop} (h : ∀ E, DT K E (te E) G O k kd) {S0 : Addr → Prop} {Os : OLa} {σ : L2.St} {H : Hp} {Q : VK} (st : St1 K S0 G O Os σ H)
    (hx : ∀ H' cls dd x, kd x → Same H H' → RepX K (SO S0 Os) H' cls dd x → W cls dd σ H') (hq : ∀ v H' d, k d → Same H H' → Rep K (SO S0 Os) H' v d → Q v H') : tAt te W σ H Q :=
  h (WE W σ) S0 Os σ H Q st hq fun cls dd H' x kx s r => hx H' cls dd x kx s r
theorem dsw_ret {te : XK → TE} (h : ∀ E, DT K E (te E) G O kr (kx G O)) : DSW K W (tRet (tAt te W)) G O kn kr kx := fun S0 H0 Os σ H Ds f st hn hr hx =>
  dt_at h st (fun H' cls dd x z s r => hx G O Os σ H' cls dd x z (Chg.of_same s) (st.same s) r) fun v H' d kd s r => hr v H' d kd (f.same.trans s) (Rep.weak (fun a z => .inl z) r)
theorem dsw_expr {te : XK → TE} (h : ∀ E, DT K E (te E) G O (fun _ => kn G O) (kx G O)) : DSW K W (tDrop (tAt te W)) G O kn kr kx := fun S0 H0 Os σ H Ds f st hn hr hx =>
  dt_at h st (fun H' cls dd x z s r => hx G O Os σ H' cls dd x z (Chg.of_same s) (st.same s) r) fun v H' d kd s r => hn G O Os σ H' kd (Chg.of_same s) (st.same s)
theorem dsw_asg {te : XK → TE} {i : Nat} (hi : ∀ o ∈ O, o.1 ≠ i) (h : ∀ E, DT K E (te E) G O (fun d => kn (G.set i (some d)) O) (kx G O)) : DSW K W (tAsg (tAt te W) (gName i)) G O kn kr kx := fun S0 H0 Os σ H Ds f st hn hr hx =>
  dt_at h st (fun H' cls dd x z s r => hx G O Os σ H' cls dd x z (Chg.of_same s) (st.same s) r) fun v H' d kd s r => hn _ O Os _ H' kd (Chg.of_same s) ((st.same s).set r hi)
theorem St1.unset {S0 : Addr → Prop} {Os : OLa} {σ : L2.St} {H : Hp} (h : St1 K S0 G O Os σ H) {i : Nat} (hi : ∀ o ∈ O, o.1 ≠ i) : St1 K S0 (G.set i none) O Os (σ.set i none) H where
  os := h.os
  nd := h.nd
  dom := h.dom
  ns := h.ns
  len := by rw [List.length_set, List.length_set]; exact h.len
  re := fun j e q => by
    by_cases hj : i = j
    · subst hj
      by_cases hl : i < G.length
      · rw [List.getElem?_set_self hl] at q; cases q
      · rw [List.getElem?_eq_none (by simpa using hl)] at q; cases q
    · rw [List.getElem?_set_ne hj] at q
      obtain ⟨w, e1, r1⟩ := h.re j e q
      exact ⟨w, by rw [List.getElem?_set_ne hj]; exact e1, r1⟩
  own := fun p hp => by
    have hne : i ≠ p.2.1 := fun z => hi p.2 (by rw [← h.os]; exact List.mem_map_of_mem hp) z.symm
    exact ⟨by rw [List.getElem?_set_ne hne]; exact (h.own p hp).1, (h.own p hp).2⟩
/-- a suite, at the state where the exception was let out; e: the caught one -/
def SuD (K : PySem.W.Frag) (kn : Gm → OL → Prop) (kr : D → Prop) (h : Hd) (G' : Gm) (O' : OL) (a : Addr) (cls : Value) (d : Option Addr) (e : D) : Prop := match h.n with
  | none => DS K E0 (h.ts a cls d) G' O' kn kr F0
  | some i => (∀ o ∈ O', o.1 ≠ i) ∧ DS K E0 (h.ts a cls d) (G'.set i (some e)) O' (fun G2 O2 => (∀ o ∈ O2, o.1 ≠ i) ∧ kn (G2.set i none) O2) kr F0
def HbD (K : PySem.W.Frag) (kn : Gm → OL → Prop) (kr : D → Prop) (h : Hd) (G' : Gm) (O' : OL) (x : Xd) : Prop := match x.arg with
  | none => ∀ a, SuD K kn kr h G' O' a (.ref (He.ga K x.cls)) none (.exc0 x.cls a)
  | some (f, y) => ∀ a dd, SuD K kn kr h G' O' a (.ref (He.ga K x.cls)) (some dd) (.exc x.cls a dd f y)
/-- the clauses, one behind another -/
def HxD (K : PySem.W.Frag) (kn : Gm → OL → Prop) (kr : D → Prop) (ke : Xd → Prop) : List Hd → Gm → OL → Xd → Prop
  | [], _, _, x => ke x
  | h :: r, G', O', x => ∃ b, PySem.W.exmOne K (.ref (He.ga K x.cls)) h.c = some b ∧ (b = true → HbD K kn kr h G' O' x) ∧ (b = false → HxD K kn kr ke r G' O' x)
theorem SuD.go {h : Hd} {G' : Gm} {O' : OL} {a : Addr} {cls : Value} {d : Option Addr} {e : D} (q : SuD K kn kr h G' O' a cls d e) {S0 : Addr → Prop} {H0 : Hp} {Os : OLa} {σ : L2.St} {H : Hp} {Ds : Ends} (f : Frm S0 H0 Os H) (st : St1 K S0 G' O' Os σ H) (re : Rep K (SO S0 Os) H (.ref a) e)
    (hn : ∀ G2 O2 Os2 σ2 H2, kn G2 O2 → Chg Os H Os2 H2 → St1 K S0 G2 O2 Os2 σ2 H2 → Ds.nx σ2 H2) (hr : ∀ v H' d, kr d → Same H0 H' → Rep K S0 H' v d → Ds.rt v H') : h.go Ds a cls d σ H := by
  unfold SuD at q
  unfold Hd.go
  cases e1 : h.n with
  | none =>
    rw [e1] at q
    exact q S0 H0 Os σ H Ds f st hn hr fun _ _ _ _ z => z.elim
  | some i =>
    rw [e1] at q
    exact q.2 S0 H0 Os _ H (endsN Ds i) f (st.set re q.1) (fun G2 O2 Os2 σ2 H2 k2 c2 st2 => hn _ _ Os2 _ H2 k2.2 c2 (st2.unset k2.1)) hr fun _ _ _ _ z => z.elim
theorem HxD.wish {S0 : Addr → Prop} {H0 : Hp} {G' : Gm} {O' : OL} {Os' : OLa} {σ' : L2.St} {H' : Hp} {Ds : Ends} {cls : Value} {dd : Option Addr} {x : Xd} (f' : Frm S0 H0 Os' H') (st' : St1 K S0 G' O' Os' σ' H') (rx : RepX K (SO S0 Os') H' cls dd x)
    (hn : ∀ G2 O2 Os2 σ2 H2, kn G2 O2 → Chg Os' H' Os2 H2 → St1 K S0 G2 O2 Os2 σ2 H2 → Ds.nx σ2 H2) (hr : ∀ v H' d, kr d → Same H0 H' → Rep K S0 H' v d → Ds.rt v H') (he : EOk K S0 H0 E ke) :
    ∀ (l : List Hd), HxD K kn kr ke l G' O' x → wHd K (fun c d _ H => E c d H) Ds l cls dd σ' H' := by
  obtain ⟨ec, r2⟩ := rx
  subst ec
  intro l
  induction l with
  | nil =>
    intro kx
    refine he _ dd H' x kx f'.same ⟨rfl, ?_⟩
    cases q : x.arg with
    | none => rw [q] at r2; exact r2
    | some p =>
      rw [q] at r2
      obtain ⟨p1, v, h1, hn1, h2, h3⟩ := r2
      exact ⟨p1, v, h1, fun z => hn1 (.inl z), h2, Rep.weak (fun a z => .inl z) h3⟩
  | cons h r ih =>
    intro ⟨b, e1, yes, no⟩
    refine ⟨b, e1, fun eb a na => ?_, fun eb => ih (no eb)⟩
    have y := yes eb
    unfold HbD at y
    cases q : x.arg with
    | none =>
      rw [q] at y r2
      have r2' : dd = none := r2
      subst r2'
      exact (y a).go f' st' .exc0 hn hr
    | some p =>
      rw [q] at y r2
      obtain ⟨p1, v, h1, hn1, h2, h3⟩ := r2
      subst h1
      exact (y a p1).go f' st' (.exc hn1 h2 h3) hn hr
/-- THE RULE -/
theorem ds_try {tb : WX → TS} {l : List Hd} (hb : ∀ W, DSW K W (tb W) G O kn kr (HxD K kn kr ke l)) : DS K E (fun D σ H => tb (wHd K (fun c d _ H => E c d H) D l) D σ H) G O kn kr ke := fun S0 H0 Os σ H Ds f st hn hr he =>
  hb _ S0 H0 Os σ H Ds f st hn hr fun G' O' Os' σ' H' cls dd x kx c st' r => HxD.wish (f.step c) st' r (fun G2 O2 Os2 σ2 H2 k2 c2 st2 => hn G2 O2 Os2 σ2 H2 k2 (c.trans c2) st2) hr he l kx
/-- .. in a def -/
abbrev tTry (K : PySem.W.Frag) (E : XK) (tb : WX → TS) (l : List Hd) : TS := fun D σ H => tb (wHd K (fun c d _ H => E c d H) D l) D σ H
end
section
variable {P : Program} {w : World} {K : PySem.W.Frag} {mg : Str → Option Value} {base : Heap} {N : List Str} {qual : Str} {scope : Scope} {f : Addr} {cd : Value} {A : Around} {outer : List Env} {s : Shared} {H : Hp} {E : XK} {body : List Stmt} {h₀ : ExceptHandler} {hds : List ExceptHandler} {l : List Hd} {pos : Pos} {tb : WX → TS}
theorem z_try (hb : ∀ (W : WX) (pn : List (Addr × Obj)) (xe : Value → Shared → Prop), Takes ((cxOf (L2.CX P w) P w K mg base N qual scope f cd A outer s H E).tr pn xe) W → PassesOwn (model P w) (A.deeper (envOfC qual scope s.heap.objs.size f cd)) (envOfC qual scope s.heap.objs.size f cd) xe → PSs ((cxOf (L2.CX P w) P w K mg base N qual scope f cd A outer s H E).tr pn xe) body (tb W))
    (hh : HdsX (cxOf (L2.CX P w) P w K mg base N qual scope f cd A outer s H E) (h₀ :: hds) l) : PS (cxOf (L2.CX P w) P w K mg base N qual scope f cd A outer s H E) (.Try body (h₀ :: hds) [] [] pos) (tTry K E tb l) :=
  ps_tryX rfl rfl takesE hb hh
end
end Fw

set_option maxHeartbeats 4000000
/-! xs.index(s); the plain law of safe places. -/
namespace Fw
open PySem PySem.Spec PyProof.Rows L2
section
variable {K : PySem.W.Frag} {E : XK} {G : Gm} {O : OL} {ke : Xd → Prop}
theorem z_index {X : Cx} (K : PySem.W.Frag) (hK : X.K = K := by rfl) : MtR X "list.index" (rIndex K) := by subst hK; exact mt_index
theorem idx_at {ss : List Str} {s : Str} (h : s ∈ ss) : ss[ss.idxOf s]? = some s := by
  have hl : ss.idxOf s < ss.length := List.idxOf_lt_length_of_mem h
  rw [List.getElem?_eq_getElem hl, List.getElem_idxOf hl]
theorem idx_before {s z : Str} : ∀ {ss : List Str} {m : Nat}, m < ss.idxOf s → ss[m]? = some z → z ≠ s
  | [], m, h, _ => by simp at h
  | a :: r, 0, h, e => by
    have e' : a = z := by simpa using e
    subst e'
    intro q
    subst q
    rw [List.idxOf_cons_self] at h
    exact absurd h (Nat.not_lt_zero _)
  | a :: r, m + 1, h, e => by
    by_cases q : a = s
    · subst q
      rw [List.idxOf_cons_self] at h
      exact absurd h (Nat.not_lt_zero _)
    · rw [List.idxOf_cons, beq_false_of_ne q] at h
      have h : m + 1 < r.idxOf s + 1 := h
      exact idx_before (ss := r) (m := m) (by omega) (by simpa using e)
theorem dt_indexS {to te : TE} {k : D → Prop} (h : DT K E to G O (fun a => ∃ ns : List Str, a = .lst (ns.map D.str) ∧ DT K E te G O (fun d => ∃ s : Str, d = .str s ∧ s ∈ ns ∧ k (.int (ns.idxOf s : Nat))) ke) ke) : DT K E (tBM K "list" (rIndex K) to (tCons te tNil)) G O k ke := fun S0 Os σ H Q st hq he =>
  h.bind st he fun x H1 a ⟨ns, e, ha⟩ s1 st1 he1 rx => by
    subst e
    cases rx with
    | lst n hh r =>
      have er := r.strs
      subst er
      refine ⟨ty_list hh, ha.bind st1 he1 fun y H2 d ⟨z, e2, hz, kd⟩ s2 st2 he2 ry => ?_⟩
      subst e2; cases ry
      refine ⟨_, ns.map V.str, .str z, ns.idxOf z, .str z, rfl, rfl, SqL.of (s2 _ _ hh), rfl, ?_, by rw [List.getElem?_map, idx_at hz]; rfl, ?_, fun m z' hm hz' => ?_, hq _ H2 _ kd (s1.trans s2) (.int _)⟩
      · rw [List.all_eq_true]
        intro v hv
        obtain ⟨w, _, rfl⟩ := List.mem_map.mp hv
        rfl
      · simp [eqV]
      · rw [List.getElem?_map] at hz'
        cases q : ns[m]? with
        | none => rw [q] at hz'; cases hz'
        | some w =>
          rw [q] at hz'
          have e3 : z' = .str w := (Option.some.inj hz').symm
          subst e3
          have := idx_before hm q
          simp [eqV, this]
end
/-! ### the value -/
/-- how many of L stand at k or behind it -/
def cntK (R : List Str) (k : Nat) (L : List Str) : Int := ((L.filter fun s => decide (k ≤ R.idxOf s)).length : Nat)
theorem cntK_le (R : List Str) (k : Nat) (L : List Str) : 0 ≤ cntK R k L ∧ cntK R k L ≤ L.length := by
  unfold cntK
  have := List.length_filter_le (fun s => decide (k ≤ R.idxOf s)) L
  omega
/-- a value by its comparisons -/
def ValIs (R : List Str) (p : Str) (us L : List Str) (v : Nat) : Prop := ∀ k : Nat, k ≤ v ↔ 0 < fv us [p] (cntK R k L) ((L.length : Int) - cntK R k L)
theorem val_uniq {R us L : List Str} {p : Str} {v w : Nat} (h1 : ValIs R p us L v) (h2 : ValIs R p us L w) : v = w := by
  have a := (h2 v).mpr ((h1 v).mp (Nat.le_refl _))
  have b := (h1 w).mpr ((h2 w).mp (Nat.le_refl _))
  omega
/-- without x -/
def wo (x : Str) (L : List Str) : List Str := L.filter fun s => decide (s ≠ x)
theorem wo_len {x : Str} : ∀ {L : List Str}, L.Nodup → x ∈ L → (wo x L).length + 1 = L.length
  | a :: r, nd, h => by
    have nd2 := List.nodup_cons.mp nd
    by_cases e : a = x
    · subst e
      have : wo a (a :: r) = r := by
        unfold wo
        rw [List.filter_cons_of_neg (by simp), List.filter_eq_self]
        intro s hs
        exact decide_eq_true fun z => nd2.1 (z ▸ hs)
      rw [this]; rfl
    · have h2 : x ∈ r := (List.mem_cons.mp h).resolve_left fun z => e z.symm
      have ih := wo_len nd2.2 h2
      have : wo x (a :: r) = a :: wo x r := by
        unfold wo
        rw [List.filter_cons_of_pos (by simpa using e)]
      rw [this, List.length_cons, List.length_cons, ih]
theorem wo_nd {x : Str} {L : List Str} (nd : L.Nodup) : (wo x L).Nodup := nd.filter _
theorem wo_mem {x s : Str} {L : List Str} : s ∈ wo x L ↔ s ∈ L ∧ s ≠ x := by
  unfold wo
  rw [List.mem_filter, decide_eq_true_eq]
theorem cntK_wo {R : List Str} {k : Nat} {x : Str} {L : List Str} (nd : L.Nodup) (h : x ∈ L) : cntK R k (wo x L) = cntK R k L - (if k ≤ R.idxOf x then 1 else 0) := by
  have e1 : (wo x L).filter (fun s => decide (k ≤ R.idxOf s)) = wo x (L.filter fun s => decide (k ≤ R.idxOf s)) := by
    unfold wo
    rw [List.filter_filter, List.filter_filter]
    exact List.filter_congr fun s _ => Bool.and_comm _ _
  unfold cntK
  rw [e1]
  by_cases c : k ≤ R.idxOf x
  · rw [if_pos c]
    have := wo_len (x := x) (L := L.filter fun s => decide (k ≤ R.idxOf s)) (nd.filter _) (List.mem_filter.mpr ⟨h, decide_eq_true c⟩)
    omega
  · rw [if_neg c]
    have : wo x (L.filter fun s => decide (k ≤ R.idxOf s)) = L.filter fun s => decide (k ≤ R.idxOf s) := by
      unfold wo
      rw [List.filter_eq_self]
      intro s hs
      refine decide_eq_true fun z => c ?_
      subst z
      exact of_decide_eq_true (List.mem_filter.mp hs).2
    rw [this]; omega
theorem cntK_ex {R : List Str} {k : Nat} {L : List Str} : 0 < cntK R k L ↔ ∃ x ∈ L, k ≤ R.idxOf x := by
  unfold cntK
  constructor
  · intro h
    have h' : 0 < (L.filter fun s => decide (k ≤ R.idxOf s)).length := by omega
    obtain ⟨x, hx⟩ := List.exists_mem_of_length_pos h'
    exact ⟨x, (List.mem_filter.mp hx).1, of_decide_eq_true (List.mem_filter.mp hx).2⟩
  · rintro ⟨x, h1, h2⟩
    have : 0 < (L.filter fun s => decide (k ≤ R.idxOf s)).length := List.length_pos_of_mem (List.mem_filter.mpr ⟨h1, decide_eq_true h2⟩)
    omega
theorem cntK_lt {R : List Str} {k : Nat} : ∀ {L : List Str}, cntK R k L < L.length ↔ ∃ x ∈ L, ¬ k ≤ R.idxOf x
  | [] => by simp [cntK]
  | a :: r => by
    have ih := cntK_lt (R := R) (k := k) (L := r)
    have hle := cntK_le R k r
    by_cases c : k ≤ R.idxOf a
    · have e : cntK R k (a :: r) = cntK R k r + 1 := by
        unfold cntK
        rw [List.filter_cons_of_pos (p := fun s => decide (k ≤ R.idxOf s)) (decide_eq_true c), List.length_cons]; omega
      rw [e, List.length_cons]
      constructor
      · intro h
        obtain ⟨x, h1, h2⟩ := ih.mp (by omega)
        exact ⟨x, List.mem_cons_of_mem _ h1, h2⟩
      · rintro ⟨x, h1, h2⟩
        rcases List.mem_cons.mp h1 with rfl | h1
        · exact absurd c h2
        · have := ih.mpr ⟨x, h1, h2⟩
          omega
    · have e : cntK R k (a :: r) = cntK R k r := by
        unfold cntK
        rw [List.filter_cons_of_neg (by simpa using c)]
      rw [e, List.length_cons]
      exact ⟨fun _ => ⟨a, List.mem_cons_self, c⟩, fun _ => by omega⟩
/-- what a strike x leaves -/
def Aft (R : List Str) (p : Str) (us L : List Str) (k : Nat) (x : Str) : Prop := 0 < fv us [p] (cntK R k (wo x L)) (((wo x L).length : Int) - cntK R k (wo x L))
theorem aft_in {R us L : List Str} {p x : Str} {k : Nat} (nd : L.Nodup) (h : x ∈ L) (c : k ≤ R.idxOf x) : Aft R p us L k x ↔ 0 < fv us [p] (cntK R k L - 1) ((L.length : Int) - cntK R k L) := by
  unfold Aft
  have := wo_len nd h
  rw [cntK_wo nd h, if_pos c, show ((wo x L).length : Int) - (cntK R k L - 1) = (L.length : Int) - cntK R k L from by omega]
theorem aft_out {R us L : List Str} {p x : Str} {k : Nat} (nd : L.Nodup) (h : x ∈ L) (c : ¬ k ≤ R.idxOf x) : Aft R p us L k x ↔ 0 < fv us [p] (cntK R k L) ((L.length : Int) - cntK R k L - 1) := by
  unfold Aft
  have := wo_len nd h
  rw [cntK_wo nd h, if_neg c, show ((wo x L).length : Int) - (cntK R k L - 0) = (L.length : Int) - cntK R k L - 1 from by omega, Int.sub_zero]
theorem fv_zero {us g : List Str} {b : Int} : ¬ 0 < fv us g 0 b := by
  have := ownN_le us g
  unfold fv mx
  split <;> split <;> omega
/-- the player's own turn: the best of all -/
theorem val_own {R us L : List Str} {p : Str} {k : Nat} (nd : L.Nodup) (hl : us.length + 1 ≤ L.length) : (∀ x ∈ L, Aft R p us L k x) ↔ 0 < fv (p :: us) [p] (cntK R k L) ((L.length : Int) - cntK R k L) := by
  have hle := cntK_le R k L
  by_cases ha : 0 < cntK R k L
  · rw [fv_in ha (by omega) (by rw [List.length_cons]; omega) (.inl (List.mem_singleton.mpr rfl))]
    constructor
    · intro h
      obtain ⟨x, hx, c⟩ := cntK_ex.mp ha
      exact (aft_in nd hx c).mp (h x hx)
    · intro h x hx
      by_cases c : k ≤ R.idxOf x
      · exact (aft_in nd hx c).mpr h
      · refine (aft_out nd hx c).mpr ?_
        have := fv_le (t := p) (r := us) (g := [p]) (a := cntK R k L) (b := (L.length : Int) - cntK R k L)
        omega
  · have e : cntK R k L = 0 := by omega
    rw [e]
    constructor
    · intro h
      obtain ⟨x, hx⟩ := List.exists_mem_of_length_pos (l := L) (by omega)
      have c : ¬ k ≤ R.idxOf x := fun c => ha (cntK_ex.mpr ⟨x, hx, c⟩)
      have := (aft_out nd hx c).mp (h x hx)
      rw [e] at this
      exact absurd this fv_zero
    · intro h
      exact absurd h fv_zero
/-- another's turn: the worst of all -/
theorem val_other {R us L : List Str} {p t : Str} {k : Nat} (nd : L.Nodup) (hl : us.length + 1 ≤ L.length) (ht : t ≠ p) : (∃ x ∈ L, Aft R p us L k x) ↔ 0 < fv (t :: us) [p] (cntK R k L) ((L.length : Int) - cntK R k L) := by
  have hle := cntK_le R k L
  by_cases hb : cntK R k L < L.length
  · rw [fv_out (by omega) (by omega) (by rw [List.length_cons]; omega) (.inl fun z => ht (List.mem_singleton.mp z))]
    constructor
    · rintro ⟨x, hx, h⟩
      by_cases c : k ≤ R.idxOf x
      · have h1 := (aft_in nd hx c).mp h
        have := fv_le (t := p) (r := us) (g := [p]) (a := cntK R k L) (b := (L.length : Int) - cntK R k L)
        omega
      · exact (aft_out nd hx c).mp h
    · intro h
      obtain ⟨x, hx, c⟩ := cntK_lt.mp hb
      exact ⟨x, hx, (aft_out nd hx c).mpr h⟩
  · have e : cntK R k L = L.length := by omega
    have e0 : (L.length : Int) - cntK R k L = 0 := by omega
    have all : ∀ x ∈ L, k ≤ R.idxOf x := fun x hx => Classical.byContradiction fun c => hb (cntK_lt.mpr ⟨x, hx, c⟩)
    rw [fv_in (by omega) (by omega) (by rw [List.length_cons]; omega) (.inr e0)]
    constructor
    · rintro ⟨x, hx, h⟩
      exact (aft_in nd hx (all x hx)).mp h
    · intro h
      obtain ⟨x, hx⟩ := List.exists_mem_of_length_pos (l := L) (by omega)
      exact ⟨x, hx, (aft_in nd hx (all x hx)).mpr h⟩
/-- over some of the strikes: the least (own), the greatest -/
def Mst (own : Bool) (xs : List Str) (C : Nat → Str → Prop) (v : Nat) : Prop := ∀ k : Nat, k ≤ v ↔ if own = true then (∀ x ∈ xs, C k x) else ∃ x ∈ xs, C k x
theorem mst_one {own : Bool} {x : Str} {C : Nat → Str → Prop} {w : Nat} (h : ∀ k, k ≤ w ↔ C k x) : Mst own [x] C w := fun k => by
  cases own <;> simp [h k]
theorem mst_snoc {own : Bool} {xs : List Str} {x : Str} {C : Nat → Str → Prop} {v w : Nat} (hv : Mst own xs C v) (h : ∀ k, k ≤ w ↔ C k x) : Mst own (xs ++ [x]) C (if decide (w < v) = own then w else v) := fun k => by
  have h1 := hv k
  have h2 := h k
  cases own with
  | true =>
    simp only [if_true] at h1 ⊢
    have e : (∀ y ∈ xs ++ [x], C k y) ↔ (∀ y ∈ xs, C k y) ∧ C k x := by
      constructor
      · intro q
        exact ⟨fun y hy => q y (List.mem_append_left _ hy), q x (List.mem_append_right _ (List.mem_singleton.mpr rfl))⟩
      · rintro ⟨q1, q2⟩ y hy
        rcases List.mem_append.mp hy with hy | hy
        · exact q1 y hy
        · rw [List.mem_singleton.mp hy]; exact q2
    rw [e, ← h1, ← h2]
    by_cases c : w < v
    · rw [if_pos (decide_eq_true c)]; omega
    · rw [if_neg (by rw [decide_eq_false c]; decide)]; omega
  | false =>
    simp only [if_neg Bool.false_ne_true] at h1 ⊢
    have e : (∃ y ∈ xs ++ [x], C k y) ↔ (∃ y ∈ xs, C k y) ∨ C k x := by
      constructor
      · rintro ⟨y, hy, q⟩
        rcases List.mem_append.mp hy with hy | hy
        · exact .inl ⟨y, hy, q⟩
        · rw [List.mem_singleton.mp hy] at q; exact .inr q
      · rintro (⟨y, hy, q⟩ | q)
        · exact ⟨y, List.mem_append_left _ hy, q⟩
        · exact ⟨x, List.mem_append_right _ (List.mem_singleton.mpr rfl), q⟩
    rw [e, ← h1, ← h2]
    by_cases c : w < v
    · rw [if_neg (by rw [decide_eq_true c]; decide)]; omega
    · rw [if_pos (by rw [decide_eq_false c])]; omega
theorem mst_val {R us L : List Str} {p t : Str} {v : Nat} (nd : L.Nodup) (hl : us.length + 1 ≤ L.length) (h : Mst (decide (t = p)) L (Aft R p us L) v) : ValIs R p (t :: us) L v := fun k => by
  have h1 := h k
  by_cases e : t = p
  · subst e
    rw [decide_eq_true rfl, if_pos rfl] at h1
    exact h1.trans (val_own nd hl)
  · rw [decide_eq_false e, if_neg Bool.false_ne_true] at h1
    exact h1.trans (val_other nd hl e)
end Fw

set_option maxHeartbeats 4000000
/-! The places of the program's text and the facts asked of its top. -/
namespace Fw
open PySem PySem.Spec PyProof.Rows L2
abbrev TX (K : PySem.W.Frag) (mg : Str → Option Value) : Prop := Tx fcs dfs K mg
section
variable {K : PySem.W.Frag} {mg : Str → Option Value} {E : XK} {G : Gm} {O : OL} {ke : Xd → Prop}
theorem fld_Committee_own_members (T : TX K mg) {ta : TE} {k : D → Prop} (h : DT K E ta G O (fun a => ∃ fs d, a = .obj "Committee" fs ∧ fs.lookup ("own_members" : Str) = some d ∧ k d) ke) : DT K E (tFld K ta "own_members") G O k ke := dt_fld (T.cls 9) (T.noat 10) h
theorem fld_Ranking_order (T : TX K mg) {ta : TE} {k : D → Prop} (h : DT K E ta G O (fun a => ∃ fs d, a = .obj "Ranking" fs ∧ fs.lookup ("order" : Str) = some d ∧ k d) ke) : DT K E (tFld K ta "order") G O k ke := dt_fld (T.cls 15) (T.noat 16) h
theorem fld_Ranking_places (T : TX K mg) {ta : TE} {k : D → Prop} (h : DT K E ta G O (fun a => ∃ fs d, a = .obj "Ranking" fs ∧ fs.lookup ("places" : Str) = some d ∧ k d) ke) : DT K E (tFld K ta "places") G O k ke := dt_fld (T.cls 15) (T.noat 18) h
theorem fld_Turns_order (T : TX K mg) {ta : TE} {k : D → Prop} (h : DT K E ta G O (fun a => ∃ fs d, a = .obj "Turns" fs ∧ fs.lookup ("order" : Str) = some d ∧ k d) ke) : DT K E (tFld K ta "order") G O k ke := dt_fld (T.cls 23) (T.noat 24) h
theorem fld_Game_own_rankings (T : TX K mg) {ta : TE} {k : D → Prop} (h : DT K E ta G O (fun a => ∃ fs d, a = .obj "Game" fs ∧ fs.lookup ("own_rankings" : Str) = some d ∧ k d) ke) : DT K E (tFld K ta "own_rankings") G O k ke := dt_fld (T.cls 25) (T.noat 26) h
theorem fld_Game_own_turns (T : TX K mg) {ta : TE} {k : D → Prop} (h : DT K E ta G O (fun a => ∃ fs d, a = .obj "Game" fs ∧ fs.lookup ("own_turns" : Str) = some d ∧ k d) ke) : DT K E (tFld K ta "own_turns") G O k ke := dt_fld (T.cls 25) (T.noat 28) h
theorem kit_str_str (T : TX K mg) : PySem.W.kitOne K (Tv.v K (.ty "str")) (Tv.v K (.ty "str")) = some true := T.kit 76 (t := .ty "str") (u := .ty "str") (b := true)
theorem kit_int_int (T : TX K mg) : PySem.W.kitOne K (Tv.v K (.ty "int")) (Tv.v K (.ty "int")) = some true := T.kit 77 (t := .ty "int") (u := .ty "int") (b := true)
theorem kit_list_list (T : TX K mg) : PySem.W.kitOne K (Tv.v K (.ty "list")) (Tv.v K (.ty "list")) = some true := T.kit 78 (t := .ty "list") (u := .ty "list") (b := true)
theorem kit_dict_dict (T : TX K mg) : PySem.W.kitOne K (Tv.v K (.ty "dict")) (Tv.v K (.ty "dict")) = some true := T.kit 79 (t := .ty "dict") (u := .ty "dict") (b := true)
theorem kit_Committee_Committee (T : TX K mg) : PySem.W.kitOne K (Tv.v K (.own "Committee")) (Tv.v K (.own "Committee")) = some true := T.kit 80 (t := .own "Committee") (u := .own "Committee") (b := true)
theorem kit_Ranking_Ranking (T : TX K mg) : PySem.W.kitOne K (Tv.v K (.own "Ranking")) (Tv.v K (.own "Ranking")) = some true := T.kit 81 (t := .own "Ranking") (u := .own "Ranking") (b := true)
theorem kit_Turns_Turns (T : TX K mg) : PySem.W.kitOne K (Tv.v K (.own "Turns")) (Tv.v K (.own "Turns")) = some true := T.kit 82 (t := .own "Turns") (u := .own "Turns") (b := true)
theorem kit_Game_Game (T : TX K mg) : PySem.W.kitOne K (Tv.v K (.own "Game")) (Tv.v K (.own "Game")) = some true := T.kit 83 (t := .own "Game") (u := .own "Game") (b := true)
theorem kit_NoneType_str (T : TX K mg) : PySem.W.kitOne K (Tv.v K (.ty "NoneType")) (Tv.v K (.ty "str")) = some false := T.kit 84 (t := .ty "NoneType") (u := .ty "str") (b := false)
theorem kit_int_str (T : TX K mg) : PySem.W.kitOne K (Tv.v K (.ty "int")) (Tv.v K (.ty "str")) = some false := T.kit 85 (t := .ty "int") (u := .ty "str") (b := false)
theorem kit_list_str (T : TX K mg) : PySem.W.kitOne K (Tv.v K (.ty "list")) (Tv.v K (.ty "str")) = some false := T.kit 86 (t := .ty "list") (u := .ty "str") (b := false)
theorem kit_bool_str (T : TX K mg) : PySem.W.kitOne K (Tv.v K (.ty "bool")) (Tv.v K (.ty "str")) = some false := T.kit 87 (t := .ty "bool") (u := .ty "str") (b := false)
theorem kit_int_bool (T : TX K mg) : PySem.W.kitOne K (Tv.v K (.ty "int")) (Tv.v K (.ty "bool")) = some false := T.kit 88 (t := .ty "int") (u := .ty "bool") (b := false)
theorem kit_bool_int (T : TX K mg) : PySem.W.kitOne K (Tv.v K (.ty "bool")) (Tv.v K (.ty "int")) = some true := T.kit 89 (t := .ty "bool") (u := .ty "int") (b := true)
theorem kit_bool_bool (T : TX K mg) : PySem.W.kitOne K (Tv.v K (.ty "bool")) (Tv.v K (.ty "bool")) = some true := T.kit 90 (t := .ty "bool") (u := .ty "bool") (b := true)
theorem ins_Committee (T : TX K mg) : InsK K "Committee" := T.ins 91
theorem ins_Game (T : TX K mg) : InsK K "Game" := T.ins 92
theorem ins_Ranking (T : TX K mg) : InsK K "Ranking" := T.ins 93
theorem ins_Turns (T : TX K mg) : InsK K "Turns" := T.ins 94
end
theorem xb_UnknownName : XcB (defArgs s_UnknownName_init) (defBody s_UnknownName_init) (defScope s_UnknownName_init) "name" := ⟨⟨"self", "name", "this is not one of the names", _, _, _, _, _, _, _, _, _, _, _, _, rfl, rfl, rfl, by decide, fun _ _ _ _ _ _ _ _ _ _ => rfl, rfl, rfl, rfl, rfl, by decide, by decide, fun _ => ⟨_, rfl⟩, fun _ => rfl, fun _ => rfl⟩, rfl, by decide +kernel, rfl, rfl⟩
end Fw

set_option maxHeartbeats 4000000
/-! The program's defs: names, committees, rankings. -/
namespace Fw
open PySem PySem.Spec PyProof.Rows L2
local macro_rules | `(tactic| walk_at "fno") => `(tactic| first | (intro o ho; exact absurd ho (List.not_mem_nil)) | (simp; done) | (intro o ho; simp at ho; (try rcases ho with ho | ho) <;> subst ho <;> decide))
local macro_rules | `(tactic| walk_at "fop") => `(tactic| with_reducible first
  | refine dt_op opd_add ?_ | refine dt_op opd_sub ?_ | refine dt_op opd_mul ?_ | refine dt_op opd_fdivN ?_ | refine dt_op opd_mod ?_ | refine dt_op opd_pow ?_
  | refine dt_op opd_lt ?_ | refine dt_op opd_le ?_ | refine dt_op opd_gt ?_ | refine dt_op opd_ge ?_
  | refine dt_op opd_eq ?_ | refine dt_op opd_ne ?_ | refine dt_op opd_in ?_ | refine dt_op opd_in_sign ?_ | refine dt_op opd_add_str ?_ | refine dt_op opd_isN ?_ | refine dt_op opd_notN ?_
  | refine dt_op opd_ixL ?_ | refine dt_op opd_ixT ?_ | refine dt_op opf_cat.op ?_ | refine dt_op opf_rep.op ?_
  | refine dt_op opd_eqD ?_ | refine dt_op opd_neD ?_ | refine dt_op opd_eqDn ?_ | refine dt_op opd_inI ?_ | refine dt_op opd_eqI ?_ | refine dt_op opd_neI ?_ | refine dt_op opd_binI ?_ | refine dt_op opd_getI ?_)
local macro_rules | `(tactic| walk_at "fcb") => `(tactic| with_reducible first
  | refine dt_cb cad_isX ?_ | refine dt_cb cad_repr ?_ | refine dt_cb cad_lenA ?_ | refine dt_cb cad_lenI ?_ | refine dt_cb cad_isi ?_ | refine dt_cb cad_lenDR ?_ | refine dt_cb cad_max ?_ | refine dt_cb cad_min ?_ | refine dt_cb cad_all ?_ | refine dt_cb cad_any ?_ | refine dt_cb cad_sum ?_ | refine dt_cb cad_max2 ?_ | refine dt_cb cad_min2 ?_ | refine dt_cb cad_int1 ?_
  | refine dt_cb caf_list.ca ?_ | refine dt_cb caf_listD.ca ?_ | refine dt_cb caf_dictD.ca ?_ | refine dt_cb caf_dictP.ca ?_ | refine dt_cb caf_sortedS.ca ?_ | refine dt_cb caf_sortedD.ca ?_)
local macro_rules | `(tactic| walk_at "fex") => `(tactic| first
  | (refine ⟨(rfl : D.non = D.non), ?_⟩) | (refine ⟨_, .lst _, ?_⟩) | (refine ⟨_, .scr _, ?_⟩) | (refine ⟨_, _, _, rfl, rfl, rfl, ?_⟩) | (refine ⟨_, _, rfl, rfl, ?_⟩) | (refine ⟨_, rfl, ?_⟩) | (refine ⟨_, _, rfl, ?_⟩) | (refine ⟨_, _, _, rfl, ?_⟩) | (refine ⟨_, _, _, _, rfl, ?_⟩) | (refine ⟨_, _, _, _, _, rfl, ?_⟩) | (refine ⟨_, _, _, _, _, _, rfl, ?_⟩) | (refine ⟨_, .inl rfl, rfl, flat_strs _, ?_⟩) | (refine ⟨_, .inl rfl, ?_⟩) | (refine ⟨rfl, rfl, rfl, ?_⟩) | (refine ⟨(by simp only [List.length_cons, List.length_nil]; decide : List.length _ ≤ sizeLine), ?_⟩) | (refine ⟨fun _ => ?_, fun h => absurd h (by decide)⟩) | (refine ⟨fun h => absurd h (by decide), fun _ => ?_⟩))
local macro_rules | `(tactic| walk_at "fdi") => `(tactic| with_reducible first
  | refine di_list ?_ | refine di_range1 ?_ | refine di_range2 ?_ | refine di_range3 ?_ | refine di_str ?_ | refine di_items ?_ | refine di_values ?_ | refine di_keys ?_ | refine di_keysM ?_ | refine di_enum ?_)
local macro_rules | `(tactic| walk_at "ffld") => `(tactic| first
  | ((with_reducible refine fld_Committee_own_members ‹_› (dt_var (d := .obj "Committee" ?fs0) ?a1 ?a2)); (case a1 => rfl); refine ⟨_, _, rfl, rfl, ?_⟩)
  | ((with_reducible refine fld_Ranking_order ‹_› (dt_var (d := .obj "Ranking" ?fs0) ?a1 ?a2)); (case a1 => rfl); refine ⟨_, _, rfl, rfl, ?_⟩)
  | ((with_reducible refine fld_Ranking_places ‹_› (dt_var (d := .obj "Ranking" ?fs0) ?a1 ?a2)); (case a1 => rfl); refine ⟨_, _, rfl, rfl, ?_⟩)
  | ((with_reducible refine fld_Turns_order ‹_› (dt_var (d := .obj "Turns" ?fs0) ?a1 ?a2)); (case a1 => rfl); refine ⟨_, _, rfl, rfl, ?_⟩)
  | ((with_reducible refine fld_Game_own_rankings ‹_› (dt_var (d := .obj "Game" ?fs0) ?a1 ?a2)); (case a1 => rfl); refine ⟨_, _, rfl, rfl, ?_⟩)
  | ((with_reducible refine fld_Game_own_turns ‹_› (dt_var (d := .obj "Game" ?fs0) ?a1 ?a2)); (case a1 => rfl); refine ⟨_, _, rfl, rfl, ?_⟩))
local macro_rules | `(tactic| walk_at "fkit") => `(tactic| first
  | refine ⟨_, _, _, _, _, rfl, .str _, .ty _, kit_str_str ‹_›, ?_⟩
  | refine ⟨_, _, _, _, _, rfl, .int _, .ty _, kit_int_int ‹_›, ?_⟩
  | refine ⟨_, _, _, _, _, rfl, .lst _, .ty _, kit_list_list ‹_›, ?_⟩
  | refine ⟨_, _, _, _, _, rfl, .dic _, .ty _, kit_dict_dict ‹_›, ?_⟩
  | refine ⟨_, _, _, _, _, rfl, .obj _ _ (ins_Committee ‹_›), .glo _, kit_Committee_Committee ‹_›, ?_⟩
  | refine ⟨_, _, _, _, _, rfl, .obj _ _ (ins_Ranking ‹_›), .glo _, kit_Ranking_Ranking ‹_›, ?_⟩
  | refine ⟨_, _, _, _, _, rfl, .obj _ _ (ins_Turns ‹_›), .glo _, kit_Turns_Turns ‹_›, ?_⟩
  | refine ⟨_, _, _, _, _, rfl, .obj _ _ (ins_Game ‹_›), .glo _, kit_Game_Game ‹_›, ?_⟩
  | refine ⟨_, _, _, _, _, rfl, .non, .ty _, kit_NoneType_str ‹_›, ?_⟩
  | refine ⟨_, _, _, _, _, rfl, .int _, .ty _, kit_int_str ‹_›, ?_⟩
  | refine ⟨_, _, _, _, _, rfl, .lst _, .ty _, kit_list_str ‹_›, ?_⟩
  | refine ⟨_, _, _, _, _, rfl, .bl _, .ty _, kit_bool_str ‹_›, ?_⟩
  | refine ⟨_, _, _, _, _, rfl, .int _, .ty _, kit_int_bool ‹_›, ?_⟩
  | refine ⟨_, _, _, _, _, rfl, .bl _, .ty _, kit_bool_int ‹_›, ?_⟩
  | refine ⟨_, _, _, _, _, rfl, .bl _, .ty _, kit_bool_bool ‹_›, ?_⟩)
local macro_rules | `(tactic| walk_at "fw1") => `(tactic| first
  | ((with_reducible refine dt_var (d := ?d0) ?a1 ?a2); (case a1 => rfl))
  | (with_reducible first
    | refine dt_int ?_ | refine dt_str ?_ | refine dt_bl ?_ | refine dt_non ?_ | refine dt_ty ?_ | refine dt_glo ?_
    | refine da_cons ?_ | refine da_nil ?_ | refine da_star ?_ | refine dtt_b ?_ | refine dtt_test ?_ | refine dtt_yes ?_ | refine dtt_not ?_ | refine dtt_and ?_ | refine dtt_or ?_ 
    | refine ds_unlAsg ?_ | refine ds_seq ?_ | refine ds_next ?_ | refine ds_ret ?_ | refine ds_retN ?_
    | refine dt_andV ?_ | refine dt_orV ?_ | refine dt_notV ?_ | refine dt_if ?_ | refine dt_chain opd_le opd_le ?_ | refine dt_chain opd_lt opd_lt ?_
    | refine dt_indexS ?_ | refine dt_xf ?_ | refine ds_raiseX ?_ | refine ds_raise0 ?_ | refine dt_callE ?_ | refine dt_call0 ?_ | refine dt_prop ?_ | refine dt_make ?_ | refine dt_dget ?_ | refine dt_din ?_ | refine dt_dnotin ?_
    | refine (df_slL ?_).dt | refine do_none ?_ | refine do_some ?_ | refine (df_listVals ?_).dt | refine dt_stm ?_ | refine df_lst ?_ | refine df_cb caf_list ?_ | refine df_cb caf_listD ?_ | refine df_cb caf_dictD ?_ | refine df_cb caf_dictP ?_ | refine df_cb caf_sortedS ?_ | refine df_cb caf_sortedD ?_ | refine df_op opf_cat ?_ | refine df_listVals ?_ | refine df_make ?_ | refine df_slL ?_ | refine df_rev ?_ | refine (df_rev ?_).dt | refine df_dnew ?_ | refine dt_lst ?_ | refine dt_tup ?_ | refine (df_dnew ?_).dt)
  | ((with_reducible refine dt_methS 0 (x := ?x0) (fs := ?f0) ?a1 ?a2 ?a3); (case a1 => rfl); (case a2 => rfl)) | (with_reducible refine dt_meth0 ?_) | (with_reducible refine dt_methE ?_)
  | (with_reducible refine dt_un und_neg ?_)
  | ((with_reducible refine dt_inO 0 (ds := ?d0) ?a1 ?a2); (case a1 => rfl)) | ((with_reducible refine dt_lenO 0 (ds := ?d0) ?a1 ?a2); (case a1 => rfl)) | ((with_reducible refine dt_lenO 1 (ds := ?d0) ?a1 ?a2); (case a1 => rfl))
  | ((with_reducible refine dm_popAt 0 (ds := ?d0) ?a1 ?a2); (case a1 => rfl)) | ((with_reducible refine dm_popAt 1 (ds := ?d0) ?a1 ?a2); (case a1 => rfl)) | (with_reducible refine DT.dm ?_) | walk_at "fop" | walk_at "fcb" | walk_at "fdi"
  | ((with_reducible refine ds_asgE ?a1 ?a2 ?a3); (case a1 => walk_at "fno"); (case a2 => simp [startG])) | ((with_reducible refine ds_asg ?a1 ?a2); (case a1 => walk_at "fno")) | ((with_reducible refine ds_asgT ?a1 ?a2 ?a3); (case a1 => walk_at "fno"); (case a2 => walk_at "fno")) | ((with_reducible refine ds_append 0 (ds := ?d0) ?a1 ?a2); (case a1 => rfl)) | ((with_reducible refine ds_append 1 (ds := ?d0) ?a1 ?a2); (case a1 => rfl)) | (with_reducible refine ds_expr ?_) | ((with_reducible refine ds_par ?a1 ?a2 ?a3); (case a1 => walk_at "fno"); (case a2 => walk_at "fno"))
  | ((with_reducible refine dg_tup ?a1 ?a2); (case a1 => rfl)) | (with_reducible refine dgs_cons ?_) | (with_reducible refine dgs_nil ?_) | (with_reducible refine lct ?_) | (with_reducible refine dct ?_)
  | ((with_reducible refine dg_name ?a1 ?a2); (case a1 => walk_at "fno"))
  | walk_at "ffld" | walk_at "fex" | walk_at "fkit")
local macro_rules | `(tactic| walk_at "fw") => `(tactic| repeat (first | walk_at "fw1" | (with_reducible refine ds_if ?_)))
local macro_rules | `(tactic| walk_at "fwn") => `(tactic| repeat walk_at "fw1")

section

section
variable {P : Program} [PMain P] {w : World} {K : PySem.W.Frag} {mg : Str → Option Value} {base : Heap}
theorem cxK {CX : CXT} {N : List Str} {q : Str} {sc : Scope} {f : Addr} {cd : Value} {A : Around} {o : List Env} {s : Shared} {H : Hp} {E : XK} : (cxOf CX P w K mg base N q sc f cd A o s H E).K = K := rfl
end
theorem get_strs {ss : List Str} {i : Nat} {x : D} (h : (ss.map D.str)[i]? = some x) : ∃ s ∈ ss, x = .str s := by
  rw [List.getElem?_map] at h
  cases e : ss[i]? with
  | none => rw [e] at h; cases h
  | some s => rw [e] at h; cases h; exact ⟨s, List.mem_of_getElem? e, rfl⟩
theorem szOf {n : Nat} (h : n ≤ 1000) : n < sizeLine := Nat.lt_of_le_of_lt (Nat.le_trans h (by decide)) sizeL
section
variable {P : Program} [PMain P] {w : World} {K : PySem.W.Frag} {mg : Str → Option Value} {base : Heap}
def wt_is_name : Wt := fun ds kk _ => ∃ s : Str, ds = [.str s] ∧ s.length ≤ 1000 ∧ kk (.bl (isName s))
theorem ok_is_name (T : TX K mg) : Ok P w K mg base 1 (He.ga K "is_name") ["candidate"] (spD K wt_is_name) := by
  obtain ⟨fd, F⟩ := T.def_ 0 (d := d_is_name)
  obtain ⟨tk_MAX_LETTERS, g_MAX_LETTERS⟩ := T.int 12 (x := "MAX_LETTERS")
  obtain ⟨tk_LETTERS, g_LETTERS⟩ := T.str 13 (x := "LETTERS")
  refine ⟨⟨fd, fnD F sc_is_name (fun _ _ _ h => by obtain ⟨s, rfl, hl, hk⟩ := h; rfl) (fun cdv A outer s H E hr => ⟨_, (pss_cons (ps_if (PW.pt (pw_or (pt_not (pt_val (pe_callB (z_isi K) (by rfl) (T.free 0) (by decide +kernel) (pa_cons (pv 0) (pa_cons (pe_bltn (v := .ty "str") rfl (T.free 1) (by decide +kernel) rfl) pa_nil))))) (pw_or1 (pt_not (pt_chain op_le op_le pe_int (pe_callB (z_len K) (by rfl) (T.free 2) boot_len (pa_cons (pv 0) pa_nil)) (pe_glob (v := .int 8) rfl g_MAX_LETTERS ⟨_, rfl⟩)))))) (pss_one (ps_ret pe_bl)) pss_nil) (pss_one (ps_ret (pe_callB (z_all K rfl) (by rfl) (T.free 3) (by decide +kernel) (pa_cons (pe_lc (own := [("letter", 1)]) rfl sc_is_name.nd (pi_str (pv 0)) (blkOk_by (own := [("letter", 1)]) (N := N_is_name) (sc := defScope s_is_name) (by decide +kernel)) (fun _ _ _ _ _ => (pg_name (i := 1) sc_is_name.nd rfl (by first | exact Or.inl rfl | exact Or.inr rfl))) (fun _ _ _ _ _ => pts_nil) (fun _ _ _ _ _ => (pe_cmpR op_in_sign (pv 1) (pe_glob (v := .str "abcdefghijklmnopqrstuvwxyz") rfl g_LETTERS ⟨_, rfl⟩) (by rfl)))) pa_nil))))), fun ds kk ke h => ?_⟩), FunD.bindsN F fun _ _ _ _ _ _ us hl => match us, hl with | [_], _ => rfl⟩, F.kp⟩
  obtain ⟨s, rfl, hl, hk⟩ := h
  try dsimp only [cxK]
  walk_at "fw"
  refine ⟨_, .str _ (Nat.le_of_lt (szOf hl)), ?_⟩
  walk_at "fw"
  have fin : ∀ b : Bool, isName s = b → kk (.bl b) := fun b e => e ▸ hk
  refine ⟨fun h1 => ?_, fun h1 => ?_⟩
  · walk_at "fw"
    refine ⟨fun h2 => ?_, fun h2 => ?_⟩
    · walk_at "fw"
      exact fin _ (by
        unfold isName
        have h2' := (Bool.not_eq_true' _).mp h2; rw [h1, h2']; rfl)
    · walk_at "fw"
      refine (df_lcM [1] (fun c : Nat => D.str ⟨#[c]⟩) (fun c => .bl (decide (c ∈ LET.cps.toList))) (fun a b e => by cases e; rfl) (by decide) (by walk_at "fno") ?_).dt
      walk_at "fw"
      refine ⟨by show s.cps.size < sizeLine; exact szOf hl, fun c hc => ?_, ?_⟩
      · walk_at "fw"
        rfl
      · walk_at "fw"
        refine ⟨s.cps.toList.map fun c => decide (c ∈ LET.cps.toList), by rw [List.map_map]; rfl, ?_⟩
        exact fin _ (by unfold isName; have h2' := (Bool.not_eq_false' _).mp h2; rw [h1, h2', all_id]; rfl)
  · walk_at "fw"
    exact fin _ (by unfold isName; rw [h1]; rfl)
def wt_are_names : Wt := fun ds kk _ => ∃ ss : List Str, ds = [sl ss] ∧ ss.length ≤ 1000 ∧ (∀ s ∈ ss, s.length ≤ 1000) ∧ kk (.bl (ss.all isName))
theorem ok_are_names (T : TX K mg) : Ok P w K mg base 2 (He.ga K "are_names") ["candidate"] (spD K wt_are_names) := by
  obtain ⟨fd, F⟩ := T.def_ 1 (d := d_are_names)
  have k_is_name := ok_is_name (P := P) (w := w) (base := base) T
  refine ⟨⟨fd, fnD F sc_are_names (fun _ _ _ h => by obtain ⟨ss, rfl, hl, hs, hk⟩ := h; rfl) (fun cdv A outer s H E hr => ⟨_, (pss_one (ps_ret (pe_and (pe_callB (z_isi K) (by rfl) (T.free 0) (by decide +kernel) (pa_cons (pv 0) (pa_cons (pe_bltn (v := .ty "list") rfl (T.free 4) (by decide +kernel) rfl) pa_nil))) (pe_one (pe_callB (z_all K rfl) (by rfl) (T.free 3) (by decide +kernel) (pa_cons (pe_lc (own := [("name", 1)]) rfl sc_are_names.nd (z_plist K (pv 0)) (blkOk_by (own := [("name", 1)]) (N := N_are_names) (sc := defScope s_are_names) (by decide +kernel)) (fun _ _ _ _ _ => (pg_name (i := 1) sc_are_names.nd rfl (by first | exact Or.inl rfl | exact Or.inr rfl))) (fun _ _ _ _ _ => pts_nil) (fun _ _ _ _ _ => (q_call k_is_name hr (T.glo 5) (pa_cons (pv 1) pa_nil)))) pa_nil)))))), fun ds kk ke h => ?_⟩), FunD.bindsN F fun _ _ _ _ _ _ us hl => match us, hl with | [_], _ => rfl⟩, F.kp⟩
  obtain ⟨ss, rfl, hl, hs, hk⟩ := h
  try dsimp only [cxK]
  walk_at "fw"
  refine (df_lcM [1] D.str (fun s => .bl (isName s)) (fun a b e => by cases e; rfl) (by decide) (by walk_at "fno") ?_).dt
  walk_at "fw"
  refine ⟨szOf hl, fun s hm => ?_, ?_⟩
  · walk_at "fw"
    exact ⟨hs s hm, rfl⟩
  · walk_at "fw"
    refine ⟨ss.map isName, by rw [List.map_map]; rfl, ?_⟩
    rw [all_id]; exact hk
def wt_distinct : Wt := fun ds kk _ => ∃ ss : List Str, ds = [sl ss] ∧ ss.length ≤ 1000 ∧ (srt ss).length < 64 ∧ kk (sl (srt ss))
theorem ok_distinct (T : TX K mg) : Ok P w K mg base 1 (He.ga K "distinct") ["names"] (spD K wt_distinct) := by
  obtain ⟨fd, F⟩ := T.def_ 2 (d := d_distinct)
  refine ⟨⟨fd, fnD F sc_distinct (fun _ _ _ h => by obtain ⟨ss, rfl, hl, h64, hk⟩ := h; rfl) (fun cdv A outer s H E hr => ⟨_, (pss_one (ps_ret (pe_callB (call_sortedD rfl) (by rfl) (T.free 6) (by decide +kernel) (pa_cons (pe_dc (own := [("name", 1)]) rfl sc_distinct.nd (z_plist K (pv 0)) (blkOk_by (own := [("name", 1)]) (N := N_distinct) (sc := defScope s_distinct) (by decide +kernel)) (fun _ _ _ _ _ => (pg_name (i := 1) sc_distinct.nd rfl (by first | exact Or.inl rfl | exact Or.inr rfl))) (fun _ _ _ _ _ => pts_nil) (fun _ _ _ _ _ => (pv 1)) (fun _ _ _ _ _ => pe_bl)) pa_nil)))), fun ds kk ke h => ?_⟩), FunD.bindsN F fun _ _ _ _ _ _ us hl => match us, hl with | [_], _ => rfl⟩, F.kp⟩
  obtain ⟨ss, rfl, hl, h64, hk⟩ := h
  try dsimp only [cxK]
  walk_at "fw"
  refine (df_dcM [1] D.str (fun s => ((.inr s : Key), .bl true)) (fun a b e => by cases e; rfl) (by decide) (by walk_at "fno") ?_).dt
  walk_at "fw"
  refine ⟨szOf hl, fun s hm => ?_, ?_⟩
  · walk_at "fw"
    exact ⟨.inr s, rfl, rfl⟩
  · walk_at "fw"
    obtain ⟨ts, t1, t2, t3⟩ := merge_strs (fun _ => .bl true) ss
    refine ⟨_, ts, rfl, t1, by rw [ts_len t2 t3]; exact h64, fun ys p so => ?_⟩
    rw [ts_srt t2 t3 p so]; exact hk
def wt_Committee_init : WtI := fun ds kk _ => ∃ ss : List Str, ds = [sl ss] ∧ ss.length ≤ 1000 ∧ (∀ s ∈ ss, isName s = true) ∧ (srt ss).length ≤ 30 ∧ kk [("own_members", sl (srt ss))]
theorem ok_Committee_init (T : TX K mg) : Ok P w K mg base 3 (He.ma K (He.ga K "Committee") "__init__") ["self", "names"] (spI K "Committee" wt_Committee_init) := by
  obtain ⟨fd, F⟩ := T.def_ 3 (d := d_Committee_init)
  obtain ⟨tk_MAX_NAMES, g_MAX_NAMES⟩ := T.int 14 (x := "MAX_NAMES")
  have k_are_names := ok_are_names (P := P) (w := w) (base := base) T
  have k_distinct := ok_distinct (P := P) (w := w) (base := base) T
  refine ⟨⟨fd, fnI F sc_Committee_init (by decide) (fun _ _ _ h => by obtain ⟨ss, rfl, hl, hs, h30, hk⟩ := h; rfl) (fun cdv A outer s H E hr => ⟨_, (pss_cons (ps_if (PW.pt (pw_or (pt_not (pt_val (q_call k_are_names hr (T.glo 7) (pa_cons (pv 1) pa_nil)))) (pw_or1 (pt_cmpR op_gt (pe_callB (z_len K) (by rfl) (T.free 2) boot_len (pa_cons (q_call k_distinct hr (T.glo 8) (pa_cons (pv 1) pa_nil)) pa_nil)) (pe_glob (v := .int 30) rfl g_MAX_NAMES ⟨_, rfl⟩) (nomark _))))) (pss_one ps_never) pss_nil) (pss_one (ps_fld (pv 0) (q_call k_distinct hr (T.glo 8) (pa_cons (pv 1) pa_nil)) rfl))), fun x ds kk ke h => ?_⟩), FunD.bindsN F fun _ _ _ _ _ _ us hl => match us, hl with | [_, _], _ => rfl⟩, F.kp⟩
  obtain ⟨ss, rfl, hl, hs, h30, hk⟩ := h
  try dsimp only [cxK]
  walk_at "fw"
  have ha : ss.all isName = true := List.all_eq_true.mpr hs
  refine ⟨hl, fun s m => Nat.le_trans (isName_len (hs s m)) (by decide), ?_⟩
  rw [ha]
  walk_at "fw"
  refine ⟨hl, by omega, ?_⟩
  walk_at "fw"
  refine ⟨fun h => ?_, fun h => ?_⟩
  · refine ds_never (P := True) ?_
    rw [List.length_map] at h
    have := of_decide_eq_true h
    omega
  · walk_at "fw"
    refine ds_fldS 0 (T.cls 9) (T.noat 10) rfl (by decide) ?_
    walk_at "fw"
    refine ⟨hl, by omega, ?_⟩
    exact ⟨_, rfl, hk⟩
/-- a committee of these, in order -/
abbrev cm (ss : List Str) : D := .obj "Committee" [("own_members", sl ss)]
def wt_Committee_members : Wt := fun ds kk _ => ∃ ss : List Str, ds = [cm ss] ∧ kk (sl ss)
theorem ok_Committee_members (T : TX K mg) : Ok P w K mg base 1 (getter K (He.ga K "Committee") "members") ["self"] (spD K wt_Committee_members) := by
  obtain ⟨fd, F⟩ := T.def_ 4 (d := d_Committee_members)
  refine ⟨⟨fd, fnD F sc_Committee_members (fun _ _ _ h => by obtain ⟨ss, rfl, hk⟩ := h; rfl) (fun cdv A outer s H E hr => ⟨_, (pss_one (ps_ret (pe_callTy (z_listof K) (by rfl) (T.free 4) (by decide +kernel) (pa_cons (z_fld K (pv 0)) pa_nil)))), fun ds kk ke h => ?_⟩), FunD.bindsN F fun _ _ _ _ _ _ us hl => match us, hl with | [_], _ => rfl⟩, F.kp⟩
  obtain ⟨ss, rfl, hk⟩ := h
  try dsimp only [cxK]
  walk_at "fw"
  exact hk
def wt_Committee_len : Wt := fun ds kk _ => ∃ ss : List Str, ds = [cm ss] ∧ kk (.int (ss.length : Nat))
theorem ok_Committee_len (T : TX K mg) : Ok P w K mg base 1 (He.ma K (He.ga K "Committee") "__len__") ["self"] (spD K wt_Committee_len) := by
  obtain ⟨fd, F⟩ := T.def_ 5 (d := d_Committee_len)
  refine ⟨⟨fd, fnD F sc_Committee_len (fun _ _ _ h => by obtain ⟨ss, rfl, hk⟩ := h; rfl) (fun cdv A outer s H E hr => ⟨_, (pss_one (ps_ret (pe_callB (z_len K) (by rfl) (T.free 2) boot_len (pa_cons (z_fld K (pv 0)) pa_nil)))), fun ds kk ke h => ?_⟩), FunD.bindsN F fun _ _ _ _ _ _ us hl => match us, hl with | [_], _ => rfl⟩, F.kp⟩
  obtain ⟨ss, rfl, hk⟩ := h
  try dsimp only [cxK]
  walk_at "fw"
  rw [List.length_map]; exact hk
def wt_Committee_eq : Wt := fun ds kk _ => ∃ ss ts : List Str, ds = [cm ss, cm ts] ∧ (∀ s ∈ ss, isName s = true) ∧ (∀ s ∈ ts, isName s = true) ∧ kk (.bl (decide (ss = ts)))
theorem ok_Committee_eq (T : TX K mg) : Ok P w K mg base 1 (He.ma K (He.ga K "Committee") "__eq__") ["self", "other"] (spD K wt_Committee_eq) := by
  obtain ⟨fd, F⟩ := T.def_ 6 (d := d_Committee_eq)
  refine ⟨⟨fd, fnD F sc_Committee_eq (fun _ _ _ h => by obtain ⟨ss, ts, rfl, h1, h2, hk⟩ := h; rfl) (fun cdv A outer s H E hr => ⟨_, (pss_one (ps_ret (pe_and (pe_callB (z_isi K) (by rfl) (T.free 0) (by decide +kernel) (pa_cons (pv 1) (pa_cons (pe_glob (v := .ref (He.ga K "Committee")) rfl (T.glo 11) rfl) pa_nil))) (pe_one (pe_cmpR (z_eqD K hr) (z_fld K (pv 0)) (z_fld K (pv 1)) (nomark _)))))), fun ds kk ke h => ?_⟩), FunD.bindsN F fun _ _ _ _ _ _ us hl => match us, hl with | [_, _], _ => rfl⟩, F.kp⟩
  obtain ⟨ss, ts, rfl, h1, h2, hk⟩ := h
  try dsimp only [cxK]
  walk_at "fw"
  exact ⟨_, _, pd_sl ss, pd_sl ts, shaped_sl h1, shaped_sl h2, by rw [eqv_sl]; exact hk⟩
end
end

set_option maxHeartbeats 4000000
/-! The program's defs: names, committees, rankings. -/

section

section
variable {P : Program} [PMain P] {w : World} {K : PySem.W.Frag} {mg : Str → Option Value} {base : Heap}
def wt_Ranking_init : WtI := fun ds kk _ => ∃ ss : List Str, ds = [sl ss] ∧ ss.length ≤ 30 ∧ (∀ s ∈ ss, isName s = true) ∧ ss.Nodup ∧ kk [("order", sl ss), ("places", .dic (plc ss))]
theorem ok_Ranking_init (T : TX K mg) : Ok P w K mg base 3 (He.ma K (He.ga K "Ranking") "__init__") ["self", "alternatives"] (spI K "Ranking" wt_Ranking_init) := by
  obtain ⟨fd, F⟩ := T.def_ 7 (d := d_Ranking_init)
  obtain ⟨tk_MAX_NAMES, g_MAX_NAMES⟩ := T.int 14 (x := "MAX_NAMES")
  have k_are_names := ok_are_names (P := P) (w := w) (base := base) T
  have k_distinct := ok_distinct (P := P) (w := w) (base := base) T
  refine ⟨⟨fd, fnI F sc_Ranking_init (by decide) (fun _ _ _ h => by obtain ⟨ss, rfl, h30, hs, hn, hk⟩ := h; rfl) (fun cdv A outer s H E hr => ⟨_, (pss_cons (ps_if (PW.pt (pw_or (pt_not (pt_val (q_call k_are_names hr (T.glo 7) (pa_cons (pv 1) pa_nil)))) (pw_or1 (pt_cmpR op_gt (pe_callB (z_len K) (by rfl) (T.free 2) boot_len (pa_cons (pv 1) pa_nil)) (pe_glob (v := .int 30) rfl g_MAX_NAMES ⟨_, rfl⟩) (nomark _))))) (pss_one ps_never) pss_nil) (pss_cons (ps_if (pt_cmpR op_ne (pe_callB (z_len K) (by rfl) (T.free 2) boot_len (pa_cons (q_call k_distinct hr (T.glo 8) (pa_cons (pv 1) pa_nil)) pa_nil)) (pe_callB (z_len K) (by rfl) (T.free 2) boot_len (pa_cons (pv 1) pa_nil)) (nomark _)) (pss_one ps_never) pss_nil) (pss_cons (ps_fld (pv 0) (pe_callTy (z_listof K) (by rfl) (T.free 4) (by decide +kernel) (pa_cons (pv 1) pa_nil)) rfl) (pss_one (ps_fld (pv 0) (pe_dc (own := [("place", 2), ("name", 3)]) rfl sc_Ranking_init.nd (pi_enum (by rfl) (T.free 17) (pa_cons (z_fld K (pv 0)) pa_nil)) (blkOk_by (own := [("place", 2), ("name", 3)]) (N := N_Ranking_init) (sc := defScope s_Ranking_init) (by decide +kernel)) (fun _ _ _ _ _ => (q_tup (n := 2) K rfl rfl (pgs_cons (pg_name (i := 2) sc_Ranking_init.nd rfl (by first | exact Or.inl rfl | exact Or.inr rfl)) (pgs_cons (pg_name (i := 3) sc_Ranking_init.nd rfl (by first | exact Or.inl rfl | exact Or.inr rfl)) pgs_nil)))) (fun _ _ _ _ _ => pts_nil) (fun _ _ _ _ _ => (pv 3)) (fun _ _ _ _ _ => (pv 2))) rfl))))), fun x ds kk ke h => ?_⟩), FunD.bindsN F fun _ _ _ _ _ _ us hl => match us, hl with | [_, _], _ => rfl⟩, F.kp⟩
  obtain ⟨ss, rfl, h30, hs, hn, hk⟩ := h
  try dsimp only [cxK]
  walk_at "fw"
  have ha : ss.all isName = true := List.all_eq_true.mpr hs
  have hq : (srt ss).length = ss.length := srt_len hn
  refine ⟨by omega, fun s m => Nat.le_trans (isName_len (hs s m)) (by decide), ?_⟩
  rw [ha]
  walk_at "fw"
  refine ⟨fun h => ?_, fun h => ?_⟩
  · refine ds_never (P := True) ?_
    rw [List.length_map] at h
    have := of_decide_eq_true h
    omega
  · walk_at "fw"
    refine ⟨by omega, by omega, ?_⟩
    walk_at "fw"
    refine ⟨fun h => ?_, fun h => ?_⟩
    · refine ds_never (P := True) ?_
      rw [List.length_map, List.length_map, hq] at h
      simp [D.v] at h
    · walk_at "fw"
      refine ds_fldS 0 (T.cls 15) (T.noat 16) rfl (by decide) ?_
      walk_at "fw"
      refine ds_fldS 0 (T.cls 15) (T.noat 18) rfl (by exact (by decide : 1 < 1000)) ?_
      refine (df_dcM ([2] ++ ([3] ++ [])) (fun p : Str × Nat => D.tup [.int (p.2 : Nat), .str p.1]) (fun p => ((.inr p.1 : Key), .int (p.2 : Nat))) (fun a b e => by cases a; cases b; cases e; rfl) (by decide) (by walk_at "fno") ?_).dt
      walk_at "fw"
      refine dt_fldS 0 (T.cls 15) (T.noat 16) rfl rfl ?_
      walk_at "fw"
      refine ⟨ss.zipIdx, enum_strs ss, by rw [List.length_zipIdx]; exact szOf (by omega), fun p hp => ?_, ?_⟩
      · walk_at "fw"
        exact ⟨.inr p.1, rfl, rfl⟩
      · rw [plc_merge hn]
        exact ⟨_, rfl, hk⟩
def wt_Ranking_alternatives : Wt := fun ds kk _ => ∃ ss : List Str, ds = [rk ss] ∧ kk (sl ss)
theorem ok_Ranking_alternatives (T : TX K mg) : Ok P w K mg base 1 (getter K (He.ga K "Ranking") "alternatives") ["self"] (spD K wt_Ranking_alternatives) := by
  obtain ⟨fd, F⟩ := T.def_ 8 (d := d_Ranking_alternatives)
  refine ⟨⟨fd, fnD F sc_Ranking_alternatives (fun _ _ _ h => by obtain ⟨ss, rfl, hk⟩ := h; rfl) (fun cdv A outer s H E hr => ⟨_, (pss_one (ps_ret (pe_callTy (z_listof K) (by rfl) (T.free 4) (by decide +kernel) (pa_cons (z_fld K (pv 0)) pa_nil)))), fun ds kk ke h => ?_⟩), FunD.bindsN F fun _ _ _ _ _ _ us hl => match us, hl with | [_], _ => rfl⟩, F.kp⟩
  obtain ⟨ss, rfl, hk⟩ := h
  try dsimp only [cxK]
  walk_at "fw"
  exact hk
def wt_Ranking_len : Wt := fun ds kk _ => ∃ ss : List Str, ds = [rk ss] ∧ kk (.int (ss.length : Nat))
theorem ok_Ranking_len (T : TX K mg) : Ok P w K mg base 1 (He.ma K (He.ga K "Ranking") "__len__") ["self"] (spD K wt_Ranking_len) := by
  obtain ⟨fd, F⟩ := T.def_ 9 (d := d_Ranking_len)
  refine ⟨⟨fd, fnD F sc_Ranking_len (fun _ _ _ h => by obtain ⟨ss, rfl, hk⟩ := h; rfl) (fun cdv A outer s H E hr => ⟨_, (pss_one (ps_ret (pe_callB (z_len K) (by rfl) (T.free 2) boot_len (pa_cons (z_fld K (pv 0)) pa_nil)))), fun ds kk ke h => ?_⟩), FunD.bindsN F fun _ _ _ _ _ _ us hl => match us, hl with | [_], _ => rfl⟩, F.kp⟩
  obtain ⟨ss, rfl, hk⟩ := h
  try dsimp only [cxK]
  walk_at "fw"
  rw [List.length_map]; exact hk
def wt_Ranking_contains : Wt := fun ds kk _ => ∃ (ss : List Str) (x : Str), ds = [rk ss, .str x] ∧ x.length ≤ 1000 ∧ kk (.bl (isName x && decide (x ∈ ss)))
theorem ok_Ranking_contains (T : TX K mg) : Ok P w K mg base 2 (He.ma K (He.ga K "Ranking") "__contains__") ["self", "name"] (spD K wt_Ranking_contains) := by
  obtain ⟨fd, F⟩ := T.def_ 10 (d := d_Ranking_contains)
  have k_is_name := ok_is_name (P := P) (w := w) (base := base) T
  refine ⟨⟨fd, fnD F sc_Ranking_contains (fun _ _ _ h => by obtain ⟨ss, x, rfl, hl, hk⟩ := h; rfl) (fun cdv A outer s H E hr => ⟨_, (pss_one (ps_ret (pe_and (q_call k_is_name hr (T.glo 5) (pa_cons (pv 1) pa_nil)) (pe_one (pe_cmp (q_din hr (pv 1) (z_fld K (pv 0))) rfl))))), fun ds kk ke h => ?_⟩), FunD.bindsN F fun _ _ _ _ _ _ us hl => match us, hl with | [_, _], _ => rfl⟩, F.kp⟩
  obtain ⟨ss, x, rfl, hl, hk⟩ := h
  try dsimp only [cxK]
  walk_at "fw"
  refine ⟨hl, ?_⟩
  walk_at "fw"
  refine ⟨fun h => ?_, fun h => ?_⟩
  · walk_at "fw"
    refine ⟨_, .inr x, rfl, rfl, ?_⟩
    have e : (getD (plc ss) (.inr x)).isSome = decide (x ∈ ss) := by
      rw [Bool.eq_iff_iff, getD_is, plc_keys, key_mem, decide_eq_true_eq]
    rw [e]
    rw [h, Bool.true_and] at hk
    exact hk
  · rw [h, Bool.false_and] at hk
    exact hk
def wt_members_known : Wt := fun ds kk _ => ∃ ss ts : List Str, ds = [rk ss, cm ts] ∧ (∀ s ∈ ts, isName s = true ∧ s ∈ ss) ∧ kk .non
theorem ok_members_known (T : TX K mg) : Ok P w K mg base 3 (He.ga K "members_known") ["ranking", "committee"] (spD K wt_members_known) := by
  obtain ⟨fd, F⟩ := T.def_ 11 (d := d_members_known)
  have k_Committee_members := ok_Committee_members (P := P) (w := w) (base := base) T
  have k_Ranking_contains := ok_Ranking_contains (P := P) (w := w) (base := base) T
  refine ⟨⟨fd, fnD F sc_members_known (fun _ _ _ h => by obtain ⟨ss, ts, rfl, hs, hk⟩ := h; rfl) (fun cdv A outer s H E hr => ⟨_, (pss_one (ps_for (passes_of rfl) rfl (z_plist K (q_prop k_Committee_members (pv 1) (T.cls 9) (T.prop 19) hr)) (pg_name (i := 2) sc_members_known.nd rfl (by first | exact Or.inl rfl | exact Or.inr rfl)) (pss_one (ps_if (pt_cmpR (q_notin k_Ranking_contains (T.meth 20) hr) (pv 2) (pv 0) (by rfl)) (pss_one ps_never) pss_nil)))), fun ds kk ke h => ?_⟩), FunD.bindsN F fun _ _ _ _ _ _ us hl => match us, hl with | [_, _], _ => rfl⟩, F.kp⟩
  obtain ⟨ss, ts, rfl, hs, hk⟩ := h
  try dsimp only [cxK]
  walk_at "fw"
  refine ds_for [2] (fun _ _ G' O' => O' = [] ∧ ∃ g, G' = [some (rk ss), some (cm ts), g]) ?_
  walk_at "fw"
  refine ⟨⟨rfl, _, rfl⟩, fun i a G' O' hi hP => ?_, fun G' O' hP => hk⟩
  obtain ⟨rfl, g, rfl⟩ := hP
  obtain ⟨s, hm, rfl⟩ := get_strs hi
  obtain ⟨n1, n2⟩ := hs s hm
  walk_at "fw"
  refine ⟨Nat.le_trans (isName_len n1) (by decide), ?_⟩
  rw [n1, decide_eq_true n2, Bool.true_and]
  walk_at "fw"
  exact ⟨rfl, _, rfl⟩
def wt_as_committee : Wt := fun ds kk _ => ∃ ss : List Str, ds = [rk ss] ∧ ss.length ≤ 30 ∧ (∀ s ∈ ss, isName s = true) ∧ kk (cm (srt ss))
theorem ok_as_committee (T : TX K mg) : Ok P w K mg base 5 (He.ga K "as_committee") ["ranking"] (spD K wt_as_committee) := by
  obtain ⟨fd, F⟩ := T.def_ 12 (d := d_as_committee)
  have k_Committee_init := ok_Committee_init (P := P) (w := w) (base := base) T
  have k_Ranking_alternatives := ok_Ranking_alternatives (P := P) (w := w) (base := base) T
  refine ⟨⟨fd, fnD F sc_as_committee (fun _ _ _ h => by obtain ⟨ss, rfl, h30, hs, hk⟩ := h; rfl) (fun cdv A outer s H E hr => ⟨_, (pss_one (ps_ret (q_make k_Committee_init (T.mkr 21) hr (T.glo 11) (pa_cons (q_prop k_Ranking_alternatives (pv 0) (T.cls 15) (T.prop 22) hr) pa_nil)))), fun ds kk ke h => ?_⟩), FunD.bindsN F fun _ _ _ _ _ _ us hl => match us, hl with | [_], _ => rfl⟩, F.kp⟩
  obtain ⟨ss, rfl, h30, hs, hk⟩ := h
  try dsimp only [cxK]
  walk_at "fw"
  exact ⟨by omega, hs, Nat.le_trans (srt_le ss) h30, hk⟩
end
end

set_option maxHeartbeats 4000000
/-! The program's defs: turns, games, groups. -/

section

section
variable {P : Program} [PMain P] {w : World} {K : PySem.W.Frag} {mg : Str → Option Value} {base : Heap}
def wt_Turns_init : WtI := fun ds kk _ => ∃ ss : List Str, ds = [sl ss] ∧ ss.length ≤ 30 ∧ (∀ s ∈ ss, isName s = true) ∧ kk [("order", sl ss)]
theorem ok_Turns_init (T : TX K mg) : Ok P w K mg base 3 (He.ma K (He.ga K "Turns") "__init__") ["self", "players"] (spI K "Turns" wt_Turns_init) := by
  obtain ⟨fd, F⟩ := T.def_ 14 (d := d_Turns_init)
  obtain ⟨tk_MAX_NAMES, g_MAX_NAMES⟩ := T.int 14 (x := "MAX_NAMES")
  have k_are_names := ok_are_names (P := P) (w := w) (base := base) T
  refine ⟨⟨fd, fnI F sc_Turns_init (by decide) (fun _ _ _ h => by obtain ⟨ss, rfl, h30, hs, hk⟩ := h; rfl) (fun cdv A outer s H E hr => ⟨_, (pss_cons (ps_if (PW.pt (pw_or (pt_not (pt_val (q_call k_are_names hr (T.glo 7) (pa_cons (pv 1) pa_nil)))) (pw_or1 (pt_cmpR op_gt (pe_callB (z_len K) (by rfl) (T.free 2) boot_len (pa_cons (pv 1) pa_nil)) (pe_glob (v := .int 30) rfl g_MAX_NAMES ⟨_, rfl⟩) (nomark _))))) (pss_one ps_never) pss_nil) (pss_one (ps_fld (pv 0) (pe_callTy (z_listof K) (by rfl) (T.free 4) (by decide +kernel) (pa_cons (pv 1) pa_nil)) rfl))), fun x ds kk ke h => ?_⟩), FunD.bindsN F fun _ _ _ _ _ _ us hl => match us, hl with | [_, _], _ => rfl⟩, F.kp⟩
  obtain ⟨ss, rfl, h30, hs, hk⟩ := h
  try dsimp only [cxK]
  walk_at "fw"
  have ha : ss.all isName = true := List.all_eq_true.mpr hs
  refine ⟨by omega, fun s m => Nat.le_trans (isName_len (hs s m)) (by decide), ?_⟩
  rw [ha]
  walk_at "fw"
  refine ⟨fun h => ?_, fun h => ?_⟩
  · refine ds_never (P := True) ?_
    rw [List.length_map] at h
    have := of_decide_eq_true h
    omega
  · walk_at "fw"
    refine ds_fldS 0 (T.cls 23) (T.noat 24) rfl (by decide) ?_
    walk_at "fw"
    exact hk
def wt_Turns_players : Wt := fun ds kk _ => ∃ ss : List Str, ds = [tn ss] ∧ kk (sl ss)
theorem ok_Turns_players (T : TX K mg) : Ok P w K mg base 1 (getter K (He.ga K "Turns") "players") ["self"] (spD K wt_Turns_players) := by
  obtain ⟨fd, F⟩ := T.def_ 15 (d := d_Turns_players)
  refine ⟨⟨fd, fnD F sc_Turns_players (fun _ _ _ h => by obtain ⟨ss, rfl, hk⟩ := h; rfl) (fun cdv A outer s H E hr => ⟨_, (pss_one (ps_ret (pe_callTy (z_listof K) (by rfl) (T.free 4) (by decide +kernel) (pa_cons (z_fld K (pv 0)) pa_nil)))), fun ds kk ke h => ?_⟩), FunD.bindsN F fun _ _ _ _ _ _ us hl => match us, hl with | [_], _ => rfl⟩, F.kp⟩
  obtain ⟨ss, rfl, hk⟩ := h
  try dsimp only [cxK]
  walk_at "fw"
  exact hk
def wt_Turns_len : Wt := fun ds kk _ => ∃ ss : List Str, ds = [tn ss] ∧ kk (.int (ss.length : Nat))
theorem ok_Turns_len (T : TX K mg) : Ok P w K mg base 1 (He.ma K (He.ga K "Turns") "__len__") ["self"] (spD K wt_Turns_len) := by
  obtain ⟨fd, F⟩ := T.def_ 16 (d := d_Turns_len)
  refine ⟨⟨fd, fnD F sc_Turns_len (fun _ _ _ h => by obtain ⟨ss, rfl, hk⟩ := h; rfl) (fun cdv A outer s H E hr => ⟨_, (pss_one (ps_ret (pe_callB (z_len K) (by rfl) (T.free 2) boot_len (pa_cons (z_fld K (pv 0)) pa_nil)))), fun ds kk ke h => ?_⟩), FunD.bindsN F fun _ _ _ _ _ _ us hl => match us, hl with | [_], _ => rfl⟩, F.kp⟩
  obtain ⟨ss, rfl, hk⟩ := h
  try dsimp only [cxK]
  walk_at "fw"
  rw [List.length_map]; exact hk
/-- a game, or one on the way -/
abbrev gmX (rs : List (Str × List Str)) (more : List (Str × D)) : D := .obj "Game" (("own_rankings", .dic (rks rs)) :: more)
theorem atI_0 {α : Type} (x : α) (xs : List α) : atI (x :: xs) 0 = some x := by
  unfold atI
  have e : ixN (x :: xs).length 0 = some 0 := by
    unfold ixN
    rw [List.length_cons]
    simp
  rw [e]; rfl
abbrev Fr (more : List (Str × D)) : Prop := more.lookup ("first_ranking" : Str) = none
theorem fr_look {d : D} {more : List (Str × D)} (h : Fr more) : ((("own_rankings" : Str), d) :: more).lookup ("first_ranking" : Str) = none := by
  rw [List.lookup_cons, show (("first_ranking" : Str) == "own_rankings") = false from by decide +kernel]; exact h
theorem all_tt {α : Type} (xs : List α) : (xs.map fun _ => true).all id = true := by
  rw [all_id]; exact List.all_eq_true.mpr fun _ _ => rfl
theorem map_tt {α : Type} (xs : List α) : (xs.map fun _ => true).map D.bl = xs.map fun _ => D.bl true := by rw [List.map_map]; rfl
def wt_Game_first_ranking : Wt := fun ds kk _ => ∃ (q : Str × List Str) (r : List (Str × List Str)) (more : List (Str × D)), ds = [gmX (q :: r) more] ∧ kk (rk q.2)
theorem ok_Game_first_ranking (T : TX K mg) : Ok P w K mg base 1 (He.ma K (He.ga K "Game") "first_ranking") ["self"] (spD K wt_Game_first_ranking) := by
  obtain ⟨fd, F⟩ := T.def_ 17 (d := d_Game_first_ranking)
  refine ⟨⟨fd, fnD F sc_Game_first_ranking (fun _ _ _ h => by obtain ⟨q, r, more, rfl, hk⟩ := h; rfl) (fun cdv A outer s H E hr => ⟨_, (pss_one (ps_ret (pe_ix (z_ixL K) (pe_listVals rfl (z_fld K (pv 0)) (by rfl) (T.free 4) (by decide +kernel)) pe_int (fun _ _ => rfl)))), fun ds kk ke h => ?_⟩), FunD.bindsN F fun _ _ _ _ _ _ us hl => match us, hl with | [_], _ => rfl⟩, F.kp⟩
  obtain ⟨q, r, more, rfl, hk⟩ := h
  try dsimp only [cxK]
  walk_at "fw"
  exact ⟨_, _, rk q.2, rfl, rfl, by unfold rks; rw [List.map_cons, List.map_cons]; exact atI_0 _ _, hk⟩
def wt_Game_rankings : Wt := fun ds kk _ => ∃ (rs : List (Str × List Str)) (more : List (Str × D)), ds = [gmX rs more] ∧ kk (.dic (rks rs))
theorem ok_Game_rankings (T : TX K mg) : Ok P w K mg base 1 (getter K (He.ga K "Game") "rankings") ["self"] (spD K wt_Game_rankings) := by
  obtain ⟨fd, F⟩ := T.def_ 18 (d := d_Game_rankings)
  refine ⟨⟨fd, fnD F sc_Game_rankings (fun _ _ _ h => by obtain ⟨rs, more, rfl, hk⟩ := h; rfl) (fun cdv A outer s H E hr => ⟨_, (pss_one (ps_ret (pe_callTy (call_dictD) (by rfl) (T.free 27) (by decide +kernel) (pa_cons (z_fld K (pv 0)) pa_nil)))), fun ds kk ke h => ?_⟩), FunD.bindsN F fun _ _ _ _ _ _ us hl => match us, hl with | [_], _ => rfl⟩, F.kp⟩
  obtain ⟨rs, more, rfl, hk⟩ := h
  try dsimp only [cxK]
  walk_at "fw"
  exact hk
def wt_Game_turns : Wt := fun ds kk _ => ∃ (rs : List (Str × List Str)) (ts : List Str), ds = [gm rs ts] ∧ kk (tn ts)
theorem ok_Game_turns (T : TX K mg) : Ok P w K mg base 1 (getter K (He.ga K "Game") "turns") ["self"] (spD K wt_Game_turns) := by
  obtain ⟨fd, F⟩ := T.def_ 19 (d := d_Game_turns)
  refine ⟨⟨fd, fnD F sc_Game_turns (fun _ _ _ h => by obtain ⟨rs, ts, rfl, hk⟩ := h; rfl) (fun cdv A outer s H E hr => ⟨_, (pss_one (ps_ret (z_fld K (pv 0)))), fun ds kk ke h => ?_⟩), FunD.bindsN F fun _ _ _ _ _ _ us hl => match us, hl with | [_], _ => rfl⟩, F.kp⟩
  obtain ⟨rs, ts, rfl, hk⟩ := h
  try dsimp only [cxK]
  walk_at "fw"
  exact hk
def wt_Game_alternatives : Wt := fun ds kk _ => ∃ (q : Str × List Str) (r : List (Str × List Str)) (more : List (Str × D)), ds = [gmX (q :: r) more] ∧ Fr more ∧ q.2.length ≤ 30 ∧ (∀ s ∈ q.2, isName s = true) ∧ kk (cm (srt q.2))
theorem ok_Game_alternatives (T : TX K mg) : Ok P w K mg base 6 (getter K (He.ga K "Game") "alternatives") ["self"] (spD K wt_Game_alternatives) := by
  obtain ⟨fd, F⟩ := T.def_ 20 (d := d_Game_alternatives)
  have k_Game_first_ranking := ok_Game_first_ranking (P := P) (w := w) (base := base) T
  have k_as_committee := ok_as_committee (P := P) (w := w) (base := base) T
  refine ⟨⟨fd, fnD F sc_Game_alternatives (fun _ _ _ h => by obtain ⟨q, r, more, rfl, hmr, h30, hs, hk⟩ := h; rfl) (fun cdv A outer s H E hr => ⟨_, (pss_one (ps_ret (q_call k_as_committee hr (T.glo 29) (pa_cons (q_meth0 k_Game_first_ranking (pv 0) (T.cls 25) (T.meth 30) hr) pa_nil)))), fun ds kk ke h => ?_⟩), FunD.bindsN F fun _ _ _ _ _ _ us hl => match us, hl with | [_], _ => rfl⟩, F.kp⟩
  obtain ⟨q, r, more, rfl, hmr, h30, hs, hk⟩ := h
  try dsimp only [cxK]
  walk_at "fw"
  refine ⟨fr_look hmr, ?_⟩
  walk_at "fw"
  exact ⟨h30, hs, hk⟩
def wt_Game_ranking_of : Wt := fun ds kk _ => ∃ (rs : List (Str × List Str)) (more : List (Str × D)) (p : Str), ds = [gmX rs more, .str p] ∧ isName p = true ∧ p ∈ rs.map Prod.fst ∧ kk (rk (lk rs p))
theorem ok_Game_ranking_of (T : TX K mg) : Ok P w K mg base 2 (He.ma K (He.ga K "Game") "ranking_of") ["self", "player"] (spD K wt_Game_ranking_of) := by
  obtain ⟨fd, F⟩ := T.def_ 21 (d := d_Game_ranking_of)
  have k_is_name := ok_is_name (P := P) (w := w) (base := base) T
  refine ⟨⟨fd, fnD F sc_Game_ranking_of (fun _ _ _ h => by obtain ⟨rs, more, p, rfl, hn, hp, hk⟩ := h; rfl) (fun cdv A outer s H E hr => ⟨_, (pss_cons (ps_if (PW.pt (pw_or (pt_not (pt_val (q_call k_is_name hr (T.glo 5) (pa_cons (pv 1) pa_nil)))) (pw_or1 (pt_cmp (q_dnotin hr (pv 1) (z_fld K (pv 0))) rfl)))) (pss_one (z_raiseX (T.exi 31 32 13 (c := "UnknownName") (f := "name") (qual := "UnknownName.__init__") (b := .lookup) (st := s_UnknownName_init)) xb_UnknownName hr (T.glo 33) (pv 1))) pss_nil) (pss_one (ps_ret (q_dget hr (z_fld K (pv 0)) (pv 1) (fun _ _ => rfl))))), fun ds kk ke h => ?_⟩), FunD.bindsN F fun _ _ _ _ _ _ us hl => match us, hl with | [_, _], _ => rfl⟩, F.kp⟩
  obtain ⟨rs, more, p, rfl, hn, hp, hk⟩ := h
  try dsimp only [cxK]
  walk_at "fw"
  refine ⟨Nat.le_trans (isName_len hn) (by decide), ?_⟩
  rw [hn]
  walk_at "fw"
  refine ⟨_, .inr p, rfl, rfl, ?_⟩
  rw [getD_rks_is, decide_eq_true hp]
  walk_at "fw"
  exact ⟨_, .inr p, _, rfl, rfl, getD_rks hp, hk⟩
end
end

set_option maxHeartbeats 4000000
/-! The program's defs: turns, games, groups. -/

section

section
variable {P : Program} [PMain P] {w : World} {K : PySem.W.Frag} {mg : Str → Option Value} {base : Heap}
def wt_Game_check_turns : Wt := fun ds kk _ => ∃ (q : Str × List Str) (r : List (Str × List Str)) (more : List (Str × D)) (ts : List Str), ds = [gmX (q :: r) more, tn ts] ∧ Fr more ∧ ts.length ≤ 30 ∧ q.2.length ≤ 30 ∧ ts.length ≤ q.2.length ∧ (∀ t ∈ ts, t ∈ (q :: r).map Prod.fst) ∧ kk .non
theorem ok_Game_check_turns (T : TX K mg) : Ok P w K mg base 3 (He.ma K (He.ga K "Game") "check_turns") ["self", "turns"] (spD K wt_Game_check_turns) := by
  obtain ⟨fd, F⟩ := T.def_ 22 (d := d_Game_check_turns)
  have k_Game_first_ranking := ok_Game_first_ranking (P := P) (w := w) (base := base) T
  have k_Ranking_len := ok_Ranking_len (P := P) (w := w) (base := base) T
  have k_Turns_len := ok_Turns_len (P := P) (w := w) (base := base) T
  have k_Turns_players := ok_Turns_players (P := P) (w := w) (base := base) T
  refine ⟨⟨fd, fnD F sc_Game_check_turns (fun _ _ _ h => by obtain ⟨q, r, more, ts, rfl, hmr, hl, hl2, hle, hm, hk⟩ := h; rfl) (fun cdv A outer s H E hr => ⟨_, (pss_cons (ps_if (PW.pt (pw_or (pt_not (pt_val (pe_callB (z_isi K) (by rfl) (T.free 0) (by decide +kernel) (pa_cons (pv 1) (pa_cons (pe_glob (v := .ref (He.ga K "Turns")) rfl (T.glo 34) rfl) pa_nil))))) (pw_or1 (pt_cmpR op_gt (q_len k_Turns_len (T.meth 35) hr (T.free 2) (pa_cons (pv 1) pa_nil)) (q_len k_Ranking_len (T.meth 36) hr (T.free 2) (pa_cons (q_meth0 k_Game_first_ranking (pv 0) (T.cls 25) (T.meth 30) hr) pa_nil)) (nomark _))))) (pss_one ps_never) pss_nil) (pss_one (ps_if (pt_not (pt_val (pe_callB (z_all K rfl) (by rfl) (T.free 3) (by decide +kernel) (pa_cons (pe_lc (own := [("player", 2)]) rfl sc_Game_check_turns.nd (z_plist K (q_prop k_Turns_players (pv 1) (T.cls 23) (T.prop 37) hr)) (blkOk_by (own := [("player", 2)]) (N := N_Game_check_turns) (sc := defScope s_Game_check_turns) (by decide +kernel)) (fun _ _ _ _ _ => (pg_name (i := 2) sc_Game_check_turns.nd rfl (by first | exact Or.inl rfl | exact Or.inr rfl))) (fun _ _ _ _ _ => pts_nil) (fun _ _ _ _ _ => (pe_cmp (q_din hr (pv 2) (z_fld K (pv 0))) rfl))) pa_nil)))) (pss_one ps_never) pss_nil))), fun ds kk ke h => ?_⟩), FunD.bindsN F fun _ _ _ _ _ _ us hl => match us, hl with | [_, _], _ => rfl⟩, F.kp⟩
  obtain ⟨q, r, more, ts, rfl, hmr, hl, hl2, hle, hm, hk⟩ := h
  try dsimp only [cxK]
  walk_at "fw"
  refine ⟨⟨by omega, by omega⟩, ?_⟩
  walk_at "fw"
  refine ⟨fr_look hmr, ?_⟩
  walk_at "fw"
  refine ⟨⟨by omega, by omega⟩, ?_⟩
  walk_at "fw"
  refine ⟨fun h => absurd (of_decide_eq_true h) (by omega), fun _ => ?_⟩
  walk_at "fw"
  refine (df_lcM [2] D.str (fun _ => .bl true) (fun _ _ _ => rfl) (by decide) (by walk_at "fno") ?_).dt
  walk_at "fw"
  refine ⟨szOf (by omega), fun s hs => ?_, ?_⟩
  · walk_at "fw"
    refine ⟨_, .inr s, rfl, rfl, ?_⟩
    rw [getD_rks_is, decide_eq_true (hm s hs)]
  · walk_at "fw"
    refine ⟨ts.map fun _ => true, by rw [map_tt]; rfl, ?_⟩
    rw [all_tt]
    walk_at "fw"
    exact hk
/-- rankings that make a game -/
structure Rks (rs : List (Str × List Str)) : Prop where
  ne : rs ≠ []
  len : rs.length ≤ 30
  nd : (rs.map Prod.fst).Nodup
  name : ∀ p ∈ rs, isName p.1 = true
  le : ∀ p ∈ rs, p.2.length ≤ 30
  names : ∀ p ∈ rs, ∀ s ∈ p.2, isName s = true
  same : ∀ p ∈ rs, ∀ q ∈ rs, srt p.2 = srt q.2
def wt_check_rankings : Wt := fun ds kk _ => ∃ rs : List (Str × List Str), ds = [.dic (rks rs)] ∧ Rks rs ∧ kk .non
theorem ok_check_rankings (T : TX K mg) : Ok P w K mg base 6 (He.ga K "check_rankings") ["rankings"] (spD K wt_check_rankings) := by
  obtain ⟨fd, F⟩ := T.def_ 23 (d := d_check_rankings)
  have k_Committee_eq := ok_Committee_eq (P := P) (w := w) (base := base) T
  have k_as_committee := ok_as_committee (P := P) (w := w) (base := base) T
  have k_is_name := ok_is_name (P := P) (w := w) (base := base) T
  refine ⟨⟨fd, fnD F sc_check_rankings (fun _ _ _ h => by obtain ⟨rs, rfl, hr1, hk⟩ := h; rfl) (fun cdv A outer s H E hr => ⟨_, (pss_cons (ps_if (PW.pt (pw_or (pt_not (pt_val (pe_callB (z_isi K) (by rfl) (T.free 0) (by decide +kernel) (pa_cons (pv 0) (pa_cons (pe_bltn (v := .ty "dict") rfl (T.free 27) (by decide +kernel) rfl) pa_nil))))) (pw_or1 (pt_cmpR (op_eqDn hr) (pv 0) pe_dnewK (nomark _))))) (pss_one ps_never) pss_nil) (pss_cons (ps_if (pt_not (pt_val (pe_callB (z_all K rfl) (by rfl) (T.free 3) (by decide +kernel) (pa_cons (pe_unl (pe_lc (own := [("player", 1), ("ranking", 2)]) rfl sc_check_rankings.nd (pi_items (pe_lk (pv 0))) (blkOk_by (own := [("player", 1), ("ranking", 2)]) (N := N_check_rankings) (sc := defScope s_check_rankings) (by decide +kernel)) (fun _ _ _ _ _ => (q_tup (n := 2) K rfl rfl (pgs_cons (pg_name (i := 1) sc_check_rankings.nd rfl (by first | exact Or.inl rfl | exact Or.inr rfl)) (pgs_cons (pg_name (i := 2) sc_check_rankings.nd rfl (by first | exact Or.inl rfl | exact Or.inr rfl)) pgs_nil)))) (fun _ _ _ _ _ => pts_nil) (fun _ _ _ _ _ => (pe_and (q_call k_is_name hr (T.glo 5) (pa_cons (pv 1) pa_nil)) (pe_one (pe_callB (z_isi K) (by rfl) (T.free 0) (by decide +kernel) (pa_cons (pv 2) (pa_cons (pe_glob (v := .ref (He.ga K "Ranking")) rfl (T.glo 38) rfl) pa_nil)))))))) pa_nil)))) (pss_one ps_never) pss_nil) (pss_cons (ps_set (i := 3) sc_check_rankings.nd rfl (by first | exact Or.inl rfl | exact Or.inr rfl) (pe_ix (z_ixL K) (pe_listVals rfl (pv 0) (by rfl) (T.free 4) (by decide +kernel)) pe_int (fun _ _ => rfl))) (pss_one (ps_if (pt_not (pt_val (pe_callB (z_all K rfl) (by rfl) (T.free 3) (by decide +kernel) (pa_cons (pe_unl (pe_lc (own := [("ranking", 2)]) rfl sc_check_rankings.nd (pi_values (pe_lk (pv 0))) (blkOk_by (own := [("ranking", 2)]) (N := N_check_rankings) (sc := defScope s_check_rankings) (by decide +kernel)) (fun _ _ _ _ _ => (pg_name (i := 2) sc_check_rankings.nd rfl (by first | exact Or.inl rfl | exact Or.inr rfl))) (fun _ _ _ _ _ => pts_nil) (fun _ _ _ _ _ => (pe_cmpR (q_eq k_Committee_eq (T.meth 39) hr) (q_call k_as_committee hr (T.glo 29) (pa_cons (pv 2) pa_nil)) (q_call k_as_committee hr (T.glo 29) (pa_cons (pv 3) pa_nil)) (nomark _))))) pa_nil)))) (pss_one ps_never) pss_nil))))), fun ds kk ke h => ?_⟩), FunD.bindsN F fun _ _ _ _ _ _ us hl => match us, hl with | [_], _ => rfl⟩, F.kp⟩
  obtain ⟨rs, rfl, hr1, hk⟩ := h
  try dsimp only [cxK]
  walk_at "fw"
  have h30 := hr1.len
  refine ⟨by unfold rks; rw [List.length_map]; exact fun z => hr1.ne (List.length_eq_zero_iff.mp z), ?_⟩
  walk_at "fw"
  refine (df_lcLM ([1] ++ ([2] ++ [])) (fun p : Str × List Str => D.tup [.str p.1, rk p.2]) (fun _ => .bl true) (fun _ _ _ => rfl) (by decide) (by walk_at "fno") ?_).dt
  walk_at "fw"
  refine ⟨rs, by unfold rks; rw [List.map_map]; rfl, szOf (by omega), fun p hp => ?_, ?_⟩
  · walk_at "fw"
    refine ⟨Nat.le_trans (isName_len (hr1.name p hp)) (by decide), ?_⟩
    rw [hr1.name p hp]
    walk_at "fw"
    rfl
  · walk_at "fw"
    refine ⟨rs.map fun _ => true, by rw [map_tt]; rfl, ?_⟩
    rw [all_tt]
    walk_at "fw"
    obtain ⟨q, r, rfl⟩ := List.exists_cons_of_ne_nil hr1.ne
    refine ⟨_, _, rk q.2, rfl, rfl, by unfold rks; rw [List.map_cons, List.map_cons]; exact atI_0 _ _, ?_⟩
    walk_at "fw"
    refine (df_lcLM [2] (fun p : Str × List Str => rk p.2) (fun _ => .bl true) (fun _ _ _ => rfl) (by decide) (by walk_at "fno") ?_).dt
    walk_at "fw"
    refine ⟨q :: r, by unfold rks; rw [List.map_map]; rfl, szOf (by omega), fun p hp => ?_, ?_⟩
    · walk_at "fw"
      refine ⟨hr1.le p hp, hr1.names p hp, ?_⟩
      walk_at "fw"
      refine ⟨hr1.le q List.mem_cons_self, hr1.names q List.mem_cons_self, ?_⟩
      walk_at "fw"
      refine ⟨fun s h => hr1.names p hp s (srt_mem.mp h), fun s h => hr1.names q List.mem_cons_self s (srt_mem.mp h), ?_⟩
      rw [decide_eq_true (hr1.same p hp q List.mem_cons_self)]
      exact ⟨_, rfl, rfl⟩
    · walk_at "fw"
      refine ⟨(q :: r).map fun _ => true, by rw [map_tt]; rfl, ?_⟩
      rw [all_tt]
      walk_at "fw"
      exact hk
/-- by the players -/
noncomputable def srs (rs : List (Str × List Str)) : List (Str × List Str) := (srt (rs.map Prod.fst)).map fun p => (p, lk rs p)
theorem lk_mem {rs : List (Str × List Str)} {p : Str} (h : p ∈ rs.map Prod.fst) : (p, lk rs p) ∈ rs := by
  induction rs with
  | nil => cases h
  | cons q r ih =>
    unfold lk
    rw [List.lookup_cons]
    by_cases e : q.1 = p
    · subst e
      rw [beq_self_eq_true]; exact List.mem_cons_self
    · have hb : (p == q.1) = false := by
        rw [beq_eq_false_iff_ne]; exact fun z => e z.symm
      rw [hb]
      have hr : p ∈ r.map Prod.fst := by
        rcases List.mem_cons.mp (show p ∈ q.1 :: r.map Prod.fst from h) with z | z
        · exact absurd z.symm e
        · exact z
      exact List.mem_cons_of_mem _ (ih hr)
theorem srs_mem {rs : List (Str × List Str)} {q : Str × List Str} (h : q ∈ srs rs) : q ∈ rs := by
  obtain ⟨p, hp, rfl⟩ := List.mem_map.mp h
  exact lk_mem (srt_mem.mp hp)
theorem srs_keys (rs : List (Str × List Str)) : (srs rs).map Prod.fst = srt (rs.map Prod.fst) := by
  unfold srs
  rw [List.map_map]
  exact List.map_id _
theorem srs_ne {rs : List (Str × List Str)} (h : Rks rs) : srs rs ≠ [] := fun z => by
  have e := srs_keys rs
  rw [z] at e
  have l := srt_len h.nd
  rw [← e, List.length_map, List.length_map] at l
  exact h.ne (List.length_eq_zero_iff.mp l.symm)
end
end

set_option maxHeartbeats 4000000
/-! The program's defs: turns, games, groups. -/

section

section
variable {P : Program} [PMain P] {w : World} {K : PySem.W.Frag} {mg : Str → Option Value} {base : Heap}
def wt_Game_init : WtI := fun ds kk _ => ∃ (rs : List (Str × List Str)) (ts : List Str), ds = [.dic (rks rs), tn ts] ∧ Rks rs ∧ ts.length ≤ 30 ∧ (∀ p ∈ rs, ts.length ≤ p.2.length) ∧ (∀ t ∈ ts, t ∈ rs.map Prod.fst) ∧ kk [("own_rankings", .dic (rks (srs rs))), ("own_turns", tn ts)]
theorem ok_Game_init (T : TX K mg) : Ok P w K mg base 7 (He.ma K (He.ga K "Game") "__init__") ["self", "rankings", "turns"] (spI K "Game" wt_Game_init) := by
  obtain ⟨fd, F⟩ := T.def_ 24 (d := d_Game_init)
  have k_Game_check_turns := ok_Game_check_turns (P := P) (w := w) (base := base) T
  have k_check_rankings := ok_check_rankings (P := P) (w := w) (base := base) T
  refine ⟨⟨fd, fnI F sc_Game_init (by decide) (fun _ _ _ h => by obtain ⟨rs, ts, rfl, hr1, hl, hle, hm, hk⟩ := h; rfl) (fun cdv A outer s H E hr => ⟨_, (pss_cons (ps_expr (q_call k_check_rankings hr (T.glo 40) (pa_cons (pv 1) pa_nil))) (pss_cons (ps_fld (pv 0) (pe_dc (own := [("player", 3)]) rfl sc_Game_init.nd (z_plist K (pe_callB (call_sortedD rfl) (by rfl) (T.free 6) (by decide +kernel) (pa_cons (pv 1) pa_nil))) (blkOk_by (own := [("player", 3)]) (N := N_Game_init) (sc := defScope s_Game_init) (by decide +kernel)) (fun _ _ _ _ _ => (pg_name (i := 3) sc_Game_init.nd rfl (by first | exact Or.inl rfl | exact Or.inr rfl))) (fun _ _ _ _ _ => pts_nil) (fun _ _ _ _ _ => (pv 3)) (fun _ _ _ _ _ => (q_dget hr (pv 1) (pv 3) (fun _ _ => rfl)))) rfl) (pss_cons (ps_expr (q_meth k_Game_check_turns (pv 0) (T.cls 25) (T.meth 41) hr (pa_cons (pv 2) pa_nil))) (pss_one (ps_fld (pv 0) (pv 2) rfl))))), fun x ds kk ke h => ?_⟩), FunD.bindsN F fun _ _ _ _ _ _ us hl => match us, hl with | [_, _, _], _ => rfl⟩, F.kp⟩
  obtain ⟨rs, ts, rfl, hr1, hl, hle, hm, hk⟩ := h
  try dsimp only [cxK]
  walk_at "fw"
  refine ⟨hr1, ?_⟩
  walk_at "fw"
  refine ds_fldS 0 (T.cls 25) (T.noat 26) rfl (by decide) ?_
  refine (df_dcM [3] D.str (fun s => ((.inr s : Key), rk (lk rs s))) (fun a b e => by cases e; rfl) (by decide) (by walk_at "fno") ?_).dt
  walk_at "fw"
  refine ⟨_, rs.map Prod.fst, rfl, rks_keys rs, by rw [List.length_map]; have := hr1.len; omega, fun ys yp ys1 => ?_⟩
  have ey := ts_srt (ss := rs.map Prod.fst) hr1.nd (fun x => Iff.rfl) yp ys1
  subst ey
  walk_at "fw"
  refine ⟨szOf (by rw [srt_len hr1.nd, List.length_map]; have := hr1.len; omega), fun s hs => ?_, ?_⟩
  · walk_at "fw"
    exact ⟨_, .inr s, _, rfl, rfl, getD_rks (srt_mem.mp hs), .inr s, rfl, rfl⟩
  · have e : mergeD [] ((srt (rs.map Prod.fst)).map fun s => ((.inr s : Key), rk (lk rs s))) = rks (srs rs) := by
      rw [mergeD_nil (by rw [List.map_map]; exact keys_nodup (srt_nodup _))]
      unfold rks srs
      rw [List.map_map]; rfl
    rw [e]
    obtain ⟨q, r, eq⟩ := List.exists_cons_of_ne_nil (srs_ne hr1)
    have hq : q ∈ rs := srs_mem (by rw [eq]; exact List.mem_cons_self)
    have hky : (q :: r).map Prod.fst = srt (rs.map Prod.fst) := by rw [← eq, srs_keys]
    rw [eq] at hk ⊢
    walk_at "fw"
    refine ⟨rfl, hl, hr1.le q hq, hle q hq, fun t ht => ?_, rfl, ?_⟩
    · rw [hky]; exact srt_mem.mpr (hm t ht)
    · walk_at "fw"
      refine ds_fldS 0 (T.cls 25) (T.noat 28) rfl (by exact (by decide : 1 < 1000)) ?_
      walk_at "fw"
      exact hk
end
end

set_option maxHeartbeats 4000000
/-! The program's defs: turns, games, groups. -/

section

section
variable {P : Program} [PMain P] {w : World} {K : PySem.W.Frag} {mg : Str → Option Value} {base : Heap}
def wt_check_group : Wt := fun ds kk _ => ∃ (q : Str × List Str) (r : List (Str × List Str)) (more : List (Str × D)) (g m : List Str), ds = [gmX (q :: r) more, sl g, cm m] ∧ Fr more ∧ g.length ≤ 1000 ∧ (∀ s ∈ g, isName s = true ∧ s ∈ (q :: r).map Prod.fst) ∧ (∀ s ∈ m, isName s = true ∧ s ∈ q.2) ∧ kk .non
theorem ok_check_group (T : TX K mg) : Ok P w K mg base 4 (He.ga K "check_group") ["game", "group", "target"] (spD K wt_check_group) := by
  obtain ⟨fd, F⟩ := T.def_ 25 (d := d_check_group)
  have k_Game_first_ranking := ok_Game_first_ranking (P := P) (w := w) (base := base) T
  have k_Game_rankings := ok_Game_rankings (P := P) (w := w) (base := base) T
  have k_are_names := ok_are_names (P := P) (w := w) (base := base) T
  have k_members_known := ok_members_known (P := P) (w := w) (base := base) T
  refine ⟨⟨fd, fnD F sc_check_group (fun _ _ _ h => by obtain ⟨q, r, more, g, m, rfl, hmr, hg, hgs, hms, hk⟩ := h; rfl) (fun cdv A outer s H E hr => ⟨_, (pss_cons (ps_if (PW.pt (pw_or (pt_not (pt_val (q_call k_are_names hr (T.glo 7) (pa_cons (pv 1) pa_nil)))) (pw_or1 (pt_not (pt_val (pe_callB (z_all K rfl) (by rfl) (T.free 3) (by decide +kernel) (pa_cons (pe_lc (own := [("player", 3)]) rfl sc_check_group.nd (z_plist K (pv 1)) (blkOk_by (own := [("player", 3)]) (N := N_check_group) (sc := defScope s_check_group) (by decide +kernel)) (fun _ _ _ _ _ => (pg_name (i := 3) sc_check_group.nd rfl (by first | exact Or.inl rfl | exact Or.inr rfl))) (fun _ _ _ _ _ => pts_nil) (fun _ _ _ _ _ => (pe_cmp (q_din hr (pv 3) (q_prop k_Game_rankings (pv 0) (T.cls 25) (T.prop 42) hr)) rfl))) pa_nil))))))) (pss_one ps_never) pss_nil) (pss_one (ps_expr (q_call k_members_known hr (T.glo 43) (pa_cons (q_meth0 k_Game_first_ranking (pv 0) (T.cls 25) (T.meth 30) hr) (pa_cons (pv 2) pa_nil)))))), fun ds kk ke h => ?_⟩), FunD.bindsN F fun _ _ _ _ _ _ us hl => match us, hl with | [_, _, _], _ => rfl⟩, F.kp⟩
  obtain ⟨q, r, more, g, m, rfl, hmr, hg, hgs, hms, hk⟩ := h
  try dsimp only [cxK]
  walk_at "fw"
  have ha : g.all isName = true := List.all_eq_true.mpr fun s h => (hgs s h).1
  refine ⟨hg, fun s h => Nat.le_trans (isName_len (hgs s h).1) (by decide), ?_⟩
  rw [ha]
  walk_at "fw"
  refine (df_lcM [3] D.str (fun _ => .bl true) (fun _ _ _ => rfl) (by decide) (by walk_at "fno") ?_).dt
  walk_at "fw"
  refine ⟨szOf (by omega), fun s hs => ?_, ?_⟩
  · walk_at "fw"
    refine ⟨_, .inr s, rfl, rfl, ?_⟩
    rw [getD_rks_is, decide_eq_true (hgs s hs).2]
  · walk_at "fw"
    refine ⟨g.map fun _ => true, by rw [map_tt]; rfl, ?_⟩
    rw [all_tt]
    walk_at "fw"
    refine ⟨fr_look hmr, ?_⟩
    walk_at "fw"
    refine ⟨hms, ?_⟩
    walk_at "fw"
    exact hk
def wt_number_left : Wt := fun ds kk _ => ∃ (q : Str × List Str) (r : List (Str × List Str)) (ts g m : List Str), ds = [gm (q :: r) ts, sl g, cm m] ∧ g.length ≤ 1000 ∧ (∀ s ∈ g, isName s = true ∧ s ∈ (q :: r).map Prod.fst) ∧ (∀ s ∈ m, isName s = true ∧ s ∈ q.2) ∧
  q.2.length ≤ 30 ∧ (∀ s ∈ q.2, isName s = true) ∧ ts.length ≤ 30 ∧ m.length ≤ 30 ∧ kk (.int (nl ts g m.length (srt q.2).length))
theorem ok_number_left (T : TX K mg) : Ok P w K mg base 8 (He.ga K "number_left") ["game", "group", "target"] (spD K wt_number_left) := by
  obtain ⟨fd, F⟩ := T.def_ 26 (d := d_number_left)
  have k_Committee_len := ok_Committee_len (P := P) (w := w) (base := base) T
  have k_Game_alternatives := ok_Game_alternatives (P := P) (w := w) (base := base) T
  have k_Game_turns := ok_Game_turns (P := P) (w := w) (base := base) T
  have k_Turns_len := ok_Turns_len (P := P) (w := w) (base := base) T
  have k_Turns_players := ok_Turns_players (P := P) (w := w) (base := base) T
  have k_check_group := ok_check_group (P := P) (w := w) (base := base) T
  refine ⟨⟨fd, fnD F sc_number_left (fun _ _ _ h => by obtain ⟨q, r, ts, g, m, rfl, hg, hgs, hms, h30, hs, hts, hm30, hk⟩ := h; rfl) (fun cdv A outer s H E hr => ⟨_, (pss_cons (ps_expr (q_call k_check_group hr (T.glo 44) (pa_cons (pv 0) (pa_cons (pv 1) (pa_cons (pv 2) pa_nil))))) (pss_cons (ps_set (i := 3) sc_number_left.nd rfl (by first | exact Or.inl rfl | exact Or.inr rfl) (pe_callB (z_len K) (by rfl) (T.free 2) boot_len (pa_cons (pe_lc (own := [("player", 4)]) rfl sc_number_left.nd (z_plist K (q_prop k_Turns_players (q_prop k_Game_turns (pv 0) (T.cls 25) (T.prop 45) hr) (T.cls 23) (T.prop 37) hr)) (blkOk_by (own := [("player", 4)]) (N := N_number_left) (sc := defScope s_number_left) (by decide +kernel)) (fun _ _ _ _ _ => (pg_name (i := 4) sc_number_left.nd rfl (by first | exact Or.inl rfl | exact Or.inr rfl))) (fun _ _ _ _ _ => (pts_one (pt_cmpR (z_in K) (pv 4) (pv 1) (by rfl)))) (fun _ _ _ _ _ => (pv 4))) pa_nil))) (pss_cons (ps_set (i := 5) sc_number_left.nd rfl (by first | exact Or.inl rfl | exact Or.inr rfl) (pe_op op_sub (q_len k_Turns_len (T.meth 35) hr (T.free 2) (pa_cons (q_prop k_Game_turns (pv 0) (T.cls 25) (T.prop 45) hr) pa_nil)) (pv 3))) (pss_cons (ps_set (i := 6) sc_number_left.nd rfl (by first | exact Or.inl rfl | exact Or.inr rfl) (pe_op op_sub (q_len k_Committee_len (T.meth 47) hr (T.free 2) (pa_cons (q_prop k_Game_alternatives (pv 0) (T.cls 25) (T.prop 46) hr) pa_nil)) (q_len k_Committee_len (T.meth 47) hr (T.free 2) (pa_cons (pv 2) pa_nil)))) (pss_one (ps_ret (pe_callB (call_max2 rfl) (by rfl) (T.free 48) (by decide +kernel) (pa_cons pe_int (pa_cons (pe_op op_sub (pe_op op_sub (q_len k_Committee_len (T.meth 47) hr (T.free 2) (pa_cons (pv 2) pa_nil)) (pv 3)) (pe_callB (call_max2 rfl) (by rfl) (T.free 48) (by decide +kernel) (pa_cons pe_int (pa_cons (pe_op op_sub (pv 5) (pv 6)) pa_nil)))) pa_nil))))))))), fun ds kk ke h => ?_⟩), FunD.bindsN F fun _ _ _ _ _ _ us hl => match us, hl with | [_, _, _], _ => rfl⟩, F.kp⟩
  obtain ⟨q, r, ts, g, m, rfl, hg, hgs, hms, h30, hs, hts, hm30, hk⟩ := h
  try dsimp only [cxK]
  walk_at "fw"
  refine ⟨rfl, hg, hgs, hms, ?_⟩
  walk_at "fw"
  refine (df_lcF [4] D.str (fun t => decide (t ∈ g)) D.str (fun a b e => by cases e; exact ⟨rfl, rfl⟩) (by decide) (by walk_at "fno") ?_).dt
  walk_at "fw"
  refine ⟨szOf (by omega), fun t ht => ?_, ?_⟩
  · walk_at "fw"
    rw [inV_strs]
    refine ⟨fun h => ?_, fun h => ?_⟩
    · walk_at "fw"
      have h' : decide (t ∈ g) = true := h
      rw [h']; rfl
    · have h' : decide (t ∈ g) = false := h
      rw [h']; rfl
  · walk_at "fw"
    refine ⟨⟨by omega, by omega⟩, ?_⟩
    walk_at "fw"
    refine ⟨rfl, h30, hs, ?_⟩
    walk_at "fw"
    refine ⟨⟨by omega, by have := srt_le q.2; omega⟩, ?_⟩
    walk_at "fw"
    refine ⟨⟨by omega, by omega⟩, ?_⟩
    walk_at "fw"
    refine ⟨⟨by omega, by omega⟩, ?_⟩
    walk_at "fw"
    unfold nl mx ownN at hk
    rw [List.length_map]
    exact hk
end
end

set_option maxHeartbeats 4000000
/-! The program's safe_place; the law's draws. -/

section

theorem bit01 (b : Bool) : -2 ^ 64 < (if b = true then (1 : Int) else 0) ∧ (if b = true then (1 : Int) else 0) < 2 ^ 64 ∧ 0 ≤ (if b = true then (1 : Int) else 0) := by cases b <;> decide
section
variable {P : Program} [PMain P] {w : World} {K : PySem.W.Frag} {mg : Str → Option Value} {base : Heap}
theorem cut_from {ss : List Str} {k : Nat} (h : k < ss.length) : cutD (ss.map D.str) (some (k : Int)) none = (ss.drop k).map D.str := by
  unfold cutD HT.sIx
  have h0 : ¬ ((k : Int) < 0) := by omega
  simp only [h0, if_false, Int.toNat_natCast, List.length_map]
  rw [Nat.min_eq_left (by omega), ← List.map_drop, List.take_of_length_le (by rw [List.length_map, List.length_drop]; exact Nat.le_refl _)]
theorem erase_perm {α : Type} : ∀ {l : List α} {i : Nat} (h : i < l.length), (l[i] :: l.eraseIdx i).Perm l
  | x :: r, 0, _ => List.Perm.refl _
  | x :: r, i + 1, h => by
    have h2 : i < r.length := by simpa using h
    show (r[i] :: x :: r.eraseIdx i).Perm (x :: r)
    exact (List.Perm.swap x r[i] _).trans (List.Perm.cons x (erase_perm h2))
/-- what a game is made of -/
structure GOk (rs : List (Str × List Str)) (ts : List Str) : Prop where
  rk : Rks rs
  nds : ∀ p ∈ rs, p.2.Nodup
  tl : ts.length ≤ 30
def SafeIs (ts : List Str) (p : Str) (n : Nat) (d : D) : Prop := (∃ k : Nat, k < n ∧ d = .int (k : Nat) ∧ 0 < nl ts [p] (n - k) n ∧ ∀ j, k < j → j < n → ¬ 0 < nl ts [p] (n - j) n) ∨ (d = .non ∧ ∀ j, j < n → ¬ 0 < nl ts [p] (n - j) n)
def wt_safe_place : Wt := fun ds kk _ => ∃ (rs : List (Str × List Str)) (ts : List Str) (p : Str), ds = [gm rs ts, .str p] ∧ GOk rs ts ∧ p ∈ rs.map Prod.fst ∧ ∀ d, SafeIs ts p (lk rs p).length d → kk d
theorem ok_safe_place (T : TX K mg) : Ok P w K mg base 9 (He.ga K "safe_place") ["game", "player"] (spD K wt_safe_place) := by
  obtain ⟨fd, F⟩ := T.def_ 27 (d := d_safe_place)
  have k_Committee_init := ok_Committee_init (P := P) (w := w) (base := base) T
  have k_Game_ranking_of := ok_Game_ranking_of (P := P) (w := w) (base := base) T
  have k_Ranking_len := ok_Ranking_len (P := P) (w := w) (base := base) T
  have k_Ranking_alternatives := ok_Ranking_alternatives (P := P) (w := w) (base := base) T
  have k_number_left := ok_number_left (P := P) (w := w) (base := base) T
  refine ⟨⟨fd, fnD F sc_safe_place (fun _ _ _ h => by obtain ⟨rs, ts, p, rfl, ok, hp, hk⟩ := h; rfl) (fun cdv A outer s H E hr => ⟨_, (pss_cons (ps_set (i := 2) sc_safe_place.nd rfl (by first | exact Or.inl rfl | exact Or.inr rfl) (q_methE k_Game_ranking_of (pv 0) (T.cls 25) (T.meth 49) hr passesE (pa_cons (pv 1) pa_nil))) (pss_cons (ps_for (passes_of rfl) rfl (pi_range3 (by rfl) (T.free 50) (pa_cons (pe_op op_sub (q_len k_Ranking_len (T.meth 36) hr (T.free 2) (pa_cons (pv 2) pa_nil)) pe_int) (pa_cons (pe_un un_neg pe_int) (pa_cons (pe_un un_neg pe_int) pa_nil)))) (pg_name (i := 3) sc_safe_place.nd rfl (by first | exact Or.inl rfl | exact Or.inr rfl)) (pss_one (ps_if (pt_cmpR op_gt (q_call k_number_left hr (T.glo 51) (pa_cons (pv 0) (pa_cons (pe_lst (pa_cons (pv 1) pa_nil)) (pa_cons (q_make k_Committee_init (T.mkr 21) hr (T.glo 11) (pa_cons (pe_slice (z_slL K) (q_prop k_Ranking_alternatives (pv 2) (T.cls 15) (T.prop 22) hr) (po_some (pv 3)) po_none) pa_nil)) pa_nil)))) pe_int (nomark _)) (pss_one (ps_ret (pv 3))) pss_nil))) (pss_one (ps_ret pe_non)))), fun ds kk ke h => ?_⟩), FunD.bindsN F fun _ _ _ _ _ _ us hl => match us, hl with | [_, _], _ => rfl⟩, F.kp⟩
  obtain ⟨rs, ts, p, rfl, ok, hp, hk⟩ := h
  try dsimp only [cxK]
  walk_at "fw"
  have hm := lk_mem hp
  have hn : isName p = true := ok.rk.name _ hm
  have hnd : (lk rs p).Nodup := ok.nds _ hm
  have h30 : (lk rs p).length ≤ 30 := ok.rk.le _ hm
  have hs : ∀ s ∈ lk rs p, isName s = true := ok.rk.names _ hm
  refine ⟨rfl, ?_⟩
  walk_at "fw"
  refine ⟨hn, hp, ?_⟩
  obtain ⟨q, r, rfl⟩ := List.exists_cons_of_ne_nil ok.rk.ne
  have hq : srt q.2 = srt (lk (q :: r) p) := ok.rk.same _ List.mem_cons_self _ hm
  generalize lk (q :: r) p = ss at *
  have hql : (srt q.2).length = ss.length := by rw [hq, srt_len hnd]
  walk_at "fw"
  refine ds_for [3] (fun _ i G' O' => O' = [] ∧ (∃ g, G' = [some (gm (q :: r) ts), some (.str p), some (rk ss), g]) ∧ ∀ j : Nat, ss.length - i ≤ j → j < ss.length → ¬ 0 < nl ts [p] (ss.length - j) ss.length) ?_
  walk_at "fw"
  refine ⟨⟨by omega, by omega⟩, ?_⟩
  walk_at "fw"
  have rg : RgC ((ss.length : Int) - 1) (-1) (-1) ss.length := by
    have h := RgC.neg (i := (ss.length : Int) - 1) (j := -1) (by omega) (by omega) (by decide) (by decide)
    have e : ((ss.length : Int) - 1 - -1).toNat = ss.length := by omega
    rw [e] at h; exact h
  refine ⟨_, _, _, ss.length, rfl, rg, ⟨rfl, ⟨_, rfl⟩, fun j h1 h2 => absurd h2 (by omega)⟩, fun i x G' O' hi hP => ?_, fun G' O' hP => ?_⟩
  · obtain ⟨rfl, ⟨g, rfl⟩, hj⟩ := hP
    have hin : i < ss.length := by
      have := (List.getElem?_eq_some_iff.mp hi).1
      rw [rngC_len] at this; exact this
    rw [rngC_get hin] at hi
    have hx : x = .int ((ss.length - 1 - i : Nat) : Int) := by
      rw [← Option.some.inj hi]; congr 1; omega
    subst hx
    have hkn : ss.length - 1 - i < ss.length := by omega
    generalize hk' : ss.length - 1 - i = k at *
    walk_at "fw"
    rw [cut_from hkn]
    walk_at "fw"
    have hds : ∀ s ∈ ss.drop k, isName s = true := fun s h => hs s (List.mem_of_mem_drop h)
    have hdn : (ss.drop k).Nodup := hnd.sublist (List.drop_sublist _ _)
    have hdl : (srt (ss.drop k)).length = ss.length - k := by rw [srt_len hdn, List.length_drop]
    refine ⟨by rw [List.length_drop]; omega, hds, by omega, ?_⟩
    walk_at "fw"
    refine ⟨q, r, ts, [p], srt (ss.drop k), rfl, (by exact (by decide : 1 ≤ 1000)), fun s h => ?_, fun s h => ?_, ok.rk.le _ List.mem_cons_self, ok.rk.names _ List.mem_cons_self, ok.tl, by omega, ?_⟩
    · rw [List.mem_singleton.mp h]; exact ⟨hn, hp⟩
    · have h1 := srt_mem.mp h
      exact ⟨hds s h1, srt_mem.mp (by rw [hq]; exact srt_mem.mpr (List.mem_of_mem_drop h1))⟩
    · rw [hdl, hql]
      walk_at "fw"
      refine ⟨fun h => ?_, fun h => ?_⟩
      · walk_at "fw"
        exact hk _ (.inl ⟨k, hkn, rfl, of_decide_eq_true h, fun j h1 h2 => hj j (by omega) h2⟩)
      · walk_at "fw"
        refine ⟨rfl, ⟨_, rfl⟩, fun j h1 h2 => ?_⟩
        by_cases e : j = k
        · subst e; exact of_decide_eq_false h
        · exact hj j (by omega) h2
  · obtain ⟨rfl, ⟨g, rfl⟩, hj⟩ := hP
    walk_at "fw"
    exact hk _ (.inr ⟨rfl, fun j h => hj j (by rw [rngC_len]; omega) h⟩)
end
end

set_option maxHeartbeats 4000000
/-! The program's safe_place; the law's draws. -/

section

section
variable {P : Program} [PMain P] {w : World} {K : PySem.W.Frag} {mg : Str → Option Value} {base : Heap}
local macro_rules | `(tactic| walk_at "strm") => `(tactic| (
    walk_at "fw"
    refine ⟨by decide, ?_⟩
    walk_at "fw"
    refine ⟨.inl ⟨by decide, by decide⟩, ?_⟩
    walk_at "fw"
    refine ⟨.inr ⟨by omega, by omega⟩, ?_⟩
    walk_at "fw"
    refine ⟨.inl ⟨by decide, by decide⟩, ?_⟩
    walk_at "fw"
    refine ⟨.inr ⟨by decide, by decide⟩, ?_⟩
    walk_at "fw"
    refine ⟨by decide, ?_⟩
    walk_at "fw"
    refine ⟨⟨by decide, by decide, by decide⟩, ?_⟩
    walk_at "fw"
    refine .inr ⟨_, rfl, ?_⟩
    walk_at "fw"
    refine ⟨.inr ⟨(bit01 _).1, (bit01 _).2.1⟩, ?_⟩
    walk_at "fw"
    refine ⟨⟨Int.mul_nonneg (by split <;> omega) (bit01 _).2.2, Int.emod_nonneg _ (by decide), Int.emod_lt_of_pos _ (by decide)⟩, ?_⟩
    assumption))
def wt_law_stream : Wt := fun ds kk _ => ∃ (ns : List Int) (k : Nat), ds = [.scr ns, .int (k : Nat)] ∧ k ≤ 1000 ∧ kk .stm
theorem ok_law_stream (T : TX K mg) : Ok P w K mg base 1 (He.ga K "_law_stream") ["_law_script", "_law_k"] (spD K wt_law_stream) := by
  obtain ⟨fd, F⟩ := T.def_ 28 (d := d_law_stream)
  refine ⟨⟨fd, fnD F sc_law_stream (fun _ _ _ h => by obtain ⟨ns, k, rfl, h1, hk⟩ := h; rfl) (fun cdv A outer s H E hr => ⟨_, (pss_cons (ps_set (i := 2) sc_law_stream.nd rfl (by first | exact Or.inl rfl | exact Or.inr rfl) pe_int) (pss_cons (ps_if (pt_cmpR op_lt (pv 1) (pe_callB (z_len K) (by rfl) (T.free 2) boot_len (pa_cons (pv 0) pa_nil)) (nomark _)) (pss_one (ps_set (i := 2) sc_law_stream.nd rfl (by first | exact Or.inl rfl | exact Or.inr rfl) (pe_ix (z_ixL K) (pv 0) (pv 1) (fun _ _ => rfl)))) pss_nil) (pss_cons (ps_set (i := 3) sc_law_stream.nd rfl (by first | exact Or.inl rfl | exact Or.inr rfl) (pe_callB (call_max2 rfl) (by rfl) (T.free 48) (by decide +kernel) (pa_cons (pv 2) (pa_cons (pe_op op_sub (pe_un un_neg pe_int) (pv 2)) pa_nil)))) (pss_cons (ps_set (i := 4) sc_law_stream.nd rfl (by first | exact Or.inl rfl | exact Or.inr rfl) (pe_op op_mod (pe_op op_mul (pe_op op_add (pe_op op_add (pe_op op_add (pe_op op_mod (pv 3) pe_int) (pe_op op_mul (pe_op op_mul pe_int (pv 1)) (pv 1))) (pe_op op_mul pe_int (pv 1))) pe_int) pe_int) pe_int)) (pss_one (ps_ret (pe_stm (pe_lst (pa_cons (pe_op op_mul (pv 3) (pe_callTy (call_int1) (by rfl) (T.free 52) (by decide +kernel) (pa_cons (pe_cmpR op_ge (pv 3) (pe_op op_pow pe_int pe_int) (nomark _)) pa_nil))) (pa_cons (pv 4) pa_nil)))))))))), fun ds kk ke h => ?_⟩), FunD.bindsN F fun _ _ _ _ _ _ us hl => match us, hl with | [_, _], _ => rfl⟩, F.kp⟩
  obtain ⟨ns, k, rfl, h1, hk⟩ := h
  try dsimp only [cxK]
  walk_at "fw"
  refine ⟨fun h => ?_, fun h => ?_⟩
  · refine ds_asg (by walk_at "fno") ?_
    refine dt_op opd_ixS ?_
    walk_at "fw"
    have hlt : k < ns.length := by have := of_decide_eq_true h; omega
    refine ⟨_, _, ns[k], rfl, rfl, ?_, ?_⟩
    · unfold atI ixN
      rw [if_pos (by omega), if_pos (by omega)]
      show ns[(k : Int).toNat]? = _
      rw [Int.toNat_natCast, List.getElem?_eq_getElem hlt]
    · walk_at "strm"
  · walk_at "strm"
def wt_law_draw : Wt := fun ds kk _ => ∃ n : Int, ds = [.stm, .int n] ∧ 0 < n ∧ n < 1000000 ∧ ∀ r : Int, 0 ≤ r → r < n → kk (.int r)
theorem ok_law_draw (T : TX K mg) : Ok P w K mg base 1 (He.ga K "_law_draw") ["_law_stream_here", "_law_count"] (spD K wt_law_draw) := by
  obtain ⟨fd, F⟩ := T.def_ 29 (d := d_law_draw)
  refine ⟨⟨fd, g_fun F sc_law_draw (fun vs H Q E ⟨T, ds, kk, ke, dm, rr, ⟨n, e, _⟩, _⟩ => by rw [rr.length, e]; rfl) (fun cdv A outer s H vs Q E hr ⟨S, ds, kk, ke, dm, rr, ⟨n, e, n0, n1, hk⟩, hq, he⟩ => ⟨_, pss_openS (pss_cons (ps_if (pt_cmpR op_gt (pe_ix (z_ixL K) (pv 0) pe_int (fun _ _ => rfl)) pe_int (nomark _)) (pss_cons (ps_set (i := 2) sc_law_draw.nd rfl (by first | exact Or.inl rfl | exact Or.inr rfl) (pe_op op_mod (pe_ix (z_ixL K) (pv 0) pe_int (fun _ _ => rfl)) (pv 1))) (pss_cons (ps_asg (pe_op op_fdivN (pe_ix (z_ixL K) (pv 0) pe_int (fun _ _ => rfl)) (pv 1)) (pg_sub (pv 0) pe_int set_list)) (pss_one (ps_ret (pv 2))))) pss_nil) (pss_cons (ps_asg (pe_op op_mod (pe_op op_add (pe_op op_mul (pe_ix (z_ixL K) (pv 0) pe_int (fun _ _ => rfl)) pe_int) pe_int) pe_int) (pg_sub (pv 0) pe_int set_list)) (pss_one (ps_ret (pe_op op_mod (pe_op op_fdivN (pe_op op_mod (pe_op op_mul (pe_ix (z_ixL K) (pv 0) pe_int (fun _ _ => rfl)) (pe_ix (z_ixL K) (pv 0) pe_int (fun _ _ => rfl))) pe_int) pe_int) (pv 1)))))), ?_⟩), FunD.bindsN F fun _ _ _ _ _ _ us hl => match us, hl with | [_, _], _ => rfl⟩, F.kp⟩
  subst e
  cases rr with
  | cons r1 t =>
    cases t with
    | cons r2 t =>
      cases t
      cases r2
      cases r1 with
      | @stm p nS hp =>
        refine ⟨p, rfl, hp, fun i j hb => ?_⟩
        have st : ∀ (i' j' : Int) (r : Int) (H1 : Hp), 0 ≤ r → r < n → StmB i' j' → H1 p = some (.lst [.int i', .int j']) → (∀ a, a ≠ p → H1 a = H a) → ∃ i' j', StmB i' j' ∧ H1 p = some (.lst [.int i', .int j']) ∧ Q (.int r) (upd H1 p (stmO p)) :=
          fun i' j' r H1 r0 r1 sb hp1 he1 => ⟨i', j', sb, hp1, hq _ _ _ (hk r r0 r1) (fun a u e => by
            by_cases ea : a = p
            · subst ea; rw [hp] at e; cases e; exact upd_same
            · rw [upd_ne ea, he1 a ea]; exact e) (.int r)⟩
        refine ⟨_, rfl, p, [.int i, .int j], 0, .int i, rfl, rfl, SqL.of upd_same, rfl, i, 0, rfl, rfl, _, rfl, ?_⟩
        by_cases h : 0 < i
        · refine (iff_of_eq (if_pos (decide_eq_true h))).mpr ?_
          refine ⟨_, rfl, p, [.int i, .int j], 0, .int i, rfl, rfl, SqL.of upd_same, rfl, ⟨_, rfl, i, n, rfl, rfl, n0, ?_⟩⟩
          refine ⟨_, rfl, p, [.int i, .int j], 0, .int i, rfl, rfl, SqL.of upd_same, rfl, ⟨_, rfl, i, n, rfl, rfl, ⟨by omega, by omega⟩, ?_⟩⟩
          refine ⟨_, rfl, p, [.int i, .int j], 0, 0, rfl, rfl, upd_same, rfl, ?_⟩
          refine ⟨_, rfl, ?_⟩
          exact st (i.fdiv n) j (i % n) _ (Int.emod_nonneg _ (by omega)) (Int.emod_lt_of_pos _ n0) ⟨Int.fdiv_nonneg hb.1 (by omega), hb.2.1, hb.2.2⟩ upd_same (fun a ea => by rw [upd_ne ea, upd_ne ea])
        · refine (iff_of_eq (if_neg (by rw [decide_eq_true_eq]; exact h))).mpr ?_
          refine ⟨_, rfl, p, [.int i, .int j], 1, .int j, rfl, rfl, SqL.of upd_same, rfl, j, 69621, rfl, rfl, .inr ⟨by decide, by decide⟩, _, 7, rfl, rfl, _, 2147483647, rfl, rfl, (by show (0 : Int) < 2147483647; decide), ?_⟩
          refine ⟨_, rfl, p, [.int i, .int j], 1, 1, rfl, rfl, upd_same, rfl, ?_⟩
          have b0 : 0 ≤ (j * 69621 + 7) % 2147483647 := Int.emod_nonneg _ (by decide)
          have b1 : (j * 69621 + 7) % 2147483647 < 2147483647 := Int.emod_lt_of_pos _ (by decide)
          refine ⟨_, rfl, p, [.int i, .int ((j * 69621 + 7) % 2147483647)], 1, .int ((j * 69621 + 7) % 2147483647), rfl, rfl, SqL.of upd_same, rfl, ?_⟩
          refine ⟨_, rfl, p, [.int i, .int ((j * 69621 + 7) % 2147483647)], 1, .int ((j * 69621 + 7) % 2147483647), rfl, rfl, SqL.of upd_same, rfl, ((j * 69621 + 7) % 2147483647), ((j * 69621 + 7) % 2147483647), rfl, rfl, .inr ⟨by omega, by omega⟩, ?_⟩
          refine ⟨_, 2147483629, rfl, rfl, (by show (0 : Int) < 2147483629; decide), _, 32, rfl, rfl, ⟨by decide, by decide⟩, _, rfl, _, n, rfl, rfl, n0, ?_⟩
          exact st i ((j * 69621 + 7) % 2147483647) _ _ (Int.emod_nonneg _ (by omega)) (Int.emod_lt_of_pos _ n0) ⟨hb.1, b0, b1⟩ upd_same (fun a ea => by rw [upd_ne ea, upd_ne ea])
def wt_law_shuffled : Wt := fun ds kk _ => ∃ ss : List Str, ds = [.stm, sl ss] ∧ ss.length ≤ 1000 ∧ ∀ ys : List Str, ys.Perm ss → kk (sl ys)
theorem ok_law_shuffled (T : TX K mg) : Ok P w K mg base 2 (He.ga K "_law_shuffled") ["_law_stream_here", "_law_items"] (spD K wt_law_shuffled) := by
  obtain ⟨fd, F⟩ := T.def_ 30 (d := d_law_shuffled)
  have k_law_draw := ok_law_draw (P := P) (w := w) (base := base) T
  refine ⟨⟨fd, fnD F sc_law_shuffled (fun _ _ _ h => by obtain ⟨ss, rfl, hl, hk⟩ := h; rfl) (fun cdv A outer s H E hr => ⟨_, (pss_cons (ps_par (i := 2) (j := 3) rfl sc_law_shuffled.nd rfl rfl (by decide) rfl rfl (pa_cons (pe_callTy (z_listof K) (by rfl) (T.free 4) (by decide +kernel) (pa_cons (pv 1) pa_nil)) (pa_cons (pe_lst pa_nil) pa_nil)) (by rfl)) (pss_cons (ps_for (passes_of rfl) rfl (pi_range1 (by rfl) (T.free 50) (pa_cons (pe_callB (z_len K) (by rfl) (T.free 2) boot_len (pa_cons (pv 2) pa_nil)) pa_nil)) (pg_name (i := 4) sc_law_shuffled.nd rfl (by first | exact Or.inl rfl | exact Or.inr rfl)) (pss_one (ps_expr (pe_bm PySem.F.plainAttrs_list PySem.F.slot_list_append PySem.F.type_list_append mt_append (pv 3) (pa_cons (pe_bm PySem.F.plainAttrs_list PySem.F.slot_list_pop PySem.F.type_list_pop mt_popAt (pv 2) (pa_cons (q_call k_law_draw hr (T.glo 53) (pa_cons (pv 0) (pa_cons (pe_callB (z_len K) (by rfl) (T.free 2) boot_len (pa_cons (pv 2) pa_nil)) pa_nil))) pa_nil)) pa_nil))))) (pss_one (ps_ret (pv 3))))), fun ds kk ke h => ?_⟩), FunD.bindsN F fun _ _ _ _ _ _ us hl => match us, hl with | [_, _], _ => rfl⟩, F.kp⟩
  obtain ⟨ss, rfl, hl, hk⟩ := h
  try dsimp only [cxK]
  refine ds_seq ?_
  refine ds_parF (by decide) (by walk_at "fno") (by walk_at "fno") (by exact (by decide : 2 < 5)) (by exact (by decide : 3 < 5)) ?_
  walk_at "fw"
  refine ds_for [4] (fun _ i G' O' => ∃ (f l : List Str) (g : Option D), G' = [some .stm, some (sl ss), none, none, g] ∧ O' = [(3, .lst (f.map D.str)), (2, .lst (l.map D.str))] ∧ l.length + i = ss.length ∧ (f ++ l).Perm ss) ?_
  walk_at "fw"
  rw [List.length_map]
  refine ⟨by omega, by omega, ⟨[], ss, _, rfl, rfl, rfl, List.Perm.refl _⟩, fun i x G' O' hi hP => ?_, fun G' O' hP => ?_⟩
  · obtain ⟨f, l, g, rfl, rfl, hl2, hp⟩ := hP
    have hin : i < ss.length := by
      have := (List.getElem?_eq_some_iff.mp hi).1
      rw [rngD_len] at this; omega
    walk_at "fw"
    rw [List.length_map]
    refine ⟨by omega, by omega, fun r r0 r1 => ?_⟩
    have hr2 : r.toNat < l.length := by omega
    refine ⟨r, r.toNat, .str l[r.toNat], rfl, by omega, by omega, ?_, ?_, _, rfl, ?_, f ++ [l[r.toNat]], l.eraseIdx r.toNat, _, rfl, ?_, ?_, ?_⟩
    · exact (ixN_seq (by unfold ixN; rw [if_pos r0, if_pos r1])).1
    · rw [List.getElem?_map, List.getElem?_eq_getElem hr2]; rfl
    · have hfl := hp.length_eq
      rw [List.length_append] at hfl
      rw [List.length_map]
      exact szOf (by omega)
    · rw [List.map_append, ← map_erase]; rfl
    · rw [List.length_eraseIdx_of_lt hr2]; omega
    · rw [List.append_assoc]
      exact ((List.Perm.append_left f (erase_perm hr2))).trans hp
  · obtain ⟨f, l, g, rfl, rfl, hl2, hp⟩ := hP
    rw [rngD_len] at hl2
    have e : l = [] := List.length_eq_zero_iff.mp (by omega)
    subst e
    refine ds_freeze 0 (i := 3) (o := .lst (f.map D.str)) rfl (by exact (by decide : 3 < 5)) ?_
    walk_at "fw"
    rw [List.append_nil] at hp
    exact hk f hp
end
end

set_option maxHeartbeats 4000000
/-! The law's makings. -/

section

theorem cut_to {ss : List Str} {k : Nat} : cutD (ss.map D.str) none (some (k : Int)) = (ss.take k).map D.str := by
  unfold cutD HT.sIx
  have h0 : ¬ ((k : Int) < 0) := by omega
  simp only [h0, if_false, Int.toNat_natCast, List.length_map]
  rw [List.drop_zero, Nat.sub_zero, ← List.map_take]
  rcases Nat.le_total k ss.length with h | h
  · rw [Nat.min_eq_left h]
  · rw [Nat.min_eq_right h, List.take_of_length_le (Nat.le_refl _), List.take_of_length_le h]
theorem get_strs2 {ss : List Str} {i : Nat} {x : D} (h : (ss.map D.str)[i]? = some x) : ∃ s, ss[i]? = some s ∧ x = .str s := by
  rw [List.getElem?_map] at h
  cases e : ss[i]? with
  | none => rw [e] at h; cases h
  | some s => rw [e] at h; cases h; exact ⟨s, rfl, rfl⟩
def PLAYERS : List Str := ["ann", "bob", "zoe", "b", "carol"]
def NAMES : List Str := ["a", "ab", "c", "dd", "e", "x", "yes", "zzzzzzzz"]
theorem players_ok : (PLAYERS.all isName) = true := by decide +kernel
theorem names_ok : (NAMES.all isName) = true := by decide +kernel
theorem players_nd : PLAYERS.Nodup := by decide +kernel
theorem names_nd : NAMES.Nodup := by decide +kernel
section
variable {P : Program} [PMain P] {w : World} {K : PySem.W.Frag} {mg : Str → Option Value} {base : Heap}
def wt_law_players : Wt := fun ds kk _ => ∃ m : Int, ds = [.stm, .int m] ∧ 0 < m ∧ m ≤ 5 ∧ ∀ ps : List Str, ps ≠ [] → ps.length ≤ m.toNat → ps.Nodup → (∀ p ∈ ps, isName p = true) → (∀ p ∈ ps, p ∈ PLAYERS) → kk (sl ps)
theorem ok_law_players (T : TX K mg) : Ok P w K mg base 3 (He.ga K "_law_players") ["_law_stream_here", "_law_most"] (spD K wt_law_players) := by
  obtain ⟨fd, F⟩ := T.def_ 31 (d := d_law_players)
  have k_law_draw := ok_law_draw (P := P) (w := w) (base := base) T
  have k_law_shuffled := ok_law_shuffled (P := P) (w := w) (base := base) T
  refine ⟨⟨fd, fnD F sc_law_players (fun _ _ _ h => by obtain ⟨m, rfl, h0, h1, hk⟩ := h; rfl) (fun cdv A outer s H E hr => ⟨_, (pss_one (ps_ret (pe_slice (z_slL K) (q_call k_law_shuffled hr (T.glo 54) (pa_cons (pv 0) (pa_cons (pe_lst (pa_cons pe_str (pa_cons pe_str (pa_cons pe_str (pa_cons pe_str (pa_cons pe_str pa_nil)))))) pa_nil))) po_none (po_some (pe_op op_add pe_int (q_call k_law_draw hr (T.glo 53) (pa_cons (pv 0) (pa_cons (pv 1) pa_nil)))))))), fun ds kk ke h => ?_⟩), FunD.bindsN F fun _ _ _ _ _ _ us hl => match us, hl with | [_, _], _ => rfl⟩, F.kp⟩
  obtain ⟨m, rfl, h0, h1, hk⟩ := h
  try dsimp only [cxK]
  walk_at "fw"
  refine ⟨PLAYERS, rfl, by decide, fun ys hp => ?_⟩
  walk_at "fw"
  refine ⟨h0, by omega, fun r r0 r1 => ?_⟩
  walk_at "fw"
  have e : (1 + r) = ((1 + r.toNat : Nat) : Int) := by omega
  have hl : ys.length = 5 := hp.length_eq
  show kk (.lst (cutD (ys.map D.str) none (some (1 + r))))
  rw [e, cut_to]
  refine hk _ (fun z => ?_) ?_ (((List.Perm.nodup_iff hp).mpr players_nd).sublist (List.take_sublist _ _)) (fun p h => List.all_eq_true.mp players_ok p (hp.mem_iff.mp (List.mem_of_mem_take h))) fun p h => hp.mem_iff.mp (List.mem_of_mem_take h)
  · have := congrArg List.length z
    rw [List.length_take, hl, List.length_nil] at this
    omega
  · rw [List.length_take]; omega
def wt_law_names : Wt := fun ds kk _ => ∃ m : Int, ds = [.stm, .int m] ∧ 0 < m ∧ m ≤ 8 ∧ ∀ ps : List Str, (ps.length : Int) = m → ps.Nodup → (∀ p ∈ ps, isName p = true) → (∀ p ∈ ps, p ∈ NAMES) → kk (sl ps)
theorem ok_law_names (T : TX K mg) : Ok P w K mg base 3 (He.ga K "_law_names") ["_law_stream_here", "_law_many"] (spD K wt_law_names) := by
  obtain ⟨fd, F⟩ := T.def_ 32 (d := d_law_names)
  have k_law_shuffled := ok_law_shuffled (P := P) (w := w) (base := base) T
  refine ⟨⟨fd, fnD F sc_law_names (fun _ _ _ h => by obtain ⟨m, rfl, h0, h1, hk⟩ := h; rfl) (fun cdv A outer s H E hr => ⟨_, (pss_one (ps_ret (pe_slice (z_slL K) (q_call k_law_shuffled hr (T.glo 54) (pa_cons (pv 0) (pa_cons (pe_lst (pa_cons pe_str (pa_cons pe_str (pa_cons pe_str (pa_cons pe_str (pa_cons pe_str (pa_cons pe_str (pa_cons pe_str (pa_cons pe_str pa_nil))))))))) pa_nil))) po_none (po_some (pv 1))))), fun ds kk ke h => ?_⟩), FunD.bindsN F fun _ _ _ _ _ _ us hl => match us, hl with | [_, _], _ => rfl⟩, F.kp⟩
  obtain ⟨m, rfl, h0, h1, hk⟩ := h
  try dsimp only [cxK]
  walk_at "fw"
  refine ⟨NAMES, rfl, by decide, fun ys hp => ?_⟩
  walk_at "fw"
  have e : m = ((m.toNat : Nat) : Int) := by omega
  have hl : ys.length = 8 := hp.length_eq
  show kk (.lst (cutD (ys.map D.str) none (some m)))
  rw [e, cut_to]
  refine hk _ ?_ (((List.Perm.nodup_iff hp).mpr names_nd).sublist (List.take_sublist _ _)) (fun p h => List.all_eq_true.mp names_ok p (hp.mem_iff.mp (List.mem_of_mem_take h))) fun p h => hp.mem_iff.mp (List.mem_of_mem_take h)
  rw [List.length_take]; omega
/-- what the law lays by -/
abbrev ownD (rs : List (Str × List Str)) (ts : List Str) : D := .lst [.dic (rs.map fun p => ((.inr p.1 : Key), sl p.2)), sl ts]
structure OwnOk (rs : List (Str × List Str)) (ts ns : List Str) (m : Nat) : Prop where
  ne : rs ≠ []
  len : rs.length ≤ 4
  nd : (rs.map Prod.fst).Nodup
  name : ∀ p ∈ rs, isName p.1 = true
  perm : ∀ p ∈ rs, p.2.Perm ns
  nsd : ns.Nodup
  nsn : ∀ s ∈ ns, isName s = true
  nsl : ns.length ≤ m
  nsN : ∀ s ∈ ns, s ∈ NAMES
  rsP : ∀ p ∈ rs, p.1 ∈ PLAYERS
  nn : ns ≠ []
  tl : ts.length ≤ ns.length
  tk : ∀ t ∈ ts, t ∈ rs.map Prod.fst
theorem own_lc {ns : List Str} : ∀ {ps : List Str} {zs : List D}, LcR (fun x o => ∃ p ys, x = .str p ∧ List.Perm ys ns ∧ o = some (.tup [.str p, sl ys])) (ps.map D.str) zs → ∃ rs : List (Str × List Str), rs.map Prod.fst = ps ∧ (∀ q ∈ rs, q.2.Perm ns) ∧ zs = rs.map fun p => .tup [.str p.1, sl p.2]
  | [], _, .nil => ⟨[], rfl, (fun q h => by cases h), rfl⟩
  | p :: ps, _, .keep r t => by
    obtain ⟨rs, e1, e2, e3⟩ := own_lc t
    obtain ⟨p', ys, h1, h2, h3⟩ := r
    cases h1
    injection h3 with h3
    refine ⟨(p, ys) :: rs, by rw [List.map_cons, e1], fun q hq => ?_, by rw [h3, e3]; rfl⟩
    rcases List.mem_cons.mp hq with e | hq
    · rw [e]; exact h2
    · exact e2 q hq
  | p :: ps, _, .skip r t => by
    obtain ⟨p', ys, h1, h2, h3⟩ := r
    cases h3
theorem turn_lc {ps : List Str} : ∀ {xs zs : List D}, LcR (fun x o => ∃ t ∈ ps, o = some (D.str t)) xs zs → ∃ ts : List Str, ts.length = xs.length ∧ (∀ t ∈ ts, t ∈ ps) ∧ zs = ts.map D.str
  | [], _, .nil => ⟨[], rfl, (fun q h => by cases h), rfl⟩
  | x :: xs, _, .keep r t => by
    obtain ⟨ts, e1, e2, e3⟩ := turn_lc t
    obtain ⟨s, h1, h2⟩ := r
    injection h2 with h2
    refine ⟨s :: ts, by rw [List.length_cons, List.length_cons, e1], fun q hq => ?_, by rw [h2, e3]; rfl⟩
    rcases List.mem_cons.mp hq with e | hq
    · rw [e]; exact h1
    · exact e2 q hq
  | x :: xs, _, .skip r t => by
    obtain ⟨s, h1, h2⟩ := r
    cases h2
theorem atI_strs {ps : List Str} {r : Int} (r0 : 0 ≤ r) (r1 : r < ps.length) : ∃ p ∈ ps, atI (ps.map D.str) r = some (.str p) := by
  have h : r.toNat < ps.length := by omega
  refine ⟨ps[r.toNat], List.getElem_mem h, ?_⟩
  unfold atI ixN
  rw [List.length_map, if_pos r0, if_pos r1]
  show (ps.map D.str)[r.toNat]? = _
  rw [List.getElem?_map, List.getElem?_eq_getElem h]; rfl
theorem getD_own {rs : List (Str × List Str)} {p : Str} (nd : (rs.map Prod.fst).Nodup) (h : p ∈ rs.map Prod.fst) : getD (rs.map fun p => ((.inr p.1 : Key), sl p.2)) (.inr p) = some (sl (lk rs p)) := by
  refine getD_some ?_ ?_
  · have : (rs.map fun p => ((.inr p.1 : Key), sl p.2)).map Prod.fst = (rs.map Prod.fst).map (Sum.inr : Str → Key) := by rw [List.map_map, List.map_map]; rfl
    rw [this]; exact keys_nodup nd
  · exact List.mem_map.mpr ⟨_, lk_mem h, rfl⟩
theorem lk_self {rs : List (Str × List Str)} (nd : (rs.map Prod.fst).Nodup) {q : Str × List Str} (h : q ∈ rs) : lk rs q.1 = q.2 := by
  induction rs with
  | nil => cases h
  | cons a r ih =>
    have nd2 := List.nodup_cons.mp (show (a.1 :: r.map Prod.fst).Nodup from nd)
    unfold lk
    rw [List.lookup_cons]
    rcases List.mem_cons.mp h with e | h
    · subst e
      rw [beq_self_eq_true]; rfl
    · have hb : (q.1 == a.1) = false := by
        rw [beq_eq_false_iff_ne]; exact fun z => nd2.1 (by rw [← z]; exact List.mem_map_of_mem (f := Prod.fst) h)
      rw [hb]
      exact ih nd2.2 h
theorem rks_lk {rs : List (Str × List Str)} (nd : (rs.map Prod.fst).Nodup) : ((rs.map Prod.fst).map fun s => ((.inr s : Key), rk (lk rs s))) = rks rs := by
  unfold rks
  rw [List.map_map]
  exact List.map_congr_left fun q hq => by
    show ((.inr q.1 : Key), rk (lk rs q.1)) = _
    rw [lk_self nd hq]
theorem OwnOk.nd2 {rs : List (Str × List Str)} {ts ns : List Str} {m : Nat} (ok : OwnOk rs ts ns m) {p : Str × List Str} (h : p ∈ rs) : p.2.Nodup := (List.Perm.nodup_iff (ok.perm p h)).mpr ok.nsd
theorem OwnOk.nm {rs : List (Str × List Str)} {ts ns : List Str} {m : Nat} (ok : OwnOk rs ts ns m) {p : Str × List Str} (h : p ∈ rs) : ∀ s ∈ p.2, isName s = true := fun s hs => ok.nsn s ((ok.perm p h).mem_iff.mp hs)
theorem OwnOk.ln {rs : List (Str × List Str)} {ts ns : List Str} {m : Nat} (ok : OwnOk rs ts ns m) {p : Str × List Str} (h : p ∈ rs) : p.2.length = ns.length := (ok.perm p h).length_eq
theorem OwnOk.rks {rs : List (Str × List Str)} {ts ns : List Str} (ok : OwnOk rs ts ns 30) : Rks rs where
  ne := ok.ne
  len := by have := ok.len; omega
  nd := ok.nd
  name := ok.name
  le := fun p h => by rw [ok.ln h]; have := ok.nsl; omega
  names := fun p h => ok.nm h
  same := fun p hp q hq => srt_congr fun x => (ok.perm p hp).mem_iff.trans (ok.perm q hq).mem_iff.symm
end
end

set_option maxHeartbeats 4000000
/-! The law's makings. -/

section

section
variable {P : Program} [PMain P] {w : World} {K : PySem.W.Frag} {mg : Str → Option Value} {base : Heap}
def wt_law_own : Wt := fun ds kk _ => ∃ m : Nat, ds = [.stm, .int (m : Nat)] ∧ 0 < m ∧ m ≤ 8 ∧ ∀ rs ts ns, OwnOk rs ts ns m → kk (ownD rs ts)
theorem ok_law_own (T : TX K mg) : Ok P w K mg base 4 (He.ga K "_law_own") ["_law_stream_here", "_law_most"] (spD K wt_law_own) := by
  obtain ⟨fd, F⟩ := T.def_ 33 (d := d_law_own)
  have k_law_draw := ok_law_draw (P := P) (w := w) (base := base) T
  have k_law_names := ok_law_names (P := P) (w := w) (base := base) T
  have k_law_players := ok_law_players (P := P) (w := w) (base := base) T
  have k_law_shuffled := ok_law_shuffled (P := P) (w := w) (base := base) T
  refine ⟨⟨fd, fnD F sc_law_own (fun _ _ _ h => by obtain ⟨m, rfl, h0, h1, hk⟩ := h; rfl) (fun cdv A outer s H E hr => ⟨_, (pss_cons (ps_asg (pe_tup (pa_cons (q_call k_law_names hr (T.glo 56) (pa_cons (pv 0) (pa_cons (pe_op op_add pe_int (q_call k_law_draw hr (T.glo 53) (pa_cons (pv 0) (pa_cons (pv 1) pa_nil)))) pa_nil))) (pa_cons (q_call k_law_players hr (T.glo 55) (pa_cons (pv 0) (pa_cons pe_int pa_nil))) pa_nil))) (q_tup (n := 2) K rfl rfl (pgs_cons (pg_name (i := 2) sc_law_own.nd rfl (by first | exact Or.inl rfl | exact Or.inr rfl)) (pgs_cons (pg_name (i := 3) sc_law_own.nd rfl (by first | exact Or.inl rfl | exact Or.inr rfl)) pgs_nil)))) (pss_cons (ps_set (i := 4) sc_law_own.nd rfl (by first | exact Or.inl rfl | exact Or.inr rfl) (pe_callTy (z_dictP K rfl) (by rfl) (T.free 27) (by decide +kernel) (pa_cons (pe_lc (own := [("_law_player", 5)]) rfl sc_law_own.nd (z_plist K (pv 3)) (blkOk_by (own := [("_law_player", 5)]) (N := N_law_own) (sc := defScope s_law_own) (by decide +kernel)) (fun _ _ _ _ _ => (pg_name (i := 5) sc_law_own.nd rfl (by first | exact Or.inl rfl | exact Or.inr rfl))) (fun _ _ _ _ _ => pts_nil) (fun _ _ _ _ _ => (pe_tup (pa_cons (pv 5) (pa_cons (q_call k_law_shuffled hr (T.glo 54) (pa_cons (pv 0) (pa_cons (pv 2) pa_nil))) pa_nil))))) pa_nil))) (pss_cons (ps_setLc (i := 6) (own := [("_law_turn", 7)]) rfl sc_law_own.nd rfl rfl (sw_true rfl rfl rfl (by decide +kernel)) (pi_range1 (by rfl) (T.free 50) (pa_cons (q_call k_law_draw hr (T.glo 53) (pa_cons (pv 0) (pa_cons (pe_op op_add (pe_callB (z_len K) (by rfl) (T.free 2) boot_len (pa_cons (pv 2) pa_nil)) pe_int) pa_nil))) pa_nil)) (blkOk_by (own := [("_law_turn", 7)]) (N := N_law_own) (sc := defScope s_law_own) (by decide +kernel)) (fun _ _ _ _ _ => (pg_name (i := 7) sc_law_own.nd rfl (by first | exact Or.inl rfl | exact Or.inr rfl))) (fun _ _ _ _ _ => pts_nil) (fun _ _ _ _ _ => (pe_ix (z_ixL K) (pv 3) (q_call k_law_draw hr (T.glo 53) (pa_cons (pv 0) (pa_cons (pe_callB (z_len K) (by rfl) (T.free 2) boot_len (pa_cons (pv 3) pa_nil)) pa_nil))) (fun _ _ => rfl)))) (pss_one (ps_ret (pe_lst (pa_cons (pv 4) (pa_cons (pv 6) pa_nil)))))))), fun ds kk ke h => ?_⟩), FunD.bindsN F fun _ _ _ _ _ _ us hl => match us, hl with | [_, _], _ => rfl⟩, F.kp⟩
  obtain ⟨m, rfl, h0, h1, hk⟩ := h
  try dsimp only [cxK]
  walk_at "fw"
  refine ⟨by omega, by omega, fun r r0 r1 => ?_⟩
  walk_at "fw"
  refine ⟨by omega, by omega, fun ns n1 n2 n3 n4 => ?_⟩
  walk_at "fw"
  refine ⟨by decide, by decide, fun ps p1 p2 p3 p4 p5 => ?_⟩
  have p2' : ps.length ≤ 3 := p2
  walk_at "fw"
  refine (df_lc [5] (fun x o => ∃ p ys, x = .str p ∧ List.Perm ys ns ∧ o = some (.tup [.str p, sl ys])) (by decide) (by walk_at "fno") ?_).dt
  walk_at "fw"
  refine ⟨by rw [List.length_map]; exact szOf (by omega), fun x hx => ?_, fun zs hz => ?_⟩
  · obtain ⟨p, hp, rfl⟩ := List.mem_map.mp hx
    walk_at "fw"
    refine ⟨by omega, fun ys hy => ?_⟩
    walk_at "fw"
    exact ⟨p, ys, rfl, hy, rfl⟩
  · obtain ⟨rs, e1, e2, rfl⟩ := own_lc hz
    have nd : (rs.map Prod.fst).Nodup := by rw [e1]; exact p3
    have lrs : rs.length = ps.length := by rw [← e1, List.length_map]
    walk_at "fw"
    refine ⟨rs.map fun p => ((.inr p.1 : Key), sl p.2), by simp only [List.map_map]; rfl, ?_⟩
    rw [mergeD_nil (by
      have e : (rs.map fun p => ((.inr p.1 : Key), sl p.2)).map Prod.fst = (rs.map Prod.fst).map (Sum.inr : Str → Key) := by rw [List.map_map, List.map_map]; rfl
      rw [e]; exact keys_nodup nd)]
    walk_at "fw"
    refine (df_lc [7] (fun x o => ∃ t ∈ ps, o = some (.str t)) (by decide) (by walk_at "fno") ?_).dt
    walk_at "fw"
    rw [List.length_map]
    refine ⟨by omega, by omega, fun c c0 c1 => ?_⟩
    walk_at "fw"
    refine ⟨by omega, by omega, by rw [rngD_len]; exact szOf (by omega), fun x hx => ?_, fun zs hz => ?_⟩
    · walk_at "fw"
      have h0 : 0 < ps.length := List.length_pos_iff.mpr p1
      rw [List.length_map]
      refine ⟨by omega, by omega, fun r2 r20 r21 => ?_⟩
      obtain ⟨t, ht, e⟩ := atI_strs r20 r21
      exact ⟨_, _, _, rfl, rfl, e, t, ht, rfl⟩
    · obtain ⟨ts, t1, t2, rfl⟩ := turn_lc hz
      rw [rngD_len] at t1
      walk_at "fw"
      refine hk rs ts ns ⟨fun z => p1 (by rw [← e1, z]; rfl), by omega, nd, fun p hp => p4 _ (by rw [← e1]; exact List.mem_map_of_mem (f := Prod.fst) hp), e2, n2, n3, by omega, n4, fun p hp => p5 _ (by rw [← e1]; exact List.mem_map_of_mem (f := Prod.fst) hp), (fun z => by rw [z] at n1; simp at n1; omega), by omega, fun t ht => by rw [e1]; exact t2 t ht⟩
def wt_law_game : Wt := fun ds kk _ => ∃ (rs : List (Str × List Str)) (ts ns : List Str), ds = [ownD rs ts] ∧ OwnOk rs ts ns 30 ∧ kk (gm (srs rs) ts)
theorem ok_law_game (T : TX K mg) : Ok P w K mg base 9 (He.ga K "_law_game") ["_law_own_here"] (spD K wt_law_game) := by
  obtain ⟨fd, F⟩ := T.def_ 34 (d := d_law_game)
  have k_Game_init := ok_Game_init (P := P) (w := w) (base := base) T
  have k_Ranking_init := ok_Ranking_init (P := P) (w := w) (base := base) T
  have k_Turns_init := ok_Turns_init (P := P) (w := w) (base := base) T
  refine ⟨⟨fd, fnD F sc_law_game (fun _ _ _ h => by obtain ⟨rs, ts, ns, rfl, ok, hk⟩ := h; rfl) (fun cdv A outer s H E hr => ⟨_, (pss_one (ps_ret (q_make k_Game_init (T.mkr 57) hr (T.glo 58) (pa_cons (pe_callTy (z_dictP K rfl) (by rfl) (T.free 27) (by decide +kernel) (pa_cons (pe_unl (pe_lc (own := [("_law_player", 1)]) rfl sc_law_game.nd (pi_keys (pe_lk (pe_ix (z_ixL K) (pv 0) pe_int (fun _ _ => rfl)))) (blkOk_by (own := [("_law_player", 1)]) (N := N_law_game) (sc := defScope s_law_game) (by decide +kernel)) (fun _ _ _ _ _ => (pg_name (i := 1) sc_law_game.nd rfl (by first | exact Or.inl rfl | exact Or.inr rfl))) (fun _ _ _ _ _ => pts_nil) (fun _ _ _ _ _ => (pe_tup (pa_cons (pv 1) (pa_cons (q_make k_Ranking_init (T.mkr 60) hr (T.glo 38) (pa_cons (q_dget hr (pe_ix (z_ixL K) (pv 0) pe_int (fun _ _ => rfl)) (pv 1) (fun _ _ => rfl)) pa_nil)) pa_nil)))))) pa_nil)) (pa_cons (q_make k_Turns_init (T.mkr 59) hr (T.glo 34) (pa_cons (pe_ix (z_ixL K) (pv 0) pe_int (fun _ _ => rfl)) pa_nil)) pa_nil))))), fun ds kk ke h => ?_⟩), FunD.bindsN F fun _ _ _ _ _ _ us hl => match us, hl with | [_], _ => rfl⟩, F.kp⟩
  obtain ⟨rs, ts, ns, rfl, ok, hk⟩ := h
  try dsimp only [cxK]
  walk_at "fw"
  refine (df_lcLM [1] D.str (fun s => .tup [.str s, rk (lk rs s)]) (fun a b e => by cases e; rfl) (by decide) (by walk_at "fno") ?_).dt
  walk_at "fw"
  have l3 := ok.len
  have l8 := ok.nsl
  refine ⟨rs.map Prod.fst, by rw [List.map_map, List.map_map]; rfl, szOf (by rw [List.length_map]; omega), fun s hs => ?_, ?_⟩
  · walk_at "fw"
    refine ⟨_, .inr s, _, rfl, rfl, getD_own ok.nd hs, ?_⟩
    walk_at "fw"
    have hm := lk_mem hs
    refine ⟨by rw [ok.ln hm]; omega, ok.nm hm, ok.nd2 hm, ?_⟩
    walk_at "fw"
    rfl
  · walk_at "fw"
    refine ⟨(rs.map Prod.fst).map fun s => ((.inr s : Key), rk (lk rs s)), by simp only [List.map_map]; rfl, ?_⟩
    rw [mergeD_nil (by rw [List.map_map]; exact keys_nodup ok.nd), rks_lk ok.nd]
    walk_at "fw"
    refine ⟨by have := ok.tl; omega, fun s h => ?_, ?_⟩
    · obtain ⟨q, hq, e⟩ := List.mem_map.mp (ok.tk s h)
      rw [← e]; exact ok.name q hq
    · walk_at "fw"
      exact ⟨ok.rks, by have := ok.tl; omega, fun p hp => by rw [ok.ln hp]; exact ok.tl, ok.tk, hk⟩
def wt_law_all : Wt := fun ds kk _ => ∃ (rs : List (Str × List Str)) (ts ns : List Str), ds = [ownD rs ts] ∧ OwnOk rs ts ns 30 ∧ kk (sl (srt ns))
theorem ok_law_all (T : TX K mg) : Ok P w K mg base 1 (He.ga K "_law_all") ["_law_own_here"] (spD K wt_law_all) := by
  obtain ⟨fd, F⟩ := T.def_ 35 (d := d_law_all)
  refine ⟨⟨fd, fnD F sc_law_all (fun _ _ _ h => by obtain ⟨rs, ts, ns, rfl, ok, hk⟩ := h; rfl) (fun cdv A outer s H E hr => ⟨_, (pss_one (ps_ret (pe_callB (z_sortedS K) (by rfl) (T.free 6) (by decide +kernel) (pa_cons (pe_ix (z_ixL K) (pe_listVals rfl (pe_ix (z_ixL K) (pv 0) pe_int (fun _ _ => rfl)) (by rfl) (T.free 4) (by decide +kernel)) pe_int (fun _ _ => rfl)) pa_nil)))), fun ds kk ke h => ?_⟩), FunD.bindsN F fun _ _ _ _ _ _ us hl => match us, hl with | [_], _ => rfl⟩, F.kp⟩
  obtain ⟨rs, ts, ns, rfl, ok, hk⟩ := h
  try dsimp only [cxK]
  walk_at "fw"
  obtain ⟨q, r, rfl⟩ := List.exists_cons_of_ne_nil ok.ne
  have hq : q ∈ q :: r := List.mem_cons_self
  refine ⟨_, _, sl q.2, rfl, rfl, by rw [List.map_cons, List.map_cons]; exact atI_0 _ _, ?_⟩
  walk_at "fw"
  refine ⟨by rw [ok.ln hq]; have := ok.nsl; omega, fun ys yp so => ?_⟩
  rw [ts_srt (ss := ns) (ok.nd2 hq) (fun x => (ok.perm q hq).mem_iff) yp so]
  exact hk
end
end

set_option maxHeartbeats 4000000
/-! What is refused: odd players. -/

section

/-- no str -/
def NStr (x : D) : Prop := x = .non ∨ (∃ i, x = .int i) ∨ (∃ l, x = .lst l) ∨ ∃ b, x = .bl b
/-- what is_name says of it -/
def IsN (x : D) (b : Bool) : Prop := (NStr x ∧ b = false) ∨ ∃ s : Str, x = .str s ∧ s.length ≤ 1000 ∧ b = isName s
/-- no player of these -/
def Odd (rs : List (Str × List Str)) (x : D) : Prop := ∃ b, IsN x b ∧ (b = true → ∃ s, x = .str s ∧ s ∉ rs.map Prod.fst)
section
variable {P : Program} [PMain P] {w : World} {K : PySem.W.Frag} {mg : Str → Option Value} {base : Heap}
def wt_is_name_odd : Wt := fun ds kk _ => ∃ x, ds = [x] ∧ ∃ b, IsN x b ∧ kk (.bl b)
theorem ok_is_name_odd (T : TX K mg) : Ok P w K mg base 1 (He.ga K "is_name") ["candidate"] (spD K wt_is_name_odd) := by
  obtain ⟨fd, F⟩ := T.def_ 0 (d := d_is_name)
  obtain ⟨tk_MAX_LETTERS, g_MAX_LETTERS⟩ := T.int 12 (x := "MAX_LETTERS")
  obtain ⟨tk_LETTERS, g_LETTERS⟩ := T.str 13 (x := "LETTERS")
  refine ⟨⟨fd, fnD F sc_is_name (fun _ _ _ h => by obtain ⟨x, rfl, b, hx, hk⟩ := h; rfl) (fun cdv A outer s H E hr => ⟨_, (pss_cons (ps_if (PW.pt (pw_or (pt_not (pt_val (pe_callB (z_isi K) (by rfl) (T.free 0) (by decide +kernel) (pa_cons (pv 0) (pa_cons (pe_bltn (v := .ty "str") rfl (T.free 1) (by decide +kernel) rfl) pa_nil))))) (pw_or1 (pt_not (pt_chain op_le op_le pe_int (pe_callB (z_len K) (by rfl) (T.free 2) boot_len (pa_cons (pv 0) pa_nil)) (pe_glob (v := .int 8) rfl g_MAX_LETTERS ⟨_, rfl⟩)))))) (pss_one (ps_ret pe_bl)) pss_nil) (pss_one (ps_ret (pe_callB (z_all K rfl) (by rfl) (T.free 3) (by decide +kernel) (pa_cons (pe_lc (own := [("letter", 1)]) rfl sc_is_name.nd (pi_str (pv 0)) (blkOk_by (own := [("letter", 1)]) (N := N_is_name) (sc := defScope s_is_name) (by decide +kernel)) (fun _ _ _ _ _ => (pg_name (i := 1) sc_is_name.nd rfl (by first | exact Or.inl rfl | exact Or.inr rfl))) (fun _ _ _ _ _ => pts_nil) (fun _ _ _ _ _ => (pe_cmpR op_in_sign (pv 1) (pe_glob (v := .str "abcdefghijklmnopqrstuvwxyz") rfl g_LETTERS ⟨_, rfl⟩) (by rfl)))) pa_nil))))), fun ds kk ke h => ?_⟩), FunD.bindsN F fun _ _ _ _ _ _ us hl => match us, hl with | [_], _ => rfl⟩, F.kp⟩
  obtain ⟨x, rfl, b, hx, hk⟩ := h
  try dsimp only [cxK]
  rcases hx with ⟨hx, rfl⟩ | ⟨s, rfl, hl, rfl⟩
  · rcases hx with rfl | ⟨i, rfl⟩ | ⟨l, rfl⟩ | ⟨b, rfl⟩
    all_goals
      walk_at "fw"
      exact hk
  · walk_at "fw"
    refine ⟨_, .str _ (Nat.le_of_lt (szOf hl)), ?_⟩
    walk_at "fw"
    have fin : ∀ b : Bool, isName s = b → kk (.bl b) := fun b e => e ▸ hk
    refine ⟨fun h1 => ?_, fun h1 => ?_⟩
    · walk_at "fw"
      refine ⟨fun h2 => ?_, fun h2 => ?_⟩
      · walk_at "fw"
        exact fin _ (by
          unfold isName
          have h2' := (Bool.not_eq_true' _).mp h2; rw [h1, h2']; rfl)
      · walk_at "fw"
        refine (df_lcM [1] (fun c : Nat => D.str ⟨#[c]⟩) (fun c => .bl (decide (c ∈ LET.cps.toList))) (fun a b e => by cases e; rfl) (by decide) (by walk_at "fno") ?_).dt
        walk_at "fw"
        refine ⟨by show s.cps.size < sizeLine; exact szOf hl, fun c hc => ?_, ?_⟩
        · walk_at "fw"
          rfl
        · walk_at "fw"
          refine ⟨s.cps.toList.map fun c => decide (c ∈ LET.cps.toList), by rw [List.map_map]; rfl, ?_⟩
          exact fin _ (by unfold isName; have h2' := (Bool.not_eq_false' _).mp h2; rw [h1, h2', all_id]; rfl)
    · walk_at "fw"
      exact fin _ (by unfold isName; rw [h1]; rfl)
def wt_Game_ranking_of_odd : Wt := fun ds _ ke => ∃ (rs : List (Str × List Str)) (more : List (Str × D)) (x : D), ds = [gmX rs more, x] ∧ Odd rs x ∧ ke ⟨"UnknownName", some ("name", x)⟩
theorem ok_Game_ranking_of_odd (T : TX K mg) : Ok P w K mg base 2 (He.ma K (He.ga K "Game") "ranking_of") ["self", "player"] (spD K wt_Game_ranking_of_odd) := by
  obtain ⟨fd, F⟩ := T.def_ 21 (d := d_Game_ranking_of)
  have k_is_name := ok_is_name_odd (P := P) (w := w) (base := base) T
  refine ⟨⟨fd, fnD F sc_Game_ranking_of (fun _ _ _ h => by obtain ⟨rs, more, x, rfl, hx, hk⟩ := h; rfl) (fun cdv A outer s H E hr => ⟨_, (pss_cons (ps_if (PW.pt (pw_or (pt_not (pt_val (q_call k_is_name hr (T.glo 5) (pa_cons (pv 1) pa_nil)))) (pw_or1 (pt_cmp (q_dnotin hr (pv 1) (z_fld K (pv 0))) rfl)))) (pss_one (z_raiseX (T.exi 31 32 13 (c := "UnknownName") (f := "name") (qual := "UnknownName.__init__") (b := .lookup) (st := s_UnknownName_init)) xb_UnknownName hr (T.glo 33) (pv 1))) pss_nil) (pss_one (ps_ret (q_dget hr (z_fld K (pv 0)) (pv 1) (fun _ _ => rfl))))), fun ds kk ke h => ?_⟩), FunD.bindsN F fun _ _ _ _ _ _ us hl => match us, hl with | [_, _], _ => rfl⟩, F.kp⟩
  obtain ⟨rs, more, x, rfl, hx, hk⟩ := h
  try dsimp only [cxK]
  walk_at "fw"
  obtain ⟨b, hb, h2⟩ := hx
  refine ⟨b, hb, ?_⟩
  cases b with
  | false =>
    walk_at "fw"
    exact hk
  | true =>
    obtain ⟨s, rfl, hs⟩ := h2 rfl
    walk_at "fw"
    refine ⟨_, .inr s, rfl, rfl, ?_⟩
    rw [getD_rks_is, decide_eq_false hs]
    walk_at "fw"
    exact hk
def wt_safe_place_odd : Wt := fun ds _ ke => ∃ (rs : List (Str × List Str)) (ts : List Str) (x : D), ds = [gm rs ts, x] ∧ Odd rs x ∧ ke ⟨"UnknownName", some ("name", x)⟩
theorem ok_safe_place_odd (T : TX K mg) : Ok P w K mg base 9 (He.ga K "safe_place") ["game", "player"] (spD K wt_safe_place_odd) := by
  obtain ⟨fd, F⟩ := T.def_ 27 (d := d_safe_place)
  have k_Committee_init := ok_Committee_init (P := P) (w := w) (base := base) T
  have k_Game_ranking_of := ok_Game_ranking_of_odd (P := P) (w := w) (base := base) T
  have k_Ranking_len := ok_Ranking_len (P := P) (w := w) (base := base) T
  have k_Ranking_alternatives := ok_Ranking_alternatives (P := P) (w := w) (base := base) T
  have k_number_left := ok_number_left (P := P) (w := w) (base := base) T
  refine ⟨⟨fd, fnD F sc_safe_place (fun _ _ _ h => by obtain ⟨rs, ts, x, rfl, hx, hk⟩ := h; rfl) (fun cdv A outer s H E hr => ⟨_, (pss_cons (ps_set (i := 2) sc_safe_place.nd rfl (by first | exact Or.inl rfl | exact Or.inr rfl) (q_methE k_Game_ranking_of (pv 0) (T.cls 25) (T.meth 49) hr passesE (pa_cons (pv 1) pa_nil))) (pss_cons (ps_for (passes_of rfl) rfl (pi_range3 (by rfl) (T.free 50) (pa_cons (pe_op op_sub (q_len k_Ranking_len (T.meth 36) hr (T.free 2) (pa_cons (pv 2) pa_nil)) pe_int) (pa_cons (pe_un un_neg pe_int) (pa_cons (pe_un un_neg pe_int) pa_nil)))) (pg_name (i := 3) sc_safe_place.nd rfl (by first | exact Or.inl rfl | exact Or.inr rfl)) (pss_one (ps_if (pt_cmpR op_gt (q_call k_number_left hr (T.glo 51) (pa_cons (pv 0) (pa_cons (pe_lst (pa_cons (pv 1) pa_nil)) (pa_cons (q_make k_Committee_init (T.mkr 21) hr (T.glo 11) (pa_cons (pe_slice (z_slL K) (q_prop k_Ranking_alternatives (pv 2) (T.cls 15) (T.prop 22) hr) (po_some (pv 3)) po_none) pa_nil)) pa_nil)))) pe_int (nomark _)) (pss_one (ps_ret (pv 3))) pss_nil))) (pss_one (ps_ret pe_non)))), fun ds kk ke h => ?_⟩), FunD.bindsN F fun _ _ _ _ _ _ us hl => match us, hl with | [_, _], _ => rfl⟩, F.kp⟩
  obtain ⟨rs, ts, x, rfl, hx, hk⟩ := h
  try dsimp only [cxK]
  walk_at "fw"
  refine ⟨rfl, ?_⟩
  walk_at "fw"
  exact ⟨hx, hk⟩
def wt_law_refused : Wt := fun ds kk _ => ∃ (rs : List (Str × List Str)) (ts : List Str) (x : D), ds = [gm rs ts, x] ∧ Odd rs x ∧ ReprOk x ∧ kk (.lst [.str (shownD x), .bl true])
theorem ok_law_refused (T : TX K mg) : Ok P w K mg base 10 (He.ga K "_law_refused") ["_law_game_here", "_law_odd"] (spD K wt_law_refused) := by
  obtain ⟨fd, F⟩ := T.def_ 36 (d := d_law_refused)
  have k_safe_place := ok_safe_place_odd (P := P) (w := w) (base := base) T
  refine ⟨⟨fd, fnD F sc_law_refused (fun _ _ _ h => by obtain ⟨rs, ts, x, rfl, hx, hr, hk⟩ := h; rfl) (fun cdv A outer s H E hr => ⟨_, (pss_cons (z_try (fun W pn xe tk pw => (pss_one (ps_expr (q_callW k_safe_place hr tk (T.glo 61) (pa_cons (pv 0) (pa_cons (pv 1) pa_nil)))))) (.named (i := 2) (c := .ref (He.ga K "UnknownName")) ⟨rfl, by decide, .inl (T.glo 33)⟩ sc_law_refused.nd rfl rfl (fun a oe cls d pn hz hf => (pss_one (ps_ret (pe_lst (pa_cons (pe_callB (z_reprH K hr.rm.units hr.gd) (by rfl) (T.free 62) (by decide +kernel) (pa_cons (pe_xf (C := He.ga K "UnknownName") (T.exb 32).xf (T.exf 63) hz hf (pv 2)) pa_nil)) (pa_cons (pe_callB (call_isX hz hf) (by rfl) (T.free 0) (by decide +kernel) (pa_cons (pv 2) (pa_cons (pe_bltn (v := .ty "LookupError") rfl (T.free 64) (by decide +kernel) rfl) pa_nil))) pa_nil)))))) .nil)) (pss_one (ps_ret pe_non))), fun ds kk ke h => ?_⟩), FunD.bindsN F fun _ _ _ _ _ _ us hl => match us, hl with | [_, _], _ => rfl⟩, F.kp⟩
  obtain ⟨rs, ts, x, rfl, hx, hr, hk⟩ := h
  try dsimp only [cxK]
  have e1 := (T.exs 65 (c := "UnknownName") (d := "UnknownName") (b := true))
  have e2 := (T.exb 32)
  have e3 := (T.kit 66 (t := .own "UnknownName") (u := .ty "LookupError") (b := true))
  refine ds_seq (ds_try (fun W => dsw_expr fun E => dt_callE ?_))
  walk_at "fw"
  refine ⟨hx, ?_⟩
  refine ⟨true, e1, fun _ a dd => ⟨fun o ho => absurd ho (List.not_mem_nil), ?_⟩, fun h => absurd h (by decide)⟩
  dsimp only
  walk_at "fw"
  refine ⟨hr, ?_⟩
  walk_at "fw"
  refine ⟨_, _, _, true, rfl, .inr ⟨_, _, _, rfl, rfl⟩, e2, .ty _, e3, ?_⟩
  walk_at "fw"
  exact hk
end
end

set_option maxHeartbeats 4000000
/-! The law's value. -/

section

def wst (R left : List Str) : Str := ((R.filter fun s => decide (s ∈ left)).getLast?).getD ""
theorem wst_mem {R left : List Str} (h : ∃ s ∈ R, s ∈ left) : wst R left ∈ R ∧ wst R left ∈ left := by
  obtain ⟨s, h1, h2⟩ := h
  have hne : (R.filter fun s => decide (s ∈ left)) ≠ [] := fun z => by
    have hm : s ∈ R.filter fun s => decide (s ∈ left) := List.mem_filter.mpr ⟨h1, decide_eq_true h2⟩
    rw [z] at hm; cases hm
  unfold wst
  rw [List.getLast?_eq_some_getLast hne]
  have := List.mem_filter.mp (List.getLast_mem hne)
  exact ⟨this.1, of_decide_eq_true this.2⟩
theorem wst_cons {a : Str} {r L : List Str} (h : ∃ s ∈ r, s ∈ L) : wst (a :: r) L = wst r L := by
  obtain ⟨s, h1, h2⟩ := h
  have hne : (r.filter fun s => decide (s ∈ L)) ≠ [] := fun z => by
    have hm : s ∈ r.filter fun s => decide (s ∈ L) := List.mem_filter.mpr ⟨h1, decide_eq_true h2⟩
    rw [z] at hm; cases hm
  unfold wst
  rw [List.filter_cons]
  split
  · rw [List.getLast?_cons, List.getLast?_eq_some_getLast hne]; rfl
  · rfl
theorem wst_max {s : Str} {L : List Str} (hL : s ∈ L) : ∀ {R : List Str}, R.Nodup → s ∈ R → R.idxOf s ≤ R.idxOf (wst R L)
  | [], _, h => by cases h
  | a :: r, nd, h => by
    have nd2 := List.nodup_cons.mp nd
    by_cases e : a = s
    · subst e
      rw [List.idxOf_cons_self]; exact Nat.zero_le _
    · have hr : s ∈ r := (List.mem_cons.mp h).resolve_left fun z => e z.symm
      have hex : ∃ s ∈ r, s ∈ L := ⟨s, hr, hL⟩
      have hw := (wst_mem hex).1
      have e2 : a ≠ wst r L := fun z => nd2.1 (z ▸ hw)
      rw [wst_cons hex, List.idxOf_cons, List.idxOf_cons, beq_false_of_ne e, beq_false_of_ne e2]
      exact Nat.succ_le_succ (wst_max hL nd2.2 hr)
theorem val_nil {R L : List Str} {p : Str} (nd : R.Nodup) (hs : ∀ s ∈ L, s ∈ R) (ne : 0 < L.length) : ValIs R p [] L (R.idxOf (wst R L)) := fun k => by
  have hle := cntK_le R k L
  rw [fv_nil hle.1 (by omega), cntK_ex]
  obtain ⟨x, hx⟩ := List.exists_mem_of_length_pos ne
  have hw := wst_mem (R := R) (left := L) ⟨x, hs x hx, hx⟩
  exact ⟨fun h => ⟨_, hw.2, h⟩, fun ⟨y, hy, h⟩ => Nat.le_trans h (wst_max hy nd (hs y hy))⟩
theorem atI_lastB {α : Type} (xs : List α) (x : α) : atI (xs ++ [x]) (-1) = some x := by
  unfold atI ixN
  rw [List.length_append, List.length_singleton, if_neg (by omega), if_pos (by omega)]
  show (xs ++ [x])[(-1 + ((xs.length + 1 : Nat) : Int)).toNat]? = _
  rw [show (-1 + ((xs.length + 1 : Nat) : Int)).toNat = xs.length from by omega, List.getElem?_append_right (Nat.le_refl _), Nat.sub_self]; rfl
theorem cut_tail {t : Str} {r : List Str} : cutD ((t :: r).map D.str) (some (1 : Int)) none = r.map D.str := by
  unfold cutD HT.sIx
  have h0 : ¬ ((1 : Int) < 0) := by decide
  simp only [h0, if_false, List.length_map]
  rw [show (1 : Int).toNat = 1 from rfl, List.length_cons, Nat.min_eq_left (by omega), List.map_cons, List.drop_succ_cons, List.drop_zero, List.take_of_length_le (by rw [List.length_map]; omega)]
section
variable {P : Program} [PMain P] {w : World} {K : PySem.W.Frag} {mg : Str → Option Value} {base : Heap}
def wt_law_worst : Wt := fun ds kk _ => ∃ R L : List Str, ds = [sl R, sl L] ∧ R.length ≤ 30 ∧ (∃ s ∈ R, s ∈ L) ∧ kk (.str (wst R L))
theorem ok_law_worst (T : TX K mg) : Ok P w K mg base 1 (He.ga K "_law_worst") ["_law_ranking", "_law_left"] (spD K wt_law_worst) := by
  obtain ⟨fd, F⟩ := T.def_ 37 (d := d_law_worst)
  refine ⟨⟨fd, fnD F sc_law_worst (fun _ _ _ h => by obtain ⟨R, L, rfl, h30, hex, hk⟩ := h; rfl) (fun cdv A outer s H E hr => ⟨_, (pss_one (ps_ret (pe_ix (z_ixL K) (pe_lc (own := [("_law_name", 2)]) rfl sc_law_worst.nd (z_plist K (pv 0)) (blkOk_by (own := [("_law_name", 2)]) (N := N_law_worst) (sc := defScope s_law_worst) (by decide +kernel)) (fun _ _ _ _ _ => (pg_name (i := 2) sc_law_worst.nd rfl (by first | exact Or.inl rfl | exact Or.inr rfl))) (fun _ _ _ _ _ => (pts_one (pt_cmpR (z_in K) (pv 2) (pv 1) (by rfl)))) (fun _ _ _ _ _ => (pv 2))) (pe_un un_neg pe_int) (fun _ _ => rfl)))), fun ds kk ke h => ?_⟩), FunD.bindsN F fun _ _ _ _ _ _ us hl => match us, hl with | [_, _], _ => rfl⟩, F.kp⟩
  obtain ⟨R, L, rfl, h30, hex, hk⟩ := h
  try dsimp only [cxK]
  have hlast : (R.filter fun s => decide (s ∈ L)) ++ [] = (R.filter fun s => decide (s ∈ L)).dropLast ++ [wst R L] := by
    rw [List.append_nil]
    have hne : (R.filter fun s => decide (s ∈ L)) ≠ [] := fun z => by
      obtain ⟨s, h1, h2⟩ := hex
      have hm : s ∈ R.filter fun s => decide (s ∈ L) := List.mem_filter.mpr ⟨h1, decide_eq_true h2⟩
      rw [z] at hm; cases hm
    have : wst R L = (R.filter fun s => decide (s ∈ L)).getLast hne := by
      unfold wst
      rw [List.getLast?_eq_some_getLast hne]; rfl
    rw [this, List.dropLast_concat_getLast]
  rw [List.append_nil] at hlast
  refine ds_ret (dt_op opd_ixL ?_)
  refine (df_lcF [2] D.str (fun s => decide (s ∈ L)) D.str (fun a b e => by cases e; exact ⟨rfl, rfl⟩) (by decide) (by walk_at "fno") ?_).dt
  walk_at "fw"
  refine ⟨szOf (by omega), fun t ht => ?_, ?_⟩
  · walk_at "fw"
    rw [inV_strs]
    refine ⟨fun h => ?_, fun h => ?_⟩
    · walk_at "fw"
      have h' : t ∈ L := by simpa using h
      rw [decide_eq_true h']; rfl
    · have h' : t ∉ L := by simpa using h
      rw [decide_eq_false h']; rfl
  · rw [hlast]
    walk_at "fw"
    refine ⟨_, _, .str (wst R L), rfl, rfl, ?_, hk⟩
    rw [List.map_append]
    exact atI_lastB _ _
end
end

set_option maxHeartbeats 4000000
/-! The law's value. -/

section

section
variable {P : Program} [PMain P] {w : World} {K : PySem.W.Frag} {mg : Str → Option Value} {base : Heap}
def wt_law_value (n : Nat) : Wt := fun ds kk _ => ∃ (rs : List (Str × List Str)) (ts : List Str) (p : Str) (us L : List Str), ds = [ownD rs ts, .str p, sl us, sl L] ∧ us.length < n ∧ (∀ t ∈ us, isName t = true) ∧ (rs.map Prod.fst).Nodup ∧ p ∈ rs.map Prod.fst ∧ (lk rs p).length ≤ 30 ∧ (lk rs p).Nodup ∧ L.Nodup ∧ (∀ s ∈ L, s ∈ lk rs p) ∧ us.length < L.length ∧ L.length ≤ 30 ∧ ∀ v : Nat, ValIs (lk rs p) p us L v → kk (.int (v : Nat))
theorem ok_law_value_z (T : TX K mg) : Ok P w K mg base 2 (He.ga K "_law_value") ["_law_own_here", "_law_player", "_law_turns", "_law_left"] (spD K (wt_law_value 0)) := by
  obtain ⟨fd, F⟩ := T.def_ 38 (d := d_law_value)
  have k_law_worst := ok_law_worst (P := P) (w := w) (base := base) T
  exact ⟨⟨fd, g_fun F sc_law_value (fun vs H Q E ⟨S, ds, kk, ke, dm, rr, ⟨_, _, _, _, _, _, h, _⟩, _⟩ => absurd h (Nat.not_lt_zero _)) (fun cdv A outer s H vs Q E hr ⟨S, ds, kk, ke, dm, rr, ⟨_, _, _, _, _, _, h, _⟩, _⟩ => absurd h (Nat.not_lt_zero _)), FunD.bindsN F fun _ _ _ _ _ _ us hl => match us, hl with | [_, _, _, _], _ => rfl⟩, F.kp⟩
theorem ok_law_value_s (T : TX K mg) {n : Nat} (k_law_value : Ok P w K mg base (n + 2) (He.ga K "_law_value") ["_law_own_here", "_law_player", "_law_turns", "_law_left"] (spD K (wt_law_value n))) : Ok P w K mg base (n + 2 + 1) (He.ga K "_law_value") ["_law_own_here", "_law_player", "_law_turns", "_law_left"] (spD K (wt_law_value (n + 1))) := by
  obtain ⟨fd, F⟩ := T.def_ 38 (d := d_law_value)
  have k_law_worst := ok_law_worst (P := P) (w := w) (base := base) T
  refine ⟨⟨fd, fnD F sc_law_value (fun _ _ _ h => by obtain ⟨_, _, _, _, _, rfl, _⟩ := h; rfl) (fun cdv A outer s H E hr => ⟨_, (pss_cons (ps_if (pt_cmpR (z_eqD K hr) (pv 2) (pe_lst pa_nil) (nomark _)) (pss_one (ps_ret (z_bm K PySem.F.plainAttrs_list PySem.F.slot_list_index PySem.F.type_list_index (z_index K) (q_dget hr (pe_ix (z_ixL K) (pv 0) pe_int (fun _ _ => rfl)) (pv 1) (fun _ _ => rfl)) (pa_cons (q_call k_law_worst hr (T.glo 67) (pa_cons (q_dget hr (pe_ix (z_ixL K) (pv 0) pe_int (fun _ _ => rfl)) (pv 1) (fun _ _ => rfl)) (pa_cons (pv 3) pa_nil))) pa_nil)))) pss_nil) (pss_cons (ps_set (i := 4) sc_law_value.nd rfl (by first | exact Or.inl rfl | exact Or.inr rfl) pe_non) (pss_cons (ps_for (passes_of rfl) rfl (z_plist K (pv 3)) (pg_name (i := 5) sc_law_value.nd rfl (by first | exact Or.inl rfl | exact Or.inr rfl)) (pss_cons (ps_setLc (i := 6) (own := [("_law_other", 7)]) rfl sc_law_value.nd rfl rfl (sw_true rfl rfl rfl (by decide +kernel)) (z_plist K (pv 3)) (blkOk_by (own := [("_law_other", 7)]) (N := N_law_value) (sc := defScope s_law_value) (by decide +kernel)) (fun _ _ _ _ _ => (pg_name (i := 7) sc_law_value.nd rfl (by first | exact Or.inl rfl | exact Or.inr rfl))) (fun _ _ _ _ _ => (pts_one (pt_cmpR op_ne (pv 7) (pv 5) (nomark _)))) (fun _ _ _ _ _ => (pv 7))) (pss_cons (ps_set (i := 8) sc_law_value.nd rfl (by first | exact Or.inl rfl | exact Or.inr rfl) (q_call k_law_value hr (T.glo 68) (pa_cons (pv 0) (pa_cons (pv 1) (pa_cons (pe_slice (z_slL K) (pv 2) (po_some pe_int) po_none) (pa_cons (pv 6) pa_nil)))))) (pss_one (ps_if (PW.pt (pw_or (pt_cmpR op_isN (pv 4) pe_non (nomark _)) (pw_or1 (pt_cmpR op_eq (pe_cmpR op_lt (pv 8) (pv 4) (nomark _)) (pe_cmpR op_eq (pe_ix (z_ixL K) (pv 2) pe_int (fun _ _ => rfl)) (pv 1) (nomark _)) (nomark _))))) (pss_one (ps_set (i := 4) sc_law_value.nd rfl (by first | exact Or.inl rfl | exact Or.inr rfl) (pv 8))) pss_nil))))) (pss_one (ps_ret (pv 4)))))), fun ds kk ke h => ?_⟩), FunD.bindsN F fun _ _ _ _ _ _ us hl => match us, hl with | [_, _, _, _], _ => rfl⟩, F.kp⟩
  obtain ⟨rs, ts, p, us, L, rfl, hn, hnm, hnd, hp, h30, rnd, nd, hsub, hul, hl30, hk⟩ := h
  try dsimp only [cxK]
  walk_at "fw"
  refine ⟨_, _, pd_sl us, pd_sl [], shaped_sl hnm, shaped_sl (fun s h => by cases h), ?_⟩
  rw [eqv_sl]
  walk_at "fw"
  refine ⟨fun h => ?_, fun h => ?_⟩
  · have e := of_decide_eq_true h
    subst e
    obtain ⟨y, hy⟩ := List.exists_mem_of_length_pos (l := L) (by omega)
    have hex : ∃ s ∈ lk rs p, s ∈ L := ⟨y, hsub y hy, hy⟩
    walk_at "fw"
    refine ⟨_, .inr p, _, rfl, rfl, getD_own hnd hp, ?_⟩
    walk_at "fw"
    refine ⟨_, .inr p, _, rfl, rfl, getD_own hnd hp, ?_⟩
    walk_at "fw"
    refine ⟨h30, hex, ?_⟩
    walk_at "fw"
    exact ⟨(wst_mem hex).1, hk _ (val_nil rnd hsub (by omega))⟩
  · have e := of_decide_eq_false h
    obtain ⟨t, us, rfl⟩ := List.exists_cons_of_ne_nil e
    walk_at "fw"
    refine ds_for [5] (fun xs i G' O' => xs = L.map D.str ∧ O' = [] ∧ ∃ (b : D) (g5 g6 g7 g8 : Option D), G' = [some (ownD rs ts), some (.str p), some (sl (t :: us)), some (sl L), some b, g5, g6, g7, g8] ∧ ((i = 0 ∧ b = .non) ∨ ∃ v : Nat, 0 < i ∧ b = .int (v : Nat) ∧ Mst (decide (t = p)) (L.take i) (Aft (lk rs p) p us L) v)) ?_
    walk_at "fw"
    refine ⟨⟨rfl, rfl, .non, _, _, _, _, rfl, .inl ⟨rfl, rfl⟩⟩, fun i x G' O' hi hP => ?_, fun G' O' hP => ?_⟩
    · obtain ⟨_, rfl, b, g5, g6, g7, g8, rfl, hb⟩ := hP
      obtain ⟨s, hs, rfl⟩ := get_strs2 hi
      have hsm : s ∈ L := List.mem_of_getElem? hs
      have etk : L.take (i + 1) = L.take i ++ [s] := by rw [List.take_succ, hs]; rfl
      have hwl := wo_len nd hsm
      have hul2 : us.length + 1 < L.length := hul
      have hn2 : us.length + 1 < n + 1 := hn
      refine dg_name (by walk_at "fno") ?_
      refine ds_seq (ds_asg (by walk_at "fno") (df_lcF [7] D.str (fun z => decide (z ≠ s)) D.str (fun a b e => by cases e; exact ⟨rfl, rfl⟩) (by decide) (by walk_at "fno") ?_).dt)
      walk_at "fw"
      refine ⟨szOf (by omega), fun z hz => ?_, ?_⟩
      · walk_at "fw"
        have e0 : decide ((D.str z).v = (D.str s).v) = decide (z = s) := by
          rw [decide_eq_decide]; exact ⟨fun e => V.str.inj e, fun e => by rw [e]⟩
        rw [e0]
        refine ⟨fun h => ?_, fun h => ?_⟩
        · walk_at "fw"
          have h' : z ≠ s := by simpa using h
          rw [decide_eq_true h']; rfl
        · have h' : z = s := by simpa using h
          rw [decide_eq_false (fun q => q h')]; rfl
      · have ew : L.filter (fun z => decide (z ≠ s)) = wo s L := rfl
        rw [ew]
        walk_at "fw"
        rw [cut_tail]
        walk_at "fw"
        refine ⟨by omega, fun u hu => hnm u (List.mem_cons_of_mem _ hu), hnd, hp, h30, rnd, wo_nd nd, fun z hz => hsub z (wo_mem.mp hz).1, by omega, by omega, fun v hv => ?_⟩
        have hv' : ∀ k, k ≤ v ↔ Aft (lk rs p) p us L k s := hv
        rcases hb with ⟨rfl, rfl⟩ | ⟨v0, hi0, rfl, hm⟩
        · walk_at "fw"
          exact ⟨rfl, rfl, .int (v : Nat), _, _, _, _, rfl, .inr ⟨v, by omega, rfl, by rw [etk, List.take_zero, List.nil_append]; exact mst_one hv'⟩⟩
        · walk_at "fw"
          refine ⟨fun _ => ?_, fun h => absurd h (by simp [D.isN])⟩
          walk_at "fw"
          refine ⟨_, _, .str t, rfl, rfl, by rw [List.map_cons]; exact atI_0 _ _, ?_⟩
          walk_at "fw"
          have e1 : decide ((D.str t).v = (D.str p).v) = decide (t = p) := by
            rw [decide_eq_decide]; exact ⟨fun e => V.str.inj e, fun e => by rw [e]⟩
          have e2 : decide ((D.bl (decide ((v : Int) < (v0 : Int)))).v = (D.bl (decide (t = p))).v) = decide (decide (v < v0) = decide (t = p)) := by
            rw [decide_eq_decide]
            have e3 : decide ((v : Int) < (v0 : Int)) = decide (v < v0) := by rw [decide_eq_decide]; omega
            rw [e3]
            exact ⟨fun e => V.bl.inj e, fun e => by rw [e]⟩
          rw [e1, e2]
          have ms := mst_snoc hm hv'
          refine ⟨fun h => ?_, fun h => ?_⟩
          · walk_at "fw"
            rw [if_pos (of_decide_eq_true h)] at ms
            exact ⟨rfl, rfl, .int (v : Nat), _, _, _, _, rfl, .inr ⟨v, by omega, rfl, by rw [etk]; exact ms⟩⟩
          · walk_at "fw"
            rw [if_neg (of_decide_eq_false h)] at ms
            exact ⟨rfl, rfl, .int (v0 : Nat), _, _, _, _, rfl, .inr ⟨v0, by omega, rfl, by rw [etk]; exact ms⟩⟩
    · obtain ⟨_, rfl, b, g5, g6, g7, g8, rfl, hb⟩ := hP
      rw [List.length_map, List.take_length] at hb
      rcases hb with ⟨h0, _⟩ | ⟨v, _, rfl, hm⟩
      · omega
      · walk_at "fw"
        have hul2 : us.length + 1 < L.length := hul
        exact hk v (mst_val nd (by omega) hm)
end
end

set_option maxHeartbeats 4000000
/-! The law. -/

section

/-! ### plain -/
theorem drop_idx : ∀ {R : List Str} {k : Nat}, R.Nodup → R.filter (fun s => decide (k ≤ R.idxOf s)) = R.drop k
  | [], k, _ => by simp
  | a :: r, 0, _ => by
    rw [List.drop_zero, List.filter_eq_self]
    intro s _
    exact decide_eq_true (Nat.zero_le _)
  | a :: r, k + 1, nd => by
    have nd2 := List.nodup_cons.mp nd
    rw [List.drop_succ_cons, ← drop_idx (R := r) (k := k) nd2.2, List.filter_cons_of_neg (by rw [List.idxOf_cons_self]; simp)]
    refine List.filter_congr fun s hs => ?_
    have e : a ≠ s := fun z => nd2.1 (z ▸ hs)
    rw [List.idxOf_cons, beq_false_of_ne e]
    rw [decide_eq_decide]
    show k + 1 ≤ r.idxOf s + 1 ↔ _
    omega
theorem cntK_all {R L : List Str} {k : Nat} (nd : R.Nodup) (pm : L.Perm R) : cntK R k L = ((R.length - k : Nat) : Int) := by
  unfold cntK
  rw [(pm.filter _).length_eq, drop_idx nd, List.length_drop]
theorem safe_val {R L ts : List Str} {p : Str} {d : D} {v : Nat} (nd : R.Nodup) (pm : L.Perm R) (ne : 0 < R.length) (h : SafeIs ts p R.length d) (hv : ValIs R p ts L v) : d = .int (v : Nat) := by
  have hl := pm.length_eq
  have key : ∀ k, k < R.length → (k ≤ v ↔ 0 < nl ts [p] (R.length - k) R.length) := fun k hk => by
    have := hv k
    rw [cntK_all nd pm, hl] at this
    rw [nl_fv]; exact this
  have top : v < R.length := by
    refine Classical.byContradiction fun z => ?_
    have := (hv R.length).mp (by omega)
    rw [cntK_all nd pm, Nat.sub_self] at this
    exact fv_zero this
  rcases h with ⟨k, k1, rfl, k2, k3⟩ | ⟨rfl, k1⟩
  · have a := (key k k1).mpr k2
    have b : ¬ k < v := fun z => k3 v z top ((key v top).mp (Nat.le_refl _))
    have e : k = v := by omega
    rw [e]
  · exact absurd ((key 0 ne).mp (Nat.zero_le _)) (k1 0 ne)
theorem safe_full {ts : List Str} {p : Str} {n : Nat} {d : D} (hn : ts.length = n) (h : SafeIs ts p n d) : d = .non := by
  rcases h with ⟨k, k1, rfl, k2, k3⟩ | ⟨rfl, k1⟩
  · exfalso
    have := ownN_le ts [p]
    rw [nl_fv] at k2
    unfold fv mx at k2
    split at k2 <;> split at k2 <;> omega
  · rfl
theorem safe_pd {ts : List Str} {p : Str} {n : Nat} {d : D} (h : SafeIs ts p n d) : ∃ q, d.pd = some q ∧ SeqAt.shaped q = true ∧ PyData.eqv q q = true := by
  rcases h with ⟨k, k1, rfl, k2, k3⟩ | ⟨rfl, k1⟩
  · exact ⟨.int k, rfl, rfl, by simp [PyData.eqv]⟩
  · exact ⟨.none, rfl, rfl, by simp [PyData.eqv]⟩
theorem OwnOk.up {rs : List (Str × List Str)} {ts ns : List Str} {m n : Nat} (ok : OwnOk rs ts ns m) (h : m ≤ n) : OwnOk rs ts ns n := ⟨ok.ne, ok.len, ok.nd, ok.name, ok.perm, ok.nsd, ok.nsn, Nat.le_trans ok.nsl h, ok.nsN, ok.rsP, ok.nn, ok.tl, ok.tk⟩
theorem rks_srs {rs : List (Str × List Str)} (h : Rks rs) : Rks (srs rs) where
  ne := srs_ne h
  len := by
    have e := congrArg List.length (srs_keys rs)
    rw [List.length_map, srt_len h.nd, List.length_map] at e
    have := h.len; omega
  nd := by rw [srs_keys]; exact srt_nodup _
  name := fun p hp => h.name p (srs_mem hp)
  le := fun p hp => h.le p (srs_mem hp)
  names := fun p hp => h.names p (srs_mem hp)
  same := fun p hp q hq => h.same p (srs_mem hp) q (srs_mem hq)
theorem lk_not {rs : List (Str × List Str)} {t : Str} (h : t ∉ rs.map Prod.fst) : lk rs t = [] := by
  have e : rs.lookup t = none := by
    rw [List.lookup_eq_none_iff]
    intro p hp
    simp only [bne_iff_ne, ne_eq, beq_eq_false_iff_ne]
    intro z
    exact h (by rw [z]; exact List.mem_map_of_mem (f := Prod.fst) hp)
  unfold lk; rw [e]; rfl
theorem lk_tab (f : Str → List Str) (t : Str) : ∀ ks : List Str, lk (ks.map fun p => (p, f p)) t = if t ∈ ks then f t else []
  | [] => rfl
  | k :: ks => by
    have ih := lk_tab f t ks
    unfold lk at *
    rw [List.map_cons, List.lookup_cons]
    by_cases h : t = k
    · subst h
      rw [beq_self_eq_true, if_pos List.mem_cons_self]; rfl
    · have hb : (t == k) = false := by rw [beq_eq_false_iff_ne]; exact h
      rw [hb]
      show (List.lookup t _).getD [] = _
      rw [ih]
      by_cases hk : t ∈ ks
      · rw [if_pos hk, if_pos (List.mem_cons_of_mem _ hk)]
      · rw [if_neg hk, if_neg fun z => (List.mem_cons.mp z).elim h hk]
theorem lk_srs (rs : List (Str × List Str)) (t : Str) : lk (srs rs) t = lk rs t := by
  unfold srs
  rw [lk_tab]
  by_cases h : t ∈ rs.map Prod.fst
  · rw [if_pos (srt_mem.mpr h)]
  · rw [if_neg fun z => h (srt_mem.mp z), lk_not h]
/-- the odd players of the law -/
def Odd0 (x : D) : Prop := x = .non ∨ x = .int 5 ∨ x = .str "nobody" ∨ x = .str "" ∨ x = .lst [.str "ann"] ∨ x = .bl true ∨ ∃ s ∈ NAMES, x = .str s
theorem names_odd : (NAMES.all fun s => decide (s ∉ PLAYERS)) = true := by decide +kernel
theorem odd_repr {x : D} (h : Odd0 x) : ReprOk x := by
  rcases h with rfl | rfl | rfl | rfl | rfl | rfl | ⟨s, hs, rfl⟩
  · exact ⟨_, rfl, by decide +kernel, by decide +kernel, by decide +kernel, by decide +kernel⟩
  · exact ⟨_, rfl, by decide +kernel, by decide +kernel, by decide +kernel, by decide +kernel⟩
  · exact ⟨_, rfl, by decide +kernel, by decide +kernel, by decide +kernel, by decide +kernel⟩
  · exact ⟨_, rfl, by decide +kernel, by decide +kernel, by decide +kernel, by decide +kernel⟩
  · exact ⟨_, rfl, by decide +kernel, by decide +kernel, by decide +kernel, by decide +kernel⟩
  · exact ⟨_, rfl, by decide +kernel, by decide +kernel, by decide +kernel, by decide +kernel⟩
  · have hz : ∀ s ∈ NAMES, (PyData.str s).canLay0 = true ∧ (PyData.str s).depth ≤ 20 ∧ (PyData.str s).showable = true ∧ (PyData.str s).shown.length ≤ sizeLine := by decide +kernel
    obtain ⟨h1, h2, h3, h4⟩ := hz s hs
    exact ⟨.str s, rfl, h1, h2, h3, h4⟩
theorem odd_no {rs : List (Str × List Str)} (hr : ∀ p ∈ rs, p.1 ∈ PLAYERS) {x : D} (h : Odd0 x) : Odd rs x := by
  have no : ∀ s, s ∉ PLAYERS → s ∉ rs.map Prod.fst := fun s hs z => by
    obtain ⟨p, hp, e⟩ := List.mem_map.mp z
    exact hs (e ▸ hr p hp)
  rcases h with rfl | rfl | rfl | rfl | rfl | rfl | ⟨s, hs, rfl⟩
  · exact ⟨false, .inl ⟨.inl rfl, rfl⟩, fun z => by cases z⟩
  · exact ⟨false, .inl ⟨.inr (.inl ⟨_, rfl⟩), rfl⟩, fun z => by cases z⟩
  · exact ⟨true, .inr ⟨_, rfl, by decide, by decide +kernel⟩, fun _ => ⟨_, rfl, no _ (by decide +kernel)⟩⟩
  · exact ⟨false, .inr ⟨_, rfl, by decide, by decide +kernel⟩, fun z => by cases z⟩
  · exact ⟨false, .inl ⟨.inr (.inr (.inl ⟨_, rfl⟩)), rfl⟩, fun z => by cases z⟩
  · exact ⟨false, .inl ⟨.inr (.inr (.inr ⟨_, rfl⟩)), rfl⟩, fun z => by cases z⟩
  · have hn := List.all_eq_true.mp names_ok s hs
    exact ⟨true, .inr ⟨_, rfl, Nat.le_trans (isName_len hn) (by decide), hn.symm⟩, fun _ => ⟨_, rfl, no _ (of_decide_eq_true (List.all_eq_true.mp names_odd s hs))⟩⟩
theorem odd_shaped {x : D} (h : Odd0 x) : SeqAt.shaped (.list [.str (shownD x), .bool true]) = true := by
  rcases h with rfl | rfl | rfl | rfl | rfl | rfl | ⟨s, hs, rfl⟩
  · decide +kernel
  · decide +kernel
  · decide +kernel
  · decide +kernel
  · decide +kernel
  · decide +kernel
  · have hz : ∀ s ∈ NAMES, SeqAt.shaped (.list [.str (shownD (.str s)), .bool true]) = true := by decide +kernel
    exact hz s hs
theorem told_pd (s : Str) : (D.lst [.str s, .bl true]).pd = some (.list [.str s, .bool true]) := rfl
theorem told_eq (s : Str) : PyData.eqv (.list [.str s, .bool true]) (.list [.str s, .bool true]) = true := by simp [PyData.eqv, PyData.eqvAll]
section
variable {P : Program} [PMain P] {w : World} {K : PySem.W.Frag} {mg : Str → Option Value} {base : Heap}
theorem ok_law_value (T : TX K mg) : ∀ n : Nat, Ok P w K mg base (n + 2) (He.ga K "_law_value") ["_law_own_here", "_law_player", "_law_turns", "_law_left"] (spD K (wt_law_value n))
  | 0 => (Nat.zero_add _) ▸ ok_law_value_z T
  | n + 1 => by
    have h := ok_law_value_s T (ok_law_value T n)
    have e : n + 2 + 1 = n + 1 + 2 := by omega
    rw [← e]; exact h
def wt_law : Wt := fun ds kk _ => ∃ ns : List Int, ds = [.scr ns] ∧ kk (.bl true)
theorem ok_law {fd : FuncData} (T : TX K mg) (F : FunD K d_law.name d_law.qual (defArgs d_law.st) (defBody d_law.st) (defScope d_law.st) [] [] (d_law.at_.ad K) fd) : FnG P w K mg base (L2.CX P w) 12 (He.ga K "law") fd ["_law_script"] (spD K wt_law) := by
  have k_law_all := ok_law_all (P := P) (w := w) (base := base) T
  have k_law_game := ok_law_game (P := P) (w := w) (base := base) T
  have k_law_own := ok_law_own (P := P) (w := w) (base := base) T
  have k_law_refused := ok_law_refused (P := P) (w := w) (base := base) T
  have k_law_stream := ok_law_stream (P := P) (w := w) (base := base) T
  have k_law_value := ok_law_value (P := P) (w := w) (base := base) T 9
  have k_safe_place := ok_safe_place (P := P) (w := w) (base := base) T
  refine fnD F sc_law (fun _ _ _ h => by obtain ⟨_, rfl, _⟩ := h; rfl) (fun cdv A outer s H E hr => ⟨_, (pss_cons (ps_for (passes_of rfl) rfl (pi_range1 (by rfl) (T.free 50) (pa_cons (pe_callB (call_max2 rfl) (by rfl) (T.free 48) (by decide +kernel) (pa_cons pe_int (pa_cons (pe_callB (call_min2 rfl) (by rfl) (T.free 69) (by decide +kernel) (pa_cons pe_int (pa_cons (pe_callB (z_len K) (by rfl) (T.free 2) boot_len (pa_cons (pv 0) pa_nil)) pa_nil))) pa_nil))) pa_nil)) (pg_name (i := 1) sc_law.nd rfl (by first | exact Or.inl rfl | exact Or.inr rfl)) (pss_cons (ps_set (i := 2) sc_law.nd rfl (by first | exact Or.inl rfl | exact Or.inr rfl) (q_call k_law_stream hr (T.glo 70) (pa_cons (pv 0) (pa_cons (pv 1) pa_nil)))) (pss_cons (ps_set (i := 3) sc_law.nd rfl (by first | exact Or.inl rfl | exact Or.inr rfl) (q_call k_law_own hr (T.glo 71) (pa_cons (pv 2) (pa_cons pe_int pa_nil)))) (pss_cons (ps_set (i := 4) sc_law.nd rfl (by first | exact Or.inl rfl | exact Or.inr rfl) (q_call k_law_game hr (T.glo 72) (pa_cons (pv 3) pa_nil))) (pss_cons (ps_unl (ps_for (passes_of rfl) rfl (pi_keys (pe_lk (pe_ix (z_ixL K) (pv 3) pe_int (fun _ _ => rfl)))) (pg_name (i := 5) sc_law.nd rfl (by first | exact Or.inl rfl | exact Or.inr rfl)) (pss_cons (ps_set (i := 6) sc_law.nd rfl (by first | exact Or.inl rfl | exact Or.inr rfl) pe_non) (pss_cons (ps_if (pt_cmpR op_lt (pe_callB (z_len K) (by rfl) (T.free 2) boot_len (pa_cons (pe_ix (z_ixL K) (pv 3) pe_int (fun _ _ => rfl)) pa_nil)) (pe_callB (z_len K) (by rfl) (T.free 2) boot_len (pa_cons (q_call k_law_all hr (T.glo 73) (pa_cons (pv 3) pa_nil)) pa_nil)) (nomark _)) (pss_one (ps_set (i := 6) sc_law.nd rfl (by first | exact Or.inl rfl | exact Or.inr rfl) (q_call k_law_value hr (T.glo 68) (pa_cons (pv 3) (pa_cons (pv 5) (pa_cons (pe_ix (z_ixL K) (pv 3) pe_int (fun _ _ => rfl)) (pa_cons (q_call k_law_all hr (T.glo 73) (pa_cons (pv 3) pa_nil)) pa_nil))))))) pss_nil) (pss_one (ps_if (pt_cmpR (z_neD K hr) (q_call k_safe_place hr (T.glo 61) (pa_cons (pv 4) (pa_cons (pv 5) pa_nil))) (pv 6) (nomark _)) (pss_one (ps_ret pe_bl)) pss_nil)))))) (pss_one (ps_for (passes_of rfl) rfl (z_plist K (pe_lst (pa_cons pe_non (pa_cons pe_int (pa_cons pe_str (pa_cons pe_str (pa_cons (pe_lst (pa_cons pe_str pa_nil)) (pa_cons pe_bl (pa_cons (pe_ix (z_ixL K) (q_call k_law_all hr (T.glo 73) (pa_cons (pv 3) pa_nil)) pe_int (fun _ _ => rfl)) pa_nil))))))))) (pg_name (i := 7) sc_law.nd rfl (by first | exact Or.inl rfl | exact Or.inr rfl)) (pss_one (ps_if (pt_cmpR (z_neD K hr) (q_call k_law_refused hr (T.glo 74) (pa_cons (pv 4) (pa_cons (pv 7) pa_nil))) (pe_lst (pa_cons (pe_callB (z_repr K hr) (by rfl) (T.free 62) (by decide +kernel) (pa_cons (pv 7) pa_nil)) (pa_cons pe_bl pa_nil))) (nomark _)) (pss_one (ps_ret pe_bl)) pss_nil))))))))) (pss_one (ps_ret pe_bl))), fun ds kk ke h => ?_⟩)
  obtain ⟨sc, rfl, hk⟩ := h
  try dsimp only [cxK]
  refine DS.f0 ?_
  walk_at "fw"
  refine ds_for [1] (fun _ i G' O' => O' = [] ∧ ∃ g1 g2 g3 g4 g5 g6 g7 : Option D, G' = [some (.scr sc), g1, g2, g3, g4, g5, g6, g7]) ?_
  walk_at "fw"
  generalize hcnt : (if (if (sc.length : Int) < 4 then (sc.length : Int) else 4) > 1 then (if (sc.length : Int) < 4 then (sc.length : Int) else 4) else 1) = cnt
  have hc4 : cnt ≤ 4 := by rw [← hcnt]; split <;> split <;> omega
  have hc1 : 1 ≤ cnt := by rw [← hcnt]; split <;> split <;> omega
  refine ⟨by omega, by omega, ⟨rfl, _, _, _, _, _, _, _, rfl⟩, fun i x G' O' hi hP => ?_, fun G' O' hP => ?_⟩
  · obtain ⟨rfl, g1, g2, g3, g4, g5, g6, g7, rfl⟩ := hP
    have hin : i < cnt.toNat := by
      have := (List.getElem?_eq_some_iff.mp hi).1
      rw [rngD_len] at this; exact this
    rw [rngD_get hin, Int.zero_add] at hi
    have hx := Option.some.inj hi
    subst hx
    walk_at "fw"
    refine ⟨by omega, ?_⟩
    walk_at "fw"
    refine ⟨by decide, by decide, fun rs ts ns ok8 => ?_⟩
    have ok : OwnOk rs ts ns 30 := ok8.up (by decide)
    have htl := ok.tl
    have hns8 : ns.length ≤ 8 := Nat.le_trans ok8.nsl (by decide)
    walk_at "fw"
    refine ⟨rs, ts, ns, rfl, ok, ?_⟩
    walk_at "fw"
    have hgk : GOk (srs rs) ts := ⟨rks_srs ok.rks, fun p h => ok.nd2 (srs_mem h), by omega⟩
    have hky : (srs rs).map Prod.fst = srt (rs.map Prod.fst) := srs_keys rs
    have hsn : (srt ns).length = ns.length := srt_len ok.nsd
    have tnm : ∀ t ∈ ts, isName t = true := fun t ht => by
      obtain ⟨p, hp, e⟩ := List.mem_map.mp (ok.tk t ht)
      rw [← e]; exact ok.name p hp
    have n1 : 0 < ns.length := List.length_pos_iff.mpr ok8.nn
    refine ds_forL [5] (fun _ _ G' O' => O' = [] ∧ ∃ g5 g6 g7 : Option D, G' = [some (.scr sc), some (.int (i : Nat)), some .stm, some (ownD rs ts), some (gm (srs rs) ts), g5, g6, g7]) (fun _ z => z) ?_
    walk_at "fw"
    refine ⟨⟨rfl, _, _, _, rfl⟩, fun i1 x G' O' hi hP => ?_, fun G' O' hP => ?_⟩
    · obtain ⟨rfl, g5, g6, g7, rfl⟩ := hP
      rw [List.map_map, List.getElem?_map] at hi
      cases e : rs[i1]? with
      | none => rw [e] at hi; cases hi
      | some pr =>
        rw [e] at hi
        have hx : x = .str pr.1 := (Option.some.inj hi).symm
        subst hx
        have hpm : pr ∈ rs := List.mem_of_getElem? e
        have hp : pr.1 ∈ rs.map Prod.fst := List.mem_map_of_mem (f := Prod.fst) hpm
        have hpk : pr.1 ∈ (srs rs).map Prod.fst := by rw [hky]; exact srt_mem.mpr hp
        have elk : lk (srs rs) pr.1 = lk rs pr.1 := lk_srs rs pr.1
        have hlm := lk_mem hp
        have hrl : (lk rs pr.1).length = ns.length := ok.ln hlm
        have hrn : (lk rs pr.1).Nodup := ok.nd2 hlm
        have hpm2 : (srt ns).Perm (lk rs pr.1) := (List.perm_ext_iff_of_nodup (srt_nodup ns) hrn).mpr fun z => srt_mem.trans (ok.perm _ hlm).mem_iff.symm
        refine dg_name (by walk_at "fno") ?_
        walk_at "fw"
        refine ⟨rs, ts, ns, rfl, ok, ?_⟩
        walk_at "fw"
        simp only [List.length_map, hsn]
        refine ⟨fun h => ?_, fun h => ?_⟩
        · have hlt : ts.length < ns.length := by have := of_decide_eq_true h; omega
          walk_at "fw"
          refine ⟨rs, ts, ns, rfl, ok, ?_⟩
          walk_at "fw"
          refine ⟨by omega, tnm, ok.nd, hp, by omega, hrn, srt_nodup ns, fun z hz => hpm2.mem_iff.mp hz, by omega, by omega, fun v hv => ?_⟩
          walk_at "fw"
          refine ⟨hgk, hpk, fun d1 h1 => ?_⟩
          rw [elk] at h1
          have ed := safe_val hrn hpm2 (by omega) h1 hv
          subst ed
          walk_at "fw"
          refine ⟨rfl, rfl, ?_⟩
          rw [show PyData.eqv (.int (v : Nat)) (.int (v : Nat)) = true by simp [PyData.eqv]]
          walk_at "fw"
          exact ⟨rfl, _, _, _, rfl⟩
        · have hge : ts.length = ns.length := by have := of_decide_eq_false h; omega
          walk_at "fw"
          refine ⟨hgk, hpk, fun d1 h1 => ?_⟩
          rw [elk] at h1
          have ed := safe_full (by omega) h1
          subst ed
          walk_at "fw"
          refine ⟨rfl, rfl, ?_⟩
          rw [show PyData.eqv .none .none = true by simp [PyData.eqv]]
          walk_at "fw"
          exact ⟨rfl, _, _, _, rfl⟩
    · obtain ⟨rfl, g5, g6, g7, rfl⟩ := hP
      walk_at "fw"
      refine ds_for [7] (fun xs _ G' O' => (∀ x ∈ xs, Odd0 x) ∧ O' = [] ∧ ∃ g5 g6 g7 : Option D, G' = [some (.scr sc), some (.int (i : Nat)), some .stm, some (ownD rs ts), some (gm (srs rs) ts), g5, g6, g7]) ?_
      walk_at "fw"
      refine ⟨rs, ts, ns, rfl, ok, ?_⟩
      walk_at "fw"
      obtain ⟨n0, nr, en⟩ := List.exists_cons_of_ne_nil (l := srt ns) fun z => by rw [z] at hsn; simp at hsn; omega
      have hn0 : n0 ∈ NAMES := ok.nsN _ (srt_mem.mp (by rw [en]; exact List.mem_cons_self))
      refine ⟨_, _, .str n0, rfl, rfl, by rw [en, List.map_cons]; exact atI_0 _ _, ?_⟩
      walk_at "fw"
      refine ⟨⟨fun x hx => ?_, rfl, _, _, _, rfl⟩, fun i2 x G' O' hi hP => ?_, fun G' O' hP => ?_⟩
      · simp only [List.mem_cons, List.not_mem_nil, or_false] at hx
        rcases hx with h | h | h | h | h | h | h
        · exact .inl h
        · exact .inr (.inl h)
        · exact .inr (.inr (.inl h))
        · exact .inr (.inr (.inr (.inl h)))
        · exact .inr (.inr (.inr (.inr (.inl h))))
        · exact .inr (.inr (.inr (.inr (.inr (.inl h)))))
        · exact .inr (.inr (.inr (.inr (.inr (.inr ⟨n0, hn0, h⟩)))))
      · obtain ⟨hxs, rfl, g5, g6, g7, rfl⟩ := hP
        have ho := hxs x (List.mem_of_getElem? hi)
        walk_at "fw"
        refine ⟨odd_no (fun p hp => ok.rsP p (srs_mem hp)) ho, odd_repr ho, ?_⟩
        walk_at "fw"
        refine ⟨odd_repr ho, ?_⟩
        walk_at "fw"
        refine ⟨odd_shaped ho, odd_shaped ho, ?_⟩
        rw [told_eq]
        walk_at "fw"
        exact ⟨hxs, rfl, _, _, _, rfl⟩
      · obtain ⟨hxs, rfl, g5, g6, g7, rfl⟩ := hP
        exact ⟨rfl, _, _, _, _, _, _, _, rfl⟩
  · obtain ⟨rfl, g1, g2, g3, g4, g5, g6, g7, rfl⟩ := hP
    walk_at "fw"
    exact hk
end
end

end Fw

set_option maxHeartbeats 0
/-! The end. -/
namespace Fw
open PySem PySem.Spec PyProof.Rows L2
theorem cx0 {P : Program} {w : World} {K : PySem.W.Frag} {mg : Str → Option Value} {base : Heap} {k : Nat} {f : Addr} {fd : FuncData} {ps : List Str} {sp : Sp} (F : FnG P w K mg base (L2.CX P w) k f fd ps sp) :
    FnG P w K mg base (fun _ _ _ _ _ _ => False) k f fd ps (fun vs H Q _ => sp vs H Q E0) :=
  ⟨fun vs H Q E h => F.len vs H Q E0 h, fun A o s H args us vs Q E hr e b v h => codeAny_mono (F.run A o s H args us vs Q E0 hr e b v h) fun r s' q => by
    cases r with
    | ok x => cases x <;> exact q
    | error e =>
      obtain ⟨_, _, _, _, _, _, _, _, _, _, _, _, z⟩ := q
      exact z.elim⟩
theorem facts {P : Program} [PMain P] {w : World} {K : PySem.W.Frag} {h : Heap} {mg : Str → Option Value} {f : Addr} (X : K.In h) (G : h.Ns mainGlobals mg) (hfa : mg ("law" : Str) = some (.ref f)) (c : obsP fcs dfs K = valP dfs) :
    ∃ fd : FuncData, (∀ (s : Shared) (v : Value), BindsTo s fd ⟨[v], []⟩ [("_law_script", v)]) ∧ ∀ base : Heap, K.In base → base.Ns mainGlobals mg → FnG P w K mg base (fun _ _ _ _ _ _ => False) 12 f fd ["_law_script"] (fun vs H Q _ => spD K wt_law vs H Q E0) := by
  have T : TX K mg := Tx.mk' X G c
  have e := hfa.symm.trans (T.glo 75)
  cases e
  obtain ⟨fd, F⟩ := T.def_ 39 (d := d_law)
  have b := FunD.bindsA (ps := ["_law_script"]) F fun _ _ _ _ _ _ us hl => match us, hl with | [_], _ => rfl
  exact ⟨fd, fun s v => b s [v] rfl, fun base _ _ => cx0 (ok_law T F)⟩
theorem spec {K : PySem.W.Frag} {H : Hp} {a : Addr} {ns : List Int} (hS : SqL K H a (ns.map V.int)) : spD K wt_law [.ref a] H (fun v _ => v = .bl true) E0 := by
  refine ⟨fun _ => False, [.scr ns], fun d => d = .bl true, F0, fun _ z => z.elim, .cons ?_ .nil, ⟨ns, rfl, rfl⟩, fun v H' d e s r => by subst e; cases r; rfl, eok_e0⟩
  rcases hS with h | h
  · exact .scr (fun z => z) h
  · exact .scrK h
end Fw
/-! names taken, so that no twin of a state behind the top is laid: its equation alone would have some 10 MB -/
def PySem.W.Fast.tw1584895182271313870 : Unit := ()
def PySem.W.Fast.tw8128573257629146810 : Unit := ()
def PySem.W.Fast.tw5429662122715985559 : Unit := ()
def PySem.W.Fast.tw336208327552556659 : Unit := ()
def PySem.W.Fast.tw1873645450798048599 : Unit := ()
def PySem.W.Fast.tw1273562323722731650 : Unit := ()
def PySem.W.Fast.tw12052665834437679717 : Unit := ()
def PySem.W.Fast.tw9744779836565292865 : Unit := ()
def PySem.W.Fast.tw433368056466396491 : Unit := ()
def PySem.W.Fast.tw1049819928216745854 : Unit := ()
def PySem.W.Fast.tw15373703823299402505 : Unit := ()
def PySem.W.Fast.tw1444484818842792944 : Unit := ()
def PySem.W.Fast.tw7561275327097666882 : Unit := ()
def PySem.W.Fast.tw9625416658134641321 : Unit := ()
def PySem.W.Fast.tw17994609580829996459 : Unit := ()
def PySem.W.Fast.tw975577251061363578 : Unit := ()
def PySem.W.Fast.tw1863660800195470806 : Unit := ()
def PySem.W.Fast.tw15025021790232721268 : Unit := ()
def PySem.W.Fast.tw2793384157991518896 : Unit := ()
def PySem.W.Fast.tw8495645094395595859 : Unit := ()
def PySem.W.Fast.tw15988352373894191793 : Unit := ()
def PySem.W.Fast.tw16533160564586458002 : Unit := ()
def PySem.W.Fast.tw863682155302238343 : Unit := ()
def PySem.W.Fast.tw2014021851044477951 : Unit := ()
def PySem.W.Fast.tw633974011791737604 : Unit := ()
def PySem.W.Fast.tw5387940574499885827 : Unit := ()
def PySem.W.Fast.tw5872191299259103328 : Unit := ()
def PySem.W.Fast.tw13563572365289258157 : Unit := ()
def PySem.W.Fast.tw5496089002625028774 : Unit := ()
def PySem.W.Fast.tw11529239601283419982 : Unit := ()
def PySem.W.Fast.tw17302876039500845910 : Unit := ()
def PySem.W.Fast.tw15619901746500601015 : Unit := ()
def PySem.W.Fast.tw2833644638847166298 : Unit := ()
def PySem.W.Fast.tw2785996899087125327 : Unit := ()
def PySem.W.Fast.tw11982926607035739049 : Unit := ()
def PySem.W.Fast.tw6375290258215307678 : Unit := ()
def PySem.W.Fast.tw17128739547025708371 : Unit := ()
def PySem.W.Fast.tw7492079437256428983 : Unit := ()
def PySem.W.Fast.tw7444391276191693022 : Unit := ()
def PySem.W.Fast.tw8600557778679870027 : Unit := ()
def PySem.W.Fast.tw2270522663409745882 : Unit := ()
def PySem.W.Fast.tw13397506229938195527 : Unit := ()
def PySem.W.Fast.tw323245651428213141 : Unit := ()
def PySem.W.Fast.tw12779905165229274816 : Unit := ()
def PySem.W.Fast.tw16253181379612896777 : Unit := ()
def PySem.W.Fast.tw172314676915617009 : Unit := ()
def PySem.W.Fast.tw2078450614844185985 : Unit := ()
def PySem.W.Fast.tw1432868261864409211 : Unit := ()
def PySem.W.Fast.tw15824085617485240607 : Unit := ()
def PySem.W.Fast.tw16812869663242617642 : Unit := ()
def PySem.W.Fast.tw8649424341761467023 : Unit := ()
def PySem.W.Fast.tw2389233521741240081 : Unit := ()
def PySem.W.Fast.tw13031874155729070352 : Unit := ()
def PySem.W.Fast.tw13154662342344346910 : Unit := ()
def PySem.W.Fast.tw7478599442330819432 : Unit := ()
def PySem.W.Fast.tw6533814720550759822 : Unit := ()
def PySem.W.Fast.tw66541236510280489 : Unit := ()
def PySem.W.Fast.tw7267277303144830665 : Unit := ()
def PySem.W.Fast.tw10081068679976084770 : Unit := ()
def PySem.W.Fast.tw7437023557629128967 : Unit := ()
def PySem.W.Fast.tw6058542432273218849 : Unit := ()
def PySem.W.Fast.tw3096031572629679919 : Unit := ()
def PySem.W.Fast.tw14936447967447991628 : Unit := ()
def PySem.W.Fast.tw14606613309102491809 : Unit := ()
def PySem.W.Fast.tw9520589752733081720 : Unit := ()
def PySem.W.Fast.tw8458981670394249084 : Unit := ()
def PySem.W.Fast.tw9400855275261163219 : Unit := ()
def PySem.W.Fast.tw8893867266572960701 : Unit := ()
def PySem.W.Fast.tw12939762021465520411 : Unit := ()
def PySem.W.Fast.tw8772698196978199831 : Unit := ()
def PySem.W.Fast.tw16588843889005262897 : Unit := ()
def PySem.W.Fast.tw11168207831660665228 : Unit := ()
def PySem.W.Fast.tw15015543703491738956 : Unit := ()
def PySem.W.Fast.tw4651032448402811005 : Unit := ()
def PySem.W.Fast.tw3770898624634854020 : Unit := ()
def PySem.W.Fast.tw14965787903752074533 : Unit := ()
def PySem.W.Fast.tw1270134915744446621 : Unit := ()
def PySem.W.Fast.tw4209190785922427554 : Unit := ()
def PySem.W.Fast.tw6133864444734336791 : Unit := ()
def PySem.W.Fast.tw1129433558586147698 : Unit := ()
def PySem.W.Fast.tw4189743092089438822 : Unit := ()
def PySem.W.Fast.tw1750569728732042492 : Unit := ()
def PySem.W.Fast.tw13083769983645256083 : Unit := ()
def PySem.W.Fast.tw1220640047348468009 : Unit := ()
def PySem.W.Fast.tw12617755350830896546 : Unit := ()
def PySem.W.Fast.tw11966887353606868755 : Unit := ()
def PySem.W.Fast.tw3826965054854212074 : Unit := ()
def PySem.W.Fast.tw14561859274005827455 : Unit := ()
def PySem.W.Fast.tw3291443958996814824 : Unit := ()
def PySem.W.Fast.tw12952613408950639727 : Unit := ()
def PySem.W.Fast.tw1366557188274745571 : Unit := ()
def PySem.W.Fast.tw12260707909161925721 : Unit := ()
def PySem.W.Fast.tw15293699743438786952 : Unit := ()
def PySem.W.Fast.tw182731907501121226 : Unit := ()
def PySem.W.Fast.tw13535657753944592331 : Unit := ()
def PySem.W.Fast.tw9022311248672054799 : Unit := ()
def PySem.W.Fast.tw9172980547058938748 : Unit := ()
def PySem.W.Fast.tw16973158880011610617 : Unit := ()
def PySem.W.Fast.tw10396156194635217599 : Unit := ()
def PySem.W.Fast.tw2001783510858389009 : Unit := ()
def PySem.W.Fast.tw4524580982248707990 : Unit := ()
def PySem.W.Fast.tw11915268691001866356 : Unit := ()
def PySem.W.Fast.tw14743388160257992407 : Unit := ()
def PySem.W.Fast.tw1078341319785712297 : Unit := ()
def PySem.W.Fast.tw12146895065757654887 : Unit := ()
def PySem.W.Fast.tw7931801780133563337 : Unit := ()
def PySem.W.Fast.tw2097304616673517620 : Unit := ()
def PySem.W.Fast.tw8563226002862365523 : Unit := ()
def PySem.W.Fast.tw5094719504891117426 : Unit := ()
def PySem.W.Fast.tw15669599671834019749 : Unit := ()
def PySem.W.Fast.tw993038929608562357 : Unit := ()
def PySem.W.Fast.tw9808956603402566365 : Unit := ()
def PySem.W.Fast.tw8309722657009116620 : Unit := ()
def PySem.W.Fast.tw12016940639403505698 : Unit := ()
def PySem.W.Fast.tw7344524642763302442 : Unit := ()
def PySem.W.Fast.tw9148461361240507985 : Unit := ()
def PySem.W.Fast.tw1108776312526131013 : Unit := ()
def PySem.W.Fast.tw7977898682594386575 : Unit := ()
def PySem.W.Fast.tw16439459999355643757 : Unit := ()
def PySem.W.Fast.tw15322334086715233275 : Unit := ()
def PySem.W.Fast.tw10946454193332944682 : Unit := ()
def PySem.W.Fast.tw18130620403807271790 : Unit := ()
def PySem.W.Fast.tw17279079519000074911 : Unit := ()
def PySem.W.Fast.tw1610112378838591628 : Unit := ()
def PySem.W.Fast.tw5117998075961723765 : Unit := ()
def PySem.W.Fast.tw15099375601938595769 : Unit := ()
def PySem.W.Fast.tw16017114777768810764 : Unit := ()
def PySem.W.Fast.tw15057100811644707697 : Unit := ()
def PySem.W.Fast.tw2428175894274178840 : Unit := ()
def PySem.W.Fast.tw5587073082585294907 : Unit := ()
def PySem.W.Fast.tw859306690452272674 : Unit := ()
def PySem.W.Fast.tw14008747542053538867 : Unit := ()
def PySem.W.Fast.tw2606577495944151930 : Unit := ()
def PySem.W.Fast.tw504674612812986406 : Unit := ()
def PySem.W.Fast.tw5344000417082466762 : Unit := ()
def PySem.W.Fast.tw1691878386112337818 : Unit := ()
def PySem.W.Fast.tw12718253679031492331 : Unit := ()
def PySem.W.Fast.tw10593401493656005981 : Unit := ()
def PySem.W.Fast.tw10110742814064906280 : Unit := ()
def PySem.W.Fast.tw15990633160306805487 : Unit := ()
def PySem.W.Fast.tw17438278543342605775 : Unit := ()
def PySem.W.Fast.tw14767203872591871065 : Unit := ()
def PySem.W.Fast.tw4779023521151964593 : Unit := ()
def PySem.W.Fast.tw4242389513988706336 : Unit := ()
def PySem.W.Fast.tw8413781267643892982 : Unit := ()
def PySem.W.Fast.tw17299207172455164855 : Unit := ()
def PySem.W.Fast.tw6086635132177795208 : Unit := ()
def PySem.W.Fast.tw14609514316597280524 : Unit := ()
def PySem.W.Fast.tw563567636798781389 : Unit := ()
def PySem.W.Fast.tw2682743961816987083 : Unit := ()
def PySem.W.Fast.tw5209350582198818228 : Unit := ()
def PySem.W.Fast.tw5399299342799797166 : Unit := ()
def PySem.W.Fast.tw86803615509799853 : Unit := ()
def PySem.W.Fast.tw6315300274776877744 : Unit := ()
def PySem.W.Fast.tw494018575500270747 : Unit := ()
def PySem.W.Fast.tw9395553303330923902 : Unit := ()
def PySem.W.Fast.tw14051932920063732037 : Unit := ()
def PySem.W.Fast.tw15743614816294601263 : Unit := ()
def PySem.W.Fast.tw3019413059622503971 : Unit := ()
def PySem.W.Fast.tw6273017363305435282 : Unit := ()
def PySem.W.Fast.tw8720593751258381994 : Unit := ()
def PySem.W.Fast.tw14135419971029650018 : Unit := ()
def PySem.W.Fast.tw13254897969937790500 : Unit := ()
def PySem.W.Fast.tw10260570405314948256 : Unit := ()
def PySem.W.Fast.tw7063901228240542805 : Unit := ()
def PySem.W.Fast.tw10898569460780680771 : Unit := ()
def PySem.W.Fast.tw16401167297182081433 : Unit := ()
def PySem.W.Fast.tw2027994367115362593 : Unit := ()
def PySem.W.Fast.tw16324800188286026244 : Unit := ()
def PySem.W.Fast.tw16090569902624007779 : Unit := ()
def PySem.W.Fast.tw16652635233018679292 : Unit := ()
def PySem.W.Fast.tw9177973071271587948 : Unit := ()
def PySem.W.Fast.tw9072236898340947618 : Unit := ()
def PySem.W.Fast.tw18365333103000210557 : Unit := ()
def PySem.W.Fast.tw5121733570828446853 : Unit := ()
def PySem.W.Fast.tw6179549416202506804 : Unit := ()
def PySem.W.Fast.tw7196165108936708671 : Unit := ()
def PySem.W.Fast.tw14166124003676801640 : Unit := ()
def PySem.W.Fast.tw3847582658273936942 : Unit := ()
def PySem.W.Fast.tw1887897194271408997 : Unit := ()
def PySem.W.Fast.tw10329627293028350817 : Unit := ()
def PySem.W.Fast.tw2480312809805705782 : Unit := ()
def PySem.W.Fast.tw7185625676918318384 : Unit := ()
def PySem.W.Fast.tw15654790555561497244 : Unit := ()
def PySem.W.Fast.tw178211844267100927 : Unit := ()
def PySem.W.Fast.tw10794517770935913332 : Unit := ()
def PySem.W.Fast.tw13088857492552539151 : Unit := ()
def PySem.W.Fast.tw17014957828222968913 : Unit := ()
def PySem.W.Fast.tw5469260738178332944 : Unit := ()
def PySem.W.Fast.tw17490222410193258111 : Unit := ()
def PySem.W.Fast.tw14768899333707405254 : Unit := ()
def PySem.W.Fast.tw10791501215534745285 : Unit := ()
def PySem.W.Fast.tw10683429904947848157 : Unit := ()
def PySem.W.Fast.tw16718955392068736761 : Unit := ()
def PySem.W.Fast.tw10788432009132774772 : Unit := ()
def PySem.W.Fast.tw9764959595882785275 : Unit := ()
def PySem.W.Fast.tw17857532217304926455 : Unit := ()
def PySem.W.Fast.tw8347746923971479121 : Unit := ()
def PySem.W.Fast.tw5746865333174610093 : Unit := ()
def PySem.W.Fast.tw13465452151805355881 : Unit := ()
def PySem.W.Fast.tw11549782363468920313 : Unit := ()
def PySem.W.Fast.tw15395680383580050677 : Unit := ()
def PySem.W.Fast.tw15745483483618464178 : Unit := ()
def PySem.W.Fast.tw3680350736971254622 : Unit := ()
def PySem.W.Fast.tw14915128593072920295 : Unit := ()
def PySem.W.Fast.tw4950606651420270844 : Unit := ()
def PySem.W.Fast.tw8024705220472613717 : Unit := ()
def PySem.W.Fast.tw13733313687242731745 : Unit := ()
def PySem.W.Fast.tw5056674467948164304 : Unit := ()
def PySem.W.Fast.tw10250580810956130023 : Unit := ()
def PySem.W.Fast.tw4466340289384112660 : Unit := ()
def PySem.W.Fast.tw10391147901612146093 : Unit := ()
def PySem.W.Fast.tw3817826386271219131 : Unit := ()
def PySem.W.Fast.tw14122713571375006056 : Unit := ()
def PySem.W.Fast.tw17848050037062284561 : Unit := ()
def PySem.W.Fast.tw12149952954743019413 : Unit := ()
def PySem.W.Fast.tw4806382322630731996 : Unit := ()
def PySem.W.Fast.tw13881870490418162422 : Unit := ()
def PySem.W.Fast.tw4251403621153867865 : Unit := ()
def PySem.W.Fast.tw533945870831809547 : Unit := ()
def PySem.W.Fast.tw8162742203869444979 : Unit := ()
def PySem.W.Fast.tw17112396152319756459 : Unit := ()
def PySem.W.Fast.tw16055762133353183243 : Unit := ()
def PySem.W.Fast.tw16966130344770457856 : Unit := ()
def PySem.W.Fast.tw11454762210787835810 : Unit := ()
def PySem.W.Fast.tw11315818040256351780 : Unit := ()
def PySem.W.Fast.tw8424492143858266915 : Unit := ()
def PySem.W.Fast.tw5322276780125040953 : Unit := ()
def PySem.W.Fast.tw1943009788715195594 : Unit := ()
def PySem.W.Fast.tw1156708359132250536 : Unit := ()
def PySem.W.Fast.tw8487055629848760944 : Unit := ()
def PySem.W.Fast.tw6813528712216053241 : Unit := ()
def PySem.W.Fast.tw800482370582334714 : Unit := ()
def PySem.W.Fast.tw6771281888737425346 : Unit := ()
def PySem.W.Fast.tw1332006114794498674 : Unit := ()
def PySem.W.Fast.tw13871564258652135877 : Unit := ()
def PySem.W.Fast.tw1382192228200793256 : Unit := ()
def PySem.W.Fast.tw5402580872626929264 : Unit := ()
def PySem.W.Fast.tw2573474710648804130 : Unit := ()
def PySem.W.Fast.tw15311383330261140662 : Unit := ()
def PySem.W.Fast.tw8390152666831234876 : Unit := ()
def PySem.W.Fast.tw18235950220235720011 : Unit := ()
def PySem.W.Fast.tw15677139235793092588 : Unit := ()
def PySem.W.Fast.tw3820067652473640623 : Unit := ()
def PySem.W.Fast.tw5198941811408060975 : Unit := ()
def PySem.W.Fast.tw2039549545738710315 : Unit := ()
def PySem.W.Fast.tw12807664431456455404 : Unit := ()
def PySem.W.Fast.tw7975021810627446106 : Unit := ()
def PySem.W.Fast.tw12757157057940675142 : Unit := ()
def PySem.W.Fast.tw8194323463026491488 : Unit := ()
def PySem.W.Fast.tw17475563926757091124 : Unit := ()
def PySem.W.Fast.tw4083768594816473587 : Unit := ()
def PySem.W.Fast.tw6697627118620191785 : Unit := ()
def PySem.W.Fast.tw10241518676589395785 : Unit := ()
def PySem.W.Fast.tw1907855838511981591 : Unit := ()
def PySem.W.Fast.tw711341494381918497 : Unit := ()
def PySem.W.Fast.tw4519335840011115485 : Unit := ()
def PySem.W.Fast.tw15970336833212810222 : Unit := ()
def PySem.W.Fast.tw5063937351544836225 : Unit := ()
def PySem.W.Fast.tw7367918454641248768 : Unit := ()
def PySem.W.Fast.tw4891049527059222664 : Unit := ()
def PySem.W.Fast.tw763898753976010484 : Unit := ()
def PySem.W.Fast.tw14925409366601052673 : Unit := ()
def PySem.W.Fast.tw11834430245980479776 : Unit := ()
def PySem.W.Fast.tw16218900665672402272 : Unit := ()
def PySem.W.Fast.tw16765046455414543268 : Unit := ()
def PySem.W.Fast.tw15602781151866376824 : Unit := ()
def PySem.W.Fast.tw2310125981811334294 : Unit := ()
def PySem.W.Fast.tw2473866726717771920 : Unit := ()
def PySem.W.Fast.tw13832084222171246706 : Unit := ()
def PySem.W.Fast.tw17549454569904312429 : Unit := ()
def PySem.W.Fast.tw495818890822932943 : Unit := ()
def PySem.W.Fast.tw10992985245303617507 : Unit := ()
def PySem.W.Fast.tw8864037313636719296 : Unit := ()
def PySem.W.Fast.tw3240281193602034924 : Unit := ()
def PySem.W.Fast.tw547848963041576340 : Unit := ()
def PySem.W.Fast.tw315600684752706237 : Unit := ()
def PySem.W.Fast.tw18292500139344088726 : Unit := ()
def PySem.W.Fast.tw12916295083607517056 : Unit := ()
def PySem.W.Fast.tw18096529990482548712 : Unit := ()
def PySem.W.Fast.tw6313864857927805705 : Unit := ()
def PySem.W.Fast.tw13811867420593785514 : Unit := ()
def PySem.W.Fast.tw15106893300487318106 : Unit := ()
def PySem.W.Fast.tw6674483761006503449 : Unit := ()
def PySem.W.Fast.tw10435265376776734296 : Unit := ()
def PySem.W.Fast.tw578098224173102874 : Unit := ()
def PySem.W.Fast.tw15483378572656988761 : Unit := ()
def PySem.W.Fast.tw17181771261193860942 : Unit := ()
def PySem.W.Fast.tw11409440004372302450 : Unit := ()
def PySem.W.Fast.tw13005324000977365749 : Unit := ()
def PySem.W.Fast.tw11564524412309547971 : Unit := ()
def PySem.W.Fast.tw7824592342956530545 : Unit := ()
def PySem.W.Fast.tw1046182423440583625 : Unit := ()
def PySem.W.Fast.tw12798617601418736092 : Unit := ()
def PySem.W.Fast.tw16743339575886266014 : Unit := ()
def PySem.W.Fast.tw5702480864471588460 : Unit := ()
def PySem.W.Fast.tw14678416187625590351 : Unit := ()
def PySem.W.Fast.tw14966424465665576703 : Unit := ()
def PySem.W.Fast.tw7185924087470539729 : Unit := ()
def PySem.W.Fast.tw9624568121528766783 : Unit := ()
def PySem.W.Fast.tw16818414156670987390 : Unit := ()
def PySem.W.Fast.tw3247021883531927098 : Unit := ()
def PySem.W.Fast.tw8191485515550205012 : Unit := ()
def PySem.W.Fast.tw12925942997274348439 : Unit := ()
def PySem.W.Fast.tw16707230258827191263 : Unit := ()
def PySem.W.Fast.tw5243148942119342150 : Unit := ()
def PySem.W.Fast.tw13706069222202766041 : Unit := ()
def PySem.W.Fast.tw13744735385036439469 : Unit := ()
def PySem.W.Fast.tw16948342061731200163 : Unit := ()
def PySem.W.Fast.tw15900709270326656143 : Unit := ()
def PySem.W.Fast.tw17429795853349671856 : Unit := ()
def PySem.W.Fast.tw4838592620403236664 : Unit := ()
def PySem.W.Fast.tw6105084961752125197 : Unit := ()
def PySem.W.Fast.tw2278852827833558408 : Unit := ()
def PySem.W.Fast.tw10833790926191251914 : Unit := ()
def PySem.W.Fast.tw2686383494983969823 : Unit := ()
def PySem.W.Fast.tw7827835822027038155 : Unit := ()
def PySem.W.Fast.tw7997905582134424962 : Unit := ()
def PySem.W.Fast.tw8418725392130360266 : Unit := ()
def PySem.W.Fast.tw12249633414999298839 : Unit := ()
def PySem.W.Fast.tw6896591299997004654 : Unit := ()
def PySem.W.Fast.tw16405210379304535177 : Unit := ()
def PySem.W.Fast.tw11745531826015939283 : Unit := ()
def PySem.W.Fast.tw11426132942559968386 : Unit := ()
def PySem.W.Fast.tw6140425211019720668 : Unit := ()
def PySem.W.Fast.tw11622724725389538543 : Unit := ()
def PySem.W.Fast.tw1272198719011341283 : Unit := ()
def PySem.W.Fast.tw10173657188773237316 : Unit := ()
def PySem.W.Fast.tw6700342931980860842 : Unit := ()
def PySem.W.Fast.tw6771808936331284529 : Unit := ()
def PySem.W.Fast.tw14299336883515760913 : Unit := ()
def PySem.W.Fast.tw7999438620552633055 : Unit := ()
def PySem.W.Fast.tw7313426358815284972 : Unit := ()
def PySem.W.Fast.tw9121401321230808153 : Unit := ()
def PySem.W.Fast.tw5647912116059756853 : Unit := ()
def PySem.W.Fast.tw16543573112177691407 : Unit := ()
def PySem.W.Fast.tw11814670584104294169 : Unit := ()
def PySem.W.Fast.tw1887260090566167578 : Unit := ()
def PySem.W.Fast.tw17177086539996106264 : Unit := ()
def PySem.W.Fast.tw2715718270178625272 : Unit := ()
def PySem.W.Fast.tw15502504788691887719 : Unit := ()
def PySem.W.Fast.tw4199586208652069754 : Unit := ()
def PySem.W.Fast.tw8099739439348815926 : Unit := ()
def PySem.W.Fast.tw12200205219767561551 : Unit := ()
def PySem.W.Fast.tw1441728589424681697 : Unit := ()
def PySem.W.Fast.tw9249773175562693889 : Unit := ()
def PySem.W.Fast.tw5991969005629471219 : Unit := ()
def PySem.W.Fast.tw16733574388664263537 : Unit := ()
def PySem.W.Fast.tw65891621186573396 : Unit := ()
def PySem.W.Fast.tw8290489443941421539 : Unit := ()
def PySem.W.Fast.tw1196441333237855278 : Unit := ()
def PySem.W.Fast.tw3937029257709633434 : Unit := ()
def PySem.W.Fast.tw8823189443180825030 : Unit := ()
def PySem.W.Fast.tw7947225240114443436 : Unit := ()
def PySem.W.Fast.tw12963005014282376559 : Unit := ()
def PySem.W.Fast.tw5013673759125870592 : Unit := ()
def PySem.W.Fast.tw16861655850993953752 : Unit := ()
def PySem.W.Fast.tw15967622728530939733 : Unit := ()
def PySem.W.Fast.tw5559146271527494083 : Unit := ()
def PySem.W.Fast.tw6652024032558288379 : Unit := ()
def PySem.W.Fast.tw5703726936218176188 : Unit := ()
def PySem.W.Fast.tw11292027462244967806 : Unit := ()
def PySem.W.Fast.tw6299223194499348295 : Unit := ()
def PySem.W.Fast.tw17449592808725761764 : Unit := ()
def PySem.W.Fast.tw5781807031122199396 : Unit := ()
def PySem.W.Fast.tw15008928866769941139 : Unit := ()
def PySem.W.Fast.tw14440906958237130356 : Unit := ()
def PySem.W.Fast.tw15411057369989395790 : Unit := ()
def PySem.W.Fast.tw4373347254666628927 : Unit := ()
def PySem.W.Fast.tw4398424656798006288 : Unit := ()
def PySem.W.Fast.tw17910653959890060451 : Unit := ()
def PySem.W.Fast.tw3675095409824621915 : Unit := ()
def PySem.W.Fast.tw2760344604095457019 : Unit := ()
def PySem.W.Fast.tw17192790390529300935 : Unit := ()
def PySem.W.Fast.tw7999124770809451832 : Unit := ()
def PySem.W.Fast.tw7283771181832726230 : Unit := ()
def PySem.W.Fast.tw2635387600359710050 : Unit := ()
def PySem.W.Fast.tw3976792636929362239 : Unit := ()
def PySem.W.Fast.tw13712776656394609115 : Unit := ()
def PySem.W.Fast.tw17273554803259699239 : Unit := ()
def PySem.W.Fast.tw1834596691459249287 : Unit := ()
def PySem.W.Fast.tw12513862832554398054 : Unit := ()
def PySem.W.Fast.tw971322490571746434 : Unit := ()
def PySem.W.Fast.tw8611637842590168182 : Unit := ()
def PySem.W.Fast.tw6551720809810595620 : Unit := ()
def PySem.W.Fast.tw10527342284290441690 : Unit := ()
def PySem.W.Fast.tw8610400041812930519 : Unit := ()
def PySem.W.Fast.tw10895906622402194864 : Unit := ()
def PySem.W.Fast.tw15569621141551986405 : Unit := ()
def PySem.W.Fast.tw11344324158050355760 : Unit := ()
def PySem.W.Fast.tw3738811524811195121 : Unit := ()
def PySem.W.Fast.tw2935078580392499094 : Unit := ()
def PySem.W.Fast.tw10766152729495988714 : Unit := ()
def PySem.W.Fast.tw8763225292228177020 : Unit := ()
def PySem.W.Fast.tw10563508631560870127 : Unit := ()
def PySem.W.Fast.tw34120313973846842 : Unit := ()
def PySem.W.Fast.tw12041402631365721399 : Unit := ()
def PySem.W.Fast.tw1723880118453572452 : Unit := ()
def PySem.W.Fast.tw10655256756104737831 : Unit := ()
def PySem.W.Fast.tw12919218097561947982 : Unit := ()
def PySem.W.Fast.tw12528184482044381191 : Unit := ()
def PySem.W.Fast.tw1367287612471811156 : Unit := ()
def PySem.W.Fast.tw14273108897815490749 : Unit := ()
def PySem.W.Fast.tw16535487374479778114 : Unit := ()
def PySem.W.Fast.tw3012255058567346271 : Unit := ()
def PySem.W.Fast.tw4444337158607492072 : Unit := ()
def PySem.W.Fast.tw12123977949623845350 : Unit := ()
def PySem.W.Fast.tw520377804154126786 : Unit := ()
def PySem.W.Fast.tw2496783332283513078 : Unit := ()
def PySem.W.Fast.tw5106723207281120022 : Unit := ()
def PySem.W.Fast.tw13300226878076934455 : Unit := ()
def PySem.W.Fast.tw10628179541353439029 : Unit := ()
def PySem.W.Fast.tw16831453884985219944 : Unit := ()
def PySem.W.Fast.tw11823444291408356567 : Unit := ()
def PySem.W.Fast.tw17215853845970551508 : Unit := ()
def PySem.W.Fast.tw2457169401902096685 : Unit := ()
def PySem.W.Fast.tw13268722796868717648 : Unit := ()
def PySem.W.Fast.tw7382581240994010150 : Unit := ()
def PySem.W.Fast.tw16791383665225222126 : Unit := ()
def PySem.W.Fast.tw6671048085983949520 : Unit := ()
def PySem.W.Fast.tw7609342081939045782 : Unit := ()
def PySem.W.Fast.tw9377721388472882543 : Unit := ()
def PySem.W.Fast.tw7653240951349546079 : Unit := ()
def PySem.W.Fast.tw16668964426143104402 : Unit := ()
def PySem.W.Fast.tw4280436347987254189 : Unit := ()
def PySem.W.Fast.tw12020141257155879116 : Unit := ()
def PySem.W.Fast.tw3789188975327998599 : Unit := ()
def PySem.W.Fast.tw4107287384488326330 : Unit := ()
def PySem.W.Fast.tw569300671766264904 : Unit := ()
def PySem.W.Fast.tw5420385632316625423 : Unit := ()
def PySem.W.Fast.tw16862325712355460781 : Unit := ()
def PySem.W.Fast.tw2983818535276888849 : Unit := ()
def PySem.W.Fast.tw13624461471721002281 : Unit := ()
def PySem.W.Fast.tw2983875607453471596 : Unit := ()
def PySem.W.Fast.tw14626529788609487228 : Unit := ()
def PySem.W.Fast.tw11315310405111022003 : Unit := ()
def PySem.W.Fast.tw7793206261309679373 : Unit := ()
def PySem.W.Fast.tw375829142770528255 : Unit := ()
def PySem.W.Fast.tw6056075802732668261 : Unit := ()
def PySem.W.Fast.tw6495808441947247605 : Unit := ()
def PySem.W.Fast.tw6046315663907371652 : Unit := ()
def PySem.W.Fast.tw11511549774246976321 : Unit := ()
def PySem.W.Fast.tw826162174673386158 : Unit := ()
def PySem.W.Fast.tw18069160742157109192 : Unit := ()
def PySem.W.Fast.tw15228516290213688105 : Unit := ()
def PySem.W.Fast.tw12351169096205773835 : Unit := ()
def PySem.W.Fast.tw6666281178517356770 : Unit := ()
def PySem.W.Fast.tw2489499770804533560 : Unit := ()
def PySem.W.Fast.tw10608520314044730079 : Unit := ()
def PySem.W.Fast.tw6789637647249903345 : Unit := ()
def PySem.W.Fast.tw17835610498675650786 : Unit := ()
def PySem.W.Fast.tw15006118480069806197 : Unit := ()
def PySem.W.Fast.tw11745802578357624374 : Unit := ()
def PySem.W.Fast.tw12425009497918238506 : Unit := ()
def PySem.W.Fast.tw14156730627668879180 : Unit := ()
def PySem.W.Fast.tw10378768808841569393 : Unit := ()
def PySem.W.Fast.tw10044336425121527462 : Unit := ()
def PySem.W.Fast.tw1988753231294229335 : Unit := ()
def PySem.W.Fast.tw6664576978980026087 : Unit := ()
def PySem.W.Fast.tw2956154378569633549 : Unit := ()
def PySem.W.Fast.tw11119616140240842551 : Unit := ()
def PySem.W.Fast.tw14403686340440947165 : Unit := ()
def PySem.W.Fast.tw3501064102725510413 : Unit := ()
def PySem.W.Fast.tw6602357592176323746 : Unit := ()
def PySem.W.Fast.tw4443431897954344447 : Unit := ()
def PySem.W.Fast.tw1135538305889771079 : Unit := ()
def PySem.W.Fast.tw4621821920244443673 : Unit := ()
def PySem.W.Fast.tw13732504991597592552 : Unit := ()
def PySem.W.Fast.tw18337819610054502716 : Unit := ()
def PySem.W.Fast.tw343345685284034117 : Unit := ()
def PySem.W.Fast.tw13192677402050906524 : Unit := ()
def PySem.W.Fast.tw8262743283127872188 : Unit := ()
def PySem.W.Fast.tw9601278096372422326 : Unit := ()
def PySem.W.Fast.tw3557736572985823356 : Unit := ()
def PySem.W.Fast.tw5526193897803130122 : Unit := ()
def PySem.W.Fast.tw13256249544763612602 : Unit := ()
def PySem.W.Fast.tw13567041695002854419 : Unit := ()
def PySem.W.Fast.tw11716563565418481041 : Unit := ()
def PySem.W.Fast.tw10538828949084512526 : Unit := ()
def PySem.W.Fast.tw5036164956580143864 : Unit := ()
def PySem.W.Fast.tw10817442267288965181 : Unit := ()
def PySem.W.Fast.tw12082503170666568695 : Unit := ()
def PySem.W.Fast.tw17776612816049965401 : Unit := ()
def PySem.W.Fast.tw12103441874237120542 : Unit := ()
def PySem.W.Fast.tw5220721277433960453 : Unit := ()
def PySem.W.Fast.tw2693088112934840107 : Unit := ()
def PySem.W.Fast.tw14868232817391866018 : Unit := ()
def PySem.W.Fast.tw10322613482219979538 : Unit := ()
def PySem.W.Fast.tw11105512663204827990 : Unit := ()
def PySem.W.Fast.tw3361589816879615199 : Unit := ()
def PySem.W.Fast.tw4019723285808493854 : Unit := ()
def PySem.W.Fast.tw7296475779006923155 : Unit := ()
def PySem.W.Fast.tw3329102593181501267 : Unit := ()
def PySem.W.Fast.tw7985272495638050593 : Unit := ()
def PySem.W.Fast.tw8012712777619626090 : Unit := ()
def PySem.W.Fast.tw10554430057908697580 : Unit := ()
def PySem.W.Fast.tw16489675715720455900 : Unit := ()
def PySem.W.Fast.tw9855998117837191819 : Unit := ()
def PySem.W.Fast.tw15210114195474936573 : Unit := ()
def PySem.W.Fast.tw1484002331404996003 : Unit := ()
def PySem.W.Fast.tw3923187836957547596 : Unit := ()
def PySem.W.Fast.tw17875033748372206785 : Unit := ()
def PySem.W.Fast.tw14555713080006673752 : Unit := ()
def PySem.W.Fast.tw17225005400589510211 : Unit := ()
def PySem.W.Fast.tw15318157855812318735 : Unit := ()
def PySem.W.Fast.tw11143470994180814813 : Unit := ()
def PySem.W.Fast.tw2455377846269404050 : Unit := ()
def PySem.W.Fast.tw15865863317941868379 : Unit := ()
def PySem.W.Fast.tw14186971037197609581 : Unit := ()
def PySem.W.Fast.tw9621464136873719894 : Unit := ()
def PySem.W.Fast.tw2667761076072315175 : Unit := ()
def PySem.W.Fast.tw5732899455253164259 : Unit := ()
def PySem.W.Fast.tw17729873002856554671 : Unit := ()
def PySem.W.Fast.tw1898733955541776126 : Unit := ()
def PySem.W.Fast.tw10527379959386750998 : Unit := ()
def PySem.W.Fast.tw4848614825730416061 : Unit := ()
def PySem.W.Fast.tw13714140601623662456 : Unit := ()
def PySem.W.Fast.tw10671752203116515214 : Unit := ()
def PySem.W.Fast.tw4899883145319242279 : Unit := ()
def PySem.W.Fast.tw15600881816865335265 : Unit := ()
def PySem.W.Fast.tw8713511356281567487 : Unit := ()
def PySem.W.Fast.tw1213338885153244619 : Unit := ()
def PySem.W.Fast.tw9160023886363877794 : Unit := ()
def PySem.W.Fast.tw3440921890821356115 : Unit := ()
def PySem.W.Fast.tw11428632829311194602 : Unit := ()
def PySem.W.Fast.tw16656436177082457900 : Unit := ()
def PySem.W.Fast.tw856461482513396629 : Unit := ()
def PySem.W.Fast.tw3754532981138992582 : Unit := ()
def PySem.W.Fast.tw10692754944018691607 : Unit := ()
def PySem.W.Fast.tw9718696784045479548 : Unit := ()
def PySem.W.Fast.tw4818817795221341373 : Unit := ()
def PySem.W.Fast.tw3632435570318881370 : Unit := ()
def PySem.W.Fast.tw9536782062867220749 : Unit := ()
def PySem.W.Fast.tw11036986890249099778 : Unit := ()
def PySem.W.Fast.tw13404912569198951626 : Unit := ()
def PySem.W.Fast.tw15052106586702271114 : Unit := ()
def PySem.W.Fast.tw8253485977001791896 : Unit := ()
def PySem.W.Fast.tw5870356670086246350 : Unit := ()
def PySem.W.Fast.tw15042189846892369517 : Unit := ()
def PySem.W.Fast.tw4062500326098625878 : Unit := ()
def PySem.W.Fast.tw3509593271966276013 : Unit := ()
def PySem.W.Fast.tw3752305430259524574 : Unit := ()
def PySem.W.Fast.tw4886828592601719488 : Unit := ()
def PySem.W.Fast.tw1119382585842023101 : Unit := ()
def PySem.W.Fast.tw10478098785276139679 : Unit := ()
def PySem.W.Fast.tw7750316700611721013 : Unit := ()
def PySem.W.Fast.tw17020577404760894039 : Unit := ()
def PySem.W.Fast.tw11371056244057004956 : Unit := ()
def PySem.W.Fast.tw17836368270741571023 : Unit := ()
def PySem.W.Fast.tw8111615617578385041 : Unit := ()
def PySem.W.Fast.tw4618872984163209958 : Unit := ()
def PySem.W.Fast.tw7933512640511193920 : Unit := ()
def PySem.W.Fast.tw16946755258234326943 : Unit := ()
def PySem.W.Fast.tw5038675976285097472 : Unit := ()
def PySem.W.Fast.tw14340564471775253461 : Unit := ()
def PySem.W.Fast.tw7367877646248474606 : Unit := ()
def PySem.W.Fast.tw17308778449366379076 : Unit := ()
def PySem.W.Fast.tw15675403409195637709 : Unit := ()
def PySem.W.Fast.tw17996192336775077690 : Unit := ()
def PySem.W.Fast.tw2219930093625560004 : Unit := ()
def PySem.W.Fast.tw209115944676412383 : Unit := ()
def PySem.W.Fast.tw14283026702077247071 : Unit := ()
def PySem.W.Fast.tw1164551840005058217 : Unit := ()
def PySem.W.Fast.tw4446383473149129882 : Unit := ()
def PySem.W.Fast.tw17174775149092392286 : Unit := ()
def PySem.W.Fast.tw8134090252834317246 : Unit := ()
def PySem.W.Fast.tw3208463819137331383 : Unit := ()
def PySem.W.Fast.tw17275114154168172150 : Unit := ()
def PySem.W.Fast.tw17649532428709441518 : Unit := ()
def PySem.W.Fast.tw5733277576490822919 : Unit := ()
def PySem.W.Fast.tw13794174740682270747 : Unit := ()
def PySem.W.Fast.tw9633794295571232912 : Unit := ()
def PySem.W.Fast.tw541326749991782060 : Unit := ()
def PySem.W.Fast.tw1762780700540663525 : Unit := ()
def PySem.W.Fast.tw8433974136933308719 : Unit := ()
def PySem.W.Fast.tw1029868164052350892 : Unit := ()
def PySem.W.Fast.tw15932494460027398059 : Unit := ()
def PySem.W.Fast.tw9193423231031193328 : Unit := ()
def PySem.W.Fast.tw10926057179512528344 : Unit := ()
def PySem.W.Fast.tw8977644860187782406 : Unit := ()
def PySem.W.Fast.tw9092922826426226969 : Unit := ()
def PySem.W.Fast.tw9290003984435303703 : Unit := ()
def PySem.W.Fast.tw14496916661605286120 : Unit := ()
def PySem.W.Fast.tw2352873126607194444 : Unit := ()
def PySem.W.Fast.tw11949233263329243613 : Unit := ()
def PySem.W.Fast.tw605598116370049891 : Unit := ()
def PySem.W.Fast.tw10792290292097071782 : Unit := ()
def PySem.W.Fast.tw14812661690683044936 : Unit := ()
def PySem.W.Fast.tw8642234501958819028 : Unit := ()
def PySem.W.Fast.tw4406654659822435693 : Unit := ()
def PySem.W.Fast.tw10749110078948634165 : Unit := ()
def PySem.W.Fast.tw4336195873609411620 : Unit := ()
def PySem.W.Fast.tw135154653544590962 : Unit := ()
def PySem.W.Fast.tw2281385940349072853 : Unit := ()
def PySem.W.Fast.tw13291613174965277139 : Unit := ()
def PySem.W.Fast.tw2922483321785012432 : Unit := ()
def PySem.W.Fast.tw1706234310562914473 : Unit := ()
def PySem.W.Fast.tw12700016219467996912 : Unit := ()
def PySem.W.Fast.tw4244621077779218397 : Unit := ()
def PySem.W.Fast.tw7332645341516510532 : Unit := ()
def PySem.W.Fast.tw12264207701911098412 : Unit := ()
def PySem.W.Fast.tw17887435447795387033 : Unit := ()
def PySem.W.Fast.tw16580632168807637016 : Unit := ()
def PySem.W.Fast.tw2619000559140532335 : Unit := ()
def PySem.W.Fast.tw8789418222367295156 : Unit := ()
def PySem.W.Fast.tw13404469431283833288 : Unit := ()
def PySem.W.Fast.tw10849516005197790905 : Unit := ()
def PySem.W.Fast.tw8841861303924603575 : Unit := ()
def PySem.W.Fast.tw10032862522685090151 : Unit := ()
def PySem.W.Fast.tw3377053429467521489 : Unit := ()
def PySem.W.Fast.tw13733533857049548388 : Unit := ()
def PySem.W.Fast.tw15606168957055633528 : Unit := ()
def PySem.W.Fast.tw14956092823299197083 : Unit := ()
def PySem.W.Fast.tw10737240054618966151 : Unit := ()
def PySem.W.Fast.tw13120586481990437717 : Unit := ()
def PySem.W.Fast.tw10078849143274888358 : Unit := ()
def PySem.W.Fast.tw9741856847028405794 : Unit := ()
def PySem.W.Fast.tw13646725015576114938 : Unit := ()
def PySem.W.Fast.tw6010033996543736400 : Unit := ()
def PySem.W.Fast.tw11791268096165721945 : Unit := ()
def PySem.W.Fast.tw8275574107979966049 : Unit := ()
def PySem.W.Fast.tw12672205097794396375 : Unit := ()
def PySem.W.Fast.tw9884110959249936801 : Unit := ()
def PySem.W.Fast.tw14476768162063726141 : Unit := ()
def PySem.W.Fast.tw262582842349292683 : Unit := ()
def PySem.W.Fast.tw6874171309260020562 : Unit := ()
def PySem.W.Fast.tw76939396282104037 : Unit := ()
def PySem.W.Fast.tw16322006262381830767 : Unit := ()
def PySem.W.Fast.tw2298320216546164444 : Unit := ()
def PySem.W.Fast.tw7500224554276239463 : Unit := ()
def PySem.W.Fast.tw7459522378059049970 : Unit := ()
def PySem.W.Fast.tw12563987099826965072 : Unit := ()
def PySem.W.Fast.tw16730391743556465694 : Unit := ()
def PySem.W.Fast.tw3464868439195253082 : Unit := ()
def PySem.W.Fast.tw6811871884613673411 : Unit := ()
def PySem.W.Fast.tw229543370474950082 : Unit := ()
def PySem.W.Fast.tw11105826355595371380 : Unit := ()
def PySem.W.Fast.tw13161133105130559625 : Unit := ()
def PySem.W.Fast.tw1165412991185662720 : Unit := ()
def PySem.W.Fast.tw8155212278320542100 : Unit := ()
def PySem.W.Fast.tw668100896635689259 : Unit := ()
def PySem.W.Fast.tw15250170450426802189 : Unit := ()
def PySem.W.Fast.tw1165157365378852950 : Unit := ()
def PySem.W.Fast.tw17113121099643461462 : Unit := ()
def PySem.W.Fast.tw3698820025496891216 : Unit := ()
def PySem.W.Fast.tw16399396711252083425 : Unit := ()
def PySem.W.Fast.tw17012284514288457248 : Unit := ()
def PySem.W.Fast.tw18042233476324319284 : Unit := ()
def PySem.W.Fast.tw5052283986769074181 : Unit := ()
def PySem.W.Fast.tw16237258237262944207 : Unit := ()
def PySem.W.Fast.tw13269795211488927320 : Unit := ()
def PySem.W.Fast.tw3261791670836979616 : Unit := ()
def PySem.W.Fast.tw9231284481217879474 : Unit := ()
def PySem.W.Fast.tw7180936381257229234 : Unit := ()
def PySem.W.Fast.tw12599958991549861584 : Unit := ()
def PySem.W.Fast.tw17779904937402553314 : Unit := ()
def PySem.W.Fast.tw18159303139886713435 : Unit := ()
def PySem.W.Fast.tw8933701381752810540 : Unit := ()
def PySem.W.Fast.tw16017487342494025303 : Unit := ()
def PySem.W.Fast.tw1464866070306435091 : Unit := ()
def PySem.W.Fast.tw11064628492092131895 : Unit := ()
def PySem.W.Fast.tw12379910904833189756 : Unit := ()
def PySem.W.Fast.tw7912257516337146467 : Unit := ()
def PySem.W.Fast.tw2598596553439753272 : Unit := ()
def PySem.W.Fast.tw17823079903130808843 : Unit := ()
def PySem.W.Fast.tw9652952422371169261 : Unit := ()
def PySem.W.Fast.tw10094938407859668108 : Unit := ()
def PySem.W.Fast.tw6403327825821464470 : Unit := ()
def PySem.W.Fast.tw6960245441501770621 : Unit := ()
def PySem.W.Fast.tw13423431709118729504 : Unit := ()
def PySem.W.Fast.tw10313006538977275612 : Unit := ()
def PySem.W.Fast.tw6818731830583194736 : Unit := ()
def PySem.W.Fast.tw6051475349738110547 : Unit := ()
def PySem.W.Fast.tw825133784362231673 : Unit := ()
def PySem.W.Fast.tw9141390706645610140 : Unit := ()
def PySem.W.Fast.tw13636806140729674453 : Unit := ()
def PySem.W.Fast.tw2583745384894104223 : Unit := ()
def PySem.W.Fast.tw16419836463903151249 : Unit := ()
def PySem.W.Fast.tw11219546694621428656 : Unit := ()
def PySem.W.Fast.tw3343851050332667080 : Unit := ()
def PySem.W.Fast.tw8433894783827811038 : Unit := ()
def PySem.W.Fast.tw2265639838345995997 : Unit := ()
def PySem.W.Fast.tw5207448398968983404 : Unit := ()
def PySem.W.Fast.tw12626692069649146587 : Unit := ()
def PySem.W.Fast.tw9404309287969734608 : Unit := ()
def PySem.W.Fast.tw2750702450272013627 : Unit := ()
def PySem.W.Fast.tw11420072753567746660 : Unit := ()
def PySem.W.Fast.tw15795239869384949637 : Unit := ()
def PySem.W.Fast.tw9211136979612121387 : Unit := ()
def PySem.W.Fast.tw7896489471133412006 : Unit := ()
def PySem.W.Fast.tw2659011214999071315 : Unit := ()
def PySem.W.Fast.tw3541654238362697654 : Unit := ()
def PySem.W.Fast.tw17981399431704103242 : Unit := ()
def PySem.W.Fast.tw7446704186117492094 : Unit := ()
def PySem.W.Fast.tw14537312009784239071 : Unit := ()
def PySem.W.Fast.tw16869260290433849624 : Unit := ()
def PySem.W.Fast.tw8502278050478879082 : Unit := ()
def PySem.W.Fast.tw104031317570842635 : Unit := ()
def PySem.W.Fast.tw8962608906849693454 : Unit := ()
def PySem.W.Fast.tw14882676940199502792 : Unit := ()
def PySem.W.Fast.tw6247795159806142075 : Unit := ()
def PySem.W.Fast.tw15368027394242989249 : Unit := ()
def PySem.W.Fast.tw7890917543170009110 : Unit := ()
def PySem.W.Fast.tw15006233551607097059 : Unit := ()
def PySem.W.Fast.tw7547323200344776133 : Unit := ()
def PySem.W.Fast.tw4274189123088253924 : Unit := ()
def PySem.W.Fast.tw9092467204676220408 : Unit := ()
def PySem.W.Fast.tw12940251929133088137 : Unit := ()
def PySem.W.Fast.tw16044656096714071080 : Unit := ()
def PySem.W.Fast.tw9598826161537368874 : Unit := ()
def PySem.W.Fast.tw51500546386347239 : Unit := ()
def PySem.W.Fast.tw2758262188012884660 : Unit := ()
def PySem.W.Fast.tw16367098433064785337 : Unit := ()
def PySem.W.Fast.tw12003037241463108295 : Unit := ()
def PySem.W.Fast.tw13880945487987756660 : Unit := ()
def PySem.W.Fast.tw6617019188708448558 : Unit := ()
def PySem.W.Fast.tw13146518027465984190 : Unit := ()
def PySem.W.Fast.tw3081250178052898880 : Unit := ()
def PySem.W.Fast.tw1300009165470751483 : Unit := ()
def PySem.W.Fast.tw9962625018276046687 : Unit := ()
def PySem.W.Fast.tw3830118188908189266 : Unit := ()
def PySem.W.Fast.tw16627768600204940459 : Unit := ()
def PySem.W.Fast.tw16556453902317128779 : Unit := ()
def PySem.W.Fast.tw14993899742682043159 : Unit := ()
def PySem.W.Fast.tw12061786553249918429 : Unit := ()
def PySem.W.Fast.tw13601929603346362263 : Unit := ()
def PySem.W.Fast.tw18218312474668412189 : Unit := ()
def PySem.W.Fast.tw9574144557223720199 : Unit := ()
def PySem.W.Fast.tw2329937244122619874 : Unit := ()
def PySem.W.Fast.tw5073909632958197863 : Unit := ()
def PySem.W.Fast.tw1064341318172416332 : Unit := ()
def PySem.W.Fast.tw6378345545424920879 : Unit := ()
def PySem.W.Fast.tw5138323821995906558 : Unit := ()
def PySem.W.Fast.tw11876896999778128137 : Unit := ()
def PySem.W.Fast.tw4896372416463271896 : Unit := ()
def PySem.W.Fast.tw8872959602599121775 : Unit := ()
def PySem.W.Fast.tw2013481088332203783 : Unit := ()
def PySem.W.Fast.tw11065239505501584234 : Unit := ()
def PySem.W.Fast.tw14535316497818700833 : Unit := ()
def PySem.W.Fast.tw7426437116254674864 : Unit := ()
def PySem.W.Fast.tw11569719829667546792 : Unit := ()
def PySem.W.Fast.tw16010787302843271543 : Unit := ()
def PySem.W.Fast.tw5848434989554460694 : Unit := ()
def PySem.W.Fast.tw14638435199091395896 : Unit := ()
def PySem.W.Fast.tw5350055395907438777 : Unit := ()
def PySem.W.Fast.tw2213004231588996955 : Unit := ()
def PySem.W.Fast.tw9686263386620740839 : Unit := ()
def PySem.W.Fast.tw983293063023838957 : Unit := ()
def PySem.W.Fast.tw14806820011781471286 : Unit := ()
def PySem.W.Fast.tw3501358470250134353 : Unit := ()
def PySem.W.Fast.tw8274269266661132475 : Unit := ()
def PySem.W.Fast.tw2911315519564898036 : Unit := ()
def PySem.W.Fast.tw16420889737431176297 : Unit := ()
def PySem.W.Fast.tw2432537389543704043 : Unit := ()
def PySem.W.Fast.tw11394041668921760110 : Unit := ()
def PySem.W.Fast.tw16040165043530591064 : Unit := ()
def PySem.W.Fast.tw9630233109354325446 : Unit := ()
def PySem.W.Fast.tw15185776080604231163 : Unit := ()
def PySem.W.Fast.tw11360360086876124448 : Unit := ()
def PySem.W.Fast.tw14101166450899074732 : Unit := ()
def PySem.W.Fast.tw2824131528453935316 : Unit := ()
def PySem.W.Fast.tw12321679904172738880 : Unit := ()
def PySem.W.Fast.tw3903790312925049885 : Unit := ()
def PySem.W.Fast.tw12990237285181242369 : Unit := ()
def PySem.W.Fast.tw15699525107306369453 : Unit := ()
def PySem.W.Fast.tw9958487407954827981 : Unit := ()
def PySem.W.Fast.tw14460995458559613426 : Unit := ()
def PySem.W.Fast.tw1256849149011232235 : Unit := ()
def PySem.W.Fast.tw7956130117098426556 : Unit := ()
def PySem.W.Fast.tw16879054247181692328 : Unit := ()
def PySem.W.Fast.tw4430158671031239164 : Unit := ()
def PySem.W.Fast.tw9529677979057591894 : Unit := ()
def PySem.W.Fast.tw18057882696825022468 : Unit := ()
def PySem.W.Fast.tw6574411582091040781 : Unit := ()
def PySem.W.Fast.tw4959848595974924357 : Unit := ()
def PySem.W.Fast.tw11506716400664894962 : Unit := ()
def PySem.W.Fast.tw5494993058012226167 : Unit := ()
def PySem.W.Fast.tw13043121743398105225 : Unit := ()
def PySem.W.Fast.tw16789545754723116556 : Unit := ()
def PySem.W.Fast.tw7939474416597730765 : Unit := ()
def PySem.W.Fast.tw6491947265382199306 : Unit := ()
def PySem.W.Fast.tw3926247829051167447 : Unit := ()
def PySem.W.Fast.tw714444283191516243 : Unit := ()
def PySem.W.Fast.tw1424847026278427297 : Unit := ()
def PySem.W.Fast.tw18270129247892783065 : Unit := ()
def PySem.W.Fast.tw10587075548765900381 : Unit := ()
def PySem.W.Fast.tw12787189235979091115 : Unit := ()
def PySem.W.Fast.tw7584097156044242015 : Unit := ()
def PySem.W.Fast.tw3212987358873565373 : Unit := ()
def PySem.W.Fast.tw362773053125558926 : Unit := ()
def PySem.W.Fast.tw1397014869347287582 : Unit := ()
def PySem.W.Fast.tw13888441293114118068 : Unit := ()
def PySem.W.Fast.tw15666660354966317106 : Unit := ()
def PySem.W.Fast.tw18183677502331110339 : Unit := ()
def PySem.W.Fast.tw14200205555112647552 : Unit := ()
def PySem.W.Fast.tw70706812878611465 : Unit := ()
def PySem.W.Fast.tw6205382664475905084 : Unit := ()
def PySem.W.Fast.tw17529373962648852235 : Unit := ()
def PySem.W.Fast.tw5744205761758035339 : Unit := ()
def PySem.W.Fast.tw16559521042131209567 : Unit := ()
def PySem.W.Fast.tw6983895829953320246 : Unit := ()
def PySem.W.Fast.tw13962396594156074159 : Unit := ()
def PySem.W.Fast.tw11791764463557063356 : Unit := ()
def PySem.W.Fast.tw18306868709712490016 : Unit := ()
def PySem.W.Fast.tw16986397204217491570 : Unit := ()
def PySem.W.Fast.tw3787011499722613363 : Unit := ()
def PySem.W.Fast.tw12342271442691986099 : Unit := ()
def PySem.W.Fast.tw8917276004440163465 : Unit := ()
def PySem.W.Fast.tw15650804661325428946 : Unit := ()
def PySem.W.Fast.tw3598919496954907064 : Unit := ()
def PySem.W.Fast.tw17005546726483807244 : Unit := ()
def PySem.W.Fast.tw10564021730442085518 : Unit := ()
def PySem.W.Fast.tw8041763324860454499 : Unit := ()
def PySem.W.Fast.tw13917791505089995011 : Unit := ()
def PySem.W.Fast.tw18371827897855179369 : Unit := ()
def PySem.W.Fast.tw2685619825397446266 : Unit := ()
def PySem.W.Fast.tw6535247499861224867 : Unit := ()
def PySem.W.Fast.tw17658040257188260189 : Unit := ()
def PySem.W.Fast.tw8085181117033536495 : Unit := ()
def PySem.W.Fast.tw4266681154493194398 : Unit := ()
def PySem.W.Fast.tw10077062196336752305 : Unit := ()
def PySem.W.Fast.tw6559598392821681351 : Unit := ()
def PySem.W.Fast.tw3808351479594332297 : Unit := ()
def PySem.W.Fast.tw15175412920290050015 : Unit := ()
def PySem.W.Fast.tw15106483396738579592 : Unit := ()
def PySem.W.Fast.tw7776276616318063130 : Unit := ()
def PySem.W.Fast.tw10254175281316301512 : Unit := ()
def PySem.W.Fast.tw11350620469711790275 : Unit := ()
def PySem.W.Fast.tw9658818296671625893 : Unit := ()
def PySem.W.Fast.tw9429401268190817208 : Unit := ()
def PySem.W.Fast.tw14965476469202668186 : Unit := ()
def PySem.W.Fast.tw14496116071505179759 : Unit := ()
def PySem.W.Fast.tw15758067044739412119 : Unit := ()
def PySem.W.Fast.tw8502313390429930406 : Unit := ()
def PySem.W.Fast.tw11015211634204581496 : Unit := ()
def PySem.W.Fast.tw17761249382500167935 : Unit := ()
def PySem.W.Fast.tw495958068268312303 : Unit := ()
def PySem.W.Fast.tw3319119166900800272 : Unit := ()
def PySem.W.Fast.tw16087574011434605394 : Unit := ()
def PySem.W.Fast.tw5331495446141675424 : Unit := ()
def PySem.W.Fast.tw14635965730787479896 : Unit := ()
def PySem.W.Fast.tw14285535584533319418 : Unit := ()
def PySem.W.Fast.tw16587727266436898491 : Unit := ()
def PySem.W.Fast.tw15833530295115795711 : Unit := ()
def PySem.W.Fast.tw8480583399273953656 : Unit := ()
def PySem.W.Fast.tw10557733591029480491 : Unit := ()
def PySem.W.Fast.tw5766546635490736579 : Unit := ()
def PySem.W.Fast.tw1511960315781262436 : Unit := ()
def PySem.W.Fast.tw17318005638838185634 : Unit := ()
def PySem.W.Fast.tw4235418203684714834 : Unit := ()
def PySem.W.Fast.tw1879816498154703330 : Unit := ()
def PySem.W.Fast.tw6935424913799030752 : Unit := ()
def PySem.W.Fast.tw4956925206950321047 : Unit := ()
def PySem.W.Fast.tw11286092244483381442 : Unit := ()
def PySem.W.Fast.tw9844031608575970356 : Unit := ()
def PySem.W.Fast.tw2956389628803828096 : Unit := ()
def PySem.W.Fast.tw16429049314937297443 : Unit := ()
def PySem.W.Fast.tw15324963236142989266 : Unit := ()
def PySem.W.Fast.tw5432394657224347836 : Unit := ()
def PySem.W.Fast.tw3109974999577433377 : Unit := ()
def PySem.W.Fast.tw10264768742499888707 : Unit := ()
def PySem.W.Fast.tw15041842802299852346 : Unit := ()
def PySem.W.Fast.tw347985788589434763 : Unit := ()
def PySem.W.Fast.tw4656768035846873904 : Unit := ()
def PySem.W.Fast.tw12798763762529208251 : Unit := ()
def PySem.W.Fast.tw590580970624100032 : Unit := ()
def PySem.W.Fast.tw16142069298432445511 : Unit := ()
def PySem.W.Fast.tw10891505752184833754 : Unit := ()
def PySem.W.Fast.tw2205654948101572929 : Unit := ()
def PySem.W.Fast.tw18034508949512524691 : Unit := ()
def PySem.W.Fast.tw18097725488376791915 : Unit := ()
def PySem.W.Fast.tw16187662173989718902 : Unit := ()
def PySem.W.Fast.tw11650348933655657202 : Unit := ()
def PySem.W.Fast.tw2690364486051681460 : Unit := ()
def PySem.W.Fast.tw18420563920667973848 : Unit := ()
def PySem.W.Fast.tw868690055502637224 : Unit := ()
def PySem.W.Fast.tw2809318411872918033 : Unit := ()
def PySem.W.Fast.tw11337627050143254583 : Unit := ()
def PySem.W.Fast.tw386195586491692922 : Unit := ()
def PySem.W.Fast.tw4116774363739508256 : Unit := ()
def PySem.W.Fast.tw4569806979054148400 : Unit := ()
def PySem.W.Fast.tw15718427447166134847 : Unit := ()
def PySem.W.Fast.tw16581462337924502722 : Unit := ()
def PySem.W.Fast.tw3744532233627366040 : Unit := ()
def PySem.W.Fast.tw17803691688294048932 : Unit := ()
def PySem.W.Fast.tw2719977761155274712 : Unit := ()
def PySem.W.Fast.tw16136709424678441390 : Unit := ()
def PySem.W.Fast.tw17258764520183223113 : Unit := ()
def PySem.W.Fast.tw279990011092898822 : Unit := ()
def PySem.W.Fast.tw11285728871289832188 : Unit := ()
def PySem.W.Fast.tw2833608237207194285 : Unit := ()
def PySem.W.Fast.tw6692081512880954078 : Unit := ()
def PySem.W.Fast.tw2610512702130244512 : Unit := ()
def PySem.W.Fast.tw4828804069961564714 : Unit := ()
def PySem.W.Fast.tw9089486501932414416 : Unit := ()
def PySem.W.Fast.tw9006789266912011886 : Unit := ()
def PySem.W.Fast.tw7948485006468297665 : Unit := ()
def PySem.W.Fast.tw12928708482111594126 : Unit := ()
def PySem.W.Fast.tw1441501961475771489 : Unit := ()
def PySem.W.Fast.tw9159439064416171084 : Unit := ()
def PySem.W.Fast.tw2148273923289800625 : Unit := ()
def PySem.W.Fast.tw13124418503936610782 : Unit := ()
def PySem.W.Fast.tw5724530563677363229 : Unit := ()
def PySem.W.Fast.tw13949157703861243255 : Unit := ()
def PySem.W.Fast.tw18097465449138372417 : Unit := ()
def PySem.W.Fast.tw12589134903030615465 : Unit := ()
def PySem.W.Fast.tw16234802692586138049 : Unit := ()
def PySem.W.Fast.tw6914608089956369730 : Unit := ()
def PySem.W.Fast.tw7718774767922958480 : Unit := ()
def PySem.W.Fast.tw7875991762160920762 : Unit := ()
def PySem.W.Fast.tw4742481122628188907 : Unit := ()
def PySem.W.Fast.tw17448490772423680344 : Unit := ()
def PySem.W.Fast.tw6986240396807864781 : Unit := ()
def PySem.W.Fast.tw8581238760223866725 : Unit := ()
def PySem.W.Fast.tw14352653784381605035 : Unit := ()
def PySem.W.Fast.tw3380539738529743380 : Unit := ()
def PySem.W.Fast.tw11244258190013730591 : Unit := ()
def PySem.W.Fast.tw14373422252166530892 : Unit := ()
def PySem.W.Fast.tw3465944545712734903 : Unit := ()
def PySem.W.Fast.tw12515233405949859077 : Unit := ()
def PySem.W.Fast.tw7995891827459790512 : Unit := ()
def PySem.W.Fast.tw4906545796358358240 : Unit := ()
def PySem.W.Fast.tw12457591791638853299 : Unit := ()
def PySem.W.Fast.tw14127282357333734262 : Unit := ()
def PySem.W.Fast.tw6639479000509746664 : Unit := ()
def PySem.W.Fast.tw1062819941604191636 : Unit := ()
def PySem.W.Fast.tw7007388024692404143 : Unit := ()
def PySem.W.Fast.tw15756853121824057564 : Unit := ()
def PySem.W.Fast.tw8286901447418751869 : Unit := ()
def PySem.W.Fast.tw17407501861403327466 : Unit := ()
def PySem.W.Fast.tw4342781578052385801 : Unit := ()
def PySem.W.Fast.tw4932658901613723678 : Unit := ()
def PySem.W.Fast.tw13314467494648393641 : Unit := ()
def PySem.W.Fast.tw12591322768202414833 : Unit := ()
def PySem.W.Fast.tw10219796448754102913 : Unit := ()
def PySem.W.Fast.tw9084511265098631434 : Unit := ()
def PySem.W.Fast.tw4612712027057382672 : Unit := ()
def PySem.W.Fast.tw3890713702229747182 : Unit := ()
def PySem.W.Fast.tw4034743697670723589 : Unit := ()
def PySem.W.Fast.tw16123809267379725515 : Unit := ()
def PySem.W.Fast.tw5788676261701459710 : Unit := ()
def PySem.W.Fast.tw4055547863281307683 : Unit := ()
def PySem.W.Fast.tw10663739984482100722 : Unit := ()
def PySem.W.Fast.tw8345170693584289177 : Unit := ()
def PySem.W.Fast.tw14597554953277486397 : Unit := ()
def PySem.W.Fast.tw7868640738607201552 : Unit := ()
def PySem.W.Fast.tw16623804060395867948 : Unit := ()
def PySem.W.Fast.tw4646815859255200339 : Unit := ()
def PySem.W.Fast.tw13804230116011161014 : Unit := ()
def PySem.W.Fast.tw445118958006008148 : Unit := ()
def PySem.W.Fast.tw6423739442730011477 : Unit := ()
def PySem.W.Fast.tw8630475762144857339 : Unit := ()
def PySem.W.Fast.tw14196305715145057782 : Unit := ()
def PySem.W.Fast.tw12455893700825221787 : Unit := ()
def PySem.W.Fast.tw7855812685153325942 : Unit := ()
def PySem.W.Fast.tw9375898050776675389 : Unit := ()
def PySem.W.Fast.tw4893442312505725382 : Unit := ()
def PySem.W.Fast.tw4792194049423667765 : Unit := ()
def PySem.W.Fast.tw9156763447403381726 : Unit := ()
def PySem.W.Fast.tw10522714967271065800 : Unit := ()
def PySem.W.Fast.tw465777757648915217 : Unit := ()
def PySem.W.Fast.tw10347450367616177528 : Unit := ()
def PySem.W.Fast.tw12749707602203192843 : Unit := ()
def PySem.W.Fast.tw9273692270047484252 : Unit := ()
def PySem.W.Fast.tw11990520413237914311 : Unit := ()
def PySem.W.Fast.tw3779545249981660810 : Unit := ()
def PySem.W.Fast.tw5845212223609206787 : Unit := ()
def PySem.W.Fast.tw15728498533153452049 : Unit := ()
def PySem.W.Fast.tw1136374896930616910 : Unit := ()
def PySem.W.Fast.tw17098728750025326114 : Unit := ()
def PySem.W.Fast.tw14298851874120827489 : Unit := ()
def PySem.W.Fast.tw4744642119096503766 : Unit := ()
def PySem.W.Fast.tw8709174912883719204 : Unit := ()
def PySem.W.Fast.tw10816968500114617630 : Unit := ()
def PySem.W.Fast.tw7274999793713446553 : Unit := ()
def PySem.W.Fast.tw15440596257158790621 : Unit := ()
def PySem.W.Fast.tw15925085711998983230 : Unit := ()
def PySem.W.Fast.tw4177382378672009861 : Unit := ()
def PySem.W.Fast.tw13824044685101174379 : Unit := ()
def PySem.W.Fast.tw10973695563775126777 : Unit := ()
def PySem.W.Fast.tw13173388401137010458 : Unit := ()
def PySem.W.Fast.tw14766516510754263668 : Unit := ()
def PySem.W.Fast.tw15519388454009736628 : Unit := ()
def PySem.W.Fast.tw2339725723999733306 : Unit := ()
def PySem.W.Fast.tw672537969458850429 : Unit := ()
def PySem.W.Fast.tw4971550535777385156 : Unit := ()
def PySem.W.Fast.tw5263260524051622664 : Unit := ()
def PySem.W.Fast.tw12146642306636066775 : Unit := ()
def PySem.W.Fast.tw1491014859898485205 : Unit := ()
def PySem.W.Fast.tw3281978131987312615 : Unit := ()
def PySem.W.Fast.tw248294944059840885 : Unit := ()
def PySem.W.Fast.tw1401460273719540782 : Unit := ()
def PySem.W.Fast.tw10155444218627232397 : Unit := ()
def PySem.W.Fast.tw2924758801201403474 : Unit := ()
def PySem.W.Fast.tw2457154063749712501 : Unit := ()
def PySem.W.Fast.tw3502946537255349361 : Unit := ()
def PySem.W.Fast.tw10897879845127223920 : Unit := ()
def PySem.W.Fast.tw9392483367011345337 : Unit := ()
def PySem.W.Fast.tw14871401606827257450 : Unit := ()
def PySem.W.Fast.tw14843442554066302954 : Unit := ()
def PySem.W.Fast.tw12564400472229471217 : Unit := ()
def PySem.W.Fast.tw10540871228030355638 : Unit := ()
def PySem.W.Fast.tw11011357948745620339 : Unit := ()
def PySem.W.Fast.tw5768819606283982713 : Unit := ()
def PySem.W.Fast.tw17842762864175974937 : Unit := ()
def PySem.W.Fast.tw9310964494047626290 : Unit := ()
def PySem.W.Fast.tw15273188675510363024 : Unit := ()
def PySem.W.Fast.tw4688036865325328961 : Unit := ()
def PySem.W.Fast.tw9696368568958076109 : Unit := ()
def PySem.W.Fast.tw4921047247821614164 : Unit := ()
def PySem.W.Fast.tw9723695463790835052 : Unit := ()
def PySem.W.Fast.tw4243015055846725955 : Unit := ()
def PySem.W.Fast.tw4486351989747258299 : Unit := ()
def PySem.W.Fast.tw14105903003390540188 : Unit := ()
def PySem.W.Fast.tw208934661567720969 : Unit := ()
def PySem.W.Fast.tw10096461919906470306 : Unit := ()
def PySem.W.Fast.tw9486363274693496079 : Unit := ()
def PySem.W.Fast.tw16818050473948361800 : Unit := ()
def PySem.W.Fast.tw1482155249616277324 : Unit := ()
def PySem.W.Fast.tw2547856818671291452 : Unit := ()
def PySem.W.Fast.tw3122362276297982570 : Unit := ()
def PySem.W.Fast.tw9585396802162210202 : Unit := ()
def PySem.W.Fast.tw4446300651801214169 : Unit := ()
def PySem.W.Fast.tw17569847988429788030 : Unit := ()
def PySem.W.Fast.tw5570321825227999422 : Unit := ()
def PySem.W.Fast.tw8403327356839983146 : Unit := ()
def PySem.W.Fast.tw6729497214433979523 : Unit := ()
def PySem.W.Fast.tw9824733255775331447 : Unit := ()
def PySem.W.Fast.tw5669990900531158125 : Unit := ()
def PySem.W.Fast.tw8565166785656500752 : Unit := ()
def PySem.W.Fast.tw114054726450278418 : Unit := ()
def PySem.W.Fast.tw26265778914921424 : Unit := ()
def PySem.W.Fast.tw4216524311892363668 : Unit := ()
def PySem.W.Fast.tw15844799163298320909 : Unit := ()
def PySem.W.Fast.tw10098038735869398082 : Unit := ()
def PySem.W.Fast.tw4413392527369395571 : Unit := ()
def PySem.W.Fast.tw441926779756698391 : Unit := ()
def PySem.W.Fast.tw2490271391257851654 : Unit := ()
def PySem.W.Fast.tw1915735018987142486 : Unit := ()
def PySem.W.Fast.tw7413348453486839508 : Unit := ()
def PySem.W.Fast.tw17471897368239426135 : Unit := ()
def PySem.W.Fast.tw13277772916667920803 : Unit := ()
def PySem.W.Fast.tw12533690226275001036 : Unit := ()
def PySem.W.Fast.tw6512389495125269639 : Unit := ()
def PySem.W.Fast.tw18088986421676475402 : Unit := ()
def PySem.W.Fast.tw16125148522762304445 : Unit := ()
def PySem.W.Fast.tw370657709639815507 : Unit := ()
def PySem.W.Fast.tw1389898493521728325 : Unit := ()
def PySem.W.Fast.tw13591044571391011150 : Unit := ()
def PySem.W.Fast.tw18045774541117117446 : Unit := ()
def PySem.W.Fast.tw5658773690261460723 : Unit := ()
def PySem.W.Fast.tw4054662507827951576 : Unit := ()
def PySem.W.Fast.tw10112800371142424679 : Unit := ()
def PySem.W.Fast.tw13299482886635796516 : Unit := ()
def PySem.W.Fast.tw11409912404879734185 : Unit := ()
def PySem.W.Fast.tw3542590839110165085 : Unit := ()
def PySem.W.Fast.tw5594480206137687364 : Unit := ()
def PySem.W.Fast.tw14664351499894548047 : Unit := ()
def PySem.W.Fast.tw2478594040927299806 : Unit := ()
def PySem.W.Fast.tw3460563078177198135 : Unit := ()
def PySem.W.Fast.tw965130791123777124 : Unit := ()
def PySem.W.Fast.tw1166346928540549444 : Unit := ()
def PySem.W.Fast.tw6360437049300432750 : Unit := ()
def PySem.W.Fast.tw11776770744883912136 : Unit := ()
def PySem.W.Fast.tw758055968085097110 : Unit := ()
def PySem.W.Fast.tw3581178152588539799 : Unit := ()
def PySem.W.Fast.tw7944527081719113081 : Unit := ()
def PySem.W.Fast.tw7289601527803618644 : Unit := ()
def PySem.W.Fast.tw17257794748413601824 : Unit := ()
def PySem.W.Fast.tw7010046621992890836 : Unit := ()
def PySem.W.Fast.tw15410587402084327586 : Unit := ()
def PySem.W.Fast.tw9547716072151562860 : Unit := ()
def PySem.W.Fast.tw13739824483986791348 : Unit := ()
def PySem.W.Fast.tw2517758838568639608 : Unit := ()
def PySem.W.Fast.tw12720808142644630506 : Unit := ()
def PySem.W.Fast.tw12163031162327211258 : Unit := ()
def PySem.W.Fast.tw12958517234589666128 : Unit := ()
def PySem.W.Fast.tw7145719622785151992 : Unit := ()
def PySem.W.Fast.tw1996319188418905222 : Unit := ()
def PySem.W.Fast.tw3572236845090947315 : Unit := ()
def PySem.W.Fast.tw9345810994078818710 : Unit := ()
def PySem.W.Fast.tw7446535792200375305 : Unit := ()
def PySem.W.Fast.tw11371928713928878391 : Unit := ()
def PySem.W.Fast.tw9783332319518842926 : Unit := ()
def PySem.W.Fast.tw12594591388098635215 : Unit := ()
def PySem.W.Fast.tw4004504408342079723 : Unit := ()
def PySem.W.Fast.tw16465312989863661173 : Unit := ()
def PySem.W.Fast.tw12076972783101701449 : Unit := ()
def PySem.W.Fast.tw3689381832631014153 : Unit := ()
def PySem.W.Fast.tw8199670353994551358 : Unit := ()
def PySem.W.Fast.tw6850993424656085734 : Unit := ()
def PySem.W.Fast.tw16057233098914110198 : Unit := ()
def PySem.W.Fast.tw16111556296828201145 : Unit := ()
def PySem.W.Fast.tw14264548080947200800 : Unit := ()
def PySem.W.Fast.tw15923664030587593959 : Unit := ()
def PySem.W.Fast.tw12350675247331713961 : Unit := ()
def PySem.W.Fast.tw2491197416101474425 : Unit := ()
def PySem.W.Fast.tw10654435372384839200 : Unit := ()
def PySem.W.Fast.tw8491941186275303904 : Unit := ()
def PySem.W.Fast.tw15502081962341825117 : Unit := ()
def PySem.W.Fast.tw16213261189546284295 : Unit := ()
def PySem.W.Fast.tw12210272894973009897 : Unit := ()
def PySem.W.Fast.tw1319261021376860725 : Unit := ()
def PySem.W.Fast.tw10114176707908656620 : Unit := ()
def PySem.W.Fast.tw15061641942147533728 : Unit := ()
def PySem.W.Fast.tw5619570435007249396 : Unit := ()
def PySem.W.Fast.tw5729456645536783975 : Unit := ()
def PySem.W.Fast.tw2365227914181089913 : Unit := ()
def PySem.W.Fast.tw9301301628029582847 : Unit := ()
def PySem.W.Fast.tw8272684751909798450 : Unit := ()
def PySem.W.Fast.tw12377251374608101829 : Unit := ()
def PySem.W.Fast.tw11395605184528802717 : Unit := ()
def PySem.W.Fast.tw14174701518388273825 : Unit := ()
def PySem.W.Fast.tw894630761351820950 : Unit := ()
def PySem.W.Fast.tw14531600033919776433 : Unit := ()
def PySem.W.Fast.tw17554993919078174622 : Unit := ()
def PySem.W.Fast.tw11720706871636917867 : Unit := ()
def PySem.W.Fast.tw10653663236792078507 : Unit := ()
def PySem.W.Fast.tw9220704770434789196 : Unit := ()
def PySem.W.Fast.tw9029988433202772075 : Unit := ()
def PySem.W.Fast.tw12665887204412218535 : Unit := ()
def PySem.W.Fast.tw10306500753068137545 : Unit := ()
def PySem.W.Fast.tw6445269911441317385 : Unit := ()
def PySem.W.Fast.tw16069548662707332222 : Unit := ()
def PySem.W.Fast.tw18350887742951917998 : Unit := ()
def PySem.W.Fast.tw5780865432377997398 : Unit := ()
def PySem.W.Fast.tw7543829284562152278 : Unit := ()
def PySem.W.Fast.tw2262874683474116313 : Unit := ()
def PySem.W.Fast.tw10172517832363481035 : Unit := ()
def PySem.W.Fast.tw4657215635182909345 : Unit := ()
def PySem.W.Fast.tw7428717507014517747 : Unit := ()
def PySem.W.Fast.tw3762252047200133398 : Unit := ()
def PySem.W.Fast.tw16334130346745121118 : Unit := ()
def PySem.W.Fast.tw16092651847722647545 : Unit := ()
def PySem.W.Fast.tw15372084016207155801 : Unit := ()
def PySem.W.Fast.tw14182872423485170195 : Unit := ()
def PySem.W.Fast.tw10039384315818404478 : Unit := ()
def PySem.W.Fast.tw2150442589297565004 : Unit := ()
def PySem.W.Fast.tw16474371793343294880 : Unit := ()
def PySem.W.Fast.tw4603475172514952298 : Unit := ()
def PySem.W.Fast.tw248351218492083292 : Unit := ()
def PySem.W.Fast.tw12748138614550018933 : Unit := ()
def PySem.W.Fast.tw7712262168303236465 : Unit := ()
def PySem.W.Fast.tw7868029320645095523 : Unit := ()
def PySem.W.Fast.tw3987873543834837736 : Unit := ()
def PySem.W.Fast.tw5435271042785069253 : Unit := ()
def PySem.W.Fast.tw7549094596605245060 : Unit := ()
def PySem.W.Fast.tw15867003723999938754 : Unit := ()
def PySem.W.Fast.tw1015498134923880766 : Unit := ()
def PySem.W.Fast.tw17585427368805136919 : Unit := ()
def PySem.W.Fast.tw6268625033335553030 : Unit := ()
def PySem.W.Fast.tw8041068584088818630 : Unit := ()
def PySem.W.Fast.tw3441544874033151741 : Unit := ()
def PySem.W.Fast.tw7515447421122975710 : Unit := ()
def PySem.W.Fast.tw9788831178140921719 : Unit := ()
def PySem.W.Fast.tw8341167366877181940 : Unit := ()
def PySem.W.Fast.tw16946007147083751647 : Unit := ()
def PySem.W.Fast.tw13391989637918986500 : Unit := ()
def PySem.W.Fast.tw17867392614187605495 : Unit := ()
def PySem.W.Fast.tw5123686890392066312 : Unit := ()
def PySem.W.Fast.tw14968359784710787503 : Unit := ()
def PySem.W.Fast.tw3021259235735523469 : Unit := ()
def PySem.W.Fast.tw5487019357401960240 : Unit := ()
def PySem.W.Fast.tw5636190355947796203 : Unit := ()
def PySem.W.Fast.tw1858713465780496676 : Unit := ()
def PySem.W.Fast.tw17213976237190611717 : Unit := ()
def PySem.W.Fast.tw1316145515207542538 : Unit := ()
def PySem.W.Fast.tw8819393991011368570 : Unit := ()
def PySem.W.Fast.tw1603237239633227885 : Unit := ()
def PySem.W.Fast.tw3666889715678003782 : Unit := ()
def PySem.W.Fast.tw10949403545259972736 : Unit := ()
def PySem.W.Fast.tw15821561025104224666 : Unit := ()
def PySem.W.Fast.tw5845504948542230462 : Unit := ()
def PySem.W.Fast.tw14671701954888942790 : Unit := ()
def PySem.W.Fast.tw14187798366354893774 : Unit := ()
def PySem.W.Fast.tw13022687175886887116 : Unit := ()
def PySem.W.Fast.tw134690380279078125 : Unit := ()
def PySem.W.Fast.tw7227297170485672882 : Unit := ()
def PySem.W.Fast.tw12244156341718595994 : Unit := ()
def PySem.W.Fast.tw12150342274340940647 : Unit := ()
def PySem.W.Fast.tw8985147493765193801 : Unit := ()
def PySem.W.Fast.tw13749204798125464198 : Unit := ()
def PySem.W.Fast.tw1435834135447035246 : Unit := ()
def PySem.W.Fast.tw11750786717492377923 : Unit := ()
def PySem.W.Fast.tw17920687363028161691 : Unit := ()
def PySem.W.Fast.tw5689990626755616681 : Unit := ()
def PySem.W.Fast.tw1155650141358008030 : Unit := ()
def PySem.W.Fast.tw7403619395155527632 : Unit := ()
def PySem.W.Fast.tw1348366134172453741 : Unit := ()
def PySem.W.Fast.tw14097727037667102662 : Unit := ()
def PySem.W.Fast.tw16862287297733866554 : Unit := ()
def PySem.W.Fast.tw5501384369544357071 : Unit := ()
def PySem.W.Fast.tw13697529847002690303 : Unit := ()
def PySem.W.Fast.tw424462250985723227 : Unit := ()
def PySem.W.Fast.tw6208997091841478821 : Unit := ()
def PySem.W.Fast.tw1158456217244284259 : Unit := ()
def PySem.W.Fast.tw8321678808013192774 : Unit := ()
def PySem.W.Fast.tw7954217138945814241 : Unit := ()
def PySem.W.Fast.tw10637949390479389582 : Unit := ()
def PySem.W.Fast.tw18215868326223323719 : Unit := ()
def PySem.W.Fast.tw4227666104708316651 : Unit := ()
def PySem.W.Fast.tw3306926926747010594 : Unit := ()
def PySem.W.Fast.tw11418245474166321843 : Unit := ()
def PySem.W.Fast.tw5140107543254092030 : Unit := ()
def PySem.W.Fast.tw10433561276796978892 : Unit := ()
def PySem.W.Fast.tw17310284969236186380 : Unit := ()
def PySem.W.Fast.tw14700227352738535335 : Unit := ()
def PySem.W.Fast.tw13622431658507249498 : Unit := ()
def PySem.W.Fast.tw789975240592331693 : Unit := ()
def PySem.W.Fast.tw9585991057743871093 : Unit := ()
def PySem.W.Fast.tw10709319064054047785 : Unit := ()
def PySem.W.Fast.tw15487637233165979555 : Unit := ()
def PySem.W.Fast.tw7736980536501616605 : Unit := ()
def PySem.W.Fast.tw4656488371541738422 : Unit := ()
def PySem.W.Fast.tw2736992100635101183 : Unit := ()
def PySem.W.Fast.tw10293779525696114048 : Unit := ()
def PySem.W.Fast.tw5221123597728523453 : Unit := ()
def PySem.W.Fast.tw8444197282698751280 : Unit := ()
def PySem.W.Fast.tw13503374790323006442 : Unit := ()
def PySem.W.Fast.tw11978222708208977712 : Unit := ()
def PySem.W.Fast.tw3220189180777479321 : Unit := ()
def PySem.W.Fast.tw2897427228289851017 : Unit := ()
def PySem.W.Fast.tw16097102030456917390 : Unit := ()
def PySem.W.Fast.tw8659758145346391073 : Unit := ()
def PySem.W.Fast.tw3005189039425459351 : Unit := ()
def PySem.W.Fast.tw6202254607342540158 : Unit := ()
def PySem.W.Fast.tw17475061353710293967 : Unit := ()
def PySem.W.Fast.tw7764164321707048947 : Unit := ()
def PySem.W.Fast.tw15521893221814639129 : Unit := ()
def PySem.W.Fast.tw9425162993685512883 : Unit := ()
def PySem.W.Fast.tw2701237535530590220 : Unit := ()
def PySem.W.Fast.tw10021740438776901742 : Unit := ()
def PySem.W.Fast.tw4946811429110795063 : Unit := ()
def PySem.W.Fast.tw18291991214927827346 : Unit := ()
def PySem.W.Fast.tw12163755764429921517 : Unit := ()
def PySem.W.Fast.tw3883980505181812484 : Unit := ()
def PySem.W.Fast.tw15196926077282282804 : Unit := ()
def PySem.W.Fast.tw6707783824993478014 : Unit := ()
def PySem.W.Fast.tw16126014080658183746 : Unit := ()
def PySem.W.Fast.tw12678511891957201766 : Unit := ()
def PySem.W.Fast.tw15947584254122903113 : Unit := ()
def PySem.W.Fast.tw3485524707390898455 : Unit := ()
def PySem.W.Fast.tw12138064467568248518 : Unit := ()
def PySem.W.Fast.tw2340484194292164488 : Unit := ()
def PySem.W.Fast.tw10683725679768692070 : Unit := ()
def PySem.W.Fast.tw11671657722514758247 : Unit := ()
def PySem.W.Fast.tw8638518563801509758 : Unit := ()
def PySem.W.Fast.tw12165450818178604162 : Unit := ()
def PySem.W.Fast.tw1304016083518796172 : Unit := ()
def PySem.W.Fast.tw3472228028697686492 : Unit := ()
def PySem.W.Fast.tw6261338250331298037 : Unit := ()
def PySem.W.Fast.tw16860058180025301591 : Unit := ()
def PySem.W.Fast.tw5169092622296231486 : Unit := ()
def PySem.W.Fast.tw12362304109448503192 : Unit := ()
def PySem.W.Fast.tw1952444610733568701 : Unit := ()
def PySem.W.Fast.tw1499418301604925381 : Unit := ()
def PySem.W.Fast.tw15622396461661133117 : Unit := ()
def PySem.W.Fast.tw14549870292545763467 : Unit := ()
def PySem.W.Fast.tw3178346651259456148 : Unit := ()
def PySem.W.Fast.tw214515354722349201 : Unit := ()
def PySem.W.Fast.tw15448800785133014507 : Unit := ()
def PySem.W.Fast.tw563368330539451272 : Unit := ()
def PySem.W.Fast.tw14722301403931604090 : Unit := ()
def PySem.W.Fast.tw2097686400973939539 : Unit := ()
def PySem.W.Fast.tw7725763101115651244 : Unit := ()
def PySem.W.Fast.tw17189478524926319971 : Unit := ()
def PySem.W.Fast.tw13967521397621027557 : Unit := ()
def PySem.W.Fast.tw1274785839198480342 : Unit := ()
def PySem.W.Fast.tw8212358360639711715 : Unit := ()
def PySem.W.Fast.tw15481363855728110591 : Unit := ()
def PySem.W.Fast.tw5218364562263170530 : Unit := ()
def PySem.W.Fast.tw1064553977098219001 : Unit := ()
def PySem.W.Fast.tw13232041028254528517 : Unit := ()
def PySem.W.Fast.tw17608404833008410512 : Unit := ()
def PySem.W.Fast.tw7080101199036861152 : Unit := ()
def PySem.W.Fast.tw9604976967130223967 : Unit := ()
def PySem.W.Fast.tw10111439358954689013 : Unit := ()
def PySem.W.Fast.tw14391854845388470104 : Unit := ()
def PySem.W.Fast.tw3888028476605238523 : Unit := ()
def PySem.W.Fast.tw11244968125203192361 : Unit := ()
def PySem.W.Fast.tw9369179957267219873 : Unit := ()
def PySem.W.Fast.tw1727986593633329798 : Unit := ()
def PySem.W.Fast.tw11147213880754863709 : Unit := ()
def PySem.W.Fast.tw13206443344647734447 : Unit := ()
def PySem.W.Fast.tw17895057400772236625 : Unit := ()
def PySem.W.Fast.tw5990263540680938480 : Unit := ()
def PySem.W.Fast.tw92528439338203135 : Unit := ()
def PySem.W.Fast.tw5820326278280935872 : Unit := ()
def PySem.W.Fast.tw1392225918365719812 : Unit := ()
def PySem.W.Fast.tw5537154563499946648 : Unit := ()
def PySem.W.Fast.tw3056529930205461355 : Unit := ()
def PySem.W.Fast.tw8901349661264992296 : Unit := ()
def PySem.W.Fast.tw5332539922759648401 : Unit := ()
def PySem.W.Fast.tw14785438965343800857 : Unit := ()
def PySem.W.Fast.tw4552320445265920258 : Unit := ()
def PySem.W.Fast.tw2315975514542667007 : Unit := ()
def PySem.W.Fast.tw16834827060257997515 : Unit := ()
def PySem.W.Fast.tw1679497856651655319 : Unit := ()
def PySem.W.Fast.tw7228479966535882129 : Unit := ()
def PySem.W.Fast.tw13704560145756826563 : Unit := ()
def PySem.W.Fast.tw4794205483434257251 : Unit := ()
def PySem.W.Fast.tw17799820543208841086 : Unit := ()
def PySem.W.Fast.tw10281998454462267202 : Unit := ()
def PySem.W.Fast.tw4151687200349734411 : Unit := ()
def PySem.W.Fast.tw9678740440466251901 : Unit := ()
def PySem.W.Fast.tw11145035879517952146 : Unit := ()
def PySem.W.Fast.tw8290031047822666643 : Unit := ()
def PySem.W.Fast.tw7507883625211602777 : Unit := ()
def PySem.W.Fast.tw3869006940934975288 : Unit := ()
def PySem.W.Fast.tw11492471004438162447 : Unit := ()
def PySem.W.Fast.tw11793840258774091217 : Unit := ()
def PySem.W.Fast.tw10853563332081991485 : Unit := ()
def PySem.W.Fast.tw17830070619493580456 : Unit := ()
def PySem.W.Fast.tw5785955121678681929 : Unit := ()
def PySem.W.Fast.tw14749795174124177230 : Unit := ()
def PySem.W.Fast.tw2478780624570917031 : Unit := ()
def PySem.W.Fast.tw10124013034682997162 : Unit := ()
def PySem.W.Fast.tw13816156885832371078 : Unit := ()
def PySem.W.Fast.tw7834944276787392925 : Unit := ()
def PySem.W.Fast.tw15512274058750333338 : Unit := ()
def PySem.W.Fast.tw3099352168754606734 : Unit := ()
def PySem.W.Fast.tw4766208115878205258 : Unit := ()
def PySem.W.Fast.tw14938033483976772859 : Unit := ()
def PySem.W.Fast.tw17500576836545258169 : Unit := ()
def PySem.W.Fast.tw16995511303422027500 : Unit := ()
def PySem.W.Fast.tw11603329562728546576 : Unit := ()
def PySem.W.Fast.tw10570733130182472027 : Unit := ()
def PySem.W.Fast.tw5261599591361442018 : Unit := ()
def PySem.W.Fast.tw1886741094331228912 : Unit := ()
def PySem.W.Fast.tw11704049436873002391 : Unit := ()
def PySem.W.Fast.tw5660761557520469800 : Unit := ()
def PySem.W.Fast.tw14330029947392639900 : Unit := ()
def PySem.W.Fast.tw17852946647824288970 : Unit := ()
def PySem.W.Fast.tw18209920867848325819 : Unit := ()
def PySem.W.Fast.tw6486120025743169940 : Unit := ()
def PySem.W.Fast.tw338541978559454112 : Unit := ()
def PySem.W.Fast.tw994864371235322653 : Unit := ()
def PySem.W.Fast.tw5194791484301827166 : Unit := ()
def PySem.W.Fast.tw17160930695239048206 : Unit := ()
def PySem.W.Fast.tw2064765431392758111 : Unit := ()
def PySem.W.Fast.tw17637133791419372038 : Unit := ()
def PySem.W.Fast.tw12507488700553355108 : Unit := ()
def PySem.W.Fast.tw16139616848067730373 : Unit := ()
def PySem.W.Fast.tw15511771107345231307 : Unit := ()
def PySem.W.Fast.tw8833513099386409676 : Unit := ()
def PySem.W.Fast.tw17617693391307579651 : Unit := ()
def PySem.W.Fast.tw11286106670273161046 : Unit := ()
def PySem.W.Fast.tw8601809612754392999 : Unit := ()
def PySem.W.Fast.tw3646502395580267015 : Unit := ()
def PySem.W.Fast.tw2867278704333464045 : Unit := ()
def PySem.W.Fast.tw9175689282511304807 : Unit := ()
def PySem.W.Fast.tw13382065015637165371 : Unit := ()
def PySem.W.Fast.tw12258694484109560969 : Unit := ()
def PySem.W.Fast.tw16991285774707808427 : Unit := ()
def PySem.W.Fast.tw7100622947791798784 : Unit := ()
def PySem.W.Fast.tw2498714121183862562 : Unit := ()
def PySem.W.Fast.tw12410301647231814142 : Unit := ()
def PySem.W.Fast.tw4430832636106477832 : Unit := ()
def PySem.W.Fast.tw1214358508815713615 : Unit := ()
def PySem.W.Fast.tw3888067577230771204 : Unit := ()
def PySem.W.Fast.tw8635407378368726281 : Unit := ()
def PySem.W.Fast.tw6110315434782423142 : Unit := ()
def PySem.W.Fast.tw1234492652897984017 : Unit := ()
def PySem.W.Fast.tw16456990208038282926 : Unit := ()
def PySem.W.Fast.tw5550396106582249530 : Unit := ()
def PySem.W.Fast.tw3308811456322959734 : Unit := ()
def PySem.W.Fast.tw6073311683660252631 : Unit := ()
def PySem.W.Fast.tw15397165406961206877 : Unit := ()
def PySem.W.Fast.tw7583209651305608267 : Unit := ()
def PySem.W.Fast.tw2035914142439508242 : Unit := ()
def PySem.W.Fast.tw10019725155978824800 : Unit := ()
def PySem.W.Fast.tw3842695399628302954 : Unit := ()
def PySem.W.Fast.tw13100742823664246104 : Unit := ()
def PySem.W.Fast.tw8567861649823276539 : Unit := ()
def PySem.W.Fast.tw15531262234888077325 : Unit := ()
def PySem.W.Fast.tw7859671953603656939 : Unit := ()
def PySem.W.Fast.tw6952698165808941963 : Unit := ()
def PySem.W.Fast.tw13968185523319663324 : Unit := ()
def PySem.W.Fast.tw17277623036292645335 : Unit := ()
def PySem.W.Fast.tw8657704508003280940 : Unit := ()
def PySem.W.Fast.tw6853336092105293877 : Unit := ()
def PySem.W.Fast.tw17535137768271477038 : Unit := ()
def PySem.W.Fast.tw15836733291673362326 : Unit := ()
def PySem.W.Fast.tw13487333013268279466 : Unit := ()
def PySem.W.Fast.tw16066551877862324120 : Unit := ()
def PySem.W.Fast.tw16841967242306853996 : Unit := ()
def PySem.W.Fast.tw11760204401166233556 : Unit := ()
def PySem.W.Fast.tw7041596650550678567 : Unit := ()
def PySem.W.Fast.tw16324408050768766938 : Unit := ()
def PySem.W.Fast.tw12306258561283260490 : Unit := ()
def PySem.W.Fast.tw1583724525122354936 : Unit := ()
def PySem.W.Fast.tw4312137893674915560 : Unit := ()
def PySem.W.Fast.tw13721831792839399176 : Unit := ()
def PySem.W.Fast.tw1906687409540092253 : Unit := ()
def PySem.W.Fast.tw5931656581134489139 : Unit := ()
def PySem.W.Fast.tw13425343946471843016 : Unit := ()
def PySem.W.Fast.tw5164700569053480372 : Unit := ()
def PySem.W.Fast.tw11145623658474959403 : Unit := ()
def PySem.W.Fast.tw4096950820388818463 : Unit := ()
def PySem.W.Fast.tw12916244545458920658 : Unit := ()
def PySem.W.Fast.tw7822508641279489407 : Unit := ()
def PySem.W.Fast.tw4540237754096634757 : Unit := ()
def PySem.W.Fast.tw3303015611396043604 : Unit := ()
def PySem.W.Fast.tw9976337976287766001 : Unit := ()
def PySem.W.Fast.tw6493453087294340794 : Unit := ()
def PySem.W.Fast.tw10195499078621202643 : Unit := ()
def PySem.W.Fast.tw5441041070575475640 : Unit := ()
def PySem.W.Fast.tw2493919401713310659 : Unit := ()
def PySem.W.Fast.tw14768473693581012635 : Unit := ()
def PySem.W.Fast.tw18337056338465107558 : Unit := ()
def PySem.W.Fast.tw12888426741336391820 : Unit := ()
def PySem.W.Fast.tw6438034354408256381 : Unit := ()
def PySem.W.Fast.tw1434923088894346326 : Unit := ()
def PySem.W.Fast.tw12671214387464805050 : Unit := ()
def PySem.W.Fast.tw4723714718916324173 : Unit := ()
def PySem.W.Fast.tw16998011526483556096 : Unit := ()
def PySem.W.Fast.tw15213702800843929372 : Unit := ()
def PySem.W.Fast.tw12848196882948531060 : Unit := ()
def PySem.W.Fast.tw2327033226048004467 : Unit := ()
def PySem.W.Fast.tw16927385495043717629 : Unit := ()
def PySem.W.Fast.tw8774049959531713022 : Unit := ()
def PySem.W.Fast.tw15081571753971822719 : Unit := ()
def PySem.W.Fast.tw13477491063452970865 : Unit := ()
def PySem.W.Fast.tw16517236924154257578 : Unit := ()
def PySem.W.Fast.tw6706346623117746777 : Unit := ()
def PySem.W.Fast.tw10974516994756366705 : Unit := ()
def PySem.W.Fast.tw2331237016103683281 : Unit := ()
def PySem.W.Fast.tw7207721721472247968 : Unit := ()
def PySem.W.Fast.tw9010059227535273156 : Unit := ()
def PySem.W.Fast.tw15580097338819041154 : Unit := ()
def PySem.W.Fast.tw1267344419835293637 : Unit := ()
def PySem.W.Fast.tw6723714504938718098 : Unit := ()
def PySem.W.Fast.tw14578880165502051248 : Unit := ()
def PySem.W.Fast.tw2465215978165808391 : Unit := ()
def PySem.W.Fast.tw15501192885837267771 : Unit := ()
def PySem.W.Fast.tw15621797600122670392 : Unit := ()
def PySem.W.Fast.tw10713080207614778583 : Unit := ()
def PySem.W.Fast.tw16246759979275381328 : Unit := ()
def PySem.W.Fast.tw379913447940878521 : Unit := ()
def PySem.W.Fast.tw997435381026224191 : Unit := ()
def PySem.W.Fast.tw3670472826628197290 : Unit := ()
def PySem.W.Fast.tw11638624681858170632 : Unit := ()
def PySem.W.Fast.tw3099645999798505277 : Unit := ()
def PySem.W.Fast.tw14148991865098828241 : Unit := ()
def PySem.W.Fast.tw14802744772536264400 : Unit := ()
def PySem.W.Fast.tw14034738316105203427 : Unit := ()
def PySem.W.Fast.tw14433655190525432889 : Unit := ()
def PySem.W.Fast.tw17079609414725326815 : Unit := ()
def PySem.W.Fast.tw14415703635157799311 : Unit := ()
def PySem.W.Fast.tw16296988667883575868 : Unit := ()
def PySem.W.Fast.tw1952314748152072285 : Unit := ()
def PySem.W.Fast.tw13489842286480750981 : Unit := ()
def PySem.W.Fast.tw6195488628577721908 : Unit := ()
def PySem.W.Fast.tw2419682213310126844 : Unit := ()
def PySem.W.Fast.tw7134836255444891161 : Unit := ()
def PySem.W.Fast.tw4268400997694075958 : Unit := ()
def PySem.W.Fast.tw16266981812093062620 : Unit := ()
def PySem.W.Fast.tw7718234187088106306 : Unit := ()
def PySem.W.Fast.tw545672859933289406 : Unit := ()
def PySem.W.Fast.tw14264549624890149823 : Unit := ()
def PySem.W.Fast.tw6425927352577477387 : Unit := ()
def PySem.W.Fast.tw13079004731352889286 : Unit := ()
def PySem.W.Fast.tw855465152057661262 : Unit := ()
def PySem.W.Fast.tw7317725511760188759 : Unit := ()
def PySem.W.Fast.tw3372571152079879129 : Unit := ()
def PySem.W.Fast.tw1367090159352102113 : Unit := ()
def PySem.W.Fast.tw3617218216921286388 : Unit := ()
def PySem.W.Fast.tw12798682093267096966 : Unit := ()
def PySem.W.Fast.tw14952519644713179003 : Unit := ()
def PySem.W.Fast.tw18008393142385506219 : Unit := ()
def PySem.W.Fast.tw2316066588177090240 : Unit := ()
def PySem.W.Fast.tw4673852813842603304 : Unit := ()
def PySem.W.Fast.tw2596775085240939010 : Unit := ()
def PySem.W.Fast.tw8424967719996303943 : Unit := ()
def PySem.W.Fast.tw7209657044256698893 : Unit := ()
def PySem.W.Fast.tw9747182029864656967 : Unit := ()
def PySem.W.Fast.tw17844620369949667849 : Unit := ()
def PySem.W.Fast.tw2505939422073478433 : Unit := ()
def PySem.W.Fast.tw9832892017510278001 : Unit := ()
def PySem.W.Fast.tw4133881670603587648 : Unit := ()
def PySem.W.Fast.tw1549073795660185613 : Unit := ()
def PySem.W.Fast.tw18439505533531935539 : Unit := ()
def PySem.W.Fast.tw2966017305288489807 : Unit := ()
def PySem.W.Fast.tw10497368843734910511 : Unit := ()
def PySem.W.Fast.tw1198754403488524431 : Unit := ()
def PySem.W.Fast.tw13364028502290839089 : Unit := ()
def PySem.W.Fast.tw16655282915647336892 : Unit := ()
def PySem.W.Fast.tw1286974267799510315 : Unit := ()
def PySem.W.Fast.tw7161917612095292821 : Unit := ()
def PySem.W.Fast.tw3574495367250053815 : Unit := ()
def PySem.W.Fast.tw17924737804121368969 : Unit := ()
def PySem.W.Fast.tw7621164039055023152 : Unit := ()
def PySem.W.Fast.tw16932306293832620984 : Unit := ()
def PySem.W.Fast.tw13280182081478757130 : Unit := ()
def PySem.W.Fast.tw17455754065539965493 : Unit := ()
def PySem.W.Fast.tw9631466925294439938 : Unit := ()
def PySem.W.Fast.tw16537520063477717118 : Unit := ()
def PySem.W.Fast.tw10847652566652636712 : Unit := ()
def PySem.W.Fast.tw8494757834401841120 : Unit := ()
def PySem.W.Fast.tw7936680052734788420 : Unit := ()
def PySem.W.Fast.tw18012715351978991359 : Unit := ()
def PySem.W.Fast.tw16238785218961005511 : Unit := ()
def PySem.W.Fast.tw1765737536707709184 : Unit := ()
def PySem.W.Fast.tw11201362366965745340 : Unit := ()
def PySem.W.Fast.tw5820713239399223327 : Unit := ()
def PySem.W.Fast.tw9408727210511827680 : Unit := ()
def PySem.W.Fast.tw9874814752272635461 : Unit := ()
def PySem.W.Fast.tw9452862422473813981 : Unit := ()
def PySem.W.Fast.tw15156544178391153773 : Unit := ()
def PySem.W.Fast.tw1598677613535224442 : Unit := ()
def PySem.W.Fast.tw7705262855290903534 : Unit := ()
def PySem.W.Fast.tw2806583332033416818 : Unit := ()
def PySem.W.Fast.tw12353895471138170254 : Unit := ()
def PySem.W.Fast.tw2120502624874820758 : Unit := ()
def PySem.W.Fast.tw7041216694936226896 : Unit := ()
def PySem.W.Fast.tw16678565900167656614 : Unit := ()
def PySem.W.Fast.tw7790032831810678514 : Unit := ()
def PySem.W.Fast.tw15994219526388318624 : Unit := ()
def PySem.W.Fast.tw2064951886566809992 : Unit := ()
def PySem.W.Fast.tw12791467574032755990 : Unit := ()
def PySem.W.Fast.tw14809206123900278068 : Unit := ()
def PySem.W.Fast.tw7448692988416442119 : Unit := ()
def PySem.W.Fast.tw17731297444685051570 : Unit := ()
def PySem.W.Fast.tw14775930999426323966 : Unit := ()
def PySem.W.Fast.tw3592824712857214865 : Unit := ()
def PySem.W.Fast.tw14046624423009164368 : Unit := ()
def PySem.W.Fast.tw8294723981763607717 : Unit := ()
def PySem.W.Fast.tw12020624420086609894 : Unit := ()
def PySem.W.Fast.tw14846917424950133374 : Unit := ()
def PySem.W.Fast.tw14733880506264439284 : Unit := ()
def PySem.W.Fast.tw14541672531457554433 : Unit := ()
def PySem.W.Fast.tw7182504393184346070 : Unit := ()
def PySem.W.Fast.tw2603986122162390755 : Unit := ()
def PySem.W.Fast.tw5266410682238664281 : Unit := ()
def PySem.W.Fast.tw3582054579950730413 : Unit := ()
def PySem.W.Fast.tw3635965038564434038 : Unit := ()
def PySem.W.Fast.tw10492529794386767338 : Unit := ()
def PySem.W.Fast.tw1647381225799761054 : Unit := ()
def PySem.W.Fast.tw15649619093390690530 : Unit := ()
def PySem.W.Fast.tw3114841216121804795 : Unit := ()
def PySem.W.Fast.tw5173096415613772319 : Unit := ()
def PySem.W.Fast.tw9528561305838060123 : Unit := ()
def PySem.W.Fast.tw16133787653758793669 : Unit := ()
def PySem.W.Fast.tw4666452181877680752 : Unit := ()
def PySem.W.Fast.tw9186023714885830347 : Unit := ()
def PySem.W.Fast.tw9153367557871889782 : Unit := ()
def PySem.W.Fast.tw16417623901310476476 : Unit := ()
def PySem.W.Fast.tw4760506562694955086 : Unit := ()
def PySem.W.Fast.tw12861082687972052944 : Unit := ()
def PySem.W.Fast.tw18173765823163691938 : Unit := ()
def PySem.W.Fast.tw8151544411885493370 : Unit := ()
def PySem.W.Fast.tw4333145618903028797 : Unit := ()
def PySem.W.Fast.tw10291580605368186401 : Unit := ()
def PySem.W.Fast.tw12421876907796569699 : Unit := ()
def PySem.W.Fast.tw764037137339392782 : Unit := ()
def PySem.W.Fast.tw14664761582939128860 : Unit := ()
def PySem.W.Fast.tw3098189081783464376 : Unit := ()
def PySem.W.Fast.tw6029699653127453486 : Unit := ()
def PySem.W.Fast.tw11123364599336774268 : Unit := ()
def PySem.W.Fast.tw11516881935890217385 : Unit := ()
def PySem.W.Fast.tw11750160778447674906 : Unit := ()
def PySem.W.Fast.tw3077591315988808619 : Unit := ()
def PySem.W.Fast.tw17094166138313233093 : Unit := ()
def PySem.W.Fast.tw11556620892216442112 : Unit := ()
def PySem.W.Fast.tw4969889675551018440 : Unit := ()
def PySem.W.Fast.tw916833350511515868 : Unit := ()
def PySem.W.Fast.tw10161874125534064711 : Unit := ()
def PySem.W.Fast.tw11706001557713581954 : Unit := ()
def PySem.W.Fast.tw18402385496245137817 : Unit := ()
def PySem.W.Fast.tw6435285038175733653 : Unit := ()
def PySem.W.Fast.tw219697711494430726 : Unit := ()
def PySem.W.Fast.tw11186449108538609929 : Unit := ()
def PySem.W.Fast.tw14908200318373397786 : Unit := ()
def PySem.W.Fast.tw1624146440305231371 : Unit := ()
def PySem.W.Fast.tw13863616118383433631 : Unit := ()
def PySem.W.Fast.tw6942057206488057101 : Unit := ()
def PySem.W.Fast.tw4232123605940870299 : Unit := ()
def PySem.W.Fast.tw15277554787039009151 : Unit := ()
def PySem.W.Fast.tw17701882075293007007 : Unit := ()
def PySem.W.Fast.tw11480795863623501976 : Unit := ()
def PySem.W.Fast.tw12018609615792816544 : Unit := ()
def PySem.W.Fast.tw5457673698141106152 : Unit := ()
def PySem.W.Fast.tw8354003137276582594 : Unit := ()
def PySem.W.Fast.tw3863950487652126148 : Unit := ()
def PySem.W.Fast.tw4073451449872982256 : Unit := ()
def PySem.W.Fast.tw4552330167417837167 : Unit := ()
def PySem.W.Fast.tw6211036373815192189 : Unit := ()
def PySem.W.Fast.tw5622468492684481597 : Unit := ()
def PySem.W.Fast.tw3877787892025363537 : Unit := ()
def PySem.W.Fast.tw17617088849599319507 : Unit := ()
def PySem.W.Fast.tw14800711141546273734 : Unit := ()
def PySem.W.Fast.tw16872159372423513031 : Unit := ()
def PySem.W.Fast.tw13193695130711121648 : Unit := ()
def PySem.W.Fast.tw4662776533510220166 : Unit := ()
def PySem.W.Fast.tw6903639012199734101 : Unit := ()
def PySem.W.Fast.tw10417087000262769888 : Unit := ()
def PySem.W.Fast.tw11031469202957049437 : Unit := ()
def PySem.W.Fast.tw17729986672315519792 : Unit := ()
def PySem.W.Fast.tw14424585467804469188 : Unit := ()
def PySem.W.Fast.tw9849645742519300678 : Unit := ()
def PySem.W.Fast.tw6774556367998289386 : Unit := ()
def PySem.W.Fast.tw5251570805155578518 : Unit := ()
def PySem.W.Fast.tw3069917817418992154 : Unit := ()
def PySem.W.Fast.tw17033344572644935360 : Unit := ()
def PySem.W.Fast.tw3597735211086520761 : Unit := ()
def PySem.W.Fast.tw3611192065742607778 : Unit := ()
def PySem.W.Fast.tw15526698657509499444 : Unit := ()
def PySem.W.Fast.tw11501398703058950153 : Unit := ()
def PySem.W.Fast.tw10674506636249678913 : Unit := ()
def PySem.W.Fast.tw16798630843416336326 : Unit := ()
def PySem.W.Fast.tw9471749923064630480 : Unit := ()
def PySem.W.Fast.tw17181775327818915423 : Unit := ()
def PySem.W.Fast.tw17349235571770020661 : Unit := ()
def PySem.W.Fast.tw4545505432941634839 : Unit := ()
def PySem.W.Fast.tw4384670514287405414 : Unit := ()
def PySem.W.Fast.tw2533263243874082316 : Unit := ()
def PySem.W.Fast.tw4533655150382949203 : Unit := ()
def PySem.W.Fast.tw4743111110779587399 : Unit := ()
def PySem.W.Fast.tw16603918959787534977 : Unit := ()
def PySem.W.Fast.tw9720316626332337461 : Unit := ()
def PySem.W.Fast.tw15120788422237629536 : Unit := ()
def PySem.W.Fast.tw692993437718633690 : Unit := ()
def PySem.W.Fast.tw15861119942391964697 : Unit := ()
def PySem.W.Fast.tw5076930705985582174 : Unit := ()
def PySem.W.Fast.tw5908429472119863407 : Unit := ()
def PySem.W.Fast.tw13274048326100500424 : Unit := ()
def PySem.W.Fast.tw12714504241622828035 : Unit := ()
def PySem.W.Fast.tw17842004704010227017 : Unit := ()
def PySem.W.Fast.tw17611469588161457317 : Unit := ()
def PySem.W.Fast.tw16433556984751314496 : Unit := ()
def PySem.W.Fast.tw677868094950077098 : Unit := ()
def PySem.W.Fast.tw14011175633755361507 : Unit := ()
def PySem.W.Fast.tw7951666680701135882 : Unit := ()
def PySem.W.Fast.tw6512770174439299915 : Unit := ()
def PySem.W.Fast.tw12859474999684323235 : Unit := ()
def PySem.W.Fast.tw4648459019427064993 : Unit := ()
def PySem.W.Fast.tw11891017106889901107 : Unit := ()
def PySem.W.Fast.tw6674811780712319152 : Unit := ()
def PySem.W.Fast.tw3004959393688121803 : Unit := ()
def PySem.W.Fast.tw441104769331118721 : Unit := ()
def PySem.W.Fast.tw4081096589849254026 : Unit := ()
def PySem.W.Fast.tw4663012829797454816 : Unit := ()
def PySem.W.Fast.tw8399984203010032814 : Unit := ()
def PySem.W.Fast.tw3060856506925015180 : Unit := ()
def PySem.W.Fast.tw2352599591755501427 : Unit := ()
def PySem.W.Fast.tw16430286834609415315 : Unit := ()
def PySem.W.Fast.tw6612219447817848352 : Unit := ()
def PySem.W.Fast.tw151835305800595475 : Unit := ()
def PySem.W.Fast.tw4395110828601235421 : Unit := ()
def PySem.W.Fast.tw12554566314552348182 : Unit := ()
def PySem.W.Fast.tw4773847846722583436 : Unit := ()
def PySem.W.Fast.tw2487574351017551806 : Unit := ()
def PySem.W.Fast.tw2933347770256893464 : Unit := ()
def PySem.W.Fast.tw1216699471338846828 : Unit := ()
def PySem.W.Fast.tw4557188247791988028 : Unit := ()
def PySem.W.Fast.tw13340119186265441385 : Unit := ()
def PySem.W.Fast.tw10707277669411431685 : Unit := ()
def PySem.W.Fast.tw14123286930780339810 : Unit := ()
def PySem.W.Fast.tw6807479663053184984 : Unit := ()
def PySem.W.Fast.tw10189367186065124684 : Unit := ()
def PySem.W.Fast.tw11344777592017598316 : Unit := ()
def PySem.W.Fast.tw17698813232727500107 : Unit := ()
def PySem.W.Fast.tw1381125246034829128 : Unit := ()
def PySem.W.Fast.tw12325005321530277406 : Unit := ()
def PySem.W.Fast.tw9664503315531001608 : Unit := ()
def PySem.W.Fast.tw4625837893014579754 : Unit := ()
def PySem.W.Fast.tw2307891619093485873 : Unit := ()
def PySem.W.Fast.tw4493776862603480267 : Unit := ()
def PySem.W.Fast.tw12701683793498987826 : Unit := ()
def PySem.W.Fast.tw11792460304590192106 : Unit := ()
def PySem.W.Fast.tw10181865281404749112 : Unit := ()
def PySem.W.Fast.tw16619632036524628216 : Unit := ()
def PySem.W.Fast.tw3747145038131062354 : Unit := ()
def PySem.W.Fast.tw3726511081360884039 : Unit := ()
def PySem.W.Fast.tw9976720730864560675 : Unit := ()
def PySem.W.Fast.tw5735051501406075303 : Unit := ()
def PySem.W.Fast.tw7534599301246810154 : Unit := ()
def PySem.W.Fast.tw10273516319728427440 : Unit := ()
def PySem.W.Fast.tw3736697072961419724 : Unit := ()
def PySem.W.Fast.tw4027533836673995682 : Unit := ()
def PySem.W.Fast.tw10712492280522990932 : Unit := ()
def PySem.W.Fast.tw16768626625974076011 : Unit := ()
def PySem.W.Fast.tw2149257337676668301 : Unit := ()
def PySem.W.Fast.tw7703806579569300406 : Unit := ()
def PySem.W.Fast.tw3825116958191747877 : Unit := ()
def PySem.W.Fast.tw13358984791161897027 : Unit := ()
def PySem.W.Fast.tw10861329171959167320 : Unit := ()
def PySem.W.Fast.tw11784693801152325314 : Unit := ()
def PySem.W.Fast.tw10704339695660971362 : Unit := ()
def PySem.W.Fast.tw7848679782818309191 : Unit := ()
def PySem.W.Fast.tw3781490329103054394 : Unit := ()
def PySem.W.Fast.tw15196721199376630909 : Unit := ()
def PySem.W.Fast.tw8893268748172832686 : Unit := ()
def PySem.W.Fast.tw2953855691917569803 : Unit := ()
def PySem.W.Fast.tw10218467223220511273 : Unit := ()
def PySem.W.Fast.tw5859021811727303321 : Unit := ()
def PySem.W.Fast.tw8713825647404901170 : Unit := ()
def PySem.W.Fast.tw863204878516804072 : Unit := ()
def PySem.W.Fast.tw13053171297461847590 : Unit := ()
def PySem.W.Fast.tw10422323609362924552 : Unit := ()
def PySem.W.Fast.tw6764142915071649764 : Unit := ()
def PySem.W.Fast.tw7755745883560837306 : Unit := ()
def PySem.W.Fast.tw3118578756373115504 : Unit := ()
def PySem.W.Fast.tw11053912495965320956 : Unit := ()
def PySem.W.Fast.tw3022802576206350088 : Unit := ()
def PySem.W.Fast.tw482261350062035897 : Unit := ()
def PySem.W.Fast.tw5501171824498494501 : Unit := ()
def PySem.W.Fast.tw3591977547971411553 : Unit := ()
def PySem.W.Fast.tw7203799802142186481 : Unit := ()
def PySem.W.Fast.tw7805397976236648216 : Unit := ()
def PySem.W.Fast.tw16141688488800384685 : Unit := ()
def PySem.W.Fast.tw7573581661800678401 : Unit := ()
def PySem.W.Fast.tw2539516763476741633 : Unit := ()
def PySem.W.Fast.tw5416232722801338526 : Unit := ()
def PySem.W.Fast.tw15154381281208429568 : Unit := ()
def PySem.W.Fast.tw17021310470939370793 : Unit := ()
def PySem.W.Fast.tw6870478405065707801 : Unit := ()
def PySem.W.Fast.tw13211131288524198395 : Unit := ()
def PySem.W.Fast.tw7456247386893281829 : Unit := ()
def PySem.W.Fast.tw14732695801095986186 : Unit := ()
def PySem.W.Fast.tw11038918908029550610 : Unit := ()
def PySem.W.Fast.tw4317043035583568913 : Unit := ()
def PySem.W.Fast.tw8589996212690775702 : Unit := ()
def PySem.W.Fast.tw3390153604837451256 : Unit := ()
def PySem.W.Fast.tw17757172784238750508 : Unit := ()
def PySem.W.Fast.tw4082073562612680564 : Unit := ()
def PySem.W.Fast.tw2489666149398892602 : Unit := ()
def PySem.W.Fast.tw1826546440180633658 : Unit := ()
def PySem.W.Fast.tw14210324597737630405 : Unit := ()
def PySem.W.Fast.tw16119156328598014639 : Unit := ()
def PySem.W.Fast.tw14891700665229503443 : Unit := ()
def PySem.W.Fast.tw12024818824240946022 : Unit := ()
def PySem.W.Fast.tw6979883328158810527 : Unit := ()
def PySem.W.Fast.tw11767179849576151026 : Unit := ()
def PySem.W.Fast.tw2147176301575218469 : Unit := ()
def PySem.W.Fast.tw15012886687828188162 : Unit := ()
def PySem.W.Fast.tw160319400216602974 : Unit := ()
def PySem.W.Fast.tw5282306011248629553 : Unit := ()
def PySem.W.Fast.tw13316196045556508911 : Unit := ()
def PySem.W.Fast.tw11198404048758907312 : Unit := ()
def PySem.W.Fast.tw10782341488666950932 : Unit := ()
def PySem.W.Fast.tw1013277587937263776 : Unit := ()
def PySem.W.Fast.tw13629642661080527618 : Unit := ()
def PySem.W.Fast.tw5587917055324249906 : Unit := ()
def PySem.W.Fast.tw16124817798888908474 : Unit := ()
def PySem.W.Fast.tw11646880091989432490 : Unit := ()
def PySem.W.Fast.tw17938877010811662655 : Unit := ()
def PySem.W.Fast.tw2463213491535679170 : Unit := ()
def PySem.W.Fast.tw15756734522400816181 : Unit := ()
def PySem.W.Fast.tw614629212130613632 : Unit := ()
def PySem.W.Fast.tw1227387973862135497 : Unit := ()
def PySem.W.Fast.tw17707640089311420607 : Unit := ()
def PySem.W.Fast.tw3965279275143886820 : Unit := ()
def PySem.W.Fast.tw11433415487892102087 : Unit := ()
def PySem.W.Fast.tw9718017479331445246 : Unit := ()
def PySem.W.Fast.tw13829095955603645040 : Unit := ()
def PySem.W.Fast.tw2554633556115650115 : Unit := ()
def PySem.W.Fast.tw1525910820494297777 : Unit := ()
def PySem.W.Fast.tw3517208815681503493 : Unit := ()
def PySem.W.Fast.tw5653920087827181238 : Unit := ()
def PySem.W.Fast.tw9954949936566978353 : Unit := ()
def PySem.W.Fast.tw14905510088193387604 : Unit := ()
def PySem.W.Fast.tw5223352050533794985 : Unit := ()
def PySem.W.Fast.tw1627981412109612326 : Unit := ()
def PySem.W.Fast.tw10300317364279868719 : Unit := ()
def PySem.W.Fast.tw2110324483491517539 : Unit := ()
def PySem.W.Fast.tw17373953735515211179 : Unit := ()
def PySem.W.Fast.tw6094431948935552924 : Unit := ()
def PySem.W.Fast.tw12127077811526163285 : Unit := ()
def PySem.W.Fast.tw17731809252716091935 : Unit := ()
def PySem.W.Fast.tw12310586477360363100 : Unit := ()
def PySem.W.Fast.tw5475314659113849708 : Unit := ()
def PySem.W.Fast.tw13808445703153663464 : Unit := ()
def PySem.W.Fast.tw4492272016319558900 : Unit := ()
def PySem.W.Fast.tw13499435267299477198 : Unit := ()
def PySem.W.Fast.tw6580984310418893753 : Unit := ()
def PySem.W.Fast.tw2163560723988822813 : Unit := ()
def PySem.W.Fast.tw8240135584474378524 : Unit := ()
def PySem.W.Fast.tw17541121589876910729 : Unit := ()
def PySem.W.Fast.tw8695431284207452280 : Unit := ()
def PySem.W.Fast.tw6762160109339351151 : Unit := ()
def PySem.W.Fast.tw9132742079192753688 : Unit := ()
def PySem.W.Fast.tw2319835773184418808 : Unit := ()
def PySem.W.Fast.tw10794903660370883118 : Unit := ()
def PySem.W.Fast.tw11669904532219671245 : Unit := ()
def PySem.W.Fast.tw14194900411381270325 : Unit := ()
def PySem.W.Fast.tw10886113698961826440 : Unit := ()
def PySem.W.Fast.tw16383242705674492982 : Unit := ()
def PySem.W.Fast.tw3059297460556398171 : Unit := ()
def PySem.W.Fast.tw6147518652809854381 : Unit := ()
def PySem.W.Fast.tw11152876711131187455 : Unit := ()
def PySem.W.Fast.tw16597956041859580544 : Unit := ()
def PySem.W.Fast.tw6199537499550926649 : Unit := ()
def PySem.W.Fast.tw6262943470773644197 : Unit := ()
def PySem.W.Fast.tw1379816923287622278 : Unit := ()
def PySem.W.Fast.tw1780800071894538287 : Unit := ()
def PySem.W.Fast.tw1347028830324117262 : Unit := ()
def PySem.W.Fast.tw16822205803370948406 : Unit := ()
def PySem.W.Fast.tw3222333208828207926 : Unit := ()
def PySem.W.Fast.tw1967139727398797019 : Unit := ()
def PySem.W.Fast.tw10846138864287196627 : Unit := ()
def PySem.W.Fast.tw11605778191245757975 : Unit := ()
def PySem.W.Fast.tw11265332733673908440 : Unit := ()
def PySem.W.Fast.tw5781488648846270087 : Unit := ()
def PySem.W.Fast.tw5225868199242193323 : Unit := ()
def PySem.W.Fast.tw4304073666263382701 : Unit := ()
def PySem.W.Fast.tw8090539873697518572 : Unit := ()
def PySem.W.Fast.tw680353477331648794 : Unit := ()
def PySem.W.Fast.tw3882651030431033747 : Unit := ()
def PySem.W.Fast.tw18345293147640804228 : Unit := ()
def PySem.W.Fast.tw4421471265803642998 : Unit := ()
def PySem.W.Fast.tw11955622164102641666 : Unit := ()
def PySem.W.Fast.tw14421184054110486552 : Unit := ()
def PySem.W.Fast.tw9322898154358273081 : Unit := ()
def PySem.W.Fast.tw328390313702906177 : Unit := ()
def PySem.W.Fast.tw1366361714125795113 : Unit := ()
def PySem.W.Fast.tw7382910918586284975 : Unit := ()
def PySem.W.Fast.tw2208460231906252931 : Unit := ()
def PySem.W.Fast.tw5643505223604608275 : Unit := ()
def PySem.W.Fast.tw15297399810844391618 : Unit := ()
def PySem.W.Fast.tw237659706690625422 : Unit := ()
def PySem.W.Fast.tw8241679472080841248 : Unit := ()
def PySem.W.Fast.tw16695655247765890004 : Unit := ()
def PySem.W.Fast.tw16588091973865884037 : Unit := ()
def PySem.W.Fast.tw10782522992726475512 : Unit := ()
def PySem.W.Fast.tw5596197405488350158 : Unit := ()
def PySem.W.Fast.tw5908718961285682918 : Unit := ()
def PySem.W.Fast.tw4886296314665800196 : Unit := ()
def PySem.W.Fast.tw9136015753368300064 : Unit := ()
def PySem.W.Fast.tw11340898306063322192 : Unit := ()
def PySem.W.Fast.tw12710084527917030525 : Unit := ()
def PySem.W.Fast.tw9846593961871947476 : Unit := ()
def PySem.W.Fast.tw3357501423457000491 : Unit := ()
def PySem.W.Fast.tw7591407024358863449 : Unit := ()
def PySem.W.Fast.tw13067098074540106196 : Unit := ()
def PySem.W.Fast.tw12078899970291797062 : Unit := ()
def PySem.W.Fast.tw5797763660459152399 : Unit := ()
def PySem.W.Fast.tw15451763703565715245 : Unit := ()
def PySem.W.Fast.tw9078738036146812134 : Unit := ()
def PySem.W.Fast.tw1144849540560301884 : Unit := ()
def PySem.W.Fast.tw6997717483604894223 : Unit := ()
def PySem.W.Fast.tw7845045773759061695 : Unit := ()
def PySem.W.Fast.tw3097293283218129209 : Unit := ()
def PySem.W.Fast.tw8745155568283099285 : Unit := ()
def PySem.W.Fast.tw18193140719946087355 : Unit := ()
def PySem.W.Fast.tw3868817920408037149 : Unit := ()
def PySem.W.Fast.tw607980740713900749 : Unit := ()
def PySem.W.Fast.tw5988678334266956989 : Unit := ()
def PySem.W.Fast.tw7217537628636458353 : Unit := ()
def PySem.W.Fast.tw17094193813636866197 : Unit := ()
def PySem.W.Fast.tw11268431024862126355 : Unit := ()
def PySem.W.Fast.tw12824986198856312258 : Unit := ()
def PySem.W.Fast.tw16398268529626097621 : Unit := ()
def PySem.W.Fast.tw1488066645241379363 : Unit := ()
def PySem.W.Fast.tw975722168116219972 : Unit := ()
def PySem.W.Fast.tw14849082078867971727 : Unit := ()
def PySem.W.Fast.tw6415103063279523703 : Unit := ()
def PySem.W.Fast.tw12561245787599808775 : Unit := ()
def PySem.W.Fast.tw5214583107370482227 : Unit := ()
def PySem.W.Fast.tw17829276673207156564 : Unit := ()
def PySem.W.Fast.tw5340965705542770310 : Unit := ()
def PySem.W.Fast.tw2322428338191731028 : Unit := ()
def PySem.W.Fast.tw16721302839448515168 : Unit := ()
def PySem.W.Fast.tw10509054097159031454 : Unit := ()
def PySem.W.Fast.tw4302351677847798487 : Unit := ()
def PySem.W.Fast.tw7895814013536251641 : Unit := ()
def PySem.W.Fast.tw14729127581197630413 : Unit := ()
def PySem.W.Fast.tw16402784843985614766 : Unit := ()
def PySem.W.Fast.tw15333265630916758561 : Unit := ()
def PySem.W.Fast.tw9265918388728664335 : Unit := ()
def PySem.W.Fast.tw10088518516061786800 : Unit := ()
def PySem.W.Fast.tw12295380431437376584 : Unit := ()
def PySem.W.Fast.tw2209366463010800624 : Unit := ()
def PySem.W.Fast.tw3526741896399741759 : Unit := ()
def PySem.W.Fast.tw5861492542210197977 : Unit := ()
def PySem.W.Fast.tw17148933723665786502 : Unit := ()
def PySem.W.Fast.tw4317103171065640817 : Unit := ()
def PySem.W.Fast.tw8611295785005585159 : Unit := ()
def PySem.W.Fast.tw12545108617967657910 : Unit := ()
def PySem.W.Fast.tw13980840964732713577 : Unit := ()
def PySem.W.Fast.tw7375403338276793183 : Unit := ()
def PySem.W.Fast.tw16857263801881297036 : Unit := ()
def PySem.W.Fast.tw10307737892587632796 : Unit := ()
def PySem.W.Fast.tw16634973616029260018 : Unit := ()
def PySem.W.Fast.tw1401430861235849989 : Unit := ()
def PySem.W.Fast.tw1821705368801451975 : Unit := ()
def PySem.W.Fast.tw16163670450083927692 : Unit := ()
def PySem.W.Fast.tw11641159793073422855 : Unit := ()
def PySem.W.Fast.tw11822515748952953466 : Unit := ()
def PySem.W.Fast.tw17517753211183959880 : Unit := ()
def PySem.W.Fast.tw14040313873720975332 : Unit := ()
def PySem.W.Fast.tw7982235831930810172 : Unit := ()
def PySem.W.Fast.tw9296528954165741350 : Unit := ()
def PySem.W.Fast.tw4028349189922654619 : Unit := ()
def PySem.W.Fast.tw238662388469495757 : Unit := ()
def PySem.W.Fast.tw9852812915693028741 : Unit := ()
def PySem.W.Fast.tw8022194880929134973 : Unit := ()
def PySem.W.Fast.tw11055001322617602170 : Unit := ()
def PySem.W.Fast.tw10724548312552338495 : Unit := ()
def PySem.W.Fast.tw15065254310528438710 : Unit := ()
def PySem.W.Fast.tw8152237809737846415 : Unit := ()
def PySem.W.Fast.tw5782021525884828460 : Unit := ()
def PySem.W.Fast.tw4975704814401296181 : Unit := ()
def PySem.W.Fast.tw3804600028523225676 : Unit := ()
def PySem.W.Fast.tw1199927982981870294 : Unit := ()
def PySem.W.Fast.tw10098779037840321462 : Unit := ()
def PySem.W.Fast.tw9977143750338864875 : Unit := ()
def PySem.W.Fast.tw12148057362937180573 : Unit := ()
def PySem.W.Fast.tw5789310694841123353 : Unit := ()
def PySem.W.Fast.tw16173883315646716575 : Unit := ()
def PySem.W.Fast.tw13624182832562968698 : Unit := ()
def PySem.W.Fast.tw10334042742145241495 : Unit := ()
def PySem.W.Fast.tw18161411602748156133 : Unit := ()
def PySem.W.Fast.tw11032122794646939806 : Unit := ()
def PySem.W.Fast.tw12051004539146523720 : Unit := ()
def PySem.W.Fast.tw9422513862695733001 : Unit := ()
def PySem.W.Fast.tw4729897426916747163 : Unit := ()
def PySem.W.Fast.tw6972777289838360859 : Unit := ()
def PySem.W.Fast.tw9509164042976524286 : Unit := ()
def PySem.W.Fast.tw8716227171041145173 : Unit := ()
def PySem.W.Fast.tw2555464876524504435 : Unit := ()
def PySem.W.Fast.tw12275667873857368267 : Unit := ()
def PySem.W.Fast.tw10269158582573994885 : Unit := ()
def PySem.W.Fast.tw11740969470695554398 : Unit := ()
def PySem.W.Fast.tw14456738537305148941 : Unit := ()
def PySem.W.Fast.tw4378121163649770575 : Unit := ()
def PySem.W.Fast.tw12764828861481347133 : Unit := ()
def PySem.W.Fast.tw17363195802343553168 : Unit := ()
def PySem.W.Fast.tw3346561391138108327 : Unit := ()
def PySem.W.Fast.tw1297093097061036513 : Unit := ()
def PySem.W.Fast.tw13492901486851904485 : Unit := ()
def PySem.W.Fast.tw14982961711021785245 : Unit := ()
def PySem.W.Fast.tw7209848445916983681 : Unit := ()
def PySem.W.Fast.tw17536868748504760412 : Unit := ()
def PySem.W.Fast.tw7013888374024020992 : Unit := ()
def PySem.W.Fast.tw9674021006051361650 : Unit := ()
def PySem.W.Fast.tw12561956646727910460 : Unit := ()
def PySem.W.Fast.tw7899375981524530258 : Unit := ()
def PySem.W.Fast.tw1481635696040335098 : Unit := ()
def PySem.W.Fast.tw10567559900598150960 : Unit := ()
def PySem.W.Fast.tw9219836658737909364 : Unit := ()
def PySem.W.Fast.tw1273946771507870339 : Unit := ()
def PySem.W.Fast.tw5919554723258802426 : Unit := ()
def PySem.W.Fast.tw10944503441564993872 : Unit := ()
def PySem.W.Fast.tw11656978506060953877 : Unit := ()
def PySem.W.Fast.tw3601182420233070049 : Unit := ()
def PySem.W.Fast.tw16813711812514610879 : Unit := ()
def PySem.W.Fast.tw12715916302380909981 : Unit := ()
def PySem.W.Fast.tw2202697817983314020 : Unit := ()
def PySem.W.Fast.tw2916558587875995193 : Unit := ()
def PySem.W.Fast.tw10290454448271206044 : Unit := ()
def PySem.W.Fast.tw5819818764650494660 : Unit := ()
def PySem.W.Fast.tw925226507904140329 : Unit := ()
def PySem.W.Fast.tw7971238877230822531 : Unit := ()
def PySem.W.Fast.tw16471542576037673202 : Unit := ()
def PySem.W.Fast.tw5851576547416103429 : Unit := ()
def PySem.W.Fast.tw16364255553967038024 : Unit := ()
def PySem.W.Fast.tw3486539124181081804 : Unit := ()
def PySem.W.Fast.tw15067811236576719042 : Unit := ()
def PySem.W.Fast.tw11558946804911277067 : Unit := ()
def PySem.W.Fast.tw6746722065626053578 : Unit := ()
def PySem.W.Fast.tw9652744307263809360 : Unit := ()
def PySem.W.Fast.tw16560615326285886722 : Unit := ()
def PySem.W.Fast.tw6703457280041011495 : Unit := ()
def PySem.W.Fast.tw12533704992244665462 : Unit := ()
def PySem.W.Fast.tw17771049487350685737 : Unit := ()
def PySem.W.Fast.tw2116410001722365445 : Unit := ()
def PySem.W.Fast.tw4892979972599846545 : Unit := ()
def PySem.W.Fast.tw3154406729808313101 : Unit := ()
def PySem.W.Fast.tw13044076731399502706 : Unit := ()
def PySem.W.Fast.tw6336662960957977579 : Unit := ()
def PySem.W.Fast.tw5601694109033336391 : Unit := ()
def PySem.W.Fast.tw7495263574833947493 : Unit := ()
def PySem.W.Fast.tw14793277392870390751 : Unit := ()
def PySem.W.Fast.tw11515673493126887484 : Unit := ()
def PySem.W.Fast.tw501443485022745727 : Unit := ()
def PySem.W.Fast.tw567122824807822057 : Unit := ()
def PySem.W.Fast.tw15059328443346653856 : Unit := ()
def PySem.W.Fast.tw3675152393893040410 : Unit := ()
def PySem.W.Fast.tw10248195389575749642 : Unit := ()
def PySem.W.Fast.tw2471463344490301586 : Unit := ()
def PySem.W.Fast.tw14865178278945483829 : Unit := ()
def PySem.W.Fast.tw714259588638602794 : Unit := ()
def PySem.W.Fast.tw15489422460055586339 : Unit := ()
def PySem.W.Fast.tw14211708537130333533 : Unit := ()
def PySem.W.Fast.tw17537241971035610743 : Unit := ()
def PySem.W.Fast.tw499156447993923587 : Unit := ()
def PySem.W.Fast.tw11665642103431361019 : Unit := ()
def PySem.W.Fast.tw14366492376657315987 : Unit := ()
def PySem.W.Fast.tw8522107281470531370 : Unit := ()
def PySem.W.Fast.tw15455821613888582805 : Unit := ()
def PySem.W.Fast.tw15357696013431814244 : Unit := ()
def PySem.W.Fast.tw5076337608605842303 : Unit := ()
def PySem.W.Fast.tw13406223946625950764 : Unit := ()
def PySem.W.Fast.tw1043685526524777779 : Unit := ()
def PySem.W.Fast.tw15852142875575922000 : Unit := ()
def PySem.W.Fast.tw16148516857071481808 : Unit := ()
def PySem.W.Fast.tw11053009021478117158 : Unit := ()
def PySem.W.Fast.tw7239548931089083836 : Unit := ()
def PySem.W.Fast.tw6214962593462945469 : Unit := ()
def PySem.W.Fast.tw5953738221533304093 : Unit := ()
def PySem.W.Fast.tw17271194412895069511 : Unit := ()
def PySem.W.Fast.tw10308521108800595397 : Unit := ()
def PySem.W.Fast.tw11788986663920252403 : Unit := ()
def PySem.W.Fast.tw12754392338960519383 : Unit := ()
def PySem.W.Fast.tw12799164115243964663 : Unit := ()
def PySem.W.Fast.tw17692486455622444391 : Unit := ()
def PySem.W.Fast.tw12620802172268867413 : Unit := ()
def PySem.W.Fast.tw9964251484411022556 : Unit := ()
def PySem.W.Fast.tw2885540449917311653 : Unit := ()
def PySem.W.Fast.tw13101754681623100867 : Unit := ()
def PySem.W.Fast.tw5092371811146265122 : Unit := ()
def PySem.W.Fast.tw1347374076205064330 : Unit := ()
def PySem.W.Fast.tw7597817366126269971 : Unit := ()
def PySem.W.Fast.tw17958256250776992683 : Unit := ()
def PySem.W.Fast.tw4538087577667500304 : Unit := ()
def PySem.W.Fast.tw8147474605236550983 : Unit := ()
def PySem.W.Fast.tw15200401110414107824 : Unit := ()
def PySem.W.Fast.tw1563745995135833509 : Unit := ()
def PySem.W.Fast.tw13964525912162060863 : Unit := ()
def PySem.W.Fast.tw7684192998887891539 : Unit := ()
def PySem.W.Fast.tw12788644206915116435 : Unit := ()
def PySem.W.Fast.tw9117416355747881180 : Unit := ()
def PySem.W.Fast.tw5691798009445158381 : Unit := ()
def PySem.W.Fast.tw13582393667515098480 : Unit := ()
def PySem.W.Fast.tw15240413217589649547 : Unit := ()
def PySem.W.Fast.tw16454711424641692946 : Unit := ()
def PySem.W.Fast.tw2130676346294069053 : Unit := ()
def PySem.W.Fast.tw12531136761944939488 : Unit := ()
def PySem.W.Fast.tw1596609119132178020 : Unit := ()
def PySem.W.Fast.tw6856609669338369805 : Unit := ()
def PySem.W.Fast.tw3663540448245194872 : Unit := ()
def PySem.W.Fast.tw1407334537546380649 : Unit := ()
def PySem.W.Fast.tw14722393933880788332 : Unit := ()
def PySem.W.Fast.tw6396706086844364731 : Unit := ()
def PySem.W.Fast.tw3803285178526865144 : Unit := ()
def PySem.W.Fast.tw16531316779072281975 : Unit := ()
def PySem.W.Fast.tw16829344647238604618 : Unit := ()
def PySem.W.Fast.tw8966049170822489436 : Unit := ()
def PySem.W.Fast.tw1216736611579482957 : Unit := ()
def PySem.W.Fast.tw12765485597518973253 : Unit := ()
def PySem.W.Fast.tw4238712778217663139 : Unit := ()
def PySem.W.Fast.tw16988143229653544822 : Unit := ()
def PySem.W.Fast.tw5727740742607141687 : Unit := ()
def PySem.W.Fast.tw13118007207962848513 : Unit := ()
def PySem.W.Fast.tw17487200490223161000 : Unit := ()
def PySem.W.Fast.tw6829165553988751164 : Unit := ()
def PySem.W.Fast.tw18103499342021834294 : Unit := ()
def PySem.W.Fast.tw11495431700098408691 : Unit := ()
def PySem.W.Fast.tw13791685453212310795 : Unit := ()
def PySem.W.Fast.tw5066339483042465864 : Unit := ()
def PySem.W.Fast.tw12048025473366044959 : Unit := ()
def PySem.W.Fast.tw13095965843068543284 : Unit := ()
def PySem.W.Fast.tw15895954305152314955 : Unit := ()
def PySem.W.Fast.tw12354976170853684260 : Unit := ()
def PySem.W.Fast.tw5414630487535330074 : Unit := ()
def PySem.W.Fast.tw14869487839535589045 : Unit := ()
def PySem.W.Fast.tw13152543665026967081 : Unit := ()
def PySem.W.Fast.tw9432061586888761804 : Unit := ()
def PySem.W.Fast.tw2524135188033071061 : Unit := ()
def PySem.W.Fast.tw9783581370787561014 : Unit := ()
def PySem.W.Fast.tw9587427758059282996 : Unit := ()
def PySem.W.Fast.tw12344581966069986902 : Unit := ()
def PySem.W.Fast.tw7731851933667229202 : Unit := ()
def PySem.W.Fast.tw9561498139093927212 : Unit := ()
def PySem.W.Fast.tw17485728248788692054 : Unit := ()
def PySem.W.Fast.tw6558199372041265804 : Unit := ()
def PySem.W.Fast.tw4667774790387371646 : Unit := ()
def PySem.W.Fast.tw11882342444923214727 : Unit := ()
def PySem.W.Fast.tw6241127458363297852 : Unit := ()
def PySem.W.Fast.tw1091765139151953575 : Unit := ()
def PySem.W.Fast.tw2948094312175618643 : Unit := ()
def PySem.W.Fast.tw13104193163975732882 : Unit := ()
def PySem.W.Fast.tw1284234451949575588 : Unit := ()
def PySem.W.Fast.tw11585434871350197994 : Unit := ()
def PySem.W.Fast.tw6119498095345965721 : Unit := ()
def PySem.W.Fast.tw10039688944918706177 : Unit := ()
def PySem.W.Fast.tw6444938733757063151 : Unit := ()
def PySem.W.Fast.tw10803454722269512016 : Unit := ()
def PySem.W.Fast.tw16487243157308122750 : Unit := ()
def PySem.W.Fast.tw3064829109032734175 : Unit := ()
def PySem.W.Fast.tw1499196360137399902 : Unit := ()
def PySem.W.Fast.tw1250030797151875432 : Unit := ()
def PySem.W.Fast.tw8166272423848689282 : Unit := ()
def PySem.W.Fast.tw14911073083844428596 : Unit := ()
def PySem.W.Fast.tw17444507497075087644 : Unit := ()
def PySem.W.Fast.tw15089860274253583369 : Unit := ()
def PySem.W.Fast.tw17859632761913127821 : Unit := ()
def PySem.W.Fast.tw684524408041459138 : Unit := ()
def PySem.W.Fast.tw9956360586001381941 : Unit := ()
def PySem.W.Fast.tw7581580980709432275 : Unit := ()
def PySem.W.Fast.tw5153431500701053721 : Unit := ()
def PySem.W.Fast.tw18244259551168388687 : Unit := ()
def PySem.W.Fast.tw1846731238543211157 : Unit := ()
def PySem.W.Fast.tw7711345253095711055 : Unit := ()
def PySem.W.Fast.tw17068468066631911152 : Unit := ()
def PySem.W.Fast.tw13928355757939589108 : Unit := ()
def PySem.W.Fast.tw16913264253110215402 : Unit := ()
def PySem.W.Fast.tw6347656663452877871 : Unit := ()
def PySem.W.Fast.tw15662998184579402320 : Unit := ()
def PySem.W.Fast.tw4109639825706965506 : Unit := ()
def PySem.W.Fast.tw9169140755093278444 : Unit := ()
def PySem.W.Fast.tw4441410421995796744 : Unit := ()
def PySem.W.Fast.tw13815796457786032779 : Unit := ()
def PySem.W.Fast.tw10395481539885492413 : Unit := ()
def PySem.W.Fast.tw15244724156694409021 : Unit := ()
def PySem.W.Fast.tw16124330113766478313 : Unit := ()
def PySem.W.Fast.tw13436716980825217915 : Unit := ()
def PySem.W.Fast.tw13487731254647495485 : Unit := ()
def PySem.W.Fast.tw2843210153569794154 : Unit := ()
def PySem.W.Fast.tw8252558457777793148 : Unit := ()
def PySem.W.Fast.tw9946687857513816343 : Unit := ()
def PySem.W.Fast.tw14643562858236262204 : Unit := ()
def PySem.W.Fast.tw3601660572977284298 : Unit := ()
def PySem.W.Fast.tw14223885260771935699 : Unit := ()
def PySem.W.Fast.tw16717277497768103335 : Unit := ()
def PySem.W.Fast.tw7859818679085157873 : Unit := ()
def PySem.W.Fast.tw1451417939542104760 : Unit := ()
def PySem.W.Fast.tw12776291074765861449 : Unit := ()
def PySem.W.Fast.tw7670338494540486752 : Unit := ()
def PySem.W.Fast.tw17524727616678697343 : Unit := ()
def PySem.W.Fast.tw13077716639745311139 : Unit := ()
def PySem.W.Fast.tw8057425306985953753 : Unit := ()
def PySem.W.Fast.tw11876605342133812636 : Unit := ()
def PySem.W.Fast.tw15373198562042056102 : Unit := ()
def PySem.W.Fast.tw16009324780511871515 : Unit := ()
def PySem.W.Fast.tw14413987677514802905 : Unit := ()
def PySem.W.Fast.tw11566622966614470074 : Unit := ()
def PySem.W.Fast.tw9651607373517654498 : Unit := ()
def PySem.W.Fast.tw15967005833096634554 : Unit := ()
def PySem.W.Fast.tw2354936709730935159 : Unit := ()
def PySem.W.Fast.tw17561351859409093438 : Unit := ()
def PySem.W.Fast.tw2421556190289689390 : Unit := ()
def PySem.W.Fast.tw5310171869465224838 : Unit := ()
def PySem.W.Fast.tw3539242842385936264 : Unit := ()
def PySem.W.Fast.tw11417736501851215280 : Unit := ()
def PySem.W.Fast.tw9829818667848071273 : Unit := ()
def PySem.W.Fast.tw8053830656376294580 : Unit := ()
def PySem.W.Fast.tw2241589687767787129 : Unit := ()
def PySem.W.Fast.tw15291581589392022278 : Unit := ()
def PySem.W.Fast.tw9135555473767954679 : Unit := ()
def PySem.W.Fast.tw6048502408987205153 : Unit := ()
def PySem.W.Fast.tw40132801275144695 : Unit := ()
def PySem.W.Fast.tw6553406835264865032 : Unit := ()
def PySem.W.Fast.tw5703599184528386680 : Unit := ()
def PySem.W.Fast.tw4638731095990352267 : Unit := ()
def PySem.W.Fast.tw1998539155924472334 : Unit := ()
def PySem.W.Fast.tw9495973815214970131 : Unit := ()
def PySem.W.Fast.tw15531373801971280321 : Unit := ()
def PySem.W.Fast.tw3964004807010593804 : Unit := ()
def PySem.W.Fast.tw5619573490165729564 : Unit := ()
def PySem.W.Fast.tw3920329155522180572 : Unit := ()
def PySem.W.Fast.tw15429609526531731096 : Unit := ()
def PySem.W.Fast.tw2838002798280472394 : Unit := ()
def PySem.W.Fast.tw8965778038203641576 : Unit := ()
def PySem.W.Fast.tw9361382198599676551 : Unit := ()
def PySem.W.Fast.tw7404513817568997769 : Unit := ()
def PySem.W.Fast.tw13509463266406363537 : Unit := ()
def PySem.W.Fast.tw14508327297427167401 : Unit := ()
def PySem.W.Fast.tw5129868207055869160 : Unit := ()
def PySem.W.Fast.tw8313623511687794235 : Unit := ()
def PySem.W.Fast.tw16299645953776601394 : Unit := ()
def PySem.W.Fast.tw11277461902799821908 : Unit := ()
def PySem.W.Fast.tw10654499962939726575 : Unit := ()
def PySem.W.Fast.tw10248967455446131486 : Unit := ()
def PySem.W.Fast.tw2419121260750844620 : Unit := ()
def PySem.W.Fast.tw6662123860063484841 : Unit := ()
def PySem.W.Fast.tw16554354314357793622 : Unit := ()
def PySem.W.Fast.tw9954349181646017089 : Unit := ()
def PySem.W.Fast.tw7239141081893302274 : Unit := ()
def PySem.W.Fast.tw10637268016211793664 : Unit := ()
def PySem.W.Fast.tw6485139179800842447 : Unit := ()
def PySem.W.Fast.tw12871251391025612701 : Unit := ()
def PySem.W.Fast.tw17148475212735418729 : Unit := ()
def PySem.W.Fast.tw4853741524826087120 : Unit := ()
def PySem.W.Fast.tw17034722372084397670 : Unit := ()
def PySem.W.Fast.tw13066982029157172631 : Unit := ()
def PySem.W.Fast.tw12390290544876458955 : Unit := ()
def PySem.W.Fast.tw10958793891162224919 : Unit := ()
def PySem.W.Fast.tw15650753989101719404 : Unit := ()
def PySem.W.Fast.tw7038666698828528606 : Unit := ()
def PySem.W.Fast.tw5784124371530930697 : Unit := ()
def PySem.W.Fast.tw15708498045876374071 : Unit := ()
def PySem.W.Fast.tw1254781135248640119 : Unit := ()
def PySem.W.Fast.tw9767770543389442353 : Unit := ()
def PySem.W.Fast.tw15915558015490989740 : Unit := ()
def PySem.W.Fast.tw8590815300504362269 : Unit := ()
def PySem.W.Fast.tw18222777530164833706 : Unit := ()
def PySem.W.Fast.tw9902438903693286075 : Unit := ()
def PySem.W.Fast.tw18214571357042156218 : Unit := ()
def PySem.W.Fast.tw11687869063867913038 : Unit := ()
def PySem.W.Fast.tw11983152685150623421 : Unit := ()
def PySem.W.Fast.tw2269634230795720268 : Unit := ()
def PySem.W.Fast.tw16156255293603333612 : Unit := ()
def PySem.W.Fast.tw13001146707373878377 : Unit := ()
def PySem.W.Fast.tw10456987599641917688 : Unit := ()
def PySem.W.Fast.tw16517259030383220292 : Unit := ()
def PySem.W.Fast.tw3240850207223231320 : Unit := ()
def PySem.W.Fast.tw18324636759517545104 : Unit := ()
def PySem.W.Fast.tw1215616089773302461 : Unit := ()
def PySem.W.Fast.tw14837448079975215584 : Unit := ()
def PySem.W.Fast.tw6607125169553352008 : Unit := ()
def PySem.W.Fast.tw13406049764291887942 : Unit := ()
def PySem.W.Fast.tw819259136438839602 : Unit := ()
def PySem.W.Fast.tw6639519424860370118 : Unit := ()
def PySem.W.Fast.tw14933410397759346671 : Unit := ()
def PySem.W.Fast.tw11714902023023147531 : Unit := ()
def PySem.W.Fast.tw3982635808022104346 : Unit := ()
def PySem.W.Fast.tw3263596341454379437 : Unit := ()
def PySem.W.Fast.tw14597522230731326149 : Unit := ()
def PySem.W.Fast.tw15965872879173843964 : Unit := ()
def PySem.W.Fast.tw15357317559045515546 : Unit := ()
def PySem.W.Fast.tw2038566730716020836 : Unit := ()
def PySem.W.Fast.tw5417488149261633546 : Unit := ()
def PySem.W.Fast.tw10340775975967806899 : Unit := ()
def PySem.W.Fast.tw570042105411597062 : Unit := ()
def PySem.W.Fast.tw7846341526472799182 : Unit := ()
def PySem.W.Fast.tw4935477294329768845 : Unit := ()
def PySem.W.Fast.tw13210040859743794368 : Unit := ()
def PySem.W.Fast.tw1593939984941431297 : Unit := ()
def PySem.W.Fast.tw6906476360628702505 : Unit := ()
def PySem.W.Fast.tw4348107566197849778 : Unit := ()
def PySem.W.Fast.tw9959646957834520019 : Unit := ()
def PySem.W.Fast.tw3038423699878891151 : Unit := ()
def PySem.W.Fast.tw15123974473278595718 : Unit := ()
def PySem.W.Fast.tw12302719907194371194 : Unit := ()
def PySem.W.Fast.tw17247964182976301885 : Unit := ()
def PySem.W.Fast.tw12138706838672380680 : Unit := ()
def PySem.W.Fast.tw11073557970787190878 : Unit := ()
def PySem.W.Fast.tw2942309558683779582 : Unit := ()
def PySem.W.Fast.tw148315228948072008 : Unit := ()
def PySem.W.Fast.tw10594721674995919857 : Unit := ()
def PySem.W.Fast.tw10984793608165770853 : Unit := ()
def PySem.W.Fast.tw9064137549639414031 : Unit := ()
def PySem.W.Fast.tw15850053486272375191 : Unit := ()
def PySem.W.Fast.tw5251845707754123426 : Unit := ()
def PySem.W.Fast.tw14084038401858286951 : Unit := ()
def PySem.W.Fast.tw1901580053175496846 : Unit := ()
def PySem.W.Fast.tw1564365014978401236 : Unit := ()
def PySem.W.Fast.tw11830972532837872143 : Unit := ()
def PySem.W.Fast.tw4476859796772802415 : Unit := ()
def PySem.W.Fast.tw7536151843304771509 : Unit := ()
def PySem.W.Fast.tw4840510078734599853 : Unit := ()
def PySem.W.Fast.tw7881611295552343046 : Unit := ()
def PySem.W.Fast.tw16834842824374966026 : Unit := ()
def PySem.W.Fast.tw16625484641849148467 : Unit := ()
def PySem.W.Fast.tw7013629972140573315 : Unit := ()
def PySem.W.Fast.tw9433511706871760904 : Unit := ()
def PySem.W.Fast.tw8463389422626538183 : Unit := ()
def PySem.W.Fast.tw10959442015848808465 : Unit := ()
def PySem.W.Fast.tw8185916349330033719 : Unit := ()
def PySem.W.Fast.tw13589387961552197757 : Unit := ()
def PySem.W.Fast.tw1434990456750233602 : Unit := ()
def PySem.W.Fast.tw3076123300928385848 : Unit := ()
def PySem.W.Fast.tw4039027155699397280 : Unit := ()
def PySem.W.Fast.tw12023733576012265172 : Unit := ()
def PySem.W.Fast.tw6056668592904557025 : Unit := ()
def PySem.W.Fast.tw7604712039130511188 : Unit := ()
def PySem.W.Fast.tw14715901750351038455 : Unit := ()
def PySem.W.Fast.tw7321483632392547393 : Unit := ()
def PySem.W.Fast.tw1937627998714982399 : Unit := ()
def PySem.W.Fast.tw3885291454732765004 : Unit := ()
def PySem.W.Fast.tw12370320483847837534 : Unit := ()
def PySem.W.Fast.tw13699018693921890377 : Unit := ()
def PySem.W.Fast.tw6308714158320798118 : Unit := ()
def PySem.W.Fast.tw11450596887530124891 : Unit := ()
def PySem.W.Fast.tw11299227716129996074 : Unit := ()
def PySem.W.Fast.tw8990950228497268743 : Unit := ()
def PySem.W.Fast.tw7112365804744280410 : Unit := ()
def PySem.W.Fast.tw12934848944306971247 : Unit := ()
def PySem.W.Fast.tw14402757875187864599 : Unit := ()
def PySem.W.Fast.tw8223154354397517586 : Unit := ()
def PySem.W.Fast.tw4741740162970829479 : Unit := ()
def PySem.W.Fast.tw13541238802377277592 : Unit := ()
def PySem.W.Fast.tw15223897060679569074 : Unit := ()
def PySem.W.Fast.tw12454278708265104830 : Unit := ()
def PySem.W.Fast.tw10537468354861492610 : Unit := ()
def PySem.W.Fast.tw12566397029791787917 : Unit := ()
def PySem.W.Fast.tw13935491005482421897 : Unit := ()
def PySem.W.Fast.tw3116946095109730408 : Unit := ()
def PySem.W.Fast.tw5606494833047541377 : Unit := ()
def PySem.W.Fast.tw2544647473520408788 : Unit := ()
def PySem.W.Fast.tw7714267722168210566 : Unit := ()
def PySem.W.Fast.tw17177713524156702831 : Unit := ()
def PySem.W.Fast.tw1725054188243266542 : Unit := ()
def PySem.W.Fast.tw18174426649090389448 : Unit := ()
def PySem.W.Fast.tw12073595069047999599 : Unit := ()
def PySem.W.Fast.tw15064863882763711761 : Unit := ()
def PySem.W.Fast.tw10380925524936638334 : Unit := ()
def PySem.W.Fast.tw1849475218011921887 : Unit := ()
def PySem.W.Fast.tw4949944253859349319 : Unit := ()
def PySem.W.Fast.tw1215807245417133072 : Unit := ()
def PySem.W.Fast.tw13621479264225239945 : Unit := ()
def PySem.W.Fast.tw16266856928702033087 : Unit := ()
def PySem.W.Fast.tw15561819261561585773 : Unit := ()
def PySem.W.Fast.tw5065519394216367570 : Unit := ()
def PySem.W.Fast.tw17436733561236823334 : Unit := ()
def PySem.W.Fast.tw13587943463576418097 : Unit := ()
def PySem.W.Fast.tw17939551007795120499 : Unit := ()
def PySem.W.Fast.tw6286912548362751158 : Unit := ()
def PySem.W.Fast.tw8779578963389129816 : Unit := ()
def PySem.W.Fast.tw6095813264172388069 : Unit := ()
def PySem.W.Fast.tw16116551408952610812 : Unit := ()
def PySem.W.Fast.tw18437142440649266878 : Unit := ()
def PySem.W.Fast.tw9603891262483330734 : Unit := ()
def PySem.W.Fast.tw92940377208918008 : Unit := ()
def PySem.W.Fast.tw15309120933390819926 : Unit := ()
def PySem.W.Fast.tw9592627046870375014 : Unit := ()
def PySem.W.Fast.tw4579705848481019566 : Unit := ()
def PySem.W.Fast.tw10285512599021288726 : Unit := ()
def PySem.W.Fast.tw12273806927614302618 : Unit := ()
def PySem.W.Fast.tw16627733801905265422 : Unit := ()
def PySem.W.Fast.tw18284041462362582979 : Unit := ()
def PySem.W.Fast.tw6340656585109345956 : Unit := ()
def PySem.W.Fast.tw8076786909801238697 : Unit := ()
def PySem.W.Fast.tw5618081063837892224 : Unit := ()
def PySem.W.Fast.tw17443797522654799279 : Unit := ()
def PySem.W.Fast.tw9806976941018619045 : Unit := ()
def PySem.W.Fast.tw17265232216926253480 : Unit := ()
def PySem.W.Fast.tw17765293439959364948 : Unit := ()
def PySem.W.Fast.tw8540112792667471965 : Unit := ()
def PySem.W.Fast.tw9055765961988581899 : Unit := ()
def PySem.W.Fast.tw17187743403864401459 : Unit := ()
def PySem.W.Fast.tw703814347235720308 : Unit := ()
def PySem.W.Fast.tw9392696774169198892 : Unit := ()
def PySem.W.Fast.tw17278813786273466572 : Unit := ()
def PySem.W.Fast.tw10799365058233875048 : Unit := ()
def PySem.W.Fast.tw5317441724169067256 : Unit := ()
def PySem.W.Fast.tw10037445683298510799 : Unit := ()
def PySem.W.Fast.tw13944263355981603340 : Unit := ()
def PySem.W.Fast.tw3132903075165182654 : Unit := ()
def PySem.W.Fast.tw1111416657929827706 : Unit := ()
def PySem.W.Fast.tw12217866603163548002 : Unit := ()
def PySem.W.Fast.tw1250855711817695242 : Unit := ()
def PySem.W.Fast.tw5994115970581568700 : Unit := ()
def PySem.W.Fast.tw4153378544095940533 : Unit := ()
def PySem.W.Fast.tw4152206610344996410 : Unit := ()
def PySem.W.Fast.tw6151055835205707653 : Unit := ()
def PySem.W.Fast.tw9994115481005534172 : Unit := ()
def PySem.W.Fast.tw867522469096482326 : Unit := ()
def PySem.W.Fast.tw4724001146488522525 : Unit := ()
def PySem.W.Fast.tw1321457643135900038 : Unit := ()
def PySem.W.Fast.tw4210234771368062927 : Unit := ()
def PySem.W.Fast.tw18191475830383735125 : Unit := ()
def PySem.W.Fast.tw971487802836673777 : Unit := ()
def PySem.W.Fast.tw1826894280674348045 : Unit := ()
def PySem.W.Fast.tw8457727293246108010 : Unit := ()
def PySem.W.Fast.tw5257774600020703859 : Unit := ()
def PySem.W.Fast.tw16916604670662196982 : Unit := ()
def PySem.W.Fast.tw5341905799837061892 : Unit := ()
def PySem.W.Fast.tw7849906660192318039 : Unit := ()
def PySem.W.Fast.tw4348214269270515723 : Unit := ()
def PySem.W.Fast.tw14601835224607279881 : Unit := ()
def PySem.W.Fast.tw10490565503380440613 : Unit := ()
def PySem.W.Fast.tw13769832443635407765 : Unit := ()
def PySem.W.Fast.tw1654236432755924133 : Unit := ()
def PySem.W.Fast.tw10949844593887744420 : Unit := ()
def PySem.W.Fast.tw11397455487208669515 : Unit := ()
def PySem.W.Fast.tw11587560749489592276 : Unit := ()
def PySem.W.Fast.tw13843052492255557230 : Unit := ()
def PySem.W.Fast.tw3807804682624268569 : Unit := ()
def PySem.W.Fast.tw9684977938527602178 : Unit := ()
def PySem.W.Fast.tw3935363853404205709 : Unit := ()
def PySem.W.Fast.tw7166056746647721725 : Unit := ()
def PySem.W.Fast.tw15324689381640531234 : Unit := ()
def PySem.W.Fast.tw7546384209835505755 : Unit := ()
def PySem.W.Fast.tw4043292169106637111 : Unit := ()
def PySem.W.Fast.tw710806425820986046 : Unit := ()
def PySem.W.Fast.tw3341929333854494112 : Unit := ()
def PySem.W.Fast.tw12772233778028952433 : Unit := ()
def PySem.W.Fast.tw11615672798628247370 : Unit := ()
def PySem.W.Fast.tw16853082404931579380 : Unit := ()
def PySem.W.Fast.tw14273839374307974394 : Unit := ()
def PySem.W.Fast.tw3078689340203264943 : Unit := ()
def PySem.W.Fast.tw2028599898383709456 : Unit := ()
def PySem.W.Fast.tw17773418823458400103 : Unit := ()
def PySem.W.Fast.tw555691426733644134 : Unit := ()
def PySem.W.Fast.tw4347328712317442402 : Unit := ()
def PySem.W.Fast.tw14825280288790172309 : Unit := ()
def PySem.W.Fast.tw9417021406753516482 : Unit := ()
def PySem.W.Fast.tw15880779377800894467 : Unit := ()
def PySem.W.Fast.tw9308040811113731172 : Unit := ()
def PySem.W.Fast.tw17359261174152500498 : Unit := ()
def PySem.W.Fast.tw12149269746200680884 : Unit := ()
def PySem.W.Fast.tw6213615917510915083 : Unit := ()
def PySem.W.Fast.tw13668410125717787072 : Unit := ()
def PySem.W.Fast.tw2179674141948271376 : Unit := ()
def PySem.W.Fast.tw16789389164584076634 : Unit := ()
def PySem.W.Fast.tw12498294704769795195 : Unit := ()
def PySem.W.Fast.tw3399501014828423967 : Unit := ()
def PySem.W.Fast.tw8457879014675608298 : Unit := ()
def PySem.W.Fast.tw12291244329385960293 : Unit := ()
def PySem.W.Fast.tw6032901947515928566 : Unit := ()
def PySem.W.Fast.tw11151422420811213553 : Unit := ()
def PySem.W.Fast.tw3883096896626428501 : Unit := ()
def PySem.W.Fast.tw6409409662436377020 : Unit := ()
def PySem.W.Fast.tw2661851856144902584 : Unit := ()
def PySem.W.Fast.tw14468569720257850084 : Unit := ()
def PySem.W.Fast.tw4694058713253748277 : Unit := ()
def PySem.W.Fast.tw11975091271250291374 : Unit := ()
def PySem.W.Fast.tw17819701872797371556 : Unit := ()
def PySem.W.Fast.tw10420838917128601185 : Unit := ()
def PySem.W.Fast.tw6460113086790954345 : Unit := ()
def PySem.W.Fast.tw10435579013862295014 : Unit := ()
def PySem.W.Fast.tw3859693105633095912 : Unit := ()
def PySem.W.Fast.tw10937795942947937636 : Unit := ()
def PySem.W.Fast.tw15074371363554203081 : Unit := ()
def PySem.W.Fast.tw12067380680588587183 : Unit := ()
def PySem.W.Fast.tw12960662505137374655 : Unit := ()
def PySem.W.Fast.tw15342062092811924369 : Unit := ()
def PySem.W.Fast.tw9262906295658194200 : Unit := ()
def PySem.W.Fast.tw5531398713499583224 : Unit := ()
def PySem.W.Fast.tw1495188507416296891 : Unit := ()
def PySem.W.Fast.tw12298482949150977525 : Unit := ()
def PySem.W.Fast.tw4436082854503683332 : Unit := ()
def PySem.W.Fast.tw5301091603757039860 : Unit := ()
def PySem.W.Fast.tw8646760426432243214 : Unit := ()
def PySem.W.Fast.tw15457076710065569742 : Unit := ()
def PySem.W.Fast.tw15862990244999120959 : Unit := ()
def PySem.W.Fast.tw12424812631944740102 : Unit := ()
def PySem.W.Fast.tw10240310598206028495 : Unit := ()
def PySem.W.Fast.tw10380536258456172706 : Unit := ()
def PySem.W.Fast.tw6328892287270110539 : Unit := ()
def PySem.W.Fast.tw13502182930572349098 : Unit := ()
def PySem.W.Fast.tw13498081366011334988 : Unit := ()
def PySem.W.Fast.tw3239092385801975275 : Unit := ()
def PySem.W.Fast.tw11785100882537773738 : Unit := ()
def PySem.W.Fast.tw12217231458452139698 : Unit := ()
def PySem.W.Fast.tw15523632279542279453 : Unit := ()
def PySem.W.Fast.tw12082641369470162065 : Unit := ()
def PySem.W.Fast.tw6083993228038495905 : Unit := ()
def PySem.W.Fast.tw16787588239526490441 : Unit := ()
def PySem.W.Fast.tw15894264188443117300 : Unit := ()
def PySem.W.Fast.tw16619301980013621543 : Unit := ()
def PySem.W.Fast.tw12515454691077820257 : Unit := ()
def PySem.W.Fast.tw9579639537645492733 : Unit := ()
def PySem.W.Fast.tw15791328043690754517 : Unit := ()
def PySem.W.Fast.tw6070382002139688012 : Unit := ()
def PySem.W.Fast.tw9110551240817731047 : Unit := ()
def PySem.W.Fast.tw1498134290081149166 : Unit := ()
def PySem.W.Fast.tw6231306476795536363 : Unit := ()
def PySem.W.Fast.tw9853562087772570260 : Unit := ()
def PySem.W.Fast.tw17653109489909032960 : Unit := ()
def PySem.W.Fast.tw13107424263376509579 : Unit := ()
def PySem.W.Fast.tw4795932590200863225 : Unit := ()
def PySem.W.Fast.tw15921617590362733764 : Unit := ()
def PySem.W.Fast.tw9037156479822567546 : Unit := ()
def PySem.W.Fast.tw6982880016087733447 : Unit := ()
def PySem.W.Fast.tw3432280961391453487 : Unit := ()
def PySem.W.Fast.tw16213468743344221865 : Unit := ()
def PySem.W.Fast.tw15010958551495651731 : Unit := ()
def PySem.W.Fast.tw6918790211762535710 : Unit := ()
def PySem.W.Fast.tw12816913798564068945 : Unit := ()
def PySem.W.Fast.tw15047942569131655461 : Unit := ()
def PySem.W.Fast.tw14452945247979016210 : Unit := ()
def PySem.W.Fast.tw16070854016353138088 : Unit := ()
def PySem.W.Fast.tw10343312226062113149 : Unit := ()
def PySem.W.Fast.tw16849426854634817156 : Unit := ()
def PySem.W.Fast.tw17741862597130491327 : Unit := ()
def PySem.W.Fast.tw4164487341115769705 : Unit := ()
def PySem.W.Fast.tw11372085533737155236 : Unit := ()
def PySem.W.Fast.tw3959139826006248384 : Unit := ()
def PySem.W.Fast.tw12585192105186913352 : Unit := ()
def PySem.W.Fast.tw14277979265362492930 : Unit := ()
def PySem.W.Fast.tw11202140795275660681 : Unit := ()
def PySem.W.Fast.tw16042929650616877246 : Unit := ()
def PySem.W.Fast.tw2058320369002407847 : Unit := ()
def PySem.W.Fast.tw14023712502973411788 : Unit := ()
def PySem.W.Fast.tw10714437749482957107 : Unit := ()
def PySem.W.Fast.tw2255248489489210863 : Unit := ()
def PySem.W.Fast.tw6086179423738856556 : Unit := ()
def PySem.W.Fast.tw5953495715594177517 : Unit := ()
def PySem.W.Fast.tw18093408809410298144 : Unit := ()
def PySem.W.Fast.tw10161432529592476973 : Unit := ()
def PySem.W.Fast.tw15847188048408122056 : Unit := ()
def PySem.W.Fast.tw2916605060533705704 : Unit := ()
def PySem.W.Fast.tw16256183234679033676 : Unit := ()
def PySem.W.Fast.tw12577333306059985331 : Unit := ()
def PySem.W.Fast.tw15833962538538928798 : Unit := ()
def PySem.W.Fast.tw7022813108955292149 : Unit := ()
def PySem.W.Fast.tw12911170096397363825 : Unit := ()
def PySem.W.Fast.tw4930329597701655301 : Unit := ()
def PySem.W.Fast.tw14869381698002113813 : Unit := ()
def PySem.W.Fast.tw4488251608656695200 : Unit := ()
def PySem.W.Fast.tw1519997591926299782 : Unit := ()
def PySem.W.Fast.tw262016015981573054 : Unit := ()
def PySem.W.Fast.tw3280325701120724305 : Unit := ()
def PySem.W.Fast.tw16410406495108625414 : Unit := ()
def PySem.W.Fast.tw9549701548147006562 : Unit := ()
def PySem.W.Fast.tw12639434606878805284 : Unit := ()
def PySem.W.Fast.tw12589909881619858916 : Unit := ()
def PySem.W.Fast.tw15014909229828058404 : Unit := ()
def PySem.W.Fast.tw11965036420636865911 : Unit := ()
def PySem.W.Fast.tw17347305979735563704 : Unit := ()
def PySem.W.Fast.tw3670510989008186066 : Unit := ()
def PySem.W.Fast.tw17880350563890910877 : Unit := ()
def PySem.W.Fast.tw14024120226129045100 : Unit := ()
def PySem.W.Fast.tw15217833392911771778 : Unit := ()
def PySem.W.Fast.tw8389218441048756671 : Unit := ()
def PySem.W.Fast.tw264695011718428594 : Unit := ()
def PySem.W.Fast.tw4937799299965074858 : Unit := ()
def PySem.W.Fast.tw17169892944275446830 : Unit := ()
def PySem.W.Fast.tw5841868408127781073 : Unit := ()
def PySem.W.Fast.tw11202934821844537450 : Unit := ()
def PySem.W.Fast.tw8122935510807919756 : Unit := ()
def PySem.W.Fast.tw1970330543423858386 : Unit := ()
def PySem.W.Fast.tw5447591378296690062 : Unit := ()
def PySem.W.Fast.tw9118082622318928593 : Unit := ()
def PySem.W.Fast.tw17342337972983161025 : Unit := ()
def PySem.W.Fast.tw339820888305514772 : Unit := ()
def PySem.W.Fast.tw1054675087323220936 : Unit := ()
def PySem.W.Fast.tw8393244634051142483 : Unit := ()
def PySem.W.Fast.tw2225468501022189166 : Unit := ()
def PySem.W.Fast.tw13747812894257534338 : Unit := ()
def PySem.W.Fast.tw227378065659803830 : Unit := ()
def PySem.W.Fast.tw2151266267529019665 : Unit := ()
def PySem.W.Fast.tw17217959453239224115 : Unit := ()
def PySem.W.Fast.tw4962929436630974001 : Unit := ()
def PySem.W.Fast.tw3134035047409130649 : Unit := ()
def PySem.W.Fast.tw6992745130213718358 : Unit := ()
def PySem.W.Fast.tw16434124380598739497 : Unit := ()
def PySem.W.Fast.tw11810915370411513070 : Unit := ()
def PySem.W.Fast.tw13999857672132456965 : Unit := ()
def PySem.W.Fast.tw5526934556258372983 : Unit := ()
def PySem.W.Fast.tw17555282305996880437 : Unit := ()
def PySem.W.Fast.tw1058354482647533996 : Unit := ()
def PySem.W.Fast.tw1024069149482396155 : Unit := ()
def PySem.W.Fast.tw13277992891849663186 : Unit := ()
def PySem.W.Fast.tw4471072287608373904 : Unit := ()
def PySem.W.Fast.tw8833969837103286692 : Unit := ()
def PySem.W.Fast.tw6411529580026580832 : Unit := ()
def PySem.W.Fast.tw4697770853390930162 : Unit := ()
def PySem.W.Fast.tw15369530141171316860 : Unit := ()
def PySem.W.Fast.tw7494091364998053618 : Unit := ()
def PySem.W.Fast.tw2128855214100636782 : Unit := ()
def PySem.W.Fast.tw5019476622010137915 : Unit := ()
def PySem.W.Fast.tw2698481850026973950 : Unit := ()
def PySem.W.Fast.tw2716719375446074903 : Unit := ()
def PySem.W.Fast.tw16693314446941565981 : Unit := ()
def PySem.W.Fast.tw2940151440158375916 : Unit := ()
def PySem.W.Fast.tw247199948248374822 : Unit := ()
def PySem.W.Fast.tw9337709606206360875 : Unit := ()
def PySem.W.Fast.tw3335731259103928358 : Unit := ()
def PySem.W.Fast.tw3312796324101151407 : Unit := ()
def PySem.W.Fast.tw17583301718956852451 : Unit := ()
def PySem.W.Fast.tw4431927141551543017 : Unit := ()
def PySem.W.Fast.tw477256632986834779 : Unit := ()
def PySem.W.Fast.tw7895916760029694244 : Unit := ()
def PySem.W.Fast.tw1161228483591419838 : Unit := ()
def PySem.W.Fast.tw13283945192757018350 : Unit := ()
def PySem.W.Fast.tw11742533306243798604 : Unit := ()
def PySem.W.Fast.tw14276928589266890076 : Unit := ()
def PySem.W.Fast.tw204032586702295532 : Unit := ()
def PySem.W.Fast.tw17472090507326479292 : Unit := ()
def PySem.W.Fast.tw832042653021193321 : Unit := ()
def PySem.W.Fast.tw1228825250102630287 : Unit := ()
def PySem.W.Fast.tw7452064015420869003 : Unit := ()
def PySem.W.Fast.tw17930605351238647552 : Unit := ()
def PySem.W.Fast.tw4730771723930154029 : Unit := ()
def PySem.W.Fast.tw11393784472434023643 : Unit := ()
def PySem.W.Fast.tw14278887656809835748 : Unit := ()
def PySem.W.Fast.tw9017901150216925354 : Unit := ()
def PySem.W.Fast.tw8948301900909167552 : Unit := ()
def PySem.W.Fast.tw9094783862307260988 : Unit := ()
def PySem.W.Fast.tw10163982034149684854 : Unit := ()
def PySem.W.Fast.tw18073958921718008745 : Unit := ()
def PySem.W.Fast.tw6891789610745444776 : Unit := ()
def PySem.W.Fast.tw7906616691316515679 : Unit := ()
def PySem.W.Fast.tw1744348844650708099 : Unit := ()
def PySem.W.Fast.tw4026547670951731768 : Unit := ()
def PySem.W.Fast.tw12387476847737720008 : Unit := ()
def PySem.W.Fast.tw10878941882339233167 : Unit := ()
def PySem.W.Fast.tw7659448319574104265 : Unit := ()
def PySem.W.Fast.tw14577148011245922681 : Unit := ()
def PySem.W.Fast.tw9286099133899339853 : Unit := ()
def PySem.W.Fast.tw12437088303932103421 : Unit := ()
def PySem.W.Fast.tw8293310068119015968 : Unit := ()
def PySem.W.Fast.tw12312799691734342317 : Unit := ()
def PySem.W.Fast.tw14154528557074481888 : Unit := ()
def PySem.W.Fast.tw8889977064609051108 : Unit := ()
def PySem.W.Fast.tw7349454079267794991 : Unit := ()
def PySem.W.Fast.tw13223901689964181430 : Unit := ()
def PySem.W.Fast.tw14876130959064870078 : Unit := ()
def PySem.W.Fast.tw15468986089518726311 : Unit := ()
def PySem.W.Fast.tw1771592563815841030 : Unit := ()
def PySem.W.Fast.tw12976646542595961561 : Unit := ()
def PySem.W.Fast.tw10530025626579591056 : Unit := ()
def PySem.W.Fast.tw6295667703953194172 : Unit := ()
def PySem.W.Fast.tw14822203498159963554 : Unit := ()
def PySem.W.Fast.tw2231084787620511162 : Unit := ()
def PySem.W.Fast.tw12512884061377679177 : Unit := ()
def PySem.W.Fast.tw15359653557545823341 : Unit := ()
def PySem.W.Fast.tw5073871290358811799 : Unit := ()
def PySem.W.Fast.tw8991253104539689006 : Unit := ()
def PySem.W.Fast.tw17026711114370538210 : Unit := ()
def PySem.W.Fast.tw1367368439634894644 : Unit := ()
def PySem.W.Fast.tw5874585208788411478 : Unit := ()
def PySem.W.Fast.tw9264519889348509489 : Unit := ()
def PySem.W.Fast.tw16404944702469617061 : Unit := ()
def PySem.W.Fast.tw17929669812394600710 : Unit := ()
def PySem.W.Fast.tw1046332008714253568 : Unit := ()
def PySem.W.Fast.tw4941124974096162843 : Unit := ()
def PySem.W.Fast.tw17065970091516648401 : Unit := ()
def PySem.W.Fast.tw8554548881552275474 : Unit := ()
def PySem.W.Fast.tw10620068515560912479 : Unit := ()
def PySem.W.Fast.tw8300357138831303443 : Unit := ()
def PySem.W.Fast.tw9275254159261131418 : Unit := ()
def PySem.W.Fast.tw12351850899866958230 : Unit := ()
def PySem.W.Fast.tw4490393703505066530 : Unit := ()
def PySem.W.Fast.tw17001744794995212255 : Unit := ()
def PySem.W.Fast.tw4248467027666490136 : Unit := ()
def PySem.W.Fast.tw8420826910144733214 : Unit := ()
def PySem.W.Fast.tw9233343117143291433 : Unit := ()
def PySem.W.Fast.tw12914567121415957555 : Unit := ()
def PySem.W.Fast.tw14612541841838509086 : Unit := ()
def PySem.W.Fast.tw11752789739971948493 : Unit := ()
def PySem.W.Fast.tw11399818097609780492 : Unit := ()
def PySem.W.Fast.tw1717323625275998356 : Unit := ()
def PySem.W.Fast.tw12402528651079554168 : Unit := ()
def PySem.W.Fast.tw7431370211421841483 : Unit := ()
def PySem.W.Fast.tw13729966164630336105 : Unit := ()
def PySem.W.Fast.tw12309007101633047940 : Unit := ()
def PySem.W.Fast.tw2489254763102910880 : Unit := ()
def PySem.W.Fast.tw16962352887578892562 : Unit := ()
def PySem.W.Fast.tw509691665901763062 : Unit := ()
def PySem.W.Fast.tw7249688358222166222 : Unit := ()
def PySem.W.Fast.tw15270135842579079364 : Unit := ()
def PySem.W.Fast.tw14241451328949020764 : Unit := ()
def PySem.W.Fast.tw10821088216331504736 : Unit := ()
def PySem.W.Fast.tw17703954573583696794 : Unit := ()
def PySem.W.Fast.tw12106355859760907738 : Unit := ()
def PySem.W.Fast.tw10403333085662230753 : Unit := ()
def PySem.W.Fast.tw18275667149574986431 : Unit := ()
def PySem.W.Fast.tw7167320011719039461 : Unit := ()
def PySem.W.Fast.tw7430240887772312444 : Unit := ()
def PySem.W.Fast.tw744452678865279297 : Unit := ()
def PySem.W.Fast.tw323748047549386342 : Unit := ()
def PySem.W.Fast.tw17986359907458230620 : Unit := ()
def PySem.W.Fast.tw391632721195164326 : Unit := ()
def PySem.W.Fast.tw4439000896073915384 : Unit := ()
def PySem.W.Fast.tw17168101932416330104 : Unit := ()
def PySem.W.Fast.tw4820243388646527992 : Unit := ()
def PySem.W.Fast.tw8149387538474062517 : Unit := ()
def PySem.W.Fast.tw10941582944816686524 : Unit := ()
def PySem.W.Fast.tw16391417135078143633 : Unit := ()
def PySem.W.Fast.tw15612257000784184483 : Unit := ()
def PySem.W.Fast.tw10849106665382027089 : Unit := ()
def PySem.W.Fast.tw16688123897688794187 : Unit := ()
def PySem.W.Fast.tw2975282732612957115 : Unit := ()
def PySem.W.Fast.tw5958992631267442831 : Unit := ()
def PySem.W.Fast.tw217238863471966922 : Unit := ()
def PySem.W.Fast.tw13614867116178902367 : Unit := ()
def PySem.W.Fast.tw11789269466318946226 : Unit := ()
def PySem.W.Fast.tw3539414633750497115 : Unit := ()
def PySem.W.Fast.tw13396822463471974455 : Unit := ()
def PySem.W.Fast.tw2362935098853226614 : Unit := ()
def PySem.W.Fast.tw7666183133100820336 : Unit := ()
def PySem.W.Fast.tw10709202479893285699 : Unit := ()
def PySem.W.Fast.tw3263507043884989311 : Unit := ()
def PySem.W.Fast.tw13205339996552758329 : Unit := ()
def PySem.W.Fast.tw8242020366404269016 : Unit := ()
def PySem.W.Fast.tw17223767358331645833 : Unit := ()
def PySem.W.Fast.tw4718554989962087648 : Unit := ()
def PySem.W.Fast.tw3320338328487675877 : Unit := ()
def PySem.W.Fast.tw13599692859657321461 : Unit := ()
def PySem.W.Fast.tw10832669980651623847 : Unit := ()
def PySem.W.Fast.tw9225146696820259871 : Unit := ()
def PySem.W.Fast.tw10687657431062914306 : Unit := ()
def PySem.W.Fast.tw17598581581902385661 : Unit := ()
def PySem.W.Fast.tw5667771689226598376 : Unit := ()
def PySem.W.Fast.tw14905415421831805780 : Unit := ()
def PySem.W.Fast.tw11406937098229749596 : Unit := ()
def PySem.W.Fast.tw7334035404814021439 : Unit := ()
def PySem.W.Fast.tw15598238058490323862 : Unit := ()
def PySem.W.Fast.tw7905396902221462093 : Unit := ()
def PySem.W.Fast.tw6141090534992919994 : Unit := ()
def PySem.W.Fast.tw16094802170958619519 : Unit := ()
def PySem.W.Fast.tw14902677236703322132 : Unit := ()
def PySem.W.Fast.tw9615558076865144145 : Unit := ()
def PySem.W.Fast.tw1734280424241557378 : Unit := ()
def PySem.W.Fast.tw16102640258994600365 : Unit := ()
def PySem.W.Fast.tw2696236768104437298 : Unit := ()
def PySem.W.Fast.tw1240213910505562315 : Unit := ()
def PySem.W.Fast.tw8026691322113223214 : Unit := ()
def PySem.W.Fast.tw6970566450485387766 : Unit := ()
def PySem.W.Fast.tw15674625784576627172 : Unit := ()
def PySem.W.Fast.tw17307049522891133148 : Unit := ()
def PySem.W.Fast.tw16259098610933334168 : Unit := ()
def PySem.W.Fast.tw7830507291887019840 : Unit := ()
def PySem.W.Fast.tw14450844644503499123 : Unit := ()
def PySem.W.Fast.tw5057554136252589800 : Unit := ()
def PySem.W.Fast.tw13759379417263143737 : Unit := ()
def PySem.W.Fast.tw10621968253287386848 : Unit := ()
def PySem.W.Fast.tw4673963767581643587 : Unit := ()
def PySem.W.Fast.tw975585016343878781 : Unit := ()
def PySem.W.Fast.tw6911839126346031696 : Unit := ()
def PySem.W.Fast.tw8344219087233056573 : Unit := ()
def PySem.W.Fast.tw12088535519756705046 : Unit := ()
def PySem.W.Fast.tw5220643231296701555 : Unit := ()
def PySem.W.Fast.tw17974598273814858658 : Unit := ()
def PySem.W.Fast.tw778139620744604602 : Unit := ()
def PySem.W.Fast.tw182535007500637151 : Unit := ()
def PySem.W.Fast.tw974627204860942951 : Unit := ()
def PySem.W.Fast.tw12203249191710585628 : Unit := ()
def PySem.W.Fast.tw10076740235142818300 : Unit := ()
def PySem.W.Fast.tw6303997294069261807 : Unit := ()
def PySem.W.Fast.tw3837298900517121902 : Unit := ()
def PySem.W.Fast.tw8511957196701923208 : Unit := ()
def PySem.W.Fast.tw7417508434459939660 : Unit := ()
def PySem.W.Fast.tw49657053587683846 : Unit := ()
def PySem.W.Fast.tw9091203764849375078 : Unit := ()
def PySem.W.Fast.tw11284543925593737758 : Unit := ()
def PySem.W.Fast.tw1415174012288673402 : Unit := ()
def PySem.W.Fast.tw1477083841285166339 : Unit := ()
def PySem.W.Fast.tw7721353252521296700 : Unit := ()
def PySem.W.Fast.tw2571373515384897060 : Unit := ()
def PySem.W.Fast.tw16917945008932723981 : Unit := ()
def PySem.W.Fast.tw4316666551136191382 : Unit := ()
def PySem.W.Fast.tw15680062154718357261 : Unit := ()
def PySem.W.Fast.tw13098823223040533583 : Unit := ()
def PySem.W.Fast.tw4677972483085806966 : Unit := ()
def PySem.W.Fast.tw5559179314648218447 : Unit := ()
def PySem.W.Fast.tw16555870238070592993 : Unit := ()
def PySem.W.Fast.tw8879263210859982549 : Unit := ()
def PySem.W.Fast.tw11529626908563727274 : Unit := ()
def PySem.W.Fast.tw16017486464496136138 : Unit := ()
def PySem.W.Fast.tw9547155706349794684 : Unit := ()
def PySem.W.Fast.tw2537104714785372240 : Unit := ()
def PySem.W.Fast.tw4524687418566040053 : Unit := ()
def PySem.W.Fast.tw15550785658080866773 : Unit := ()
def PySem.W.Fast.tw12241362652969023915 : Unit := ()
def PySem.W.Fast.tw7021110120219923653 : Unit := ()
def PySem.W.Fast.tw16544004351494476533 : Unit := ()
def PySem.W.Fast.tw1606621388028274858 : Unit := ()
def PySem.W.Fast.tw8666919654594192492 : Unit := ()
def PySem.W.Fast.tw10298598598208718973 : Unit := ()
def PySem.W.Fast.tw12964297119186247283 : Unit := ()
def PySem.W.Fast.tw13763977892602475759 : Unit := ()
def PySem.W.Fast.tw17855917516358951632 : Unit := ()
def PySem.W.Fast.tw11783361094360894913 : Unit := ()
def PySem.W.Fast.tw12126821574693931027 : Unit := ()
def PySem.W.Fast.tw17392960163509821417 : Unit := ()
def PySem.W.Fast.tw5451681112987487018 : Unit := ()
def PySem.W.Fast.tw11496386927651736597 : Unit := ()
def PySem.W.Fast.tw12921938091944754744 : Unit := ()
def PySem.W.Fast.tw16832918063360794817 : Unit := ()
def PySem.W.Fast.tw9143101726536071519 : Unit := ()
def PySem.W.Fast.tw7991344708043149399 : Unit := ()
def PySem.W.Fast.tw2959564364880223328 : Unit := ()
def PySem.W.Fast.tw14271435830238347877 : Unit := ()
def PySem.W.Fast.tw12390877795259659114 : Unit := ()
def PySem.W.Fast.tw1009293541098738054 : Unit := ()
def PySem.W.Fast.tw10260721827346380805 : Unit := ()
def PySem.W.Fast.tw16508283543365870278 : Unit := ()
def PySem.W.Fast.tw483662898339902355 : Unit := ()
def PySem.W.Fast.tw10545041780976163314 : Unit := ()
def PySem.W.Fast.tw6811261731658982580 : Unit := ()
def PySem.W.Fast.tw7355993567582335477 : Unit := ()
def PySem.W.Fast.tw8082032010787002700 : Unit := ()
def PySem.W.Fast.tw3424998656959884219 : Unit := ()
def PySem.W.Fast.tw7688241280499275118 : Unit := ()
def PySem.W.Fast.tw15166884440748688476 : Unit := ()
def PySem.W.Fast.tw12651375452943207203 : Unit := ()
def PySem.W.Fast.tw1841318142196507891 : Unit := ()
def PySem.W.Fast.tw18221922551534076380 : Unit := ()
def PySem.W.Fast.tw2499431735349073242 : Unit := ()
def PySem.W.Fast.tw3174111358996605796 : Unit := ()
def PySem.W.Fast.tw17888460742359230695 : Unit := ()
def PySem.W.Fast.tw4413709821095533615 : Unit := ()
def PySem.W.Fast.tw12010143045783494976 : Unit := ()
def PySem.W.Fast.tw2719776437893234114 : Unit := ()
def PySem.W.Fast.tw8745826702420036808 : Unit := ()
def PySem.W.Fast.tw12509064466496988678 : Unit := ()
def PySem.W.Fast.tw13416369395527397058 : Unit := ()
def PySem.W.Fast.tw731876123480914160 : Unit := ()
def PySem.W.Fast.tw8961238213623766129 : Unit := ()
def PySem.W.Fast.tw13347512970311716340 : Unit := ()
def PySem.W.Fast.tw2066590457490497799 : Unit := ()
def PySem.W.Fast.tw6664753527902046830 : Unit := ()
def PySem.W.Fast.tw13041538141317503536 : Unit := ()
def PySem.W.Fast.tw9883460849934594630 : Unit := ()
def PySem.W.Fast.tw8830269685043988273 : Unit := ()
def PySem.W.Fast.tw10312509647368632141 : Unit := ()
def PySem.W.Fast.tw5602200876420033533 : Unit := ()
def PySem.W.Fast.tw13839268691067441114 : Unit := ()
def PySem.W.Fast.tw4888365061838286486 : Unit := ()
def PySem.W.Fast.tw13849702060574770167 : Unit := ()
def PySem.W.Fast.tw7536626481153454817 : Unit := ()
def PySem.W.Fast.tw4679204263330008036 : Unit := ()
def PySem.W.Fast.tw14943107003609670563 : Unit := ()
def PySem.W.Fast.tw12828601622349605111 : Unit := ()
def PySem.W.Fast.tw2865644374947358374 : Unit := ()
def PySem.W.Fast.tw1833558273259016074 : Unit := ()
def PySem.W.Fast.tw7839844983125726262 : Unit := ()
def PySem.W.Fast.tw3426257606679153412 : Unit := ()
def PySem.W.Fast.tw90894214042057441 : Unit := ()
def PySem.W.Fast.tw1404048430258194149 : Unit := ()
def PySem.W.Fast.tw2096351401504552016 : Unit := ()
def PySem.W.Fast.tw515065760141629795 : Unit := ()
def PySem.W.Fast.tw651882609376898313 : Unit := ()
def PySem.W.Fast.tw3566087187729647697 : Unit := ()
def PySem.W.Fast.tw8715294308365243177 : Unit := ()
def PySem.W.Fast.tw16438330797103395599 : Unit := ()
def PySem.W.Fast.tw10237973287686318824 : Unit := ()
def PySem.W.Fast.tw15392597092104037332 : Unit := ()
def PySem.W.Fast.tw17805404994094274141 : Unit := ()
def PySem.W.Fast.tw10366023972508224069 : Unit := ()
def PySem.W.Fast.tw18141328880419433718 : Unit := ()
def PySem.W.Fast.tw12157764048953491399 : Unit := ()
def PySem.W.Fast.tw15196842260068830531 : Unit := ()
def PySem.W.Fast.tw15964887379377769143 : Unit := ()
def PySem.W.Fast.tw11077802378751515860 : Unit := ()
def PySem.W.Fast.tw2699155563884814152 : Unit := ()
def PySem.W.Fast.tw10136423085079563961 : Unit := ()
def PySem.W.Fast.tw18090731228630989586 : Unit := ()
def PySem.W.Fast.tw8518439784766177723 : Unit := ()
def PySem.W.Fast.tw16018615290302918948 : Unit := ()
def PySem.W.Fast.tw14476880320949656563 : Unit := ()
def PySem.W.Fast.tw5987485618916575430 : Unit := ()
def PySem.W.Fast.tw4043652643370662006 : Unit := ()
def PySem.W.Fast.tw1081522008671287782 : Unit := ()
def PySem.W.Fast.tw17765865293921566161 : Unit := ()
def PySem.W.Fast.tw2038191659231290616 : Unit := ()
def PySem.W.Fast.tw13255176097281495683 : Unit := ()
def PySem.W.Fast.tw13717638129171542273 : Unit := ()
def PySem.W.Fast.tw2062540495805088376 : Unit := ()
def PySem.W.Fast.tw12813981574591306375 : Unit := ()
def PySem.W.Fast.tw1700031520880712698 : Unit := ()
def PySem.W.Fast.tw4106303166810249329 : Unit := ()
def PySem.W.Fast.tw2266943908952335419 : Unit := ()
def PySem.W.Fast.tw13725730759477052323 : Unit := ()
def PySem.W.Fast.tw10598029773237642283 : Unit := ()
def PySem.W.Fast.tw9916894939119313121 : Unit := ()
def PySem.W.Fast.tw4546100952893182408 : Unit := ()
def PySem.W.Fast.tw4326033808668778482 : Unit := ()
def PySem.W.Fast.tw3719252959783901684 : Unit := ()
def PySem.W.Fast.tw5854995391220108750 : Unit := ()
def PySem.W.Fast.tw1571864210786292131 : Unit := ()
def PySem.W.Fast.tw3202942925853989566 : Unit := ()
def PySem.W.Fast.tw11033780301596210467 : Unit := ()
def PySem.W.Fast.tw811641291845896935 : Unit := ()
def PySem.W.Fast.tw14851745656637012557 : Unit := ()
def PySem.W.Fast.tw1561692475790060074 : Unit := ()
def PySem.W.Fast.tw11535417027676793961 : Unit := ()
def PySem.W.Fast.tw18427623740352315566 : Unit := ()
def PySem.W.Fast.tw12205638304301375405 : Unit := ()
def PySem.W.Fast.tw4698273932307190458 : Unit := ()
def PySem.W.Fast.tw5688953563728233315 : Unit := ()
def PySem.W.Fast.tw12046481018419899824 : Unit := ()
def PySem.W.Fast.tw18152388248596564561 : Unit := ()
def PySem.W.Fast.tw15104509837055606517 : Unit := ()
def PySem.W.Fast.tw4649873546084267688 : Unit := ()
def PySem.W.Fast.tw16526413588502683651 : Unit := ()
def PySem.W.Fast.tw4834715516428128482 : Unit := ()
def PySem.W.Fast.tw7930003672304556657 : Unit := ()
def PySem.W.Fast.tw10679869488785713178 : Unit := ()
def PySem.W.Fast.tw14281024963892586394 : Unit := ()
def PySem.W.Fast.tw10449040526645982301 : Unit := ()
def PySem.W.Fast.tw18338597646990828953 : Unit := ()
def PySem.W.Fast.tw8466372968583801196 : Unit := ()
def PySem.W.Fast.tw14209185930848939174 : Unit := ()
def PySem.W.Fast.tw7179902155138468592 : Unit := ()
def PySem.W.Fast.tw17006320295948925497 : Unit := ()
def PySem.W.Fast.tw16881813178312067317 : Unit := ()
def PySem.W.Fast.tw15188558365413591581 : Unit := ()
def PySem.W.Fast.tw12173898089232539997 : Unit := ()
def PySem.W.Fast.tw12254934032505511304 : Unit := ()
def PySem.W.Fast.tw5933442503818841637 : Unit := ()
def PySem.W.Fast.tw1329206367862558427 : Unit := ()
def PySem.W.Fast.tw12737259108443486762 : Unit := ()
def PySem.W.Fast.tw8733352942548815043 : Unit := ()
def PySem.W.Fast.tw17788551561024550815 : Unit := ()
def PySem.W.Fast.tw13157689938168067077 : Unit := ()
def PySem.W.Fast.tw2042095425380419076 : Unit := ()
def PySem.W.Fast.tw10588673461296636460 : Unit := ()
def PySem.W.Fast.tw3026198404023719790 : Unit := ()
def PySem.W.Fast.tw14957893206092423050 : Unit := ()
def PySem.W.Fast.tw15460398497772237569 : Unit := ()
def PySem.W.Fast.tw17961814580985646381 : Unit := ()
def PySem.W.Fast.tw15411982530632988468 : Unit := ()
def PySem.W.Fast.tw8450549347148810136 : Unit := ()
def PySem.W.Fast.tw15946864940943369895 : Unit := ()
def PySem.W.Fast.tw18369324894663446966 : Unit := ()
def PySem.W.Fast.tw6387982892786812751 : Unit := ()
def PySem.W.Fast.tw684689622118552813 : Unit := ()
def PySem.W.Fast.tw12529936683151672632 : Unit := ()
def PySem.W.Fast.tw773351015595860249 : Unit := ()
def PySem.W.Fast.tw1333730393230457699 : Unit := ()
def PySem.W.Fast.tw13609646261438165020 : Unit := ()
def PySem.W.Fast.tw16013187095875249776 : Unit := ()
def PySem.W.Fast.tw10950132374237445199 : Unit := ()
def PySem.W.Fast.tw322616509741150370 : Unit := ()
def PySem.W.Fast.tw1855118124437089176 : Unit := ()
def PySem.W.Fast.tw11170887654173249589 : Unit := ()
def PySem.W.Fast.tw4636509390175071510 : Unit := ()
def PySem.W.Fast.tw14577551890768715240 : Unit := ()
def PySem.W.Fast.tw513105978344636013 : Unit := ()
def PySem.W.Fast.tw12301725468985782167 : Unit := ()
def PySem.W.Fast.tw6374284850455964377 : Unit := ()
def PySem.W.Fast.tw11609385382493308342 : Unit := ()
def PySem.W.Fast.tw15715876634353440565 : Unit := ()
def PySem.W.Fast.tw3498081424045208308 : Unit := ()
def PySem.W.Fast.tw5947632645029829669 : Unit := ()
def PySem.W.Fast.tw5515629079092588712 : Unit := ()
def PySem.W.Fast.tw16893591392850315711 : Unit := ()
def PySem.W.Fast.tw11746972309195003661 : Unit := ()
def PySem.W.Fast.tw8754512117611500068 : Unit := ()
def PySem.W.Fast.tw9974832225133418250 : Unit := ()
def PySem.W.Fast.tw5585270907538626624 : Unit := ()
def PySem.W.Fast.tw6238951884049109356 : Unit := ()
def PySem.W.Fast.tw3091938832341574298 : Unit := ()
def PySem.W.Fast.tw13601776248849177680 : Unit := ()
def PySem.W.Fast.tw3050610160810885851 : Unit := ()
def PySem.W.Fast.tw6663527492643928409 : Unit := ()
def PySem.W.Fast.tw12256963807801184858 : Unit := ()
def PySem.W.Fast.tw4586125958346081828 : Unit := ()
def PySem.W.Fast.tw12574592221469951328 : Unit := ()
def PySem.W.Fast.tw4985905973949821435 : Unit := ()
def PySem.W.Fast.tw17415167134700718992 : Unit := ()
def PySem.W.Fast.tw4638601708949660008 : Unit := ()
def PySem.W.Fast.tw9783865772673413951 : Unit := ()
def PySem.W.Fast.tw11238558423366455482 : Unit := ()
def PySem.W.Fast.tw17195625141463898846 : Unit := ()
def PySem.W.Fast.tw13071932596097561417 : Unit := ()
def PySem.W.Fast.tw935482963874525683 : Unit := ()
def PySem.W.Fast.tw11926405073906093343 : Unit := ()
def PySem.W.Fast.tw14262984499541243393 : Unit := ()
def PySem.W.Fast.tw12131605160682214864 : Unit := ()
def PySem.W.Fast.tw872135078280339641 : Unit := ()
def PySem.W.Fast.tw11976078740053250079 : Unit := ()
def PySem.W.Fast.tw12460817909467483341 : Unit := ()
def PySem.W.Fast.tw15151997002527556340 : Unit := ()
def PySem.W.Fast.tw11983244566373934467 : Unit := ()
def PySem.W.Fast.tw13692317099731658632 : Unit := ()
def PySem.W.Fast.tw366563891510094263 : Unit := ()
def PySem.W.Fast.tw13309125433976419007 : Unit := ()
def PySem.W.Fast.tw1322661537163486789 : Unit := ()
def PySem.W.Fast.tw15851937877302587993 : Unit := ()
def PySem.W.Fast.tw14436078802062473076 : Unit := ()
def PySem.W.Fast.tw12445948370981581487 : Unit := ()
def PySem.W.Fast.tw3193295906503916064 : Unit := ()
def PySem.W.Fast.tw1456104411315649511 : Unit := ()
def PySem.W.Fast.tw8124063089026454967 : Unit := ()
def PySem.W.Fast.tw5505989453000963814 : Unit := ()
def PySem.W.Fast.tw12827029282528100856 : Unit := ()
def PySem.W.Fast.tw1326268117888745974 : Unit := ()
def PySem.W.Fast.tw1176751707217072991 : Unit := ()
def PySem.W.Fast.tw10308835172237446704 : Unit := ()
def PySem.W.Fast.tw1386760194361123993 : Unit := ()
def PySem.W.Fast.tw16067046227805667034 : Unit := ()
def PySem.W.Fast.tw14619858393517149522 : Unit := ()
def PySem.W.Fast.tw13986889379356505945 : Unit := ()
def PySem.W.Fast.tw15880889162297609514 : Unit := ()
def PySem.W.Fast.tw8415267685825663422 : Unit := ()
def PySem.W.Fast.tw871523830185333680 : Unit := ()
def PySem.W.Fast.tw5423298478181659440 : Unit := ()
def PySem.W.Fast.tw17893714100622748168 : Unit := ()
def PySem.W.Fast.tw3626807105808929182 : Unit := ()
def PySem.W.Fast.tw12440896467672028148 : Unit := ()
def PySem.W.Fast.tw11614859954821257778 : Unit := ()
def PySem.W.Fast.tw16258477987850381492 : Unit := ()
def PySem.W.Fast.tw8472819806547045303 : Unit := ()
def PySem.W.Fast.tw15298697590667532030 : Unit := ()
def PySem.W.Fast.tw8369817381291828684 : Unit := ()
def PySem.W.Fast.tw1455368536238233757 : Unit := ()
def PySem.W.Fast.tw8208296634262228023 : Unit := ()
def PySem.W.Fast.tw13188218225868960979 : Unit := ()
def PySem.W.Fast.tw1962174531944175462 : Unit := ()
def PySem.W.Fast.tw1886979570908577983 : Unit := ()
def PySem.W.Fast.tw6537860693577435421 : Unit := ()
def PySem.W.Fast.tw6828688865911529784 : Unit := ()
def PySem.W.Fast.tw13958640141393629306 : Unit := ()
def PySem.W.Fast.tw5129885857236218243 : Unit := ()
def PySem.W.Fast.tw8552491400397135584 : Unit := ()
def PySem.W.Fast.tw12091568428575138355 : Unit := ()
def PySem.W.Fast.tw15954716981256698751 : Unit := ()
def PySem.W.Fast.tw6481538038716460096 : Unit := ()
def PySem.W.Fast.tw14153182465296167370 : Unit := ()
def PySem.W.Fast.tw417948043340195175 : Unit := ()
def PySem.W.Fast.tw17358763294217809619 : Unit := ()
def PySem.W.Fast.tw14624675814033853631 : Unit := ()
def PySem.W.Fast.tw6416569100282327316 : Unit := ()
def PySem.W.Fast.tw4403901095709321432 : Unit := ()
def PySem.W.Fast.tw3817985927416669521 : Unit := ()
def PySem.W.Fast.tw15149607747866572983 : Unit := ()
def PySem.W.Fast.tw16849383858592079293 : Unit := ()
def PySem.W.Fast.tw6973698277190824281 : Unit := ()
def PySem.W.Fast.tw15007927390853381056 : Unit := ()
def PySem.W.Fast.tw10801259917564784257 : Unit := ()
def PySem.W.Fast.tw13516245675731153337 : Unit := ()
def PySem.W.Fast.tw17447512235627388770 : Unit := ()
def PySem.W.Fast.tw2958507026388408155 : Unit := ()
def PySem.W.Fast.tw10573612884648824752 : Unit := ()
def PySem.W.Fast.tw10496711268010203876 : Unit := ()
def PySem.W.Fast.tw11966567279205453335 : Unit := ()
def PySem.W.Fast.tw16163646676175797916 : Unit := ()
def PySem.W.Fast.tw13356067269042110858 : Unit := ()
def PySem.W.Fast.tw14868704645303257681 : Unit := ()
def PySem.W.Fast.tw12356481110492583480 : Unit := ()
def PySem.W.Fast.tw3019395907384322879 : Unit := ()
def PySem.W.Fast.tw831858163046727029 : Unit := ()
def PySem.W.Fast.tw12187356982693037659 : Unit := ()
def PySem.W.Fast.tw16882869995675713421 : Unit := ()
def PySem.W.Fast.tw3397162342511860978 : Unit := ()
def PySem.W.Fast.tw7493490226925169658 : Unit := ()
def PySem.W.Fast.tw9985862262639036425 : Unit := ()
def PySem.W.Fast.tw17788723286208430614 : Unit := ()
def PySem.W.Fast.tw7413604685605843147 : Unit := ()
def PySem.W.Fast.tw1814624541777692686 : Unit := ()
def PySem.W.Fast.tw695701932439809644 : Unit := ()
def PySem.W.Fast.tw5398363800925824309 : Unit := ()
def PySem.W.Fast.tw18010121424951268219 : Unit := ()
def PySem.W.Fast.tw9745473328049011240 : Unit := ()
def PySem.W.Fast.tw3165593091432937813 : Unit := ()
def PySem.W.Fast.tw12454314305282273440 : Unit := ()
def PySem.W.Fast.tw15965913826495726529 : Unit := ()
def PySem.W.Fast.tw14892726433608189696 : Unit := ()
def PySem.W.Fast.tw448781056435436367 : Unit := ()
def PySem.W.Fast.tw17669988954895819682 : Unit := ()
def PySem.W.Fast.tw4760264449807172469 : Unit := ()
def PySem.W.Fast.tw7159925532760778416 : Unit := ()
def PySem.W.Fast.tw1111426464874636583 : Unit := ()
def PySem.W.Fast.tw9571817990488622014 : Unit := ()
def PySem.W.Fast.tw9491624359206496294 : Unit := ()
def PySem.W.Fast.tw17567210430548358664 : Unit := ()
def PySem.W.Fast.tw2089819662332881175 : Unit := ()
def PySem.W.Fast.tw14959652201202218247 : Unit := ()
def PySem.W.Fast.tw4956224991591701049 : Unit := ()
def PySem.W.Fast.tw5721589250832665444 : Unit := ()
def PySem.W.Fast.tw17227068227081590052 : Unit := ()
def PySem.W.Fast.tw16871116599801962891 : Unit := ()
def PySem.W.Fast.tw10103091086766583958 : Unit := ()
def PySem.W.Fast.tw14190874645498669774 : Unit := ()
def PySem.W.Fast.tw16304255168865348199 : Unit := ()
def PySem.W.Fast.tw973400024680613548 : Unit := ()
def PySem.W.Fast.tw17687764278325334577 : Unit := ()
def PySem.W.Fast.tw16997855027382524958 : Unit := ()
def PySem.W.Fast.tw3900074716820805927 : Unit := ()
def PySem.W.Fast.tw9178443877686019508 : Unit := ()
def PySem.W.Fast.tw1781307112244854927 : Unit := ()
def PySem.W.Fast.tw15431416219163450382 : Unit := ()
def PySem.W.Fast.tw5344517532665343404 : Unit := ()
def PySem.W.Fast.tw5433198714919917972 : Unit := ()
def PySem.W.Fast.tw1577214557611578151 : Unit := ()
def PySem.W.Fast.tw12155531298556084869 : Unit := ()
def PySem.W.Fast.tw13666372722296503754 : Unit := ()
def PySem.W.Fast.tw15784080703765208419 : Unit := ()
def PySem.W.Fast.tw6240169702058186552 : Unit := ()
def PySem.W.Fast.tw5763336521738038394 : Unit := ()
def PySem.W.Fast.tw15650043378834163262 : Unit := ()
def PySem.W.Fast.tw16025067557376716247 : Unit := ()
def PySem.W.Fast.tw5882198280420249630 : Unit := ()
def PySem.W.Fast.tw1026626634498385353 : Unit := ()
def PySem.W.Fast.tw8620548367748530032 : Unit := ()
def PySem.W.Fast.tw10729412985275238171 : Unit := ()
def PySem.W.Fast.tw10699223616799550747 : Unit := ()
def PySem.W.Fast.tw12977892288378013202 : Unit := ()
def PySem.W.Fast.tw15728309033461822465 : Unit := ()
def PySem.W.Fast.tw7025257008143699907 : Unit := ()
def PySem.W.Fast.tw2363686586299193996 : Unit := ()
def PySem.W.Fast.tw9911954375082627943 : Unit := ()
def PySem.W.Fast.tw361239523789926520 : Unit := ()
def PySem.W.Fast.tw16614865917269166633 : Unit := ()
def PySem.W.Fast.tw10892745581419120950 : Unit := ()
def PySem.W.Fast.tw13599967420959579365 : Unit := ()
def PySem.W.Fast.tw8415833449150248701 : Unit := ()
def PySem.W.Fast.tw67017853297819524 : Unit := ()
def PySem.W.Fast.tw7776421827442038278 : Unit := ()
def PySem.W.Fast.tw2760386563205091669 : Unit := ()
def PySem.W.Fast.tw6131578742618813973 : Unit := ()
def PySem.W.Fast.tw8579619157635911383 : Unit := ()
def PySem.W.Fast.tw3474221316227833812 : Unit := ()
def PySem.W.Fast.tw3250515315353406578 : Unit := ()
def PySem.W.Fast.tw9317120778101835197 : Unit := ()
def PySem.W.Fast.tw3433460199736621036 : Unit := ()
def PySem.W.Fast.tw1378097262643454110 : Unit := ()
def PySem.W.Fast.tw17374848848808674752 : Unit := ()
def PySem.W.Fast.tw16067966924185789804 : Unit := ()
def PySem.W.Fast.tw6523040045260809239 : Unit := ()
def PySem.W.Fast.tw14366373121003258889 : Unit := ()
def PySem.W.Fast.tw18042315936617570615 : Unit := ()
def PySem.W.Fast.tw7641571955025693820 : Unit := ()
def PySem.W.Fast.tw719244652758028466 : Unit := ()
def PySem.W.Fast.tw16049947848884492191 : Unit := ()
def PySem.W.Fast.tw8316650998518753240 : Unit := ()
def PySem.W.Fast.tw9055846975137652702 : Unit := ()
def PySem.W.Fast.tw9226752471489351971 : Unit := ()
def PySem.W.Fast.tw15754143044212735220 : Unit := ()
def PySem.W.Fast.tw301380732923670349 : Unit := ()
def PySem.W.Fast.tw15443113364115588001 : Unit := ()
def PySem.W.Fast.tw10490358707376717171 : Unit := ()
def PySem.W.Fast.tw11755654166323358259 : Unit := ()
def PySem.W.Fast.tw13994108154776193480 : Unit := ()
def PySem.W.Fast.tw7697399778205283330 : Unit := ()
def PySem.W.Fast.tw18421508261451361591 : Unit := ()
def PySem.W.Fast.tw7324045106218011514 : Unit := ()
def PySem.W.Fast.tw9341980024549623247 : Unit := ()
def PySem.W.Fast.tw4754315716376600847 : Unit := ()
def PySem.W.Fast.tw3286747298241704588 : Unit := ()
def PySem.W.Fast.tw2603293931248349684 : Unit := ()
def PySem.W.Fast.tw15764232202743438525 : Unit := ()
def PySem.W.Fast.tw17863765452248621976 : Unit := ()
def PySem.W.Fast.tw13252610589419717984 : Unit := ()
def PySem.W.Fast.tw8715927422289895476 : Unit := ()
def PySem.W.Fast.tw8722778910383778638 : Unit := ()
def PySem.W.Fast.tw8600980876012579243 : Unit := ()
def PySem.W.Fast.tw13846768905718706164 : Unit := ()
def PySem.W.Fast.tw43033091653627566 : Unit := ()
def PySem.W.Fast.tw14337208041804753664 : Unit := ()
def PySem.W.Fast.tw4313925814319752938 : Unit := ()
def PySem.W.Fast.tw6271358189299012294 : Unit := ()
def PySem.W.Fast.tw17667427251529099031 : Unit := ()
def PySem.W.Fast.tw346387288072430701 : Unit := ()
def PySem.W.Fast.tw16952612885009451478 : Unit := ()
def PySem.W.Fast.tw14617334755366175545 : Unit := ()
def PySem.W.Fast.tw8029524320792286880 : Unit := ()
def PySem.W.Fast.tw1528477214853253304 : Unit := ()
def PySem.W.Fast.tw13848283319251761444 : Unit := ()
def PySem.W.Fast.tw15038582818562443657 : Unit := ()
def PySem.W.Fast.tw7258214062591084678 : Unit := ()
def PySem.W.Fast.tw7350689057576484334 : Unit := ()
def PySem.W.Fast.tw11415540952733939302 : Unit := ()
def PySem.W.Fast.tw796376125288154621 : Unit := ()
def PySem.W.Fast.tw3265559904178263093 : Unit := ()
def PySem.W.Fast.tw6418944506865962919 : Unit := ()
def PySem.W.Fast.tw10122908485033008248 : Unit := ()
def PySem.W.Fast.tw15919361175676273606 : Unit := ()
def PySem.W.Fast.tw5435394278786051554 : Unit := ()
def PySem.W.Fast.tw11008412817410139364 : Unit := ()
def PySem.W.Fast.tw17992172940224702012 : Unit := ()
def PySem.W.Fast.tw13611983508981950547 : Unit := ()
def PySem.W.Fast.tw12625564208304601854 : Unit := ()
def PySem.W.Fast.tw14939968538243579069 : Unit := ()
def PySem.W.Fast.tw6870940870062031935 : Unit := ()
def PySem.W.Fast.tw2451661682840768850 : Unit := ()
def PySem.W.Fast.tw7289325768895624877 : Unit := ()
def PySem.W.Fast.tw3933105817658226332 : Unit := ()
def PySem.W.Fast.tw56844221446907493 : Unit := ()
def PySem.W.Fast.tw9678141080278141075 : Unit := ()
def PySem.W.Fast.tw16617895373609541550 : Unit := ()
def PySem.W.Fast.tw15907666383479694170 : Unit := ()
def PySem.W.Fast.tw18224013894963843215 : Unit := ()
def PySem.W.Fast.tw14424284071345292582 : Unit := ()
def PySem.W.Fast.tw13223987269199271193 : Unit := ()
def PySem.W.Fast.tw10102481262802471544 : Unit := ()
def PySem.W.Fast.tw8992768303106340033 : Unit := ()
def PySem.W.Fast.tw167071174695782443 : Unit := ()
def PySem.W.Fast.tw8048782754250261616 : Unit := ()
def PySem.W.Fast.tw13883969379329027999 : Unit := ()
def PySem.W.Fast.tw16159122273276406951 : Unit := ()
def PySem.W.Fast.tw5565191404529513405 : Unit := ()
def PySem.W.Fast.tw17288777800255753296 : Unit := ()
def PySem.W.Fast.tw17023572169645782461 : Unit := ()
def PySem.W.Fast.tw4435466834714784981 : Unit := ()
def PySem.W.Fast.tw763214046269414146 : Unit := ()
def PySem.W.Fast.tw11148803804874794511 : Unit := ()
def PySem.W.Fast.tw6545886687707393452 : Unit := ()
def PySem.W.Fast.tw1689591568282183060 : Unit := ()
def PySem.W.Fast.tw7691122420837073193 : Unit := ()
def PySem.W.Fast.tw14663741258203959459 : Unit := ()
def PySem.W.Fast.tw3082380888671580542 : Unit := ()
def PySem.W.Fast.tw1277542796761349747 : Unit := ()
def PySem.W.Fast.tw11940881751020869949 : Unit := ()
def PySem.W.Fast.tw11237118285959670750 : Unit := ()
def PySem.W.Fast.tw15760527696550350095 : Unit := ()
def PySem.W.Fast.tw1601406475391108376 : Unit := ()
def PySem.W.Fast.tw19137228394549724 : Unit := ()
def PySem.W.Fast.tw7190961367393211097 : Unit := ()
def PySem.W.Fast.tw4029272917120285580 : Unit := ()
def PySem.W.Fast.tw1288102932993474126 : Unit := ()
def PySem.W.Fast.tw16466211846549648490 : Unit := ()
def PySem.W.Fast.tw17572350259935296608 : Unit := ()
def PySem.W.Fast.tw10691329416638788129 : Unit := ()
def PySem.W.Fast.tw4459362864781750200 : Unit := ()
def PySem.W.Fast.tw13423139031367629991 : Unit := ()
def PySem.W.Fast.tw5709444745090893144 : Unit := ()
def PySem.W.Fast.tw8859712366072567670 : Unit := ()
def PySem.W.Fast.tw941645098674092669 : Unit := ()
def PySem.W.Fast.tw8797516217673523579 : Unit := ()
def PySem.W.Fast.tw8561860728912769074 : Unit := ()
def PySem.W.Fast.tw9140126712486630073 : Unit := ()
def PySem.W.Fast.tw15307352621405608266 : Unit := ()
def PySem.W.Fast.tw16370143012389464021 : Unit := ()
def PySem.W.Fast.tw4046601510198369273 : Unit := ()
def PySem.W.Fast.tw9596521838158771199 : Unit := ()
def PySem.W.Fast.tw13220290485183067825 : Unit := ()
def PySem.W.Fast.tw14187728036959589922 : Unit := ()
def PySem.W.Fast.tw17472771451439166267 : Unit := ()
def PySem.W.Fast.tw18277576032457670397 : Unit := ()
def PySem.W.Fast.tw352647090277574102 : Unit := ()
def PySem.W.Fast.tw2678925028383224183 : Unit := ()
def PySem.W.Fast.tw15014897147245142870 : Unit := ()
def PySem.W.Fast.tw955531562738494317 : Unit := ()
def PySem.W.Fast.tw9870169837887753440 : Unit := ()
def PySem.W.Fast.tw5927126042081266029 : Unit := ()
def PySem.W.Fast.tw475459695451141562 : Unit := ()
def PySem.W.Fast.tw4714235790700450745 : Unit := ()
def PySem.W.Fast.tw10076168815550857954 : Unit := ()
def PySem.W.Fast.tw3988565505038941277 : Unit := ()
def PySem.W.Fast.tw18029506811756406191 : Unit := ()
open PySem PySem.W PySem.Calls PyProof.Rows
theorem PySem.Challenge.cw_fewleft_k53_safe_places_holds : PySem.Challenge.rw_fewleft_k53_safe_places.Holds := by
  w_on; o_law; o_head (Fw.hookT 5 Fw.fcs Fw.dfs)
  case hw => w_witness2
  case hc =>
    refine Fw.walk_ofG (l := PySem.Challenge.rw_fewleft_k53_safe_places) (k := 12) (x := "_law_script") (CX := fun _ _ _ _ _ _ => False) rfl (by decide) (by kernel_rfl) ⟨rfl, by decide, by decide⟩ ?F (fun _ _ _ _ z => z)
    intro w mg fa h Y G hmg0
    obtain ⟨K, KX, c⟩ := Y
    have hmg : mg ("law" : PySem.Str) = some (.ref fa) := hmg0
    haveI : Fw.PMain (PySem.Challenge.rw_fewleft_k53_safe_places).prog := ⟨by decide +kernel, by decide +kernel⟩
    obtain ⟨fd, hb, hF⟩ := Fw.facts (P := (PySem.Challenge.rw_fewleft_k53_safe_places).prog) (w := w) KX G hmg c
    exact ⟨K, fd, (fun vs H Q _ => Fw.spD K Fw.wt_law vs H Q L2.E0), KX, hb, fun H a ns hl _ hS => Fw.spec hS, hF⟩
