import PyProof.Rows.All
import Wide.All
import OpenK.AllK
import Wide.FinOn
import HandS.ForMost
import HandS.ForExc
import HandS.IsInst
import HandS.Property
import HandS.DictComp
import HandS.SortInts
import HandS.HeadHook2
import HandS.ExcInit
import HandS.HeadEnd
import HandS.Star
import HandS.Head2
import PySem.Challenge.RW_fewleft_k59_hints_and_mistakes
import HandS.Defaults
import KE.KOpsOwn
import KE.KDictList
import HandS.ListItems
import HandS.DictEq
import HandS.SetFor
import HandS.Style
import PyProof.InstEq
import PyProof.Rows.ReprR
set_option Elab.async false
set_option linter.all false
set_option maxRecDepth 100000
set_option maxHeartbeats 4000000
/-! What is looked at behind the top. -/
namespace Fw
open PySem PySem.Spec PyProof.Rows L2
def insB (K : PySem.W.Frag) (c : Str) : Bool := He.Fa.ok K (.cls c) && (He.eqO (PySem.W.findIn K (.ref (He.ga K c)) "__class__") (some (some (.builtin "object.__class__"))) && (He.eqO (PySem.W.specialIn K (.builtin "object.__class__") "__get__") (some (some (.builtin "getset_descriptor.__get__"))) &&
  (decide (PySem.W.takesIn K (.builtin "object.__class__") = some true) && decide (PySem.W.mroIn K (He.ga K c) (.type "object") = some true))))
/-- a path to a def: a global; a class's method; a property's getter -/
inductive Pa where
  | g (x : Str) | m (c x : Str) | p (c x : Str)
def getter (K : PySem.W.Frag) (C : Addr) (x : Str) : Addr := match PySem.W.recIn K (He.ma K C x) "property" with
  | some (.ref a :: _) => a
  | _ => 0
def Pa.ad (K : PySem.W.Frag) : Pa → Addr
  | .g x => He.ga K x
  | .m c x => He.ma K (He.ga K c) x
  | .p c x => getter K (He.ga K c) x
structure DfP where
  at_ : Pa
  name : Str
  qual : Str
  st : Stmt
def fnP (K : PySem.W.Frag) (a : Addr) : He.FnW := match K.lookup a with
  | some ⟨_, _, .func fd, _⟩ => some (fd.name, fd.qualname, fd.params, fd.body, fd.scope, fd.globals, fd.closure, fd.builtins)
  | _ => none
def DfP.val (d : DfP) : He.FnW := some (d.name, d.qual, defArgs d.st, .stmts (defBody d.st), defScope d.st, mainGlobals, [], builtinsNs)
def isNone : Value → Bool
  | .none => true
  | _ => false
def DfP.ok (K : PySem.W.Frag) (d : DfP) : Bool := PySem.W.keepIn K (.ref (d.at_.ad K)) && (match K.lookup (d.at_.ad K) with
  | some ⟨_, _, .func fd, _⟩ => PySem.W.codeIn K fd.code d.qual && isNone fd.defaults
  | _ => false)
/-- a type: a built-in one, an own class -/
inductive Tv where
  | ty (n : String) | own (c : Str)
def Tv.v (K : PySem.W.Frag) : Tv → Value
  | .ty n => .type n
  | .own c => .ref (He.ga K c)
inductive Fc where
  | a (f : He.Fa)
  | ins (c : Str)
  | prop (c x : Str)
  | kit (t u : Tv) (b : Bool)
  | first (c : Str)
  | bin2 (c e : Str) (nm : String)
  | callo (c e : Str)
  | neo (c : Str)
  | fnin (c m : Str)
def Fc.ok (K : PySem.W.Frag) : Fc → Bool
  | .a f => f.ok K
  | .ins c => insB K c
  | .prop c x => He.eqO (PySem.W.findIn K (.ref (He.ga K c)) x) (some (some (.ref (He.ma K (He.ga K c) x)))) && (He.eqO (PySem.W.specialIn K (.ref (He.ma K (He.ga K c) x)) "__get__") (some (some (.builtin "property.__get__"))) &&
      (decide (PySem.W.takesIn K (.ref (He.ma K (He.ga K c) x)) = some true) && (match PySem.W.recIn K (He.ma K (He.ga K c) x) "property" with
        | some (.ref _ :: _) => true
        | _ => false)))
  | .kit t u b => decide (PySem.W.kitOne K (t.v K) (u.v K) = some b)
  | .first c => PySem.W.selfFirst K (He.ga K c)
  | .bin2 c e nm => !(decide (He.ga K c = He.ga K e)) && (PySem.W.selfFirst K (He.ga K c) && (PySem.W.selfFirst K (He.ga K e) && (He.eqO (PySem.W.findIn K (.ref (He.ga K e)) (PySem.dunder nm)) (some (some (.ref (He.ma K (He.ga K e) (PySem.dunder nm))))) &&
      (He.eqO (PySem.W.findIn K (.ref (He.ga K c)) (dunderR nm)) (some none) && (He.eqO (PySem.W.findIn K (.ref (He.ga K e)) (dunderR nm)) (some none) && decide (PySem.W.subIn K (.ref (He.ga K e)) (.ref (He.ga K c)) = some false))))))
  | .fnin c m => PySem.W.fnIn K (He.ma K (He.ga K c) m)
  | .neo c => He.eqO (PySem.W.findIn K (.ref (He.ga K c)) "__ne__") (some (some (.builtin "object.__ne__"))) && decide (PySem.W.mroIn K (He.ga K c) (.type "object") = some true)
  | .callo c e => He.eqO (PySem.W.findIn K (.ref (He.ga K c)) "__call__") (some (some (.ref (He.ma K (He.ga K e) "__call__")))) && (PySem.W.isFn K (.ref (He.ma K (He.ga K e) "__call__")) && PySem.W.fnIn K (He.ma K (He.ga K e) "__call__"))
/-! ### the Hook -/
abbrev AlP : Type := Bool × List He.FnW
def obsP (fc : List Fc) (ds : List DfP) (K : PySem.W.Frag) : AlP := ((fc.all fun f => f.ok K) && ds.all fun d => d.ok K, ds.map fun d => fnP K (d.at_.ad K))
def valP (ds : List DfP) : AlP := (true, ds.map DfP.val)
def obsPG (n : Nat) (fc : List Fc) (ds : List DfP) (g : Addr → Option Obj) : AlP := obsP fc ds (He.frG g (He.asD g n))
def hookP (n : Nat) (fc : List Fc) (ds : List DfP) : PySem.W.Hook where
  α := AlP
  obs := fun s => obsPG n fc ds s.heap.get?
  val := fun _ => valP ds
  says := fun _ h => ∃ K : PySem.W.Frag, K.In h ∧ obsP fc ds K = valP ds
  of := fun _ _ e => ⟨_, He.frG_in, e⟩
  keeps := fun _ _ _ ⟨K, hK, c⟩ k => ⟨K, PySem.W.Frag.In.keeps hK k, c⟩
theorem obsPG_eq {n : Nat} {fc : List Fc} {ds : List DfP} {g : Addr → Option Obj} {s : Shared} (h : ∀ a, g a = s.heap.get? a) : obsPG n fc ds g = (hookP n fc ds).obs s := by
  have e : g = s.heap.get? := funext h
  rw [e] <;> rfl
end Fw

set_option maxHeartbeats 4000000
/-! The places of the program's text and the facts asked of its top. -/
namespace Fw
open PySem PySem.Spec PyProof.Rows L2
def top (i : Nat) : Stmt := PySem.Challenge.pw_fewleft_k59_hints_and_mistakes.main.body.getD i (.Pass ⟨0, 0, 0, 0⟩)
abbrev s_is_name : Stmt := top 16
abbrev N_is_name : List Str := ["candidate", "letter"]
theorem sc_is_name : FnScope N_is_name ["candidate"] (defScope s_is_name) := ⟨rfl, rfl, rfl, by decide +kernel, rfl, by decide +kernel, by decide +kernel⟩
def d_is_name : DfP := ⟨.g "is_name", "is_name", "is_name", s_is_name⟩
abbrev s_are_names : Stmt := top 17
abbrev N_are_names : List Str := ["candidate", "name"]
theorem sc_are_names : FnScope N_are_names ["candidate"] (defScope s_are_names) := ⟨rfl, rfl, rfl, by decide +kernel, rfl, by decide +kernel, by decide +kernel⟩
def d_are_names : DfP := ⟨.g "are_names", "are_names", "are_names", s_are_names⟩
abbrev s_distinct : Stmt := top 19
abbrev N_distinct : List Str := ["names", "name"]
theorem sc_distinct : FnScope N_distinct ["names"] (defScope s_distinct) := ⟨rfl, rfl, rfl, by decide +kernel, rfl, by decide +kernel, by decide +kernel⟩
def d_distinct : DfP := ⟨.g "distinct", "distinct", "distinct", s_distinct⟩
abbrev s_Committee_init : Stmt := inClass (top 21) 0
abbrev N_Committee_init : List Str := ["self", "names"]
theorem sc_Committee_init : FnScope N_Committee_init ["self", "names"] (defScope s_Committee_init) := ⟨rfl, rfl, rfl, by decide +kernel, rfl, by decide +kernel, by decide +kernel⟩
def d_Committee_init : DfP := ⟨.m "Committee" "__init__", "__init__", "Committee.__init__", s_Committee_init⟩
abbrev s_Committee_members : Stmt := inClass (top 21) 1
abbrev N_Committee_members : List Str := ["self"]
theorem sc_Committee_members : FnScope N_Committee_members ["self"] (defScope s_Committee_members) := ⟨rfl, rfl, rfl, by decide +kernel, rfl, by decide +kernel, by decide +kernel⟩
def d_Committee_members : DfP := ⟨.p "Committee" "members", "members", "Committee.members", s_Committee_members⟩
abbrev s_Committee_len : Stmt := inClass (top 21) 2
abbrev N_Committee_len : List Str := ["self"]
theorem sc_Committee_len : FnScope N_Committee_len ["self"] (defScope s_Committee_len) := ⟨rfl, rfl, rfl, by decide +kernel, rfl, by decide +kernel, by decide +kernel⟩
def d_Committee_len : DfP := ⟨.m "Committee" "__len__", "__len__", "Committee.__len__", s_Committee_len⟩
abbrev s_Committee_eq : Stmt := inClass (top 21) 4
abbrev N_Committee_eq : List Str := ["self", "other"]
theorem sc_Committee_eq : FnScope N_Committee_eq ["self", "other"] (defScope s_Committee_eq) := ⟨rfl, rfl, rfl, by decide +kernel, rfl, by decide +kernel, by decide +kernel⟩
def d_Committee_eq : DfP := ⟨.m "Committee" "__eq__", "__eq__", "Committee.__eq__", s_Committee_eq⟩
abbrev s_Ranking_init : Stmt := inClass (top 23) 0
abbrev N_Ranking_init : List Str := ["self", "alternatives", "place", "name"]
theorem sc_Ranking_init : FnScope N_Ranking_init ["self", "alternatives"] (defScope s_Ranking_init) := ⟨rfl, rfl, rfl, by decide +kernel, rfl, by decide +kernel, by decide +kernel⟩
def d_Ranking_init : DfP := ⟨.m "Ranking" "__init__", "__init__", "Ranking.__init__", s_Ranking_init⟩
abbrev s_Ranking_alternatives : Stmt := inClass (top 23) 1
abbrev N_Ranking_alternatives : List Str := ["self"]
theorem sc_Ranking_alternatives : FnScope N_Ranking_alternatives ["self"] (defScope s_Ranking_alternatives) := ⟨rfl, rfl, rfl, by decide +kernel, rfl, by decide +kernel, by decide +kernel⟩
def d_Ranking_alternatives : DfP := ⟨.p "Ranking" "alternatives", "alternatives", "Ranking.alternatives", s_Ranking_alternatives⟩
abbrev s_Ranking_len : Stmt := inClass (top 23) 2
abbrev N_Ranking_len : List Str := ["self"]
theorem sc_Ranking_len : FnScope N_Ranking_len ["self"] (defScope s_Ranking_len) := ⟨rfl, rfl, rfl, by decide +kernel, rfl, by decide +kernel, by decide +kernel⟩
def d_Ranking_len : DfP := ⟨.m "Ranking" "__len__", "__len__", "Ranking.__len__", s_Ranking_len⟩
abbrev s_Ranking_contains : Stmt := inClass (top 23) 4
abbrev N_Ranking_contains : List Str := ["self", "name"]
theorem sc_Ranking_contains : FnScope N_Ranking_contains ["self", "name"] (defScope s_Ranking_contains) := ⟨rfl, rfl, rfl, by decide +kernel, rfl, by decide +kernel, by decide +kernel⟩
def d_Ranking_contains : DfP := ⟨.m "Ranking" "__contains__", "__contains__", "Ranking.__contains__", s_Ranking_contains⟩
abbrev s_members_known : Stmt := top 24
abbrev N_members_known : List Str := ["ranking", "committee", "name"]
theorem sc_members_known : FnScope N_members_known ["ranking", "committee"] (defScope s_members_known) := ⟨rfl, rfl, rfl, by decide +kernel, rfl, by decide +kernel, by decide +kernel⟩
def d_members_known : DfP := ⟨.g "members_known", "members_known", "members_known", s_members_known⟩
abbrev s_as_committee : Stmt := top 25
abbrev N_as_committee : List Str := ["ranking"]
theorem sc_as_committee : FnScope N_as_committee ["ranking"] (defScope s_as_committee) := ⟨rfl, rfl, rfl, by decide +kernel, rfl, by decide +kernel, by decide +kernel⟩
def d_as_committee : DfP := ⟨.g "as_committee", "as_committee", "as_committee", s_as_committee⟩
abbrev s_Turns_init : Stmt := inClass (top 27) 0
abbrev N_Turns_init : List Str := ["self", "players"]
theorem sc_Turns_init : FnScope N_Turns_init ["self", "players"] (defScope s_Turns_init) := ⟨rfl, rfl, rfl, by decide +kernel, rfl, by decide +kernel, by decide +kernel⟩
def d_Turns_init : DfP := ⟨.m "Turns" "__init__", "__init__", "Turns.__init__", s_Turns_init⟩
abbrev s_Turns_players : Stmt := inClass (top 27) 1
abbrev N_Turns_players : List Str := ["self"]
theorem sc_Turns_players : FnScope N_Turns_players ["self"] (defScope s_Turns_players) := ⟨rfl, rfl, rfl, by decide +kernel, rfl, by decide +kernel, by decide +kernel⟩
def d_Turns_players : DfP := ⟨.p "Turns" "players", "players", "Turns.players", s_Turns_players⟩
abbrev s_Turns_len : Stmt := inClass (top 27) 2
abbrev N_Turns_len : List Str := ["self"]
theorem sc_Turns_len : FnScope N_Turns_len ["self"] (defScope s_Turns_len) := ⟨rfl, rfl, rfl, by decide +kernel, rfl, by decide +kernel, by decide +kernel⟩
def d_Turns_len : DfP := ⟨.m "Turns" "__len__", "__len__", "Turns.__len__", s_Turns_len⟩
abbrev s_Game_first_ranking : Stmt := inClass (top 30) 2
abbrev N_Game_first_ranking : List Str := ["self"]
theorem sc_Game_first_ranking : FnScope N_Game_first_ranking ["self"] (defScope s_Game_first_ranking) := ⟨rfl, rfl, rfl, by decide +kernel, rfl, by decide +kernel, by decide +kernel⟩
def d_Game_first_ranking : DfP := ⟨.m "Game" "first_ranking", "first_ranking", "Game.first_ranking", s_Game_first_ranking⟩
abbrev s_Game_rankings : Stmt := inClass (top 30) 3
abbrev N_Game_rankings : List Str := ["self"]
theorem sc_Game_rankings : FnScope N_Game_rankings ["self"] (defScope s_Game_rankings) := ⟨rfl, rfl, rfl, by decide +kernel, rfl, by decide +kernel, by decide +kernel⟩
def d_Game_rankings : DfP := ⟨.p "Game" "rankings", "rankings", "Game.rankings", s_Game_rankings⟩
abbrev s_Game_turns : Stmt := inClass (top 30) 4
abbrev N_Game_turns : List Str := ["self"]
theorem sc_Game_turns : FnScope N_Game_turns ["self"] (defScope s_Game_turns) := ⟨rfl, rfl, rfl, by decide +kernel, rfl, by decide +kernel, by decide +kernel⟩
def d_Game_turns : DfP := ⟨.p "Game" "turns", "turns", "Game.turns", s_Game_turns⟩
abbrev s_Game_alternatives : Stmt := inClass (top 30) 5
abbrev N_Game_alternatives : List Str := ["self"]
theorem sc_Game_alternatives : FnScope N_Game_alternatives ["self"] (defScope s_Game_alternatives) := ⟨rfl, rfl, rfl, by decide +kernel, rfl, by decide +kernel, by decide +kernel⟩
def d_Game_alternatives : DfP := ⟨.p "Game" "alternatives", "alternatives", "Game.alternatives", s_Game_alternatives⟩
abbrev s_Game_ranking_of : Stmt := inClass (top 30) 10
abbrev N_Game_ranking_of : List Str := ["self", "player"]
theorem sc_Game_ranking_of : FnScope N_Game_ranking_of ["self", "player"] (defScope s_Game_ranking_of) := ⟨rfl, rfl, rfl, by decide +kernel, rfl, by decide +kernel, by decide +kernel⟩
def d_Game_ranking_of : DfP := ⟨.m "Game" "ranking_of", "ranking_of", "Game.ranking_of", s_Game_ranking_of⟩
abbrev s_Game_check_turns : Stmt := inClass (top 30) 1
abbrev N_Game_check_turns : List Str := ["self", "turns", "player"]
theorem sc_Game_check_turns : FnScope N_Game_check_turns ["self", "turns"] (defScope s_Game_check_turns) := ⟨rfl, rfl, rfl, by decide +kernel, rfl, by decide +kernel, by decide +kernel⟩
def d_Game_check_turns : DfP := ⟨.m "Game" "check_turns", "check_turns", "Game.check_turns", s_Game_check_turns⟩
abbrev s_check_rankings : Stmt := top 29
abbrev N_check_rankings : List Str := ["rankings", "player", "ranking", "first"]
theorem sc_check_rankings : FnScope N_check_rankings ["rankings"] (defScope s_check_rankings) := ⟨rfl, rfl, rfl, by decide +kernel, rfl, by decide +kernel, by decide +kernel⟩
def d_check_rankings : DfP := ⟨.g "check_rankings", "check_rankings", "check_rankings", s_check_rankings⟩
abbrev s_Game_init : Stmt := inClass (top 30) 0
abbrev N_Game_init : List Str := ["self", "rankings", "turns", "player"]
theorem sc_Game_init : FnScope N_Game_init ["self", "rankings", "turns"] (defScope s_Game_init) := ⟨rfl, rfl, rfl, by decide +kernel, rfl, by decide +kernel, by decide +kernel⟩
def d_Game_init : DfP := ⟨.m "Game" "__init__", "__init__", "Game.__init__", s_Game_init⟩
abbrev s_law_stream : Stmt := top 45
abbrev N_law_stream : List Str := ["_law_script", "_law_k", "_law_cell", "_law_size", "_law_mixed"]
theorem sc_law_stream : FnScope N_law_stream ["_law_script", "_law_k"] (defScope s_law_stream) := ⟨rfl, rfl, rfl, by decide +kernel, rfl, by decide +kernel, by decide +kernel⟩
def d_law_stream : DfP := ⟨.g "_law_stream", "_law_stream", "_law_stream", s_law_stream⟩
abbrev s_law_draw : Stmt := top 46
abbrev N_law_draw : List Str := ["_law_stream_here", "_law_count", "_law_result"]
theorem sc_law_draw : FnScope N_law_draw ["_law_stream_here", "_law_count"] (defScope s_law_draw) := ⟨rfl, rfl, rfl, by decide +kernel, rfl, by decide +kernel, by decide +kernel⟩
def d_law_draw : DfP := ⟨.g "_law_draw", "_law_draw", "_law_draw", s_law_draw⟩
abbrev s_law_shuffled : Stmt := top 47
abbrev N_law_shuffled : List Str := ["_law_stream_here", "_law_items", "_law_left", "_law_found", "_law_turn"]
theorem sc_law_shuffled : FnScope N_law_shuffled ["_law_stream_here", "_law_items"] (defScope s_law_shuffled) := ⟨rfl, rfl, rfl, by decide +kernel, rfl, by decide +kernel, by decide +kernel⟩
def d_law_shuffled : DfP := ⟨.g "_law_shuffled", "_law_shuffled", "_law_shuffled", s_law_shuffled⟩
abbrev s_law_players : Stmt := top 48
abbrev N_law_players : List Str := ["_law_stream_here", "_law_most"]
theorem sc_law_players : FnScope N_law_players ["_law_stream_here", "_law_most"] (defScope s_law_players) := ⟨rfl, rfl, rfl, by decide +kernel, rfl, by decide +kernel, by decide +kernel⟩
def d_law_players : DfP := ⟨.g "_law_players", "_law_players", "_law_players", s_law_players⟩
abbrev s_law_names : Stmt := top 49
abbrev N_law_names : List Str := ["_law_stream_here", "_law_many"]
theorem sc_law_names : FnScope N_law_names ["_law_stream_here", "_law_many"] (defScope s_law_names) := ⟨rfl, rfl, rfl, by decide +kernel, rfl, by decide +kernel, by decide +kernel⟩
def d_law_names : DfP := ⟨.g "_law_names", "_law_names", "_law_names", s_law_names⟩
abbrev s_law_own : Stmt := top 50
abbrev N_law_own : List Str := ["_law_stream_here", "_law_most", "_law_names_here", "_law_players_here", "_law_rankings", "_law_player", "_law_turns", "_law_turn"]
theorem sc_law_own : FnScope N_law_own ["_law_stream_here", "_law_most"] (defScope s_law_own) := ⟨rfl, rfl, rfl, by decide +kernel, rfl, by decide +kernel, by decide +kernel⟩
def d_law_own : DfP := ⟨.g "_law_own", "_law_own", "_law_own", s_law_own⟩
abbrev s_law_game : Stmt := top 51
abbrev N_law_game : List Str := ["_law_own_here", "_law_player"]
theorem sc_law_game : FnScope N_law_game ["_law_own_here"] (defScope s_law_game) := ⟨rfl, rfl, rfl, by decide +kernel, rfl, by decide +kernel, by decide +kernel⟩
def d_law_game : DfP := ⟨.g "_law_game", "_law_game", "_law_game", s_law_game⟩
abbrev s_law_all : Stmt := top 54
abbrev N_law_all : List Str := ["_law_own_here"]
theorem sc_law_all : FnScope N_law_all ["_law_own_here"] (defScope s_law_all) := ⟨rfl, rfl, rfl, by decide +kernel, rfl, by decide +kernel, by decide +kernel⟩
def d_law_all : DfP := ⟨.g "_law_all", "_law_all", "_law_all", s_law_all⟩
abbrev s_is_number : Stmt := top 18
abbrev N_is_number : List Str := ["candidate", "least", "greatest"]
theorem sc_is_number : FnScope N_is_number ["candidate", "least", "greatest"] (defScope s_is_number) := ⟨rfl, rfl, rfl, by decide +kernel, rfl, by decide +kernel, by decide +kernel⟩
def d_is_number : DfP := ⟨.g "is_number", "is_number", "is_number", s_is_number⟩
abbrev s_Committee_and : Stmt := inClass (top 21) 7
abbrev N_Committee_and : List Str := ["self", "other", "name"]
theorem sc_Committee_and : FnScope N_Committee_and ["self", "other"] (defScope s_Committee_and) := ⟨rfl, rfl, rfl, by decide +kernel, rfl, by decide +kernel, by decide +kernel⟩
def d_Committee_and : DfP := ⟨.m "Committee" "__and__", "__and__", "Committee.__and__", s_Committee_and⟩
abbrev s_Committee_sub : Stmt := inClass (top 21) 8
abbrev N_Committee_sub : List Str := ["self", "other", "name"]
theorem sc_Committee_sub : FnScope N_Committee_sub ["self", "other"] (defScope s_Committee_sub) := ⟨rfl, rfl, rfl, by decide +kernel, rfl, by decide +kernel, by decide +kernel⟩
def d_Committee_sub : DfP := ⟨.m "Committee" "__sub__", "__sub__", "Committee.__sub__", s_Committee_sub⟩
abbrev s_Ranking_sub : Stmt := inClass (top 23) 9
abbrev N_Ranking_sub : List Str := ["self", "committee", "name"]
theorem sc_Ranking_sub : FnScope N_Ranking_sub ["self", "committee"] (defScope s_Ranking_sub) := ⟨rfl, rfl, rfl, by decide +kernel, rfl, by decide +kernel, by decide +kernel⟩
def d_Ranking_sub : DfP := ⟨.m "Ranking" "__sub__", "__sub__", "Ranking.__sub__", s_Ranking_sub⟩
abbrev s_Ranking_and : Stmt := inClass (top 23) 8
abbrev N_Ranking_and : List Str := ["self", "committee", "name"]
theorem sc_Ranking_and : FnScope N_Ranking_and ["self", "committee"] (defScope s_Ranking_and) := ⟨rfl, rfl, rfl, by decide +kernel, rfl, by decide +kernel, by decide +kernel⟩
def d_Ranking_and : DfP := ⟨.m "Ranking" "__and__", "__and__", "Ranking.__and__", s_Ranking_and⟩
abbrev s_Turns_getitem : Stmt := inClass (top 27) 6
abbrev N_Turns_getitem : List Str := ["self", "number"]
theorem sc_Turns_getitem : FnScope N_Turns_getitem ["self", "number"] (defScope s_Turns_getitem) := ⟨rfl, rfl, rfl, by decide +kernel, rfl, by decide +kernel, by decide +kernel⟩
def d_Turns_getitem : DfP := ⟨.m "Turns" "__getitem__", "__getitem__", "Turns.__getitem__", s_Turns_getitem⟩
abbrev s_Committee_contains : Stmt := inClass (top 21) 5
abbrev N_Committee_contains : List Str := ["self", "name"]
theorem sc_Committee_contains : FnScope N_Committee_contains ["self", "name"] (defScope s_Committee_contains) := ⟨rfl, rfl, rfl, by decide +kernel, rfl, by decide +kernel, by decide +kernel⟩
def d_Committee_contains : DfP := ⟨.m "Committee" "__contains__", "__contains__", "Committee.__contains__", s_Committee_contains⟩
abbrev s_Game_restricted : Stmt := inClass (top 30) 11
abbrev N_Game_restricted : List Str := ["self", "committee", "turns", "player", "ranking"]
theorem sc_Game_restricted : FnScope N_Game_restricted ["self", "committee", "turns"] (defScope s_Game_restricted) := ⟨rfl, rfl, rfl, by decide +kernel, rfl, by decide +kernel, by decide +kernel⟩
def d_Game_restricted : DfP := ⟨.m "Game" "restricted", "restricted", "Game.restricted", s_Game_restricted⟩
abbrev s_Game_after : Stmt := inClass (top 30) 12
abbrev N_Game_after : List Str := ["self", "name"]
theorem sc_Game_after : FnScope N_Game_after ["self", "name"] (defScope s_Game_after) := ⟨rfl, rfl, rfl, by decide +kernel, rfl, by decide +kernel, by decide +kernel⟩
def d_Game_after : DfP := ⟨.m "Game" "after", "after", "Game.after", s_Game_after⟩
abbrev s_check_turn : Stmt := top 35
abbrev N_check_turn : List Str := ["game"]
theorem sc_check_turn : FnScope N_check_turn ["game"] (defScope s_check_turn) := ⟨rfl, rfl, rfl, by decide +kernel, rfl, by decide +kernel, by decide +kernel⟩
def d_check_turn : DfP := ⟨.g "check_turn", "check_turn", "check_turn", s_check_turn⟩
abbrev s_Ranking_getitem : Stmt := inClass (top 23) 6
abbrev N_Ranking_getitem : List Str := ["self", "place"]
theorem sc_Ranking_getitem : FnScope N_Ranking_getitem ["self", "place"] (defScope s_Ranking_getitem) := ⟨rfl, rfl, rfl, by decide +kernel, rfl, by decide +kernel, by decide +kernel⟩
def d_Ranking_getitem : DfP := ⟨.m "Ranking" "__getitem__", "__getitem__", "Ranking.__getitem__", s_Ranking_getitem⟩
abbrev s_Ranking_worst : Stmt := inClass (top 23) 12
abbrev N_Ranking_worst : List Str := ["self", "committee", "found"]
theorem sc_Ranking_worst : FnScope N_Ranking_worst ["self", "committee"] (defScope s_Ranking_worst) := ⟨rfl, rfl, rfl, by decide +kernel, rfl, by decide +kernel, by decide +kernel⟩
def d_Ranking_worst : DfP := ⟨.m "Ranking" "worst", "worst", "Ranking.worst", s_Ranking_worst⟩
abbrev s_backward_pass : Stmt := top 32
abbrev N_backward_pass : List Str := ["game", "steps", "left", "player", "name"]
theorem sc_backward_pass : FnScope N_backward_pass ["game"] (defScope s_backward_pass) := ⟨rfl, rfl, rfl, by decide +kernel, rfl, by decide +kernel, by decide +kernel⟩
def d_backward_pass : DfP := ⟨.g "backward_pass", "backward_pass", "backward_pass", s_backward_pass⟩
abbrev s_outcome : Stmt := top 33
abbrev N_outcome : List Str := ["game", "player", "name"]
theorem sc_outcome : FnScope N_outcome ["game"] (defScope s_outcome) := ⟨rfl, rfl, rfl, by decide +kernel, rfl, by decide +kernel, by decide +kernel⟩
def d_outcome : DfP := ⟨.g "outcome", "outcome", "outcome", s_outcome⟩
abbrev s_check_strike : Stmt := top 36
abbrev N_check_strike : List Str := ["game", "name"]
theorem sc_check_strike : FnScope N_check_strike ["game", "name"] (defScope s_check_strike) := ⟨rfl, rfl, rfl, by decide +kernel, rfl, by decide +kernel, by decide +kernel⟩
def d_check_strike : DfP := ⟨.g "check_strike", "check_strike", "check_strike", s_check_strike⟩
abbrev s_result_after : Stmt := top 37
abbrev N_result_after : List Str := ["game", "name"]
theorem sc_result_after : FnScope N_result_after ["game", "name"] (defScope s_result_after) := ⟨rfl, rfl, rfl, by decide +kernel, rfl, by decide +kernel, by decide +kernel⟩
def d_result_after : DfP := ⟨.g "result_after", "result_after", "result_after", s_result_after⟩
abbrev s_is_mistake : Stmt := top 38
abbrev N_is_mistake : List Str := ["game", "name"]
theorem sc_is_mistake : FnScope N_is_mistake ["game", "name"] (defScope s_is_mistake) := ⟨rfl, rfl, rfl, by decide +kernel, rfl, by decide +kernel, by decide +kernel⟩
def d_is_mistake : DfP := ⟨.g "is_mistake", "is_mistake", "is_mistake", s_is_mistake⟩
abbrev s_results : Stmt := top 39
abbrev N_results : List Str := ["game", "name"]
theorem sc_results : FnScope N_results ["game"] (defScope s_results) := ⟨rfl, rfl, rfl, by decide +kernel, rfl, by decide +kernel, by decide +kernel⟩
def d_results : DfP := ⟨.g "results", "results", "results", s_results⟩
abbrev s_optimal_strikes : Stmt := top 40
abbrev N_optimal_strikes : List Str := ["game", "goal", "name", "result"]
theorem sc_optimal_strikes : FnScope N_optimal_strikes ["game"] (defScope s_optimal_strikes) := ⟨rfl, rfl, rfl, by decide +kernel, rfl, by decide +kernel, by decide +kernel⟩
def d_optimal_strikes : DfP := ⟨.g "optimal_strikes", "optimal_strikes", "optimal_strikes", s_optimal_strikes⟩
abbrev s_Room_init : Stmt := inClass (top 43) 0
abbrev N_Room_init : List Str := ["self", "game"]
theorem sc_Room_init : FnScope N_Room_init ["self", "game"] (defScope s_Room_init) := ⟨rfl, rfl, rfl, by decide +kernel, rfl, by decide +kernel, by decide +kernel⟩
def d_Room_init : DfP := ⟨.m "Room" "__init__", "__init__", "Room.__init__", s_Room_init⟩
abbrev s_Room_game : Stmt := inClass (top 43) 2
abbrev N_Room_game : List Str := ["self"]
theorem sc_Room_game : FnScope N_Room_game ["self"] (defScope s_Room_game) := ⟨rfl, rfl, rfl, by decide +kernel, rfl, by decide +kernel, by decide +kernel⟩
def d_Room_game : DfP := ⟨.p "Room" "game", "game", "Room.game", s_Room_game⟩
abbrev s_Room_strikes : Stmt := inClass (top 43) 3
abbrev N_Room_strikes : List Str := ["self"]
theorem sc_Room_strikes : FnScope N_Room_strikes ["self"] (defScope s_Room_strikes) := ⟨rfl, rfl, rfl, by decide +kernel, rfl, by decide +kernel, by decide +kernel⟩
def d_Room_strikes : DfP := ⟨.p "Room" "strikes", "strikes", "Room.strikes", s_Room_strikes⟩
abbrev s_Room_len : Stmt := inClass (top 43) 4
abbrev N_Room_len : List Str := ["self"]
theorem sc_Room_len : FnScope N_Room_len ["self"] (defScope s_Room_len) := ⟨rfl, rfl, rfl, by decide +kernel, rfl, by decide +kernel, by decide +kernel⟩
def d_Room_len : DfP := ⟨.m "Room" "__len__", "__len__", "Room.__len__", s_Room_len⟩
abbrev s_Room_hint : Stmt := inClass (top 43) 10
abbrev N_Room_hint : List Str := ["self", "game"]
theorem sc_Room_hint : FnScope N_Room_hint ["self"] (defScope s_Room_hint) := ⟨rfl, rfl, rfl, by decide +kernel, rfl, by decide +kernel, by decide +kernel⟩
def d_Room_hint : DfP := ⟨.m "Room" "hint", "hint", "Room.hint", s_Room_hint⟩
abbrev s_Room_strike : Stmt := inClass (top 43) 7
abbrev N_Room_strike : List Str := ["self", "name", "later"]
theorem sc_Room_strike : FnScope N_Room_strike ["self", "name"] (defScope s_Room_strike) := ⟨rfl, rfl, rfl, by decide +kernel, rfl, by decide +kernel, by decide +kernel⟩
def d_Room_strike : DfP := ⟨.m "Room" "strike", "strike", "Room.strike", s_Room_strike⟩
abbrev s_Room_clone : Stmt := inClass (top 43) 13
abbrev N_Room_clone : List Str := ["self", "other"]
theorem sc_Room_clone : FnScope N_Room_clone ["self"] (defScope s_Room_clone) := ⟨rfl, rfl, rfl, by decide +kernel, rfl, by decide +kernel, by decide +kernel⟩
def d_Room_clone : DfP := ⟨.m "Room" "clone", "clone", "Room.clone", s_Room_clone⟩
abbrev s_Room_mistakes : Stmt := inClass (top 43) 11
abbrev N_Room_mistakes : List Str := ["self", "found", "game", "number", "name"]
theorem sc_Room_mistakes : FnScope N_Room_mistakes ["self"] (defScope s_Room_mistakes) := ⟨rfl, rfl, rfl, by decide +kernel, rfl, by decide +kernel, by decide +kernel⟩
def d_Room_mistakes : DfP := ⟨.m "Room" "mistakes", "mistakes", "Room.mistakes", s_Room_mistakes⟩
abbrev s_law_worst : Stmt := top 52
abbrev N_law_worst : List Str := ["_law_ranking", "_law_left", "_law_name"]
theorem sc_law_worst : FnScope N_law_worst ["_law_ranking", "_law_left"] (defScope s_law_worst) := ⟨rfl, rfl, rfl, by decide +kernel, rfl, by decide +kernel, by decide +kernel⟩
def d_law_worst : DfP := ⟨.g "_law_worst", "_law_worst", "_law_worst", s_law_worst⟩
abbrev s_law_pass : Stmt := top 53
abbrev N_law_pass : List Str := ["_law_own_here", "_law_left", "_law_turns", "_law_player", "_law_worst_here", "_law_name"]
theorem sc_law_pass : FnScope N_law_pass ["_law_own_here", "_law_left", "_law_turns"] (defScope s_law_pass) := ⟨rfl, rfl, rfl, by decide +kernel, rfl, by decide +kernel, by decide +kernel⟩
def d_law_pass : DfP := ⟨.g "_law_pass", "_law_pass", "_law_pass", s_law_pass⟩
abbrev s_law_optimal : Stmt := top 55
abbrev N_law_optimal : List Str := ["_law_own_here", "_law_done", "_law_left", "_law_turns", "_law_name", "_law_goal", "_law_one"]
theorem sc_law_optimal : FnScope N_law_optimal ["_law_own_here", "_law_done"] (defScope s_law_optimal) := ⟨rfl, rfl, rfl, by decide +kernel, rfl, by decide +kernel, by decide +kernel⟩
def d_law_optimal : DfP := ⟨.g "_law_optimal", "_law_optimal", "_law_optimal", s_law_optimal⟩
abbrev s_law_hint_right : Stmt := top 56
abbrev N_law_hint_right : List Str := ["_law_own_here", "_law_room", "_law_done", "_law_due"]
theorem sc_law_hint_right : FnScope N_law_hint_right ["_law_own_here", "_law_room"] (defScope s_law_hint_right) := ⟨rfl, rfl, rfl, by decide +kernel, rfl, by decide +kernel, by decide +kernel⟩
def d_law_hint_right : DfP := ⟨.g "_law_hint_right", "_law_hint_right", "_law_hint_right", s_law_hint_right⟩
abbrev s_law_led : Stmt := top 57
abbrev N_law_led : List Str := ["_law_own_here", "_law_room", "_law_goal", "_law_wrong"]
theorem sc_law_led : FnScope N_law_led ["_law_own_here", "_law_room"] (defScope s_law_led) := ⟨rfl, rfl, rfl, by decide +kernel, rfl, by decide +kernel, by decide +kernel⟩
def d_law_led : DfP := ⟨.g "_law_led", "_law_led", "_law_led", s_law_led⟩
abbrev s_law : Stmt := top 58
abbrev N_law : List Str := ["_law_script", "_law_k", "_law_stream_here", "_law_own_here", "_law_room", "_law_due", "_law_at", "_law_good", "_law_left", "_law_name", "_law_told", "_law_written"]
theorem sc_law : FnScope N_law ["_law_script"] (defScope s_law) := ⟨rfl, rfl, rfl, by decide +kernel, rfl, by decide +kernel, by decide +kernel⟩
def d_law : DfP := ⟨.g "law", "law", "law", s_law⟩
def dfs : List DfP := ([d_is_name, d_are_names, d_distinct, d_Committee_init, d_Committee_members, d_Committee_len, d_Committee_eq, d_Ranking_init, d_Ranking_alternatives, d_Ranking_len, d_Ranking_contains, d_members_known, d_as_committee, d_Turns_init, d_Turns_players, d_Turns_len, d_Game_first_ranking, d_Game_rankings, d_Game_turns, d_Game_alternatives, d_Game_ranking_of, d_Game_check_turns, d_check_rankings, d_Game_init, d_law_stream] : List DfP) ++ ([d_law_draw, d_law_shuffled, d_law_players, d_law_names, d_law_own, d_law_game, d_law_all, d_is_number, d_Committee_and, d_Committee_sub, d_Ranking_sub, d_Ranking_and, d_Turns_getitem, d_Committee_contains, d_Game_restricted, d_Game_after, d_check_turn, d_Ranking_getitem, d_Ranking_worst, d_backward_pass, d_outcome, d_check_strike, d_result_after, d_is_mistake, d_results] : List DfP) ++ ([d_optimal_strikes, d_Room_init, d_Room_game, d_Room_strikes, d_Room_len, d_Room_hint, d_Room_strike, d_Room_clone, d_Room_mistakes, d_law_worst, d_law_pass, d_law_optimal, d_law_hint_right, d_law_led, d_law] : List DfP)
def fcs : List Fc := ([.a (.free "isinstance"), .a (.free "str"), .a (.free "len"), .a (.free "all"), .a (.free "list"), .a (.glo "is_name"), .a (.free "sorted"), .a (.glo "are_names"), .a (.glo "distinct"), .a (.cls "Committee"), .a (.noat "Committee" "own_members"), .a (.glo "Committee"), .a (.int "MAX_LETTERS" 8), .a (.str "LETTERS" "abcdefghijklmnopqrstuvwxyz"), .a (.int "MAX_NAMES" 30), .a (.cls "Ranking"), .a (.noat "Ranking" "order"), .a (.free "enumerate"), .a (.noat "Ranking" "places"), .prop "Committee" "members", .a (.meth "Ranking" "__contains__"), .a (.mkr "Committee"), .prop "Ranking" "alternatives", .a (.cls "Turns"), .a (.noat "Turns" "order")] : List Fc) ++ ([.a (.cls "Game"), .a (.noat "Game" "own_rankings"), .a (.free "dict"), .a (.noat "Game" "own_turns"), .a (.glo "as_committee"), .a (.meth "Game" "first_ranking"), .a (.glo "Turns"), .a (.meth "Turns" "__len__"), .a (.meth "Ranking" "__len__"), .prop "Turns" "players", .a (.glo "Ranking"), .a (.meth "Committee" "__eq__"), .a (.glo "check_rankings"), .a (.meth "Game" "check_turns"), .a (.free "max"), .a (.free "int"), .a (.free "range"), .a (.glo "_law_draw"), .a (.glo "_law_shuffled"), .a (.glo "_law_players"), .a (.glo "_law_names"), .a (.mkr "Game"), .a (.glo "Game"), .a (.mkr "Turns"), .a (.mkr "Ranking")] : List Fc) ++ ([.a (.free "bool"), .a (.glo "is_number"), .a (.meth "Ranking" "__sub__"), .bin2 "Ranking" "Committee" "sub", .a (.meth "Game" "restricted"), .prop "Game" "turns", .a (.meth "Ranking" "__and__"), .bin2 "Ranking" "Committee" "and", .a (.meth "Ranking" "__getitem__"), .fnin "Ranking" "__getitem__", .prop "Game" "alternatives", .a (.meth "Game" "ranking_of"), .a (.meth "Ranking" "worst"), .a (.meth "Committee" "__sub__"), .first "Committee", .a (.glo "backward_pass"), .a (.glo "check_turn"), .a (.meth "Committee" "__contains__"), .a (.glo "check_strike"), .a (.glo "outcome"), .a (.meth "Game" "after"), .a (.glo "result_after"), .neo "Committee", .a (.glo "results"), .a (.cls "Room")] : List Fc) ++ ([.a (.noat "Room" "beginning"), .a (.noat "Room" "state"), .a (.glo "optimal_strikes"), .a (.meth "Room" "__len__"), .a (.mkr "Room"), .a (.glo "Room"), .prop "Room" "strikes", .a (.glo "is_mistake"), .a (.glo "_law_worst"), .a (.glo "_law_all"), .a (.glo "_law_pass"), .a (.glo "_law_optimal"), .a (.meth "Room" "hint"), .prop "Room" "game", .a (.meth "Room" "mistakes"), .a (.meth "Room" "strike"), .kit (.own "Game") (.own "Room") false, .kit (.own "Room") (.own "Room") true, .kit (.own "Ranking") (.own "Room") false, .kit (.own "Turns") (.own "Room") false, .kit (.own "Committee") (.own "Room") false, .a (.free "min"), .a (.glo "_law_stream"), .a (.glo "_law_own"), .a (.glo "_law_game")] : List Fc) ++ ([.a (.glo "_law_hint_right"), .a (.free "repr"), .a (.glo "_law_led"), .a (.meth "Room" "clone"), .a (.glo "law"), .kit (.ty "str") (.ty "str") true, .kit (.ty "int") (.ty "int") true, .kit (.ty "list") (.ty "list") true, .kit (.ty "dict") (.ty "dict") true, .kit (.own "Committee") (.own "Committee") true, .kit (.own "Ranking") (.own "Ranking") true, .kit (.own "Turns") (.own "Turns") true, .kit (.own "Game") (.own "Game") true, .kit (.ty "int") (.ty "bool") false, .kit (.ty "bool") (.ty "int") true, .kit (.ty "bool") (.ty "bool") true, .ins "Committee", .ins "Game", .ins "Ranking", .ins "Room", .ins "Turns"] : List Fc)
end Fw

set_option maxHeartbeats 4000000
/-! The look behind the top, over a tree of its objects. -/
namespace Fw
open PySem PySem.Spec PyProof.Rows L2
/-- an object off the tree -/
def getB (t : PySem.W.BT) (n : Nat) (a : Addr) : Option Obj := match Nat.blt a n with
  | true => (match t.get a with
    | some o => PySem.W.alive o
    | none => PySem.W.alive default)
  | false => none
theorem getB_eq {t : PySem.W.BT} {n : Nat} {life : Life} {s : Shared} (e : PySem.W.absHeap t n life = s.heap) (a : Addr) : getB t n a = s.heap.get? a := by
  have h := HandSHeadRun.getT_eq ⟨t, n, life, s.gens, s.drawn, s.toks, s.os⟩ a
  have h2 : HandSHeadRun.getT ⟨t, n, life, s.gens, s.drawn, s.toks, s.os⟩ a = getB t n a := rfl
  rw [← h2, h]
  show (PySem.W.absHeap t n life).get? a = _
  rw [e]
/-- the observation -/
def obsT (n : Nat) (fc : List Fc) (ds : List DfP) (s : Shared) : AlP := match HandSHeadRun.putAll s.heap.objs.toList .nil 0 with
  | some (t, m) => obsPG n fc ds (getB t m)
  | none => (false, [])
theorem obsT_ok {n : Nat} {fc : List Fc} {ds : List DfP} {s : Shared} (h : obsT n fc ds s = valP ds) : obsPG n fc ds s.heap.get? = valP ds := by
  unfold obsT at h
  cases e : HandSHeadRun.putAll s.heap.objs.toList .nil 0 with
  | none =>
    rw [e] at h
    have z : false = true := congrArg (fun x : AlP => x.1) h
    cases z
  | some r =>
    obtain ⟨t, m⟩ := r
    rw [e] at h
    have eg : getB t m = s.heap.get? := funext fun a => getB_eq (HandSHeadRun.putAll_heap e) a
    rw [← eg]; exact h
def hookT (n : Nat) (fc : List Fc) (ds : List DfP) : PySem.W.Hook where
  α := AlP
  obs := fun s => obsT n fc ds s
  val := fun _ => valP ds
  says := fun _ h => ∃ K : PySem.W.Frag, K.In h ∧ obsP fc ds K = valP ds
  of := fun _ _ e => ⟨_, He.frG_in, obsT_ok e⟩
  keeps := fun _ _ _ ⟨K, hK, c⟩ k => ⟨K, PySem.W.Frag.In.keeps hK k, c⟩
end Fw

set_option maxHeartbeats 4000000
/-! The data layer: what a Python value is as a datum, what stands in the heap for it. -/
namespace Fw
open PySem PySem.Spec PyProof.Rows L2

/-- a datum -/
inductive D where
  | non | bl (b : Bool) | int (i : Int) | str (s : Str) | ty (n : String)
  | glo (x : Str)
  | lst (xs : List D) | tup (xs : List D) | dic (kvs : List (Key × D)) | obj (c : Str) (fs : List (Str × D))
  | stm | scr (ns : List Int)

/-- the stream: a list of two bounded ints, whatever they are -/
def StmB (a b : Int) : Prop := 0 ≤ a ∧ 0 ≤ b ∧ b < 2147483647
def stmO (a : Addr) : HO := .ext fun h => ∃ (i j : Int) (t u : Tok) (n : Nat), StmB i j ∧ h.get? a = some { cls := .type "list", data := .seq #[.int i t, .int j u] n }

/-- a list of the written part -/
def KL (K : PySem.W.Frag) (a : Addr) (xs : List V) : Prop := ∃ (o : Obj) (its : Array Value) (n : Nat), K.lookup a = some o ∧ o.cls = .type "list" ∧ o.dict = none ∧ o.data = .seq its n ∧ its.size ≤ sizeLine ∧ Vals xs its.toList
section
variable (K : PySem.W.Frag) (S : Addr → Prop) (H : Hp)
mutual
inductive Rep : V → D → Prop where
  | non : Rep .non .non
  | bl (b : Bool) : Rep (.bl b) (.bl b)
  | int (i : Int) : Rep (.int i) (.int i)
  | str (s : Str) : Rep (.str s) (.str s)
  | ty (n : String) : Rep (.ty n) (.ty n)
  | glo (x : Str) : Rep (.ref (He.ga K x)) (.glo x)
  | lst {a : Addr} {vs : List V} {ds : List D} (n : ¬ S a) (h : H a = some (.lst vs)) (r : Reps vs ds) : Rep (.ref a) (.lst ds)
  | tup {a : Addr} {vs : List V} {ds : List D} (n : ¬ S a) (h : H a = some (.tup vs)) (r : Reps vs ds) : Rep (.ref a) (.tup ds)
  | dic {a : Addr} {kvs : List (Key × V)} {ds : List (Key × D)} (n : ¬ S a) (h : Rd H a (.dK kvs)) (e : kvs.map Prod.fst = ds.map Prod.fst) (r : Reps (kvs.map Prod.snd) (ds.map Prod.snd)) : Rep (.ref a) (.dic ds)
  | obj {a dx : Addr} {c : Str} {fs : List (Str × V)} {ds : List (Str × D)} (n : ¬ S a) (h : H a = some (.ins (He.ga K c) dx fs)) (e : fs.map Prod.fst = ds.map Prod.fst) (r : Reps (fs.map Prod.snd) (ds.map Prod.snd)) : Rep (.ref a) (.obj c ds)
  | stm {a : Addr} (n : ¬ S a) (h : H a = some (stmO a)) : Rep (.ref a) .stm
  | scr {a : Addr} {ns : List Int} (n : ¬ S a) (h : Rd H a (.lst (ns.map V.int))) : Rep (.ref a) (.scr ns)
  | scrK {a : Addr} {ns : List Int} (h : KL K a (ns.map V.int)) : Rep (.ref a) (.scr ns)
inductive Reps : List V → List D → Prop where
  | nil : Reps [] []
  | cons {v : V} {d : D} {vs : List V} {ds : List D} (h : Rep v d) (t : Reps vs ds) : Reps (v :: vs) (d :: ds)
end
end

/-! ### heaps that grow -/
/-- objects that never change their description -/
def Solid : HO → Prop
  | .dK _ => False
  | .frz _ (.dK _) => False
  | _ => True
def LeX (S : Addr → Prop) (H H' : Hp) : Prop := ∀ a, ¬ S a → (∀ u, Solid u → H a = some u → H' a = some u) ∧ (∀ kvs, Rd H a (.dK kvs) → Rd H' a (.dK kvs))
abbrev Le (H H' : Hp) : Prop := LeX (fun _ => False) H H'
theorem LeX.rfl' {S : Addr → Prop} {H : Hp} : LeX S H H := fun _ _ => ⟨fun _ _ h => h, fun _ h => h⟩
theorem LeX.trans {S : Addr → Prop} {H H1 H2 : Hp} (a : LeX S H H1) (b : LeX S H1 H2) : LeX S H H2 := fun c n => ⟨fun u s h => (b c n).1 u s ((a c n).1 u s h), fun k h => (b c n).2 k ((a c n).2 k h)⟩
theorem LeX.weak {S T : Addr → Prop} {H H' : Hp} (h : LeX S H H') (s : ∀ a, S a → T a) : LeX T H H' := fun a n => h a fun z => n (s a z)
theorem Le.x {S : Addr → Prop} {H H' : Hp} (h : Le H H') : LeX S H H' := h.weak fun _ z => z.elim
theorem Le.of_same {H H' : Hp} (h : Same H H') : Le H H' := fun a _ => ⟨fun u _ e => h a u e, fun k r => by
  rcases r with r | ⟨o, r⟩
  · exact .inl (h a _ r)
  · exact .inr ⟨o, h a _ r⟩⟩
theorem Le.upd {H : Hp} {p : Addr} {o : HO} (h : H p = none) : Le H (upd H p o) := Le.of_same fun b u e => by
  rw [upd_ne (ne_of_none e h)]; exact e
theorem LeX.free {S : Addr → Prop} {H H' : Hp} (l : LeX S H H') {p : Addr} (n : ¬ S p) (h : H' p = none) : H p = none := by
  cases e : H p with
  | none => rfl
  | some u =>
    exfalso
    by_cases s : Solid u
    · have := (l p n).1 u s e
      rw [h] at this; cases this
    · have rd : ∃ kvs, Rd H p (.dK kvs) := by
        cases u with
        | dK kvs => exact ⟨kvs, .inl e⟩
        | frz o w =>
          cases w with
          | dK kvs => exact ⟨kvs, .inr ⟨o, e⟩⟩
          | _ => exact absurd trivial s
        | _ => exact absurd trivial s
      obtain ⟨kvs, r⟩ := rd
      rcases (l p n).2 kvs r with r | ⟨o, r⟩
      · rw [h] at r; cases r
      · rw [h] at r; cases r
theorem Le.free {H H' : Hp} (l : Le H H') {p : Addr} (h : H' p = none) : H p = none := LeX.free l (fun z => z) h
/-- an owned thing is changed -/
theorem LeX.put {S : Addr → Prop} {H : Hp} {p : Addr} {o : HO} (s : S p) : LeX S H (upd H p o) := fun a n => by
  have e : upd H p o a = H a := upd_ne fun z => n (z ▸ s)
  exact ⟨fun u _ h => e.trans h, fun k h => by
    rcases h with h | ⟨o', h⟩
    · exact .inl (e.trans h)
    · exact .inr ⟨o', e.trans h⟩⟩

theorem Rd.lex {S : Addr → Prop} {H H' : Hp} {a : Addr} {xs : List V} (l : LeX S H H') (n : ¬ S a) (h : Rd H a (.lst xs)) : Rd H' a (.lst xs) := by
  rcases h with h | ⟨o, h⟩
  · exact .inl ((l a n).1 _ trivial h)
  · exact .inr ⟨o, (l a n).1 _ trivial h⟩
section
variable {K : PySem.W.Frag} {S T : Addr → Prop} {H H' : Hp}
mutual
theorem Rep.mono {v : V} {d : D} (l : LeX S H H') : Rep K S H v d → Rep K S H' v d
  | .non => .non
  | .bl b => .bl b
  | .int i => .int i
  | .str s => .str s
  | .ty n => .ty n
  | .glo x => .glo x
  | .lst n h r => .lst n ((l _ n).1 _ trivial h) (Reps.mono l r)
  | .tup n h r => .tup n ((l _ n).1 _ trivial h) (Reps.mono l r)
  | .dic n h e r => .dic n ((l _ n).2 _ h) e (Reps.mono l r)
  | .obj n h e r => .obj n ((l _ n).1 _ trivial h) e (Reps.mono l r)
  | .stm n h => .stm n ((l _ n).1 _ trivial h)
  | .scr n h => .scr n (Rd.lex l n h)
  | .scrK h => .scrK h
theorem Reps.mono {vs : List V} {ds : List D} (l : LeX S H H') : Reps K S H vs ds → Reps K S H' vs ds
  | .nil => .nil
  | .cons h t => .cons (Rep.mono l h) (Reps.mono l t)
end
mutual
theorem Rep.weak {v : V} {d : D} (s : ∀ a, T a → S a) : Rep K S H v d → Rep K T H v d
  | .non => .non
  | .bl b => .bl b
  | .int i => .int i
  | .str s => .str s
  | .ty n => .ty n
  | .glo x => .glo x
  | .lst n h r => .lst (fun z => n (s _ z)) h (Reps.weak s r)
  | .tup n h r => .tup (fun z => n (s _ z)) h (Reps.weak s r)
  | .dic n h e r => .dic (fun z => n (s _ z)) h e (Reps.weak s r)
  | .obj n h e r => .obj (fun z => n (s _ z)) h e (Reps.weak s r)
  | .stm n h => .stm (fun z => n (s _ z)) h
  | .scr n h => .scr (fun z => n (s _ z)) h
  | .scrK h => .scrK h
theorem Reps.weak {vs : List V} {ds : List D} (s : ∀ a, T a → S a) : Reps K S H vs ds → Reps K T H vs ds
  | .nil => .nil
  | .cons h t => .cons (Rep.weak s h) (Reps.weak s t)
end
end
end Fw

set_option maxHeartbeats 4000000
/-! The data calculus: what a reading gives, told of data alone. -/
namespace Fw
open PySem PySem.Spec PyProof.Rows L2

/-! ### all but what is owned stands -/
def SameX (S : Addr → Prop) (H H' : Hp) : Prop := ∀ a, ¬ S a → ∀ u, H a = some u → H' a = some u
theorem SameX.lex {S : Addr → Prop} {H H' : Hp} (h : SameX S H H') : LeX S H H' := fun a n => ⟨fun u _ e => h a n u e, fun k r => by
  rcases r with r | ⟨o, r⟩
  · exact .inl (h a n _ r)
  · exact .inr ⟨o, h a n _ r⟩⟩
theorem SameX.rfl' {S : Addr → Prop} {H : Hp} : SameX S H H := fun _ _ _ h => h
theorem Same.sx {S : Addr → Prop} {H H' : Hp} (h : Same H H') : SameX S H H' := fun a _ u e => h a u e
theorem Same.lex {S : Addr → Prop} {H H' : Hp} (h : Same H H') : LeX S H H' := (Same.sx h).lex
theorem Same.put {H : Hp} {p : Addr} {o : HO} (h : H p = none) : Same H (upd H p o) := fun b u e => by rw [upd_ne (ne_of_none e h)]; exact e

section
variable {K : PySem.W.Frag} {S T : Addr → Prop} {H H' : Hp}
theorem Rep.same {v : V} {d : D} (r : Rep K S H v d) (s : Same H H') : Rep K S H' v d := Rep.mono (Same.lex s) r
theorem Reps.same {v : List V} {d : List D} (r : Reps K S H v d) (s : Same H H') : Reps K S H' v d := Reps.mono (Same.lex s) r
mutual
/-- what is not there is not in it -/
theorem Rep.avoid {v : V} {d : D} (s : ∀ a, T a → S a ∨ H a = none) : Rep K S H v d → Rep K T H v d
  | .non => .non
  | .bl b => .bl b
  | .int i => .int i
  | .str s => .str s
  | .ty n => .ty n
  | .glo x => .glo x
  | .lst n h r => .lst (fun z => (s _ z).elim n fun q => by rw [h] at q; cases q) h (Reps.avoid s r)
  | .tup n h r => .tup (fun z => (s _ z).elim n fun q => by rw [h] at q; cases q) h (Reps.avoid s r)
  | .dic n h e r => .dic (fun z => (s _ z).elim n fun q => by rcases h with h | ⟨_, h⟩ <;> (rw [h] at q; cases q)) h e (Reps.avoid s r)
  | .obj n h e r => .obj (fun z => (s _ z).elim n fun q => by rw [h] at q; cases q) h e (Reps.avoid s r)
  | .stm n h => .stm (fun z => (s _ z).elim n fun q => by rw [h] at q; cases q) h
  | .scr n h => .scr (fun z => (s _ z).elim n fun q => by rcases h with h | ⟨_, h⟩ <;> (rw [h] at q; cases q)) h
  | .scrK h => .scrK h
theorem Reps.avoid {vs : List V} {ds : List D} (s : ∀ a, T a → S a ∨ H a = none) : Reps K S H vs ds → Reps K T H vs ds
  | .nil => .nil
  | .cons h t => .cons (Rep.avoid s h) (Reps.avoid s t)
end
theorem Reps.length {vs : List V} {ds : List D} : Reps K S H vs ds → vs.length = ds.length
  | .nil => rfl
  | .cons _ t => congrArg Nat.succ (Reps.length t)
theorem Reps.get {vs : List V} {ds : List D} : ∀ {i : Nat} {v : V}, Reps K S H vs ds → vs[i]? = some v → ∃ d, ds[i]? = some d ∧ Rep K S H v d
  | _, _, .nil, e => by simp at e
  | 0, _, .cons h _, e => by simp at e; subst e; exact ⟨_, rfl, h⟩
  | i + 1, _, .cons _ t, e => by
    obtain ⟨d, h1, h2⟩ := Reps.get (i := i) t (by simpa using e)
    exact ⟨d, by simpa using h1, h2⟩
theorem Reps.get' {vs : List V} {ds : List D} : ∀ {i : Nat} {d : D}, Reps K S H vs ds → ds[i]? = some d → ∃ v, vs[i]? = some v ∧ Rep K S H v d
  | _, _, .nil, e => by simp at e
  | 0, _, .cons h _, e => by simp at e; subst e; exact ⟨_, rfl, h⟩
  | i + 1, _, .cons _ t, e => by
    obtain ⟨d, h1, h2⟩ := Reps.get' (i := i) t (by simpa using e)
    exact ⟨d, by simpa using h1, h2⟩
theorem Reps.append {vs ws : List V} {ds es : List D} : Reps K S H vs ds → Reps K S H ws es → Reps K S H (vs ++ ws) (ds ++ es)
  | .nil, t => t
  | .cons h r, t => .cons h (Reps.append r t)
theorem Reps.set {v : V} {d : D} (h : Rep K S H v d) : ∀ {vs : List V} {ds : List D} (i : Nat), Reps K S H vs ds → Reps K S H (vs.set i v) (ds.set i d)
  | _, _, _, .nil => .nil
  | _, _, 0, .cons _ t => .cons h t
  | _, _, i + 1, .cons q t => .cons q (Reps.set h i t)
theorem Reps.take {vs : List V} {ds : List D} : ∀ (n : Nat), Reps K S H vs ds → Reps K S H (vs.take n) (ds.take n)
  | 0, _ => .nil
  | _ + 1, .nil => .nil
  | n + 1, .cons r t => .cons r (Reps.take n t)
theorem Reps.drop {vs : List V} {ds : List D} : ∀ (n : Nat), Reps K S H vs ds → Reps K S H (vs.drop n) (ds.drop n)
  | 0, r => r
  | _ + 1, .nil => .nil
  | n + 1, .cons r t => Reps.drop n t
theorem Reps.erase {vs : List V} {ds : List D} : ∀ (n : Nat), Reps K S H vs ds → Reps K S H (vs.eraseIdx n) (ds.eraseIdx n)
  | _, .nil => .nil
  | 0, .cons _ t => t
  | n + 1, .cons r t => .cons r (Reps.erase n t)
theorem Reps.dropLast {vs : List V} {ds : List D} (r : Reps K S H vs ds) : Reps K S H vs.dropLast ds.dropLast := by
  rw [List.dropLast_eq_take, List.dropLast_eq_take, r.length]; exact r.take _
theorem Reps.reverse {vs : List V} {ds : List D} : Reps K S H vs ds → Reps K S H vs.reverse ds.reverse
  | .nil => .nil
  | .cons r t => by rw [List.reverse_cons, List.reverse_cons]; exact (Reps.reverse t).append (.cons r .nil)
theorem Reps.strs {vs : List V} {ss : List Str} (r : Reps K S H vs (ss.map D.str)) : vs = ss.map V.str := by
  induction ss generalizing vs with
  | nil => cases r; rfl
  | cons s ss ih => cases r with | cons h t => cases h; rw [ih t]; rfl
theorem Reps.ints {vs : List V} {ss : List Int} (r : Reps K S H vs (ss.map D.int)) : vs = ss.map V.int := by
  induction ss generalizing vs with
  | nil => cases r; rfl
  | cons s ss ih => cases r with | cons h t => cases h; rw [ih t]; rfl
theorem Reps.bls {vs : List V} {ss : List Bool} (r : Reps K S H vs (ss.map D.bl)) : vs = ss.map V.bl := by
  induction ss generalizing vs with
  | nil => cases r; rfl
  | cons s ss ih => cases r with | cons h t => cases h; rw [ih t]; rfl
theorem reps_strs (ss : List Str) : Reps K S H (ss.map V.str) (ss.map D.str) := by
  induction ss with
  | nil => exact .nil
  | cons s ss ih => exact .cons (.str s) ih
theorem reps_ints (ss : List Int) : Reps K S H (ss.map V.int) (ss.map D.int) := by
  induction ss with
  | nil => exact .nil
  | cons s ss ih => exact .cons (.int s) ih
theorem reps_bls (ss : List Bool) : Reps K S H (ss.map V.bl) (ss.map D.bl) := by
  induction ss with
  | nil => exact .nil
  | cons s ss ih => exact .cons (.bl s) ih
end

/-! ### what is owned -/
inductive Ow where
  | lst (xs : List D) | dic (kvs : List (Key × D)) | obj (c : Str) (fs : List (Str × D)) | slf (a : Addr) (c : Str) (fs : List (Str × D))
def Ow.d : Ow → D
  | .lst xs => .lst xs
  | .dic kvs => .dic kvs
  | .obj c fs => .obj c fs
  | .slf _ c fs => .obj c fs
section
variable (K : PySem.W.Frag)
def OwnAt (S : Addr → Prop) (H : Hp) (a : Addr) : Ow → Prop
  | .lst ds => ∃ vs, H a = some (.lst vs) ∧ Reps K S H vs ds
  | .dic ds => ∃ kvs : List (Key × V), H a = some (.dK kvs) ∧ kvs.map Prod.fst = ds.map Prod.fst ∧ Reps K S H (kvs.map Prod.snd) (ds.map Prod.snd)
  | .obj c ds => ∃ (dx : Addr) (fs : List (Str × V)), H a = some (.ins (He.ga K c) dx fs) ∧ fs.map Prod.fst = ds.map Prod.fst ∧ Reps K S H (fs.map Prod.snd) (ds.map Prod.snd)
  | .slf a' c ds => a = a' ∧ ∃ (dx : Addr) (fs : List (Str × V)), H a = some (.ins (He.ga K c) dx fs) ∧ fs.map Prod.fst = ds.map Prod.fst ∧ Reps K S H (fs.map Prod.snd) (ds.map Prod.snd)
abbrev OL := List (Nat × Ow)
abbrev OLa := List (Addr × Nat × Ow)
abbrev Gm := List (Option D)
def W (Os : OLa) : Addr → Prop := fun b => b ∈ Os.map (·.1)
def SO (S0 : Addr → Prop) (Os : OLa) : Addr → Prop := fun b => S0 b ∨ W Os b
def RE (S : Addr → Prop) (H : Hp) (σ : L2.St) (G : Gm) : Prop := ∀ (i : Nat) (d : D), G[i]? = some (some d) → ∃ v, σ[i]? = some (some v) ∧ Rep K S H v d
structure St1 (S0 : Addr → Prop) (G : Gm) (O : OL) (Os : OLa) (σ : L2.St) (H : Hp) : Prop where
  os : Os.map (·.2) = O
  nd : (Os.map (·.1)).Nodup
  dom : ∀ a, S0 a → H a ≠ none
  ns : ∀ a, W Os a → ¬ S0 a
  len : σ.length = G.length
  re : RE K (SO S0 Os) H σ G
  own : ∀ p ∈ Os, σ[p.2.1]? = some (some (.ref p.1)) ∧ OwnAt K (SO S0 Os) H p.1 p.2.2
end
section
variable {K : PySem.W.Frag} {S T S0 : Addr → Prop} {H H' : Hp} {G : Gm} {O : OL} {Os : OLa} {σ : L2.St}
theorem OwnAt.there {a : Addr} {o : Ow} (h : OwnAt K S H a o) : H a ≠ none := by
  cases o with
  | lst ds => obtain ⟨vs, e, _⟩ := h; rw [e]; simp
  | dic ds => obtain ⟨vs, e, _⟩ := h; rw [e]; simp
  | obj c ds => obtain ⟨dx, fs, e, _⟩ := h; rw [e]; simp
  | slf _ c ds => obtain ⟨ea, dx, fs, e, _⟩ := h; rw [e]; simp
theorem OwnAt.same {a : Addr} {o : Ow} (h : OwnAt K S H a o) (s : Same H H') : OwnAt K S H' a o := by
  cases o with
  | lst ds => obtain ⟨vs, e, r⟩ := h; exact ⟨vs, s _ _ e, r.same s⟩
  | dic ds => obtain ⟨vs, e, q, r⟩ := h; exact ⟨vs, s _ _ e, q, r.same s⟩
  | obj c ds => obtain ⟨dx, fs, e, q, r⟩ := h; exact ⟨dx, fs, s _ _ e, q, r.same s⟩
  | slf _ c ds => obtain ⟨ea, dx, fs, e, q, r⟩ := h; exact ⟨ea, dx, fs, s _ _ e, q, r.same s⟩
theorem St1.domW (h : St1 K S0 G O Os σ H) : ∀ a, SO S0 Os a → H a ≠ none := fun a ha => by
  rcases ha with ha | ha
  · exact h.dom a ha
  · obtain ⟨p, hp, e⟩ := List.mem_map.mp ha
    rw [← e]; exact (h.own p hp).2.there
theorem St1.same (h : St1 K S0 G O Os σ H) (s : Same H H') : St1 K S0 G O Os σ H' where
  os := h.os
  nd := h.nd
  dom := fun a ha => fun z => h.dom a ha (s.free z)
  ns := h.ns
  len := h.len
  re := fun i d e => let ⟨v, e1, r⟩ := h.re i d e; ⟨v, e1, r.same s⟩
  own := fun p hp => ⟨(h.own p hp).1, (h.own p hp).2.same s⟩
theorem St1.set (h : St1 K S0 G O Os σ H) {i : Nat} {v : V} {d : D} (r : Rep K (SO S0 Os) H v d) (hi : ∀ o ∈ O, o.1 ≠ i) : St1 K S0 (G.set i (some d)) O Os (σ.set i (some v)) H where
  os := h.os
  nd := h.nd
  dom := h.dom
  ns := h.ns
  len := by rw [List.length_set, List.length_set]; exact h.len
  re := fun j e q => by
    by_cases hj : i = j
    · subst hj
      by_cases hl : i < G.length
      · rw [List.getElem?_set_self hl] at q
        cases q
        exact ⟨v, by rw [List.getElem?_set_self (by rw [h.len]; exact hl)], r⟩
      · rw [List.getElem?_eq_none (by simpa using hl)] at q; cases q
    · rw [List.getElem?_set_ne hj] at q
      obtain ⟨w, e1, r1⟩ := h.re j e q
      exact ⟨w, by rw [List.getElem?_set_ne hj]; exact e1, r1⟩
  own := fun p hp => by
    have hne : i ≠ p.2.1 := fun z => hi p.2 (by rw [← h.os]; exact List.mem_map_of_mem hp) z.symm
    exact ⟨by rw [List.getElem?_set_ne hne]; exact (h.own p hp).1, (h.own p hp).2⟩
end

/-! ### exceptions as data -/
structure Xd where
  cls : Str
  arg : Option (Str × D) := none
def RepX (K : PySem.W.Frag) (S : Addr → Prop) (H : Hp) (cls : Value) (dd : Option Addr) (x : Xd) : Prop :=
  cls = .ref (He.ga K x.cls) ∧ match x.arg with
    | none => dd = none
    | some (f, d) => ∃ (p : Addr) (v : V), dd = some p ∧ H p = some (.xd [(f, v)]) ∧ Rep K S H v d
def EOk (K : PySem.W.Frag) (S : Addr → Prop) (H : Hp) (E : XK) (ke : Xd → Prop) : Prop := ∀ (cls : Value) (dd : Option Addr) (H' : Hp) (x : Xd), ke x → Same H H' → RepX K S H' cls dd x → E cls dd H'
theorem EOk.same {K : PySem.W.Frag} {S : Addr → Prop} {H H' : Hp} {E : XK} {ke : Xd → Prop} (h : EOk K S H E ke) (s : Same H H') : EOk K S H' E ke := fun c d H2 x k l r => h c d H2 x k (s.trans l) r

/-! ### judgements -/
section
variable (K : PySem.W.Frag) (E : XK)
def DT (t : TE) (G : Gm) (O : OL) (k : D → Prop) (ke : Xd → Prop) : Prop := ∀ (S0 : Addr → Prop) (Os : OLa) (σ : L2.St) (H : Hp) (Q : VK), St1 K S0 G O Os σ H →
  (∀ v H' d, k d → Same H H' → Rep K (SO S0 Os) H' v d → Q v H') → EOk K (SO S0 Os) H E ke → t σ H Q
def DTT (t : TT) (G : Gm) (O : OL) (k : Bool → Prop) (ke : Xd → Prop) : Prop := ∀ (S0 : Addr → Prop) (Os : OLa) (σ : L2.St) (H : Hp) (Q : Bool → Hp → Prop), St1 K S0 G O Os σ H →
  (∀ b H', k b → Same H H' → Q b H') → EOk K (SO S0 Os) H E ke → t σ H Q
def DA (t : TA) (G : Gm) (O : OL) (k : List D → Prop) (ke : Xd → Prop) : Prop := ∀ (S0 : Addr → Prop) (Os : OLa) (σ : L2.St) (H : Hp) (Q : List V → Hp → Prop), St1 K S0 G O Os σ H →
  (∀ vs H' ds, k ds → Same H H' → Reps K (SO S0 Os) H' vs ds → Q vs H') → EOk K (SO S0 Os) H E ke → t σ H Q
/-- a new thing, not yet anybody's -/
def DF (t : TE) (G : Gm) (O : OL) (k : Ow → Prop) (ke : Xd → Prop) : Prop := ∀ (S0 : Addr → Prop) (Os : OLa) (σ : L2.St) (H : Hp) (Q : VK), St1 K S0 G O Os σ H →
  (∀ p H' o, k o → Same H H' → H p = none → OwnAt K (fun b => SO S0 Os b ∨ b = p) H' p o → Q (.ref p) H') → EOk K (SO S0 Os) H E ke → t σ H Q
end
section
variable {K : PySem.W.Frag} {E : XK} {G : Gm} {O : OL} {ke : Xd → Prop}

theorem dt_var {i : Nat} {d : D} {k : D → Prop} (h : G[i]? = some (some d)) (q : k d) : DT K E (tVar i) G O k ke := fun S0 Os σ H Q st hq _ => by
  obtain ⟨v, e, r⟩ := st.re i d h
  exact ⟨v, e, hq v H d q (Same.refl H) r⟩
theorem dt_int {i : Int} {k : D → Prop} (q : k (.int i)) : DT K E (tC (.int i)) G O k ke := fun S0 Os σ H Q st hq _ => hq _ H _ q (Same.refl H) (.int i)
theorem dt_str {i : Str} {k : D → Prop} (q : k (.str i)) : DT K E (tC (.str i)) G O k ke := fun S0 Os σ H Q st hq _ => hq _ H _ q (Same.refl H) (.str i)
theorem dt_bl {i : Bool} {k : D → Prop} (q : k (.bl i)) : DT K E (tC (.bl i)) G O k ke := fun S0 Os σ H Q st hq _ => hq _ H _ q (Same.refl H) (.bl i)
theorem dt_non {k : D → Prop} (q : k .non) : DT K E (tC .non) G O k ke := fun S0 Os σ H Q st hq _ => hq _ H _ q (Same.refl H) .non
theorem dt_ty {n : String} {k : D → Prop} (q : k (.ty n)) : DT K E (tC (.ty n)) G O k ke := fun S0 Os σ H Q st hq _ => hq _ H _ q (Same.refl H) (.ty n)
theorem dt_glo {x : Str} {k : D → Prop} (q : k (.glo x)) : DT K E (tC (.ref (He.ga K x))) G O k ke := fun S0 Os σ H Q st hq _ => hq _ H _ q (Same.refl H) (.glo x)
theorem DT.imp {t : TE} {k k' : D → Prop} (h : DT K E t G O k ke) (i : ∀ d, k d → k' d) : DT K E t G O k' ke := fun S0 Os σ H Q st hq he => h S0 Os σ H Q st (fun v H' d kd s r => hq v H' d (i d kd) s r) he
theorem DT.bind {t : TE} {k : D → Prop} (h : DT K E t G O k ke) {S0 : Addr → Prop} {Os : OLa} {σ : L2.St} {H : Hp} {Q : VK} (st : St1 K S0 G O Os σ H) (he : EOk K (SO S0 Os) H E ke)
    (hq : ∀ v H' d, k d → Same H H' → St1 K S0 G O Os σ H' → EOk K (SO S0 Os) H' E ke → Rep K (SO S0 Os) H' v d → Q v H') : t σ H Q :=
  h S0 Os σ H Q st (fun v H' d kd s r => hq v H' d kd s (st.same s) (he.same s) r) he
theorem DA.bind {t : TA} {k : List D → Prop} (h : DA K E t G O k ke) {S0 : Addr → Prop} {Os : OLa} {σ : L2.St} {H : Hp} {Q : List V → Hp → Prop} (st : St1 K S0 G O Os σ H) (he : EOk K (SO S0 Os) H E ke)
    (hq : ∀ v H' d, k d → Same H H' → St1 K S0 G O Os σ H' → EOk K (SO S0 Os) H' E ke → Reps K (SO S0 Os) H' v d → Q v H') : t σ H Q :=
  h S0 Os σ H Q st (fun v H' d kd s r => hq v H' d kd s (st.same s) (he.same s) r) he
theorem DTT.bind {t : TT} {k : Bool → Prop} (h : DTT K E t G O k ke) {S0 : Addr → Prop} {Os : OLa} {σ : L2.St} {H : Hp} {Q : Bool → Hp → Prop} (st : St1 K S0 G O Os σ H) (he : EOk K (SO S0 Os) H E ke)
    (hq : ∀ b H', k b → Same H H' → St1 K S0 G O Os σ H' → EOk K (SO S0 Os) H' E ke → Q b H') : t σ H Q :=
  h S0 Os σ H Q st (fun b H' kd s => hq b H' kd s (st.same s) (he.same s)) he

/-! ### operators by values -/
abbrev F2 := D → D → (D → Prop) → Prop
def OpD (K : PySem.W.Frag) (r : R2) (f : F2) : Prop := ∀ (S : Addr → Prop) (H : Hp) (x y : V) (a b : D) (Q : VK) (k : D → Prop), (∀ a, S a → H a ≠ none) → Rep K S H x a → Rep K S H y b → f a b k →
  (∀ v H' d, k d → Same H H' → Rep K S H' v d → Q v H') → r x y H Q
theorem dt_op {r : R2} {f : F2} {ta tb : TE} {k : D → Prop} (hr : OpD K r f) (h : DT K E ta G O (fun a => DT K E tb G O (fun b => f a b k) ke) ke) : DT K E (tOp r ta tb) G O k ke := fun S0 Os σ H Q st hq he =>
  h.bind st he fun x H1 a ha s1 st1 he1 rx => ha.bind st1 he1 fun y H2 b hb s2 st2 he2 ry =>
    hr _ H2 x y a b Q k st2.domW (rx.same s2) ry hb fun v H' d kd s r => hq v H' d kd ((s1.trans s2).trans s) r
abbrev F1 := D → (D → Prop) → Prop
def UnD (K : PySem.W.Frag) (r : V → Hp → VK → Prop) (f : F1) : Prop := ∀ (S : Addr → Prop) (H : Hp) (x : V) (a : D) (Q : VK) (k : D → Prop), (∀ a, S a → H a ≠ none) → Rep K S H x a → f a k →
  (∀ v H' d, k d → Same H H' → Rep K S H' v d → Q v H') → r x H Q
theorem dt_un {r : V → Hp → VK → Prop} {f : F1} {ta : TE} {k : D → Prop} (hr : UnD K r f) (h : DT K E ta G O (fun a => f a k) ke) : DT K E (tUn r ta) G O k ke := fun S0 Os σ H Q st hq he =>
  h.bind st he fun x H1 a ha s1 st1 he1 rx => hr _ H1 x a Q k st1.domW rx ha fun v H' d kd s r => hq v H' d kd (s1.trans s) r
abbrev Fn := List D → (D → Prop) → Prop
def CaD (K : PySem.W.Frag) (r : List V → Hp → VK → Prop) (f : Fn) : Prop := ∀ (S : Addr → Prop) (H : Hp) (xs : List V) (ds : List D) (Q : VK) (k : D → Prop), (∀ a, S a → H a ≠ none) → Reps K S H xs ds → f ds k →
  (∀ v H' d, k d → Same H H' → Rep K S H' v d → Q v H') → r xs H Q
theorem dt_cb {r : List V → Hp → VK → Prop} {f : Fn} {ta : TA} {k : D → Prop} (hr : CaD K r f) (h : DA K E ta G O (fun ds => f ds k) ke) : DT K E (tCB r ta) G O k ke := fun S0 Os σ H Q st hq he =>
  h.bind st he fun xs H1 ds ha s1 st1 he1 rx => hr _ H1 xs ds Q k st1.domW rx ha fun v H' d kd s r => hq v H' d kd (s1.trans s) r
/-- results that are new lists, dicts -/
def CaF (K : PySem.W.Frag) (r : List V → Hp → VK → Prop) (f : List D → (Ow → Prop) → Prop) : Prop := ∀ (S : Addr → Prop) (H : Hp) (xs : List V) (ds : List D) (Q : VK) (k : Ow → Prop), (∀ a, S a → H a ≠ none) → Reps K S H xs ds → f ds k →
  (∀ p H' o, k o → Same H H' → H p = none → OwnAt K (fun b => S b ∨ b = p) H' p o → Q (.ref p) H') → r xs H Q
theorem df_cb {r : List V → Hp → VK → Prop} {f : List D → (Ow → Prop) → Prop} {ta : TA} {k : Ow → Prop} (hr : CaF K r f) (h : DA K E ta G O (fun ds => f ds k) ke) : DF K E (tCB r ta) G O k ke := fun S0 Os σ H Q st hq he =>
  h.bind st he fun xs H1 ds ha s1 st1 he1 rx => hr _ H1 xs ds Q k st1.domW rx ha fun p H' d kd s n r => hq p H' d kd (s1.trans s) (s1.free n) r
theorem OwnAt.rep {S T : Addr → Prop} {H : Hp} {p : Addr} {o : Ow} (h : OwnAt K (fun b => S b ∨ b = p) H p o) (n : ¬ S p) : Rep K S H (.ref p) o.d := by
  cases o with
  | lst ds => obtain ⟨vs, e, r⟩ := h; exact .lst n e (Reps.weak (fun a z => .inl z) r)
  | dic ds => obtain ⟨vs, e, q, r⟩ := h; exact .dic n (.inl e) q (Reps.weak (fun a z => .inl z) r)
  | obj c ds => obtain ⟨dx, fs, e, q, r⟩ := h; exact .obj n e q (Reps.weak (fun a z => .inl z) r)
  | slf _ c ds => obtain ⟨ea, dx, fs, e, q, r⟩ := h; exact .obj n e q (Reps.weak (fun a z => .inl z) r)
theorem DF.dt {t : TE} {k : D → Prop} (h : DF K E t G O (fun o => k o.d) ke) : DT K E t G O k ke := fun S0 Os σ H Q st hq he =>
  h S0 Os σ H Q st (fun p H' o ko s n r => hq _ H' _ ko s (OwnAt.rep (T := fun _ => False) r fun z => (st.domW p z) n)) he
theorem CaF.ca {r : List V → Hp → VK → Prop} {f : List D → (Ow → Prop) → Prop} (h : CaF K r f) : CaD K r (fun ds k => f ds fun o => k o.d) := fun S H xs ds Q k dm rx ha hq =>
  h S H xs ds Q _ dm rx ha fun p H' o ko s n r => hq _ H' _ ko s (OwnAt.rep (T := fun _ => False) r fun z => dm p z n)

/-! ### arguments, displays -/
theorem da_nil {k : List D → Prop} (q : k []) : DA K E tNil G O k ke := fun S0 Os σ H Q st hq _ => hq _ H _ q (Same.refl H) .nil
theorem da_cons {ta : TE} {tr : TA} {k : List D → Prop} (h : DT K E ta G O (fun a => DA K E tr G O (fun ds => k (a :: ds)) ke) ke) : DA K E (tCons ta tr) G O k ke := fun S0 Os σ H Q st hq he =>
  h.bind st he fun x H1 a ha s1 st1 he1 rx => ha.bind st1 he1 fun ys H2 ds hb s2 st2 he2 ry => hq _ H2 _ hb (s1.trans s2) (.cons (rx.same s2) ry)
theorem df_lst {t : TA} {k : Ow → Prop} (h : DA K E t G O (fun ds => ds.length ≤ sizeLine ∧ k (.lst ds)) ke) : DF K E (tLst t) G O k ke := fun S0 Os σ H Q st hq he =>
  h.bind st he fun xs H1 ds ⟨hl, ha⟩ s1 st1 he1 rx => ⟨by rw [rx.length]; exact hl, fun p np => by
    have sp : Same H1 (upd H1 p (.lst xs)) := Same.put np
    exact hq p _ _ ha (s1.trans sp) (s1.free np) ⟨xs, upd_same, Reps.same (Reps.avoid (fun a z => z.elim .inl fun e => .inr (e ▸ np)) rx) sp⟩⟩
theorem dt_lst {t : TA} {k : D → Prop} (h : DA K E t G O (fun ds => ds.length ≤ sizeLine ∧ k (.lst ds)) ke) : DT K E (tLst t) G O k ke := (df_lst h).dt
theorem dt_tup {t : TA} {k : D → Prop} (h : DA K E t G O (fun ds => ds.length ≤ sizeLine ∧ k (.tup ds)) ke) : DT K E (tTup t) G O k ke := fun S0 Os σ H Q st hq he =>
  h.bind st he fun xs H1 ds ⟨hl, ha⟩ s1 st1 he1 rx => ⟨by rw [rx.length]; exact hl, fun p np => by
    have sp : Same H1 (upd H1 p (.tup xs)) := Same.put np
    exact hq _ _ _ ha (s1.trans sp) (.tup (fun z => st1.domW p z np) upd_same (rx.same sp))⟩

/-! ### tests -/
theorem dtt_test {t : TE} {k : Bool → Prop} (h : DT K E t G O (fun d => ∃ b, d = .bl b ∧ k b) ke) : DTT K E (tTest t) G O k ke := fun S0 Os σ H Q st hq he =>
  h.bind st he fun x H1 d ⟨b, e, kb⟩ s1 st1 he1 rx => by subst e; cases rx; exact ⟨b, rfl, hq b H1 kb s1⟩
theorem dtt_b {t : TE} {k : Bool → Prop} (h : DT K E t G O (fun d => ∃ b, d = .bl b ∧ k b) ke) : DTT K E (tB t) G O k ke := fun S0 Os σ H Q st hq he =>
  h.bind st he fun x H1 d ⟨b, e, kb⟩ s1 st1 he1 rx => by subst e; cases rx; exact ⟨b, rfl, hq b H1 kb s1⟩
theorem dtt_yes {k : Bool → Prop} (h : k true) : DTT K E tYes G O k ke := fun S0 Os σ H Q st hq he => hq true H h (Same.refl H)
theorem dtt_not {t : TT} {k : Bool → Prop} (h : DTT K E t G O (fun b => k (!b)) ke) : DTT K E (tNot t) G O k ke := fun S0 Os σ H Q st hq he =>
  h.bind st he fun b H1 kb s1 st1 he1 => hq (!b) H1 kb s1
theorem dtt_and {t u : TT} {k : Bool → Prop} (h : DTT K E t G O (fun b => (b = true → DTT K E u G O k ke) ∧ (b = false → k false)) ke) : DTT K E (tAnd t u) G O k ke := fun S0 Os σ H Q st hq he =>
  h.bind st he fun b H1 kb s1 st1 he1 => by
    cases b with
    | true => exact iteT ((kb.1 rfl).bind st1 he1 fun c H2 kc s2 _ _ => hq c H2 kc (s1.trans s2))
    | false => exact iteF (hq false H1 (kb.2 rfl) s1)
theorem dtt_or {t u : TT} {k : Bool → Prop} (h : DTT K E t G O (fun b => (b = false → DTT K E u G O k ke) ∧ (b = true → k true)) ke) : DTT K E (tOr t u) G O k ke := fun S0 Os σ H Q st hq he =>
  h.bind st he fun b H1 kb s1 st1 he1 => by
    cases b with
    | false => exact iteF ((kb.1 rfl).bind st1 he1 fun c H2 kc s2 _ _ => hq c H2 kc (s1.trans s2))
    | true => exact iteT (hq true H1 (kb.2 rfl) s1)
theorem dt_andV {t u : TE} {k : D → Prop} (h : DT K E t G O (fun a => ∃ b, a = .bl b ∧ (b = true → DT K E u G O k ke) ∧ (b = false → k (.bl false))) ke) : DT K E (tAndV t u) G O k ke := fun S0 Os σ H Q st hq he =>
  h.bind st he fun x H1 d ⟨b, e, k1, k2⟩ s1 st1 he1 rx => by
    subst e; cases rx
    refine ⟨b, rfl, ?_⟩
    cases b with
    | true => exact iteT ((k1 rfl).bind st1 he1 fun c H2 d2 kc s2 _ _ r => hq c H2 d2 kc (s1.trans s2) r)
    | false => exact iteF (hq _ H1 _ (k2 rfl) s1 (.bl false))
theorem dt_orV {t u : TE} {k : D → Prop} (h : DT K E t G O (fun a => ∃ b, a = .bl b ∧ (b = false → DT K E u G O k ke) ∧ (b = true → k (.bl true))) ke) : DT K E (tOrV t u) G O k ke := fun S0 Os σ H Q st hq he =>
  h.bind st he fun x H1 d ⟨b, e, k1, k2⟩ s1 st1 he1 rx => by
    subst e; cases rx
    refine ⟨b, rfl, ?_⟩
    cases b with
    | false => exact iteF ((k1 rfl).bind st1 he1 fun c H2 d2 kc s2 _ _ r => hq c H2 d2 kc (s1.trans s2) r)
    | true => exact iteT (hq _ H1 _ (k2 rfl) s1 (.bl true))
theorem dt_notV {t : TE} {k : D → Prop} (h : DT K E t G O (fun a => ∃ b, a = .bl b ∧ k (.bl (!b))) ke) : DT K E (tNotV t) G O k ke := fun S0 Os σ H Q st hq he =>
  h.bind st he fun x H1 d ⟨b, e, k1⟩ s1 st1 he1 rx => by
    subst e; cases rx
    exact ⟨b, rfl, hq _ H1 _ k1 s1 (.bl _)⟩
theorem dt_if {c : TT} {t u : TE} {k : D → Prop} (h : DTT K E c G O (fun b => (b = true → DT K E t G O k ke) ∧ (b = false → DT K E u G O k ke)) ke) : DT K E (tIf c t u) G O k ke := fun S0 Os σ H Q st hq he =>
  h.bind st he fun b H1 kb s1 st1 he1 => by
    cases b with
    | true => exact iteT ((kb.1 rfl).bind st1 he1 fun c H2 d2 kc s2 _ _ r => hq c H2 d2 kc (s1.trans s2) r)
    | false => exact iteF ((kb.2 rfl).bind st1 he1 fun c H2 d2 kc s2 _ _ r => hq c H2 d2 kc (s1.trans s2) r)
end
end Fw

set_option maxHeartbeats 4000000
/-! Operators, built-in calls, methods, subscripts, by data. -/
namespace Fw
open PySem PySem.Spec PyProof.Rows L2
section
variable {K : PySem.W.Frag} {E : XK} {G : Gm} {O : OL} {ke : Xd → Prop}

theorem opd_I0 {g : Int → Int → V} {g' : Int → Int → D} (hg : ∀ i j S H, Rep K S H (g i j) (g' i j)) : OpD K (rI0 g) (fun a b k => ∃ i j, a = .int i ∧ b = .int j ∧ k (g' i j)) := by
  intro S H x y a b Q k dm rx ry ⟨i, j, e1, e2, q⟩ hq
  subst e1 e2; cases rx; cases ry
  exact ⟨i, j, rfl, rfl, hq _ H _ q (Same.refl H) (hg i j S H)⟩
theorem opd_I {C : Int → Int → Prop} {g : Int → Int → V} {g' : Int → Int → D} (hg : ∀ i j S H, Rep K S H (g i j) (g' i j)) : OpD K (rI C g) (fun a b k => ∃ i j, a = .int i ∧ b = .int j ∧ C i j ∧ k (g' i j)) := by
  intro S H x y a b Q k dm rx ry ⟨i, j, e1, e2, c, q⟩ hq
  subst e1 e2; cases rx; cases ry
  exact ⟨i, j, rfl, rfl, c, hq _ H _ q (Same.refl H) (hg i j S H)⟩
theorem opd_add : OpD K (rI0 fun i j => .int (i + j)) (fun a b k => ∃ i j, a = .int i ∧ b = .int j ∧ k (.int (i + j))) := opd_I0 fun _ _ _ _ => .int _
theorem opd_sub : OpD K (rI0 fun i j => .int (i - j)) (fun a b k => ∃ i j, a = .int i ∧ b = .int j ∧ k (.int (i - j))) := opd_I0 fun _ _ _ _ => .int _
theorem opd_mul : OpD K (rI CMul fun i j => .int (i * j)) (fun a b k => ∃ i j, a = .int i ∧ b = .int j ∧ CMul i j ∧ k (.int (i * j))) := opd_I fun _ _ _ _ => .int _
theorem opd_fdivN : OpD K (rI CDivN fun i j => .int (i.fdiv j)) (fun a b k => ∃ i j, a = .int i ∧ b = .int j ∧ CDivN i j ∧ k (.int (i.fdiv j))) := opd_I fun _ _ _ _ => .int _
theorem opd_mod : OpD K (rI (fun _ j => 0 < j) fun i j => .int (i % j)) (fun a b k => ∃ i j, a = .int i ∧ b = .int j ∧ 0 < j ∧ k (.int (i % j))) := opd_I (C := fun _ j => 0 < j) fun _ _ _ _ => .int _
theorem opd_pow : OpD K (rI CPow fun i j => .int (i ^ j.toNat)) (fun a b k => ∃ i j, a = .int i ∧ b = .int j ∧ CPow i j ∧ k (.int (i ^ j.toNat))) := opd_I fun _ _ _ _ => .int _
theorem opd_lt : OpD K (rI0 fun i j => .bl (decide (i < j))) (fun a b k => ∃ i j, a = .int i ∧ b = .int j ∧ k (.bl (decide (i < j)))) := opd_I0 fun _ _ _ _ => .bl _
theorem opd_le : OpD K (rI0 fun i j => .bl (decide (i ≤ j))) (fun a b k => ∃ i j, a = .int i ∧ b = .int j ∧ k (.bl (decide (i ≤ j)))) := opd_I0 fun _ _ _ _ => .bl _
theorem opd_gt : OpD K (rI0 fun i j => .bl (decide (j < i))) (fun a b k => ∃ i j, a = .int i ∧ b = .int j ∧ k (.bl (decide (j < i)))) := opd_I0 fun _ _ _ _ => .bl _
theorem opd_ge : OpD K (rI0 fun i j => .bl (decide (j ≤ i))) (fun a b k => ∃ i j, a = .int i ∧ b = .int j ∧ k (.bl (decide (j ≤ i)))) := opd_I0 fun _ _ _ _ => .bl _
/-- flat data -/
def D.flat : D → Bool
  | .non => true
  | .bl _ => true
  | .int _ => true
  | .str _ => true
  | _ => false
def D.v : D → V
  | .bl b => .bl b
  | .int i => .int i
  | .str s => .str s
  | _ => .non
theorem D.flat_v {S : Addr → Prop} {H : Hp} {x : V} {d : D} (r : Rep K S H x d) (f : d.flat = true) : x = d.v ∧ flatV x = true := by
  cases r <;> first | exact ⟨rfl, rfl⟩ | cases f
theorem D.rep {S : Addr → Prop} {H : Hp} {d : D} (f : d.flat = true) : Rep K S H d.v d := by
  cases d <;> first | constructor | cases f
theorem Reps.flat {S : Addr → Prop} {H : Hp} : ∀ {xs : List V} {ds : List D}, Reps K S H xs ds → ds.all D.flat = true → xs = ds.map D.v ∧ xs.all flatV = true
  | _, _, .nil, _ => ⟨rfl, rfl⟩
  | _, _, .cons h t, f => by
    rw [List.all_cons, Bool.and_eq_true] at f
    obtain ⟨e1, f1⟩ := D.flat_v h f.1
    obtain ⟨e2, f2⟩ := Reps.flat t f.2
    exact ⟨by rw [e1, e2]; rfl, by rw [List.all_cons, f1, f2]; rfl⟩
/-- == of flat data -/
def D.eqf (a b : D) : Bool := eqV a.v b.v
/-- scalars by == (op_eq) -/
theorem opd_eq : OpD K rEq (fun a b k => a.flat = true ∧ b.flat = true ∧ scal a.v b.v = true ∧ k (.bl (decide (a.v = b.v)))) := by
  intro S H x y a b Q k dm rx ry ⟨fa, fb, sc, q⟩ hq
  obtain ⟨e1, _⟩ := D.flat_v rx fa
  obtain ⟨e2, _⟩ := D.flat_v ry fb
  subst e1 e2
  exact ⟨sc, hq _ H _ q (Same.refl H) (.bl _)⟩
theorem opd_ne : OpD K rNe (fun a b k => a.flat = true ∧ b.flat = true ∧ scal a.v b.v = true ∧ k (.bl (!decide (a.v = b.v)))) := by
  intro S H x y a b Q k dm rx ry ⟨fa, fb, sc, q⟩ hq
  obtain ⟨e1, _⟩ := D.flat_v rx fa
  obtain ⟨e2, _⟩ := D.flat_v ry fb
  subst e1 e2
  exact ⟨sc, hq _ H _ q (Same.refl H) (.bl _)⟩
/-- x in a list or a tuple of flat data -/
def inD (a : D) (xs : List D) : Bool := inV a.v (xs.map D.v)
theorem opd_in {neg : Bool} : OpD K (rIn K neg) (fun a b k => ∃ xs, (b = .lst xs ∨ b = .tup xs) ∧ a.flat = true ∧ xs.all D.flat = true ∧ k (.bl (if neg then !inD a xs else inD a xs))) := by
  intro S H x y a b Q k dm rx ry ⟨xs, hb, fa, fx, q⟩ hq
  obtain ⟨e1, f1⟩ := D.flat_v rx fa
  subst e1
  rcases hb with hb | hb
  · subst hb
    cases ry with
    | lst n h r =>
      obtain ⟨e2, f2⟩ := Reps.flat r fx
      refine ⟨_, _, rfl, .inl (SqL.of h), f1, f2, ?_⟩
      rw [e2]
      exact hq _ H _ q (Same.refl H) (.bl _)
  · subst hb
    cases ry with
    | tup n h r =>
      obtain ⟨e2, f2⟩ := Reps.flat r fx
      refine ⟨_, _, rfl, .inr (SqT.of h), f1, f2, ?_⟩
      rw [e2]
      exact hq _ H _ q (Same.refl H) (.bl _)
theorem opd_in_sign : OpD K (fun x y H Q => ∃ (c : Nat) (z : Str), x = .str ⟨#[c]⟩ ∧ y = .str z ∧ Q (.bl (decide (c ∈ z.cps.toList))) H) (fun a b k => ∃ (c : Nat) (z : Str), a = .str ⟨#[c]⟩ ∧ b = .str z ∧ k (.bl (decide (c ∈ z.cps.toList)))) := by
  intro S H x y a b Q k dm rx ry ⟨c, z, e1, e2, q⟩ hq
  subst e1 e2; cases rx; cases ry
  exact ⟨c, z, rfl, rfl, hq _ H _ q (Same.refl H) (.bl _)⟩
def D.isN : D → Bool
  | .non => true
  | _ => false
theorem opd_isN : OpD K (fun x y H Q => y = .non ∧ Q (.bl (decide (x = .non))) H) (fun a b k => b = .non ∧ k (.bl a.isN)) := by
  intro S H x y a b Q k dm rx ry ⟨e2, q⟩ hq
  subst e2; cases ry
  refine ⟨rfl, ?_⟩
  have e : decide (x = V.non) = a.isN := by cases rx <;> rfl
  rw [e]
  exact hq _ H _ q (Same.refl H) (.bl _)
theorem opd_notN : OpD K (fun x y H Q => y = .non ∧ Q (.bl (!decide (x = .non))) H) (fun a b k => b = .non ∧ k (.bl (!a.isN))) := by
  intro S H x y a b Q k dm rx ry ⟨e2, q⟩ hq
  subst e2; cases ry
  refine ⟨rfl, ?_⟩
  have e : (!decide (x = V.non)) = (!a.isN) := by cases rx <;> rfl
  rw [e]
  exact hq _ H _ q (Same.refl H) (.bl _)
/-- a new list of results -/
theorem own_new {S : Addr → Prop} {H : Hp} {p : Addr} {xs : List V} {ds : List D} (np : H p = none) (r : Reps K S H xs ds) : OwnAt K (fun b => S b ∨ b = p) (upd H p (.lst xs)) p (.lst ds) :=
  ⟨xs, upd_same, Reps.same (Reps.avoid (fun a z => z.elim .inl fun e => .inr (e ▸ np)) r) (Same.put np)⟩
/-- operators that make a new list -/
def OpF (K : PySem.W.Frag) (r : R2) (f : D → D → (Ow → Prop) → Prop) : Prop := ∀ (S : Addr → Prop) (H : Hp) (x y : V) (a b : D) (Q : VK) (k : Ow → Prop), (∀ a, S a → H a ≠ none) → Rep K S H x a → Rep K S H y b → f a b k →
  (∀ p H' o, k o → Same H H' → H p = none → OwnAt K (fun b => S b ∨ b = p) H' p o → Q (.ref p) H') → r x y H Q
theorem OpF.op {r : R2} {f : D → D → (Ow → Prop) → Prop} (h : OpF K r f) : OpD K r (fun a b k => f a b fun o => k o.d) := fun S H x y a b Q k dm rx ry hf hq =>
  h S H x y a b Q _ dm rx ry hf fun p H' o ko s n r => hq _ H' _ ko s (OwnAt.rep (T := fun _ => False) r fun z => dm p z n)
theorem df_op {r : R2} {f : D → D → (Ow → Prop) → Prop} {ta tb : TE} {k : Ow → Prop} (hr : OpF K r f) (h : DT K E ta G O (fun a => DT K E tb G O (fun b => f a b k) ke) ke) : DF K E (tOp r ta tb) G O k ke := fun S0 Os σ H Q st hq he =>
  h.bind st he fun x H1 a ha s1 st1 he1 rx => ha.bind st1 he1 fun y H2 b hb s2 st2 he2 ry =>
    hr _ H2 x y a b Q k st2.domW (rx.same s2) ry hb fun p H' d kd s n r => hq p H' d kd ((s1.trans s2).trans s) ((s1.trans s2).free n) r
theorem opf_cat : OpF K rCat (fun a b k => ∃ xs ys, a = .lst xs ∧ b = .lst ys ∧ xs.length + ys.length ≤ sizeLine ∧ k (.lst (xs ++ ys))) := by
  intro S H x y a b Q k dm rx ry ⟨xs, ys, e1, e2, l, q⟩ hq
  subst e1 e2
  cases rx with
  | lst n h r =>
    cases ry with
    | lst n2 h2 r2 =>
      exact ⟨_, _, _, _, rfl, rfl, h, h2, by rw [r.length, r2.length]; exact l, fun p np => hq p _ _ q (Same.put np) np (own_new np (r.append r2))⟩
theorem reps_rep {S : Addr → Prop} {H : Hp} {xs : List V} {ds : List D} (r : Reps K S H xs ds) : ∀ n : Nat, Reps K S H (List.replicate n xs).flatten (List.replicate n ds).flatten
  | 0 => .nil
  | n + 1 => by
    rw [List.replicate_succ, List.replicate_succ, List.flatten_cons, List.flatten_cons]
    exact r.append (reps_rep r n)
theorem opf_rep : OpF K rRep (fun a b k => ∃ xs i, a = .lst xs ∧ b = .int i ∧ -(2 ^ 63) ≤ i ∧ i < 2 ^ 63 ∧ xs.length * i.toNat ≤ sizeLine ∧ k (.lst (List.replicate i.toNat xs).flatten)) := by
  intro S H x y a b Q k dm rx ry ⟨xs, i, e1, e2, l1, l2, l3, q⟩ hq
  subst e1 e2
  cases ry
  cases rx with
  | lst n h r => exact ⟨_, _, _, rfl, rfl, h, l1, l2, by rw [r.length]; exact l3, fun p np => hq p _ _ q (Same.put np) np (own_new np (reps_rep r _))⟩

/-! ### subscripts -/
theorem atI_rep {S : Addr → Prop} {H : Hp} {xs : List V} {ds : List D} {i : Int} {d : D} (r : Reps K S H xs ds) (h : atI ds i = some d) : ∃ v, atI xs i = some v ∧ Rep K S H v d := by
  unfold atI at h ⊢
  rw [r.length]
  cases e : ixN ds.length i with
  | none => rw [e] at h; cases h
  | some j =>
    rw [e] at h
    exact r.get' h
theorem opd_ixL : OpD K (rIxL K) (fun a b k => ∃ xs i d, a = .lst xs ∧ b = .int i ∧ atI xs i = some d ∧ k d) := by
  intro S H x y a b Q k dm rx ry ⟨xs, i, d, e1, e2, l, q⟩ hq
  subst e1 e2
  cases ry
  cases rx with
  | lst n h r =>
    obtain ⟨v, hv, rv⟩ := atI_rep r l
    exact ⟨_, _, _, v, rfl, rfl, SqL.of h, hv, hq _ H _ q (Same.refl H) rv⟩
theorem opd_ixT : OpD K (rIxT K) (fun a b k => ∃ xs i d, a = .tup xs ∧ b = .int i ∧ atI xs i = some d ∧ k d) := by
  intro S H x y a b Q k dm rx ry ⟨xs, i, d, e1, e2, l, q⟩ hq
  subst e1 e2
  cases ry
  cases rx with
  | tup n h r =>
    obtain ⟨v, hv, rv⟩ := atI_rep r l
    exact ⟨_, _, _, v, rfl, rfl, SqT.of h, hv, hq _ H _ q (Same.refl H) rv⟩
/-- a dict's entry -/
def getD (kvs : List (Key × D)) (k : Key) : Option D := (kvs.find? fun kv => decide (kv.1 = k)).map (·.2)
theorem valV_rep {S : Addr → Prop} {H : Hp} {k : Key} : ∀ {kvs : List (Key × V)} {ds : List (Key × D)}, kvs.map Prod.fst = ds.map Prod.fst → Reps K S H (kvs.map Prod.snd) (ds.map Prod.snd) →
    (getD ds k = none ∧ valV kvs k = none) ∨ ∃ v d, getD ds k = some d ∧ valV kvs k = some v ∧ Rep K S H v d
  | [], [], _, _ => .inl ⟨rfl, rfl⟩
  | [], _ :: _, h, _ => by simp at h
  | _ :: _, [], h, _ => by simp at h
  | p :: r, q :: s, h, .cons hv t => by
    have h1 : p.1 = q.1 := by simpa using (List.cons.inj (by simpa using h)).1
    have h2 : r.map Prod.fst = s.map Prod.fst := by simpa using (List.cons.inj (by simpa using h)).2
    by_cases e : q.1 = k
    · refine .inr ⟨p.2, q.2, ?_, valV_pos (h1.trans e), hv⟩
      unfold getD; rw [List.find?_cons_of_pos (by simpa using e)]; rfl
    · have e2 : getD (q :: s) k = getD s k := by
        show Option.map _ _ = Option.map _ _
        rw [List.find?_cons_of_neg (by simpa using e)]
      rw [e2, valV_neg (fun z => e (h1.symm.trans z))]
      exact valV_rep h2 t
theorem kV_key {S : Addr → Prop} {H : Hp} {y : V} {b : D} {k : Key} (e : b = (match k with | .inl i => .int i | .inr s => .str s)) (r : Rep K S H y b) : y = kV k := by
  subst e
  cases k <;> (cases r; rfl)
def kD : Key → D
  | .inl i => .int i
  | .inr s => .str s
theorem kD_rep {S : Addr → Prop} {H : Hp} (k : Key) : Rep K S H (kV k) (kD k) := by cases k <;> constructor
theorem kD_v {S : Addr → Prop} {H : Hp} {y : V} {k : Key} (r : Rep K S H y (kD k)) : y = kV k := by cases k <;> (cases r; rfl)
theorem dt_dget {td ty : TE} {k : D → Prop} (h : DT K E td G O (fun a => DT K E ty G O (fun b => ∃ kvs key d, a = .dic kvs ∧ b = kD key ∧ getD kvs key = some d ∧ k d) ke) ke) : DT K E (tDGet td ty) G O k ke := fun S0 Os σ H Q st hq he =>
  h.bind st he fun x H1 a ha s1 st1 he1 rx => ha.bind st1 he1 fun y H2 b ⟨kvs, key, d, e1, e2, g, kd⟩ s2 st2 he2 ry => by
    subst e1 e2
    have ey := kD_v ry
    subst ey
    have rx2 := rx.same s2
    cases rx2 with
    | dic n hr e r =>
      rcases valV_rep (k := key) e r with ⟨z, _⟩ | ⟨v, d', g1, g2, rv⟩
      · rw [g] at z; cases z
      · rw [g] at g1; cases g1
        exact ⟨_, v, rfl, .inl ⟨_, key, hr, rfl, g2.symm⟩, hq v H2 _ kd (s1.trans s2) rv⟩
theorem dt_din {td ty : TE} {k : D → Prop} (h : DT K E ty G O (fun b => DT K E td G O (fun a => ∃ kvs key, a = .dic kvs ∧ b = kD key ∧ k (.bl (getD kvs key).isSome)) ke) ke) : DT K E (tDIn ty td) G O k ke := fun S0 Os σ H Q st hq he =>
  h.bind st he fun y H1 b hb s1 st1 he1 ry => hb.bind st1 he1 fun x H2 a ⟨kvs, key, e1, e2, kd⟩ s2 st2 he2 rx => by
    subst e1 e2
    have ey := kD_v ry
    subst ey
    cases rx with
    | dic n hr e r =>
      refine ⟨_, _, rfl, .inl ⟨_, key, hr, rfl, rfl⟩, ?_⟩
      rcases valV_rep (k := key) e r with ⟨z1, z2⟩ | ⟨v, d', g1, g2, rv⟩
      · rw [z2]; rw [z1] at kd; exact hq _ H2 _ kd (s1.trans s2) (.bl _)
      · rw [g2]; rw [g1] at kd; exact hq _ H2 _ kd (s1.trans s2) (.bl _)
theorem dt_dnotin {td ty : TE} {k : D → Prop} (h : DT K E ty G O (fun b => DT K E td G O (fun a => ∃ kvs key, a = .dic kvs ∧ b = kD key ∧ k (.bl (!(getD kvs key).isSome))) ke) ke) : DT K E (tDNotIn ty td) G O k ke := fun S0 Os σ H Q st hq he =>
  h.bind st he fun y H1 b hb s1 st1 he1 ry => hb.bind st1 he1 fun x H2 a ⟨kvs, key, e1, e2, kd⟩ s2 st2 he2 rx => by
    subst e1 e2
    have ey := kD_v ry
    subst ey
    cases rx with
    | dic n hr e r =>
      refine ⟨_, _, rfl, .inl ⟨_, key, hr, rfl, rfl⟩, ?_⟩
      rcases valV_rep (k := key) e r with ⟨z1, z2⟩ | ⟨v, d', g1, g2, rv⟩
      · rw [z2]; rw [z1] at kd; exact hq _ H2 _ kd (s1.trans s2) (.bl _)
      · rw [g2]; rw [g1] at kd; exact hq _ H2 _ kd (s1.trans s2) (.bl _)

/-! ### slices of lists -/
def cutD (xs : List D) (lo hi : Option Int) : List D := (xs.drop (HT.sIx xs.length 0 lo)).take (HT.sIx xs.length xs.length hi - HT.sIx xs.length 0 lo)
def DO (K : PySem.W.Frag) (E : XK) (t : TO) (G : Gm) (O : OL) (k : Option Int → Prop) (ke : Xd → Prop) : Prop := ∀ (S0 : Addr → Prop) (Os : OLa) (σ : L2.St) (H : Hp) (Q : Option Int → Hp → Prop), St1 K S0 G O Os σ H →
  (∀ i H', k i → Same H H' → Q i H') → EOk K (SO S0 Os) H E ke → t σ H Q
theorem do_none {k : Option Int → Prop} (q : k none) : DO K E tNoPart G O k ke := fun S0 Os σ H Q st hq he => hq none H q (Same.refl H)
theorem do_some {t : TE} {k : Option Int → Prop} (h : DT K E t G O (fun d => ∃ i, d = .int i ∧ k (some i)) ke) : DO K E (tPart t) G O k ke := fun S0 Os σ H Q st hq he =>
  h.bind st he fun x H1 d ⟨i, e, q⟩ s1 st1 he1 rx => by subst e; cases rx; exact ⟨i, rfl, hq _ H1 q s1⟩
theorem df_slL {te : TE} {tl th : TO} {k : Ow → Prop} (h : DT K E te G O (fun a => DO K E tl G O (fun l => DO K E th G O (fun u => ∃ xs, a = .lst xs ∧ k (.lst (cutD xs l u))) ke) ke) ke) : DF K E (tSl (rSlL K) te tl th) G O k ke := fun S0 Os σ H Q st hq he =>
  h.bind st he fun x H1 a ha s1 st1 he1 rx => ha S0 Os σ H1 _ st1 (fun l H2 hl s2 => hl S0 Os σ H2 _ (st1.same s2) (fun u H3 ⟨xs, e, q⟩ s3 => by
    subst e
    have rx3 := rx.same (s2.trans s3)
    cases rx3 with
    | lst n hh r =>
      refine ⟨_, _, rfl, SqL.of hh, fun p np => hq p _ _ q ((s1.trans (s2.trans s3)).trans (Same.put np)) ((s1.trans (s2.trans s3)).free np) (own_new np ?_)⟩
      unfold cutV cutD
      rw [r.length]
      exact (r.drop _).take _) (he1.same s2)) he1

/-! ### built-in calls -/
theorem caf_list : CaF K (fun xs H Q => ∃ p ys, xs = [.ref p] ∧ (SqL K H p ys ∨ SqT K H p ys) ∧ ∀ l, H l = none → Q (.ref l) (upd H l (.lst ys))) (fun ds k => ∃ xs, (ds = [.lst xs] ∨ ds = [.tup xs]) ∧ k (.lst xs)) := by
  intro S H xs ds Q k dm rx ⟨ys, e, q⟩ hq
  rcases e with e | e <;> subst e
  · cases rx with
    | cons h t =>
      cases t
      cases h with
      | lst n hh r => exact ⟨_, _, rfl, .inl (SqL.of hh), fun p np => hq p _ _ q (Same.put np) np (own_new np r)⟩
  · cases rx with
    | cons h t =>
      cases t
      cases h with
      | tup n hh r => exact ⟨_, _, rfl, .inr (SqT.of hh), fun p np => hq p _ _ q (Same.put np) np (own_new np r)⟩
theorem reps_kV {S : Addr → Prop} {H : Hp} : ∀ {kvs : List (Key × V)} {ds : List (Key × D)}, kvs.map Prod.fst = ds.map Prod.fst → Reps K S H (kvs.map fun kv => kV kv.1) (ds.map fun kv => kD kv.1)
  | [], [], _ => .nil
  | [], _ :: _, h => by simp at h
  | _ :: _, [], h => by simp at h
  | p :: r, q :: s, h => by
    have h1 : p.1 = q.1 := by simpa using (List.cons.inj (by simpa using h)).1
    have h2 : r.map Prod.fst = s.map Prod.fst := by simpa using (List.cons.inj (by simpa using h)).2
    refine .cons ?_ (reps_kV h2)
    show Rep K S H (kV p.1) (kD q.1)
    rw [h1]; exact kD_rep _
theorem caf_listD : CaF K (fun xs H Q => ∃ (a : Addr) (kvs : List (Key × V)), xs = [.ref a] ∧ Rd H a (.dK kvs) ∧ ∀ p, H p = none → Q (.ref p) (upd H p (.lst (kvs.map fun kv => kV kv.1)))) (fun ds k => ∃ kvs : List (Key × D), ds = [.dic kvs] ∧ k (.lst (kvs.map fun kv => kD kv.1))) := by
  intro S H xs ds Q k dm rx ⟨ys, e, q⟩ hq
  subst e
  cases rx with
  | cons h t =>
    cases t
    cases h with
    | dic n hh e r => exact ⟨_, _, rfl, hh, fun p np => hq p _ _ q (Same.put np) np (own_new np (reps_kV e))⟩
theorem caf_dictD : CaF K (fun xs H Q => ∃ (a : Addr) (kvs : List (Key × V)), xs = [.ref a] ∧ Rd H a (.dK kvs) ∧ ∀ p, H p = none → Q (.ref p) (upd H p (.dK kvs))) (fun ds k => ∃ kvs : List (Key × D), ds = [.dic kvs] ∧ k (.dic kvs)) := by
  intro S H xs ds Q k dm rx ⟨ys, e, q⟩ hq
  subst e
  cases rx with
  | cons h t =>
    cases t
    cases h with
    | dic n hh e r => exact ⟨_, _, rfl, hh, fun p np => hq p _ _ q (Same.put np) np ⟨_, upd_same, e, Reps.same (Reps.avoid (fun a z => z.elim .inl fun e => .inr (e ▸ np)) r) (Same.put np)⟩⟩
theorem cad_all : CaD K (rAll K) (fun ds k => ∃ bs : List Bool, ds = [.lst (bs.map D.bl)] ∧ k (.bl (bs.all id))) := by
  intro S H xs ds Q k dm rx ⟨bs, e, q⟩ hq
  subst e
  cases rx with
  | cons h t =>
    cases t
    cases h with
    | lst n hh r =>
      have e := r.bls
      subst e
      exact ⟨_, bs, rfl, SqL.of hh, hq _ H _ q (Same.refl H) (.bl _)⟩
theorem cad_any : CaD K (rAny K) (fun ds k => ∃ bs : List Bool, ds = [.lst (bs.map D.bl)] ∧ k (.bl (bs.any id))) := by
  intro S H xs ds Q k dm rx ⟨bs, e, q⟩ hq
  subst e
  cases rx with
  | cons h t =>
    cases t
    cases h with
    | lst n hh r =>
      have e := r.bls
      subst e
      exact ⟨_, bs, rfl, SqL.of hh, hq _ H _ q (Same.refl H) (.bl _)⟩
theorem cad_sum : CaD K (rSum K) (fun ds k => ∃ bs : List Int, ds = [.lst (bs.map D.int)] ∧ k (.int bs.sum)) := by
  intro S H xs ds Q k dm rx ⟨bs, e, q⟩ hq
  subst e
  cases rx with
  | cons h t =>
    cases t
    cases h with
    | lst n hh r =>
      have e := r.ints
      subst e
      exact ⟨_, bs, rfl, SqL.of hh, hq _ H _ q (Same.refl H) (.int _)⟩
theorem caf_sortedS : CaF K (rSortedS K) (fun ds k => ∃ ss : List Str, ds = [.lst (ss.map D.str)] ∧ ss.length < 64 ∧ ∀ ys : List Str, ys.Perm ss → sortedS ys = true → k (.lst (ys.map D.str))) := by
  intro S H xs ds Q k dm rx ⟨ss, e, l, q⟩ hq
  subst e
  cases rx with
  | cons h t =>
    cases t
    cases h with
    | lst n hh r =>
      have e := r.strs
      subst e
      exact ⟨_, ss, rfl, SqL.of hh, l, fun ys p pm so np => hq p _ _ (q ys pm so) (Same.put np) np (own_new np (reps_strs ys))⟩
theorem caf_sortedD : CaF K (fun xs H Q => ∃ (a : Addr) (kvs : List (Key × V)) (ks : List Str), xs = [.ref a] ∧ Rd H a (.dK kvs) ∧ kvs.map (·.1) = ks.map Sum.inr ∧ ks.length < 64 ∧ ∀ ys p, ys.Perm ks → sortedS ys = true → H p = none → Q (.ref p) (upd H p (.lst (ys.map V.str))))
    (fun ds k => ∃ (kvs : List (Key × D)) (ss : List Str), ds = [.dic kvs] ∧ kvs.map (·.1) = ss.map Sum.inr ∧ ss.length < 64 ∧ ∀ ys : List Str, ys.Perm ss → sortedS ys = true → k (.lst (ys.map D.str))) := by
  intro S H xs ds Q k dm rx ⟨kvs, ss, e, ek, l, q⟩ hq
  subst e
  cases rx with
  | cons h t =>
    cases t
    cases h with
    | dic n hh e r =>
      exact ⟨_, _, ss, rfl, hh, e.trans ek, l, fun ys p pm so np => hq p _ _ (q ys pm so) (Same.put np) np (own_new np (reps_strs ys))⟩
/-- len -/
def lenD : D → Option Nat
  | .str s => some s.length
  | .lst xs => some xs.length
  | .tup xs => some xs.length
  | .dic kvs => some kvs.length
  | _ => none
theorem cad_max2 : CaD K (fun xs H Q => ∃ i j, xs = [.int i, .int j] ∧ Q (.int (if j > i then j else i)) H) (fun ds k => ∃ i j, ds = [.int i, .int j] ∧ k (.int (if j > i then j else i))) := by
  intro S H xs ds Q k dm rx ⟨i, j, e, q⟩ hq
  subst e
  cases rx with | cons h t => cases h; cases t with | cons h t => cases h; cases t; exact ⟨i, j, rfl, hq _ H _ q (Same.refl H) (.int _)⟩
theorem cad_min2 : CaD K (fun xs H Q => ∃ i j, xs = [.int i, .int j] ∧ Q (.int (if j < i then j else i)) H) (fun ds k => ∃ i j, ds = [.int i, .int j] ∧ k (.int (if j < i then j else i))) := by
  intro S H xs ds Q k dm rx ⟨i, j, e, q⟩ hq
  subst e
  cases rx with | cons h t => cases h; cases t with | cons h t => cases h; cases t; exact ⟨i, j, rfl, hq _ H _ q (Same.refl H) (.int _)⟩
theorem cad_int1 : CaD K (fun xs H Q => (∃ i, xs = [.int i] ∧ Q (.int i) H) ∨ ∃ k, xs = [.bl k] ∧ Q (.int (if k then 1 else 0)) H) (fun ds k => (∃ i, ds = [.int i] ∧ k (.int i)) ∨ ∃ b, ds = [.bl b] ∧ k (.int (if b then 1 else 0))) := by
  intro S H xs ds Q k dm rx h hq
  rcases h with ⟨i, e, q⟩ | ⟨b, e, q⟩
  · subst e
    cases rx with | cons h t => cases h; cases t; exact .inl ⟨i, rfl, hq _ H _ q (Same.refl H) (.int _)⟩
  · subst e
    cases rx with | cons h t => cases h; cases t; exact .inr ⟨b, rfl, hq _ H _ q (Same.refl H) (.int _)⟩
end
end Fw

set_option maxHeartbeats 4000000
/-! Specs of defs, calls, objects, statements, loops, comprehensions, by data. -/
namespace Fw
open PySem PySem.Spec PyProof.Rows L2
abbrev Wt := List D → (D → Prop) → (Xd → Prop) → Prop
/-- a def that changes nothing that stands: what it gives, by data -/
def spD (K : PySem.W.Frag) (w : Wt) : Sp := fun vs H Q E => ∃ (S : Addr → Prop) (ds : List D) (k : D → Prop) (ke : Xd → Prop), (∀ a, S a → H a ≠ none) ∧ Reps K S H vs ds ∧ w ds k ke ∧
  (∀ v H' d, k d → Same H H' → Rep K S H' v d → Q v H') ∧ EOk K S H E ke
abbrev WtI := List D → (List (Str × D) → Prop) → (Xd → Prop) → Prop
/-- an __init__: what the fields are -/
def spI (K : PySem.W.Frag) (c : Str) (w : WtI) : Sp := fun vs H Q E => ∃ (S : Addr → Prop) (x dx : Addr) (vs' : List V) (ds : List D) (k : List (Str × D) → Prop) (ke : Xd → Prop),
  vs = .ref x :: vs' ∧ H x = some (.ins (He.ga K c) dx []) ∧ ¬ S x ∧ (∀ a, S a → H a ≠ none) ∧ Reps K (fun b => S b ∨ b = x) H vs' ds ∧ w ds k ke ∧
  (∀ H' fs, k fs → SameX (fun b => b = x) H H' → OwnAt K (fun b => S b ∨ b = x) H' x (.obj c fs) → Q .non H') ∧ EOk K S (del H x) E ke
abbrev F0 : Xd → Prop := fun _ => False

section
variable {K : PySem.W.Frag} {E : XK} {G : Gm} {O : OL} {ke : Xd → Prop}
theorem eok_e0 {S : Addr → Prop} {H : Hp} {E : XK} : EOk K S H E F0 := fun _ _ _ _ z => z.elim
theorem dt_call0 {w : Wt} {t : TA} {k : D → Prop} (h : DA K E t G O (fun ds => w ds k F0) ke) : DT K E (tCall (spD K w) [] E0 t) G O k ke := fun S0 Os σ H Q st hq he =>
  h.bind st he fun xs H1 ds ha s1 st1 he1 rx => by
    show spD K w (xs ++ []) H1 Q E0
    rw [List.append_nil]
    exact ⟨SO S0 Os, ds, k, F0, st1.domW, rx, ha, fun v H' d kd s r => hq v H' d kd (s1.trans s) r, eok_e0⟩
theorem dt_callE {w : Wt} {t : TA} {k : D → Prop} (h : DA K E t G O (fun ds => w ds k ke) ke) : DT K E (tCall (spD K w) [] E t) G O k ke := fun S0 Os σ H Q st hq he =>
  h.bind st he fun xs H1 ds ha s1 st1 he1 rx => by
    show spD K w (xs ++ []) H1 Q E
    rw [List.append_nil]
    exact ⟨SO S0 Os, ds, k, ke, st1.domW, rx, ha, fun v H' d kd s r => hq v H' d kd (s1.trans s) r, he1⟩
theorem lookup_rep {S : Addr → Prop} {H : Hp} {f : Str} : ∀ {fs : List (Str × V)} {ds : List (Str × D)}, fs.map Prod.fst = ds.map Prod.fst → Reps K S H (fs.map Prod.snd) (ds.map Prod.snd) →
    (ds.lookup f = none ∧ fs.lookup f = none) ∨ ∃ v d, ds.lookup f = some d ∧ fs.lookup f = some v ∧ Rep K S H v d
  | [], [], _, _ => .inl ⟨rfl, rfl⟩
  | [], _ :: _, h, _ => by simp at h
  | _ :: _, [], h, _ => by simp at h
  | (p, v) :: r, (q, d) :: s, h, .cons hv t => by
    have h1 : p = q := by simpa using (List.cons.inj (by simpa using h)).1
    have h2 : r.map Prod.fst = s.map Prod.fst := by simpa using (List.cons.inj (by simpa using h)).2
    subst h1
    cases hb : f == p with
    | true => exact .inr ⟨v, d, by rw [List.lookup_cons, hb], by rw [List.lookup_cons, hb], hv⟩
    | false =>
      rw [List.lookup_cons, List.lookup_cons, hb]
      exact lookup_rep h2 t
theorem dt_meth0 {w : Wt} {c m : Str} {ta : TE} {t : TA} {k : D → Prop} (h : DT K E ta G O (fun a => ∃ fs, a = .obj c fs ∧ fs.lookup m = none ∧ DA K E t G O (fun ds => w (a :: ds) k F0) ke) ke) :
    DT K E (tMeth (He.ga K c) m (spD K w) [] E0 ta t) G O k ke := fun S0 Os σ H Q st hq he =>
  h.bind st he fun x H1 a ⟨fs, e, l, ha⟩ s1 st1 he1 rx => by
    subst e
    have rx0 := rx
    cases rx with
    | obj n hh ef r =>
      refine ⟨_, _, _, rfl, hh, ?_, ha.bind st1 he1 fun xs H2 ds hw s2 st2 he2 ry => ?_⟩
      · rcases lookup_rep (f := m) ef r with ⟨_, z⟩ | ⟨v, d, z, _⟩
        · exact z
        · rw [l] at z; cases z
      · rw [List.append_nil]
        exact ⟨SO S0 Os, _, k, F0, st2.domW, .cons (rx0.same s2) ry, hw, fun v H' d kd s r => hq v H' d kd ((s1.trans s2).trans s) r, eok_e0⟩
theorem dt_methE {w : Wt} {c m : Str} {ta : TE} {t : TA} {k : D → Prop} (h : DT K E ta G O (fun a => ∃ fs, a = .obj c fs ∧ fs.lookup m = none ∧ DA K E t G O (fun ds => w (a :: ds) k ke) ke) ke) :
    DT K E (tMeth (He.ga K c) m (spD K w) [] E ta t) G O k ke := fun S0 Os σ H Q st hq he =>
  h.bind st he fun x H1 a ⟨fs, e, l, ha⟩ s1 st1 he1 rx => by
    subst e
    have rx0 := rx
    cases rx with
    | obj n hh ef r =>
      refine ⟨_, _, _, rfl, hh, ?_, ha.bind st1 he1 fun xs H2 ds hw s2 st2 he2 ry => ?_⟩
      · rcases lookup_rep (f := m) ef r with ⟨_, z⟩ | ⟨v, d, z, _⟩
        · exact z
        · rw [l] at z; cases z
      · rw [List.append_nil]
        exact ⟨SO S0 Os, _, k, ke, st2.domW, .cons (rx0.same s2) ry, hw, fun v H' d kd s r => hq v H' d kd ((s1.trans s2).trans s) r, he2⟩
theorem dt_prop {w : Wt} {c : Str} {ta : TE} {k : D → Prop} (h : DT K E ta G O (fun a => ∃ fs, a = .obj c fs ∧ w [a] k F0) ke) :
    DT K E (tProp (He.ga K c) (spD K w) [] E0 ta) G O k ke := fun S0 Os σ H Q st hq he =>
  h.bind st he fun x H1 a ⟨fs, e, ha⟩ s1 st1 he1 rx => by
    subst e
    have rx0 := rx
    cases rx with
    | obj n hh ef r => exact ⟨_, _, _, rfl, hh, SO S0 Os, _, k, F0, st1.domW, .cons rx0 .nil, ha, fun v H' d kd s r => hq v H' d kd (s1.trans s) r, eok_e0⟩
theorem dt_fld {c f : Str} {ta : TE} {k : D → Prop} (cl : Cls K (He.ga K c)) (na : NoAttr K (He.ga K c) f) (h : DT K E ta G O (fun a => ∃ fs d, a = .obj c fs ∧ fs.lookup f = some d ∧ k d) ke) : DT K E (tFld K ta f) G O k ke := fun S0 Os σ H Q st hq he =>
  h.bind st he fun x H1 a ⟨fs, d, e, l, kd⟩ s1 st1 he1 rx => by
    subst e
    cases rx with
    | obj n hh ef r =>
      rcases lookup_rep (f := f) ef r with ⟨z, _⟩ | ⟨v, d', z1, z2, rv⟩
      · rw [l] at z; cases z
      · rw [l] at z1; cases z1
        exact ⟨_, _, _, _, v, rfl, hh, cl, na, z2, hq v H1 _ kd s1 rv⟩
theorem map_erase {α β : Type} (f : α → β) : ∀ (xs : List α) (j : Nat), (xs.eraseIdx j).map f = (xs.map f).eraseIdx j
  | [], _ => rfl
  | _ :: _, 0 => rfl
  | x :: r, j + 1 => by
    show f x :: (r.eraseIdx j).map f = f x :: (r.map f).eraseIdx j
    rw [map_erase f r j]
theorem own_at {Os : OLa} {O : OL} (e : Os.map (·.2) = O) {j : Nat} {o : Nat × Ow} (h : O[j]? = some o) : ∃ p ∈ Os, p.2 = o ∧ Os[j]? = some p := by
  rw [← e, List.getElem?_map] at h
  cases q : Os[j]? with
  | none => rw [q] at h; cases h
  | some p => rw [q] at h; cases h; exact ⟨p, List.mem_of_getElem? q, rfl, rfl⟩
/-- a field of what is owned -/
theorem dt_fldO (j : Nat) {c f : Str} {i : Nat} {fs : List (Str × D)} {d : D} {k : D → Prop} (cl : Cls K (He.ga K c)) (na : NoAttr K (He.ga K c) f) (ho : O[j]? = some (i, .obj c fs)) (l : fs.lookup f = some d) (kd : k d) : DT K E (tFld K (tVar i) f) G O k ke := fun S0 Os σ H Q st hq he => by
  obtain ⟨p, hp, e, _⟩ := own_at st.os ho
  obtain ⟨hs, oa⟩ := st.own p hp
  rw [e] at hs oa
  obtain ⟨dx, gs, hh, ef, r⟩ := oa
  rcases lookup_rep (f := f) ef r with ⟨z, _⟩ | ⟨v, d', z1, z2, rv⟩
  · rw [l] at z; cases z
  · rw [l] at z1; cases z1
    exact ⟨_, hs, _, _, _, _, v, rfl, hh, cl, na, z2, hq v H _ kd (Same.refl H) rv⟩
/-- a field of the instance that an __init__ fills -/
theorem dt_fldS (j : Nat) {x : Addr} {c f : Str} {i : Nat} {fs : List (Str × D)} {d : D} {k : D → Prop} (cl : Cls K (He.ga K c)) (na : NoAttr K (He.ga K c) f) (ho : O[j]? = some (i, .slf x c fs)) (l : fs.lookup f = some d) (kd : k d) : DT K E (tFld K (tVar i) f) G O k ke := fun S0 Os σ H Q st hq he => by
  obtain ⟨p, hp, e, _⟩ := own_at st.os ho
  obtain ⟨hs, oa⟩ := st.own p hp
  rw [e] at hs oa
  obtain ⟨ea, dx, gs, hh, ef, r⟩ := oa
  rcases lookup_rep (f := f) ef r with ⟨z, _⟩ | ⟨v, d', z1, z2, rv⟩
  · rw [l] at z; cases z
  · rw [l] at z1; cases z1
    exact ⟨_, hs, _, _, _, _, v, rfl, hh, cl, na, z2, hq v H _ kd (Same.refl H) rv⟩
theorem reps_S {S T : Addr → Prop} {H : Hp} {vs : List V} {ds : List D} (r : Reps K S H vs ds) (h : ∀ a, T a ↔ S a) : Reps K T H vs ds := Reps.weak (fun a z => (h a).mp z) r
theorem df_make {w : WtI} {c : Str} {t : TA} {k : Ow → Prop} (h : DA K E t G O (fun ds => w ds (fun fs => k (.obj c fs)) F0) ke) : DF K E (tMake (He.ga K c) (spI K c w) [] E0 t) G O k ke := fun S0 Os σ H Q st hq he =>
  h.bind st he fun xs H1 ds ha s1 st1 he1 rx x dx nx ndx ne => by
    rw [List.append_nil]
    have sp : Same H1 (upd (upd H1 dx (.own x)) x (.ins (He.ga K c) dx [])) := fun b o e => by
      rw [upd_ne (ne_of_none e nx), upd_ne (ne_of_none e ndx)]; exact e
    refine ⟨SO S0 Os, x, dx, xs, ds, _, F0, rfl, upd_same, fun z => st1.domW x z nx, fun a z q => st1.domW a z (sp.free q), Reps.same (Reps.avoid (fun a z => z.elim .inl fun e => .inr (e ▸ nx)) rx) sp, ha, fun H' fs kf sx oa => ⟨rfl, ?_⟩, eok_e0⟩
    refine hq x H' _ kf (fun b o e => ?_) (s1.free nx) oa
    exact sx b (fun z => by rw [z] at e; rw [s1 _ _ e] at nx; cases nx) o (sp b o (s1 b o e))
theorem dt_make {w : WtI} {c : Str} {t : TA} {k : D → Prop} (h : DA K E t G O (fun ds => w ds (fun fs => k (.obj c fs)) F0) ke) : DT K E (tMake (He.ga K c) (spI K c w) [] E0 t) G O k ke := (df_make h).dt

/-! ### statements -/
structure Frm (S0 : Addr → Prop) (H0 : Hp) (Os : OLa) (H : Hp) : Prop where
  same : Same H0 H
  new : ∀ a, W Os a → H0 a = none
  dom : ∀ a, S0 a → H0 a ≠ none
/-- what a statement may have changed -/
structure Chg (Os : OLa) (H : Hp) (Os' : OLa) (H' : Hp) : Prop where
  same : SameX (W Os) H H'
  new : ∀ a, W Os' a → W Os a ∨ H a = none
theorem Chg.refl {Os : OLa} {H : Hp} : Chg Os H Os H := ⟨SameX.rfl', fun _ z => .inl z⟩
theorem Chg.of_same {Os : OLa} {H H' : Hp} (h : Same H H') : Chg Os H Os H' := ⟨Same.sx h, fun _ z => .inl z⟩
theorem Chg.trans {Os Os1 Os2 : OLa} {H H1 H2 : Hp} (a : Chg Os H Os1 H1) (b : Chg Os1 H1 Os2 H2) : Chg Os H Os2 H2 :=
  ⟨fun c n u e => b.same c (fun z => (a.new c z).elim n fun q => by rw [e] at q; cases q) u (a.same c n u e), fun c z => (b.new c z).elim (a.new c) fun q => by
    cases e : H c with
    | none => exact .inr rfl
    | some u =>
      by_cases n : W Os c
      · exact .inl n
      · rw [a.same c n u e] at q; cases q⟩
theorem Frm.step {S0 : Addr → Prop} {H0 : Hp} {Os Os' : OLa} {H H' : Hp} (f : Frm S0 H0 Os H) (c : Chg Os H Os' H') : Frm S0 H0 Os' H' :=
  ⟨fun a u e => c.same a (fun z => by rw [f.new a z] at e; cases e) u (f.same a u e), fun a z => (c.new a z).elim (f.new a) fun q => f.same.free q, f.dom⟩
def DS (K : PySem.W.Frag) (E : XK) (t : TS) (G : Gm) (O : OL) (kn : Gm → OL → Prop) (kr : D → Prop) (ke : Xd → Prop) : Prop :=
  ∀ (S0 : Addr → Prop) (H0 : Hp) (Os : OLa) (σ : L2.St) (H : Hp) (Ds : Ends), Frm S0 H0 Os H → St1 K S0 G O Os σ H →
    (∀ G' O' Os' σ' H', kn G' O' → Chg Os H Os' H' → St1 K S0 G' O' Os' σ' H' → Ds.nx σ' H') →
    (∀ v H' d, kr d → Same H0 H' → Rep K S0 H' v d → Ds.rt v H') → EOk K S0 H0 E ke → t Ds σ H
variable {kn : Gm → OL → Prop} {kr : D → Prop}
theorem EOk.so {S0 : Addr → Prop} {Os : OLa} {H0 H : Hp} (h : EOk K S0 H0 E ke) (f : Frm S0 H0 Os H) : EOk K (SO S0 Os) H E ke := fun c d H2 x k l r => h c d H2 x k (f.same.trans l) (by
  obtain ⟨e, r⟩ := r
  refine ⟨e, ?_⟩
  cases q : x.arg with
  | none => rw [q] at r; exact r
  | some p =>
    rw [q] at r
    obtain ⟨a, v, h1, h2, h3⟩ := r
    exact ⟨a, v, h1, h2, Rep.weak (fun a z => .inl z) h3⟩)
/-- an expression in a statement -/
theorem DT.at_ {t : TE} {k : D → Prop} (h : DT K E t G O k ke) {S0 : Addr → Prop} {H0 : Hp} {Os : OLa} {σ : L2.St} {H : Hp} {Q : VK} (f : Frm S0 H0 Os H) (st : St1 K S0 G O Os σ H) (he : EOk K S0 H0 E ke)
    (hq : ∀ v H' d, k d → Same H H' → Frm S0 H0 Os H' → St1 K S0 G O Os σ H' → Rep K (SO S0 Os) H' v d → Q v H') : t σ H Q :=
  h.bind st (he.so f) fun v H' d kd s st' _ r => hq v H' d kd s (f.step (Chg.of_same s)) st' r
theorem DTT.at_ {t : TT} {k : Bool → Prop} (h : DTT K E t G O k ke) {S0 : Addr → Prop} {H0 : Hp} {Os : OLa} {σ : L2.St} {H : Hp} {Q : Bool → Hp → Prop} (f : Frm S0 H0 Os H) (st : St1 K S0 G O Os σ H) (he : EOk K S0 H0 E ke)
    (hq : ∀ b H', k b → Same H H' → Frm S0 H0 Os H' → St1 K S0 G O Os σ H' → Q b H') : t σ H Q :=
  h.bind st (he.so f) fun b H' kd s st' _ => hq b H' kd s (f.step (Chg.of_same s)) st'
theorem DA.at_ {t : TA} {k : List D → Prop} (h : DA K E t G O k ke) {S0 : Addr → Prop} {H0 : Hp} {Os : OLa} {σ : L2.St} {H : Hp} {Q : List V → Hp → Prop} (f : Frm S0 H0 Os H) (st : St1 K S0 G O Os σ H) (he : EOk K S0 H0 E ke)
    (hq : ∀ v H' d, k d → Same H H' → Frm S0 H0 Os H' → St1 K S0 G O Os σ H' → Reps K (SO S0 Os) H' v d → Q v H') : t σ H Q :=
  h.bind st (he.so f) fun v H' d kd s st' _ r => hq v H' d kd s (f.step (Chg.of_same s)) st' r
theorem ds_seq {t u : TS} (h : DS K E t G O (fun G1 O1 => DS K E u G1 O1 kn kr ke) kr ke) : DS K E (tSeq t u) G O kn kr ke := fun S0 H0 Os σ H Ds f st hn hr he =>
  h S0 H0 Os σ H { Ds with nx := u Ds } f st (fun G1 O1 Os1 σ1 H1 k1 c1 st1 => k1 S0 H0 Os1 σ1 H1 Ds (f.step c1) st1 (fun G2 O2 Os2 σ2 H2 k2 c2 st2 => hn G2 O2 Os2 σ2 H2 k2 (c1.trans c2) st2) hr he) hr he
theorem ds_next (h : kn G O) : DS K E tNext G O kn kr ke := fun S0 H0 Os σ H Ds f st hn hr he => hn G O Os σ H h Chg.refl st
theorem ds_expr {te : TE} (h : DT K E te G O (fun _ => kn G O) ke) : DS K E (tDrop te) G O kn kr ke := fun S0 H0 Os σ H Ds f st hn hr he =>
  h.at_ f st he fun v H1 d kd s f1 st1 r => hn G O Os σ H1 kd (Chg.of_same s) st1
theorem ds_ret {te : TE} (h : DT K E te G O kr ke) : DS K E (tRet te) G O kn kr ke := fun S0 H0 Os σ H Ds f st hn hr he =>
  h.at_ f st he fun v H1 d kd s f1 st1 r => hr v H1 d kd f1.same (Rep.weak (fun a z => .inl z) r)
theorem ds_retN (h : kr .non) : DS K E tRetN G O kn kr ke := fun S0 H0 Os σ H Ds f st hn hr he => hr .non H .non h f.same .non
theorem ds_if {c : TT} {t u : TS} (h : DTT K E c G O (fun b => (b = true → DS K E t G O kn kr ke) ∧ (b = false → DS K E u G O kn kr ke)) ke) : DS K E (tIfS c t u) G O kn kr ke := fun S0 H0 Os σ H Ds f st hn hr he =>
  h.at_ f st he fun b H1 kb s f1 st1 => by
    cases b with
    | true => exact iteT (kb.1 rfl S0 H0 Os σ H1 Ds f1 st1 (fun G2 O2 Os2 σ2 H2 k2 c2 st2 => hn G2 O2 Os2 σ2 H2 k2 ((Chg.of_same s).trans c2) st2) hr he)
    | false => exact iteF (kb.2 rfl S0 H0 Os σ H1 Ds f1 st1 (fun G2 O2 Os2 σ2 H2 k2 c2 st2 => hn G2 O2 Os2 σ2 H2 k2 ((Chg.of_same s).trans c2) st2) hr he)
theorem ds_asg {te : TE} {i : Nat} (hi : ∀ o ∈ O, o.1 ≠ i) (h : DT K E te G O (fun d => kn (G.set i (some d)) O) ke) : DS K E (tAsg te (gName i)) G O kn kr ke := fun S0 H0 Os σ H Ds f st hn hr he =>
  h.at_ f st he fun v H1 d kd s f1 st1 r => hn _ O Os _ H1 kd (Chg.of_same s) (st1.set r hi)
/-- what is new becomes owned -/
theorem St1.own_new {S0 : Addr → Prop} {Os : OLa} {σ : L2.St} {H H1 : Hp} (st : St1 K S0 G O Os σ H) {p : Addr} {o : Ow} {i : Nat} (s : Same H H1) (np : H p = none) (oa : OwnAt K (fun b => SO S0 Os b ∨ b = p) H1 p o) (hi : ∀ o ∈ O, o.1 ≠ i) (hl : i < G.length) :
    St1 K S0 (G.set i none) ((i, o) :: O) ((p, i, o) :: Os) (σ.set i (some (.ref p))) H1 := by
  have st1 := st.same s
  have wp : ∀ a, W ((p, i, o) :: Os) a ↔ a = p ∨ W Os a := fun a => by
    show a ∈ List.map _ _ ↔ _
    rw [List.map_cons, List.mem_cons]; exact Iff.rfl
  have so : ∀ a, SO S0 ((p, i, o) :: Os) a → SO S0 Os a ∨ a = p := fun a z => by
    rcases z with z | z
    · exact .inl (.inl z)
    · rcases (wp a).mp z with z | z
      · exact .inr z
      · exact .inl (.inr z)
  have nw : ¬ W Os p := fun z => st.domW p (.inr z) np
  have av : ∀ a, SO S0 ((p, i, o) :: Os) a → SO S0 Os a ∨ H a = none := fun a z => (so a z).elim .inl fun e => .inr (by rw [e]; exact np)
  refine ⟨by rw [List.map_cons, st.os], ?_, st1.dom, fun a z => ?_, by rw [List.length_set, List.length_set]; exact st.len, fun j d e => ?_, fun q hq => ?_⟩
  · rw [List.map_cons]
    exact List.nodup_cons.mpr ⟨nw, st.nd⟩
  · rcases (wp a).mp z with z | z
    · rw [z]; exact fun y => st.dom p y np
    · exact st.ns a z
  · by_cases hj : i = j
    · subst hj
      rw [List.getElem?_set_self hl] at e; cases e
    · rw [List.getElem?_set_ne hj] at e
      obtain ⟨v, e1, r⟩ := st.re j d e
      exact ⟨v, by rw [List.getElem?_set_ne hj]; exact e1, Rep.same (Rep.avoid av r) s⟩
  · rcases List.mem_cons.mp hq with e | hq
    · subst e
      refine ⟨List.getElem?_set_self (by rw [st.len]; exact hl), ?_⟩
      cases o with
      | lst ds => obtain ⟨vs, e, r⟩ := oa; exact ⟨vs, e, Reps.weak so r⟩
      | dic ds => obtain ⟨vs, e, q, r⟩ := oa; exact ⟨vs, e, q, Reps.weak so r⟩
      | obj c ds => obtain ⟨dx, vs, e, q, r⟩ := oa; exact ⟨dx, vs, e, q, Reps.weak so r⟩
      | slf _ c ds => obtain ⟨ea, dx, vs, e, q, r⟩ := oa; exact ⟨ea, dx, vs, e, q, Reps.weak so r⟩
    · obtain ⟨hs, oa'⟩ := st.own q hq
      have hne : i ≠ q.2.1 := fun z => hi q.2 (by rw [← st.os]; exact List.mem_map_of_mem hq) z.symm
      refine ⟨by rw [List.getElem?_set_ne hne]; exact hs, ?_⟩
      generalize q.2.2 = o' at oa' ⊢
      cases o' with
      | lst ds => obtain ⟨vs, e, r⟩ := oa'; exact ⟨vs, s _ _ e, Reps.same (Reps.avoid av r) s⟩
      | dic ds => obtain ⟨vs, e, q, r⟩ := oa'; exact ⟨vs, s _ _ e, q, Reps.same (Reps.avoid av r) s⟩
      | obj c ds => obtain ⟨dx, vs, e, q, r⟩ := oa'; exact ⟨dx, vs, s _ _ e, q, Reps.same (Reps.avoid av r) s⟩
      | slf _ c ds => obtain ⟨ea, dx, vs, e, q, r⟩ := oa'; exact ⟨ea, dx, vs, s _ _ e, q, Reps.same (Reps.avoid av r) s⟩
theorem ds_asgF {te : TE} {i : Nat} (hi : ∀ o ∈ O, o.1 ≠ i) (hl : i < G.length) (h : DF K E te G O (fun o => kn (G.set i none) ((i, o) :: O)) ke) : DS K E (tAsg te (gName i)) G O kn kr ke := fun S0 H0 Os σ H Ds f st hn hr he =>
  h S0 Os σ H _ st (fun p H1 o ko s np oa => hn _ _ ((p, i, o) :: Os) _ H1 ko ⟨Same.sx s, fun a z => by
    have z' : a ∈ List.map _ _ := z
    rw [List.map_cons, List.mem_cons] at z'
    rcases z' with z' | z'
    · exact .inr (by rw [z']; exact np)
    · exact .inl z'⟩ (st.own_new s np oa hi hl)) (he.so f)
/-- the owned thing at slot j of O is changed by the statement -/
theorem St1.own_set {S0 : Addr → Prop} {Os : OLa} {σ : L2.St} {H : Hp} (st : St1 K S0 G O Os σ H) {j : Nat} {p : Addr} {i : Nat} {o o' : Ow} (hp : Os[j]? = some (p, i, o)) {ho' : HO} (oa : OwnAt K (SO S0 Os) (upd H p ho') p o') (hl : SameX (W Os) H (upd H p ho')) :
    St1 K S0 G (O.set j (i, o')) (Os.set j (p, i, o')) σ (upd H p ho') := by
  have hj : j < Os.length := (List.getElem?_eq_some_iff.mp hp).1
  have em : (Os.set j (p, i, o')).map (·.1) = Os.map (·.1) := by
    rw [List.map_set]
    apply List.ext_getElem?
    intro n
    by_cases hn : j = n
    · subst hn
      rw [List.getElem?_set_self (by rw [List.length_map]; exact hj), List.getElem?_map, hp]; rfl
    · rw [List.getElem?_set_ne hn]
  have w : ∀ a, W (Os.set j (p, i, o')) a ↔ W Os a := fun a => by show a ∈ _ ↔ a ∈ _; rw [em]
  have so : SO S0 (Os.set j (p, i, o')) = SO S0 Os := by
    funext a; exact propext ⟨fun z => z.imp id (w a).mp, fun z => z.imp id (w a).mpr⟩
  have lx : LeX (SO S0 Os) H (upd H p ho') := hl.lex.weak fun a z => .inr z
  have hmem : (p, i, o) ∈ Os := List.mem_of_getElem? hp
  refine ⟨by rw [List.map_set, st.os], by rw [em]; exact st.nd, fun a z => ?_, fun a z => st.ns a ((w a).mp z), st.len, fun n d e => ?_, fun q hq => ?_⟩
  · have na : ¬ W Os a := fun y => st.ns a y z
    have ne : a ≠ p := fun y => na (by rw [y]; exact List.mem_map_of_mem (f := (·.1)) hmem)
    rw [upd_ne ne]; exact st.dom a z
  · obtain ⟨v, e1, r⟩ := st.re n d e
    rw [so]
    exact ⟨v, e1, Rep.mono lx r⟩
  · rw [so]
    obtain ⟨n, hn⟩ := List.mem_iff_getElem?.mp hq
    by_cases hjn : j = n
    · subst hjn
      rw [List.getElem?_set_self hj] at hn
      cases hn
      exact ⟨(st.own _ hmem).1, oa⟩
    · rw [List.getElem?_set_ne hjn] at hn
      have hq' := List.mem_of_getElem? hn
      obtain ⟨hs, ob⟩ := st.own q hq'
      refine ⟨hs, ?_⟩
      have ne : q.1 ≠ p := fun z => hjn (by
        have nd := st.nd
        have h1 : (Os.map (·.1))[j]? = some p := by rw [List.getElem?_map, hp]; rfl
        have h2 : (Os.map (·.1))[n]? = some p := by rw [List.getElem?_map, hn]; exact congrArg some z
        obtain ⟨l1, g1⟩ := List.getElem?_eq_some_iff.mp h1
        obtain ⟨l2, g2⟩ := List.getElem?_eq_some_iff.mp h2
        exact (List.getElem_inj nd).mp (g1.trans g2.symm))
      generalize q.2.2 = ow at ob ⊢
      cases ow with
      | lst ds => obtain ⟨vs, e, r⟩ := ob; exact ⟨vs, by rw [upd_ne ne]; exact e, Reps.mono lx r⟩
      | dic ds => obtain ⟨vs, e, q, r⟩ := ob; exact ⟨vs, by rw [upd_ne ne]; exact e, q, Reps.mono lx r⟩
      | obj c ds => obtain ⟨dx, vs, e, q, r⟩ := ob; exact ⟨dx, vs, by rw [upd_ne ne]; exact e, q, Reps.mono lx r⟩
      | slf _ c ds => obtain ⟨ea, dx, vs, e, q, r⟩ := ob; exact ⟨ea, dx, vs, by rw [upd_ne ne]; exact e, q, Reps.mono lx r⟩
theorem chg_put {Os : OLa} {H : Hp} {p : Addr} {ho : HO} {j i : Nat} {o o' : Ow} (hp : Os[j]? = some (p, i, o)) : Chg Os H (Os.set j (p, i, o')) (upd H p ho) := by
  have hmem : (p, i, o) ∈ Os := List.mem_of_getElem? hp
  refine ⟨fun a n u e => ?_, fun a z => ?_⟩
  · rw [upd_ne fun z => n (by rw [z]; exact List.mem_map_of_mem (f := (·.1)) hmem)]; exact e
  · have z' : a ∈ (Os.set j (p, i, o')).map (·.1) := z
    obtain ⟨q, hq, e⟩ := List.mem_map.mp z'
    rcases List.mem_or_eq_of_mem_set hq with hq | hq
    · exact .inl (e ▸ List.mem_map_of_mem (f := (·.1)) hq)
    · subst hq
      exact .inl (e ▸ List.mem_map_of_mem (f := (·.1)) hmem)
/-- what is owned is given up: it is a datum from now on -/
theorem ds_freeze (j : Nat) {i : Nat} {o : Ow} {t : TS} (ho : O[j]? = some (i, o)) (hl : i < G.length) (h : DS K E t (G.set i (some o.d)) (O.eraseIdx j) kn kr ke) : DS K E t G O kn kr ke := fun S0 H0 Os σ H Ds f st hn hr he => by
  obtain ⟨p, hp, e, hpj⟩ := own_at st.os ho
  have w : ∀ a, W (Os.eraseIdx j) a → W Os a := fun a z => by
    obtain ⟨q, hq, e⟩ := List.mem_map.mp (show a ∈ (Os.eraseIdx j).map (·.1) from z)
    exact e ▸ List.mem_map_of_mem (f := (·.1)) (List.mem_of_mem_eraseIdx hq)
  have so : ∀ a, SO S0 (Os.eraseIdx j) a → SO S0 Os a := fun a z => z.imp id (w a)
  have np : ¬ W (Os.eraseIdx j) p.1 := fun z => by
    obtain ⟨q, hq, e⟩ := List.mem_map.mp (show p.1 ∈ (Os.eraseIdx j).map (·.1) from z)
    obtain ⟨n, hn2, hq2⟩ := List.mem_eraseIdx_iff_getElem?.mp hq
    have h1 : (Os.map (·.1))[j]? = some p.1 := by rw [List.getElem?_map, hpj]; rfl
    have h2 : (Os.map (·.1))[n]? = some p.1 := by rw [List.getElem?_map, hq2]; exact congrArg some e
    obtain ⟨l1, g1⟩ := List.getElem?_eq_some_iff.mp h1
    obtain ⟨l2, g2⟩ := List.getElem?_eq_some_iff.mp h2
    exact hn2 ((List.getElem_inj st.nd).mp (g2.trans g1.symm))
  obtain ⟨hs, oa⟩ := st.own p hp
  have e1 : p.2.1 = i := by rw [e]
  have e2 : p.2.2 = o := by rw [e]
  rw [e1] at hs
  rw [e2] at oa
  have rp : Rep K (SO S0 (Os.eraseIdx j)) H (.ref p.1) o.d := by
    have n1 : ¬ SO S0 (Os.eraseIdx j) p.1 := fun z => z.elim (st.ns _ (List.mem_map_of_mem (f := (·.1)) hp)) np
    cases o with
    | lst ds => obtain ⟨vs, q, r⟩ := oa; exact .lst n1 q (Reps.weak so r)
    | dic ds => obtain ⟨vs, q, q2, r⟩ := oa; exact .dic n1 (.inl q) q2 (Reps.weak so r)
    | obj c ds => obtain ⟨dx, vs, q, q2, r⟩ := oa; exact .obj n1 q q2 (Reps.weak so r)
    | slf _ c ds => obtain ⟨ea, dx, vs, q, q2, r⟩ := oa; exact .obj n1 q q2 (Reps.weak so r)
  refine h S0 H0 (Os.eraseIdx j) σ H Ds ⟨f.same, fun a z => f.new a (w a z), f.dom⟩ ⟨?_, ?_, st.dom, fun a z => st.ns a (w a z), by rw [List.length_set]; exact st.len, fun n d q => ?_, fun q hq => ?_⟩
    (fun G' O' Os' σ' H' k c s => hn G' O' Os' σ' H' k ⟨fun a n u q => c.same a (fun z => n (w a z)) u q, fun a z => (c.new a z).imp (w a) id⟩ s) hr he
  · rw [map_erase, st.os]
  · rw [map_erase]
    exact st.nd.sublist (List.eraseIdx_sublist _ _)
  · by_cases hin : i = n
    · subst hin
      rw [List.getElem?_set_self hl] at q
      cases q
      exact ⟨_, hs, rp⟩
    · rw [List.getElem?_set_ne hin] at q
      obtain ⟨v, q1, r⟩ := st.re n d q
      exact ⟨v, q1, Rep.weak so r⟩
  · obtain ⟨h1, h2⟩ := st.own q (List.mem_of_mem_eraseIdx hq)
    refine ⟨h1, ?_⟩
    generalize q.2.2 = ow at h2 ⊢
    cases ow with
    | lst ds => obtain ⟨vs, e, r⟩ := h2; exact ⟨vs, e, Reps.weak so r⟩
    | dic ds => obtain ⟨vs, e, q, r⟩ := h2; exact ⟨vs, e, q, Reps.weak so r⟩
    | obj c ds => obtain ⟨dx, vs, e, q, r⟩ := h2; exact ⟨dx, vs, e, q, Reps.weak so r⟩
    | slf _ c ds => obtain ⟨ea, dx, vs, e, q, r⟩ := h2; exact ⟨ea, dx, vs, e, q, Reps.weak so r⟩
/-- forgetting -/
theorem DS.imp {t : TS} {kn' : Gm → OL → Prop} {kr' : D → Prop} (h : DS K E t G O kn kr ke) (i : ∀ G O, kn G O → kn' G O) (ir : ∀ d, kr d → kr' d) : DS K E t G O kn' kr' ke := fun S0 H0 Os σ H Ds f st hn hr he =>
  h S0 H0 Os σ H Ds f st (fun G' O' Os' σ' H' k c s => hn G' O' Os' σ' H' (i _ _ k) c s) (fun v H' d k s r => hr v H' d (ir d k) s r) he
end
end Fw

set_option maxHeartbeats 4000000
/-! Loops and comprehensions by data; dicts are locked while they are walked. -/
namespace Fw
open PySem PySem.Spec PyProof.Rows L2

/-! ### locks laid by the reading -/
section
variable {X : Cx} {pins : List (Addr × Obj)} {σ : L2.St} {H : Hp} {s : Shared}
/-- behind e the dict that it gives is locked (or was so) -/
def tLk (td : TE) : TE := fun σ H Q => td σ H fun x H1 => ∃ (d : Addr) (kvs : List (Key × V)), x = .ref d ∧ Rd H1 d (.dK kvs) ∧
  ∀ (od : Obj) (H2 : Hp), ((H1 d = some (.dK kvs) ∧ H2 = upd H1 d (.frz od (.dK kvs))) ∨ (H1 d = some (.frz od (.dK kvs)) ∧ H2 = H1)) → Q x H2
theorem pe_lk {e : Expr} {td : TE} (h : PE X e td) : PE X e (tLk td) := by
  refine ⟨fun pins s σ H Q I q => ?_⟩
  refine thn (h.run pins s σ H _ I q) fun v s1 ⟨x, H1, I1, r1, d, kvs, ex, rd, k⟩ => ?_
  rcases rd with rd | ⟨o, rd⟩
  · obtain ⟨od, I2⟩ := I1.lock rd trivial
    exact ⟨x, _, I2, r1, k od _ (.inl ⟨rd, rfl⟩)⟩
  · exact ⟨x, H1, I1, r1, k o H1 (.inr ⟨rd, rfl⟩)⟩
/-- a lock that was laid since is taken away -/
def Ulk (H H2 H3 : Hp) : Prop := H3 = H2 ∨ ∃ (d : Addr) (od : Obj) (kvs : List (Key × V)), H2 d = some (.frz od (.dK kvs)) ∧ (∀ o u, H d ≠ some (.frz o u)) ∧ H3 = upd H2 d (.dK kvs)
theorem Inv.ulk {σ' : L2.St} {s' : Shared} {H2 H3 : Hp} (I : Inv X pins σ H s) (I2 : Inv X pins σ' H2 s') (u : Ulk H H2 H3) : Inv X pins σ' H3 s' := by
  rcases u with e | ⟨d, od, kvs, e, n, e3⟩
  · subst e; exact I2
  · subst e3
    exact I2.unlock e fun o' u' z => n o' u' (I.base.frzs _ _ _ z)
def tUnlE (t : TE) : TE := fun σ H Q => t σ H fun v H2 => ∃ H3, Ulk H H2 H3 ∧ Q v H3
theorem pe_unl {e : Expr} {t : TE} (h : PE X e t) : PE X e (tUnlE t) := by
  refine ⟨fun pins s σ H Q I q => ?_⟩
  refine thn (h.run pins s σ H _ I q) fun v s1 ⟨x, H2, I2, r1, H3, u, k⟩ => ?_
  exact ⟨x, H3, Inv.ulk I I2 u, r1, k⟩
def tUnlS (t : TS) : TS := fun D σ H => t ⟨fun σ' H' => ∃ H3, Ulk H H' H3 ∧ D.nx σ' H3, fun v H' => ∃ H3, Ulk H H' H3 ∧ D.rt v H3, fun σ' H' => ∃ H3, Ulk H H' H3 ∧ D.bk σ' H3, fun σ' H' => ∃ H3, Ulk H H' H3 ∧ D.ct σ' H3⟩ σ H
theorem ps_unl {st : Stmt} {t : TS} (h : PS X st t) : PS X st (tUnlS t) := by
  refine ⟨fun pins s σ H D I q => ?_⟩
  refine thn (h.run pins s σ H _ I q) fun f s1 q => ?_
  cases f with
  | next => obtain ⟨σ', H', I2, H3, u, k⟩ := q; exact ⟨σ', H3, Inv.ulk I I2 u, k⟩
  | brk => obtain ⟨σ', H', I2, H3, u, k⟩ := q; exact ⟨σ', H3, Inv.ulk I I2 u, k⟩
  | cont => obtain ⟨σ', H', I2, H3, u, k⟩ := q; exact ⟨σ', H3, Inv.ulk I I2 u, k⟩
  | ret v => obtain ⟨x, σ', H', I2, r, H3, u, k⟩ := q; exact ⟨x, σ', H3, Inv.ulk I I2 u, r, k⟩
end

section
variable {K : PySem.W.Frag} {E : XK} {G : Gm} {O : OL} {ke : Xd → Prop}
/-- H1: H, one dict of no owner's locked -/
def Lkd (S : Addr → Prop) (H H1 : Hp) : Prop := H1 = H ∨ ∃ (d : Addr) (od : Obj) (kvs : List (Key × V)), ¬ S d ∧ H d = some (.dK kvs) ∧ H1 = upd H d (.frz od (.dK kvs))
theorem Lkd.lex {S T : Addr → Prop} {H H1 : Hp} (l : Lkd S H H1) : LeX T H H1 := by
  rcases l with e | ⟨d, od, kvs, n, hd, e⟩
  · subst e; exact LeX.rfl'
  · subst e
    intro a _
    by_cases h : a = d
    · subst h
      refine ⟨fun u su q => ?_, fun k r => ?_⟩
      · rw [hd] at q; cases q; exact su.elim
      · rcases r with r | ⟨o, r⟩
        · rw [hd] at r; cases r; exact .inr ⟨od, upd_same⟩
        · rw [hd] at r; cases r
    · refine ⟨fun u su q => by rw [upd_ne h]; exact q, fun k r => ?_⟩
      rcases r with r | ⟨o, r⟩
      · exact .inl (by rw [upd_ne h]; exact r)
      · exact .inr ⟨o, by rw [upd_ne h]; exact r⟩
theorem Lkd.noneIff {S : Addr → Prop} {H H1 : Hp} (l : Lkd S H H1) {a : Addr} : H1 a = none ↔ H a = none := by
  rcases l with e | ⟨d, od, kvs, n, hd, e⟩
  · subst e; exact Iff.rfl
  · subst e
    by_cases h : a = d
    · subst h; rw [upd_same, hd]; exact ⟨fun z => (nomatch z), fun z => (nomatch z)⟩
    · rw [upd_ne h]
theorem Lkd.at_ {S : Addr → Prop} {H H1 : Hp} (l : Lkd S H H1) {a : Addr} (s : S a) : H1 a = H a := by
  rcases l with e | ⟨d, od, kvs, n, hd, e⟩
  · rw [e]
  · subst e
    exact upd_ne fun z => n (z ▸ s)
/-- what comes of it when the lock is taken away -/
def unl (H H1 H2 H3 : Hp) : Prop := (H1 = H ∧ H3 = H2) ∨ ∃ (d : Addr) (od : Obj) (kvs : List (Key × V)), H d = some (.dK kvs) ∧ H1 = upd H d (.frz od (.dK kvs)) ∧ H3 = upd H2 d (.dK kvs)
theorem Lkd.unl {S T : Addr → Prop} {H H1 H2 : Hp} (l : Lkd S H H1) (hT : ∀ a, T a → S a ∨ H1 a = none) (s : SameX T H1 H2) : ∃ H3, Fw.unl H H1 H2 H3 ∧ Ulk H H2 H3 ∧ SameX T H H3 ∧ LeX (fun _ => False) H2 H3 ∧ (∀ a, T a → H3 a = H2 a) := by
  rcases l with e | ⟨d, od, kvs, n, hd, e⟩
  · subst e
    exact ⟨H2, .inl ⟨rfl, rfl⟩, .inl rfl, s, LeX.rfl', fun _ _ => rfl⟩
  · have e1 : H1 d = some (.frz od (.dK kvs)) := by rw [e]; exact upd_same
    have nT : ¬ T d := fun z => (hT d z).elim n fun q => by rw [e1] at q; cases q
    have e2 := s d nT _ e1
    refine ⟨upd H2 d (.dK kvs), .inr ⟨d, od, kvs, hd, e, rfl⟩, .inr ⟨d, od, kvs, e2, (fun o u z => by rw [hd] at z; cases z), rfl⟩, fun a na u q => ?_, fun a _ => ?_, fun a ta => upd_ne fun z => nT (z ▸ ta)⟩
    · by_cases h : a = d
      · subst h; rw [hd] at q; cases q; exact upd_same
      · rw [upd_ne h]
        exact s a na u (by rw [e, upd_ne h]; exact q)
    · by_cases h : a = d
      · subst h
        refine ⟨fun u su q => ?_, fun k r => ?_⟩
        · rw [e2] at q; cases q; exact su.elim
        · rcases r with r | ⟨o, r⟩
          · rw [e2] at r; cases r
          · rw [e2] at r; cases r; exact .inl upd_same
      · refine ⟨fun u su q => by rw [upd_ne h]; exact q, fun k r => ?_⟩
        rcases r with r | ⟨o, r⟩
        · exact .inl (by rw [upd_ne h]; exact r)
        · exact .inr ⟨o, by rw [upd_ne h]; exact r⟩
theorem OwnAt.lex {S : Addr → Prop} {H H1 : Hp} {a : Addr} {o : Ow} (h : OwnAt K S H a o) (l : LeX S H H1) (e : H1 a = H a) : OwnAt K S H1 a o := by
  cases o with
  | lst ds => obtain ⟨vs, q, r⟩ := h; exact ⟨vs, e.trans q, Reps.mono l r⟩
  | dic ds => obtain ⟨vs, q, q2, r⟩ := h; exact ⟨vs, e.trans q, q2, Reps.mono l r⟩
  | obj c ds => obtain ⟨dx, vs, q, q2, r⟩ := h; exact ⟨dx, vs, e.trans q, q2, Reps.mono l r⟩
  | slf _ c ds => obtain ⟨ea, dx, vs, q, q2, r⟩ := h; exact ⟨ea, dx, vs, e.trans q, q2, Reps.mono l r⟩
theorem St1.lex {S0 : Addr → Prop} {Os : OLa} {σ : L2.St} {H H1 : Hp} (h : St1 K S0 G O Os σ H) (l : LeX (SO S0 Os) H H1) (e : ∀ a, SO S0 Os a → H1 a = H a) : St1 K S0 G O Os σ H1 where
  os := h.os
  nd := h.nd
  dom := fun a ha => by rw [e a (.inl ha)]; exact h.dom a ha
  ns := h.ns
  len := h.len
  re := fun i d q => let ⟨v, e1, r⟩ := h.re i d q; ⟨v, e1, Rep.mono l r⟩
  own := fun p hp => ⟨(h.own p hp).1, (h.own p hp).2.lex l (e _ (.inr (List.mem_map_of_mem (f := (·.1)) hp)))⟩

/-! ### what is walked -/
def Wk (K : PySem.W.Frag) (S : Addr → Prop) (J : It) (H1 : Hp) (xs : List D) : Prop := ∀ (S' : Addr → Prop) (H' : Hp), (∀ a, S' a → S a ∨ H1 a = none) → (∀ a, S' a → H' a ≠ none) → SameX S H1 H' → ∀ i,
  (i < xs.length → J.go i H') ∧ (xs.length ≤ i → J.stop i H') ∧ ∀ x H'', i < xs.length → J.yld i H' x H'' → ∃ d, xs[i]? = some d ∧ Same H' H'' ∧ Rep K S' H'' x d
def DI (K : PySem.W.Frag) (E : XK) (wi : TI) (G : Gm) (O : OL) (k : List D → Prop) (ke : Xd → Prop) : Prop := ∀ (S0 : Addr → Prop) (Os : OLa) (σ : L2.St) (H : Hp) (R : It → Hp → Prop), St1 K S0 G O Os σ H →
  (∀ J H1 xs, k xs → Same H H1 → Wk K (SO S0 Os) J H1 xs → R J H1) → EOk K (SO S0 Os) H E ke → wi σ H R
/-- .. a dict of the walk locked -/
def DIL (K : PySem.W.Frag) (E : XK) (wi : TI) (G : Gm) (O : OL) (k : List D → Prop) (ke : Xd → Prop) : Prop := ∀ (S0 : Addr → Prop) (Os : OLa) (σ : L2.St) (H : Hp) (R : It → Hp → Prop), St1 K S0 G O Os σ H →
  (∀ J Hm H1 xs, k xs → Same H Hm → Lkd (SO S0 Os) Hm H1 → Wk K (SO S0 Os) J H1 xs → R J H1) → EOk K (SO S0 Os) H E ke → wi σ H R
theorem rep_walk {S S' : Addr → Prop} {H1 H' : Hp} {v : V} {d : D} (r : Rep K S H1 v d) (hS : ∀ a, S' a → S a ∨ H1 a = none) (s : SameX S H1 H') : Rep K S' H' v d := by
  have r1 : Rep K (fun a => S a ∨ S' a) H1 v d := Rep.avoid (fun a z => z.elim .inl (hS a)) r
  exact Rep.weak (fun a z => .inr z) (Rep.mono (s.lex.weak fun a z => .inl z) r1)
theorem wk_list {S : Addr → Prop} {H1 : Hp} {a : Addr} {vs : List V} {xs : List D} (n : ¬ S a) (h : H1 a = some (.lst vs)) (r : Reps K S H1 vs xs) : Wk K S (Itl K a) H1 xs := fun S' H' hS dm s i => by
  have e := s a n _ h
  have q : SqL K H' a vs := SqL.of e
  refine ⟨fun hi => ⟨vs, vs[i]'(by rw [r.length]; exact hi), q, List.getElem?_eq_getElem _⟩, fun hi => ⟨vs, q, by rw [r.length]; exact hi⟩, fun x H'' _ ⟨e2, y⟩ => ?_⟩
  subst e2
  obtain ⟨d, e3, rd⟩ := r.get (y vs q)
  exact ⟨d, e3, Same.refl _, rep_walk rd hS s⟩
theorem di_list {tl : TE} {k : List D → Prop} (h : DT K E tl G O (fun a => ∃ xs, a = .lst xs ∧ k xs) ke) : DI K E (iList K tl) G O k ke := fun S0 Os σ H R st hR he =>
  h.bind st he fun x H1 a ⟨xs, e, kx⟩ s1 st1 he1 rx => by
    subst e
    cases rx with
    | lst n hh r => exact ⟨_, rfl, ⟨_, SqL.of hh⟩, hR _ H1 xs kx s1 (wk_list n hh r)⟩
def rngD (lo : Int) (n : Nat) : List D := (List.range n).map fun i => D.int (lo + (i : Nat))
theorem rngD_get {lo : Int} {n i : Nat} (h : i < n) : (rngD lo n)[i]? = some (.int (lo + (i : Nat))) := by
  unfold rngD
  rw [List.getElem?_map, List.getElem?_range h]; rfl
theorem rngD_len {lo : Int} {n : Nat} : (rngD lo n).length = n := by unfold rngD; simp
theorem wk_range {S : Addr → Prop} {H1 : Hp} {lo : Int} {n : Nat} : Wk K S (Itr lo n) H1 (rngD lo n) := fun S' H' hS dm s i => by
  refine ⟨fun hi => by rw [rngD_len] at hi; exact hi, fun hi => by rw [rngD_len] at hi; exact hi, fun x H'' hi y => ?_⟩
  obtain ⟨e1, e2⟩ := y
  subst e1 e2
  rw [rngD_len] at hi
  exact ⟨_, rngD_get hi, Same.refl _, .int _⟩
theorem di_range1 {ta : TA} {k : List D → Prop} (h : DA K E ta G O (fun ds => ∃ j : Int, ds = [.int j] ∧ -(2 ^ 62) ≤ j ∧ j < 2 ^ 62 ∧ k (rngD 0 j.toNat)) ke) : DI K E (iRng1 ta) G O k ke := fun S0 Os σ H R st hR he =>
  h.bind st he fun xs H1 ds ⟨j, e, l1, l2, kx⟩ s1 st1 he1 rx => by
    subst e
    cases rx with | cons h t => cases h; cases t; exact ⟨j, rfl, l1, l2, hR _ H1 _ kx s1 wk_range⟩
theorem di_range2 {ta : TA} {k : List D → Prop} (h : DA K E ta G O (fun ds => ∃ i j : Int, ds = [.int i, .int j] ∧ (-(2 ^ 62) ≤ i ∧ i < 2 ^ 62 ∧ -(2 ^ 62) ≤ j ∧ j < 2 ^ 62) ∧ k (rngD i (j - i).toNat)) ke) : DI K E (iRng2 ta) G O k ke := fun S0 Os σ H R st hR he =>
  h.bind st he fun xs H1 ds ⟨i, j, e, l, kx⟩ s1 st1 he1 rx => by
    subst e
    cases rx with | cons h t => cases h; cases t with | cons h t => cases h; cases t; exact ⟨i, j, rfl, l, hR _ H1 _ kx s1 wk_range⟩
/-- range with a step -/
def rngC (lo c : Int) (n : Nat) : List D := (List.range n).map fun i => D.int (lo + (i : Nat) * c)
theorem rngC_get {lo c : Int} {n i : Nat} (h : i < n) : (rngC lo c n)[i]? = some (.int (lo + (i : Nat) * c)) := by
  unfold rngC
  rw [List.getElem?_map, List.getElem?_range h]; rfl
theorem rngC_len {lo c : Int} {n : Nat} : (rngC lo c n).length = n := by unfold rngC; simp
theorem wk_rangeC {S : Addr → Prop} {H1 : Hp} {lo c : Int} {n : Nat} : Wk K S (Itc lo c n) H1 (rngC lo c n) := fun S' H' hS dm s i => by
  refine ⟨fun hi => by rw [rngC_len] at hi; exact hi, fun hi => by rw [rngC_len] at hi; exact hi, fun x H'' hi y => ?_⟩
  obtain ⟨e1, e2⟩ := y
  subst e1 e2
  rw [rngC_len] at hi
  exact ⟨_, rngC_get hi, Same.refl _, .int _⟩
theorem di_range3 {ta : TA} {k : List D → Prop} (h : DA K E ta G O (fun ds => ∃ (i j c : Int) (n : Nat), ds = [.int i, .int j, .int c] ∧ RgC i j c n ∧ k (rngC i c n)) ke) : DI K E (iRng3 ta) G O k ke := fun S0 Os σ H R st hR he =>
  h.bind st he fun xs H1 ds ⟨i, j, c, n, e, l, kx⟩ s1 st1 he1 rx => by
    subst e
    cases rx with | cons h t => cases h; cases t with | cons h t => cases h; cases t with | cons h t => cases h; cases t; exact ⟨i, j, c, n, rfl, l, hR _ H1 _ kx s1 wk_rangeC⟩
/-- a text, sign by sign -/
def signs (x : Str) : List D := x.cps.toList.map fun c => D.str ⟨#[c]⟩
theorem wk_str {S : Addr → Prop} {H1 : Hp} {x : Str} : Wk K S (Its x) H1 (signs x) := fun S' H' hS dm s i => by
  have hl : (signs x).length = x.cps.size := by unfold signs; simp
  refine ⟨fun hi => by rw [hl] at hi; exact hi, fun hi => by rw [hl] at hi; exact hi, fun v H'' hi y => ?_⟩
  obtain ⟨e1, c, e2, e3⟩ := y
  subst e1 e3
  refine ⟨.str ⟨#[c]⟩, ?_, Same.refl _, .str _⟩
  unfold signs
  rw [List.getElem?_map, Array.getElem?_toList, e2]; rfl
theorem di_str {te : TE} {k : List D → Prop} (h : DT K E te G O (fun a => ∃ x, a = .str x ∧ k (signs x)) ke) : DI K E (iStr te) G O k ke := fun S0 Os σ H R st hR he =>
  h.bind st he fun v H1 a ⟨x, e, kx⟩ s1 st1 he1 rx => by
    subst e
    cases rx
    exact ⟨x, rfl, hR _ H1 _ kx s1 wk_str⟩
theorem reps_pair {S : Addr → Prop} {H : Hp} {i : Nat} {key : Key} {v : V} {kvs : List (Key × V)} {ds : List (Key × D)} (e : kvs.map Prod.fst = ds.map Prod.fst) (r : Reps K S H (kvs.map Prod.snd) (ds.map Prod.snd)) (h : kvs[i]? = some (key, v)) : ∃ d, ds[i]? = some (key, d) ∧ Rep K S H v d := by
  have h1 : (kvs.map Prod.snd)[i]? = some v := by rw [List.getElem?_map, h]; rfl
  obtain ⟨d, hd, rd⟩ := r.get h1
  have h2 : (ds.map Prod.fst)[i]? = some key := by rw [← e, List.getElem?_map, h]; rfl
  rw [List.getElem?_map] at hd h2
  cases q : ds[i]? with
  | none => rw [q] at hd; cases hd
  | some p =>
    rw [q] at hd h2
    obtain ⟨p1, p2⟩ := p
    cases hd; cases h2
    exact ⟨_, rfl, rd⟩
theorem len_pair {kvs : List (Key × V)} {ds : List (Key × D)} (e : kvs.map Prod.fst = ds.map Prod.fst) : kvs.length = ds.length := by
  have := congrArg List.length e
  simpa using this
/-- the dict behind tLk -/
theorem lk_dic {S : Addr → Prop} {td : TE} {S0 : Addr → Prop} {Os : OLa} {σ : L2.St} {H : Hp} {Q : VK} {k : List (Key × D) → Prop} (h : DT K E td G O (fun a => ∃ kvs, a = .dic kvs ∧ k kvs) ke) (st : St1 K S0 G O Os σ H) (he : EOk K (SO S0 Os) H E ke)
    (hq : ∀ (d : Addr) (od : Obj) (kvs : List (Key × V)) (ds : List (Key × D)) (Hm H1 : Hp), k ds → Same H Hm → Lkd (SO S0 Os) Hm H1 → ¬ SO S0 Os d → H1 d = some (.frz od (.dK kvs)) → kvs.map Prod.fst = ds.map Prod.fst → Reps K (SO S0 Os) H1 (kvs.map Prod.snd) (ds.map Prod.snd) → Q (.ref d) H1) :
    tLk td σ H Q :=
  h.bind st he fun x H1 a ⟨ds, e, kx⟩ s1 st1 he1 rx => by
    subst e
    cases rx with
    | dic n hh ek r =>
      refine ⟨_, _, rfl, hh, fun od H2 hl => ?_⟩
      have lk : Lkd (SO S0 Os) H1 H2 := by
        rcases hl with ⟨h1, h2⟩ | ⟨_, h2⟩
        · exact .inr ⟨_, od, _, n, h1, h2⟩
        · exact .inl h2
      refine hq _ od _ ds H1 H2 kx s1 lk n ?_ ek (Reps.mono lk.lex r)
      rcases hl with ⟨_, h2⟩ | ⟨h1, h2⟩
      · rw [h2]; exact upd_same
      · rw [h2]; exact h1
theorem di_items {td : TE} {k : List D → Prop} (h : DT K E td G O (fun a => ∃ kvs : List (Key × D), a = .dic kvs ∧ k (kvs.map fun p => D.tup [kD p.1, p.2])) ke) : DIL K E (iItems (tLk td)) G O k ke := fun S0 Os σ H R st hR he =>
  lk_dic (S := SO S0 Os) h st he fun d od kvs ds Hm H1 kx s1 lk n hd ek r => by
    refine ⟨d, od, kvs, rfl, hd, hR _ Hm H1 _ kx s1 lk fun S' H' hS dm s i => ?_⟩
    have e := s d n _ hd
    have hl : (ds.map fun p => D.tup [kD p.1, p.2]).length = kvs.length := by rw [List.length_map, len_pair ek]
    refine ⟨fun hi => ⟨e, by rw [← hl]; exact hi⟩, fun hi => ⟨e, by rw [← hl]; exact hi⟩, fun x H'' _ y => ?_⟩
    obtain ⟨T, key, v, h1, h2, h3, h4⟩ := y
    subst h2 h4
    obtain ⟨d', hd', rd⟩ := reps_pair ek r h1
    refine ⟨D.tup [kD key, d'], by rw [List.getElem?_map, hd']; rfl, Same.put h3, ?_⟩
    have nT : ¬ S' T := fun z => dm T z h3
    exact .tup nT upd_same (.cons (kD_rep _) (.cons (Rep.same (rep_walk rd hS s) (Same.put h3)) .nil))
theorem di_values {td : TE} {k : List D → Prop} (h : DT K E td G O (fun a => ∃ kvs : List (Key × D), a = .dic kvs ∧ k (kvs.map fun p => p.2)) ke) : DIL K E (iVals (tLk td)) G O k ke := fun S0 Os σ H R st hR he =>
  lk_dic (S := SO S0 Os) h st he fun d od kvs ds Hm H1 kx s1 lk n hd ek r => by
    refine ⟨d, od, kvs, rfl, hd, hR _ Hm H1 _ kx s1 lk fun S' H' hS dm s i => ?_⟩
    have e := s d n _ hd
    have hl : (ds.map fun p => p.2).length = kvs.length := by rw [List.length_map, len_pair ek]
    refine ⟨fun hi => ⟨e, by rw [← hl]; exact hi⟩, fun hi => ⟨e, by rw [← hl]; exact hi⟩, fun x H'' _ y => ?_⟩
    obtain ⟨h1, key, h2⟩ := y
    subst h1
    obtain ⟨d', hd', rd⟩ := reps_pair ek r h2
    exact ⟨d', by rw [List.getElem?_map, hd']; rfl, Same.refl _, rep_walk rd hS s⟩
theorem di_keys {td : TE} {k : List D → Prop} (h : DT K E td G O (fun a => ∃ kvs : List (Key × D), a = .dic kvs ∧ k (kvs.map fun p => kD p.1)) ke) : DIL K E (iKeys (tLk td)) G O k ke := fun S0 Os σ H R st hR he =>
  lk_dic (S := SO S0 Os) h st he fun d od kvs ds Hm H1 kx s1 lk n hd ek r => by
    refine ⟨d, od, rfl, .inl ⟨kvs, hd, hR _ Hm H1 _ kx s1 lk fun S' H' hS dm s i => ?_⟩⟩
    have e := s d n _ hd
    have hl : (ds.map fun p => kD p.1).length = kvs.length := by rw [List.length_map, len_pair ek]
    refine ⟨fun hi => ⟨e, by rw [← hl]; exact hi⟩, fun hi => ⟨e, by rw [← hl]; exact hi⟩, fun x H'' _ y => ?_⟩
    obtain ⟨h1, key, v, h2, h3⟩ := y
    subst h1 h3
    obtain ⟨d', hd', rd⟩ := reps_pair ek r h2
    exact ⟨kD key, by rw [List.getElem?_map, hd']; rfl, Same.refl _, kD_rep _⟩
theorem di_keysM {td : TE} {k : List D → Prop} (h : DT K E td G O (fun a => ∃ kvs : List (Key × D), a = .dic kvs ∧ k (kvs.map fun p => kD p.1)) ke) : DIL K E (iKeysM (tLk td)) G O k ke := fun S0 Os σ H R st hR he =>
  lk_dic (S := SO S0 Os) h st he fun d od kvs ds Hm H1 kx s1 lk n hd ek r => by
    refine ⟨d, od, kvs, rfl, hd, hR _ Hm H1 _ kx s1 lk fun S' H' hS dm s i => ?_⟩
    have e := s d n _ hd
    have hl : (ds.map fun p => kD p.1).length = kvs.length := by rw [List.length_map, len_pair ek]
    refine ⟨fun hi => ⟨e, by rw [← hl]; exact hi⟩, fun hi => ⟨e, by rw [← hl]; exact hi⟩, fun x H'' _ y => ?_⟩
    obtain ⟨h1, key, v, h2, h3⟩ := y
    subst h1 h3
    obtain ⟨d', hd', rd⟩ := reps_pair ek r h2
    exact ⟨kD key, by rw [List.getElem?_map, hd']; rfl, Same.refl _, kD_rep _⟩
/-- enumerate -/
def enumD (xs : List D) : List D := (List.range xs.length).map fun i => D.tup [.int (i : Nat), xs.getD i .non]
theorem di_enum {ta : TA} {k : List D → Prop} (h : DA K E ta G O (fun ds => ∃ xs, ds = [.lst xs] ∧ k (enumD xs)) ke) : DI K E (iEnum K ta) G O k ke := fun S0 Os σ H R st hR he =>
  h.bind st he fun vs H1 ds ⟨xs, e, kx⟩ s1 st1 he1 rx => by
    subst e
    cases rx with
    | cons h t =>
      cases t
      cases h with
      | lst n hh r =>
        rename_i a us
        have hl : (enumD xs).length = xs.length := by unfold enumD; simp
        refine ⟨_, _, rfl, SqL.of hh, hR _ H1 _ kx s1 fun S' H' hS dm s i => ?_⟩
        have e := s a n _ hh
        have q : SqL K H' a us := SqL.of e
        refine ⟨fun hi => ?_, fun hi => ?_, fun x H'' hi y => ?_⟩
        · exact ⟨us, us[i]'(by rw [r.length, ← hl]; exact hi), q, List.getElem?_eq_getElem _⟩
        · exact ⟨us, q, by rw [r.length, ← hl]; exact hi⟩
        · obtain ⟨T, z, e1, e2, e3, e4⟩ := y
          subst e1 e3
          obtain ⟨d, hd, rd⟩ := r.get (e4 us q)
          refine ⟨D.tup [.int (i : Nat), d], ?_, Same.put e2, ?_⟩
          · have hi' : i < xs.length := by rw [← hl]; exact hi
            unfold enumD
            rw [List.getElem?_map, List.getElem?_range hi']
            show some (D.tup [.int (i : Nat), xs.getD i .non]) = _
            rw [List.getD_eq_getElem?_getD, hd]; rfl
          · exact .tup (fun z => dm T z e2) upd_same (.cons (.int _) (.cons (Rep.same (rep_walk rd hS s) (Same.put e2)) .nil))
/-! ### targets -/
def DG (K : PySem.W.Frag) (g : TG) (is : List Nat) (d : D) (G : Gm) (O : OL) (k : Gm → Prop) : Prop := ∀ (S0 : Addr → Prop) (Os : OLa) (σ : L2.St) (H : Hp) (v : V) (Q : L2.St → Hp → Prop), St1 K S0 G O Os σ H → Rep K (SO S0 Os) H v d →
  (∀ G' σ', k G' → St1 K S0 G' O Os σ' H → σ'.length = σ.length → (∀ n, n ∉ is → σ'[n]? = σ[n]?) → Q σ' H) → g v σ H Q
def DGs (K : PySem.W.Frag) (g : TGs) (is : List Nat) (ds : List D) (G : Gm) (O : OL) (k : Gm → Prop) : Prop := ∀ (S0 : Addr → Prop) (Os : OLa) (σ : L2.St) (H : Hp) (vs : List V) (Q : L2.St → Hp → Prop), St1 K S0 G O Os σ H → Reps K (SO S0 Os) H vs ds →
  (∀ G' σ', k G' → St1 K S0 G' O Os σ' H → σ'.length = σ.length → (∀ n, n ∉ is → σ'[n]? = σ[n]?) → Q σ' H) → g vs σ H Q
theorem dg_name {i : Nat} {d : D} {k : Gm → Prop} (hi : ∀ o ∈ O, o.1 ≠ i) (h : k (G.set i (some d))) : DG K (gName i) [i] d G O k := fun S0 Os σ H v Q st r hq =>
  hq _ _ h (st.set r hi) (List.length_set ..) fun n hn => List.getElem?_set_ne fun z => hn (by rw [z]; exact List.mem_singleton.mpr rfl)
theorem dgs_nil {k : Gm → Prop} (h : k G) : DGs K gNil [] [] G O k := fun S0 Os σ H vs Q st r hq => by
  cases r
  exact ⟨rfl, hq G σ h st rfl fun _ _ => rfl⟩
theorem dgs_cons {t : TG} {u : TGs} {is js : List Nat} {d : D} {ds : List D} {k : Gm → Prop} (h : DG K t is d G O (fun G1 => DGs K u js ds G1 O k)) : DGs K (gCons t u) (is ++ js) (d :: ds) G O k := fun S0 Os σ H vs Q st r hq => by
  cases r with
  | cons h1 h2 =>
    refine ⟨_, _, rfl, h S0 Os σ H _ _ st h1 fun G1 σ1 k1 st1 l1 e1 => k1 S0 Os σ1 H _ Q st1 h2 fun G2 σ2 k2 st2 l2 e2 => hq G2 σ2 k2 st2 (l2.trans l1) fun n hn => ?_⟩
    rw [e2 n (fun z => hn (List.mem_append_right _ z)), e1 n (fun z => hn (List.mem_append_left _ z))]
theorem dg_tup {n : Nat} {t : TGs} {is : List Nat} {ds : List D} {k : Gm → Prop} (hl : ds.length = n) (h : DGs K t is ds G O k) : DG K (gTup K n t) is (.tup ds) G O k := fun S0 Os σ H v Q st r hq => by
  cases r with
  | tup nn hh rr => exact ⟨_, _, rfl, SqT.of hh, by rw [rr.length]; exact hl, h S0 Os σ H _ Q st rr hq⟩

/-! ### comprehensions -/
def wipeG (G : Gm) : List Nat → Gm
  | [] => G
  | v :: vs => (wipeG G vs).set v none
theorem wipeG_len (G : Gm) : ∀ vs : List Nat, (wipeG G vs).length = G.length
  | [] => rfl
  | v :: vs => by unfold wipeG; rw [List.length_set, wipeG_len G vs]
theorem wipe_get {σ : L2.St} {n : Nat} : ∀ {vs : List Nat}, n ∉ vs → (wipe σ vs)[n]? = σ[n]?
  | [], _ => rfl
  | v :: vs, h => by
    unfold wipe
    rw [List.getElem?_set_ne fun z => h (by rw [z]; exact List.mem_cons_self), wipe_get fun z => h (List.mem_cons_of_mem _ z)]
theorem wipe_in {σ : L2.St} {n : Nat} (hn : n < σ.length) : ∀ {vs : List Nat}, n ∈ vs → (wipe σ vs)[n]? = some none
  | v :: vs, h => by
    unfold wipe
    by_cases e : v = n
    · subst e; rw [List.getElem?_set_self (by rw [wipe_length]; exact hn)]
    · rw [List.getElem?_set_ne e]
      exact wipe_in hn ((List.mem_cons.mp h).resolve_left fun z => e z.symm)
theorem wipeG_some {n : Nat} {d : D} : ∀ {vs : List Nat}, (wipeG G vs)[n]? = some (some d) → G[n]? = some (some d) ∧ n ∉ vs
  | [], h => ⟨h, by simp⟩
  | v :: vs, h => by
    unfold wipeG at h
    by_cases hi : v = n
    · subst hi
      by_cases hv : v < (wipeG G vs).length
      · rw [List.getElem?_set_self hv] at h; cases h
      · rw [List.getElem?_eq_none (by simpa using hv)] at h; cases h
    · rw [List.getElem?_set_ne hi] at h
      obtain ⟨h1, h2⟩ := wipeG_some h
      exact ⟨h1, by simp only [List.mem_cons, not_or]; exact ⟨fun e => hi e.symm, h2⟩⟩
theorem wipe_same {σ τ : L2.St} {vs is : List Nat} (hs : ∀ i ∈ is, i ∈ vs) (hl : τ.length = σ.length) (h : ∀ n, n ∉ is → τ[n]? = (wipe σ vs)[n]?) : wipe τ vs = wipe σ vs := by
  apply List.ext_getElem?
  intro n
  by_cases hn : n ∈ vs
  · by_cases hlt : n < σ.length
    · rw [wipe_in (by rw [hl]; exact hlt) hn, wipe_in hlt hn]
    · rw [List.getElem?_eq_none (by rw [wipe_length, hl]; omega), List.getElem?_eq_none (by rw [wipe_length]; omega)]
  · rw [wipe_get hn, h n fun z => hn (hs n z)]
theorem St1.wipe {S0 : Addr → Prop} {Os : OLa} {σ : L2.St} {H : Hp} (h : St1 K S0 G O Os σ H) {vs : List Nat} (hv : ∀ o ∈ O, o.1 ∉ vs) : St1 K S0 (wipeG G vs) O Os (L2.wipe σ vs) H where
  os := h.os
  nd := h.nd
  dom := h.dom
  ns := h.ns
  len := by rw [wipe_length, wipeG_len]; exact h.len
  re := fun i d e => by
    obtain ⟨e1, e2⟩ := wipeG_some e
    obtain ⟨v, e3, r⟩ := h.re i d e1
    exact ⟨v, by rw [wipe_get e2]; exact e3, r⟩
  own := fun p hp => by
    obtain ⟨h1, h2⟩ := h.own p hp
    refine ⟨?_, h2⟩
    rw [wipe_get (hv p.2 (by rw [← h.os]; exact List.mem_map_of_mem hp))]
    exact h1
/-- what a comprehension makes of the items -/
inductive LcR (R : D → Option D → Prop) : List D → List D → Prop where
  | nil : LcR R [] []
  | keep {x y : D} {xs ys : List D} : R x (some y) → LcR R xs ys → LcR R (x :: xs) (y :: ys)
  | skip {x : D} {xs ys : List D} : R x none → LcR R xs ys → LcR R (x :: xs) ys
theorem LcR.snoc {R : D → Option D → Prop} {xs ys : List D} {x y : D} (h : LcR R xs ys) (r : R x (some y)) : LcR R (xs ++ [x]) (ys ++ [y]) := by
  induction h with
  | nil => exact .keep r .nil
  | keep q _ ih => exact .keep q ih
  | skip q _ ih => exact .skip q ih
theorem LcR.snoc0 {R : D → Option D → Prop} {xs ys : List D} {x : D} (h : LcR R xs ys) (r : R x none) : LcR R (xs ++ [x]) ys := by
  induction h with
  | nil => exact .skip r .nil
  | keep q _ ih => exact .keep q ih
  | skip q _ ih => exact .skip q ih
theorem LcR.le {R : D → Option D → Prop} {xs ys : List D} (h : LcR R xs ys) : ys.length ≤ xs.length := by
  induction h with
  | nil => exact Nat.le_refl _
  | keep q _ ih => exact Nat.succ_le_succ ih
  | skip q _ ih => exact Nat.le_succ_of_le ih
theorem LcR.map {R : D → Option D → Prop} {f : D → D} : ∀ {xs ys : List D}, LcR R xs ys → (∀ x ∈ xs, ∀ o, R x o → o = some (f x)) → ys = xs.map f
  | _, _, .nil, _ => rfl
  | _, _, .keep r t, h => by
    have e := h _ List.mem_cons_self _ r
    cases e
    rw [LcR.map t fun x hx => h x (List.mem_cons_of_mem _ hx)]; rfl
  | _, _, .skip r t, h => by cases h _ List.mem_cons_self _ r
theorem LcR.filter {R : D → Option D → Prop} {p : D → Bool} {f : D → D} : ∀ {xs ys : List D}, LcR R xs ys → (∀ x ∈ xs, ∀ o, R x o → o = if p x then some (f x) else none) → ys = (xs.filter p).map f
  | _, _, .nil, _ => rfl
  | x :: _, _, .keep r t, h => by
    have e := h x List.mem_cons_self _ r
    cases hp : p x with
    | false => rw [hp] at e; cases e
    | true =>
      rw [hp] at e; cases e
      rw [LcR.filter t fun x hx => h x (List.mem_cons_of_mem _ hx), List.filter_cons_of_pos hp]; rfl
  | x :: _, _, .skip r t, h => by
    have e := h x List.mem_cons_self _ r
    cases hp : p x with
    | true => rw [hp] at e; cases e
    | false =>
      rw [LcR.filter t fun x hx => h x (List.mem_cons_of_mem _ hx), List.filter_cons_of_neg (by rw [hp]; exact Bool.false_ne_true)]
theorem take_snoc {xs : List D} {i : Nat} {d : D} (h : xs[i]? = some d) : xs.take (i + 1) = xs.take i ++ [d] := by
  obtain ⟨hl, e⟩ := List.getElem?_eq_some_iff.mp h
  rw [List.take_succ, h]; rfl
/-- an item's turn -/
def LcT (K : PySem.W.Frag) (E : XK) (g : TG) (is : List Nat) (tt : TT) (te : TE) (G : Gm) (O : OL) (R : D → Option D → Prop) (x : D) : Prop :=
  DG K g is x G O fun G1 => DTT K E tt G1 O (fun b => (b = true → DT K E te G1 O (fun y => R x (some y)) F0) ∧ (b = false → R x none)) F0
theorem lc_loop {g : TG} {is : List Nat} {tt : TT} {te : TE} {vs : List Nat} {R : D → Option D → Prop} {xs : List D} {J : It} {S0 : Addr → Prop} {Os : OLa} {σ : L2.St} {H1 : Hp} {Q : VK} (st : St1 K S0 G O Os σ H1) (wk : Wk K (SO S0 Os) J H1 xs)
    (hs : ∀ i ∈ is, i ∈ vs) (hv : ∀ o ∈ O, o.1 ∉ vs) (hl : xs.length < sizeLine) (ht : ∀ x ∈ xs, LcT K E g is tt te (wipeG G vs) O R x)
    (hq : ∀ p H' ys, LcR R xs ys → Same H1 H' → H1 p = none → OwnAt K (fun b => SO S0 Os b ∨ b = p) H' p (.lst ys) → Q (.ref p) H') :
    ∀ p, H1 p = none → ∃ W : Nat → Nat → Hp → Prop, (∃ m, W 0 m (upd H1 p (.lst []))) ∧ ∀ i m H, W i m H → (J.stop i H ∧ Q (.ref p) H) ∨ (J.go i H ∧ ∃ Nx : Hp → Prop, (∀ H', Nx H' → ∃ m', m' < m ∧ W (i + 1) m' H') ∧ ∀ x H', J.yld i H x H' → g x (wipe σ vs) H' fun σ2 H2 => wipe σ2 vs = wipe σ vs ∧ tt σ2 H2 fun b H3 =>
        if b = true then te σ2 H3 fun y H4 => ∃ acc, H4 p = some (.lst acc) ∧ acc.length < sizeLine ∧ Nx (upd H4 p (.lst (acc ++ [y]))) else Nx H3) := fun p np => by
  have nS : ¬ SO S0 Os p := fun z => st.domW p z np
  let S' : Addr → Prop := fun b => SO S0 Os b ∨ b = p
  let Pv : Nat → Hp → Prop := fun i H => Same H1 H ∧ ∃ acc ys, H p = some (.lst acc) ∧ Reps K S' H acc ys ∧ LcR R (xs.take i) ys
  refine ⟨fun i m H => m = xs.length - i ∧ i ≤ xs.length ∧ Pv i H, ⟨_, rfl, Nat.zero_le _, Same.put np, [], [], upd_same, .nil, .nil⟩, ?_⟩
  rintro i m H ⟨rfl, hi, s1, acc, ys, hp, ra, lr⟩
  have hS' : ∀ a, S' a → SO S0 Os a ∨ H1 a = none := fun a z => z.elim .inl fun e => .inr (by rw [e]; exact np)
  have dm : ∀ a, S' a → H a ≠ none := fun a z q => z.elim (fun y => st.domW a y (s1.free q)) fun e => by rw [e, hp] at q; cases q
  obtain ⟨wg, ws, wy⟩ := wk S' H hS' dm (Same.sx s1) i
  by_cases hlt : i < xs.length
  · refine .inr ⟨wg hlt, Pv (i + 1), fun H' p' => ⟨xs.length - (i + 1), by omega, rfl, hlt, p'⟩, fun x H' y => ?_⟩
    obtain ⟨d, hd, s2, rd⟩ := wy x H' hlt y
    -- the block's state
    let S0' : Addr → Prop := fun b => S0 b ∨ b = p
    have so : ∀ a, SO S0' Os a → S' a := fun a z => z.elim (fun z => z.elim (fun z => .inl (.inl z)) .inr) fun z => .inl (.inr z)
    have os : ∀ a, S' a → SO S0' Os a := fun a z => z.elim (fun z => z.elim (fun z => .inl (.inl z)) .inr) fun z => .inl (.inr z)
    have s12 : Same H1 H' := s1.trans s2
    have st0 := (st.wipe hv).same s12
    have hp' : H' p = some (.lst acc) := s2 _ _ hp
    have stI : St1 K S0' (wipeG G vs) O Os (wipe σ vs) H' := by
      refine ⟨st0.os, st0.nd, fun a z => z.elim (st0.dom a) fun e => by rw [e, hp']; simp, fun a w z => z.elim (st0.ns a w) fun e => nS (by rw [← e]; exact .inr w), st0.len, fun j e q => ?_, fun q hq => ?_⟩
      · obtain ⟨v, e1, r⟩ := (st.wipe hv).re j e q
        exact ⟨v, e1, Rep.same (Rep.avoid (fun a z => hS' a (so a z)) r) s12⟩
      · obtain ⟨h1, h2⟩ := (st.wipe hv).own q hq
        refine ⟨h1, ?_⟩
        generalize q.2.2 = ow at h2 ⊢
        cases ow with
        | lst ds => obtain ⟨us, e, r⟩ := h2; exact ⟨us, s12 _ _ e, Reps.same (Reps.avoid (fun a z => hS' a (so a z)) r) s12⟩
        | dic ds => obtain ⟨us, e, q, r⟩ := h2; exact ⟨us, s12 _ _ e, q, Reps.same (Reps.avoid (fun a z => hS' a (so a z)) r) s12⟩
        | obj c ds => obtain ⟨dx, us, e, q, r⟩ := h2; exact ⟨dx, us, s12 _ _ e, q, Reps.same (Reps.avoid (fun a z => hS' a (so a z)) r) s12⟩
        | slf _ c ds => obtain ⟨ea, dx, us, e, q, r⟩ := h2; exact ⟨ea, dx, us, s12 _ _ e, q, Reps.same (Reps.avoid (fun a z => hS' a (so a z)) r) s12⟩
    refine ht d (List.mem_of_getElem? hd) S0' Os (wipe σ vs) H' x _ stI (Rep.weak so rd) fun G1 σ1 k1 st1 l1 e1 => ?_
    refine ⟨wipe_same hs (l1.trans (wipe_length σ vs)) e1, ?_⟩
    refine k1.bind st1 eok_e0 fun b H3 kb s3 st3 he3 => ?_
    have ra3 : Reps K S' H3 acc ys := ra.same (s2.trans s3)
    have hp3 : H3 p = some (.lst acc) := s3 _ _ hp'
    cases b with
    | true =>
      refine iteT ((kb.1 rfl).bind st3 he3 fun y H4 e ke s4 st4 he4 ry => ?_)
      have hp4 : H4 p = some (.lst acc) := s4 _ _ hp3
      have la : acc.length < sizeLine := by
        rw [ra.length]
        have l1 := lr.le
        rw [List.length_take] at l1
        omega
      refine ⟨acc, hp4, la, fun a u q => ?_, acc ++ [y], ys ++ [e], upd_same, ?_, ?_⟩
      · rw [upd_ne fun z => by rw [z, np] at q; cases q]
        exact s4 _ _ (s3 _ _ (s12 _ _ q))
      · exact Reps.mono (LeX.put (S := S') (.inr rfl)) ((ra3.same s4).append (.cons (Rep.weak os ry) .nil))
      · rw [take_snoc hd]; exact lr.snoc ke
    | false =>
      refine iteF ⟨s12.trans s3, acc, ys, hp3, ra3, ?_⟩
      rw [take_snoc hd]; exact lr.snoc0 (kb.2 rfl)
  · have e : i = xs.length := by omega
    subst e
    rw [List.take_length] at lr
    exact .inl ⟨ws (Nat.le_refl _), hq p H ys lr s1 np ⟨acc, hp, ra⟩⟩
/-- a comprehension over what stands -/
theorem df_lc {wi : TI} {g : TG} {tt : TT} {te : TE} {vs : List Nat} (is : List Nat) (R : D → Option D → Prop) {k : Ow → Prop} (hs : ∀ i ∈ is, i ∈ vs) (hv : ∀ o ∈ O, o.1 ∉ vs)
    (h : DI K E wi G O (fun xs => xs.length < sizeLine ∧ (∀ x ∈ xs, LcT K E g is tt te (wipeG G vs) O R x) ∧ ∀ ys, LcR R xs ys → k (.lst ys)) ke) : DF K E (tLc wi g tt te vs) G O k ke := fun S0 Os σ H Q st hq he =>
  h S0 Os σ H _ st (fun J H1 xs ⟨hl, ht, hk⟩ s1 wk => lc_loop (st.same s1) wk hs hv hl ht fun p H' ys lr s2 np oa => hq p H' _ (hk ys lr) (s1.trans s2) (s1.free np) oa) he
/-- .. over a dict, which is locked meanwhile -/
theorem unl_same {H H1 H2 H3 : Hp} {S : Addr → Prop} (l : Lkd S H H1) (s : Same H1 H2) : ∃ H3, Ulk H H2 H3 ∧ Same H H3 ∧ LeX (fun _ => False) H2 H3 ∧ ∀ a, (S a ∨ H1 a = none) → H3 a = H2 a := by
  rcases l with e | ⟨d, od, kvs, n, hd, e⟩
  · subst e
    exact ⟨H2, .inl rfl, s, LeX.rfl', fun _ _ => rfl⟩
  · have e1 : H1 d = some (.frz od (.dK kvs)) := by rw [e]; exact upd_same
    have e2 := s d _ e1
    refine ⟨upd H2 d (.dK kvs), .inr ⟨d, od, kvs, e2, (fun o u z => by rw [hd] at z; cases z), rfl⟩, fun a u q => ?_, fun a _ => ?_, fun a ta => upd_ne fun z => ?_⟩
    · by_cases h : a = d
      · subst h; rw [hd] at q; cases q; exact upd_same
      · rw [upd_ne h]
        exact s a u (by rw [e, upd_ne h]; exact q)
    · by_cases h : a = d
      · subst h
        refine ⟨fun u su q => ?_, fun k r => ?_⟩
        · rw [e2] at q; cases q; exact su.elim
        · rcases r with r | ⟨o, r⟩
          · rw [e2] at r; cases r
          · rw [e2] at r; cases r; exact .inl upd_same
      · refine ⟨fun u su q => by rw [upd_ne h]; exact q, fun k r => ?_⟩
        rcases r with r | ⟨o, r⟩
        · exact .inl (by rw [upd_ne h]; exact r)
        · exact .inr ⟨o, by rw [upd_ne h]; exact r⟩
    · rw [z] at ta
      rcases ta with ta | ta
      · exact n ta
      · rw [e1] at ta; cases ta
theorem df_lcL {wi : TI} {g : TG} {tt : TT} {te : TE} {vs : List Nat} (is : List Nat) (R : D → Option D → Prop) {k : Ow → Prop} (hs : ∀ i ∈ is, i ∈ vs) (hv : ∀ o ∈ O, o.1 ∉ vs)
    (h : DIL K E wi G O (fun xs => xs.length < sizeLine ∧ (∀ x ∈ xs, LcT K E g is tt te (wipeG G vs) O R x) ∧ ∀ ys, LcR R xs ys → k (.lst ys)) ke) : DF K E (tUnlE (tLc wi g tt te vs)) G O k ke := fun S0 Os σ H Q st hq he =>
  h S0 Os σ H _ st (fun J Hm H1 xs ⟨hl, ht, hk⟩ s1 lk wk => by
    have st1 : St1 K S0 G O Os σ H1 := (st.same s1).lex lk.lex fun a z => lk.at_ z
    refine lc_loop (Q := fun v H2 => ∃ H3, Ulk H H2 H3 ∧ Q v H3) st1 wk hs hv hl ht fun p H' ys lr s2 np oa => ?_
    obtain ⟨H3, u, s3, lx, e3⟩ := unl_same (H3 := H') lk s2
    have npm : Hm p = none := (lk.noneIff).mp np
    refine ⟨H3, ?_, hq p H3 _ (hk ys lr) (s1.trans s3) (s1.free npm) ?_⟩
    · rcases u with u | ⟨d, od, kvs, h1, h2, h3⟩
      · exact .inl u
      · exact .inr ⟨d, od, kvs, h1, fun o u z => h2 o u (s1 _ _ z), h3⟩
    · obtain ⟨acc, q, r⟩ := oa
      exact ⟨acc, (e3 p (.inr np)).trans q, Reps.mono (lx.weak fun _ z => z.elim) r⟩) he

/-! ### dict comprehensions -/
def putD (kvs : List (Key × D)) (k : Key) (v : D) : List (Key × D) :=
  if (kvs.any fun kv => decide (kv.1 = k)) = true then kvs.map (fun kv => if kv.1 = k then (kv.1, v) else kv) else kvs ++ [(k, v)]
theorem any_keys {k : Key} : ∀ {kvs : List (Key × V)} {ds : List (Key × D)}, kvs.map Prod.fst = ds.map Prod.fst → (kvs.any fun kv => decide (kv.1 = k)) = (ds.any fun kv => decide (kv.1 = k))
  | [], [], _ => rfl
  | [], _ :: _, h => by simp at h
  | _ :: _, [], h => by simp at h
  | p :: r, q :: s, h => by
    have h1 : p.1 = q.1 := by simpa using (List.cons.inj (by simpa using h)).1
    have h2 : r.map Prod.fst = s.map Prod.fst := by simpa using (List.cons.inj (by simpa using h)).2
    rw [List.any_cons, List.any_cons, any_keys h2, h1]
theorem put_map {S : Addr → Prop} {H : Hp} {k : Key} {v : V} {d : D} (rv : Rep K S H v d) : ∀ {kvs : List (Key × V)} {ds : List (Key × D)}, kvs.map Prod.fst = ds.map Prod.fst → Reps K S H (kvs.map Prod.snd) (ds.map Prod.snd) →
    (kvs.map fun kv => if kv.1 = k then (kv.1, v) else kv).map Prod.fst = (ds.map fun kv => if kv.1 = k then (kv.1, d) else kv).map Prod.fst ∧ Reps K S H ((kvs.map fun kv => if kv.1 = k then (kv.1, v) else kv).map Prod.snd) ((ds.map fun kv => if kv.1 = k then (kv.1, d) else kv).map Prod.snd)
  | [], [], _, _ => ⟨rfl, .nil⟩
  | [], _ :: _, h, _ => by simp at h
  | _ :: _, [], h, _ => by simp at h
  | p :: r, q :: s, h, .cons hv t => by
    have h1 : p.1 = q.1 := by simpa using (List.cons.inj (by simpa using h)).1
    have h2 : r.map Prod.fst = s.map Prod.fst := by simpa using (List.cons.inj (by simpa using h)).2
    obtain ⟨i1, i2⟩ := put_map (k := k) rv h2 t
    by_cases e : q.1 = k
    · have e1 : (if p.1 = k then (p.1, v) else p) = (p.1, v) := if_pos (h1.trans e)
      have e2 : (if q.1 = k then (q.1, d) else q) = (q.1, d) := if_pos e
      rw [List.map_cons (l := r), List.map_cons (l := s), e1, e2, List.map_cons, List.map_cons, List.map_cons, List.map_cons, i1]
      exact ⟨by rw [h1], .cons rv i2⟩
    · have e1 : (if p.1 = k then (p.1, v) else p) = p := if_neg fun z => e (h1.symm.trans z)
      have e2 : (if q.1 = k then (q.1, d) else q) = q := if_neg e
      rw [List.map_cons (l := r), List.map_cons (l := s), e1, e2, List.map_cons, List.map_cons, List.map_cons, List.map_cons, i1]
      exact ⟨by rw [h1], .cons hv i2⟩
theorem put_rep {S : Addr → Prop} {H : Hp} {k : Key} {v : V} {d : D} (rv : Rep K S H v d) {kvs : List (Key × V)} {ds : List (Key × D)} (e : kvs.map Prod.fst = ds.map Prod.fst) (r : Reps K S H (kvs.map Prod.snd) (ds.map Prod.snd)) :
    (putK kvs k v).map Prod.fst = (putD ds k d).map Prod.fst ∧ Reps K S H ((putK kvs k v).map Prod.snd) ((putD ds k d).map Prod.snd) := by
  unfold putK putD
  rw [any_keys e]
  by_cases h : (ds.any fun kv => decide (kv.1 = k)) = true
  · rw [if_pos h, if_pos h]; exact put_map rv e r
  · rw [if_neg h, if_neg h]
    refine ⟨by rw [List.map_append, List.map_append, e]; rfl, ?_⟩
    rw [List.map_append, List.map_append]
    exact r.append (.cons rv .nil)
theorem putD_len (kvs : List (Key × D)) (k : Key) (v : D) : (putD kvs k v).length ≤ kvs.length + 1 := by
  unfold putD
  split
  · rw [List.length_map]; omega
  · rw [List.length_append]; exact Nat.le_refl _
/-- what a dict comprehension makes of the items -/
inductive DcR (R : D → Option (Key × D) → Prop) : List D → List (Key × D) → Prop where
  | nil : DcR R [] []
  | keep {x : D} {k : Key} {y : D} {xs : List D} {ys : List (Key × D)} : DcR R xs ys → R x (some (k, y)) → DcR R (xs ++ [x]) (putD ys k y)
  | skip {x : D} {xs : List D} {ys : List (Key × D)} : DcR R xs ys → R x none → DcR R (xs ++ [x]) ys
theorem DcR.le {R : D → Option (Key × D) → Prop} {xs : List D} {ys : List (Key × D)} (h : DcR R xs ys) : ys.length ≤ xs.length := by
  induction h with
  | nil => exact Nat.le_refl _
  | keep q _ ih => rw [List.length_append]; exact Nat.le_trans (putD_len _ _ _) (Nat.succ_le_succ ih)
  | skip q _ ih => rw [List.length_append]; exact Nat.le_succ_of_le ih
def DcT (K : PySem.W.Frag) (E : XK) (g : TG) (is : List Nat) (tt : TT) (tk te : TE) (G : Gm) (O : OL) (R : D → Option (Key × D) → Prop) (x : D) : Prop :=
  DG K g is x G O fun G1 => DTT K E tt G1 O (fun b => (b = true → DT K E tk G1 O (fun y => DT K E te G1 O (fun z => ∃ k, y = kD k ∧ R x (some (k, z))) F0) F0) ∧ (b = false → R x none)) F0
theorem dc_loop {g : TG} {is : List Nat} {tt : TT} {tk te : TE} {vs : List Nat} {R : D → Option (Key × D) → Prop} {xs : List D} {J : It} {S0 : Addr → Prop} {Os : OLa} {σ : L2.St} {H1 : Hp} {Q : VK} (st : St1 K S0 G O Os σ H1) (wk : Wk K (SO S0 Os) J H1 xs)
    (hs : ∀ i ∈ is, i ∈ vs) (hv : ∀ o ∈ O, o.1 ∉ vs) (hl : xs.length < sizeLine) (ht : ∀ x ∈ xs, DcT K E g is tt tk te (wipeG G vs) O R x)
    (hq : ∀ p H' ys, DcR R xs ys → Same H1 H' → H1 p = none → OwnAt K (fun b => SO S0 Os b ∨ b = p) H' p (.dic ys) → Q (.ref p) H') :
    ∀ p, H1 p = none → ∃ W : Nat → Nat → Hp → Prop, (∃ m, W 0 m (upd H1 p (.dK []))) ∧ ∀ i m H, W i m H → (J.stop i H ∧ Q (.ref p) H) ∨ (J.go i H ∧ ∃ Nx : Hp → Prop, (∀ H', Nx H' → ∃ m', m' < m ∧ W (i + 1) m' H') ∧ ∀ x H', J.yld i H x H' → g x (wipe σ vs) H' fun σ2 H2 => wipe σ2 vs = wipe σ vs ∧ tt σ2 H2 fun b H3 =>
        if b = true then tk σ2 H3 fun y H4 => te σ2 H4 fun z H5 => ∃ kvs k, y = kV k ∧ H5 p = some (.dK kvs) ∧ kvs.length < sizeLine ∧ Nx (upd H5 p (.dK (putK kvs k z))) else Nx H3) := fun p np => by
  have nS : ¬ SO S0 Os p := fun z => st.domW p z np
  let S' : Addr → Prop := fun b => SO S0 Os b ∨ b = p
  let Pv : Nat → Hp → Prop := fun i H => Same H1 H ∧ ∃ (acc : List (Key × V)) (ys : List (Key × D)), H p = some (.dK acc) ∧ acc.map Prod.fst = ys.map Prod.fst ∧ Reps K S' H (acc.map Prod.snd) (ys.map Prod.snd) ∧ DcR R (xs.take i) ys
  refine ⟨fun i m H => m = xs.length - i ∧ i ≤ xs.length ∧ Pv i H, ⟨_, rfl, Nat.zero_le _, Same.put np, [], [], upd_same, rfl, .nil, .nil⟩, ?_⟩
  rintro i m H ⟨rfl, hi, s1, acc, ys, hp, ek, ra, lr⟩
  have hS' : ∀ a, S' a → SO S0 Os a ∨ H1 a = none := fun a z => z.elim .inl fun e => .inr (by rw [e]; exact np)
  have dm : ∀ a, S' a → H a ≠ none := fun a z q => z.elim (fun y => st.domW a y (s1.free q)) fun e => by rw [e, hp] at q; cases q
  obtain ⟨wg, ws, wy⟩ := wk S' H hS' dm (Same.sx s1) i
  by_cases hlt : i < xs.length
  · refine .inr ⟨wg hlt, Pv (i + 1), fun H' p' => ⟨xs.length - (i + 1), by omega, rfl, hlt, p'⟩, fun x H' y => ?_⟩
    obtain ⟨d, hd, s2, rd⟩ := wy x H' hlt y
    let S0' : Addr → Prop := fun b => S0 b ∨ b = p
    have so : ∀ a, SO S0' Os a → S' a := fun a z => z.elim (fun z => z.elim (fun z => .inl (.inl z)) .inr) fun z => .inl (.inr z)
    have os : ∀ a, S' a → SO S0' Os a := fun a z => z.elim (fun z => z.elim (fun z => .inl (.inl z)) .inr) fun z => .inl (.inr z)
    have s12 : Same H1 H' := s1.trans s2
    have st0 := (st.wipe hv).same s12
    have hp' : H' p = some (.dK acc) := s2 _ _ hp
    have stI : St1 K S0' (wipeG G vs) O Os (wipe σ vs) H' := by
      refine ⟨st0.os, st0.nd, fun a z => z.elim (st0.dom a) fun e => by rw [e, hp']; simp, fun a w z => z.elim (st0.ns a w) fun e => nS (by rw [← e]; exact .inr w), st0.len, fun j e q => ?_, fun q hq => ?_⟩
      · obtain ⟨v, e1, r⟩ := (st.wipe hv).re j e q
        exact ⟨v, e1, Rep.same (Rep.avoid (fun a z => hS' a (so a z)) r) s12⟩
      · obtain ⟨h1, h2⟩ := (st.wipe hv).own q hq
        refine ⟨h1, ?_⟩
        generalize q.2.2 = ow at h2 ⊢
        cases ow with
        | lst ds => obtain ⟨us, e, r⟩ := h2; exact ⟨us, s12 _ _ e, Reps.same (Reps.avoid (fun a z => hS' a (so a z)) r) s12⟩
        | dic ds => obtain ⟨us, e, q, r⟩ := h2; exact ⟨us, s12 _ _ e, q, Reps.same (Reps.avoid (fun a z => hS' a (so a z)) r) s12⟩
        | obj c ds => obtain ⟨dx, us, e, q, r⟩ := h2; exact ⟨dx, us, s12 _ _ e, q, Reps.same (Reps.avoid (fun a z => hS' a (so a z)) r) s12⟩
        | slf _ c ds => obtain ⟨ea, dx, us, e, q, r⟩ := h2; exact ⟨ea, dx, us, s12 _ _ e, q, Reps.same (Reps.avoid (fun a z => hS' a (so a z)) r) s12⟩
    refine ht d (List.mem_of_getElem? hd) S0' Os (wipe σ vs) H' x _ stI (Rep.weak so rd) fun G1 σ1 k1 st1 l1 e1 => ?_
    refine ⟨wipe_same hs (l1.trans (wipe_length σ vs)) e1, ?_⟩
    refine k1.bind st1 eok_e0 fun b H3 kb s3 st3 he3 => ?_
    have ra3 : Reps K S' H3 (acc.map Prod.snd) (ys.map Prod.snd) := ra.same (s2.trans s3)
    have hp3 : H3 p = some (.dK acc) := s3 _ _ hp'
    cases b with
    | true =>
      refine iteT ((kb.1 rfl).bind st3 he3 fun y H4 e ke s4 st4 he4 ry => ke.bind st4 he4 fun z H5 e5 ⟨key, ey, rk⟩ s5 st5 he5 rz => ?_)
      have hp5 : H5 p = some (.dK acc) := s5 _ _ (s4 _ _ hp3)
      have la : acc.length < sizeLine := by
        rw [len_pair ek]
        have l1 := lr.le
        rw [List.length_take] at l1
        omega
      subst ey
      have yk := kD_v ry
      have nS5 : LeX S' H5 (upd H5 p (.dK (putK acc key z))) := LeX.put (S := S') (.inr rfl)
      obtain ⟨p1, p2⟩ := put_rep (k := key) (Rep.mono nS5 (Rep.weak os rz)) ek (Reps.mono nS5 (ra3.same (s4.trans s5)))
      refine ⟨acc, key, yk, hp5, la, fun a u q => ?_, putK acc key z, putD ys key e5, upd_same, p1, p2, ?_⟩
      · rw [upd_ne fun z => by rw [z, np] at q; cases q]
        exact s5 _ _ (s4 _ _ (s3 _ _ (s12 _ _ q)))
      · rw [take_snoc hd]; exact .keep lr rk
    | false =>
      refine iteF ⟨s12.trans s3, acc, ys, hp3, ek, ra3, ?_⟩
      rw [take_snoc hd]; exact .skip lr (kb.2 rfl)
  · have e : i = xs.length := by omega
    subst e
    rw [List.take_length] at lr
    exact .inl ⟨ws (Nat.le_refl _), hq p H ys lr s1 np ⟨acc, hp, ek, ra⟩⟩
theorem df_dc {wi : TI} {g : TG} {tt : TT} {tk te : TE} {vs : List Nat} (is : List Nat) (R : D → Option (Key × D) → Prop) {k : Ow → Prop} (hs : ∀ i ∈ is, i ∈ vs) (hv : ∀ o ∈ O, o.1 ∉ vs)
    (h : DI K E wi G O (fun xs => xs.length < sizeLine ∧ (∀ x ∈ xs, DcT K E g is tt tk te (wipeG G vs) O R x) ∧ ∀ ys, DcR R xs ys → k (.dic ys)) ke) : DF K E (tDc wi g tt tk te vs) G O k ke := fun S0 Os σ H Q st hq he =>
  h S0 Os σ H _ st (fun J H1 xs ⟨hl, ht, hk⟩ s1 wk => dc_loop (st.same s1) wk hs hv hl ht fun p H' ys lr s2 np oa => hq p H' _ (hk ys lr) (s1.trans s2) (s1.free np) oa) he
theorem df_dcL {wi : TI} {g : TG} {tt : TT} {tk te : TE} {vs : List Nat} (is : List Nat) (R : D → Option (Key × D) → Prop) {k : Ow → Prop} (hs : ∀ i ∈ is, i ∈ vs) (hv : ∀ o ∈ O, o.1 ∉ vs)
    (h : DIL K E wi G O (fun xs => xs.length < sizeLine ∧ (∀ x ∈ xs, DcT K E g is tt tk te (wipeG G vs) O R x) ∧ ∀ ys, DcR R xs ys → k (.dic ys)) ke) : DF K E (tUnlE (tDc wi g tt tk te vs)) G O k ke := fun S0 Os σ H Q st hq he =>
  h S0 Os σ H _ st (fun J Hm H1 xs ⟨hl, ht, hk⟩ s1 lk wk => by
    have st1 : St1 K S0 G O Os σ H1 := (st.same s1).lex lk.lex fun a z => lk.at_ z
    refine dc_loop (Q := fun v H2 => ∃ H3, Ulk H H2 H3 ∧ Q v H3) st1 wk hs hv hl ht fun p H' ys lr s2 np oa => ?_
    obtain ⟨H3, u, s3, lx, e3⟩ := unl_same (H3 := H') lk s2
    have npm : Hm p = none := (lk.noneIff).mp np
    refine ⟨H3, ?_, hq p H3 _ (hk ys lr) (s1.trans s3) (s1.free npm) ?_⟩
    · rcases u with u | ⟨d, od, kvs, h1, h2, h3⟩
      · exact .inl u
      · exact .inr ⟨d, od, kvs, h1, fun o u z => h2 o u (s1 _ _ z), h3⟩
    · obtain ⟨acc, q, ek, r⟩ := oa
      exact ⟨acc, (e3 p (.inr np)).trans q, ek, Reps.mono (lx.weak fun _ z => z.elim) r⟩) he
end
end Fw

set_option maxHeartbeats 4000000
/-! Loops as statements; what is owned, changed. -/
namespace Fw
open PySem PySem.Spec PyProof.Rows L2
section
variable {K : PySem.W.Frag} {E : XK} {G : Gm} {O : OL} {ke : Xd → Prop} {kn : Gm → OL → Prop} {kr : D → Prop}

theorem Chg.sx {S0 : Addr → Prop} {Os Os' : OLa} {H H' : Hp} (c : Chg Os H Os' H') : SameX (SO S0 Os) H H' := fun a n u e => c.same a (fun z => n (.inr z)) u e
/-- the turns of a for -/
theorem for_loop {g : TG} {tb : TS} {xs : List D} {J : It} {S0 : Addr → Prop} {H0 : Hp} {Os : OLa} {σ : L2.St} {H1 : Hp} {Ds : Ends} (is : List Nat) (P : Nat → Gm → OL → Prop) (f : Frm S0 H0 Os H1) (st : St1 K S0 G O Os σ H1) (wk : Wk K (SO S0 Os) J H1 xs)
    (h0 : P 0 G O) (ht : ∀ i x G' O', xs[i]? = some x → P i G' O' → DG K g is x G' O' fun G2 => DS K E tb G2 O' (P (i + 1)) kr ke)
    (hd : ∀ G' O' Os' σ' H', P xs.length G' O' → Chg Os H1 Os' H' → St1 K S0 G' O' Os' σ' H' → Ds.nx σ' H')
    (hr : ∀ v H' d, kr d → Same H0 H' → Rep K S0 H' v d → Ds.rt v H') (he : EOk K S0 H0 E ke) :
    ∃ W : Nat → Nat → L2.St → Hp → Prop, (∃ m, W 0 m σ H1) ∧ ∀ i m σ H, W i m σ H →
      (J.stop i H ∧ Ds.nx σ H) ∨ (J.go i H ∧ ∃ N : L2.St → Hp → Prop, (∀ σ' H', N σ' H' → ∃ m', m' < m ∧ W (i + 1) m' σ' H') ∧ ∀ x H', J.yld i H x H' → g x σ H' fun σ2 H2 => tb { Ds with nx := N, ct := N, bk := Ds.nx } σ2 H2) := by
  let Pv : Nat → L2.St → Hp → Prop := fun i σ' H => ∃ G' O' Os', P i G' O' ∧ Chg Os H1 Os' H ∧ St1 K S0 G' O' Os' σ' H
  refine ⟨fun i m σ' H => m = xs.length - i ∧ i ≤ xs.length ∧ Pv i σ' H, ⟨_, rfl, Nat.zero_le _, G, O, Os, h0, Chg.refl, st⟩, ?_⟩
  rintro i m σ' H ⟨rfl, hi, G', O', Os', p, c, st'⟩
  have hS : ∀ a, SO S0 Os' a → SO S0 Os a ∨ H1 a = none := fun a z => z.elim (fun z => .inl (.inl z)) fun z => (c.new a z).imp .inr id
  obtain ⟨wg, ws, wy⟩ := wk (SO S0 Os') H hS st'.domW c.sx i
  by_cases hlt : i < xs.length
  · refine .inr ⟨wg hlt, Pv (i + 1), fun σ2 H2 p' => ⟨xs.length - (i + 1), by omega, rfl, hlt, p'⟩, fun x H2 y => ?_⟩
    obtain ⟨d, hd2, s2, rd⟩ := wy x H2 hlt y
    refine ht i d G' O' hd2 p S0 Os' σ' H2 x _ (st'.same s2) rd fun G2 σ2 k2 st2 _ _ => ?_
    have c2 : Chg Os H1 Os' H2 := c.trans (Chg.of_same s2)
    exact k2 S0 H0 Os' σ2 H2 _ (f.step c2) st2 (fun G3 O3 Os3 σ3 H3 p3 c3 st3 => ⟨G3, O3, Os3, p3, c2.trans c3, st3⟩) hr he
  · have e : i = xs.length := by omega
    subst e
    exact .inl ⟨ws (Nat.le_refl _), hd G' O' Os' σ' H p c st'⟩
theorem ds_for {wi : TI} {g : TG} {tb : TS} (is : List Nat) (P : List D → Nat → Gm → OL → Prop)
    (h : DI K E wi G O (fun xs => P xs 0 G O ∧ (∀ i x G' O', xs[i]? = some x → P xs i G' O' → DG K g is x G' O' fun G2 => DS K E tb G2 O' (P xs (i + 1)) kr ke) ∧ ∀ G' O', P xs xs.length G' O' → kn G' O') ke) :
    DS K E (tFor wi g tb) G O kn kr ke := fun S0 H0 Os σ H Ds f st hn hr he =>
  h S0 Os σ H _ st (fun J H1 xs ⟨h0, ht, hd⟩ s1 wk => by
    have c1 := Chg.of_same (Os := Os) s1
    exact for_loop is (P xs) (f.step c1) (st.same s1) wk h0 ht (fun G' O' Os' σ' H' p c st' => hn G' O' Os' σ' H' (hd G' O' p) (c1.trans c) st') hr he) (he.so f)
/-- a for over a dict, locked meanwhile; no exception leaves it -/
theorem ds_forL {wi : TI} {g : TG} {tb : TS} (is : List Nat) (P : List D → Nat → Gm → OL → Prop) (hke : ∀ x, ¬ ke x)
    (h : DIL K E wi G O (fun xs => P xs 0 G O ∧ (∀ i x G' O', xs[i]? = some x → P xs i G' O' → DG K g is x G' O' fun G2 => DS K E tb G2 O' (P xs (i + 1)) kr ke) ∧ ∀ G' O', P xs xs.length G' O' → kn G' O') ke) :
    DS K E (tUnlS (tFor wi g tb)) G O kn kr ke := fun S0 H0 Os σ H Ds f st hn hr he =>
  h S0 Os σ H _ st (fun J Hm H1 xs ⟨h0, ht, hd⟩ s1 lk wk => by
    have cm := Chg.of_same (Os := Os) s1
    have fm := f.step cm
    have st1 : St1 K S0 G O Os σ H1 := (st.same s1).lex lk.lex fun a z => lk.at_ z
    have nn : ∀ {a : Addr}, H1 a = none ↔ Hm a = none := lk.noneIff
    -- the entry's heap with the lock
    let H0' : Hp := fun b => if H0 b = none then none else H1 b
    have z0 : ∀ a, H0 a = none → H0' a = none := fun a e => if_pos e
    have z1 : ∀ a, H0 a ≠ none → H0' a = H1 a := fun a e => if_neg e
    have f' : Frm S0 H0' Os H1 := ⟨fun a u e => by
      by_cases q : H0 a = none
      · rw [z0 a q] at e; cases e
      · rw [z1 a q] at e; exact e, fun a z => z0 a (f.new a z), fun a z e => by
      rw [z1 a (f.dom a z)] at e
      exact st1.dom a z e⟩
    have ul : ∀ {σ' : L2.St} {Os' : OLa} {H' : Hp}, SameX (W Os) H1 H' → (∀ a, W Os' a → W Os a ∨ H1 a = none) → ∃ H3, Ulk H H' H3 ∧ SameX (W Os) Hm H3 ∧ LeX (fun _ => False) H' H3 ∧ (∀ a, SO S0 Os a ∨ H1 a = none → H3 a = H' a) := fun {σ' Os' H'} sx hw => by
      rcases lk with e | ⟨d, od, kvs, n, hdd, e⟩
      · subst e
        exact ⟨H', .inl rfl, sx, LeX.rfl', fun _ _ => rfl⟩
      · have e1 : H1 d = some (.frz od (.dK kvs)) := by rw [e]; exact upd_same
        have e2 := sx d (fun z => n (.inr z)) _ e1
        refine ⟨upd H' d (.dK kvs), .inr ⟨d, od, kvs, e2, (fun o u z => by rw [s1 _ _ z] at hdd; cases hdd), rfl⟩, fun a na u q => ?_, fun a _ => ?_, fun a ta => upd_ne fun z => ?_⟩
        · by_cases h : a = d
          · subst h; rw [hdd] at q; cases q; exact upd_same
          · rw [upd_ne h]
            exact sx a na u (by rw [e, upd_ne h]; exact q)
        · by_cases h : a = d
          · subst h
            refine ⟨fun u su q => ?_, fun k r => ?_⟩
            · rw [e2] at q; cases q; exact su.elim
            · rcases r with r | ⟨o, r⟩
              · rw [e2] at r; cases r
              · rw [e2] at r; cases r; exact .inl upd_same
          · refine ⟨fun u su q => by rw [upd_ne h]; exact q, fun k r => ?_⟩
            rcases r with r | ⟨o, r⟩
            · exact .inl (by rw [upd_ne h]; exact r)
            · exact .inr ⟨o, by rw [upd_ne h]; exact r⟩
        · rw [z] at ta
          rcases ta with ta | ta
          · exact n ta
          · rw [e1] at ta; cases ta
    refine for_loop is (P xs) f' st1 wk h0 ht (fun G' O' Os' σ' H' p c st' => ?_) (fun v H' d kd s r => ?_) (fun _ _ _ x z => (hke x z).elim)
    · obtain ⟨H3, u, sx3, lx, e3⟩ := ul (σ' := σ') (Os' := Os') c.same c.new
      have e4 : ∀ a, SO S0 Os' a → H3 a = H' a := fun a z => e3 a (z.elim (fun z => .inl (.inl z)) fun z => (c.new a z).imp .inr id)
      refine ⟨H3, u, hn G' O' Os' σ' H3 (hd G' O' p) (cm.trans ⟨sx3, fun a z => (c.new a z).imp id nn.mp⟩) (st'.lex (lx.weak fun _ z => z.elim) e4)⟩
    · -- a return out of the loop
      have hS0 : ∀ a, S0 a → H1 a ≠ none := st1.dom
      rcases lk with e | ⟨dd, od, kvs, n, hdd, e⟩
      · subst e
        refine ⟨H', .inl rfl, hr v H' d kd (fun a u q => s a u ?_) r⟩
        rw [z1 a (by rw [q]; simp)]
        exact s1 _ _ (f.same _ _ q)
      · have e1 : H1 dd = some (.frz od (.dK kvs)) := by rw [e]; exact upd_same
        by_cases q0 : H0 dd = none
        · -- the dict is ours: it may stay locked
          refine ⟨H', .inl rfl, hr v H' d kd (fun a u q => s a u ?_) r⟩
          have ne : a ≠ dd := fun z => by rw [z, q0] at q; cases q
          rw [z1 a (by rw [q]; simp), e, upd_ne ne]
          exact s1 _ _ (f.same _ _ q)
        · have e2 : H' dd = some (.frz od (.dK kvs)) := s dd _ (by rw [z1 dd q0]; exact e1)
          have h0d : H0 dd = some (.dK kvs) := by
            cases q : H0 dd with
            | none => exact absurd q q0
            | some u =>
              have := s1 _ _ (f.same _ _ q)
              rw [hdd] at this
              exact this.symm
          refine ⟨upd H' dd (.dK kvs), .inr ⟨dd, od, kvs, e2, (fun o u z => by rw [s1 _ _ z] at hdd; cases hdd), rfl⟩, hr v _ d kd (fun a u q => ?_) ?_⟩
          · by_cases h : a = dd
            · subst h; rw [h0d] at q; cases q; exact upd_same
            · rw [upd_ne h]
              refine s a u ?_
              rw [z1 a (by rw [q]; simp), e, upd_ne h]
              exact s1 _ _ (f.same _ _ q)
          · refine Rep.mono (fun a _ => ?_) r
            by_cases h : a = dd
            · subst h
              refine ⟨fun u su q => ?_, fun k r => ?_⟩
              · rw [e2] at q; cases q; exact su.elim
              · rcases r with r | ⟨o, r⟩
                · rw [e2] at r; cases r
                · rw [e2] at r; cases r; exact .inl upd_same
            · refine ⟨fun u su q => by rw [upd_ne h]; exact q, fun k r => ?_⟩
              rcases r with r | ⟨o, r⟩
              · exact .inl (by rw [upd_ne h]; exact r)
              · exact .inr ⟨o, by rw [upd_ne h]; exact r⟩) (he.so f)
/-- while, by a word and a measure -/
theorem ds_while {c : TT} {tb : TS} (P : Gm → OL → Prop) (mu : Gm → OL → Nat) (h0 : P G O)
    (ht : ∀ G' O', P G' O' → DTT K E c G' O' (fun b => (b = true → DS K E tb G' O' (fun G2 O2 => P G2 O2 ∧ mu G2 O2 < mu G' O') kr ke) ∧ (b = false → kn G' O')) ke) : DS K E (tWhile c tb) G O kn kr ke := fun S0 H0 Os σ H Ds f st hn hr he => by
  let Pv : Nat → L2.St → Hp → Prop := fun m σ' H' => ∃ G' O' Os', m = mu G' O' ∧ P G' O' ∧ Chg Os H Os' H' ∧ St1 K S0 G' O' Os' σ' H'
  refine ⟨Pv, ⟨_, G, O, Os, rfl, h0, Chg.refl, st⟩, ?_⟩
  rintro m σ' H' ⟨G', O', Os', rfl, p, c1, st'⟩
  have f' := f.step c1
  refine (ht G' O' p).at_ f' st' he fun b H2 kb s2 f2 st2 => ?_
  have c2 : Chg Os H Os' H2 := c1.trans (Chg.of_same s2)
  cases b with
  | true =>
    exact ⟨fun σ3 H3 => ∃ m', m' < mu G' O' ∧ Pv m' σ3 H3, fun _ _ z => z, kb.1 rfl S0 H0 Os' σ' H2 _ f2 st2 (fun G3 O3 Os3 σ3 H3 ⟨p3, l3⟩ c3 st3 => ⟨_, l3, G3, O3, Os3, rfl, p3, c2.trans c3, st3⟩) hr he⟩
  | false => exact hn G' O' Os' σ' H2 (kb.2 rfl) c2 st2
end
end Fw

set_option maxHeartbeats 4000000
/-! What is owned, changed; isinstance; == of data. -/
namespace Fw
open PySem PySem.Spec PyProof.Rows L2
section
variable {K : PySem.W.Frag} {E : XK} {G : Gm} {O : OL} {ke : Xd → Prop} {kn : Gm → OL → Prop} {kr : D → Prop}
/-- an expression that may change what is owned -/
def DM (K : PySem.W.Frag) (E : XK) (t : TE) (G : Gm) (O : OL) (k : D → OL → Prop) (ke : Xd → Prop) : Prop := ∀ (S0 : Addr → Prop) (H0 : Hp) (Os : OLa) (σ : L2.St) (H : Hp) (Q : VK), Frm S0 H0 Os H → St1 K S0 G O Os σ H → EOk K S0 H0 E ke →
  (∀ v H' d O' Os', k d O' → Chg Os H Os' H' → St1 K S0 G O' Os' σ H' → Rep K (SO S0 Os') H' v d → Q v H') → t σ H Q
theorem DT.dm {t : TE} {k : D → OL → Prop} (h : DT K E t G O (fun d => k d O) ke) : DM K E t G O k ke := fun S0 H0 Os σ H Q f st he hq =>
  h.at_ f st he fun v H' d kd s _ st' r => hq v H' d O Os kd (Chg.of_same s) st' r
theorem ds_asgM {te : TE} {i : Nat} (h : DM K E te G O (fun d O' => (∀ o ∈ O', o.1 ≠ i) ∧ kn (G.set i (some d)) O') ke) : DS K E (tAsg te (gName i)) G O kn kr ke := fun S0 H0 Os σ H Ds f st hn hr he =>
  h S0 H0 Os σ H _ f st he fun v H' d O' Os' ⟨hi, kd⟩ c st' r => hn _ O' Os' _ H' kd c (st'.set r hi)
/-- the owned list in slot i -/
theorem lst_at {S0 : Addr → Prop} {Os : OLa} {σ : L2.St} {H : Hp} (st : St1 K S0 G O Os σ H) {j i : Nat} {ds : List D} (ho : O[j]? = some (i, .lst ds)) :
    ∃ (p : Addr) (vs : List V), Os[j]? = some (p, i, .lst ds) ∧ σ[i]? = some (some (.ref p)) ∧ H p = some (.lst vs) ∧ Reps K (SO S0 Os) H vs ds := by
  obtain ⟨p, hp, e, hpj⟩ := own_at st.os ho
  obtain ⟨hs, oa⟩ := st.own p hp
  obtain ⟨p1, p2⟩ := p
  have e' : p2 = (i, .lst ds) := e
  subst e'
  obtain ⟨vs, h1, h2⟩ := oa
  exact ⟨p1, vs, hpj, hs, h1, h2⟩
theorem w_at {Os : OLa} {j i : Nat} {p : Addr} {o : Ow} (h : Os[j]? = some (p, i, o)) : W Os p := List.mem_map_of_mem (f := (·.1)) (List.mem_of_getElem? h)
theorem St1.lst_put {S0 : Addr → Prop} {Os : OLa} {σ : L2.St} {H : Hp} (st : St1 K S0 G O Os σ H) {j i : Nat} {ds ds' : List D} {p : Addr} {vs' : List V} (hp : Os[j]? = some (p, i, .lst ds)) (r : Reps K (SO S0 Os) H vs' ds') :
    St1 K S0 G (O.set j (i, .lst ds')) (Os.set j (p, i, .lst ds')) σ (upd H p (.lst vs')) := by
  have sx : SameX (W Os) H (upd H p (.lst vs')) := fun a n u e => by rw [upd_ne fun z => n (by rw [z]; exact w_at hp)]; exact e
  exact st.own_set hp ⟨vs', upd_same, Reps.mono (sx.lex.weak fun a z => .inr z) r⟩ sx
theorem ty_list {H : Hp} {p : Addr} {vs : List V} (h : H p = some (.lst vs)) : tyV K "list" (.ref p) H := .inl ⟨rfl, _, SqL.of h⟩
/-- x.append(e) -/
theorem ds_append (j : Nat) {i : Nat} {ds : List D} {te : TE} (ho : O[j]? = some (i, .lst ds)) (h : DM K E te G O (fun d O' => ∃ ds', O'[j]? = some (i, .lst ds') ∧ ds'.length < sizeLine ∧ kn G (O'.set j (i, .lst (ds' ++ [d])))) ke) :
    DS K E (tDrop (tBM K "list" rAppend (tVar i) (tCons te tNil))) G O kn kr ke := fun S0 H0 Os σ H Ds f st hn hr he => by
  obtain ⟨p, vs, hpj, hs, hh, r⟩ := lst_at st ho
  refine ⟨_, hs, ty_list hh, h S0 H0 Os σ H _ f st he fun v H' d O' Os' ⟨ds', ho', hl, kd⟩ c st' rd => ?_⟩
  obtain ⟨p', vs', hpj', hs', hh', r'⟩ := lst_at st' ho'
  rw [hs] at hs'; cases hs'
  exact ⟨p, vs', v, rfl, rfl, hh', by rw [r'.length]; exact hl, hn G _ _ σ _ kd (c.trans (chg_put hpj')) (st'.lst_put hpj' (r'.append (.cons rd .nil)))⟩
/-- x.pop(e) -/
theorem dm_popAt (j : Nat) {i : Nat} {ds : List D} {te : TE} {k : D → OL → Prop} (ho : O[j]? = some (i, .lst ds)) (h : DT K E te G O (fun d => ∃ n m y, d = .int n ∧ -(2 ^ 63) ≤ n ∧ n < 2 ^ 63 ∧ seqIndex? n ds.length = some m ∧ ds[m]? = some y ∧ k y (O.set j (i, .lst (ds.eraseIdx m)))) ke) :
    DM K E (tBM K "list" rPopAt (tVar i) (tCons te tNil)) G O k ke := fun S0 H0 Os σ H Q f st he hq => by
  obtain ⟨p, vs, hpj, hs, hh, r⟩ := lst_at st ho
  refine ⟨_, hs, ty_list hh, h.at_ f st he fun v H' d ⟨n, m, y, e, l1, l2, hm, hy, kd⟩ s f' st' rd => ?_⟩
  subst e; cases rd
  have hh' := s _ _ hh
  obtain ⟨w, hw, rw_⟩ := (r.same s).get' hy
  have st2 := st'.lst_put hpj ((r.same s).erase m)
  have so : SO S0 (Os.set j (p, i, .lst (ds.eraseIdx m))) = SO S0 Os := by
    funext a
    have em : ∀ b, W (Os.set j (p, i, Ow.lst (ds.eraseIdx m))) b ↔ W Os b := fun b => by
      have hj : j < Os.length := (List.getElem?_eq_some_iff.mp hpj).1
      have e2 : (Os.set j (p, i, Ow.lst (ds.eraseIdx m))).map (·.1) = Os.map (·.1) := by
        rw [List.map_set]
        apply List.ext_getElem?
        intro n
        by_cases hn : j = n
        · subst hn
          rw [List.getElem?_set_self (by rw [List.length_map]; exact hj), List.getElem?_map, hpj]; rfl
        · rw [List.getElem?_set_ne hn]
      show b ∈ _ ↔ b ∈ _
      rw [e2]
    exact propext ⟨fun z => z.imp id (em a).mp, fun z => z.imp id (em a).mpr⟩
  refine ⟨p, vs, n, m, w, rfl, rfl, hh', l1, l2, by rw [r.length]; exact hm, hw, hq w _ y _ _ kd ((Chg.of_same s).trans (chg_put hpj)) st2 ?_⟩
  rw [so]
  exact Rep.mono (LeX.put (S := SO S0 Os) (.inr (w_at hpj))) rw_
/-- x.extend(e) -/
theorem ds_extend (j : Nat) {i : Nat} {ds : List D} {te : TE} (ho : O[j]? = some (i, .lst ds)) (h : DT K E te G O (fun d => ∃ ys, d = .lst ys ∧ ds.length + ys.length ≤ sizeLine ∧ kn G (O.set j (i, .lst (ds ++ ys)))) ke) :
    DS K E (tDrop (tBM K "list" rExtend (tVar i) (tCons te tNil))) G O kn kr ke := fun S0 H0 Os σ H Ds f st hn hr he => by
  obtain ⟨p, vs, hpj, hs, hh, r⟩ := lst_at st ho
  refine ⟨_, hs, ty_list hh, h.at_ f st he fun v H' d ⟨ys, e, hl, kd⟩ s f' st' rd => ?_⟩
  subst e
  cases rd with
  | lst n h2 r2 =>
    exact ⟨p, _, vs, _, rfl, rfl, s _ _ hh, h2, by rw [r.length, r2.length]; exact hl, hn G _ _ σ _ kd ((Chg.of_same s).trans (chg_put hpj)) (st'.lst_put hpj ((r.same s).append r2))⟩
/-- x[e] = v -/
theorem ds_setitem (j : Nat) {i : Nat} {ds : List D} {tv ti : TE} (ho : O[j]? = some (i, .lst ds)) (h : DT K E tv G O (fun d => DT K E ti G O (fun e => ∃ n m, e = .int n ∧ ixN ds.length n = some m ∧ kn G (O.set j (i, .lst (ds.set m d)))) ke) ke) :
    DS K E (tAsg tv (gSub (tVar i) ti rSetL)) G O kn kr ke := fun S0 H0 Os σ H Ds f st hn hr he =>
  h.at_ f st he fun v H1 d hd s1 f1 st1 rd => by
    obtain ⟨p, vs, hpj, hs, hh, r⟩ := lst_at st1 ho
    refine ⟨_, hs, hd.at_ f1 st1 he fun w H2 e ⟨n, m, ee, hm, kd⟩ s2 f2 st2 re => ?_⟩
    subst ee; cases re
    exact ⟨p, vs, n, m, rfl, rfl, s2 _ _ hh, by rw [r.length]; exact hm, hn G _ _ σ _ kd ((Chg.of_same (s1.trans s2)).trans (chg_put hpj)) (st2.lst_put hpj ((r.same s2).set (rd.same s2) m))⟩
/-- the owned dict -/
theorem dic_at {S0 : Addr → Prop} {Os : OLa} {σ : L2.St} {H : Hp} (st : St1 K S0 G O Os σ H) {j i : Nat} {ds : List (Key × D)} (ho : O[j]? = some (i, .dic ds)) :
    ∃ (p : Addr) (vs : List (Key × V)), Os[j]? = some (p, i, .dic ds) ∧ σ[i]? = some (some (.ref p)) ∧ H p = some (.dK vs) ∧ vs.map Prod.fst = ds.map Prod.fst ∧ Reps K (SO S0 Os) H (vs.map Prod.snd) (ds.map Prod.snd) := by
  obtain ⟨p, hp, e, hpj⟩ := own_at st.os ho
  obtain ⟨hs, oa⟩ := st.own p hp
  obtain ⟨p1, p2⟩ := p
  have e' : p2 = (i, .dic ds) := e
  subst e'
  obtain ⟨vs, h1, h2, h3⟩ := oa
  exact ⟨p1, vs, hpj, hs, h1, h2, h3⟩
theorem St1.dic_put {S0 : Addr → Prop} {Os : OLa} {σ : L2.St} {H : Hp} (st : St1 K S0 G O Os σ H) {j i : Nat} {ds ds' : List (Key × D)} {p : Addr} {vs' : List (Key × V)} (hp : Os[j]? = some (p, i, .dic ds)) (ek : vs'.map Prod.fst = ds'.map Prod.fst) (r : Reps K (SO S0 Os) H (vs'.map Prod.snd) (ds'.map Prod.snd)) :
    St1 K S0 G (O.set j (i, .dic ds')) (Os.set j (p, i, .dic ds')) σ (upd H p (.dK vs')) := by
  have sx : SameX (W Os) H (upd H p (.dK vs')) := fun a n u e => by rw [upd_ne fun z => n (by rw [z]; exact w_at hp)]; exact e
  exact st.own_set hp ⟨vs', upd_same, ek, Reps.mono (sx.lex.weak fun a z => .inr z) r⟩ sx
/-- d[e] = v -/
theorem ds_dput (j : Nat) {i : Nat} {ds : List (Key × D)} {tv ty : TE} (ho : O[j]? = some (i, .dic ds)) (h : DT K E tv G O (fun d => DT K E ty G O (fun e => ∃ key, e = kD key ∧ ds.length < sizeLine ∧ kn G (O.set j (i, .dic (putD ds key d)))) ke) ke) :
    DS K E (sDPut (tVar i) ty tv) G O kn kr ke := fun S0 H0 Os σ H Ds f st hn hr he =>
  h.at_ f st he fun v H1 d hd s1 f1 st1 rd => by
    obtain ⟨p, vs, hpj, hs, hh, ek, r⟩ := dic_at st1 ho
    refine ⟨_, hs, hd.at_ f1 st1 he fun w H2 e ⟨key, ee, hl, kd⟩ s2 f2 st2 re => ?_⟩
    subst ee
    have ew := kD_v re
    subst ew
    obtain ⟨q1, q2⟩ := put_rep (k := key) (rd.same s2) ek (r.same s2)
    exact ⟨p, _, rfl, DPut.k (s2 _ _ hh) (by rw [len_pair ek]; exact hl), hn G _ _ σ _ kd ((Chg.of_same (s1.trans s2)).trans (chg_put hpj)) (st2.dic_put hpj q1 q2)⟩
/-- the owned object -/
theorem obj_at {S0 : Addr → Prop} {Os : OLa} {σ : L2.St} {H : Hp} (st : St1 K S0 G O Os σ H) {j i : Nat} {c : Str} {ds : List (Str × D)} (ho : O[j]? = some (i, .obj c ds)) :
    ∃ (p dx : Addr) (vs : List (Str × V)), Os[j]? = some (p, i, .obj c ds) ∧ σ[i]? = some (some (.ref p)) ∧ H p = some (.ins (He.ga K c) dx vs) ∧ vs.map Prod.fst = ds.map Prod.fst ∧ Reps K (SO S0 Os) H (vs.map Prod.snd) (ds.map Prod.snd) := by
  obtain ⟨p, hp, e, hpj⟩ := own_at st.os ho
  obtain ⟨hs, oa⟩ := st.own p hp
  obtain ⟨p1, p2⟩ := p
  have e' : p2 = (i, .obj c ds) := e
  subst e'
  obtain ⟨dx, vs, h1, h2, h3⟩ := oa
  exact ⟨p1, dx, vs, hpj, hs, h1, h2, h3⟩
def putG (f : Str) (v : D) : List (Str × D) → List (Str × D)
  | [] => [(f, v)]
  | (g, u) :: r => if g = f then (g, v) :: r else (g, u) :: putG f v r
theorem putG_rep {S : Addr → Prop} {H : Hp} {f : Str} {v : V} {d : D} (rv : Rep K S H v d) : ∀ {fs : List (Str × V)} {ds : List (Str × D)}, fs.map Prod.fst = ds.map Prod.fst → Reps K S H (fs.map Prod.snd) (ds.map Prod.snd) →
    (putF f v fs).map Prod.fst = (putG f d ds).map Prod.fst ∧ Reps K S H ((putF f v fs).map Prod.snd) ((putG f d ds).map Prod.snd)
  | [], [], _, _ => ⟨rfl, .cons rv .nil⟩
  | [], _ :: _, h, _ => by simp at h
  | _ :: _, [], h, _ => by simp at h
  | (p, x) :: r, (q, y) :: s, h, .cons hv t => by
    have h1 : p = q := by simpa using (List.cons.inj (by simpa using h)).1
    have h2 : r.map Prod.fst = s.map Prod.fst := by simpa using (List.cons.inj (by simpa using h)).2
    subst h1
    obtain ⟨i1, i2⟩ := putG_rep (f := f) rv h2 t
    by_cases e : p = f
    · have e1 : putF f v ((p, x) :: r) = (p, v) :: r := by unfold putF; exact if_pos e
      have e2 : putG f d ((p, y) :: s) = (p, d) :: s := by unfold putG; exact if_pos e
      rw [e1, e2]
      exact ⟨by rw [List.map_cons, List.map_cons, h2], .cons rv t⟩
    · have e1 : putF f v ((p, x) :: r) = (p, x) :: putF f v r := by
        show (if p = f then _ else _) = _
        exact if_neg e
      have e2 : putG f d ((p, y) :: s) = (p, y) :: putG f d s := by
        show (if p = f then _ else _) = _
        exact if_neg e
      rw [e1, e2]
      exact ⟨by rw [List.map_cons, List.map_cons, i1], .cons hv i2⟩
/-- self.f = e, self owned -/
theorem ds_fld (j : Nat) {i : Nat} {c f : Str} {ds : List (Str × D)} {tv : TE} (cl : Cls K (He.ga K c)) (na : NoAttr K (He.ga K c) f) (ho : O[j]? = some (i, .obj c ds)) (hl : ds.length < 1000) (h : DT K E tv G O (fun d => kn G (O.set j (i, .obj c (putG f d ds)))) ke) :
    DS K E (sFld K (tVar i) tv f) G O kn kr ke := fun S0 H0 Os σ H Ds ff st hn hr he =>
  h.at_ ff st he fun v H1 d kd s1 f1 st1 rd => by
    obtain ⟨p, dx, vs, hpj, hs, hh, ek, r⟩ := obj_at st1 ho
    obtain ⟨q1, q2⟩ := putG_rep (f := f) rd ek r
    have hle : vs.length = ds.length := by
      have := congrArg List.length ek
      simpa using this
    have sx : SameX (W Os) H1 (upd H1 p (.ins (He.ga K c) dx (putF f v vs))) := fun a n u e => by rw [upd_ne fun z => n (by rw [z]; exact w_at hpj)]; exact e
    have st2 := st1.own_set hpj (o' := .obj c (putG f d ds)) ⟨dx, _, upd_same, q1, Reps.mono (sx.lex.weak fun a z => .inr z) q2⟩ sx
    exact ⟨_, hs, p, _, dx, vs, rfl, hh, cl, na, by rw [hle]; exact hl, hn G _ _ σ _ kd ((Chg.of_same s1).trans (chg_put hpj)) st2⟩
/-- .. the instance that an __init__ fills -/
theorem ds_fldS (j : Nat) {x : Addr} {i : Nat} {c f : Str} {ds : List (Str × D)} {tv : TE} (cl : Cls K (He.ga K c)) (na : NoAttr K (He.ga K c) f) (ho : O[j]? = some (i, .slf x c ds)) (hl : ds.length < 1000) (h : DT K E tv G O (fun d => kn G (O.set j (i, .slf x c (putG f d ds)))) ke) :
    DS K E (sFld K (tVar i) tv f) G O kn kr ke := fun S0 H0 Os σ H Ds ff st hn hr he =>
  h.at_ ff st he fun v H1 d kd s1 f1 st1 rd => by
    obtain ⟨p0, hp, e, hpj⟩ := own_at st1.os ho
    obtain ⟨hs, oa⟩ := st1.own p0 hp
    obtain ⟨p, p2⟩ := p0
    have e' : p2 = (i, .slf x c ds) := e
    subst e'
    obtain ⟨ea, dx, vs, hh, ek, r⟩ := oa
    obtain ⟨q1, q2⟩ := putG_rep (f := f) rd ek r
    have hle : vs.length = ds.length := by
      have := congrArg List.length ek
      simpa using this
    have sx : SameX (W Os) H1 (upd H1 p (.ins (He.ga K c) dx (putF f v vs))) := fun a n u e => by rw [upd_ne fun z => n (by rw [z]; exact w_at hpj)]; exact e
    have st2 := st1.own_set hpj (o' := .slf x c (putG f d ds)) ⟨ea, dx, _, upd_same, q1, Reps.mono (sx.lex.weak fun a z => .inr z) q2⟩ sx
    exact ⟨_, hs, p, _, dx, vs, rfl, hh, cl, na, by rw [hle]; exact hl, hn G _ _ σ _ kd ((Chg.of_same s1).trans (chg_put hpj)) st2⟩
/-! ### len -/
abbrev rLenB (K : PySem.W.Frag) : List V → Hp → VK → Prop := fun xs H Q => ∃ x n, xs = [x] ∧ LenV K x H n ∧ Q (.int n) H
theorem dt_lenO (j : Nat) {i : Nat} {ds : List D} {k : D → Prop} (ho : O[j]? = some (i, .lst ds)) (h : k (.int (ds.length : Nat))) : DT K E (tCB (rLenB K) (tCons (tVar i) tNil)) G O k ke := fun S0 Os σ H Q st hq he => by
  obtain ⟨p, vs, hpj, hs, hh, r⟩ := lst_at st ho
  refine ⟨_, hs, _, vs.length, rfl, .inl ⟨vs, SqL.of hh, rfl⟩, ?_⟩
  rw [r.length]
  exact hq _ H _ h (Same.refl H) (.int _)
theorem cad_len : CaD K (rLenB K) (fun ds k => ∃ d, ds = [d] ∧ ((∃ xs, d = .lst xs ∧ k (.int (xs.length : Nat))) ∨ (∃ xs, d = .tup xs ∧ k (.int (xs.length : Nat))) ∨ ∃ z : Str, d = .str z ∧ z.length ≤ sizeLine ∧ k (.int (z.length : Nat)))) := by
  intro S H xs ds Q k dm rx ⟨d, e, h⟩ hq
  subst e
  cases rx with
  | cons hx t =>
    cases t
    rcases h with ⟨ys, e, q⟩ | ⟨ys, e, q⟩ | ⟨z, e, l, q⟩
    · subst e
      cases hx with
      | lst n hh r => exact ⟨_, _, rfl, .inl ⟨_, SqL.of hh, rfl⟩, by rw [r.length]; exact hq _ H _ q (Same.refl H) (.int _)⟩
    · subst e
      cases hx with
      | tup n hh r => exact ⟨_, _, rfl, .inr ⟨_, SqT.of hh, rfl⟩, by rw [r.length]; exact hq _ H _ q (Same.refl H) (.int _)⟩
    · subst e
      cases hx
      exact ⟨_, _, rfl, ⟨l, rfl⟩, hq _ H _ q (Same.refl H) (.int _)⟩
theorem cad_lenS : CaD K (rLenB K) (fun ds k => ∃ ns, ds = [.scr ns] ∧ k (.int (ns.length : Nat))) := by
  intro S H xs ds Q k dm rx ⟨ns, e, q⟩ hq
  subst e
  cases rx with
  | cons hx t =>
    cases t
    cases hx with
    | scr n h => exact ⟨_, _, rfl, .inl ⟨_, .inl h, rfl⟩, by rw [List.length_map]; exact hq _ H _ q (Same.refl H) (.int _)⟩
    | scrK h => exact ⟨_, _, rfl, .inl ⟨_, .inr h, rfl⟩, by rw [List.length_map]; exact hq _ H _ q (Same.refl H) (.int _)⟩
theorem opd_ixS : OpD K (rIxL K) (fun a b k => ∃ ns i n, a = .scr ns ∧ b = .int i ∧ atI ns i = some n ∧ k (.int n)) := by
  intro S H x y a b Q k dm rx ry ⟨ns, i, n, e1, e2, l, q⟩ hq
  subst e1 e2
  cases ry
  have l2 : atI (ns.map V.int) i = some (.int n) := by
    unfold atI at l ⊢
    rw [List.length_map]
    cases e : ixN ns.length i with
    | none => rw [e] at l; cases l
    | some j =>
      rw [e] at l
      show (ns.map V.int)[j]? = some (V.int n)
      have l' : ns[j]? = some n := l
      rw [List.getElem?_map, l']; rfl
  cases rx with
  | scr m h => exact ⟨_, _, _, _, rfl, rfl, .inl h, l2, hq _ H _ q (Same.refl H) (.int _)⟩
  | scrK h => exact ⟨_, _, _, _, rfl, rfl, .inr h, l2, hq _ H _ q (Same.refl H) (.int _)⟩
theorem cad_lenD : CaD K (fun xs H Q => ∃ (a : Addr) (kvs : List (Key × V)), xs = [.ref a] ∧ H a = some (.dK kvs) ∧ Q (.int kvs.length) H) (fun ds k => False) := fun _ _ _ _ _ _ _ _ h => h.elim

/-! ### == of data -/
mutual
def D.pd : D → Option PyData
  | .non => some .none
  | .bl b => some (.bool b)
  | .int i => some (.int i)
  | .str s => some (.str s)
  | .lst xs => (D.pds xs).map .list
  | .tup xs => (D.pds xs).map .tuple
  | .ty _ => none
  | .glo _ => none
  | .dic _ => none
  | .obj _ _ => none
  | .stm => none
  | .scr _ => none
def D.pds : List D → Option (List PyData)
  | [] => some []
  | d :: r => match D.pd d, D.pds r with
    | some a, some b => some (a :: b)
    | _, _ => none
end
mutual
theorem dp_of {S : Addr → Prop} {H : Hp} : ∀ (d : D) (v : V) (p : PyData), Rep K S H v d → d.pd = some p → Dp K H v p
  | .non, _, p, r, e => by cases r; unfold D.pd at e; cases e; exact .non
  | .bl b, _, p, r, e => by cases r; unfold D.pd at e; cases e; exact .bl b
  | .int i, _, p, r, e => by cases r; unfold D.pd at e; cases e; exact .int i
  | .str s, _, p, r, e => by cases r; unfold D.pd at e; cases e; exact .str s
  | .lst xs, _, p, r, e => by
    unfold D.pd at e
    cases r with
    | lst n hh rr =>
      cases q : D.pds xs with
      | none => rw [q] at e; cases e
      | some ps => rw [q] at e; cases e; exact .lst (SqL.of hh) (dps_of xs _ ps rr q)
  | .tup xs, _, p, r, e => by
    unfold D.pd at e
    cases r with
    | tup n hh rr =>
      cases q : D.pds xs with
      | none => rw [q] at e; cases e
      | some ps => rw [q] at e; cases e; exact .tup (SqT.of hh) (dps_of xs _ ps rr q)
  | .ty _, _, p, r, e => by unfold D.pd at e; cases e
  | .glo _, _, p, r, e => by unfold D.pd at e; cases e
  | .dic _, _, p, r, e => by unfold D.pd at e; cases e
  | .obj _ _, _, p, r, e => by unfold D.pd at e; cases e
  | .stm, _, p, r, e => by unfold D.pd at e; cases e
  | .scr _, _, p, r, e => by unfold D.pd at e; cases e
theorem dps_of {S : Addr → Prop} {H : Hp} : ∀ (ds : List D) (vs : List V) (ps : List PyData), Reps K S H vs ds → D.pds ds = some ps → DpAll K H vs ps
  | [], _, ps, r, e => by cases r; unfold D.pds at e; cases e; exact .nil
  | d :: ds, _, ps, r, e => by
    cases r with
    | cons h t =>
      unfold D.pds at e
      cases q1 : d.pd with
      | none => rw [q1] at e; cases e
      | some a =>
        cases q2 : D.pds ds with
        | none => rw [q1, q2] at e; cases e
        | some b => rw [q1, q2] at e; cases e; exact .cons (dp_of d _ a h q1) (dps_of ds _ b t q2)
end
theorem opd_eqD : OpD K (rEqD K) (fun a b k => ∃ p q, a.pd = some p ∧ b.pd = some q ∧ SeqAt.shaped p = true ∧ SeqAt.shaped q = true ∧ k (.bl (PyData.eqv p q))) := by
  intro S H x y a b Q k dm rx ry ⟨p, q, e1, e2, s1, s2, h⟩ hq
  exact ⟨p, q, dp_of a x p rx e1, dp_of b y q ry e2, s1, s2, hq _ H _ h (Same.refl H) (.bl _)⟩
theorem opd_neD : OpD K (rNeD K) (fun a b k => ∃ p q, a.pd = some p ∧ b.pd = some q ∧ SeqAt.shaped p = true ∧ SeqAt.shaped q = true ∧ k (.bl (!PyData.eqv p q))) := by
  intro S H x y a b Q k dm rx ry ⟨p, q, e1, e2, s1, s2, h⟩ hq
  exact ⟨p, q, dp_of a x p rx e1, dp_of b y q ry e2, s1, s2, hq _ H _ h (Same.refl H) (.bl _)⟩
/-! ### isinstance -/
/-- what isinstance asks of an own class -/
structure InsK (K : PySem.W.Frag) (c : Str) : Prop where
  cl : Cls K (He.ga K c)
  ha : PySem.W.findIn K (.ref (He.ga K c)) "__class__" = some (some (.builtin "object.__class__"))
  hn : PySem.W.specialIn K (.builtin "object.__class__") "__get__" = some (some (.builtin "getset_descriptor.__get__"))
  htk : PySem.W.takesIn K (.builtin "object.__class__") = some true
  hm : PySem.W.mroIn K (He.ga K c) (.type "object") = some true
theorem insB_ok {K : PySem.W.Frag} {c : Str} (h : insB K c = true) : InsK K c := by
  obtain ⟨h1, h⟩ := He.ba h
  obtain ⟨h2, h⟩ := He.ba h
  obtain ⟨h3, h⟩ := He.ba h
  obtain ⟨h4, h5⟩ := He.ba h
  exact ⟨He.cls_ok h1, He.eqO_ok h2, He.eqO_ok h3, of_decide_eq_true h4, of_decide_eq_true h5⟩
inductive TyD (K : PySem.W.Frag) : D → Value → Prop where
  | non : TyD K .non (.type "NoneType")
  | bl (b : Bool) : TyD K (.bl b) (.type "bool")
  | int (i : Int) : TyD K (.int i) (.type "int")
  | str (s : Str) : TyD K (.str s) (.type "str")
  | lst (xs : List D) : TyD K (.lst xs) (.type "list")
  | tup (xs : List D) : TyD K (.tup xs) (.type "tuple")
  | dic (xs : List (Key × D)) : TyD K (.dic xs) (.type "dict")
  | obj (c : Str) (fs : List (Str × D)) (h : InsK K c) : TyD K (.obj c fs) (.ref (He.ga K c))
theorem tyx_of {S : Addr → Prop} {H : Hp} {v : V} {d : D} {t : Value} (r : Rep K S H v d) (h : TyD K d t) : TyX K H v t := by
  cases h with
  | non => cases r; exact .base .non
  | bl b => cases r; exact .base (.bl b)
  | int b => cases r; exact .base (.int b)
  | str b => cases r; exact .base (.str b)
  | lst xs => cases r with | lst n hh rr => exact .base (.lst hh)
  | tup xs => cases r with | tup n hh rr => exact .base (.tup hh)
  | dic xs =>
    cases r with
    | dic n hh e rr =>
      rcases hh with hh | ⟨o, hh⟩
      · exact .base (.dK hh)
      · exact .fDict hh
  | obj c fs hc => cases r with | obj n hh e rr => exact .base (.ins hh hc.cl hc.ha hc.hn hc.htk hc.hm)
inductive ClD (K : PySem.W.Frag) : D → Value → Prop where
  | ty (n : String) : ClD K (.ty n) (.type n)
  | glo (x : Str) : ClD K (.glo x) (.ref (He.ga K x))
theorem cad_isi : CaD K (rIsi K) (fun ds k => ∃ d c t u b, ds = [d, c] ∧ TyD K d t ∧ ClD K c u ∧ PySem.W.kitOne K t u = some b ∧ k (.bl b)) := by
  intro S H xs ds Q k dm rx ⟨d, c, t, u, b, e, ht, hc, hk, q⟩ hq
  subst e
  cases rx with
  | cons h1 tt =>
    cases tt with
    | cons h2 t2 =>
      cases t2
      refine ⟨_, _, t, u, b, rfl, ?_, tyx_of h1 ht, hk, hq _ H _ q (Same.refl H) (.bl _)⟩
      cases hc with
      | ty n => cases h2; exact .ty n
      | glo x => cases h2; exact .own _
end
end Fw

set_option maxHeartbeats 4000000
/-! Calls under which no display is under way: room with guards. -/
namespace Fw
open PySem PySem.Spec PyProof.Rows L2
structure RoomG (k : Nat) (A : Around) : Prop where
  rm : Room k A
  gd : A.guards = some []
section
variable {k j : Nat} {A : Around}
theorem RoomG.mono (r : RoomG k A) (h : j ≤ k) : RoomG j A := ⟨r.rm.mono h, r.gd⟩
theorem RoomG.in1 (r : RoomG (k + 1) A) : RoomG k A.in1 := ⟨r.rm.in1, r.gd⟩
theorem RoomG.deeper (r : RoomG (k + 1) A) (env : Env) : RoomG k (A.deeper env) := ⟨r.rm.deeper env, r.gd⟩
theorem RoomG.make (r : RoomG (k + 1) A) (C : Addr) (us : List Value) : RoomG k (A.under (.builtin "type.__call__" ⟨.ref C :: us, []⟩)) := ⟨r.rm.make C us [], by
  have e : (Code.builtin "type.__call__" ⟨.ref C :: us, []⟩).guards = [] := by
    have g0 : (Code.builtin "type.__call__" ⟨.ref C :: us, []⟩).isGuard = false := by
      show guardIds.contains "type.__call__" = false
      decide +kernel
    unfold Code.guards
    rw [g0]; rfl
  simp [Around.under, pushGuards, e, r.gd]⟩
end
/-- a def's promise, where no display is under way -/
structure FnG (P : Program) (w : World) (K : PySem.W.Frag) (mg : Str → Option Value) (base : Heap) (CX : CXT) (k : Nat) (f : Addr) (fd : FuncData) (ps : List Str) (sp : Sp) : Prop where
  len : ∀ vs H Q E, sp vs H Q E → vs.length = ps.length
  run : ∀ (A : Around) (outer : List Env) (s : Shared) (H : Hp) (args : Args) (us : List Value) (vs : List V) (Q : VK) (E : XK), RoomG k A → Env0 P w K mg base A outer s H → BindsTo s fd args (ps.zip us) → Vals vs us → sp vs H Q E →
    codeAny (model P w) A (.call (.ref f) args) (CR CX outer P w H s Q E) s
section
variable {X : Cx} {CX : CXT} {k : Nat} {f C : Addr} {fd : FuncData} {ps : List Str} {sp : Sp} {E : XK} {x m : Str} {p pos apos : Pos} {e o : Expr} {es : List Expr} {ta : TE} {t : TA} {pins : List (Addr × Obj)} {σ : L2.St} {H : Hp} {s : Shared} {Q : VK} {us : List Value} {vs : List V}
theorem FnG.go (G : FnG X.prog X.w X.K X.mg X.base CX k f fd ps sp) (hr : RoomG k X.A) (hb : Binds X.K fd ps []) (hx : Passes CX X E) (I : Inv X pins σ H s) (r : Vals vs us) (h : sp vs H Q E) : wpAny (model X.prog X.w) X.A (call (.ref f) us) (EP X pins σ Q) X.xe s := by
  have nl : (us ++ []).length = ps.length := by
    have l1 := G.len _ _ _ _ h
    have l2 := r.length
    rw [List.append_nil]; omega
  have b0 := hb s us I.kIn nl
  rw [List.append_nil] at b0
  have g0 := G.run X.A X.stack s H ⟨us, []⟩ us vs Q E hr I.env0 b0 r h
  refine wpAny_call (codeAny_mono g0 fun res st hq => ?_)
  match res, hq with
  | .error er, hq => exact hx pins σ H s er st I hq
  | .ok (.ret _), hq => exact I.after hq
theorem FnG.code (G : FnG X.prog X.w X.K X.mg X.base CX k f fd ps sp) (hr : RoomG k X.A) (hb : Binds X.K fd ps []) (hx : Passes CX X E) (I : Inv X pins σ H s) (r : Vals vs us) (h : sp vs H Q E) :
    codeAny (model X.prog X.w) X.A (.call (.ref f) ⟨us, []⟩) (fun res st => match res with | .ok (.ret v) => EP X pins σ Q v st | .ok _ => False | .error er => X.xe er st) s := by
  have nl : (us ++ []).length = ps.length := by
    have l1 := G.len _ _ _ _ h
    have l2 := r.length
    rw [List.append_nil]; omega
  have b0 := hb s us I.kIn nl
  rw [List.append_nil] at b0
  refine codeAny_mono (G.run X.A X.stack s H ⟨us, []⟩ us vs Q E hr I.env0 b0 r h) fun res st hq => ?_
  match res, hq with
  | .error er, hq => exact hx pins σ H s er st I hq
  | .ok (.ret _), hq => exact I.after hq
theorem g_call (G : FnG X.prog X.w X.K X.mg X.base CX k f fd ps sp) (hr : RoomG k X.A) (hg : Gl X x) (hm : X.mg x = some (.ref f)) (hk : PySem.W.keepIn X.K (.ref f) = true) (hb : Binds X.K fd ps []) (hx : Passes CX X E) (ha : PA X (e :: es) t)
    (hdb : (x == ("__debug__" : Str)) = false) (h1 : starEach (e :: es) X.env = (false, eval e X.env) :: starEach es X.env) (h2 : (backTo pos (starEach es X.env)).any (·.1) = false) : PE X (.Call (.Name x p) (e :: es) [] pos) (tCall sp [] E t) := ⟨fun pins s σ H Q I h =>
  wpAny_Call_Name_kw (ld_glob I hg hm (PySem.W.callWith_K (h₀ := X.base) I.ok.mod.kin hk (thn (ha.run pos pins s σ H _ I h) fun us s1 ⟨vs, H1, I1, r, q⟩ => ⟨I1.kIn, G.go hr hb hx I1 r (by
    have q' : sp (vs ++ []) H1 Q E := q
    rwa [List.append_nil] at q')⟩) h1 h2) hdb)⟩
theorem g_call0 (G : FnG X.prog X.w X.K X.mg X.base CX k f fd ps sp) (hr : RoomG k X.A) (hg : Gl X x) (hm : X.mg x = some (.ref f)) (hk : PySem.W.keepIn X.K (.ref f) = true) (hb : Binds X.K fd ps []) (hx : Passes CX X E) (hdb : (x == ("__debug__" : Str)) = false) : PE X (.Call (.Name x p) [] [] pos) (tCall sp [] E tNil) := ⟨fun pins s σ H Q I h =>
  wpAny_Call_Name_kw (ld_glob I hg hm (PySem.W.callWith_K0 I.kIn hk (G.go (us := []) hr hb hx I .nil h)) hdb)⟩
theorem g_meth {pl : Sem Bool} (he : PE X o ta) (c : Cls X.K C) (hm : Meth X.K C m f) (G : FnG X.prog X.w X.K X.mg X.base CX k f fd ps sp) (hr : RoomG k X.A) (hb : Binds X.K fd ps []) (hx : Passes CX X E) (ha : PA X (e :: es) t)
    (h1 : starEach (e :: es) X.env = (false, eval e X.env) :: starEach es X.env) (h2 : (backTo pos (starEach es X.env)).any (·.1) = false)
    (ht : eval (.Call (.Attribute o m apos) (e :: es) [] pos) X.env = (do
      let ov ← eval o X.env
      standAt apos.atName
      let (f, first) ← holding [ov] (getMethod ov m pl)
      callWith pos f first (backTo pos (starEach (e :: es) X.env)) (backToKw pos (keywordEach [] X.env)))) : PE X (.Call (.Attribute o m apos) (e :: es) [] pos) (tMeth C m sp [] E ta t) := ⟨fun pins s σ H Q I h =>
  PySem.W.methodCall_KW (pl := pl) (thn (he.run pins s σ H _ I h) fun u s1 ⟨y, H1, I1, ry, a, dx, fs, ey, ea, l, q⟩ => by
    subst ey
    cases ry
    exact getmeth_ok I1 ea c hm l (PySem.W.callWith_K (first := [.ref a]) (h₀ := X.base) I.ok.mod.kin hm.kp (thn (ha.run pos pins s1 σ H1 _ I1 q) fun us s2 ⟨vs, H2, I2, r, q2⟩ => ⟨I2.kIn, G.go (us := .ref a :: us) (vs := .ref a :: vs) hr hb hx I2 (.cons rfl r) (by
      have q' : sp (V.ref a :: (vs ++ [])) H2 Q E := q2
      rwa [List.append_nil] at q')⟩) h1 h2)) ht⟩
theorem g_meth0 {pl : Sem Bool} (he : PE X o ta) (c : Cls X.K C) (hm : Meth X.K C m f) (G : FnG X.prog X.w X.K X.mg X.base CX k f fd ps sp) (hr : RoomG k X.A) (hb : Binds X.K fd ps []) (hx : Passes CX X E)
    (ht : eval (.Call (.Attribute o m apos) [] [] pos) X.env = (do
      let ov ← eval o X.env
      standAt apos.atName
      let (f, first) ← holding [ov] (getMethod ov m pl)
      callWith pos f first (backTo pos (starEach [] X.env)) (backToKw pos (keywordEach [] X.env)))) : PE X (.Call (.Attribute o m apos) [] [] pos) (tMeth C m sp [] E ta tNil) := ⟨fun pins s σ H Q I h =>
  PySem.W.methodCall_KW (pl := pl) (thn (he.run pins s σ H _ I h) fun u s1 ⟨y, H1, I1, ry, a, dx, fs, ey, ea, l, q⟩ => by
    subst ey
    cases ry
    exact getmeth_ok I1 ea c hm l (PySem.W.callWith_K0 (first := [.ref a]) I1.kIn hm.kp (G.go (us := [.ref a]) (vs := [.ref a]) hr hb hx I1 (.cons rfl .nil) q))) ht⟩
theorem g_made (M : Mk X.K C f) (G : FnG X.prog X.w X.K X.mg X.base CX k f fd ps sp) (hr : RoomG (k + 1) X.A) (hb : Binds X.K fd ps []) (hx : Passes CX X E) (I : Inv X pins σ H s) (r : Vals vs us)
    (h : ∀ x dx, H x = none → H dx = none → dx ≠ x → sp (.ref x :: vs) (upd (upd H dx (.own x)) x (.ins C dx [])) (fun v H2 => v = .non ∧ Q (.ref x) H2) E) : wpAny (model X.prog X.w) X.A (call (.ref C) us) (EP X pins σ Q) X.xe s := by
  have h0 := h (s.heap.objs.size + 1) s.heap.objs.size (I.hok.fresh (Nat.le_succ _)) (I.hok.fresh (Nat.le_refl _)) (Nat.ne_of_lt (Nat.lt_succ_self _))
  have J := Inv.made (C := C) I
  have rr : Vals (V.ref (s.heap.objs.size + 1) :: vs) (Value.ref (s.heap.objs.size + 1) :: us) := .cons rfl r
  have nl : ((Value.ref (s.heap.objs.size + 1) :: us) ++ []).length = ps.length := by
    have l1 := G.len _ _ _ _ h0
    have l2 := rr.length
    rw [List.append_nil]; omega
  have b0 := hb _ (Value.ref (s.heap.objs.size + 1) :: us) J.kIn nl
  rw [List.append_nil] at b0
  have g0 := G.run _ X.stack _ _ ⟨Value.ref (s.heap.objs.size + 1) :: us, []⟩ _ _ _ E (hr.make C us) (J.env0.make C us []) b0 rr h0
  refine wpAny_call (make_map (f := f) I.kIn M.makes M.init (beq_iff_eq.mp M.fn) (codeAny_mono g0 fun res st hq => ?_))
  match res, hq with
  | .error er, hq => exact hx pins σ _ _ er st J hq
  | .ok (.ret _), hq =>
    obtain ⟨v, H', I3, rv, ev, q3⟩ := J.after hq
    subst ev
    exact ⟨rv, V.ref (s.heap.objs.size + 1), H', I3, rfl, q3⟩
theorem g_make (M : Mk X.K C f) (G : FnG X.prog X.w X.K X.mg X.base CX k f fd ps sp) (hr : RoomG (k + 1) X.A) (hg : Gl X x) (hm : X.mg x = some (.ref C)) (hb : Binds X.K fd ps []) (hx : Passes CX X E) (ha : PA X (e :: es) t)
    (hdb : (x == ("__debug__" : Str)) = false) (h1 : starEach (e :: es) X.env = (false, eval e X.env) :: starEach es X.env) (h2 : (backTo pos (starEach es X.env)).any (·.1) = false) : PE X (.Call (.Name x p) (e :: es) [] pos) (tMake C sp [] E t) := ⟨fun pins s σ H Q I h =>
  wpAny_Call_Name_kw (ld_glob I hg hm (PySem.W.callWith_K (h₀ := X.base) I.ok.mod.kin M.kp (thn (ha.run pos pins s σ H _ I h) fun us s1 ⟨vs, H1, I1, r, q⟩ => ⟨I1.kIn, g_made M G hr hb hx I1 r (by
    intro y dy a b c
    have q' : sp (.ref y :: (vs ++ [])) (upd (upd H1 dy (.own y)) y (.ins C dy [])) (fun v H2 => v = .non ∧ Q (.ref y) H2) E := q y dy a b c
    rwa [List.append_nil] at q')⟩) h1 h2) hdb)⟩
theorem g_prop {pp g : Addr} {fnm : Str} (he : PE X e ta) (c : Cls X.K C) (hp : PropOf X.K C fnm pp g) (G : FnG X.prog X.w X.K X.mg X.base CX k g fd ps sp) (hr : RoomG (k + 1) X.A) (hb : Binds X.K fd ps []) (hx : Passes CX X.nox E)
    (hab : attributeBase e fnm X.env (eval e X.env) = eval e X.env) : PE X (.Attribute e fnm pos) (tProp C sp [] E ta) := ⟨fun pins s σ H Q I h =>
  attr_of hab (thn (he.run pins s σ H _ I h) fun u s1 ⟨y, H1, I1, ry, a, dx, fs, ey, ea, q⟩ => by
    subst ey
    cases ry
    obtain ⟨mA, O, _, _, _, _⟩ := ins_get I1.hok ea
    obtain ⟨od, J, _⟩ := O.look
    obtain ⟨rest, hrec⟩ := hp.rec_
    have I2 := I1.tok (s1.toks + 1)
    have nl : ([Value.ref a] ++ []).length = ps.length := by rw [← G.len _ _ _ _ q]; rfl
    have some_ : (PySem.W.clsIn X.K C).isSome = true := by
      obtain ⟨cd, hc, _⟩ := PySem.W.any_some c.hd
      rw [hc]; rfl
    have b0 := hb { s1 with toks := s1.toks + 1 } [.ref a] I2.kIn nl
    have g0 := G.run X.A.in1 X.stack { s1 with toks := s1.toks + 1 } H1 ⟨[.ref a], []⟩ [.ref a] [.ref a] Q E hr.in1 I2.env0.in1 b0 (.cons rfl .nil) q
    refine PySem.W.get_bind I1.kIn J (PySem.W.plainGet_of (c.get fnm)).1 (PySem.W.findObj_data some_ hp.at_ hp.get hp.tak) (PySem.W.plainGet_of (c.get fnm)).2 (wpAny_call (PySem.W.prop_get (s := { s1 with toks := s1.toks + 1 }) I1.kIn hrec (codeAny_mono g0 fun res st hq => ?_)))
    match res, hq with
    | .error er, hq => exact (hx pins σ H1 { s1 with toks := s1.toks + 1 } er st (I2.wish _) hq).elim
    | .ok (.ret u), hq =>
      obtain ⟨v, H', I3, rv, q3⟩ := I2.after hq
      show wpAny _ _ (handedOut u) _ _ _
      rw [PySem.W.handedOut_of (handed_of rv)]
      exact wpAny_pure ⟨v, H', I3, rv, q3⟩)⟩
end
section
variable {CX : CXT} {P : Program} {w : World} {K : PySem.W.Frag} {mg : Str → Option Value} {base : Heap} {k : Nat} {f : Addr} {x qual : Str} {params : Arguments} {body : List Stmt} {scope : Scope} {fd : FuncData} {N ps : List Str} {sp : Sp}
/-- a def by its body -/
theorem g_fun (F : FunD K x qual params body scope [] [] f fd) (S : FnScope N ps scope) (len : ∀ vs H Q E, sp vs H Q E → vs.length = ps.length)
    (hbody : ∀ (cdv : Value) (A : Around) (outer : List Env) (s : Shared) (H : Hp) (vs : List V) (Q : VK) (E : XK), RoomG k (A.deeper (envOfC qual scope s.heap.objs.size f cdv)) → sp vs H Q E →
      ∃ t, PSs (cxOf CX P w K mg base N qual scope f cdv A outer s H E) body t ∧ t { nx := fun _ H' => Q .non H', rt := Q } (start N vs) H) : FnG P w K mg base CX (k + 1) f fd ps sp := by
  obtain ⟨oc, od, dV, kV, doc, pm, an, cdv, ct, osl, rfl, lk, hcd, _, _⟩ := F.ex
  refine ⟨len, fun A outer s H args us vs Q E hr e0 hb r hsp => ?_⟩
  have inK : K.In s.heap := e0.mod.kin.keeps fun b o e => (e0.bs b o e).1
  have nolim : s.heap.NoLimit := e0.mod.nolimit.keeps fun b o e => (e0.bs b o e).1
  refine codeAny_call_function hr.rm.depth (inK _ _ lk) rfl S.co S.gen rfl (PySem.W.codeRec_of inK hcd) (hb _ _ _ _ (wpAny_newFunctionEnv_cells S.kind (fun pr hpr => ?_) fun env henv s1 ent => ?_))
  · rcases S.par pr.1 (List.of_mem_zip (a := pr.1) (b := pr.2) hpr).1 with z | z
    · exact Or.inl z
    · exact Or.inr ⟨z, PySem.W.cellsFrom_some _ _ _ (Or.inl z)⟩
  · subst henv
    refine ⟨nolim.keeps ent.toInCall.keep, codeAny_func ?_⟩
    obtain ⟨t, ht, hq⟩ := hbody cdv A outer s H vs Q E (hr.deeper _) hsp
    have I0 : Inv (cxOf CX P w K mg base N qual scope f cdv A outer s H E) [] (start N vs) H s1 := inv_start S hr.rm.hd e0 (len _ _ _ _ hsp) r ent
    refine wpAny_mono (ht.run [] s1 (start N vs) H _ I0 hq) (fun fl st hs => ?_) fun _ _ z => z
    cases fl with
    | ret u =>
      obtain ⟨v, σ', H', J, rv, q⟩ := hs
      exact ⟨v, H', J.os, J.bare, J.base, J.hok, rv, q⟩
    | next =>
      obtain ⟨σ', H', J, q⟩ := hs
      exact ⟨V.non, H', J.os, J.bare, J.base, J.hok, rfl, q⟩
    | brk => obtain ⟨_, _, _, z⟩ := hs; exact z.elim
    | cont => obtain ⟨_, _, _, z⟩ := hs; exact z.elim
end
end Fw

set_option maxHeartbeats 4000000
/-! The end, for a law that may ask that no display is under way. -/
namespace Fw
open PySem PySem.Spec PyProof.Rows L2
theorem callerG {k : Nat} (hr : Room k callerA) : RoomG k callerA := ⟨hr, rfl⟩
theorem g_law {P : Program} {w : World} {K : PySem.W.Frag} {mg mb : Str → Option Value} {CX : CXT} {k : Nat} {fa l : Addr} {fd : FuncData} {x : Str} {sp : Sp} {s1 : Shared} {ws : List Value} {js : List Int}
    (inK : K.In s1.heap) (glob : s1.heap.Ns mainGlobals mg) (blt : s1.heap.Ns builtinsNs mb) (bltb : ∀ y : Str, y ≠ "__name__" → mb y = bootBuiltins y) (nolim : s1.heap.NoLimit) (gens : s1.gens = #[])
    (hl : s1.heap.get? l = some { cls := .type "list", data := .seq ws.toArray }) (areI : IntsAre ws js) (short : js.length ≤ sizeLine) (room : Room k callerA)
    (G : ∀ b : Heap, K.In b → b.Ns mainGlobals mg → FnG P w K mg b CX k fa fd [x] sp) (bind : ∀ (s : Shared) (u : Value), BindsTo s fd ⟨[u], []⟩ [(x, u)])
    (want : ∀ H : Hp, Only H → SqL K H l (js.map V.int) → sp [.ref l] H (fun v _ => v = .bl true) fun _ _ _ => False) (noX : ∀ H e st, CX [] H s1 (fun _ _ _ => False) e st → False) :
    codeAny (model P w) callerA (.call (.ref fa) ⟨[.ref l], []⟩) (fun res st => res = .ok (.ret (.bool true)) ∧ OldK s1.heap st.heap ∧ st.os = s1.os ∧ AllBare st.gens) s1 := by
  have rel := vals_ints areI
  have size := areI.length
  have from_ : ∀ H : Hp, Only H → SqL K H l (js.map V.int) → HOk P w H s1.heap → (∀ b, H b ≠ none → b = l) → (H l ≠ none → K.lookup l = none) → codeAny (model P w) callerA (.call (.ref fa) ⟨[.ref l], []⟩) (fun res st => res = .ok (.ret (.bool true)) ∧ OldK s1.heap st.heap ∧ st.os = s1.os ∧ AllBare st.gens) s1 := fun H only sq ok one apart => by
    have hid : ∀ {b : Addr} {o : Obj}, s1.heap.get? b = some o → H b = none → (hidT s1.heap H).get? b = some o := fun g n => hidT_get g n
    have hidNs : ∀ {b : Addr} {m : Str → Option Value}, s1.heap.Ns b m → (hidT s1.heap H).Ns b m := fun {b m} ⟨o, es, ep, g, d, r⟩ => ⟨o, es, ep, hid g (by
      cases q : H b with
      | none => rfl
      | some u =>
        have eb : b = l := one b (by rw [q]; exact fun z => by cases z)
        rw [eb, hl] at g
        cases g
        have z : Data.seq ws.toArray _ = Data.dict es ep := d
        cases z), d, r⟩
    have hidK : K.In (hidT s1.heap H) := fun b o g => hid (inK b o g) (by
      cases q : H b with
      | none => rfl
      | some u =>
        have eb : b = l := one b (by rw [q]; exact fun z => by cases z)
        have z := apart (by rw [← eb, q]; exact fun z => by cases z)
        rw [eb, z] at g
        cases g)
    have mod_ : Mod K mg (hidT s1.heap H) := ⟨hidK, hidNs glob, ⟨mb, hidNs blt, bltb⟩, let ⟨mc, h1, h2⟩ := nolim; ⟨mc, hidNs h1, h2⟩⟩
    have env : Env0 P w K mg (hidT s1.heap H) callerA [] s1 H := ⟨rfl, mod_, fun b o g => of_hidT g, Nat.le_of_eq (hidT_size _ _), trivial, (fun b hb => by cases hb), ok, .of_eq gens⟩
    have ran := (G _ hidK (hidNs glob)).run callerA [] s1 H ⟨[.ref l], []⟩ [.ref l] [.ref l] _ _ (callerG room) env (bind s1 (.ref l)) (.cons rfl .nil) (want H only sq)
    refine codeAny_mono ran fun res st h => ?_
    cases res with
    | error e => exact (noX H e st h).elim
    | ok fl =>
      cases fl with
      | ret u =>
        obtain ⟨v, H2, os, bare, un, ok2, ru, q⟩ := h
        have ev : v = .bl true := q
        rw [ev] at ru
        have eu : u = Value.bool true := ru
        rw [eu]
        refine ⟨rfl, OldK.of_keep fun b o g => ?_, os, bare⟩
        cases qb : H b with
        | none => exact un.keep b o g qb (fun z => by cases z) (fun z => by cases z)
        | some u2 =>
          rcases only b with z | ⟨ob, xs, z⟩
          · rw [qb] at z; cases z
          · obtain ⟨g1, _⟩ := ok b _ z
            obtain ⟨g2, _⟩ := ok2 b _ (un.frzs b ob _ z)
            rw [g] at g1
            cases g1
            exact g2
      | next => exact h.elim
      | brk => exact h.elim
      | cont => exact h.elim
  cases own : K.lookup l with
  | some o =>
    have g := inK l o own
    rw [hl] at g
    cases g
    exact from_ (fun _ => none) (fun _ => .inl rfl) (.inr ⟨_, ws.toArray, _, own, rfl, rfl, rfl, by rw [List.size_toArray, size]; exact short, by simpa using rel⟩) (fun b u z => by cases (show (none : Option HO) = some u from z)) (fun b z => (z rfl).elim) fun z => (z rfl).elim
  | none =>
    let Hl : Hp := fun b => if b = l then some (.frz { cls := .type "list", data := .seq ws.toArray } (.lst (js.map V.int))) else none
    have at_ : Hl l = some (.frz { cls := .type "list", data := .seq ws.toArray } (.lst (js.map V.int))) := if_pos rfl
    have off : ∀ b, b ≠ l → Hl b = none := fun b hb => if_neg hb
    refine from_ Hl (fun b => ?_) (.inl (.inr ⟨_, at_⟩)) (fun b u z => ?_) (fun b z => Classical.byContradiction fun hb => z (off b hb)) fun _ => own
    · by_cases hb : b = l
      · exact .inr ⟨_, _, by rw [hb]; exact at_⟩
      · exact .inl (off b hb)
    · by_cases hb : b = l
      · subst hb
        rw [at_] at z
        cases z
        exact ⟨hl, by rw [List.length_map]; exact short, ws, _, rel, hl⟩
      · rw [off b hb] at z; cases z
theorem walk_ofG {l : PySem.W.OpenLaw} {n k : Nat} {q : Program} {loose : List Str} {XP : (Str → Option Value) → Heap → Prop} {YP : World → Heap → Prop} {d : DefRec} {CX : CXT} {x : Str}
    (most : l.most = some n) (small : n ≤ sizeLine) (nodef : d.params.defaults = []) (room : Room k callerA)
    (G : ∀ (w : World) (mg : Str → Option Value) (fa : Addr) (h : Heap), YP w h → h.Ns mainGlobals mg → mg d.name = some (.ref fa) → ∃ (K : PySem.W.Frag) (fd : FuncData) (sp : Sp), K.In h ∧ (∀ (s : Shared) (u : Value), BindsTo s fd ⟨[u], []⟩ [(x, u)]) ∧
      (∀ (H : Hp) (a : Addr) (ns : List Int), ns.length ≤ n → Only H → SqL K H a (ns.map V.int) → sp [.ref a] H (fun v _ => v = .bl true) fun _ _ _ => False) ∧ ∀ b : Heap, K.In b → b.Ns mainGlobals mg → FnG l.prog w K mg b CX k fa fd [x] sp)
    (noX : ∀ (H : Hp) (s : Shared) (e : Value) (st : Shared), CX [] H s (fun _ _ _ => False) e st → False) : PySem.W.WalkO q loose XP YP l.row.toRowW d [] (fun f vs => PySem.call f vs) := by
  refine Att.attach_call most nodef fun w s0 s1 mg mb fa o pm cd doc a vs ns T Y ho hd hcd hmg hobj hints hlen hg => ?_
  obtain ⟨K, fd, sp, inK, bind, want, run⟩ := G w mg fa _ Y T.T.g hmg
  exact g_law inK T.T.g T.T.b T.T.builtins T.T.nolimit hg hobj hints (Nat.le_trans hlen small) room run bind (fun H hO hS => want H a ns hlen hO hS) fun H e st => noX H s1 e st
end Fw

set_option maxHeartbeats 4000000
/-! Own special methods: len, in, operators, ==, subscripts; list(d.values()). -/
namespace Fw
open PySem PySem.Spec PyProof.Rows L2
section
variable {X : Cx} {CX : CXT} {k : Nat} {f C Dc : Addr} {fd : FuncData} {ps : List Str} {sp : Sp} {E : XK} {pins : List (Addr × Obj)} {σ : L2.St} {H : Hp} {s : Shared} {A : Around}
theorem call_at {Q : VK} {us : List Value} {vs : List V} (F : FnG X.prog X.w X.K X.mg X.base CX k f fd ps sp) (hr : RoomG k A) (hA : A.frames = X.A.frames) (hb : Binds X.K fd ps []) (hx : Passes CX X E)
    (I : Inv X pins σ H s) (r : Vals vs us) (h : sp vs H Q E) : wpAny (model X.prog X.w) A (call (.ref f) us) (EP X pins σ Q) X.xe s := by
  have hl : (us ++ []).length = ps.length := by rw [List.append_nil, ← r.length]; exact F.len _ _ _ _ h
  have e0 : Env0 X.prog X.w X.K X.mg X.base A X.stack s H := by
    have e := I.env0
    exact ⟨by rw [hA]; exact e.frames, e.mod, e.bs, e.bsz, e.funs, e.frf, e.hok, e.bare⟩
  have hb' := hb s us I.kIn hl
  rw [List.append_nil] at hb'
  refine wpAny_call (codeAny_mono (F.run A X.stack s H ⟨us, []⟩ us vs Q E hr e0 hb' r h) fun r s' hq => ?_)
  cases r with
  | error e => exact hx pins σ H s e s' I hq
  | ok fl =>
    cases fl with
    | ret u => exact I.after hq
    | next => exact False.elim hq
    | brk => exact False.elim hq
    | cont => exact False.elim hq
theorem rr {a : Addr} : RelV (.ref a) (Value.ref a) := rfl
theorem ins_at {a dx : Addr} {fs : List (Str × V)} (I : Inv X pins σ H s) (h : H a = some (.ins C dx fs)) : ∃ od, PySem.W.InstAt s.heap a (PySem.W.instObj C dx) C (some od) := by
  obtain ⟨mA, J, _⟩ := ins_get I.hok h
  obtain ⟨od, J, _⟩ := J.look
  exact ⟨od, J⟩
theorem back_ok {Q : Value → Shared → Prop} {v : V} {u : Value} {s : Shared} (r : RelV v u) (h : Q u s) : PySem.W.CmpBack Q u s := by
  cases v with
  | non => cases r; exact h
  | bl b => cases r; exact h
  | int i => obtain ⟨t, rfl⟩ := r; exact h
  | str i => obtain ⟨t, rfl⟩ := r; exact h
  | byt i => obtain ⟨t, rfl⟩ := r; exact h
  | flt i => obtain ⟨t, rfl⟩ := r; exact h
  | ref a => cases r; exact h
  | ty n => cases r; exact h
/-- len(o) -/
def rLenI (C : Addr) (sp : Sp) : List V → Hp → VK → Prop := fun xs H Q => ∃ a dx fs, xs = [.ref a] ∧ H a = some (.ins C dx fs) ∧ sp [.ref a] H (fun v H' => ∃ n : Int, v = .int n ∧ (0 ≤ n ∧ n < 2 ^ 63) ∧ Q (.int n) H') E0
theorem call_lenI (F : FnG X.prog X.w X.K X.mg X.base (L2.CX X.prog X.w) k f fd ps sp) (hr : RoomG (k + 1) X.A) (hm : Meth X.K C "__len__" f) (hb : Binds X.K fd ps []) : CallR X (.builtin "len") (rLenI C sp) := by
  intro pins s σ H xs us Q I r ⟨a, dx, fs, e, ha, h⟩
  subst e
  obtain ⟨u, eu, ru⟩ := vals1 r
  subst eu; cases ru
  obtain ⟨od, J⟩ := ins_at I ha
  obtain ⟨m, hF⟩ := I.fr
  refine PySem.W.len_K hF I.ok.mod.kin J hm.at_ hm.fn (wpAny_mono (call_at F hr.in1 rfl hb passL I (.cons (rr (a := a)) .nil) h) (fun v s' hv => ?_) fun _ _ z => z)
  obtain ⟨w, H', I', rw_, n, ew, hn, q⟩ := hv
  subst ew
  obtain ⟨t, rfl⟩ := rw_
  exact ⟨hn, .int n, H', I'.tok _, ⟨_, rfl⟩, q⟩
/-- x in o, x not in o -/
def rInI (C : Addr) (sp : Sp) (neg : Bool) : R2 := fun x y H Q => ∃ a dx fs, y = .ref a ∧ H a = some (.ins C dx fs) ∧ sp [.ref a, x] H (fun v H' => ∃ b : Bool, v = .bl b ∧ Q (.bl (if neg then !b else b)) H') E0
theorem op_inI (F : FnG X.prog X.w X.K X.mg X.base (L2.CX X.prog X.w) k f fd ps sp) (hr : RoomG k X.A) (hm : Meth X.K C "__contains__" f) (hb : Binds X.K fd ps []) : OpR X (compareOp .In) (rInI C sp false) := by
  intro pins s σ H x y v u Q I rx ry ⟨a, dx, fs, e, ha, h⟩
  subst e; cases ry
  obtain ⟨od, J⟩ := ins_at I ha
  obtain ⟨m, hF⟩ := I.fr
  refine PySem.W.in_K hF I.ok.mod.kin J hm.at_ hm.fn (wpAny_mono (call_at F hr rfl hb passL I (.cons (rr (a := a)) (.cons rx .nil)) h) (fun v s' hv => ?_) fun _ _ z => z)
  obtain ⟨w, H', I', rw_, b, ew, q⟩ := hv
  subst ew; cases rw_
  exact wpAny_truthy_bool ⟨.bl b, H', I', rfl, q⟩
theorem op_notInI (F : FnG X.prog X.w X.K X.mg X.base (L2.CX X.prog X.w) k f fd ps sp) (hr : RoomG k X.A) (hm : Meth X.K C "__contains__" f) (hb : Binds X.K fd ps []) : OpR X (compareOp .NotIn) (rInI C sp true) := by
  intro pins s σ H x y v u Q I rx ry ⟨a, dx, fs, e, ha, h⟩
  subst e; cases ry
  obtain ⟨od, J⟩ := ins_at I ha
  obtain ⟨m, hF⟩ := I.fr
  refine PySem.W.notIn_K hF I.ok.mod.kin J hm.at_ hm.fn (wpAny_mono (call_at F hr rfl hb passL I (.cons (rr (a := a)) (.cons rx .nil)) h) (fun v s' hv => ?_) fun _ _ z => z)
  obtain ⟨w, H', I', rw_, b, ew, q⟩ := hv
  subst ew; cases rw_
  exact wpAny_truthy_bool ⟨.bl (!b), H', I', rfl, q⟩
/-- o + p by an own method -/
def rBinI (C Dc : Addr) (sp : Sp) : R2 := fun x y H Q => ∃ a dx fs b dy gs, x = .ref a ∧ y = .ref b ∧ H a = some (.ins C dx fs) ∧ H b = some (.ins Dc dy gs) ∧ sp [.ref a, .ref b] H Q E0
theorem op_binI {op : Operator} (F : FnG X.prog X.w X.K X.mg X.base (L2.CX X.prog X.w) k f fd ps sp) (hr : RoomG k X.A) (hm : Meth X.K C (PySem.dunder op.info.2) f) (hc : PySem.W.selfFirst X.K C = true) (hb : Binds X.K fd ps []) : OpR X (binaryOp op) (rBinI C C sp) := by
  intro pins s σ H x y v u Q I rx ry ⟨a, dx, fs, b, dy, gs, e1, e2, ha, hb', h⟩
  subst e1 e2; cases rx; cases ry
  obtain ⟨od, J⟩ := ins_at I ha
  obtain ⟨od', J'⟩ := ins_at I hb'
  obtain ⟨m, hF⟩ := I.fr
  refine PySem.W.binop_K hF I.ok.mod.kin J J'.type hc hm.at_ hm.fn (wpAny_mono (call_at F hr rfl hb passL I (.cons (rr (a := a)) (.cons (rr (a := b)) .nil)) h) (fun v s' hv => ?_) fun _ _ z => z)
  obtain ⟨w, H', I', rw_, q⟩ := hv
  exact back_ok (Q := EP X pins σ Q) rw_ ⟨w, H', I', rw_, q⟩
end
section
open PySem.W PySem.Calls
variable {prog : Program} {w : World} {A : Around} {E : Value → Shared → Prop} {s : Shared} {K : Frag} {x C y Dc L f f2 : Addr} {h₀ : Heap} {m : Str → Option Value} {ox oy : Obj} {od od' : Option Obj}
/-- o op p, of two own classes that both have the method, none above the other -/
theorem bin_two {op : Operator} {rc rd : Option Value} {Q : Value → Shared → Prop} (F : Fr h₀ L s.heap m) (X₀ : K.In h₀) (I : InstAt s.heap x ox C od) (J : InstAt s.heap y oy Dc od') (hne : C ≠ Dc) (hc : selfFirst K C = true) (hd : selfFirst K Dc = true)
    (hs : findIn K (.ref C) (PySem.dunder op.info.2) = some (some (.ref f))) (hf : isFn K (.ref f) = true) (hs2 : findIn K (.ref Dc) (PySem.dunder op.info.2) = some (some (.ref f2)))
    (hr : findIn K (.ref C) (dunderR op.info.2) = some rc) (hp : rc = none ∨ ∃ g : Addr, rc = some (.ref g)) (hr2 : findIn K (.ref Dc) (dunderR op.info.2) = some rd) (hp2 : rd = none ∨ ∃ g : Addr, rd = some (.ref g)) (hsub : subIn K (.ref Dc) (.ref C) = some false)
    (h : wpAny (model prog w) A (call (.ref f) [.ref x, .ref y]) (PySem.W.CmpBack Q) E s) : wpAny (model prog w) A (binaryOp op (.ref x) (.ref y)) Q E s := by
  have X := X₀.keeps F.keep
  obtain ⟨cd, rest, hcd, hm⟩ := ksp_first hc
  obtain ⟨cd2, rest2, hcd2, hm2⟩ := ksp_first hd
  rcases hi : op.info with ⟨sym, nm'⟩
  rw [hi] at hs hr hs2 hr2
  dsimp only at hs hr hs2 hr2
  have one := ksp_try X I hs hf h
  obtain ⟨hh, g, d, tt, os⟩ := s
  have L1 : Looks (model prog w) hh (typeOf (.ref x)) (.ref C) := I.type
  have L2 : Looks (model prog w) hh (typeOf (.ref y)) (.ref Dc) := J.type
  have L3 : Looks (model prog w) hh (fillsNumberSlot (.ref C) nm') true := fills_K X hcd hm hs
  have L4 : Looks (model prog w) hh (fillsNumberSlot (.ref Dc) nm') true := fills_K X hcd2 hm2 hs2
  have L5 : Looks (model prog w) hh (isSubtype (.ref Dc) (.ref C)) false := looks_subIn X hsub
  have L6 : Looks (model prog w) hh (numberSlotInPython (.ref C) nm') true := ksp_inPy X hs hr hp
  have L7 : Looks (model prog w) hh (numberSlotInPython (.ref Dc) nm') true := ksp_inPy X hs2 hr2 hp2
  have hne' : (Value.ref C == Value.ref Dc) = false := Bool.eq_false_iff.mpr fun q => by
    have := beq_iff_eq.mp q
    cases this; exact hne rfl
  simp only [binaryOp, hi]
  refine wpAny_holding (wpAny_bind ?_)
  unfold binaryOp1
  refine wpAny_bind (L1.at (wpAny_bind (L2.at (wpAny_bind (L3.at ?_)))))
  simp only [hne', Bool.false_eq_true, if_false]
  ksp_lk
  refine wpAny_mono one (fun r s' hr' => ?_) fun _ _ e => e
  obtain ⟨v, rfl, hq⟩ := hr'
  ksp_lk
  exact hq
end
section
variable {X : Cx} {CX : CXT} {k : Nat} {f f2 C Dc : Addr} {fd : FuncData} {ps : List Str} {sp : Sp} {E : XK} {pins : List (Addr × Obj)} {σ : L2.St} {H : Hp} {s : Shared} {A : Around}
structure Bin2 (K : PySem.W.Frag) (C Dc : Addr) (nm : String) (f2 : Addr) : Prop where
  ne : C ≠ Dc
  sc : PySem.W.selfFirst K C = true
  sd : PySem.W.selfFirst K Dc = true
  at2 : PySem.W.findIn K (.ref Dc) (PySem.dunder nm) = some (some (.ref f2))
  r1 : PySem.W.findIn K (.ref C) (dunderR nm) = some none
  r2 : PySem.W.findIn K (.ref Dc) (dunderR nm) = some none
  sub : PySem.W.subIn K (.ref Dc) (.ref C) = some false
theorem op_binI2 {op : Operator} (F : FnG X.prog X.w X.K X.mg X.base (L2.CX X.prog X.w) k f fd ps sp) (hr : RoomG k X.A) (hm : Meth X.K C (PySem.dunder op.info.2) f) (b2 : Bin2 X.K C Dc op.info.2 f2) (hb : Binds X.K fd ps []) : OpR X (binaryOp op) (rBinI C Dc sp) := by
  intro pins s σ H x y v u Q I rx ry ⟨a, dx, fs, b, dy, gs, e1, e2, ha, hb', h⟩
  subst e1 e2; cases rx; cases ry
  obtain ⟨od, J⟩ := ins_at I ha
  obtain ⟨od', J'⟩ := ins_at I hb'
  obtain ⟨m, hF⟩ := I.fr
  refine bin_two hF I.ok.mod.kin J J' b2.ne b2.sc b2.sd hm.at_ hm.fn b2.at2 b2.r1 (.inl rfl) b2.r2 (.inl rfl) b2.sub (wpAny_mono (call_at F hr rfl hb passL I (.cons (rr (a := a)) (.cons (rr (a := b)) .nil)) h) (fun v s' hv => ?_) fun _ _ z => z)
  obtain ⟨w, H', I', rw_, q⟩ := hv
  exact back_ok (Q := EP X pins σ Q) rw_ ⟨w, H', I', rw_, q⟩
/-- ~o -/
def rInvI (C : Addr) (sp : Sp) : V → Hp → VK → Prop := fun x H Q => ∃ a dx fs, x = .ref a ∧ H a = some (.ins C dx fs) ∧ sp [.ref a] H Q E0
theorem un_invI (F : FnG X.prog X.w X.K X.mg X.base (L2.CX X.prog X.w) k f fd ps sp) (hr : RoomG k X.A) (hm : Meth X.K C "__invert__" f) (hb : Binds X.K fd ps []) : UnR X (unaryOp .Invert) (rInvI C sp) := by
  intro pins s σ H x v Q I rx ⟨a, dx, fs, e1, ha, h⟩
  subst e1; cases rx
  obtain ⟨od, J⟩ := ins_at I ha
  obtain ⟨m, hF⟩ := I.fr
  exact PySem.W.ksp_inv hF I.ok.mod.kin J hm.at_ hm.fn (call_at F hr rfl hb passL I (.cons (rr (a := a)) .nil) h)
/-- o == p -/
def rEqI (C : Addr) (sp : Sp) : R2 := fun x y H Q => ∃ a dx fs b dy gs, x = .ref a ∧ y = .ref b ∧ H a = some (.ins C dx fs) ∧ H b = some (.ins C dy gs) ∧ sp [.ref a, .ref b] H (fun v H' => ∃ t : Bool, v = .bl t ∧ Q (.bl t) H') E0
theorem op_eqI (F : FnG X.prog X.w X.K X.mg X.base (L2.CX X.prog X.w) k f fd ps sp) (hr : RoomG k X.A) (hm : Meth X.K C "__eq__" f) (hb : Binds X.K fd ps []) : OpR X (compareOp .Eq) (rEqI C sp) := by
  intro pins s σ H x y v u Q I rx ry ⟨a, dx, fs, b, dy, gs, e1, e2, ha, hb', h⟩
  subst e1 e2; cases rx; cases ry
  obtain ⟨od, J⟩ := ins_at I ha
  obtain ⟨od', J'⟩ := ins_at I hb'
  obtain ⟨m, hF⟩ := I.fr
  show wpAny (model X.prog X.w) X.A (richCompare .Eq (.ref a) (.ref b)) (EP X pins σ Q) X.xe s
  refine PySem.W.cmp_K (op := .Eq) (tb := .ref C) hr.rm.units0 hF I.ok.mod.kin J J'.type (by simp [PySem.W.notFirst]) hm.at_ hm.fn (wpAny_mono (call_at F hr rfl hb passL I (.cons (rr (a := a)) (.cons (rr (a := b)) .nil)) h) (fun v s' hv => ?_) fun _ _ z => z)
  obtain ⟨w, H', I', rw_, t, ew, q⟩ := hv
  subst ew; cases rw_
  exact ⟨.bl t, H', I', rfl, q⟩
/-- o[i] by an own method -/
def rGetI (C : Addr) (sp : Sp) : R2 := fun x y H Q => ∃ a dx fs, x = .ref a ∧ H a = some (.ins C dx fs) ∧ sp [.ref a, y] H Q E0
theorem ix_own (F : FnG X.prog X.w X.K X.mg X.base (L2.CX X.prog X.w) k f fd ps sp) (hr : RoomG (k + 1) X.A) (hm : Meth X.K C "__getitem__" f) (hn : PySem.W.fnIn X.K f = true) (hb : Binds X.K fd ps []) {a b : Expr} {ta tb : TE} {pos : Pos} (ha : PE X a ta) (hb2 : PE X b tb)
    (hsl : ∀ o i, subscripted b true o i = runValue (.builtin "lifetime.subscript" ⟨[o, i], []⟩) := by intro _ _; with_unfolding_all rfl) : PE X (.Subscript a b pos) (tOp (rGetI C sp) ta tb) := by
  refine ⟨fun pins s σ H Q I h => ?_⟩
  refine Subscript_ (binT ha hb2 I h fun v u s2 x y H2 I2 rx ry q => ?_)
  obtain ⟨c, dx, fs, e, hc, h2⟩ := q
  subst e; cases rx
  obtain ⟨od, J⟩ := ins_at I2 hc
  obtain ⟨m, hF⟩ := I2.fr
  exact PySem.W.sub_K hF I2.ok.mod.kin J hm.at_ hn hm.fn (call_at F hr.in1 rfl hb passL I2 (.cons (rr (a := c)) (.cons ry .nil)) h2) (hsl _ _)
end
end Fw

set_option maxHeartbeats 4000000
/-! The special methods by data; list(d.values()); dict(pairs). -/
namespace Fw
open PySem PySem.Spec PyProof.Rows L2
section
variable {K : PySem.W.Frag} {E : XK} {G : Gm} {O : OL} {ke : Xd → Prop}
theorem cad_lenI {c : Str} {w : Wt} : CaD K (rLenI (He.ga K c) (spD K w)) (fun ds k => ∃ fs, ds = [.obj c fs] ∧ w [.obj c fs] (fun d => ∃ n : Int, d = .int n ∧ (0 ≤ n ∧ n < 2 ^ 63) ∧ k (.int n)) F0) := by
  intro S H xs ds Q k dm rx ⟨fs, e, h⟩ hq
  subst e
  cases rx with
  | cons h1 t =>
    cases t
    have h0 := h1
    cases h1 with
    | obj n hh ek r =>
      exact ⟨_, _, _, rfl, hh, S, _, _, F0, dm, .cons h0 .nil, h, fun v H' d ⟨m, e, hb, kd⟩ s rv => by
        subst e; cases rv
        exact ⟨m, rfl, hb, hq _ H' _ kd s (.int _)⟩, eok_e0⟩
theorem opd_inI {c : Str} {w : Wt} {neg : Bool} : OpD K (rInI (He.ga K c) (spD K w) neg) (fun a b k => ∃ fs, b = .obj c fs ∧ w [b, a] (fun d => ∃ t, d = .bl t ∧ k (.bl (if neg then !t else t))) F0) := by
  intro S H x y a b Q k dm rx ry ⟨fs, e, h⟩ hq
  subst e
  have r0 := ry
  cases ry with
  | obj n hh ek r =>
    exact ⟨_, _, _, rfl, hh, S, _, _, F0, dm, .cons r0 (.cons rx .nil), h, fun v H' d ⟨t, e, kd⟩ s rv => by
      subst e; cases rv
      exact ⟨t, rfl, hq _ H' _ kd s (.bl _)⟩, eok_e0⟩
theorem opd_binI {c e : Str} {w : Wt} : OpD K (rBinI (He.ga K c) (He.ga K e) (spD K w)) (fun a b k => ∃ fs gs, a = .obj c fs ∧ b = .obj e gs ∧ w [a, b] k F0) := by
  intro S H x y a b Q k dm rx ry ⟨fs, gs, e1, e2, h⟩ hq
  subst e1 e2
  have r1 := rx
  have r2 := ry
  cases rx with
  | obj n hh ek r =>
    cases ry with
    | obj n' hh' ek' r' => exact ⟨_, _, _, _, _, _, rfl, rfl, hh, hh', S, _, _, F0, dm, .cons r1 (.cons r2 .nil), h, hq, eok_e0⟩
theorem und_invI {c : Str} {w : Wt} : UnD K (rInvI (He.ga K c) (spD K w)) (fun a k => ∃ fs, a = .obj c fs ∧ w [a] k F0) := by
  intro S H x a Q k dm rx ⟨fs, e1, h⟩ hq
  subst e1
  have r1 := rx
  cases rx with
  | obj n hh ek r => exact ⟨_, _, _, rfl, hh, S, _, _, F0, dm, .cons r1 .nil, h, hq, eok_e0⟩
theorem opd_eqI {c : Str} {w : Wt} : OpD K (rEqI (He.ga K c) (spD K w)) (fun a b k => ∃ fs gs, a = .obj c fs ∧ b = .obj c gs ∧ w [a, b] (fun d => ∃ t, d = .bl t ∧ k (.bl t)) F0) := by
  intro S H x y a b Q k dm rx ry ⟨fs, gs, e1, e2, h⟩ hq
  subst e1 e2
  have r1 := rx
  have r2 := ry
  cases rx with
  | obj n hh ek r =>
    cases ry with
    | obj n' hh' ek' r' => exact ⟨_, _, _, _, _, _, rfl, rfl, hh, hh', S, _, _, F0, dm, .cons r1 (.cons r2 .nil), h, fun v H' d ⟨t, e, kd⟩ s rv => by
        subst e; cases rv
        exact ⟨t, rfl, hq _ H' _ kd s (.bl _)⟩, eok_e0⟩
theorem opd_getI {c : Str} {w : Wt} : OpD K (rGetI (He.ga K c) (spD K w)) (fun a b k => ∃ fs, a = .obj c fs ∧ w [a, b] k F0) := by
  intro S H x y a b Q k dm rx ry ⟨fs, e1, h⟩ hq
  subst e1
  have r1 := rx
  cases rx with
  | obj n hh ek r => exact ⟨_, _, _, rfl, hh, S, _, _, F0, dm, .cons r1 (.cons ry .nil), h, hq, eok_e0⟩
end
/-! ### list(d.values()) -/
def rValsL : V → Hp → VK → Prop := fun x H Q => ∃ (d : Addr) (kvs : List (Key × V)), x = .ref d ∧ Rd H d (.dK kvs) ∧ ∀ p, H p = none → Q (.ref p) (upd H p (.lst (kvs.map Prod.snd)))
def tListVals (te : TE) : TE := fun σ H Q => te σ H fun x H1 => rValsL x H1 Q
section
variable {X : Cx} {e : Expr} {te : TE} {p apos cpos pos : Pos}
theorem vals_snd : ∀ {kvs : List (Key × V)} {vs : List (Key × Value)}, KV kvs vs → Vals (kvs.map Prod.snd) (vs.map Prod.snd)
  | _, _, .nil => .nil
  | _, _, .cons h t => .cons h.2 (vals_snd t)
theorem pe_listVals (hc : X.calm = true) (he : PE X e te) (hg : Gl X "list") (hm : X.mg "list" = none) (hv : bootBuiltins "list" = some (.type "list")) (hbase : attributeBase e "values" X.env (eval e X.env) = eval e X.env := by rfl) (hline : (apos.endLine == cpos.line) = true := by rfl)
    (hs : starEach [.Call (.Attribute e "values" apos) [] [] cpos] X.env = (false, eval (.Call (.Attribute e "values" apos) [] [] cpos) X.env) :: starEach [] X.env := by rfl) :
    PE X (.Call (.Name "list" p) [.Call (.Attribute e "values" apos) [] [] cpos] [] pos) (tListVals te) := by
  refine ⟨fun pins s σ H Q I hq => ?_⟩
  refine wpAny_Call_Name_kw (ld_blt I hg hm hv ?_)
  refine PyProof.Rows.callWith_type1 ?_ hs rfl
  rw [hs]
  show wpAny _ _ (spliced ((false, eval (.Call (.Attribute e "values" apos) [] [] cpos) X.env) :: backTo pos (starEach [] X.env))) _ _ s
  refine Calls.spliced_cons ?_
  refine wpAny_Call_method (T := "dict") (id := "dict.values") hbase rfl hline F.plainAttrs_dict F.slot_dict_values F.type_dict_values (thn (he.run pins s σ H _ I hq) fun u s1 ⟨x, H1, I1, rx, d, kvs, ex, hd, q⟩ => ?_)
  subst ex
  obtain rfl : u = Value.ref d := rx
  obtain ⟨hz, hs0, vs, kv, hdo⟩ := dk_rd I1.hok hd
  obtain ⟨ep, hat⟩ := hdo.dictAt
  have lk : kvs.length = vs.length := Paired.length kv
  have I2 : Inv X pins σ H1 { s1 with heap := s1.heap.push { cls := .type "dict_values", data := .fields #[.ref d] } } := I1.kept (t' := s1.toks) fun b ob q => Heap.get?_push_of_some _ q
  refine ⟨hdo.typeIs, hdo.mapOf.noDict, ?_⟩
  show wpAny _ _ (callWith cpos (.builtin "dict.values") [.ref d] [] []) _ X.xe s1
  refine method_meetsIn F.slot_dict_values F.entry_dict_values rfl (PySem.evalArgs_none ⟨rfl, hdo.typeIs, F.args_dict_values_1 _, _, meets_dict_values (mixKind X.prog X.w) d hs0, ⟨vs, hdo⟩, ?_⟩)
  refine Calls.spliced_nil ?_
  refine PySem.W.kdl_call (PySem.W.kdl_values (knd := mixKind X.prog X.w) (kvs := vs) (ep := ep)) (I1.ok.hd hc) ⟨⟨_, Heap.get?_push_size _ rfl, rfl, rfl⟩, hat.push _⟩ (by omega) fun h' tk acc c' hk hD hacc => ?_
  have ev : acc.toList = vs.map Prod.snd := PySem.W.kdl_vals_eq acc.toList (by rw [Array.length_toList]; exact hacc.1) fun j v e => hacc.2 j v (by rw [← Array.getElem?_toList]; exact e)
  have fr := I2.hok.fresh (Nat.le_refl _)
  refine ⟨.ref _, upd H1 _ (.lst (kvs.map Prod.snd)), I2.laid (t' := tk) hk (Nat.le_refl _) ⟨by rw [List.length_map]; exact hz, acc.toList, c', by rw [ev]; exact vals_snd kv, by rw [Array.toArray_toList]; exact hD⟩, rr, q _ fr⟩
end
section
variable {K : PySem.W.Frag} {E : XK} {G : Gm} {O : OL} {ke : Xd → Prop}
theorem df_listVals {te : TE} {k : Ow → Prop} (h : DT K E te G O (fun a => ∃ kvs : List (Key × D), a = .dic kvs ∧ k (.lst (kvs.map Prod.snd))) ke) : DF K E (tListVals te) G O k ke := fun S0 Os σ H Q st hq he =>
  h.bind st he fun x H1 a ⟨kvs, e, q⟩ s1 st1 he1 rx => by
    subst e
    cases rx with
    | dic n hh ek r => exact ⟨_, _, rfl, hh, fun p np => hq p _ _ q (s1.trans (Same.put np)) (s1.free np) (own_new np r)⟩
/-! ### dict(pairs) -/
def mergeD (kvs more : List (Key × D)) : List (Key × D) := more.foldl (fun acc kv => putD acc kv.1 kv.2) kvs
theorem merge_rep {S : Addr → Prop} {H : Hp} : ∀ {more : List (Key × V)} {md : List (Key × D)} {kvs : List (Key × V)} {ds : List (Key × D)}, more.map Prod.fst = md.map Prod.fst → Reps K S H (more.map Prod.snd) (md.map Prod.snd) → kvs.map Prod.fst = ds.map Prod.fst → Reps K S H (kvs.map Prod.snd) (ds.map Prod.snd) →
    (mergeK kvs more).map Prod.fst = (mergeD ds md).map Prod.fst ∧ Reps K S H ((mergeK kvs more).map Prod.snd) ((mergeD ds md).map Prod.snd)
  | [], [], _, _, _, _, e, r => ⟨e, r⟩
  | [], _ :: _, _, _, h, _, _, _ => by simp at h
  | _ :: _, [], _, _, h, _, _, _ => by simp at h
  | p :: m, q :: n, kvs, ds, h, .cons hv t, e, r => by
    have h1 : p.1 = q.1 := by simpa using (List.cons.inj (by simpa using h)).1
    have h2 : m.map Prod.fst = n.map Prod.fst := by simpa using (List.cons.inj (by simpa using h)).2
    obtain ⟨e2, r2⟩ := put_rep (k := p.1) hv e r
    show (mergeK (putK kvs p.1 p.2) m).map Prod.fst = (mergeD (putD ds q.1 q.2) n).map Prod.fst ∧ Reps K S H ((mergeK (putK kvs p.1 p.2) m).map Prod.snd) ((mergeD (putD ds q.1 q.2) n).map Prod.snd)
    rw [← h1]
    exact merge_rep h2 t e2 r2
theorem pairs_of {S : Addr → Prop} {H : Hp} : ∀ {vs : List V} {kvs : List (Key × D)}, Reps K S H vs (kvs.map fun p => D.tup [kD p.1, p.2]) → ∃ (ps : List Addr) (ks : List (Key × V)), vs = ps.map V.ref ∧ Paired (fun p kv => SqT K H p [kV kv.1, kv.2]) ps ks ∧ ks.map Prod.fst = kvs.map Prod.fst ∧ Reps K S H (ks.map Prod.snd) (kvs.map Prod.snd)
  | _, [], .nil => ⟨[], [], rfl, .nil, rfl, .nil⟩
  | _, q :: r, .cons h t => by
    obtain ⟨ps, ks, e1, e2, e3, e4⟩ := pairs_of t
    cases h with
    | tup n hh rr =>
      rename_i a us
      cases rr with
      | cons ha tt =>
        cases tt with
        | cons hb t3 =>
          cases t3
          have ea := kD_v ha
          subst ea
          exact ⟨a :: ps, (q.1, _) :: ks, by rw [List.map_cons, e1], .cons (SqT.of hh) e2, by rw [List.map_cons, List.map_cons, e3], .cons hb e4⟩
theorem caf_dictP : CaF K (fun xs H Q => ∃ (a : Addr) (ps : List Addr) (kvs : List (Key × V)), xs = [.ref a] ∧ SqL K H a (ps.map V.ref) ∧ Paired (fun p kv => SqT K H p [kV kv.1, kv.2]) ps kvs ∧ ∀ p, H p = none → Q (.ref p) (upd H p (.dK (mergeK [] kvs))))
    (fun ds k => ∃ kvs : List (Key × D), ds = [.lst (kvs.map fun p => D.tup [kD p.1, p.2])] ∧ k (.dic (mergeD [] kvs))) := by
  intro S H xs ds Q k dm rx ⟨kvs, e, q⟩ hq
  subst e
  cases rx with
  | cons h t =>
    cases t
    cases h with
    | lst n hh r =>
      obtain ⟨ps, ks, e1, e2, e3, e4⟩ := pairs_of r
      subst e1
      refine ⟨_, ps, ks, rfl, SqL.of hh, e2, fun p np => hq p _ _ q (Same.put np) np ?_⟩
      obtain ⟨m1, m2⟩ := merge_rep (kvs := []) (ds := []) e3 e4 rfl .nil
      exact ⟨_, upd_same, m1, Reps.same (Reps.avoid (fun a z => z.elim .inl fun e => .inr (by rw [e]; exact np)) m2) (Same.put np)⟩
end
end Fw

set_option maxHeartbeats 4000000
/-! A def by its body, told of data; the stream. -/
namespace Fw
open PySem PySem.Spec PyProof.Rows L2
def startG (N : List Str) (ds : List D) : Gm := ds.map some ++ List.replicate (N.length - ds.length) none
section
variable {P : Program} {w : World} {K : PySem.W.Frag} {mg : Str → Option Value} {base : Heap} {x qual : Str} {params : Arguments} {body : List Stmt} {scope : Scope} {f : Addr} {fd : FuncData}
theorem start_len {N : List Str} {vs : List V} (h : vs.length ≤ N.length) : (L2.start N vs).length = N.length := by
  unfold L2.start; rw [List.length_append, List.length_map, List.length_replicate]; omega
theorem start_st {S : Addr → Prop} {H : Hp} {N : List Str} {vs : List V} {ds : List D} (r : Reps K S H vs ds) (dm : ∀ a, S a → H a ≠ none) : St1 K S (startG N ds) [] [] (L2.start N vs) H := by
  refine ⟨rfl, List.nodup_nil, dm, (fun a z => by cases z), ?_, fun i d e => ?_, (fun p hp => by cases hp)⟩
  · unfold L2.start startG
    rw [List.length_append, List.length_append, List.length_map, List.length_map, List.length_replicate, List.length_replicate, r.length]
  · unfold startG at e
    by_cases hi : i < ds.length
    · rw [List.getElem?_append_left (by simpa using hi), List.getElem?_map] at e
      cases q : ds[i]? with
      | none => rw [q] at e; cases e
      | some d' =>
        rw [q] at e; cases e
        obtain ⟨v, hv, rv⟩ := r.get' q
        refine ⟨v, ?_, Rep.weak (fun a z => z.elim id fun y => by cases y) rv⟩
        unfold L2.start
        rw [List.getElem?_append_left (by rw [List.length_map, r.length]; exact hi), List.getElem?_map, hv]; rfl
    · rw [List.getElem?_append_right (by simpa using hi), List.getElem?_replicate] at e
      split at e <;> cases e
/-- THE RULE for a def, by data -/
theorem fnD {N ps : List Str} {k : Nat} {wt : Wt} (F : FunD K x qual params body scope [] [] f fd) (S : FnScope N ps scope) (len : ∀ ds kk ke, wt ds kk ke → ds.length = ps.length)
    (hb : ∀ (cdv : Value) (A : Around) (outer : List Env) (s : Shared) (H : Hp) (E : XK), RoomG k (A.deeper (envOfC qual scope s.heap.objs.size f cdv)) →
      ∃ t, PSs (cxOf (L2.CX P w) P w K mg base N qual scope f cdv A outer s H E) body t ∧ ∀ ds kk ke, wt ds kk ke → DS K E t (startG N ds) [] (fun _ _ => kk .non) kk ke) : FnG P w K mg base (L2.CX P w) (k + 1) f fd ps (spD K wt) := by
  refine g_fun F S (fun vs H Q E ⟨T, ds, kk, ke, dm, rr, hw, _⟩ => by rw [rr.length]; exact len ds kk ke hw) (fun cdv A outer s H vs Q E hr ⟨T, ds, kk, ke, dm, rr, hw, hq, he⟩ => ?_)
  obtain ⟨t, ht, hd⟩ := hb cdv A outer s H E hr
  refine ⟨t, ht, hd ds kk ke hw T H [] (L2.start N vs) H _ ⟨Same.refl H, fun a z => (by cases z), dm⟩ (start_st rr dm) (fun G' O' Os' σ' H' kn c st => ?_) (fun v H' d kd s r => hq v H' d kd s r) he⟩
  exact hq .non H' .non kn (fun a u e => c.same a (fun z => by cases z) u e) .non
/-- .. an __init__ -/
theorem fnI {N ps : List Str} {k : Nat} {c : Str} {wt : WtI} (F : FunD K x qual params body scope [] [] f fd) (S : FnScope N ps scope) (hN : 0 < N.length) (len : ∀ ds kk ke, wt ds kk ke → ds.length + 1 = ps.length)
    (hb : ∀ (cdv : Value) (A : Around) (outer : List Env) (s : Shared) (H : Hp) (E : XK), RoomG k (A.deeper (envOfC qual scope s.heap.objs.size f cdv)) →
      ∃ t, PSs (cxOf (L2.CX P w) P w K mg base N qual scope f cdv A outer s H E) body t ∧ ∀ (x : Addr) ds kk ke, wt ds kk ke → DS K E t (none :: (ds.map some ++ List.replicate (N.length - (ds.length + 1)) none)) [(0, .slf x c [])] (fun _ O' => ∃ fs, O' = [(0, .slf x c fs)] ∧ kk fs) (fun _ => False) ke) : FnG P w K mg base (L2.CX P w) (k + 1) f fd ps (spI K c wt) := by
  refine g_fun F S (fun vs H Q E ⟨T, x, dx, vs', ds, kk, ke, e, hx, nx, dm, rr, hw, _⟩ => by rw [e, List.length_cons, rr.length]; exact len ds kk ke hw) (fun cdv A outer s H vs Q E hr ⟨T, x, dx, vs', ds, kk, ke, e, hx, nx, dm, rr, hw, hq, he⟩ => ?_)
  subst e
  obtain ⟨t, ht, hd⟩ := hb cdv A outer s H E hr
  have s0 : Same (del H x) H := fun a u e => by
    by_cases h : a = x
    · subst h; rw [del_same] at e; cases e
    · rw [del_ne h] at e; exact e
  have wx : ∀ a, W [(x, 0, Ow.slf x c [])] a ↔ a = x := fun a => by
    show a ∈ [x] ↔ _
    exact List.mem_singleton
  have so : ∀ a, SO T [(x, 0, Ow.slf x c [])] a → T a ∨ a = x := fun a z => z.imp id (wx a).mp
  have hl : (L2.start N (V.ref x :: vs')).length = (none :: (ds.map some ++ List.replicate (N.length - (ds.length + 1)) none) : Gm).length := by
    unfold L2.start
    rw [List.length_append, List.length_map, List.length_replicate, List.length_cons, List.length_cons, List.length_append, List.length_map, List.length_replicate, rr.length]; omega
  refine ⟨t, ht, hd x ds kk ke hw T (del H x) [(x, 0, .slf x c [])] (L2.start N (.ref x :: vs')) H _ ⟨s0, fun a z => by rw [(wx a).mp z]; exact del_same, fun a ta => by rw [del_ne fun z => nx (by rw [← z]; exact ta)]; exact dm a ta⟩ ⟨rfl, ?_, dm, fun a z => by rw [(wx a).mp z]; exact nx, hl, fun i d e => ?_, fun p hp => ?_⟩ (fun G' O' Os' σ' H' ⟨fs, eo, kf⟩ cc st => ?_) (fun v H' d kd _ _ => kd.elim) he⟩
  · exact List.nodup_cons.mpr ⟨by simp, List.nodup_nil⟩
  · cases i with
    | zero => cases e
    | succ i =>
      have e' : (ds.map some ++ List.replicate (N.length - (ds.length + 1)) none : Gm)[i]? = some (some d) := e
      by_cases hi : i < ds.length
      · rw [List.getElem?_append_left (by simpa using hi), List.getElem?_map] at e'
        cases q : ds[i]? with
        | none => rw [q] at e'; cases e'
        | some d' =>
          rw [q] at e'; cases e'
          obtain ⟨v, hv, rv⟩ := rr.get' q
          refine ⟨v, ?_, Rep.weak so rv⟩
          unfold L2.start
          rw [List.getElem?_append_left (by rw [List.length_map, List.length_cons, rr.length]; omega), List.getElem?_map, List.getElem?_cons_succ, hv]; rfl
      · rw [List.getElem?_append_right (by simpa using hi), List.getElem?_replicate] at e'
        split at e' <;> cases e'
  · have e := List.mem_singleton.mp hp
    subst e
    exact ⟨rfl, rfl, dx, [], hx, rfl, .nil⟩
  · have hos := st.os
    rw [eo] at hos
    cases Os' with
    | nil => cases hos
    | cons q qs =>
      cases qs with
      | cons _ _ =>
        have hz := congrArg List.length hos
        simp at hz
      | nil =>
        obtain ⟨q1, q2⟩ := q
        have e2 : q2 = (0, .slf x c fs) := by simpa using hos
        obtain ⟨hs, oa⟩ := st.own (q1, q2) List.mem_cons_self
        subst e2
        obtain ⟨ea, dx', vs2, h1, h2, h3⟩ := oa
        have ea' : q1 = x := ea
        subst ea'
        have w1 : ∀ a, (T a ∨ a = q1) → SO T [(q1, 0, .slf q1 c fs)] a := fun a z => z.imp id fun e => by
          show a ∈ [q1]
          rw [e]; exact List.mem_singleton.mpr rfl
        exact hq H' fs kf (fun a n u e => cc.same a (fun z => n ((wx a).mp z)) u e) ⟨dx', vs2, h1, h2, Reps.weak w1 h3⟩
end
end Fw

set_option maxHeartbeats 4000000
/-! What the top has written: the facts read off it, and short words for the rules. -/
namespace Fw
open PySem PySem.Spec PyProof.Rows L2
theorem DfP.funD {K : PySem.W.Frag} {d : DfP} (e : fnP K (d.at_.ad K) = d.val) (c : d.ok K = true) : ∃ fd, FunD K d.name d.qual (defArgs d.st) (defBody d.st) (defScope d.st) [] [] (d.at_.ad K) fd := by
  obtain ⟨kp, c2⟩ := He.ba c
  unfold fnP at e
  cases q : K.lookup (d.at_.ad K) with
  | none => rw [q] at c2; cases c2
  | some o =>
    obtain ⟨oc, od, dt, osl⟩ := o
    rw [q] at c2 e
    cases dt with
    | func fd =>
      obtain ⟨n1, n2, n3, n4, n5, n6, n7, n8, n9, n10, n11, n12, n13, n14, n15⟩ := fd
      have e2 : (some (n1, n2, n3, n4, n5, n6, n7, n15) : He.FnW) = some (d.name, d.qual, defArgs d.st, .stmts (defBody d.st), defScope d.st, mainGlobals, [], builtinsNs) := e
      simp only [Option.some.injEq, Prod.mk.injEq] at e2
      obtain ⟨h1, h2, h3, h4, h5, h6, h7, h8⟩ := e2
      subst h1 h2 h3 h4 h5 h6 h7 h8
      have c3 : (PySem.W.codeIn K n13 d.qual && isNone n8) = true := c2
      obtain ⟨k1, k2⟩ := He.ba c3
      have e8 : n8 = .none := by cases n8 <;> first | rfl | cases k2
      exact ⟨_, ⟨oc, od, n8, n9, n10, n11, n12, n13, n14, osl, rfl, q, k1, .inl ⟨rfl, e8⟩, .inl rfl⟩, kp⟩
    | _ => cases c2
theorem prop_ok {K : PySem.W.Frag} {c x : Str} (h : (Fc.prop c x).ok K = true) : PropOf K (He.ga K c) x (He.ma K (He.ga K c) x) (getter K (He.ga K c) x) := by
  obtain ⟨h1, h⟩ := He.ba h
  obtain ⟨h2, h⟩ := He.ba h
  obtain ⟨h3, h4⟩ := He.ba h
  refine ⟨He.eqO_ok h1, He.eqO_ok h2, of_decide_eq_true h3, ?_⟩
  unfold getter
  cases q : PySem.W.recIn K (He.ma K (He.ga K c) x) "property" with
  | none => rw [q] at h4; cases h4
  | some l =>
    rw [q] at h4
    cases l with
    | nil => cases h4
    | cons v r =>
      cases v with
      | ref a => exact ⟨r, rfl⟩
      | _ => cases h4
theorem bin2_ok {K : PySem.W.Frag} {c e : Str} {nm : String} (h : (Fc.bin2 c e nm).ok K = true) : Bin2 K (He.ga K c) (He.ga K e) nm (He.ma K (He.ga K e) (PySem.dunder nm)) := by
  obtain ⟨h1, h⟩ := He.ba h
  obtain ⟨h2, h⟩ := He.ba h
  obtain ⟨h3, h⟩ := He.ba h
  obtain ⟨h4, h⟩ := He.ba h
  obtain ⟨h5, h⟩ := He.ba h
  obtain ⟨h6, h7⟩ := He.ba h
  refine ⟨fun z => ?_, h2, h3, He.eqO_ok h4, He.eqO_ok h5, He.eqO_ok h6, of_decide_eq_true h7⟩
  rw [decide_eq_true z] at h1; cases h1
theorem callo_ok {K : PySem.W.Frag} {c e : Str} (h : (Fc.callo c e).ok K = true) : StX.CallO K (He.ga K c) (He.ma K (He.ga K e) "__call__") := by
  obtain ⟨h1, h⟩ := He.ba h
  obtain ⟨h2, h3⟩ := He.ba h
  exact ⟨He.eqO_ok h1, h2, h3⟩
theorem kit_ok {K : PySem.W.Frag} {t u : Tv} {b : Bool} (h : (Fc.kit t u b).ok K = true) : PySem.W.kitOne K (t.v K) (u.v K) = some b := of_decide_eq_true h
/-- the facts, behind the top -/
structure Tx (fc : List Fc) (ds : List DfP) (K : PySem.W.Frag) (mg : Str → Option Value) : Prop where
  says : obsP fc ds K = valP ds
  some_ : ∀ x v, PySem.W.nsIn K mainGlobals x = some (some v) → mg x = some v
  none_ : ∀ x, PySem.W.nsIn K mainGlobals x = some none → mg x = none
section
variable {fc : List Fc} {ds : List DfP} {K : PySem.W.Frag} {mg : Str → Option Value}
theorem Tx.mk' {h : Heap} (X : K.In h) (G : h.Ns mainGlobals mg) (c : obsP fc ds K = valP ds) : Tx fc ds K mg := ⟨c, fun _ _ e => PySem.W.mg_of X G e, fun _ e => PySem.W.mg_none_of X G e⟩
theorem Tx.fact (T : Tx fc ds K mg) (i : Nat) {f : Fc} (h : fc[i]? = some f := by rfl) : f.ok K = true := by
  have c1 := (He.ba (show ((fc.all fun f => f.ok K) && ds.all fun d => d.ok K) = true from congrArg (fun z : AlP => z.1) T.says)).1
  exact List.all_eq_true.mp c1 f (List.mem_of_getElem? h)
theorem Tx.def_ (T : Tx fc ds K mg) (i : Nat) {d : DfP} (h : ds[i]? = some d := by rfl) : ∃ fd, FunD K d.name d.qual (defArgs d.st) (defBody d.st) (defScope d.st) [] [] (d.at_.ad K) fd := by
  have c2 := (He.ba (show ((fc.all fun f => f.ok K) && ds.all fun d => d.ok K) = true from congrArg (fun z : AlP => z.1) T.says)).2
  have e : ds.map (fun d => fnP K (d.at_.ad K)) = ds.map DfP.val := congrArg (fun z : AlP => z.2) T.says
  have e2 : (ds.map fun d => fnP K (d.at_.ad K))[i]? = (ds.map DfP.val)[i]? := by rw [e]
  rw [List.getElem?_map, List.getElem?_map, h] at e2
  exact DfP.funD (Option.some.inj e2) (List.all_eq_true.mp c2 d (List.mem_of_getElem? h))
theorem Tx.glo (T : Tx fc ds K mg) (i : Nat) {x : Str} (h : fc[i]? = some (.a (.glo x)) := by rfl) : mg x = some (.ref (He.ga K x)) := T.some_ _ _ (He.eqO_ok (show He.eqO _ _ = true from T.fact i h))
theorem Tx.free (T : Tx fc ds K mg) (i : Nat) {x : Str} (h : fc[i]? = some (.a (.free x)) := by rfl) : mg x = none := T.none_ _ (He.eqO_ok (show He.eqO _ _ = true from T.fact i h))
theorem Tx.int (T : Tx fc ds K mg) (i : Nat) {x : Str} {n : Int} (h : fc[i]? = some (.a (.int x n)) := by rfl) : ∃ t, mg x = some (.int n t) := by
  have c2 : (match PySem.W.nsIn K mainGlobals x with
    | some (some (.int j _)) => decide (j = n)
    | _ => false) = true := T.fact i h
  cases e : PySem.W.nsIn K mainGlobals x with
  | none => rw [e] at c2; cases c2
  | some o =>
    rw [e] at c2
    cases o with
    | none => cases c2
    | some v =>
      cases v with
      | int j t =>
        have ej : j = n := of_decide_eq_true c2
        rw [ej] at e
        exact ⟨t, T.some_ _ _ e⟩
      | _ => cases c2
theorem Tx.str (T : Tx fc ds K mg) (i : Nat) {x z : Str} (h : fc[i]? = some (.a (.str x z)) := by rfl) : ∃ t, mg x = some (.str z t) := by
  have c2 : (match PySem.W.nsIn K mainGlobals x with
    | some (some (.str y _)) => decide (y = z)
    | _ => false) = true := T.fact i h
  cases e : PySem.W.nsIn K mainGlobals x with
  | none => rw [e] at c2; cases c2
  | some o =>
    rw [e] at c2
    cases o with
    | none => cases c2
    | some v =>
      cases v with
      | str y t =>
        have ej : y = z := of_decide_eq_true c2
        rw [ej] at e
        exact ⟨t, T.some_ _ _ e⟩
      | _ => cases c2
theorem Tx.cls (T : Tx fc ds K mg) (i : Nat) {c : Str} (h : fc[i]? = some (.a (.cls c)) := by rfl) : Cls K (He.ga K c) := He.cls_ok (T.fact i h)
theorem Tx.noat (T : Tx fc ds K mg) (i : Nat) {c f : Str} (h : fc[i]? = some (.a (.noat c f)) := by rfl) : NoAttr K (He.ga K c) f := He.noat_ok (T.fact i h)
theorem Tx.meth (T : Tx fc ds K mg) (i : Nat) {c m : Str} (h : fc[i]? = some (.a (.meth c m)) := by rfl) : Meth K (He.ga K c) m (He.ma K (He.ga K c) m) := He.meth_ok (T.fact i h)
theorem Tx.mkr (T : Tx fc ds K mg) (i : Nat) {c : Str} (h : fc[i]? = some (.a (.mkr c)) := by rfl) : Mk K (He.ga K c) (He.ma K (He.ga K c) "__init__") := He.mkr_ok (T.fact i h)
theorem Tx.ins (T : Tx fc ds K mg) (i : Nat) {c : Str} (h : fc[i]? = some (.ins c) := by rfl) : InsK K c := insB_ok (T.fact i h)
theorem Tx.prop (T : Tx fc ds K mg) (i : Nat) {c x : Str} (h : fc[i]? = some (.prop c x) := by rfl) : PropOf K (He.ga K c) x (He.ma K (He.ga K c) x) (getter K (He.ga K c) x) := prop_ok (T.fact i h)
theorem Tx.kit (T : Tx fc ds K mg) (i : Nat) {t u : Tv} {b : Bool} (h : fc[i]? = some (.kit t u b) := by rfl) : PySem.W.kitOne K (t.v K) (u.v K) = some b := kit_ok (T.fact i h)
theorem Tx.first (T : Tx fc ds K mg) (i : Nat) {c : Str} (h : fc[i]? = some (.first c) := by rfl) : PySem.W.selfFirst K (He.ga K c) = true := T.fact i h
theorem Tx.bin2 (T : Tx fc ds K mg) (i : Nat) {c e : Str} {nm : String} (h : fc[i]? = some (.bin2 c e nm) := by rfl) : Bin2 K (He.ga K c) (He.ga K e) nm (He.ma K (He.ga K e) (PySem.dunder nm)) := bin2_ok (T.fact i h)
theorem Tx.callo (T : Tx fc ds K mg) (i : Nat) {c e : Str} (h : fc[i]? = some (.callo c e) := by rfl) : StX.CallO K (He.ga K c) (He.ma K (He.ga K e) "__call__") := callo_ok (T.fact i h)
theorem Tx.fnin (T : Tx fc ds K mg) (i : Nat) {c m : Str} (h : fc[i]? = some (.fnin c m) := by rfl) : PySem.W.fnIn K (He.ma K (He.ga K c) m) = true := T.fact i h
end
/-! ### a def that stands and keeps its promise -/
structure Ok (P : Program) (w : World) (K : PySem.W.Frag) (mg : Str → Option Value) (base : Heap) (k : Nat) (f : Addr) (ps : List Str) (sp : Sp) : Prop where
  ex : ∃ fd, FnG P w K mg base (L2.CX P w) k f fd ps sp ∧ Binds K fd ps []
  kp : PySem.W.keepIn K (.ref f) = true
section
variable {X : Cx} {j k : Nat} {f C p g Dc : Addr} {ps : List Str} {sp : Sp} {x m : Str} {E : XK} {pp pos apos : Pos} {e o : Expr} {es : List Expr} {t : TA} {ta tb : TE}
theorem q_call (F : Ok X.prog X.w X.K X.mg X.base k f ps sp) (hr : RoomG j X.A) (hm : X.mg x = some (.ref f)) (ha : PA X (e :: es) t) (hj : k ≤ j := by first | decide | omega) (hg : Gl X x := by rfl) (hdb : (x == ("__debug__" : Str)) = false := by decide)
    (he : starEach (e :: es) X.env = (false, eval e X.env) :: starEach es X.env := by rfl) (hpl : (backTo pos (starEach es X.env)).any (·.1) = false := by rfl) : PE X (.Call (.Name x pp) (e :: es) [] pos) (tCall sp [] E0 t) := by
  obtain ⟨fd, F1, B⟩ := F.ex
  exact g_call F1 (hr.mono hj) hg hm F.kp B passL ha hdb he hpl
theorem q_callE (F : Ok X.prog X.w X.K X.mg X.base k f ps sp) (hr : RoomG j X.A) (hp : Passes (L2.CX X.prog X.w) X E) (hm : X.mg x = some (.ref f)) (ha : PA X (e :: es) t) (hj : k ≤ j := by first | decide | omega) (hg : Gl X x := by rfl) (hdb : (x == ("__debug__" : Str)) = false := by decide)
    (he : starEach (e :: es) X.env = (false, eval e X.env) :: starEach es X.env := by rfl) (hpl : (backTo pos (starEach es X.env)).any (·.1) = false := by rfl) : PE X (.Call (.Name x pp) (e :: es) [] pos) (tCall sp [] E t) := by
  obtain ⟨fd, F1, B⟩ := F.ex
  exact g_call F1 (hr.mono hj) hg hm F.kp B hp ha hdb he hpl
theorem q_call0 (F : Ok X.prog X.w X.K X.mg X.base k f ps sp) (hr : RoomG j X.A) (hm : X.mg x = some (.ref f)) (hj : k ≤ j := by first | decide | omega) (hg : Gl X x := by rfl) (hdb : (x == ("__debug__" : Str)) = false := by decide) : PE X (.Call (.Name x pp) [] [] pos) (tCall sp [] E0 tNil) := by
  obtain ⟨fd, F1, B⟩ := F.ex
  exact g_call0 F1 (hr.mono hj) hg hm F.kp B passL hdb
theorem q_make (F : Ok X.prog X.w X.K X.mg X.base k f ps sp) (M : Mk X.K C f) (hr : RoomG j X.A) (hm : X.mg x = some (.ref C)) (ha : PA X (e :: es) t) (hj : k + 1 ≤ j := by first | decide | omega) (hg : Gl X x := by rfl) (hdb : (x == ("__debug__" : Str)) = false := by decide)
    (he : starEach (e :: es) X.env = (false, eval e X.env) :: starEach es X.env := by rfl) (hpl : (backTo pos (starEach es X.env)).any (·.1) = false := by rfl) : PE X (.Call (.Name x pp) (e :: es) [] pos) (tMake C sp [] E0 t) := by
  obtain ⟨fd, F1, B⟩ := F.ex
  exact g_make M F1 (hr.mono hj) hg hm B passL ha hdb he hpl
theorem q_meth {pl : Sem Bool} (F : Ok X.prog X.w X.K X.mg X.base k f ps sp) (he : PE X o ta) (c : Cls X.K C) (hm : Meth X.K C m f) (hr : RoomG j X.A) (ha : PA X (e :: es) t) (hj : k ≤ j := by first | decide | omega)
    (hst : starEach (e :: es) X.env = (false, eval e X.env) :: starEach es X.env := by rfl) (hpl : (backTo pos (starEach es X.env)).any (·.1) = false := by rfl)
    (ht : eval (.Call (.Attribute o m apos) (e :: es) [] pos) X.env = (do
      let ov ← eval o X.env
      standAt apos.atName
      let (f, first) ← holding [ov] (getMethod ov m pl)
      callWith pos f first (backTo pos (starEach (e :: es) X.env)) (backToKw pos (keywordEach [] X.env))) := by rfl) :
    PE X (.Call (.Attribute o m apos) (e :: es) [] pos) (tMeth C m sp [] E0 ta t) := by
  obtain ⟨fd, F1, B⟩ := F.ex
  exact g_meth he c hm F1 (hr.mono hj) B passL ha hst hpl ht
theorem q_meth0 {pl : Sem Bool} (F : Ok X.prog X.w X.K X.mg X.base k f ps sp) (he : PE X o ta) (c : Cls X.K C) (hm : Meth X.K C m f) (hr : RoomG j X.A) (hj : k ≤ j := by first | decide | omega)
    (ht : eval (.Call (.Attribute o m apos) [] [] pos) X.env = (do
      let ov ← eval o X.env
      standAt apos.atName
      let (f, first) ← holding [ov] (getMethod ov m pl)
      callWith pos f first (backTo pos (starEach [] X.env)) (backToKw pos (keywordEach [] X.env))) := by rfl) :
    PE X (.Call (.Attribute o m apos) [] [] pos) (tMeth C m sp [] E0 ta tNil) := by
  obtain ⟨fd, F1, B⟩ := F.ex
  exact g_meth0 he c hm F1 (hr.mono hj) B passL ht
theorem q_prop (F : Ok X.prog X.w X.K X.mg X.base k g ps sp) (he : PE X e ta) (c : Cls X.K C) (hp : PropOf X.K C m p g) (hr : RoomG j X.A) (hj : k + 1 ≤ j := by first | decide | omega)
    (hab : attributeBase e m X.env (eval e X.env) = eval e X.env := by rfl) : PE X (.Attribute e m pos) (tProp C sp [] E0 ta) := by
  obtain ⟨fd, F1, B⟩ := F.ex
  exact g_prop he c hp F1 (hr.mono hj) B passL hab
theorem q_len (F : Ok X.prog X.w X.K X.mg X.base k f ps sp) (hm : Meth X.K C "__len__" f) (hr : RoomG j X.A) (hn : X.mg "len" = none) (ha : PA X (e :: es) t) (hj : k + 1 ≤ j := by first | decide | omega) (hg : Gl X "len" := by rfl)
    (he : starEach (e :: es) X.env = (false, eval e X.env) :: starEach es X.env := by rfl) (hpl : (backTo pos (starEach es X.env)).any (·.1) = false := by rfl) : PE X (.Call (.Name "len" pp) (e :: es) [] pos) (tCB (rLenI C sp) t) := by
  obtain ⟨fd, F1, B⟩ := F.ex
  exact pe_callB (call_lenI F1 (hr.mono hj) hm B) hg hn boot_len ha (by decide) (by decide) he hpl
theorem q_in (F : Ok X.prog X.w X.K X.mg X.base k f ps sp) (hm : Meth X.K C "__contains__" f) (hr : RoomG j X.A) (hj : k ≤ j := by first | decide | omega) : OpR X (compareOp .In) (rInI C sp false) := by
  obtain ⟨fd, F1, B⟩ := F.ex
  exact op_inI F1 (hr.mono hj) hm B
theorem q_notin (F : Ok X.prog X.w X.K X.mg X.base k f ps sp) (hm : Meth X.K C "__contains__" f) (hr : RoomG j X.A) (hj : k ≤ j := by first | decide | omega) : OpR X (compareOp .NotIn) (rInI C sp true) := by
  obtain ⟨fd, F1, B⟩ := F.ex
  exact op_notInI F1 (hr.mono hj) hm B
theorem q_bin {op : Operator} (F : Ok X.prog X.w X.K X.mg X.base k f ps sp) (hm : Meth X.K C (PySem.dunder op.info.2) f) (hc : PySem.W.selfFirst X.K C = true) (hr : RoomG j X.A) (hj : k ≤ j := by first | decide | omega) : OpR X (binaryOp op) (rBinI C C sp) := by
  obtain ⟨fd, F1, B⟩ := F.ex
  exact op_binI F1 (hr.mono hj) hm hc B
theorem q_bin2 {op : Operator} {f2 : Addr} (F : Ok X.prog X.w X.K X.mg X.base k f ps sp) (hm : Meth X.K C (PySem.dunder op.info.2) f) (b2 : Bin2 X.K C Dc op.info.2 f2) (hr : RoomG j X.A) (hj : k ≤ j := by first | decide | omega) : OpR X (binaryOp op) (rBinI C Dc sp) := by
  obtain ⟨fd, F1, B⟩ := F.ex
  exact op_binI2 F1 (hr.mono hj) hm b2 B
theorem q_eq (F : Ok X.prog X.w X.K X.mg X.base k f ps sp) (hm : Meth X.K C "__eq__" f) (hr : RoomG j X.A) (hj : k ≤ j := by first | decide | omega) : OpR X (compareOp .Eq) (rEqI C sp) := by
  obtain ⟨fd, F1, B⟩ := F.ex
  exact op_eqI F1 (hr.mono hj) hm B
theorem q_inv (F : Ok X.prog X.w X.K X.mg X.base k f ps sp) (hm : Meth X.K C "__invert__" f) (hr : RoomG j X.A) (hj : k ≤ j := by first | decide | omega) : UnR X (unaryOp .Invert) (rInvI C sp) := by
  obtain ⟨fd, F1, B⟩ := F.ex
  exact un_invI F1 (hr.mono hj) hm B
theorem q_get (F : Ok X.prog X.w X.K X.mg X.base k f ps sp) (hm : Meth X.K C "__getitem__" f) (hn : PySem.W.fnIn X.K f = true) (hr : RoomG j X.A) (ha : PE X e ta) (hb : PE X o tb) (hj : k + 1 ≤ j := by first | decide | omega)
    (hsl : ∀ u i, subscripted o true u i = runValue (.builtin "lifetime.subscript" ⟨[u, i], []⟩) := by intro _ _; with_unfolding_all rfl) : PE X (.Subscript e o pos) (tOp (rGetI C sp) ta tb) := by
  obtain ⟨fd, F1, B⟩ := F.ex
  exact ix_own F1 (hr.mono hj) hm hn B ha hb hsl
end
end Fw

set_option maxHeartbeats 4000000
/-! More rules by data: chains, pairs, == of dicts, the stream. -/
namespace Fw
open PySem PySem.Spec PyProof.Rows L2
section
variable {K : PySem.W.Frag} {E : XK} {G : Gm} {O : OL} {ke : Xd → Prop} {kn : Gm → OL → Prop} {kr : D → Prop}
theorem dt_chain {r r' : R2} {f f' : F2} {ta tb tc : TE} {k : D → Prop} (hr : OpD K r f) (hr' : OpD K r' f')
    (h : DT K E ta G O (fun a => DT K E tb G O (fun b => f a b (fun d => ∃ t, d = .bl t ∧ (t = true → DT K E tc G O (fun c => f' b c k) ke) ∧ (t = false → k (.bl false)))) ke) ke) : DT K E (tChain r r' ta tb tc) G O k ke := fun S0 Os σ H Q st hq he =>
  h.bind st he fun x H1 a ha s1 st1 he1 rx => ha.bind st1 he1 fun y H2 b hb s2 st2 he2 ry =>
    hr _ H2 x y a b _ _ st2.domW (rx.same s2) ry hb fun z H3 d ⟨t, e, k1, k2⟩ s3 rz => by
      subst e; cases rz
      refine ⟨t, rfl, ?_⟩
      cases t with
      | true => exact iteT ((k1 rfl).bind (st2.same s3) (he2.same s3) fun w H4 c hc s4 st4 he4 rw' => hr' _ H4 y w b c Q k st4.domW (ry.same (s3.trans s4)) rw' hc fun v H5 d kd s5 r => hq v H5 d kd (((s1.trans s2).trans s3).trans (s4.trans s5)) r)
      | false => exact iteF (hq _ H3 _ (k2 rfl) ((s1.trans s2).trans s3) (.bl false))
theorem ds_par {i j : Nat} {ta : TA} (hi : ∀ o ∈ O, o.1 ≠ i) (hj : ∀ o ∈ O, o.1 ≠ j) (h : DA K E ta G O (fun ds => ∃ a b, ds = [a, b] ∧ kn ((G.set i (some a)).set j (some b)) O) ke) : DS K E (tPar i j ta) G O kn kr ke := fun S0 H0 Os σ H Ds f st hn hr he =>
  h.at_ f st he fun vs H1 ds ⟨a, b, e, kd⟩ s f1 st1 r => by
    subst e
    cases r with
    | cons ra t =>
      cases t with
      | cons rb t =>
        cases t
        exact ⟨_, _, rfl, hn _ O Os _ H1 kd (Chg.of_same s) ((st1.set ra hi).set rb hj)⟩
theorem ds_asgG {te : TE} {g : TG} {is : List Nat} (h : DT K E te G O (fun d => DG K g is d G O (fun G' => kn G' O)) ke) : DS K E (tAsg te g) G O kn kr ke := fun S0 H0 Os σ H Ds f st hn hr he =>
  h.at_ f st he fun v H1 d kd s f1 st1 r => kd S0 Os σ H1 v _ st1 r fun G' σ' k' st' _ _ => hn G' O Os σ' H1 k' (Chg.of_same s) st'
theorem ds_asgT {te : TE} {i j : Nat} (hi : ∀ o ∈ O, o.1 ≠ i) (hj : ∀ o ∈ O, o.1 ≠ j) (h : DT K E te G O (fun d => ∃ a b, d = .tup [a, b] ∧ kn ((G.set i (some a)).set j (some b)) O) ke) : DS K E (tAsg te (gTup K 2 (gCons (gName i) (gCons (gName j) gNil)))) G O kn kr ke :=
  ds_asgG (is := [i] ++ ([j] ++ [])) fun S0 Os σ H Q st hq he => h S0 Os σ H Q st (fun v H' d ⟨a, b, e, kd⟩ s r => hq v H' d (by
    subst e
    exact dg_tup rfl (dgs_cons (dg_name hi (dgs_cons (dg_name hj (dgs_nil kd)))))) s r) he
/-- a new empty list, to be filled -/
theorem ds_asgE {i : Nat} (hi : ∀ o ∈ O, o.1 ≠ i) (hl : i < G.length) (h : kn (G.set i none) ((i, .lst []) :: O)) : DS K E (tAsg (tLst tNil) (gName i)) G O kn kr ke :=
  ds_asgF hi hl (df_lst (da_nil ⟨Nat.zero_le _, h⟩))
/-- what holds between -/
theorem ds_cut {t : TS} (A : Gm → OL → Prop) (h : DS K E t G O A kr ke) (i : ∀ G1 O1, A G1 O1 → kn G1 O1) : DS K E t G O kn kr ke := h.imp i fun _ h => h
/-- both new -/
theorem ds_parF {i j : Nat} {ta tb : TE} (hij : i ≠ j) (hi : ∀ o ∈ O, o.1 ≠ i) (hj : ∀ o ∈ O, o.1 ≠ j) (hl : i < G.length) (hl2 : j < G.length)
    (h : DF K E ta G O (fun o1 => DF K E tb G O (fun o2 => kn ((G.set i none).set j none) ((j, o2) :: (i, o1) :: O)) ke) ke) : DS K E (tPar i j (tCons ta (tCons tb tNil))) G O kn kr ke := fun S0 H0 Os σ H Ds f st hn hr he =>
  h S0 Os σ H _ st (fun p H1 o1 k1 s1 np1 oa1 => by
    have st1 := st.same s1
    have hp1 : H1 p ≠ none := oa1.there
    let S0' : Addr → Prop := fun b => S0 b ∨ b = p
    have nW : ¬ W Os p := fun z => st.domW p (.inr z) np1
    have so : ∀ a, SO S0' Os a → SO S0 Os a ∨ a = p := fun a z => z.elim (fun z => z.elim (fun z => .inl (.inl z)) .inr) fun z => .inl (.inr z)
    have so2 : ∀ a, SO S0' Os a → SO S0 Os a ∨ H a = none := fun a z => (so a z).elim .inl fun e => .inr (by rw [e]; exact np1)
    have st1' : St1 K S0' G O Os σ H1 := by
      refine ⟨st1.os, st1.nd, fun a z => z.elim (st1.dom a) fun e => by rw [e]; exact hp1, fun a w z => z.elim (st1.ns a w) fun e => nW (by rw [← e]; exact w), st1.len, fun n e q => ?_, fun q hq => ?_⟩
      · obtain ⟨v, e1, r⟩ := st.re n e q
        exact ⟨v, e1, Rep.same (Rep.avoid so2 r) s1⟩
      · obtain ⟨h1, h2⟩ := st.own q hq
        refine ⟨h1, ?_⟩
        generalize q.2.2 = ow at h2 ⊢
        cases ow with
        | lst ds => obtain ⟨us, e, r⟩ := h2; exact ⟨us, s1 _ _ e, Reps.same (Reps.avoid so2 r) s1⟩
        | dic ds => obtain ⟨us, e, q, r⟩ := h2; exact ⟨us, s1 _ _ e, q, Reps.same (Reps.avoid so2 r) s1⟩
        | obj c ds => obtain ⟨dx, us, e, q, r⟩ := h2; exact ⟨dx, us, s1 _ _ e, q, Reps.same (Reps.avoid so2 r) s1⟩
        | slf _ c ds => obtain ⟨ea, dx, us, e, q, r⟩ := h2; exact ⟨ea, dx, us, s1 _ _ e, q, Reps.same (Reps.avoid so2 r) s1⟩
    have he1 : EOk K (SO S0' Os) H1 E ke := fun c d H2 x kx l r => (he.so f) c d H2 x kx (s1.trans l) (by
      obtain ⟨e, r⟩ := r
      refine ⟨e, ?_⟩
      cases q : x.arg with
      | none => rw [q] at r; exact r
      | some pr =>
        rw [q] at r
        obtain ⟨a, v, h1, h2, h3⟩ := r
        exact ⟨a, v, h1, h2, Rep.weak (fun a z => z.elim (fun z => .inl (.inl z)) .inr) h3⟩)
    refine k1 S0' Os σ H1 _ st1' (fun p2 H2 o2 k2 s2 np2 oa2 => ⟨_, _, rfl, ?_⟩) he1
    have A := st.own_new (i := i) s1 np1 oa1 hi hl
    have wp : ∀ a, W ((p, i, o1) :: Os) a ↔ a = p ∨ W Os a := fun a => by
      show a ∈ List.map _ _ ↔ _
      rw [List.map_cons, List.mem_cons]; exact Iff.rfl
    have oa2' : OwnAt K (fun b => SO S0 ((p, i, o1) :: Os) b ∨ b = p2) H2 p2 o2 := by
      have w1 : ∀ a, (SO S0 ((p, i, o1) :: Os) a ∨ a = p2) → (SO S0' Os a ∨ a = p2) := fun a z => z.imp (fun z => z.elim (fun z => .inl (.inl z)) fun z => ((wp a).mp z).elim (fun e => .inl (.inr e)) .inr) id
      cases o2 with
      | lst ds => obtain ⟨us, e, r⟩ := oa2; exact ⟨us, e, Reps.weak w1 r⟩
      | dic ds => obtain ⟨us, e, q, r⟩ := oa2; exact ⟨us, e, q, Reps.weak w1 r⟩
      | obj c ds => obtain ⟨dx, us, e, q, r⟩ := oa2; exact ⟨dx, us, e, q, Reps.weak w1 r⟩
      | slf _ c ds => obtain ⟨ea, dx, us, e, q, r⟩ := oa2; exact ⟨ea, dx, us, e, q, Reps.weak w1 r⟩
    have B := A.own_new (i := j) s2 np2 oa2' (fun o ho => by
      rcases List.mem_cons.mp ho with e | ho
      · rw [e]; exact hij
      · exact hj o ho) (by rw [List.length_set]; exact hl2)
    refine hn _ _ _ _ H2 k2 ⟨Same.sx (s1.trans s2), fun a z => ?_⟩ B
    have z' : a ∈ List.map _ _ := z
    rw [List.map_cons, List.map_cons, List.mem_cons, List.mem_cons] at z'
    rcases z' with z' | z' | z'
    · exact .inr (by rw [z']; exact s1.free np2)
    · exact .inr (by rw [z']; exact np1)
    · exact .inl z') (he.so f)
theorem ds_never {P : Prop} (h : False) : DS K E tNever G O kn kr ke := h.elim
theorem df_dnew {k : Ow → Prop} (h : k (.dic [])) : DF K E tDNewK G O k ke := fun S0 Os σ H Q st hq he => fun p np => hq p _ _ h (Same.put np) np ⟨[], upd_same, rfl, .nil⟩
/-- == of dicts of different sizes -/
def rEqDn : R2 := fun x y H Q => ∃ (a b : Addr) (ka kb : List (Key × V)), x = .ref a ∧ y = .ref b ∧ Rd H a (.dK ka) ∧ Rd H b (.dK kb) ∧ ka.length ≠ kb.length ∧ Q (.bl false) H
theorem opd_eqDn : OpD K rEqDn (fun a b k => ∃ ka kb, a = .dic ka ∧ b = .dic kb ∧ ka.length ≠ kb.length ∧ k (.bl false)) := by
  intro S H x y a b Q k dm rx ry ⟨ka, kb, e1, e2, l, q⟩ hq
  subst e1 e2
  cases rx with
  | dic n h e r =>
    cases ry with
    | dic n2 h2 e2 r2 => exact ⟨_, _, _, _, rfl, rfl, h, h2, by rw [len_pair e, len_pair e2]; exact l, hq _ H _ q (Same.refl H) (.bl _)⟩
end
theorem op_eqDn {X : Cx} {k : Nat} (hr : RoomG k X.A) : OpR X (compareOp .Eq) rEqDn := by
  intro pins s σ H x y v u Q I rx ry ⟨a, b, ka, kb, e1, e2, ha, hb, hl, q⟩
  subst e1 e2; cases rx; cases ry
  obtain ⟨_, sa, va, kva, da⟩ := dk_rd I.hok ha
  obtain ⟨_, sb, vb, kvb, db⟩ := dk_rd I.hok hb
  have la : ka.length = va.length := Paired.length kva
  have lb : kb.length = vb.length := Paired.length kvb
  refine PySem.W.rcP_dicts (r := false) sa sb da db hr.rm.units0 (fun z => absurd (by rw [la, lb]; exact z) hl) X.xe (EP X pins σ Q) ?_
  exact ⟨.bl false, H, I, by rw [Bool.and_false]; exact rfl, q⟩

section
variable {X : Cx} {k : Nat} {o i : Expr} {td ty : TE} {pos : Pos}
theorem q_dget (hr : RoomG k X.A) (ho : PE X o td) (hi : PE X i ty) (hs : NoSl i) : PE X (.Subscript o i pos) (tDGet td ty) := pe_dget (hu_of hr.rm) ho hi hs
theorem q_din (hr : RoomG k X.A) (hi : PE X i ty) (ho : PE X o td) : PC X .In i o (tDIn ty td) := pc_din (hu_of hr.rm) hi ho
theorem q_dnotin (hr : RoomG k X.A) (hi : PE X i ty) (ho : PE X o td) : PC X .NotIn i o (tDNotIn ty td) := pc_dnotin (hu_of hr.rm) hi ho
theorem q_eqD (hr : RoomG k X.A) : OpR X (compareOp .Eq) (rEqD X.K) := op_eqD hr.rm.units
theorem q_neD (hr : RoomG k X.A) : OpR X (compareOp .NotEq) (rNeD X.K) := op_neD hr.rm.units
end
section
variable {K : PySem.W.Frag}
theorem und_neg : UnD K (rU fun i => .int (-i)) (fun a k => ∃ i, a = .int i ∧ k (.int (-i))) := by
  intro S H x a Q k dm rx ⟨i, e, q⟩ hq
  subst e; cases rx
  exact ⟨i, rfl, hq _ H _ q (Same.refl H) (.int _)⟩
/-- what has a length -/
inductive LenD : List D → Nat → Prop where
  | lst (xs : List D) : LenD [.lst xs] xs.length
  | tup (xs : List D) : LenD [.tup xs] xs.length
  | str (z : Str) (h : z.length ≤ sizeLine) : LenD [.str z] z.length
  | scr (ns : List Int) : LenD [.scr ns] ns.length
theorem cad_lenA : CaD K (rLenB K) (fun ds k => ∃ n : Nat, LenD ds n ∧ k (.int (n : Nat))) := by
  intro S H xs ds Q k dm rx ⟨n, h, q⟩ hq
  cases h with
  | lst ys => exact cad_len S H xs _ Q k dm rx ⟨_, rfl, .inl ⟨_, rfl, q⟩⟩ hq
  | tup ys => exact cad_len S H xs _ Q k dm rx ⟨_, rfl, .inr (.inl ⟨_, rfl, q⟩)⟩ hq
  | str z h => exact cad_len S H xs _ Q k dm rx ⟨_, rfl, .inr (.inr ⟨_, rfl, h, q⟩)⟩ hq
  | scr ns => exact cad_lenS S H xs _ Q k dm rx ⟨_, rfl, q⟩ hq
end
/-! the same, the written part told by name (a comprehension's block asks it) -/
section
variable {X : Cx} {k : Nat} {e o i : Expr} {ta td ty : TE} {pos : Pos} {f : Str} (K : PySem.W.Frag)
theorem z_fld (he : PE X e ta) (hK : X.K = K := by rfl) (hb : attributeBase e f X.env (eval e X.env) = eval e X.env := by rfl) : PE X (.Attribute e f pos) (tFld K ta f) := by subst hK; exact pe_fld he hb
theorem z_ixL (hK : X.K = K := by rfl) : IxR X (rIxL K) := by subst hK; exact ix_list
theorem z_ixT (hK : X.K = K := by rfl) : IxR X (rIxT K) := by subst hK; exact ix_tup
theorem z_in (hK : X.K = K := by rfl) : OpR X (compareOp .In) (rIn K false) := by subst hK; exact op_in_seq
theorem z_nin (hK : X.K = K := by rfl) : OpR X (compareOp .NotIn) (rIn K true) := by subst hK; exact op_notIn_seq
theorem z_eqD (hr : RoomG k X.A) (hK : X.K = K := by rfl) : OpR X (compareOp .Eq) (rEqD K) := by subst hK; exact q_eqD hr
theorem z_neD (hr : RoomG k X.A) (hK : X.K = K := by rfl) : OpR X (compareOp .NotEq) (rNeD K) := by subst hK; exact q_neD hr
theorem z_len (hK : X.K = K := by rfl) : CallR X (.builtin "len") (rLenB K) := by subst hK; exact call_len
theorem z_isi (hK : X.K = K := by rfl) : CallR X (.builtin "isinstance") (rIsi K) := by subst hK; exact call_isi
theorem z_all (hc : X.calm = true) (hK : X.K = K := by rfl) : CallR X (.builtin "all") (rAll K) := by subst hK; exact cr_all hc
theorem z_any (hc : X.calm = true) (hK : X.K = K := by rfl) : CallR X (.builtin "any") (rAny K) := by subst hK; exact cr_any hc
theorem z_sum (hc : X.calm = true) (hK : X.K = K := by rfl) : CallR X (.builtin "sum") (rSum K) := by subst hK; exact cr_sum hc
theorem z_sortedS (hK : X.K = K := by rfl) : CallR X (.builtin "sorted") (rSortedS K) := by subst hK; exact cr_sortedS
theorem z_listof (hK : X.K = K := by rfl) : CallR X (.type "list") (fun xs H Q => ∃ p ys, xs = [.ref p] ∧ (SqL K H p ys ∨ SqT K H p ys) ∧ ∀ l, H l = none → Q (.ref l) (upd H l (.lst ys))) := by subst hK; exact call_list_of
theorem z_dictP (hc : X.calm = true) (hK : X.K = K := by rfl) : CallR X (.type "dict") (fun xs H Q => ∃ (a : Addr) (ps : List Addr) (kvs : List (Key × V)), xs = [.ref a] ∧ SqL K H a (ps.map V.ref) ∧ Paired (fun p kv => SqT K H p [kV kv.1, kv.2]) ps kvs ∧ ∀ p, H p = none → Q (.ref p) (upd H p (.dK (mergeK [] kvs)))) := by subst hK; exact call_dictP hc
theorem z_slL (hK : X.K = K := by rfl) : SlR X (rSlL K) := by subst hK; exact sl_list
theorem z_plist {tg : Expr} (hl : PE X e ta) (hK : X.K = K := by rfl) : PI X tg e (iList K ta) := by subst hK; exact pi_list hl
end
theorem q_tup {X : Cx} {pos : Pos} {es : List Expr} {k : Nat} {t : TGs} {n : Nat} (K : PySem.W.Frag) (hK : X.K = K) (hc : X.calm = true) (h : PGs X es t)
    (hn : (assignEach es X.env).length = n := by rfl) (hst : (assignEach es X.env).findIdx? (·.1) = none := by rfl) : PG X (.Tuple es k pos) (gTup K n t) := by
  subst hK; exact pg_tup hc h hn hst
/-! ### the stream -/
section
variable {X : Cx} {pins : List (Addr × Obj)} {σ : L2.St} {H : Hp} {s : Shared} {p : Addr}
theorem Inv.stm {i j : Int} (I : Inv X pins σ H s) (h : H p = some (.lst [.int i, .int j])) (hb : StmB i j) : Inv X pins σ (upd H p (stmO p)) s := by
  obtain ⟨_, its, n, r, hg⟩ := I.hok p _ h
  cases r with
  | cons h1 t =>
    cases t with
    | cons h2 t =>
      cases t
      obtain ⟨t1, rfl⟩ := h1
      obtain ⟨t2, rfl⟩ := h2
      refine I.write (x := p) (e := p) (t' := s.toks) (h' := s.heap) (by rw [h]; trivial) (.inl rfl) (fun b v _ q => q) ⟨_, hg⟩ ?_
      exact ⟨⟨i, j, _, _, n, hb, hg⟩, ⟨_, hg⟩, fun h1 h2 ⟨i, j, t, u, n, hb, e⟩ k => ⟨i, j, t, u, n, hb, k _ e⟩⟩
theorem Inv.unstm (I : Inv X pins σ H s) (h : H p = some (stmO p)) : ∃ i j, StmB i j ∧ Inv X pins σ (upd H p (.lst [.int i, .int j])) s := by
  obtain ⟨⟨i, j, t, u, n, hb, hg⟩, _, _⟩ := I.hok p _ h
  exact ⟨i, j, hb, I.write (x := p) (e := p) (t' := s.toks) (h' := s.heap) (by rw [h]; trivial) (.inl rfl) (fun b v _ q => q) ⟨_, hg⟩ ⟨by show (2 : Nat) ≤ sizeLine; decide, [.int i t, .int j u], n, .cons ⟨t, rfl⟩ (.cons ⟨u, rfl⟩ .nil), hg⟩⟩
/-- a new pair of ints is a stream from now on -/
def tStm (t : TE) : TE := fun σ H Q => t σ H fun x H1 => ∃ p i j, x = .ref p ∧ H1 p = some (.lst [.int i, .int j]) ∧ StmB i j ∧ Q x (upd H1 p (stmO p))
theorem pe_stm {e : Expr} {t : TE} (h : PE X e t) : PE X e (tStm t) := by
  refine ⟨fun pins s σ H Q I q => ?_⟩
  refine thn (h.run pins s σ H _ I q) fun v s1 ⟨x, H1, I1, r1, p, i, j, e, hp, hb, k⟩ => ?_
  exact ⟨x, _, Inv.stm I1 hp hb, r1, k⟩
/-- a def over the stream in slot 0, opened -/
def tOpenS (t : TS) : TS := fun D σ H => ∃ p, σ[0]? = some (some (.ref p)) ∧ H p = some (stmO p) ∧ ∀ i j, StmB i j →
  t { nx := fun _ _ => False, rt := fun v H' => ∃ i' j', StmB i' j' ∧ H' p = some (.lst [.int i', .int j']) ∧ D.rt v (upd H' p (stmO p)) } σ (upd H p (.lst [.int i, .int j]))
theorem pss_openS {st : List Stmt} {t : TS} (h : PSs X st t) : PSs X st (tOpenS t) := by
  refine ⟨fun pins s σ H D I ⟨p, hs, hp, k⟩ => ?_⟩
  obtain ⟨i, j, hb, I2⟩ := Inv.unstm I hp
  refine thn (h.run pins s σ _ _ I2 (k i j hb)) fun f s1 q => ?_
  cases f with
  | next => obtain ⟨σ', H', I2, z⟩ := q; exact z.elim
  | brk => obtain ⟨σ', H', I2, z⟩ := q; exact z.elim
  | cont => obtain ⟨σ', H', I2, z⟩ := q; exact z.elim
  | ret v => obtain ⟨x, σ', H', I2, r, i', j', hb', hp', z⟩ := q; exact ⟨x, σ', _, Inv.stm I2 hp' hb', r, z⟩
end
section
variable {K : PySem.W.Frag} {E : XK} {G : Gm} {O : OL} {ke : Xd → Prop}
theorem dt_stm {t : TE} {k : D → Prop} (h : DF K E t G O (fun o => ∃ i j, o = .lst [.int i, .int j] ∧ StmB i j ∧ k .stm) ke) : DT K E (tStm t) G O k ke := fun S0 Os σ H Q st hq he =>
  h S0 Os σ H _ st (fun p H1 o ⟨i, j, e, hb, kd⟩ s1 np oa => by
    subst e
    obtain ⟨vs, hp, r⟩ := oa
    cases r with
    | cons h1 t1 =>
      cases t1 with
      | cons h2 t2 =>
        cases t2
        cases h1; cases h2
        refine ⟨p, i, j, rfl, hp, hb, hq _ _ _ kd (fun a u e => ?_) (.stm (fun z => st.domW p z np) upd_same)⟩
        rw [upd_ne fun z => by rw [z, np] at e; cases e]
        exact s1 a u e) he
end
end Fw

set_option maxHeartbeats 4000000
/-! The program's data: names, sorted lists, committees, rankings, turns, games. -/
namespace Fw
open PySem PySem.Spec PyProof.Rows L2
def LET : Str := "abcdefghijklmnopqrstuvwxyz"
def isName (s : Str) : Bool := (decide ((1 : Int) ≤ (s.length : Nat)) && decide (((s.length : Nat) : Int) ≤ 8)) && s.cps.toList.all fun c => decide (c ∈ LET.cps.toList)
theorem isName_len {s : Str} (h : isName s = true) : s.length ≤ 8 := by
  unfold isName at h
  simp only [Bool.and_eq_true, decide_eq_true_eq] at h
  omega
theorem lt_conn : ∀ {a b : List Nat}, ltCps a b = false → ltCps b a = false → a = b
  | [], [], _, _ => rfl
  | [], _ :: _, h, _ => by simp [ltCps] at h
  | _ :: _, [], _, h => by simp [ltCps] at h
  | x :: r, y :: t, h1, h2 => by
    simp only [ltCps, Bool.or_eq_false_iff, Bool.and_eq_false_iff, decide_eq_false_iff_not, beq_eq_false_iff_ne, ne_eq] at h1 h2
    have e : x = y := by omega
    subst e
    obtain ⟨_, h1⟩ := h1
    obtain ⟨_, h2⟩ := h2
    rw [lt_conn (h1.resolve_left fun z => z rfl) (h2.resolve_left fun z => z rfl)]
theorem le_trans : ∀ {a b c : List Nat}, ltCps b a = false → ltCps c b = false → ltCps c a = false
  | [], _, [], _, _ => rfl
  | [], _, _ :: _, _, _ => rfl
  | _ :: _, [], _, h, _ => by simp [ltCps] at h
  | _ :: _, _ :: _, [], _, h => by simp [ltCps] at h
  | x :: r, y :: t, z :: u, h1, h2 => by
    simp only [ltCps, Bool.or_eq_false_iff, Bool.and_eq_false_iff, decide_eq_false_iff_not, beq_eq_false_iff_ne, ne_eq] at h1 h2 ⊢
    refine ⟨by omega, ?_⟩
    by_cases e : z = x
    · right
      have e1 : y = x := by omega
      subst e e1
      exact le_trans (h1.2.resolve_left fun z => z rfl) (h2.2.resolve_left fun z => z rfl)
    · exact .inl e
def leS (a b : Str) : Prop := ltCps b.cps.toList a.cps.toList = false
theorem rising_pw : ∀ {p : Str} {l : List Str}, risingS p l = true → (p :: l).Pairwise leS
  | p, [], _ => by simp
  | p, x :: r, h => by
    have h' : (!ltCps x.cps.toList p.cps.toList && risingS x r) = true := h
    rw [Bool.and_eq_true, Bool.not_eq_true'] at h'
    have ih := rising_pw h'.2
    refine List.pairwise_cons.mpr ⟨fun y hy => ?_, ih⟩
    rcases List.mem_cons.mp hy with e | hy
    · subst e; exact h'.1
    · exact le_trans h'.1 ((List.pairwise_cons.mp ih).1 y hy)
theorem sorted_pw : ∀ {l : List Str}, sortedS l = true → l.Pairwise leS
  | [], _ => .nil
  | x :: r, h => rising_pw h
theorem leS_anti {a b : Str} (h1 : leS a b) (h2 : leS b a) : a = b := by
  have e := lt_conn h2 h1
  cases a; cases b
  congr 1
  exact Array.toList_inj.mp e
def SortedOf (ss ys : List Str) : Prop := ys.Nodup ∧ (∀ x, x ∈ ys ↔ x ∈ ss) ∧ sortedS ys = true
theorem SortedOf.uniq {ss ys zs : List Str} (h1 : SortedOf ss ys) (h2 : SortedOf ss zs) : ys = zs := by
  have p : ys.Perm zs := (List.perm_ext_iff_of_nodup h1.1 h2.1).mpr fun x => (h1.2.1 x).trans (h2.2.1 x).symm
  exact p.eq_of_pairwise (fun _ _ _ _ => leS_anti) (sorted_pw h1.2.2) (sorted_pw h2.2.2)
/-- the names, each once, sorted -/
noncomputable def srt (ss : List Str) : List Str := open Classical in if h : ∃ ys, SortedOf ss ys then h.choose else []
theorem srt_eq {ss ys : List Str} (h : SortedOf ss ys) : srt ss = ys := by
  unfold srt
  rw [dif_pos ⟨ys, h⟩]
  exact SortedOf.uniq (Exists.choose_spec (⟨ys, h⟩ : ∃ ys, SortedOf ss ys)) h
/-- there is always one -/
def insS (x : Str) : List Str → List Str
  | [] => [x]
  | y :: r => if ltCps y.cps.toList x.cps.toList then y :: insS x r else x :: y :: r
theorem lt_asymm : ∀ {a b : List Nat}, ltCps a b = true → ltCps b a = false
  | [], [], h => rfl
  | [], _ :: _, _ => rfl
  | _ :: _, [], h => by simp [ltCps] at h
  | x :: r, y :: t, h => by
    simp only [ltCps, Bool.or_eq_true, Bool.and_eq_true, decide_eq_true_eq, beq_iff_eq] at h
    simp only [ltCps, Bool.or_eq_false_iff, Bool.and_eq_false_iff, decide_eq_false_iff_not, beq_eq_false_iff_ne, ne_eq]
    rcases h with h | ⟨e, h⟩
    · exact ⟨by omega, .inl (by omega)⟩
    · exact ⟨by omega, .inr (lt_asymm h)⟩
theorem insS_mem {x y : Str} : ∀ {l : List Str}, y ∈ insS x l ↔ y = x ∨ y ∈ l
  | [] => by simp [insS]
  | z :: r => by
    unfold insS
    split
    · rw [List.mem_cons, insS_mem, List.mem_cons]
      constructor
      · rintro (h | h | h)
        · exact .inr (.inl h)
        · exact .inl h
        · exact .inr (.inr h)
      · rintro (h | h | h)
        · exact .inr (.inl h)
        · exact .inl h
        · exact .inr (.inr h)
    · rw [List.mem_cons]
theorem insS_pw {x : Str} : ∀ {l : List Str}, l.Pairwise leS → (insS x l).Pairwise leS
  | [], _ => by simp [insS]
  | z :: r, h => by
    have h2 := List.pairwise_cons.mp h
    unfold insS
    split
    · rename_i hz
      refine List.pairwise_cons.mpr ⟨fun y hy => ?_, insS_pw h2.2⟩
      rcases insS_mem.mp hy with e | hy
      · subst e; exact lt_asymm hz
      · exact h2.1 y hy
    · rename_i hz
      have hz' : leS x z := by
        unfold leS
        cases q : ltCps z.cps.toList x.cps.toList with
        | true => exact absurd q hz
        | false => rfl
      refine List.pairwise_cons.mpr ⟨fun y hy => ?_, h⟩
      rcases List.mem_cons.mp hy with e | hy
      · subst e; exact hz'
      · exact le_trans hz' (h2.1 y hy)
theorem insS_nodup {x : Str} : ∀ {l : List Str}, l.Nodup → x ∉ l → (insS x l).Nodup
  | [], _, _ => by simp [insS]
  | z :: r, h, hx => by
    have h2 := List.nodup_cons.mp h
    unfold insS
    split
    · refine List.nodup_cons.mpr ⟨fun y => ?_, insS_nodup h2.2 fun y => hx (List.mem_cons_of_mem _ y)⟩
      rcases insS_mem.mp y with e | y
      · exact hx (by rw [e]; exact List.mem_cons_self)
      · exact h2.1 y
    · exact List.nodup_cons.mpr ⟨hx, h⟩
theorem srt_ex : ∀ ss : List Str, ∃ ys, SortedOf ss ys
  | [] => ⟨[], .nil, fun x => Iff.rfl, rfl⟩
  | s :: r => by
    obtain ⟨ys, h1, h2, h3⟩ := srt_ex r
    by_cases hs : s ∈ r
    · exact ⟨ys, h1, fun x => by rw [h2, List.mem_cons]; exact ⟨.inr, fun h => h.elim (fun e => e ▸ hs) id⟩, h3⟩
    · refine ⟨insS s ys, insS_nodup h1 fun z => hs ((h2 s).mp z), fun x => by rw [insS_mem, h2, List.mem_cons], ?_⟩
      exact sortedS_of_pairwise _ (insS_pw (sorted_pw h3))
theorem srt_ok (ss : List Str) : SortedOf ss (srt ss) := by
  obtain ⟨ys, h⟩ := srt_ex ss
  rw [srt_eq h]; exact h
theorem srt_mem {ss : List Str} {x : Str} : x ∈ srt ss ↔ x ∈ ss := (srt_ok ss).2.1 x
theorem srt_nodup (ss : List Str) : (srt ss).Nodup := (srt_ok ss).1
theorem srt_sorted (ss : List Str) : sortedS (srt ss) = true := (srt_ok ss).2.2
theorem srt_congr {ss ts : List Str} (h : ∀ x, x ∈ ss ↔ x ∈ ts) : srt ss = srt ts := srt_eq ⟨srt_nodup ts, fun x => srt_mem.trans (h x).symm, srt_sorted ts⟩
theorem srt_perm {ss : List Str} (h : ss.Nodup) : (srt ss).Perm ss := (List.perm_ext_iff_of_nodup (srt_nodup ss) h).mpr fun x => srt_mem
theorem srt_len {ss : List Str} (h : ss.Nodup) : (srt ss).length = ss.length := (srt_perm h).length_eq
theorem srt_srt (ss : List Str) : srt (srt ss) = srt ss := srt_congr fun x => srt_mem
theorem nodup_le : ∀ {xs ys : List Str}, xs.Nodup → (∀ x ∈ xs, x ∈ ys) → xs.length ≤ ys.length
  | [], _, _, _ => Nat.zero_le _
  | x :: xs, ys, h, s => by
    have h2 := List.nodup_cons.mp h
    have hx : x ∈ ys := s x List.mem_cons_self
    have ih := nodup_le (ys := ys.erase x) h2.2 fun y hy => by
      have ne : y ≠ x := fun e => h2.1 (e ▸ hy)
      exact (List.mem_erase_of_ne ne).mpr (s y (List.mem_cons_of_mem _ hy))
    rw [List.length_erase_of_mem hx] at ih
    have : 0 < ys.length := List.length_pos_of_mem hx
    rw [List.length_cons]; omega
theorem srt_le (ss : List Str) : (srt ss).length ≤ ss.length := nodup_le (srt_nodup ss) fun x hx => srt_mem.mp hx
/-! ### objects -/
abbrev sl (ss : List Str) : D := .lst (ss.map D.str)
noncomputable def cmt (ss : List Str) : D := .obj "Committee" [("own_members", sl (srt ss))]
/-- the places of a ranking -/
def plc (ss : List Str) : List (Key × D) := ss.zipIdx.map fun p => ((.inr p.1 : Key), D.int (p.2 : Nat))
def rk (ss : List Str) : D := .obj "Ranking" [("order", sl ss), ("places", .dic (plc ss))]
def tn (ss : List Str) : D := .obj "Turns" [("order", sl ss)]
def rks (rs : List (Str × List Str)) : List (Key × D) := rs.map fun p => ((.inr p.1 : Key), rk p.2)
def gm (rs : List (Str × List Str)) (ts : List Str) : D := .obj "Game" [("own_rankings", .dic (rks rs)), ("own_turns", tn ts)]
/-- lists of names that are allowed -/
structure Nm (ss : List Str) : Prop where
  name : ∀ s ∈ ss, isName s = true
  len : ss.length ≤ 30
/-! ### comprehensions over a list of data of one kind -/
def RM {α : Type} (g f : α → D) : D → Option D → Prop := fun x o => ∀ a, x = g a → o = some (f a)
def RF {α : Type} (g : α → D) (p : α → Bool) (f : α → D) : D → Option D → Prop := fun x o => ∀ a, x = g a → o = if p a then some (f a) else none
theorem LcR.mapOf {α : Type} {g f : α → D} : ∀ {as : List α} {ys : List D}, LcR (RM g f) (as.map g) ys → ys = as.map f
  | [], _, .nil => rfl
  | a :: as, _, .keep r t => by
    have e := r a rfl
    cases e
    rw [LcR.mapOf t]; rfl
  | a :: as, _, .skip r t => by cases r a rfl
theorem LcR.filterOf {α : Type} {g f : α → D} {p : α → Bool} : ∀ {as : List α} {ys : List D}, LcR (RF g p f) (as.map g) ys → ys = (as.filter p).map f
  | [], _, .nil => rfl
  | a :: as, _, .keep r t => by
    have e := r a rfl
    cases hp : p a with
    | false => rw [hp] at e; cases e
    | true =>
      rw [hp] at e; cases e
      rw [LcR.filterOf t, List.filter_cons_of_pos hp]; rfl
  | a :: as, _, .skip r t => by
    have e := r a rfl
    cases hp : p a with
    | true => rw [hp] at e; cases e
    | false => rw [LcR.filterOf t, List.filter_cons_of_neg (by rw [hp]; exact Bool.false_ne_true)]
theorem all_id {α : Type} {p : α → Bool} {as : List α} : (as.map p).all id = as.all p := by rw [List.all_map]; rfl
theorem sizeL : (1000000 : Nat) < sizeLine := by decide
end Fw

set_option maxHeartbeats 4000000
/-! Comprehensions that map and filter; dicts by their keys. -/
namespace Fw
open PySem PySem.Spec PyProof.Rows L2
section
variable {K : PySem.W.Frag} {E : XK} {G : Gm} {O : OL} {ke : Xd → Prop}
theorem DG.imp {g : TG} {is : List Nat} {d : D} {k k' : Gm → Prop} (h : DG K g is d G O k) (i : ∀ G, k G → k' G) : DG K g is d G O k' := fun S0 Os σ H v Q st r hq => h S0 Os σ H v Q st r fun G' σ' k1 => hq G' σ' (i _ k1)
theorem DTT.imp {t : TT} {k k' : Bool → Prop} (h : DTT K E t G O k ke) (i : ∀ b, k b → k' b) : DTT K E t G O k' ke := fun S0 Os σ H Q st hq he => h S0 Os σ H Q st (fun b H' kb => hq b H' (i b kb)) he
theorem LcT.imp {g : TG} {is : List Nat} {tt : TT} {te : TE} {R R' : D → Option D → Prop} {x : D} (h : LcT K E g is tt te G O R x) (i : ∀ o, R x o → R' x o) : LcT K E g is tt te G O R' x :=
  DG.imp h fun G1 h1 => DTT.imp h1 fun b ⟨h2, h3⟩ => ⟨fun e => (h2 e).imp fun d => i _, fun e => i _ (h3 e)⟩
theorem DcT.imp {g : TG} {is : List Nat} {tt : TT} {tk te : TE} {R R' : D → Option (Key × D) → Prop} {x : D} (h : DcT K E g is tt tk te G O R x) (i : ∀ o, R x o → R' x o) : DcT K E g is tt tk te G O R' x :=
  DG.imp h fun G1 h1 => DTT.imp h1 fun b ⟨h2, h3⟩ => ⟨fun e => (h2 e).imp fun d hd => hd.imp fun z ⟨k, e, r⟩ => ⟨k, e, i _ r⟩, fun e => i _ (h3 e)⟩
theorem lct {g : TG} {is : List Nat} {tt : TT} {te : TE} {R : D → Option D → Prop} {x : D} (h : DG K g is x G O fun G1 => DTT K E tt G1 O (fun b => (b = true → DT K E te G1 O (fun y => R x (some y)) F0) ∧ (b = false → R x none)) F0) : LcT K E g is tt te G O R x := h
theorem dct {g : TG} {is : List Nat} {tt : TT} {tk te : TE} {R : D → Option (Key × D) → Prop} {x : D} (h : DG K g is x G O fun G1 => DTT K E tt G1 O (fun b => (b = true → DT K E tk G1 O (fun y => DT K E te G1 O (fun z => ∃ k, y = kD k ∧ R x (some (k, z))) F0) F0) ∧ (b = false → R x none)) F0) : DcT K E g is tt tk te G O R x := h
variable {α : Type} {wi : TI} {gt : TG} {tt : TT} {te tk : TE} {vs : List Nat} {k : Ow → Prop}
theorem df_lcM (is : List Nat) (g f : α → D) (inj : ∀ a b, g a = g b → f a = f b) (hs : ∀ i ∈ is, i ∈ vs) (hv : ∀ o ∈ O, o.1 ∉ vs)
    (h : DI K E wi G O (fun xs => ∃ as : List α, xs = as.map g ∧ as.length < sizeLine ∧ (∀ a ∈ as, LcT K E gt is tt te (wipeG G vs) O (fun _ o => o = some (f a)) (g a)) ∧ k (.lst (as.map f))) ke) : DF K E (tLc wi gt tt te vs) G O k ke :=
  df_lc is (RM g f) hs hv fun S0 Os σ H R st hR he => h S0 Os σ H R st (fun J H1 xs ⟨as, e, hl, ht, hk⟩ s wk => hR J H1 xs (by
    subst e
    refine ⟨by rw [List.length_map]; exact hl, fun x hx => ?_, fun ys r => by rw [r.mapOf]; exact hk⟩
    obtain ⟨a, ha, rfl⟩ := List.mem_map.mp hx
    exact (ht a ha).imp fun o e a' e' => by rw [e, inj _ _ e']) s wk) he
theorem df_lcF (is : List Nat) (g : α → D) (p : α → Bool) (f : α → D) (inj : ∀ a b, g a = g b → p a = p b ∧ f a = f b) (hs : ∀ i ∈ is, i ∈ vs) (hv : ∀ o ∈ O, o.1 ∉ vs)
    (h : DI K E wi G O (fun xs => ∃ as : List α, xs = as.map g ∧ as.length < sizeLine ∧ (∀ a ∈ as, LcT K E gt is tt te (wipeG G vs) O (fun _ o => o = if p a then some (f a) else none) (g a)) ∧ k (.lst ((as.filter p).map f))) ke) : DF K E (tLc wi gt tt te vs) G O k ke :=
  df_lc is (RF g p f) hs hv fun S0 Os σ H R st hR he => h S0 Os σ H R st (fun J H1 xs ⟨as, e, hl, ht, hk⟩ s wk => hR J H1 xs (by
    subst e
    refine ⟨by rw [List.length_map]; exact hl, fun x hx => ?_, fun ys r => by rw [r.filterOf]; exact hk⟩
    obtain ⟨a, ha, rfl⟩ := List.mem_map.mp hx
    exact (ht a ha).imp fun o e a' e' => by rw [e, (inj _ _ e').1, (inj _ _ e').2]) s wk) he
theorem df_lcLM (is : List Nat) (g f : α → D) (inj : ∀ a b, g a = g b → f a = f b) (hs : ∀ i ∈ is, i ∈ vs) (hv : ∀ o ∈ O, o.1 ∉ vs)
    (h : DIL K E wi G O (fun xs => ∃ as : List α, xs = as.map g ∧ as.length < sizeLine ∧ (∀ a ∈ as, LcT K E gt is tt te (wipeG G vs) O (fun _ o => o = some (f a)) (g a)) ∧ k (.lst (as.map f))) ke) : DF K E (tUnlE (tLc wi gt tt te vs)) G O k ke :=
  df_lcL is (RM g f) hs hv fun S0 Os σ H R st hR he => h S0 Os σ H R st (fun J Hm H1 xs ⟨as, e, hl, ht, hk⟩ s lk wk => hR J Hm H1 xs (by
    subst e
    refine ⟨by rw [List.length_map]; exact hl, fun x hx => ?_, fun ys r => by rw [r.mapOf]; exact hk⟩
    obtain ⟨a, ha, rfl⟩ := List.mem_map.mp hx
    exact (ht a ha).imp fun o e a' e' => by rw [e, inj _ _ e']) s lk wk) he
theorem df_lcLF (is : List Nat) (g : α → D) (p : α → Bool) (f : α → D) (inj : ∀ a b, g a = g b → p a = p b ∧ f a = f b) (hs : ∀ i ∈ is, i ∈ vs) (hv : ∀ o ∈ O, o.1 ∉ vs)
    (h : DIL K E wi G O (fun xs => ∃ as : List α, xs = as.map g ∧ as.length < sizeLine ∧ (∀ a ∈ as, LcT K E gt is tt te (wipeG G vs) O (fun _ o => o = if p a then some (f a) else none) (g a)) ∧ k (.lst ((as.filter p).map f))) ke) : DF K E (tUnlE (tLc wi gt tt te vs)) G O k ke :=
  df_lcL is (RF g p f) hs hv fun S0 Os σ H R st hR he => h S0 Os σ H R st (fun J Hm H1 xs ⟨as, e, hl, ht, hk⟩ s lk wk => hR J Hm H1 xs (by
    subst e
    refine ⟨by rw [List.length_map]; exact hl, fun x hx => ?_, fun ys r => by rw [r.filterOf]; exact hk⟩
    obtain ⟨a, ha, rfl⟩ := List.mem_map.mp hx
    exact (ht a ha).imp fun o e a' e' => by rw [e, (inj _ _ e').1, (inj _ _ e').2]) s lk wk) he
theorem DcR.mapOf {g : α → D} {h : α → Key × D} {xs : List D} {ys : List (Key × D)} (r : DcR (fun x o => ∀ a, x = g a → o = some (h a)) xs ys) : ∀ {as : List α}, xs = as.map g → ys = mergeD [] (as.map h) := by
  induction r with
  | nil =>
    intro as e
    cases as with
    | nil => rfl
    | cons _ _ => cases e
  | keep q r ih =>
    intro as e
    obtain ⟨bs, cs, rfl, e1, e2⟩ := List.map_eq_append_iff.mp e.symm
    cases cs with
    | nil => cases e2
    | cons c cs =>
      cases cs with
      | cons _ _ => cases e2
      | nil =>
        have ec : g c = _ := (List.cons.inj e2).1
        have eo := r c ec.symm
        injection eo with eo
        rw [ih e1.symm, List.map_append]
        unfold mergeD
        rw [List.foldl_append]
        show _ = putD _ (h c).1 (h c).2
        rw [← eo]
  | skip q r ih =>
    intro as e
    obtain ⟨bs, cs, rfl, e1, e2⟩ := List.map_eq_append_iff.mp e.symm
    cases cs with
    | nil => cases e2
    | cons c cs =>
      have ec : g c = _ := (List.cons.inj e2).1
      have eo := r c ec.symm
      cases eo
theorem df_dcM (is : List Nat) (g : α → D) (f : α → Key × D) (inj : ∀ a b, g a = g b → f a = f b) (hs : ∀ i ∈ is, i ∈ vs) (hv : ∀ o ∈ O, o.1 ∉ vs)
    (h : DI K E wi G O (fun xs => ∃ as : List α, xs = as.map g ∧ as.length < sizeLine ∧ (∀ a ∈ as, DcT K E gt is tt tk te (wipeG G vs) O (fun _ o => o = some (f a)) (g a)) ∧ k (.dic (mergeD [] (as.map f)))) ke) : DF K E (tDc wi gt tt tk te vs) G O k ke :=
  df_dc is (fun x o => ∀ a, x = g a → o = some (f a)) hs hv fun S0 Os σ H R st hR he => h S0 Os σ H R st (fun J H1 xs ⟨as, e, hl, ht, hk⟩ s wk => hR J H1 xs (by
    subst e
    refine ⟨by rw [List.length_map]; exact hl, fun x hx => ?_, fun ys r => by rw [r.mapOf rfl]; exact hk⟩
    obtain ⟨a, ha, rfl⟩ := List.mem_map.mp hx
    exact (ht a ha).imp fun o e a' e' => by rw [e, inj _ _ e']) s wk) he
theorem df_dcLM (is : List Nat) (g : α → D) (f : α → Key × D) (inj : ∀ a b, g a = g b → f a = f b) (hs : ∀ i ∈ is, i ∈ vs) (hv : ∀ o ∈ O, o.1 ∉ vs)
    (h : DIL K E wi G O (fun xs => ∃ as : List α, xs = as.map g ∧ as.length < sizeLine ∧ (∀ a ∈ as, DcT K E gt is tt tk te (wipeG G vs) O (fun _ o => o = some (f a)) (g a)) ∧ k (.dic (mergeD [] (as.map f)))) ke) : DF K E (tUnlE (tDc wi gt tt tk te vs)) G O k ke :=
  df_dcL is (fun x o => ∀ a, x = g a → o = some (f a)) hs hv fun S0 Os σ H R st hR he => h S0 Os σ H R st (fun J Hm H1 xs ⟨as, e, hl, ht, hk⟩ s lk wk => hR J Hm H1 xs (by
    subst e
    refine ⟨by rw [List.length_map]; exact hl, fun x hx => ?_, fun ys r => by rw [r.mapOf rfl]; exact hk⟩
    obtain ⟨a, ha, rfl⟩ := List.mem_map.mp hx
    exact (ht a ha).imp fun o e a' e' => by rw [e, inj _ _ e']) s lk wk) he
end
/-! ### keys -/
theorem any_iff {ds : List (Key × D)} {k : Key} : (ds.any fun kv => decide (kv.1 = k)) = true ↔ k ∈ ds.map Prod.fst := by
  rw [List.any_eq_true, List.mem_map]
  exact ⟨fun ⟨x, hx, e⟩ => ⟨x, hx, of_decide_eq_true e⟩, fun ⟨x, hx, e⟩ => ⟨x, hx, decide_eq_true e⟩⟩
theorem putD_keys (ds : List (Key × D)) (k : Key) (v : D) : (putD ds k v).map Prod.fst = if (ds.any fun kv => decide (kv.1 = k)) = true then ds.map Prod.fst else ds.map Prod.fst ++ [k] := by
  unfold putD
  by_cases h : (ds.any fun kv => decide (kv.1 = k)) = true
  · rw [if_pos h, if_pos h, List.map_map]
    apply List.map_congr_left
    intro x _
    show (if x.1 = k then (x.1, v) else x).1 = x.1
    split <;> rfl
  · rw [if_neg h, if_neg h, List.map_append]; rfl
theorem mergeD_keys : ∀ (more ds : List (Key × D)), (ds.map Prod.fst).Nodup → ((mergeD ds more).map Prod.fst).Nodup ∧ ∀ k, k ∈ (mergeD ds more).map Prod.fst ↔ k ∈ ds.map Prod.fst ∨ k ∈ more.map Prod.fst
  | [], ds, h => ⟨h, fun k => by simp [mergeD]⟩
  | p :: r, ds, h => by
    have h1 : ((putD ds p.1 p.2).map Prod.fst).Nodup := by
      rw [putD_keys]
      split
      · exact h
      · rename_i q
        refine List.nodup_append.mpr ⟨h, by simp, fun a ha b hb => ?_⟩
        rw [List.mem_singleton] at hb
        exact fun z => q (any_iff.mpr (by rw [← hb, ← z]; exact ha))
    obtain ⟨a, b⟩ := mergeD_keys r (putD ds p.1 p.2) h1
    refine ⟨a, fun k => (b k).trans ?_⟩
    rw [putD_keys, List.map_cons, List.mem_cons]
    split
    · rename_i q
      constructor
      · rintro (h | h)
        · exact .inl h
        · exact .inr (.inr h)
      · rintro (h | h | h)
        · exact .inl h
        · exact .inl (by rw [h]; exact any_iff.mp q)
        · exact .inr h
    · rw [List.mem_append, List.mem_singleton]
      constructor
      · rintro ((h | h) | h)
        · exact .inl h
        · exact .inr (.inl h)
        · exact .inr (.inr h)
      · rintro (h | h | h)
        · exact .inl (.inl h)
        · exact .inl (.inr h)
        · exact .inr h
/-- new keys alone: the pairs as they are -/
theorem mergeD_app : ∀ (more ds : List (Key × D)), ((ds ++ more).map Prod.fst).Nodup → mergeD ds more = ds ++ more
  | [], ds, _ => by simp [mergeD]
  | p :: r, ds, h => by
    have hp : p.1 ∉ ds.map Prod.fst := fun z => by
      rw [List.map_append, List.nodup_append] at h
      exact h.2.2 _ z p.1 (by simp) rfl
    have e : putD ds p.1 p.2 = ds ++ [p] := by
      unfold putD
      rw [if_neg fun z => hp (any_iff.mp z)]
    show mergeD (putD ds p.1 p.2) r = _
    rw [e, mergeD_app r (ds ++ [p]) (by simpa using h)]
    simp
theorem mergeD_nil {more : List (Key × D)} (h : (more.map Prod.fst).Nodup) : mergeD [] more = more := mergeD_app more [] (by simpa using h)
theorem getD_some {kvs : List (Key × D)} {k : Key} {d : D} (nd : (kvs.map Prod.fst).Nodup) (h : (k, d) ∈ kvs) : getD kvs k = some d := by
  unfold getD
  induction kvs with
  | nil => cases h
  | cons p r ih =>
    have nd2 := List.nodup_cons.mp (show (p.1 :: r.map Prod.fst).Nodup from nd)
    rcases List.mem_cons.mp h with e | h
    · subst e
      rw [List.find?_cons_of_pos (by simp)]; rfl
    · have ne : p.1 ≠ k := fun z => nd2.1 (by rw [z]; exact List.mem_map_of_mem (f := Prod.fst) h)
      rw [List.find?_cons_of_neg (by simpa using ne)]
      exact ih nd2.2 h
theorem getD_is {kvs : List (Key × D)} {k : Key} : (getD kvs k).isSome = true ↔ k ∈ kvs.map Prod.fst := by
  unfold getD
  induction kvs with
  | nil => simp
  | cons p r ih =>
    by_cases e : p.1 = k
    · rw [List.find?_cons_of_pos (by simpa using e)]
      refine ⟨fun _ => ?_, fun _ => rfl⟩
      rw [List.map_cons, e]; exact List.mem_cons_self
    · rw [List.find?_cons_of_neg (by simpa using e), ih, List.map_cons, List.mem_cons]
      exact ⟨.inr, fun h => h.resolve_left fun z => e z.symm⟩
theorem strs_inj {a b : Str} (h : D.str a = D.str b) : a = b := by cases h; rfl
theorem keys_nodup {ss : List Str} (h : ss.Nodup) : (ss.map (Sum.inr : Str → Key)).Nodup := by
  induction ss with
  | nil => exact .nil
  | cons s r ih =>
    have h2 := List.nodup_cons.mp h
    refine List.nodup_cons.mpr ⟨fun z => ?_, ih h2.2⟩
    obtain ⟨x, hx, e⟩ := List.mem_map.mp z
    cases e
    exact h2.1 hx
theorem key_mem {ss : List Str} {x : Str} : (Sum.inr x : Key) ∈ ss.map (Sum.inr : Str → Key) ↔ x ∈ ss := by
  rw [List.mem_map]
  exact ⟨fun ⟨y, hy, e⟩ => by cases e; exact hy, fun h => ⟨x, h, rfl⟩⟩
theorem flat_strs (ss : List Str) : (ss.map D.str).all D.flat = true := by
  rw [List.all_map, List.all_eq_true]; intro _ _; rfl
theorem inV_strs {x : Str} {ss : List Str} : inD (.str x) (ss.map D.str) = decide (x ∈ ss) := by
  have e : inD (.str x) (ss.map D.str) = ss.any fun s => s == x := by
    unfold inD inV
    rw [List.map_map, List.any_map]; rfl
  rw [e, Bool.eq_iff_iff, List.any_eq_true, decide_eq_true_eq]
  exact ⟨fun ⟨y, hy, e⟩ => by rw [← beq_iff_eq.mp e]; exact hy, fun h => ⟨x, h, beq_self_eq_true x⟩⟩
end Fw

set_option maxHeartbeats 4000000
/-! == of lists of names; a method of what is being made; games. -/
namespace Fw
open PySem PySem.Spec PyProof.Rows L2
theorem let_ok : (LET.cps.toList.all fun c => decide (c < 1114112)) = true := by decide +kernel
theorem isName_ok {s : Str} (h : isName s = true) : PyData.strOk s = true := by
  unfold isName at h
  rw [Bool.and_eq_true] at h
  unfold PyData.strOk
  rw [← Array.all_toList, List.all_eq_true]
  intro c hc
  have := List.all_eq_true.mp h.2 c hc
  exact List.all_eq_true.mp let_ok c (of_decide_eq_true this)
theorem pds_strs : ∀ ss : List Str, D.pds (ss.map D.str) = some (ss.map PyData.str)
  | [] => rfl
  | s :: r => by
    show (match D.pd (.str s), D.pds (r.map D.str) with
      | some a, some b => some (a :: b)
      | _, _ => none) = _
    rw [pds_strs r]; rfl
theorem pd_sl (ss : List Str) : (sl ss).pd = some (.list (ss.map PyData.str)) := by
  show (D.pds (ss.map D.str)).map PyData.list = _
  rw [pds_strs]; rfl
theorem lay_strs : ∀ {ss : List Str}, (∀ s ∈ ss, isName s = true) → PyData.canLayAll0 (ss.map PyData.str) = true
  | [], _ => by simp [PyData.canLayAll0]
  | s :: r, h => by
    rw [List.map_cons]
    simp only [PyData.canLayAll0, PyData.canLay0, Bool.and_eq_true]
    exact ⟨isName_ok (h s List.mem_cons_self), lay_strs fun x hx => h x (List.mem_cons_of_mem _ hx)⟩
theorem depth_strs : ∀ {ss : List Str}, PyData.depthAll (ss.map PyData.str) ≤ 1
  | [] => by simp [PyData.depthAll]
  | s :: r => by
    rw [List.map_cons]
    simp only [PyData.depthAll, PyData.depth]
    have := depth_strs (ss := r)
    omega
theorem shaped_sl {ss : List Str} (h : ∀ s ∈ ss, isName s = true) : SeqAt.shaped (.list (ss.map PyData.str)) = true := by
  unfold SeqAt.shaped
  rw [Bool.and_eq_true, decide_eq_true_eq]
  refine ⟨by simp only [PyData.canLay0]; exact lay_strs h, ?_⟩
  have := depth_strs (ss := ss)
  simp only [PyData.depth]
  omega
theorem eqvAll_strs : ∀ {ss ts : List Str}, PyData.eqvAll (ss.map .str) (ts.map .str) = decide (ss = ts)
  | [], [] => by simp [PyData.eqvAll]
  | [], _ :: _ => by simp [PyData.eqvAll]
  | _ :: _, [] => by simp [PyData.eqvAll]
  | s :: r, t :: u => by
    rw [List.map_cons, List.map_cons]
    simp only [PyData.eqvAll, PyData.eqv]
    rw [eqvAll_strs, Bool.eq_iff_iff, Bool.and_eq_true, decide_eq_true_eq, decide_eq_true_eq, beq_iff_eq, List.cons.injEq]
theorem eqv_sl {ss ts : List Str} : PyData.eqv (.list (ss.map .str)) (.list (ts.map .str)) = decide (ss = ts) := by
  simp only [PyData.eqv]; exact eqvAll_strs
/-! ### keys that are texts -/
theorem keys_strs : ∀ {ks : List Key}, (∀ k ∈ ks, ∃ s : Str, k = .inr s) → ∃ ts : List Str, ks = ts.map (Sum.inr : Str → Key)
  | [], _ => ⟨[], rfl⟩
  | k :: r, h => by
    obtain ⟨s, rfl⟩ := h k List.mem_cons_self
    obtain ⟨ts, rfl⟩ := keys_strs fun k hk => h k (List.mem_cons_of_mem _ hk)
    exact ⟨s :: ts, rfl⟩
theorem nodup_keys {ts : List Str} (h : (ts.map (Sum.inr : Str → Key)).Nodup) : ts.Nodup := by
  induction ts with
  | nil => exact .nil
  | cons s r ih =>
    have h2 := List.nodup_cons.mp (show ((Sum.inr s : Key) :: r.map Sum.inr).Nodup from h)
    exact List.nodup_cons.mpr ⟨fun z => h2.1 (List.mem_map_of_mem z), ih h2.2⟩
/-- the keys of a dict made of names -/
theorem merge_strs (f : Str → D) (ss : List Str) : ∃ ts : List Str, (mergeD [] (ss.map fun s => ((.inr s : Key), f s))).map Prod.fst = ts.map (Sum.inr : Str → Key) ∧ ts.Nodup ∧ ∀ x, x ∈ ts ↔ x ∈ ss := by
  obtain ⟨h1, h2⟩ := mergeD_keys (ss.map fun s => ((.inr s : Key), f s)) [] (by simp)
  have e : (ss.map fun s => ((.inr s : Key), f s)).map Prod.fst = ss.map (Sum.inr : Str → Key) := by rw [List.map_map]; rfl
  rw [e] at h2
  obtain ⟨ts, ht⟩ := keys_strs (ks := (mergeD [] (ss.map fun s => ((.inr s : Key), f s))).map Prod.fst) fun k hk => by
    rcases (h2 k).mp hk with z | z
    · cases z
    · obtain ⟨s, _, e⟩ := List.mem_map.mp z
      exact ⟨s, e.symm⟩
  rw [ht] at h1 h2
  refine ⟨ts, ht, nodup_keys h1, fun x => ?_⟩
  have := h2 (.inr x)
  rw [key_mem, key_mem] at this
  exact this.trans ⟨fun h => h.resolve_left (by simp), .inr⟩
theorem ts_len {ss ts : List Str} (h1 : ts.Nodup) (h2 : ∀ x, x ∈ ts ↔ x ∈ ss) : ts.length = (srt ss).length :=
  ((List.perm_ext_iff_of_nodup h1 (srt_nodup ss)).mpr fun x => (h2 x).trans srt_mem.symm).length_eq
theorem ts_srt {ss ts ys : List Str} (h1 : ts.Nodup) (h2 : ∀ x, x ∈ ts ↔ x ∈ ss) (p : ys.Perm ts) (s : sortedS ys = true) : ys = srt ss :=
  (srt_eq ⟨(List.Perm.nodup_iff p).mpr h1, fun x => p.mem_iff.trans (h2 x), s⟩).symm
/-! ### places -/
theorem enum_strs (ss : List Str) : enumD (ss.map D.str) = ss.zipIdx.map fun p => D.tup [.int (p.2 : Nat), .str p.1] := by
  unfold enumD
  apply List.ext_getElem?
  intro i
  rw [List.length_map, List.getElem?_map, List.getElem?_map, List.getElem?_zipIdx]
  by_cases h : i < ss.length
  · rw [List.getElem?_range h, List.getElem?_eq_getElem h]
    show some (D.tup [.int (i : Nat), (ss.map D.str).getD i .non]) = some _
    rw [List.getD_eq_getElem?_getD, List.getElem?_map, List.getElem?_eq_getElem h]
    show some (D.tup [.int (i : Nat), D.str ss[i]]) = some (D.tup [.int ((0 + i : Nat) : Int), D.str ss[i]])
    rw [Nat.zero_add]
  · rw [List.getElem?_eq_none (by simpa using h), List.getElem?_eq_none (by simpa using h)]; rfl
theorem plc_keys (ss : List Str) : (plc ss).map Prod.fst = ss.map (Sum.inr : Str → Key) := by
  unfold plc
  rw [List.map_map]
  have : (ss.zipIdx.map Prod.fst).map (Sum.inr : Str → Key) = ss.map Sum.inr := by rw [List.zipIdx_map_fst]
  rw [← this, List.map_map]; rfl
theorem plc_merge {ss : List Str} (h : ss.Nodup) : mergeD [] (ss.zipIdx.map fun p => ((.inr p.1 : Key), D.int (p.2 : Nat))) = plc ss := mergeD_nil (by
  show ((plc ss).map Prod.fst).Nodup
  rw [plc_keys]; exact keys_nodup h)
/-! ### a method of the instance that an __init__ fills, its answer no object -/
section
variable {K : PySem.W.Frag} {E : XK} {G : Gm} {O : OL} {ke : Xd → Prop}
theorem DA.bindS {t : TA} {k : List D → Prop} (h : DA K E t G O k ke) {S0 : Addr → Prop} {Os : OLa} {σ : L2.St} {H : Hp} {Q : List V → Hp → Prop} (st : St1 K S0 G O Os σ H) (he : EOk K (SO S0 Os) H E ke)
    (hq : ∀ v H' d, k d → Same H H' → St1 K S0 G O Os σ H' → Reps K (SO S0 Os) H' v d → Q v H') : t σ H Q := h.bind st he fun v H' d kd s st' _ r => hq v H' d kd s st' r
theorem dt_methS (j : Nat) {x : Addr} {i : Nat} {w : Wt} {c m : Str} {fs : List (Str × D)} {t : TA} {k : D → Prop} (ho : O[j]? = some (i, .slf x c fs)) (l : fs.lookup m = none) (h : DA K E t G O (fun ds => w (.obj c fs :: ds) (fun d => d.flat = true ∧ k d) F0) ke) :
    DT K E (tMeth (He.ga K c) m (spD K w) [] E0 (tVar i) t) G O k ke := fun S0 Os σ H Q st hq he => by
  obtain ⟨p0, hp, e, hpj⟩ := own_at st.os ho
  obtain ⟨hs, oa⟩ := st.own p0 hp
  obtain ⟨p, p2⟩ := p0
  have e' : p2 = (i, .slf x c fs) := e
  subst e'
  obtain ⟨ea, dx, gs, hh, ek, r⟩ := oa
  refine ⟨_, hs, p, dx, gs, rfl, hh, ?_, h.bindS st he fun xs H2 ds hw s2 st2 ry => ?_⟩
  · rcases lookup_rep (f := m) ek r with ⟨_, z⟩ | ⟨v, d, z, _⟩
    · exact z
    · rw [l] at z; cases z
  · rw [List.append_nil]
    let T : Addr → Prop := fun b => SO S0 Os b ∧ b ≠ p
    have wk : ∀ a, T a → SO S0 Os a := fun a z => z.1
    refine ⟨T, _, _, F0, fun a z => st2.domW a z.1, .cons (.obj (fun z => z.2 rfl) (s2 _ _ hh) ek (Reps.weak wk (Reps.same r s2))) (Reps.weak wk ry), hw, fun v H' d ⟨fl, kd⟩ s rv => ?_, eok_e0⟩
    refine hq v H' d kd (s2.trans s) ?_
    rw [(D.flat_v rv fl).1]
    exact D.rep fl
end
/-! ### games -/
theorem rks_keys (rs : List (Str × List Str)) : (rks rs).map Prod.fst = (rs.map Prod.fst).map (Sum.inr : Str → Key) := by
  unfold rks; rw [List.map_map, List.map_map]; rfl
/-- a player's ranking -/
def lk (rs : List (Str × List Str)) (p : Str) : List Str := (rs.lookup p).getD []
theorem getD_rks {rs : List (Str × List Str)} {p : Str} (h : p ∈ rs.map Prod.fst) : getD (rks rs) (.inr p) = some (rk (lk rs p)) := by
  induction rs with
  | nil => cases h
  | cons q r ih =>
    unfold lk
    rw [List.lookup_cons]
    by_cases e : q.1 = p
    · subst e
      unfold getD rks
      rw [List.map_cons, List.find?_cons_of_pos (by simp), beq_self_eq_true]; rfl
    · have hb : (p == q.1) = false := by
        rw [beq_eq_false_iff_ne]; exact fun z => e z.symm
      rw [hb]
      have hr : p ∈ r.map Prod.fst := by
        rcases List.mem_cons.mp (show p ∈ q.1 :: r.map Prod.fst from h) with z | z
        · exact absurd z.symm e
        · exact z
      have := ih hr
      unfold getD rks at this ⊢
      rw [List.map_cons, List.find?_cons_of_neg (by simpa using e)]
      exact this
theorem getD_rks_is {rs : List (Str × List Str)} {p : Str} : (getD (rks rs) (.inr p)).isSome = decide (p ∈ rs.map Prod.fst) := by
  rw [Bool.eq_iff_iff, getD_is, rks_keys, key_mem, decide_eq_true_eq]
end Fw

set_option maxHeartbeats 4000000
/-! The plain law: what whole groups can hold. -/
namespace Fw
open PySem PySem.Spec PyProof.Rows L2
def mx (i j : Int) : Int := if j > i then j else i
def ownN (ts g : List Str) : Int := ((ts.filter fun t => decide (t ∈ g)).length : Nat)
def nl (ts g : List Str) (m n : Nat) : Int := mx 0 ((m : Int) - ownN ts g - mx 0 ((ts.length : Int) - ownN ts g - ((n : Int) - (m : Int))))
/-- by what is in and what is out -/
def fv (ts g : List Str) (a b : Int) : Int := mx 0 (a - ownN ts g - mx 0 ((ts.length : Int) - ownN ts g - b))
theorem nl_fv {ts g : List Str} {m n : Nat} : nl ts g m n = fv ts g m ((n : Int) - (m : Int)) := rfl
theorem ownN_cons (t : Str) (r g : List Str) : ownN (t :: r) g = ownN r g + (if t ∈ g then 1 else 0) := by
  unfold ownN
  by_cases h : t ∈ g
  · rw [List.filter_cons_of_pos (by simpa using h), if_pos h, List.length_cons]; omega
  · rw [List.filter_cons_of_neg (by simpa using h), if_neg h]; omega
theorem ownN_le (r g : List Str) : 0 ≤ ownN r g ∧ ownN r g ≤ r.length := by
  unfold ownN
  have := List.length_filter_le (fun t => decide (t ∈ g)) r
  omega
theorem fv_nil {g : List Str} {a b : Int} (ha : 0 ≤ a) (hb : 0 ≤ b) : fv [] g a b = a := by
  have e : ownN [] g = 0 := rfl
  unfold fv mx
  rw [e, List.length_nil]
  split <;> split <;> omega
theorem fv_le {t : Str} {r g : List Str} {a b : Int} : fv r g (a - 1) b ≤ fv r g a (b - 1) := by
  have := ownN_le r g
  unfold fv mx
  split <;> split <;> split <;> split <;> omega
theorem fv_in {t : Str} {r g : List Str} {a b : Int} (ha : 0 < a) (hb : 0 ≤ b) (hl : ((t :: r).length : Int) ≤ a + b) (h : t ∈ g ∨ b = 0) : fv (t :: r) g a b = fv r g (a - 1) b := by
  have := ownN_le r g
  unfold fv mx
  rw [ownN_cons]
  rw [List.length_cons] at hl ⊢
  by_cases q : t ∈ g
  · rw [if_pos q]
    split <;> split <;> split <;> split <;> omega
  · rw [if_neg q]
    have := h.resolve_left q
    split <;> split <;> split <;> split <;> omega
theorem fv_out {t : Str} {r g : List Str} {a b : Int} (ha : 0 ≤ a) (hb : 0 < b) (hl : ((t :: r).length : Int) ≤ a + b) (h : t ∉ g ∨ a = 0) : fv (t :: r) g a b = fv r g a (b - 1) := by
  have := ownN_le r g
  unfold fv mx
  rw [ownN_cons]
  rw [List.length_cons] at hl ⊢
  by_cases q : t ∈ g
  · rw [if_pos q]
    have := h.resolve_left (fun z => z q)
    split <;> split <;> split <;> split <;> omega
  · rw [if_neg q]
    split <;> split <;> split <;> split <;> omega
end Fw

set_option maxHeartbeats 4000000
/-! Instances called; texts added; counts; max and min of lists of ints. -/
namespace Fw
open PySem PySem.Spec PyProof.Rows L2
section
variable {K : PySem.W.Frag} {E : XK} {G : Gm} {O : OL} {ke : Xd → Prop}
/-! ### f(e), f an instance of one of two classes -/
def tCall2 (C1 C2 : Addr) (sp1 sp2 : Sp) (E : XK) (tf : TE) (t : TA) : TE := fun σ H Q => tf σ H fun y H1 => ∃ a, y = V.ref a ∧ t σ H1 fun vs H2 =>
  (∃ dx fs, H2 a = some (.ins C1 dx fs) ∧ sp1 (V.ref a :: vs) H2 Q E) ∨ (∃ dx fs, H2 a = some (.ins C2 dx fs) ∧ sp2 (V.ref a :: vs) H2 Q E)
theorem dt_call2 {c1 c2 : Str} {w1 w2 : Wt} {tf : TE} {t : TA} {k : D → Prop} (h : DT K E tf G O (fun a => (∃ fs, a = .obj c1 fs ∧ DA K E t G O (fun ds => w1 (a :: ds) k F0) ke) ∨ (∃ fs, a = .obj c2 fs ∧ DA K E t G O (fun ds => w2 (a :: ds) k F0) ke)) ke) :
    DT K E (tCall2 (He.ga K c1) (He.ga K c2) (spD K w1) (spD K w2) E0 tf t) G O k ke := fun S0 Os σ H Q st hq he =>
  h.bind st he fun x H1 a ha s1 st1 he1 rx => by
    rcases ha with ⟨fs, e, ha⟩ | ⟨fs, e, ha⟩
    · subst e
      have r0 := rx
      cases rx with
      | obj n hh ef r => exact ⟨_, rfl, ha.bind st1 he1 fun ys H2 ds hb s2 st2 he2 ry => .inl ⟨_, _, s2 _ _ hh, SO S0 Os, _, k, F0, st2.domW, .cons (r0.same s2) ry, hb, fun v H' d kd s r => hq v H' d kd ((s1.trans s2).trans s) r, eok_e0⟩⟩
    · subst e
      have r0 := rx
      cases rx with
      | obj n hh ef r => exact ⟨_, rfl, ha.bind st1 he1 fun ys H2 ds hb s2 st2 he2 ry => .inr ⟨_, _, s2 _ _ hh, SO S0 Os, _, k, F0, st2.domW, .cons (r0.same s2) ry, hb, fun v H' d kd s r => hq v H' d kd ((s1.trans s2).trans s) r, eok_e0⟩⟩
end
section
variable {X : Cx} {j k1 k2 : Nat} {C1 C2 g1 g2 : Addr} {ps1 ps2 : List Str} {sp1 sp2 : Sp} {fe e : Expr} {es : List Expr} {pos : Pos} {tf : TE} {t : TA}
theorem q_call2 (hf : PE X fe tf) (c1 : StX.CallO X.K C1 g1) (c2 : StX.CallO X.K C2 g2) (F1 : Ok X.prog X.w X.K X.mg X.base k1 g1 ps1 sp1) (F2 : Ok X.prog X.w X.K X.mg X.base k2 g2 ps2 sp2) (hr : RoomG j X.A) (ha : PA X (e :: es) t) (hj : k1 ≤ j := by first | decide | omega) (hj2 : k2 ≤ j := by first | decide | omega)
    (ht : eval (.Call fe (e :: es) [] pos) X.env = (do callWith pos (← eval fe X.env) [] (backTo pos (starEach (e :: es) X.env)) (backToKw pos (keywordEach [] X.env))) := by rfl)
    (he : starEach (e :: es) X.env = (false, eval e X.env) :: starEach es X.env := by rfl) (hpl : (backTo pos (starEach es X.env)).any (·.1) = false := by rfl) : PE X (.Call fe (e :: es) [] pos) (tCall2 C1 C2 sp1 sp2 E0 tf t) := by
  refine ⟨fun pins s σ H Q I h => ?_⟩
  refine Call_ (thn (hf.run pins s σ H _ I h) fun u s1 ⟨y, H1, I1, ry, a, ey, q⟩ => ?_) ht
  subst ey
  obtain rfl : u = Value.ref a := ry
  refine StX.callO_with (thn (ha.run pos pins s1 σ H1 _ I1 q) fun us s2 ⟨vs, H2, I2, r, hi⟩ => ?_) he hpl
  obtain ⟨fd1, G1, B1⟩ := F1.ex
  obtain ⟨fd2, G2, B2⟩ := F2.ex
  rcases hi with ⟨dx, fs, hi, q2⟩ | ⟨dx, fs, hi, q2⟩
  · obtain ⟨ox, od, J, hd⟩ := StX.insC_at I2 (.inr ⟨_, _, hi⟩)
    refine ⟨⟨C1, ox, od, J, hd⟩, wpAny_call (PySem.W.kco_code I2.kIn J hd c1.at_ c1.fn c1.fi (G1.code (us := .ref a :: us) (vs := .ref a :: vs) (hr.mono hj) B1 passL I2 (.cons rfl r) q2))⟩
  · obtain ⟨ox, od, J, hd⟩ := StX.insC_at I2 (.inr ⟨_, _, hi⟩)
    refine ⟨⟨C2, ox, od, J, hd⟩, wpAny_call (PySem.W.kco_code I2.kIn J hd c2.at_ c2.fn c2.fi (G2.code (us := .ref a :: us) (vs := .ref a :: vs) (hr.mono hj2) B2 passL I2 (.cons rfl r) q2))⟩
end
section
variable {X : Cx} {j k1 k2 : Nat} {C1 C2 g1 g2 : Addr} {ps1 ps2 : List Str} {sp1 sp2 : Sp} {x : Str} {e : Expr} {es : List Expr} {pos p : Pos} {tf : TE} {t : TA}
theorem q_call2N (hf : PE X (.Name x p) tf) (c1 : StX.CallO X.K C1 g1) (c2 : StX.CallO X.K C2 g2) (F1 : Ok X.prog X.w X.K X.mg X.base k1 g1 ps1 sp1) (F2 : Ok X.prog X.w X.K X.mg X.base k2 g2 ps2 sp2) (hr : RoomG j X.A) (ha : PA X (e :: es) t) (hj : k1 ≤ j := by first | decide | omega) (hj2 : k2 ≤ j := by first | decide | omega)
    (he : starEach (e :: es) X.env = (false, eval e X.env) :: starEach es X.env := by rfl) (hpl : (backTo pos (starEach es X.env)).any (·.1) = false := by rfl) : PE X (.Call (.Name x p) (e :: es) [] pos) (tCall2 C1 C2 sp1 sp2 E0 tf t) := by
  refine ⟨fun pins s σ H Q I h => ?_⟩
  refine wpAny_Call_Name_kw (thn (hf.run pins s σ H _ I h) fun u s1 ⟨y, H1, I1, ry, a, ey, q⟩ => ?_)
  subst ey
  obtain rfl : u = Value.ref a := ry
  refine StX.callO_with (thn (ha.run pos pins s1 σ H1 _ I1 q) fun us s2 ⟨vs, H2, I2, r, hi⟩ => ?_) he hpl
  obtain ⟨fd1, G1, B1⟩ := F1.ex
  obtain ⟨fd2, G2, B2⟩ := F2.ex
  rcases hi with ⟨dx, fs, hi, q2⟩ | ⟨dx, fs, hi, q2⟩
  · obtain ⟨ox, od, J, hd⟩ := StX.insC_at I2 (.inr ⟨_, _, hi⟩)
    refine ⟨⟨C1, ox, od, J, hd⟩, wpAny_call (PySem.W.kco_code I2.kIn J hd c1.at_ c1.fn c1.fi (G1.code (us := .ref a :: us) (vs := .ref a :: vs) (hr.mono hj) B1 passL I2 (.cons rfl r) q2))⟩
  · obtain ⟨ox, od, J, hd⟩ := StX.insC_at I2 (.inr ⟨_, _, hi⟩)
    refine ⟨⟨C2, ox, od, J, hd⟩, wpAny_call (PySem.W.kco_code I2.kIn J hd c2.at_ c2.fn c2.fi (G2.code (us := .ref a :: us) (vs := .ref a :: vs) (hr.mono hj2) B2 passL I2 (.cons rfl r) q2))⟩
end
section
variable {K : PySem.W.Frag} {E : XK} {G : Gm} {O : OL} {ke : Xd → Prop}
theorem opd_add_str : OpD K (fun x y H Q => ∃ i j, x = .str i ∧ y = .str j ∧ i.length + j.length ≤ sizeLine ∧ Q (.str (i ++ j)) H) (fun a b k => ∃ i j : Str, a = .str i ∧ b = .str j ∧ i.length + j.length ≤ sizeLine ∧ k (.str (i ++ j))) := by
  intro S H x y a b Q k dm rx ry ⟨i, j, e1, e2, hl, q⟩ hq
  subst e1 e2; cases rx; cases ry
  exact ⟨i, j, rfl, rfl, hl, hq _ H _ q (Same.refl H) (.str _)⟩
theorem cad_max : CaD K (rMax K) (fun ds k => ∃ ns : List Int, ds = [.lst (ns.map D.int)] ∧ 0 < ns.length ∧ ∀ m, m ∈ ns → (∀ y, y ∈ ns → y ≤ m) → k (.int m)) := by
  intro S H xs ds Q k dm rx ⟨ns, e, hl, q⟩ hq
  subst e
  cases rx with
  | cons h t =>
    cases t
    cases h with
    | lst n hh r =>
      have e := r.ints
      subst e
      exact ⟨_, ns, rfl, SqL.of hh, hl, fun m h1 h2 => hq _ H _ (q m h1 h2) (Same.refl H) (.int _)⟩
theorem cad_min : CaD K (rMin K) (fun ds k => ∃ ns : List Int, ds = [.lst (ns.map D.int)] ∧ 0 < ns.length ∧ ∀ m, m ∈ ns → (∀ y, y ∈ ns → m ≤ y) → k (.int m)) := by
  intro S H xs ds Q k dm rx ⟨ns, e, hl, q⟩ hq
  subst e
  cases rx with
  | cons h t =>
    cases t
    cases h with
    | lst n hh r =>
      have e := r.ints
      subst e
      exact ⟨_, ns, rfl, SqL.of hh, hl, fun m h1 h2 => hq _ H _ (q m h1 h2) (Same.refl H) (.int _)⟩
end
theorem DS.f0 {t : TS} {G : Gm} {O : OL} {kn : Gm → OL → Prop} {kr : D → Prop} {ke : Xd → Prop} {K : PySem.W.Frag} {E : XK} (h : DS K E t G O kn kr F0) : DS K E t G O kn kr ke := fun S0 H0 Os σ H Ds f st hn hr _ => h S0 H0 Os σ H Ds f st hn hr eok_e0
def rLenDR : List V → Hp → VK → Prop := fun xs H Q => ∃ (a : Addr) (kvs : List (Key × V)), xs = [V.ref a] ∧ Rd H a (.dK kvs) ∧ Q (.int kvs.length) H
theorem call_lenDR {X : Cx} : CallR X (.builtin "len") rLenDR := by
  intro pins s σ H xs us Q I r h
  obtain ⟨a, kvs, rfl, ha, q⟩ := h
  obtain ⟨u, rfl, ru⟩ := vals1 r
  cases ru
  exact d_len I ha fun t s' I' => ⟨.int kvs.length, H, I', ⟨t, rfl⟩, q⟩
theorem cad_lenDR {K : PySem.W.Frag} : CaD K rLenDR (fun ds k => ∃ kvs : List (Key × D), ds = [.dic kvs] ∧ k (.int (kvs.length : Nat))) := by
  intro S H xs ds Q k dm rx ⟨kvs, e, q⟩ hq
  subst e
  cases rx with
  | cons h t =>
    cases t
    cases h with
    | dic n hh ek r =>
      refine ⟨_, _, rfl, hh, ?_⟩
      rw [len_pair ek]
      exact hq _ H _ q (Same.refl H) (.int _)
theorem z_max {X : Cx} (K : PySem.W.Frag) (hc : X.calm = true) (hK : X.K = K := by rfl) : CallR X (.builtin "max") (rMax K) := by subst hK; exact cr_max hc
theorem z_min {X : Cx} (K : PySem.W.Frag) (hc : X.calm = true) (hK : X.K = K := by rfl) : CallR X (.builtin "min") (rMin K) := by subst hK; exact cr_min hc
/-- x in, x not in the owned list -/
theorem dt_inO (j : Nat) {neg : Bool} {i : Nat} {ds : List D} {K : PySem.W.Frag} {E : XK} {G : Gm} {O : OL} {ke : Xd → Prop} {ta : TE} {k : D → Prop} (ho : O[j]? = some (i, .lst ds)) (h : DT K E ta G O (fun a => a.flat = true ∧ ds.all D.flat = true ∧ k (.bl (if neg then !inD a ds else inD a ds))) ke) : DT K E (tOp (rIn K neg) ta (tVar i)) G O k ke := fun S0 Os σ H Q st hq he =>
  h.bind st he fun x H1 a ⟨fa, fx, q⟩ s1 st1 he1 rx => by
    obtain ⟨p, vs, hpj, hs, hh, r⟩ := lst_at st1 ho
    obtain ⟨e1, f1⟩ := D.flat_v rx fa
    subst e1
    obtain ⟨e2, f2⟩ := Reps.flat r fx
    refine ⟨_, hs, _, _, rfl, .inl (SqL.of hh), f1, f2, ?_⟩
    rw [e2]
    exact hq _ H1 _ q s1 (.bl _)
theorem ds_unlAsg {t : TE} {i : Nat} {G : Gm} {O : OL} {kn : Gm → OL → Prop} {kr : D → Prop} {ke : Xd → Prop} {K : PySem.W.Frag} {E : XK} (h : DS K E (tAsg (tUnlE t) (gName i)) G O kn kr ke) : DS K E (tUnlS (tAsg t (gName i))) G O kn kr ke := h
/-! ### list.count of texts -/
def eqs (k : Str) (v : Value) : Bool := match v with
  | .str n _ => n.cps.toList == k.cps.toList
  | _ => false
theorem eqs_gives {k : Str} {t : Tok} : ∀ {us : List Value} {ns : List Str}, Vals (ns.map V.str) us → ∀ y ∈ us, MeetsSeq.EqGives y (.str k t) (eqs k y)
  | _, [], .nil => fun y hy => by cases hy
  | _, n :: ns, .cons r h => fun y hy => by
    obtain ⟨t', rfl⟩ := r
    rcases List.mem_cons.mp hy with e | e
    · rw [e]
      exact SeqRoads2.EqGives.str n k t' t
    · exact eqs_gives h y e
theorem eqs_count {k : Str} : ∀ {us : List Value} {ns : List Str}, Vals (ns.map V.str) us → us.countP (eqs k) = ns.count k
  | _, [], .nil => rfl
  | _, n :: ns, .cons r h => by
    obtain ⟨t', rfl⟩ := r
    have ih := eqs_count (k := k) h
    rw [List.countP_cons, List.count_cons, ih]
    have e : eqs k (.str n t') = (n == k) := by
      show (n.cps.toList == k.cps.toList) = (n == k)
      rw [Bool.eq_iff_iff, beq_iff_eq, beq_iff_eq]
      refine ⟨fun h => ?_, fun h => by rw [h]⟩
      cases n; cases k
      congr 1
      exact Array.toList_inj.mp h
    rw [e]
section
variable {X : Cx} {K : PySem.W.Frag}
def rCntS (K : PySem.W.Frag) : V → List V → Hp → VK → Prop := fun x xs H Q => ∃ (p : Addr) (ns : List Str) (k : Str), x = .ref p ∧ xs = [.str k] ∧ SqL K H p (ns.map V.str) ∧ Q (.int (ns.count k : Nat)) H
theorem mt_countS : MtR X "list.count" (rCntS X.K) := by
  intro pins s σ H x xs v us Q I rx rxs h
  obtain ⟨p, ns, k, rfl, rfl, hs, q⟩ := h
  cases rx
  obtain ⟨u, rfl, ru⟩ := rxs.one
  obtain ⟨t, rfl⟩ := ru
  obtain ⟨its, rv, ⟨⟨cls, dd, data, sl⟩, n, ho, hc, hdn, hd⟩, hlen⟩ := I.list hs
  simp only at hc hd
  subst hc hd
  refine call_meets PySem.F.slot_list_count ⟨_, ho, rfl⟩ PySem.F.entry_list_count (PySem.F.args_list_count_2 _ _)
    (SeqAt.list_countAt p its.toArray n dd sl (.str k t) (eqs k)) ⟨ho, fun y hy => (eqs_gives rv y (by simpa using hy)).at _ _, ?_⟩
  have ec : its.toArray.toList.countP (eqs k) = ns.count k := eqs_count rv
  refine ⟨.int (ns.count k : Nat), H, I.tok _, ⟨s.toks, ?_⟩, q⟩
  show Value.int ((its.toArray.toList.countP (eqs k) : Nat) : Int) s.toks = Value.int ((ns.count k : Nat) : Int) s.toks
  rw [ec]
theorem z_bm {T id : String} {r : V → List V → Hp → VK → Prop} {o e : Expr} {es : List Expr} {name : Str} {apos cpos : Pos} {to : TE} {t : TA} (K : PySem.W.Frag) (pa : PlainAttrs T) (slot : Slot T name id) (hty : typeOf (.builtin id) = pure (.type "method_descriptor")) (hm : MtR X id r) (ho : PE X o to) (ha : PA X (e :: es) t) (hK : X.K = K := by rfl)
    (hbase : attributeBase o name X.env (eval o X.env) = eval o X.env := by rfl)
    (hfew : ((backTo cpos (starEach (e :: es) X.env)).all (fun x => !x.1) && (backToKw cpos (keywordEach [] X.env)).all (fun x => x.1.isSome)
      && decide ((e :: es).length + ([] : List Keyword).length + (if ([] : List Keyword).isEmpty then 0 else 1) < 30)) = true := by rfl)
    (hline : (apos.endLine == cpos.line) = true := by rfl) (hs : starEach (e :: es) X.env = (false, eval e X.env) :: starEach es X.env := by rfl) (hplain : (backTo cpos (starEach es X.env)).any (·.1) = false := by rfl) :
    PE X (.Call (.Attribute o name apos) (e :: es) [] cpos) (tBM K T r to t) := by subst hK; exact pe_bm pa slot hty hm ho ha hbase hfew hline hs hplain
theorem z_countS (K : PySem.W.Frag) (hK : X.K = K := by rfl) : MtR X "list.count" (rCntS K) := by subst hK; exact mt_countS
end
section
variable {K : PySem.W.Frag} {E : XK} {G : Gm} {O : OL} {ke : Xd → Prop}
theorem dt_countS {to te : TE} {k : D → Prop} (h : DT K E to G O (fun a => ∃ ns : List Str, a = .lst (ns.map D.str) ∧ DT K E te G O (fun d => ∃ s : Str, d = .str s ∧ k (.int (ns.count s : Nat))) ke) ke) : DT K E (tBM K "list" (rCntS K) to (tCons te tNil)) G O k ke := fun S0 Os σ H Q st hq he =>
  h.bind st he fun x H1 a ⟨ns, e, ha⟩ s1 st1 he1 rx => by
    subst e
    cases rx with
    | lst n hh r =>
      have er := r.strs
      subst er
      refine ⟨ty_list hh, ha.bind st1 he1 fun y H2 d ⟨z, e2, kd⟩ s2 st2 he2 ry => ?_⟩
      subst e2; cases ry
      exact ⟨_, ns, z, rfl, rfl, SqL.of (s2 _ _ hh), hq _ H2 _ kd (s1.trans s2) (.int _)⟩
end
end Fw

set_option maxHeartbeats 4000000
/-! Own !=; xs[::-1]; starred items. -/
namespace Fw
open PySem PySem.Spec PyProof.Rows L2
section
open PySem.W PySem.Calls
variable {prog : Program} {w : World} {A : Around} {E : Value → Shared → Prop} {s : Shared} {K : Frag} {x y C L f : Addr} {h₀ : Heap} {m : Str → Option Value} {ox oy : Obj} {od od' : Option Obj}
/-- the built-in != of an instance whose class has its own == -/
theorem obj_ne {Q : Value → Shared → Prop} (hu : A.units + 8 < cLine) (X : K.In s.heap) (I : InstAt s.heap x ox C od) (J : InstAt s.heap y oy C od') (he : findIn K (.ref C) "__eq__" = some (some (.ref f))) (hf : isFn K (.ref f) = true) (ho : mroIn K C (.type "object") = some true)
    (h : wpAny (model prog w) A.in1 (call (.ref f) [.ref x, .ref y]) (fun v s' => ∃ b, v = .bool b ∧ Q (.bool (!b)) s') E s) : wpAny (model prog w) A (call (.builtin "object.__ne__") [.ref x, .ref y]) Q E s := by
  have sub : Looks (model prog w) s.heap (isInstance (.ref x) (.type "object")) true := I.type.andThen (looks_mroIn X ho)
  refine wpAny_call (codeAny_call_builtin F.cmp_object.ne.plain F.cmpEntry_ne (@W.check_slot (model prog w) _ _ s "object.__ne__" "object" "__ne__" (.ref x) [.ref y] [] _ F.cmpKind_ne F.cmpSplit_ne sub (F.cmpArgs_ne (.ref x) (.ref y)) ?_))
  unfold Builtin.«object.__ne__»
  refine wpAny_bind (wpAny_of_eq (a := (Value.ref x, [Value.ref y])) (by rfl) ?_)
  refine wpAny_bind (wpAny_cRoomFor (by show A.units + 1 < cLine; omega) ?_)
  refine wpAny_bind (ifBound_K X I he hf (wpAny_mono h (fun v s' hv => ?_) fun _ _ z => z))
  obtain ⟨b, rfl, hq⟩ := hv
  refine wpAny_bind (wpAny_truthy_bool ?_)
  exact wpAny_pure hq
/-- o != p, the class has its own == alone -/
theorem neq_own {Q : Value → Shared → Prop} (hu : A.units + 16 < cLine) (Fh : Fr h₀ L s.heap m) (X₀ : K.In h₀) (I : InstAt s.heap x ox C od) (J : InstAt s.heap y oy C od') (hs : findIn K (.ref C) "__ne__" = some (some (.builtin "object.__ne__"))) (he : findIn K (.ref C) "__eq__" = some (some (.ref f))) (hf : isFn K (.ref f) = true) (ho : mroIn K C (.type "object") = some true)
    (h : wpAny (model prog w) A.in1 (call (.ref f) [.ref x, .ref y]) (fun v s' => ∃ b, v = .bool b ∧ Q (.bool (!b)) s') E s) : wpAny (model prog w) A (richCompare .NotEq (.ref x) (.ref y)) Q E s := by
  have X := X₀.keeps Fh.keep
  have one : wpAny (model prog w) A (callSpecialIfBound? (.ref x) "__ne__" [.ref y]) (fun r s' => ∃ b, r = some (.bool b) ∧ Q (.bool b) s') E s := by
    simp only [callSpecialIfBound?, bindSpecialIfBound?]
    refine wpAny_holding (wpAny_bind (wpAny_bind (wpAny_bind (I.type.here ((looks_findIn X hs).here ?_)))))
    simp only [F.cmp_object.ne.bind]
    have end_ : wpAny (model prog w) A (call (.builtin "object.__ne__") ([.ref x] ++ [.ref y]) >>= fun v => pure (some v)) (fun r s' => ∃ b, r = some (.bool b) ∧ Q (.bool b) s') E s :=
      wpAny_bind (wpAny_mono (obj_ne (Q := fun v s' => ∃ b, v = .bool b ∧ Q (.bool b) s') (by omega) X I J he hf ho (wpAny_mono h (fun v s' hv => by
        obtain ⟨b, e, q⟩ := hv
        exact ⟨b, e, _, rfl, q⟩) fun _ _ z => z)) (fun v s' hv => by
        obtain ⟨b, rfl, q⟩ := hv
        exact wpAny_pure ⟨b, rfl, q⟩) fun _ _ z => z)
    refine wpAny_bind (wpAny_askSetting (wpAny_ite ?_))
    split
    · exact wpAny_bind (wpAny_pure (wpAny_pure end_))
    · exact wpAny_tryCatch (wpAny_bind (wpAny_pure (wpAny_pure end_)))
  have two : wpAny (model prog w) A (tryCompare (.ref x) (cmpInfo .NotEq).2.1 (.ref y)) (fun r s' => ∃ v, r = some v ∧ Q v s') E s := by
    unfold tryCompare
    refine wpAny_bind (wpAny_mono one (fun r s' hr => ?_) fun _ _ z => z)
    obtain ⟨b, rfl, q⟩ := hr
    exact wpAny_pure ⟨_, rfl, q⟩
  unfold richCompare
  simp only [oneThing_ref]
  refine wpAny_holding (wpAny_bind (wpAny_cRoomFor (by omega) ?_))
  refine wpAny_bind (I.type.here (wpAny_bind (J.type.here ?_)))
  have e0 : (Value.ref C != Value.ref C) = false := by simp
  simp only [e0, Bool.false_eq_true, if_false]
  refine wpAny_bind (wpAny_pure ?_)
  simp only [Bool.false_eq_true, if_false]
  refine wpAny_bind (wpAny_mono two (fun r s' hr => ?_) fun _ _ z => z)
  obtain ⟨v, rfl, q⟩ := hr
  exact wpAny_pure q
end
section
variable {X : Cx} {k : Nat} {f C : Addr} {ps : List Str} {sp : Sp}
/-- o != p by own == -/
structure NeOf (K : PySem.W.Frag) (C : Addr) : Prop where
  ne : PySem.W.findIn K (.ref C) "__ne__" = some (some (.builtin "object.__ne__"))
  ob : PySem.W.mroIn K C (.type "object") = some true
theorem neo_ok {K : PySem.W.Frag} {c : Str} (h : (Fc.neo c).ok K = true) : NeOf K (He.ga K c) := by
  obtain ⟨h1, h2⟩ := He.ba h
  exact ⟨He.eqO_ok h1, of_decide_eq_true h2⟩
theorem Tx.neo {fc : List Fc} {ds : List DfP} {K : PySem.W.Frag} {mg : Str → Option Value} (T : Tx fc ds K mg) (i : Nat) {c : Str} (h : fc[i]? = some (.neo c) := by rfl) : NeOf K (He.ga K c) := neo_ok (T.fact i h)
def rNeI (C : Addr) (sp : Sp) : R2 := fun x y H Q => ∃ a dx fs b dy gs, x = .ref a ∧ y = .ref b ∧ H a = some (.ins C dx fs) ∧ H b = some (.ins C dy gs) ∧ sp [.ref a, .ref b] H (fun v H' => ∃ t : Bool, v = .bl t ∧ Q (.bl (!t)) H') E0
theorem q_ne (F : Ok X.prog X.w X.K X.mg X.base k f ps sp) (hm : Meth X.K C "__eq__" f) (hn : NeOf X.K C) {j : Nat} (hr : RoomG j X.A) (hj : k + 1 ≤ j := by first | decide | omega) : OpR X (compareOp .NotEq) (rNeI C sp) := by
  obtain ⟨fd, F1, B⟩ := F.ex
  have hr1 := hr.mono hj
  intro pins s σ H x y v u Q I rx ry ⟨a, dx, fs, b, dy, gs, e1, e2, ha, hb', h⟩
  subst e1 e2; cases rx; cases ry
  obtain ⟨od, J⟩ := ins_at I ha
  obtain ⟨od', J'⟩ := ins_at I hb'
  obtain ⟨m, hF⟩ := I.fr
  show wpAny (model X.prog X.w) X.A (richCompare .NotEq (.ref a) (.ref b)) (EP X pins σ Q) X.xe s
  refine neq_own (by have := hr1.rm.un; omega) hF I.ok.mod.kin J J' hn.ne hm.at_ hm.fn hn.ob (wpAny_mono (call_at F1 hr1.in1 rfl B passL I (.cons (rr (a := a)) (.cons (rr (a := b)) .nil)) h) (fun v s' hv => ?_) fun _ _ z => z)
  obtain ⟨w, H', I', rw_, t, ew, q⟩ := hv
  subst ew; cases rw_
  exact ⟨t, rfl, .bl (!t), H', I', rfl, q⟩
theorem z_revL {e : Expr} {te : TE} {k : Nat} {p1 p2 p3 pos : Pos} (K : PySem.W.Frag) (he : PE X e te) (hK : X.K = K := by rfl) : PE X (.Subscript e (.Slice none none (some (.UnaryOp .USub (.Constant (.int 1) k p1) p2)) p3) pos) (tRevL K te) := by subst hK; exact pe_revL he
theorem z_star {e : Expr} {es : List Expr} {te : TE} {t : TA} {p : Pos} (K : PySem.W.Frag) (he : PE X e te) (hr : PA X es t) (hK : X.K = K := by rfl) (hs : starEach (.Starred e p :: es) X.env = (true, eval e X.env) :: starEach es X.env := by rfl) : PA X (.Starred e p :: es) (StX.tStar K te t) := by subst hK; exact StX.pa_star he hr hs
end
section
variable {K : PySem.W.Frag} {E : XK} {G : Gm} {O : OL} {ke : Xd → Prop}
theorem opd_neI {c : Str} {w : Wt} : OpD K (rNeI (He.ga K c) (spD K w)) (fun a b k => ∃ fs gs, a = .obj c fs ∧ b = .obj c gs ∧ w [a, b] (fun d => ∃ t, d = .bl t ∧ k (.bl (!t))) F0) := by
  intro S H x y a b Q k dm rx ry ⟨fs, gs, e1, e2, h⟩ hq
  subst e1 e2
  have r1 := rx
  have r2 := ry
  cases rx with
  | obj n hh ek r =>
    cases ry with
    | obj n' hh' ek' r' => exact ⟨_, _, _, _, _, _, rfl, rfl, hh, hh', S, _, _, F0, dm, .cons r1 (.cons r2 .nil), h, fun v H' d ⟨t, e, kd⟩ s rv => by
        subst e; cases rv
        exact ⟨t, rfl, hq _ H' _ kd s (.bl _)⟩, eok_e0⟩
theorem df_rev {te : TE} {k : Ow → Prop} (h : DT K E te G O (fun a => ∃ xs, a = .lst xs ∧ k (.lst xs.reverse)) ke) : DF K E (tRevL K te) G O k ke := fun S0 Os σ H Q st hq he =>
  h.bind st he fun x H1 a ⟨xs, e, q⟩ s1 st1 he1 rx => by
    subst e
    cases rx with
    | lst n hh r => exact ⟨_, _, rfl, SqL.of hh, fun p np => hq p _ _ q (s1.trans (Same.put np)) (s1.free np) (own_new np r.reverse)⟩
theorem da_star {te : TE} {t : TA} {k : List D → Prop} (h : DT K E te G O (fun a => ∃ xs, (a = .lst xs ∨ a = .tup xs) ∧ DA K E t G O (fun ds => k (xs ++ ds)) ke) ke) : DA K E (StX.tStar K te t) G O k ke := fun S0 Os σ H Q st hq he =>
  h.bind st he fun x H1 a ⟨xs, e, ha⟩ s1 st1 he1 rx => by
    rcases e with e | e <;> subst e
    · cases rx with
      | lst n hh r => exact ⟨_, _, rfl, .inr (SqL.of hh), ha.bind st1 he1 fun ys H2 ds hb s2 st2 he2 ry => hq _ H2 _ hb (s1.trans s2) ((r.same s2).append ry)⟩
    · cases rx with
      | tup n hh r => exact ⟨_, _, rfl, .inl (SqT.of hh), ha.bind st1 he1 fun ys H2 ds hb s2 st2 he2 ry => hq _ H2 _ hb (s1.trans s2) ((r.same s2).append ry)⟩
end
end Fw

set_option maxHeartbeats 4000000
/-! Owned instances (rooms): lent for an expression; data in which no instance of a class lies. -/
namespace Fw
open PySem PySem.Spec PyProof.Rows L2
/-! ### data whose instances are of known classes -/
mutual
inductive NoX (ok : Str → Prop) : D → Prop where
  | non : NoX ok .non
  | bl (b : Bool) : NoX ok (.bl b)
  | int (i : Int) : NoX ok (.int i)
  | str (s : Str) : NoX ok (.str s)
  | ty (n : String) : NoX ok (.ty n)
  | stm : NoX ok .stm
  | scr (ns : List Int) : NoX ok (.scr ns)
  | lst {xs : List D} (h : NoXs ok xs) : NoX ok (.lst xs)
  | tup {xs : List D} (h : NoXs ok xs) : NoX ok (.tup xs)
  | dic {kvs : List (Key × D)} (h : NoXs ok (kvs.map Prod.snd)) : NoX ok (.dic kvs)
  | obj {c : Str} {fs : List (Str × D)} (hc : ok c) (h : NoXs ok (fs.map Prod.snd)) : NoX ok (.obj c fs)
inductive NoXs (ok : Str → Prop) : List D → Prop where
  | nil : NoXs ok []
  | cons {d : D} {ds : List D} (h : NoX ok d) (t : NoXs ok ds) : NoXs ok (d :: ds)
end
theorem NoXs.map {α : Type} {ok : Str → Prop} {f : α → D} : ∀ {xs : List α}, (∀ x ∈ xs, NoX ok (f x)) → NoXs ok (xs.map f)
  | [], _ => .nil
  | x :: xs, h => .cons (h x List.mem_cons_self) (NoXs.map (xs := xs) fun y hy => h y (List.mem_cons_of_mem _ hy))
theorem NoX.strs {ok : Str → Prop} (ss : List Str) : NoX ok (.lst (ss.map D.str)) := .lst (NoXs.map fun s _ => .str s)
theorem D.noX_flat {ok : Str → Prop} {d : D} (h : d.flat = true) : NoX ok d := by
  cases d <;> first | exact .non | exact .bl _ | exact .int _ | exact .str _ | exact .ty _ | cases h
section
variable {K : PySem.W.Frag} {S : Addr → Prop} {H : Hp} {ok : Str → Prop} {p dx : Addr} {c : Str} {fs : List (Str × V)}
mutual
theorem Rep.keep {v : V} {d : D} (hp : H p = some (.ins (He.ga K c) dx fs)) (ne : ∀ e, ok e → He.ga K e ≠ He.ga K c) : NoX ok d → Rep K S H v d → Rep K (fun b => S b ∨ b = p) H v d
  | _, .non => .non
  | _, .bl b => .bl b
  | _, .int i => .int i
  | _, .str s => .str s
  | _, .ty n => .ty n
  | .lst q, .lst n h r => .lst (fun z => z.elim n fun e => by rw [e, hp] at h; cases h) h (Reps.keep hp ne q r)
  | .tup q, .tup n h r => .tup (fun z => z.elim n fun e => by rw [e, hp] at h; cases h) h (Reps.keep hp ne q r)
  | .dic q, .dic n h e r => .dic (fun z => z.elim n fun e => by
      rcases h with h | ⟨o, h⟩
      · rw [e, hp] at h; cases h
      · rw [e, hp] at h; cases h) h e (Reps.keep hp ne q r)
  | .obj hc q, .obj n h e r => .obj (fun z => z.elim n fun e => by
      rw [e, hp] at h
      injection h with h
      injection h with h1
      exact ne _ hc h1.symm) h e (Reps.keep hp ne q r)
  | _, .stm n h => .stm (fun z => z.elim n fun e => by rw [e, hp] at h; cases h) h
  | _, .scr n h => .scr (fun z => z.elim n fun e => by
      rcases h with h | ⟨o, h⟩
      · rw [e, hp] at h; cases h
      · rw [e, hp] at h; cases h) h
  | _, .scrK h => .scrK h
theorem Reps.keep {vs : List V} {ds : List D} (hp : H p = some (.ins (He.ga K c) dx fs)) (ne : ∀ e, ok e → He.ga K e ≠ He.ga K c) : NoXs ok ds → Reps K S H vs ds → Reps K (fun b => S b ∨ b = p) H vs ds
  | _, .nil => .nil
  | .cons q qs, .cons h t => .cons (Rep.keep hp ne q h) (Reps.keep hp ne qs t)
end
end
/-! ### lent -/
section
variable {K : PySem.W.Frag} {E : XK} {G : Gm} {O : OL} {ke : Xd → Prop} {S0 : Addr → Prop} {Os : OLa} {σ : L2.St} {H : Hp}
theorem OwnAt.weak {S T : Addr → Prop} {a : Addr} {o : Ow} (so : ∀ b, T b → S b) (h : OwnAt K S H a o) : OwnAt K T H a o := by
  cases o with
  | lst ds => obtain ⟨vs, e, r⟩ := h; exact ⟨vs, e, Reps.weak so r⟩
  | dic ds => obtain ⟨vs, e, q, r⟩ := h; exact ⟨vs, e, q, Reps.weak so r⟩
  | obj c ds => obtain ⟨dx, vs, e, q, r⟩ := h; exact ⟨dx, vs, e, q, Reps.weak so r⟩
  | slf _ c ds => obtain ⟨ea, dx, vs, e, q, r⟩ := h; exact ⟨ea, dx, vs, e, q, Reps.weak so r⟩
/-- an owned thing is plain data for a while -/
theorem St1.lend (st : St1 K S0 G O Os σ H) {j i : Nat} {o : Ow} (ho : O[j]? = some (i, o)) (hl : i < G.length) :
    ∃ p, (p, i, o) ∈ Os ∧ OwnAt K (SO S0 Os) H p o ∧ (∀ a, SO S0 Os a ↔ SO S0 (Os.eraseIdx j) a ∨ a = p) ∧ St1 K S0 (G.set i (some o.d)) (O.eraseIdx j) (Os.eraseIdx j) σ H := by
  obtain ⟨p, hp, e, hpj⟩ := own_at st.os ho
  have w : ∀ a, W (Os.eraseIdx j) a → W Os a := fun a z => by
    obtain ⟨q, hq, e⟩ := List.mem_map.mp (show a ∈ (Os.eraseIdx j).map (·.1) from z)
    exact e ▸ List.mem_map_of_mem (f := (·.1)) (List.mem_of_mem_eraseIdx hq)
  have so : ∀ a, SO S0 (Os.eraseIdx j) a → SO S0 Os a := fun a z => z.imp id (w a)
  have np : ¬ W (Os.eraseIdx j) p.1 := fun z => by
    obtain ⟨q, hq, e⟩ := List.mem_map.mp (show p.1 ∈ (Os.eraseIdx j).map (·.1) from z)
    obtain ⟨n, hn2, hq2⟩ := List.mem_eraseIdx_iff_getElem?.mp hq
    have h1 : (Os.map (·.1))[j]? = some p.1 := by rw [List.getElem?_map, hpj]; rfl
    have h2 : (Os.map (·.1))[n]? = some p.1 := by rw [List.getElem?_map, hq2]; exact congrArg some e
    obtain ⟨l1, g1⟩ := List.getElem?_eq_some_iff.mp h1
    obtain ⟨l2, g2⟩ := List.getElem?_eq_some_iff.mp h2
    exact hn2 ((List.getElem_inj st.nd).mp (g2.trans g1.symm))
  obtain ⟨hs, oa⟩ := st.own p hp
  obtain ⟨p1, p2⟩ := p
  have e' : p2 = (i, o) := e
  subst e'
  have n1 : ¬ SO S0 (Os.eraseIdx j) p1 := fun z => z.elim (st.ns _ (List.mem_map_of_mem (f := (·.1)) hp)) np
  have rp : Rep K (SO S0 (Os.eraseIdx j)) H (.ref p1) o.d := by
    cases o with
    | lst ds => obtain ⟨vs, q, r⟩ := oa; exact .lst n1 q (Reps.weak so r)
    | dic ds => obtain ⟨vs, q, q2, r⟩ := oa; exact .dic n1 (.inl q) q2 (Reps.weak so r)
    | obj c ds => obtain ⟨dx, vs, q, q2, r⟩ := oa; exact .obj n1 q q2 (Reps.weak so r)
    | slf _ c ds => obtain ⟨ea, dx, vs, q, q2, r⟩ := oa; exact .obj n1 q q2 (Reps.weak so r)
  refine ⟨p1, hp, oa, fun a => ⟨fun z => ?_, fun z => z.elim (so a) fun e => .inr ?_⟩, ⟨?_, ?_, st.dom, fun a z => st.ns a (w a z), by rw [List.length_set]; exact st.len, fun n d q => ?_, fun q hq => ?_⟩⟩
  · rcases z with z | z
    · exact .inl (.inl z)
    · obtain ⟨q, hq, e⟩ := List.mem_map.mp (show a ∈ Os.map (·.1) from z)
      obtain ⟨n, hn⟩ := List.mem_iff_getElem?.mp hq
      by_cases hj : n = j
      · subst hj
        rw [hpj] at hn
        cases hn
        exact .inr e.symm
      · exact .inl (.inr (List.mem_map.mpr ⟨q, List.mem_eraseIdx_iff_getElem?.mpr ⟨n, hj, hn⟩, e⟩))
  · rw [e]
    exact List.mem_map_of_mem (f := (·.1)) hp
  · rw [map_erase, st.os]
  · rw [map_erase]
    exact st.nd.sublist (List.eraseIdx_sublist _ _)
  · by_cases hin : i = n
    · subst hin
      rw [List.getElem?_set_self hl] at q
      cases q
      exact ⟨_, hs, rp⟩
    · rw [List.getElem?_set_ne hin] at q
      obtain ⟨v, q1, r⟩ := st.re n d q
      exact ⟨v, q1, Rep.weak so r⟩
  · obtain ⟨h1, h2⟩ := st.own q (List.mem_of_mem_eraseIdx hq)
    exact ⟨h1, h2.weak so⟩
/-- what an exception says holds no such instance -/
def Xd.noX (ok : Str → Prop) (x : Xd) : Prop := ∀ f d, x.arg = some (f, d) → NoX ok d
theorem eok_lend {S T : Addr → Prop} {ok : Str → Prop} {p dx : Addr} {c : Str} {fs : List (Str × V)} (hp : H p = some (.ins (He.ga K c) dx fs)) (ne : ∀ e, ok e → He.ga K e ≠ He.ga K c) (so : ∀ a, T a → S a ∨ a = p) (he : EOk K T H E ke) : EOk K S H E (fun x => x.noX ok ∧ ke x) :=
  fun cls dd H' x ⟨nx, kx⟩ s r => he cls dd H' x kx s (by
    obtain ⟨r1, r2⟩ := r
    refine ⟨r1, ?_⟩
    cases ea : x.arg with
    | none => rw [ea] at r2; exact r2
    | some y =>
      obtain ⟨f, d⟩ := y
      rw [ea] at r2
      obtain ⟨q, v, h1, h2, h3⟩ := r2
      exact ⟨q, v, h1, h2, Rep.weak so (Rep.keep (s _ _ hp) ne (nx f d ea) h3)⟩)
/-- THE RULE: an expression that reads an owned instance; its answer holds no such instance -/
theorem dt_lend (j : Nat) {i : Nat} {c : Str} {fs : List (Str × D)} {o : Ow} {ok : Str → Prop} {t : TE} {k : D → Prop} (hoo : o = .obj c fs ∨ ∃ a, o = .slf a c fs) (ho : O[j]? = some (i, o)) (hl : i < G.length) (ne : ∀ e, ok e → He.ga K e ≠ He.ga K c)
    (h : DT K E t (G.set i (some (.obj c fs))) (O.eraseIdx j) (fun d => NoX ok d ∧ k d) (fun x => x.noX ok ∧ ke x)) : DT K E t G O k ke := fun S0 Os σ H Q st hq he => by
  obtain ⟨p, hp, oa, so, st2⟩ := st.lend ho hl
  have ed : o.d = .obj c fs := by rcases hoo with rfl | ⟨a, rfl⟩ <;> rfl
  rw [ed] at st2
  have hi : ∃ dx gs, H p = some (.ins (He.ga K c) dx gs) := by
    rcases hoo with rfl | ⟨a, rfl⟩
    · obtain ⟨dx, gs, e, _⟩ := oa; exact ⟨dx, gs, e⟩
    · obtain ⟨_, dx, gs, e, _⟩ := oa; exact ⟨dx, gs, e⟩
  obtain ⟨dx, gs, hi⟩ := hi
  exact h S0 _ σ H Q st2 (fun v H' d ⟨nd, kd⟩ s r => hq v H' d kd s (Rep.weak (fun a z => (so a).mp z) (Rep.keep (s _ _ hi) ne nd r))) (eok_lend hi ne (fun a z => (so a).mp z) he)
/-- .. a test -/
theorem dtt_lend (j : Nat) {i : Nat} {c : Str} {fs : List (Str × D)} {o : Ow} {ok : Str → Prop} {t : TT} {k : Bool → Prop} (hoo : o = .obj c fs ∨ ∃ a, o = .slf a c fs) (ho : O[j]? = some (i, o)) (hl : i < G.length) (ne : ∀ e, ok e → He.ga K e ≠ He.ga K c)
    (h : DTT K E t (G.set i (some (.obj c fs))) (O.eraseIdx j) k (fun x => x.noX ok ∧ ke x)) : DTT K E t G O k ke := fun S0 Os σ H Q st hq he => by
  obtain ⟨p, hp, oa, so, st2⟩ := st.lend ho hl
  have ed : o.d = .obj c fs := by rcases hoo with rfl | ⟨a, rfl⟩ <;> rfl
  rw [ed] at st2
  have hi : ∃ dx gs, H p = some (.ins (He.ga K c) dx gs) := by
    rcases hoo with rfl | ⟨a, rfl⟩
    · obtain ⟨dx, gs, e, _⟩ := oa; exact ⟨dx, gs, e⟩
    · obtain ⟨_, dx, gs, e, _⟩ := oa; exact ⟨dx, gs, e⟩
  obtain ⟨dx, gs, hi⟩ := hi
  exact h S0 _ σ H Q st2 hq (eok_lend hi ne (fun a z => (so a).mp z) he)
/-- .. arguments -/
theorem da_lend (j : Nat) {i : Nat} {c : Str} {fs : List (Str × D)} {o : Ow} {ok : Str → Prop} {t : TA} {k : List D → Prop} (hoo : o = .obj c fs ∨ ∃ a, o = .slf a c fs) (ho : O[j]? = some (i, o)) (hl : i < G.length) (ne : ∀ e, ok e → He.ga K e ≠ He.ga K c)
    (h : DA K E t (G.set i (some (.obj c fs))) (O.eraseIdx j) (fun d => NoXs ok d ∧ k d) (fun x => x.noX ok ∧ ke x)) : DA K E t G O k ke := fun S0 Os σ H Q st hq he => by
  obtain ⟨p, hp, oa, so, st2⟩ := st.lend ho hl
  have ed : o.d = .obj c fs := by rcases hoo with rfl | ⟨a, rfl⟩ <;> rfl
  rw [ed] at st2
  have hi : ∃ dx gs, H p = some (.ins (He.ga K c) dx gs) := by
    rcases hoo with rfl | ⟨a, rfl⟩
    · obtain ⟨dx, gs, e, _⟩ := oa; exact ⟨dx, gs, e⟩
    · obtain ⟨_, dx, gs, e, _⟩ := oa; exact ⟨dx, gs, e⟩
  obtain ⟨dx, gs, hi⟩ := hi
  exact h S0 _ σ H Q st2 (fun v H' d ⟨nd, kd⟩ s r => hq v H' d kd s (Reps.weak (fun a z => (so a).mp z) (Reps.keep (s _ _ hi) ne nd r))) (eok_lend hi ne (fun a z => (so a).mp z) he)
end
end Fw

set_option maxHeartbeats 4000000
/-! Defs that change an owned instance (spO), defs whose answer is a new thing (spF); returns that keep what is owned (DSR) or give it away (DSF). -/
namespace Fw
open PySem PySem.Spec PyProof.Rows L2
section
variable {K : PySem.W.Frag} {E : XK} {G : Gm} {O : OL} {ke : Xd → Prop}
/-- a statement whose return tells what is owned -/
def DSR (K : PySem.W.Frag) (E : XK) (t : TS) (G : Gm) (O : OL) (kn : Gm → OL → Prop) (kr : D → OL → Prop) (ke : Xd → Prop) : Prop :=
  ∀ (S0 : Addr → Prop) (H0 : Hp) (Os : OLa) (σ : L2.St) (H : Hp) (Ds : Ends), Frm S0 H0 Os H → St1 K S0 G O Os σ H →
    (∀ G' O' Os' σ' H', kn G' O' → Chg Os H Os' H' → St1 K S0 G' O' Os' σ' H' → Ds.nx σ' H') →
    (∀ v G' O' Os' σ' H' d, kr d O' → Chg Os H Os' H' → St1 K S0 G' O' Os' σ' H' → Rep K (SO S0 Os') H' v d → Ds.rt v H') → EOk K S0 H0 E ke → t Ds σ H
variable {kn : Gm → OL → Prop} {kr : D → OL → Prop}
theorem dsr_of {t : TS} (h : DS K E t G O kn (fun _ => False) ke) : DSR K E t G O kn kr ke := fun S0 H0 Os σ H Ds f st hn hr he =>
  h S0 H0 Os σ H Ds f st hn (fun v H' d kd _ _ => kd.elim) he
theorem dsr_ret {te : TE} (h : DT K E te G O (fun d => kr d O) ke) : DSR K E (tRet te) G O kn kr ke := fun S0 H0 Os σ H Ds f st hn hr he =>
  h.at_ f st he fun v H1 d kd s f1 st1 r => hr v G O Os σ H1 d kd (Chg.of_same s) st1 r
theorem dsr_seq {t u : TS} (h : DS K E t G O (fun G1 O1 => DSR K E u G1 O1 kn kr ke) (fun _ => False) ke) : DSR K E (tSeq t u) G O kn kr ke := fun S0 H0 Os σ H Ds f st hn hr he =>
  h S0 H0 Os σ H { Ds with nx := u Ds } f st (fun G1 O1 Os1 σ1 H1 k1 c1 st1 => k1 S0 H0 Os1 σ1 H1 Ds (f.step c1) st1 (fun G2 O2 Os2 σ2 H2 k2 c2 st2 => hn G2 O2 Os2 σ2 H2 k2 (c1.trans c2) st2)
    (fun v G2 O2 Os2 σ2 H2 d k2 c2 st2 r => hr v G2 O2 Os2 σ2 H2 d k2 (c1.trans c2) st2 r) he) (fun v H' d kd _ _ => kd.elim) he
theorem dsr_seqR {t u : TS} (h : DSR K E t G O (fun G1 O1 => DSR K E u G1 O1 kn kr ke) kr ke) : DSR K E (tSeq t u) G O kn kr ke := fun S0 H0 Os σ H Ds f st hn hr he =>
  h S0 H0 Os σ H { Ds with nx := u Ds } f st (fun G1 O1 Os1 σ1 H1 k1 c1 st1 => k1 S0 H0 Os1 σ1 H1 Ds (f.step c1) st1 (fun G2 O2 Os2 σ2 H2 k2 c2 st2 => hn G2 O2 Os2 σ2 H2 k2 (c1.trans c2) st2)
    (fun v G2 O2 Os2 σ2 H2 d k2 c2 st2 r => hr v G2 O2 Os2 σ2 H2 d k2 (c1.trans c2) st2 r) he) hr he
theorem dsr_if {c : TT} {t u : TS} (h : DTT K E c G O (fun b => (b = true → DSR K E t G O kn kr ke) ∧ (b = false → DSR K E u G O kn kr ke)) ke) : DSR K E (tIfS c t u) G O kn kr ke := fun S0 H0 Os σ H Ds f st hn hr he =>
  h.at_ f st he fun b H1 kb s f1 st1 => by
    cases b with
    | true => exact iteT (kb.1 rfl S0 H0 Os σ H1 Ds f1 st1 (fun G2 O2 Os2 σ2 H2 k2 c2 st2 => hn G2 O2 Os2 σ2 H2 k2 ((Chg.of_same s).trans c2) st2) (fun v G2 O2 Os2 σ2 H2 d k2 c2 st2 r => hr v G2 O2 Os2 σ2 H2 d k2 ((Chg.of_same s).trans c2) st2 r) he)
    | false => exact iteF (kb.2 rfl S0 H0 Os σ H1 Ds f1 st1 (fun G2 O2 Os2 σ2 H2 k2 c2 st2 => hn G2 O2 Os2 σ2 H2 k2 ((Chg.of_same s).trans c2) st2) (fun v G2 O2 Os2 σ2 H2 d k2 c2 st2 r => hr v G2 O2 Os2 σ2 H2 d k2 ((Chg.of_same s).trans c2) st2 r) he)
theorem dsr_next (h : kn G O) : DSR K E tNext G O kn kr ke := dsr_of (ds_next h)
/-- a statement whose return gives a new thing away -/
def DSF (K : PySem.W.Frag) (E : XK) (t : TS) (G : Gm) (O : OL) (kn : Gm → OL → Prop) (kf : Ow → Prop) (ke : Xd → Prop) : Prop :=
  ∀ (S0 : Addr → Prop) (H0 : Hp) (Os : OLa) (σ : L2.St) (H : Hp) (Ds : Ends), Frm S0 H0 Os H → St1 K S0 G O Os σ H →
    (∀ G' O' Os' σ' H', kn G' O' → Chg Os H Os' H' → St1 K S0 G' O' Os' σ' H' → Ds.nx σ' H') →
    (∀ p H' o, kf o → Same H0 H' → H0 p = none → OwnAt K (fun b => S0 b ∨ b = p) H' p o → Ds.rt (.ref p) H') → EOk K S0 H0 E ke → t Ds σ H
variable {kf : Ow → Prop}
theorem dsf_of {t : TS} (h : DS K E t G O kn (fun _ => False) ke) : DSF K E t G O kn kf ke := fun S0 H0 Os σ H Ds f st hn hr he =>
  h S0 H0 Os σ H Ds f st hn (fun v H' d kd _ _ => kd.elim) he
/-- an owned local -/
theorem dsf_own (j : Nat) {i : Nat} {o : Ow} (ho : O[j]? = some (i, o)) (h : kf o) : DSF K E (tRet (tVar i)) G O kn kf ke := fun S0 H0 Os σ H Ds f st hn hr he => by
  obtain ⟨p, hp, e, _⟩ := own_at st.os ho
  obtain ⟨hs, oa⟩ := st.own p hp
  obtain ⟨p1, p2⟩ := p
  have e' : p2 = (i, o) := e
  subst e'
  have wp : W Os p1 := List.mem_map_of_mem (f := (·.1)) hp
  exact ⟨_, hs, hr p1 H o h f.same (f.new p1 wp) (oa.weak fun b z => z.elim .inl fun e => .inr (e ▸ wp))⟩
/-- a new thing -/
theorem dsf_ret {te : TE} (h : DF K E te G O kf ke) : DSF K E (tRet te) G O kn kf ke := fun S0 H0 Os σ H Ds f st hn hr he =>
  h S0 Os σ H _ st (fun p H' o ko s np oa => hr p H' o ko (f.same.trans s) (f.same.free np) (oa.weak fun b z => z.imp (fun y => .inl y) id)) (he.so f)
theorem dsf_seq {t u : TS} (h : DS K E t G O (fun G1 O1 => DSF K E u G1 O1 kn kf ke) (fun _ => False) ke) : DSF K E (tSeq t u) G O kn kf ke := fun S0 H0 Os σ H Ds f st hn hr he =>
  h S0 H0 Os σ H { Ds with nx := u Ds } f st (fun G1 O1 Os1 σ1 H1 k1 c1 st1 => k1 S0 H0 Os1 σ1 H1 Ds (f.step c1) st1 (fun G2 O2 Os2 σ2 H2 k2 c2 st2 => hn G2 O2 Os2 σ2 H2 k2 (c1.trans c2) st2) hr he) (fun v H' d kd _ _ => kd.elim) he
theorem dsf_if {c : TT} {t u : TS} (h : DTT K E c G O (fun b => (b = true → DSF K E t G O kn kf ke) ∧ (b = false → DSF K E u G O kn kf ke)) ke) : DSF K E (tIfS c t u) G O kn kf ke := fun S0 H0 Os σ H Ds f st hn hr he =>
  h.at_ f st he fun b H1 kb s f1 st1 => by
    cases b with
    | true => exact iteT (kb.1 rfl S0 H0 Os σ H1 Ds f1 st1 (fun G2 O2 Os2 σ2 H2 k2 c2 st2 => hn G2 O2 Os2 σ2 H2 k2 ((Chg.of_same s).trans c2) st2) hr he)
    | false => exact iteF (kb.2 rfl S0 H0 Os σ H1 Ds f1 st1 (fun G2 O2 Os2 σ2 H2 k2 c2 st2 => hn G2 O2 Os2 σ2 H2 k2 ((Chg.of_same s).trans c2) st2) hr he)
end
/-! ### promises -/
abbrev WtF := List D → (Ow → Prop) → (Xd → Prop) → Prop
/-- a def whose answer is a new thing -/
def spF (K : PySem.W.Frag) (w : WtF) : Sp := fun vs H Q E => ∃ (S : Addr → Prop) (ds : List D) (k : Ow → Prop) (ke : Xd → Prop), (∀ a, S a → H a ≠ none) ∧ Reps K S H vs ds ∧ w ds k ke ∧
  (∀ p H' o, k o → Same H H' → H p = none → OwnAt K (fun b => S b ∨ b = p) H' p o → Q (.ref p) H') ∧ EOk K S H E ke
abbrev WtO := List D → List (Str × D) → List D → (D → List (Str × D) → Prop) → Prop
/-- a def that changes an instance that it is handed, after ds1; it lets nothing out -/
def spO (K : PySem.W.Frag) (c : Str) (w : WtO) : Sp := fun vs H Q _ => ∃ (S : Addr → Prop) (x : Addr) (vs1 vs2 : List V) (ds1 ds2 : List D) (fs : List (Str × D)) (k : D → List (Str × D) → Prop),
  vs = vs1 ++ .ref x :: vs2 ∧ ¬ S x ∧ (∀ a, S a → H a ≠ none) ∧ OwnAt K (fun b => S b ∨ b = x) H x (.obj c fs) ∧ Reps K (fun b => S b ∨ b = x) H vs1 ds1 ∧ Reps K (fun b => S b ∨ b = x) H vs2 ds2 ∧ w ds1 fs ds2 k ∧
  (∀ v H' d fs', k d fs' → SameX (fun b => b = x) H H' → OwnAt K (fun b => S b ∨ b = x) H' x (.obj c fs') → Rep K (fun b => S b ∨ b = x) H' v d → Q v H')
section
variable {K : PySem.W.Frag} {E : XK} {G : Gm} {O : OL} {ke : Xd → Prop}
theorem df_callF {w : WtF} {t : TA} {k : Ow → Prop} (h : DA K E t G O (fun ds => w ds k F0) ke) : DF K E (tCall (spF K w) [] E0 t) G O k ke := fun S0 Os σ H Q st hq he =>
  h.bind st he fun xs H1 ds ha s1 st1 he1 rx => by
    show spF K w (xs ++ []) H1 Q E0
    rw [List.append_nil]
    exact ⟨SO S0 Os, ds, k, F0, st1.domW, rx, ha, fun p H' o ko s np oa => hq p H' o ko (s1.trans s) (s1.free np) oa, eok_e0⟩
end
section
variable {P : Program} {w : World} {K : PySem.W.Frag} {mg : Str → Option Value} {base : Heap} {x qual : Str} {params : Arguments} {body : List Stmt} {scope : Scope} {f : Addr} {fd : FuncData}
/-- THE RULE for a def whose answer is new -/
theorem fnF {N ps : List Str} {k : Nat} {wt : WtF} (F : FunD K x qual params body scope [] [] f fd) (S : FnScope N ps scope) (len : ∀ ds kk ke, wt ds kk ke → ds.length = ps.length)
    (hb : ∀ (cdv : Value) (A : Around) (outer : List Env) (s : Shared) (H : Hp) (E : XK), RoomG k (A.deeper (envOfC qual scope s.heap.objs.size f cdv)) →
      ∃ t, PSs (cxOf (L2.CX P w) P w K mg base N qual scope f cdv A outer s H E) body t ∧ ∀ ds kk ke, wt ds kk ke → DSF K E t (startG N ds) [] (fun _ _ => False) kk ke) : FnG P w K mg base (L2.CX P w) (k + 1) f fd ps (spF K wt) := by
  refine g_fun F S (fun vs H Q E ⟨T, ds, kk, ke, dm, rr, hw, _⟩ => by rw [rr.length]; exact len ds kk ke hw) (fun cdv A outer s H vs Q E hr ⟨T, ds, kk, ke, dm, rr, hw, hq, he⟩ => ?_)
  obtain ⟨t, ht, hd⟩ := hb cdv A outer s H E hr
  exact ⟨t, ht, hd ds kk ke hw T H [] (L2.start N vs) H _ ⟨Same.refl H, fun a z => (by cases z), dm⟩ (start_st rr dm) (fun G' O' Os' σ' H' kn c st => kn.elim) (fun p H' o ko s np oa => hq p H' o ko s np oa) he⟩
/-- the locals at the start, the owned one left out -/
def startO (N : List Str) (ds1 ds2 : List D) : Gm := ds1.map some ++ none :: (ds2.map some ++ List.replicate (N.length - (ds1.length + 1 + ds2.length)) none)
theorem startO_get {N : List Str} {S : Addr → Prop} {H : Hp} {vs1 vs2 : List V} {ds1 ds2 : List D} {z : V} (r1 : Reps K S H vs1 ds1) (r2 : Reps K S H vs2 ds2) {i : Nat} {d : D} (e : (startO N ds1 ds2)[i]? = some (some d)) : ∃ v, (L2.start N (vs1 ++ z :: vs2))[i]? = some (some v) ∧ Rep K S H v d := by
  unfold startO at e
  unfold L2.start
  by_cases hi : i < ds1.length
  · rw [List.getElem?_append_left (by simpa using hi), List.getElem?_map] at e
    cases q : ds1[i]? with
    | none => rw [q] at e; cases e
    | some d' =>
      rw [q] at e; cases e
      obtain ⟨v, hv, rv⟩ := r1.get' q
      refine ⟨v, ?_, rv⟩
      rw [List.getElem?_append_left (by rw [List.length_map, List.length_append, r1.length]; omega), List.getElem?_map, List.getElem?_append_left (by rw [r1.length]; exact hi), hv]; rfl
  · rw [List.getElem?_append_right (by simpa using hi), List.length_map] at e
    cases hm : i - ds1.length with
    | zero => rw [hm] at e; cases e
    | succ n =>
      rw [hm, List.getElem?_cons_succ] at e
      by_cases hn : n < ds2.length
      · rw [List.getElem?_append_left (by simpa using hn), List.getElem?_map] at e
        cases q : ds2[n]? with
        | none => rw [q] at e; cases e
        | some d' =>
          rw [q] at e; cases e
          obtain ⟨v, hv, rv⟩ := r2.get' q
          refine ⟨v, ?_, rv⟩
          rw [List.getElem?_append_left (by rw [List.length_map, List.length_append, List.length_cons, r1.length, r2.length]; omega), List.getElem?_map, List.getElem?_append_right (by rw [r1.length]; omega), r1.length, hm, List.getElem?_cons_succ, hv]; rfl
      · rw [List.getElem?_append_right (by simpa using hn), List.getElem?_replicate] at e
        split at e <;> cases e
/-- THE RULE for a def that changes an instance -/
theorem fnO {N ps : List Str} {k : Nat} {c : Str} {wt : WtO} (F : FunD K x qual params body scope [] [] f fd) (S : FnScope N ps scope) (hN : ps.length ≤ N.length) (len : ∀ ds1 fs ds2 kk, wt ds1 fs ds2 kk → ds1.length + 1 + ds2.length = ps.length)
    (hb : ∀ (cdv : Value) (A : Around) (outer : List Env) (s : Shared) (H : Hp) (E : XK), RoomG k (A.deeper (envOfC qual scope s.heap.objs.size f cdv)) →
      ∃ t, PSs (cxOf (L2.CX P w) P w K mg base N qual scope f cdv A outer s H E) body t ∧ ∀ (x : Addr) ds1 fs ds2 kk, wt ds1 fs ds2 kk → DSR K E t (startO N ds1 ds2) [(ds1.length, .slf x c fs)] (fun _ O' => ∃ fs', O' = [(ds1.length, .slf x c fs')] ∧ kk .non fs') (fun d O' => ∃ fs', O' = [(ds1.length, .slf x c fs')] ∧ kk d fs') F0) : FnG P w K mg base (L2.CX P w) (k + 1) f fd ps (spO K c wt) := by
  refine g_fun F S (fun vs H Q E ⟨T, x, vs1, vs2, ds1, ds2, fs, kk, e, nx, dm, oa, r1, r2, hw, _⟩ => by rw [e, List.length_append, List.length_cons, r1.length, r2.length]; have := len ds1 fs ds2 kk hw; omega) (fun cdv A outer s H vs Q E hr ⟨T, x, vs1, vs2, ds1, ds2, fs, kk, e, nx, dm, oa, r1, r2, hw, hq⟩ => ?_)
  subst e
  obtain ⟨t, ht, hd⟩ := hb cdv A outer s H E hr
  have hlen := len ds1 fs ds2 kk hw
  have s0 : Same (del H x) H := fun a u e => by
    by_cases h : a = x
    · subst h; rw [del_same] at e; cases e
    · rw [del_ne h] at e; exact e
  have wx : ∀ o a, W [(x, ds1.length, o)] a ↔ a = x := fun o a => by
    show a ∈ [x] ↔ _
    exact List.mem_singleton
  have so : ∀ o a, SO T [(x, ds1.length, o)] a → T a ∨ a = x := fun o a z => z.imp id (wx o a).mp
  have w1 : ∀ o a, (T a ∨ a = x) → SO T [(x, ds1.length, o)] a := fun o a z => z.imp id (wx o a).mpr
  have fin : ∀ {G' : Gm} {O' : OL} {Os' : OLa} {σ' : L2.St} {H' : Hp} {fs' : List (Str × D)}, O' = [(ds1.length, .slf x c fs')] → St1 K T G' O' Os' σ' H' → Os' = [(x, ds1.length, .slf x c fs')] ∧ OwnAt K (fun b => T b ∨ b = x) H' x (.obj c fs') := fun {G' O' Os' σ' H' fs'} eo st => by
    have hos := st.os
    rw [eo] at hos
    cases Os' with
    | nil => cases hos
    | cons q qs =>
      cases qs with
      | cons _ _ =>
        have hz := congrArg List.length hos
        simp at hz
      | nil =>
        obtain ⟨q1, q2⟩ := q
        have e2 : q2 = (ds1.length, .slf x c fs') := by simpa using hos
        obtain ⟨hs, oa⟩ := st.own (q1, q2) List.mem_cons_self
        subst e2
        obtain ⟨ea, dx', vs2, h1, h2, h3⟩ := oa
        have ea' : q1 = x := ea
        subst ea'
        exact ⟨rfl, dx', vs2, h1, h2, Reps.weak (w1 _) h3⟩
  refine ⟨t, ht, hd x ds1 fs ds2 kk hw T (del H x) [(x, ds1.length, .slf x c fs)] (L2.start N (vs1 ++ .ref x :: vs2)) H _ ⟨s0, fun a z => by rw [(wx _ a).mp z]; exact del_same, fun a ta => by rw [del_ne fun z => nx (by rw [← z]; exact ta)]; exact dm a ta⟩
    ⟨rfl, ?_, dm, fun a z => by rw [(wx _ a).mp z]; exact nx, ?_, fun i d e => startO_get (Reps.weak (so _) r1) (Reps.weak (so _) r2) e, fun p hp => ?_⟩ (fun G' O' Os' σ' H' ⟨fs', eo, kf⟩ cc st => ?_) (fun v G' O' Os' σ' H' d ⟨fs', eo, kf⟩ cc st r => ?_) (fun _ _ _ _ z => z.elim)⟩
  · exact List.nodup_cons.mpr ⟨by simp, List.nodup_nil⟩
  · unfold L2.start startO
    simp only [List.length_append, List.length_map, List.length_replicate, List.length_cons, r1.length, r2.length]
    omega
  · have e := List.mem_singleton.mp hp
    subst e
    refine ⟨?_, rfl, ?_⟩
    · show (L2.start N (vs1 ++ .ref x :: vs2))[ds1.length]? = _
      unfold L2.start
      rw [List.getElem?_append_left (by rw [List.length_map, List.length_append, List.length_cons, r1.length]; omega), List.getElem?_map, List.getElem?_append_right (by rw [r1.length]; omega), r1.length, Nat.sub_self]; rfl
    · obtain ⟨dx, gs, h1, h2, h3⟩ := oa
      exact ⟨dx, gs, h1, h2, Reps.weak (so _) h3⟩
  · obtain ⟨eO, oa'⟩ := fin eo st
    exact hq .non H' .non fs' kf (fun a n u e => cc.same a (fun z => n ((wx _ a).mp z)) u e) oa' .non
  · obtain ⟨eO, oa'⟩ := fin eo st
    subst eO
    exact hq v H' d fs' kf (fun a n u e => cc.same a (fun z => n ((wx _ a).mp z)) u e) oa' (Rep.weak (w1 _) r)
end
end Fw

set_option maxHeartbeats 4000000
/-! Calls that change an owned instance. -/
namespace Fw
open PySem PySem.Spec PyProof.Rows L2
section
variable {K : PySem.W.Frag} {E : XK} {G : Gm} {O : OL} {ke : Xd → Prop} {kn : Gm → OL → Prop} {kr : D → Prop}
theorem St1.own_setX {S0 : Addr → Prop} {Os : OLa} {σ : L2.St} {H H' : Hp} (st : St1 K S0 G O Os σ H) {j : Nat} {p : Addr} {i : Nat} {o o' : Ow} (hp : Os[j]? = some (p, i, o)) (oa : OwnAt K (SO S0 Os) H' p o') (hl : SameX (fun b => b = p) H H') :
    St1 K S0 G (O.set j (i, o')) (Os.set j (p, i, o')) σ H' := by
  have hj : j < Os.length := (List.getElem?_eq_some_iff.mp hp).1
  have em : (Os.set j (p, i, o')).map (·.1) = Os.map (·.1) := by
    rw [List.map_set]
    apply List.ext_getElem?
    intro n
    by_cases hn : j = n
    · subst hn
      rw [List.getElem?_set_self (by rw [List.length_map]; exact hj), List.getElem?_map, hp]; rfl
    · rw [List.getElem?_set_ne hn]
  have w : ∀ a, W (Os.set j (p, i, o')) a ↔ W Os a := fun a => by show a ∈ _ ↔ a ∈ _; rw [em]
  have so : SO S0 (Os.set j (p, i, o')) = SO S0 Os := by
    funext a; exact propext ⟨fun z => z.imp id (w a).mp, fun z => z.imp id (w a).mpr⟩
  have hmem : (p, i, o) ∈ Os := List.mem_of_getElem? hp
  have wp : W Os p := List.mem_map_of_mem (f := (·.1)) hmem
  have lx : LeX (SO S0 Os) H H' := hl.lex.weak fun a z => .inr (z ▸ wp)
  refine ⟨by rw [List.map_set, st.os], by rw [em]; exact st.nd, fun a z => ?_, fun a z => st.ns a ((w a).mp z), st.len, fun n d e => ?_, fun q hq => ?_⟩
  · have na : ¬ W Os a := fun y => st.ns a y z
    have ne : a ≠ p := fun y => na (by rw [y]; exact wp)
    cases e : H a with
    | none => exact absurd e (st.dom a z)
    | some u => rw [hl a ne u e]; simp
  · obtain ⟨v, e1, r⟩ := st.re n d e
    rw [so]
    exact ⟨v, e1, Rep.mono lx r⟩
  · rw [so]
    obtain ⟨n, hn⟩ := List.mem_iff_getElem?.mp hq
    by_cases hjn : j = n
    · subst hjn
      rw [List.getElem?_set_self hj] at hn
      cases hn
      exact ⟨(st.own _ hmem).1, oa⟩
    · rw [List.getElem?_set_ne hjn] at hn
      have hq' := List.mem_of_getElem? hn
      obtain ⟨hs, ob⟩ := st.own q hq'
      refine ⟨hs, ?_⟩
      have ne : q.1 ≠ p := fun z => hjn (by
        have nd := st.nd
        have h1 : (Os.map (·.1))[j]? = some p := by rw [List.getElem?_map, hp]; rfl
        have h2 : (Os.map (·.1))[n]? = some p := by rw [List.getElem?_map, hn]; exact congrArg some z
        obtain ⟨l1, g1⟩ := List.getElem?_eq_some_iff.mp h1
        obtain ⟨l2, g2⟩ := List.getElem?_eq_some_iff.mp h2
        exact (List.getElem_inj nd).mp (g1.trans g2.symm))
      generalize q.2.2 = ow at ob ⊢
      cases ow with
      | lst ds => obtain ⟨vs, e, r⟩ := ob; exact ⟨vs, hl _ ne _ e, Reps.mono lx r⟩
      | dic ds => obtain ⟨vs, e, q, r⟩ := ob; exact ⟨vs, hl _ ne _ e, q, Reps.mono lx r⟩
      | obj c ds => obtain ⟨dx, vs, e, q, r⟩ := ob; exact ⟨dx, vs, hl _ ne _ e, q, Reps.mono lx r⟩
      | slf _ c ds => obtain ⟨ea, dx, vs, e, q, r⟩ := ob; exact ⟨ea, dx, vs, hl _ ne _ e, q, Reps.mono lx r⟩
theorem chg_putX {Os : OLa} {H H' : Hp} {p : Addr} {j i : Nat} {o o' : Ow} (hp : Os[j]? = some (p, i, o)) (hl : SameX (fun b => b = p) H H') : Chg Os H (Os.set j (p, i, o')) H' := by
  have hmem : (p, i, o) ∈ Os := List.mem_of_getElem? hp
  refine ⟨fun a n u e => hl a (fun z => n (by rw [z]; exact List.mem_map_of_mem (f := (·.1)) hmem)) u e, fun a z => ?_⟩
  have z' : a ∈ (Os.set j (p, i, o')).map (·.1) := z
  obtain ⟨q, hq, e⟩ := List.mem_map.mp z'
  rcases List.mem_or_eq_of_mem_set hq with hq | hq
  · exact .inl (e ▸ List.mem_map_of_mem (f := (·.1)) hq)
  · subst hq
    exact .inl (e ▸ List.mem_map_of_mem (f := (·.1)) hmem)
/-- the fields of an instance have no method's name -/
theorem fld_none {S : Addr → Prop} {H : Hp} {m : Str} {fs : List (Str × V)} {ds : List (Str × D)} (ek : fs.map Prod.fst = ds.map Prod.fst) (r : Reps K S H (fs.map Prod.snd) (ds.map Prod.snd)) (l : ds.lookup m = none) : fs.lookup m = none := by
  rcases lookup_rep (f := m) ek r with ⟨_, z⟩ | ⟨v, d, z, _⟩
  · exact z
  · rw [l] at z; cases z
/-- x.m(..), x an owned local that it changes -/
theorem ds_methO (j : Nat) {i : Nat} {w : WtO} {c m : Str} {fs : List (Str × D)} {t : TA} (ho : O[j]? = some (i, .obj c fs)) (l : fs.lookup m = none)
    (h : DA K E t G O (fun ds => w [] fs ds (fun d fs' => kn G (O.set j (i, .obj c fs')))) ke) : DS K E (tDrop (tMeth (He.ga K c) m (spO K c w) [] E0 (tVar i) t)) G O kn kr ke := fun S0 H0 Os σ H Ds f st hn hr he => by
  obtain ⟨p0, hp, e, hpj⟩ := own_at st.os ho
  obtain ⟨hs, oa⟩ := st.own p0 hp
  obtain ⟨p, p2⟩ := p0
  have e' : p2 = (i, .obj c fs) := e
  subst e'
  obtain ⟨dx, gs, hh, ek, r⟩ := oa
  refine ⟨_, hs, p, dx, gs, rfl, hh, fld_none ek r l, h.at_ f st he fun xs H2 ds hw s2 f2 st2 ry => ?_⟩
  rw [List.append_nil]
  have hp2 : (p, i, Ow.obj c fs) ∈ Os := hp
  have wp : W Os p := List.mem_map_of_mem (f := (·.1)) hp
  obtain ⟨_, oa2⟩ := st2.own _ hp2
  let T : Addr → Prop := fun b => SO S0 Os b ∧ b ≠ p
  have so : ∀ a, (T a ∨ a = p) ↔ SO S0 Os a := fun a => ⟨fun z => z.elim (fun y => y.1) fun y => .inr (y ▸ wp), fun z => (Classical.em (a = p)).elim .inr fun n => .inl ⟨z, n⟩⟩
  refine ⟨T, p, [], xs, [], ds, fs, _, rfl, fun z => z.2 rfl, fun a z => st2.domW a z.1, oa2.weak fun a z => (so a).mp z, .nil, Reps.weak (fun a z => (so a).mp z) ry, hw, fun v H' d fs' kd sx oa' rv => ?_⟩
  exact hn _ _ _ σ H' kd ((Chg.of_same s2).trans (chg_putX hpj sx)) (st2.own_setX hpj (oa'.weak fun a z => (so a).mpr z) sx)
/-- f(a, new): the new instance is changed and forgotten -/
theorem dt_callO2 {w : WtO} {c : Str} {ta tf : TE} {k : D → Prop} (h : DT K E ta G O (fun a => DF K E tf G O (fun o => ∃ fs, o = .obj c fs ∧ w [a] fs [] (fun d _ => k d)) ke) ke) : DT K E (tCall (spO K c w) [] E0 (tCons ta (tCons tf tNil))) G O k ke := fun S0 Os σ H Q st hq he =>
  h.bind st he fun x H1 a ha s1 st1 he1 rx => ha S0 Os σ H1 _ st1 (fun p H2 o ⟨fs, e, hw⟩ s2 np oa => by
    subst e
    show spO K c w ([x, .ref p] ++ []) H2 Q E0
    rw [List.append_nil]
    have st2 := st1.same s2
    refine ⟨SO S0 Os, p, [x], [], [a], [], fs, _, rfl, fun z => st1.domW p z np, fun a z => st2.domW a z, oa, Reps.same (Reps.avoid (fun a z => z.elim .inl fun e => .inr (e ▸ np)) (.cons rx .nil)) s2, .nil, hw, fun v H' d fs' kd sx oa' rv => ?_⟩
    refine hq v H' d kd (fun b u e => ?_) (Rep.weak (fun a z => .inl z) rv)
    have e1 := s1 b u e
    exact sx b (fun z => by rw [z, np] at e1; cases e1) u (s2 b u e1)) he1
end
end Fw

set_option maxHeartbeats 4000000
/-! a, b = new, datum. -/
namespace Fw
open PySem PySem.Spec PyProof.Rows L2
section
variable {K : PySem.W.Frag} {E : XK} {G : Gm} {O : OL} {ke : Xd → Prop} {kn : Gm → OL → Prop} {kr : D → Prop}
/-- the first is new -/
theorem ds_parFV {i j : Nat} {ta tb : TE} (hij : i ≠ j) (hi : ∀ o ∈ O, o.1 ≠ i) (hj : ∀ o ∈ O, o.1 ≠ j) (hl : i < G.length)
    (h : DF K E ta G O (fun o1 => DT K E tb G O (fun b => kn ((G.set i none).set j (some b)) ((i, o1) :: O)) ke) ke) : DS K E (tPar i j (tCons ta (tCons tb tNil))) G O kn kr ke := fun S0 H0 Os σ H Ds f st hn hr he =>
  h S0 Os σ H _ st (fun p H1 o1 k1 s1 np1 oa1 => by
    have st1 := st.same s1
    have hp1 : H1 p ≠ none := oa1.there
    let S0' : Addr → Prop := fun b => S0 b ∨ b = p
    have nW : ¬ W Os p := fun z => st.domW p (.inr z) np1
    have so : ∀ a, SO S0' Os a → SO S0 Os a ∨ a = p := fun a z => z.elim (fun z => z.elim (fun z => .inl (.inl z)) .inr) fun z => .inl (.inr z)
    have so2 : ∀ a, SO S0' Os a → SO S0 Os a ∨ H a = none := fun a z => (so a z).elim .inl fun e => .inr (by rw [e]; exact np1)
    have st1' : St1 K S0' G O Os σ H1 := by
      refine ⟨st1.os, st1.nd, fun a z => z.elim (st1.dom a) fun e => by rw [e]; exact hp1, fun a w z => z.elim (st1.ns a w) fun e => nW (by rw [← e]; exact w), st1.len, fun n e q => ?_, fun q hq => ?_⟩
      · obtain ⟨v, e1, r⟩ := st.re n e q
        exact ⟨v, e1, Rep.same (Rep.avoid so2 r) s1⟩
      · obtain ⟨h1, h2⟩ := st.own q hq
        refine ⟨h1, ?_⟩
        generalize q.2.2 = ow at h2 ⊢
        cases ow with
        | lst ds => obtain ⟨us, e, r⟩ := h2; exact ⟨us, s1 _ _ e, Reps.same (Reps.avoid so2 r) s1⟩
        | dic ds => obtain ⟨us, e, q, r⟩ := h2; exact ⟨us, s1 _ _ e, q, Reps.same (Reps.avoid so2 r) s1⟩
        | obj c ds => obtain ⟨dx, us, e, q, r⟩ := h2; exact ⟨dx, us, s1 _ _ e, q, Reps.same (Reps.avoid so2 r) s1⟩
        | slf _ c ds => obtain ⟨ea, dx, us, e, q, r⟩ := h2; exact ⟨ea, dx, us, s1 _ _ e, q, Reps.same (Reps.avoid so2 r) s1⟩
    have he1 : EOk K (SO S0' Os) H1 E ke := fun c d H2 x kx l r => (he.so f) c d H2 x kx (s1.trans l) (by
      obtain ⟨e, r⟩ := r
      refine ⟨e, ?_⟩
      cases q : x.arg with
      | none => rw [q] at r; exact r
      | some pr =>
        rw [q] at r
        obtain ⟨a, v, h1, h2, h3⟩ := r
        exact ⟨a, v, h1, h2, Rep.weak (fun a z => z.elim (fun z => .inl (.inl z)) .inr) h3⟩)
    refine k1 S0' Os σ H1 _ st1' (fun v H2 b kb s2 rv => ⟨_, _, rfl, ?_⟩) he1
    have A := (st.own_new (i := i) s1 np1 oa1 hi hl).same s2
    have w1 : ∀ a, SO S0 ((p, i, o1) :: Os) a → SO S0' Os a := fun a z => by
      rcases z with z | z
      · exact .inl (.inl z)
      · have z' : a ∈ List.map _ _ := z
        rw [List.map_cons, List.mem_cons] at z'
        rcases z' with z' | z'
        · exact .inl (.inr z')
        · exact .inr z'
    refine hn _ _ ((p, i, o1) :: Os) _ H2 kb ⟨Same.sx (s1.trans s2), fun a z => ?_⟩ (A.set (Rep.weak w1 rv) fun o ho => ?_)
    · have z' : a ∈ List.map _ _ := z
      rw [List.map_cons, List.mem_cons] at z'
      rcases z' with z' | z'
      · exact .inr (by rw [z']; exact np1)
      · exact .inl z'
    · rcases List.mem_cons.mp ho with rfl | ho
      · exact hij
      · exact hj o ho) (he.so f)
end
end Fw

set_option maxHeartbeats 4000000
/-! repr of data; owned lists read; owned instances changed by a method within a def that owns them; new things made from a lent instance. -/
namespace Fw
open PySem PySem.Spec PyProof.Rows L2
/-! ### repr -/
def rReprD (K : PySem.W.Frag) : List V → Hp → VK → Prop := fun xs H Q => ∃ x d, xs = [x] ∧ Dp K H x d ∧ d.canLay0 = true ∧ d.depth ≤ 20 ∧ d.showable = true ∧ d.shown.length ≤ sizeLine ∧ Q (.str d.shown) H
theorem z_repr {X : Cx} {k : Nat} (K : PySem.W.Frag) (hr : RoomG k X.A) (hK : X.K = K := by rfl) : CallR X (.builtin "repr") (rReprD K) := by
  subst hK
  intro pins s σ H xs us Q I r h
  obtain ⟨x, d, rfl, hd, sh, dp, hs, hz, q⟩ := h
  obtain ⟨u, rfl, ru⟩ := vals1 r
  obtain ⟨as, rd⟩ := Dp.reads I d x u hd ru
  have hu : X.A.units + (d.depth + 1) < cLine := Nat.lt_of_le_of_lt (Nat.add_le_add_left (by omega : d.depth + 1 ≤ 64) _) hr.rm.units
  have go : ∀ a, u = .ref a → wpAny (model X.prog X.w) X.A (call (.builtin "repr") [u]) (EP X pins σ Q) X.xe s := fun a e => by
    subst e
    exact repr_of_reads' rd hs (PyData.noDict_hsm (PyData.hasDict_of_canLay d sh)) hr.gd hu (fun _ _ e => e) (fun h' u tk hk => ⟨.str _, H, I.kept hk, ⟨_, rfl⟩, q⟩) hz
  cases hd with
  | non =>
    obtain rfl : u = Value.none := ru
    exact PySem.P.repr_of_none ⟨.str _, H, I.tok _, ⟨_, rfl⟩, q⟩
  | bl b =>
    obtain rfl : u = Value.bool b := ru
    exact PySem.P.repr_of_bool ⟨.str _, H, I.tok _, ⟨_, rfl⟩, q⟩
  | int i =>
    obtain ⟨t, rfl⟩ := ru
    exact PySem.P.repr_of_int (of_decide_eq_true hs) ⟨.str _, H, I.tok _, ⟨_, rfl⟩, q⟩
  | str z =>
    obtain ⟨t, rfl⟩ := ru
    exact PySem.P.repr_of_str ⟨.str _, H, I.tok _, ⟨_, rfl⟩, q⟩ hz
  | lst h1 h2 => exact go _ ru
  | tup h1 h2 => exact go _ ru
/-- what repr writes -/
def shownD (d : D) : Str := match d.pd with
  | some p => p.shown
  | none => ""
def ReprOk (d : D) : Prop := ∃ p, d.pd = some p ∧ p.canLay0 = true ∧ p.depth ≤ 20 ∧ p.showable = true ∧ p.shown.length ≤ sizeLine
theorem cad_repr {K : PySem.W.Frag} : CaD K (rReprD K) (fun ds k => ∃ d, ds = [d] ∧ ReprOk d ∧ k (.str (shownD d))) := by
  intro S H xs ds Q k dm rx ⟨d, e, ⟨p, e1, h1, h2, h3, h4⟩, kd⟩ hq
  subst e
  cases rx with
  | cons hx t =>
    cases t
    have es : shownD d = p.shown := by unfold shownD; rw [e1]
    rw [es] at kd
    exact ⟨_, p, rfl, dp_of d _ p hx e1, h1, h2, h3, h4, hq _ H _ kd (Same.refl H) (.str _)⟩
theorem pds_nats : ∀ ns : List Nat, D.pds (ns.map fun n => D.int (n : Nat)) = some (ns.map fun n => PyData.int (n : Nat))
  | [] => rfl
  | n :: r => by
    rw [List.map_cons]
    unfold D.pds
    rw [pds_nats r]; rfl
theorem pd_nats (ns : List Nat) : (D.lst (ns.map fun n => D.int (n : Nat))).pd = some (.list (ns.map fun n => PyData.int (n : Nat))) := by
  unfold D.pd; rw [pds_nats]; rfl
theorem lay_nats : ∀ ns : List Nat, PyData.canLayAll0 (ns.map fun n => PyData.int (n : Nat)) = true
  | [] => rfl
  | n :: r => by
    rw [List.map_cons]
    simp only [PyData.canLayAll0, PyData.canLay0, lay_nats r, Bool.and_self]
theorem depth_nats : ∀ ns : List Nat, PyData.depthAll (ns.map fun n => PyData.int (n : Nat)) = 0
  | [] => rfl
  | n :: r => by
    rw [List.map_cons]
    simp only [PyData.depthAll, PyData.depth, depth_nats r, Nat.max_self]
theorem shaped_nats (ns : List Nat) : SeqAt.shaped (.list (ns.map fun n => PyData.int (n : Nat))) = true := by
  show (PyData.canLay0 (.list _) && decide (PyData.depth (.list _) ≤ 64)) = true
  simp only [PyData.canLay0, PyData.depth, lay_nats, depth_nats, Bool.true_and]
  decide
theorem eqvAll_nats : ∀ ms ns : List Nat, PyData.eqvAll (ms.map fun n => PyData.int (n : Nat)) (ns.map fun n => PyData.int (n : Nat)) = decide (ms = ns)
  | [], [] => by simp [PyData.eqvAll]
  | [], _ :: _ => by simp [PyData.eqvAll]
  | _ :: _, [] => by simp [PyData.eqvAll]
  | m :: ms, n :: ns => by
    rw [List.map_cons, List.map_cons]
    simp only [PyData.eqvAll, PyData.eqv, eqvAll_nats ms ns]
    by_cases h : m = n
    · subst h; simp
    · have h2 : ¬ ((m : Int) = (n : Int)) := by omega
      simp [h, h2]
theorem eqv_nats (ms ns : List Nat) : PyData.eqv (.list (ms.map fun n => PyData.int (n : Nat))) (.list (ns.map fun n => PyData.int (n : Nat))) = decide (ms = ns) := by
  simp only [PyData.eqv, eqvAll_nats]
theorem small_nat {n : Nat} (h : n < 1000) : n.log2 < 10 := by
  by_cases z : n = 0
  · subst z; decide
  · exact (Nat.log2_lt z).mpr (by omega)
theorem repr_nats {ns : List Nat} (hl : ns.length ≤ 1000) (h : ∀ n ∈ ns, n < 1000) : ReprOk (.lst (ns.map fun n => D.int (n : Nat))) := by
  refine ⟨_, pd_nats ns, ?_, ?_, ?_, ?_⟩
  · simp only [PyData.canLay0, lay_nats]
  · simp only [PyData.depth, depth_nats]; decide
  · have : ∀ ms : List Nat, (∀ n ∈ ms, n < 1000) → PyData.showableAll (ms.map fun n => PyData.int (n : Nat)) = true := by
      intro ms
      induction ms with
      | nil => intro _; rfl
      | cons n r ih =>
        intro hm
        rw [List.map_cons]
        simp only [PyData.showableAll, PyData.showable, ih fun m hm' => hm m (List.mem_cons_of_mem _ hm'), Bool.and_true, decide_eq_true_eq]
        have := small_nat (hm n List.mem_cons_self)
        show (n : Int).natAbs.log2 < 1920
        rw [Int.natAbs_natCast]; omega
    simp only [PyData.showable]
    exact this ns h
  · have hi : ∀ ms : List Nat, (∀ n ∈ ms, n < 1000) → PyData.intsShortAll 13 (ms.map fun n => PyData.int (n : Nat)) = true := by
      intro ms
      induction ms with
      | nil => intro _; rfl
      | cons n r ih =>
        intro hm
        rw [List.map_cons]
        simp only [PyData.intsShortAll, PyData.intsShort, ih fun m hm' => hm m (List.mem_cons_of_mem _ hm'), Bool.and_true, decide_eq_true_eq]
        refine PyData.shown_int_le ?_
        rw [Int.natAbs_natCast]
        have := hm n List.mem_cons_self
        omega
    have hw : ∀ ms : List Nat, (∀ n ∈ ms, n < 1000) → PyData.weightAll (ms.map fun n => PyData.int (n : Nat)) ≤ 20 * ms.length := by
      intro ms
      induction ms with
      | nil => intro _; exact Nat.le_refl _
      | cons n r ih =>
        intro hm
        rw [List.map_cons]
        simp only [PyData.weightAll, PyData.weight, List.length_cons]
        have i1 := ih fun m hm' => hm m (List.mem_cons_of_mem _ hm')
        have i2 := small_nat (hm n List.mem_cons_self)
        rw [Int.natAbs_natCast]
        split <;> omega
    have b := PyData.shown_le 13 (by decide) (.list (ns.map fun n => PyData.int (n : Nat))) (PyData.leavesShort_of_canLay0 13 _ (by simp only [PyData.canLay0, lay_nats]) (by simp only [PyData.intsShort]; exact hi ns h))
    have w := hw ns h
    have e : PyData.weight (.list (ns.map fun n => PyData.int (n : Nat))) = PyData.weightAll (ns.map fun n => PyData.int (n : Nat)) := by simp only [PyData.weight]
    rw [e] at b
    rw [sizeLine_eq]
    omega
/-! ### lent -/
section
variable {K : PySem.W.Frag} {E : XK} {G : Gm} {O : OL} {ke : Xd → Prop}
/-- an owned thing is read; the answer is flat -/
theorem dt_lendV (j : Nat) {i : Nat} {o : Ow} {t : TE} {k : D → Prop} (ho : O[j]? = some (i, o)) (hl : i < G.length) (h : DT K E t (G.set i (some o.d)) (O.eraseIdx j) (fun d => d.flat = true ∧ k d) F0) : DT K E t G O k ke := fun S0 Os σ H Q st hq he => by
  obtain ⟨p, hp, oa, so, st2⟩ := st.lend ho hl
  exact h S0 _ σ H Q st2 (fun v H' d ⟨fd, kd⟩ s r => hq v H' d kd s (by
    obtain ⟨e, _⟩ := D.flat_v r fd
    rw [e]; exact D.rep fd)) (fun _ _ _ _ z => z.elim)
theorem dtt_lendV (j : Nat) {i : Nat} {o : Ow} {t : TT} {k : Bool → Prop} (ho : O[j]? = some (i, o)) (hl : i < G.length) (h : DTT K E t (G.set i (some o.d)) (O.eraseIdx j) k F0) : DTT K E t G O k ke := fun S0 Os σ H Q st hq he => by
  obtain ⟨p, hp, oa, so, st2⟩ := st.lend ho hl
  exact h S0 _ σ H Q st2 hq (fun _ _ _ _ z => z.elim)
/-- what is in a new thing holds no such instance -/
def NoXo (ok : Str → Prop) : Ow → Prop
  | .lst ds => NoXs ok ds
  | .dic ds => NoXs ok (ds.map Prod.snd)
  | .obj _ ds => NoXs ok (ds.map Prod.snd)
  | .slf _ _ ds => NoXs ok (ds.map Prod.snd)
theorem OwnAt.keep {S : Addr → Prop} {H : Hp} {p q dx : Addr} {c : Str} {fs : List (Str × V)} {ok : Str → Prop} {o : Ow} (hp : H p = some (.ins (He.ga K c) dx fs)) (ne : ∀ e, ok e → He.ga K e ≠ He.ga K c) (nx : NoXo ok o)
    (h : OwnAt K (fun b => S b ∨ b = q) H q o) : OwnAt K (fun b => (S b ∨ b = p) ∨ b = q) H q o := by
  have sw : ∀ b, ((S b ∨ b = p) ∨ b = q) → (S b ∨ b = q) ∨ b = p := fun b z => by
    rcases z with (z | z) | z
    · exact .inl (.inl z)
    · exact .inr z
    · exact .inl (.inr z)
  cases o with
  | lst ds => obtain ⟨vs, e, r⟩ := h; exact ⟨vs, e, Reps.weak sw (Reps.keep hp ne nx r)⟩
  | dic ds => obtain ⟨vs, e, q, r⟩ := h; exact ⟨vs, e, q, Reps.weak sw (Reps.keep hp ne nx r)⟩
  | obj c ds => obtain ⟨dx, vs, e, q, r⟩ := h; exact ⟨dx, vs, e, q, Reps.weak sw (Reps.keep hp ne nx r)⟩
  | slf _ c ds => obtain ⟨ea, dx, vs, e, q, r⟩ := h; exact ⟨ea, dx, vs, e, q, Reps.weak sw (Reps.keep hp ne nx r)⟩
theorem df_lend (j : Nat) {i : Nat} {c : Str} {fs : List (Str × D)} {o : Ow} {ok : Str → Prop} {t : TE} {k : Ow → Prop} (hoo : o = .obj c fs ∨ ∃ a, o = .slf a c fs) (ho : O[j]? = some (i, o)) (hl : i < G.length) (ne : ∀ e, ok e → He.ga K e ≠ He.ga K c)
    (h : DF K E t (G.set i (some (.obj c fs))) (O.eraseIdx j) (fun o => NoXo ok o ∧ k o) (fun x => x.noX ok ∧ ke x)) : DF K E t G O k ke := fun S0 Os σ H Q st hq he => by
  obtain ⟨p, hp, oa, so, st2⟩ := st.lend ho hl
  have ed : o.d = .obj c fs := by rcases hoo with rfl | ⟨a, rfl⟩ <;> rfl
  rw [ed] at st2
  have hi : ∃ dx gs, H p = some (.ins (He.ga K c) dx gs) := by
    rcases hoo with rfl | ⟨a, rfl⟩
    · obtain ⟨dx, gs, e, _⟩ := oa; exact ⟨dx, gs, e⟩
    · obtain ⟨_, dx, gs, e, _⟩ := oa; exact ⟨dx, gs, e⟩
  obtain ⟨dx, gs, hi⟩ := hi
  exact h S0 _ σ H Q st2 (fun q H' o2 ⟨nd, kd⟩ s np oa2 => hq q H' o2 kd s np ((OwnAt.keep (s _ _ hi) ne nd oa2).weak fun b z => z.imp (fun y => (so b).mp y) id)) (eok_lend hi ne (fun a z => (so a).mp z) he)
variable {kn : Gm → OL → Prop} {kr : D → Prop}
/-- x.m(..), x the instance that this def was handed, which it changes -/
theorem ds_methOS (j : Nat) {a : Addr} {i : Nat} {w : WtO} {c m : Str} {fs : List (Str × D)} {t : TA} (ho : O[j]? = some (i, .slf a c fs)) (l : fs.lookup m = none)
    (h : DA K E t G O (fun ds => w [] fs ds (fun d fs' => kn G (O.set j (i, .slf a c fs')))) ke) : DS K E (tDrop (tMeth (He.ga K c) m (spO K c w) [] E0 (tVar i) t)) G O kn kr ke := fun S0 H0 Os σ H Ds f st hn hr he => by
  obtain ⟨p0, hp, e, hpj⟩ := own_at st.os ho
  obtain ⟨hs, oa⟩ := st.own p0 hp
  obtain ⟨p, p2⟩ := p0
  have e' : p2 = (i, .slf a c fs) := e
  subst e'
  obtain ⟨ea, dx, gs, hh, ek, r⟩ := oa
  refine ⟨_, hs, p, dx, gs, rfl, hh, fld_none ek r l, h.at_ f st he fun xs H2 ds hw s2 f2 st2 ry => ?_⟩
  rw [List.append_nil]
  have hp2 : (p, i, Ow.slf a c fs) ∈ Os := hp
  have wp : W Os p := List.mem_map_of_mem (f := (·.1)) hp
  obtain ⟨_, oa2⟩ := st2.own _ hp2
  let T : Addr → Prop := fun b => SO S0 Os b ∧ b ≠ p
  have so : ∀ a, (T a ∨ a = p) ↔ SO S0 Os a := fun a => ⟨fun z => z.elim (fun y => y.1) fun y => .inr (y ▸ wp), fun z => (Classical.em (a = p)).elim .inr fun n => .inl ⟨z, n⟩⟩
  have oa3 : OwnAt K (SO S0 Os) H2 p (.obj c fs) := by obtain ⟨_, dx, gs, h1, h2, h3⟩ := oa2; exact ⟨dx, gs, h1, h2, h3⟩
  refine ⟨T, p, [], xs, [], ds, fs, _, rfl, fun z => z.2 rfl, fun a z => st2.domW a z.1, oa3.weak fun a z => (so a).mp z, .nil, Reps.weak (fun a z => (so a).mp z) ry, hw, fun v H' d fs' kd sx oa' rv => ?_⟩
  have oa4 : OwnAt K (SO S0 Os) H' p (.slf a c fs') := by obtain ⟨dx, gs, h1, h2, h3⟩ := oa'.weak (T := SO S0 Os) fun a z => (so a).mpr z; exact ⟨ea, dx, gs, h1, h2, h3⟩
  exact hn _ _ _ σ H' kd ((Chg.of_same s2).trans (chg_putX hpj sx)) (st2.own_setX hpj oa4 sx)
/-- x.m(..), the answer new -/
theorem df_methF {w : WtF} {c m : Str} {ta : TE} {t : TA} {k : Ow → Prop} (h : DT K E ta G O (fun a => ∃ fs, a = .obj c fs ∧ fs.lookup m = none ∧ DA K E t G O (fun ds => w (a :: ds) k F0) ke) ke) :
    DF K E (tMeth (He.ga K c) m (spF K w) [] E0 ta t) G O k ke := fun S0 Os σ H Q st hq he =>
  h.bind st he fun x H1 a ⟨fs, e, l, ha⟩ s1 st1 he1 rx => by
    subst e
    have rx0 := rx
    cases rx with
    | obj n hh ef r =>
      refine ⟨_, _, _, rfl, hh, fld_none ef r l, ha.bind st1 he1 fun xs H2 ds hw s2 st2 he2 ry => ?_⟩
      rw [List.append_nil]
      exact ⟨SO S0 Os, _, k, F0, st2.domW, .cons (rx0.same s2) ry, hw, fun p H' o ko s np oa => hq p H' o ko ((s1.trans s2).trans s) ((s1.trans s2).free np) oa, eok_e0⟩
theorem ne_of_kit {a b : Str} (h1 : PySem.W.kitOne K (Tv.v K (.own a)) (Tv.v K (.own b)) = some false) (h2 : PySem.W.kitOne K (Tv.v K (.own b)) (Tv.v K (.own b)) = some true) : He.ga K a ≠ He.ga K b := fun z => by
  have e : Tv.v K (.own a) = Tv.v K (.own b) := by show Value.ref _ = Value.ref _; rw [z]
  rw [e, h2] at h1
  cases h1
end
end Fw

set_option maxHeartbeats 4000000
/-! The places of the program's text and the facts asked of its top. -/
namespace Fw
open PySem PySem.Spec PyProof.Rows L2
abbrev TX (K : PySem.W.Frag) (mg : Str → Option Value) : Prop := Tx fcs dfs K mg
section
variable {K : PySem.W.Frag} {mg : Str → Option Value} {E : XK} {G : Gm} {O : OL} {ke : Xd → Prop}
theorem fld_Committee_own_members (T : TX K mg) {ta : TE} {k : D → Prop} (h : DT K E ta G O (fun a => ∃ fs d, a = .obj "Committee" fs ∧ fs.lookup ("own_members" : Str) = some d ∧ k d) ke) : DT K E (tFld K ta "own_members") G O k ke := dt_fld (T.cls 9) (T.noat 10) h
theorem fld_Ranking_order (T : TX K mg) {ta : TE} {k : D → Prop} (h : DT K E ta G O (fun a => ∃ fs d, a = .obj "Ranking" fs ∧ fs.lookup ("order" : Str) = some d ∧ k d) ke) : DT K E (tFld K ta "order") G O k ke := dt_fld (T.cls 15) (T.noat 16) h
theorem fld_Ranking_places (T : TX K mg) {ta : TE} {k : D → Prop} (h : DT K E ta G O (fun a => ∃ fs d, a = .obj "Ranking" fs ∧ fs.lookup ("places" : Str) = some d ∧ k d) ke) : DT K E (tFld K ta "places") G O k ke := dt_fld (T.cls 15) (T.noat 18) h
theorem fld_Turns_order (T : TX K mg) {ta : TE} {k : D → Prop} (h : DT K E ta G O (fun a => ∃ fs d, a = .obj "Turns" fs ∧ fs.lookup ("order" : Str) = some d ∧ k d) ke) : DT K E (tFld K ta "order") G O k ke := dt_fld (T.cls 23) (T.noat 24) h
theorem fld_Game_own_rankings (T : TX K mg) {ta : TE} {k : D → Prop} (h : DT K E ta G O (fun a => ∃ fs d, a = .obj "Game" fs ∧ fs.lookup ("own_rankings" : Str) = some d ∧ k d) ke) : DT K E (tFld K ta "own_rankings") G O k ke := dt_fld (T.cls 25) (T.noat 26) h
theorem fld_Game_own_turns (T : TX K mg) {ta : TE} {k : D → Prop} (h : DT K E ta G O (fun a => ∃ fs d, a = .obj "Game" fs ∧ fs.lookup ("own_turns" : Str) = some d ∧ k d) ke) : DT K E (tFld K ta "own_turns") G O k ke := dt_fld (T.cls 25) (T.noat 28) h
theorem fld_Room_beginning (T : TX K mg) {ta : TE} {k : D → Prop} (h : DT K E ta G O (fun a => ∃ fs d, a = .obj "Room" fs ∧ fs.lookup ("beginning" : Str) = some d ∧ k d) ke) : DT K E (tFld K ta "beginning") G O k ke := dt_fld (T.cls 74) (T.noat 75) h
theorem fld_Room_state (T : TX K mg) {ta : TE} {k : D → Prop} (h : DT K E ta G O (fun a => ∃ fs d, a = .obj "Room" fs ∧ fs.lookup ("state" : Str) = some d ∧ k d) ke) : DT K E (tFld K ta "state") G O k ke := dt_fld (T.cls 74) (T.noat 76) h
theorem kit_str_str (T : TX K mg) : PySem.W.kitOne K (Tv.v K (.ty "str")) (Tv.v K (.ty "str")) = some true := T.kit 105 (t := .ty "str") (u := .ty "str") (b := true)
theorem kit_int_int (T : TX K mg) : PySem.W.kitOne K (Tv.v K (.ty "int")) (Tv.v K (.ty "int")) = some true := T.kit 106 (t := .ty "int") (u := .ty "int") (b := true)
theorem kit_list_list (T : TX K mg) : PySem.W.kitOne K (Tv.v K (.ty "list")) (Tv.v K (.ty "list")) = some true := T.kit 107 (t := .ty "list") (u := .ty "list") (b := true)
theorem kit_dict_dict (T : TX K mg) : PySem.W.kitOne K (Tv.v K (.ty "dict")) (Tv.v K (.ty "dict")) = some true := T.kit 108 (t := .ty "dict") (u := .ty "dict") (b := true)
theorem kit_Committee_Committee (T : TX K mg) : PySem.W.kitOne K (Tv.v K (.own "Committee")) (Tv.v K (.own "Committee")) = some true := T.kit 109 (t := .own "Committee") (u := .own "Committee") (b := true)
theorem kit_Ranking_Ranking (T : TX K mg) : PySem.W.kitOne K (Tv.v K (.own "Ranking")) (Tv.v K (.own "Ranking")) = some true := T.kit 110 (t := .own "Ranking") (u := .own "Ranking") (b := true)
theorem kit_Turns_Turns (T : TX K mg) : PySem.W.kitOne K (Tv.v K (.own "Turns")) (Tv.v K (.own "Turns")) = some true := T.kit 111 (t := .own "Turns") (u := .own "Turns") (b := true)
theorem kit_Game_Game (T : TX K mg) : PySem.W.kitOne K (Tv.v K (.own "Game")) (Tv.v K (.own "Game")) = some true := T.kit 112 (t := .own "Game") (u := .own "Game") (b := true)
theorem kit_Room_Room (T : TX K mg) : PySem.W.kitOne K (Tv.v K (.own "Room")) (Tv.v K (.own "Room")) = some true := T.kit 92 (t := .own "Room") (u := .own "Room") (b := true)
theorem kit_int_bool (T : TX K mg) : PySem.W.kitOne K (Tv.v K (.ty "int")) (Tv.v K (.ty "bool")) = some false := T.kit 113 (t := .ty "int") (u := .ty "bool") (b := false)
theorem kit_bool_int (T : TX K mg) : PySem.W.kitOne K (Tv.v K (.ty "bool")) (Tv.v K (.ty "int")) = some true := T.kit 114 (t := .ty "bool") (u := .ty "int") (b := true)
theorem kit_bool_bool (T : TX K mg) : PySem.W.kitOne K (Tv.v K (.ty "bool")) (Tv.v K (.ty "bool")) = some true := T.kit 115 (t := .ty "bool") (u := .ty "bool") (b := true)
theorem ins_Committee (T : TX K mg) : InsK K "Committee" := T.ins 116
theorem ins_Game (T : TX K mg) : InsK K "Game" := T.ins 117
theorem ins_Ranking (T : TX K mg) : InsK K "Ranking" := T.ins 118
theorem ins_Room (T : TX K mg) : InsK K "Room" := T.ins 119
theorem ins_Turns (T : TX K mg) : InsK K "Turns" := T.ins 120
end
end Fw

set_option maxHeartbeats 4000000
/-! The program's defs: names, committees, rankings. -/
namespace Fw
open PySem PySem.Spec PyProof.Rows L2
local macro_rules | `(tactic| walk_at "fno") => `(tactic| first | (intro o ho; exact absurd ho (List.not_mem_nil)) | (simp; done) | (intro o ho; simp at ho; (try rcases ho with ho | ho) <;> subst ho <;> decide))
local macro_rules | `(tactic| walk_at "fop") => `(tactic| with_reducible first
  | refine dt_op opd_add ?_ | refine dt_op opd_sub ?_ | refine dt_op opd_mul ?_ | refine dt_op opd_fdivN ?_ | refine dt_op opd_mod ?_ | refine dt_op opd_pow ?_
  | refine dt_op opd_lt ?_ | refine dt_op opd_le ?_ | refine dt_op opd_gt ?_ | refine dt_op opd_ge ?_
  | refine dt_op opd_eq ?_ | refine dt_op opd_ne ?_ | refine dt_op opd_in ?_ | refine dt_op opd_in_sign ?_ | refine dt_op opd_add_str ?_ | refine dt_op opd_isN ?_ | refine dt_op opd_notN ?_
  | refine dt_op opd_ixL ?_ | refine dt_op opd_ixT ?_ | refine dt_op opf_cat.op ?_ | refine dt_op opf_rep.op ?_
  | refine dt_op opd_eqD ?_ | refine dt_op opd_neD ?_ | refine dt_op opd_eqDn ?_ | refine dt_op opd_inI ?_ | refine dt_op opd_eqI ?_ | refine dt_op opd_neI ?_ | refine dt_op opd_binI ?_ | refine dt_op opd_getI ?_)
local macro_rules | `(tactic| walk_at "fcb") => `(tactic| with_reducible first
  | refine dt_cb cad_lenA ?_ | refine dt_cb cad_lenI ?_ | refine dt_cb cad_isi ?_ | refine dt_cb cad_lenDR ?_ | refine dt_cb cad_max ?_ | refine dt_cb cad_min ?_ | refine dt_cb cad_all ?_ | refine dt_cb cad_any ?_ | refine dt_cb cad_sum ?_ | refine dt_cb cad_max2 ?_ | refine dt_cb cad_min2 ?_ | refine dt_cb cad_int1 ?_
  | refine dt_cb caf_list.ca ?_ | refine dt_cb caf_listD.ca ?_ | refine dt_cb caf_dictD.ca ?_ | refine dt_cb caf_dictP.ca ?_ | refine dt_cb caf_sortedS.ca ?_ | refine dt_cb caf_sortedD.ca ?_)
local macro_rules | `(tactic| walk_at "fex") => `(tactic| first
  | (refine ⟨(rfl : D.non = D.non), ?_⟩) | (refine ⟨_, .lst _, ?_⟩) | (refine ⟨_, .scr _, ?_⟩) | (refine ⟨_, _, _, rfl, rfl, rfl, ?_⟩) | (refine ⟨_, _, rfl, rfl, ?_⟩) | (refine ⟨_, rfl, ?_⟩) | (refine ⟨_, _, rfl, ?_⟩) | (refine ⟨_, _, _, rfl, ?_⟩) | (refine ⟨_, _, _, _, rfl, ?_⟩) | (refine ⟨_, _, _, _, _, rfl, ?_⟩) | (refine ⟨_, _, _, _, _, _, rfl, ?_⟩) | (refine ⟨_, .inl rfl, rfl, flat_strs _, ?_⟩) | (refine ⟨_, .inl rfl, ?_⟩) | (refine ⟨rfl, rfl, rfl, ?_⟩) | (refine ⟨(by simp only [List.length_cons, List.length_nil]; decide : List.length _ ≤ sizeLine), ?_⟩) | (refine ⟨fun _ => ?_, fun h => absurd h (by decide)⟩) | (refine ⟨fun h => absurd h (by decide), fun _ => ?_⟩))
local macro_rules | `(tactic| walk_at "fdi") => `(tactic| with_reducible first
  | refine di_list ?_ | refine di_range1 ?_ | refine di_range2 ?_ | refine di_range3 ?_ | refine di_str ?_ | refine di_items ?_ | refine di_values ?_ | refine di_keys ?_ | refine di_keysM ?_ | refine di_enum ?_)
local macro_rules | `(tactic| walk_at "ffld") => `(tactic| first
  | ((with_reducible refine fld_Committee_own_members ‹_› (dt_var (d := .obj "Committee" ?fs0) ?a1 ?a2)); (case a1 => rfl); refine ⟨_, _, rfl, rfl, ?_⟩)
  | ((with_reducible refine fld_Ranking_order ‹_› (dt_var (d := .obj "Ranking" ?fs0) ?a1 ?a2)); (case a1 => rfl); refine ⟨_, _, rfl, rfl, ?_⟩)
  | ((with_reducible refine fld_Ranking_places ‹_› (dt_var (d := .obj "Ranking" ?fs0) ?a1 ?a2)); (case a1 => rfl); refine ⟨_, _, rfl, rfl, ?_⟩)
  | ((with_reducible refine fld_Turns_order ‹_› (dt_var (d := .obj "Turns" ?fs0) ?a1 ?a2)); (case a1 => rfl); refine ⟨_, _, rfl, rfl, ?_⟩)
  | ((with_reducible refine fld_Game_own_rankings ‹_› (dt_var (d := .obj "Game" ?fs0) ?a1 ?a2)); (case a1 => rfl); refine ⟨_, _, rfl, rfl, ?_⟩)
  | ((with_reducible refine fld_Game_own_turns ‹_› (dt_var (d := .obj "Game" ?fs0) ?a1 ?a2)); (case a1 => rfl); refine ⟨_, _, rfl, rfl, ?_⟩)
  | ((with_reducible refine fld_Room_beginning ‹_› (dt_var (d := .obj "Room" ?fs0) ?a1 ?a2)); (case a1 => rfl); refine ⟨_, _, rfl, rfl, ?_⟩)
  | ((with_reducible refine fld_Room_state ‹_› (dt_var (d := .obj "Room" ?fs0) ?a1 ?a2)); (case a1 => rfl); refine ⟨_, _, rfl, rfl, ?_⟩))
local macro_rules | `(tactic| walk_at "fkit") => `(tactic| first
  | refine ⟨_, _, _, _, _, rfl, .str _, .ty _, kit_str_str ‹_›, ?_⟩
  | refine ⟨_, _, _, _, _, rfl, .int _, .ty _, kit_int_int ‹_›, ?_⟩
  | refine ⟨_, _, _, _, _, rfl, .lst _, .ty _, kit_list_list ‹_›, ?_⟩
  | refine ⟨_, _, _, _, _, rfl, .dic _, .ty _, kit_dict_dict ‹_›, ?_⟩
  | refine ⟨_, _, _, _, _, rfl, .obj _ _ (ins_Committee ‹_›), .glo _, kit_Committee_Committee ‹_›, ?_⟩
  | refine ⟨_, _, _, _, _, rfl, .obj _ _ (ins_Ranking ‹_›), .glo _, kit_Ranking_Ranking ‹_›, ?_⟩
  | refine ⟨_, _, _, _, _, rfl, .obj _ _ (ins_Turns ‹_›), .glo _, kit_Turns_Turns ‹_›, ?_⟩
  | refine ⟨_, _, _, _, _, rfl, .obj _ _ (ins_Game ‹_›), .glo _, kit_Game_Game ‹_›, ?_⟩
  | refine ⟨_, _, _, _, _, rfl, .obj _ _ (ins_Room ‹_›), .glo _, kit_Room_Room ‹_›, ?_⟩
  | refine ⟨_, _, _, _, _, rfl, .int _, .ty _, kit_int_bool ‹_›, ?_⟩
  | refine ⟨_, _, _, _, _, rfl, .bl _, .ty _, kit_bool_int ‹_›, ?_⟩
  | refine ⟨_, _, _, _, _, rfl, .bl _, .ty _, kit_bool_bool ‹_›, ?_⟩)
local macro_rules | `(tactic| walk_at "fw1") => `(tactic| first
  | ((with_reducible refine dt_var (d := ?d0) ?a1 ?a2); (case a1 => rfl))
  | (with_reducible first
    | refine dt_int ?_ | refine dt_str ?_ | refine dt_bl ?_ | refine dt_non ?_ | refine dt_ty ?_ | refine dt_glo ?_
    | refine da_cons ?_ | refine da_nil ?_ | refine da_star ?_ | refine dtt_b ?_ | refine dtt_test ?_ | refine dtt_yes ?_ | refine dtt_not ?_ | refine dtt_and ?_ | refine dtt_or ?_ 
    | refine ds_unlAsg ?_ | refine ds_seq ?_ | refine ds_next ?_ | refine ds_ret ?_ | refine ds_retN ?_
    | refine dt_andV ?_ | refine dt_orV ?_ | refine dt_notV ?_ | refine dt_if ?_ | refine dt_chain opd_le opd_le ?_ | refine dt_chain opd_lt opd_lt ?_
    | refine dt_call0 ?_ | refine dt_prop ?_ | refine dt_make ?_ | refine dt_dget ?_ | refine dt_din ?_ | refine dt_dnotin ?_
    | refine (df_slL ?_).dt | refine do_none ?_ | refine do_some ?_ | refine (df_listVals ?_).dt | refine dt_stm ?_ | refine df_lst ?_ | refine df_cb caf_list ?_ | refine df_cb caf_listD ?_ | refine df_cb caf_dictD ?_ | refine df_cb caf_dictP ?_ | refine df_cb caf_sortedS ?_ | refine df_cb caf_sortedD ?_ | refine df_op opf_cat ?_ | refine df_listVals ?_ | refine df_make ?_ | refine df_slL ?_ | refine df_rev ?_ | refine (df_rev ?_).dt | refine df_dnew ?_ | refine dt_lst ?_ | refine dt_tup ?_ | refine (df_dnew ?_).dt)
  | ((with_reducible refine dt_methS 0 (x := ?x0) (fs := ?f0) ?a1 ?a2 ?a3); (case a1 => rfl); (case a2 => rfl)) | (with_reducible refine dt_meth0 ?_)
  | (with_reducible refine dt_un und_neg ?_)
  | ((with_reducible refine dt_inO 0 (ds := ?d0) ?a1 ?a2); (case a1 => rfl)) | ((with_reducible refine dt_lenO 0 (ds := ?d0) ?a1 ?a2); (case a1 => rfl)) | ((with_reducible refine dt_lenO 1 (ds := ?d0) ?a1 ?a2); (case a1 => rfl))
  | ((with_reducible refine dm_popAt 0 (ds := ?d0) ?a1 ?a2); (case a1 => rfl)) | ((with_reducible refine dm_popAt 1 (ds := ?d0) ?a1 ?a2); (case a1 => rfl)) | (with_reducible refine DT.dm ?_) | walk_at "fop" | walk_at "fcb" | walk_at "fdi"
  | ((with_reducible refine ds_asgE ?a1 ?a2 ?a3); (case a1 => walk_at "fno"); (case a2 => simp [startG])) | ((with_reducible refine ds_asg ?a1 ?a2); (case a1 => walk_at "fno")) | ((with_reducible refine ds_asgT ?a1 ?a2 ?a3); (case a1 => walk_at "fno"); (case a2 => walk_at "fno")) | ((with_reducible refine ds_append 0 (ds := ?d0) ?a1 ?a2); (case a1 => rfl)) | ((with_reducible refine ds_append 1 (ds := ?d0) ?a1 ?a2); (case a1 => rfl)) | (with_reducible refine ds_expr ?_) | ((with_reducible refine ds_par ?a1 ?a2 ?a3); (case a1 => walk_at "fno"); (case a2 => walk_at "fno"))
  | ((with_reducible refine dg_tup ?a1 ?a2); (case a1 => rfl)) | (with_reducible refine dgs_cons ?_) | (with_reducible refine dgs_nil ?_) | (with_reducible refine lct ?_) | (with_reducible refine dct ?_)
  | ((with_reducible refine dg_name ?a1 ?a2); (case a1 => walk_at "fno"))
  | walk_at "ffld" | walk_at "fex" | walk_at "fkit")
local macro_rules | `(tactic| walk_at "fw") => `(tactic| repeat (first | walk_at "fw1" | (with_reducible refine ds_if ?_)))
local macro_rules | `(tactic| walk_at "fwn") => `(tactic| repeat walk_at "fw1")

section

section
variable {P : Program} {w : World} {K : PySem.W.Frag} {mg : Str → Option Value} {base : Heap}
theorem cxK {CX : CXT} {N : List Str} {q : Str} {sc : Scope} {f : Addr} {cd : Value} {A : Around} {o : List Env} {s : Shared} {H : Hp} {E : XK} : (cxOf CX P w K mg base N q sc f cd A o s H E).K = K := rfl
end
theorem get_strs {ss : List Str} {i : Nat} {x : D} (h : (ss.map D.str)[i]? = some x) : ∃ s ∈ ss, x = .str s := by
  rw [List.getElem?_map] at h
  cases e : ss[i]? with
  | none => rw [e] at h; cases h
  | some s => rw [e] at h; cases h; exact ⟨s, List.mem_of_getElem? e, rfl⟩
theorem szOf {n : Nat} (h : n ≤ 1000) : n < sizeLine := Nat.lt_of_le_of_lt (Nat.le_trans h (by decide)) sizeL
section
variable {P : Program} {w : World} {K : PySem.W.Frag} {mg : Str → Option Value} {base : Heap}
def wt_is_name : Wt := fun ds kk _ => ∃ s : Str, ds = [.str s] ∧ s.length ≤ 1000 ∧ kk (.bl (isName s))
theorem ok_is_name (T : TX K mg) : Ok P w K mg base 1 (He.ga K "is_name") ["candidate"] (spD K wt_is_name) := by
  obtain ⟨fd, F⟩ := T.def_ 0 (d := d_is_name)
  obtain ⟨tk_MAX_LETTERS, g_MAX_LETTERS⟩ := T.int 12 (x := "MAX_LETTERS")
  obtain ⟨tk_LETTERS, g_LETTERS⟩ := T.str 13 (x := "LETTERS")
  refine ⟨⟨fd, fnD F sc_is_name (fun _ _ _ h => by obtain ⟨s, rfl, hl, hk⟩ := h; rfl) (fun cdv A outer s H E hr => ⟨_, (pss_cons (ps_if (PW.pt (pw_or (pt_not (pt_val (pe_callB (z_isi K) (by rfl) (T.free 0) (by decide +kernel) (pa_cons (pv 0) (pa_cons (pe_bltn (v := .ty "str") rfl (T.free 1) (by decide +kernel) rfl) pa_nil))))) (pw_or1 (pt_not (pt_chain op_le op_le pe_int (pe_callB (z_len K) (by rfl) (T.free 2) boot_len (pa_cons (pv 0) pa_nil)) (pe_glob (v := .int 8) rfl g_MAX_LETTERS ⟨_, rfl⟩)))))) (pss_one (ps_ret pe_bl)) pss_nil) (pss_one (ps_ret (pe_callB (z_all K rfl) (by rfl) (T.free 3) (by decide +kernel) (pa_cons (pe_lc (own := [("letter", 1)]) rfl sc_is_name.nd (pi_str (pv 0)) (blkOk_by (own := [("letter", 1)]) (N := N_is_name) (sc := defScope s_is_name) (by decide +kernel)) (fun _ _ _ _ _ => (pg_name (i := 1) sc_is_name.nd rfl (by first | exact Or.inl rfl | exact Or.inr rfl))) (fun _ _ _ _ _ => pts_nil) (fun _ _ _ _ _ => (pe_cmpR op_in_sign (pv 1) (pe_glob (v := .str "abcdefghijklmnopqrstuvwxyz") rfl g_LETTERS ⟨_, rfl⟩) (by rfl)))) pa_nil))))), fun ds kk ke h => ?_⟩), FunD.bindsN F fun _ _ _ _ _ _ us hl => match us, hl with | [_], _ => rfl⟩, F.kp⟩
  obtain ⟨s, rfl, hl, hk⟩ := h
  try dsimp only [cxK]
  walk_at "fw"
  refine ⟨_, .str _ (Nat.le_of_lt (szOf hl)), ?_⟩
  walk_at "fw"
  have fin : ∀ b : Bool, isName s = b → kk (.bl b) := fun b e => e ▸ hk
  refine ⟨fun h1 => ?_, fun h1 => ?_⟩
  · walk_at "fw"
    refine ⟨fun h2 => ?_, fun h2 => ?_⟩
    · walk_at "fw"
      exact fin _ (by
        unfold isName
        have h2' := (Bool.not_eq_true' _).mp h2; rw [h1, h2']; rfl)
    · walk_at "fw"
      refine (df_lcM [1] (fun c : Nat => D.str ⟨#[c]⟩) (fun c => .bl (decide (c ∈ LET.cps.toList))) (fun a b e => by cases e; rfl) (by decide) (by walk_at "fno") ?_).dt
      walk_at "fw"
      refine ⟨by show s.cps.size < sizeLine; exact szOf hl, fun c hc => ?_, ?_⟩
      · walk_at "fw"
        rfl
      · walk_at "fw"
        refine ⟨s.cps.toList.map fun c => decide (c ∈ LET.cps.toList), by rw [List.map_map]; rfl, ?_⟩
        exact fin _ (by unfold isName; have h2' := (Bool.not_eq_false' _).mp h2; rw [h1, h2', all_id]; rfl)
  · walk_at "fw"
    exact fin _ (by unfold isName; rw [h1]; rfl)
def wt_are_names : Wt := fun ds kk _ => ∃ ss : List Str, ds = [sl ss] ∧ ss.length ≤ 1000 ∧ (∀ s ∈ ss, s.length ≤ 1000) ∧ kk (.bl (ss.all isName))
theorem ok_are_names (T : TX K mg) : Ok P w K mg base 2 (He.ga K "are_names") ["candidate"] (spD K wt_are_names) := by
  obtain ⟨fd, F⟩ := T.def_ 1 (d := d_are_names)
  have k_is_name := ok_is_name (P := P) (w := w) (base := base) T
  refine ⟨⟨fd, fnD F sc_are_names (fun _ _ _ h => by obtain ⟨ss, rfl, hl, hs, hk⟩ := h; rfl) (fun cdv A outer s H E hr => ⟨_, (pss_one (ps_ret (pe_and (pe_callB (z_isi K) (by rfl) (T.free 0) (by decide +kernel) (pa_cons (pv 0) (pa_cons (pe_bltn (v := .ty "list") rfl (T.free 4) (by decide +kernel) rfl) pa_nil))) (pe_one (pe_callB (z_all K rfl) (by rfl) (T.free 3) (by decide +kernel) (pa_cons (pe_lc (own := [("name", 1)]) rfl sc_are_names.nd (z_plist K (pv 0)) (blkOk_by (own := [("name", 1)]) (N := N_are_names) (sc := defScope s_are_names) (by decide +kernel)) (fun _ _ _ _ _ => (pg_name (i := 1) sc_are_names.nd rfl (by first | exact Or.inl rfl | exact Or.inr rfl))) (fun _ _ _ _ _ => pts_nil) (fun _ _ _ _ _ => (q_call k_is_name hr (T.glo 5) (pa_cons (pv 1) pa_nil)))) pa_nil)))))), fun ds kk ke h => ?_⟩), FunD.bindsN F fun _ _ _ _ _ _ us hl => match us, hl with | [_], _ => rfl⟩, F.kp⟩
  obtain ⟨ss, rfl, hl, hs, hk⟩ := h
  try dsimp only [cxK]
  walk_at "fw"
  refine (df_lcM [1] D.str (fun s => .bl (isName s)) (fun a b e => by cases e; rfl) (by decide) (by walk_at "fno") ?_).dt
  walk_at "fw"
  refine ⟨szOf hl, fun s hm => ?_, ?_⟩
  · walk_at "fw"
    exact ⟨hs s hm, rfl⟩
  · walk_at "fw"
    refine ⟨ss.map isName, by rw [List.map_map]; rfl, ?_⟩
    rw [all_id]; exact hk
def wt_distinct : Wt := fun ds kk _ => ∃ ss : List Str, ds = [sl ss] ∧ ss.length ≤ 1000 ∧ (srt ss).length < 64 ∧ kk (sl (srt ss))
theorem ok_distinct (T : TX K mg) : Ok P w K mg base 1 (He.ga K "distinct") ["names"] (spD K wt_distinct) := by
  obtain ⟨fd, F⟩ := T.def_ 2 (d := d_distinct)
  refine ⟨⟨fd, fnD F sc_distinct (fun _ _ _ h => by obtain ⟨ss, rfl, hl, h64, hk⟩ := h; rfl) (fun cdv A outer s H E hr => ⟨_, (pss_one (ps_ret (pe_callB (call_sortedD rfl) (by rfl) (T.free 6) (by decide +kernel) (pa_cons (pe_dc (own := [("name", 1)]) rfl sc_distinct.nd (z_plist K (pv 0)) (blkOk_by (own := [("name", 1)]) (N := N_distinct) (sc := defScope s_distinct) (by decide +kernel)) (fun _ _ _ _ _ => (pg_name (i := 1) sc_distinct.nd rfl (by first | exact Or.inl rfl | exact Or.inr rfl))) (fun _ _ _ _ _ => pts_nil) (fun _ _ _ _ _ => (pv 1)) (fun _ _ _ _ _ => pe_bl)) pa_nil)))), fun ds kk ke h => ?_⟩), FunD.bindsN F fun _ _ _ _ _ _ us hl => match us, hl with | [_], _ => rfl⟩, F.kp⟩
  obtain ⟨ss, rfl, hl, h64, hk⟩ := h
  try dsimp only [cxK]
  walk_at "fw"
  refine (df_dcM [1] D.str (fun s => ((.inr s : Key), .bl true)) (fun a b e => by cases e; rfl) (by decide) (by walk_at "fno") ?_).dt
  walk_at "fw"
  refine ⟨szOf hl, fun s hm => ?_, ?_⟩
  · walk_at "fw"
    exact ⟨.inr s, rfl, rfl⟩
  · walk_at "fw"
    obtain ⟨ts, t1, t2, t3⟩ := merge_strs (fun _ => .bl true) ss
    refine ⟨_, ts, rfl, t1, by rw [ts_len t2 t3]; exact h64, fun ys p so => ?_⟩
    rw [ts_srt t2 t3 p so]; exact hk
def wt_Committee_init : WtI := fun ds kk _ => ∃ ss : List Str, ds = [sl ss] ∧ ss.length ≤ 1000 ∧ (∀ s ∈ ss, isName s = true) ∧ (srt ss).length ≤ 30 ∧ kk [("own_members", sl (srt ss))]
theorem ok_Committee_init (T : TX K mg) : Ok P w K mg base 3 (He.ma K (He.ga K "Committee") "__init__") ["self", "names"] (spI K "Committee" wt_Committee_init) := by
  obtain ⟨fd, F⟩ := T.def_ 3 (d := d_Committee_init)
  obtain ⟨tk_MAX_NAMES, g_MAX_NAMES⟩ := T.int 14 (x := "MAX_NAMES")
  have k_are_names := ok_are_names (P := P) (w := w) (base := base) T
  have k_distinct := ok_distinct (P := P) (w := w) (base := base) T
  refine ⟨⟨fd, fnI F sc_Committee_init (by decide) (fun _ _ _ h => by obtain ⟨ss, rfl, hl, hs, h30, hk⟩ := h; rfl) (fun cdv A outer s H E hr => ⟨_, (pss_cons (ps_if (PW.pt (pw_or (pt_not (pt_val (q_call k_are_names hr (T.glo 7) (pa_cons (pv 1) pa_nil)))) (pw_or1 (pt_cmpR op_gt (pe_callB (z_len K) (by rfl) (T.free 2) boot_len (pa_cons (q_call k_distinct hr (T.glo 8) (pa_cons (pv 1) pa_nil)) pa_nil)) (pe_glob (v := .int 30) rfl g_MAX_NAMES ⟨_, rfl⟩) (nomark _))))) (pss_one ps_never) pss_nil) (pss_one (ps_fld (pv 0) (q_call k_distinct hr (T.glo 8) (pa_cons (pv 1) pa_nil)) rfl))), fun x ds kk ke h => ?_⟩), FunD.bindsN F fun _ _ _ _ _ _ us hl => match us, hl with | [_, _], _ => rfl⟩, F.kp⟩
  obtain ⟨ss, rfl, hl, hs, h30, hk⟩ := h
  try dsimp only [cxK]
  walk_at "fw"
  have ha : ss.all isName = true := List.all_eq_true.mpr hs
  refine ⟨hl, fun s m => Nat.le_trans (isName_len (hs s m)) (by decide), ?_⟩
  rw [ha]
  walk_at "fw"
  refine ⟨hl, by omega, ?_⟩
  walk_at "fw"
  refine ⟨fun h => ?_, fun h => ?_⟩
  · refine ds_never (P := True) ?_
    rw [List.length_map] at h
    have := of_decide_eq_true h
    omega
  · walk_at "fw"
    refine ds_fldS 0 (T.cls 9) (T.noat 10) rfl (by decide) ?_
    walk_at "fw"
    refine ⟨hl, by omega, ?_⟩
    exact ⟨_, rfl, hk⟩
/-- a committee of these, in order -/
abbrev cm (ss : List Str) : D := .obj "Committee" [("own_members", sl ss)]
def wt_Committee_members : Wt := fun ds kk _ => ∃ ss : List Str, ds = [cm ss] ∧ kk (sl ss)
theorem ok_Committee_members (T : TX K mg) : Ok P w K mg base 1 (getter K (He.ga K "Committee") "members") ["self"] (spD K wt_Committee_members) := by
  obtain ⟨fd, F⟩ := T.def_ 4 (d := d_Committee_members)
  refine ⟨⟨fd, fnD F sc_Committee_members (fun _ _ _ h => by obtain ⟨ss, rfl, hk⟩ := h; rfl) (fun cdv A outer s H E hr => ⟨_, (pss_one (ps_ret (pe_callTy (z_listof K) (by rfl) (T.free 4) (by decide +kernel) (pa_cons (z_fld K (pv 0)) pa_nil)))), fun ds kk ke h => ?_⟩), FunD.bindsN F fun _ _ _ _ _ _ us hl => match us, hl with | [_], _ => rfl⟩, F.kp⟩
  obtain ⟨ss, rfl, hk⟩ := h
  try dsimp only [cxK]
  walk_at "fw"
  exact hk
def wt_Committee_len : Wt := fun ds kk _ => ∃ ss : List Str, ds = [cm ss] ∧ kk (.int (ss.length : Nat))
theorem ok_Committee_len (T : TX K mg) : Ok P w K mg base 1 (He.ma K (He.ga K "Committee") "__len__") ["self"] (spD K wt_Committee_len) := by
  obtain ⟨fd, F⟩ := T.def_ 5 (d := d_Committee_len)
  refine ⟨⟨fd, fnD F sc_Committee_len (fun _ _ _ h => by obtain ⟨ss, rfl, hk⟩ := h; rfl) (fun cdv A outer s H E hr => ⟨_, (pss_one (ps_ret (pe_callB (z_len K) (by rfl) (T.free 2) boot_len (pa_cons (z_fld K (pv 0)) pa_nil)))), fun ds kk ke h => ?_⟩), FunD.bindsN F fun _ _ _ _ _ _ us hl => match us, hl with | [_], _ => rfl⟩, F.kp⟩
  obtain ⟨ss, rfl, hk⟩ := h
  try dsimp only [cxK]
  walk_at "fw"
  rw [List.length_map]; exact hk
def wt_Committee_eq : Wt := fun ds kk _ => ∃ ss ts : List Str, ds = [cm ss, cm ts] ∧ (∀ s ∈ ss, isName s = true) ∧ (∀ s ∈ ts, isName s = true) ∧ kk (.bl (decide (ss = ts)))
theorem ok_Committee_eq (T : TX K mg) : Ok P w K mg base 1 (He.ma K (He.ga K "Committee") "__eq__") ["self", "other"] (spD K wt_Committee_eq) := by
  obtain ⟨fd, F⟩ := T.def_ 6 (d := d_Committee_eq)
  refine ⟨⟨fd, fnD F sc_Committee_eq (fun _ _ _ h => by obtain ⟨ss, ts, rfl, h1, h2, hk⟩ := h; rfl) (fun cdv A outer s H E hr => ⟨_, (pss_one (ps_ret (pe_and (pe_callB (z_isi K) (by rfl) (T.free 0) (by decide +kernel) (pa_cons (pv 1) (pa_cons (pe_glob (v := .ref (He.ga K "Committee")) rfl (T.glo 11) rfl) pa_nil))) (pe_one (pe_cmpR (z_eqD K hr) (z_fld K (pv 0)) (z_fld K (pv 1)) (nomark _)))))), fun ds kk ke h => ?_⟩), FunD.bindsN F fun _ _ _ _ _ _ us hl => match us, hl with | [_, _], _ => rfl⟩, F.kp⟩
  obtain ⟨ss, ts, rfl, h1, h2, hk⟩ := h
  try dsimp only [cxK]
  walk_at "fw"
  exact ⟨_, _, pd_sl ss, pd_sl ts, shaped_sl h1, shaped_sl h2, by rw [eqv_sl]; exact hk⟩
end
end

set_option maxHeartbeats 4000000
/-! The program's defs: names, committees, rankings. -/

section

section
variable {P : Program} {w : World} {K : PySem.W.Frag} {mg : Str → Option Value} {base : Heap}
def wt_Ranking_init : WtI := fun ds kk _ => ∃ ss : List Str, ds = [sl ss] ∧ ss.length ≤ 30 ∧ (∀ s ∈ ss, isName s = true) ∧ ss.Nodup ∧ kk [("order", sl ss), ("places", .dic (plc ss))]
theorem ok_Ranking_init (T : TX K mg) : Ok P w K mg base 3 (He.ma K (He.ga K "Ranking") "__init__") ["self", "alternatives"] (spI K "Ranking" wt_Ranking_init) := by
  obtain ⟨fd, F⟩ := T.def_ 7 (d := d_Ranking_init)
  obtain ⟨tk_MAX_NAMES, g_MAX_NAMES⟩ := T.int 14 (x := "MAX_NAMES")
  have k_are_names := ok_are_names (P := P) (w := w) (base := base) T
  have k_distinct := ok_distinct (P := P) (w := w) (base := base) T
  refine ⟨⟨fd, fnI F sc_Ranking_init (by decide) (fun _ _ _ h => by obtain ⟨ss, rfl, h30, hs, hn, hk⟩ := h; rfl) (fun cdv A outer s H E hr => ⟨_, (pss_cons (ps_if (PW.pt (pw_or (pt_not (pt_val (q_call k_are_names hr (T.glo 7) (pa_cons (pv 1) pa_nil)))) (pw_or1 (pt_cmpR op_gt (pe_callB (z_len K) (by rfl) (T.free 2) boot_len (pa_cons (pv 1) pa_nil)) (pe_glob (v := .int 30) rfl g_MAX_NAMES ⟨_, rfl⟩) (nomark _))))) (pss_one ps_never) pss_nil) (pss_cons (ps_if (pt_cmpR op_ne (pe_callB (z_len K) (by rfl) (T.free 2) boot_len (pa_cons (q_call k_distinct hr (T.glo 8) (pa_cons (pv 1) pa_nil)) pa_nil)) (pe_callB (z_len K) (by rfl) (T.free 2) boot_len (pa_cons (pv 1) pa_nil)) (nomark _)) (pss_one ps_never) pss_nil) (pss_cons (ps_fld (pv 0) (pe_callTy (z_listof K) (by rfl) (T.free 4) (by decide +kernel) (pa_cons (pv 1) pa_nil)) rfl) (pss_one (ps_fld (pv 0) (pe_dc (own := [("place", 2), ("name", 3)]) rfl sc_Ranking_init.nd (pi_enum (by rfl) (T.free 17) (pa_cons (z_fld K (pv 0)) pa_nil)) (blkOk_by (own := [("place", 2), ("name", 3)]) (N := N_Ranking_init) (sc := defScope s_Ranking_init) (by decide +kernel)) (fun _ _ _ _ _ => (q_tup (n := 2) K rfl rfl (pgs_cons (pg_name (i := 2) sc_Ranking_init.nd rfl (by first | exact Or.inl rfl | exact Or.inr rfl)) (pgs_cons (pg_name (i := 3) sc_Ranking_init.nd rfl (by first | exact Or.inl rfl | exact Or.inr rfl)) pgs_nil)))) (fun _ _ _ _ _ => pts_nil) (fun _ _ _ _ _ => (pv 3)) (fun _ _ _ _ _ => (pv 2))) rfl))))), fun x ds kk ke h => ?_⟩), FunD.bindsN F fun _ _ _ _ _ _ us hl => match us, hl with | [_, _], _ => rfl⟩, F.kp⟩
  obtain ⟨ss, rfl, h30, hs, hn, hk⟩ := h
  try dsimp only [cxK]
  walk_at "fw"
  have ha : ss.all isName = true := List.all_eq_true.mpr hs
  have hq : (srt ss).length = ss.length := srt_len hn
  refine ⟨by omega, fun s m => Nat.le_trans (isName_len (hs s m)) (by decide), ?_⟩
  rw [ha]
  walk_at "fw"
  refine ⟨fun h => ?_, fun h => ?_⟩
  · refine ds_never (P := True) ?_
    rw [List.length_map] at h
    have := of_decide_eq_true h
    omega
  · walk_at "fw"
    refine ⟨by omega, by omega, ?_⟩
    walk_at "fw"
    refine ⟨fun h => ?_, fun h => ?_⟩
    · refine ds_never (P := True) ?_
      rw [List.length_map, List.length_map, hq] at h
      simp [D.v] at h
    · walk_at "fw"
      refine ds_fldS 0 (T.cls 15) (T.noat 16) rfl (by decide) ?_
      walk_at "fw"
      refine ds_fldS 0 (T.cls 15) (T.noat 18) rfl (by exact (by decide : 1 < 1000)) ?_
      refine (df_dcM ([2] ++ ([3] ++ [])) (fun p : Str × Nat => D.tup [.int (p.2 : Nat), .str p.1]) (fun p => ((.inr p.1 : Key), .int (p.2 : Nat))) (fun a b e => by cases a; cases b; cases e; rfl) (by decide) (by walk_at "fno") ?_).dt
      walk_at "fw"
      refine dt_fldS 0 (T.cls 15) (T.noat 16) rfl rfl ?_
      walk_at "fw"
      refine ⟨ss.zipIdx, enum_strs ss, by rw [List.length_zipIdx]; exact szOf (by omega), fun p hp => ?_, ?_⟩
      · walk_at "fw"
        exact ⟨.inr p.1, rfl, rfl⟩
      · rw [plc_merge hn]
        exact ⟨_, rfl, hk⟩
def wt_Ranking_alternatives : Wt := fun ds kk _ => ∃ ss : List Str, ds = [rk ss] ∧ kk (sl ss)
theorem ok_Ranking_alternatives (T : TX K mg) : Ok P w K mg base 1 (getter K (He.ga K "Ranking") "alternatives") ["self"] (spD K wt_Ranking_alternatives) := by
  obtain ⟨fd, F⟩ := T.def_ 8 (d := d_Ranking_alternatives)
  refine ⟨⟨fd, fnD F sc_Ranking_alternatives (fun _ _ _ h => by obtain ⟨ss, rfl, hk⟩ := h; rfl) (fun cdv A outer s H E hr => ⟨_, (pss_one (ps_ret (pe_callTy (z_listof K) (by rfl) (T.free 4) (by decide +kernel) (pa_cons (z_fld K (pv 0)) pa_nil)))), fun ds kk ke h => ?_⟩), FunD.bindsN F fun _ _ _ _ _ _ us hl => match us, hl with | [_], _ => rfl⟩, F.kp⟩
  obtain ⟨ss, rfl, hk⟩ := h
  try dsimp only [cxK]
  walk_at "fw"
  exact hk
def wt_Ranking_len : Wt := fun ds kk _ => ∃ ss : List Str, ds = [rk ss] ∧ kk (.int (ss.length : Nat))
theorem ok_Ranking_len (T : TX K mg) : Ok P w K mg base 1 (He.ma K (He.ga K "Ranking") "__len__") ["self"] (spD K wt_Ranking_len) := by
  obtain ⟨fd, F⟩ := T.def_ 9 (d := d_Ranking_len)
  refine ⟨⟨fd, fnD F sc_Ranking_len (fun _ _ _ h => by obtain ⟨ss, rfl, hk⟩ := h; rfl) (fun cdv A outer s H E hr => ⟨_, (pss_one (ps_ret (pe_callB (z_len K) (by rfl) (T.free 2) boot_len (pa_cons (z_fld K (pv 0)) pa_nil)))), fun ds kk ke h => ?_⟩), FunD.bindsN F fun _ _ _ _ _ _ us hl => match us, hl with | [_], _ => rfl⟩, F.kp⟩
  obtain ⟨ss, rfl, hk⟩ := h
  try dsimp only [cxK]
  walk_at "fw"
  rw [List.length_map]; exact hk
def wt_Ranking_contains : Wt := fun ds kk _ => ∃ (ss : List Str) (x : Str), ds = [rk ss, .str x] ∧ x.length ≤ 1000 ∧ kk (.bl (isName x && decide (x ∈ ss)))
theorem ok_Ranking_contains (T : TX K mg) : Ok P w K mg base 2 (He.ma K (He.ga K "Ranking") "__contains__") ["self", "name"] (spD K wt_Ranking_contains) := by
  obtain ⟨fd, F⟩ := T.def_ 10 (d := d_Ranking_contains)
  have k_is_name := ok_is_name (P := P) (w := w) (base := base) T
  refine ⟨⟨fd, fnD F sc_Ranking_contains (fun _ _ _ h => by obtain ⟨ss, x, rfl, hl, hk⟩ := h; rfl) (fun cdv A outer s H E hr => ⟨_, (pss_one (ps_ret (pe_and (q_call k_is_name hr (T.glo 5) (pa_cons (pv 1) pa_nil)) (pe_one (pe_cmp (q_din hr (pv 1) (z_fld K (pv 0))) rfl))))), fun ds kk ke h => ?_⟩), FunD.bindsN F fun _ _ _ _ _ _ us hl => match us, hl with | [_, _], _ => rfl⟩, F.kp⟩
  obtain ⟨ss, x, rfl, hl, hk⟩ := h
  try dsimp only [cxK]
  walk_at "fw"
  refine ⟨hl, ?_⟩
  walk_at "fw"
  refine ⟨fun h => ?_, fun h => ?_⟩
  · walk_at "fw"
    refine ⟨_, .inr x, rfl, rfl, ?_⟩
    have e : (getD (plc ss) (.inr x)).isSome = decide (x ∈ ss) := by
      rw [Bool.eq_iff_iff, getD_is, plc_keys, key_mem, decide_eq_true_eq]
    rw [e]
    rw [h, Bool.true_and] at hk
    exact hk
  · rw [h, Bool.false_and] at hk
    exact hk
def wt_members_known : Wt := fun ds kk _ => ∃ ss ts : List Str, ds = [rk ss, cm ts] ∧ (∀ s ∈ ts, isName s = true ∧ s ∈ ss) ∧ kk .non
theorem ok_members_known (T : TX K mg) : Ok P w K mg base 3 (He.ga K "members_known") ["ranking", "committee"] (spD K wt_members_known) := by
  obtain ⟨fd, F⟩ := T.def_ 11 (d := d_members_known)
  have k_Committee_members := ok_Committee_members (P := P) (w := w) (base := base) T
  have k_Ranking_contains := ok_Ranking_contains (P := P) (w := w) (base := base) T
  refine ⟨⟨fd, fnD F sc_members_known (fun _ _ _ h => by obtain ⟨ss, ts, rfl, hs, hk⟩ := h; rfl) (fun cdv A outer s H E hr => ⟨_, (pss_one (ps_for (passes_of rfl) rfl (z_plist K (q_prop k_Committee_members (pv 1) (T.cls 9) (T.prop 19) hr)) (pg_name (i := 2) sc_members_known.nd rfl (by first | exact Or.inl rfl | exact Or.inr rfl)) (pss_one (ps_if (pt_cmpR (q_notin k_Ranking_contains (T.meth 20) hr) (pv 2) (pv 0) (by rfl)) (pss_one ps_never) pss_nil)))), fun ds kk ke h => ?_⟩), FunD.bindsN F fun _ _ _ _ _ _ us hl => match us, hl with | [_, _], _ => rfl⟩, F.kp⟩
  obtain ⟨ss, ts, rfl, hs, hk⟩ := h
  try dsimp only [cxK]
  walk_at "fw"
  refine ds_for [2] (fun _ _ G' O' => O' = [] ∧ ∃ g, G' = [some (rk ss), some (cm ts), g]) ?_
  walk_at "fw"
  refine ⟨⟨rfl, _, rfl⟩, fun i a G' O' hi hP => ?_, fun G' O' hP => hk⟩
  obtain ⟨rfl, g, rfl⟩ := hP
  obtain ⟨s, hm, rfl⟩ := get_strs hi
  obtain ⟨n1, n2⟩ := hs s hm
  walk_at "fw"
  refine ⟨Nat.le_trans (isName_len n1) (by decide), ?_⟩
  rw [n1, decide_eq_true n2, Bool.true_and]
  walk_at "fw"
  exact ⟨rfl, _, rfl⟩
def wt_as_committee : Wt := fun ds kk _ => ∃ ss : List Str, ds = [rk ss] ∧ ss.length ≤ 30 ∧ (∀ s ∈ ss, isName s = true) ∧ kk (cm (srt ss))
theorem ok_as_committee (T : TX K mg) : Ok P w K mg base 5 (He.ga K "as_committee") ["ranking"] (spD K wt_as_committee) := by
  obtain ⟨fd, F⟩ := T.def_ 12 (d := d_as_committee)
  have k_Committee_init := ok_Committee_init (P := P) (w := w) (base := base) T
  have k_Ranking_alternatives := ok_Ranking_alternatives (P := P) (w := w) (base := base) T
  refine ⟨⟨fd, fnD F sc_as_committee (fun _ _ _ h => by obtain ⟨ss, rfl, h30, hs, hk⟩ := h; rfl) (fun cdv A outer s H E hr => ⟨_, (pss_one (ps_ret (q_make k_Committee_init (T.mkr 21) hr (T.glo 11) (pa_cons (q_prop k_Ranking_alternatives (pv 0) (T.cls 15) (T.prop 22) hr) pa_nil)))), fun ds kk ke h => ?_⟩), FunD.bindsN F fun _ _ _ _ _ _ us hl => match us, hl with | [_], _ => rfl⟩, F.kp⟩
  obtain ⟨ss, rfl, h30, hs, hk⟩ := h
  try dsimp only [cxK]
  walk_at "fw"
  exact ⟨by omega, hs, Nat.le_trans (srt_le ss) h30, hk⟩
end
end

set_option maxHeartbeats 4000000
/-! The program's defs: turns, games, groups. -/

section

section
variable {P : Program} {w : World} {K : PySem.W.Frag} {mg : Str → Option Value} {base : Heap}
def wt_Turns_init : WtI := fun ds kk _ => ∃ ss : List Str, ds = [sl ss] ∧ ss.length ≤ 30 ∧ (∀ s ∈ ss, isName s = true) ∧ kk [("order", sl ss)]
theorem ok_Turns_init (T : TX K mg) : Ok P w K mg base 3 (He.ma K (He.ga K "Turns") "__init__") ["self", "players"] (spI K "Turns" wt_Turns_init) := by
  obtain ⟨fd, F⟩ := T.def_ 13 (d := d_Turns_init)
  obtain ⟨tk_MAX_NAMES, g_MAX_NAMES⟩ := T.int 14 (x := "MAX_NAMES")
  have k_are_names := ok_are_names (P := P) (w := w) (base := base) T
  refine ⟨⟨fd, fnI F sc_Turns_init (by decide) (fun _ _ _ h => by obtain ⟨ss, rfl, h30, hs, hk⟩ := h; rfl) (fun cdv A outer s H E hr => ⟨_, (pss_cons (ps_if (PW.pt (pw_or (pt_not (pt_val (q_call k_are_names hr (T.glo 7) (pa_cons (pv 1) pa_nil)))) (pw_or1 (pt_cmpR op_gt (pe_callB (z_len K) (by rfl) (T.free 2) boot_len (pa_cons (pv 1) pa_nil)) (pe_glob (v := .int 30) rfl g_MAX_NAMES ⟨_, rfl⟩) (nomark _))))) (pss_one ps_never) pss_nil) (pss_one (ps_fld (pv 0) (pe_callTy (z_listof K) (by rfl) (T.free 4) (by decide +kernel) (pa_cons (pv 1) pa_nil)) rfl))), fun x ds kk ke h => ?_⟩), FunD.bindsN F fun _ _ _ _ _ _ us hl => match us, hl with | [_, _], _ => rfl⟩, F.kp⟩
  obtain ⟨ss, rfl, h30, hs, hk⟩ := h
  try dsimp only [cxK]
  walk_at "fw"
  have ha : ss.all isName = true := List.all_eq_true.mpr hs
  refine ⟨by omega, fun s m => Nat.le_trans (isName_len (hs s m)) (by decide), ?_⟩
  rw [ha]
  walk_at "fw"
  refine ⟨fun h => ?_, fun h => ?_⟩
  · refine ds_never (P := True) ?_
    rw [List.length_map] at h
    have := of_decide_eq_true h
    omega
  · walk_at "fw"
    refine ds_fldS 0 (T.cls 23) (T.noat 24) rfl (by decide) ?_
    walk_at "fw"
    exact hk
def wt_Turns_players : Wt := fun ds kk _ => ∃ ss : List Str, ds = [tn ss] ∧ kk (sl ss)
theorem ok_Turns_players (T : TX K mg) : Ok P w K mg base 1 (getter K (He.ga K "Turns") "players") ["self"] (spD K wt_Turns_players) := by
  obtain ⟨fd, F⟩ := T.def_ 14 (d := d_Turns_players)
  refine ⟨⟨fd, fnD F sc_Turns_players (fun _ _ _ h => by obtain ⟨ss, rfl, hk⟩ := h; rfl) (fun cdv A outer s H E hr => ⟨_, (pss_one (ps_ret (pe_callTy (z_listof K) (by rfl) (T.free 4) (by decide +kernel) (pa_cons (z_fld K (pv 0)) pa_nil)))), fun ds kk ke h => ?_⟩), FunD.bindsN F fun _ _ _ _ _ _ us hl => match us, hl with | [_], _ => rfl⟩, F.kp⟩
  obtain ⟨ss, rfl, hk⟩ := h
  try dsimp only [cxK]
  walk_at "fw"
  exact hk
def wt_Turns_len : Wt := fun ds kk _ => ∃ ss : List Str, ds = [tn ss] ∧ kk (.int (ss.length : Nat))
theorem ok_Turns_len (T : TX K mg) : Ok P w K mg base 1 (He.ma K (He.ga K "Turns") "__len__") ["self"] (spD K wt_Turns_len) := by
  obtain ⟨fd, F⟩ := T.def_ 15 (d := d_Turns_len)
  refine ⟨⟨fd, fnD F sc_Turns_len (fun _ _ _ h => by obtain ⟨ss, rfl, hk⟩ := h; rfl) (fun cdv A outer s H E hr => ⟨_, (pss_one (ps_ret (pe_callB (z_len K) (by rfl) (T.free 2) boot_len (pa_cons (z_fld K (pv 0)) pa_nil)))), fun ds kk ke h => ?_⟩), FunD.bindsN F fun _ _ _ _ _ _ us hl => match us, hl with | [_], _ => rfl⟩, F.kp⟩
  obtain ⟨ss, rfl, hk⟩ := h
  try dsimp only [cxK]
  walk_at "fw"
  rw [List.length_map]; exact hk
/-- a game, or one on the way -/
abbrev gmX (rs : List (Str × List Str)) (more : List (Str × D)) : D := .obj "Game" (("own_rankings", .dic (rks rs)) :: more)
theorem atI_0 {α : Type} (x : α) (xs : List α) : atI (x :: xs) 0 = some x := by
  unfold atI
  have e : ixN (x :: xs).length 0 = some 0 := by
    unfold ixN
    rw [List.length_cons]
    simp
  rw [e]; rfl
abbrev Fr (more : List (Str × D)) : Prop := more.lookup ("first_ranking" : Str) = none
theorem fr_look {d : D} {more : List (Str × D)} (h : Fr more) : ((("own_rankings" : Str), d) :: more).lookup ("first_ranking" : Str) = none := by
  rw [List.lookup_cons, show (("first_ranking" : Str) == "own_rankings") = false from by decide +kernel]; exact h
theorem all_tt {α : Type} (xs : List α) : (xs.map fun _ => true).all id = true := by
  rw [all_id]; exact List.all_eq_true.mpr fun _ _ => rfl
theorem map_tt {α : Type} (xs : List α) : (xs.map fun _ => true).map D.bl = xs.map fun _ => D.bl true := by rw [List.map_map]; rfl
def wt_Game_first_ranking : Wt := fun ds kk _ => ∃ (q : Str × List Str) (r : List (Str × List Str)) (more : List (Str × D)), ds = [gmX (q :: r) more] ∧ kk (rk q.2)
theorem ok_Game_first_ranking (T : TX K mg) : Ok P w K mg base 1 (He.ma K (He.ga K "Game") "first_ranking") ["self"] (spD K wt_Game_first_ranking) := by
  obtain ⟨fd, F⟩ := T.def_ 16 (d := d_Game_first_ranking)
  refine ⟨⟨fd, fnD F sc_Game_first_ranking (fun _ _ _ h => by obtain ⟨q, r, more, rfl, hk⟩ := h; rfl) (fun cdv A outer s H E hr => ⟨_, (pss_one (ps_ret (pe_ix (z_ixL K) (pe_listVals rfl (z_fld K (pv 0)) (by rfl) (T.free 4) (by decide +kernel)) pe_int (fun _ _ => rfl)))), fun ds kk ke h => ?_⟩), FunD.bindsN F fun _ _ _ _ _ _ us hl => match us, hl with | [_], _ => rfl⟩, F.kp⟩
  obtain ⟨q, r, more, rfl, hk⟩ := h
  try dsimp only [cxK]
  walk_at "fw"
  exact ⟨_, _, rk q.2, rfl, rfl, by unfold rks; rw [List.map_cons, List.map_cons]; exact atI_0 _ _, hk⟩
def wt_Game_rankings : Wt := fun ds kk _ => ∃ (rs : List (Str × List Str)) (more : List (Str × D)), ds = [gmX rs more] ∧ kk (.dic (rks rs))
theorem ok_Game_rankings (T : TX K mg) : Ok P w K mg base 1 (getter K (He.ga K "Game") "rankings") ["self"] (spD K wt_Game_rankings) := by
  obtain ⟨fd, F⟩ := T.def_ 17 (d := d_Game_rankings)
  refine ⟨⟨fd, fnD F sc_Game_rankings (fun _ _ _ h => by obtain ⟨rs, more, rfl, hk⟩ := h; rfl) (fun cdv A outer s H E hr => ⟨_, (pss_one (ps_ret (pe_callTy (call_dictD) (by rfl) (T.free 27) (by decide +kernel) (pa_cons (z_fld K (pv 0)) pa_nil)))), fun ds kk ke h => ?_⟩), FunD.bindsN F fun _ _ _ _ _ _ us hl => match us, hl with | [_], _ => rfl⟩, F.kp⟩
  obtain ⟨rs, more, rfl, hk⟩ := h
  try dsimp only [cxK]
  walk_at "fw"
  exact hk
def wt_Game_turns : Wt := fun ds kk _ => ∃ (rs : List (Str × List Str)) (ts : List Str), ds = [gm rs ts] ∧ kk (tn ts)
theorem ok_Game_turns (T : TX K mg) : Ok P w K mg base 1 (getter K (He.ga K "Game") "turns") ["self"] (spD K wt_Game_turns) := by
  obtain ⟨fd, F⟩ := T.def_ 18 (d := d_Game_turns)
  refine ⟨⟨fd, fnD F sc_Game_turns (fun _ _ _ h => by obtain ⟨rs, ts, rfl, hk⟩ := h; rfl) (fun cdv A outer s H E hr => ⟨_, (pss_one (ps_ret (z_fld K (pv 0)))), fun ds kk ke h => ?_⟩), FunD.bindsN F fun _ _ _ _ _ _ us hl => match us, hl with | [_], _ => rfl⟩, F.kp⟩
  obtain ⟨rs, ts, rfl, hk⟩ := h
  try dsimp only [cxK]
  walk_at "fw"
  exact hk
def wt_Game_alternatives : Wt := fun ds kk _ => ∃ (q : Str × List Str) (r : List (Str × List Str)) (more : List (Str × D)), ds = [gmX (q :: r) more] ∧ Fr more ∧ q.2.length ≤ 30 ∧ (∀ s ∈ q.2, isName s = true) ∧ kk (cm (srt q.2))
theorem ok_Game_alternatives (T : TX K mg) : Ok P w K mg base 6 (getter K (He.ga K "Game") "alternatives") ["self"] (spD K wt_Game_alternatives) := by
  obtain ⟨fd, F⟩ := T.def_ 19 (d := d_Game_alternatives)
  have k_Game_first_ranking := ok_Game_first_ranking (P := P) (w := w) (base := base) T
  have k_as_committee := ok_as_committee (P := P) (w := w) (base := base) T
  refine ⟨⟨fd, fnD F sc_Game_alternatives (fun _ _ _ h => by obtain ⟨q, r, more, rfl, hmr, h30, hs, hk⟩ := h; rfl) (fun cdv A outer s H E hr => ⟨_, (pss_one (ps_ret (q_call k_as_committee hr (T.glo 29) (pa_cons (q_meth0 k_Game_first_ranking (pv 0) (T.cls 25) (T.meth 30) hr) pa_nil)))), fun ds kk ke h => ?_⟩), FunD.bindsN F fun _ _ _ _ _ _ us hl => match us, hl with | [_], _ => rfl⟩, F.kp⟩
  obtain ⟨q, r, more, rfl, hmr, h30, hs, hk⟩ := h
  try dsimp only [cxK]
  walk_at "fw"
  refine ⟨fr_look hmr, ?_⟩
  walk_at "fw"
  exact ⟨h30, hs, hk⟩
def wt_Game_ranking_of : Wt := fun ds kk _ => ∃ (rs : List (Str × List Str)) (more : List (Str × D)) (p : Str), ds = [gmX rs more, .str p] ∧ isName p = true ∧ p ∈ rs.map Prod.fst ∧ kk (rk (lk rs p))
theorem ok_Game_ranking_of (T : TX K mg) : Ok P w K mg base 2 (He.ma K (He.ga K "Game") "ranking_of") ["self", "player"] (spD K wt_Game_ranking_of) := by
  obtain ⟨fd, F⟩ := T.def_ 20 (d := d_Game_ranking_of)
  have k_is_name := ok_is_name (P := P) (w := w) (base := base) T
  refine ⟨⟨fd, fnD F sc_Game_ranking_of (fun _ _ _ h => by obtain ⟨rs, more, p, rfl, hn, hp, hk⟩ := h; rfl) (fun cdv A outer s H E hr => ⟨_, (pss_cons (ps_if (PW.pt (pw_or (pt_not (pt_val (q_call k_is_name hr (T.glo 5) (pa_cons (pv 1) pa_nil)))) (pw_or1 (pt_cmp (q_dnotin hr (pv 1) (z_fld K (pv 0))) rfl)))) (pss_one ps_never) pss_nil) (pss_one (ps_ret (q_dget hr (z_fld K (pv 0)) (pv 1) (fun _ _ => rfl))))), fun ds kk ke h => ?_⟩), FunD.bindsN F fun _ _ _ _ _ _ us hl => match us, hl with | [_, _], _ => rfl⟩, F.kp⟩
  obtain ⟨rs, more, p, rfl, hn, hp, hk⟩ := h
  try dsimp only [cxK]
  walk_at "fw"
  refine ⟨Nat.le_trans (isName_len hn) (by decide), ?_⟩
  rw [hn]
  walk_at "fw"
  refine ⟨_, .inr p, rfl, rfl, ?_⟩
  rw [getD_rks_is, decide_eq_true hp]
  walk_at "fw"
  exact ⟨_, .inr p, _, rfl, rfl, getD_rks hp, hk⟩
end
end

set_option maxHeartbeats 4000000
/-! The program's defs: turns, games, groups. -/

section

section
variable {P : Program} {w : World} {K : PySem.W.Frag} {mg : Str → Option Value} {base : Heap}
def wt_Game_check_turns : Wt := fun ds kk _ => ∃ (q : Str × List Str) (r : List (Str × List Str)) (more : List (Str × D)) (ts : List Str), ds = [gmX (q :: r) more, tn ts] ∧ Fr more ∧ ts.length ≤ 30 ∧ q.2.length ≤ 30 ∧ ts.length ≤ q.2.length ∧ (∀ t ∈ ts, t ∈ (q :: r).map Prod.fst) ∧ kk .non
theorem ok_Game_check_turns (T : TX K mg) : Ok P w K mg base 3 (He.ma K (He.ga K "Game") "check_turns") ["self", "turns"] (spD K wt_Game_check_turns) := by
  obtain ⟨fd, F⟩ := T.def_ 21 (d := d_Game_check_turns)
  have k_Game_first_ranking := ok_Game_first_ranking (P := P) (w := w) (base := base) T
  have k_Ranking_len := ok_Ranking_len (P := P) (w := w) (base := base) T
  have k_Turns_len := ok_Turns_len (P := P) (w := w) (base := base) T
  have k_Turns_players := ok_Turns_players (P := P) (w := w) (base := base) T
  refine ⟨⟨fd, fnD F sc_Game_check_turns (fun _ _ _ h => by obtain ⟨q, r, more, ts, rfl, hmr, hl, hl2, hle, hm, hk⟩ := h; rfl) (fun cdv A outer s H E hr => ⟨_, (pss_cons (ps_if (PW.pt (pw_or (pt_not (pt_val (pe_callB (z_isi K) (by rfl) (T.free 0) (by decide +kernel) (pa_cons (pv 1) (pa_cons (pe_glob (v := .ref (He.ga K "Turns")) rfl (T.glo 31) rfl) pa_nil))))) (pw_or1 (pt_cmpR op_gt (q_len k_Turns_len (T.meth 32) hr (T.free 2) (pa_cons (pv 1) pa_nil)) (q_len k_Ranking_len (T.meth 33) hr (T.free 2) (pa_cons (q_meth0 k_Game_first_ranking (pv 0) (T.cls 25) (T.meth 30) hr) pa_nil)) (nomark _))))) (pss_one ps_never) pss_nil) (pss_one (ps_if (pt_not (pt_val (pe_callB (z_all K rfl) (by rfl) (T.free 3) (by decide +kernel) (pa_cons (pe_lc (own := [("player", 2)]) rfl sc_Game_check_turns.nd (z_plist K (q_prop k_Turns_players (pv 1) (T.cls 23) (T.prop 34) hr)) (blkOk_by (own := [("player", 2)]) (N := N_Game_check_turns) (sc := defScope s_Game_check_turns) (by decide +kernel)) (fun _ _ _ _ _ => (pg_name (i := 2) sc_Game_check_turns.nd rfl (by first | exact Or.inl rfl | exact Or.inr rfl))) (fun _ _ _ _ _ => pts_nil) (fun _ _ _ _ _ => (pe_cmp (q_din hr (pv 2) (z_fld K (pv 0))) rfl))) pa_nil)))) (pss_one ps_never) pss_nil))), fun ds kk ke h => ?_⟩), FunD.bindsN F fun _ _ _ _ _ _ us hl => match us, hl with | [_, _], _ => rfl⟩, F.kp⟩
  obtain ⟨q, r, more, ts, rfl, hmr, hl, hl2, hle, hm, hk⟩ := h
  try dsimp only [cxK]
  walk_at "fw"
  refine ⟨⟨by omega, by omega⟩, ?_⟩
  walk_at "fw"
  refine ⟨fr_look hmr, ?_⟩
  walk_at "fw"
  refine ⟨⟨by omega, by omega⟩, ?_⟩
  walk_at "fw"
  refine ⟨fun h => absurd (of_decide_eq_true h) (by omega), fun _ => ?_⟩
  walk_at "fw"
  refine (df_lcM [2] D.str (fun _ => .bl true) (fun _ _ _ => rfl) (by decide) (by walk_at "fno") ?_).dt
  walk_at "fw"
  refine ⟨szOf (by omega), fun s hs => ?_, ?_⟩
  · walk_at "fw"
    refine ⟨_, .inr s, rfl, rfl, ?_⟩
    rw [getD_rks_is, decide_eq_true (hm s hs)]
  · walk_at "fw"
    refine ⟨ts.map fun _ => true, by rw [map_tt]; rfl, ?_⟩
    rw [all_tt]
    walk_at "fw"
    exact hk
/-- rankings that make a game -/
structure Rks (rs : List (Str × List Str)) : Prop where
  ne : rs ≠ []
  len : rs.length ≤ 30
  nd : (rs.map Prod.fst).Nodup
  name : ∀ p ∈ rs, isName p.1 = true
  le : ∀ p ∈ rs, p.2.length ≤ 30
  names : ∀ p ∈ rs, ∀ s ∈ p.2, isName s = true
  same : ∀ p ∈ rs, ∀ q ∈ rs, srt p.2 = srt q.2
def wt_check_rankings : Wt := fun ds kk _ => ∃ rs : List (Str × List Str), ds = [.dic (rks rs)] ∧ Rks rs ∧ kk .non
theorem ok_check_rankings (T : TX K mg) : Ok P w K mg base 6 (He.ga K "check_rankings") ["rankings"] (spD K wt_check_rankings) := by
  obtain ⟨fd, F⟩ := T.def_ 22 (d := d_check_rankings)
  have k_Committee_eq := ok_Committee_eq (P := P) (w := w) (base := base) T
  have k_as_committee := ok_as_committee (P := P) (w := w) (base := base) T
  have k_is_name := ok_is_name (P := P) (w := w) (base := base) T
  refine ⟨⟨fd, fnD F sc_check_rankings (fun _ _ _ h => by obtain ⟨rs, rfl, hr1, hk⟩ := h; rfl) (fun cdv A outer s H E hr => ⟨_, (pss_cons (ps_if (PW.pt (pw_or (pt_not (pt_val (pe_callB (z_isi K) (by rfl) (T.free 0) (by decide +kernel) (pa_cons (pv 0) (pa_cons (pe_bltn (v := .ty "dict") rfl (T.free 27) (by decide +kernel) rfl) pa_nil))))) (pw_or1 (pt_cmpR (op_eqDn hr) (pv 0) pe_dnewK (nomark _))))) (pss_one ps_never) pss_nil) (pss_cons (ps_if (pt_not (pt_val (pe_callB (z_all K rfl) (by rfl) (T.free 3) (by decide +kernel) (pa_cons (pe_unl (pe_lc (own := [("player", 1), ("ranking", 2)]) rfl sc_check_rankings.nd (pi_items (pe_lk (pv 0))) (blkOk_by (own := [("player", 1), ("ranking", 2)]) (N := N_check_rankings) (sc := defScope s_check_rankings) (by decide +kernel)) (fun _ _ _ _ _ => (q_tup (n := 2) K rfl rfl (pgs_cons (pg_name (i := 1) sc_check_rankings.nd rfl (by first | exact Or.inl rfl | exact Or.inr rfl)) (pgs_cons (pg_name (i := 2) sc_check_rankings.nd rfl (by first | exact Or.inl rfl | exact Or.inr rfl)) pgs_nil)))) (fun _ _ _ _ _ => pts_nil) (fun _ _ _ _ _ => (pe_and (q_call k_is_name hr (T.glo 5) (pa_cons (pv 1) pa_nil)) (pe_one (pe_callB (z_isi K) (by rfl) (T.free 0) (by decide +kernel) (pa_cons (pv 2) (pa_cons (pe_glob (v := .ref (He.ga K "Ranking")) rfl (T.glo 35) rfl) pa_nil)))))))) pa_nil)))) (pss_one ps_never) pss_nil) (pss_cons (ps_set (i := 3) sc_check_rankings.nd rfl (by first | exact Or.inl rfl | exact Or.inr rfl) (pe_ix (z_ixL K) (pe_listVals rfl (pv 0) (by rfl) (T.free 4) (by decide +kernel)) pe_int (fun _ _ => rfl))) (pss_one (ps_if (pt_not (pt_val (pe_callB (z_all K rfl) (by rfl) (T.free 3) (by decide +kernel) (pa_cons (pe_unl (pe_lc (own := [("ranking", 2)]) rfl sc_check_rankings.nd (pi_values (pe_lk (pv 0))) (blkOk_by (own := [("ranking", 2)]) (N := N_check_rankings) (sc := defScope s_check_rankings) (by decide +kernel)) (fun _ _ _ _ _ => (pg_name (i := 2) sc_check_rankings.nd rfl (by first | exact Or.inl rfl | exact Or.inr rfl))) (fun _ _ _ _ _ => pts_nil) (fun _ _ _ _ _ => (pe_cmpR (q_eq k_Committee_eq (T.meth 36) hr) (q_call k_as_committee hr (T.glo 29) (pa_cons (pv 2) pa_nil)) (q_call k_as_committee hr (T.glo 29) (pa_cons (pv 3) pa_nil)) (nomark _))))) pa_nil)))) (pss_one ps_never) pss_nil))))), fun ds kk ke h => ?_⟩), FunD.bindsN F fun _ _ _ _ _ _ us hl => match us, hl with | [_], _ => rfl⟩, F.kp⟩
  obtain ⟨rs, rfl, hr1, hk⟩ := h
  try dsimp only [cxK]
  walk_at "fw"
  have h30 := hr1.len
  refine ⟨by unfold rks; rw [List.length_map]; exact fun z => hr1.ne (List.length_eq_zero_iff.mp z), ?_⟩
  walk_at "fw"
  refine (df_lcLM ([1] ++ ([2] ++ [])) (fun p : Str × List Str => D.tup [.str p.1, rk p.2]) (fun _ => .bl true) (fun _ _ _ => rfl) (by decide) (by walk_at "fno") ?_).dt
  walk_at "fw"
  refine ⟨rs, by unfold rks; rw [List.map_map]; rfl, szOf (by omega), fun p hp => ?_, ?_⟩
  · walk_at "fw"
    refine ⟨Nat.le_trans (isName_len (hr1.name p hp)) (by decide), ?_⟩
    rw [hr1.name p hp]
    walk_at "fw"
    rfl
  · walk_at "fw"
    refine ⟨rs.map fun _ => true, by rw [map_tt]; rfl, ?_⟩
    rw [all_tt]
    walk_at "fw"
    obtain ⟨q, r, rfl⟩ := List.exists_cons_of_ne_nil hr1.ne
    refine ⟨_, _, rk q.2, rfl, rfl, by unfold rks; rw [List.map_cons, List.map_cons]; exact atI_0 _ _, ?_⟩
    walk_at "fw"
    refine (df_lcLM [2] (fun p : Str × List Str => rk p.2) (fun _ => .bl true) (fun _ _ _ => rfl) (by decide) (by walk_at "fno") ?_).dt
    walk_at "fw"
    refine ⟨q :: r, by unfold rks; rw [List.map_map]; rfl, szOf (by omega), fun p hp => ?_, ?_⟩
    · walk_at "fw"
      refine ⟨hr1.le p hp, hr1.names p hp, ?_⟩
      walk_at "fw"
      refine ⟨hr1.le q List.mem_cons_self, hr1.names q List.mem_cons_self, ?_⟩
      walk_at "fw"
      refine ⟨fun s h => hr1.names p hp s (srt_mem.mp h), fun s h => hr1.names q List.mem_cons_self s (srt_mem.mp h), ?_⟩
      rw [decide_eq_true (hr1.same p hp q List.mem_cons_self)]
      exact ⟨_, rfl, rfl⟩
    · walk_at "fw"
      refine ⟨(q :: r).map fun _ => true, by rw [map_tt]; rfl, ?_⟩
      rw [all_tt]
      walk_at "fw"
      exact hk
/-- by the players -/
noncomputable def srs (rs : List (Str × List Str)) : List (Str × List Str) := (srt (rs.map Prod.fst)).map fun p => (p, lk rs p)
theorem lk_mem {rs : List (Str × List Str)} {p : Str} (h : p ∈ rs.map Prod.fst) : (p, lk rs p) ∈ rs := by
  induction rs with
  | nil => cases h
  | cons q r ih =>
    unfold lk
    rw [List.lookup_cons]
    by_cases e : q.1 = p
    · subst e
      rw [beq_self_eq_true]; exact List.mem_cons_self
    · have hb : (p == q.1) = false := by
        rw [beq_eq_false_iff_ne]; exact fun z => e z.symm
      rw [hb]
      have hr : p ∈ r.map Prod.fst := by
        rcases List.mem_cons.mp (show p ∈ q.1 :: r.map Prod.fst from h) with z | z
        · exact absurd z.symm e
        · exact z
      exact List.mem_cons_of_mem _ (ih hr)
theorem srs_mem {rs : List (Str × List Str)} {q : Str × List Str} (h : q ∈ srs rs) : q ∈ rs := by
  obtain ⟨p, hp, rfl⟩ := List.mem_map.mp h
  exact lk_mem (srt_mem.mp hp)
theorem srs_keys (rs : List (Str × List Str)) : (srs rs).map Prod.fst = srt (rs.map Prod.fst) := by
  unfold srs
  rw [List.map_map]
  exact List.map_id _
theorem srs_ne {rs : List (Str × List Str)} (h : Rks rs) : srs rs ≠ [] := fun z => by
  have e := srs_keys rs
  rw [z] at e
  have l := srt_len h.nd
  rw [← e, List.length_map, List.length_map] at l
  exact h.ne (List.length_eq_zero_iff.mp l.symm)
end
end

set_option maxHeartbeats 4000000
/-! The program's defs: turns, games, groups. -/

section

section
variable {P : Program} {w : World} {K : PySem.W.Frag} {mg : Str → Option Value} {base : Heap}
def wt_Game_init : WtI := fun ds kk _ => ∃ (rs : List (Str × List Str)) (ts : List Str), ds = [.dic (rks rs), tn ts] ∧ Rks rs ∧ ts.length ≤ 30 ∧ (∀ p ∈ rs, ts.length ≤ p.2.length) ∧ (∀ t ∈ ts, t ∈ rs.map Prod.fst) ∧ kk [("own_rankings", .dic (rks (srs rs))), ("own_turns", tn ts)]
theorem ok_Game_init (T : TX K mg) : Ok P w K mg base 7 (He.ma K (He.ga K "Game") "__init__") ["self", "rankings", "turns"] (spI K "Game" wt_Game_init) := by
  obtain ⟨fd, F⟩ := T.def_ 23 (d := d_Game_init)
  have k_Game_check_turns := ok_Game_check_turns (P := P) (w := w) (base := base) T
  have k_check_rankings := ok_check_rankings (P := P) (w := w) (base := base) T
  refine ⟨⟨fd, fnI F sc_Game_init (by decide) (fun _ _ _ h => by obtain ⟨rs, ts, rfl, hr1, hl, hle, hm, hk⟩ := h; rfl) (fun cdv A outer s H E hr => ⟨_, (pss_cons (ps_expr (q_call k_check_rankings hr (T.glo 37) (pa_cons (pv 1) pa_nil))) (pss_cons (ps_fld (pv 0) (pe_dc (own := [("player", 3)]) rfl sc_Game_init.nd (z_plist K (pe_callB (call_sortedD rfl) (by rfl) (T.free 6) (by decide +kernel) (pa_cons (pv 1) pa_nil))) (blkOk_by (own := [("player", 3)]) (N := N_Game_init) (sc := defScope s_Game_init) (by decide +kernel)) (fun _ _ _ _ _ => (pg_name (i := 3) sc_Game_init.nd rfl (by first | exact Or.inl rfl | exact Or.inr rfl))) (fun _ _ _ _ _ => pts_nil) (fun _ _ _ _ _ => (pv 3)) (fun _ _ _ _ _ => (q_dget hr (pv 1) (pv 3) (fun _ _ => rfl)))) rfl) (pss_cons (ps_expr (q_meth k_Game_check_turns (pv 0) (T.cls 25) (T.meth 38) hr (pa_cons (pv 2) pa_nil))) (pss_one (ps_fld (pv 0) (pv 2) rfl))))), fun x ds kk ke h => ?_⟩), FunD.bindsN F fun _ _ _ _ _ _ us hl => match us, hl with | [_, _, _], _ => rfl⟩, F.kp⟩
  obtain ⟨rs, ts, rfl, hr1, hl, hle, hm, hk⟩ := h
  try dsimp only [cxK]
  walk_at "fw"
  refine ⟨hr1, ?_⟩
  walk_at "fw"
  refine ds_fldS 0 (T.cls 25) (T.noat 26) rfl (by decide) ?_
  refine (df_dcM [3] D.str (fun s => ((.inr s : Key), rk (lk rs s))) (fun a b e => by cases e; rfl) (by decide) (by walk_at "fno") ?_).dt
  walk_at "fw"
  refine ⟨_, rs.map Prod.fst, rfl, rks_keys rs, by rw [List.length_map]; have := hr1.len; omega, fun ys yp ys1 => ?_⟩
  have ey := ts_srt (ss := rs.map Prod.fst) hr1.nd (fun x => Iff.rfl) yp ys1
  subst ey
  walk_at "fw"
  refine ⟨szOf (by rw [srt_len hr1.nd, List.length_map]; have := hr1.len; omega), fun s hs => ?_, ?_⟩
  · walk_at "fw"
    exact ⟨_, .inr s, _, rfl, rfl, getD_rks (srt_mem.mp hs), .inr s, rfl, rfl⟩
  · have e : mergeD [] ((srt (rs.map Prod.fst)).map fun s => ((.inr s : Key), rk (lk rs s))) = rks (srs rs) := by
      rw [mergeD_nil (by rw [List.map_map]; exact keys_nodup (srt_nodup _))]
      unfold rks srs
      rw [List.map_map]; rfl
    rw [e]
    obtain ⟨q, r, eq⟩ := List.exists_cons_of_ne_nil (srs_ne hr1)
    have hq : q ∈ rs := srs_mem (by rw [eq]; exact List.mem_cons_self)
    have hky : (q :: r).map Prod.fst = srt (rs.map Prod.fst) := by rw [← eq, srs_keys]
    rw [eq] at hk ⊢
    walk_at "fw"
    refine ⟨rfl, hl, hr1.le q hq, hle q hq, fun t ht => ?_, rfl, ?_⟩
    · rw [hky]; exact srt_mem.mpr (hm t ht)
    · walk_at "fw"
      refine ds_fldS 0 (T.cls 25) (T.noat 28) rfl (by exact (by decide : 1 < 1000)) ?_
      walk_at "fw"
      exact hk
end
end

set_option maxHeartbeats 4000000
/-! The program's defs: turns, games, groups. -/

section

section
variable {P : Program} {w : World} {K : PySem.W.Frag} {mg : Str → Option Value} {base : Heap}
end
end

set_option maxHeartbeats 4000000
/-! The program's safe_place; the law's draws. -/

section

theorem bit01 (b : Bool) : -2 ^ 64 < (if b = true then (1 : Int) else 0) ∧ (if b = true then (1 : Int) else 0) < 2 ^ 64 ∧ 0 ≤ (if b = true then (1 : Int) else 0) := by cases b <;> decide
section
variable {P : Program} {w : World} {K : PySem.W.Frag} {mg : Str → Option Value} {base : Heap}
theorem cut_from {ss : List Str} {k : Nat} (h : k < ss.length) : cutD (ss.map D.str) (some (k : Int)) none = (ss.drop k).map D.str := by
  unfold cutD HT.sIx
  have h0 : ¬ ((k : Int) < 0) := by omega
  simp only [h0, if_false, Int.toNat_natCast, List.length_map]
  rw [Nat.min_eq_left (by omega), ← List.map_drop, List.take_of_length_le (by rw [List.length_map, List.length_drop]; exact Nat.le_refl _)]
theorem erase_perm {α : Type} : ∀ {l : List α} {i : Nat} (h : i < l.length), (l[i] :: l.eraseIdx i).Perm l
  | x :: r, 0, _ => List.Perm.refl _
  | x :: r, i + 1, h => by
    have h2 : i < r.length := by simpa using h
    show (r[i] :: x :: r.eraseIdx i).Perm (x :: r)
    exact (List.Perm.swap x r[i] _).trans (List.Perm.cons x (erase_perm h2))
/-- what a game is made of -/
structure GOk (rs : List (Str × List Str)) (ts : List Str) : Prop where
  rk : Rks rs
  nds : ∀ p ∈ rs, p.2.Nodup
  tl : ts.length ≤ 30
def SafeIs (ts : List Str) (p : Str) (n : Nat) (d : D) : Prop := (∃ k : Nat, k < n ∧ d = .int (k : Nat) ∧ 0 < nl ts [p] (n - k) n ∧ ∀ j, k < j → j < n → ¬ 0 < nl ts [p] (n - j) n) ∨ (d = .non ∧ ∀ j, j < n → ¬ 0 < nl ts [p] (n - j) n)
end
end

set_option maxHeartbeats 4000000
/-! The program's safe_place; the law's draws. -/

section

section
variable {P : Program} {w : World} {K : PySem.W.Frag} {mg : Str → Option Value} {base : Heap}
local macro_rules | `(tactic| walk_at "strm") => `(tactic| (
    walk_at "fw"
    refine ⟨by decide, ?_⟩
    walk_at "fw"
    refine ⟨.inl ⟨by decide, by decide⟩, ?_⟩
    walk_at "fw"
    refine ⟨.inr ⟨by omega, by omega⟩, ?_⟩
    walk_at "fw"
    refine ⟨.inl ⟨by decide, by decide⟩, ?_⟩
    walk_at "fw"
    refine ⟨.inr ⟨by decide, by decide⟩, ?_⟩
    walk_at "fw"
    refine ⟨by decide, ?_⟩
    walk_at "fw"
    refine ⟨⟨by decide, by decide, by decide⟩, ?_⟩
    walk_at "fw"
    refine .inr ⟨_, rfl, ?_⟩
    walk_at "fw"
    refine ⟨.inr ⟨(bit01 _).1, (bit01 _).2.1⟩, ?_⟩
    walk_at "fw"
    refine ⟨⟨Int.mul_nonneg (by split <;> omega) (bit01 _).2.2, Int.emod_nonneg _ (by decide), Int.emod_lt_of_pos _ (by decide)⟩, ?_⟩
    assumption))
def wt_law_stream : Wt := fun ds kk _ => ∃ (ns : List Int) (k : Nat), ds = [.scr ns, .int (k : Nat)] ∧ k ≤ 1000 ∧ kk .stm
theorem ok_law_stream (T : TX K mg) : Ok P w K mg base 1 (He.ga K "_law_stream") ["_law_script", "_law_k"] (spD K wt_law_stream) := by
  obtain ⟨fd, F⟩ := T.def_ 24 (d := d_law_stream)
  refine ⟨⟨fd, fnD F sc_law_stream (fun _ _ _ h => by obtain ⟨ns, k, rfl, h1, hk⟩ := h; rfl) (fun cdv A outer s H E hr => ⟨_, (pss_cons (ps_set (i := 2) sc_law_stream.nd rfl (by first | exact Or.inl rfl | exact Or.inr rfl) pe_int) (pss_cons (ps_if (pt_cmpR op_lt (pv 1) (pe_callB (z_len K) (by rfl) (T.free 2) boot_len (pa_cons (pv 0) pa_nil)) (nomark _)) (pss_one (ps_set (i := 2) sc_law_stream.nd rfl (by first | exact Or.inl rfl | exact Or.inr rfl) (pe_ix (z_ixL K) (pv 0) (pv 1) (fun _ _ => rfl)))) pss_nil) (pss_cons (ps_set (i := 3) sc_law_stream.nd rfl (by first | exact Or.inl rfl | exact Or.inr rfl) (pe_callB (call_max2 rfl) (by rfl) (T.free 39) (by decide +kernel) (pa_cons (pv 2) (pa_cons (pe_op op_sub (pe_un un_neg pe_int) (pv 2)) pa_nil)))) (pss_cons (ps_set (i := 4) sc_law_stream.nd rfl (by first | exact Or.inl rfl | exact Or.inr rfl) (pe_op op_mod (pe_op op_mul (pe_op op_add (pe_op op_add (pe_op op_add (pe_op op_mod (pv 3) pe_int) (pe_op op_mul (pe_op op_mul pe_int (pv 1)) (pv 1))) (pe_op op_mul pe_int (pv 1))) pe_int) pe_int) pe_int)) (pss_one (ps_ret (pe_stm (pe_lst (pa_cons (pe_op op_mul (pv 3) (pe_callTy (call_int1) (by rfl) (T.free 40) (by decide +kernel) (pa_cons (pe_cmpR op_ge (pv 3) (pe_op op_pow pe_int pe_int) (nomark _)) pa_nil))) (pa_cons (pv 4) pa_nil)))))))))), fun ds kk ke h => ?_⟩), FunD.bindsN F fun _ _ _ _ _ _ us hl => match us, hl with | [_, _], _ => rfl⟩, F.kp⟩
  obtain ⟨ns, k, rfl, h1, hk⟩ := h
  try dsimp only [cxK]
  walk_at "fw"
  refine ⟨fun h => ?_, fun h => ?_⟩
  · refine ds_asg (by walk_at "fno") ?_
    refine dt_op opd_ixS ?_
    walk_at "fw"
    have hlt : k < ns.length := by have := of_decide_eq_true h; omega
    refine ⟨_, _, ns[k], rfl, rfl, ?_, ?_⟩
    · unfold atI ixN
      rw [if_pos (by omega), if_pos (by omega)]
      show ns[(k : Int).toNat]? = _
      rw [Int.toNat_natCast, List.getElem?_eq_getElem hlt]
    · walk_at "strm"
  · walk_at "strm"
def wt_law_draw : Wt := fun ds kk _ => ∃ n : Int, ds = [.stm, .int n] ∧ 0 < n ∧ n < 1000000 ∧ ∀ r : Int, 0 ≤ r → r < n → kk (.int r)
theorem ok_law_draw (T : TX K mg) : Ok P w K mg base 1 (He.ga K "_law_draw") ["_law_stream_here", "_law_count"] (spD K wt_law_draw) := by
  obtain ⟨fd, F⟩ := T.def_ 25 (d := d_law_draw)
  refine ⟨⟨fd, g_fun F sc_law_draw (fun vs H Q E ⟨T, ds, kk, ke, dm, rr, ⟨n, e, _⟩, _⟩ => by rw [rr.length, e]; rfl) (fun cdv A outer s H vs Q E hr ⟨S, ds, kk, ke, dm, rr, ⟨n, e, n0, n1, hk⟩, hq, he⟩ => ⟨_, pss_openS (pss_cons (ps_if (pt_cmpR op_gt (pe_ix (z_ixL K) (pv 0) pe_int (fun _ _ => rfl)) pe_int (nomark _)) (pss_cons (ps_set (i := 2) sc_law_draw.nd rfl (by first | exact Or.inl rfl | exact Or.inr rfl) (pe_op op_mod (pe_ix (z_ixL K) (pv 0) pe_int (fun _ _ => rfl)) (pv 1))) (pss_cons (ps_asg (pe_op op_fdivN (pe_ix (z_ixL K) (pv 0) pe_int (fun _ _ => rfl)) (pv 1)) (pg_sub (pv 0) pe_int set_list)) (pss_one (ps_ret (pv 2))))) pss_nil) (pss_cons (ps_asg (pe_op op_mod (pe_op op_add (pe_op op_mul (pe_ix (z_ixL K) (pv 0) pe_int (fun _ _ => rfl)) pe_int) pe_int) pe_int) (pg_sub (pv 0) pe_int set_list)) (pss_one (ps_ret (pe_op op_mod (pe_op op_fdivN (pe_op op_mod (pe_op op_mul (pe_ix (z_ixL K) (pv 0) pe_int (fun _ _ => rfl)) (pe_ix (z_ixL K) (pv 0) pe_int (fun _ _ => rfl))) pe_int) pe_int) (pv 1)))))), ?_⟩), FunD.bindsN F fun _ _ _ _ _ _ us hl => match us, hl with | [_, _], _ => rfl⟩, F.kp⟩
  subst e
  cases rr with
  | cons r1 t =>
    cases t with
    | cons r2 t =>
      cases t
      cases r2
      cases r1 with
      | @stm p nS hp =>
        refine ⟨p, rfl, hp, fun i j hb => ?_⟩
        have st : ∀ (i' j' : Int) (r : Int) (H1 : Hp), 0 ≤ r → r < n → StmB i' j' → H1 p = some (.lst [.int i', .int j']) → (∀ a, a ≠ p → H1 a = H a) → ∃ i' j', StmB i' j' ∧ H1 p = some (.lst [.int i', .int j']) ∧ Q (.int r) (upd H1 p (stmO p)) :=
          fun i' j' r H1 r0 r1 sb hp1 he1 => ⟨i', j', sb, hp1, hq _ _ _ (hk r r0 r1) (fun a u e => by
            by_cases ea : a = p
            · subst ea; rw [hp] at e; cases e; exact upd_same
            · rw [upd_ne ea, he1 a ea]; exact e) (.int r)⟩
        refine ⟨_, rfl, p, [.int i, .int j], 0, .int i, rfl, rfl, SqL.of upd_same, rfl, i, 0, rfl, rfl, _, rfl, ?_⟩
        by_cases h : 0 < i
        · refine (iff_of_eq (if_pos (decide_eq_true h))).mpr ?_
          refine ⟨_, rfl, p, [.int i, .int j], 0, .int i, rfl, rfl, SqL.of upd_same, rfl, ⟨_, rfl, i, n, rfl, rfl, n0, ?_⟩⟩
          refine ⟨_, rfl, p, [.int i, .int j], 0, .int i, rfl, rfl, SqL.of upd_same, rfl, ⟨_, rfl, i, n, rfl, rfl, ⟨by omega, by omega⟩, ?_⟩⟩
          refine ⟨_, rfl, p, [.int i, .int j], 0, 0, rfl, rfl, upd_same, rfl, ?_⟩
          refine ⟨_, rfl, ?_⟩
          exact st (i.fdiv n) j (i % n) _ (Int.emod_nonneg _ (by omega)) (Int.emod_lt_of_pos _ n0) ⟨Int.fdiv_nonneg hb.1 (by omega), hb.2.1, hb.2.2⟩ upd_same (fun a ea => by rw [upd_ne ea, upd_ne ea])
        · refine (iff_of_eq (if_neg (by rw [decide_eq_true_eq]; exact h))).mpr ?_
          refine ⟨_, rfl, p, [.int i, .int j], 1, .int j, rfl, rfl, SqL.of upd_same, rfl, j, 69621, rfl, rfl, .inr ⟨by decide, by decide⟩, _, 7, rfl, rfl, _, 2147483647, rfl, rfl, (by show (0 : Int) < 2147483647; decide), ?_⟩
          refine ⟨_, rfl, p, [.int i, .int j], 1, 1, rfl, rfl, upd_same, rfl, ?_⟩
          have b0 : 0 ≤ (j * 69621 + 7) % 2147483647 := Int.emod_nonneg _ (by decide)
          have b1 : (j * 69621 + 7) % 2147483647 < 2147483647 := Int.emod_lt_of_pos _ (by decide)
          refine ⟨_, rfl, p, [.int i, .int ((j * 69621 + 7) % 2147483647)], 1, .int ((j * 69621 + 7) % 2147483647), rfl, rfl, SqL.of upd_same, rfl, ?_⟩
          refine ⟨_, rfl, p, [.int i, .int ((j * 69621 + 7) % 2147483647)], 1, .int ((j * 69621 + 7) % 2147483647), rfl, rfl, SqL.of upd_same, rfl, ((j * 69621 + 7) % 2147483647), ((j * 69621 + 7) % 2147483647), rfl, rfl, .inr ⟨by omega, by omega⟩, ?_⟩
          refine ⟨_, 2147483629, rfl, rfl, (by show (0 : Int) < 2147483629; decide), _, 32, rfl, rfl, ⟨by decide, by decide⟩, _, rfl, _, n, rfl, rfl, n0, ?_⟩
          exact st i ((j * 69621 + 7) % 2147483647) _ _ (Int.emod_nonneg _ (by omega)) (Int.emod_lt_of_pos _ n0) ⟨hb.1, b0, b1⟩ upd_same (fun a ea => by rw [upd_ne ea, upd_ne ea])
def wt_law_shuffled : Wt := fun ds kk _ => ∃ ss : List Str, ds = [.stm, sl ss] ∧ ss.length ≤ 1000 ∧ ∀ ys : List Str, ys.Perm ss → kk (sl ys)
theorem ok_law_shuffled (T : TX K mg) : Ok P w K mg base 2 (He.ga K "_law_shuffled") ["_law_stream_here", "_law_items"] (spD K wt_law_shuffled) := by
  obtain ⟨fd, F⟩ := T.def_ 26 (d := d_law_shuffled)
  have k_law_draw := ok_law_draw (P := P) (w := w) (base := base) T
  refine ⟨⟨fd, fnD F sc_law_shuffled (fun _ _ _ h => by obtain ⟨ss, rfl, hl, hk⟩ := h; rfl) (fun cdv A outer s H E hr => ⟨_, (pss_cons (ps_par (i := 2) (j := 3) rfl sc_law_shuffled.nd rfl rfl (by decide) rfl rfl (pa_cons (pe_callTy (z_listof K) (by rfl) (T.free 4) (by decide +kernel) (pa_cons (pv 1) pa_nil)) (pa_cons (pe_lst pa_nil) pa_nil)) (by rfl)) (pss_cons (ps_for (passes_of rfl) rfl (pi_range1 (by rfl) (T.free 41) (pa_cons (pe_callB (z_len K) (by rfl) (T.free 2) boot_len (pa_cons (pv 2) pa_nil)) pa_nil)) (pg_name (i := 4) sc_law_shuffled.nd rfl (by first | exact Or.inl rfl | exact Or.inr rfl)) (pss_one (ps_expr (pe_bm PySem.F.plainAttrs_list PySem.F.slot_list_append PySem.F.type_list_append mt_append (pv 3) (pa_cons (pe_bm PySem.F.plainAttrs_list PySem.F.slot_list_pop PySem.F.type_list_pop mt_popAt (pv 2) (pa_cons (q_call k_law_draw hr (T.glo 42) (pa_cons (pv 0) (pa_cons (pe_callB (z_len K) (by rfl) (T.free 2) boot_len (pa_cons (pv 2) pa_nil)) pa_nil))) pa_nil)) pa_nil))))) (pss_one (ps_ret (pv 3))))), fun ds kk ke h => ?_⟩), FunD.bindsN F fun _ _ _ _ _ _ us hl => match us, hl with | [_, _], _ => rfl⟩, F.kp⟩
  obtain ⟨ss, rfl, hl, hk⟩ := h
  try dsimp only [cxK]
  refine ds_seq ?_
  refine ds_parF (by decide) (by walk_at "fno") (by walk_at "fno") (by exact (by decide : 2 < 5)) (by exact (by decide : 3 < 5)) ?_
  walk_at "fw"
  refine ds_for [4] (fun _ i G' O' => ∃ (f l : List Str) (g : Option D), G' = [some .stm, some (sl ss), none, none, g] ∧ O' = [(3, .lst (f.map D.str)), (2, .lst (l.map D.str))] ∧ l.length + i = ss.length ∧ (f ++ l).Perm ss) ?_
  walk_at "fw"
  rw [List.length_map]
  refine ⟨by omega, by omega, ⟨[], ss, _, rfl, rfl, rfl, List.Perm.refl _⟩, fun i x G' O' hi hP => ?_, fun G' O' hP => ?_⟩
  · obtain ⟨f, l, g, rfl, rfl, hl2, hp⟩ := hP
    have hin : i < ss.length := by
      have := (List.getElem?_eq_some_iff.mp hi).1
      rw [rngD_len] at this; omega
    walk_at "fw"
    rw [List.length_map]
    refine ⟨by omega, by omega, fun r r0 r1 => ?_⟩
    have hr2 : r.toNat < l.length := by omega
    refine ⟨r, r.toNat, .str l[r.toNat], rfl, by omega, by omega, ?_, ?_, _, rfl, ?_, f ++ [l[r.toNat]], l.eraseIdx r.toNat, _, rfl, ?_, ?_, ?_⟩
    · exact (ixN_seq (by unfold ixN; rw [if_pos r0, if_pos r1])).1
    · rw [List.getElem?_map, List.getElem?_eq_getElem hr2]; rfl
    · have hfl := hp.length_eq
      rw [List.length_append] at hfl
      rw [List.length_map]
      exact szOf (by omega)
    · rw [List.map_append, ← map_erase]; rfl
    · rw [List.length_eraseIdx_of_lt hr2]; omega
    · rw [List.append_assoc]
      exact ((List.Perm.append_left f (erase_perm hr2))).trans hp
  · obtain ⟨f, l, g, rfl, rfl, hl2, hp⟩ := hP
    rw [rngD_len] at hl2
    have e : l = [] := List.length_eq_zero_iff.mp (by omega)
    subst e
    refine ds_freeze 0 (i := 3) (o := .lst (f.map D.str)) rfl (by exact (by decide : 3 < 5)) ?_
    walk_at "fw"
    rw [List.append_nil] at hp
    exact hk f hp
end
end

set_option maxHeartbeats 4000000
/-! The law's makings. -/

section

theorem cut_to {ss : List Str} {k : Nat} : cutD (ss.map D.str) none (some (k : Int)) = (ss.take k).map D.str := by
  unfold cutD HT.sIx
  have h0 : ¬ ((k : Int) < 0) := by omega
  simp only [h0, if_false, Int.toNat_natCast, List.length_map]
  rw [List.drop_zero, Nat.sub_zero, ← List.map_take]
  rcases Nat.le_total k ss.length with h | h
  · rw [Nat.min_eq_left h]
  · rw [Nat.min_eq_right h, List.take_of_length_le (Nat.le_refl _), List.take_of_length_le h]
theorem get_strs2 {ss : List Str} {i : Nat} {x : D} (h : (ss.map D.str)[i]? = some x) : ∃ s, ss[i]? = some s ∧ x = .str s := by
  rw [List.getElem?_map] at h
  cases e : ss[i]? with
  | none => rw [e] at h; cases h
  | some s => rw [e] at h; cases h; exact ⟨s, rfl, rfl⟩
def PLAYERS : List Str := ["ann", "bob", "zoe", "b", "carol"]
def NAMES : List Str := ["a", "ab", "c", "dd", "e", "x", "yes", "zzzzzzzz"]
theorem players_ok : (PLAYERS.all isName) = true := by decide +kernel
theorem names_ok : (NAMES.all isName) = true := by decide +kernel
theorem players_nd : PLAYERS.Nodup := by decide +kernel
theorem names_nd : NAMES.Nodup := by decide +kernel
section
variable {P : Program} {w : World} {K : PySem.W.Frag} {mg : Str → Option Value} {base : Heap}
def wt_law_players : Wt := fun ds kk _ => ∃ m : Int, ds = [.stm, .int m] ∧ 0 < m ∧ m ≤ 5 ∧ ∀ ps : List Str, ps ≠ [] → ps.length ≤ m.toNat → ps.Nodup → (∀ p ∈ ps, isName p = true) → kk (sl ps)
theorem ok_law_players (T : TX K mg) : Ok P w K mg base 3 (He.ga K "_law_players") ["_law_stream_here", "_law_most"] (spD K wt_law_players) := by
  obtain ⟨fd, F⟩ := T.def_ 27 (d := d_law_players)
  have k_law_draw := ok_law_draw (P := P) (w := w) (base := base) T
  have k_law_shuffled := ok_law_shuffled (P := P) (w := w) (base := base) T
  refine ⟨⟨fd, fnD F sc_law_players (fun _ _ _ h => by obtain ⟨m, rfl, h0, h1, hk⟩ := h; rfl) (fun cdv A outer s H E hr => ⟨_, (pss_one (ps_ret (pe_slice (z_slL K) (q_call k_law_shuffled hr (T.glo 43) (pa_cons (pv 0) (pa_cons (pe_lst (pa_cons pe_str (pa_cons pe_str (pa_cons pe_str (pa_cons pe_str (pa_cons pe_str pa_nil)))))) pa_nil))) po_none (po_some (pe_op op_add pe_int (q_call k_law_draw hr (T.glo 42) (pa_cons (pv 0) (pa_cons (pv 1) pa_nil)))))))), fun ds kk ke h => ?_⟩), FunD.bindsN F fun _ _ _ _ _ _ us hl => match us, hl with | [_, _], _ => rfl⟩, F.kp⟩
  obtain ⟨m, rfl, h0, h1, hk⟩ := h
  try dsimp only [cxK]
  walk_at "fw"
  refine ⟨PLAYERS, rfl, by decide, fun ys hp => ?_⟩
  walk_at "fw"
  refine ⟨h0, by omega, fun r r0 r1 => ?_⟩
  walk_at "fw"
  have e : (1 + r) = ((1 + r.toNat : Nat) : Int) := by omega
  have hl : ys.length = 5 := hp.length_eq
  show kk (.lst (cutD (ys.map D.str) none (some (1 + r))))
  rw [e, cut_to]
  refine hk _ (fun z => ?_) ?_ (((List.Perm.nodup_iff hp).mpr players_nd).sublist (List.take_sublist _ _)) fun p h => List.all_eq_true.mp players_ok p (hp.mem_iff.mp (List.mem_of_mem_take h))
  · have := congrArg List.length z
    rw [List.length_take, hl, List.length_nil] at this
    omega
  · rw [List.length_take]; omega
def wt_law_names : Wt := fun ds kk _ => ∃ m : Int, ds = [.stm, .int m] ∧ 0 < m ∧ m ≤ 8 ∧ ∀ ps : List Str, (ps.length : Int) = m → ps.Nodup → (∀ p ∈ ps, isName p = true) → kk (sl ps)
theorem ok_law_names (T : TX K mg) : Ok P w K mg base 3 (He.ga K "_law_names") ["_law_stream_here", "_law_many"] (spD K wt_law_names) := by
  obtain ⟨fd, F⟩ := T.def_ 28 (d := d_law_names)
  have k_law_shuffled := ok_law_shuffled (P := P) (w := w) (base := base) T
  refine ⟨⟨fd, fnD F sc_law_names (fun _ _ _ h => by obtain ⟨m, rfl, h0, h1, hk⟩ := h; rfl) (fun cdv A outer s H E hr => ⟨_, (pss_one (ps_ret (pe_slice (z_slL K) (q_call k_law_shuffled hr (T.glo 43) (pa_cons (pv 0) (pa_cons (pe_lst (pa_cons pe_str (pa_cons pe_str (pa_cons pe_str (pa_cons pe_str (pa_cons pe_str (pa_cons pe_str (pa_cons pe_str (pa_cons pe_str pa_nil))))))))) pa_nil))) po_none (po_some (pv 1))))), fun ds kk ke h => ?_⟩), FunD.bindsN F fun _ _ _ _ _ _ us hl => match us, hl with | [_, _], _ => rfl⟩, F.kp⟩
  obtain ⟨m, rfl, h0, h1, hk⟩ := h
  try dsimp only [cxK]
  walk_at "fw"
  refine ⟨NAMES, rfl, by decide, fun ys hp => ?_⟩
  walk_at "fw"
  have e : m = ((m.toNat : Nat) : Int) := by omega
  have hl : ys.length = 8 := hp.length_eq
  show kk (.lst (cutD (ys.map D.str) none (some m)))
  rw [e, cut_to]
  refine hk _ ?_ (((List.Perm.nodup_iff hp).mpr names_nd).sublist (List.take_sublist _ _)) fun p h => List.all_eq_true.mp names_ok p (hp.mem_iff.mp (List.mem_of_mem_take h))
  rw [List.length_take]; omega
/-- what the law lays by -/
abbrev ownD (rs : List (Str × List Str)) (ts : List Str) : D := .lst [.dic (rs.map fun p => ((.inr p.1 : Key), sl p.2)), sl ts]
structure OwnOk (rs : List (Str × List Str)) (ts ns : List Str) (m : Nat) : Prop where
  ne : rs ≠ []
  len : rs.length ≤ 4
  nd : (rs.map Prod.fst).Nodup
  name : ∀ p ∈ rs, isName p.1 = true
  perm : ∀ p ∈ rs, p.2.Perm ns
  nsd : ns.Nodup
  nsn : ∀ s ∈ ns, isName s = true
  nsl : ns.length ≤ m
  tl : ts.length ≤ ns.length
  tk : ∀ t ∈ ts, t ∈ rs.map Prod.fst
theorem own_lc {ns : List Str} : ∀ {ps : List Str} {zs : List D}, LcR (fun x o => ∃ p ys, x = .str p ∧ List.Perm ys ns ∧ o = some (.tup [.str p, sl ys])) (ps.map D.str) zs → ∃ rs : List (Str × List Str), rs.map Prod.fst = ps ∧ (∀ q ∈ rs, q.2.Perm ns) ∧ zs = rs.map fun p => .tup [.str p.1, sl p.2]
  | [], _, .nil => ⟨[], rfl, (fun q h => by cases h), rfl⟩
  | p :: ps, _, .keep r t => by
    obtain ⟨rs, e1, e2, e3⟩ := own_lc t
    obtain ⟨p', ys, h1, h2, h3⟩ := r
    cases h1
    injection h3 with h3
    refine ⟨(p, ys) :: rs, by rw [List.map_cons, e1], fun q hq => ?_, by rw [h3, e3]; rfl⟩
    rcases List.mem_cons.mp hq with e | hq
    · rw [e]; exact h2
    · exact e2 q hq
  | p :: ps, _, .skip r t => by
    obtain ⟨p', ys, h1, h2, h3⟩ := r
    cases h3
theorem turn_lc {ps : List Str} : ∀ {xs zs : List D}, LcR (fun x o => ∃ t ∈ ps, o = some (D.str t)) xs zs → ∃ ts : List Str, ts.length = xs.length ∧ (∀ t ∈ ts, t ∈ ps) ∧ zs = ts.map D.str
  | [], _, .nil => ⟨[], rfl, (fun q h => by cases h), rfl⟩
  | x :: xs, _, .keep r t => by
    obtain ⟨ts, e1, e2, e3⟩ := turn_lc t
    obtain ⟨s, h1, h2⟩ := r
    injection h2 with h2
    refine ⟨s :: ts, by rw [List.length_cons, List.length_cons, e1], fun q hq => ?_, by rw [h2, e3]; rfl⟩
    rcases List.mem_cons.mp hq with e | hq
    · rw [e]; exact h1
    · exact e2 q hq
  | x :: xs, _, .skip r t => by
    obtain ⟨s, h1, h2⟩ := r
    cases h2
theorem atI_strs {ps : List Str} {r : Int} (r0 : 0 ≤ r) (r1 : r < ps.length) : ∃ p ∈ ps, atI (ps.map D.str) r = some (.str p) := by
  have h : r.toNat < ps.length := by omega
  refine ⟨ps[r.toNat], List.getElem_mem h, ?_⟩
  unfold atI ixN
  rw [List.length_map, if_pos r0, if_pos r1]
  show (ps.map D.str)[r.toNat]? = _
  rw [List.getElem?_map, List.getElem?_eq_getElem h]; rfl
theorem getD_own {rs : List (Str × List Str)} {p : Str} (nd : (rs.map Prod.fst).Nodup) (h : p ∈ rs.map Prod.fst) : getD (rs.map fun p => ((.inr p.1 : Key), sl p.2)) (.inr p) = some (sl (lk rs p)) := by
  refine getD_some ?_ ?_
  · have : (rs.map fun p => ((.inr p.1 : Key), sl p.2)).map Prod.fst = (rs.map Prod.fst).map (Sum.inr : Str → Key) := by rw [List.map_map, List.map_map]; rfl
    rw [this]; exact keys_nodup nd
  · exact List.mem_map.mpr ⟨_, lk_mem h, rfl⟩
theorem lk_self {rs : List (Str × List Str)} (nd : (rs.map Prod.fst).Nodup) {q : Str × List Str} (h : q ∈ rs) : lk rs q.1 = q.2 := by
  induction rs with
  | nil => cases h
  | cons a r ih =>
    have nd2 := List.nodup_cons.mp (show (a.1 :: r.map Prod.fst).Nodup from nd)
    unfold lk
    rw [List.lookup_cons]
    rcases List.mem_cons.mp h with e | h
    · subst e
      rw [beq_self_eq_true]; rfl
    · have hb : (q.1 == a.1) = false := by
        rw [beq_eq_false_iff_ne]; exact fun z => nd2.1 (by rw [← z]; exact List.mem_map_of_mem (f := Prod.fst) h)
      rw [hb]
      exact ih nd2.2 h
theorem rks_lk {rs : List (Str × List Str)} (nd : (rs.map Prod.fst).Nodup) : ((rs.map Prod.fst).map fun s => ((.inr s : Key), rk (lk rs s))) = rks rs := by
  unfold rks
  rw [List.map_map]
  exact List.map_congr_left fun q hq => by
    show ((.inr q.1 : Key), rk (lk rs q.1)) = _
    rw [lk_self nd hq]
theorem OwnOk.nd2 {rs : List (Str × List Str)} {ts ns : List Str} {m : Nat} (ok : OwnOk rs ts ns m) {p : Str × List Str} (h : p ∈ rs) : p.2.Nodup := (List.Perm.nodup_iff (ok.perm p h)).mpr ok.nsd
theorem OwnOk.nm {rs : List (Str × List Str)} {ts ns : List Str} {m : Nat} (ok : OwnOk rs ts ns m) {p : Str × List Str} (h : p ∈ rs) : ∀ s ∈ p.2, isName s = true := fun s hs => ok.nsn s ((ok.perm p h).mem_iff.mp hs)
theorem OwnOk.ln {rs : List (Str × List Str)} {ts ns : List Str} {m : Nat} (ok : OwnOk rs ts ns m) {p : Str × List Str} (h : p ∈ rs) : p.2.length = ns.length := (ok.perm p h).length_eq
theorem OwnOk.rks {rs : List (Str × List Str)} {ts ns : List Str} (ok : OwnOk rs ts ns 30) : Rks rs where
  ne := ok.ne
  len := by have := ok.len; omega
  nd := ok.nd
  name := ok.name
  le := fun p h => by rw [ok.ln h]; have := ok.nsl; omega
  names := fun p h => ok.nm h
  same := fun p hp q hq => srt_congr fun x => (ok.perm p hp).mem_iff.trans (ok.perm q hq).mem_iff.symm
end
end

set_option maxHeartbeats 4000000
/-! The law's makings. -/

section

section
variable {P : Program} {w : World} {K : PySem.W.Frag} {mg : Str → Option Value} {base : Heap}
def wt_law_own : Wt := fun ds kk _ => ∃ m : Nat, ds = [.stm, .int (m : Nat)] ∧ 0 < m ∧ m ≤ 8 ∧ ∀ rs ts ns, OwnOk rs ts ns m → kk (ownD rs ts)
theorem ok_law_own (T : TX K mg) : Ok P w K mg base 4 (He.ga K "_law_own") ["_law_stream_here", "_law_most"] (spD K wt_law_own) := by
  obtain ⟨fd, F⟩ := T.def_ 29 (d := d_law_own)
  have k_law_draw := ok_law_draw (P := P) (w := w) (base := base) T
  have k_law_names := ok_law_names (P := P) (w := w) (base := base) T
  have k_law_players := ok_law_players (P := P) (w := w) (base := base) T
  have k_law_shuffled := ok_law_shuffled (P := P) (w := w) (base := base) T
  refine ⟨⟨fd, fnD F sc_law_own (fun _ _ _ h => by obtain ⟨m, rfl, h0, h1, hk⟩ := h; rfl) (fun cdv A outer s H E hr => ⟨_, (pss_cons (ps_asg (pe_tup (pa_cons (q_call k_law_names hr (T.glo 45) (pa_cons (pv 0) (pa_cons (pe_op op_add pe_int (q_call k_law_draw hr (T.glo 42) (pa_cons (pv 0) (pa_cons (pv 1) pa_nil)))) pa_nil))) (pa_cons (q_call k_law_players hr (T.glo 44) (pa_cons (pv 0) (pa_cons pe_int pa_nil))) pa_nil))) (q_tup (n := 2) K rfl rfl (pgs_cons (pg_name (i := 2) sc_law_own.nd rfl (by first | exact Or.inl rfl | exact Or.inr rfl)) (pgs_cons (pg_name (i := 3) sc_law_own.nd rfl (by first | exact Or.inl rfl | exact Or.inr rfl)) pgs_nil)))) (pss_cons (ps_set (i := 4) sc_law_own.nd rfl (by first | exact Or.inl rfl | exact Or.inr rfl) (pe_callTy (z_dictP K rfl) (by rfl) (T.free 27) (by decide +kernel) (pa_cons (pe_lc (own := [("_law_player", 5)]) rfl sc_law_own.nd (z_plist K (pv 3)) (blkOk_by (own := [("_law_player", 5)]) (N := N_law_own) (sc := defScope s_law_own) (by decide +kernel)) (fun _ _ _ _ _ => (pg_name (i := 5) sc_law_own.nd rfl (by first | exact Or.inl rfl | exact Or.inr rfl))) (fun _ _ _ _ _ => pts_nil) (fun _ _ _ _ _ => (pe_tup (pa_cons (pv 5) (pa_cons (q_call k_law_shuffled hr (T.glo 43) (pa_cons (pv 0) (pa_cons (pv 2) pa_nil))) pa_nil))))) pa_nil))) (pss_cons (ps_setLc (i := 6) (own := [("_law_turn", 7)]) rfl sc_law_own.nd rfl rfl (sw_true rfl rfl rfl (by decide +kernel)) (pi_range1 (by rfl) (T.free 41) (pa_cons (q_call k_law_draw hr (T.glo 42) (pa_cons (pv 0) (pa_cons (pe_op op_add (pe_callB (z_len K) (by rfl) (T.free 2) boot_len (pa_cons (pv 2) pa_nil)) pe_int) pa_nil))) pa_nil)) (blkOk_by (own := [("_law_turn", 7)]) (N := N_law_own) (sc := defScope s_law_own) (by decide +kernel)) (fun _ _ _ _ _ => (pg_name (i := 7) sc_law_own.nd rfl (by first | exact Or.inl rfl | exact Or.inr rfl))) (fun _ _ _ _ _ => pts_nil) (fun _ _ _ _ _ => (pe_ix (z_ixL K) (pv 3) (q_call k_law_draw hr (T.glo 42) (pa_cons (pv 0) (pa_cons (pe_callB (z_len K) (by rfl) (T.free 2) boot_len (pa_cons (pv 3) pa_nil)) pa_nil))) (fun _ _ => rfl)))) (pss_one (ps_ret (pe_lst (pa_cons (pv 4) (pa_cons (pv 6) pa_nil)))))))), fun ds kk ke h => ?_⟩), FunD.bindsN F fun _ _ _ _ _ _ us hl => match us, hl with | [_, _], _ => rfl⟩, F.kp⟩
  obtain ⟨m, rfl, h0, h1, hk⟩ := h
  try dsimp only [cxK]
  walk_at "fw"
  refine ⟨by omega, by omega, fun r r0 r1 => ?_⟩
  walk_at "fw"
  refine ⟨by omega, by omega, fun ns n1 n2 n3 => ?_⟩
  walk_at "fw"
  refine ⟨by decide, by decide, fun ps p1 p2 p3 p4 => ?_⟩
  have p2' : ps.length ≤ 3 := p2
  walk_at "fw"
  refine (df_lc [5] (fun x o => ∃ p ys, x = .str p ∧ List.Perm ys ns ∧ o = some (.tup [.str p, sl ys])) (by decide) (by walk_at "fno") ?_).dt
  walk_at "fw"
  refine ⟨by rw [List.length_map]; exact szOf (by omega), fun x hx => ?_, fun zs hz => ?_⟩
  · obtain ⟨p, hp, rfl⟩ := List.mem_map.mp hx
    walk_at "fw"
    refine ⟨by omega, fun ys hy => ?_⟩
    walk_at "fw"
    exact ⟨p, ys, rfl, hy, rfl⟩
  · obtain ⟨rs, e1, e2, rfl⟩ := own_lc hz
    have nd : (rs.map Prod.fst).Nodup := by rw [e1]; exact p3
    have lrs : rs.length = ps.length := by rw [← e1, List.length_map]
    walk_at "fw"
    refine ⟨rs.map fun p => ((.inr p.1 : Key), sl p.2), by simp only [List.map_map]; rfl, ?_⟩
    rw [mergeD_nil (by
      have e : (rs.map fun p => ((.inr p.1 : Key), sl p.2)).map Prod.fst = (rs.map Prod.fst).map (Sum.inr : Str → Key) := by rw [List.map_map, List.map_map]; rfl
      rw [e]; exact keys_nodup nd)]
    walk_at "fw"
    refine (df_lc [7] (fun x o => ∃ t ∈ ps, o = some (.str t)) (by decide) (by walk_at "fno") ?_).dt
    walk_at "fw"
    rw [List.length_map]
    refine ⟨by omega, by omega, fun c c0 c1 => ?_⟩
    walk_at "fw"
    refine ⟨by omega, by omega, by rw [rngD_len]; exact szOf (by omega), fun x hx => ?_, fun zs hz => ?_⟩
    · walk_at "fw"
      have h0 : 0 < ps.length := List.length_pos_iff.mpr p1
      rw [List.length_map]
      refine ⟨by omega, by omega, fun r2 r20 r21 => ?_⟩
      obtain ⟨t, ht, e⟩ := atI_strs r20 r21
      exact ⟨_, _, _, rfl, rfl, e, t, ht, rfl⟩
    · obtain ⟨ts, t1, t2, rfl⟩ := turn_lc hz
      rw [rngD_len] at t1
      walk_at "fw"
      refine hk rs ts ns ⟨fun z => p1 (by rw [← e1, z]; rfl), by omega, nd, fun p hp => p4 _ (by rw [← e1]; exact List.mem_map_of_mem (f := Prod.fst) hp), e2, n2, n3, by omega, by omega, fun t ht => by rw [e1]; exact t2 t ht⟩
def wt_law_game : Wt := fun ds kk _ => ∃ (rs : List (Str × List Str)) (ts ns : List Str), ds = [ownD rs ts] ∧ OwnOk rs ts ns 30 ∧ kk (gm (srs rs) ts)
theorem ok_law_game (T : TX K mg) : Ok P w K mg base 9 (He.ga K "_law_game") ["_law_own_here"] (spD K wt_law_game) := by
  obtain ⟨fd, F⟩ := T.def_ 30 (d := d_law_game)
  have k_Game_init := ok_Game_init (P := P) (w := w) (base := base) T
  have k_Ranking_init := ok_Ranking_init (P := P) (w := w) (base := base) T
  have k_Turns_init := ok_Turns_init (P := P) (w := w) (base := base) T
  refine ⟨⟨fd, fnD F sc_law_game (fun _ _ _ h => by obtain ⟨rs, ts, ns, rfl, ok, hk⟩ := h; rfl) (fun cdv A outer s H E hr => ⟨_, (pss_one (ps_ret (q_make k_Game_init (T.mkr 46) hr (T.glo 47) (pa_cons (pe_callTy (z_dictP K rfl) (by rfl) (T.free 27) (by decide +kernel) (pa_cons (pe_unl (pe_lc (own := [("_law_player", 1)]) rfl sc_law_game.nd (pi_keys (pe_lk (pe_ix (z_ixL K) (pv 0) pe_int (fun _ _ => rfl)))) (blkOk_by (own := [("_law_player", 1)]) (N := N_law_game) (sc := defScope s_law_game) (by decide +kernel)) (fun _ _ _ _ _ => (pg_name (i := 1) sc_law_game.nd rfl (by first | exact Or.inl rfl | exact Or.inr rfl))) (fun _ _ _ _ _ => pts_nil) (fun _ _ _ _ _ => (pe_tup (pa_cons (pv 1) (pa_cons (q_make k_Ranking_init (T.mkr 49) hr (T.glo 35) (pa_cons (q_dget hr (pe_ix (z_ixL K) (pv 0) pe_int (fun _ _ => rfl)) (pv 1) (fun _ _ => rfl)) pa_nil)) pa_nil)))))) pa_nil)) (pa_cons (q_make k_Turns_init (T.mkr 48) hr (T.glo 31) (pa_cons (pe_ix (z_ixL K) (pv 0) pe_int (fun _ _ => rfl)) pa_nil)) pa_nil))))), fun ds kk ke h => ?_⟩), FunD.bindsN F fun _ _ _ _ _ _ us hl => match us, hl with | [_], _ => rfl⟩, F.kp⟩
  obtain ⟨rs, ts, ns, rfl, ok, hk⟩ := h
  try dsimp only [cxK]
  walk_at "fw"
  refine (df_lcLM [1] D.str (fun s => .tup [.str s, rk (lk rs s)]) (fun a b e => by cases e; rfl) (by decide) (by walk_at "fno") ?_).dt
  walk_at "fw"
  have l3 := ok.len
  have l8 := ok.nsl
  refine ⟨rs.map Prod.fst, by rw [List.map_map, List.map_map]; rfl, szOf (by rw [List.length_map]; omega), fun s hs => ?_, ?_⟩
  · walk_at "fw"
    refine ⟨_, .inr s, _, rfl, rfl, getD_own ok.nd hs, ?_⟩
    walk_at "fw"
    have hm := lk_mem hs
    refine ⟨by rw [ok.ln hm]; omega, ok.nm hm, ok.nd2 hm, ?_⟩
    walk_at "fw"
    rfl
  · walk_at "fw"
    refine ⟨(rs.map Prod.fst).map fun s => ((.inr s : Key), rk (lk rs s)), by simp only [List.map_map]; rfl, ?_⟩
    rw [mergeD_nil (by rw [List.map_map]; exact keys_nodup ok.nd), rks_lk ok.nd]
    walk_at "fw"
    refine ⟨by have := ok.tl; omega, fun s h => ?_, ?_⟩
    · obtain ⟨q, hq, e⟩ := List.mem_map.mp (ok.tk s h)
      rw [← e]; exact ok.name q hq
    · walk_at "fw"
      exact ⟨ok.rks, by have := ok.tl; omega, fun p hp => by rw [ok.ln hp]; exact ok.tl, ok.tk, hk⟩
def wt_law_all : Wt := fun ds kk _ => ∃ (rs : List (Str × List Str)) (ts ns : List Str), ds = [ownD rs ts] ∧ OwnOk rs ts ns 30 ∧ kk (sl (srt ns))
theorem ok_law_all (T : TX K mg) : Ok P w K mg base 1 (He.ga K "_law_all") ["_law_own_here"] (spD K wt_law_all) := by
  obtain ⟨fd, F⟩ := T.def_ 31 (d := d_law_all)
  refine ⟨⟨fd, fnD F sc_law_all (fun _ _ _ h => by obtain ⟨rs, ts, ns, rfl, ok, hk⟩ := h; rfl) (fun cdv A outer s H E hr => ⟨_, (pss_one (ps_ret (pe_callB (z_sortedS K) (by rfl) (T.free 6) (by decide +kernel) (pa_cons (pe_ix (z_ixL K) (pe_listVals rfl (pe_ix (z_ixL K) (pv 0) pe_int (fun _ _ => rfl)) (by rfl) (T.free 4) (by decide +kernel)) pe_int (fun _ _ => rfl)) pa_nil)))), fun ds kk ke h => ?_⟩), FunD.bindsN F fun _ _ _ _ _ _ us hl => match us, hl with | [_], _ => rfl⟩, F.kp⟩
  obtain ⟨rs, ts, ns, rfl, ok, hk⟩ := h
  try dsimp only [cxK]
  walk_at "fw"
  obtain ⟨q, r, rfl⟩ := List.exists_cons_of_ne_nil ok.ne
  have hq : q ∈ q :: r := List.mem_cons_self
  refine ⟨_, _, sl q.2, rfl, rfl, by rw [List.map_cons, List.map_cons]; exact atI_0 _ _, ?_⟩
  walk_at "fw"
  refine ⟨by rw [ok.ln hq]; have := ok.nsl; omega, fun ys yp so => ?_⟩
  rw [ts_srt (ss := ns) (ok.nd2 hq) (fun x => (ok.perm q hq).mem_iff) yp so]
  exact hk
end
end

set_option maxHeartbeats 4000000
/-! Games after strikes. -/

section

/-! ### plain -/
def cut (c : List Str) (rs : List (Str × List Str)) : List (Str × List Str) := rs.map fun p => (p.1, p.2.filter fun s => decide (s ∉ c))
theorem cut_keys (c : List Str) (rs : List (Str × List Str)) : (cut c rs).map Prod.fst = rs.map Prod.fst := by
  unfold cut; rw [List.map_map]; rfl
theorem cut_mem {c : List Str} {rs : List (Str × List Str)} {p : Str × List Str} (h : p ∈ cut c rs) : ∃ q ∈ rs, p = (q.1, q.2.filter fun s => decide (s ∉ c)) := by
  obtain ⟨q, hq, e⟩ := List.mem_map.mp h
  exact ⟨q, hq, e.symm⟩
theorem cut_congr {c d : List Str} (h : ∀ s, s ∈ c ↔ s ∈ d) (rs : List (Str × List Str)) : cut c rs = cut d rs := by
  unfold cut
  refine List.map_congr_left fun p _ => ?_
  congr 1
  refine List.filter_congr fun s _ => ?_
  rw [Bool.eq_iff_iff, decide_eq_true_eq, decide_eq_true_eq, h]
theorem cut_nil (rs : List (Str × List Str)) : cut [] rs = rs := by
  unfold cut
  rw [show (fun p : Str × List Str => (p.1, p.2.filter fun s => decide (s ∉ ([] : List Str)))) = id from ?_, List.map_id]
  funext p
  rw [List.filter_eq_self.mpr (by intro s _; simp)]; rfl
theorem cut_cut (c d : List Str) (rs : List (Str × List Str)) : cut d (cut c rs) = cut (c ++ d) rs := by
  unfold cut
  rw [List.map_map]
  refine List.map_congr_left fun p _ => ?_
  show (p.1, (p.2.filter fun s => decide (s ∉ c)).filter fun s => decide (s ∉ d)) = _
  rw [List.filter_filter]
  congr 1
  refine List.filter_congr fun s _ => ?_
  rw [Bool.eq_iff_iff, Bool.and_eq_true, decide_eq_true_eq, decide_eq_true_eq, decide_eq_true_eq, List.mem_append, not_or]
  exact And.comm
/-- keys in order -/
def Sk (rs : List (Str × List Str)) : Prop := srt (rs.map Prod.fst) = rs.map Prod.fst
theorem srs_sk (rs : List (Str × List Str)) : Sk (srs rs) := by
  unfold Sk
  rw [srs_keys, srt_srt]
theorem srs_id {rs : List (Str × List Str)} (nd : (rs.map Prod.fst).Nodup) (h : Sk rs) : srs rs = rs := by
  unfold srs
  rw [h, List.map_map]
  conv => rhs; rw [← List.map_id rs]
  exact List.map_congr_left fun q hq => by
    show (q.1, lk rs q.1) = q
    rw [lk_self nd hq]
theorem cut_sk {c : List Str} {rs : List (Str × List Str)} (h : Sk rs) : Sk (cut c rs) := by
  unfold Sk; rw [cut_keys]; exact h
theorem Rks.cut {c : List Str} {rs : List (Str × List Str)} (h : Rks rs) : Rks (cut c rs) where
  ne := fun z => h.ne (by
    have e := congrArg List.length z
    unfold Fw.cut at e
    rw [List.length_map] at e
    exact List.length_eq_zero_iff.mp e)
  len := by unfold Fw.cut; rw [List.length_map]; exact h.len
  nd := by rw [cut_keys]; exact h.nd
  name := fun p hp => by obtain ⟨q, hq, rfl⟩ := cut_mem hp; exact h.name q hq
  le := fun p hp => by
    obtain ⟨q, hq, rfl⟩ := cut_mem hp
    exact Nat.le_trans (List.length_filter_le _ _) (h.le q hq)
  names := fun p hp s hs => by
    obtain ⟨q, hq, rfl⟩ := cut_mem hp
    exact h.names q hq s ((List.mem_filter.mp hs).1)
  same := fun p hp q hq => by
    obtain ⟨p', hp', rfl⟩ := cut_mem hp
    obtain ⟨q', hq', rfl⟩ := cut_mem hq
    have e := h.same p' hp' q' hq'
    refine srt_congr fun x => ?_
    show x ∈ p'.2.filter _ ↔ x ∈ q'.2.filter _
    rw [List.mem_filter, List.mem_filter, ← srt_mem (ss := p'.2), e, srt_mem]
/-- a game as it stands -/
structure GX (rs : List (Str × List Str)) (ts : List Str) : Prop where
  rk : Rks rs
  sk : Sk rs
  nds : ∀ p ∈ rs, p.2.Nodup
  tl : ts.length ≤ 30
  ln : ∀ p ∈ rs, ts.length ≤ p.2.length
  tk : ∀ t ∈ ts, t ∈ rs.map Prod.fst
theorem GX.ok {rs : List (Str × List Str)} {ts : List Str} (g : GX rs ts) : GOk rs ts := ⟨g.rk, g.nds, g.tl⟩
theorem GX.tn {rs : List (Str × List Str)} {ts : List Str} (g : GX rs ts) : ∀ t ∈ ts, isName t = true := fun t ht => by
  obtain ⟨q, hq, e⟩ := List.mem_map.mp (g.tk t ht)
  rw [← e]; exact g.rk.name q hq
theorem GX.mem {rs : List (Str × List Str)} {ts : List Str} (g : GX rs ts) {p q : Str × List Str} (hp : p ∈ rs) (hq : q ∈ rs) {s : Str} : s ∈ p.2 ↔ s ∈ q.2 := by
  rw [← srt_mem (ss := p.2), g.rk.same p hp q hq, srt_mem]
theorem GX.len {rs : List (Str × List Str)} {ts : List Str} (g : GX rs ts) {p q : Str × List Str} (hp : p ∈ rs) (hq : q ∈ rs) : p.2.length = q.2.length := by
  rw [← srt_len (g.nds p hp), g.rk.same p hp q hq, srt_len (g.nds q hq)]
theorem filter_ne {A : List Str} {x : Str} (nd : A.Nodup) (h : x ∈ A) : (A.filter fun s => decide (s ∉ [x])).length + 1 = A.length := by
  have e : (A.filter fun s => decide (s ∉ [x])) = A.erase x := by
    rw [nd.erase_eq_filter]
    refine List.filter_congr fun s _ => ?_
    rw [Bool.eq_iff_iff, decide_eq_true_eq, List.mem_singleton, bne_iff_ne]
  rw [e, List.length_erase_of_mem h]
  have := List.length_pos_of_mem h
  omega
theorem GX.after {rs : List (Str × List Str)} {t : Str} {ts : List Str} {x : Str} (g : GX rs (t :: ts)) (hx : ∀ p ∈ rs, x ∈ p.2) : GX (Fw.cut [x] rs) ts where
  rk := g.rk.cut
  sk := cut_sk g.sk
  nds := fun p hp => by obtain ⟨q, hq, rfl⟩ := cut_mem hp; exact (g.nds q hq).filter _
  tl := by have := g.tl; rw [List.length_cons] at this; omega
  ln := fun p hp => by
    obtain ⟨q, hq, rfl⟩ := cut_mem hp
    have h1 := filter_ne (g.nds q hq) (hx q hq)
    have h2 := g.ln q hq
    rw [List.length_cons] at h2
    show ts.length ≤ (q.2.filter _).length
    omega
  tk := fun s hs => by rw [cut_keys]; exact g.tk s (List.mem_cons_of_mem _ hs)
theorem atI_nat' {α : Type} {xs : List α} {i : Nat} {x : α} (h : xs[i]? = some x) : atI xs (i : Int) = some x := by
  have hl := (List.getElem?_eq_some_iff.mp h).1
  unfold atI ixN
  rw [if_pos (by omega), if_pos (by omega)]
  show xs[((i : Int)).toNat]? = _
  rw [Int.toNat_natCast]; exact h
theorem sl_inj : ∀ {a b : List Str}, a.map D.str = b.map D.str → a = b
  | [], [], _ => rfl
  | [], _ :: _, h => by cases h
  | _ :: _, [], h => by cases h
  | x :: r, y :: t, h => by
    rw [List.map_cons, List.map_cons] at h
    injection h with h1 h2
    rw [strs_inj h1, sl_inj h2]
theorem rk_inj {a b : List Str} (h : rk a = rk b) : a = b := by
  unfold rk at h
  injection h with h1 h2
  injection h2 with h3 h4
  injection h3 with h5 h6
  injection h6 with h7
  exact sl_inj h7
theorem pair_inj {a b : Str} {x y : List Str} (h : D.tup [.str a, rk x] = D.tup [.str b, rk y]) : a = b ∧ x = y := by
  injection h with h1
  injection h1 with h2 h3
  injection h3 with h4 h5
  exact ⟨strs_inj h2, rk_inj h4⟩
/-! ### the defs -/
theorem cut_tail {t : Str} {r : List Str} : cutD ((t :: r).map D.str) (some (1 : Int)) none = r.map D.str := by
  unfold cutD HT.sIx
  have h0 : ¬ ((1 : Int) < 0) := by decide
  simp only [h0, if_false, List.length_map]
  rw [show (1 : Int).toNat = 1 from rfl, List.length_cons, Nat.min_eq_left (by omega), List.map_cons, List.drop_succ_cons, List.drop_zero, List.take_of_length_le (by rw [List.length_map]; omega)]
section
variable {P : Program} {w : World} {K : PySem.W.Frag} {mg : Str → Option Value} {base : Heap}
def wt_is_number : Wt := fun ds kk _ => ∃ i lo hi : Int, ds = [.int i, .int lo, .int hi] ∧ kk (.bl (decide (lo ≤ i) && decide (i ≤ hi)))
theorem ok_is_number (T : TX K mg) : Ok P w K mg base 1 (He.ga K "is_number") ["candidate", "least", "greatest"] (spD K wt_is_number) := by
  obtain ⟨fd, F⟩ := T.def_ 32 (d := d_is_number)
  refine ⟨⟨fd, fnD F sc_is_number (fun _ _ _ h => by obtain ⟨i, lo, hi, rfl, hk⟩ := h; rfl) (fun cdv A outer s H E hr => ⟨_, (pss_one (ps_ret (pe_and (pe_callB (z_isi K) (by rfl) (T.free 0) (by decide +kernel) (pa_cons (pv 0) (pa_cons (pe_bltn (v := .ty "int") rfl (T.free 40) (by decide +kernel) rfl) pa_nil))) (pe_and (pe_not (pe_callB (z_isi K) (by rfl) (T.free 0) (by decide +kernel) (pa_cons (pv 0) (pa_cons (pe_bltn (v := .ty "bool") rfl (T.free 50) (by decide +kernel) rfl) pa_nil)))) (pe_one (pe_chain op_le op_le (pv 1) (pv 0) (pv 2))))))), fun ds kk ke h => ?_⟩), FunD.bindsN F fun _ _ _ _ _ _ us hl => match us, hl with | [_, _, _], _ => rfl⟩, F.kp⟩
  obtain ⟨i, lo, hi, rfl, hk⟩ := h
  try dsimp only [cxK]
  walk_at "fw"
  refine ⟨fun h => ?_, fun h => ?_⟩
  · walk_at "fw"
    rw [h, Bool.true_and] at hk; exact hk
  · rw [h, Bool.false_and] at hk; exact hk
def wt_Committee_and : Wt := fun ds kk _ => ∃ ss ts : List Str, ds = [cm ss, cm ts] ∧ ss.length ≤ 30 ∧ (∀ s ∈ ss, isName s = true) ∧ kk (cm (srt (ss.filter fun s => decide (s ∈ ts))))
theorem ok_Committee_and (T : TX K mg) : Ok P w K mg base 5 (He.ma K (He.ga K "Committee") "__and__") ["self", "other"] (spD K wt_Committee_and) := by
  obtain ⟨fd, F⟩ := T.def_ 33 (d := d_Committee_and)
  have k_Committee_init := ok_Committee_init (P := P) (w := w) (base := base) T
  refine ⟨⟨fd, fnD F sc_Committee_and (fun _ _ _ h => by obtain ⟨ss, ts, rfl, h30, hs, hk⟩ := h; rfl) (fun cdv A outer s H E hr => ⟨_, (pss_one (ps_ret (q_make k_Committee_init (T.mkr 21) hr (T.glo 11) (pa_cons (pe_lc (own := [("name", 2)]) rfl sc_Committee_and.nd (z_plist K (z_fld K (pv 0))) (blkOk_by (own := [("name", 2)]) (N := N_Committee_and) (sc := defScope s_Committee_and) (by decide +kernel)) (fun _ _ _ _ _ => (pg_name (i := 2) sc_Committee_and.nd rfl (by first | exact Or.inl rfl | exact Or.inr rfl))) (fun _ _ _ _ _ => (pts_one (pt_cmpR (z_in K) (pv 2) (z_fld K (pv 1)) (by rfl)))) (fun _ _ _ _ _ => (pv 2))) pa_nil)))), fun ds kk ke h => ?_⟩), FunD.bindsN F fun _ _ _ _ _ _ us hl => match us, hl with | [_, _], _ => rfl⟩, F.kp⟩
  obtain ⟨ss, ts, rfl, h30, hs, hk⟩ := h
  try dsimp only [cxK]
  walk_at "fw"
  refine (df_lcF [2] D.str (fun t => decide (t ∈ ts)) D.str (fun a b e => by cases e; exact ⟨rfl, rfl⟩) (by decide) (by walk_at "fno") ?_).dt
  walk_at "fw"
  refine ⟨szOf (by omega), fun t ht => ?_, ?_⟩
  · walk_at "fw"
    rw [inV_strs]
    refine ⟨fun h => ?_, fun h => ?_⟩
    · walk_at "fw"
      have h' : decide (t ∈ ts) = true := h
      rw [h']; rfl
    · have h' : decide (t ∈ ts) = false := h
      rw [h']; rfl
  · walk_at "fw"
    have l := List.length_filter_le (fun t => decide (t ∈ ts)) ss
    exact ⟨by omega, fun s h => hs s (List.mem_filter.mp h).1, Nat.le_trans (srt_le _) (by omega), hk⟩
def wt_Committee_sub : Wt := fun ds kk _ => ∃ ss ts : List Str, ds = [cm ss, cm ts] ∧ ss.length ≤ 30 ∧ (∀ s ∈ ss, isName s = true) ∧ kk (cm (srt (ss.filter fun s => decide (s ∉ ts))))
theorem ok_Committee_sub (T : TX K mg) : Ok P w K mg base 5 (He.ma K (He.ga K "Committee") "__sub__") ["self", "other"] (spD K wt_Committee_sub) := by
  obtain ⟨fd, F⟩ := T.def_ 34 (d := d_Committee_sub)
  have k_Committee_init := ok_Committee_init (P := P) (w := w) (base := base) T
  refine ⟨⟨fd, fnD F sc_Committee_sub (fun _ _ _ h => by obtain ⟨ss, ts, rfl, h30, hs, hk⟩ := h; rfl) (fun cdv A outer s H E hr => ⟨_, (pss_one (ps_ret (q_make k_Committee_init (T.mkr 21) hr (T.glo 11) (pa_cons (pe_lc (own := [("name", 2)]) rfl sc_Committee_sub.nd (z_plist K (z_fld K (pv 0))) (blkOk_by (own := [("name", 2)]) (N := N_Committee_sub) (sc := defScope s_Committee_sub) (by decide +kernel)) (fun _ _ _ _ _ => (pg_name (i := 2) sc_Committee_sub.nd rfl (by first | exact Or.inl rfl | exact Or.inr rfl))) (fun _ _ _ _ _ => (pts_one (pt_cmpR (z_nin K) (pv 2) (z_fld K (pv 1)) (by rfl)))) (fun _ _ _ _ _ => (pv 2))) pa_nil)))), fun ds kk ke h => ?_⟩), FunD.bindsN F fun _ _ _ _ _ _ us hl => match us, hl with | [_, _], _ => rfl⟩, F.kp⟩
  obtain ⟨ss, ts, rfl, h30, hs, hk⟩ := h
  try dsimp only [cxK]
  walk_at "fw"
  refine (df_lcF [2] D.str (fun t => decide (t ∉ ts)) D.str (fun a b e => by cases e; exact ⟨rfl, rfl⟩) (by decide) (by walk_at "fno") ?_).dt
  walk_at "fw"
  refine ⟨szOf (by omega), fun t ht => ?_, ?_⟩
  · walk_at "fw"
    rw [inV_strs]
    refine ⟨fun h => ?_, fun h => ?_⟩
    · walk_at "fw"
      have h' : t ∉ ts := by simpa using h
      rw [decide_eq_true h']; rfl
    · have h' : t ∈ ts := by simpa using h
      rw [decide_eq_false (fun z => z h')]; rfl
  · walk_at "fw"
    have l := List.length_filter_le (fun t => decide (t ∉ ts)) ss
    exact ⟨by omega, fun s h => hs s (List.mem_filter.mp h).1, Nat.le_trans (srt_le _) (by omega), hk⟩
end
end

set_option maxHeartbeats 4000000
/-! Games after strikes. -/

section

section
variable {P : Program} {w : World} {K : PySem.W.Frag} {mg : Str → Option Value} {base : Heap}
def wt_Ranking_sub : Wt := fun ds kk _ => ∃ ss ts : List Str, ds = [rk ss, cm ts] ∧ ss.length ≤ 30 ∧ (∀ s ∈ ss, isName s = true) ∧ ss.Nodup ∧ kk (rk (ss.filter fun s => decide (s ∉ ts)))
theorem ok_Ranking_sub (T : TX K mg) : Ok P w K mg base 5 (He.ma K (He.ga K "Ranking") "__sub__") ["self", "committee"] (spD K wt_Ranking_sub) := by
  obtain ⟨fd, F⟩ := T.def_ 35 (d := d_Ranking_sub)
  have k_Committee_members := ok_Committee_members (P := P) (w := w) (base := base) T
  have k_Ranking_init := ok_Ranking_init (P := P) (w := w) (base := base) T
  refine ⟨⟨fd, fnD F sc_Ranking_sub (fun _ _ _ h => by obtain ⟨ss, ts, rfl, h30, hs, hn, hk⟩ := h; rfl) (fun cdv A outer s H E hr => ⟨_, (pss_one (ps_ret (q_make k_Ranking_init (T.mkr 49) hr (T.glo 35) (pa_cons (pe_lc (own := [("name", 2)]) rfl sc_Ranking_sub.nd (z_plist K (z_fld K (pv 0))) (blkOk_by (own := [("name", 2)]) (N := N_Ranking_sub) (sc := defScope s_Ranking_sub) (by decide +kernel)) (fun _ _ _ _ _ => (pg_name (i := 2) sc_Ranking_sub.nd rfl (by first | exact Or.inl rfl | exact Or.inr rfl))) (fun _ _ _ _ _ => (pts_one (pt_cmpR (z_nin K) (pv 2) (q_prop k_Committee_members (pv 1) (T.cls 9) (T.prop 19) hr) (by rfl)))) (fun _ _ _ _ _ => (pv 2))) pa_nil)))), fun ds kk ke h => ?_⟩), FunD.bindsN F fun _ _ _ _ _ _ us hl => match us, hl with | [_, _], _ => rfl⟩, F.kp⟩
  obtain ⟨ss, ts, rfl, h30, hs, hn, hk⟩ := h
  try dsimp only [cxK]
  walk_at "fw"
  refine (df_lcF [2] D.str (fun t => decide (t ∉ ts)) D.str (fun a b e => by cases e; exact ⟨rfl, rfl⟩) (by decide) (by walk_at "fno") ?_).dt
  walk_at "fw"
  refine ⟨szOf (by omega), fun t ht => ?_, ?_⟩
  · walk_at "fw"
    rw [inV_strs]
    refine ⟨fun h => ?_, fun h => ?_⟩
    · walk_at "fw"
      have h' : t ∉ ts := by simpa using h
      rw [decide_eq_true h']; rfl
    · have h' : t ∈ ts := by simpa using h
      rw [decide_eq_false (fun z => z h')]; rfl
  · walk_at "fw"
    have l := List.length_filter_le (fun t => decide (t ∉ ts)) ss
    exact ⟨by omega, fun s h => hs s (List.mem_filter.mp h).1, hn.filter _, hk⟩
def wt_Ranking_and : Wt := fun ds kk _ => ∃ ss ts : List Str, ds = [rk ss, cm ts] ∧ ss.length ≤ 30 ∧ (∀ s ∈ ss, isName s = true) ∧ ss.Nodup ∧ kk (rk (ss.filter fun s => decide (s ∈ ts)))
theorem ok_Ranking_and (T : TX K mg) : Ok P w K mg base 5 (He.ma K (He.ga K "Ranking") "__and__") ["self", "committee"] (spD K wt_Ranking_and) := by
  obtain ⟨fd, F⟩ := T.def_ 36 (d := d_Ranking_and)
  have k_Committee_members := ok_Committee_members (P := P) (w := w) (base := base) T
  have k_Ranking_init := ok_Ranking_init (P := P) (w := w) (base := base) T
  refine ⟨⟨fd, fnD F sc_Ranking_and (fun _ _ _ h => by obtain ⟨ss, ts, rfl, h30, hs, hn, hk⟩ := h; rfl) (fun cdv A outer s H E hr => ⟨_, (pss_one (ps_ret (q_make k_Ranking_init (T.mkr 49) hr (T.glo 35) (pa_cons (pe_lc (own := [("name", 2)]) rfl sc_Ranking_and.nd (z_plist K (z_fld K (pv 0))) (blkOk_by (own := [("name", 2)]) (N := N_Ranking_and) (sc := defScope s_Ranking_and) (by decide +kernel)) (fun _ _ _ _ _ => (pg_name (i := 2) sc_Ranking_and.nd rfl (by first | exact Or.inl rfl | exact Or.inr rfl))) (fun _ _ _ _ _ => (pts_one (pt_cmpR (z_in K) (pv 2) (q_prop k_Committee_members (pv 1) (T.cls 9) (T.prop 19) hr) (by rfl)))) (fun _ _ _ _ _ => (pv 2))) pa_nil)))), fun ds kk ke h => ?_⟩), FunD.bindsN F fun _ _ _ _ _ _ us hl => match us, hl with | [_, _], _ => rfl⟩, F.kp⟩
  obtain ⟨ss, ts, rfl, h30, hs, hn, hk⟩ := h
  try dsimp only [cxK]
  walk_at "fw"
  refine (df_lcF [2] D.str (fun t => decide (t ∈ ts)) D.str (fun a b e => by cases e; exact ⟨rfl, rfl⟩) (by decide) (by walk_at "fno") ?_).dt
  walk_at "fw"
  refine ⟨szOf (by omega), fun t ht => ?_, ?_⟩
  · walk_at "fw"
    rw [inV_strs]
    refine ⟨fun h => ?_, fun h => ?_⟩
    · walk_at "fw"
      have h' : decide (t ∈ ts) = true := h
      rw [h']; rfl
    · have h' : decide (t ∈ ts) = false := h
      rw [h']; rfl
  · walk_at "fw"
    have l := List.length_filter_le (fun t => decide (t ∈ ts)) ss
    exact ⟨by omega, fun s h => hs s (List.mem_filter.mp h).1, hn.filter _, hk⟩
end
end

set_option maxHeartbeats 4000000
/-! Games after strikes. -/

section

section
variable {P : Program} {w : World} {K : PySem.W.Frag} {mg : Str → Option Value} {base : Heap}
def wt_Turns_getitem : Wt := fun ds kk _ => ∃ (ss : List Str) (i : Nat) (s : Str), ds = [tn ss, .int (i : Nat)] ∧ ss.length ≤ 30 ∧ ss[i]? = some s ∧ kk (.str s)
theorem ok_Turns_getitem (T : TX K mg) : Ok P w K mg base 2 (He.ma K (He.ga K "Turns") "__getitem__") ["self", "number"] (spD K wt_Turns_getitem) := by
  obtain ⟨fd, F⟩ := T.def_ 37 (d := d_Turns_getitem)
  have k_is_number := ok_is_number (P := P) (w := w) (base := base) T
  refine ⟨⟨fd, fnD F sc_Turns_getitem (fun _ _ _ h => by obtain ⟨ss, i, s, rfl, h30, hi, hk⟩ := h; rfl) (fun cdv A outer s H E hr => ⟨_, (pss_cons (ps_if (pt_not (pt_val (q_call k_is_number hr (T.glo 51) (pa_cons (pv 1) (pa_cons pe_int (pa_cons (pe_op op_sub (pe_callB (z_len K) (by rfl) (T.free 2) boot_len (pa_cons (z_fld K (pv 0)) pa_nil)) pe_int) pa_nil)))))) (pss_one ps_never) pss_nil) (pss_one (ps_ret (pe_ix (z_ixL K) (z_fld K (pv 0)) (pv 1) (fun _ _ => rfl))))), fun ds kk ke h => ?_⟩), FunD.bindsN F fun _ _ _ _ _ _ us hl => match us, hl with | [_, _], _ => rfl⟩, F.kp⟩
  obtain ⟨ss, i, s, rfl, h30, hi, hk⟩ := h
  try dsimp only [cxK]
  walk_at "fw"
  have hl := (List.getElem?_eq_some_iff.mp hi).1
  rw [List.length_map, decide_eq_true (by omega : (0 : Int) ≤ (i : Int)), decide_eq_true (by omega : (i : Int) ≤ (ss.length : Int) - 1)]
  walk_at "fw"
  exact ⟨_, _, .str s, rfl, rfl, atI_nat' (by rw [List.getElem?_map, hi]; rfl), hk⟩
def wt_Committee_contains : Wt := fun ds kk _ => ∃ (ss : List Str) (x : Str), ds = [cm ss, .str x] ∧ x.length ≤ 1000 ∧ kk (.bl (isName x && decide (x ∈ ss)))
theorem ok_Committee_contains (T : TX K mg) : Ok P w K mg base 2 (He.ma K (He.ga K "Committee") "__contains__") ["self", "name"] (spD K wt_Committee_contains) := by
  obtain ⟨fd, F⟩ := T.def_ 38 (d := d_Committee_contains)
  have k_is_name := ok_is_name (P := P) (w := w) (base := base) T
  refine ⟨⟨fd, fnD F sc_Committee_contains (fun _ _ _ h => by obtain ⟨ss, x, rfl, hl, hk⟩ := h; rfl) (fun cdv A outer s H E hr => ⟨_, (pss_one (ps_ret (pe_and (q_call k_is_name hr (T.glo 5) (pa_cons (pv 1) pa_nil)) (pe_one (pe_cmpR (z_in K) (pv 1) (z_fld K (pv 0)) (by rfl)))))), fun ds kk ke h => ?_⟩), FunD.bindsN F fun _ _ _ _ _ _ us hl => match us, hl with | [_, _], _ => rfl⟩, F.kp⟩
  obtain ⟨ss, x, rfl, hl, hk⟩ := h
  try dsimp only [cxK]
  walk_at "fw"
  refine ⟨hl, ?_⟩
  walk_at "fw"
  refine ⟨fun h => ?_, fun h => ?_⟩
  · walk_at "fw"
    rw [inV_strs]
    rw [h, Bool.true_and] at hk
    exact hk
  · rw [h, Bool.false_and] at hk
    exact hk
end
end

set_option maxHeartbeats 4000000
/-! Games after strikes. -/

section

section
variable {P : Program} {w : World} {K : PySem.W.Frag} {mg : Str → Option Value} {base : Heap}
def wt_Game_restricted : Wt := fun ds kk _ => ∃ (rs : List (Str × List Str)) (more : List (Str × D)) (c ts : List Str), ds = [gmX rs more, cm c, tn ts] ∧ GX (cut c rs) ts ∧ Rks rs ∧ Sk rs ∧ (∀ p ∈ rs, p.2.Nodup) ∧ kk (gm (cut c rs) ts)
theorem ok_Game_restricted (T : TX K mg) : Ok P w K mg base 9 (He.ma K (He.ga K "Game") "restricted") ["self", "committee", "turns"] (spD K wt_Game_restricted) := by
  obtain ⟨fd, F⟩ := T.def_ 39 (d := d_Game_restricted)
  have k_Game_init := ok_Game_init (P := P) (w := w) (base := base) T
  have k_Ranking_sub := ok_Ranking_sub (P := P) (w := w) (base := base) T
  refine ⟨⟨fd, fnD F sc_Game_restricted (fun _ _ _ h => by obtain ⟨rs, more, c, ts, rfl, gx, hr1, hsk, hnd, hk⟩ := h; rfl) (fun cdv A outer s H E hr => ⟨_, (pss_one (ps_ret (q_make k_Game_init (T.mkr 46) hr (T.glo 47) (pa_cons (pe_unl (pe_dc (own := [("player", 3), ("ranking", 4)]) rfl sc_Game_restricted.nd (pi_items (pe_lk (z_fld K (pv 0)))) (blkOk_by (own := [("player", 3), ("ranking", 4)]) (N := N_Game_restricted) (sc := defScope s_Game_restricted) (by decide +kernel)) (fun _ _ _ _ _ => (q_tup (n := 2) K rfl rfl (pgs_cons (pg_name (i := 3) sc_Game_restricted.nd rfl (by first | exact Or.inl rfl | exact Or.inr rfl)) (pgs_cons (pg_name (i := 4) sc_Game_restricted.nd rfl (by first | exact Or.inl rfl | exact Or.inr rfl)) pgs_nil)))) (fun _ _ _ _ _ => pts_nil) (fun _ _ _ _ _ => (pv 3)) (fun _ _ _ _ _ => (pe_op (q_bin2 (op := .Sub) k_Ranking_sub (T.meth 52) (T.bin2 53) hr) (pv 4) (pv 1))))) (pa_cons (pv 2) pa_nil))))), fun ds kk ke h => ?_⟩), FunD.bindsN F fun _ _ _ _ _ _ us hl => match us, hl with | [_, _, _], _ => rfl⟩, F.kp⟩
  obtain ⟨rs, more, c, ts, rfl, gx, hr1, hsk, hnd, hk⟩ := h
  try dsimp only [cxK]
  walk_at "fw"
  refine (df_dcLM ([3] ++ ([4] ++ [])) (fun p : Str × List Str => D.tup [.str p.1, rk p.2]) (fun p => ((.inr p.1 : Key), rk (p.2.filter fun s => decide (s ∉ c)))) (fun a b e => by
    obtain ⟨a1, a2⟩ := a
    obtain ⟨b1, b2⟩ := b
    obtain ⟨e1, e2⟩ := pair_inj e
    subst e1 e2; rfl) (by decide) (by walk_at "fno") ?_).dt
  walk_at "fw"
  refine ⟨rs, by unfold rks; rw [List.map_map]; rfl, szOf (by have := hr1.len; omega), fun p hp => ?_, ?_⟩
  · walk_at "fw"
    exact ⟨hr1.le p hp, hr1.names p hp, hnd p hp, .inr p.1, rfl, rfl⟩
  · have e : (rs.map fun p => ((.inr p.1 : Key), rk (p.2.filter fun s => decide (s ∉ c)))) = rks (cut c rs) := by
      unfold rks cut
      rw [List.map_map]; rfl
    rw [e, mergeD_nil (by rw [rks_keys]; exact keys_nodup gx.rk.nd)]
    walk_at "fw"
    refine ⟨gx.rk, gx.tl, gx.ln, gx.tk, ?_⟩
    rw [srs_id gx.rk.nd gx.sk]
    exact hk
end
end

set_option maxHeartbeats 4000000
/-! Games after strikes. -/

section

section
variable {P : Program} {w : World} {K : PySem.W.Frag} {mg : Str → Option Value} {base : Heap}
def wt_Game_after : Wt := fun ds kk _ => ∃ (rs : List (Str × List Str)) (t : Str) (ts : List Str) (x : Str), ds = [gm rs (t :: ts), .str x] ∧ GX rs (t :: ts) ∧ (∀ p ∈ rs, x ∈ p.2) ∧ kk (gm (cut [x] rs) ts)
theorem ok_Game_after (T : TX K mg) : Ok P w K mg base 10 (He.ma K (He.ga K "Game") "after") ["self", "name"] (spD K wt_Game_after) := by
  obtain ⟨fd, F⟩ := T.def_ 40 (d := d_Game_after)
  have k_Committee_init := ok_Committee_init (P := P) (w := w) (base := base) T
  have k_Game_first_ranking := ok_Game_first_ranking (P := P) (w := w) (base := base) T
  have k_Game_restricted := ok_Game_restricted (P := P) (w := w) (base := base) T
  have k_Ranking_contains := ok_Ranking_contains (P := P) (w := w) (base := base) T
  have k_Turns_init := ok_Turns_init (P := P) (w := w) (base := base) T
  have k_Turns_len := ok_Turns_len (P := P) (w := w) (base := base) T
  have k_Turns_players := ok_Turns_players (P := P) (w := w) (base := base) T
  refine ⟨⟨fd, fnD F sc_Game_after (fun _ _ _ h => by obtain ⟨rs, t, ts, x, rfl, gx, hx, hk⟩ := h; rfl) (fun cdv A outer s H E hr => ⟨_, (pss_cons (ps_if (pt_cmpR op_eq (q_len k_Turns_len (T.meth 32) hr (T.free 2) (pa_cons (z_fld K (pv 0)) pa_nil)) pe_int (nomark _)) (pss_one ps_never) pss_nil) (pss_cons (ps_if (pt_cmpR (q_notin k_Ranking_contains (T.meth 20) hr) (pv 1) (q_meth0 k_Game_first_ranking (pv 0) (T.cls 25) (T.meth 30) hr) (by rfl)) (pss_one ps_never) pss_nil) (pss_one (ps_ret (q_meth k_Game_restricted (pv 0) (T.cls 25) (T.meth 54) hr (pa_cons (q_make k_Committee_init (T.mkr 21) hr (T.glo 11) (pa_cons (pe_lst (pa_cons (pv 1) pa_nil)) pa_nil)) (pa_cons (q_make k_Turns_init (T.mkr 48) hr (T.glo 31) (pa_cons (pe_slice (z_slL K) (q_prop k_Turns_players (z_fld K (pv 0)) (T.cls 23) (T.prop 34) hr) (po_some pe_int) po_none) pa_nil)) pa_nil))))))), fun ds kk ke h => ?_⟩), FunD.bindsN F fun _ _ _ _ _ _ us hl => match us, hl with | [_, _], _ => rfl⟩, F.kp⟩
  obtain ⟨rs, t, ts, x, rfl, gx, hx, hk⟩ := h
  try dsimp only [cxK]
  walk_at "fw"
  have htl := gx.tl
  rw [List.length_cons] at htl ⊢
  refine ⟨⟨by omega, by omega⟩, ?_⟩
  walk_at "fw"
  refine ⟨fun h => absurd (V.int.inj (of_decide_eq_true h)) (by omega), fun _ => ?_⟩
  obtain ⟨q, r, rfl⟩ := List.exists_cons_of_ne_nil gx.rk.ne
  have hxq := hx q List.mem_cons_self
  have hxn := gx.rk.names q List.mem_cons_self x hxq
  walk_at "fw"
  refine ⟨rfl, ?_⟩
  walk_at "fw"
  refine ⟨Nat.le_trans (isName_len hxn) (by decide), ?_⟩
  rw [hxn, decide_eq_true hxq]
  walk_at "fw"
  refine ⟨rfl, ?_⟩
  walk_at "fw"
  refine ⟨[x], rfl, (by exact (by decide : 1 ≤ 1000)), fun s hs => by rw [List.mem_singleton.mp hs]; exact hxn, Nat.le_trans (srt_le [x]) (by exact (by decide : 1 ≤ 30)), ?_⟩
  walk_at "fw"
  rw [cut_tail]
  walk_at "fw"
  refine ⟨by omega, fun s hs => gx.tn s (List.mem_cons_of_mem _ hs), ?_⟩
  walk_at "fw"
  have ec := cut_congr (c := srt [x]) (d := [x]) (fun s => srt_mem) (q :: r)
  refine ⟨by rw [ec]; exact gx.after hx, gx.rk, gx.sk, gx.nds, ?_⟩
  rw [ec]; exact hk
def wt_check_turn : Wt := fun ds kk _ => ∃ (rs : List (Str × List Str)) (t : Str) (ts : List Str), ds = [gm rs (t :: ts)] ∧ ts.length < 30 ∧ kk .non
theorem ok_check_turn (T : TX K mg) : Ok P w K mg base 3 (He.ga K "check_turn") ["game"] (spD K wt_check_turn) := by
  obtain ⟨fd, F⟩ := T.def_ 41 (d := d_check_turn)
  have k_Game_turns := ok_Game_turns (P := P) (w := w) (base := base) T
  have k_Turns_len := ok_Turns_len (P := P) (w := w) (base := base) T
  refine ⟨⟨fd, fnD F sc_check_turn (fun _ _ _ h => by obtain ⟨rs, t, ts, rfl, h30, hk⟩ := h; rfl) (fun cdv A outer s H E hr => ⟨_, (pss_one (ps_if (pt_cmpR op_eq (q_len k_Turns_len (T.meth 32) hr (T.free 2) (pa_cons (q_prop k_Game_turns (pv 0) (T.cls 25) (T.prop 55) hr) pa_nil)) pe_int (nomark _)) (pss_one ps_never) pss_nil)), fun ds kk ke h => ?_⟩), FunD.bindsN F fun _ _ _ _ _ _ us hl => match us, hl with | [_], _ => rfl⟩, F.kp⟩
  obtain ⟨rs, t, ts, rfl, h30, hk⟩ := h
  try dsimp only [cxK]
  walk_at "fw"
  rw [List.length_cons]
  refine ⟨⟨by omega, by omega⟩, ?_⟩
  walk_at "fw"
  refine ⟨fun h => absurd (V.int.inj (of_decide_eq_true h)) (by omega), fun _ => ?_⟩
  walk_at "fw"
  exact hk
end
end

set_option maxHeartbeats 4000000
/-! The backward pass; optimal strikes. -/

section

/-! ### plain -/
/-- the worst of those that are left -/
def wst (R left : List Str) : Str := ((R.filter fun s => decide (s ∈ left)).getLast?).getD ""
theorem wst_mem {R left : List Str} (h : ∃ s ∈ R, s ∈ left) : wst R left ∈ R ∧ wst R left ∈ left := by
  obtain ⟨s, h1, h2⟩ := h
  have hne : (R.filter fun s => decide (s ∈ left)) ≠ [] := fun z => by
    have hm : s ∈ R.filter fun s => decide (s ∈ left) := List.mem_filter.mpr ⟨h1, decide_eq_true h2⟩
    rw [z] at hm; cases hm
  unfold wst
  rw [List.getLast?_eq_some_getLast hne]
  have := List.mem_filter.mp (List.getLast_mem hne)
  exact ⟨this.1, of_decide_eq_true this.2⟩
theorem wst_congr {R l1 l2 : List Str} (h : ∀ s, s ∈ l1 ↔ s ∈ l2) : wst R l1 = wst R l2 := by
  unfold wst
  congr 2
  exact List.filter_congr fun s _ => by rw [decide_eq_decide.mpr (h s)]
/-- the steps of the pass: us the players, the last turn first -/
def bpass (rs : List (Str × List Str)) : List Str → List Str → List (Str × Str)
  | [], _ => []
  | t :: us, left => (t, wst (lk rs t) left) :: bpass rs us (left.filter fun s => decide (s ≠ wst (lk rs t) left))
/-- what is left -/
def bleft (rs : List (Str × List Str)) : List Str → List Str → List Str
  | [], left => left
  | t :: us, left => bleft rs us (left.filter fun s => decide (s ≠ wst (lk rs t) left))
theorem bpass_snoc (rs : List (Str × List Str)) : ∀ (us : List Str) (t : Str) (left : List Str), bpass rs (us ++ [t]) left = bpass rs us left ++ [(t, wst (lk rs t) (bleft rs us left))]
  | [], _, _ => rfl
  | u :: us, t, left => by
    show (u, _) :: bpass rs (us ++ [t]) _ = _
    rw [bpass_snoc rs us t]; rfl
theorem bleft_snoc (rs : List (Str × List Str)) : ∀ (us : List Str) (t : Str) (left : List Str), bleft rs (us ++ [t]) left = (bleft rs us left).filter fun s => decide (s ≠ wst (lk rs t) (bleft rs us left))
  | [], _, _ => rfl
  | u :: us, t, left => by
    show bleft rs (us ++ [t]) _ = _
    rw [bleft_snoc rs us t]; rfl
theorem bpass_len (rs : List (Str × List Str)) : ∀ (us left : List Str), (bpass rs us left).length = us.length
  | [], _ => rfl
  | u :: us, left => by
    show (bpass rs us _).length + 1 = us.length + 1
    rw [bpass_len rs us]
theorem bleft_sub {rs : List (Str × List Str)} {s : Str} : ∀ {us left : List Str}, s ∈ bleft rs us left → s ∈ left
  | [], _, h => h
  | u :: us, left, h => (List.mem_filter.mp (bleft_sub (us := us) h)).1
theorem bleft_mem {rs : List (Str × List Str)} {s : Str} : ∀ {us left : List Str}, s ∈ bleft rs us left ↔ s ∈ left ∧ s ∉ (bpass rs us left).map Prod.snd
  | [], left => ⟨fun h => ⟨h, by simp [bpass]⟩, fun h => h.1⟩
  | u :: us, left => by
    show s ∈ bleft rs us _ ↔ _
    rw [bleft_mem, List.mem_filter, decide_eq_true_eq]
    show _ ↔ s ∈ left ∧ s ∉ wst (lk rs u) left :: (bpass rs us _).map Prod.snd
    rw [List.mem_cons, not_or]
    exact ⟨fun h => ⟨h.1.1, h.1.2, h.2⟩, fun h => ⟨⟨h.1, h.2.1⟩, h.2.2⟩⟩
theorem bleft_nd {rs : List (Str × List Str)} : ∀ {us left : List Str}, left.Nodup → (bleft rs us left).Nodup
  | [], _, h => h
  | _ :: us, _, h => bleft_nd (us := us) (h.filter _)
/-- the same alternatives in another order -/
theorem bpass_congr (rs : List (Str × List Str)) : ∀ (us : List Str) {l1 l2 : List Str}, (∀ s, s ∈ l1 ↔ s ∈ l2) → bpass rs us l1 = bpass rs us l2
  | [], _, _, _ => rfl
  | t :: us, l1, l2, h => by
    have e := wst_congr (R := lk rs t) h
    show (t, wst (lk rs t) l1) :: bpass rs us _ = (t, wst (lk rs t) l2) :: bpass rs us _
    rw [e]
    congr 1
    exact bpass_congr rs us fun s => by rw [List.mem_filter, List.mem_filter, h]
theorem bleft_len {rs : List (Str × List Str)} : ∀ {us left : List Str}, (∀ t ∈ us, ∀ s ∈ left, s ∈ lk rs t) → left.Nodup → us.length ≤ left.length → (bleft rs us left).length + us.length = left.length
  | [], _, _, _, _ => rfl
  | t :: us, left, h, nd, hl => by
    have hne : left ≠ [] := fun z => by rw [z] at hl; cases hl
    obtain ⟨y, r, e⟩ := List.exists_cons_of_ne_nil hne
    have hw := wst_mem (R := lk rs t) (left := left) ⟨y, h t List.mem_cons_self y (by rw [e]; exact List.mem_cons_self), by rw [e]; exact List.mem_cons_self⟩
    have h1 := filter_ne nd hw.2
    have e2 : (left.filter fun s => decide (s ∉ [wst (lk rs t) left])) = left.filter fun s => decide (s ≠ wst (lk rs t) left) := List.filter_congr fun s _ => by rw [decide_eq_decide]; simp
    rw [e2] at h1
    rw [List.length_cons] at hl ⊢
    have ih := bleft_len (rs := rs) (us := us) (left := left.filter fun s => decide (s ≠ wst (lk rs t) left)) (fun u hu s hs => h u (List.mem_cons_of_mem _ hu) s (List.mem_filter.mp hs).1) (nd.filter _) (by omega)
    show (bleft rs us _).length + (us.length + 1) = _
    omega
/-- in a game -/
theorem GX.pass {rs : List (Str × List Str)} {ts : List Str} (gx : GX rs ts) {q : Str × List Str} (hq : q ∈ rs) {us : List Str} (hu : ∀ t ∈ us, t ∈ rs.map Prod.fst) (hl : us.length ≤ q.2.length) : (bleft rs us q.2).length + us.length = q.2.length :=
  bleft_len (fun t ht s hs => (gx.mem hq (lk_mem (hu t ht))).mp hs) (gx.nds q hq) hl
theorem bpass_sub' {rs : List (Str × List Str)} {s : Str} : ∀ {us left : List Str}, (∀ t ∈ us, ∀ s ∈ left, s ∈ lk rs t) → left.Nodup → us.length ≤ left.length → s ∈ (bpass rs us left).map Prod.snd → s ∈ left
  | [], _, _, _, _, h => by cases h
  | t :: us, left, h, nd, hl, hs => by
    have hne : left ≠ [] := fun z => by rw [z] at hl; cases hl
    obtain ⟨y, r, e⟩ := List.exists_cons_of_ne_nil hne
    have hw := wst_mem (R := lk rs t) (left := left) ⟨y, h t List.mem_cons_self y (by rw [e]; exact List.mem_cons_self), by rw [e]; exact List.mem_cons_self⟩
    have h1 := filter_ne nd hw.2
    have e2 : (left.filter fun s => decide (s ∉ [wst (lk rs t) left])) = left.filter fun s => decide (s ≠ wst (lk rs t) left) := List.filter_congr fun s _ => by rw [decide_eq_decide]; simp
    rw [e2] at h1
    rw [List.length_cons] at hl
    replace hs : s ∈ wst (lk rs t) left :: (bpass rs us (left.filter fun s => decide (s ≠ wst (lk rs t) left))).map Prod.snd := hs
    rcases List.mem_cons.mp hs with rfl | hs
    · exact hw.2
    · exact (List.mem_filter.mp (bpass_sub' (us := us) (fun u hu s hs => h u (List.mem_cons_of_mem _ hu) s (List.mem_filter.mp hs).1) (nd.filter _) (by omega) hs)).1
theorem GX.bsub {q : Str × List Str} {r : List (Str × List Str)} {ts : List Str} (gx : GX (q :: r) ts) {s : Str} (hs : s ∈ (bpass (q :: r) ts.reverse q.2).map Prod.snd) : s ∈ q.2 :=
  bpass_sub' (fun t ht s hs => (gx.mem List.mem_cons_self (lk_mem (gx.tk t (List.mem_reverse.mp ht)))).mp hs) (gx.nds q List.mem_cons_self) (by have := gx.ln q List.mem_cons_self; rw [List.length_reverse]; omega) hs
theorem srt_leS {ss b : List Str} (h : ∀ x ∈ ss, x ∈ b) : (srt ss).length ≤ b.length := nodup_le (srt_nodup ss) fun x hx => h x (srt_mem.mp hx)
/-- the outcome of a game -/
noncomputable def outc (rs : List (Str × List Str)) (ts A : List Str) : List Str := srt (bleft rs ts.reverse A)
section
variable {P : Program} {w : World} {K : PySem.W.Frag} {mg : Str → Option Value} {base : Heap}
end
end

set_option maxHeartbeats 4000000
/-! The backward pass; optimal strikes. -/

section

section
variable {P : Program} {w : World} {K : PySem.W.Frag} {mg : Str → Option Value} {base : Heap}
def wt_Ranking_getitem : Wt := fun ds kk _ => ∃ (ss : List Str) (i : Nat) (s : Str), ds = [rk ss, .int (i : Nat)] ∧ ss.length ≤ 30 ∧ ss[i]? = some s ∧ kk (.str s)
theorem ok_Ranking_getitem (T : TX K mg) : Ok P w K mg base 2 (He.ma K (He.ga K "Ranking") "__getitem__") ["self", "place"] (spD K wt_Ranking_getitem) := by
  obtain ⟨fd, F⟩ := T.def_ 42 (d := d_Ranking_getitem)
  have k_is_number := ok_is_number (P := P) (w := w) (base := base) T
  refine ⟨⟨fd, fnD F sc_Ranking_getitem (fun _ _ _ h => by obtain ⟨ss, i, s, rfl, h30, hi, hk⟩ := h; rfl) (fun cdv A outer s H E hr => ⟨_, (pss_cons (ps_if (pt_not (pt_val (q_call k_is_number hr (T.glo 51) (pa_cons (pv 1) (pa_cons pe_int (pa_cons (pe_op op_sub (pe_callB (z_len K) (by rfl) (T.free 2) boot_len (pa_cons (z_fld K (pv 0)) pa_nil)) pe_int) pa_nil)))))) (pss_one ps_never) pss_nil) (pss_one (ps_ret (pe_ix (z_ixL K) (z_fld K (pv 0)) (pv 1) (fun _ _ => rfl))))), fun ds kk ke h => ?_⟩), FunD.bindsN F fun _ _ _ _ _ _ us hl => match us, hl with | [_, _], _ => rfl⟩, F.kp⟩
  obtain ⟨ss, i, s, rfl, h30, hi, hk⟩ := h
  try dsimp only [cxK]
  walk_at "fw"
  have hl := (List.getElem?_eq_some_iff.mp hi).1
  rw [List.length_map, decide_eq_true (by omega : (0 : Int) ≤ (i : Int)), decide_eq_true (by omega : (i : Int) ≤ (ss.length : Int) - 1)]
  walk_at "fw"
  exact ⟨_, _, .str s, rfl, rfl, atI_nat' (by rw [List.getElem?_map, hi]; rfl), hk⟩
def wt_Ranking_worst : Wt := fun ds kk _ => ∃ ss ts : List Str, ds = [rk ss, cm ts] ∧ ss.length ≤ 30 ∧ (∀ s ∈ ss, isName s = true) ∧ ss.Nodup ∧ (∃ s ∈ ss, s ∈ ts) ∧ kk (.str (wst ss ts))
theorem ok_Ranking_worst (T : TX K mg) : Ok P w K mg base 6 (He.ma K (He.ga K "Ranking") "worst") ["self", "committee"] (spD K wt_Ranking_worst) := by
  obtain ⟨fd, F⟩ := T.def_ 43 (d := d_Ranking_worst)
  have k_Ranking_and := ok_Ranking_and (P := P) (w := w) (base := base) T
  have k_Ranking_getitem := ok_Ranking_getitem (P := P) (w := w) (base := base) T
  have k_Ranking_len := ok_Ranking_len (P := P) (w := w) (base := base) T
  refine ⟨⟨fd, fnD F sc_Ranking_worst (fun _ _ _ h => by obtain ⟨ss, ts, rfl, h30, hs, hn, hex, hk⟩ := h; rfl) (fun cdv A outer s H E hr => ⟨_, (pss_cons (ps_set (i := 2) sc_Ranking_worst.nd rfl (by first | exact Or.inl rfl | exact Or.inr rfl) (pe_op (q_bin2 (op := .BitAnd) k_Ranking_and (T.meth 56) (T.bin2 57) hr) (pv 0) (pv 1))) (pss_one (ps_ret (pe_ifExp (pt_cmpR op_gt (q_len k_Ranking_len (T.meth 33) hr (T.free 2) (pa_cons (pv 2) pa_nil)) pe_int (nomark _)) (q_get k_Ranking_getitem (T.meth 58) (T.fnin 59) hr (pv 2) (pe_op op_sub (q_len k_Ranking_len (T.meth 33) hr (T.free 2) (pa_cons (pv 2) pa_nil)) pe_int)) pe_non)))), fun ds kk ke h => ?_⟩), FunD.bindsN F fun _ _ _ _ _ _ us hl => match us, hl with | [_, _], _ => rfl⟩, F.kp⟩
  obtain ⟨ss, ts, rfl, h30, hs, hn, hex, hk⟩ := h
  try dsimp only [cxK]
  walk_at "fw"
  refine ⟨h30, hs, hn, ?_⟩
  walk_at "fw"
  have hfl := List.length_filter_le (fun s => decide (s ∈ ts)) ss
  obtain ⟨x, x1, x2⟩ := hex
  have hpos : 0 < (ss.filter fun s => decide (s ∈ ts)).length := List.length_pos_of_mem (List.mem_filter.mpr ⟨x1, decide_eq_true x2⟩)
  have hlast : (ss.filter fun s => decide (s ∈ ts))[(ss.filter fun s => decide (s ∈ ts)).length - 1]? = some (wst ss ts) := by
    unfold wst
    rw [← List.getLast?_eq_getElem?]
    cases e : (ss.filter fun s => decide (s ∈ ts)).getLast? with
    | none => rw [List.getLast?_eq_none_iff] at e; rw [e] at hpos; cases hpos
    | some y => rfl
  generalize ss.filter (fun s => decide (s ∈ ts)) = zs at *
  refine ⟨⟨by omega, by omega⟩, ?_⟩
  walk_at "fw"
  refine ⟨fun h => ?_, fun h => absurd (of_decide_eq_false h) (by omega)⟩
  walk_at "fw"
  refine ⟨⟨by omega, by omega⟩, ?_⟩
  walk_at "fw"
  have e : ((zs.length : Int) - 1) = ((zs.length - 1 : Nat) : Int) := by omega
  rw [e]
  exact ⟨zs, zs.length - 1, wst ss ts, rfl, by omega, hlast, hk⟩
def stepsD (xs : List (Str × Str)) : D := .lst (xs.map fun p => .tup [.str p.1, .str p.2])
def wt_backward_pass : Wt := fun ds kk _ => ∃ (q : Str × List Str) (r : List (Str × List Str)) (ts : List Str), ds = [gm (q :: r) ts] ∧ GX (q :: r) ts ∧ kk (stepsD (bpass (q :: r) ts.reverse q.2))
theorem ok_backward_pass (T : TX K mg) : Ok P w K mg base 8 (He.ga K "backward_pass") ["game"] (spD K wt_backward_pass) := by
  obtain ⟨fd, F⟩ := T.def_ 44 (d := d_backward_pass)
  have k_Committee_init := ok_Committee_init (P := P) (w := w) (base := base) T
  have k_Committee_sub := ok_Committee_sub (P := P) (w := w) (base := base) T
  have k_Game_alternatives := ok_Game_alternatives (P := P) (w := w) (base := base) T
  have k_Game_ranking_of := ok_Game_ranking_of (P := P) (w := w) (base := base) T
  have k_Game_turns := ok_Game_turns (P := P) (w := w) (base := base) T
  have k_Ranking_worst := ok_Ranking_worst (P := P) (w := w) (base := base) T
  have k_Turns_players := ok_Turns_players (P := P) (w := w) (base := base) T
  refine ⟨⟨fd, fnD F sc_backward_pass (fun _ _ _ h => by obtain ⟨q, r, ts, rfl, gx, hk⟩ := h; rfl) (fun cdv A outer s H E hr => ⟨_, (pss_cons (ps_set (i := 1) sc_backward_pass.nd rfl (by first | exact Or.inl rfl | exact Or.inr rfl) (pe_lst pa_nil)) (pss_cons (ps_set (i := 2) sc_backward_pass.nd rfl (by first | exact Or.inl rfl | exact Or.inr rfl) (q_prop k_Game_alternatives (pv 0) (T.cls 25) (T.prop 60) hr)) (pss_cons (ps_for (passes_of rfl) rfl (z_plist K (z_revL K (q_prop k_Turns_players (q_prop k_Game_turns (pv 0) (T.cls 25) (T.prop 55) hr) (T.cls 23) (T.prop 34) hr))) (pg_name (i := 3) sc_backward_pass.nd rfl (by first | exact Or.inl rfl | exact Or.inr rfl)) (pss_cons (ps_set (i := 4) sc_backward_pass.nd rfl (by first | exact Or.inl rfl | exact Or.inr rfl) (q_meth k_Ranking_worst (q_meth k_Game_ranking_of (pv 0) (T.cls 25) (T.meth 61) hr (pa_cons (pv 3) pa_nil)) (T.cls 15) (T.meth 62) hr (pa_cons (pv 2) pa_nil))) (pss_cons (ps_expr (pe_bm PySem.F.plainAttrs_list PySem.F.slot_list_append PySem.F.type_list_append mt_append (pv 1) (pa_cons (pe_tup (pa_cons (pv 3) (pa_cons (pv 4) pa_nil))) pa_nil))) (pss_one (ps_set (i := 2) sc_backward_pass.nd rfl (by first | exact Or.inl rfl | exact Or.inr rfl) (pe_op (q_bin (op := .Sub) k_Committee_sub (T.meth 63) (T.first 64) hr) (pv 2) (q_make k_Committee_init (T.mkr 21) hr (T.glo 11) (pa_cons (pe_lst (pa_cons (pv 4) pa_nil)) pa_nil)))))))) (pss_one (ps_ret (pv 1)))))), fun ds kk ke h => ?_⟩), FunD.bindsN F fun _ _ _ _ _ _ us hl => match us, hl with | [_], _ => rfl⟩, F.kp⟩
  obtain ⟨q, r, ts, rfl, gx, hk⟩ := h
  try dsimp only [cxK]
  walk_at "fw"
  have q30 := gx.rk.le q List.mem_cons_self
  have qn := gx.rk.names q List.mem_cons_self
  have qnd := gx.nds q List.mem_cons_self
  have hln := gx.ln q List.mem_cons_self
  have htl := gx.tl
  refine ⟨rfl, q30, qn, ?_⟩
  walk_at "fw"
  refine ds_for [3] (fun xs i G' O' => xs = ts.reverse.map D.str ∧ ∃ g3 g4 : Option D, G' = [some (gm (q :: r) ts), none, some (cm (srt (bleft (q :: r) (ts.reverse.take i) q.2))), g3, g4] ∧ O' = [(1, .lst ((bpass (q :: r) (ts.reverse.take i) q.2).map fun p => .tup [.str p.1, .str p.2]))]) ?_
  walk_at "fw"
  refine ⟨⟨by rw [List.map_reverse], _, _, rfl, rfl⟩, fun i x G' O' hi hP => ?_, fun G' O' hP => ?_⟩
  · obtain ⟨hxs, g3, g4, rfl, rfl⟩ := hP
    rw [hxs] at hi
    obtain ⟨t, ht, rfl⟩ := get_strs2 hi
    have hil := (List.getElem?_eq_some_iff.mp ht).1
    rw [List.length_reverse] at hil
    have htm : t ∈ (q :: r).map Prod.fst := gx.tk t (List.mem_reverse.mp (List.mem_of_getElem? ht))
    have hlm := lk_mem htm
    have etk : ts.reverse.take (i + 1) = ts.reverse.take i ++ [t] := by rw [List.take_succ, ht]; rfl
    have hlen := gx.pass List.mem_cons_self (us := ts.reverse.take i) (fun u hu => gx.tk u (List.mem_reverse.mp (List.mem_of_mem_take hu))) (by rw [List.length_take, List.length_reverse]; omega)
    rw [List.length_take, List.length_reverse] at hlen
    have bl := bpass_len (q :: r) (ts.reverse.take i) q.2
    rw [List.length_take, List.length_reverse] at bl
    rw [etk, bpass_snoc, bleft_snoc]
    have hsub : ∀ s ∈ bleft (q :: r) (ts.reverse.take i) q.2, s ∈ q.2 := fun s hs => bleft_sub hs
    have hLnd : (bleft (q :: r) (ts.reverse.take i) q.2).Nodup := bleft_nd qnd
    generalize bleft (q :: r) (ts.reverse.take i) q.2 = L at *
    generalize bpass (q :: r) (ts.reverse.take i) q.2 = B at *
    obtain ⟨y, ys, ey⟩ := List.exists_cons_of_ne_nil (l := L) fun z => by rw [z] at hlen; simp at hlen; omega
    have hyL : y ∈ L := by rw [ey]; exact List.mem_cons_self
    have hex : ∃ s ∈ lk (q :: r) t, s ∈ L := ⟨y, (gx.mem List.mem_cons_self hlm).mp (hsub y hyL), hyL⟩
    have hw := wst_mem hex
    have ew : wst (lk (q :: r) t) (srt L) = wst (lk (q :: r) t) L := wst_congr fun s => srt_mem
    walk_at "fw"
    refine ⟨rfl, ?_⟩
    walk_at "fw"
    refine ⟨gx.rk.name _ hlm, htm, ?_⟩
    walk_at "fw"
    refine ⟨rfl, ?_⟩
    walk_at "fw"
    refine ⟨gx.rk.le _ hlm, gx.rk.names _ hlm, gx.nds _ hlm, (let ⟨s, h1, h2⟩ := hex; ⟨s, h1, srt_mem.mpr h2⟩), ?_⟩
    rw [ew]
    generalize wst (lk (q :: r) t) L = x at *
    walk_at "fw"
    refine ⟨szOf (by rw [List.length_map]; omega), ?_⟩
    walk_at "fw"
    have xL : x ∈ L := hw.2
    have xn := qn x (hsub x xL)
    refine ⟨[x], rfl, by simp, fun s hs => by rw [List.mem_singleton.mp hs]; exact xn, by rw [srt_len (List.nodup_cons.mpr ⟨List.not_mem_nil, List.nodup_nil⟩)]; simp, ?_⟩
    refine ⟨_, _, rfl, rfl, srt L, srt [x], rfl, ?_, fun s hs => qn s (hsub s (srt_mem.mp hs)), by rw [List.map_reverse], some (.str t), some (.str x), ?_, ?_⟩
    · rw [srt_len hLnd]; omega
    · have e : srt ((srt L).filter fun s => decide (s ∉ srt [x])) = srt (L.filter fun s => decide (s ≠ x)) := srt_congr fun s => by
        rw [List.mem_filter, List.mem_filter, srt_mem, decide_eq_true_eq, decide_eq_true_eq, srt_mem, List.mem_singleton]
      rw [e]; rfl
    · rw [List.map_append]; rfl
  · obtain ⟨hxs, g3, g4, rfl, rfl⟩ := hP
    rw [hxs, List.length_map, List.take_length]
    refine ds_freeze 0 (i := 1) (o := .lst ((bpass (q :: r) ts.reverse q.2).map fun p => .tup [.str p.1, .str p.2])) rfl (by exact (by decide : 1 < 5)) ?_
    walk_at "fw"
    exact hk
def wt_outcome : Wt := fun ds kk _ => ∃ (q : Str × List Str) (r : List (Str × List Str)) (ts : List Str), ds = [gm (q :: r) ts] ∧ GX (q :: r) ts ∧ kk (cm (outc (q :: r) ts q.2))
theorem ok_outcome (T : TX K mg) : Ok P w K mg base 9 (He.ga K "outcome") ["game"] (spD K wt_outcome) := by
  obtain ⟨fd, F⟩ := T.def_ 45 (d := d_outcome)
  have k_Committee_init := ok_Committee_init (P := P) (w := w) (base := base) T
  have k_Committee_sub := ok_Committee_sub (P := P) (w := w) (base := base) T
  have k_Game_alternatives := ok_Game_alternatives (P := P) (w := w) (base := base) T
  have k_backward_pass := ok_backward_pass (P := P) (w := w) (base := base) T
  refine ⟨⟨fd, fnD F sc_outcome (fun _ _ _ h => by obtain ⟨q, r, ts, rfl, gx, hk⟩ := h; rfl) (fun cdv A outer s H E hr => ⟨_, (pss_one (ps_ret (pe_op (q_bin (op := .Sub) k_Committee_sub (T.meth 63) (T.first 64) hr) (q_prop k_Game_alternatives (pv 0) (T.cls 25) (T.prop 60) hr) (q_make k_Committee_init (T.mkr 21) hr (T.glo 11) (pa_cons (pe_lc (own := [("player", 1), ("name", 2)]) rfl sc_outcome.nd (z_plist K (q_call k_backward_pass hr (T.glo 65) (pa_cons (pv 0) pa_nil))) (blkOk_by (own := [("player", 1), ("name", 2)]) (N := N_outcome) (sc := defScope s_outcome) (by decide +kernel)) (fun _ _ _ _ _ => (q_tup (n := 2) K rfl rfl (pgs_cons (pg_name (i := 1) sc_outcome.nd rfl (by first | exact Or.inl rfl | exact Or.inr rfl)) (pgs_cons (pg_name (i := 2) sc_outcome.nd rfl (by first | exact Or.inl rfl | exact Or.inr rfl)) pgs_nil)))) (fun _ _ _ _ _ => pts_nil) (fun _ _ _ _ _ => (pv 2))) pa_nil))))), fun ds kk ke h => ?_⟩), FunD.bindsN F fun _ _ _ _ _ _ us hl => match us, hl with | [_], _ => rfl⟩, F.kp⟩
  obtain ⟨q, r, ts, rfl, gx, hk⟩ := h
  try dsimp only [cxK]
  walk_at "fw"
  have q30 := gx.rk.le q List.mem_cons_self
  have qn := gx.rk.names q List.mem_cons_self
  have htl := gx.tl
  refine ⟨rfl, q30, qn, ?_⟩
  walk_at "fw"
  refine (df_lcM ([1] ++ ([2] ++ [])) (fun p : Str × Str => D.tup [.str p.1, .str p.2]) (fun p => .str p.2) (fun a b e => by
    injection e with e
    injection e with e1 e2
    injection e2 with e3 e4) (by decide) (by walk_at "fno") ?_).dt
  walk_at "fw"
  refine ⟨gx, _, rfl, bpass (q :: r) ts.reverse q.2, rfl, szOf (by rw [bpass_len, List.length_reverse]; omega), fun p hp => ?_, ?_⟩
  · walk_at "fw"
    rfl
  · walk_at "fw"
    refine ⟨(bpass (q :: r) ts.reverse q.2).map Prod.snd, ?_, by rw [List.length_map, bpass_len, List.length_reverse]; omega, ?_, ?_, ?_⟩
    · simp [Ow.d]
    · exact fun s hs => qn s (gx.bsub hs)
    · refine Nat.le_trans (srt_leS fun s hs => gx.bsub hs) q30
    · refine ⟨_, _, rfl, rfl, srt q.2, _, rfl, ?_, fun s hs => qn s (srt_mem.mp hs), ?_⟩
      · rw [srt_len (gx.nds q List.mem_cons_self)]; exact q30
      · have e : srt ((srt q.2).filter fun s => decide (s ∉ srt ((bpass (q :: r) ts.reverse q.2).map Prod.snd))) = outc (q :: r) ts q.2 := srt_congr fun s => by
          rw [List.mem_filter, srt_mem, decide_eq_true_eq, srt_mem, bleft_mem]
        rw [e]; exact hk
end
end

set_option maxHeartbeats 4000000
/-! Playing: results after strikes, mistakes, optimal strikes. -/

section

/-! ### plain -/
/-- the result after a strike -/
noncomputable def resA (rs : List (Str × List Str)) (ts A : List Str) (x : Str) : List Str := outc (cut [x] rs) ts (A.filter fun s => decide (s ∉ [x]))
theorem GX.all {q : Str × List Str} {r : List (Str × List Str)} {ts : List Str} (gx : GX (q :: r) ts) {x : Str} (h : x ∈ q.2) : ∀ p ∈ q :: r, x ∈ p.2 := fun _ hp => (gx.mem List.mem_cons_self hp).mp h
theorem cut_cons (c : List Str) (q : Str × List Str) (r : List (Str × List Str)) : cut c (q :: r) = (q.1, q.2.filter fun s => decide (s ∉ c)) :: cut c r := rfl
/-- the optimal strikes -/
noncomputable def optS (rs : List (Str × List Str)) (t : Str) (ts A : List Str) : List Str := (srt A).filter fun x => decide (resA rs ts A x = outc rs (t :: ts) A)
theorem outc_names {q : Str × List Str} {r : List (Str × List Str)} {ts : List Str} (gx : GX (q :: r) ts) : ∀ s ∈ outc (q :: r) ts q.2, isName s = true := fun s hs =>
  gx.rk.names q List.mem_cons_self s (bleft_sub (srt_mem.mp hs))
theorem resA_names {q : Str × List Str} {r : List (Str × List Str)} {t : Str} {ts : List Str} (gx : GX (q :: r) (t :: ts)) {x : Str} (hx : x ∈ q.2) : ∀ s ∈ resA (q :: r) ts q.2 x, isName s = true := by
  have := gx.after (gx.all hx)
  rw [cut_cons] at this
  exact outc_names this
section
variable {P : Program} {w : World} {K : PySem.W.Frag} {mg : Str → Option Value} {base : Heap}
def wt_check_strike : Wt := fun ds kk _ => ∃ (q : Str × List Str) (r : List (Str × List Str)) (t : Str) (ts : List Str) (x : Str), ds = [gm (q :: r) (t :: ts), .str x] ∧ GX (q :: r) (t :: ts) ∧ x ∈ q.2 ∧ kk .non
theorem ok_check_strike (T : TX K mg) : Ok P w K mg base 8 (He.ga K "check_strike") ["game", "name"] (spD K wt_check_strike) := by
  obtain ⟨fd, F⟩ := T.def_ 46 (d := d_check_strike)
  have k_Committee_contains := ok_Committee_contains (P := P) (w := w) (base := base) T
  have k_Game_alternatives := ok_Game_alternatives (P := P) (w := w) (base := base) T
  have k_check_turn := ok_check_turn (P := P) (w := w) (base := base) T
  refine ⟨⟨fd, fnD F sc_check_strike (fun _ _ _ h => by obtain ⟨q, r, t, ts, x, rfl, gx, hx, hk⟩ := h; rfl) (fun cdv A outer s H E hr => ⟨_, (pss_cons (ps_expr (q_call k_check_turn hr (T.glo 66) (pa_cons (pv 0) pa_nil))) (pss_one (ps_if (pt_cmpR (q_notin k_Committee_contains (T.meth 67) hr) (pv 1) (q_prop k_Game_alternatives (pv 0) (T.cls 25) (T.prop 60) hr) (by rfl)) (pss_one ps_never) pss_nil))), fun ds kk ke h => ?_⟩), FunD.bindsN F fun _ _ _ _ _ _ us hl => match us, hl with | [_, _], _ => rfl⟩, F.kp⟩
  obtain ⟨q, r, t, ts, x, rfl, gx, hx, hk⟩ := h
  try dsimp only [cxK]
  walk_at "fw"
  have htl := gx.tl
  rw [List.length_cons] at htl
  have xn := gx.rk.names q List.mem_cons_self x hx
  refine ⟨by omega, ?_⟩
  walk_at "fw"
  refine ⟨rfl, gx.rk.le q List.mem_cons_self, gx.rk.names q List.mem_cons_self, ?_⟩
  walk_at "fw"
  refine ⟨Nat.le_trans (isName_len xn) (by decide), ?_⟩
  rw [xn, decide_eq_true (srt_mem.mpr hx)]
  refine ⟨true, rfl, false, rfl, fun h => (by cases h), fun _ => ?_⟩
  walk_at "fw"
  exact hk
def wt_result_after : Wt := fun ds kk _ => ∃ (q : Str × List Str) (r : List (Str × List Str)) (t : Str) (ts : List Str) (x : Str), ds = [gm (q :: r) (t :: ts), .str x] ∧ GX (q :: r) (t :: ts) ∧ x ∈ q.2 ∧ kk (cm (resA (q :: r) ts q.2 x))
theorem ok_result_after (T : TX K mg) : Ok P w K mg base 11 (He.ga K "result_after") ["game", "name"] (spD K wt_result_after) := by
  obtain ⟨fd, F⟩ := T.def_ 47 (d := d_result_after)
  have k_Game_after := ok_Game_after (P := P) (w := w) (base := base) T
  have k_check_strike := ok_check_strike (P := P) (w := w) (base := base) T
  have k_outcome := ok_outcome (P := P) (w := w) (base := base) T
  refine ⟨⟨fd, fnD F sc_result_after (fun _ _ _ h => by obtain ⟨q, r, t, ts, x, rfl, gx, hx, hk⟩ := h; rfl) (fun cdv A outer s H E hr => ⟨_, (pss_cons (ps_expr (q_call k_check_strike hr (T.glo 68) (pa_cons (pv 0) (pa_cons (pv 1) pa_nil)))) (pss_one (ps_ret (q_call k_outcome hr (T.glo 69) (pa_cons (q_meth k_Game_after (pv 0) (T.cls 25) (T.meth 70) hr (pa_cons (pv 1) pa_nil)) pa_nil))))), fun ds kk ke h => ?_⟩), FunD.bindsN F fun _ _ _ _ _ _ us hl => match us, hl with | [_, _], _ => rfl⟩, F.kp⟩
  obtain ⟨q, r, t, ts, x, rfl, gx, hx, hk⟩ := h
  try dsimp only [cxK]
  walk_at "fw"
  refine ⟨gx, hx, ?_⟩
  walk_at "fw"
  refine ⟨rfl, ?_⟩
  walk_at "fw"
  refine ⟨gx, gx.all hx, ?_⟩
  walk_at "fw"
  have g2 := gx.after (gx.all hx)
  exact ⟨g2, hk⟩
def wt_is_mistake : Wt := fun ds kk _ => ∃ (q : Str × List Str) (r : List (Str × List Str)) (t : Str) (ts : List Str) (x : Str), ds = [gm (q :: r) (t :: ts), .str x] ∧ GX (q :: r) (t :: ts) ∧ x ∈ q.2 ∧ kk (.bl (!decide (resA (q :: r) ts q.2 x = outc (q :: r) (t :: ts) q.2)))
theorem ok_is_mistake (T : TX K mg) : Ok P w K mg base 12 (He.ga K "is_mistake") ["game", "name"] (spD K wt_is_mistake) := by
  obtain ⟨fd, F⟩ := T.def_ 48 (d := d_is_mistake)
  have k_Committee_eq := ok_Committee_eq (P := P) (w := w) (base := base) T
  have k_outcome := ok_outcome (P := P) (w := w) (base := base) T
  have k_result_after := ok_result_after (P := P) (w := w) (base := base) T
  refine ⟨⟨fd, fnD F sc_is_mistake (fun _ _ _ h => by obtain ⟨q, r, t, ts, x, rfl, gx, hx, hk⟩ := h; rfl) (fun cdv A outer s H E hr => ⟨_, (pss_one (ps_ret (pe_cmpR (q_ne k_Committee_eq (T.meth 36) (T.neo 72) hr) (q_call k_result_after hr (T.glo 71) (pa_cons (pv 0) (pa_cons (pv 1) pa_nil))) (q_call k_outcome hr (T.glo 69) (pa_cons (pv 0) pa_nil)) (nomark _)))), fun ds kk ke h => ?_⟩), FunD.bindsN F fun _ _ _ _ _ _ us hl => match us, hl with | [_, _], _ => rfl⟩, F.kp⟩
  obtain ⟨q, r, t, ts, x, rfl, gx, hx, hk⟩ := h
  try dsimp only [cxK]
  walk_at "fw"
  refine ⟨gx, hx, ?_⟩
  walk_at "fw"
  refine ⟨gx, _, _, rfl, rfl, _, _, rfl, resA_names gx hx, outc_names gx, _, rfl, ?_⟩
  exact hk
def wt_results : Wt := fun ds kk _ => ∃ (q : Str × List Str) (r : List (Str × List Str)) (t : Str) (ts : List Str), ds = [gm (q :: r) (t :: ts)] ∧ GX (q :: r) (t :: ts) ∧ kk (.dic ((srt q.2).map fun s => ((.inr s : Key), cm (resA (q :: r) ts q.2 s))))
theorem ok_results (T : TX K mg) : Ok P w K mg base 12 (He.ga K "results") ["game"] (spD K wt_results) := by
  obtain ⟨fd, F⟩ := T.def_ 49 (d := d_results)
  have k_Committee_members := ok_Committee_members (P := P) (w := w) (base := base) T
  have k_Game_alternatives := ok_Game_alternatives (P := P) (w := w) (base := base) T
  have k_check_turn := ok_check_turn (P := P) (w := w) (base := base) T
  have k_result_after := ok_result_after (P := P) (w := w) (base := base) T
  refine ⟨⟨fd, fnD F sc_results (fun _ _ _ h => by obtain ⟨q, r, t, ts, rfl, gx, hk⟩ := h; rfl) (fun cdv A outer s H E hr => ⟨_, (pss_cons (ps_expr (q_call k_check_turn hr (T.glo 66) (pa_cons (pv 0) pa_nil))) (pss_one (ps_ret (pe_dc (own := [("name", 1)]) rfl sc_results.nd (z_plist K (q_prop k_Committee_members (q_prop k_Game_alternatives (pv 0) (T.cls 25) (T.prop 60) hr) (T.cls 9) (T.prop 19) hr)) (blkOk_by (own := [("name", 1)]) (N := N_results) (sc := defScope s_results) (by decide +kernel)) (fun _ _ _ _ _ => (pg_name (i := 1) sc_results.nd rfl (by first | exact Or.inl rfl | exact Or.inr rfl))) (fun _ _ _ _ _ => pts_nil) (fun _ _ _ _ _ => (pv 1)) (fun _ _ _ _ _ => (q_call k_result_after hr (T.glo 71) (pa_cons (pv 0) (pa_cons (pv 1) pa_nil)))))))), fun ds kk ke h => ?_⟩), FunD.bindsN F fun _ _ _ _ _ _ us hl => match us, hl with | [_], _ => rfl⟩, F.kp⟩
  obtain ⟨q, r, t, ts, rfl, gx, hk⟩ := h
  try dsimp only [cxK]
  walk_at "fw"
  have htl := gx.tl
  rw [List.length_cons] at htl
  refine ⟨by omega, ?_⟩
  refine ds_ret (df_dcM [1] D.str (fun s => ((.inr s : Key), cm (resA (q :: r) ts q.2 s))) (fun a b e => by injection e with e; subst e; rfl) (by decide) (by walk_at "fno") ?_).dt
  walk_at "fw"
  refine ⟨rfl, gx.rk.le q List.mem_cons_self, gx.rk.names q List.mem_cons_self, ?_⟩
  walk_at "fw"
  have q30 := gx.rk.le q List.mem_cons_self
  have nd := gx.nds q List.mem_cons_self
  refine ⟨szOf (by rw [srt_len nd]; omega), fun s hs => ?_, ?_⟩
  · walk_at "fw"
    exact ⟨gx, srt_mem.mp hs, .inr s, rfl, rfl⟩
  · rw [mergeD_nil (by rw [List.map_map]; exact keys_nodup (srt_nodup _))]
    exact hk
def wt_optimal_strikes : Wt := fun ds kk _ => ∃ (q : Str × List Str) (r : List (Str × List Str)) (t : Str) (ts : List Str), ds = [gm (q :: r) (t :: ts)] ∧ GX (q :: r) (t :: ts) ∧ kk (sl (optS (q :: r) t ts q.2))
theorem ok_optimal_strikes (T : TX K mg) : Ok P w K mg base 13 (He.ga K "optimal_strikes") ["game"] (spD K wt_optimal_strikes) := by
  obtain ⟨fd, F⟩ := T.def_ 50 (d := d_optimal_strikes)
  have k_Committee_eq := ok_Committee_eq (P := P) (w := w) (base := base) T
  have k_outcome := ok_outcome (P := P) (w := w) (base := base) T
  have k_results := ok_results (P := P) (w := w) (base := base) T
  refine ⟨⟨fd, fnD F sc_optimal_strikes (fun _ _ _ h => by obtain ⟨q, r, t, ts, rfl, gx, hk⟩ := h; rfl) (fun cdv A outer s H E hr => ⟨_, (pss_cons (ps_set (i := 1) sc_optimal_strikes.nd rfl (by first | exact Or.inl rfl | exact Or.inr rfl) (q_call k_outcome hr (T.glo 69) (pa_cons (pv 0) pa_nil))) (pss_one (ps_ret (pe_unl (pe_lc (own := [("name", 2), ("result", 3)]) rfl sc_optimal_strikes.nd (pi_items (pe_lk (q_call k_results hr (T.glo 73) (pa_cons (pv 0) pa_nil)))) (blkOk_by (own := [("name", 2), ("result", 3)]) (N := N_optimal_strikes) (sc := defScope s_optimal_strikes) (by decide +kernel)) (fun _ _ _ _ _ => (q_tup (n := 2) K rfl rfl (pgs_cons (pg_name (i := 2) sc_optimal_strikes.nd rfl (by first | exact Or.inl rfl | exact Or.inr rfl)) (pgs_cons (pg_name (i := 3) sc_optimal_strikes.nd rfl (by first | exact Or.inl rfl | exact Or.inr rfl)) pgs_nil)))) (fun _ _ _ _ _ => (pts_one (pt_cmpR (q_eq k_Committee_eq (T.meth 36) hr) (pv 3) (pv 1) (nomark _)))) (fun _ _ _ _ _ => (pv 2))))))), fun ds kk ke h => ?_⟩), FunD.bindsN F fun _ _ _ _ _ _ us hl => match us, hl with | [_], _ => rfl⟩, F.kp⟩
  obtain ⟨q, r, t, ts, rfl, gx, hk⟩ := h
  try dsimp only [cxK]
  walk_at "fw"
  refine ⟨gx, ?_⟩
  refine ds_ret (df_lcLF ([2] ++ ([3] ++ [])) (fun s : Str => D.tup [.str s, cm (resA (q :: r) ts q.2 s)]) (fun s => decide (resA (q :: r) ts q.2 s = outc (q :: r) (t :: ts) q.2)) D.str (fun a b e => by
    injection e with e
    injection e with e1 e2
    injection e1 with e1
    subst e1; exact ⟨rfl, rfl⟩) (by decide) (by walk_at "fno") ?_).dt
  walk_at "fw"
  have q30 := gx.rk.le q List.mem_cons_self
  have nd := gx.nds q List.mem_cons_self
  refine ⟨gx, _, rfl, srt q.2, by rw [List.map_map]; rfl, szOf (by rw [srt_len nd]; omega), fun s hs => ?_, ?_⟩
  · walk_at "fw"
    refine ⟨resA_names gx (srt_mem.mp hs), outc_names gx, ?_⟩
    refine ⟨_, rfl, _, rfl, fun h => ?_, fun h => ?_⟩
    · walk_at "fw"
      rw [h]; rfl
    · rw [h]; rfl
  · walk_at "fw"
    exact hk
end
end

set_option maxHeartbeats 4000000
/-! Rooms. -/

section

local macro_rules | `(tactic| walk_at "fw1") => `(tactic| first | (with_reducible first | refine dsr_seq ?_ | refine dsr_if ?_ | refine dsr_next ?_ | refine dsf_seq ?_ | refine dsf_if ?_) | (refine dsr_ret (dt_lend 0 (ok := fun _ => False) (.inr ⟨_, rfl⟩) rfl (by exact (by decide : 0 < 3)) (fun e z => z.elim) ?_)))
abbrev rmS : Str := Str.ofString "Room"
/-- a room: its first game, the present one, what was struck, what was undone -/
abbrev rmF (g0 g : D) (xs us : List Str) : List (Str × D) := [(Str.ofString "beginning", g0), (Str.ofString "state", .tup [g, sl xs, sl us])]
abbrev rm (g0 g : D) (xs us : List Str) : D := .obj rmS (rmF g0 g xs us)
section
variable {P : Program} {w : World} {K : PySem.W.Frag} {mg : Str → Option Value} {base : Heap}
def wt_Room_init : WtI := fun ds kk _ => ∃ (rs : List (Str × List Str)) (ts : List Str), ds = [gm rs ts] ∧ kk (rmF (gm rs ts) (gm rs ts) [] [])
theorem ok_Room_init (T : TX K mg) : Ok P w K mg base 1 (He.ma K (He.ga K "Room") "__init__") ["self", "game"] (spI K "Room" wt_Room_init) := by
  obtain ⟨fd, F⟩ := T.def_ 51 (d := d_Room_init)
  refine ⟨⟨fd, fnI F sc_Room_init (by decide) (fun _ _ _ h => by obtain ⟨rs, ts, rfl, hk⟩ := h; rfl) (fun cdv A outer s H E hr => ⟨_, (pss_cons (ps_if (pt_not (pt_val (pe_callB (z_isi K) (by rfl) (T.free 0) (by decide +kernel) (pa_cons (pv 1) (pa_cons (pe_glob (v := .ref (He.ga K "Game")) rfl (T.glo 47) rfl) pa_nil))))) (pss_one ps_never) pss_nil) (pss_cons (ps_fld (pv 0) (pv 1) rfl) (pss_one (ps_fld (pv 0) (pe_tup (pa_cons (pv 1) (pa_cons (pe_lst pa_nil) (pa_cons (pe_lst pa_nil) pa_nil)))) rfl)))), fun x ds kk ke h => ?_⟩), FunD.bindsN F fun _ _ _ _ _ _ us hl => match us, hl with | [_, _], _ => rfl⟩, F.kp⟩
  obtain ⟨rs, ts, rfl, hk⟩ := h
  try dsimp only [cxK]
  walk_at "fw"
  refine ds_fldS 0 (T.cls 74) (T.noat 75) rfl (by decide) ?_
  walk_at "fw"
  refine ds_fldS 0 (T.cls 74) (T.noat 76) rfl (by exact (by decide : 1 < 1000)) ?_
  walk_at "fw"
  exact hk
def wt_Room_game : Wt := fun ds kk _ => ∃ (g0 g : D) (xs us : List Str), ds = [rm g0 g xs us] ∧ kk g
theorem ok_Room_game (T : TX K mg) : Ok P w K mg base 1 (getter K (He.ga K "Room") "game") ["self"] (spD K wt_Room_game) := by
  obtain ⟨fd, F⟩ := T.def_ 52 (d := d_Room_game)
  refine ⟨⟨fd, fnD F sc_Room_game (fun _ _ _ h => by obtain ⟨g0, g, xs, us, rfl, hk⟩ := h; rfl) (fun cdv A outer s H E hr => ⟨_, (pss_one (ps_ret (pe_ix (z_ixT K) (z_fld K (pv 0)) pe_int (fun _ _ => rfl)))), fun ds kk ke h => ?_⟩), FunD.bindsN F fun _ _ _ _ _ _ us hl => match us, hl with | [_], _ => rfl⟩, F.kp⟩
  obtain ⟨g0, g, xs, us, rfl, hk⟩ := h
  try dsimp only [cxK]
  walk_at "fw"
  exact hk
def wt_Room_strikes : Wt := fun ds kk _ => ∃ (g0 g : D) (xs us : List Str), ds = [rm g0 g xs us] ∧ xs.length ≤ 1000 ∧ kk (sl xs)
theorem ok_Room_strikes (T : TX K mg) : Ok P w K mg base 1 (getter K (He.ga K "Room") "strikes") ["self"] (spD K wt_Room_strikes) := by
  obtain ⟨fd, F⟩ := T.def_ 53 (d := d_Room_strikes)
  refine ⟨⟨fd, fnD F sc_Room_strikes (fun _ _ _ h => by obtain ⟨g0, g, xs, us, rfl, hl, hk⟩ := h; rfl) (fun cdv A outer s H E hr => ⟨_, (pss_one (ps_ret (pe_callTy (z_listof K) (by rfl) (T.free 4) (by decide +kernel) (pa_cons (pe_ix (z_ixT K) (z_fld K (pv 0)) pe_int (fun _ _ => rfl)) pa_nil)))), fun ds kk ke h => ?_⟩), FunD.bindsN F fun _ _ _ _ _ _ us hl => match us, hl with | [_], _ => rfl⟩, F.kp⟩
  obtain ⟨g0, g, xs, us, rfl, hl, hk⟩ := h
  try dsimp only [cxK]
  walk_at "fw"
  exact hk
def wt_Room_len : Wt := fun ds kk _ => ∃ (g0 g : D) (xs us : List Str), ds = [rm g0 g xs us] ∧ kk (.int (xs.length : Nat))
theorem ok_Room_len (T : TX K mg) : Ok P w K mg base 1 (He.ma K (He.ga K "Room") "__len__") ["self"] (spD K wt_Room_len) := by
  obtain ⟨fd, F⟩ := T.def_ 54 (d := d_Room_len)
  refine ⟨⟨fd, fnD F sc_Room_len (fun _ _ _ h => by obtain ⟨g0, g, xs, us, rfl, hk⟩ := h; rfl) (fun cdv A outer s H E hr => ⟨_, (pss_one (ps_ret (pe_callB (z_len K) (by rfl) (T.free 2) boot_len (pa_cons (pe_ix (z_ixT K) (z_fld K (pv 0)) pe_int (fun _ _ => rfl)) pa_nil)))), fun ds kk ke h => ?_⟩), FunD.bindsN F fun _ _ _ _ _ _ us hl => match us, hl with | [_], _ => rfl⟩, F.kp⟩
  obtain ⟨g0, g, xs, us, rfl, hk⟩ := h
  try dsimp only [cxK]
  walk_at "fw"
  rw [List.length_map]; exact hk
def wt_Room_hint : Wt := fun ds kk _ => ∃ (g0 : D) (q : Str × List Str) (r : List (Str × List Str)) (ts xs us : List Str), ds = [rm g0 (gm (q :: r) ts) xs us] ∧ GX (q :: r) ts ∧
  ((ts = [] ∧ kk .non) ∨ ∃ t r' s, ts = t :: r' ∧ (optS (q :: r) t r' q.2)[0]? = some s ∧ kk (.str s))
theorem ok_Room_hint (T : TX K mg) : Ok P w K mg base 14 (He.ma K (He.ga K "Room") "hint") ["self"] (spD K wt_Room_hint) := by
  obtain ⟨fd, F⟩ := T.def_ 55 (d := d_Room_hint)
  have k_Game_turns := ok_Game_turns (P := P) (w := w) (base := base) T
  have k_Turns_len := ok_Turns_len (P := P) (w := w) (base := base) T
  have k_optimal_strikes := ok_optimal_strikes (P := P) (w := w) (base := base) T
  refine ⟨⟨fd, fnD F sc_Room_hint (fun _ _ _ h => by obtain ⟨g0, q, r, ts, xs, us, rfl, gx, hk⟩ := h; rfl) (fun cdv A outer s H E hr => ⟨_, (pss_cons (ps_set (i := 1) sc_Room_hint.nd rfl (by first | exact Or.inl rfl | exact Or.inr rfl) (pe_ix (z_ixT K) (z_fld K (pv 0)) pe_int (fun _ _ => rfl))) (pss_one (ps_ret (pe_ifExp (pt_cmpR op_gt (q_len k_Turns_len (T.meth 32) hr (T.free 2) (pa_cons (q_prop k_Game_turns (pv 1) (T.cls 25) (T.prop 55) hr) pa_nil)) pe_int (nomark _)) (pe_ix (z_ixL K) (q_call k_optimal_strikes hr (T.glo 77) (pa_cons (pv 1) pa_nil)) pe_int (fun _ _ => rfl)) pe_non)))), fun ds kk ke h => ?_⟩), FunD.bindsN F fun _ _ _ _ _ _ us hl => match us, hl with | [_], _ => rfl⟩, F.kp⟩
  obtain ⟨g0, q, r, ts, xs, us, rfl, gx, hk⟩ := h
  try dsimp only [cxK]
  walk_at "fw"
  have htl := gx.tl
  refine ⟨⟨by omega, by omega⟩, ?_⟩
  walk_at "fw"
  refine ⟨fun h => ?_, fun h => ?_⟩
  · walk_at "fw"
    obtain ⟨rfl, hk⟩ | ⟨t, r', s, rfl, hs, hk⟩ := hk
    · exact absurd h (by decide)
    · refine ⟨q, r, t, r', rfl, gx, ?_⟩
      walk_at "fw"
      exact ⟨_, _, .str s, rfl, rfl, atI_nat' (i := 0) (by rw [List.getElem?_map, hs]; rfl), hk⟩
  · obtain ⟨rfl, hk⟩ | ⟨t, r', s, rfl, hs, hk⟩ := hk
    · walk_at "fw"
      exact hk
    · rw [List.length_cons] at h; exact absurd (of_decide_eq_false h) (by omega)
def wt_Room_strike : WtO := fun ds1 fs ds2 kk => ∃ (g0 : D) (rs : List (Str × List Str)) (t : Str) (ts xs us : List Str) (y : Str), ds1 = [] ∧ fs = rmF g0 (gm rs (t :: ts)) xs us ∧ ds2 = [.str y] ∧ GX rs (t :: ts) ∧ (∀ p ∈ rs, y ∈ p.2) ∧ xs.length ≤ 1000 ∧
  kk (.int (xs.length + 1 : Nat)) (rmF g0 (gm (cut [y] rs) ts) (xs ++ [y]) [])
theorem ok_Room_strike (T : TX K mg) : Ok P w K mg base 11 (He.ma K (He.ga K "Room") "strike") ["self", "name"] (spO K "Room" wt_Room_strike) := by
  obtain ⟨fd, F⟩ := T.def_ 56 (d := d_Room_strike)
  have k_Game_after := ok_Game_after (P := P) (w := w) (base := base) T
  have k_Room_len := ok_Room_len (P := P) (w := w) (base := base) T
  refine ⟨⟨fd, fnO F sc_Room_strike (by decide) (fun _ _ _ _ h => by obtain ⟨g0, rs, t, ts, xs, us, y, rfl, rfl, rfl, gx, hy, hl, hk⟩ := h; rfl) (fun cdv A outer s H E hr => ⟨_, (pss_cons (ps_set (i := 2) sc_Room_strike.nd rfl (by first | exact Or.inl rfl | exact Or.inr rfl) (q_meth k_Game_after (pe_ix (z_ixT K) (z_fld K (pv 0)) pe_int (fun _ _ => rfl)) (T.cls 25) (T.meth 70) hr (pa_cons (pv 1) pa_nil))) (pss_cons (ps_fld (pv 0) (pe_tup (pa_cons (pv 2) (pa_cons (pe_lst (z_star K (pe_ix (z_ixT K) (z_fld K (pv 0)) pe_int (fun _ _ => rfl)) (pa_cons (pv 1) pa_nil))) (pa_cons (pe_lst pa_nil) pa_nil)))) rfl) (pss_one (ps_ret (q_len k_Room_len (T.meth 78) hr (T.free 2) (pa_cons (pv 0) pa_nil)))))), fun x ds1 fs ds2 kk h => ?_⟩), FunD.bindsN F fun _ _ _ _ _ _ us hl => match us, hl with | [_, _], _ => rfl⟩, F.kp⟩
  obtain ⟨g0, rs, t, ts, xs, us, y, rfl, rfl, rfl, gx, hy, hl, hk⟩ := h
  try dsimp only [cxK]
  walk_at "fw"
  refine dt_fldS 0 (T.cls 74) (T.noat 76) rfl rfl ?_
  walk_at "fw"
  refine ⟨rfl, ?_⟩
  walk_at "fw"
  refine ⟨gx, hy, ?_⟩
  walk_at "fw"
  refine ds_fldS 0 (T.cls 74) (T.noat 76) rfl (by exact (by decide : 2 < 1000)) ?_
  walk_at "fw"
  refine dt_fldS 0 (T.cls 74) (T.noat 76) rfl rfl ?_
  walk_at "fw"
  refine ⟨Nat.le_trans (by rw [List.length_append, List.length_map]; exact Nat.succ_le_succ hl) (by decide : 1001 ≤ sizeLine), ?_⟩
  walk_at "fw"
  refine ⟨g0, gm (cut [y] rs) ts, xs ++ [y], [], ?_, _, rfl, ⟨?_, ?_⟩, .int _, _, rfl, ?_⟩
  · have e : (sl (xs ++ [y]) : D) = .lst (xs.map D.str ++ [.str y]) := by rw [sl, List.map_append]; rfl
    rw [← e]; rfl
  · omega
  · rw [List.length_append, List.length_singleton]; omega
  · rw [List.length_append, List.length_singleton]
    have e : (sl (xs ++ [y]) : D) = .lst (xs.map D.str ++ [.str y]) := by rw [sl, List.map_append]; rfl
    rw [rmF, e] at hk
    exact hk
def wt_Room_clone : WtF := fun ds kk _ => ∃ (rs rs' : List (Str × List Str)) (ts ts' xs us : List Str), ds = [rm (gm rs ts) (gm rs' ts') xs us] ∧ kk (.obj rmS (rmF (gm rs ts) (gm rs' ts') xs us))
theorem ok_Room_clone (T : TX K mg) : Ok P w K mg base 3 (He.ma K (He.ga K "Room") "clone") ["self"] (spF K wt_Room_clone) := by
  obtain ⟨fd, F⟩ := T.def_ 57 (d := d_Room_clone)
  have k_Room_init := ok_Room_init (P := P) (w := w) (base := base) T
  refine ⟨⟨fd, fnF F sc_Room_clone (fun _ _ _ h => by obtain ⟨rs, rs', ts, ts', xs, us, rfl, hk⟩ := h; rfl) (fun cdv A outer s H E hr => ⟨_, (pss_cons (ps_set (i := 1) sc_Room_clone.nd rfl (by first | exact Or.inl rfl | exact Or.inr rfl) (q_make k_Room_init (T.mkr 79) hr (T.glo 80) (pa_cons (z_fld K (pv 0)) pa_nil))) (pss_cons (ps_fld (pv 1) (z_fld K (pv 0)) rfl) (pss_one (ps_ret (pv 1))))), fun ds kk ke h => ?_⟩), FunD.bindsN F fun _ _ _ _ _ _ us hl => match us, hl with | [_], _ => rfl⟩, F.kp⟩
  obtain ⟨rs, rs', ts, ts', xs, us, rfl, hk⟩ := h
  try dsimp only [cxK]
  refine dsf_seq (ds_asgF (by walk_at "fno") (by exact (by decide : 1 < 2)) (df_make ?_))
  walk_at "fw"
  refine ds_fld 0 (T.cls 74) (T.noat 76) rfl (by exact (by decide : 2 < 1000)) ?_
  walk_at "fw"
  exact dsf_own 0 rfl hk
end
end

set_option maxHeartbeats 4000000
/-! Room.mistakes. -/

section

local macro_rules | `(tactic| walk_at "fw1") => `(tactic| (with_reducible first | refine dsf_seq ?_ | refine dsf_if ?_))
/-- the games along some strikes: the numbers of the mistakes, from n -/
noncomputable def mist : Nat → List (Str × List Str) → List Str → List Str → List Str → List Nat
  | n, rs, t :: ts, A, x :: xs => (if resA rs ts A x = outc rs (t :: ts) A then [] else [n]) ++ mist (n + 1) (cut [x] rs) ts (A.filter fun s => decide (s ∉ [x])) xs
  | _, _, _, _, _ => []
/-- the strikes can be played -/
def Plays : List Str → List Str → List Str → Prop
  | _ :: ts, A, x :: xs => x ∈ A ∧ Plays ts (A.filter fun s => decide (s ∉ [x])) xs
  | _, _, [] => True
  | [], _, _ :: _ => False
theorem plays_len : ∀ {xs ts A : List Str}, Plays ts A xs → xs.length ≤ ts.length
  | [], _, _, _ => Nat.zero_le _
  | _ :: _, [], _, h => h.elim
  | _ :: xs, _ :: ts, _, h => Nat.succ_le_succ (plays_len (xs := xs) h.2)
theorem mist_nil {n : Nat} {rs : List (Str × List Str)} {ts A : List Str} : mist n rs ts A [] = [] := by cases ts <;> rfl
section
variable {P : Program} {w : World} {K : PySem.W.Frag} {mg : Str → Option Value} {base : Heap}
def wt_Room_mistakes : WtF := fun ds kk _ => ∃ (q : Str × List Str) (r : List (Str × List Str)) (ts xs us : List Str) (g : D), ds = [rm (gm (q :: r) ts) g xs us] ∧ GX (q :: r) ts ∧ Plays ts q.2 xs ∧ kk (.lst ((mist 0 (q :: r) ts q.2 xs).map fun n => D.int (n : Nat)))
theorem ok_Room_mistakes (T : TX K mg) : Ok P w K mg base 13 (He.ma K (He.ga K "Room") "mistakes") ["self"] (spF K wt_Room_mistakes) := by
  obtain ⟨fd, F⟩ := T.def_ 58 (d := d_Room_mistakes)
  have k_Game_after := ok_Game_after (P := P) (w := w) (base := base) T
  have k_Room_strikes := ok_Room_strikes (P := P) (w := w) (base := base) T
  have k_is_mistake := ok_is_mistake (P := P) (w := w) (base := base) T
  refine ⟨⟨fd, fnF F sc_Room_mistakes (fun _ _ _ h => by obtain ⟨q, r, ts, xs, us, g, rfl, gx, hp, hk⟩ := h; rfl) (fun cdv A outer s H E hr => ⟨_, (pss_cons (ps_par (i := 1) (j := 2) rfl sc_Room_mistakes.nd rfl rfl (by decide) rfl rfl (pa_cons (pe_lst pa_nil) (pa_cons (z_fld K (pv 0)) pa_nil)) (by rfl)) (pss_cons (ps_for (passes_of rfl) rfl (pi_enum (by rfl) (T.free 17) (pa_cons (q_prop k_Room_strikes (pv 0) (T.cls 74) (T.prop 81) hr) pa_nil)) (q_tup (n := 2) K rfl rfl (pgs_cons (pg_name (i := 3) sc_Room_mistakes.nd rfl (by first | exact Or.inl rfl | exact Or.inr rfl)) (pgs_cons (pg_name (i := 4) sc_Room_mistakes.nd rfl (by first | exact Or.inl rfl | exact Or.inr rfl)) pgs_nil))) (pss_cons (ps_if (pt_val (q_call k_is_mistake hr (T.glo 82) (pa_cons (pv 2) (pa_cons (pv 4) pa_nil)))) (pss_one (ps_expr (pe_bm PySem.F.plainAttrs_list PySem.F.slot_list_append PySem.F.type_list_append mt_append (pv 1) (pa_cons (pv 3) pa_nil)))) pss_nil) (pss_one (ps_set (i := 2) sc_Room_mistakes.nd rfl (by first | exact Or.inl rfl | exact Or.inr rfl) (q_meth k_Game_after (pv 2) (T.cls 25) (T.meth 70) hr (pa_cons (pv 4) pa_nil)))))) (pss_one (ps_ret (pv 1))))), fun ds kk ke h => ?_⟩), FunD.bindsN F fun _ _ _ _ _ _ us hl => match us, hl with | [_], _ => rfl⟩, F.kp⟩
  obtain ⟨q, r, ts, xs, us, g, rfl, gx, hp, hk⟩ := h
  try dsimp only [cxK]
  refine dsf_seq (ds_parFV (by decide) (by walk_at "fno") (by walk_at "fno") (by exact (by decide : 1 < 5)) (df_lst (da_nil ⟨Nat.zero_le _, ?_⟩)))
  walk_at "fw"
  refine ds_for ([3] ++ ([4] ++ [])) (fun ys i G' O' => ys = enumD (xs.map D.str) ∧ ∃ (q' : Str × List Str) (r' : List (Str × List Str)) (ts' : List Str) (M : List Nat) (g3 g4 : Option D), G' = [some (rm (gm (q :: r) ts) g xs us), none, some (gm (q' :: r') ts'), g3, g4] ∧ O' = [(1, .lst (M.map fun n => D.int (n : Nat)))] ∧ GX (q' :: r') ts' ∧ M.length ≤ i ∧ Plays ts' q'.2 (xs.drop i) ∧ M ++ mist i (q' :: r') ts' q'.2 (xs.drop i) = mist 0 (q :: r) ts q.2 xs) ?_
  walk_at "fw"
  have plen := plays_len hp
  have htl := gx.tl
  refine ⟨by omega, ?_⟩
  walk_at "fw"
  refine ⟨⟨rfl, q, r, ts, [], none, none, rfl, rfl, gx, Nat.le_refl 0, hp, rfl⟩, fun i x G' O' hi hP => ?_, fun G' O' hP => ?_⟩
  · obtain ⟨_, q', r', ts', M, g3, g4, rfl, rfl, gx', hM, hp', hm⟩ := hP
    rw [enum_strs, List.getElem?_map] at hi
    obtain ⟨⟨y, n⟩, hz, rfl⟩ := Option.map_eq_some_iff.mp hi
    rw [List.getElem?_zipIdx] at hz
    obtain ⟨y', hy, e⟩ := Option.map_eq_some_iff.mp hz
    injection e with e1 e2
    subst e1 e2
    rw [Nat.zero_add]
    have hil := (List.getElem?_eq_some_iff.mp hy).1
    have ed : xs.drop i = y' :: xs.drop (i + 1) := by rw [List.drop_eq_getElem_cons hil, (List.getElem?_eq_some_iff.mp hy).2]
    rw [ed] at hp' hm
    cases ts' with
    | nil => exact hp'.elim
    | cons t ts' =>
      obtain ⟨hy', hp2⟩ := hp'
      walk_at "fw"
      have g2 := gx'.after (gx'.all hy')
      refine ⟨gx', hy', _, rfl, fun h => ?_, fun h => ?_⟩
      · have hne : ¬ resA (q' :: r') ts' q'.2 y' = outc (q' :: r') (t :: ts') q'.2 := of_decide_eq_false (by simpa using h)
        walk_at "fw"
        refine ⟨szOf (by rw [List.length_map]; omega), ?_⟩
        walk_at "fw"
        refine ⟨rfl, ?_⟩
        walk_at "fw"
        refine ⟨gx', gx'.all hy', rfl, (q'.1, q'.2.filter fun s => decide (s ∉ [y'])), cut [y'] r', ts', M ++ [i], _, _, rfl, by rw [List.map_append]; rfl, g2, by rw [List.length_append]; exact Nat.succ_le_succ hM, hp2, ?_⟩
        rw [← hm, List.append_assoc]
        show _ = M ++ ((if resA (q' :: r') ts' q'.2 y' = outc (q' :: r') (t :: ts') q'.2 then [] else [i]) ++ _)
        rw [if_neg hne]; rfl
      · have heq : resA (q' :: r') ts' q'.2 y' = outc (q' :: r') (t :: ts') q'.2 := of_decide_eq_true (by simpa using h)
        walk_at "fw"
        refine ⟨rfl, ?_⟩
        walk_at "fw"
        refine ⟨gx', gx'.all hy', rfl, (q'.1, q'.2.filter fun s => decide (s ∉ [y'])), cut [y'] r', ts', M, _, _, rfl, rfl, g2, Nat.le_succ_of_le hM, hp2, ?_⟩
        rw [← hm]
        show _ = M ++ ((if resA (q' :: r') ts' q'.2 y' = outc (q' :: r') (t :: ts') q'.2 then [] else [i]) ++ _)
        rw [if_pos heq]; rfl
  · obtain ⟨_, q', r', ts', M, g3, g4, rfl, rfl, gx', hM, hp', hm⟩ := hP
    refine dsf_own 0 rfl ?_
    have ed : xs.drop (enumD (xs.map D.str)).length = [] := List.drop_eq_nil_of_le (by rw [enum_strs, List.length_map, List.length_zipIdx]; exact Nat.le_refl _)
    rw [ed, mist_nil, List.append_nil] at hm
    rw [hm]; exact hk
end
end

set_option maxHeartbeats 4000000
/-! The law's own passes. -/

section

theorem atI_lastB {α : Type} (xs : List α) (x : α) : atI (xs ++ [x]) (-1) = some x := by
  unfold atI ixN
  rw [List.length_append, List.length_singleton, if_neg (by omega), if_pos (by omega)]
  show (xs ++ [x])[(-1 + ((xs.length + 1 : Nat) : Int)).toNat]? = _
  rw [show (-1 + ((xs.length + 1 : Nat) : Int)).toNat = xs.length from by omega, List.getElem?_append_right (Nat.le_refl _), Nat.sub_self]; rfl
section
variable {P : Program} {w : World} {K : PySem.W.Frag} {mg : Str → Option Value} {base : Heap}
def wt_law_worst : Wt := fun ds kk _ => ∃ R L : List Str, ds = [sl R, sl L] ∧ R.length ≤ 30 ∧ (∃ s ∈ R, s ∈ L) ∧ kk (.str (wst R L))
theorem ok_law_worst (T : TX K mg) : Ok P w K mg base 1 (He.ga K "_law_worst") ["_law_ranking", "_law_left"] (spD K wt_law_worst) := by
  obtain ⟨fd, F⟩ := T.def_ 59 (d := d_law_worst)
  refine ⟨⟨fd, fnD F sc_law_worst (fun _ _ _ h => by obtain ⟨R, L, rfl, h30, hex, hk⟩ := h; rfl) (fun cdv A outer s H E hr => ⟨_, (pss_one (ps_ret (pe_ix (z_ixL K) (pe_lc (own := [("_law_name", 2)]) rfl sc_law_worst.nd (z_plist K (pv 0)) (blkOk_by (own := [("_law_name", 2)]) (N := N_law_worst) (sc := defScope s_law_worst) (by decide +kernel)) (fun _ _ _ _ _ => (pg_name (i := 2) sc_law_worst.nd rfl (by first | exact Or.inl rfl | exact Or.inr rfl))) (fun _ _ _ _ _ => (pts_one (pt_cmpR (z_in K) (pv 2) (pv 1) (by rfl)))) (fun _ _ _ _ _ => (pv 2))) (pe_un un_neg pe_int) (fun _ _ => rfl)))), fun ds kk ke h => ?_⟩), FunD.bindsN F fun _ _ _ _ _ _ us hl => match us, hl with | [_, _], _ => rfl⟩, F.kp⟩
  obtain ⟨R, L, rfl, h30, hex, hk⟩ := h
  try dsimp only [cxK]
  have hlast : (R.filter fun s => decide (s ∈ L)) ++ [] = (R.filter fun s => decide (s ∈ L)).dropLast ++ [wst R L] := by
    rw [List.append_nil]
    have hne : (R.filter fun s => decide (s ∈ L)) ≠ [] := fun z => by
      obtain ⟨s, h1, h2⟩ := hex
      have hm : s ∈ R.filter fun s => decide (s ∈ L) := List.mem_filter.mpr ⟨h1, decide_eq_true h2⟩
      rw [z] at hm; cases hm
    have : wst R L = (R.filter fun s => decide (s ∈ L)).getLast hne := by
      unfold wst
      rw [List.getLast?_eq_some_getLast hne]; rfl
    rw [this, List.dropLast_concat_getLast]
  rw [List.append_nil] at hlast
  refine ds_ret (dt_op opd_ixL ?_)
  refine (df_lcF [2] D.str (fun s => decide (s ∈ L)) D.str (fun a b e => by cases e; exact ⟨rfl, rfl⟩) (by decide) (by walk_at "fno") ?_).dt
  walk_at "fw"
  refine ⟨szOf (by omega), fun t ht => ?_, ?_⟩
  · walk_at "fw"
    rw [inV_strs]
    refine ⟨fun h => ?_, fun h => ?_⟩
    · walk_at "fw"
      have h' : t ∈ L := by simpa using h
      rw [decide_eq_true h']; rfl
    · have h' : t ∉ L := by simpa using h
      rw [decide_eq_false h']; rfl
  · rw [hlast]
    walk_at "fw"
    refine ⟨_, _, .str (wst R L), rfl, rfl, ?_, hk⟩
    rw [List.map_append]
    exact atI_lastB _ _
def wt_law_pass : Wt := fun ds kk _ => ∃ (rs : List (Str × List Str)) (ts L us : List Str), ds = [ownD rs ts, sl L, sl us] ∧ (rs.map Prod.fst).Nodup ∧ L.length ≤ 30 ∧ L.Nodup ∧ us.length ≤ L.length ∧ (∀ u ∈ us, u ∈ rs.map Prod.fst) ∧ (∀ p ∈ rs, p.2.length ≤ 30 ∧ ∀ s ∈ L, s ∈ p.2) ∧ kk (sl (srt (bleft rs us.reverse L)))
theorem ok_law_pass (T : TX K mg) : Ok P w K mg base 2 (He.ga K "_law_pass") ["_law_own_here", "_law_left", "_law_turns"] (spD K wt_law_pass) := by
  obtain ⟨fd, F⟩ := T.def_ 60 (d := d_law_pass)
  have k_law_worst := ok_law_worst (P := P) (w := w) (base := base) T
  refine ⟨⟨fd, fnD F sc_law_pass (fun _ _ _ h => by obtain ⟨rs, ts, L, us, rfl, hnd, h30, nd, hul, huk, hrs, hk⟩ := h; rfl) (fun cdv A outer s H E hr => ⟨_, (pss_cons (ps_for (passes_of rfl) rfl (z_plist K (z_revL K (pv 2))) (pg_name (i := 3) sc_law_pass.nd rfl (by first | exact Or.inl rfl | exact Or.inr rfl)) (pss_cons (ps_set (i := 4) sc_law_pass.nd rfl (by first | exact Or.inl rfl | exact Or.inr rfl) (q_call k_law_worst hr (T.glo 83) (pa_cons (q_dget hr (pe_ix (z_ixL K) (pv 0) pe_int (fun _ _ => rfl)) (pv 3) (fun _ _ => rfl)) (pa_cons (pv 1) pa_nil)))) (pss_one (ps_setLc (i := 1) (own := [("_law_name", 5)]) rfl sc_law_pass.nd rfl rfl (sw_true rfl rfl rfl (by decide +kernel)) (z_plist K (pv 1)) (blkOk_by (own := [("_law_name", 5)]) (N := N_law_pass) (sc := defScope s_law_pass) (by decide +kernel)) (fun _ _ _ _ _ => (pg_name (i := 5) sc_law_pass.nd rfl (by first | exact Or.inl rfl | exact Or.inr rfl))) (fun _ _ _ _ _ => (pts_one (pt_cmpR op_ne (pv 5) (pv 4) (nomark _)))) (fun _ _ _ _ _ => (pv 5)))))) (pss_one (ps_ret (pe_callB (z_sortedS K) (by rfl) (T.free 6) (by decide +kernel) (pa_cons (pv 1) pa_nil))))), fun ds kk ke h => ?_⟩), FunD.bindsN F fun _ _ _ _ _ _ us hl => match us, hl with | [_, _, _], _ => rfl⟩, F.kp⟩
  obtain ⟨rs, ts, L, us, rfl, hnd, h30, nd, hul, huk, hrs, hk⟩ := h
  try dsimp only [cxK]
  walk_at "fw"
  refine ds_for [3] (fun xs i G' O' => xs = us.reverse.map D.str ∧ O' = [] ∧ ∃ g3 g4 g5 : Option D, G' = [some (ownD rs ts), some (sl (bleft rs (us.reverse.take i) L)), some (sl us), g3, g4, g5]) ?_
  walk_at "fw"
  refine ⟨⟨by rw [List.map_reverse], rfl, _, _, _, rfl⟩, fun i x G' O' hi hP => ?_, fun G' O' hP => ?_⟩
  · obtain ⟨hxs, rfl, g3, g4, g5, rfl⟩ := hP
    rw [hxs] at hi
    obtain ⟨t, ht, rfl⟩ := get_strs2 hi
    have hil := (List.getElem?_eq_some_iff.mp ht).1
    rw [List.length_reverse] at hil
    have htm : t ∈ rs.map Prod.fst := huk t (List.mem_reverse.mp (List.mem_of_getElem? ht))
    have hlm := lk_mem htm
    have etk : us.reverse.take (i + 1) = us.reverse.take i ++ [t] := by rw [List.take_succ, ht]; rfl
    rw [etk, bleft_snoc]
    have hlen := bleft_len (rs := rs) (us := us.reverse.take i) (left := L) (fun u hu s hs => (hrs _ (lk_mem (huk u (List.mem_reverse.mp (List.mem_of_mem_take hu))))).2 s hs) nd (by rw [List.length_take, List.length_reverse]; omega)
    rw [List.length_take, List.length_reverse] at hlen
    have hsub : ∀ s ∈ bleft rs (us.reverse.take i) L, s ∈ L := fun s hs => bleft_sub hs
    generalize bleft rs (us.reverse.take i) L = M at *
    obtain ⟨y, ys, ey⟩ := List.exists_cons_of_ne_nil (l := M) fun z => by rw [z] at hlen; simp at hlen; omega
    have hyM : y ∈ M := by rw [ey]; exact List.mem_cons_self
    walk_at "fw"
    refine ⟨_, .inr t, _, rfl, rfl, getD_own hnd htm, ?_⟩
    walk_at "fw"
    refine ⟨(hrs _ hlm).1, ⟨y, (hrs _ hlm).2 y (hsub y hyM), hyM⟩, ?_⟩
    generalize wst (lk rs t) M = x at *
    refine ds_asg (by walk_at "fno") (df_lcF [5] D.str (fun s => decide (s ≠ x)) D.str (fun a b e => by cases e; exact ⟨rfl, rfl⟩) (by decide) (by walk_at "fno") ?_).dt
    walk_at "fw"
    refine ⟨szOf (by omega), fun s hs => ?_, ?_⟩
    · walk_at "fw"
      have e0 : decide ((D.str s).v = (D.str x).v) = decide (s = x) := by
        rw [decide_eq_decide]; exact ⟨fun e => V.str.inj e, fun e => by rw [e]⟩
      rw [e0]
      refine ⟨fun h => ?_, fun h => ?_⟩
      · walk_at "fw"
        have h' : s ≠ x := by simpa using h
        rw [decide_eq_true h']; rfl
      · have h' : s = x := by simpa using h
        rw [decide_eq_false (fun z => z h')]; rfl
    · walk_at "fw"
      exact ⟨by rw [List.map_reverse], rfl, _, _, _, rfl⟩
  · obtain ⟨hxs, rfl, g3, g4, g5, rfl⟩ := hP
    rw [hxs, List.length_map, List.take_length]
    walk_at "fw"
    have bn : (bleft rs us.reverse L).Nodup := bleft_nd nd
    have bl := bleft_len (rs := rs) (us := us.reverse) (left := L) (fun u hu s hs => (hrs _ (lk_mem (huk u (List.mem_reverse.mp hu)))).2 s hs) nd (by rw [List.length_reverse]; omega)
    refine ⟨by omega, fun ys hp hs => ?_⟩
    rw [ts_srt bn (fun x => Iff.rfl) hp hs]
    exact hk
end
end

set_option maxHeartbeats 4000000
/-! Plain: outcomes of games after strikes; optimal strikes. -/

section

theorem outc_congr {rs : List (Str × List Str)} {ts A B : List Str} (h : ∀ s, s ∈ A ↔ s ∈ B) : outc rs ts A = outc rs ts B := srt_congr fun s => by rw [bleft_mem, bleft_mem, bpass_congr rs _ h, h]
theorem lk_cut (c : List Str) (t : Str) : ∀ rs : List (Str × List Str), lk (cut c rs) t = (lk rs t).filter fun s => decide (s ∉ c)
  | [] => rfl
  | q :: r => by
    have ih := lk_cut c t r
    unfold lk at *
    rw [cut_cons, List.lookup_cons, List.lookup_cons]
    cases t == q.1 with
    | true => rfl
    | false => exact ih
theorem wst_cut {R c left : List Str} (h : ∀ s ∈ left, s ∉ c) : wst (R.filter fun s => decide (s ∉ c)) left = wst R left := by
  unfold wst
  rw [List.filter_filter]
  have e : (R.filter fun s => decide (s ∈ left) && decide (s ∉ c)) = R.filter fun s => decide (s ∈ left) := List.filter_congr fun s _ => by
    by_cases hs : s ∈ left
    · rw [decide_eq_true hs, decide_eq_true (h s hs)]; rfl
    · rw [decide_eq_false hs]; rfl
  rw [e]
theorem bleft_cut {c : List Str} {rs : List (Str × List Str)} : ∀ {us left : List Str}, (∀ s ∈ left, s ∉ c) → bleft (cut c rs) us left = bleft rs us left
  | [], _, _ => rfl
  | t :: us, left, h => by
    show bleft (cut c rs) us (left.filter fun s => decide (s ≠ wst (lk (cut c rs) t) left)) = bleft rs us (left.filter fun s => decide (s ≠ wst (lk rs t) left))
    rw [lk_cut, wst_cut h]
    exact bleft_cut fun s hs => h s (List.mem_filter.mp hs).1
theorem lk_not {rs : List (Str × List Str)} {t : Str} (h : t ∉ rs.map Prod.fst) : lk rs t = [] := by
  have e : rs.lookup t = none := by
    rw [List.lookup_eq_none_iff]
    intro p hp
    simp only [bne_iff_ne, ne_eq, beq_eq_false_iff_ne]
    intro z
    exact h (by rw [z]; exact List.mem_map_of_mem (f := Prod.fst) hp)
  unfold lk; rw [e]; rfl
theorem lk_tab (f : Str → List Str) (t : Str) : ∀ ks : List Str, lk (ks.map fun p => (p, f p)) t = if t ∈ ks then f t else []
  | [] => rfl
  | k :: ks => by
    have ih := lk_tab f t ks
    unfold lk at *
    rw [List.map_cons, List.lookup_cons]
    by_cases h : t = k
    · subst h
      rw [beq_self_eq_true, if_pos List.mem_cons_self]; rfl
    · have hb : (t == k) = false := by rw [beq_eq_false_iff_ne]; exact h
      rw [hb]
      show (List.lookup t _).getD [] = _
      rw [ih]
      by_cases hk : t ∈ ks
      · rw [if_pos hk, if_pos (List.mem_cons_of_mem _ hk)]
      · rw [if_neg hk, if_neg fun z => (List.mem_cons.mp z).elim h hk]
theorem lk_srs (rs : List (Str × List Str)) (t : Str) : lk (srs rs) t = lk rs t := by
  unfold srs
  rw [lk_tab]
  by_cases h : t ∈ rs.map Prod.fst
  · rw [if_pos (srt_mem.mpr h)]
  · rw [if_neg fun z => h (srt_mem.mp z), lk_not h]
theorem bleft_lk {rs rs' : List (Str × List Str)} (h : ∀ t, lk rs t = lk rs' t) : ∀ {us left : List Str}, bleft rs us left = bleft rs' us left
  | [], _ => rfl
  | t :: us, left => by
    show bleft rs us (left.filter fun s => decide (s ≠ wst (lk rs t) left)) = bleft rs' us (left.filter fun s => decide (s ≠ wst (lk rs' t) left))
    rw [h t]
    exact bleft_lk h
theorem outc_cut {c : List Str} {rs : List (Str × List Str)} {ts A : List Str} (h : ∀ s ∈ A, s ∉ c) : outc (cut c rs) ts A = outc rs ts A := by
  unfold outc; rw [bleft_cut h]
theorem outc_srs {rs : List (Str × List Str)} {ts A : List Str} : outc (srs rs) ts A = outc rs ts A := by
  unfold outc; rw [bleft_lk (lk_srs rs)]
/-! ### who survives may be struck before -/
theorem ne_filter (A : List Str) (x : Str) : (A.filter fun s => decide (s ∉ [x])) = A.filter fun s => decide (s ≠ x) := List.filter_congr fun s _ => by rw [decide_eq_decide]; simp
theorem wst_drop {R left : List Str} {x : Str} (hex : ∃ s ∈ R, s ∈ left) (hw : wst R left ≠ x) : wst R (left.filter fun s => decide (s ≠ x)) = wst R left := by
  have hne : (R.filter fun s => decide (s ∈ left)) ≠ [] := fun z => by
    obtain ⟨s, h1, h2⟩ := hex
    have hm : s ∈ R.filter fun s => decide (s ∈ left) := List.mem_filter.mpr ⟨h1, decide_eq_true h2⟩
    rw [z] at hm; cases hm
  have ew : wst R left = (R.filter fun s => decide (s ∈ left)).getLast hne := by
    unfold wst
    rw [List.getLast?_eq_some_getLast hne]; rfl
  have ed : (R.filter fun s => decide (s ∈ left.filter fun s => decide (s ≠ x))) = (R.filter fun s => decide (s ∈ left)).filter fun s => decide (s ≠ x) := by
    rw [List.filter_filter]
    exact List.filter_congr fun s _ => by
      rw [Bool.eq_iff_iff, Bool.and_eq_true, decide_eq_true_eq, decide_eq_true_eq, decide_eq_true_eq, List.mem_filter, decide_eq_true_eq]
      exact And.comm
  rw [ew] at hw ⊢
  unfold wst
  rw [ed]
  generalize (R.filter fun s => decide (s ∈ left)) = F at *
  obtain ⟨I, l, hF⟩ : ∃ I l, F = I ++ [l] := ⟨F.dropLast, F.getLast hne, (List.dropLast_concat_getLast hne).symm⟩
  subst hF
  have el : (I ++ [l]).getLast hne = l := by simp
  rw [el] at hw ⊢
  have e1 : ([l].filter fun s => decide (s ≠ x)) = [l] := by
    rw [List.filter_cons_of_pos (by rw [decide_eq_true_eq]; exact hw)]; rfl
  rw [List.filter_append, e1, List.getLast?_concat]; rfl
theorem bleft_drop {rs : List (Str × List Str)} {x : Str} : ∀ {us left : List Str}, (∀ t ∈ us, ∀ s ∈ left, s ∈ lk rs t) → x ∈ bleft rs us left → bleft rs us (left.filter fun s => decide (s ≠ x)) = (bleft rs us left).filter fun s => decide (s ≠ x)
  | [], _, _, _ => rfl
  | t :: us, left, h, hx => by
    have hx' : x ∈ left.filter fun s => decide (s ≠ wst (lk rs t) left) := bleft_sub (us := us) hx
    obtain ⟨hxl, hxw⟩ := List.mem_filter.mp hx'
    rw [decide_eq_true_eq] at hxw
    have ew := wst_drop (R := lk rs t) (left := left) (x := x) ⟨x, h t List.mem_cons_self x hxl, hxl⟩ (fun z => hxw z.symm)
    show bleft rs us ((left.filter fun s => decide (s ≠ x)).filter fun s => decide (s ≠ wst (lk rs t) (left.filter fun s => decide (s ≠ x)))) = (bleft rs us (left.filter fun s => decide (s ≠ wst (lk rs t) left))).filter fun s => decide (s ≠ x)
    rw [ew, ← bleft_drop (us := us) (fun u hu s hs => h u (List.mem_cons_of_mem _ hu) s (List.mem_filter.mp hs).1) hx, List.filter_filter, List.filter_filter]
    congr 1
    exact List.filter_congr fun s _ => Bool.and_comm _ _
/-- some strike is optimal -/
theorem opt_ex {q : Str × List Str} {r : List (Str × List Str)} {t : Str} {ts : List Str} (gx : GX (q :: r) (t :: ts)) : ∃ x ∈ q.2, resA (q :: r) ts q.2 x = outc (q :: r) (t :: ts) q.2 := by
  have hq : q ∈ q :: r := List.mem_cons_self
  have hl := gx.ln q hq
  rw [List.length_cons] at hl
  have hmem : ∀ u ∈ t :: ts, ∀ s ∈ q.2, s ∈ lk (q :: r) u := fun u hu s hs => (gx.mem hq (lk_mem (gx.tk u hu))).mp hs
  have bl := bleft_len (rs := q :: r) (us := ts.reverse) (left := q.2) (fun u hu => hmem u (List.mem_cons_of_mem _ (List.mem_reverse.mp hu))) (gx.nds q hq) (by rw [List.length_reverse]; omega)
  rw [List.length_reverse] at bl
  have hsub : ∀ s ∈ bleft (q :: r) ts.reverse q.2, s ∈ q.2 := fun s hs => bleft_sub hs
  obtain ⟨y, ys, ey⟩ := List.exists_cons_of_ne_nil (l := bleft (q :: r) ts.reverse q.2) fun z => by rw [z] at bl; simp at bl; omega
  have hy : y ∈ bleft (q :: r) ts.reverse q.2 := by rw [ey]; exact List.mem_cons_self
  have hw := wst_mem (R := lk (q :: r) t) (left := bleft (q :: r) ts.reverse q.2) ⟨y, hmem t List.mem_cons_self y (hsub y hy), hy⟩
  refine ⟨wst (lk (q :: r) t) (bleft (q :: r) ts.reverse q.2), hsub _ hw.2, ?_⟩
  unfold resA
  rw [outc_cut fun s hs => of_decide_eq_true (List.mem_filter.mp hs).2, ne_filter]
  unfold outc
  rw [bleft_drop (fun u hu => hmem u (List.mem_cons_of_mem _ (List.mem_reverse.mp hu))) hw.2, List.reverse_cons, bleft_snoc]
theorem optS_mem {rs : List (Str × List Str)} {t : Str} {ts A : List Str} {x : Str} : x ∈ optS rs t ts A ↔ x ∈ A ∧ resA rs ts A x = outc rs (t :: ts) A := by
  unfold optS
  rw [List.mem_filter, srt_mem, decide_eq_true_eq]
theorem optS_ne {q : Str × List Str} {r : List (Str × List Str)} {t : Str} {ts : List Str} (gx : GX (q :: r) (t :: ts)) : ∃ s, (optS (q :: r) t ts q.2)[0]? = some s := by
  obtain ⟨x, h1, h2⟩ := opt_ex gx
  have hm := optS_mem.mpr ⟨h1, h2⟩
  exact ⟨_, List.getElem?_eq_getElem (List.length_pos_of_mem hm)⟩
/-- the optimal strikes by the law -/
noncomputable def lopt (rs : List (Str × List Str)) (t : Str) (ts L : List Str) : List Str := L.filter fun x => decide (outc rs ts (L.filter fun s => decide (s ≠ x)) = outc rs (t :: ts) L)
theorem srt_filter (A : List Str) (p : Str → Bool) : srt (A.filter p) = (srt A).filter p := srt_eq ⟨(srt_nodup A).filter _, fun x => by rw [List.mem_filter, srt_mem, List.mem_filter], sortedS_of_pairwise _ ((sorted_pw (srt_sorted A)).filter _)⟩
theorem optS_lopt {c : List Str} {rs : List (Str × List Str)} {t : Str} {ts A L : List Str} (hL : L = srt A) (hc : ∀ s ∈ A, s ∉ c) : optS (cut c (srs rs)) t ts A = lopt rs t ts L := by
  unfold optS lopt
  rw [hL]
  refine List.filter_congr fun x hx => ?_
  unfold resA
  have h1 : ∀ s ∈ A.filter (fun s => decide (s ∉ [x])), s ∉ c ++ [x] := fun s hs z => by
    obtain ⟨h1, h2⟩ := List.mem_filter.mp hs
    rcases List.mem_append.mp z with z | z
    · exact hc s h1 z
    · exact of_decide_eq_true h2 z
  rw [cut_cut, outc_cut h1, outc_cut hc, outc_srs, outc_srs, ne_filter, decide_eq_decide,
    outc_congr (A := A.filter fun s => decide (s ≠ x)) (B := (srt A).filter fun s => decide (s ≠ x)) fun s => by rw [List.mem_filter, List.mem_filter, srt_mem], outc_congr (A := A) (B := srt A) fun s => srt_mem.symm]
/-! ### games along strikes -/
theorem gx_plays : ∀ {xs : List Str} {q : Str × List Str} {r : List (Str × List Str)} {ts : List Str}, GX (q :: r) ts → Plays ts q.2 xs → GX (cut xs (q :: r)) (ts.drop xs.length)
  | [], q, r, ts, gx, _ => by rw [cut_nil]; exact gx
  | x :: xs, q, r, [], gx, h => h.elim
  | x :: xs, q, r, t :: ts, gx, h => by
    have g2 := gx.after (gx.all h.1)
    rw [cut_cons] at g2
    have := gx_plays g2 h.2
    rw [← cut_cons, cut_cut] at this
    exact this
theorem plays_snoc {y : Str} : ∀ {xs ts A : List Str}, Plays ts A xs → xs.length < ts.length → y ∈ A → y ∉ xs → Plays ts A (xs ++ [y])
  | [], [], _, _, h, _, _ => by cases h
  | [], t :: ts, A, _, _, hy, _ => by cases ts <;> exact ⟨hy, trivial⟩
  | x :: xs, [], _, h, _, _, _ => h.elim
  | x :: xs, t :: ts, A, h, hl, hy, hn => ⟨h.1, plays_snoc h.2 (Nat.lt_of_succ_lt_succ hl) (List.mem_filter.mpr ⟨hy, decide_eq_true fun z => hn (by rw [List.mem_singleton.mp z]; exact List.mem_cons_self)⟩) fun z => hn (List.mem_cons_of_mem _ z)⟩
theorem plays_sub : ∀ {xs ts A : List Str}, Plays ts A xs → ∀ s ∈ xs, s ∈ A
  | [], _, _, _, s, hs => by cases hs
  | x :: xs, [], _, h, _, _ => h.elim
  | x :: xs, t :: ts, A, h, s, hs => by
    rcases List.mem_cons.mp hs with rfl | hs
    · exact h.1
    · exact (List.mem_filter.mp (plays_sub h.2 s hs)).1
theorem filter_cons' (A : List Str) (x : Str) (xs : List Str) : ((A.filter fun s => decide (s ∉ [x])).filter fun s => decide (s ∉ xs)) = A.filter fun s => decide (s ∉ x :: xs) := by
  rw [List.filter_filter]
  refine List.filter_congr fun s _ => ?_
  rw [Bool.eq_iff_iff, Bool.and_eq_true, decide_eq_true_eq, decide_eq_true_eq, decide_eq_true_eq, List.mem_singleton, List.mem_cons, not_or]
  exact And.comm
theorem plays_head : ∀ {xs ts A : List Str}, Plays ts A xs → A.Nodup → (A.filter fun s => decide (s ∉ xs)).length + xs.length = A.length
  | [], _, A, _, _ => by rw [List.filter_eq_self.mpr (by intro s _; simp)]; rfl
  | x :: xs, [], _, h, _ => h.elim
  | x :: xs, t :: ts, A, h, nd => by
    have ih := plays_head h.2 (nd.filter _)
    have e := filter_ne nd h.1
    rw [filter_cons'] at ih
    rw [List.length_cons]; omega
theorem mist_snoc {y : Str} {t : Str} {us : List Str} : ∀ {n : Nat} {rs : List (Str × List Str)} {xs ts A : List Str}, Plays ts A xs → ts.drop xs.length = t :: us →
    mist n rs ts A (xs ++ [y]) = mist n rs ts A xs ++ (if resA (cut xs rs) us (A.filter fun s => decide (s ∉ xs)) y = outc (cut xs rs) (t :: us) (A.filter fun s => decide (s ∉ xs)) then [] else [n + xs.length])
  | n, rs, [], ts, A, _, h => by
    have h' : ts = t :: us := h
    subst h'
    rw [List.filter_eq_self.mpr (by intro s _; simp), cut_nil, mist_nil, List.nil_append, List.nil_append]
    show (_ ++ mist _ _ us _ []) = _
    rw [mist_nil, List.append_nil]; rfl
  | n, rs, x :: xs, [], A, h, _ => h.elim
  | n, rs, x :: xs, t' :: ts, A, h, e => by
    have ih := mist_snoc (y := y) (n := n + 1) (rs := cut [x] rs) h.2 (show ts.drop xs.length = t :: us from e)
    show (_ ++ mist (n + 1) (cut [x] rs) ts _ (xs ++ [y])) = (_ ++ mist (n + 1) (cut [x] rs) ts _ xs) ++ _
    rw [ih, filter_cons', cut_cut, List.append_assoc, List.length_cons, show n + 1 + xs.length = n + (xs.length + 1) from by omega]; rfl
theorem mist_lt : ∀ {n : Nat} {rs : List (Str × List Str)} {xs ts A : List Str}, ∀ m ∈ mist n rs ts A xs, n ≤ m ∧ m < n + xs.length
  | n, rs, [], ts, A, m, h => by rw [mist_nil] at h; cases h
  | n, rs, x :: xs, [], A, m, h => by cases h
  | n, rs, x :: xs, t :: ts, A, m, h => by
    have h' : m ∈ (if resA rs ts A x = outc rs (t :: ts) A then [] else [n]) ++ mist (n + 1) (cut [x] rs) ts (A.filter fun s => decide (s ∉ [x])) xs := h
    rw [List.length_cons]
    rcases List.mem_append.mp h' with h1 | h1
    · split at h1
      · cases h1
      · rw [List.mem_singleton.mp h1]; omega
    · have := mist_lt m h1
      omega
theorem mist_len : ∀ {n : Nat} {rs : List (Str × List Str)} {xs ts A : List Str}, (mist n rs ts A xs).length ≤ xs.length
  | n, rs, [], ts, A => by rw [mist_nil]; exact Nat.le_refl 0
  | n, rs, x :: xs, [], A => Nat.zero_le _
  | n, rs, x :: xs, t :: ts, A => by
    have ih := mist_len (n := n + 1) (rs := cut [x] rs) (xs := xs) (ts := ts) (A := A.filter fun s => decide (s ∉ [x]))
    have h2 : (if resA rs ts A x = outc rs (t :: ts) A then [] else [n]).length ≤ 1 := by split <;> simp
    show ((if resA rs ts A x = outc rs (t :: ts) A then [] else [n]) ++ mist (n + 1) (cut [x] rs) ts (A.filter fun s => decide (s ∉ [x])) xs).length ≤ _
    rw [List.length_append, List.length_cons]
    omega
end

set_option maxHeartbeats 4000000
/-! The law's optimal strikes; hints. -/

section

theorem OwnOk.up {rs : List (Str × List Str)} {ts ns : List Str} {m n : Nat} (ok : OwnOk rs ts ns m) (h : m ≤ n) : OwnOk rs ts ns n := ⟨ok.ne, ok.len, ok.nd, ok.name, ok.perm, ok.nsd, ok.nsn, Nat.le_trans ok.nsl h, ok.tl, ok.tk⟩
theorem plays_congr : ∀ {xs ts A B : List Str}, (∀ s, s ∈ A ↔ s ∈ B) → Plays ts A xs → Plays ts B xs
  | [], ts, _, _, _, _ => by cases ts <;> trivial
  | x :: xs, [], _, _, _, h => h.elim
  | x :: xs, t :: ts, A, B, e, h => ⟨(e x).mp h.1, plays_congr (fun s => by rw [List.mem_filter, List.mem_filter, e]) h.2⟩
theorem cut_fromS {ss : List Str} (k : Nat) : cutD (ss.map D.str) (some (k : Int)) none = (ss.drop k).map D.str := by
  unfold cutD HT.sIx
  have h0 : ¬ ((k : Int) < 0) := by omega
  simp only [h0, if_false, Int.toNat_natCast, List.length_map]
  rcases Nat.le_total k ss.length with h | h
  · rw [Nat.min_eq_left h, ← List.map_drop, List.take_of_length_le (by rw [List.length_map, List.length_drop]; exact Nat.le_refl _)]
  · rw [Nat.min_eq_right h, List.drop_eq_nil_of_le (by rw [List.length_map]; exact Nat.le_refl _), List.drop_eq_nil_of_le h]; simp
theorem dec_str (a b : Str) : decide ((D.str a).v = (D.str b).v) = decide (a = b) := by
  rw [decide_eq_decide]; exact ⟨fun e => V.str.inj e, fun e => by rw [e]⟩
/-- the game that the law lays by -/
theorem OwnOk.gx {rs : List (Str × List Str)} {ts ns : List Str} (ok : OwnOk rs ts ns 30) : GX (srs rs) ts := by
  have rk := ok.rks
  have hm : ∀ p ∈ srs rs, p ∈ rs := fun p hp => srs_mem hp
  refine ⟨⟨srs_ne rk, ?_, ?_, fun p hp => rk.name p (hm p hp), fun p hp => rk.le p (hm p hp), fun p hp => rk.names p (hm p hp), fun p hp q hq => rk.same p (hm p hp) q (hm q hq)⟩, srs_sk rs, fun p hp => ok.nd2 (hm p hp), ?_, fun p hp => ?_, fun t ht => ?_⟩
  · have e := congrArg List.length (srs_keys rs)
    rw [List.length_map, srt_len rk.nd, List.length_map] at e
    rw [e]; exact rk.len
  · rw [srs_keys]; exact srt_nodup _
  · have := ok.tl; have := ok.nsl; omega
  · rw [ok.ln (hm p hp)]; exact ok.tl
  · rw [srs_keys]; exact srt_mem.mpr (ok.tk t ht)
section
variable {P : Program} {w : World} {K : PySem.W.Frag} {mg : Str → Option Value} {base : Heap}
def wt_law_optimal : Wt := fun ds kk _ => ∃ (rs : List (Str × List Str)) (ts ns xs : List Str) (t : Str) (us : List Str), ds = [ownD rs ts, sl xs] ∧ OwnOk rs ts ns 30 ∧ Plays ts ns xs ∧ ts.drop xs.length = t :: us ∧ kk (sl (lopt rs t us ((srt ns).filter fun s => decide (s ∉ xs))))
theorem ok_law_optimal (T : TX K mg) : Ok P w K mg base 3 (He.ga K "_law_optimal") ["_law_own_here", "_law_done"] (spD K wt_law_optimal) := by
  obtain ⟨fd, F⟩ := T.def_ 61 (d := d_law_optimal)
  have k_law_all := ok_law_all (P := P) (w := w) (base := base) T
  have k_law_pass := ok_law_pass (P := P) (w := w) (base := base) T
  refine ⟨⟨fd, fnD F sc_law_optimal (fun _ _ _ h => by obtain ⟨rs, ts, ns, xs, t, us, rfl, ok, hp, hd, hk⟩ := h; rfl) (fun cdv A outer s H E hr => ⟨_, (pss_cons (ps_asg (pe_tup (pa_cons (pe_lc (own := [("_law_name", 4)]) rfl sc_law_optimal.nd (z_plist K (q_call k_law_all hr (T.glo 84) (pa_cons (pv 0) pa_nil))) (blkOk_by (own := [("_law_name", 4)]) (N := N_law_optimal) (sc := defScope s_law_optimal) (by decide +kernel)) (fun _ _ _ _ _ => (pg_name (i := 4) sc_law_optimal.nd rfl (by first | exact Or.inl rfl | exact Or.inr rfl))) (fun _ _ _ _ _ => (pts_one (pt_cmpR (z_nin K) (pv 4) (pv 1) (by rfl)))) (fun _ _ _ _ _ => (pv 4))) (pa_cons (pe_slice (z_slL K) (pe_ix (z_ixL K) (pv 0) pe_int (fun _ _ => rfl)) (po_some (pe_callB (z_len K) (by rfl) (T.free 2) boot_len (pa_cons (pv 1) pa_nil))) po_none) pa_nil))) (q_tup (n := 2) K rfl rfl (pgs_cons (pg_name (i := 2) sc_law_optimal.nd rfl (by first | exact Or.inl rfl | exact Or.inr rfl)) (pgs_cons (pg_name (i := 3) sc_law_optimal.nd rfl (by first | exact Or.inl rfl | exact Or.inr rfl)) pgs_nil)))) (pss_cons (ps_set (i := 5) sc_law_optimal.nd rfl (by first | exact Or.inl rfl | exact Or.inr rfl) (q_call k_law_pass hr (T.glo 85) (pa_cons (pv 0) (pa_cons (pv 2) (pa_cons (pv 3) pa_nil))))) (pss_one (ps_ret (pe_lc (own := [("_law_name", 4)]) rfl sc_law_optimal.nd (z_plist K (pv 2)) (blkOk_by (own := [("_law_name", 4)]) (N := N_law_optimal) (sc := defScope s_law_optimal) (by decide +kernel)) (fun _ _ _ _ _ => (pg_name (i := 4) sc_law_optimal.nd rfl (by first | exact Or.inl rfl | exact Or.inr rfl))) (fun _ _ _ _ _ => (pts_one (pt_cmpR (z_eqD K hr) (q_call k_law_pass hr (T.glo 85) (pa_cons (pv 0) (pa_cons (pe_lc (own := [("_law_one", 6)]) rfl sc_law_optimal.nd (z_plist K (pv 2)) (blkOk_by (own := [("_law_one", 6)]) (N := N_law_optimal) (sc := relS _ (defScope s_law_optimal)) (by decide +kernel)) (fun _ _ _ _ _ => (pg_name (i := 6) sc_law_optimal.nd rfl (by first | exact Or.inl rfl | exact Or.inr rfl))) (fun _ _ _ _ _ => (pts_one (pt_cmpR op_ne (pv 6) (pv 4) (nomark _)))) (fun _ _ _ _ _ => (pv 6))) (pa_cons (pe_slice (z_slL K) (pv 3) (po_some pe_int) po_none) pa_nil)))) (pv 5) (nomark _)))) (fun _ _ _ _ _ => (pv 4))))))), fun ds kk ke h => ?_⟩), FunD.bindsN F fun _ _ _ _ _ _ us hl => match us, hl with | [_, _], _ => rfl⟩, F.kp⟩
  obtain ⟨rs, ts, ns, xs, t, us, rfl, ok, hp, hd, hk⟩ := h
  try dsimp only [cxK]
  walk_at "fw"
  have hfl : ((srt ns).filter fun s => decide (s ∉ xs)).length + xs.length = ns.length := by
    rw [plays_head (plays_congr (fun s => srt_mem.symm) hp) (srt_nodup ns), srt_len ok.nsd]
  have hdl := congrArg List.length hd
  rw [List.length_drop, List.length_cons] at hdl
  have htl := ok.tl
  have hnl := ok.nsl
  have hrs : ∀ p ∈ rs, p.2.length ≤ 30 ∧ ∀ s ∈ ns, s ∈ p.2 := fun p hp => ⟨by rw [ok.ln hp]; exact hnl, fun s hs => (ok.perm p hp).mem_iff.mpr hs⟩
  have hsub : ∀ s ∈ (srt ns).filter (fun s => decide (s ∉ xs)), s ∈ ns := fun s hs => srt_mem.mp (List.mem_filter.mp hs).1
  have hLnd : ((srt ns).filter fun s => decide (s ∉ xs)).Nodup := (srt_nodup ns).filter _
  have htk : ∀ u ∈ t :: us, u ∈ rs.map Prod.fst := fun u hu => ok.tk u (List.mem_of_mem_drop (by rw [hd]; exact hu))
  refine (df_lcF [4] D.str (fun s => decide (s ∉ xs)) D.str (fun a b e => by cases e; exact ⟨rfl, rfl⟩) (by decide) (by walk_at "fno") ?_).dt
  walk_at "fw"
  refine ⟨rs, ts, ns, rfl, ok, ?_⟩

  walk_at "fw"
  refine ⟨szOf (by rw [srt_len ok.nsd]; omega), fun s hs => ?_, ?_⟩
  · walk_at "fw"
    rw [inV_strs]
    refine ⟨fun h => ?_, fun h => ?_⟩
    · walk_at "fw"
      have h' : s ∉ xs := by simpa using h
      rw [decide_eq_true h']; rfl
    · have h' : s ∈ xs := by simpa using h
      rw [decide_eq_false (fun z => z h')]; rfl
  · generalize (srt ns).filter (fun s => decide (s ∉ xs)) = L at *
    walk_at "fw"
    rw [List.length_map, cut_fromS, hd]
    refine ⟨rs, ts, L, t :: us, rfl, ok.nd, by omega, hLnd, by rw [List.length_cons]; omega, htk, fun p hp => ⟨(hrs p hp).1, fun s hs => (hrs p hp).2 s (hsub s hs)⟩, ?_⟩
    refine ds_ret (df_lcF [4] D.str (fun x => decide (outc rs us (L.filter fun s => decide (s ≠ x)) = outc rs (t :: us) L)) D.str (fun a b e => by cases e; exact ⟨rfl, rfl⟩) (by decide) (by walk_at "fno") ?_).dt
    walk_at "fw"
    refine ⟨szOf (by omega), fun x hx => ?_, ?_⟩
    · walk_at "fw"
      refine (df_lcF [6] D.str (fun s => decide (s ≠ x)) D.str (fun a b e => by cases e; exact ⟨rfl, rfl⟩) (by decide) (by walk_at "fno") ?_).dt
      walk_at "fw"
      refine ⟨szOf (by omega), fun s hs => ?_, ?_⟩
      · walk_at "fw"
        rw [dec_str]
        refine ⟨fun h => ?_, fun h => ?_⟩
        · walk_at "fw"
          have h' : s ≠ x := by simpa using h
          rw [decide_eq_true h']; rfl
        · have h' : s = x := by simpa using h
          rw [decide_eq_false (fun z => z h')]; rfl
      · walk_at "fw"
        have hfx := filter_ne hLnd hx
        rw [ne_filter] at hfx
        rw [cut_tail]
        refine ⟨rs, ts, L.filter fun s => decide (s ≠ x), us, rfl, ok.nd, by omega, hLnd.filter _, by omega, fun u hu => htk u (List.mem_cons_of_mem _ hu), fun p hp => ⟨(hrs p hp).1, fun s hs => (hrs p hp).2 s (hsub s (List.mem_filter.mp hs).1)⟩, ?_⟩
        have nm : ∀ {ws A : List Str}, (∀ s ∈ A, s ∈ L) → ∀ s ∈ outc rs ws A, isName s = true := fun {ws A} hA s hs => ok.nsn s (hsub s (hA s (bleft_sub (srt_mem.mp hs))))
        walk_at "fw"
        refine ⟨_, _, pd_sl _, pd_sl _, shaped_sl (nm (ws := us) fun s hs => (List.mem_filter.mp hs).1), shaped_sl (nm (ws := t :: us) fun s hs => hs), ?_⟩
        rw [eqv_sl]
        refine ⟨_, rfl, fun h => ?_, fun h => ?_⟩
        · walk_at "fw"
          have h' : outc rs us (L.filter fun s => decide (s ≠ x)) = outc rs (t :: us) L := of_decide_eq_true h
          rw [decide_eq_true h']; rfl
        · have h' : ¬ outc rs us (L.filter fun s => decide (s ≠ x)) = outc rs (t :: us) L := of_decide_eq_false h
          rw [decide_eq_false h']; rfl
    · walk_at "fw"
      exact hk
/-- where a room stands after the strikes xs -/
noncomputable abbrev rmAt (rs : List (Str × List Str)) (ts xs us : List Str) : D := rm (gm (srs rs) ts) (gm (cut xs (srs rs)) (ts.drop xs.length)) xs us
theorem own_at_ {rs : List (Str × List Str)} {ts ns xs : List Str} (ok : OwnOk rs ts ns 30) (hp : Plays ts ns xs) : ∃ (q : Str × List Str) (r : List (Str × List Str)), srs rs = q :: r ∧ (∀ s, s ∈ q.2 ↔ s ∈ ns) ∧ q.2.Nodup ∧ q.2.length = ns.length ∧ Plays ts q.2 xs ∧
    GX (q :: r) ts ∧ GX (cut xs (q :: r)) (ts.drop xs.length) ∧ cut xs (q :: r) = (q.1, q.2.filter fun s => decide (s ∉ xs)) :: cut xs r := by
  have gx := ok.gx
  obtain ⟨q, r, e⟩ := List.exists_cons_of_ne_nil (srs_ne ok.rks)
  have hq : q ∈ rs := srs_mem (by rw [e]; exact List.mem_cons_self)
  have hm : ∀ s, s ∈ q.2 ↔ s ∈ ns := fun s => (ok.perm q hq).mem_iff
  rw [e] at gx
  have hp' : Plays ts q.2 xs := plays_congr (fun s => (hm s).symm) hp
  exact ⟨q, r, e, hm, ok.nd2 hq, ok.ln hq, hp', gx, gx_plays gx hp', cut_cons _ _ _⟩
/-- the optimal strikes there are the law's -/
theorem opt_at {rs : List (Str × List Str)} {ts ns xs : List Str} {q : Str × List Str} {r : List (Str × List Str)} {t : Str} {us : List Str} (e : srs rs = q :: r) (hm : ∀ s, s ∈ q.2 ↔ s ∈ ns) :
    optS (cut xs (q :: r)) t us (q.2.filter fun s => decide (s ∉ xs)) = lopt rs t us ((srt ns).filter fun s => decide (s ∉ xs)) := by
  rw [← e]
  refine optS_lopt ?_ fun s hs => of_decide_eq_true (List.mem_filter.mp hs).2
  rw [srt_filter, srt_congr hm]
end
end

set_option maxHeartbeats 4000000
/-! The law's hints; led by hints. -/

section

theorem shaped_str {s : Str} (h : isName s = true) : SeqAt.shaped (.str s) = true := by
  show (PyData.canLay0 (.str s) && decide (PyData.depth (.str s) ≤ 64)) = true
  simp only [PyData.canLay0, PyData.depth, isName_ok h, Bool.true_and]
  exact decide_eq_true (Nat.zero_le _)
theorem eqv_same_str (s : Str) : PyData.eqv (.str s) (.str s) = true := by simp [PyData.eqv]
section
variable {P : Program} {w : World} {K : PySem.W.Frag} {mg : Str → Option Value} {base : Heap}
def wt_law_hint_right : Wt := fun ds kk _ => ∃ (rs : List (Str × List Str)) (ts ns xs us : List Str), ds = [ownD rs ts, rmAt rs ts xs us] ∧ OwnOk rs ts ns 30 ∧ Plays ts ns xs ∧ kk (.bl true)
theorem ok_law_hint_right (T : TX K mg) : Ok P w K mg base 15 (He.ga K "_law_hint_right") ["_law_own_here", "_law_room"] (spD K wt_law_hint_right) := by
  obtain ⟨fd, F⟩ := T.def_ 62 (d := d_law_hint_right)
  have k_Room_hint := ok_Room_hint (P := P) (w := w) (base := base) T
  have k_Room_strikes := ok_Room_strikes (P := P) (w := w) (base := base) T
  have k_law_optimal := ok_law_optimal (P := P) (w := w) (base := base) T
  refine ⟨⟨fd, fnD F sc_law_hint_right (fun _ _ _ h => by obtain ⟨rs, ts, ns, xs, us, rfl, ok, hp, hk⟩ := h; rfl) (fun cdv A outer s H E hr => ⟨_, (pss_cons (ps_set (i := 2) sc_law_hint_right.nd rfl (by first | exact Or.inl rfl | exact Or.inr rfl) (q_prop k_Room_strikes (pv 1) (T.cls 74) (T.prop 81) hr)) (pss_cons (ps_set (i := 3) sc_law_hint_right.nd rfl (by first | exact Or.inl rfl | exact Or.inr rfl) pe_non) (pss_cons (ps_if (pt_cmpR op_lt (pe_callB (z_len K) (by rfl) (T.free 2) boot_len (pa_cons (pv 2) pa_nil)) (pe_callB (z_len K) (by rfl) (T.free 2) boot_len (pa_cons (pe_ix (z_ixL K) (pv 0) pe_int (fun _ _ => rfl)) pa_nil)) (nomark _)) (pss_one (ps_set (i := 3) sc_law_hint_right.nd rfl (by first | exact Or.inl rfl | exact Or.inr rfl) (pe_ix (z_ixL K) (q_call k_law_optimal hr (T.glo 86) (pa_cons (pv 0) (pa_cons (pv 2) pa_nil))) pe_int (fun _ _ => rfl)))) pss_nil) (pss_one (ps_ret (pe_and (pe_cmpR (z_eqD K hr) (q_meth0 k_Room_hint (pv 1) (T.cls 74) (T.meth 87) hr) (pv 3) (nomark _)) (pe_one (pe_cmpR (z_eqD K hr) (q_prop k_Room_strikes (pv 1) (T.cls 74) (T.prop 81) hr) (pv 2) (nomark _))))))))), fun ds kk ke h => ?_⟩), FunD.bindsN F fun _ _ _ _ _ _ us hl => match us, hl with | [_, _], _ => rfl⟩, F.kp⟩
  obtain ⟨rs, ts, ns, xs, us, rfl, ok, hp, hk⟩ := h
  try dsimp only [cxK]
  walk_at "fw"
  obtain ⟨q, r, e, hm, qnd, qln, hp', gx, gc, ec⟩ := own_at_ ok hp
  have hxl := plays_len hp
  have htl := ok.tl
  have hnl := ok.nsl
  have hxn : ∀ s ∈ xs, isName s = true := fun s hs => ok.nsn s (plays_sub hp s hs)
  unfold rmAt
  rw [e]
  refine ⟨by omega, ?_⟩
  walk_at "fw"
  rw [List.length_map, List.length_map]
  rw [ec] at gc ⊢
  refine ⟨fun h => ?_, fun h => ?_⟩
  · have hlt : xs.length < ts.length := by have := of_decide_eq_true h; omega
    obtain ⟨t, us', hd⟩ := List.exists_cons_of_ne_nil (l := ts.drop xs.length) fun z => by
      have := congrArg List.length z
      rw [List.length_drop, List.length_nil] at this; omega
    rw [hd] at gc ⊢
    obtain ⟨s, hs⟩ := optS_ne gc
    have hs2 : (lopt rs t us' ((srt ns).filter fun s => decide (s ∉ xs)))[0]? = some s := by
      rw [← opt_at (ts := ts) e hm, ec]; exact hs
    have sn : isName s = true := by
      have := optS_mem.mp (List.mem_of_getElem? hs)
      exact ok.nsn s ((hm s).mp (List.mem_filter.mp this.1).1)
    walk_at "fw"
    refine ⟨rs, ts, ns, xs, t, us', rfl, ok, hp, hd, ?_⟩
    walk_at "fw"
    refine ⟨_, _, .str s, rfl, rfl, atI_nat' (i := 0) (by rw [List.getElem?_map, hs2]; rfl), ?_⟩
    walk_at "fw"
    refine ⟨rfl, ?_⟩
    walk_at "fw"
    refine ⟨gc, .inr ⟨t, us', s, rfl, hs, ?_⟩⟩
    walk_at "fw"
    refine ⟨shaped_str sn, shaped_str sn, ?_⟩
    rw [eqv_same_str]
    walk_at "fw"
    refine ⟨by omega, ?_⟩
    walk_at "fw"
    exact ⟨_, _, pd_sl _, pd_sl _, shaped_sl hxn, shaped_sl hxn, by rw [eqv_sl, decide_eq_true rfl]; exact hk⟩
  · have hge : ts.length ≤ xs.length := by have := of_decide_eq_false h; omega
    have hd : ts.drop xs.length = [] := List.drop_eq_nil_of_le hge
    rw [hd] at gc ⊢
    walk_at "fw"
    refine ⟨rfl, ?_⟩
    walk_at "fw"
    refine ⟨gc, .inl ⟨rfl, ?_⟩⟩
    walk_at "fw"
    refine ⟨rfl, rfl, ?_⟩
    rw [show PyData.eqv .none .none = true from rfl]
    walk_at "fw"
    refine ⟨by omega, ?_⟩
    walk_at "fw"
    exact ⟨_, _, pd_sl _, pd_sl _, shaped_sl hxn, shaped_sl hxn, by rw [eqv_sl, decide_eq_true rfl]; exact hk⟩
end
end

set_option maxHeartbeats 4000000
/-! The law's hints; led by hints. -/

section

section
variable {P : Program} {w : World} {K : PySem.W.Frag} {mg : Str → Option Value} {base : Heap}
/-- classes whose instances lie in a room's data -/
def okR (e : Str) : Prop := e = "Game" ∨ e = "Ranking" ∨ e = "Turns" ∨ e = "Committee"
theorem ne_room (T : TX K mg) : ∀ e, okR e → He.ga K e ≠ He.ga K rmS := fun e h => by
  rcases h with rfl | rfl | rfl | rfl
  · exact ne_of_kit (T.kit 91 (t := .own "Game") (u := .own "Room") (b := false)) (T.kit 92 (t := .own "Room") (u := .own "Room") (b := true))
  · exact ne_of_kit (T.kit 93 (t := .own "Ranking") (u := .own "Room") (b := false)) (T.kit 92 (t := .own "Room") (u := .own "Room") (b := true))
  · exact ne_of_kit (T.kit 94 (t := .own "Turns") (u := .own "Room") (b := false)) (T.kit 92 (t := .own "Room") (u := .own "Room") (b := true))
  · exact ne_of_kit (T.kit 95 (t := .own "Committee") (u := .own "Room") (b := false)) (T.kit 92 (t := .own "Room") (u := .own "Room") (b := true))
theorem nox_cm (ss : List Str) : NoX okR (cm ss) := .obj (.inr (.inr (.inr rfl))) (.cons (NoX.strs ss) .nil)
theorem nox_tn (ss : List Str) : NoX okR (tn ss) := .obj (.inr (.inr (.inl rfl))) (.cons (NoX.strs ss) .nil)
theorem nox_ints {α : Type} (f : α → Int) (xs : List α) : NoX okR (.lst (xs.map fun x => D.int (f x))) := .lst (NoXs.map fun s _ => .int _)
theorem nox_rk (ss : List Str) : NoX okR (rk ss) := .obj (.inr (.inl rfl)) (.cons (NoX.strs ss) (.cons (.dic (by
  show NoXs okR ((plc ss).map Prod.snd)
  unfold plc
  rw [List.map_map]
  exact NoXs.map fun x _ => .int _)) .nil))
theorem nox_gm (rs : List (Str × List Str)) (ts : List Str) : NoX okR (gm rs ts) := .obj (.inl rfl) (.cons (.dic (by
  unfold rks
  rw [List.map_map]
  exact NoXs.map fun x _ => nox_rk _)) (.cons (nox_tn ts) .nil))
/-- how many strikes a room holds that this def was handed -/
def rlen : OL → Nat
  | [(_, .slf _ _ [_, (_, .tup [_, .lst xs, _])])] => xs.length
  | _ => 0
def wt_law_led : WtO := fun ds1 fs ds2 kk => ∃ (rs : List (Str × List Str)) (ts ns xs us : List Str), ds1 = [ownD rs ts] ∧ fs = rmF (gm (srs rs) ts) (gm (cut xs (srs rs)) (ts.drop xs.length)) xs us ∧ ds2 = [] ∧ OwnOk rs ts ns 30 ∧ Plays ts ns xs ∧ ∀ fs', kk (.bl true) fs'
theorem ok_law_led (T : TX K mg) : Ok P w K mg base 15 (He.ga K "_law_led") ["_law_own_here", "_law_room"] (spO K "Room" wt_law_led) := by
  obtain ⟨fd, F⟩ := T.def_ 63 (d := d_law_led)
  have k_Committee_eq := ok_Committee_eq (P := P) (w := w) (base := base) T
  have k_Game_alternatives := ok_Game_alternatives (P := P) (w := w) (base := base) T
  have k_Room_len := ok_Room_len (P := P) (w := w) (base := base) T
  have k_Room_game := ok_Room_game (P := P) (w := w) (base := base) T
  have k_Room_hint := ok_Room_hint (P := P) (w := w) (base := base) T
  have k_Room_mistakes := ok_Room_mistakes (P := P) (w := w) (base := base) T
  have k_Room_strike := ok_Room_strike (P := P) (w := w) (base := base) T
  have k_outcome := ok_outcome (P := P) (w := w) (base := base) T
  refine ⟨⟨fd, fnO F sc_law_led (by decide) (fun _ _ _ _ h => by obtain ⟨rs, ts, ns, xs, us, rfl, rfl, rfl, ok, hp, hk⟩ := h; rfl) (fun cdv A outer s H E hr => ⟨_, (pss_cons (ps_par (i := 2) (j := 3) rfl sc_law_led.nd rfl rfl (by decide) rfl rfl (pa_cons (q_call k_outcome hr (T.glo 69) (pa_cons (q_prop k_Room_game (pv 1) (T.cls 74) (T.prop 88) hr) pa_nil)) (pa_cons (q_meth0 k_Room_mistakes (pv 1) (T.cls 74) (T.meth 89) hr) pa_nil)) (by rfl)) (pss_cons (ps_while (passes_of rfl) (pt_cmpR op_lt (q_len k_Room_len (T.meth 78) hr (T.free 2) (pa_cons (pv 1) pa_nil)) (pe_callB (z_len K) (by rfl) (T.free 2) boot_len (pa_cons (pe_ix (z_ixL K) (pv 0) pe_int (fun _ _ => rfl)) pa_nil)) (nomark _)) (pss_cons (ps_expr (q_meth k_Room_strike (pv 1) (T.cls 74) (T.meth 90) hr (pa_cons (q_meth0 k_Room_hint (pv 1) (T.cls 74) (T.meth 87) hr) pa_nil))) (pss_one (ps_if (pt_cmpR (q_ne k_Committee_eq (T.meth 36) (T.neo 72) hr) (q_call k_outcome hr (T.glo 69) (pa_cons (q_prop k_Room_game (pv 1) (T.cls 74) (T.prop 88) hr) pa_nil)) (pv 2) (nomark _)) (pss_one (ps_ret pe_bl)) pss_nil)))) (pss_one (ps_ret (pe_and (pe_cmpR (q_eq k_Committee_eq (T.meth 36) hr) (q_prop k_Game_alternatives (q_prop k_Room_game (pv 1) (T.cls 74) (T.prop 88) hr) (T.cls 25) (T.prop 60) hr) (pv 2) (nomark _)) (pe_and (pe_cmpR (z_eqD K hr) (q_meth0 k_Room_mistakes (pv 1) (T.cls 74) (T.meth 89) hr) (pv 3) (nomark _)) (pe_one (pe_cmpR op_isN (q_meth0 k_Room_hint (pv 1) (T.cls 74) (T.meth 87) hr) pe_non (nomark _))))))))), fun x ds1 fs ds2 kk h => ?_⟩), FunD.bindsN F fun _ _ _ _ _ _ us hl => match us, hl with | [_, _], _ => rfl⟩, F.kp⟩
  obtain ⟨rs, ts, ns, xs, us, rfl, rfl, rfl, ok, hp, hk⟩ := h
  try dsimp only [cxK]
  obtain ⟨q, r, e, hm, qnd, qln, hp', gx, gc, ec⟩ := own_at_ ok hp
  have hnl := ok.nsl
  have htl := ok.tl
  rw [e]
  have ne := ne_room (mg := mg) T
  refine dsr_seq (ds_par (by walk_at "fno") (by walk_at "fno") (da_cons (dt_lend 0 (ok := okR) (.inr ⟨_, rfl⟩) rfl (by exact (by decide : 1 < 4)) ne ?_)))
  walk_at "fw"
  rw [ec] at gc ⊢
  refine ⟨gc, nox_cm _, ?_⟩
  rw [← ec] at gc ⊢
  refine da_cons (dt_lend 0 (ok := okR) (.inr ⟨_, rfl⟩) rfl (by exact (by decide : 1 < 4)) ne (df_methF ?_).dt)
  walk_at "fw"
  refine ⟨rfl, ?_⟩
  walk_at "fw"
  refine ⟨gx, hp', nox_ints _ _, ?_⟩
  walk_at "fw"
  rw [ec]
  generalize hgoal : outc ((q.1, q.2.filter fun s => decide (s ∉ xs)) :: cut xs r) (ts.drop xs.length) (q.2.filter fun s => decide (s ∉ xs)) = goal
  have hgn : ∀ s ∈ goal, isName s = true := fun s hs => by
    rw [← hgoal] at hs
    exact ok.nsn s ((hm s).mp (List.mem_filter.mp (bleft_sub (srt_mem.mp hs))).1)
  have hgl : goal.length ≤ 30 := by
    rw [← hgoal]
    unfold outc
    have h1 := srt_le (bleft ((q.1, q.2.filter fun s => decide (s ∉ xs)) :: cut xs r) (ts.drop xs.length).reverse (q.2.filter fun s => decide (s ∉ xs)))
    have h2 := nodup_le (bleft_nd (rs := (q.1, q.2.filter fun s => decide (s ∉ xs)) :: cut xs r) (us := (ts.drop xs.length).reverse) (qnd.filter fun s => decide (s ∉ xs))) fun s hs => (List.mem_filter.mp (bleft_sub hs)).1
    omega
  generalize hwr : mist 0 (q :: r) ts q.2 xs = wrong
  refine dsr_seq (ds_while (fun G' O' => ∃ ys us', G' = [some (ownD rs ts), none, some (cm goal), some (.lst (wrong.map fun n => D.int (n : Nat)))] ∧ O' = [(1, .slf x rmS (rmF (gm (q :: r) ts) (gm (cut ys (q :: r)) (ts.drop ys.length)) ys us'))] ∧
    Plays ts ns ys ∧ outc (cut ys (q :: r)) (ts.drop ys.length) (q.2.filter fun s => decide (s ∉ ys)) = goal ∧ mist 0 (q :: r) ts q.2 ys = wrong) (fun _ O' => ts.length - rlen O') ⟨xs, us, by rw [← hgoal]; rfl, by rw [ec]; rfl, hp, by rw [ec]; exact hgoal, hwr⟩ (fun G' O' hP => ?_))
  obtain ⟨ys, us', rfl, rfl, hpy, hgy, hwy⟩ := hP
  clear hgoal hwr gc ec hp' hp
  obtain ⟨q', r', e', hm', qnd', qln', hp', gx', gc, ec⟩ := own_at_ ok hpy
  rw [e] at e'
  obtain ⟨rfl, rfl⟩ := List.cons.inj e'
  have hyl := plays_len hpy
  rw [ec] at gc hgy ⊢
  refine dtt_lend 0 (ok := okR) (.inr ⟨_, rfl⟩) rfl (by exact (by decide : 1 < 4)) ne ?_
  walk_at "fw"
  refine ⟨by omega, ?_⟩
  walk_at "fw"
  rw [List.length_map]
  refine ⟨fun h => ?_, fun h => ?_⟩
  · have hlt : ys.length < ts.length := by have := of_decide_eq_true h; omega
    obtain ⟨t, us2, hd⟩ := List.exists_cons_of_ne_nil (l := ts.drop ys.length) fun z => by
      have := congrArg List.length z
      rw [List.length_drop, List.length_nil] at this; omega
    have hd2 : ts.drop (ys.length + 1) = us2 := by rw [← List.drop_drop, hd]; rfl
    rw [hd] at gc hgy ⊢
    obtain ⟨s, hs⟩ := optS_ne gc
    obtain ⟨sA, sR⟩ := optS_mem.mp (List.mem_of_getElem? hs)
    obtain ⟨sq, sy⟩ := List.mem_filter.mp sA
    have sy' : s ∉ ys := of_decide_eq_true sy
    have hpn : Plays ts ns (ys ++ [s]) := plays_snoc hpy hlt ((hm s).mp sq) sy'
    obtain ⟨q2, r2, e2, _, _, _, hp2, _, gc2, ec2⟩ := own_at_ ok hpn
    rw [e] at e2
    obtain ⟨rfl, rfl⟩ := List.cons.inj e2
    have hcc : cut [s] ((q.1, q.2.filter fun s => decide (s ∉ ys)) :: cut ys r) = cut (ys ++ [s]) (q :: r) := by rw [← ec, cut_cut]
    refine ds_seq (ds_methOS 0 rfl rfl (da_lend 0 (ok := okR) (.inr ⟨_, rfl⟩) rfl (by exact (by decide : 1 < 4)) ne ?_))
    walk_at "fw"
    refine ⟨rfl, ?_⟩
    walk_at "fw"
    refine ⟨gc, .inr ⟨t, us2, s, rfl, hs, ?_⟩⟩
    walk_at "fw"
    refine ⟨.cons (.str s) .nil, _, _, t, us2, ys, us', s, rfl, rfl, rfl, gc, gc.all sA, by omega, ?_⟩
    rw [hcc]
    rw [List.length_append, List.length_singleton, hd2] at gc2
    rw [ec2] at gc2 ⊢
    refine ds_if (dtt_lend 0 (ok := okR) (.inr ⟨_, rfl⟩) rfl (by exact (by decide : 1 < 4)) ne ?_)
    walk_at "fw"
    refine ⟨gc2, ?_⟩
    have hres : outc ((q.1, q.2.filter fun z => decide (z ∉ ys ++ [s])) :: cut (ys ++ [s]) r) us2 (q.2.filter fun z => decide (z ∉ ys ++ [s])) = goal := by
      rw [← ec2, ← hcc, ← hgy, ← sR]
      unfold resA
      congr 1
      rw [List.filter_filter]
      refine List.filter_congr fun z _ => ?_
      rw [Bool.eq_iff_iff, Bool.and_eq_true, decide_eq_true_eq, decide_eq_true_eq, decide_eq_true_eq, List.mem_append, not_or]
      exact And.comm
    rw [hres]
    walk_at "fw"
    refine ⟨hgn, hgn, _, rfl, _, rfl, fun h => absurd h (by simp), fun _ => ?_⟩
    refine ds_next ⟨⟨ys ++ [s], [], rfl, ?_, hpn, ?_, ?_⟩, ?_⟩
    · rw [List.length_append, List.length_singleton, hd2, ec2]; rfl
    · rw [List.length_append, List.length_singleton, hd2, ec2]; exact hres
    · have := mist_snoc (y := s) (n := 0) (rs := q :: r) hp' hd
      rw [this, hwy, ec, if_pos sR, List.append_nil]
    · show ts.length - rlen [(1, .slf x rmS (rmF _ _ (ys ++ [s]) []))] < ts.length - rlen [(1, .slf x rmS (rmF _ _ ys us'))]
      show ts.length - ((ys ++ [s]).map D.str).length < ts.length - (ys.map D.str).length
      rw [List.length_map, List.length_map, List.length_append, List.length_singleton]
      omega
  · have hge : ts.length ≤ ys.length := by have := of_decide_eq_false h; omega
    have hd : ts.drop ys.length = [] := List.drop_eq_nil_of_le hge
    rw [hd] at gc hgy ⊢
    refine dsr_ret (dt_lend 0 (ok := okR) (.inr ⟨_, rfl⟩) rfl (by exact (by decide : 1 < 4)) ne ?_)
    walk_at "fw"
    have fl := List.length_filter_le (fun s => decide (s ∉ ys)) q.2
    have hfn : ∀ s ∈ q.2.filter (fun s => decide (s ∉ ys)), isName s = true := fun s hs => ok.nsn s ((hm s).mp (List.mem_filter.mp hs).1)
    refine ⟨rfl, by show (q.2.filter fun s => decide (s ∉ ys)).length ≤ 30; omega, hfn, ?_⟩
    walk_at "fw"
    refine ⟨fun s hs => hfn s (srt_mem.mp hs), hgn, ?_⟩
    have hge2 : srt (q.2.filter fun s => decide (s ∉ ys)) = goal := hgy
    rw [decide_eq_true hge2]
    walk_at "fw"
    refine (df_methF ?_).dt
    walk_at "fw"
    refine ⟨rfl, ?_⟩
    walk_at "fw"
    refine ⟨gx', hp', ?_⟩
    walk_at "fw"
    rw [hwy]
    refine ⟨_, _, pd_nats wrong, pd_nats wrong, shaped_nats _, shaped_nats _, ?_⟩
    rw [eqv_nats, decide_eq_true rfl]
    walk_at "fw"
    refine ⟨rfl, ?_⟩
    walk_at "fw"
    refine ⟨gc, .inl ⟨rfl, ?_⟩⟩
    walk_at "fw"
    exact ⟨.bl true, _, rfl, hk _⟩
end
end

set_option maxHeartbeats 4000000
/-! The law. -/

section

theorem mist_small {rs : List (Str × List Str)} {ts A xs : List Str} (h : xs.length ≤ 30) : ∀ m ∈ mist 0 rs ts A xs, m < 1000 := fun m hm => by
  have := mist_lt m hm
  omega
theorem not_same_nats (M : List Nat) : (!PyData.eqv (.list (M.map fun n => PyData.int (n : Nat))) (.list (M.map fun n => PyData.int (n : Nat)))) = false := by
  rw [eqv_nats, decide_eq_true rfl]; rfl
section
variable {P : Program} {w : World} {K : PySem.W.Frag} {mg : Str → Option Value} {base : Heap}
def wt_law : Wt := fun ds kk _ => ∃ ns : List Int, ds = [.scr ns] ∧ kk (.bl true)
theorem ok_law {fd : FuncData} (T : TX K mg) (F : FunD K d_law.name d_law.qual (defArgs d_law.st) (defBody d_law.st) (defScope d_law.st) [] [] (d_law.at_.ad K) fd) : FnG P w K mg base (L2.CX P w) 16 (He.ga K "law") fd ["_law_script"] (spD K wt_law) := by
  have k_Committee_members := ok_Committee_members (P := P) (w := w) (base := base) T
  have k_Game_alternatives := ok_Game_alternatives (P := P) (w := w) (base := base) T
  have k_Room_init := ok_Room_init (P := P) (w := w) (base := base) T
  have k_Room_clone := ok_Room_clone (P := P) (w := w) (base := base) T
  have k_Room_game := ok_Room_game (P := P) (w := w) (base := base) T
  have k_Room_mistakes := ok_Room_mistakes (P := P) (w := w) (base := base) T
  have k_Room_strike := ok_Room_strike (P := P) (w := w) (base := base) T
  have k_Room_strikes := ok_Room_strikes (P := P) (w := w) (base := base) T
  have k_law_draw := ok_law_draw (P := P) (w := w) (base := base) T
  have k_law_game := ok_law_game (P := P) (w := w) (base := base) T
  have k_law_hint_right := ok_law_hint_right (P := P) (w := w) (base := base) T
  have k_law_led := ok_law_led (P := P) (w := w) (base := base) T
  have k_law_optimal := ok_law_optimal (P := P) (w := w) (base := base) T
  have k_law_own := ok_law_own (P := P) (w := w) (base := base) T
  have k_law_stream := ok_law_stream (P := P) (w := w) (base := base) T
  refine fnD F sc_law (fun _ _ _ h => by obtain ⟨_, rfl, _⟩ := h; rfl) (fun cdv A outer s H E hr => ⟨_, (pss_cons (ps_for (passes_of rfl) rfl (pi_range1 (by rfl) (T.free 41) (pa_cons (pe_callB (call_max2 rfl) (by rfl) (T.free 39) (by decide +kernel) (pa_cons pe_int (pa_cons (pe_callB (call_min2 rfl) (by rfl) (T.free 96) (by decide +kernel) (pa_cons pe_int (pa_cons (pe_callB (z_len K) (by rfl) (T.free 2) boot_len (pa_cons (pv 0) pa_nil)) pa_nil))) pa_nil))) pa_nil)) (pg_name (i := 1) sc_law.nd rfl (by first | exact Or.inl rfl | exact Or.inr rfl)) (pss_cons (ps_set (i := 2) sc_law.nd rfl (by first | exact Or.inl rfl | exact Or.inr rfl) (q_call k_law_stream hr (T.glo 97) (pa_cons (pv 0) (pa_cons (pv 1) pa_nil)))) (pss_cons (ps_set (i := 3) sc_law.nd rfl (by first | exact Or.inl rfl | exact Or.inr rfl) (q_call k_law_own hr (T.glo 98) (pa_cons (pv 2) (pa_cons pe_int pa_nil)))) (pss_cons (ps_par (i := 4) (j := 5) rfl sc_law.nd rfl rfl (by decide) rfl rfl (pa_cons (q_make k_Room_init (T.mkr 79) hr (T.glo 80) (pa_cons (q_call k_law_game hr (T.glo 99) (pa_cons (pv 3) pa_nil)) pa_nil)) (pa_cons (pe_lst pa_nil) pa_nil)) (by rfl)) (pss_cons (ps_for (passes_of rfl) rfl (pi_range1 (by rfl) (T.free 41) (pa_cons (pe_callB (z_len K) (by rfl) (T.free 2) boot_len (pa_cons (pe_ix (z_ixL K) (pv 3) pe_int (fun _ _ => rfl)) pa_nil)) pa_nil)) (pg_name (i := 6) sc_law.nd rfl (by first | exact Or.inl rfl | exact Or.inr rfl)) (pss_cons (ps_if (PW.pt (pw_or (pt_not (pt_val (q_call k_law_hint_right hr (T.glo 100) (pa_cons (pv 3) (pa_cons (pv 4) pa_nil))))) (pw_or1 (pt_cmpR (z_neD K hr) (q_meth0 k_Room_mistakes (pv 4) (T.cls 74) (T.meth 89) hr) (pv 5) (nomark _))))) (pss_one (ps_ret pe_bl)) pss_nil) (pss_cons (ps_par (i := 7) (j := 8) rfl sc_law.nd rfl rfl (by decide) rfl rfl (pa_cons (q_call k_law_optimal hr (T.glo 86) (pa_cons (pv 3) (pa_cons (q_prop k_Room_strikes (pv 4) (T.cls 74) (T.prop 81) hr) pa_nil))) (pa_cons (q_prop k_Committee_members (q_prop k_Game_alternatives (q_prop k_Room_game (pv 4) (T.cls 74) (T.prop 88) hr) (T.cls 25) (T.prop 60) hr) (T.cls 9) (T.prop 19) hr) pa_nil)) (by rfl)) (pss_cons (ps_set (i := 9) sc_law.nd rfl (by first | exact Or.inl rfl | exact Or.inr rfl) (pe_ix (z_ixL K) (pv 8) (q_call k_law_draw hr (T.glo 42) (pa_cons (pv 2) (pa_cons (pe_callB (z_len K) (by rfl) (T.free 2) boot_len (pa_cons (pv 8) pa_nil)) pa_nil))) (fun _ _ => rfl))) (pss_cons (ps_if (pt_cmpR (z_nin K) (pv 9) (pv 7) (by rfl)) (pss_one (ps_expr (pe_bm PySem.F.plainAttrs_list PySem.F.slot_list_append PySem.F.type_list_append mt_append (pv 5) (pa_cons (pv 6) pa_nil)))) pss_nil) (pss_cons (ps_set (i := 10) sc_law.nd rfl (by first | exact Or.inl rfl | exact Or.inr rfl) (q_meth0 k_Room_mistakes (pv 4) (T.cls 74) (T.meth 89) hr)) (pss_cons (ps_set (i := 11) sc_law.nd rfl (by first | exact Or.inl rfl | exact Or.inr rfl) (pe_callB (z_repr K hr) (by rfl) (T.free 101) (by decide +kernel) (pa_cons (pv 10) pa_nil))) (pss_cons (ps_expr (q_meth k_Room_strike (pv 4) (T.cls 74) (T.meth 90) hr (pa_cons (pv 9) pa_nil))) (pss_cons (ps_if (pt_cmpR op_ne (pe_callB (z_repr K hr) (by rfl) (T.free 101) (by decide +kernel) (pa_cons (pv 10) pa_nil)) (pv 11) (nomark _)) (pss_one (ps_ret pe_bl)) pss_nil) (pss_cons (ps_expr (pe_bm PySem.F.plainAttrs_list PySem.F.slot_list_append PySem.F.type_list_append mt_append (pv 10) (pa_cons pe_int pa_nil))) (pss_one (ps_if (PW.pt (pw_and (pt_cmpR op_eq (q_call k_law_draw hr (T.glo 42) (pa_cons (pv 2) (pa_cons pe_int pa_nil))) pe_int (nomark _)) (pw_and1 (pt_not (pt_val (q_call k_law_led hr (T.glo 102) (pa_cons (pv 3) (pa_cons (q_meth0 k_Room_clone (pv 4) (T.cls 74) (T.meth 103) hr) pa_nil)))))))) (pss_one (ps_ret pe_bl)) pss_nil)))))))))))) (pss_one (ps_if (PW.pt (pw_or (pt_not (pt_val (q_call k_law_hint_right hr (T.glo 100) (pa_cons (pv 3) (pa_cons (pv 4) pa_nil))))) (pw_or (pt_cmpR (z_neD K hr) (q_meth0 k_Room_mistakes (pv 4) (T.cls 74) (T.meth 89) hr) (pv 5) (nomark _)) (pw_or1 (pt_not (pt_val (q_call k_law_led hr (T.glo 102) (pa_cons (pv 3) (pa_cons (q_make k_Room_init (T.mkr 79) hr (T.glo 80) (pa_cons (q_call k_law_game hr (T.glo 99) (pa_cons (pv 3) pa_nil)) pa_nil)) pa_nil))))))))) (pss_one (ps_ret pe_bl)) pss_nil))))))) (pss_one (ps_ret pe_bl))), fun ds kk ke h => ?_⟩)
  obtain ⟨sc, rfl, hk⟩ := h
  try dsimp only [cxK]
  have ne := ne_room (mg := mg) T
  walk_at "fw"
  refine ds_for [1] (fun _ i G' O' => O' = [] ∧ ∃ g1 g2 g3 g4 g5 g6 g7 g8 g9 g10 g11 : Option D, G' = [some (.scr sc), g1, g2, g3, g4, g5, g6, g7, g8, g9, g10, g11]) ?_
  walk_at "fw"
  generalize hcnt : (if (if (sc.length : Int) < 6 then (sc.length : Int) else 6) > 1 then (if (sc.length : Int) < 6 then (sc.length : Int) else 6) else 1) = cnt
  have hc4 : cnt ≤ 6 := by rw [← hcnt]; split <;> split <;> omega
  have hc1 : 1 ≤ cnt := by rw [← hcnt]; split <;> split <;> omega
  refine ⟨by omega, by omega, ⟨rfl, _, _, _, _, _, _, _, _, _, _, _, rfl⟩, fun i x G' O' hi hP => ?_, fun G' O' hP => ?_⟩
  · obtain ⟨rfl, g1, g2, g3, g4, g5, g6, g7, g8, g9, g10, g11, rfl⟩ := hP
    have hin : i < cnt.toNat := by
      have := (List.getElem?_eq_some_iff.mp hi).1
      rw [rngD_len] at this; exact this
    rw [rngD_get hin, Int.zero_add] at hi
    have hx := Option.some.inj hi
    subst hx
    walk_at "fw"
    refine ⟨by omega, ?_⟩
    walk_at "fw"
    refine ⟨by decide, by decide, fun rs ts ns ok8 => ?_⟩
    have ok : OwnOk rs ts ns 30 := ok8.up (by decide)
    have hns8 : ns.length ≤ 8 := ok8.nsl
    have htl := ok.tl
    have p0 : Plays ts ns [] := by cases ts <;> trivial
    obtain ⟨q, r, e, hm, qnd, qln, hp0, gx, _, _⟩ := own_at_ ok p0
    refine ds_seq (ds_parF (by decide) (by walk_at "fno") (by walk_at "fno") (by exact (by decide : 4 < 12)) (by exact (by decide : 5 < 12)) (df_make ?_))
    walk_at "fw"
    refine ⟨rs, ts, ns, rfl, ok, ?_⟩
    rw [e]
    walk_at "fw"
    refine ds_seq (ds_for [6] (fun _ j G' O' => ∃ (ys : List Str) (a6 a7 a8 a9 a10 a11 : Option D), G' = [some (.scr sc), some (.int i), some .stm, some (ownD rs ts), none, none, a6, a7, a8, a9, a10, a11] ∧
      O' = [(5, .lst ((mist 0 (q :: r) ts q.2 ys).map fun n => D.int (n : Nat))), (4, .obj rmS (rmF (gm (q :: r) ts) (gm (cut ys (q :: r)) (ts.drop ys.length)) ys []))] ∧ ys.length = j ∧ Plays ts ns ys) ?_)
    walk_at "fw"
    rw [List.length_map]
    refine ⟨by omega, by omega, ⟨[], _, _, _, _, _, _, rfl, by rw [mist_nil, cut_nil]; rfl, rfl, p0⟩, fun j x G' O' hj hP => ?_, fun G' O' hP => ?_⟩
    · obtain ⟨ys, a6, a7, a8, a9, a10, a11, rfl, rfl, hyl, hpy⟩ := hP
      obtain ⟨q2, r2, e2, _, _, _, hp2, _, gc, ec⟩ := own_at_ ok hpy
      rw [e] at e2
      obtain ⟨rfl, rfl⟩ := List.cons.inj e2
      have hjn : j < ts.length := by
        have := (List.getElem?_eq_some_iff.mp hj).1
        rw [rngD_len] at this; omega
      rw [rngD_get (by omega), Int.zero_add] at hj
      have hx := Option.some.inj hj
      subst hx
      have hmsm : ∀ m ∈ mist 0 (q :: r) ts q.2 ys, m < 1000 := mist_small (by omega)
      have hmln : (mist 0 (q :: r) ts q.2 ys).length ≤ ys.length := mist_len
      obtain ⟨t, us, hd⟩ := List.exists_cons_of_ne_nil (l := ts.drop ys.length) fun z => by
        have := congrArg List.length z
        rw [List.length_drop, List.length_nil] at this; omega
      have hd2 : ts.drop (ys.length + 1) = us := by rw [← List.drop_drop, hd]; rfl
      refine dg_name (by walk_at "fno") ?_
      refine ds_seq (ds_if (dtt_or (dtt_not (dtt_b ?_))))
      refine dt_lend 1 (ok := okR) (.inl rfl) rfl (by exact (by decide : 4 < 12)) ne ?_
      walk_at "fw"
      refine ⟨rs, ts, ns, ys, [], by unfold rmAt; rw [e], ok, hpy, .bl true, true, rfl, fun _ => ?_, fun h => absurd h (by decide)⟩
      refine dtt_lend 1 (ok := okR) (.inl rfl) rfl (by exact (by decide : 4 < 12)) ne (dtt_lendV 0 rfl (by exact (by decide : 5 < 12)) ?_)
      refine dtt_test (dt_op opd_neD (df_methF ?_).dt)
      walk_at "fw"
      refine ⟨rfl, ?_⟩
      walk_at "fw"
      refine ⟨gx, hp2, ?_⟩
      walk_at "fw"
      refine ⟨_, _, pd_nats _, pd_nats _, shaped_nats _, shaped_nats _, ?_⟩
      rw [not_same_nats]
      refine ⟨false, rfl, fun h => absurd h (by decide), fun _ => ds_next ?_⟩
      rw [hd] at gc ⊢
      rw [ec] at gc ⊢
      have fl : (q.2.filter fun s => decide (s ∉ ys)).length ≤ 30 := by have := List.length_filter_le (fun s => decide (s ∉ ys)) q.2; omega
      have fpos : 0 < (q.2.filter fun s => decide (s ∉ ys)).length := by
        have := gc.ln _ List.mem_cons_self
        rw [List.length_cons] at this
        exact Nat.lt_of_lt_of_le (Nat.succ_pos _) this
      have hfn : ∀ s ∈ q.2.filter (fun s => decide (s ∉ ys)), isName s = true := fun s hs => ok.nsn s ((hm s).mp (List.mem_filter.mp hs).1)
      have slen : (srt (q.2.filter fun s => decide (s ∉ ys))).length = (q.2.filter fun s => decide (s ∉ ys)).length := srt_len (qnd.filter _)
      refine ds_seq (ds_par (by walk_at "fno") (by walk_at "fno") (da_cons ?_))
      refine dt_lend 1 (ok := okR) (.inl rfl) rfl (by exact (by decide : 4 < 12)) ne ?_
      walk_at "fw"
      refine ⟨by omega, ?_⟩
      walk_at "fw"
      refine ⟨rs, ts, ns, ys, t, us, rfl, ok, hpy, hd, NoX.strs _, da_cons ?_⟩
      refine dt_lend 1 (ok := okR) (.inl rfl) rfl (by exact (by decide : 4 < 12)) ne ?_
      walk_at "fw"
      refine ⟨rfl, fl, hfn, ?_⟩
      walk_at "fw"
      refine ⟨NoX.strs _, ?_⟩
      walk_at "fw"
      rw [List.length_map]
      have hsl : (srt (q.1, q.2.filter fun s => decide (s ∉ ys)).2).length = (q.2.filter fun s => decide (s ∉ ys)).length := slen
      rw [hsl]
      refine ⟨by omega, by omega, fun r1 r10 r11 => ?_⟩
      obtain ⟨y, hyS, ey⟩ := atI_strs (ps := srt (q.2.filter fun s => decide (s ∉ ys))) r10 (by rw [slen]; exact r11)
      refine ⟨_, _, _, rfl, rfl, ey, ?_⟩
      have hyf := srt_mem.mp hyS
      obtain ⟨hyq, hyn⟩ := List.mem_filter.mp hyf
      have hyn' : y ∉ ys := of_decide_eq_true hyn
      have hpn : Plays ts ns (ys ++ [y]) := plays_snoc hpy (by omega) ((hm y).mp hyq) hyn'
      obtain ⟨q3, r3, e3, _, _, _, hp3, _, gc3, ec3⟩ := own_at_ ok hpn
      rw [e] at e3
      obtain ⟨rfl, rfl⟩ := List.cons.inj e3
      have hcc : cut [y] ((q.1, q.2.filter fun s => decide (s ∉ ys)) :: cut ys r) = cut (ys ++ [y]) (q :: r) := by rw [← ec, cut_cut]
      have hl1 : (ys ++ [y]).length = ys.length + 1 := by rw [List.length_append, List.length_singleton]
      have hms := mist_snoc (y := y) (n := 0) (rs := q :: r) hp2 hd
      rw [ec, Nat.zero_add, hyl] at hms
      have hopt : y ∈ lopt rs t us ((srt ns).filter fun s => decide (s ∉ ys)) ↔ resA ((q.1, q.2.filter fun s => decide (s ∉ ys)) :: cut ys r) us (q.2.filter fun s => decide (s ∉ ys)) y = outc ((q.1, q.2.filter fun s => decide (s ∉ ys)) :: cut ys r) (t :: us) (q.2.filter fun s => decide (s ∉ ys)) := by
        rw [← opt_at (ts := ts) e hm, optS_mem, ec]
        exact ⟨fun z => z.2, fun z => ⟨hyf, z⟩⟩
      refine ds_seq (ds_cut (fun G1 O1 => G1 = [some (.scr sc), some (.int i), some .stm, some (ownD rs ts), none, none, some (.int j), some (sl (lopt rs t us ((srt ns).filter fun s => decide (s ∉ ys)))), some (sl (srt (q.2.filter fun s => decide (s ∉ ys)))), some (.str y), a10, a11] ∧
        O1 = [(5, .lst ((mist 0 (q :: r) ts q.2 (ys ++ [y])).map fun n => D.int (n : Nat))), (4, .obj rmS (rmF (gm (q :: r) ts) (gm ((q.1, q.2.filter fun s => decide (s ∉ ys)) :: cut ys r) (t :: us)) ys []))]) ?_ fun G1 O1 h1 => ?_)
      · walk_at "fw"
        rw [inV_strs]
        refine ⟨fun h => ?_, fun h => ?_⟩
        · have h' : y ∉ lopt rs t us ((srt ns).filter fun s => decide (s ∉ ys)) := by simpa using h
          refine ds_append 0 rfl (DT.dm (dt_var rfl ⟨_, rfl, szOf (by rw [List.length_map]; omega), rfl, ?_⟩))
          rw [hms, if_neg fun z => h' (hopt.mpr z), List.map_append]; rfl
        · have h' : y ∈ lopt rs t us ((srt ns).filter fun s => decide (s ∉ ys)) := by simpa using h
          refine ds_next ⟨rfl, ?_⟩
          rw [hms, if_pos (hopt.mp h'), List.append_nil]
      obtain ⟨rfl, rfl⟩ := h1
      refine ds_seq (ds_asgF (by walk_at "fno") (by exact (by decide : 10 < 12)) (df_lend 1 (ok := okR) (.inl rfl) rfl (by exact (by decide : 4 < 12)) ne ?_))
      refine df_methF ?_
      walk_at "fw"
      refine ⟨rfl, ?_⟩
      walk_at "fw"
      refine ⟨gx, hp2, NoXs.map fun _ _ => .int _, ?_⟩
      refine ds_seq (ds_asg (by walk_at "fno") (dt_lendV 0 rfl (by exact (by decide : 10 < 12)) (dt_cb cad_repr ?_)))
      walk_at "fw"
      refine ⟨repr_nats (by omega) hmsm, rfl, ?_⟩
      refine ds_seq (ds_methO 2 rfl rfl ?_)
      walk_at "fw"
      refine ⟨_, _, t, us, ys, [], y, rfl, rfl, rfl, gc, gc.all hyf, by omega, ?_⟩
      rw [hcc]
      refine ds_seq (ds_if (dtt_lendV 0 rfl (by exact (by decide : 10 < 12)) ?_))
      refine dtt_test (dt_op opd_ne (dt_cb cad_repr ?_))
      walk_at "fw"
      refine ⟨repr_nats (by omega) hmsm, ?_⟩
      walk_at "fw"
      refine ⟨fun h => absurd h (by simp), fun _ => ds_next ?_⟩
      refine ds_seq (ds_append 0 rfl (DT.dm (dt_int ⟨_, rfl, szOf (by rw [List.length_map]; omega), ?_⟩)))
      refine ds_if (dtt_and ?_)
      walk_at "fw"
      refine ⟨by decide, by decide, fun rr rr0 rr1 => ?_⟩
      walk_at "fw"
      have fin : DS K E tNext ((([some (.scr sc), some (.int i), some .stm, some (ownD rs ts), none, none, some (.int j), some (sl (lopt rs t us ((srt ns).filter fun s => decide (s ∉ ys)))), some (sl (srt (q.2.filter fun s => decide (s ∉ ys)))), some (.str y), a10, a11] : Gm).set 10 none).set 11 (some (.str (shownD (Ow.lst ((mist 0 (q :: r) ts q.2 ys).map fun n => D.int (n : Nat))).d))))
          [(10, .lst ((mist 0 (q :: r) ts q.2 ys).map (fun n => D.int (n : Nat)) ++ [.int 99])), (5, .lst ((mist 0 (q :: r) ts q.2 (ys ++ [y])).map fun n => D.int (n : Nat))), (4, .obj rmS (rmF (gm (q :: r) ts) (gm (cut (ys ++ [y]) (q :: r)) us) (ys ++ [y]) []))]
          (fun G' O' => ∃ (ys : List Str) (a6 a7 a8 a9 a10 a11 : Option D), G' = [some (.scr sc), some (.int i), some .stm, some (ownD rs ts), none, none, a6, a7, a8, a9, a10, a11] ∧
      O' = [(5, .lst ((mist 0 (q :: r) ts q.2 ys).map fun n => D.int (n : Nat))), (4, .obj rmS (rmF (gm (q :: r) ts) (gm (cut ys (q :: r)) (ts.drop ys.length)) ys []))] ∧ ys.length = j + 1 ∧ Plays ts ns ys) kk ke :=
        ds_freeze 0 rfl (by exact (by decide : 10 < 12)) (ds_next ⟨ys ++ [y], _, _, _, _, _, _, rfl, by rw [hl1, hd2]; rfl, by rw [hl1, hyl], hpn⟩)
      refine ⟨fun h => ?_, fun h => ⟨fun h => absurd h (by decide), fun _ => fin⟩⟩
      refine dtt_not (dtt_b (dt_callO2 ?_))
      walk_at "fw"
      refine df_lend 2 (ok := okR) (.inl rfl) rfl (by exact (by decide : 4 < 12)) ne (df_methF ?_)
      walk_at "fw"
      refine ⟨rfl, ?_⟩
      walk_at "fw"
      refine ⟨?_, _, rfl, rs, ts, ns, ys ++ [y], [], rfl, ?_, rfl, ok, hpn, fun fs' => ?_⟩
      · exact .cons (nox_gm _ _) (.cons (.tup (.cons (nox_gm _ _) (.cons (NoX.strs _) (.cons (NoX.strs _) .nil)))) .nil)
      · rw [e, hl1, hd2]
      · exact ⟨true, rfl, fun h => absurd h (by decide), fun _ => fin⟩
    · obtain ⟨ys, a6, a7, a8, a9, a10, a11, rfl, rfl, hyl, hpy⟩ := hP
      rw [rngD_len] at hyl
      obtain ⟨q2, r2, e2, _, _, _, hp2, _, gc, ec⟩ := own_at_ ok hpy
      rw [e] at e2
      obtain ⟨rfl, rfl⟩ := List.cons.inj e2
      refine ds_next ?_
      refine ds_if (dtt_or (dtt_not (dtt_b ?_)))
      refine dt_lend 1 (ok := okR) (.inl rfl) rfl (by exact (by decide : 4 < 12)) ne ?_
      walk_at "fw"
      refine ⟨rs, ts, ns, ys, [], by unfold rmAt; rw [e], ok, hpy, .bl true, true, rfl, fun _ => ?_, fun h => absurd h (by decide)⟩
      refine dtt_or ?_
      refine dtt_lend 1 (ok := okR) (.inl rfl) rfl (by exact (by decide : 4 < 12)) ne (dtt_lendV 0 rfl (by exact (by decide : 5 < 12)) ?_)
      refine dtt_test (dt_op opd_neD (df_methF ?_).dt)
      walk_at "fw"
      refine ⟨rfl, ?_⟩
      walk_at "fw"
      refine ⟨gx, hp2, ?_⟩
      walk_at "fw"
      refine ⟨_, _, pd_nats _, pd_nats _, shaped_nats _, shaped_nats _, ?_⟩
      rw [not_same_nats]
      refine ⟨false, rfl, fun _ => ?_, fun h => absurd h (by decide)⟩
      refine dtt_not (dtt_b (dt_callO2 ?_))
      walk_at "fw"
      refine ⟨rs, ts, ns, rfl, ok, ?_⟩
      walk_at "fw"
      refine ⟨rs, ts, ns, [], [], rfl, by rw [cut_nil]; rfl, rfl, ok, p0, fun fs' => ⟨true, rfl, fun h => absurd h (by decide), fun _ => ?_⟩⟩
      exact ds_freeze 0 rfl (by exact (by decide : 5 < 12)) (ds_freeze 0 rfl (by exact (by decide : 4 < 12)) (ds_next ⟨rfl, _, _, _, _, _, _, _, _, _, _, _, rfl⟩))
  · obtain ⟨rfl, g1, g2, g3, g4, g5, g6, g7, g8, g9, g10, g11, rfl⟩ := hP
    walk_at "fw"
    exact hk
end
end

end Fw

set_option maxHeartbeats 0
/-! The end. -/
namespace Fw
open PySem PySem.Spec PyProof.Rows L2
theorem cx0 {P : Program} {w : World} {K : PySem.W.Frag} {mg : Str → Option Value} {base : Heap} {k : Nat} {f : Addr} {fd : FuncData} {ps : List Str} {sp : Sp} (F : FnG P w K mg base (L2.CX P w) k f fd ps sp) :
    FnG P w K mg base (fun _ _ _ _ _ _ => False) k f fd ps (fun vs H Q _ => sp vs H Q E0) :=
  ⟨fun vs H Q E h => F.len vs H Q E0 h, fun A o s H args us vs Q E hr e b v h => codeAny_mono (F.run A o s H args us vs Q E0 hr e b v h) fun r s' q => by
    cases r with
    | ok x => cases x <;> exact q
    | error e =>
      obtain ⟨_, _, _, _, _, _, _, _, _, _, _, _, z⟩ := q
      exact z.elim⟩
theorem facts {P : Program} {w : World} {K : PySem.W.Frag} {h : Heap} {mg : Str → Option Value} {f : Addr} (X : K.In h) (G : h.Ns mainGlobals mg) (hfa : mg ("law" : Str) = some (.ref f)) (c : obsP fcs dfs K = valP dfs) :
    ∃ fd : FuncData, (∀ (s : Shared) (v : Value), BindsTo s fd ⟨[v], []⟩ [("_law_script", v)]) ∧ ∀ base : Heap, K.In base → base.Ns mainGlobals mg → FnG P w K mg base (fun _ _ _ _ _ _ => False) 16 f fd ["_law_script"] (fun vs H Q _ => spD K wt_law vs H Q E0) := by
  have T : TX K mg := Tx.mk' X G c
  have e := hfa.symm.trans (T.glo 104)
  cases e
  obtain ⟨fd, F⟩ := T.def_ 64 (d := d_law)
  have b := FunD.bindsA (ps := ["_law_script"]) F fun _ _ _ _ _ _ us hl => match us, hl with | [_], _ => rfl
  exact ⟨fd, fun s v => b s [v] rfl, fun base _ _ => cx0 (ok_law T F)⟩
theorem spec {K : PySem.W.Frag} {H : Hp} {a : Addr} {ns : List Int} (hS : SqL K H a (ns.map V.int)) : spD K wt_law [.ref a] H (fun v _ => v = .bl true) E0 := by
  refine ⟨fun _ => False, [.scr ns], fun d => d = .bl true, F0, fun _ z => z.elim, .cons ?_ .nil, ⟨ns, rfl, rfl⟩, fun v H' d e s r => by subst e; cases r; rfl, eok_e0⟩
  rcases hS with h | h
  · exact .scr (fun z => z) h
  · exact .scrK h
end Fw
/-! names taken, so that no twin of a state behind the top is laid: its equation alone would have some 10 MB -/
def PySem.W.Fast.tw2626507124698791095 : Unit := ()
def PySem.W.Fast.tw12875847645729566795 : Unit := ()
def PySem.W.Fast.tw6179805504094799278 : Unit := ()
def PySem.W.Fast.tw17402438794423898162 : Unit := ()
def PySem.W.Fast.tw17771076257787278446 : Unit := ()
def PySem.W.Fast.tw931392069801015491 : Unit := ()
def PySem.W.Fast.tw13897336145597061324 : Unit := ()
def PySem.W.Fast.tw8432078194747689904 : Unit := ()
def PySem.W.Fast.tw17319721667678656954 : Unit := ()
def PySem.W.Fast.tw15699644914971365991 : Unit := ()
def PySem.W.Fast.tw7236359266139251400 : Unit := ()
def PySem.W.Fast.tw15129364080179408769 : Unit := ()
def PySem.W.Fast.tw12545114789670805891 : Unit := ()
def PySem.W.Fast.tw1831418088571570280 : Unit := ()
def PySem.W.Fast.tw12211296359507731482 : Unit := ()
def PySem.W.Fast.tw1668337394500006155 : Unit := ()
def PySem.W.Fast.tw8667887001558514543 : Unit := ()
def PySem.W.Fast.tw6007243156466706013 : Unit := ()
def PySem.W.Fast.tw5079277305312788545 : Unit := ()
def PySem.W.Fast.tw4500832465182074898 : Unit := ()
def PySem.W.Fast.tw9051644028141351712 : Unit := ()
def PySem.W.Fast.tw11055018904396271059 : Unit := ()
def PySem.W.Fast.tw9886645425669698462 : Unit := ()
def PySem.W.Fast.tw10876459668091064422 : Unit := ()
def PySem.W.Fast.tw4866017070531659757 : Unit := ()
def PySem.W.Fast.tw16071174138928295618 : Unit := ()
def PySem.W.Fast.tw2781076478050377713 : Unit := ()
def PySem.W.Fast.tw7508455340253088708 : Unit := ()
def PySem.W.Fast.tw13442178742282097727 : Unit := ()
def PySem.W.Fast.tw7920913238803786295 : Unit := ()
def PySem.W.Fast.tw5123374632524179695 : Unit := ()
def PySem.W.Fast.tw17767054683968339918 : Unit := ()
def PySem.W.Fast.tw7008679101695763691 : Unit := ()
def PySem.W.Fast.tw1879710093331526582 : Unit := ()
def PySem.W.Fast.tw3442291501717325672 : Unit := ()
def PySem.W.Fast.tw13726853253108988551 : Unit := ()
def PySem.W.Fast.tw2449947573853423378 : Unit := ()
def PySem.W.Fast.tw4467032162666847950 : Unit := ()
def PySem.W.Fast.tw10160919928995626439 : Unit := ()
def PySem.W.Fast.tw12118020489865393338 : Unit := ()
def PySem.W.Fast.tw9135299087108067691 : Unit := ()
def PySem.W.Fast.tw2340940265938197854 : Unit := ()
def PySem.W.Fast.tw2376783915297057276 : Unit := ()
def PySem.W.Fast.tw2699314228654847057 : Unit := ()
def PySem.W.Fast.tw16620925870462197704 : Unit := ()
def PySem.W.Fast.tw13441887372119665504 : Unit := ()
def PySem.W.Fast.tw8787565202744604144 : Unit := ()
def PySem.W.Fast.tw1096273932040495338 : Unit := ()
def PySem.W.Fast.tw16624413805046492550 : Unit := ()
def PySem.W.Fast.tw2002660727069572795 : Unit := ()
def PySem.W.Fast.tw11063019956562818806 : Unit := ()
def PySem.W.Fast.tw9289347174539516288 : Unit := ()
def PySem.W.Fast.tw12574310083342771361 : Unit := ()
def PySem.W.Fast.tw14304080692382159367 : Unit := ()
def PySem.W.Fast.tw3107556825171427241 : Unit := ()
def PySem.W.Fast.tw16780568479138553463 : Unit := ()
def PySem.W.Fast.tw992450696354845416 : Unit := ()
def PySem.W.Fast.tw11246849146060485768 : Unit := ()
def PySem.W.Fast.tw10033020766982948707 : Unit := ()
def PySem.W.Fast.tw6712820278374405662 : Unit := ()
def PySem.W.Fast.tw10272490188236319632 : Unit := ()
def PySem.W.Fast.tw9781458426975983510 : Unit := ()
def PySem.W.Fast.tw9185169445187416293 : Unit := ()
def PySem.W.Fast.tw13971978100038503696 : Unit := ()
def PySem.W.Fast.tw15140239513717670585 : Unit := ()
def PySem.W.Fast.tw10700809055477596437 : Unit := ()
def PySem.W.Fast.tw11984591475318821522 : Unit := ()
def PySem.W.Fast.tw5891164418678543572 : Unit := ()
def PySem.W.Fast.tw6583854663768210826 : Unit := ()
def PySem.W.Fast.tw17242636684314164270 : Unit := ()
def PySem.W.Fast.tw8643662233821302944 : Unit := ()
def PySem.W.Fast.tw4441388052562898725 : Unit := ()
def PySem.W.Fast.tw12079436758468028645 : Unit := ()
def PySem.W.Fast.tw11796849534376873364 : Unit := ()
def PySem.W.Fast.tw2631294227722324845 : Unit := ()
def PySem.W.Fast.tw7418706942683001740 : Unit := ()
def PySem.W.Fast.tw9439496846039402420 : Unit := ()
def PySem.W.Fast.tw9153204574052224739 : Unit := ()
def PySem.W.Fast.tw101836776667965998 : Unit := ()
def PySem.W.Fast.tw2041948746840013747 : Unit := ()
def PySem.W.Fast.tw1327324927858760191 : Unit := ()
def PySem.W.Fast.tw15460505416496584341 : Unit := ()
def PySem.W.Fast.tw3899339595874297170 : Unit := ()
def PySem.W.Fast.tw12633425591167313128 : Unit := ()
def PySem.W.Fast.tw7813310496341140451 : Unit := ()
def PySem.W.Fast.tw781386772353772242 : Unit := ()
def PySem.W.Fast.tw10983080724316153723 : Unit := ()
def PySem.W.Fast.tw761484602789804518 : Unit := ()
def PySem.W.Fast.tw7454198954144979497 : Unit := ()
def PySem.W.Fast.tw14004060323978888406 : Unit := ()
def PySem.W.Fast.tw12656034767657646242 : Unit := ()
def PySem.W.Fast.tw16666414826937435160 : Unit := ()
def PySem.W.Fast.tw11052028727899982281 : Unit := ()
def PySem.W.Fast.tw16821207938581377115 : Unit := ()
def PySem.W.Fast.tw16290852662612907066 : Unit := ()
def PySem.W.Fast.tw10626233785775490678 : Unit := ()
def PySem.W.Fast.tw9241053811794261269 : Unit := ()
def PySem.W.Fast.tw12313967242853342136 : Unit := ()
def PySem.W.Fast.tw12412900956885192486 : Unit := ()
def PySem.W.Fast.tw5799959927455652480 : Unit := ()
def PySem.W.Fast.tw3555538932151676719 : Unit := ()
def PySem.W.Fast.tw15223800585411738973 : Unit := ()
def PySem.W.Fast.tw10060982496230356974 : Unit := ()
def PySem.W.Fast.tw1472906825545525352 : Unit := ()
def PySem.W.Fast.tw8043487169624169086 : Unit := ()
def PySem.W.Fast.tw7858733269394466696 : Unit := ()
def PySem.W.Fast.tw17448324837268470557 : Unit := ()
def PySem.W.Fast.tw16559551746617080082 : Unit := ()
def PySem.W.Fast.tw5573326003036436403 : Unit := ()
def PySem.W.Fast.tw17723204167251772940 : Unit := ()
def PySem.W.Fast.tw15387830701340426012 : Unit := ()
def PySem.W.Fast.tw14269903678037800436 : Unit := ()
def PySem.W.Fast.tw5079136378170113381 : Unit := ()
def PySem.W.Fast.tw10918990739372645475 : Unit := ()
def PySem.W.Fast.tw13599871931934122939 : Unit := ()
def PySem.W.Fast.tw10401905375742571712 : Unit := ()
def PySem.W.Fast.tw15584525237294654380 : Unit := ()
def PySem.W.Fast.tw9168471760519902966 : Unit := ()
def PySem.W.Fast.tw8343509513643488900 : Unit := ()
def PySem.W.Fast.tw17012119866015373418 : Unit := ()
def PySem.W.Fast.tw2566321523437140667 : Unit := ()
def PySem.W.Fast.tw14426417029057631831 : Unit := ()
def PySem.W.Fast.tw2389805423331831558 : Unit := ()
def PySem.W.Fast.tw2863451950428913701 : Unit := ()
def PySem.W.Fast.tw11950810602048954332 : Unit := ()
def PySem.W.Fast.tw4140610598063381368 : Unit := ()
def PySem.W.Fast.tw1654921491424724133 : Unit := ()
def PySem.W.Fast.tw11247515482803660768 : Unit := ()
def PySem.W.Fast.tw4780410540169191769 : Unit := ()
def PySem.W.Fast.tw16393043136703338154 : Unit := ()
def PySem.W.Fast.tw10797761701725384291 : Unit := ()
def PySem.W.Fast.tw4388305460096542706 : Unit := ()
def PySem.W.Fast.tw8340707512498307339 : Unit := ()
def PySem.W.Fast.tw6222895626847975871 : Unit := ()
def PySem.W.Fast.tw17337491797549800795 : Unit := ()
def PySem.W.Fast.tw2234893480430911275 : Unit := ()
def PySem.W.Fast.tw11596833168486190426 : Unit := ()
def PySem.W.Fast.tw5566145358796482676 : Unit := ()
def PySem.W.Fast.tw15508199426672199785 : Unit := ()
def PySem.W.Fast.tw15913044594194073942 : Unit := ()
def PySem.W.Fast.tw1177824330442145334 : Unit := ()
def PySem.W.Fast.tw16427387779720283160 : Unit := ()
def PySem.W.Fast.tw2497813987258423328 : Unit := ()
def PySem.W.Fast.tw2681234467070037425 : Unit := ()
def PySem.W.Fast.tw950283470908660879 : Unit := ()
def PySem.W.Fast.tw9333312121566253262 : Unit := ()
def PySem.W.Fast.tw1491216320295103177 : Unit := ()
def PySem.W.Fast.tw12189345011194877605 : Unit := ()
def PySem.W.Fast.tw6564744014824687844 : Unit := ()
def PySem.W.Fast.tw18388101819353288250 : Unit := ()
def PySem.W.Fast.tw2274386756759526045 : Unit := ()
def PySem.W.Fast.tw2966300898576220311 : Unit := ()
def PySem.W.Fast.tw18254442592302276 : Unit := ()
def PySem.W.Fast.tw14127690735689803841 : Unit := ()
def PySem.W.Fast.tw13688225584978769162 : Unit := ()
def PySem.W.Fast.tw7078571740914340967 : Unit := ()
def PySem.W.Fast.tw13238565052184220076 : Unit := ()
def PySem.W.Fast.tw8237379353022475414 : Unit := ()
def PySem.W.Fast.tw9515836673990528482 : Unit := ()
def PySem.W.Fast.tw11956820285518956755 : Unit := ()
def PySem.W.Fast.tw10100659943796396091 : Unit := ()
def PySem.W.Fast.tw10519969815450856611 : Unit := ()
def PySem.W.Fast.tw7852449739213628685 : Unit := ()
def PySem.W.Fast.tw12769378697482654769 : Unit := ()
def PySem.W.Fast.tw7227662364339521212 : Unit := ()
def PySem.W.Fast.tw1698213173076053506 : Unit := ()
def PySem.W.Fast.tw11867885671295232344 : Unit := ()
def PySem.W.Fast.tw3851254282440126352 : Unit := ()
def PySem.W.Fast.tw5023669113586479341 : Unit := ()
def PySem.W.Fast.tw9201284270180642338 : Unit := ()
def PySem.W.Fast.tw9781223886009498517 : Unit := ()
def PySem.W.Fast.tw798235839227971589 : Unit := ()
def PySem.W.Fast.tw8708438118329789155 : Unit := ()
def PySem.W.Fast.tw15554507215456842132 : Unit := ()
def PySem.W.Fast.tw12156249068630382316 : Unit := ()
def PySem.W.Fast.tw1934806717789241629 : Unit := ()
def PySem.W.Fast.tw17540351141076434086 : Unit := ()
def PySem.W.Fast.tw837401925310322857 : Unit := ()
def PySem.W.Fast.tw447124061761358615 : Unit := ()
def PySem.W.Fast.tw17181113042817193932 : Unit := ()
def PySem.W.Fast.tw7798675501323354064 : Unit := ()
def PySem.W.Fast.tw18371434053932337615 : Unit := ()
def PySem.W.Fast.tw13467220471426277569 : Unit := ()
def PySem.W.Fast.tw7860099556035264053 : Unit := ()
def PySem.W.Fast.tw3945213553177528678 : Unit := ()
def PySem.W.Fast.tw8001267321937836637 : Unit := ()
def PySem.W.Fast.tw14971590452905685110 : Unit := ()
def PySem.W.Fast.tw1500384391039854272 : Unit := ()
def PySem.W.Fast.tw16252118660442961057 : Unit := ()
def PySem.W.Fast.tw5785389735982275302 : Unit := ()
def PySem.W.Fast.tw8685989214361857887 : Unit := ()
def PySem.W.Fast.tw12635318856157507372 : Unit := ()
def PySem.W.Fast.tw8351203886164079860 : Unit := ()
def PySem.W.Fast.tw3728814573260021432 : Unit := ()
def PySem.W.Fast.tw8845030772382986333 : Unit := ()
def PySem.W.Fast.tw13941570159083389546 : Unit := ()
def PySem.W.Fast.tw147643505430179342 : Unit := ()
def PySem.W.Fast.tw11922807756225131712 : Unit := ()
def PySem.W.Fast.tw14828682154689804228 : Unit := ()
def PySem.W.Fast.tw13734280722302015784 : Unit := ()
def PySem.W.Fast.tw15369177611394328504 : Unit := ()
def PySem.W.Fast.tw9202173533430289244 : Unit := ()
def PySem.W.Fast.tw6667679933995540467 : Unit := ()
def PySem.W.Fast.tw17323761297074644551 : Unit := ()
def PySem.W.Fast.tw5888868473957066750 : Unit := ()
def PySem.W.Fast.tw1633807131772854933 : Unit := ()
def PySem.W.Fast.tw3312392359692484540 : Unit := ()
def PySem.W.Fast.tw2391696888914376016 : Unit := ()
def PySem.W.Fast.tw10313071421206005345 : Unit := ()
def PySem.W.Fast.tw16240646883860862974 : Unit := ()
def PySem.W.Fast.tw13711730011646873853 : Unit := ()
def PySem.W.Fast.tw1262113399337427652 : Unit := ()
def PySem.W.Fast.tw7005877007431719978 : Unit := ()
def PySem.W.Fast.tw18024856218125892009 : Unit := ()
def PySem.W.Fast.tw3855374014658306944 : Unit := ()
def PySem.W.Fast.tw12566429051770579964 : Unit := ()
def PySem.W.Fast.tw11661537363168979573 : Unit := ()
def PySem.W.Fast.tw1400482658098091663 : Unit := ()
def PySem.W.Fast.tw6200422575373439000 : Unit := ()
def PySem.W.Fast.tw13001236405383018618 : Unit := ()
def PySem.W.Fast.tw9640043078770557746 : Unit := ()
def PySem.W.Fast.tw601371451680825626 : Unit := ()
def PySem.W.Fast.tw4334406249665985658 : Unit := ()
def PySem.W.Fast.tw13532682486420988561 : Unit := ()
def PySem.W.Fast.tw208576709108261347 : Unit := ()
def PySem.W.Fast.tw1317891821085883661 : Unit := ()
def PySem.W.Fast.tw16251854389243810018 : Unit := ()
def PySem.W.Fast.tw13564550373452909816 : Unit := ()
def PySem.W.Fast.tw4041628151006059099 : Unit := ()
def PySem.W.Fast.tw10086754173597170153 : Unit := ()
def PySem.W.Fast.tw7862496926426041857 : Unit := ()
def PySem.W.Fast.tw2845519944200271800 : Unit := ()
def PySem.W.Fast.tw18007177329450054795 : Unit := ()
def PySem.W.Fast.tw16987898528042359299 : Unit := ()
def PySem.W.Fast.tw6700698684019559603 : Unit := ()
def PySem.W.Fast.tw3494149179912539180 : Unit := ()
def PySem.W.Fast.tw16867120726523799273 : Unit := ()
def PySem.W.Fast.tw10330178262358800897 : Unit := ()
def PySem.W.Fast.tw927039424535355747 : Unit := ()
def PySem.W.Fast.tw12530185263893961295 : Unit := ()
def PySem.W.Fast.tw6964891244815351509 : Unit := ()
def PySem.W.Fast.tw1216300750273972666 : Unit := ()
def PySem.W.Fast.tw11413163385336310661 : Unit := ()
def PySem.W.Fast.tw10599229100140325654 : Unit := ()
def PySem.W.Fast.tw3005104557800352918 : Unit := ()
def PySem.W.Fast.tw4275320808364159386 : Unit := ()
def PySem.W.Fast.tw15042673268228907141 : Unit := ()
def PySem.W.Fast.tw5187712716005758699 : Unit := ()
def PySem.W.Fast.tw15255472310243258847 : Unit := ()
def PySem.W.Fast.tw8719470848589195249 : Unit := ()
def PySem.W.Fast.tw2049574820306119709 : Unit := ()
def PySem.W.Fast.tw5276250677777594290 : Unit := ()
def PySem.W.Fast.tw6780418967951428072 : Unit := ()
def PySem.W.Fast.tw4886636089589215496 : Unit := ()
def PySem.W.Fast.tw3093696380173317422 : Unit := ()
def PySem.W.Fast.tw3977045670222112656 : Unit := ()
def PySem.W.Fast.tw5813162832640404724 : Unit := ()
def PySem.W.Fast.tw13777375584099513047 : Unit := ()
def PySem.W.Fast.tw7755104481788564208 : Unit := ()
def PySem.W.Fast.tw18226828125147263377 : Unit := ()
def PySem.W.Fast.tw6221356671966212809 : Unit := ()
def PySem.W.Fast.tw17871215839044428253 : Unit := ()
def PySem.W.Fast.tw3742698035463599728 : Unit := ()
def PySem.W.Fast.tw9395980736498654385 : Unit := ()
def PySem.W.Fast.tw7510832459041391345 : Unit := ()
def PySem.W.Fast.tw8334626217825976973 : Unit := ()
def PySem.W.Fast.tw7550349855218409657 : Unit := ()
def PySem.W.Fast.tw18102563504147542575 : Unit := ()
def PySem.W.Fast.tw2399048285441079329 : Unit := ()
def PySem.W.Fast.tw4080725569431895731 : Unit := ()
def PySem.W.Fast.tw14873168223408174468 : Unit := ()
def PySem.W.Fast.tw4007129685033894454 : Unit := ()
def PySem.W.Fast.tw3519691042492213666 : Unit := ()
def PySem.W.Fast.tw7262119206485579857 : Unit := ()
def PySem.W.Fast.tw11263743437507784325 : Unit := ()
def PySem.W.Fast.tw14631064143907479677 : Unit := ()
def PySem.W.Fast.tw12109059313458501076 : Unit := ()
def PySem.W.Fast.tw10811041431383052335 : Unit := ()
def PySem.W.Fast.tw6663564157204347153 : Unit := ()
def PySem.W.Fast.tw13400764074906723881 : Unit := ()
def PySem.W.Fast.tw743852203407143624 : Unit := ()
def PySem.W.Fast.tw8591685633012161595 : Unit := ()
def PySem.W.Fast.tw10327070031211680235 : Unit := ()
def PySem.W.Fast.tw9706346521315629016 : Unit := ()
def PySem.W.Fast.tw8761969167519519897 : Unit := ()
def PySem.W.Fast.tw8681325623841796779 : Unit := ()
def PySem.W.Fast.tw18430875850258853400 : Unit := ()
def PySem.W.Fast.tw11960239376601125431 : Unit := ()
def PySem.W.Fast.tw17223529143042026675 : Unit := ()
def PySem.W.Fast.tw7409693356412884316 : Unit := ()
def PySem.W.Fast.tw2170094670059216258 : Unit := ()
def PySem.W.Fast.tw17160617093108031456 : Unit := ()
def PySem.W.Fast.tw7130708873382119304 : Unit := ()
def PySem.W.Fast.tw2987564634766903669 : Unit := ()
def PySem.W.Fast.tw10924431680142863751 : Unit := ()
def PySem.W.Fast.tw15766541561212815877 : Unit := ()
def PySem.W.Fast.tw9838547537945114806 : Unit := ()
def PySem.W.Fast.tw14935319407791852902 : Unit := ()
def PySem.W.Fast.tw5388553710944236096 : Unit := ()
def PySem.W.Fast.tw10733051274442450342 : Unit := ()
def PySem.W.Fast.tw12324986357808405863 : Unit := ()
def PySem.W.Fast.tw2912097370452248011 : Unit := ()
def PySem.W.Fast.tw930691298187755325 : Unit := ()
def PySem.W.Fast.tw17850785358973956270 : Unit := ()
def PySem.W.Fast.tw1785600800167262278 : Unit := ()
def PySem.W.Fast.tw16553492916063976415 : Unit := ()
def PySem.W.Fast.tw5666208510654402712 : Unit := ()
def PySem.W.Fast.tw17605235045584457924 : Unit := ()
def PySem.W.Fast.tw11098860893913422434 : Unit := ()
def PySem.W.Fast.tw14436329376595305718 : Unit := ()
def PySem.W.Fast.tw15432761524099927873 : Unit := ()
def PySem.W.Fast.tw4326075582840553849 : Unit := ()
def PySem.W.Fast.tw17429863104037123108 : Unit := ()
def PySem.W.Fast.tw3241516591230164425 : Unit := ()
def PySem.W.Fast.tw11700517418409332059 : Unit := ()
def PySem.W.Fast.tw16996656455142812294 : Unit := ()
def PySem.W.Fast.tw7754290459129099834 : Unit := ()
def PySem.W.Fast.tw11701397405609919427 : Unit := ()
def PySem.W.Fast.tw8769653606854667099 : Unit := ()
def PySem.W.Fast.tw16423619066087689774 : Unit := ()
def PySem.W.Fast.tw14246620853113474647 : Unit := ()
def PySem.W.Fast.tw16081429492129401928 : Unit := ()
def PySem.W.Fast.tw12146575659673421458 : Unit := ()
def PySem.W.Fast.tw10972238743390352579 : Unit := ()
def PySem.W.Fast.tw3061978824408097653 : Unit := ()
def PySem.W.Fast.tw7156710060388769622 : Unit := ()
def PySem.W.Fast.tw2683874953307534754 : Unit := ()
def PySem.W.Fast.tw3073185421114818861 : Unit := ()
def PySem.W.Fast.tw14282568873153378619 : Unit := ()
def PySem.W.Fast.tw17192978710127552672 : Unit := ()
def PySem.W.Fast.tw822098027322625920 : Unit := ()
def PySem.W.Fast.tw6652372921058187590 : Unit := ()
def PySem.W.Fast.tw17784882355917485189 : Unit := ()
def PySem.W.Fast.tw5806689399468489752 : Unit := ()
def PySem.W.Fast.tw15692297599111075740 : Unit := ()
def PySem.W.Fast.tw7999744495625570678 : Unit := ()
def PySem.W.Fast.tw2714963370433355480 : Unit := ()
def PySem.W.Fast.tw7072935446477774251 : Unit := ()
def PySem.W.Fast.tw5443575077686964825 : Unit := ()
def PySem.W.Fast.tw17432816961627324217 : Unit := ()
def PySem.W.Fast.tw12884895855934901118 : Unit := ()
def PySem.W.Fast.tw8752911213372082443 : Unit := ()
def PySem.W.Fast.tw16680533448777630671 : Unit := ()
def PySem.W.Fast.tw11222681693865476534 : Unit := ()
def PySem.W.Fast.tw7937245482319936336 : Unit := ()
def PySem.W.Fast.tw17296029895143857008 : Unit := ()
def PySem.W.Fast.tw12444978376567527346 : Unit := ()
def PySem.W.Fast.tw425405755616929760 : Unit := ()
def PySem.W.Fast.tw16510233988726091581 : Unit := ()
def PySem.W.Fast.tw1780047235238637474 : Unit := ()
def PySem.W.Fast.tw17833262285453272343 : Unit := ()
def PySem.W.Fast.tw9764059260825823019 : Unit := ()
def PySem.W.Fast.tw7151841587775419743 : Unit := ()
def PySem.W.Fast.tw3514800279487575621 : Unit := ()
def PySem.W.Fast.tw15538626496832246742 : Unit := ()
def PySem.W.Fast.tw5916431144311329681 : Unit := ()
def PySem.W.Fast.tw12745799085472332313 : Unit := ()
def PySem.W.Fast.tw1593763148764832700 : Unit := ()
def PySem.W.Fast.tw2345729621556182914 : Unit := ()
def PySem.W.Fast.tw1947528109955147370 : Unit := ()
def PySem.W.Fast.tw6216980004604665941 : Unit := ()
def PySem.W.Fast.tw11416048731583730791 : Unit := ()
def PySem.W.Fast.tw17290168190958514782 : Unit := ()
def PySem.W.Fast.tw14783301112447232461 : Unit := ()
def PySem.W.Fast.tw10963877494178574925 : Unit := ()
def PySem.W.Fast.tw5870956460186690642 : Unit := ()
def PySem.W.Fast.tw8740741791088922461 : Unit := ()
def PySem.W.Fast.tw18058980262483715127 : Unit := ()
def PySem.W.Fast.tw16639508540939089830 : Unit := ()
def PySem.W.Fast.tw8776072671878789537 : Unit := ()
def PySem.W.Fast.tw1737816857923576418 : Unit := ()
def PySem.W.Fast.tw12567158902558796234 : Unit := ()
def PySem.W.Fast.tw13429096590288278890 : Unit := ()
def PySem.W.Fast.tw2997611834812781790 : Unit := ()
def PySem.W.Fast.tw8852912228220937081 : Unit := ()
def PySem.W.Fast.tw9360261940793381487 : Unit := ()
def PySem.W.Fast.tw12621644521473376675 : Unit := ()
def PySem.W.Fast.tw17296378055783947686 : Unit := ()
def PySem.W.Fast.tw3028668325037439562 : Unit := ()
def PySem.W.Fast.tw7174079562436428094 : Unit := ()
def PySem.W.Fast.tw12984063812999876510 : Unit := ()
def PySem.W.Fast.tw1493393188765717247 : Unit := ()
def PySem.W.Fast.tw1839782318697538755 : Unit := ()
def PySem.W.Fast.tw2617067561060737039 : Unit := ()
def PySem.W.Fast.tw11223661599979475981 : Unit := ()
def PySem.W.Fast.tw7351340230748290923 : Unit := ()
def PySem.W.Fast.tw4858730440457966 : Unit := ()
def PySem.W.Fast.tw17741184634278155585 : Unit := ()
def PySem.W.Fast.tw7779179661028843340 : Unit := ()
def PySem.W.Fast.tw8477629654692076481 : Unit := ()
def PySem.W.Fast.tw17743339920862692704 : Unit := ()
def PySem.W.Fast.tw6498904207160241967 : Unit := ()
def PySem.W.Fast.tw15669393734015428475 : Unit := ()
def PySem.W.Fast.tw17360616151775855637 : Unit := ()
def PySem.W.Fast.tw145007108212327254 : Unit := ()
def PySem.W.Fast.tw4608806333343772875 : Unit := ()
def PySem.W.Fast.tw12175777335208037454 : Unit := ()
def PySem.W.Fast.tw15182912812414239309 : Unit := ()
def PySem.W.Fast.tw7257782466596603198 : Unit := ()
def PySem.W.Fast.tw16248046397588482615 : Unit := ()
def PySem.W.Fast.tw8620317186995181342 : Unit := ()
def PySem.W.Fast.tw15370923927117969213 : Unit := ()
def PySem.W.Fast.tw9303631069916889044 : Unit := ()
def PySem.W.Fast.tw14888168517974738307 : Unit := ()
def PySem.W.Fast.tw2056050839082481350 : Unit := ()
def PySem.W.Fast.tw660764287690449449 : Unit := ()
def PySem.W.Fast.tw14184415510068057983 : Unit := ()
def PySem.W.Fast.tw9780619791009894403 : Unit := ()
def PySem.W.Fast.tw10844033125744169103 : Unit := ()
def PySem.W.Fast.tw10868170425787088559 : Unit := ()
def PySem.W.Fast.tw2932762708050012238 : Unit := ()
def PySem.W.Fast.tw14025467430414043548 : Unit := ()
def PySem.W.Fast.tw4730285631316459433 : Unit := ()
def PySem.W.Fast.tw6240365208758209006 : Unit := ()
def PySem.W.Fast.tw9193842282988871101 : Unit := ()
def PySem.W.Fast.tw5936463360264008260 : Unit := ()
def PySem.W.Fast.tw8299691269451565537 : Unit := ()
def PySem.W.Fast.tw15049741365162874303 : Unit := ()
def PySem.W.Fast.tw2039243967085197015 : Unit := ()
def PySem.W.Fast.tw12026985996407681121 : Unit := ()
def PySem.W.Fast.tw15257825357993322799 : Unit := ()
def PySem.W.Fast.tw8796014797441881046 : Unit := ()
def PySem.W.Fast.tw12426572087018228422 : Unit := ()
def PySem.W.Fast.tw550495095700589523 : Unit := ()
def PySem.W.Fast.tw18423384702360202436 : Unit := ()
def PySem.W.Fast.tw12881749173200085605 : Unit := ()
def PySem.W.Fast.tw12228499150122320286 : Unit := ()
def PySem.W.Fast.tw8555106100609380939 : Unit := ()
def PySem.W.Fast.tw14963746399503479945 : Unit := ()
def PySem.W.Fast.tw8215809719729486454 : Unit := ()
def PySem.W.Fast.tw17715193242144571844 : Unit := ()
def PySem.W.Fast.tw442460147792283008 : Unit := ()
def PySem.W.Fast.tw10436265057062547688 : Unit := ()
def PySem.W.Fast.tw17947944801915262213 : Unit := ()
def PySem.W.Fast.tw16221201212851828501 : Unit := ()
def PySem.W.Fast.tw16940049895699012978 : Unit := ()
def PySem.W.Fast.tw14904390379657579556 : Unit := ()
def PySem.W.Fast.tw10850274760745403494 : Unit := ()
def PySem.W.Fast.tw11127446549419478476 : Unit := ()
def PySem.W.Fast.tw12626139843984030812 : Unit := ()
def PySem.W.Fast.tw5191696856505625453 : Unit := ()
def PySem.W.Fast.tw14579266792485806000 : Unit := ()
def PySem.W.Fast.tw9138914199593970071 : Unit := ()
def PySem.W.Fast.tw10896107444898665993 : Unit := ()
def PySem.W.Fast.tw12679611084826639080 : Unit := ()
def PySem.W.Fast.tw13478976580544475258 : Unit := ()
def PySem.W.Fast.tw16555484273704870691 : Unit := ()
def PySem.W.Fast.tw7471404759963043705 : Unit := ()
def PySem.W.Fast.tw17783010185576188230 : Unit := ()
def PySem.W.Fast.tw12747563845868687712 : Unit := ()
def PySem.W.Fast.tw8199339029286785827 : Unit := ()
def PySem.W.Fast.tw18396914623087768284 : Unit := ()
def PySem.W.Fast.tw3332699456340260303 : Unit := ()
def PySem.W.Fast.tw6968457526884199099 : Unit := ()
def PySem.W.Fast.tw12847123819957075685 : Unit := ()
def PySem.W.Fast.tw10085578007338362592 : Unit := ()
def PySem.W.Fast.tw16459266258773915711 : Unit := ()
def PySem.W.Fast.tw14485844595436037742 : Unit := ()
def PySem.W.Fast.tw3118888737123207166 : Unit := ()
def PySem.W.Fast.tw12463787052362970148 : Unit := ()
def PySem.W.Fast.tw9716448276541057614 : Unit := ()
def PySem.W.Fast.tw12481208003258719988 : Unit := ()
def PySem.W.Fast.tw14936427221526230564 : Unit := ()
def PySem.W.Fast.tw1555986239601009891 : Unit := ()
def PySem.W.Fast.tw15904531815542408806 : Unit := ()
def PySem.W.Fast.tw240749735764771678 : Unit := ()
def PySem.W.Fast.tw4661585887593143256 : Unit := ()
def PySem.W.Fast.tw7642369080139927081 : Unit := ()
def PySem.W.Fast.tw9083593175718221013 : Unit := ()
def PySem.W.Fast.tw4935306347861021868 : Unit := ()
def PySem.W.Fast.tw127779969116380981 : Unit := ()
def PySem.W.Fast.tw13951095195748401237 : Unit := ()
def PySem.W.Fast.tw15953698325916833871 : Unit := ()
def PySem.W.Fast.tw779209415158474773 : Unit := ()
def PySem.W.Fast.tw593361069885525147 : Unit := ()
def PySem.W.Fast.tw9205081467821349195 : Unit := ()
def PySem.W.Fast.tw14637912716759332306 : Unit := ()
def PySem.W.Fast.tw5714497042796305920 : Unit := ()
def PySem.W.Fast.tw8981670702056924663 : Unit := ()
def PySem.W.Fast.tw14175695361274108729 : Unit := ()
def PySem.W.Fast.tw7562201830587124564 : Unit := ()
def PySem.W.Fast.tw1223265451003243278 : Unit := ()
def PySem.W.Fast.tw12421319475373025048 : Unit := ()
def PySem.W.Fast.tw16807497562553945863 : Unit := ()
def PySem.W.Fast.tw14430905583860285548 : Unit := ()
def PySem.W.Fast.tw513479475027918746 : Unit := ()
def PySem.W.Fast.tw2637803683397306595 : Unit := ()
def PySem.W.Fast.tw6997613256398901587 : Unit := ()
def PySem.W.Fast.tw11928659419382819055 : Unit := ()
def PySem.W.Fast.tw17091626843066660678 : Unit := ()
def PySem.W.Fast.tw2538690334979766791 : Unit := ()
def PySem.W.Fast.tw1333915925106924882 : Unit := ()
def PySem.W.Fast.tw8681141741198370066 : Unit := ()
def PySem.W.Fast.tw6950321319677868432 : Unit := ()
def PySem.W.Fast.tw15189309983550821371 : Unit := ()
def PySem.W.Fast.tw15884205519274987909 : Unit := ()
def PySem.W.Fast.tw18330190317133249653 : Unit := ()
def PySem.W.Fast.tw5509393344144588538 : Unit := ()
def PySem.W.Fast.tw2480605691615090708 : Unit := ()
def PySem.W.Fast.tw3849136861526288738 : Unit := ()
def PySem.W.Fast.tw6216522970821767653 : Unit := ()
def PySem.W.Fast.tw12090694991482534192 : Unit := ()
def PySem.W.Fast.tw13692909291710741913 : Unit := ()
def PySem.W.Fast.tw828550797552086530 : Unit := ()
def PySem.W.Fast.tw4038978302994062966 : Unit := ()
def PySem.W.Fast.tw10291754973119416564 : Unit := ()
def PySem.W.Fast.tw261788257774077395 : Unit := ()
def PySem.W.Fast.tw4972475349530406858 : Unit := ()
def PySem.W.Fast.tw17796435217459067780 : Unit := ()
def PySem.W.Fast.tw172173565680067567 : Unit := ()
def PySem.W.Fast.tw8308999345734764606 : Unit := ()
def PySem.W.Fast.tw7173953344736589986 : Unit := ()
def PySem.W.Fast.tw15640430990262323478 : Unit := ()
def PySem.W.Fast.tw6090388108071167975 : Unit := ()
def PySem.W.Fast.tw997338020737909167 : Unit := ()
def PySem.W.Fast.tw1320508767908135636 : Unit := ()
def PySem.W.Fast.tw5200709947569081 : Unit := ()
def PySem.W.Fast.tw12351941132265608311 : Unit := ()
def PySem.W.Fast.tw10375337869291814718 : Unit := ()
def PySem.W.Fast.tw14325364246126974544 : Unit := ()
def PySem.W.Fast.tw3626730197470962534 : Unit := ()
def PySem.W.Fast.tw323987944159944250 : Unit := ()
def PySem.W.Fast.tw9209114906775908323 : Unit := ()
def PySem.W.Fast.tw11471556726113387026 : Unit := ()
def PySem.W.Fast.tw6080158916889072507 : Unit := ()
def PySem.W.Fast.tw2320371044519245509 : Unit := ()
def PySem.W.Fast.tw12766989691831502844 : Unit := ()
def PySem.W.Fast.tw1671692777174669663 : Unit := ()
def PySem.W.Fast.tw2633550687034317614 : Unit := ()
def PySem.W.Fast.tw11488734471303266837 : Unit := ()
def PySem.W.Fast.tw7469061883259278292 : Unit := ()
def PySem.W.Fast.tw2245992853118015979 : Unit := ()
def PySem.W.Fast.tw15870272999461460516 : Unit := ()
def PySem.W.Fast.tw12876206928481882691 : Unit := ()
def PySem.W.Fast.tw568152639977060955 : Unit := ()
def PySem.W.Fast.tw1149757129290195995 : Unit := ()
def PySem.W.Fast.tw15758426274355644889 : Unit := ()
def PySem.W.Fast.tw6379721133668857015 : Unit := ()
def PySem.W.Fast.tw3283537246023378820 : Unit := ()
def PySem.W.Fast.tw14691625635044861679 : Unit := ()
def PySem.W.Fast.tw4173976692104969924 : Unit := ()
def PySem.W.Fast.tw2797614401560711879 : Unit := ()
def PySem.W.Fast.tw9764984034028216401 : Unit := ()
def PySem.W.Fast.tw4572438753627518420 : Unit := ()
def PySem.W.Fast.tw1295597972463108358 : Unit := ()
def PySem.W.Fast.tw2442041751996653980 : Unit := ()
def PySem.W.Fast.tw4358232753725951854 : Unit := ()
def PySem.W.Fast.tw236765859817807157 : Unit := ()
def PySem.W.Fast.tw8627204731834068534 : Unit := ()
def PySem.W.Fast.tw4232341456246893824 : Unit := ()
def PySem.W.Fast.tw4409267810273345151 : Unit := ()
def PySem.W.Fast.tw11755381248515349201 : Unit := ()
def PySem.W.Fast.tw15796042695652751878 : Unit := ()
def PySem.W.Fast.tw1253683952273225105 : Unit := ()
def PySem.W.Fast.tw7194938999102263868 : Unit := ()
def PySem.W.Fast.tw11543434668979480279 : Unit := ()
def PySem.W.Fast.tw13345772849203796269 : Unit := ()
def PySem.W.Fast.tw18221403931419733220 : Unit := ()
def PySem.W.Fast.tw1062156364797926603 : Unit := ()
def PySem.W.Fast.tw10776037928557853869 : Unit := ()
def PySem.W.Fast.tw7015326101417287750 : Unit := ()
def PySem.W.Fast.tw4526228978242070726 : Unit := ()
def PySem.W.Fast.tw4977614373406755944 : Unit := ()
def PySem.W.Fast.tw16979800929393144363 : Unit := ()
def PySem.W.Fast.tw6154581161673800775 : Unit := ()
def PySem.W.Fast.tw13714742152305354919 : Unit := ()
def PySem.W.Fast.tw15649610034211138510 : Unit := ()
def PySem.W.Fast.tw10587590838553662991 : Unit := ()
def PySem.W.Fast.tw3867324355308314327 : Unit := ()
def PySem.W.Fast.tw11432328148590268958 : Unit := ()
def PySem.W.Fast.tw9825680529845343882 : Unit := ()
def PySem.W.Fast.tw11516255615998173217 : Unit := ()
def PySem.W.Fast.tw11725793889258200133 : Unit := ()
def PySem.W.Fast.tw18138210327040827212 : Unit := ()
def PySem.W.Fast.tw16454955122960280982 : Unit := ()
def PySem.W.Fast.tw12773572101785314117 : Unit := ()
def PySem.W.Fast.tw4473183826730625562 : Unit := ()
def PySem.W.Fast.tw6124373645758491777 : Unit := ()
def PySem.W.Fast.tw7153874439275528217 : Unit := ()
def PySem.W.Fast.tw7548298288910271647 : Unit := ()
def PySem.W.Fast.tw10710223652561941720 : Unit := ()
def PySem.W.Fast.tw7921578636641346606 : Unit := ()
def PySem.W.Fast.tw11419430182735373609 : Unit := ()
def PySem.W.Fast.tw15342022844352509157 : Unit := ()
def PySem.W.Fast.tw6860002680455485172 : Unit := ()
def PySem.W.Fast.tw11896964318606674210 : Unit := ()
def PySem.W.Fast.tw7961368449880407103 : Unit := ()
def PySem.W.Fast.tw10675915912709172361 : Unit := ()
def PySem.W.Fast.tw5132185306843384765 : Unit := ()
def PySem.W.Fast.tw10044276837413517444 : Unit := ()
def PySem.W.Fast.tw10595465255354106524 : Unit := ()
def PySem.W.Fast.tw2538291973788763917 : Unit := ()
def PySem.W.Fast.tw11034554881954582707 : Unit := ()
def PySem.W.Fast.tw14209068355199606844 : Unit := ()
def PySem.W.Fast.tw7165407924074622866 : Unit := ()
def PySem.W.Fast.tw9582260877021913697 : Unit := ()
def PySem.W.Fast.tw10217615605341459048 : Unit := ()
def PySem.W.Fast.tw2810621992055184513 : Unit := ()
def PySem.W.Fast.tw1883762743247737076 : Unit := ()
def PySem.W.Fast.tw11043119829986436653 : Unit := ()
def PySem.W.Fast.tw2929278327897090501 : Unit := ()
def PySem.W.Fast.tw15257336129274423384 : Unit := ()
def PySem.W.Fast.tw13596667939959085145 : Unit := ()
def PySem.W.Fast.tw4469996231987255510 : Unit := ()
def PySem.W.Fast.tw10065335100340625821 : Unit := ()
def PySem.W.Fast.tw14564560529317100553 : Unit := ()
def PySem.W.Fast.tw8468722880277535864 : Unit := ()
def PySem.W.Fast.tw5358246124477958606 : Unit := ()
def PySem.W.Fast.tw12041587741141366910 : Unit := ()
def PySem.W.Fast.tw981568940290499648 : Unit := ()
def PySem.W.Fast.tw13770323189719140173 : Unit := ()
def PySem.W.Fast.tw10313243233309682361 : Unit := ()
def PySem.W.Fast.tw6141666349385425162 : Unit := ()
def PySem.W.Fast.tw11411141943427531678 : Unit := ()
def PySem.W.Fast.tw12597607759624658876 : Unit := ()
def PySem.W.Fast.tw2251839999703298623 : Unit := ()
def PySem.W.Fast.tw96782180939742819 : Unit := ()
def PySem.W.Fast.tw10669719110382662283 : Unit := ()
def PySem.W.Fast.tw8683165653712227297 : Unit := ()
def PySem.W.Fast.tw6271933781637638424 : Unit := ()
def PySem.W.Fast.tw14967825294825428176 : Unit := ()
def PySem.W.Fast.tw5011951850837984750 : Unit := ()
def PySem.W.Fast.tw6929421930183300112 : Unit := ()
def PySem.W.Fast.tw17586479159538353492 : Unit := ()
def PySem.W.Fast.tw11847216091843978490 : Unit := ()
def PySem.W.Fast.tw14953454457944101779 : Unit := ()
def PySem.W.Fast.tw17514817999480737100 : Unit := ()
def PySem.W.Fast.tw15882403237100943062 : Unit := ()
def PySem.W.Fast.tw1429151307254879349 : Unit := ()
def PySem.W.Fast.tw2345616327128861054 : Unit := ()
def PySem.W.Fast.tw16213444476740669491 : Unit := ()
def PySem.W.Fast.tw497484240924089313 : Unit := ()
def PySem.W.Fast.tw4570100545248256775 : Unit := ()
def PySem.W.Fast.tw14558689189912496875 : Unit := ()
def PySem.W.Fast.tw9342660679463124866 : Unit := ()
def PySem.W.Fast.tw7564392108072360963 : Unit := ()
def PySem.W.Fast.tw7881596139363619421 : Unit := ()
def PySem.W.Fast.tw1387541778760884296 : Unit := ()
def PySem.W.Fast.tw17102523596770422929 : Unit := ()
def PySem.W.Fast.tw14313765716423199869 : Unit := ()
def PySem.W.Fast.tw7379387258323344794 : Unit := ()
def PySem.W.Fast.tw2752830572125973284 : Unit := ()
def PySem.W.Fast.tw14486995309454169071 : Unit := ()
def PySem.W.Fast.tw13443115280354768111 : Unit := ()
def PySem.W.Fast.tw6484577554241459937 : Unit := ()
def PySem.W.Fast.tw11623631050497530704 : Unit := ()
def PySem.W.Fast.tw10242193919298152369 : Unit := ()
def PySem.W.Fast.tw4164926258818808605 : Unit := ()
def PySem.W.Fast.tw2906830489221267564 : Unit := ()
def PySem.W.Fast.tw17572296114917993526 : Unit := ()
def PySem.W.Fast.tw2380163915331153049 : Unit := ()
def PySem.W.Fast.tw8279076367817292081 : Unit := ()
def PySem.W.Fast.tw2637932563911453683 : Unit := ()
def PySem.W.Fast.tw3054327205237392883 : Unit := ()
def PySem.W.Fast.tw3295467684248882273 : Unit := ()
def PySem.W.Fast.tw5433688425648535587 : Unit := ()
def PySem.W.Fast.tw9315808710263557322 : Unit := ()
def PySem.W.Fast.tw1708300275941114309 : Unit := ()
def PySem.W.Fast.tw16021629484434549614 : Unit := ()
def PySem.W.Fast.tw8201599630355538386 : Unit := ()
def PySem.W.Fast.tw839161341818351438 : Unit := ()
def PySem.W.Fast.tw4027551959135889685 : Unit := ()
def PySem.W.Fast.tw6462665835408142882 : Unit := ()
def PySem.W.Fast.tw3702691764344138873 : Unit := ()
def PySem.W.Fast.tw4935378955037526650 : Unit := ()
def PySem.W.Fast.tw10707741447598739204 : Unit := ()
def PySem.W.Fast.tw11441184364763356197 : Unit := ()
def PySem.W.Fast.tw15134053232432516911 : Unit := ()
def PySem.W.Fast.tw10860090360499225236 : Unit := ()
def PySem.W.Fast.tw3935523150150813873 : Unit := ()
def PySem.W.Fast.tw4681972834114978933 : Unit := ()
def PySem.W.Fast.tw11842294526344961025 : Unit := ()
def PySem.W.Fast.tw17901259920266692114 : Unit := ()
def PySem.W.Fast.tw10697722011765332280 : Unit := ()
def PySem.W.Fast.tw2324422114756598325 : Unit := ()
def PySem.W.Fast.tw3686824324660409148 : Unit := ()
def PySem.W.Fast.tw3721072832104355590 : Unit := ()
def PySem.W.Fast.tw13200185648243185408 : Unit := ()
def PySem.W.Fast.tw16880462703389685569 : Unit := ()
def PySem.W.Fast.tw12303772042085015817 : Unit := ()
def PySem.W.Fast.tw12171982154882288583 : Unit := ()
def PySem.W.Fast.tw7304686695138566644 : Unit := ()
def PySem.W.Fast.tw15869174696230768901 : Unit := ()
def PySem.W.Fast.tw3215136024293413194 : Unit := ()
def PySem.W.Fast.tw7958002685447158625 : Unit := ()
def PySem.W.Fast.tw14747047956983812522 : Unit := ()
def PySem.W.Fast.tw5226537850646559565 : Unit := ()
def PySem.W.Fast.tw18110704893949629420 : Unit := ()
def PySem.W.Fast.tw12238706578282413466 : Unit := ()
def PySem.W.Fast.tw4492626116627901503 : Unit := ()
def PySem.W.Fast.tw93049263239950866 : Unit := ()
def PySem.W.Fast.tw15392416265044907855 : Unit := ()
def PySem.W.Fast.tw4279084907365620443 : Unit := ()
def PySem.W.Fast.tw11975520863238192231 : Unit := ()
def PySem.W.Fast.tw4829904660846327878 : Unit := ()
def PySem.W.Fast.tw14557805171403974489 : Unit := ()
def PySem.W.Fast.tw8897567257904153339 : Unit := ()
def PySem.W.Fast.tw5454953447218771066 : Unit := ()
def PySem.W.Fast.tw3779170799116263415 : Unit := ()
def PySem.W.Fast.tw17844481981313659401 : Unit := ()
def PySem.W.Fast.tw5318994393347795690 : Unit := ()
def PySem.W.Fast.tw11549278552595910960 : Unit := ()
def PySem.W.Fast.tw9678497302595414447 : Unit := ()
def PySem.W.Fast.tw2788668812314198690 : Unit := ()
def PySem.W.Fast.tw10697327554868480044 : Unit := ()
def PySem.W.Fast.tw6571419881127392461 : Unit := ()
def PySem.W.Fast.tw12137945374198536249 : Unit := ()
def PySem.W.Fast.tw574814202107140936 : Unit := ()
def PySem.W.Fast.tw12475426871555642473 : Unit := ()
def PySem.W.Fast.tw9245859920048307899 : Unit := ()
def PySem.W.Fast.tw6171919933014419966 : Unit := ()
def PySem.W.Fast.tw17408817977759346077 : Unit := ()
def PySem.W.Fast.tw17601868126277901688 : Unit := ()
def PySem.W.Fast.tw15617296939910202334 : Unit := ()
def PySem.W.Fast.tw9863548589349830493 : Unit := ()
def PySem.W.Fast.tw14273585226638559255 : Unit := ()
def PySem.W.Fast.tw17591447801735652263 : Unit := ()
def PySem.W.Fast.tw4829316348894068177 : Unit := ()
def PySem.W.Fast.tw13296766986997057898 : Unit := ()
def PySem.W.Fast.tw16754842339515289542 : Unit := ()
def PySem.W.Fast.tw8373059565208664211 : Unit := ()
def PySem.W.Fast.tw2177565565213617434 : Unit := ()
def PySem.W.Fast.tw7748351675076508346 : Unit := ()
def PySem.W.Fast.tw7110200472477486638 : Unit := ()
def PySem.W.Fast.tw1543957054514582260 : Unit := ()
def PySem.W.Fast.tw17524913369393779886 : Unit := ()
def PySem.W.Fast.tw2257778627812834868 : Unit := ()
def PySem.W.Fast.tw1514997964176480798 : Unit := ()
def PySem.W.Fast.tw4339709493001438243 : Unit := ()
def PySem.W.Fast.tw11663804688291611006 : Unit := ()
def PySem.W.Fast.tw10006648345948538085 : Unit := ()
def PySem.W.Fast.tw2199676817387386262 : Unit := ()
def PySem.W.Fast.tw13984231187684323559 : Unit := ()
def PySem.W.Fast.tw11472297459677490376 : Unit := ()
def PySem.W.Fast.tw3695946590393976345 : Unit := ()
def PySem.W.Fast.tw11660903875454008790 : Unit := ()
def PySem.W.Fast.tw7667966654200043550 : Unit := ()
def PySem.W.Fast.tw2349263031775000827 : Unit := ()
def PySem.W.Fast.tw15778422290913813648 : Unit := ()
def PySem.W.Fast.tw16270610305335630657 : Unit := ()
def PySem.W.Fast.tw12614539841853969641 : Unit := ()
def PySem.W.Fast.tw15917813428769987214 : Unit := ()
def PySem.W.Fast.tw9485738892003289519 : Unit := ()
def PySem.W.Fast.tw4818583161013066617 : Unit := ()
def PySem.W.Fast.tw11771244081614125688 : Unit := ()
def PySem.W.Fast.tw3138639719475085258 : Unit := ()
def PySem.W.Fast.tw14354057587853371902 : Unit := ()
def PySem.W.Fast.tw11072445553473416196 : Unit := ()
def PySem.W.Fast.tw680462146157357007 : Unit := ()
def PySem.W.Fast.tw15136543408954032064 : Unit := ()
def PySem.W.Fast.tw12404473943672938794 : Unit := ()
def PySem.W.Fast.tw8266526812557851101 : Unit := ()
def PySem.W.Fast.tw5692510337042750504 : Unit := ()
def PySem.W.Fast.tw1072005380857077338 : Unit := ()
def PySem.W.Fast.tw13913836668657436759 : Unit := ()
def PySem.W.Fast.tw3828978849010651033 : Unit := ()
def PySem.W.Fast.tw10107176991648321887 : Unit := ()
def PySem.W.Fast.tw11439781932488019562 : Unit := ()
def PySem.W.Fast.tw5727909718656233649 : Unit := ()
def PySem.W.Fast.tw9058595057663546437 : Unit := ()
def PySem.W.Fast.tw17085284929815314365 : Unit := ()
def PySem.W.Fast.tw8625599156679165137 : Unit := ()
def PySem.W.Fast.tw3809623099151593268 : Unit := ()
def PySem.W.Fast.tw18021721987775550576 : Unit := ()
def PySem.W.Fast.tw1177282042120632004 : Unit := ()
def PySem.W.Fast.tw10965127436565779940 : Unit := ()
def PySem.W.Fast.tw10367800243683988019 : Unit := ()
def PySem.W.Fast.tw12413866999172587098 : Unit := ()
def PySem.W.Fast.tw1909109427417584213 : Unit := ()
def PySem.W.Fast.tw2544145119422096873 : Unit := ()
def PySem.W.Fast.tw8444114628216347029 : Unit := ()
def PySem.W.Fast.tw7283509931425574383 : Unit := ()
def PySem.W.Fast.tw11076131485620568813 : Unit := ()
def PySem.W.Fast.tw9056288776295519012 : Unit := ()
def PySem.W.Fast.tw1598382633529103020 : Unit := ()
def PySem.W.Fast.tw490302134243300915 : Unit := ()
def PySem.W.Fast.tw9914127065108984206 : Unit := ()
def PySem.W.Fast.tw9221061943472191560 : Unit := ()
def PySem.W.Fast.tw17851195817527895973 : Unit := ()
def PySem.W.Fast.tw12380566312712317668 : Unit := ()
def PySem.W.Fast.tw7774372595294044571 : Unit := ()
def PySem.W.Fast.tw6267561031993746414 : Unit := ()
def PySem.W.Fast.tw648226533889636370 : Unit := ()
def PySem.W.Fast.tw17941153230917141264 : Unit := ()
def PySem.W.Fast.tw13223298159924534168 : Unit := ()
def PySem.W.Fast.tw10174820597855772532 : Unit := ()
def PySem.W.Fast.tw9826990560648205594 : Unit := ()
def PySem.W.Fast.tw10302439447906908870 : Unit := ()
def PySem.W.Fast.tw16509065468593866708 : Unit := ()
def PySem.W.Fast.tw14370860174240313719 : Unit := ()
def PySem.W.Fast.tw7740263506160884999 : Unit := ()
def PySem.W.Fast.tw18088740110229913757 : Unit := ()
def PySem.W.Fast.tw182538577388090995 : Unit := ()
def PySem.W.Fast.tw10466998248421406082 : Unit := ()
def PySem.W.Fast.tw14992754360025722129 : Unit := ()
def PySem.W.Fast.tw8600592286574100936 : Unit := ()
def PySem.W.Fast.tw7673196655564104149 : Unit := ()
def PySem.W.Fast.tw6476564015512208762 : Unit := ()
def PySem.W.Fast.tw14045850179283921914 : Unit := ()
def PySem.W.Fast.tw4383559329081663942 : Unit := ()
def PySem.W.Fast.tw12804931942834624207 : Unit := ()
def PySem.W.Fast.tw10499508792892792086 : Unit := ()
def PySem.W.Fast.tw17474671851338926165 : Unit := ()
def PySem.W.Fast.tw18300790039348789169 : Unit := ()
def PySem.W.Fast.tw9404842576315186867 : Unit := ()
def PySem.W.Fast.tw16842142647369978930 : Unit := ()
def PySem.W.Fast.tw5119993937705075826 : Unit := ()
def PySem.W.Fast.tw15563241780303023176 : Unit := ()
def PySem.W.Fast.tw2477254061765800211 : Unit := ()
def PySem.W.Fast.tw13624292781597518841 : Unit := ()
def PySem.W.Fast.tw4179271327691973029 : Unit := ()
def PySem.W.Fast.tw14144103971094224759 : Unit := ()
def PySem.W.Fast.tw2174860482495634978 : Unit := ()
def PySem.W.Fast.tw1179594266916956354 : Unit := ()
def PySem.W.Fast.tw8024375829570049576 : Unit := ()
def PySem.W.Fast.tw15444544662653656587 : Unit := ()
def PySem.W.Fast.tw1301378379930798434 : Unit := ()
def PySem.W.Fast.tw16562572411787830388 : Unit := ()
def PySem.W.Fast.tw4270163306270404694 : Unit := ()
def PySem.W.Fast.tw5735661122240527239 : Unit := ()
def PySem.W.Fast.tw6374095997355527968 : Unit := ()
def PySem.W.Fast.tw10136911737681785310 : Unit := ()
def PySem.W.Fast.tw6038473791794526280 : Unit := ()
def PySem.W.Fast.tw5871739969689605190 : Unit := ()
def PySem.W.Fast.tw5157142177110875849 : Unit := ()
def PySem.W.Fast.tw2366264899262615467 : Unit := ()
def PySem.W.Fast.tw307922800598860553 : Unit := ()
def PySem.W.Fast.tw4781263697403209858 : Unit := ()
def PySem.W.Fast.tw1173682974061431564 : Unit := ()
def PySem.W.Fast.tw2196871804177594873 : Unit := ()
def PySem.W.Fast.tw4354207298676841515 : Unit := ()
def PySem.W.Fast.tw16929592697635609814 : Unit := ()
def PySem.W.Fast.tw14418245666541595566 : Unit := ()
def PySem.W.Fast.tw16089080110076861247 : Unit := ()
def PySem.W.Fast.tw6711071970190798009 : Unit := ()
def PySem.W.Fast.tw2539321111636826982 : Unit := ()
def PySem.W.Fast.tw17064240249414378838 : Unit := ()
def PySem.W.Fast.tw4599778244946342561 : Unit := ()
def PySem.W.Fast.tw10685630040659121043 : Unit := ()
def PySem.W.Fast.tw10757713486284257585 : Unit := ()
def PySem.W.Fast.tw1625299184563128729 : Unit := ()
def PySem.W.Fast.tw14185365280148327051 : Unit := ()
def PySem.W.Fast.tw5083352569498837802 : Unit := ()
def PySem.W.Fast.tw10288242848331265894 : Unit := ()
def PySem.W.Fast.tw5738028550627373497 : Unit := ()
def PySem.W.Fast.tw12755831194921314970 : Unit := ()
def PySem.W.Fast.tw5732381280306763650 : Unit := ()
def PySem.W.Fast.tw15446174850952130893 : Unit := ()
def PySem.W.Fast.tw1282218552713564899 : Unit := ()
def PySem.W.Fast.tw10519253791043607955 : Unit := ()
def PySem.W.Fast.tw4101621995850465827 : Unit := ()
def PySem.W.Fast.tw2523921837170025329 : Unit := ()
def PySem.W.Fast.tw216235043758194862 : Unit := ()
def PySem.W.Fast.tw8506440307212964099 : Unit := ()
def PySem.W.Fast.tw8510179573466523421 : Unit := ()
def PySem.W.Fast.tw7447790964835550993 : Unit := ()
def PySem.W.Fast.tw11220312799211938274 : Unit := ()
def PySem.W.Fast.tw7706133962861158931 : Unit := ()
def PySem.W.Fast.tw11337044725515489877 : Unit := ()
def PySem.W.Fast.tw17958040327391331216 : Unit := ()
def PySem.W.Fast.tw10707028129997305346 : Unit := ()
def PySem.W.Fast.tw2756955565459979723 : Unit := ()
def PySem.W.Fast.tw17710309519955094010 : Unit := ()
def PySem.W.Fast.tw4751685491419810497 : Unit := ()
def PySem.W.Fast.tw182963768787421738 : Unit := ()
def PySem.W.Fast.tw13695805786979198033 : Unit := ()
def PySem.W.Fast.tw3859767053609147742 : Unit := ()
def PySem.W.Fast.tw18115987590998262379 : Unit := ()
def PySem.W.Fast.tw13576164677219475888 : Unit := ()
def PySem.W.Fast.tw13473638538382072658 : Unit := ()
def PySem.W.Fast.tw8592461020601550298 : Unit := ()
def PySem.W.Fast.tw15070589324990374159 : Unit := ()
def PySem.W.Fast.tw4662328161918748979 : Unit := ()
def PySem.W.Fast.tw6466451335014040477 : Unit := ()
def PySem.W.Fast.tw11072846332694723865 : Unit := ()
def PySem.W.Fast.tw14484039144956136169 : Unit := ()
def PySem.W.Fast.tw4920754535848877696 : Unit := ()
def PySem.W.Fast.tw2962857068768860494 : Unit := ()
def PySem.W.Fast.tw8890927982487794955 : Unit := ()
def PySem.W.Fast.tw11823706639713296305 : Unit := ()
def PySem.W.Fast.tw3971430379821040321 : Unit := ()
def PySem.W.Fast.tw6485753159946163366 : Unit := ()
def PySem.W.Fast.tw7095663770563022083 : Unit := ()
def PySem.W.Fast.tw10094284827901427929 : Unit := ()
def PySem.W.Fast.tw10605532232467163533 : Unit := ()
def PySem.W.Fast.tw11413647592283268633 : Unit := ()
def PySem.W.Fast.tw15493770663838843543 : Unit := ()
def PySem.W.Fast.tw18446509950390289672 : Unit := ()
def PySem.W.Fast.tw5342920009972815263 : Unit := ()
def PySem.W.Fast.tw4028805471950870677 : Unit := ()
def PySem.W.Fast.tw7018881066409559492 : Unit := ()
def PySem.W.Fast.tw11301494873645239239 : Unit := ()
def PySem.W.Fast.tw16466255189578489137 : Unit := ()
def PySem.W.Fast.tw8782194854411796411 : Unit := ()
def PySem.W.Fast.tw12209248473520905569 : Unit := ()
def PySem.W.Fast.tw3229753347100715863 : Unit := ()
def PySem.W.Fast.tw7102646636189573680 : Unit := ()
def PySem.W.Fast.tw3486494328178019703 : Unit := ()
def PySem.W.Fast.tw15567136590333824720 : Unit := ()
def PySem.W.Fast.tw14633580841996585445 : Unit := ()
def PySem.W.Fast.tw17337241395584519712 : Unit := ()
def PySem.W.Fast.tw8805136923958652103 : Unit := ()
def PySem.W.Fast.tw2937259632192558900 : Unit := ()
def PySem.W.Fast.tw673736645708996238 : Unit := ()
def PySem.W.Fast.tw1242294172862202800 : Unit := ()
def PySem.W.Fast.tw1270559879263114600 : Unit := ()
def PySem.W.Fast.tw119991514969156656 : Unit := ()
def PySem.W.Fast.tw12625917158516877699 : Unit := ()
def PySem.W.Fast.tw2216440654783428641 : Unit := ()
def PySem.W.Fast.tw13754947238388213323 : Unit := ()
def PySem.W.Fast.tw10751856151776110938 : Unit := ()
def PySem.W.Fast.tw852550319620217241 : Unit := ()
def PySem.W.Fast.tw12800651687695361764 : Unit := ()
def PySem.W.Fast.tw4339440946887381964 : Unit := ()
def PySem.W.Fast.tw17356156739648838938 : Unit := ()
def PySem.W.Fast.tw12199461114044477693 : Unit := ()
def PySem.W.Fast.tw16750570906290927494 : Unit := ()
def PySem.W.Fast.tw33300574265515749 : Unit := ()
def PySem.W.Fast.tw3688178397329330638 : Unit := ()
def PySem.W.Fast.tw1738064362796716908 : Unit := ()
def PySem.W.Fast.tw12962778546153329729 : Unit := ()
def PySem.W.Fast.tw4257031615091054193 : Unit := ()
def PySem.W.Fast.tw8124016917633214578 : Unit := ()
def PySem.W.Fast.tw2516412445875734799 : Unit := ()
def PySem.W.Fast.tw10939728827395665961 : Unit := ()
def PySem.W.Fast.tw5263171221004716157 : Unit := ()
def PySem.W.Fast.tw15054523398662445590 : Unit := ()
def PySem.W.Fast.tw15992002226861025909 : Unit := ()
def PySem.W.Fast.tw11102703737261685396 : Unit := ()
def PySem.W.Fast.tw16485054580282264955 : Unit := ()
def PySem.W.Fast.tw8376827232099146184 : Unit := ()
def PySem.W.Fast.tw5476389175055855367 : Unit := ()
def PySem.W.Fast.tw16997777987895855976 : Unit := ()
def PySem.W.Fast.tw3759818292810792288 : Unit := ()
def PySem.W.Fast.tw16822036980891672816 : Unit := ()
def PySem.W.Fast.tw11872232728420528283 : Unit := ()
def PySem.W.Fast.tw15920617620781686945 : Unit := ()
def PySem.W.Fast.tw9071355159917330647 : Unit := ()
def PySem.W.Fast.tw14012998199775854700 : Unit := ()
def PySem.W.Fast.tw14505966274865997626 : Unit := ()
def PySem.W.Fast.tw16503491979493625831 : Unit := ()
def PySem.W.Fast.tw3120004573375441890 : Unit := ()
def PySem.W.Fast.tw6210582600609996339 : Unit := ()
def PySem.W.Fast.tw3447231796174718296 : Unit := ()
def PySem.W.Fast.tw15048892614515459668 : Unit := ()
def PySem.W.Fast.tw14199822443786827937 : Unit := ()
def PySem.W.Fast.tw9881843144954685125 : Unit := ()
def PySem.W.Fast.tw11924092314622120466 : Unit := ()
def PySem.W.Fast.tw5167012761727541583 : Unit := ()
def PySem.W.Fast.tw929329798428813885 : Unit := ()
def PySem.W.Fast.tw16884483649938612156 : Unit := ()
def PySem.W.Fast.tw8428678335963713386 : Unit := ()
def PySem.W.Fast.tw8108500439971396495 : Unit := ()
def PySem.W.Fast.tw6624294014528671498 : Unit := ()
def PySem.W.Fast.tw10689037133854501135 : Unit := ()
def PySem.W.Fast.tw11746201423831215956 : Unit := ()
def PySem.W.Fast.tw5022553189567888735 : Unit := ()
def PySem.W.Fast.tw4182046283131799196 : Unit := ()
def PySem.W.Fast.tw18193216910347694791 : Unit := ()
def PySem.W.Fast.tw4913856116200107273 : Unit := ()
def PySem.W.Fast.tw13691804262172167552 : Unit := ()
def PySem.W.Fast.tw6909954873994366393 : Unit := ()
def PySem.W.Fast.tw1798627037890643578 : Unit := ()
def PySem.W.Fast.tw4724410546269482741 : Unit := ()
def PySem.W.Fast.tw11531991497903569886 : Unit := ()
def PySem.W.Fast.tw11242188355274264603 : Unit := ()
def PySem.W.Fast.tw8386041515445070274 : Unit := ()
def PySem.W.Fast.tw4361347270091688064 : Unit := ()
def PySem.W.Fast.tw9232966177054325559 : Unit := ()
def PySem.W.Fast.tw16746730322399458915 : Unit := ()
def PySem.W.Fast.tw16119190448315920592 : Unit := ()
def PySem.W.Fast.tw15140048989119343 : Unit := ()
def PySem.W.Fast.tw15938188658812573453 : Unit := ()
def PySem.W.Fast.tw6715762366632983047 : Unit := ()
def PySem.W.Fast.tw16330457968847805528 : Unit := ()
def PySem.W.Fast.tw3796212130887475956 : Unit := ()
def PySem.W.Fast.tw14849001964225645863 : Unit := ()
def PySem.W.Fast.tw5659421759619592428 : Unit := ()
def PySem.W.Fast.tw255647736477389530 : Unit := ()
def PySem.W.Fast.tw17283852657848076472 : Unit := ()
def PySem.W.Fast.tw11237456379964949163 : Unit := ()
def PySem.W.Fast.tw6993269538107753309 : Unit := ()
def PySem.W.Fast.tw15790161613582570141 : Unit := ()
def PySem.W.Fast.tw9195626485676699083 : Unit := ()
def PySem.W.Fast.tw12127686288630283156 : Unit := ()
def PySem.W.Fast.tw6969143317769000365 : Unit := ()
def PySem.W.Fast.tw16945000819793890633 : Unit := ()
def PySem.W.Fast.tw13997751404070960878 : Unit := ()
def PySem.W.Fast.tw1936650721405805628 : Unit := ()
def PySem.W.Fast.tw8515217328207085310 : Unit := ()
def PySem.W.Fast.tw634314792276427228 : Unit := ()
def PySem.W.Fast.tw9200904080233737495 : Unit := ()
def PySem.W.Fast.tw9588314692202603428 : Unit := ()
def PySem.W.Fast.tw7310306662437812371 : Unit := ()
def PySem.W.Fast.tw8170544192199952604 : Unit := ()
def PySem.W.Fast.tw12381860873536057056 : Unit := ()
def PySem.W.Fast.tw6281408739967677953 : Unit := ()
def PySem.W.Fast.tw344261346456878968 : Unit := ()
def PySem.W.Fast.tw1337318011359630843 : Unit := ()
def PySem.W.Fast.tw4850653012209027451 : Unit := ()
def PySem.W.Fast.tw13961614380240223328 : Unit := ()
def PySem.W.Fast.tw6829883120996294223 : Unit := ()
def PySem.W.Fast.tw12175209113441379122 : Unit := ()
def PySem.W.Fast.tw10721723072872073528 : Unit := ()
def PySem.W.Fast.tw1131242384697736152 : Unit := ()
def PySem.W.Fast.tw14252981883511362163 : Unit := ()
def PySem.W.Fast.tw6130219824025531681 : Unit := ()
def PySem.W.Fast.tw4205188929776982192 : Unit := ()
def PySem.W.Fast.tw3040167696682193892 : Unit := ()
def PySem.W.Fast.tw7652631254754625341 : Unit := ()
def PySem.W.Fast.tw9136128198933056261 : Unit := ()
def PySem.W.Fast.tw4885769482998483714 : Unit := ()
def PySem.W.Fast.tw11406388376122365482 : Unit := ()
def PySem.W.Fast.tw7502422630595284789 : Unit := ()
def PySem.W.Fast.tw7114647338889551816 : Unit := ()
def PySem.W.Fast.tw2344551080993138659 : Unit := ()
def PySem.W.Fast.tw10410823496620947318 : Unit := ()
def PySem.W.Fast.tw4500802967939411081 : Unit := ()
def PySem.W.Fast.tw15434847797914592997 : Unit := ()
def PySem.W.Fast.tw14788922003395355093 : Unit := ()
def PySem.W.Fast.tw10518317472774023675 : Unit := ()
def PySem.W.Fast.tw5856707466307793195 : Unit := ()
def PySem.W.Fast.tw845671927655231128 : Unit := ()
def PySem.W.Fast.tw16314004688140856935 : Unit := ()
def PySem.W.Fast.tw3123691807052964775 : Unit := ()
def PySem.W.Fast.tw4267216529923639739 : Unit := ()
def PySem.W.Fast.tw8027288437213350466 : Unit := ()
def PySem.W.Fast.tw111741358771281806 : Unit := ()
def PySem.W.Fast.tw8706191422415225220 : Unit := ()
def PySem.W.Fast.tw1873939147003052961 : Unit := ()
def PySem.W.Fast.tw5861489742583223379 : Unit := ()
def PySem.W.Fast.tw16328739087325153121 : Unit := ()
def PySem.W.Fast.tw9796412505900393597 : Unit := ()
def PySem.W.Fast.tw16529945073618477348 : Unit := ()
def PySem.W.Fast.tw4996800272141081219 : Unit := ()
def PySem.W.Fast.tw620201681979390258 : Unit := ()
def PySem.W.Fast.tw17108844445040612910 : Unit := ()
def PySem.W.Fast.tw8355567339494957727 : Unit := ()
def PySem.W.Fast.tw12989216082387795695 : Unit := ()
def PySem.W.Fast.tw17747733427383673277 : Unit := ()
def PySem.W.Fast.tw11431417025834495854 : Unit := ()
def PySem.W.Fast.tw3247078168721116514 : Unit := ()
def PySem.W.Fast.tw12949574391449417829 : Unit := ()
def PySem.W.Fast.tw13487621292227794846 : Unit := ()
def PySem.W.Fast.tw8765338611849090459 : Unit := ()
def PySem.W.Fast.tw4834253274462932180 : Unit := ()
def PySem.W.Fast.tw4651192739399467794 : Unit := ()
def PySem.W.Fast.tw4466762331434739628 : Unit := ()
def PySem.W.Fast.tw3490751377744861239 : Unit := ()
def PySem.W.Fast.tw4968574144469980575 : Unit := ()
def PySem.W.Fast.tw2354052179844674226 : Unit := ()
def PySem.W.Fast.tw4123991586081949209 : Unit := ()
def PySem.W.Fast.tw11705467382343207294 : Unit := ()
def PySem.W.Fast.tw78791125901611789 : Unit := ()
def PySem.W.Fast.tw3040031718077152616 : Unit := ()
def PySem.W.Fast.tw11732904226190914420 : Unit := ()
def PySem.W.Fast.tw7708489528087277101 : Unit := ()
def PySem.W.Fast.tw970746509387632822 : Unit := ()
def PySem.W.Fast.tw11960923089029098951 : Unit := ()
def PySem.W.Fast.tw11223178708775723342 : Unit := ()
def PySem.W.Fast.tw12168164277070833485 : Unit := ()
def PySem.W.Fast.tw5111833946511012397 : Unit := ()
def PySem.W.Fast.tw18006984327751701079 : Unit := ()
def PySem.W.Fast.tw13027853197555941385 : Unit := ()
def PySem.W.Fast.tw18326091438990195759 : Unit := ()
def PySem.W.Fast.tw2477545680322993326 : Unit := ()
def PySem.W.Fast.tw6226644072793178936 : Unit := ()
def PySem.W.Fast.tw9699525827906278973 : Unit := ()
def PySem.W.Fast.tw16479797468804998577 : Unit := ()
def PySem.W.Fast.tw4868213920612791997 : Unit := ()
def PySem.W.Fast.tw11809008500109334755 : Unit := ()
def PySem.W.Fast.tw6527139193524561413 : Unit := ()
def PySem.W.Fast.tw1889305162762865821 : Unit := ()
def PySem.W.Fast.tw8864153512738832057 : Unit := ()
def PySem.W.Fast.tw6430683174922872187 : Unit := ()
def PySem.W.Fast.tw16110888321443103883 : Unit := ()
def PySem.W.Fast.tw15087481056926315233 : Unit := ()
def PySem.W.Fast.tw4401418382996210233 : Unit := ()
def PySem.W.Fast.tw13584877517949000223 : Unit := ()
def PySem.W.Fast.tw2817635495999359154 : Unit := ()
def PySem.W.Fast.tw966453742562970927 : Unit := ()
def PySem.W.Fast.tw9789166833698699720 : Unit := ()
def PySem.W.Fast.tw18067117180737910862 : Unit := ()
def PySem.W.Fast.tw1354132976676049175 : Unit := ()
def PySem.W.Fast.tw11958104204863819318 : Unit := ()
def PySem.W.Fast.tw9119198360435977050 : Unit := ()
def PySem.W.Fast.tw8370255300130245852 : Unit := ()
def PySem.W.Fast.tw15616517408903006984 : Unit := ()
def PySem.W.Fast.tw914111783641668296 : Unit := ()
def PySem.W.Fast.tw14461647975679066407 : Unit := ()
def PySem.W.Fast.tw2221798182906814079 : Unit := ()
def PySem.W.Fast.tw2628606105805751951 : Unit := ()
def PySem.W.Fast.tw9739096643641268856 : Unit := ()
def PySem.W.Fast.tw9687285849393146545 : Unit := ()
def PySem.W.Fast.tw5711424751893039614 : Unit := ()
def PySem.W.Fast.tw6401972900103176040 : Unit := ()
def PySem.W.Fast.tw11248859304225421368 : Unit := ()
def PySem.W.Fast.tw7907578257193301937 : Unit := ()
def PySem.W.Fast.tw16400505151724161393 : Unit := ()
def PySem.W.Fast.tw15709045107843074932 : Unit := ()
def PySem.W.Fast.tw11189208008798894622 : Unit := ()
def PySem.W.Fast.tw469245201846336424 : Unit := ()
def PySem.W.Fast.tw12627576319913879196 : Unit := ()
def PySem.W.Fast.tw3118776269199930757 : Unit := ()
def PySem.W.Fast.tw2355412148618779953 : Unit := ()
def PySem.W.Fast.tw9754647515517447389 : Unit := ()
def PySem.W.Fast.tw4042603247892906878 : Unit := ()
def PySem.W.Fast.tw4764742725159040568 : Unit := ()
def PySem.W.Fast.tw4011326119384606310 : Unit := ()
def PySem.W.Fast.tw13026833945473672307 : Unit := ()
def PySem.W.Fast.tw7281091118963153964 : Unit := ()
def PySem.W.Fast.tw6758540468898804916 : Unit := ()
def PySem.W.Fast.tw3783207037344709392 : Unit := ()
def PySem.W.Fast.tw17526394125169850415 : Unit := ()
def PySem.W.Fast.tw10629856605669281568 : Unit := ()
def PySem.W.Fast.tw2640874157450499207 : Unit := ()
def PySem.W.Fast.tw16394052245501444826 : Unit := ()
def PySem.W.Fast.tw964671492268271898 : Unit := ()
def PySem.W.Fast.tw14477106293505574629 : Unit := ()
def PySem.W.Fast.tw9001230846457237722 : Unit := ()
def PySem.W.Fast.tw6286360212281366462 : Unit := ()
def PySem.W.Fast.tw5503724950735217672 : Unit := ()
def PySem.W.Fast.tw15319887386996314056 : Unit := ()
def PySem.W.Fast.tw12356842879408428391 : Unit := ()
def PySem.W.Fast.tw181153509157517975 : Unit := ()
def PySem.W.Fast.tw14459824733866664943 : Unit := ()
def PySem.W.Fast.tw17569102059377869039 : Unit := ()
def PySem.W.Fast.tw4392714431591259288 : Unit := ()
def PySem.W.Fast.tw15284162264966224954 : Unit := ()
def PySem.W.Fast.tw3667430634625508880 : Unit := ()
def PySem.W.Fast.tw15849809291748922802 : Unit := ()
def PySem.W.Fast.tw6213529680388978863 : Unit := ()
def PySem.W.Fast.tw3613053793581709383 : Unit := ()
def PySem.W.Fast.tw9631652314781212088 : Unit := ()
def PySem.W.Fast.tw10510621585574506008 : Unit := ()
def PySem.W.Fast.tw4584167188219559890 : Unit := ()
def PySem.W.Fast.tw2497865085539086183 : Unit := ()
def PySem.W.Fast.tw5067920542058612965 : Unit := ()
def PySem.W.Fast.tw5248414996191505201 : Unit := ()
def PySem.W.Fast.tw16499062900303966203 : Unit := ()
def PySem.W.Fast.tw14672041127466394613 : Unit := ()
def PySem.W.Fast.tw6658232130989707228 : Unit := ()
def PySem.W.Fast.tw2486026715285425632 : Unit := ()
def PySem.W.Fast.tw14392202484647234594 : Unit := ()
def PySem.W.Fast.tw57958644480826153 : Unit := ()
def PySem.W.Fast.tw4010805755808619820 : Unit := ()
def PySem.W.Fast.tw8330727647087175533 : Unit := ()
def PySem.W.Fast.tw18059946622098227459 : Unit := ()
def PySem.W.Fast.tw8705331415029028903 : Unit := ()
def PySem.W.Fast.tw12669011321128836910 : Unit := ()
def PySem.W.Fast.tw10956422320586554783 : Unit := ()
def PySem.W.Fast.tw10577708743918775135 : Unit := ()
def PySem.W.Fast.tw265136673342972948 : Unit := ()
def PySem.W.Fast.tw15779157277651371719 : Unit := ()
def PySem.W.Fast.tw13968493600980145294 : Unit := ()
def PySem.W.Fast.tw900551096151943389 : Unit := ()
def PySem.W.Fast.tw8799973455948106566 : Unit := ()
def PySem.W.Fast.tw67451712705511917 : Unit := ()
def PySem.W.Fast.tw4275468472561260814 : Unit := ()
def PySem.W.Fast.tw8717940499548497737 : Unit := ()
def PySem.W.Fast.tw9595921816236183574 : Unit := ()
def PySem.W.Fast.tw1935842993850529188 : Unit := ()
def PySem.W.Fast.tw8400157369386628801 : Unit := ()
def PySem.W.Fast.tw16816103512752989530 : Unit := ()
def PySem.W.Fast.tw7109133845534022157 : Unit := ()
def PySem.W.Fast.tw7395969532342087020 : Unit := ()
def PySem.W.Fast.tw15319233449840231067 : Unit := ()
def PySem.W.Fast.tw4108182446319625739 : Unit := ()
def PySem.W.Fast.tw1784996790282851716 : Unit := ()
def PySem.W.Fast.tw7134713030225566175 : Unit := ()
def PySem.W.Fast.tw17199628759241949201 : Unit := ()
def PySem.W.Fast.tw17105600717186719019 : Unit := ()
def PySem.W.Fast.tw5293639608615195815 : Unit := ()
def PySem.W.Fast.tw2750729205769935455 : Unit := ()
def PySem.W.Fast.tw14262027881990320311 : Unit := ()
def PySem.W.Fast.tw10992402352092781157 : Unit := ()
def PySem.W.Fast.tw2217934959118478852 : Unit := ()
def PySem.W.Fast.tw12469012144195919347 : Unit := ()
def PySem.W.Fast.tw1896535674846180651 : Unit := ()
def PySem.W.Fast.tw14684941644630615678 : Unit := ()
def PySem.W.Fast.tw15623544882920630280 : Unit := ()
def PySem.W.Fast.tw8202381822753512479 : Unit := ()
def PySem.W.Fast.tw12233642708814728279 : Unit := ()
def PySem.W.Fast.tw4300696048067209986 : Unit := ()
def PySem.W.Fast.tw12541583401948769546 : Unit := ()
def PySem.W.Fast.tw7540605578521213800 : Unit := ()
def PySem.W.Fast.tw2699247182524553159 : Unit := ()
def PySem.W.Fast.tw13516520602542556001 : Unit := ()
def PySem.W.Fast.tw15095602474116831876 : Unit := ()
def PySem.W.Fast.tw15936458173898614623 : Unit := ()
def PySem.W.Fast.tw14925369426191134667 : Unit := ()
def PySem.W.Fast.tw17969589079903670070 : Unit := ()
def PySem.W.Fast.tw11528553280003453286 : Unit := ()
def PySem.W.Fast.tw4038487974973594058 : Unit := ()
def PySem.W.Fast.tw17708645430657148172 : Unit := ()
def PySem.W.Fast.tw2045392489472206626 : Unit := ()
def PySem.W.Fast.tw8870553514618820063 : Unit := ()
def PySem.W.Fast.tw16859416552733656912 : Unit := ()
def PySem.W.Fast.tw7578131306476206199 : Unit := ()
def PySem.W.Fast.tw5777251191756293982 : Unit := ()
def PySem.W.Fast.tw18287052833249515098 : Unit := ()
def PySem.W.Fast.tw10680255055864036963 : Unit := ()
def PySem.W.Fast.tw15972382040630092914 : Unit := ()
def PySem.W.Fast.tw14548088348895596007 : Unit := ()
def PySem.W.Fast.tw14663941414652632165 : Unit := ()
def PySem.W.Fast.tw231256203427655845 : Unit := ()
def PySem.W.Fast.tw2624006499270966462 : Unit := ()
def PySem.W.Fast.tw4159868519820223723 : Unit := ()
def PySem.W.Fast.tw10425776415934719172 : Unit := ()
def PySem.W.Fast.tw11171765329120192220 : Unit := ()
def PySem.W.Fast.tw1738321477094408680 : Unit := ()
def PySem.W.Fast.tw2932652960575280994 : Unit := ()
def PySem.W.Fast.tw1953954626050806004 : Unit := ()
def PySem.W.Fast.tw4927823611511200591 : Unit := ()
def PySem.W.Fast.tw1349127279665077350 : Unit := ()
def PySem.W.Fast.tw5362706833021324049 : Unit := ()
def PySem.W.Fast.tw15379662068508423124 : Unit := ()
def PySem.W.Fast.tw1746811212576336065 : Unit := ()
def PySem.W.Fast.tw15117137382047219067 : Unit := ()
def PySem.W.Fast.tw826881270135975617 : Unit := ()
def PySem.W.Fast.tw14172854330699607640 : Unit := ()
def PySem.W.Fast.tw5282427807045958216 : Unit := ()
def PySem.W.Fast.tw3590517791016746615 : Unit := ()
def PySem.W.Fast.tw5518505145651750032 : Unit := ()
def PySem.W.Fast.tw5619980644060254126 : Unit := ()
def PySem.W.Fast.tw14019472433215325287 : Unit := ()
def PySem.W.Fast.tw13106003649333110838 : Unit := ()
def PySem.W.Fast.tw124036214556520882 : Unit := ()
def PySem.W.Fast.tw8008385361914809304 : Unit := ()
def PySem.W.Fast.tw11799166177890071666 : Unit := ()
def PySem.W.Fast.tw7026262100449097125 : Unit := ()
def PySem.W.Fast.tw1299626792553619799 : Unit := ()
def PySem.W.Fast.tw1288086673311401550 : Unit := ()
def PySem.W.Fast.tw480424508814057427 : Unit := ()
def PySem.W.Fast.tw2088843274838060548 : Unit := ()
def PySem.W.Fast.tw3564552960509295597 : Unit := ()
def PySem.W.Fast.tw13647017676822158877 : Unit := ()
def PySem.W.Fast.tw1634191677616329831 : Unit := ()
def PySem.W.Fast.tw16678722260913387651 : Unit := ()
def PySem.W.Fast.tw15001328518679433471 : Unit := ()
def PySem.W.Fast.tw6440669128379654664 : Unit := ()
def PySem.W.Fast.tw6156093992516423726 : Unit := ()
def PySem.W.Fast.tw9328163822423918687 : Unit := ()
def PySem.W.Fast.tw2562818211609988041 : Unit := ()
def PySem.W.Fast.tw16313596984572569343 : Unit := ()
def PySem.W.Fast.tw4608049624233443198 : Unit := ()
def PySem.W.Fast.tw9759532576508758631 : Unit := ()
def PySem.W.Fast.tw517373546644280515 : Unit := ()
def PySem.W.Fast.tw448179485860103973 : Unit := ()
def PySem.W.Fast.tw15518651108606806389 : Unit := ()
def PySem.W.Fast.tw7198678346777319260 : Unit := ()
def PySem.W.Fast.tw15437476992185425774 : Unit := ()
def PySem.W.Fast.tw13883643605784179495 : Unit := ()
def PySem.W.Fast.tw6044826024084931545 : Unit := ()
def PySem.W.Fast.tw14537490584681885140 : Unit := ()
def PySem.W.Fast.tw6952375805351661100 : Unit := ()
def PySem.W.Fast.tw18125960113129384532 : Unit := ()
def PySem.W.Fast.tw14939675517740798202 : Unit := ()
def PySem.W.Fast.tw18419758114072607613 : Unit := ()
def PySem.W.Fast.tw11219599246338175744 : Unit := ()
def PySem.W.Fast.tw13294887186673116762 : Unit := ()
def PySem.W.Fast.tw13102853600677799881 : Unit := ()
def PySem.W.Fast.tw6481526907873193995 : Unit := ()
def PySem.W.Fast.tw9989360591562244370 : Unit := ()
def PySem.W.Fast.tw3110049127503337029 : Unit := ()
def PySem.W.Fast.tw9283545835128114978 : Unit := ()
def PySem.W.Fast.tw2704671081822788428 : Unit := ()
def PySem.W.Fast.tw18185654452547987823 : Unit := ()
def PySem.W.Fast.tw14238558720044517282 : Unit := ()
def PySem.W.Fast.tw12498857524436648038 : Unit := ()
def PySem.W.Fast.tw18020673570003490339 : Unit := ()
def PySem.W.Fast.tw11195638797742186424 : Unit := ()
def PySem.W.Fast.tw15996731072422124652 : Unit := ()
def PySem.W.Fast.tw8839088628719022369 : Unit := ()
def PySem.W.Fast.tw16479937471249795185 : Unit := ()
def PySem.W.Fast.tw1613365753880062406 : Unit := ()
def PySem.W.Fast.tw16125032848122095196 : Unit := ()
def PySem.W.Fast.tw944528412418775961 : Unit := ()
def PySem.W.Fast.tw3692127108211609450 : Unit := ()
def PySem.W.Fast.tw10307945419237854184 : Unit := ()
def PySem.W.Fast.tw14085109762114750480 : Unit := ()
def PySem.W.Fast.tw16087447288047658015 : Unit := ()
def PySem.W.Fast.tw10476445626264113012 : Unit := ()
def PySem.W.Fast.tw17394473031811542294 : Unit := ()
def PySem.W.Fast.tw6477797116531649984 : Unit := ()
def PySem.W.Fast.tw12319275844757999489 : Unit := ()
def PySem.W.Fast.tw12591726218501737574 : Unit := ()
def PySem.W.Fast.tw1549592157898088785 : Unit := ()
def PySem.W.Fast.tw23597753950227949 : Unit := ()
def PySem.W.Fast.tw4227605580128911577 : Unit := ()
def PySem.W.Fast.tw58849350759054810 : Unit := ()
def PySem.W.Fast.tw15967072683584360553 : Unit := ()
def PySem.W.Fast.tw5417670293518288640 : Unit := ()
def PySem.W.Fast.tw14571344020155351000 : Unit := ()
def PySem.W.Fast.tw16392135596266693443 : Unit := ()
def PySem.W.Fast.tw7229485348995751782 : Unit := ()
def PySem.W.Fast.tw9514924702958530874 : Unit := ()
def PySem.W.Fast.tw5499954950954546094 : Unit := ()
def PySem.W.Fast.tw8309350434560372224 : Unit := ()
def PySem.W.Fast.tw13071349471347318146 : Unit := ()
def PySem.W.Fast.tw5134694259776981282 : Unit := ()
def PySem.W.Fast.tw10286524070202210919 : Unit := ()
def PySem.W.Fast.tw12902783610191607683 : Unit := ()
def PySem.W.Fast.tw14977121033997327994 : Unit := ()
def PySem.W.Fast.tw672040969642984852 : Unit := ()
def PySem.W.Fast.tw7643627618380271827 : Unit := ()
def PySem.W.Fast.tw16892001961030759250 : Unit := ()
def PySem.W.Fast.tw14495729592190261528 : Unit := ()
def PySem.W.Fast.tw2171491217253650809 : Unit := ()
def PySem.W.Fast.tw10638244320935690358 : Unit := ()
def PySem.W.Fast.tw3010821934539311168 : Unit := ()
def PySem.W.Fast.tw2024078820972504148 : Unit := ()
def PySem.W.Fast.tw5014797105730768105 : Unit := ()
def PySem.W.Fast.tw8963132571583019272 : Unit := ()
def PySem.W.Fast.tw16731044014559060535 : Unit := ()
def PySem.W.Fast.tw15724027829672336318 : Unit := ()
def PySem.W.Fast.tw8840401747727390011 : Unit := ()
def PySem.W.Fast.tw15683554336073311007 : Unit := ()
def PySem.W.Fast.tw16043161813501466292 : Unit := ()
def PySem.W.Fast.tw13196837972458491179 : Unit := ()
def PySem.W.Fast.tw17207703284775395703 : Unit := ()
def PySem.W.Fast.tw3043778498733708507 : Unit := ()
def PySem.W.Fast.tw2348073268117114730 : Unit := ()
def PySem.W.Fast.tw14408700331997266040 : Unit := ()
def PySem.W.Fast.tw2719838967724866693 : Unit := ()
def PySem.W.Fast.tw8043992076438568097 : Unit := ()
def PySem.W.Fast.tw304520481644721610 : Unit := ()
def PySem.W.Fast.tw15594798682988401443 : Unit := ()
def PySem.W.Fast.tw16350554033992507521 : Unit := ()
def PySem.W.Fast.tw7882682505219628718 : Unit := ()
def PySem.W.Fast.tw11152739234221093225 : Unit := ()
def PySem.W.Fast.tw12676410123848451381 : Unit := ()
def PySem.W.Fast.tw1983463661425838683 : Unit := ()
def PySem.W.Fast.tw2344906223829536554 : Unit := ()
def PySem.W.Fast.tw4593798647882626173 : Unit := ()
def PySem.W.Fast.tw1875021287220915505 : Unit := ()
def PySem.W.Fast.tw17100102911382118452 : Unit := ()
def PySem.W.Fast.tw103291632387640647 : Unit := ()
def PySem.W.Fast.tw16807177111593224951 : Unit := ()
def PySem.W.Fast.tw4366368725882764742 : Unit := ()
def PySem.W.Fast.tw14411202883485181855 : Unit := ()
def PySem.W.Fast.tw17888612596935921229 : Unit := ()
def PySem.W.Fast.tw16739486963898924 : Unit := ()
def PySem.W.Fast.tw523010983787824698 : Unit := ()
def PySem.W.Fast.tw4279850596755712101 : Unit := ()
def PySem.W.Fast.tw10613180886937512130 : Unit := ()
def PySem.W.Fast.tw17286581983701728495 : Unit := ()
def PySem.W.Fast.tw13703688758256909502 : Unit := ()
def PySem.W.Fast.tw5141809669902677278 : Unit := ()
def PySem.W.Fast.tw13294424703522517252 : Unit := ()
def PySem.W.Fast.tw8695122466586823038 : Unit := ()
def PySem.W.Fast.tw14839745351982598570 : Unit := ()
def PySem.W.Fast.tw8878090848496096328 : Unit := ()
def PySem.W.Fast.tw5316422565599473946 : Unit := ()
def PySem.W.Fast.tw17675859856848759185 : Unit := ()
def PySem.W.Fast.tw4259493536949988707 : Unit := ()
def PySem.W.Fast.tw10566702363648976103 : Unit := ()
def PySem.W.Fast.tw2468915072765058889 : Unit := ()
def PySem.W.Fast.tw18176939209703283126 : Unit := ()
def PySem.W.Fast.tw17225447384101969645 : Unit := ()
def PySem.W.Fast.tw3135777615564349640 : Unit := ()
def PySem.W.Fast.tw15045623729677542399 : Unit := ()
def PySem.W.Fast.tw16364499591611114112 : Unit := ()
def PySem.W.Fast.tw15342864842625193367 : Unit := ()
def PySem.W.Fast.tw17075430683827686347 : Unit := ()
def PySem.W.Fast.tw7499064114552126223 : Unit := ()
def PySem.W.Fast.tw11360784582320849134 : Unit := ()
def PySem.W.Fast.tw208610734588516212 : Unit := ()
def PySem.W.Fast.tw12599032303203214010 : Unit := ()
def PySem.W.Fast.tw10855940835382750035 : Unit := ()
def PySem.W.Fast.tw10175861068107068401 : Unit := ()
def PySem.W.Fast.tw1157405673364918779 : Unit := ()
def PySem.W.Fast.tw10824586290478175641 : Unit := ()
def PySem.W.Fast.tw2387524968112633450 : Unit := ()
def PySem.W.Fast.tw561107960888359716 : Unit := ()
def PySem.W.Fast.tw11503131279072345946 : Unit := ()
def PySem.W.Fast.tw17478564867621768698 : Unit := ()
def PySem.W.Fast.tw16440061474145173621 : Unit := ()
def PySem.W.Fast.tw17798530966547840238 : Unit := ()
def PySem.W.Fast.tw4930840143525739973 : Unit := ()
def PySem.W.Fast.tw14134143667624814748 : Unit := ()
def PySem.W.Fast.tw4223588245540907031 : Unit := ()
def PySem.W.Fast.tw4649034463283689263 : Unit := ()
def PySem.W.Fast.tw13160021759975222843 : Unit := ()
def PySem.W.Fast.tw5292391305730939865 : Unit := ()
def PySem.W.Fast.tw17157433718051959813 : Unit := ()
def PySem.W.Fast.tw1766180513785782461 : Unit := ()
def PySem.W.Fast.tw16113640553947227454 : Unit := ()
def PySem.W.Fast.tw5129247466800888171 : Unit := ()
def PySem.W.Fast.tw7895065191314684891 : Unit := ()
def PySem.W.Fast.tw15995076105054926649 : Unit := ()
def PySem.W.Fast.tw17679480523957276457 : Unit := ()
def PySem.W.Fast.tw9458268457464772937 : Unit := ()
def PySem.W.Fast.tw12054163870517234804 : Unit := ()
def PySem.W.Fast.tw10223960109072244210 : Unit := ()
def PySem.W.Fast.tw18197528058580437257 : Unit := ()
def PySem.W.Fast.tw5322628332553144989 : Unit := ()
def PySem.W.Fast.tw8502345780725822618 : Unit := ()
def PySem.W.Fast.tw4810612565925099654 : Unit := ()
def PySem.W.Fast.tw4838174411996157203 : Unit := ()
def PySem.W.Fast.tw17370202699753796582 : Unit := ()
def PySem.W.Fast.tw17329402095076122604 : Unit := ()
def PySem.W.Fast.tw12687569851995551805 : Unit := ()
def PySem.W.Fast.tw4175706094890920544 : Unit := ()
def PySem.W.Fast.tw13210511893146603595 : Unit := ()
def PySem.W.Fast.tw6326045735404228754 : Unit := ()
def PySem.W.Fast.tw13229512897742268921 : Unit := ()
def PySem.W.Fast.tw3357238193503702402 : Unit := ()
def PySem.W.Fast.tw7196911862368301834 : Unit := ()
def PySem.W.Fast.tw9114602815886542335 : Unit := ()
def PySem.W.Fast.tw18275131575722383397 : Unit := ()
def PySem.W.Fast.tw2212566675834307220 : Unit := ()
def PySem.W.Fast.tw9136328685012971503 : Unit := ()
def PySem.W.Fast.tw4947281262881827915 : Unit := ()
def PySem.W.Fast.tw14071841665822177892 : Unit := ()
def PySem.W.Fast.tw9890490489280328849 : Unit := ()
def PySem.W.Fast.tw1365211485140324021 : Unit := ()
def PySem.W.Fast.tw7208195558619648605 : Unit := ()
def PySem.W.Fast.tw10241839944368864562 : Unit := ()
def PySem.W.Fast.tw8245277616234826004 : Unit := ()
def PySem.W.Fast.tw7049039735895993575 : Unit := ()
def PySem.W.Fast.tw10332708598689388774 : Unit := ()
def PySem.W.Fast.tw3036961003257902048 : Unit := ()
def PySem.W.Fast.tw8413608380157107771 : Unit := ()
def PySem.W.Fast.tw270100473054494232 : Unit := ()
def PySem.W.Fast.tw2929692950277581280 : Unit := ()
def PySem.W.Fast.tw2436937299458902336 : Unit := ()
def PySem.W.Fast.tw5148888196979249201 : Unit := ()
def PySem.W.Fast.tw5975543235748043693 : Unit := ()
def PySem.W.Fast.tw3638615468281362883 : Unit := ()
def PySem.W.Fast.tw2191796215006391852 : Unit := ()
def PySem.W.Fast.tw8920500026591143379 : Unit := ()
def PySem.W.Fast.tw18223970435049529153 : Unit := ()
def PySem.W.Fast.tw3461630358677754398 : Unit := ()
def PySem.W.Fast.tw1667459961320283050 : Unit := ()
def PySem.W.Fast.tw8792261297797766009 : Unit := ()
def PySem.W.Fast.tw419271913746743790 : Unit := ()
def PySem.W.Fast.tw12668620454326369249 : Unit := ()
def PySem.W.Fast.tw14737351140034667128 : Unit := ()
def PySem.W.Fast.tw8325463488375387814 : Unit := ()
def PySem.W.Fast.tw11490318322983400251 : Unit := ()
def PySem.W.Fast.tw4281721150539931977 : Unit := ()
def PySem.W.Fast.tw11394865408020100180 : Unit := ()
def PySem.W.Fast.tw11089440693050276928 : Unit := ()
def PySem.W.Fast.tw16256939509271290977 : Unit := ()
def PySem.W.Fast.tw14418329563095161506 : Unit := ()
def PySem.W.Fast.tw18287189697355067896 : Unit := ()
def PySem.W.Fast.tw7744296256880749638 : Unit := ()
def PySem.W.Fast.tw11319363027676647414 : Unit := ()
def PySem.W.Fast.tw10947294952589564885 : Unit := ()
def PySem.W.Fast.tw397346755393547636 : Unit := ()
def PySem.W.Fast.tw9168289300061463020 : Unit := ()
def PySem.W.Fast.tw7551632725640252701 : Unit := ()
def PySem.W.Fast.tw11378286138787934357 : Unit := ()
def PySem.W.Fast.tw9444635835130947544 : Unit := ()
def PySem.W.Fast.tw17740204092723404751 : Unit := ()
def PySem.W.Fast.tw14928218181000734069 : Unit := ()
def PySem.W.Fast.tw11758307911463259011 : Unit := ()
def PySem.W.Fast.tw17788357646691004583 : Unit := ()
def PySem.W.Fast.tw7546156030673630758 : Unit := ()
def PySem.W.Fast.tw8482020455616067962 : Unit := ()
def PySem.W.Fast.tw8080850559636475743 : Unit := ()
def PySem.W.Fast.tw10765175108996559415 : Unit := ()
def PySem.W.Fast.tw8225142913064068206 : Unit := ()
def PySem.W.Fast.tw18085682787736573848 : Unit := ()
def PySem.W.Fast.tw14044298389664366928 : Unit := ()
def PySem.W.Fast.tw17494855516527763933 : Unit := ()
def PySem.W.Fast.tw5874459785873359135 : Unit := ()
def PySem.W.Fast.tw9642609657653516778 : Unit := ()
def PySem.W.Fast.tw16435829890076539418 : Unit := ()
def PySem.W.Fast.tw7276824195488007249 : Unit := ()
def PySem.W.Fast.tw14276079421656820585 : Unit := ()
def PySem.W.Fast.tw2983408424549182019 : Unit := ()
def PySem.W.Fast.tw7820376910023397214 : Unit := ()
def PySem.W.Fast.tw7432360514010530084 : Unit := ()
def PySem.W.Fast.tw16667154218611618142 : Unit := ()
def PySem.W.Fast.tw4277398265652749256 : Unit := ()
def PySem.W.Fast.tw12580704553865661328 : Unit := ()
def PySem.W.Fast.tw14383638596229605344 : Unit := ()
def PySem.W.Fast.tw10682752188314861009 : Unit := ()
def PySem.W.Fast.tw8594685773058177828 : Unit := ()
def PySem.W.Fast.tw13125680270703833330 : Unit := ()
def PySem.W.Fast.tw2469224291501220790 : Unit := ()
def PySem.W.Fast.tw6632553794186260630 : Unit := ()
def PySem.W.Fast.tw12668836095583686902 : Unit := ()
def PySem.W.Fast.tw4552613010872908448 : Unit := ()
def PySem.W.Fast.tw16399845118421993813 : Unit := ()
def PySem.W.Fast.tw5368059454645199258 : Unit := ()
def PySem.W.Fast.tw651414993026739708 : Unit := ()
def PySem.W.Fast.tw11496679169332468174 : Unit := ()
def PySem.W.Fast.tw18182636822666086216 : Unit := ()
def PySem.W.Fast.tw3411350640223361473 : Unit := ()
def PySem.W.Fast.tw13113917725624445433 : Unit := ()
def PySem.W.Fast.tw15038442927646541467 : Unit := ()
def PySem.W.Fast.tw4238538628600690332 : Unit := ()
def PySem.W.Fast.tw15506355000942249539 : Unit := ()
def PySem.W.Fast.tw7864715778837334375 : Unit := ()
def PySem.W.Fast.tw1452015335846408809 : Unit := ()
def PySem.W.Fast.tw8456915592647097201 : Unit := ()
def PySem.W.Fast.tw16687093691227654189 : Unit := ()
def PySem.W.Fast.tw9347245074228714854 : Unit := ()
def PySem.W.Fast.tw9965625450924698334 : Unit := ()
def PySem.W.Fast.tw16946180779481569937 : Unit := ()
def PySem.W.Fast.tw2015389801432374357 : Unit := ()
def PySem.W.Fast.tw8967146546031087238 : Unit := ()
def PySem.W.Fast.tw16560166859086856305 : Unit := ()
def PySem.W.Fast.tw12777465556428608684 : Unit := ()
def PySem.W.Fast.tw18179263775222513908 : Unit := ()
def PySem.W.Fast.tw12115235545475686788 : Unit := ()
def PySem.W.Fast.tw16545779304522369547 : Unit := ()
def PySem.W.Fast.tw12445193181539945175 : Unit := ()
def PySem.W.Fast.tw3426052808726540467 : Unit := ()
def PySem.W.Fast.tw8576185550580668023 : Unit := ()
def PySem.W.Fast.tw2774858311474055727 : Unit := ()
def PySem.W.Fast.tw13450658910806919649 : Unit := ()
def PySem.W.Fast.tw5021022030386301503 : Unit := ()
def PySem.W.Fast.tw11962353152139459891 : Unit := ()
def PySem.W.Fast.tw1571990035341295409 : Unit := ()
def PySem.W.Fast.tw14931470688812849609 : Unit := ()
def PySem.W.Fast.tw3425615694940472495 : Unit := ()
def PySem.W.Fast.tw1023790715754497565 : Unit := ()
def PySem.W.Fast.tw11299347348596740126 : Unit := ()
def PySem.W.Fast.tw3997894877779237619 : Unit := ()
def PySem.W.Fast.tw16039078498352214247 : Unit := ()
def PySem.W.Fast.tw1309473795725403136 : Unit := ()
def PySem.W.Fast.tw17687643622542875105 : Unit := ()
def PySem.W.Fast.tw6407434288074838284 : Unit := ()
def PySem.W.Fast.tw10393131640267258239 : Unit := ()
def PySem.W.Fast.tw4489253737724528487 : Unit := ()
def PySem.W.Fast.tw5706601936879242973 : Unit := ()
def PySem.W.Fast.tw4626959948807360624 : Unit := ()
def PySem.W.Fast.tw317611314332533103 : Unit := ()
def PySem.W.Fast.tw15922932024347353762 : Unit := ()
def PySem.W.Fast.tw2239961777047886360 : Unit := ()
def PySem.W.Fast.tw14798485658939870148 : Unit := ()
def PySem.W.Fast.tw15408058023568821263 : Unit := ()
def PySem.W.Fast.tw17568333671161506683 : Unit := ()
def PySem.W.Fast.tw10740069401275045767 : Unit := ()
def PySem.W.Fast.tw17903440633518451491 : Unit := ()
def PySem.W.Fast.tw10607625472692673642 : Unit := ()
def PySem.W.Fast.tw10075733997282069638 : Unit := ()
def PySem.W.Fast.tw18242439732606780618 : Unit := ()
def PySem.W.Fast.tw14575402821917619756 : Unit := ()
def PySem.W.Fast.tw15163862858046809601 : Unit := ()
def PySem.W.Fast.tw6258490792167454010 : Unit := ()
def PySem.W.Fast.tw3466092082803371791 : Unit := ()
def PySem.W.Fast.tw13856295299151225429 : Unit := ()
def PySem.W.Fast.tw14486690575757390135 : Unit := ()
def PySem.W.Fast.tw10353114822225103713 : Unit := ()
def PySem.W.Fast.tw8003415195525240291 : Unit := ()
def PySem.W.Fast.tw1378575588223113227 : Unit := ()
def PySem.W.Fast.tw13868248536562765652 : Unit := ()
def PySem.W.Fast.tw15682404439533615760 : Unit := ()
def PySem.W.Fast.tw8757856762347546146 : Unit := ()
def PySem.W.Fast.tw8062238413933270007 : Unit := ()
def PySem.W.Fast.tw6062756068785658293 : Unit := ()
def PySem.W.Fast.tw17973886298440258553 : Unit := ()
def PySem.W.Fast.tw16550574735894681111 : Unit := ()
def PySem.W.Fast.tw14346405070838797845 : Unit := ()
def PySem.W.Fast.tw17624558219820810600 : Unit := ()
def PySem.W.Fast.tw9817519579811060651 : Unit := ()
def PySem.W.Fast.tw111214693761959450 : Unit := ()
def PySem.W.Fast.tw12087590875905669932 : Unit := ()
def PySem.W.Fast.tw17924055990877310609 : Unit := ()
def PySem.W.Fast.tw16932725888792522761 : Unit := ()
def PySem.W.Fast.tw16277928108984654453 : Unit := ()
def PySem.W.Fast.tw9895259721534357854 : Unit := ()
def PySem.W.Fast.tw17151839941220129219 : Unit := ()
def PySem.W.Fast.tw1538456131628218712 : Unit := ()
def PySem.W.Fast.tw5404498320712178684 : Unit := ()
def PySem.W.Fast.tw2431938570669752735 : Unit := ()
def PySem.W.Fast.tw13230510046998277320 : Unit := ()
def PySem.W.Fast.tw4250752413085527211 : Unit := ()
def PySem.W.Fast.tw4188786393819061882 : Unit := ()
def PySem.W.Fast.tw14169066363518288390 : Unit := ()
def PySem.W.Fast.tw1666107184407926308 : Unit := ()
def PySem.W.Fast.tw10408578459607889162 : Unit := ()
def PySem.W.Fast.tw17971164321255741414 : Unit := ()
def PySem.W.Fast.tw17091667123432465670 : Unit := ()
def PySem.W.Fast.tw10755973319357229785 : Unit := ()
def PySem.W.Fast.tw17282327580412706609 : Unit := ()
def PySem.W.Fast.tw10563409699030482473 : Unit := ()
def PySem.W.Fast.tw17452524225020395267 : Unit := ()
def PySem.W.Fast.tw1169583628752884397 : Unit := ()
def PySem.W.Fast.tw15195653266473202305 : Unit := ()
def PySem.W.Fast.tw17178086402402347734 : Unit := ()
def PySem.W.Fast.tw2354097008784522132 : Unit := ()
def PySem.W.Fast.tw597850373598678868 : Unit := ()
def PySem.W.Fast.tw186435908898000576 : Unit := ()
def PySem.W.Fast.tw14724856176122817426 : Unit := ()
def PySem.W.Fast.tw9954434217242248031 : Unit := ()
def PySem.W.Fast.tw3778344149441401566 : Unit := ()
def PySem.W.Fast.tw9709375916963601537 : Unit := ()
def PySem.W.Fast.tw9854631435671786783 : Unit := ()
def PySem.W.Fast.tw9339390867747532732 : Unit := ()
def PySem.W.Fast.tw16154031556277669489 : Unit := ()
def PySem.W.Fast.tw12129807350934384500 : Unit := ()
def PySem.W.Fast.tw127836530249874113 : Unit := ()
def PySem.W.Fast.tw16892087318254106797 : Unit := ()
def PySem.W.Fast.tw413322170616039903 : Unit := ()
def PySem.W.Fast.tw287970444988613499 : Unit := ()
def PySem.W.Fast.tw3664664147854640175 : Unit := ()
def PySem.W.Fast.tw2581230517388855211 : Unit := ()
def PySem.W.Fast.tw17603533604314530897 : Unit := ()
def PySem.W.Fast.tw661296678711044472 : Unit := ()
def PySem.W.Fast.tw16983527962586080227 : Unit := ()
def PySem.W.Fast.tw3883253629709209885 : Unit := ()
def PySem.W.Fast.tw17044814837980280264 : Unit := ()
def PySem.W.Fast.tw7943854444843861680 : Unit := ()
def PySem.W.Fast.tw4124238484427239263 : Unit := ()
def PySem.W.Fast.tw14133655486152236641 : Unit := ()
def PySem.W.Fast.tw17725607068903753926 : Unit := ()
def PySem.W.Fast.tw16137175076549901724 : Unit := ()
def PySem.W.Fast.tw3270177714132530222 : Unit := ()
def PySem.W.Fast.tw15276042095815748351 : Unit := ()
def PySem.W.Fast.tw6583455006202208165 : Unit := ()
def PySem.W.Fast.tw5310197491832750354 : Unit := ()
def PySem.W.Fast.tw3044523180714444382 : Unit := ()
def PySem.W.Fast.tw17591663244399958256 : Unit := ()
def PySem.W.Fast.tw6097770076985492380 : Unit := ()
def PySem.W.Fast.tw6296871497562117105 : Unit := ()
def PySem.W.Fast.tw15531023234151695467 : Unit := ()
def PySem.W.Fast.tw555638160880746968 : Unit := ()
def PySem.W.Fast.tw7774413077465179463 : Unit := ()
def PySem.W.Fast.tw15218593016265023702 : Unit := ()
def PySem.W.Fast.tw7284046952611057161 : Unit := ()
def PySem.W.Fast.tw6195886574221014466 : Unit := ()
def PySem.W.Fast.tw14656167655252372232 : Unit := ()
def PySem.W.Fast.tw10466267227278508300 : Unit := ()
def PySem.W.Fast.tw10222259025517586385 : Unit := ()
def PySem.W.Fast.tw11445540302578451515 : Unit := ()
def PySem.W.Fast.tw2497653222030071970 : Unit := ()
def PySem.W.Fast.tw9619041871225683355 : Unit := ()
def PySem.W.Fast.tw13330998651452437434 : Unit := ()
def PySem.W.Fast.tw17810440914998271842 : Unit := ()
def PySem.W.Fast.tw15114297739540492560 : Unit := ()
def PySem.W.Fast.tw12473072507197136882 : Unit := ()
def PySem.W.Fast.tw9445000361658309185 : Unit := ()
def PySem.W.Fast.tw10080068003608152634 : Unit := ()
def PySem.W.Fast.tw5635698133946413296 : Unit := ()
def PySem.W.Fast.tw1243625047147451931 : Unit := ()
def PySem.W.Fast.tw4454980093764620145 : Unit := ()
def PySem.W.Fast.tw6125755264441753495 : Unit := ()
def PySem.W.Fast.tw1765836008406186021 : Unit := ()
def PySem.W.Fast.tw12710474852898068274 : Unit := ()
def PySem.W.Fast.tw7785186864662282834 : Unit := ()
def PySem.W.Fast.tw16516519754991179697 : Unit := ()
def PySem.W.Fast.tw3265763017952946642 : Unit := ()
def PySem.W.Fast.tw14274111163704994036 : Unit := ()
def PySem.W.Fast.tw5737793886326137775 : Unit := ()
def PySem.W.Fast.tw8730418413893352741 : Unit := ()
def PySem.W.Fast.tw130834609046989991 : Unit := ()
def PySem.W.Fast.tw5327457653538392665 : Unit := ()
def PySem.W.Fast.tw12646778250302105093 : Unit := ()
def PySem.W.Fast.tw7021672694006749397 : Unit := ()
def PySem.W.Fast.tw6714764045215091752 : Unit := ()
def PySem.W.Fast.tw16850801108358718316 : Unit := ()
def PySem.W.Fast.tw4782337252542161059 : Unit := ()
def PySem.W.Fast.tw16156179099508960793 : Unit := ()
def PySem.W.Fast.tw5184377395221764325 : Unit := ()
def PySem.W.Fast.tw12882255883093932293 : Unit := ()
def PySem.W.Fast.tw9997511203209193914 : Unit := ()
def PySem.W.Fast.tw17368346490028376457 : Unit := ()
def PySem.W.Fast.tw11030307160731621639 : Unit := ()
def PySem.W.Fast.tw5370648754527736137 : Unit := ()
def PySem.W.Fast.tw15352879566119135163 : Unit := ()
def PySem.W.Fast.tw17761747071541053344 : Unit := ()
def PySem.W.Fast.tw13885980941030788922 : Unit := ()
def PySem.W.Fast.tw2681723291310145907 : Unit := ()
def PySem.W.Fast.tw1851584096509688699 : Unit := ()
def PySem.W.Fast.tw17769902071379825529 : Unit := ()
def PySem.W.Fast.tw12415164923689008441 : Unit := ()
def PySem.W.Fast.tw5801196942767753363 : Unit := ()
def PySem.W.Fast.tw528961718531854430 : Unit := ()
def PySem.W.Fast.tw14043221685873668578 : Unit := ()
def PySem.W.Fast.tw3505032084518963902 : Unit := ()
def PySem.W.Fast.tw3005562430213458363 : Unit := ()
def PySem.W.Fast.tw12851956154389317953 : Unit := ()
def PySem.W.Fast.tw1374163441219031397 : Unit := ()
def PySem.W.Fast.tw14649126294182131171 : Unit := ()
def PySem.W.Fast.tw7223570709060736573 : Unit := ()
def PySem.W.Fast.tw6198161978066945754 : Unit := ()
def PySem.W.Fast.tw14054395496907806884 : Unit := ()
def PySem.W.Fast.tw5848416223733246799 : Unit := ()
def PySem.W.Fast.tw14533223561320017292 : Unit := ()
def PySem.W.Fast.tw8373184113560050690 : Unit := ()
def PySem.W.Fast.tw10840157007684301209 : Unit := ()
def PySem.W.Fast.tw2430701310720527107 : Unit := ()
def PySem.W.Fast.tw4130113478743759267 : Unit := ()
def PySem.W.Fast.tw11356156955308586334 : Unit := ()
def PySem.W.Fast.tw17957009194168344011 : Unit := ()
def PySem.W.Fast.tw1087519640139377044 : Unit := ()
def PySem.W.Fast.tw8015564819941373079 : Unit := ()
def PySem.W.Fast.tw6117340664943828346 : Unit := ()
def PySem.W.Fast.tw6226057150181446632 : Unit := ()
def PySem.W.Fast.tw17776249674113294424 : Unit := ()
def PySem.W.Fast.tw4577922113017240435 : Unit := ()
def PySem.W.Fast.tw13840389207561763881 : Unit := ()
def PySem.W.Fast.tw389566165654444991 : Unit := ()
def PySem.W.Fast.tw9310884048438099017 : Unit := ()
def PySem.W.Fast.tw15694072780836329677 : Unit := ()
def PySem.W.Fast.tw9796105188427497035 : Unit := ()
def PySem.W.Fast.tw787807118366993921 : Unit := ()
def PySem.W.Fast.tw9011507620303654037 : Unit := ()
def PySem.W.Fast.tw12464875739595581769 : Unit := ()
def PySem.W.Fast.tw6487506421674733432 : Unit := ()
def PySem.W.Fast.tw4530074757528761484 : Unit := ()
def PySem.W.Fast.tw578204475183852752 : Unit := ()
def PySem.W.Fast.tw4914429452347307104 : Unit := ()
def PySem.W.Fast.tw11416100607685282137 : Unit := ()
def PySem.W.Fast.tw6184464748126466500 : Unit := ()
def PySem.W.Fast.tw9602927237198388336 : Unit := ()
def PySem.W.Fast.tw7366927179400745584 : Unit := ()
def PySem.W.Fast.tw11041927864292541319 : Unit := ()
def PySem.W.Fast.tw15218368972546172817 : Unit := ()
def PySem.W.Fast.tw17509150449576329448 : Unit := ()
def PySem.W.Fast.tw6728006563412323544 : Unit := ()
def PySem.W.Fast.tw12614514478732012138 : Unit := ()
def PySem.W.Fast.tw6457068536740331148 : Unit := ()
def PySem.W.Fast.tw17132628585790238107 : Unit := ()
def PySem.W.Fast.tw3409773899409646675 : Unit := ()
def PySem.W.Fast.tw9300093235979515008 : Unit := ()
def PySem.W.Fast.tw14709285127501541423 : Unit := ()
def PySem.W.Fast.tw13332255555078473785 : Unit := ()
def PySem.W.Fast.tw2985913017913868997 : Unit := ()
def PySem.W.Fast.tw5373783180100220509 : Unit := ()
def PySem.W.Fast.tw11427668225544113099 : Unit := ()
def PySem.W.Fast.tw3889564662888893387 : Unit := ()
def PySem.W.Fast.tw5496340216918446892 : Unit := ()
def PySem.W.Fast.tw926553699765444374 : Unit := ()
def PySem.W.Fast.tw12882561605037759890 : Unit := ()
def PySem.W.Fast.tw12002432070368948479 : Unit := ()
def PySem.W.Fast.tw9510649318144720902 : Unit := ()
def PySem.W.Fast.tw7245887481707355187 : Unit := ()
def PySem.W.Fast.tw2628227567236440972 : Unit := ()
def PySem.W.Fast.tw9973641486801879107 : Unit := ()
def PySem.W.Fast.tw8842979925165824071 : Unit := ()
def PySem.W.Fast.tw3425282176385014176 : Unit := ()
def PySem.W.Fast.tw7000313682042966870 : Unit := ()
def PySem.W.Fast.tw11914364848386869569 : Unit := ()
def PySem.W.Fast.tw7074108576521694717 : Unit := ()
def PySem.W.Fast.tw7338051456870344753 : Unit := ()
def PySem.W.Fast.tw507206651788280131 : Unit := ()
def PySem.W.Fast.tw6361569823355836275 : Unit := ()
def PySem.W.Fast.tw18246372333806975051 : Unit := ()
def PySem.W.Fast.tw12945082527522231867 : Unit := ()
def PySem.W.Fast.tw10868767948370331046 : Unit := ()
def PySem.W.Fast.tw9936559860139897603 : Unit := ()
def PySem.W.Fast.tw6555119774676870300 : Unit := ()
def PySem.W.Fast.tw10154549215366371089 : Unit := ()
def PySem.W.Fast.tw17329921915804841096 : Unit := ()
def PySem.W.Fast.tw5510542228322781478 : Unit := ()
def PySem.W.Fast.tw62630124484225229 : Unit := ()
def PySem.W.Fast.tw13045732216665451230 : Unit := ()
def PySem.W.Fast.tw10115604634689934567 : Unit := ()
def PySem.W.Fast.tw13871641613023321601 : Unit := ()
def PySem.W.Fast.tw11387021396624522754 : Unit := ()
def PySem.W.Fast.tw14795677194319749920 : Unit := ()
def PySem.W.Fast.tw5296919503402794860 : Unit := ()
def PySem.W.Fast.tw2174199944980885583 : Unit := ()
def PySem.W.Fast.tw5756895809373325728 : Unit := ()
def PySem.W.Fast.tw2588484543460017981 : Unit := ()
def PySem.W.Fast.tw11869110190593848936 : Unit := ()
def PySem.W.Fast.tw9863882322018503871 : Unit := ()
def PySem.W.Fast.tw2407666728288031126 : Unit := ()
def PySem.W.Fast.tw13931151294364266530 : Unit := ()
def PySem.W.Fast.tw14949987200659059738 : Unit := ()
def PySem.W.Fast.tw10373732904900518197 : Unit := ()
def PySem.W.Fast.tw1230637526355980220 : Unit := ()
def PySem.W.Fast.tw10700823191764305030 : Unit := ()
def PySem.W.Fast.tw733197688684012021 : Unit := ()
def PySem.W.Fast.tw6835945456918533381 : Unit := ()
def PySem.W.Fast.tw13093905390506336297 : Unit := ()
def PySem.W.Fast.tw9449393262787781597 : Unit := ()
def PySem.W.Fast.tw5031470557449926071 : Unit := ()
def PySem.W.Fast.tw15322436270934263672 : Unit := ()
def PySem.W.Fast.tw13527702221362864180 : Unit := ()
def PySem.W.Fast.tw10681569226306395317 : Unit := ()
def PySem.W.Fast.tw9604651042047100488 : Unit := ()
def PySem.W.Fast.tw1591069207626162873 : Unit := ()
def PySem.W.Fast.tw118916507981856982 : Unit := ()
def PySem.W.Fast.tw5247748648748108377 : Unit := ()
def PySem.W.Fast.tw10293730952074883641 : Unit := ()
def PySem.W.Fast.tw17309305925588891415 : Unit := ()
def PySem.W.Fast.tw10413177081215593956 : Unit := ()
def PySem.W.Fast.tw16324189585639141788 : Unit := ()
def PySem.W.Fast.tw12540476750200139977 : Unit := ()
def PySem.W.Fast.tw6856325670978979791 : Unit := ()
def PySem.W.Fast.tw14833052102979567818 : Unit := ()
def PySem.W.Fast.tw13647563218890728132 : Unit := ()
def PySem.W.Fast.tw11847459714601481062 : Unit := ()
def PySem.W.Fast.tw16689392980717141521 : Unit := ()
def PySem.W.Fast.tw7509780002419232504 : Unit := ()
def PySem.W.Fast.tw11737060980462840332 : Unit := ()
def PySem.W.Fast.tw2973600909080761375 : Unit := ()
def PySem.W.Fast.tw16862089893296445078 : Unit := ()
def PySem.W.Fast.tw1220081047907336183 : Unit := ()
def PySem.W.Fast.tw14386108999203929295 : Unit := ()
def PySem.W.Fast.tw4244662719777913039 : Unit := ()
def PySem.W.Fast.tw7873596199167995210 : Unit := ()
def PySem.W.Fast.tw7748825229397148562 : Unit := ()
def PySem.W.Fast.tw14841322555801285422 : Unit := ()
def PySem.W.Fast.tw18007639676718779673 : Unit := ()
def PySem.W.Fast.tw10493390066066648478 : Unit := ()
def PySem.W.Fast.tw13355253357505038362 : Unit := ()
def PySem.W.Fast.tw14143470726340687300 : Unit := ()
def PySem.W.Fast.tw7672494872505548677 : Unit := ()
def PySem.W.Fast.tw9282508261471545515 : Unit := ()
def PySem.W.Fast.tw18237992659809895762 : Unit := ()
def PySem.W.Fast.tw13060398688053584493 : Unit := ()
def PySem.W.Fast.tw16791840863877108751 : Unit := ()
def PySem.W.Fast.tw3160636235960294467 : Unit := ()
def PySem.W.Fast.tw14288598627880122457 : Unit := ()
def PySem.W.Fast.tw10651080125702672888 : Unit := ()
def PySem.W.Fast.tw169659739301671344 : Unit := ()
def PySem.W.Fast.tw12182108774735296232 : Unit := ()
def PySem.W.Fast.tw13936689158138488342 : Unit := ()
def PySem.W.Fast.tw1228533848661014082 : Unit := ()
def PySem.W.Fast.tw4773057623048479954 : Unit := ()
def PySem.W.Fast.tw11460114865581224195 : Unit := ()
def PySem.W.Fast.tw5821661415280501879 : Unit := ()
def PySem.W.Fast.tw10306522536925313969 : Unit := ()
def PySem.W.Fast.tw16694438673609331901 : Unit := ()
def PySem.W.Fast.tw3104350782831538668 : Unit := ()
def PySem.W.Fast.tw118062174276860729 : Unit := ()
def PySem.W.Fast.tw8542414642688624823 : Unit := ()
def PySem.W.Fast.tw9372660739254747775 : Unit := ()
def PySem.W.Fast.tw11567844457673146605 : Unit := ()
def PySem.W.Fast.tw7027608502848175025 : Unit := ()
def PySem.W.Fast.tw2221382169408391649 : Unit := ()
def PySem.W.Fast.tw8608920821394063764 : Unit := ()
def PySem.W.Fast.tw8832358522214912445 : Unit := ()
def PySem.W.Fast.tw646943082695936666 : Unit := ()
def PySem.W.Fast.tw10056793952087559704 : Unit := ()
def PySem.W.Fast.tw2940869375666939581 : Unit := ()
def PySem.W.Fast.tw8672098970889484255 : Unit := ()
def PySem.W.Fast.tw4786413280155412598 : Unit := ()
def PySem.W.Fast.tw11344658666015976516 : Unit := ()
def PySem.W.Fast.tw11292487626467085439 : Unit := ()
def PySem.W.Fast.tw5018976318013654741 : Unit := ()
def PySem.W.Fast.tw17392851673160338038 : Unit := ()
def PySem.W.Fast.tw16110145600007746342 : Unit := ()
def PySem.W.Fast.tw13627897631566421240 : Unit := ()
def PySem.W.Fast.tw12869366081223002876 : Unit := ()
def PySem.W.Fast.tw5227951372134465066 : Unit := ()
def PySem.W.Fast.tw3160606965694434356 : Unit := ()
def PySem.W.Fast.tw16648425560360576484 : Unit := ()
def PySem.W.Fast.tw17161486720621603796 : Unit := ()
def PySem.W.Fast.tw5030649297997891040 : Unit := ()
def PySem.W.Fast.tw7528112772941368060 : Unit := ()
def PySem.W.Fast.tw5341474429384304850 : Unit := ()
def PySem.W.Fast.tw15575739615301956611 : Unit := ()
def PySem.W.Fast.tw15571216273386022460 : Unit := ()
def PySem.W.Fast.tw17743099298527773154 : Unit := ()
def PySem.W.Fast.tw13132806660448054061 : Unit := ()
def PySem.W.Fast.tw8680755487774700278 : Unit := ()
def PySem.W.Fast.tw9949778032130866318 : Unit := ()
def PySem.W.Fast.tw15512864648039468574 : Unit := ()
def PySem.W.Fast.tw10476023403665392114 : Unit := ()
def PySem.W.Fast.tw14843406724445520957 : Unit := ()
def PySem.W.Fast.tw16055633084700401695 : Unit := ()
def PySem.W.Fast.tw15314377768832301629 : Unit := ()
def PySem.W.Fast.tw12412702720697003505 : Unit := ()
def PySem.W.Fast.tw14069539907213982087 : Unit := ()
def PySem.W.Fast.tw15264540719061980142 : Unit := ()
def PySem.W.Fast.tw2672369401342113464 : Unit := ()
def PySem.W.Fast.tw12707681081783258340 : Unit := ()
def PySem.W.Fast.tw16188793738349132951 : Unit := ()
def PySem.W.Fast.tw6112170606123410576 : Unit := ()
def PySem.W.Fast.tw14071966235800468342 : Unit := ()
def PySem.W.Fast.tw14787764969527955521 : Unit := ()
def PySem.W.Fast.tw2263498777071084681 : Unit := ()
def PySem.W.Fast.tw12906451391260114817 : Unit := ()
def PySem.W.Fast.tw17712659269621910438 : Unit := ()
def PySem.W.Fast.tw7199365710878331288 : Unit := ()
def PySem.W.Fast.tw6183744562067990559 : Unit := ()
def PySem.W.Fast.tw15289882193684347872 : Unit := ()
def PySem.W.Fast.tw7664905856758490142 : Unit := ()
def PySem.W.Fast.tw16926442060447677263 : Unit := ()
def PySem.W.Fast.tw7875658315596518952 : Unit := ()
def PySem.W.Fast.tw6476358088213418950 : Unit := ()
def PySem.W.Fast.tw10120172333305190437 : Unit := ()
def PySem.W.Fast.tw13089825908587614261 : Unit := ()
def PySem.W.Fast.tw8619924756946287411 : Unit := ()
def PySem.W.Fast.tw9521172041527096684 : Unit := ()
def PySem.W.Fast.tw9017782880543289054 : Unit := ()
def PySem.W.Fast.tw3078172232305754661 : Unit := ()
def PySem.W.Fast.tw16828859881958784286 : Unit := ()
def PySem.W.Fast.tw3377636436655421963 : Unit := ()
def PySem.W.Fast.tw5735537163780075913 : Unit := ()
def PySem.W.Fast.tw1998928761368350925 : Unit := ()
def PySem.W.Fast.tw13012166256204777173 : Unit := ()
def PySem.W.Fast.tw14779993579109266111 : Unit := ()
def PySem.W.Fast.tw10057300515805558794 : Unit := ()
def PySem.W.Fast.tw16804163227686766820 : Unit := ()
def PySem.W.Fast.tw2740612655734320620 : Unit := ()
def PySem.W.Fast.tw14065699484691281044 : Unit := ()
def PySem.W.Fast.tw5026843323373239307 : Unit := ()
def PySem.W.Fast.tw16668741760291861158 : Unit := ()
def PySem.W.Fast.tw10144655822313192783 : Unit := ()
def PySem.W.Fast.tw16530341276381586166 : Unit := ()
def PySem.W.Fast.tw2951748563378803397 : Unit := ()
def PySem.W.Fast.tw17245571863580377500 : Unit := ()
def PySem.W.Fast.tw11291995730867397605 : Unit := ()
def PySem.W.Fast.tw9863891492136115823 : Unit := ()
def PySem.W.Fast.tw11747158649065636687 : Unit := ()
def PySem.W.Fast.tw14719827910693999962 : Unit := ()
def PySem.W.Fast.tw460307393277974196 : Unit := ()
def PySem.W.Fast.tw14803211067998647256 : Unit := ()
def PySem.W.Fast.tw1658447027038203654 : Unit := ()
def PySem.W.Fast.tw319262369843975179 : Unit := ()
def PySem.W.Fast.tw16160823961706324654 : Unit := ()
def PySem.W.Fast.tw915893719008820556 : Unit := ()
def PySem.W.Fast.tw3492158314054484871 : Unit := ()
def PySem.W.Fast.tw4808677274163170441 : Unit := ()
def PySem.W.Fast.tw5790935535552761544 : Unit := ()
def PySem.W.Fast.tw11355045305747073546 : Unit := ()
def PySem.W.Fast.tw5702596397839875466 : Unit := ()
def PySem.W.Fast.tw11537977147984455399 : Unit := ()
def PySem.W.Fast.tw7195306775710996924 : Unit := ()
def PySem.W.Fast.tw1832059223926382898 : Unit := ()
def PySem.W.Fast.tw10882090050868474682 : Unit := ()
def PySem.W.Fast.tw6421122656891758572 : Unit := ()
def PySem.W.Fast.tw2077545115268377671 : Unit := ()
def PySem.W.Fast.tw77262526352629028 : Unit := ()
def PySem.W.Fast.tw2419276178250801846 : Unit := ()
def PySem.W.Fast.tw8357548204946760532 : Unit := ()
def PySem.W.Fast.tw5877477073954250785 : Unit := ()
def PySem.W.Fast.tw4841047799804745918 : Unit := ()
def PySem.W.Fast.tw5874306473468212304 : Unit := ()
def PySem.W.Fast.tw1148636995583677004 : Unit := ()
def PySem.W.Fast.tw10966016952797843380 : Unit := ()
def PySem.W.Fast.tw12126407591823329776 : Unit := ()
def PySem.W.Fast.tw7440081778483009525 : Unit := ()
def PySem.W.Fast.tw2670437229063430033 : Unit := ()
def PySem.W.Fast.tw16538896046756002739 : Unit := ()
def PySem.W.Fast.tw535287275583707605 : Unit := ()
def PySem.W.Fast.tw14585355838317642387 : Unit := ()
def PySem.W.Fast.tw8948032967424660107 : Unit := ()
def PySem.W.Fast.tw5449911631299382977 : Unit := ()
def PySem.W.Fast.tw6866111849767681885 : Unit := ()
def PySem.W.Fast.tw8116915149682256962 : Unit := ()
def PySem.W.Fast.tw7061008161360152715 : Unit := ()
def PySem.W.Fast.tw3752827257082905825 : Unit := ()
def PySem.W.Fast.tw9665502104447383420 : Unit := ()
def PySem.W.Fast.tw1408083772314019920 : Unit := ()
def PySem.W.Fast.tw17389121975297102630 : Unit := ()
def PySem.W.Fast.tw530814804504128180 : Unit := ()
def PySem.W.Fast.tw14169118380195196237 : Unit := ()
def PySem.W.Fast.tw8502313225981747192 : Unit := ()
def PySem.W.Fast.tw1763136064659722805 : Unit := ()
def PySem.W.Fast.tw12792292066631865773 : Unit := ()
def PySem.W.Fast.tw11137924673763172840 : Unit := ()
def PySem.W.Fast.tw17616929376285758018 : Unit := ()
def PySem.W.Fast.tw3342796706085018419 : Unit := ()
def PySem.W.Fast.tw12240546149354385004 : Unit := ()
def PySem.W.Fast.tw996203998405591689 : Unit := ()
def PySem.W.Fast.tw7526219806422971493 : Unit := ()
def PySem.W.Fast.tw2805822236228888835 : Unit := ()
def PySem.W.Fast.tw10071373479670745210 : Unit := ()
def PySem.W.Fast.tw4429598073164669787 : Unit := ()
def PySem.W.Fast.tw1842504814757416673 : Unit := ()
def PySem.W.Fast.tw6970423515365676867 : Unit := ()
def PySem.W.Fast.tw11736688550974036030 : Unit := ()
def PySem.W.Fast.tw14660904803888953359 : Unit := ()
def PySem.W.Fast.tw1115193583894740456 : Unit := ()
def PySem.W.Fast.tw5044311736359561836 : Unit := ()
def PySem.W.Fast.tw10232188743799686400 : Unit := ()
def PySem.W.Fast.tw18164847406459527204 : Unit := ()
def PySem.W.Fast.tw9351639669236036531 : Unit := ()
def PySem.W.Fast.tw3165513734966704218 : Unit := ()
def PySem.W.Fast.tw9429646448196973406 : Unit := ()
def PySem.W.Fast.tw4679736821137258444 : Unit := ()
def PySem.W.Fast.tw9863099882043609158 : Unit := ()
def PySem.W.Fast.tw10259827599918157269 : Unit := ()
def PySem.W.Fast.tw6389749665084087526 : Unit := ()
def PySem.W.Fast.tw3194956221335425192 : Unit := ()
def PySem.W.Fast.tw13484029857332727345 : Unit := ()
def PySem.W.Fast.tw8738160879117039787 : Unit := ()
def PySem.W.Fast.tw9273219550740033947 : Unit := ()
def PySem.W.Fast.tw8013740759446503635 : Unit := ()
def PySem.W.Fast.tw5083872482427294876 : Unit := ()
def PySem.W.Fast.tw13958911935424705467 : Unit := ()
def PySem.W.Fast.tw17632468181166558690 : Unit := ()
def PySem.W.Fast.tw12609919551890550900 : Unit := ()
def PySem.W.Fast.tw9322757711764385166 : Unit := ()
def PySem.W.Fast.tw18055863886809053634 : Unit := ()
def PySem.W.Fast.tw9239858684063386218 : Unit := ()
def PySem.W.Fast.tw10648901235388622418 : Unit := ()
def PySem.W.Fast.tw7146020434955100859 : Unit := ()
def PySem.W.Fast.tw2504272923687198460 : Unit := ()
def PySem.W.Fast.tw13112106322083149 : Unit := ()
def PySem.W.Fast.tw1793264477834520038 : Unit := ()
def PySem.W.Fast.tw7026565200870898117 : Unit := ()
def PySem.W.Fast.tw892724138639263474 : Unit := ()
def PySem.W.Fast.tw14551432371540682977 : Unit := ()
def PySem.W.Fast.tw15128222904705314657 : Unit := ()
def PySem.W.Fast.tw141897127454444223 : Unit := ()
def PySem.W.Fast.tw17793713126121440597 : Unit := ()
def PySem.W.Fast.tw9723588654936441300 : Unit := ()
def PySem.W.Fast.tw4504771127202784820 : Unit := ()
def PySem.W.Fast.tw17100455851748947038 : Unit := ()
def PySem.W.Fast.tw13710502156625498156 : Unit := ()
def PySem.W.Fast.tw11440143443594073010 : Unit := ()
def PySem.W.Fast.tw8621472755437925870 : Unit := ()
def PySem.W.Fast.tw644414649502645774 : Unit := ()
def PySem.W.Fast.tw4816760622565143678 : Unit := ()
def PySem.W.Fast.tw16365805866162406332 : Unit := ()
def PySem.W.Fast.tw10285989544484212341 : Unit := ()
def PySem.W.Fast.tw5368814601576645388 : Unit := ()
def PySem.W.Fast.tw10232170915492207490 : Unit := ()
def PySem.W.Fast.tw9354371637452499555 : Unit := ()
def PySem.W.Fast.tw3375582364504907291 : Unit := ()
def PySem.W.Fast.tw9160755366876312530 : Unit := ()
def PySem.W.Fast.tw11214574691044474394 : Unit := ()
def PySem.W.Fast.tw14611009109994173601 : Unit := ()
def PySem.W.Fast.tw18030284874792340574 : Unit := ()
def PySem.W.Fast.tw1380265959873885761 : Unit := ()
def PySem.W.Fast.tw1773914189142802444 : Unit := ()
def PySem.W.Fast.tw4461085835265176742 : Unit := ()
def PySem.W.Fast.tw2251627709991430674 : Unit := ()
def PySem.W.Fast.tw3315410963425671506 : Unit := ()
def PySem.W.Fast.tw4419226684630442613 : Unit := ()
def PySem.W.Fast.tw334689127762337028 : Unit := ()
def PySem.W.Fast.tw12906595101849117441 : Unit := ()
def PySem.W.Fast.tw16026006137894648058 : Unit := ()
def PySem.W.Fast.tw11205788056617801555 : Unit := ()
def PySem.W.Fast.tw1247345317474520148 : Unit := ()
def PySem.W.Fast.tw242348563242686321 : Unit := ()
def PySem.W.Fast.tw1483700413262284621 : Unit := ()
def PySem.W.Fast.tw1621374081524134948 : Unit := ()
def PySem.W.Fast.tw2644008768245236409 : Unit := ()
def PySem.W.Fast.tw5075204938762130216 : Unit := ()
def PySem.W.Fast.tw273838283847555845 : Unit := ()
def PySem.W.Fast.tw4630373881315408426 : Unit := ()
def PySem.W.Fast.tw13654272049619619641 : Unit := ()
def PySem.W.Fast.tw3584797691894771342 : Unit := ()
def PySem.W.Fast.tw4600613208565011675 : Unit := ()
def PySem.W.Fast.tw8046286076718201589 : Unit := ()
def PySem.W.Fast.tw10048448228935475812 : Unit := ()
def PySem.W.Fast.tw13968433152336867756 : Unit := ()
def PySem.W.Fast.tw3272654369086200930 : Unit := ()
def PySem.W.Fast.tw4049048105405072655 : Unit := ()
def PySem.W.Fast.tw13476428180750136910 : Unit := ()
def PySem.W.Fast.tw350512218615307120 : Unit := ()
def PySem.W.Fast.tw9720107972343618793 : Unit := ()
def PySem.W.Fast.tw15160442647184811733 : Unit := ()
def PySem.W.Fast.tw9485797078524726735 : Unit := ()
def PySem.W.Fast.tw12803253736425924786 : Unit := ()
def PySem.W.Fast.tw15142732519291936634 : Unit := ()
def PySem.W.Fast.tw2316302354684936329 : Unit := ()
def PySem.W.Fast.tw2806167647514346886 : Unit := ()
def PySem.W.Fast.tw9932340501943636509 : Unit := ()
def PySem.W.Fast.tw12288949097372348602 : Unit := ()
def PySem.W.Fast.tw13567712541143969549 : Unit := ()
def PySem.W.Fast.tw14216626844284362411 : Unit := ()
def PySem.W.Fast.tw11389456605215117084 : Unit := ()
def PySem.W.Fast.tw2159078184199903208 : Unit := ()
def PySem.W.Fast.tw14179626763248302437 : Unit := ()
def PySem.W.Fast.tw6166357043092284988 : Unit := ()
def PySem.W.Fast.tw14723941094172890575 : Unit := ()
def PySem.W.Fast.tw7123191961738858781 : Unit := ()
def PySem.W.Fast.tw18389265041656925679 : Unit := ()
def PySem.W.Fast.tw445295461709477459 : Unit := ()
def PySem.W.Fast.tw8368987765189357765 : Unit := ()
def PySem.W.Fast.tw17128272379521144815 : Unit := ()
def PySem.W.Fast.tw15054111990142438949 : Unit := ()
def PySem.W.Fast.tw4923471745003934567 : Unit := ()
def PySem.W.Fast.tw9227259534373847198 : Unit := ()
def PySem.W.Fast.tw12186909719490504149 : Unit := ()
def PySem.W.Fast.tw8752899842543136190 : Unit := ()
def PySem.W.Fast.tw2729650540293739026 : Unit := ()
def PySem.W.Fast.tw9184274804771328723 : Unit := ()
def PySem.W.Fast.tw15345466413387036813 : Unit := ()
def PySem.W.Fast.tw16492355957708077691 : Unit := ()
def PySem.W.Fast.tw5279831433713432664 : Unit := ()
def PySem.W.Fast.tw10094966831862108272 : Unit := ()
def PySem.W.Fast.tw17271965650237240406 : Unit := ()
def PySem.W.Fast.tw13474245208624872673 : Unit := ()
def PySem.W.Fast.tw17859396258509859687 : Unit := ()
def PySem.W.Fast.tw10135010567536817734 : Unit := ()
def PySem.W.Fast.tw9249806252153119559 : Unit := ()
def PySem.W.Fast.tw13399552149546232233 : Unit := ()
def PySem.W.Fast.tw12090149627246273219 : Unit := ()
def PySem.W.Fast.tw12542372036015294493 : Unit := ()
def PySem.W.Fast.tw16919924934872908981 : Unit := ()
def PySem.W.Fast.tw4409116779615629768 : Unit := ()
def PySem.W.Fast.tw5723071725645890212 : Unit := ()
def PySem.W.Fast.tw10618702444577463299 : Unit := ()
def PySem.W.Fast.tw10368392623761968796 : Unit := ()
def PySem.W.Fast.tw5286555193428921746 : Unit := ()
def PySem.W.Fast.tw3168542258428230360 : Unit := ()
def PySem.W.Fast.tw12420045539335358646 : Unit := ()
def PySem.W.Fast.tw2662825469673044220 : Unit := ()
def PySem.W.Fast.tw15016353225758225846 : Unit := ()
def PySem.W.Fast.tw354405260433572993 : Unit := ()
def PySem.W.Fast.tw14880963136236351709 : Unit := ()
def PySem.W.Fast.tw4864884653668523643 : Unit := ()
def PySem.W.Fast.tw10332973837326484118 : Unit := ()
def PySem.W.Fast.tw1309008093197982689 : Unit := ()
def PySem.W.Fast.tw2869716198626234947 : Unit := ()
def PySem.W.Fast.tw16435116556769993861 : Unit := ()
def PySem.W.Fast.tw9644344382325851977 : Unit := ()
def PySem.W.Fast.tw11128509247117821690 : Unit := ()
def PySem.W.Fast.tw2296000958451890132 : Unit := ()
def PySem.W.Fast.tw10397935665352594516 : Unit := ()
def PySem.W.Fast.tw16881729753962043816 : Unit := ()
def PySem.W.Fast.tw9813514160520453610 : Unit := ()
def PySem.W.Fast.tw12921337997583007828 : Unit := ()
def PySem.W.Fast.tw16527701912169739259 : Unit := ()
def PySem.W.Fast.tw12852295525611159573 : Unit := ()
def PySem.W.Fast.tw4002733893504593966 : Unit := ()
def PySem.W.Fast.tw8331624561169551061 : Unit := ()
def PySem.W.Fast.tw6253614111311659611 : Unit := ()
def PySem.W.Fast.tw18218492699343070098 : Unit := ()
def PySem.W.Fast.tw16891267233397104318 : Unit := ()
def PySem.W.Fast.tw4364291583628202592 : Unit := ()
def PySem.W.Fast.tw17236114323723424505 : Unit := ()
def PySem.W.Fast.tw801758376406732296 : Unit := ()
def PySem.W.Fast.tw915204870769016817 : Unit := ()
def PySem.W.Fast.tw4276786625378555878 : Unit := ()
def PySem.W.Fast.tw1533603356656262498 : Unit := ()
def PySem.W.Fast.tw18731233834008984 : Unit := ()
def PySem.W.Fast.tw879667866694947637 : Unit := ()
def PySem.W.Fast.tw2585149292080216383 : Unit := ()
def PySem.W.Fast.tw9425787826505122954 : Unit := ()
def PySem.W.Fast.tw6284114636057887896 : Unit := ()
def PySem.W.Fast.tw13115732072494606667 : Unit := ()
def PySem.W.Fast.tw1450275503105770019 : Unit := ()
def PySem.W.Fast.tw15519592632889859659 : Unit := ()
def PySem.W.Fast.tw3164907372313473678 : Unit := ()
def PySem.W.Fast.tw16169731349813059111 : Unit := ()
def PySem.W.Fast.tw4855531912195134999 : Unit := ()
def PySem.W.Fast.tw2863014097373308959 : Unit := ()
def PySem.W.Fast.tw12217964158184199113 : Unit := ()
def PySem.W.Fast.tw7880027542711893313 : Unit := ()
def PySem.W.Fast.tw8885382839739875368 : Unit := ()
def PySem.W.Fast.tw10232445905357601693 : Unit := ()
def PySem.W.Fast.tw2582880597429961272 : Unit := ()
def PySem.W.Fast.tw718499918634321567 : Unit := ()
def PySem.W.Fast.tw9263602429265042958 : Unit := ()
def PySem.W.Fast.tw14519836980338664080 : Unit := ()
def PySem.W.Fast.tw4581093467545675022 : Unit := ()
def PySem.W.Fast.tw1938610140348540233 : Unit := ()
def PySem.W.Fast.tw3432008788462598329 : Unit := ()
def PySem.W.Fast.tw11234883400851810298 : Unit := ()
def PySem.W.Fast.tw9972750639787126007 : Unit := ()
def PySem.W.Fast.tw3980450895606979794 : Unit := ()
def PySem.W.Fast.tw3047314042245065776 : Unit := ()
def PySem.W.Fast.tw2073580768993460645 : Unit := ()
def PySem.W.Fast.tw11403308062605685941 : Unit := ()
def PySem.W.Fast.tw17637037997837864309 : Unit := ()
def PySem.W.Fast.tw12679075121119509721 : Unit := ()
def PySem.W.Fast.tw567610878529975515 : Unit := ()
def PySem.W.Fast.tw5357972916359325481 : Unit := ()
def PySem.W.Fast.tw13768471135172133278 : Unit := ()
def PySem.W.Fast.tw17065119453397012296 : Unit := ()
def PySem.W.Fast.tw3219064672035424768 : Unit := ()
def PySem.W.Fast.tw10503257313600113256 : Unit := ()
def PySem.W.Fast.tw17291899051199346985 : Unit := ()
def PySem.W.Fast.tw14235877973455999146 : Unit := ()
def PySem.W.Fast.tw695907422672498035 : Unit := ()
def PySem.W.Fast.tw4382283717461210941 : Unit := ()
def PySem.W.Fast.tw5797930861039409494 : Unit := ()
def PySem.W.Fast.tw5444571606531396615 : Unit := ()
def PySem.W.Fast.tw8134870757940873317 : Unit := ()
def PySem.W.Fast.tw16407135312364312424 : Unit := ()
def PySem.W.Fast.tw79678937657080047 : Unit := ()
def PySem.W.Fast.tw4492394042859077808 : Unit := ()
def PySem.W.Fast.tw18312604942995477571 : Unit := ()
def PySem.W.Fast.tw2534930557536769169 : Unit := ()
def PySem.W.Fast.tw16306375765798566710 : Unit := ()
def PySem.W.Fast.tw13165746437615556788 : Unit := ()
def PySem.W.Fast.tw8328750219323191080 : Unit := ()
def PySem.W.Fast.tw15566935106566560865 : Unit := ()
def PySem.W.Fast.tw10464663300444671487 : Unit := ()
def PySem.W.Fast.tw5818241694263662254 : Unit := ()
def PySem.W.Fast.tw3402912698692917306 : Unit := ()
def PySem.W.Fast.tw9658369782495217710 : Unit := ()
def PySem.W.Fast.tw11276919046111645957 : Unit := ()
def PySem.W.Fast.tw11745159946642877127 : Unit := ()
def PySem.W.Fast.tw15784637649594993608 : Unit := ()
def PySem.W.Fast.tw14310635310946611022 : Unit := ()
def PySem.W.Fast.tw9785865825010762638 : Unit := ()
def PySem.W.Fast.tw13140369131226230688 : Unit := ()
def PySem.W.Fast.tw17900283087052813381 : Unit := ()
def PySem.W.Fast.tw7863643089499188788 : Unit := ()
def PySem.W.Fast.tw9272741347856361787 : Unit := ()
def PySem.W.Fast.tw6252021993759137578 : Unit := ()
def PySem.W.Fast.tw3197218465566536779 : Unit := ()
def PySem.W.Fast.tw4615293121056894519 : Unit := ()
def PySem.W.Fast.tw16156136062510567892 : Unit := ()
def PySem.W.Fast.tw16332699127098382309 : Unit := ()
def PySem.W.Fast.tw2073170183459954053 : Unit := ()
def PySem.W.Fast.tw5687319616526038056 : Unit := ()
def PySem.W.Fast.tw6584646896670629177 : Unit := ()
def PySem.W.Fast.tw12229209182383359277 : Unit := ()
def PySem.W.Fast.tw8052564802964920217 : Unit := ()
def PySem.W.Fast.tw6459935211507072545 : Unit := ()
def PySem.W.Fast.tw15194616663807581652 : Unit := ()
def PySem.W.Fast.tw4931018825243171185 : Unit := ()
def PySem.W.Fast.tw8541580359586575241 : Unit := ()
def PySem.W.Fast.tw15052814295224162527 : Unit := ()
def PySem.W.Fast.tw14727979198428892531 : Unit := ()
def PySem.W.Fast.tw7215318660301326943 : Unit := ()
def PySem.W.Fast.tw5147705034183289942 : Unit := ()
def PySem.W.Fast.tw7471475595570762362 : Unit := ()
def PySem.W.Fast.tw1464038715305652395 : Unit := ()
def PySem.W.Fast.tw17870935563627249348 : Unit := ()
def PySem.W.Fast.tw1855276011446610732 : Unit := ()
def PySem.W.Fast.tw9991858321397196693 : Unit := ()
def PySem.W.Fast.tw1122530584685940907 : Unit := ()
def PySem.W.Fast.tw17873333795904275789 : Unit := ()
def PySem.W.Fast.tw12679952881693268379 : Unit := ()
def PySem.W.Fast.tw2257832468463579506 : Unit := ()
def PySem.W.Fast.tw3447245356378496671 : Unit := ()
def PySem.W.Fast.tw7497207612036380855 : Unit := ()
def PySem.W.Fast.tw1735792033749318308 : Unit := ()
def PySem.W.Fast.tw8487157514844014161 : Unit := ()
def PySem.W.Fast.tw10738735683501129328 : Unit := ()
def PySem.W.Fast.tw13869339393099294952 : Unit := ()
def PySem.W.Fast.tw15625462129361429235 : Unit := ()
def PySem.W.Fast.tw6538135118780900242 : Unit := ()
def PySem.W.Fast.tw9977052207953322742 : Unit := ()
def PySem.W.Fast.tw1898490963576267807 : Unit := ()
def PySem.W.Fast.tw5195439856096819211 : Unit := ()
def PySem.W.Fast.tw16663647578735587412 : Unit := ()
def PySem.W.Fast.tw4507783787750470985 : Unit := ()
def PySem.W.Fast.tw14372824751054436679 : Unit := ()
def PySem.W.Fast.tw15479283711795780839 : Unit := ()
def PySem.W.Fast.tw18436841024670788233 : Unit := ()
def PySem.W.Fast.tw6380717046103901280 : Unit := ()
def PySem.W.Fast.tw1377586930117051596 : Unit := ()
def PySem.W.Fast.tw16884210596677622646 : Unit := ()
def PySem.W.Fast.tw6605520528764041902 : Unit := ()
def PySem.W.Fast.tw9636679969954162915 : Unit := ()
def PySem.W.Fast.tw6800909542034883710 : Unit := ()
def PySem.W.Fast.tw7935169022635527031 : Unit := ()
def PySem.W.Fast.tw5097193679815804093 : Unit := ()
def PySem.W.Fast.tw6341537761163975286 : Unit := ()
def PySem.W.Fast.tw4944930907299543510 : Unit := ()
def PySem.W.Fast.tw18396610746017074716 : Unit := ()
def PySem.W.Fast.tw7473266341554160068 : Unit := ()
def PySem.W.Fast.tw12731819504835055007 : Unit := ()
def PySem.W.Fast.tw1613389116173341339 : Unit := ()
def PySem.W.Fast.tw2880635480373370866 : Unit := ()
def PySem.W.Fast.tw16625077703009203266 : Unit := ()
def PySem.W.Fast.tw8456582901035286601 : Unit := ()
def PySem.W.Fast.tw9593110435619345374 : Unit := ()
def PySem.W.Fast.tw9624408419330611328 : Unit := ()
def PySem.W.Fast.tw1691757320581946702 : Unit := ()
def PySem.W.Fast.tw15353097136827825556 : Unit := ()
def PySem.W.Fast.tw449575384129420355 : Unit := ()
def PySem.W.Fast.tw8417154453212829049 : Unit := ()
def PySem.W.Fast.tw3750130957350514225 : Unit := ()
def PySem.W.Fast.tw5619623504474231229 : Unit := ()
def PySem.W.Fast.tw10662058122796635216 : Unit := ()
def PySem.W.Fast.tw12028450994428083261 : Unit := ()
def PySem.W.Fast.tw1056889588597577486 : Unit := ()
def PySem.W.Fast.tw10762690956453654192 : Unit := ()
def PySem.W.Fast.tw9600600362513073254 : Unit := ()
def PySem.W.Fast.tw11549469638927179493 : Unit := ()
def PySem.W.Fast.tw4647881758364561991 : Unit := ()
def PySem.W.Fast.tw3556636286248544264 : Unit := ()
def PySem.W.Fast.tw2087776168209773887 : Unit := ()
def PySem.W.Fast.tw4861578993804490954 : Unit := ()
def PySem.W.Fast.tw2671190569232573627 : Unit := ()
def PySem.W.Fast.tw6243110271085219614 : Unit := ()
def PySem.W.Fast.tw10083080052362631915 : Unit := ()
def PySem.W.Fast.tw14335260602836121302 : Unit := ()
def PySem.W.Fast.tw1659000191772566830 : Unit := ()
def PySem.W.Fast.tw13320435254321309011 : Unit := ()
def PySem.W.Fast.tw5642459565013733822 : Unit := ()
def PySem.W.Fast.tw13862479535983600345 : Unit := ()
def PySem.W.Fast.tw17729435711819625203 : Unit := ()
def PySem.W.Fast.tw17540715374357014183 : Unit := ()
def PySem.W.Fast.tw17779519071864731587 : Unit := ()
def PySem.W.Fast.tw10913722748967582372 : Unit := ()
def PySem.W.Fast.tw15886091391314389576 : Unit := ()
def PySem.W.Fast.tw1946028160408015529 : Unit := ()
def PySem.W.Fast.tw13122950087344620784 : Unit := ()
def PySem.W.Fast.tw11047988125640370109 : Unit := ()
def PySem.W.Fast.tw8905326028322908703 : Unit := ()
def PySem.W.Fast.tw11699959031131605206 : Unit := ()
def PySem.W.Fast.tw14987587199229876951 : Unit := ()
def PySem.W.Fast.tw17472439011682637833 : Unit := ()
def PySem.W.Fast.tw12862306233934935254 : Unit := ()
def PySem.W.Fast.tw5227073835026244480 : Unit := ()
def PySem.W.Fast.tw3500442443591686759 : Unit := ()
def PySem.W.Fast.tw11090275744076367430 : Unit := ()
def PySem.W.Fast.tw6664340008303410782 : Unit := ()
def PySem.W.Fast.tw17253369049898070433 : Unit := ()
def PySem.W.Fast.tw6405481384270665032 : Unit := ()
def PySem.W.Fast.tw570702974868657446 : Unit := ()
def PySem.W.Fast.tw15921786990127162756 : Unit := ()
def PySem.W.Fast.tw7323391001052947475 : Unit := ()
def PySem.W.Fast.tw4820177222983136447 : Unit := ()
def PySem.W.Fast.tw2440784264211642784 : Unit := ()
def PySem.W.Fast.tw109687283774711090 : Unit := ()
def PySem.W.Fast.tw11475349864233869903 : Unit := ()
def PySem.W.Fast.tw5803161909828355737 : Unit := ()
def PySem.W.Fast.tw14657796021211658060 : Unit := ()
def PySem.W.Fast.tw11372719721244720021 : Unit := ()
def PySem.W.Fast.tw5876899796768949671 : Unit := ()
def PySem.W.Fast.tw3882550053133411735 : Unit := ()
def PySem.W.Fast.tw3977631830227770937 : Unit := ()
def PySem.W.Fast.tw1672160046513994223 : Unit := ()
def PySem.W.Fast.tw7675967072977482239 : Unit := ()
def PySem.W.Fast.tw6936430649195259287 : Unit := ()
def PySem.W.Fast.tw57494073837065391 : Unit := ()
def PySem.W.Fast.tw880517534982133035 : Unit := ()
def PySem.W.Fast.tw2491213767805570039 : Unit := ()
def PySem.W.Fast.tw193651468227617154 : Unit := ()
def PySem.W.Fast.tw7847548274137712525 : Unit := ()
def PySem.W.Fast.tw15919153210884899432 : Unit := ()
def PySem.W.Fast.tw9348371535550675473 : Unit := ()
def PySem.W.Fast.tw17724013385905185814 : Unit := ()
def PySem.W.Fast.tw16389471287519392012 : Unit := ()
def PySem.W.Fast.tw13786664171228064233 : Unit := ()
def PySem.W.Fast.tw5732294937107392061 : Unit := ()
def PySem.W.Fast.tw9838697477964129652 : Unit := ()
def PySem.W.Fast.tw11528043763070304890 : Unit := ()
def PySem.W.Fast.tw10225003568715017714 : Unit := ()
def PySem.W.Fast.tw16937509488758587741 : Unit := ()
def PySem.W.Fast.tw7602032120061881541 : Unit := ()
def PySem.W.Fast.tw3886135497469626981 : Unit := ()
def PySem.W.Fast.tw4141840082314922153 : Unit := ()
def PySem.W.Fast.tw10585600874053980985 : Unit := ()
def PySem.W.Fast.tw2095153101705788470 : Unit := ()
def PySem.W.Fast.tw16141765490336834469 : Unit := ()
def PySem.W.Fast.tw18224769561327045031 : Unit := ()
def PySem.W.Fast.tw5430565813522253579 : Unit := ()
def PySem.W.Fast.tw5609997534905949603 : Unit := ()
def PySem.W.Fast.tw11268461995949724059 : Unit := ()
def PySem.W.Fast.tw9383558472327142997 : Unit := ()
def PySem.W.Fast.tw14923227003804880412 : Unit := ()
def PySem.W.Fast.tw10367527436067952075 : Unit := ()
def PySem.W.Fast.tw6163642423352523756 : Unit := ()
def PySem.W.Fast.tw12791011448602777461 : Unit := ()
def PySem.W.Fast.tw12049069764405935023 : Unit := ()
def PySem.W.Fast.tw12256572579982289972 : Unit := ()
def PySem.W.Fast.tw5696702254315537695 : Unit := ()
def PySem.W.Fast.tw13997915915131175990 : Unit := ()
def PySem.W.Fast.tw13368756772522924476 : Unit := ()
def PySem.W.Fast.tw7829739105089000288 : Unit := ()
def PySem.W.Fast.tw10747236869457037092 : Unit := ()
def PySem.W.Fast.tw5401820144997008123 : Unit := ()
def PySem.W.Fast.tw10809389227477232690 : Unit := ()
def PySem.W.Fast.tw12021286904830618255 : Unit := ()
def PySem.W.Fast.tw4739630145291130861 : Unit := ()
def PySem.W.Fast.tw1014209536012441454 : Unit := ()
def PySem.W.Fast.tw16043391093226808442 : Unit := ()
def PySem.W.Fast.tw6374938231522955976 : Unit := ()
def PySem.W.Fast.tw2190143259296799372 : Unit := ()
def PySem.W.Fast.tw5224154803142553596 : Unit := ()
def PySem.W.Fast.tw2502191791130751244 : Unit := ()
def PySem.W.Fast.tw2790161895582575757 : Unit := ()
def PySem.W.Fast.tw14224745808629024186 : Unit := ()
def PySem.W.Fast.tw9109836978926487741 : Unit := ()
def PySem.W.Fast.tw15675035953754733399 : Unit := ()
def PySem.W.Fast.tw7937056526301435096 : Unit := ()
def PySem.W.Fast.tw9086666614965534275 : Unit := ()
def PySem.W.Fast.tw11234693706190308260 : Unit := ()
def PySem.W.Fast.tw9635368178514394132 : Unit := ()
def PySem.W.Fast.tw7240103592294272867 : Unit := ()
def PySem.W.Fast.tw5412974605733439178 : Unit := ()
def PySem.W.Fast.tw18035394865754411086 : Unit := ()
def PySem.W.Fast.tw11037883679690434983 : Unit := ()
def PySem.W.Fast.tw2963442777942678321 : Unit := ()
def PySem.W.Fast.tw6769782676583153632 : Unit := ()
def PySem.W.Fast.tw12672694913922643163 : Unit := ()
def PySem.W.Fast.tw13047322549257433821 : Unit := ()
def PySem.W.Fast.tw743767061398963339 : Unit := ()
def PySem.W.Fast.tw8597878270493447702 : Unit := ()
def PySem.W.Fast.tw5261465937405341857 : Unit := ()
def PySem.W.Fast.tw8937668970895958654 : Unit := ()
def PySem.W.Fast.tw12096081533671774975 : Unit := ()
def PySem.W.Fast.tw2882118936653315491 : Unit := ()
def PySem.W.Fast.tw10563012542371565820 : Unit := ()
def PySem.W.Fast.tw10984809865941126659 : Unit := ()
def PySem.W.Fast.tw17062842859790125506 : Unit := ()
def PySem.W.Fast.tw1386258764054108493 : Unit := ()
def PySem.W.Fast.tw5151550414613428051 : Unit := ()
def PySem.W.Fast.tw17863465680857390749 : Unit := ()
def PySem.W.Fast.tw13770818701244708986 : Unit := ()
def PySem.W.Fast.tw16718963925744925009 : Unit := ()
def PySem.W.Fast.tw1800631924310164129 : Unit := ()
def PySem.W.Fast.tw12072631007624255211 : Unit := ()
def PySem.W.Fast.tw8834259322424417514 : Unit := ()
def PySem.W.Fast.tw17480414922333356934 : Unit := ()
def PySem.W.Fast.tw8701458739113193083 : Unit := ()
def PySem.W.Fast.tw3947436501959866316 : Unit := ()
def PySem.W.Fast.tw16248897389250593167 : Unit := ()
def PySem.W.Fast.tw8477888952632913248 : Unit := ()
def PySem.W.Fast.tw13784117420903303356 : Unit := ()
def PySem.W.Fast.tw7290813253698558293 : Unit := ()
def PySem.W.Fast.tw2231765755575716857 : Unit := ()
def PySem.W.Fast.tw2140428229154080205 : Unit := ()
def PySem.W.Fast.tw5141830927845290652 : Unit := ()
def PySem.W.Fast.tw10206750940796426647 : Unit := ()
def PySem.W.Fast.tw13999669296247411085 : Unit := ()
def PySem.W.Fast.tw16148775629169388752 : Unit := ()
def PySem.W.Fast.tw6795947016195050280 : Unit := ()
def PySem.W.Fast.tw11247069625541122943 : Unit := ()
def PySem.W.Fast.tw17034927784585925929 : Unit := ()
def PySem.W.Fast.tw1900365356515997773 : Unit := ()
def PySem.W.Fast.tw4303636509035437448 : Unit := ()
def PySem.W.Fast.tw13389228826148296982 : Unit := ()
def PySem.W.Fast.tw7345086899749389350 : Unit := ()
def PySem.W.Fast.tw1713982613107390464 : Unit := ()
def PySem.W.Fast.tw7171147384030344025 : Unit := ()
def PySem.W.Fast.tw6560874899579026233 : Unit := ()
def PySem.W.Fast.tw17636780062758382634 : Unit := ()
def PySem.W.Fast.tw6594234307420734044 : Unit := ()
def PySem.W.Fast.tw2526993915210548717 : Unit := ()
def PySem.W.Fast.tw8905282965079814109 : Unit := ()
def PySem.W.Fast.tw4260486356964704503 : Unit := ()
def PySem.W.Fast.tw10890400344561452215 : Unit := ()
def PySem.W.Fast.tw10593080578704197286 : Unit := ()
def PySem.W.Fast.tw6833909550066816159 : Unit := ()
def PySem.W.Fast.tw16891324152300763446 : Unit := ()
def PySem.W.Fast.tw9872629772039549155 : Unit := ()
def PySem.W.Fast.tw14663150085141793210 : Unit := ()
def PySem.W.Fast.tw6817000379360174139 : Unit := ()
def PySem.W.Fast.tw4199203468258491621 : Unit := ()
def PySem.W.Fast.tw5201533674408742490 : Unit := ()
def PySem.W.Fast.tw9643028574995893307 : Unit := ()
def PySem.W.Fast.tw16350900648334103283 : Unit := ()
def PySem.W.Fast.tw2863896723378585140 : Unit := ()
def PySem.W.Fast.tw8378279838273230592 : Unit := ()
def PySem.W.Fast.tw13043337479983019792 : Unit := ()
def PySem.W.Fast.tw10265551971971239688 : Unit := ()
def PySem.W.Fast.tw10608883481968026077 : Unit := ()
def PySem.W.Fast.tw5150348830802853950 : Unit := ()
def PySem.W.Fast.tw5174479733944587216 : Unit := ()
def PySem.W.Fast.tw8416610748435409172 : Unit := ()
def PySem.W.Fast.tw17050670679249366076 : Unit := ()
def PySem.W.Fast.tw4245659396330684901 : Unit := ()
def PySem.W.Fast.tw1398713561151889662 : Unit := ()
def PySem.W.Fast.tw5243267476518090199 : Unit := ()
def PySem.W.Fast.tw17498823049116444762 : Unit := ()
def PySem.W.Fast.tw15195652974668690301 : Unit := ()
def PySem.W.Fast.tw5699623858471904145 : Unit := ()
def PySem.W.Fast.tw4754377573560508154 : Unit := ()
def PySem.W.Fast.tw2416488562363607992 : Unit := ()
def PySem.W.Fast.tw16072362453795826605 : Unit := ()
def PySem.W.Fast.tw12279675256869786635 : Unit := ()
def PySem.W.Fast.tw6227855796587461086 : Unit := ()
def PySem.W.Fast.tw10741514927486597526 : Unit := ()
def PySem.W.Fast.tw1845203751623249000 : Unit := ()
def PySem.W.Fast.tw6802342652768324946 : Unit := ()
def PySem.W.Fast.tw3863705535335367175 : Unit := ()
def PySem.W.Fast.tw12698544215977995456 : Unit := ()
def PySem.W.Fast.tw6072063755670929292 : Unit := ()
def PySem.W.Fast.tw13749726069072180307 : Unit := ()
def PySem.W.Fast.tw5552350673339543017 : Unit := ()
def PySem.W.Fast.tw5455993769642857620 : Unit := ()
def PySem.W.Fast.tw17253637144572180333 : Unit := ()
def PySem.W.Fast.tw1338135519793550374 : Unit := ()
def PySem.W.Fast.tw3147868663564924200 : Unit := ()
def PySem.W.Fast.tw699888271764122509 : Unit := ()
def PySem.W.Fast.tw3183646887193036625 : Unit := ()
def PySem.W.Fast.tw14444616664499922057 : Unit := ()
def PySem.W.Fast.tw5815513328765122115 : Unit := ()
def PySem.W.Fast.tw990603544711195464 : Unit := ()
def PySem.W.Fast.tw5995148205434100647 : Unit := ()
def PySem.W.Fast.tw16988093286255529150 : Unit := ()
def PySem.W.Fast.tw15587048656495102309 : Unit := ()
def PySem.W.Fast.tw4784661558923909874 : Unit := ()
def PySem.W.Fast.tw14497841643522672214 : Unit := ()
def PySem.W.Fast.tw18415681664414112773 : Unit := ()
def PySem.W.Fast.tw737462579967510276 : Unit := ()
def PySem.W.Fast.tw15921429153502067889 : Unit := ()
def PySem.W.Fast.tw17107353830521943620 : Unit := ()
def PySem.W.Fast.tw6489082767765916425 : Unit := ()
def PySem.W.Fast.tw6671629185815357993 : Unit := ()
def PySem.W.Fast.tw13367756377628600037 : Unit := ()
def PySem.W.Fast.tw11108275143983377778 : Unit := ()
def PySem.W.Fast.tw1757457655375952263 : Unit := ()
def PySem.W.Fast.tw16423340619002902108 : Unit := ()
def PySem.W.Fast.tw14934960748487858400 : Unit := ()
def PySem.W.Fast.tw2594513362466436460 : Unit := ()
def PySem.W.Fast.tw9259860530571613052 : Unit := ()
def PySem.W.Fast.tw6401117010124251441 : Unit := ()
def PySem.W.Fast.tw8220133229206729247 : Unit := ()
def PySem.W.Fast.tw17397292810807097511 : Unit := ()
def PySem.W.Fast.tw8846421457502512576 : Unit := ()
def PySem.W.Fast.tw2555819545924810143 : Unit := ()
def PySem.W.Fast.tw4284127576404011683 : Unit := ()
def PySem.W.Fast.tw13490317120412614157 : Unit := ()
def PySem.W.Fast.tw4932483243203332813 : Unit := ()
def PySem.W.Fast.tw12500499889501642253 : Unit := ()
def PySem.W.Fast.tw5993841728600950414 : Unit := ()
def PySem.W.Fast.tw13720215796360036345 : Unit := ()
def PySem.W.Fast.tw10440937009802137363 : Unit := ()
def PySem.W.Fast.tw3047791826776871348 : Unit := ()
def PySem.W.Fast.tw4908880820407685637 : Unit := ()
def PySem.W.Fast.tw355230494496907459 : Unit := ()
def PySem.W.Fast.tw17668819045075603494 : Unit := ()
def PySem.W.Fast.tw6107783039614523891 : Unit := ()
def PySem.W.Fast.tw9416909347738761531 : Unit := ()
def PySem.W.Fast.tw15472650070244035863 : Unit := ()
def PySem.W.Fast.tw16459652396951895360 : Unit := ()
def PySem.W.Fast.tw17645347010254785531 : Unit := ()
def PySem.W.Fast.tw8567972144907654181 : Unit := ()
def PySem.W.Fast.tw14018617460966591251 : Unit := ()
def PySem.W.Fast.tw8975412161476445815 : Unit := ()
def PySem.W.Fast.tw13858737882529971008 : Unit := ()
def PySem.W.Fast.tw12993535473834452272 : Unit := ()
def PySem.W.Fast.tw6035386052899285501 : Unit := ()
def PySem.W.Fast.tw6018314305108498953 : Unit := ()
def PySem.W.Fast.tw15135899124499792146 : Unit := ()
def PySem.W.Fast.tw10350886084545178455 : Unit := ()
def PySem.W.Fast.tw18196680849080492995 : Unit := ()
def PySem.W.Fast.tw627900412038958671 : Unit := ()
def PySem.W.Fast.tw14665517033588256640 : Unit := ()
def PySem.W.Fast.tw1045488810234316018 : Unit := ()
def PySem.W.Fast.tw28676363231412896 : Unit := ()
def PySem.W.Fast.tw8523719481898307160 : Unit := ()
def PySem.W.Fast.tw13710343636568636143 : Unit := ()
def PySem.W.Fast.tw8873637534502310888 : Unit := ()
def PySem.W.Fast.tw12261601634496338391 : Unit := ()
def PySem.W.Fast.tw7671230306107541100 : Unit := ()
def PySem.W.Fast.tw4960512312510045838 : Unit := ()
def PySem.W.Fast.tw4251105747140726428 : Unit := ()
def PySem.W.Fast.tw8010515568882196805 : Unit := ()
def PySem.W.Fast.tw5563811849141289578 : Unit := ()
def PySem.W.Fast.tw16522620722329896723 : Unit := ()
def PySem.W.Fast.tw13306630704484089377 : Unit := ()
def PySem.W.Fast.tw4928595905305633933 : Unit := ()
def PySem.W.Fast.tw5956473067560542449 : Unit := ()
def PySem.W.Fast.tw1120460344962396979 : Unit := ()
def PySem.W.Fast.tw11258967424871026709 : Unit := ()
def PySem.W.Fast.tw14893464939577429299 : Unit := ()
def PySem.W.Fast.tw9640062124782458199 : Unit := ()
def PySem.W.Fast.tw6034825842397708714 : Unit := ()
def PySem.W.Fast.tw5932219301862869991 : Unit := ()
def PySem.W.Fast.tw11799545268270598958 : Unit := ()
def PySem.W.Fast.tw14721369595559325492 : Unit := ()
def PySem.W.Fast.tw10403251435061652357 : Unit := ()
def PySem.W.Fast.tw1217584941418148799 : Unit := ()
def PySem.W.Fast.tw2924761167107887514 : Unit := ()
def PySem.W.Fast.tw15302071960892154303 : Unit := ()
def PySem.W.Fast.tw12591595433399086870 : Unit := ()
def PySem.W.Fast.tw2671007395538996386 : Unit := ()
def PySem.W.Fast.tw2683300874608046248 : Unit := ()
def PySem.W.Fast.tw11991567156522987466 : Unit := ()
def PySem.W.Fast.tw4905979316314241549 : Unit := ()
def PySem.W.Fast.tw10131486609623006375 : Unit := ()
def PySem.W.Fast.tw8779171169519562711 : Unit := ()
def PySem.W.Fast.tw2412716824152872933 : Unit := ()
def PySem.W.Fast.tw15405795903285510901 : Unit := ()
def PySem.W.Fast.tw5151459264437119365 : Unit := ()
def PySem.W.Fast.tw14309470043067287381 : Unit := ()
def PySem.W.Fast.tw965781880998202408 : Unit := ()
def PySem.W.Fast.tw15271297884491137526 : Unit := ()
def PySem.W.Fast.tw3059817343455983610 : Unit := ()
def PySem.W.Fast.tw15811384146133974161 : Unit := ()
def PySem.W.Fast.tw9981916551627927364 : Unit := ()
def PySem.W.Fast.tw14761943839810772810 : Unit := ()
def PySem.W.Fast.tw6032506880337894349 : Unit := ()
def PySem.W.Fast.tw6007493647258283579 : Unit := ()
def PySem.W.Fast.tw15821317340508782417 : Unit := ()
def PySem.W.Fast.tw14189352303336770517 : Unit := ()
def PySem.W.Fast.tw68161106827890191 : Unit := ()
def PySem.W.Fast.tw6017212364806563688 : Unit := ()
def PySem.W.Fast.tw14105211401446027753 : Unit := ()
def PySem.W.Fast.tw1559854985239038918 : Unit := ()
def PySem.W.Fast.tw8774246303307602498 : Unit := ()
def PySem.W.Fast.tw9409241761610991225 : Unit := ()
def PySem.W.Fast.tw2194999904613904649 : Unit := ()
def PySem.W.Fast.tw11316021165611486198 : Unit := ()
def PySem.W.Fast.tw13049752848160393864 : Unit := ()
def PySem.W.Fast.tw12365736056824088376 : Unit := ()
def PySem.W.Fast.tw434865691372854628 : Unit := ()
def PySem.W.Fast.tw9610816778821910548 : Unit := ()
def PySem.W.Fast.tw6483587045383513009 : Unit := ()
def PySem.W.Fast.tw18371072964845688260 : Unit := ()
def PySem.W.Fast.tw17625890212123082865 : Unit := ()
def PySem.W.Fast.tw5906423873904981709 : Unit := ()
def PySem.W.Fast.tw17647186632308518550 : Unit := ()
def PySem.W.Fast.tw3866401299458182991 : Unit := ()
def PySem.W.Fast.tw9164423682941470631 : Unit := ()
def PySem.W.Fast.tw17608037399664555966 : Unit := ()
def PySem.W.Fast.tw2274475843195442335 : Unit := ()
def PySem.W.Fast.tw801115465980973208 : Unit := ()
def PySem.W.Fast.tw200000250414526753 : Unit := ()
def PySem.W.Fast.tw4087820559279865429 : Unit := ()
def PySem.W.Fast.tw11167621670253874147 : Unit := ()
def PySem.W.Fast.tw15935890092661209419 : Unit := ()
def PySem.W.Fast.tw3302696036058857736 : Unit := ()
def PySem.W.Fast.tw15261765775137886596 : Unit := ()
def PySem.W.Fast.tw8773114119509198766 : Unit := ()
def PySem.W.Fast.tw12701399442778329367 : Unit := ()
def PySem.W.Fast.tw6109693633501489443 : Unit := ()
def PySem.W.Fast.tw1067643815103194141 : Unit := ()
def PySem.W.Fast.tw17003485630296412143 : Unit := ()
def PySem.W.Fast.tw13175598315201233312 : Unit := ()
def PySem.W.Fast.tw1372193196552642572 : Unit := ()
def PySem.W.Fast.tw18363797727483527327 : Unit := ()
def PySem.W.Fast.tw17915697364237846161 : Unit := ()
def PySem.W.Fast.tw15301614866686824074 : Unit := ()
def PySem.W.Fast.tw738221190145460800 : Unit := ()
def PySem.W.Fast.tw8958586855400037459 : Unit := ()
def PySem.W.Fast.tw1671310326190776518 : Unit := ()
def PySem.W.Fast.tw4730480998939885266 : Unit := ()
def PySem.W.Fast.tw3734634322405782571 : Unit := ()
def PySem.W.Fast.tw925843023917393199 : Unit := ()
def PySem.W.Fast.tw15898412547566940771 : Unit := ()
def PySem.W.Fast.tw10092710245964846150 : Unit := ()
def PySem.W.Fast.tw15944610764082230617 : Unit := ()
def PySem.W.Fast.tw5365201325818236679 : Unit := ()
def PySem.W.Fast.tw1530004889087272936 : Unit := ()
def PySem.W.Fast.tw17226182108145846258 : Unit := ()
def PySem.W.Fast.tw5450235914981784327 : Unit := ()
def PySem.W.Fast.tw2796422451617759460 : Unit := ()
def PySem.W.Fast.tw7321057010144221349 : Unit := ()
def PySem.W.Fast.tw4799064848139470205 : Unit := ()
def PySem.W.Fast.tw8441945837472921273 : Unit := ()
def PySem.W.Fast.tw3481170144415454906 : Unit := ()
def PySem.W.Fast.tw17177254659069857320 : Unit := ()
def PySem.W.Fast.tw7796273888137218157 : Unit := ()
def PySem.W.Fast.tw3750859140114691889 : Unit := ()
def PySem.W.Fast.tw8305265703040301907 : Unit := ()
def PySem.W.Fast.tw12685621393601302415 : Unit := ()
def PySem.W.Fast.tw14869208627966415799 : Unit := ()
def PySem.W.Fast.tw15184330486771601325 : Unit := ()
def PySem.W.Fast.tw794776499394330613 : Unit := ()
def PySem.W.Fast.tw4351725188074222577 : Unit := ()
def PySem.W.Fast.tw13422878780375198507 : Unit := ()
def PySem.W.Fast.tw10439620229993546603 : Unit := ()
def PySem.W.Fast.tw2470058479142501712 : Unit := ()
def PySem.W.Fast.tw15740661037344370470 : Unit := ()
def PySem.W.Fast.tw15459763469052118092 : Unit := ()
def PySem.W.Fast.tw5657312903370929429 : Unit := ()
def PySem.W.Fast.tw219183186704626096 : Unit := ()
def PySem.W.Fast.tw4994484210600060415 : Unit := ()
def PySem.W.Fast.tw14917246411648433909 : Unit := ()
def PySem.W.Fast.tw14329592182305580095 : Unit := ()
def PySem.W.Fast.tw2921908203967982137 : Unit := ()
def PySem.W.Fast.tw9706354678654165433 : Unit := ()
def PySem.W.Fast.tw18082198804315873849 : Unit := ()
def PySem.W.Fast.tw565972291602152220 : Unit := ()
def PySem.W.Fast.tw16052825614453636437 : Unit := ()
def PySem.W.Fast.tw2266619494066316544 : Unit := ()
def PySem.W.Fast.tw17987531449856713314 : Unit := ()
def PySem.W.Fast.tw10628736250642441152 : Unit := ()
def PySem.W.Fast.tw10869650266312856250 : Unit := ()
def PySem.W.Fast.tw6292369294462088746 : Unit := ()
def PySem.W.Fast.tw5944011297196665078 : Unit := ()
def PySem.W.Fast.tw10945140018009853019 : Unit := ()
def PySem.W.Fast.tw6536141374734098886 : Unit := ()
def PySem.W.Fast.tw221563914435764723 : Unit := ()
def PySem.W.Fast.tw16170010227829891018 : Unit := ()
def PySem.W.Fast.tw2847427689449048398 : Unit := ()
def PySem.W.Fast.tw8936302267944985615 : Unit := ()
def PySem.W.Fast.tw12779455491278149889 : Unit := ()
def PySem.W.Fast.tw3542553346318870786 : Unit := ()
def PySem.W.Fast.tw18228010374846670310 : Unit := ()
def PySem.W.Fast.tw877160950846415352 : Unit := ()
def PySem.W.Fast.tw12424379982560559641 : Unit := ()
def PySem.W.Fast.tw11859597109645025608 : Unit := ()
def PySem.W.Fast.tw3120164516648328817 : Unit := ()
def PySem.W.Fast.tw9555631097609930316 : Unit := ()
def PySem.W.Fast.tw5593136906951304284 : Unit := ()
def PySem.W.Fast.tw17700445974937167550 : Unit := ()
def PySem.W.Fast.tw6145985181578623622 : Unit := ()
def PySem.W.Fast.tw14061111246928693059 : Unit := ()
def PySem.W.Fast.tw4483784779648114964 : Unit := ()
def PySem.W.Fast.tw6253067554754397737 : Unit := ()
def PySem.W.Fast.tw952407232098320445 : Unit := ()
def PySem.W.Fast.tw4822717462492502261 : Unit := ()
def PySem.W.Fast.tw1073313399097990054 : Unit := ()
def PySem.W.Fast.tw18166906727450213167 : Unit := ()
def PySem.W.Fast.tw5570149758824778596 : Unit := ()
def PySem.W.Fast.tw6943070197352970571 : Unit := ()
def PySem.W.Fast.tw7654453357658738150 : Unit := ()
def PySem.W.Fast.tw15202466400428473085 : Unit := ()
def PySem.W.Fast.tw14067688813675249088 : Unit := ()
def PySem.W.Fast.tw9949473348015264195 : Unit := ()
def PySem.W.Fast.tw6262373899137212100 : Unit := ()
def PySem.W.Fast.tw14476219081441409139 : Unit := ()
def PySem.W.Fast.tw4340056232660902714 : Unit := ()
def PySem.W.Fast.tw3258902238373441303 : Unit := ()
def PySem.W.Fast.tw4586794306162276239 : Unit := ()
def PySem.W.Fast.tw506560078380979917 : Unit := ()
def PySem.W.Fast.tw14703677337742856821 : Unit := ()
def PySem.W.Fast.tw6983570228161553113 : Unit := ()
def PySem.W.Fast.tw12311168710352621265 : Unit := ()
def PySem.W.Fast.tw549099958621998386 : Unit := ()
def PySem.W.Fast.tw1234721778807988009 : Unit := ()
def PySem.W.Fast.tw3455321359688483576 : Unit := ()
def PySem.W.Fast.tw6619983395622390897 : Unit := ()
def PySem.W.Fast.tw13381423586706698498 : Unit := ()
def PySem.W.Fast.tw2455172572111192468 : Unit := ()
def PySem.W.Fast.tw11022873001057334241 : Unit := ()
def PySem.W.Fast.tw592321025560601684 : Unit := ()
def PySem.W.Fast.tw8955735167789905071 : Unit := ()
def PySem.W.Fast.tw3819463926199116338 : Unit := ()
def PySem.W.Fast.tw3508187140102942179 : Unit := ()
def PySem.W.Fast.tw13699411752999211851 : Unit := ()
def PySem.W.Fast.tw14400407334368241734 : Unit := ()
def PySem.W.Fast.tw8575115525144821630 : Unit := ()
def PySem.W.Fast.tw10862913181936978613 : Unit := ()
def PySem.W.Fast.tw3078394512584720789 : Unit := ()
def PySem.W.Fast.tw2112623810220265046 : Unit := ()
def PySem.W.Fast.tw18388099960816568919 : Unit := ()
def PySem.W.Fast.tw13491023674341039049 : Unit := ()
def PySem.W.Fast.tw7925426139082418917 : Unit := ()
def PySem.W.Fast.tw1236781786562351007 : Unit := ()
def PySem.W.Fast.tw2653853382805081343 : Unit := ()
def PySem.W.Fast.tw14550485754335716615 : Unit := ()
def PySem.W.Fast.tw17750362641349643787 : Unit := ()
def PySem.W.Fast.tw17898769499394432194 : Unit := ()
def PySem.W.Fast.tw6608380584656263893 : Unit := ()
def PySem.W.Fast.tw17570701048207437069 : Unit := ()
def PySem.W.Fast.tw12672841951343160868 : Unit := ()
def PySem.W.Fast.tw5189812653718330159 : Unit := ()
def PySem.W.Fast.tw5282472724607749156 : Unit := ()
def PySem.W.Fast.tw10324522019881034422 : Unit := ()
def PySem.W.Fast.tw9357835867489677071 : Unit := ()
def PySem.W.Fast.tw11948950052575568822 : Unit := ()
def PySem.W.Fast.tw9270055083369699408 : Unit := ()
def PySem.W.Fast.tw12053441077730088764 : Unit := ()
def PySem.W.Fast.tw2259986937830083387 : Unit := ()
def PySem.W.Fast.tw10590678231824815963 : Unit := ()
def PySem.W.Fast.tw6179430256818588437 : Unit := ()
def PySem.W.Fast.tw13473500447442318817 : Unit := ()
def PySem.W.Fast.tw7952992154716532316 : Unit := ()
def PySem.W.Fast.tw9384557753466166332 : Unit := ()
def PySem.W.Fast.tw10016764193635035162 : Unit := ()
def PySem.W.Fast.tw11658485050895100204 : Unit := ()
def PySem.W.Fast.tw5862273739467128156 : Unit := ()
def PySem.W.Fast.tw6838876512555050555 : Unit := ()
def PySem.W.Fast.tw14603899593062595589 : Unit := ()
def PySem.W.Fast.tw4175878823091006868 : Unit := ()
def PySem.W.Fast.tw11250246549567442994 : Unit := ()
def PySem.W.Fast.tw5295436230326493014 : Unit := ()
def PySem.W.Fast.tw10365232281026748513 : Unit := ()
def PySem.W.Fast.tw11230411609372135472 : Unit := ()
def PySem.W.Fast.tw15356262333678795218 : Unit := ()
def PySem.W.Fast.tw3258358721910602664 : Unit := ()
def PySem.W.Fast.tw8619128259599107771 : Unit := ()
def PySem.W.Fast.tw15448387974846968956 : Unit := ()
def PySem.W.Fast.tw16914713735079371385 : Unit := ()
def PySem.W.Fast.tw2309267193787409712 : Unit := ()
def PySem.W.Fast.tw10535906180892872134 : Unit := ()
def PySem.W.Fast.tw17140769977649095022 : Unit := ()
def PySem.W.Fast.tw12399551627563172849 : Unit := ()
def PySem.W.Fast.tw14255433255422755020 : Unit := ()
def PySem.W.Fast.tw7517852675251958011 : Unit := ()
def PySem.W.Fast.tw11563488796591029535 : Unit := ()
def PySem.W.Fast.tw8027550013418922092 : Unit := ()
def PySem.W.Fast.tw5036213625982280799 : Unit := ()
def PySem.W.Fast.tw1657752972251855698 : Unit := ()
def PySem.W.Fast.tw13626504742782833203 : Unit := ()
def PySem.W.Fast.tw14255366539928048541 : Unit := ()
def PySem.W.Fast.tw6762602669528303196 : Unit := ()
def PySem.W.Fast.tw2651675599516386533 : Unit := ()
def PySem.W.Fast.tw16654475093793779242 : Unit := ()
def PySem.W.Fast.tw7494195362477130839 : Unit := ()
def PySem.W.Fast.tw2791479135619324917 : Unit := ()
def PySem.W.Fast.tw10478864594109540578 : Unit := ()
def PySem.W.Fast.tw3028917473359801522 : Unit := ()
def PySem.W.Fast.tw8166771608106768757 : Unit := ()
def PySem.W.Fast.tw16584865653837719275 : Unit := ()
def PySem.W.Fast.tw15040428353027529293 : Unit := ()
def PySem.W.Fast.tw2435418366098165246 : Unit := ()
def PySem.W.Fast.tw8030043530328890006 : Unit := ()
def PySem.W.Fast.tw15135084413127351505 : Unit := ()
def PySem.W.Fast.tw7973948821594557443 : Unit := ()
def PySem.W.Fast.tw3071487419185246473 : Unit := ()
def PySem.W.Fast.tw14551079743254215583 : Unit := ()
def PySem.W.Fast.tw6623449099778921219 : Unit := ()
def PySem.W.Fast.tw12495525842166172289 : Unit := ()
def PySem.W.Fast.tw9173186687599501024 : Unit := ()
def PySem.W.Fast.tw8031280988007289565 : Unit := ()
def PySem.W.Fast.tw4750298135720723998 : Unit := ()
def PySem.W.Fast.tw13799099743373528919 : Unit := ()
def PySem.W.Fast.tw4937887766340512705 : Unit := ()
def PySem.W.Fast.tw8741481860487743967 : Unit := ()
def PySem.W.Fast.tw10541038843750320544 : Unit := ()
def PySem.W.Fast.tw18262905367525328484 : Unit := ()
def PySem.W.Fast.tw9771765911937885972 : Unit := ()
def PySem.W.Fast.tw11267807308274360683 : Unit := ()
def PySem.W.Fast.tw6044535762030243887 : Unit := ()
def PySem.W.Fast.tw7591236636045202190 : Unit := ()
def PySem.W.Fast.tw15144151729054124880 : Unit := ()
def PySem.W.Fast.tw675459690120527053 : Unit := ()
def PySem.W.Fast.tw18005582569838209890 : Unit := ()
def PySem.W.Fast.tw11262935478316076558 : Unit := ()
def PySem.W.Fast.tw11821870271129724991 : Unit := ()
def PySem.W.Fast.tw5153051480598361883 : Unit := ()
def PySem.W.Fast.tw10505936542904893391 : Unit := ()
def PySem.W.Fast.tw12120433251264303085 : Unit := ()
def PySem.W.Fast.tw12876474600575701840 : Unit := ()
def PySem.W.Fast.tw11257973428686630732 : Unit := ()
def PySem.W.Fast.tw6215468376153108961 : Unit := ()
def PySem.W.Fast.tw10749426340978363170 : Unit := ()
def PySem.W.Fast.tw7961336115848677576 : Unit := ()
def PySem.W.Fast.tw16904481308095089344 : Unit := ()
def PySem.W.Fast.tw14685368999245880040 : Unit := ()
def PySem.W.Fast.tw7435595352304922998 : Unit := ()
def PySem.W.Fast.tw17948205171806675753 : Unit := ()
def PySem.W.Fast.tw17958018582979318973 : Unit := ()
def PySem.W.Fast.tw3702873929857427316 : Unit := ()
def PySem.W.Fast.tw785835418446629036 : Unit := ()
def PySem.W.Fast.tw3491416848260334735 : Unit := ()
def PySem.W.Fast.tw8163138616222355166 : Unit := ()
def PySem.W.Fast.tw13789785871536488194 : Unit := ()
def PySem.W.Fast.tw925475960157870542 : Unit := ()
def PySem.W.Fast.tw15559786159832157117 : Unit := ()
def PySem.W.Fast.tw18326396085006762377 : Unit := ()
def PySem.W.Fast.tw5038332448866757752 : Unit := ()
def PySem.W.Fast.tw37117730589837651 : Unit := ()
def PySem.W.Fast.tw12779575230746538026 : Unit := ()
def PySem.W.Fast.tw15823071554007261709 : Unit := ()
def PySem.W.Fast.tw5113094342805425586 : Unit := ()
def PySem.W.Fast.tw6377496172119367263 : Unit := ()
def PySem.W.Fast.tw16626463827000255503 : Unit := ()
def PySem.W.Fast.tw8945695582528704383 : Unit := ()
def PySem.W.Fast.tw15288598660851253312 : Unit := ()
def PySem.W.Fast.tw7703114734757300537 : Unit := ()
def PySem.W.Fast.tw14823521464938333250 : Unit := ()
def PySem.W.Fast.tw15133072440600813424 : Unit := ()
def PySem.W.Fast.tw3973749138877141177 : Unit := ()
def PySem.W.Fast.tw12585271084399733150 : Unit := ()
def PySem.W.Fast.tw3483617013642882443 : Unit := ()
def PySem.W.Fast.tw15755017996831808224 : Unit := ()
def PySem.W.Fast.tw16211761092227699370 : Unit := ()
def PySem.W.Fast.tw2845704069738335074 : Unit := ()
def PySem.W.Fast.tw11113337925428761242 : Unit := ()
def PySem.W.Fast.tw1393697083692098896 : Unit := ()
def PySem.W.Fast.tw9632906966702732297 : Unit := ()
def PySem.W.Fast.tw5017827197202154547 : Unit := ()
def PySem.W.Fast.tw13263972259043860189 : Unit := ()
def PySem.W.Fast.tw14993113819009302199 : Unit := ()
def PySem.W.Fast.tw648986394455502178 : Unit := ()
def PySem.W.Fast.tw10286498772939540903 : Unit := ()
def PySem.W.Fast.tw5357436160627500770 : Unit := ()
def PySem.W.Fast.tw15276327258850319358 : Unit := ()
def PySem.W.Fast.tw2287849984141626212 : Unit := ()
def PySem.W.Fast.tw1111257718781077435 : Unit := ()
def PySem.W.Fast.tw5091634399943701544 : Unit := ()
def PySem.W.Fast.tw15680087189830146967 : Unit := ()
def PySem.W.Fast.tw7782995511799263428 : Unit := ()
def PySem.W.Fast.tw2169972532839556171 : Unit := ()
def PySem.W.Fast.tw4694125599686467874 : Unit := ()
def PySem.W.Fast.tw16105810682199938369 : Unit := ()
def PySem.W.Fast.tw10577867481547733184 : Unit := ()
def PySem.W.Fast.tw12412455852039563612 : Unit := ()
def PySem.W.Fast.tw8021003562728162537 : Unit := ()
def PySem.W.Fast.tw14763569866657812930 : Unit := ()
def PySem.W.Fast.tw11534490344081208099 : Unit := ()
def PySem.W.Fast.tw10593171720833452256 : Unit := ()
def PySem.W.Fast.tw6543693272833243563 : Unit := ()
def PySem.W.Fast.tw13898585263550205739 : Unit := ()
def PySem.W.Fast.tw15255518819389430132 : Unit := ()
def PySem.W.Fast.tw9124915380375612760 : Unit := ()
def PySem.W.Fast.tw12122155557749079813 : Unit := ()
def PySem.W.Fast.tw7264846728918712895 : Unit := ()
def PySem.W.Fast.tw7312270979228616833 : Unit := ()
def PySem.W.Fast.tw448163620289457144 : Unit := ()
def PySem.W.Fast.tw8879868243659048796 : Unit := ()
def PySem.W.Fast.tw4130823487562291508 : Unit := ()
def PySem.W.Fast.tw7802547274521861236 : Unit := ()
def PySem.W.Fast.tw8217123687927158217 : Unit := ()
def PySem.W.Fast.tw8726792002651660940 : Unit := ()
def PySem.W.Fast.tw12471657550923611466 : Unit := ()
def PySem.W.Fast.tw18193253606342571963 : Unit := ()
def PySem.W.Fast.tw14395718256003486850 : Unit := ()
def PySem.W.Fast.tw1726913299241869830 : Unit := ()
def PySem.W.Fast.tw18192910249798687852 : Unit := ()
def PySem.W.Fast.tw7263196627041842413 : Unit := ()
def PySem.W.Fast.tw2035418984001119173 : Unit := ()
def PySem.W.Fast.tw2649064089035125335 : Unit := ()
def PySem.W.Fast.tw12561559094546925339 : Unit := ()
def PySem.W.Fast.tw16426636429925610864 : Unit := ()
def PySem.W.Fast.tw445217191625039428 : Unit := ()
def PySem.W.Fast.tw14532491615701924893 : Unit := ()
def PySem.W.Fast.tw5593081470966934489 : Unit := ()
def PySem.W.Fast.tw6406163341888796094 : Unit := ()
def PySem.W.Fast.tw3365838157219282255 : Unit := ()
def PySem.W.Fast.tw1936278304381005750 : Unit := ()
def PySem.W.Fast.tw12315150474054870532 : Unit := ()
def PySem.W.Fast.tw6820920134226121593 : Unit := ()
def PySem.W.Fast.tw11847032764336127192 : Unit := ()
def PySem.W.Fast.tw17289857171597318434 : Unit := ()
def PySem.W.Fast.tw5478460762735576501 : Unit := ()
def PySem.W.Fast.tw8910407021681943041 : Unit := ()
def PySem.W.Fast.tw18064940138869652150 : Unit := ()
def PySem.W.Fast.tw4838641908379642083 : Unit := ()
def PySem.W.Fast.tw1645320422452514777 : Unit := ()
def PySem.W.Fast.tw12713343243334858908 : Unit := ()
def PySem.W.Fast.tw13068277030650741935 : Unit := ()
def PySem.W.Fast.tw884576648948629545 : Unit := ()
def PySem.W.Fast.tw17042333357953224580 : Unit := ()
def PySem.W.Fast.tw7053624657787704494 : Unit := ()
def PySem.W.Fast.tw1311529607098566808 : Unit := ()
def PySem.W.Fast.tw3000816939175915855 : Unit := ()
def PySem.W.Fast.tw7823468904597324188 : Unit := ()
def PySem.W.Fast.tw7998227918557597149 : Unit := ()
def PySem.W.Fast.tw2356884138636625036 : Unit := ()
def PySem.W.Fast.tw11710034681630986985 : Unit := ()
def PySem.W.Fast.tw12499987456427149350 : Unit := ()
def PySem.W.Fast.tw2087892556318358564 : Unit := ()
def PySem.W.Fast.tw3222601696969867533 : Unit := ()
def PySem.W.Fast.tw7918673187914207899 : Unit := ()
def PySem.W.Fast.tw313547168066000337 : Unit := ()
def PySem.W.Fast.tw10006370569532565253 : Unit := ()
def PySem.W.Fast.tw538638556531110955 : Unit := ()
def PySem.W.Fast.tw2589040209420982753 : Unit := ()
def PySem.W.Fast.tw7945306076305125706 : Unit := ()
def PySem.W.Fast.tw1854636635967641368 : Unit := ()
def PySem.W.Fast.tw6941523756280248811 : Unit := ()
def PySem.W.Fast.tw6556134712781796621 : Unit := ()
def PySem.W.Fast.tw17197773828306895601 : Unit := ()
def PySem.W.Fast.tw14655259432241924714 : Unit := ()
def PySem.W.Fast.tw14519622561128373537 : Unit := ()
def PySem.W.Fast.tw17784870040191457705 : Unit := ()
def PySem.W.Fast.tw12022344026271800230 : Unit := ()
def PySem.W.Fast.tw11345919410773560907 : Unit := ()
def PySem.W.Fast.tw7274363162939280327 : Unit := ()
def PySem.W.Fast.tw11713093083614110984 : Unit := ()
def PySem.W.Fast.tw14416225573786570674 : Unit := ()
def PySem.W.Fast.tw3148225367953875334 : Unit := ()
def PySem.W.Fast.tw4296413576678259312 : Unit := ()
def PySem.W.Fast.tw3216053734984580449 : Unit := ()
def PySem.W.Fast.tw13860071656275268216 : Unit := ()
def PySem.W.Fast.tw17506458248498859654 : Unit := ()
def PySem.W.Fast.tw10017199112733531108 : Unit := ()
def PySem.W.Fast.tw3568427539228450269 : Unit := ()
def PySem.W.Fast.tw1864247284755923266 : Unit := ()
def PySem.W.Fast.tw16087784965770709961 : Unit := ()
def PySem.W.Fast.tw11371192418158033614 : Unit := ()
def PySem.W.Fast.tw17509050745772705574 : Unit := ()
def PySem.W.Fast.tw5239349997216703660 : Unit := ()
def PySem.W.Fast.tw963602280456080920 : Unit := ()
def PySem.W.Fast.tw13476187669903959645 : Unit := ()
def PySem.W.Fast.tw3300757507927934742 : Unit := ()
def PySem.W.Fast.tw13356084793522588593 : Unit := ()
def PySem.W.Fast.tw16006282486148172542 : Unit := ()
def PySem.W.Fast.tw17600749418399917774 : Unit := ()
def PySem.W.Fast.tw6664792050624979583 : Unit := ()
def PySem.W.Fast.tw3458182502058779705 : Unit := ()
def PySem.W.Fast.tw14953248018173810575 : Unit := ()
def PySem.W.Fast.tw4691447091520240582 : Unit := ()
def PySem.W.Fast.tw11082475360628498369 : Unit := ()
def PySem.W.Fast.tw17200737670413981272 : Unit := ()
def PySem.W.Fast.tw15306898147860675179 : Unit := ()
def PySem.W.Fast.tw11364799946178326931 : Unit := ()
def PySem.W.Fast.tw4179385575478421784 : Unit := ()
def PySem.W.Fast.tw14758069098626118843 : Unit := ()
def PySem.W.Fast.tw890194975749079719 : Unit := ()
def PySem.W.Fast.tw40081620550225729 : Unit := ()
def PySem.W.Fast.tw14129847918437325505 : Unit := ()
def PySem.W.Fast.tw5695172837833215561 : Unit := ()
def PySem.W.Fast.tw9268891166823203463 : Unit := ()
def PySem.W.Fast.tw14493344876249498845 : Unit := ()
def PySem.W.Fast.tw12209077941713255539 : Unit := ()
def PySem.W.Fast.tw8382395151629424541 : Unit := ()
def PySem.W.Fast.tw13544384131713650894 : Unit := ()
def PySem.W.Fast.tw1371959279683127271 : Unit := ()
def PySem.W.Fast.tw14333599790080654693 : Unit := ()
def PySem.W.Fast.tw11501947404741797812 : Unit := ()
def PySem.W.Fast.tw13723204961726569806 : Unit := ()
def PySem.W.Fast.tw4932280482164063378 : Unit := ()
def PySem.W.Fast.tw14379327356942347519 : Unit := ()
def PySem.W.Fast.tw10739417468037490982 : Unit := ()
def PySem.W.Fast.tw11468552176453048884 : Unit := ()
def PySem.W.Fast.tw2390337261052129145 : Unit := ()
def PySem.W.Fast.tw6090016998903958539 : Unit := ()
def PySem.W.Fast.tw16901233569266306370 : Unit := ()
def PySem.W.Fast.tw13928364615415536753 : Unit := ()
def PySem.W.Fast.tw12583608454270822898 : Unit := ()
def PySem.W.Fast.tw18423527649271981542 : Unit := ()
def PySem.W.Fast.tw15213599682444782033 : Unit := ()
def PySem.W.Fast.tw4013464161193487707 : Unit := ()
def PySem.W.Fast.tw9015850536767927422 : Unit := ()
def PySem.W.Fast.tw5400437918549740178 : Unit := ()
def PySem.W.Fast.tw8568069357762278694 : Unit := ()
def PySem.W.Fast.tw13619560770923766269 : Unit := ()
def PySem.W.Fast.tw6570663207825575193 : Unit := ()
def PySem.W.Fast.tw7828264737397177792 : Unit := ()
def PySem.W.Fast.tw1469565617064768462 : Unit := ()
def PySem.W.Fast.tw2694545031111262932 : Unit := ()
def PySem.W.Fast.tw771184537773149976 : Unit := ()
def PySem.W.Fast.tw16729212178975946577 : Unit := ()
def PySem.W.Fast.tw5246287360210771184 : Unit := ()
def PySem.W.Fast.tw9021162141100554616 : Unit := ()
def PySem.W.Fast.tw6411973294370019235 : Unit := ()
def PySem.W.Fast.tw17085374542725705674 : Unit := ()
def PySem.W.Fast.tw14011530257340877633 : Unit := ()
def PySem.W.Fast.tw3730456798469371341 : Unit := ()
def PySem.W.Fast.tw6267015527067808558 : Unit := ()
def PySem.W.Fast.tw14043733466176530997 : Unit := ()
def PySem.W.Fast.tw18373606515168656667 : Unit := ()
def PySem.W.Fast.tw15256526247986231488 : Unit := ()
def PySem.W.Fast.tw13785932581618334329 : Unit := ()
def PySem.W.Fast.tw6153782167741764518 : Unit := ()
def PySem.W.Fast.tw5551773901096297948 : Unit := ()
def PySem.W.Fast.tw11874073349564270794 : Unit := ()
def PySem.W.Fast.tw12684135587505409700 : Unit := ()
def PySem.W.Fast.tw5598564240458153779 : Unit := ()
def PySem.W.Fast.tw760091138042903947 : Unit := ()
def PySem.W.Fast.tw13734875996733810120 : Unit := ()
def PySem.W.Fast.tw13214839580086589359 : Unit := ()
def PySem.W.Fast.tw8407671508899443514 : Unit := ()
def PySem.W.Fast.tw13008191097196410615 : Unit := ()
def PySem.W.Fast.tw5956972477859224069 : Unit := ()
def PySem.W.Fast.tw4058521216392815516 : Unit := ()
def PySem.W.Fast.tw9151807910219912682 : Unit := ()
def PySem.W.Fast.tw11681121304258010729 : Unit := ()
def PySem.W.Fast.tw12596247392935584188 : Unit := ()
def PySem.W.Fast.tw6709498530774931505 : Unit := ()
def PySem.W.Fast.tw3764509038984475184 : Unit := ()
def PySem.W.Fast.tw5610924601560712337 : Unit := ()
def PySem.W.Fast.tw15551056105216058294 : Unit := ()
def PySem.W.Fast.tw6653517386927605219 : Unit := ()
def PySem.W.Fast.tw10363964013674108892 : Unit := ()
def PySem.W.Fast.tw9138319225342534721 : Unit := ()
def PySem.W.Fast.tw1539883534393979966 : Unit := ()
def PySem.W.Fast.tw7884460336948332711 : Unit := ()
def PySem.W.Fast.tw12160120953935407551 : Unit := ()
def PySem.W.Fast.tw9073714980162771529 : Unit := ()
def PySem.W.Fast.tw6581327806715410478 : Unit := ()
def PySem.W.Fast.tw16827800842542979614 : Unit := ()
def PySem.W.Fast.tw16198820695445949432 : Unit := ()
def PySem.W.Fast.tw5359986976161970765 : Unit := ()
def PySem.W.Fast.tw18267038092071355917 : Unit := ()
def PySem.W.Fast.tw2337498158475022330 : Unit := ()
def PySem.W.Fast.tw7874828351151638063 : Unit := ()
def PySem.W.Fast.tw3613441969097497015 : Unit := ()
def PySem.W.Fast.tw15551476615485214590 : Unit := ()
def PySem.W.Fast.tw2653543247048793157 : Unit := ()
def PySem.W.Fast.tw6872002353807529632 : Unit := ()
def PySem.W.Fast.tw10403493982138059527 : Unit := ()
def PySem.W.Fast.tw1758294591650048062 : Unit := ()
def PySem.W.Fast.tw7996509174129707677 : Unit := ()
def PySem.W.Fast.tw16233503418387163382 : Unit := ()
def PySem.W.Fast.tw9413235989603502839 : Unit := ()
def PySem.W.Fast.tw16666787519071929669 : Unit := ()
def PySem.W.Fast.tw3130080207456679037 : Unit := ()
def PySem.W.Fast.tw6740697541432675902 : Unit := ()
def PySem.W.Fast.tw8151569970446811372 : Unit := ()
def PySem.W.Fast.tw15837434111817316699 : Unit := ()
def PySem.W.Fast.tw16287345197593120546 : Unit := ()
def PySem.W.Fast.tw1712750848622918009 : Unit := ()
def PySem.W.Fast.tw5780642720652421131 : Unit := ()
def PySem.W.Fast.tw7737501419404643111 : Unit := ()
def PySem.W.Fast.tw3494969007973263598 : Unit := ()
def PySem.W.Fast.tw7455190099260194567 : Unit := ()
def PySem.W.Fast.tw17051003657762762120 : Unit := ()
def PySem.W.Fast.tw8978442782238216449 : Unit := ()
def PySem.W.Fast.tw9289995398080192394 : Unit := ()
def PySem.W.Fast.tw18092237625400390026 : Unit := ()
def PySem.W.Fast.tw17948128577911438931 : Unit := ()
def PySem.W.Fast.tw3335389483286744176 : Unit := ()
def PySem.W.Fast.tw16033247128581259650 : Unit := ()
def PySem.W.Fast.tw4495920293980358181 : Unit := ()
def PySem.W.Fast.tw11557175294594125438 : Unit := ()
def PySem.W.Fast.tw8788989247801660089 : Unit := ()
def PySem.W.Fast.tw4628406325276621800 : Unit := ()
def PySem.W.Fast.tw4045109429536377551 : Unit := ()
def PySem.W.Fast.tw16767038492793057612 : Unit := ()
def PySem.W.Fast.tw973955118868339732 : Unit := ()
def PySem.W.Fast.tw10467079816377658989 : Unit := ()
def PySem.W.Fast.tw6504326548591291295 : Unit := ()
def PySem.W.Fast.tw2112035467561679292 : Unit := ()
def PySem.W.Fast.tw15550560412732639868 : Unit := ()
def PySem.W.Fast.tw12796128298853818350 : Unit := ()
def PySem.W.Fast.tw7386875505012101309 : Unit := ()
def PySem.W.Fast.tw14041012524389407411 : Unit := ()
def PySem.W.Fast.tw4937270289800440532 : Unit := ()
def PySem.W.Fast.tw6919838381742056325 : Unit := ()
def PySem.W.Fast.tw15580680735297878919 : Unit := ()
def PySem.W.Fast.tw16752315224222674257 : Unit := ()
def PySem.W.Fast.tw12161281319113521925 : Unit := ()
def PySem.W.Fast.tw10695931430438843694 : Unit := ()
def PySem.W.Fast.tw10615301423908659656 : Unit := ()
def PySem.W.Fast.tw12837376000059387982 : Unit := ()
def PySem.W.Fast.tw13802283584072033301 : Unit := ()
def PySem.W.Fast.tw16450003983285815539 : Unit := ()
def PySem.W.Fast.tw5895772805093900806 : Unit := ()
def PySem.W.Fast.tw8432048591726114329 : Unit := ()
def PySem.W.Fast.tw12226513445935107783 : Unit := ()
def PySem.W.Fast.tw9526143279868052194 : Unit := ()
def PySem.W.Fast.tw8494234963345058781 : Unit := ()
def PySem.W.Fast.tw18349552920732925540 : Unit := ()
def PySem.W.Fast.tw2123579843343905296 : Unit := ()
def PySem.W.Fast.tw15602713402036623666 : Unit := ()
def PySem.W.Fast.tw1673479160808403442 : Unit := ()
def PySem.W.Fast.tw9819468592583453705 : Unit := ()
def PySem.W.Fast.tw11428889787079383107 : Unit := ()
def PySem.W.Fast.tw12837652964643257422 : Unit := ()
def PySem.W.Fast.tw16375919910515476747 : Unit := ()
def PySem.W.Fast.tw13885812248771538486 : Unit := ()
def PySem.W.Fast.tw1661040460808719222 : Unit := ()
def PySem.W.Fast.tw3611139691714829861 : Unit := ()
def PySem.W.Fast.tw1241696020278114013 : Unit := ()
def PySem.W.Fast.tw15323901655686605780 : Unit := ()
def PySem.W.Fast.tw8890824226679343065 : Unit := ()
def PySem.W.Fast.tw11423178462042260209 : Unit := ()
def PySem.W.Fast.tw6735320490901207837 : Unit := ()
def PySem.W.Fast.tw15573531065092425271 : Unit := ()
def PySem.W.Fast.tw13148640117088802842 : Unit := ()
def PySem.W.Fast.tw8423527550207647965 : Unit := ()
def PySem.W.Fast.tw3547220246464667031 : Unit := ()
def PySem.W.Fast.tw14372395856924174481 : Unit := ()
def PySem.W.Fast.tw5317215198068007547 : Unit := ()
def PySem.W.Fast.tw7412525669447521375 : Unit := ()
def PySem.W.Fast.tw1855073497041478190 : Unit := ()
def PySem.W.Fast.tw17682073860291905924 : Unit := ()
def PySem.W.Fast.tw9964811624291491695 : Unit := ()
def PySem.W.Fast.tw15211430335018961656 : Unit := ()
def PySem.W.Fast.tw14459745540837691953 : Unit := ()
def PySem.W.Fast.tw12721254606249798905 : Unit := ()
def PySem.W.Fast.tw15742996938976799245 : Unit := ()
def PySem.W.Fast.tw7283781952442689352 : Unit := ()
def PySem.W.Fast.tw1192705437219003935 : Unit := ()
def PySem.W.Fast.tw15370207172278081751 : Unit := ()
def PySem.W.Fast.tw5133421529529208319 : Unit := ()
def PySem.W.Fast.tw16097153695607919892 : Unit := ()
def PySem.W.Fast.tw12247744955927116956 : Unit := ()
def PySem.W.Fast.tw11407862104658506942 : Unit := ()
def PySem.W.Fast.tw10800991579824094905 : Unit := ()
def PySem.W.Fast.tw10011078713367665503 : Unit := ()
def PySem.W.Fast.tw978512615435200035 : Unit := ()
def PySem.W.Fast.tw9707130017025856461 : Unit := ()
def PySem.W.Fast.tw4489093681248020437 : Unit := ()
def PySem.W.Fast.tw4730722871669949458 : Unit := ()
def PySem.W.Fast.tw6024616132505578471 : Unit := ()
def PySem.W.Fast.tw351413236114852820 : Unit := ()
def PySem.W.Fast.tw6764407532854706854 : Unit := ()
def PySem.W.Fast.tw15587440395752912275 : Unit := ()
def PySem.W.Fast.tw14981073752931660228 : Unit := ()
def PySem.W.Fast.tw7682707834938958389 : Unit := ()
def PySem.W.Fast.tw14395638989618963660 : Unit := ()
def PySem.W.Fast.tw17735101632051045970 : Unit := ()
def PySem.W.Fast.tw1511835893391893655 : Unit := ()
def PySem.W.Fast.tw14159048546987827435 : Unit := ()
def PySem.W.Fast.tw1036010627177216246 : Unit := ()
def PySem.W.Fast.tw14182501456492453055 : Unit := ()
def PySem.W.Fast.tw3453439359807271128 : Unit := ()
def PySem.W.Fast.tw14532688237059872953 : Unit := ()
def PySem.W.Fast.tw1074729924049549616 : Unit := ()
def PySem.W.Fast.tw3643308564181808794 : Unit := ()
def PySem.W.Fast.tw14905904005341326337 : Unit := ()
def PySem.W.Fast.tw14516987648522344966 : Unit := ()
def PySem.W.Fast.tw9249325672842766270 : Unit := ()
def PySem.W.Fast.tw7406575260046001364 : Unit := ()
def PySem.W.Fast.tw16728555698329012705 : Unit := ()
def PySem.W.Fast.tw10881326197755075284 : Unit := ()
def PySem.W.Fast.tw856300562289625404 : Unit := ()
def PySem.W.Fast.tw16075790657106749763 : Unit := ()
def PySem.W.Fast.tw15615697457244425846 : Unit := ()
def PySem.W.Fast.tw8788201818834257221 : Unit := ()
def PySem.W.Fast.tw7547938538276110461 : Unit := ()
def PySem.W.Fast.tw18381464654288936168 : Unit := ()
def PySem.W.Fast.tw15012117333124509282 : Unit := ()
def PySem.W.Fast.tw158211231994732647 : Unit := ()
def PySem.W.Fast.tw2401333340617027634 : Unit := ()
def PySem.W.Fast.tw5913534177317448276 : Unit := ()
def PySem.W.Fast.tw6819101328473660103 : Unit := ()
def PySem.W.Fast.tw11099486797853734774 : Unit := ()
def PySem.W.Fast.tw4944496312804037465 : Unit := ()
def PySem.W.Fast.tw10149928120981973365 : Unit := ()
def PySem.W.Fast.tw3724062952942678168 : Unit := ()
def PySem.W.Fast.tw16707732087851531557 : Unit := ()
def PySem.W.Fast.tw5565547082056516407 : Unit := ()
def PySem.W.Fast.tw14742079851043745787 : Unit := ()
def PySem.W.Fast.tw6858156189490897905 : Unit := ()
def PySem.W.Fast.tw7751883566232123024 : Unit := ()
def PySem.W.Fast.tw5608418236271721977 : Unit := ()
def PySem.W.Fast.tw12893523959119394750 : Unit := ()
def PySem.W.Fast.tw11667039254745677209 : Unit := ()
def PySem.W.Fast.tw11937867762309950735 : Unit := ()
def PySem.W.Fast.tw7121290188523834260 : Unit := ()
def PySem.W.Fast.tw13679691459167653866 : Unit := ()
def PySem.W.Fast.tw11345280568882921075 : Unit := ()
def PySem.W.Fast.tw8730329302230200440 : Unit := ()
def PySem.W.Fast.tw3527041122914429659 : Unit := ()
def PySem.W.Fast.tw15568962650861282876 : Unit := ()
def PySem.W.Fast.tw15397003492043340216 : Unit := ()
def PySem.W.Fast.tw14209084419624765542 : Unit := ()
def PySem.W.Fast.tw8776801468977139488 : Unit := ()
def PySem.W.Fast.tw11145561062748769891 : Unit := ()
def PySem.W.Fast.tw11968551713313229738 : Unit := ()
def PySem.W.Fast.tw762256229896463380 : Unit := ()
def PySem.W.Fast.tw5622498525534239599 : Unit := ()
def PySem.W.Fast.tw15455153417175597710 : Unit := ()
def PySem.W.Fast.tw13123516900706597103 : Unit := ()
def PySem.W.Fast.tw7348632350540446340 : Unit := ()
def PySem.W.Fast.tw2340007118240145009 : Unit := ()
def PySem.W.Fast.tw4453108232368161924 : Unit := ()
def PySem.W.Fast.tw109675767844942155 : Unit := ()
def PySem.W.Fast.tw5286650929964511096 : Unit := ()
def PySem.W.Fast.tw1455664491663003939 : Unit := ()
def PySem.W.Fast.tw11613294550972522868 : Unit := ()
def PySem.W.Fast.tw16551796770703270934 : Unit := ()
open PySem PySem.W PySem.Calls PyProof.Rows
theorem PySem.Challenge.cw_fewleft_k59_hints_and_mistakes_holds : PySem.Challenge.rw_fewleft_k59_hints_and_mistakes.Holds := by
  w_on; o_law; o_head (Fw.hookT 5 Fw.fcs Fw.dfs)
  case hw => w_witness2
  case hc =>
    refine Fw.walk_ofG (l := PySem.Challenge.rw_fewleft_k59_hints_and_mistakes) (k := 16) (x := "_law_script") (CX := fun _ _ _ _ _ _ => False) rfl (by decide) (by kernel_rfl) ⟨rfl, by decide, by decide⟩ ?F (fun _ _ _ _ z => z)
    intro w mg fa h Y G hmg0
    obtain ⟨K, KX, c⟩ := Y
    have hmg : mg ("law" : PySem.Str) = some (.ref fa) := hmg0
    obtain ⟨fd, hb, hF⟩ := Fw.facts (P := (PySem.Challenge.rw_fewleft_k59_hints_and_mistakes).prog) (w := w) KX G hmg c
    exact ⟨K, fd, (fun vs H Q _ => Fw.spD K Fw.wt_law vs H Q L2.E0), KX, hb, fun H a ns hl _ hS => Fw.spec hS, hF⟩
