import PyProof.Rows.All
import Wide.All
import OpenK.AllK
import Wide.FinOn
import HandS.ForMost
import HandS.ForExc
import HandS.IsInst
import HandS.Property
import HandS.DictComp
import HandS.SortInts
import HandS.HeadHook2
import HandS.ExcInit
import HandS.HeadEnd
import HandS.Star
import HandS.Head2
import PySem.Challenge.RW_fewleft_k69_whole_groups_in_large_games
import KE.KOpsOwn
import KE.KDictList
import HandS.ListItems
import HandS.Defaults
import HandS.DictEq
import HandS.SetFor
set_option Elab.async false
set_option linter.all false
set_option maxRecDepth 100000
set_option maxHeartbeats 4000000
/-! What is looked at behind the top. -/
namespace Fw
open PySem PySem.Spec PyProof.Rows L2
def insB (K : PySem.W.Frag) (c : Str) : Bool := He.Fa.ok K (.cls c) && (He.eqO (PySem.W.findIn K (.ref (He.ga K c)) "__class__") (some (some (.builtin "object.__class__"))) && (He.eqO (PySem.W.specialIn K (.builtin "object.__class__") "__get__") (some (some (.builtin "getset_descriptor.__get__"))) &&
  (decide (PySem.W.takesIn K (.builtin "object.__class__") = some true) && decide (PySem.W.mroIn K (He.ga K c) (.type "object") = some true))))
/-- a path to a def: a global; a class's method; a property's getter -/
inductive Pa where
  | g (x : Str) | m (c x : Str) | p (c x : Str)
def getter (K : PySem.W.Frag) (C : Addr) (x : Str) : Addr := match PySem.W.recIn K (He.ma K C x) "property" with
  | some (.ref a :: _) => a
  | _ => 0
def Pa.ad (K : PySem.W.Frag) : Pa → Addr
  | .g x => He.ga K x
  | .m c x => He.ma K (He.ga K c) x
  | .p c x => getter K (He.ga K c) x
structure DfP where
  at_ : Pa
  name : Str
  qual : Str
  st : Stmt
def fnP (K : PySem.W.Frag) (a : Addr) : He.FnW := match K.lookup a with
  | some ⟨_, _, .func fd, _⟩ => some (fd.name, fd.qualname, fd.params, fd.body, fd.scope, fd.globals, fd.closure, fd.builtins)
  | _ => none
def DfP.val (d : DfP) : He.FnW := some (d.name, d.qual, defArgs d.st, .stmts (defBody d.st), defScope d.st, mainGlobals, [], builtinsNs)
def isNone : Value → Bool
  | .none => true
  | _ => false
def DfP.ok (K : PySem.W.Frag) (d : DfP) : Bool := PySem.W.keepIn K (.ref (d.at_.ad K)) && (match K.lookup (d.at_.ad K) with
  | some ⟨_, _, .func fd, _⟩ => PySem.W.codeIn K fd.code d.qual && isNone fd.defaults
  | _ => false)
/-- a type: a built-in one, an own class -/
inductive Tv where
  | ty (n : String) | own (c : Str)
def Tv.v (K : PySem.W.Frag) : Tv → Value
  | .ty n => .type n
  | .own c => .ref (He.ga K c)
inductive Fc where
  | a (f : He.Fa)
  | ins (c : Str)
  | prop (c x : Str)
  | kit (t u : Tv) (b : Bool)
  | first (c : Str)
  | bin2 (c e : Str) (nm : String)
  | callo (c e : Str)
  | fnin (c m : Str)
def Fc.ok (K : PySem.W.Frag) : Fc → Bool
  | .a f => f.ok K
  | .ins c => insB K c
  | .prop c x => He.eqO (PySem.W.findIn K (.ref (He.ga K c)) x) (some (some (.ref (He.ma K (He.ga K c) x)))) && (He.eqO (PySem.W.specialIn K (.ref (He.ma K (He.ga K c) x)) "__get__") (some (some (.builtin "property.__get__"))) &&
      (decide (PySem.W.takesIn K (.ref (He.ma K (He.ga K c) x)) = some true) && (match PySem.W.recIn K (He.ma K (He.ga K c) x) "property" with
        | some (.ref _ :: _) => true
        | _ => false)))
  | .kit t u b => decide (PySem.W.kitOne K (t.v K) (u.v K) = some b)
  | .first c => PySem.W.selfFirst K (He.ga K c)
  | .bin2 c e nm => !(decide (He.ga K c = He.ga K e)) && (PySem.W.selfFirst K (He.ga K c) && (PySem.W.selfFirst K (He.ga K e) && (He.eqO (PySem.W.findIn K (.ref (He.ga K e)) (PySem.dunder nm)) (some (some (.ref (He.ma K (He.ga K e) (PySem.dunder nm))))) &&
      (He.eqO (PySem.W.findIn K (.ref (He.ga K c)) (dunderR nm)) (some none) && (He.eqO (PySem.W.findIn K (.ref (He.ga K e)) (dunderR nm)) (some none) && decide (PySem.W.subIn K (.ref (He.ga K e)) (.ref (He.ga K c)) = some false))))))
  | .fnin c m => PySem.W.fnIn K (He.ma K (He.ga K c) m)
  | .callo c e => He.eqO (PySem.W.findIn K (.ref (He.ga K c)) "__call__") (some (some (.ref (He.ma K (He.ga K e) "__call__")))) && (PySem.W.isFn K (.ref (He.ma K (He.ga K e) "__call__")) && PySem.W.fnIn K (He.ma K (He.ga K e) "__call__"))
/-! ### the Hook -/
abbrev AlP : Type := Bool × List He.FnW
def obsP (fc : List Fc) (ds : List DfP) (K : PySem.W.Frag) : AlP := ((fc.all fun f => f.ok K) && ds.all fun d => d.ok K, ds.map fun d => fnP K (d.at_.ad K))
def valP (ds : List DfP) : AlP := (true, ds.map DfP.val)
def obsPG (n : Nat) (fc : List Fc) (ds : List DfP) (g : Addr → Option Obj) : AlP := obsP fc ds (He.frG g (He.asD g n))
def hookP (n : Nat) (fc : List Fc) (ds : List DfP) : PySem.W.Hook where
  α := AlP
  obs := fun s => obsPG n fc ds s.heap.get?
  val := fun _ => valP ds
  says := fun _ h => ∃ K : PySem.W.Frag, K.In h ∧ obsP fc ds K = valP ds
  of := fun _ _ e => ⟨_, He.frG_in, e⟩
  keeps := fun _ _ _ ⟨K, hK, c⟩ k => ⟨K, PySem.W.Frag.In.keeps hK k, c⟩
theorem obsPG_eq {n : Nat} {fc : List Fc} {ds : List DfP} {g : Addr → Option Obj} {s : Shared} (h : ∀ a, g a = s.heap.get? a) : obsPG n fc ds g = (hookP n fc ds).obs s := by
  have e : g = s.heap.get? := funext h
  rw [e] <;> rfl
end Fw

set_option maxHeartbeats 4000000
/-! The places of the program's text and the facts asked of its top. -/
namespace Fw
open PySem PySem.Spec PyProof.Rows L2
def top (i : Nat) : Stmt := PySem.Challenge.pw_fewleft_k69_whole_groups_in_large_games.main.body.getD i (.Pass ⟨0, 0, 0, 0⟩)
abbrev s_is_name : Stmt := top 16
abbrev N_is_name : List Str := ["candidate", "letter"]
theorem sc_is_name : FnScope N_is_name ["candidate"] (defScope s_is_name) := ⟨rfl, rfl, rfl, by decide +kernel, rfl, by decide +kernel, by decide +kernel⟩
def d_is_name : DfP := ⟨.g "is_name", "is_name", "is_name", s_is_name⟩
abbrev s_are_names : Stmt := top 17
abbrev N_are_names : List Str := ["candidate", "name"]
theorem sc_are_names : FnScope N_are_names ["candidate"] (defScope s_are_names) := ⟨rfl, rfl, rfl, by decide +kernel, rfl, by decide +kernel, by decide +kernel⟩
def d_are_names : DfP := ⟨.g "are_names", "are_names", "are_names", s_are_names⟩
abbrev s_distinct : Stmt := top 19
abbrev N_distinct : List Str := ["names", "name"]
theorem sc_distinct : FnScope N_distinct ["names"] (defScope s_distinct) := ⟨rfl, rfl, rfl, by decide +kernel, rfl, by decide +kernel, by decide +kernel⟩
def d_distinct : DfP := ⟨.g "distinct", "distinct", "distinct", s_distinct⟩
abbrev s_Committee_init : Stmt := inClass (top 21) 0
abbrev N_Committee_init : List Str := ["self", "names"]
theorem sc_Committee_init : FnScope N_Committee_init ["self", "names"] (defScope s_Committee_init) := ⟨rfl, rfl, rfl, by decide +kernel, rfl, by decide +kernel, by decide +kernel⟩
def d_Committee_init : DfP := ⟨.m "Committee" "__init__", "__init__", "Committee.__init__", s_Committee_init⟩
abbrev s_Committee_members : Stmt := inClass (top 21) 1
abbrev N_Committee_members : List Str := ["self"]
theorem sc_Committee_members : FnScope N_Committee_members ["self"] (defScope s_Committee_members) := ⟨rfl, rfl, rfl, by decide +kernel, rfl, by decide +kernel, by decide +kernel⟩
def d_Committee_members : DfP := ⟨.p "Committee" "members", "members", "Committee.members", s_Committee_members⟩
abbrev s_Committee_len : Stmt := inClass (top 21) 2
abbrev N_Committee_len : List Str := ["self"]
theorem sc_Committee_len : FnScope N_Committee_len ["self"] (defScope s_Committee_len) := ⟨rfl, rfl, rfl, by decide +kernel, rfl, by decide +kernel, by decide +kernel⟩
def d_Committee_len : DfP := ⟨.m "Committee" "__len__", "__len__", "Committee.__len__", s_Committee_len⟩
abbrev s_Committee_eq : Stmt := inClass (top 21) 4
abbrev N_Committee_eq : List Str := ["self", "other"]
theorem sc_Committee_eq : FnScope N_Committee_eq ["self", "other"] (defScope s_Committee_eq) := ⟨rfl, rfl, rfl, by decide +kernel, rfl, by decide +kernel, by decide +kernel⟩
def d_Committee_eq : DfP := ⟨.m "Committee" "__eq__", "__eq__", "Committee.__eq__", s_Committee_eq⟩
abbrev s_Ranking_init : Stmt := inClass (top 23) 0
abbrev N_Ranking_init : List Str := ["self", "alternatives", "place", "name"]
theorem sc_Ranking_init : FnScope N_Ranking_init ["self", "alternatives"] (defScope s_Ranking_init) := ⟨rfl, rfl, rfl, by decide +kernel, rfl, by decide +kernel, by decide +kernel⟩
def d_Ranking_init : DfP := ⟨.m "Ranking" "__init__", "__init__", "Ranking.__init__", s_Ranking_init⟩
abbrev s_Ranking_alternatives : Stmt := inClass (top 23) 1
abbrev N_Ranking_alternatives : List Str := ["self"]
theorem sc_Ranking_alternatives : FnScope N_Ranking_alternatives ["self"] (defScope s_Ranking_alternatives) := ⟨rfl, rfl, rfl, by decide +kernel, rfl, by decide +kernel, by decide +kernel⟩
def d_Ranking_alternatives : DfP := ⟨.p "Ranking" "alternatives", "alternatives", "Ranking.alternatives", s_Ranking_alternatives⟩
abbrev s_Ranking_len : Stmt := inClass (top 23) 2
abbrev N_Ranking_len : List Str := ["self"]
theorem sc_Ranking_len : FnScope N_Ranking_len ["self"] (defScope s_Ranking_len) := ⟨rfl, rfl, rfl, by decide +kernel, rfl, by decide +kernel, by decide +kernel⟩
def d_Ranking_len : DfP := ⟨.m "Ranking" "__len__", "__len__", "Ranking.__len__", s_Ranking_len⟩
abbrev s_Ranking_contains : Stmt := inClass (top 23) 4
abbrev N_Ranking_contains : List Str := ["self", "name"]
theorem sc_Ranking_contains : FnScope N_Ranking_contains ["self", "name"] (defScope s_Ranking_contains) := ⟨rfl, rfl, rfl, by decide +kernel, rfl, by decide +kernel, by decide +kernel⟩
def d_Ranking_contains : DfP := ⟨.m "Ranking" "__contains__", "__contains__", "Ranking.__contains__", s_Ranking_contains⟩
abbrev s_members_known : Stmt := top 24
abbrev N_members_known : List Str := ["ranking", "committee", "name"]
theorem sc_members_known : FnScope N_members_known ["ranking", "committee"] (defScope s_members_known) := ⟨rfl, rfl, rfl, by decide +kernel, rfl, by decide +kernel, by decide +kernel⟩
def d_members_known : DfP := ⟨.g "members_known", "members_known", "members_known", s_members_known⟩
abbrev s_as_committee : Stmt := top 25
abbrev N_as_committee : List Str := ["ranking"]
theorem sc_as_committee : FnScope N_as_committee ["ranking"] (defScope s_as_committee) := ⟨rfl, rfl, rfl, by decide +kernel, rfl, by decide +kernel, by decide +kernel⟩
def d_as_committee : DfP := ⟨.g "as_committee", "as_committee", "as_committee", s_as_committee⟩
abbrev s_Turns_init : Stmt := inClass (top 27) 0
abbrev N_Turns_init : List Str := ["self", "players"]
theorem sc_Turns_init : FnScope N_Turns_init ["self", "players"] (defScope s_Turns_init) := ⟨rfl, rfl, rfl, by decide +kernel, rfl, by decide +kernel, by decide +kernel⟩
def d_Turns_init : DfP := ⟨.m "Turns" "__init__", "__init__", "Turns.__init__", s_Turns_init⟩
abbrev s_Turns_players : Stmt := inClass (top 27) 1
abbrev N_Turns_players : List Str := ["self"]
theorem sc_Turns_players : FnScope N_Turns_players ["self"] (defScope s_Turns_players) := ⟨rfl, rfl, rfl, by decide +kernel, rfl, by decide +kernel, by decide +kernel⟩
def d_Turns_players : DfP := ⟨.p "Turns" "players", "players", "Turns.players", s_Turns_players⟩
abbrev s_Turns_len : Stmt := inClass (top 27) 2
abbrev N_Turns_len : List Str := ["self"]
theorem sc_Turns_len : FnScope N_Turns_len ["self"] (defScope s_Turns_len) := ⟨rfl, rfl, rfl, by decide +kernel, rfl, by decide +kernel, by decide +kernel⟩
def d_Turns_len : DfP := ⟨.m "Turns" "__len__", "__len__", "Turns.__len__", s_Turns_len⟩
abbrev s_Game_first_ranking : Stmt := inClass (top 44) 2
abbrev N_Game_first_ranking : List Str := ["self"]
theorem sc_Game_first_ranking : FnScope N_Game_first_ranking ["self"] (defScope s_Game_first_ranking) := ⟨rfl, rfl, rfl, by decide +kernel, rfl, by decide +kernel, by decide +kernel⟩
def d_Game_first_ranking : DfP := ⟨.m "Game" "first_ranking", "first_ranking", "Game.first_ranking", s_Game_first_ranking⟩
abbrev s_Game_rankings : Stmt := inClass (top 44) 3
abbrev N_Game_rankings : List Str := ["self"]
theorem sc_Game_rankings : FnScope N_Game_rankings ["self"] (defScope s_Game_rankings) := ⟨rfl, rfl, rfl, by decide +kernel, rfl, by decide +kernel, by decide +kernel⟩
def d_Game_rankings : DfP := ⟨.p "Game" "rankings", "rankings", "Game.rankings", s_Game_rankings⟩
abbrev s_Game_turns : Stmt := inClass (top 44) 4
abbrev N_Game_turns : List Str := ["self"]
theorem sc_Game_turns : FnScope N_Game_turns ["self"] (defScope s_Game_turns) := ⟨rfl, rfl, rfl, by decide +kernel, rfl, by decide +kernel, by decide +kernel⟩
def d_Game_turns : DfP := ⟨.p "Game" "turns", "turns", "Game.turns", s_Game_turns⟩
abbrev s_Game_alternatives : Stmt := inClass (top 44) 5
abbrev N_Game_alternatives : List Str := ["self"]
theorem sc_Game_alternatives : FnScope N_Game_alternatives ["self"] (defScope s_Game_alternatives) := ⟨rfl, rfl, rfl, by decide +kernel, rfl, by decide +kernel, by decide +kernel⟩
def d_Game_alternatives : DfP := ⟨.p "Game" "alternatives", "alternatives", "Game.alternatives", s_Game_alternatives⟩
abbrev s_Game_ranking_of : Stmt := inClass (top 44) 10
abbrev N_Game_ranking_of : List Str := ["self", "player"]
theorem sc_Game_ranking_of : FnScope N_Game_ranking_of ["self", "player"] (defScope s_Game_ranking_of) := ⟨rfl, rfl, rfl, by decide +kernel, rfl, by decide +kernel, by decide +kernel⟩
def d_Game_ranking_of : DfP := ⟨.m "Game" "ranking_of", "ranking_of", "Game.ranking_of", s_Game_ranking_of⟩
abbrev s_Game_check_turns : Stmt := inClass (top 44) 1
abbrev N_Game_check_turns : List Str := ["self", "turns", "player"]
theorem sc_Game_check_turns : FnScope N_Game_check_turns ["self", "turns"] (defScope s_Game_check_turns) := ⟨rfl, rfl, rfl, by decide +kernel, rfl, by decide +kernel, by decide +kernel⟩
def d_Game_check_turns : DfP := ⟨.m "Game" "check_turns", "check_turns", "Game.check_turns", s_Game_check_turns⟩
abbrev s_check_rankings : Stmt := top 43
abbrev N_check_rankings : List Str := ["rankings", "player", "ranking", "first"]
theorem sc_check_rankings : FnScope N_check_rankings ["rankings"] (defScope s_check_rankings) := ⟨rfl, rfl, rfl, by decide +kernel, rfl, by decide +kernel, by decide +kernel⟩
def d_check_rankings : DfP := ⟨.g "check_rankings", "check_rankings", "check_rankings", s_check_rankings⟩
abbrev s_Game_init : Stmt := inClass (top 44) 0
abbrev N_Game_init : List Str := ["self", "rankings", "turns", "player"]
theorem sc_Game_init : FnScope N_Game_init ["self", "rankings", "turns"] (defScope s_Game_init) := ⟨rfl, rfl, rfl, by decide +kernel, rfl, by decide +kernel, by decide +kernel⟩
def d_Game_init : DfP := ⟨.m "Game" "__init__", "__init__", "Game.__init__", s_Game_init⟩
abbrev s_check_group : Stmt := top 35
abbrev N_check_group : List Str := ["game", "group", "target", "player"]
theorem sc_check_group : FnScope N_check_group ["game", "group", "target"] (defScope s_check_group) := ⟨rfl, rfl, rfl, by decide +kernel, rfl, by decide +kernel, by decide +kernel⟩
def d_check_group : DfP := ⟨.g "check_group", "check_group", "check_group", s_check_group⟩
abbrev s_number_left : Stmt := top 36
abbrev N_number_left : List Str := ["game", "group", "target", "own", "player", "others", "outside"]
theorem sc_number_left : FnScope N_number_left ["game", "group", "target"] (defScope s_number_left) := ⟨rfl, rfl, rfl, by decide +kernel, rfl, by decide +kernel, by decide +kernel⟩
def d_number_left : DfP := ⟨.g "number_left", "number_left", "number_left", s_number_left⟩
abbrev s_safe_place : Stmt := top 41
abbrev N_safe_place : List Str := ["game", "player", "ranking", "place"]
theorem sc_safe_place : FnScope N_safe_place ["game", "player"] (defScope s_safe_place) := ⟨rfl, rfl, rfl, by decide +kernel, rfl, by decide +kernel, by decide +kernel⟩
def d_safe_place : DfP := ⟨.g "safe_place", "safe_place", "safe_place", s_safe_place⟩
abbrev s_law_stream : Stmt := top 46
abbrev N_law_stream : List Str := ["_law_script", "_law_k", "_law_cell", "_law_size", "_law_mixed"]
theorem sc_law_stream : FnScope N_law_stream ["_law_script", "_law_k"] (defScope s_law_stream) := ⟨rfl, rfl, rfl, by decide +kernel, rfl, by decide +kernel, by decide +kernel⟩
def d_law_stream : DfP := ⟨.g "_law_stream", "_law_stream", "_law_stream", s_law_stream⟩
abbrev s_law_draw : Stmt := top 47
abbrev N_law_draw : List Str := ["_law_stream_here", "_law_count", "_law_result"]
theorem sc_law_draw : FnScope N_law_draw ["_law_stream_here", "_law_count"] (defScope s_law_draw) := ⟨rfl, rfl, rfl, by decide +kernel, rfl, by decide +kernel, by decide +kernel⟩
def d_law_draw : DfP := ⟨.g "_law_draw", "_law_draw", "_law_draw", s_law_draw⟩
abbrev s_law_shuffled : Stmt := top 48
abbrev N_law_shuffled : List Str := ["_law_stream_here", "_law_items", "_law_left", "_law_found", "_law_turn"]
theorem sc_law_shuffled : FnScope N_law_shuffled ["_law_stream_here", "_law_items"] (defScope s_law_shuffled) := ⟨rfl, rfl, rfl, by decide +kernel, rfl, by decide +kernel, by decide +kernel⟩
def d_law_shuffled : DfP := ⟨.g "_law_shuffled", "_law_shuffled", "_law_shuffled", s_law_shuffled⟩
abbrev s_law_players : Stmt := top 49
abbrev N_law_players : List Str := ["_law_stream_here", "_law_most"]
theorem sc_law_players : FnScope N_law_players ["_law_stream_here", "_law_most"] (defScope s_law_players) := ⟨rfl, rfl, rfl, by decide +kernel, rfl, by decide +kernel, by decide +kernel⟩
def d_law_players : DfP := ⟨.g "_law_players", "_law_players", "_law_players", s_law_players⟩
abbrev s_law_names : Stmt := top 50
abbrev N_law_names : List Str := ["_law_stream_here", "_law_many_here"]
theorem sc_law_names : FnScope N_law_names ["_law_stream_here", "_law_many_here"] (defScope s_law_names) := ⟨rfl, rfl, rfl, by decide +kernel, rfl, by decide +kernel, by decide +kernel⟩
def d_law_names : DfP := ⟨.g "_law_names", "_law_names", "_law_names", s_law_names⟩
abbrev s_law_own : Stmt := top 51
abbrev N_law_own : List Str := ["_law_stream_here", "_law_most", "_law_names_here", "_law_players_here", "_law_rankings", "_law_player", "_law_turns", "_law_turn"]
theorem sc_law_own : FnScope N_law_own ["_law_stream_here", "_law_most"] (defScope s_law_own) := ⟨rfl, rfl, rfl, by decide +kernel, rfl, by decide +kernel, by decide +kernel⟩
def d_law_own : DfP := ⟨.g "_law_own", "_law_own", "_law_own", s_law_own⟩
abbrev s_law_game : Stmt := top 52
abbrev N_law_game : List Str := ["_law_own_here", "_law_player"]
theorem sc_law_game : FnScope N_law_game ["_law_own_here"] (defScope s_law_game) := ⟨rfl, rfl, rfl, by decide +kernel, rfl, by decide +kernel, by decide +kernel⟩
def d_law_game : DfP := ⟨.g "_law_game", "_law_game", "_law_game", s_law_game⟩
abbrev s_law_all : Stmt := top 55
abbrev N_law_all : List Str := ["_law_own_here"]
theorem sc_law_all : FnScope N_law_all ["_law_own_here"] (defScope s_law_all) := ⟨rfl, rfl, rfl, by decide +kernel, rfl, by decide +kernel, by decide +kernel⟩
def d_law_all : DfP := ⟨.g "_law_all", "_law_all", "_law_all", s_law_all⟩
abbrev s_is_number : Stmt := top 18
abbrev N_is_number : List Str := ["candidate", "least", "greatest"]
theorem sc_is_number : FnScope N_is_number ["candidate", "least", "greatest"] (defScope s_is_number) := ⟨rfl, rfl, rfl, by decide +kernel, rfl, by decide +kernel, by decide +kernel⟩
def d_is_number : DfP := ⟨.g "is_number", "is_number", "is_number", s_is_number⟩
abbrev s_Committee_and : Stmt := inClass (top 21) 7
abbrev N_Committee_and : List Str := ["self", "other", "name"]
theorem sc_Committee_and : FnScope N_Committee_and ["self", "other"] (defScope s_Committee_and) := ⟨rfl, rfl, rfl, by decide +kernel, rfl, by decide +kernel, by decide +kernel⟩
def d_Committee_and : DfP := ⟨.m "Committee" "__and__", "__and__", "Committee.__and__", s_Committee_and⟩
abbrev s_Committee_sub : Stmt := inClass (top 21) 8
abbrev N_Committee_sub : List Str := ["self", "other", "name"]
theorem sc_Committee_sub : FnScope N_Committee_sub ["self", "other"] (defScope s_Committee_sub) := ⟨rfl, rfl, rfl, by decide +kernel, rfl, by decide +kernel, by decide +kernel⟩
def d_Committee_sub : DfP := ⟨.m "Committee" "__sub__", "__sub__", "Committee.__sub__", s_Committee_sub⟩
abbrev s_Ranking_sub : Stmt := inClass (top 23) 9
abbrev N_Ranking_sub : List Str := ["self", "committee", "name"]
theorem sc_Ranking_sub : FnScope N_Ranking_sub ["self", "committee"] (defScope s_Ranking_sub) := ⟨rfl, rfl, rfl, by decide +kernel, rfl, by decide +kernel, by decide +kernel⟩
def d_Ranking_sub : DfP := ⟨.m "Ranking" "__sub__", "__sub__", "Ranking.__sub__", s_Ranking_sub⟩
abbrev s_Ranking_and : Stmt := inClass (top 23) 8
abbrev N_Ranking_and : List Str := ["self", "committee", "name"]
theorem sc_Ranking_and : FnScope N_Ranking_and ["self", "committee"] (defScope s_Ranking_and) := ⟨rfl, rfl, rfl, by decide +kernel, rfl, by decide +kernel, by decide +kernel⟩
def d_Ranking_and : DfP := ⟨.m "Ranking" "__and__", "__and__", "Ranking.__and__", s_Ranking_and⟩
abbrev s_Turns_getitem : Stmt := inClass (top 27) 6
abbrev N_Turns_getitem : List Str := ["self", "number"]
theorem sc_Turns_getitem : FnScope N_Turns_getitem ["self", "number"] (defScope s_Turns_getitem) := ⟨rfl, rfl, rfl, by decide +kernel, rfl, by decide +kernel, by decide +kernel⟩
def d_Turns_getitem : DfP := ⟨.m "Turns" "__getitem__", "__getitem__", "Turns.__getitem__", s_Turns_getitem⟩
abbrev s_Turns_counts : Stmt := inClass (top 27) 11
abbrev N_Turns_counts : List Str := ["self", "player"]
theorem sc_Turns_counts : FnScope N_Turns_counts ["self"] (defScope s_Turns_counts) := ⟨rfl, rfl, rfl, by decide +kernel, rfl, by decide +kernel, by decide +kernel⟩
def d_Turns_counts : DfP := ⟨.m "Turns" "counts", "counts", "Turns.counts", s_Turns_counts⟩
abbrev s_Game_mover : Stmt := inClass (top 44) 7
abbrev N_Game_mover : List Str := ["self"]
theorem sc_Game_mover : FnScope N_Game_mover ["self"] (defScope s_Game_mover) := ⟨rfl, rfl, rfl, by decide +kernel, rfl, by decide +kernel, by decide +kernel⟩
def d_Game_mover : DfP := ⟨.p "Game" "mover", "mover", "Game.mover", s_Game_mover⟩
abbrev s_Committee_contains : Stmt := inClass (top 21) 5
abbrev N_Committee_contains : List Str := ["self", "name"]
theorem sc_Committee_contains : FnScope N_Committee_contains ["self", "name"] (defScope s_Committee_contains) := ⟨rfl, rfl, rfl, by decide +kernel, rfl, by decide +kernel, by decide +kernel⟩
def d_Committee_contains : DfP := ⟨.m "Committee" "__contains__", "__contains__", "Committee.__contains__", s_Committee_contains⟩
abbrev s_Game_restricted : Stmt := inClass (top 44) 11
abbrev N_Game_restricted : List Str := ["self", "committee", "turns", "player", "ranking"]
theorem sc_Game_restricted : FnScope N_Game_restricted ["self", "committee", "turns"] (defScope s_Game_restricted) := ⟨rfl, rfl, rfl, by decide +kernel, rfl, by decide +kernel, by decide +kernel⟩
def d_Game_restricted : DfP := ⟨.m "Game" "restricted", "restricted", "Game.restricted", s_Game_restricted⟩
abbrev s_Game_after : Stmt := inClass (top 44) 12
abbrev N_Game_after : List Str := ["self", "name"]
theorem sc_Game_after : FnScope N_Game_after ["self", "name"] (defScope s_Game_after) := ⟨rfl, rfl, rfl, by decide +kernel, rfl, by decide +kernel, by decide +kernel⟩
def d_Game_after : DfP := ⟨.m "Game" "after", "after", "Game.after", s_Game_after⟩
abbrev s_check_turn : Stmt := top 29
abbrev N_check_turn : List Str := ["game"]
theorem sc_check_turn : FnScope N_check_turn ["game"] (defScope s_check_turn) := ⟨rfl, rfl, rfl, by decide +kernel, rfl, by decide +kernel, by decide +kernel⟩
def d_check_turn : DfP := ⟨.g "check_turn", "check_turn", "check_turn", s_check_turn⟩
abbrev s_Striker_init : Stmt := inClass (top 38) 0
abbrev N_Striker_init : List Str := ["self", "target"]
theorem sc_Striker_init : FnScope N_Striker_init ["self", "target"] (defScope s_Striker_init) := ⟨rfl, rfl, rfl, by decide +kernel, rfl, by decide +kernel, by decide +kernel⟩
def d_Striker_init : DfP := ⟨.m "Striker" "__init__", "__init__", "Striker.__init__", s_Striker_init⟩
abbrev s_Keeper_init : Stmt := inClass (top 39) 0
abbrev N_Keeper_init : List Str := ["self", "target"]
theorem sc_Keeper_init : FnScope N_Keeper_init ["self", "target"] (defScope s_Keeper_init) := ⟨rfl, rfl, rfl, by decide +kernel, rfl, by decide +kernel, by decide +kernel⟩
def d_Keeper_init : DfP := ⟨.m "Keeper" "__init__", "__init__", "Keeper.__init__", s_Keeper_init⟩
abbrev s_Striker_choice : Stmt := inClass (top 38) 1
abbrev N_Striker_choice : List Str := ["self", "game", "names"]
theorem sc_Striker_choice : FnScope N_Striker_choice ["self", "game"] (defScope s_Striker_choice) := ⟨rfl, rfl, rfl, by decide +kernel, rfl, by decide +kernel, by decide +kernel⟩
def d_Striker_choice : DfP := ⟨.m "Striker" "choice", "choice", "Striker.choice", s_Striker_choice⟩
abbrev s_Keeper_choice : Stmt := inClass (top 39) 1
abbrev N_Keeper_choice : List Str := ["self", "game", "names"]
theorem sc_Keeper_choice : FnScope N_Keeper_choice ["self", "game"] (defScope s_Keeper_choice) := ⟨rfl, rfl, rfl, by decide +kernel, rfl, by decide +kernel, by decide +kernel⟩
def d_Keeper_choice : DfP := ⟨.m "Keeper" "choice", "choice", "Keeper.choice", s_Keeper_choice⟩
abbrev s_Strategy_call_at_Striker : Stmt := inClass (top 31) 0
abbrev N_Strategy_call_at_Striker : List Str := ["self", "game"]
theorem sc_Strategy_call_at_Striker : FnScope N_Strategy_call_at_Striker ["self", "game"] (defScope s_Strategy_call_at_Striker) := ⟨rfl, rfl, rfl, by decide +kernel, rfl, by decide +kernel, by decide +kernel⟩
def d_Strategy_call_at_Striker : DfP := ⟨.m "Strategy" "__call__", "__call__", "Strategy.__call__", s_Strategy_call_at_Striker⟩
abbrev s_Strategy_call_at_Keeper : Stmt := inClass (top 31) 0
abbrev N_Strategy_call_at_Keeper : List Str := ["self", "game"]
theorem sc_Strategy_call_at_Keeper : FnScope N_Strategy_call_at_Keeper ["self", "game"] (defScope s_Strategy_call_at_Keeper) := ⟨rfl, rfl, rfl, by decide +kernel, rfl, by decide +kernel, by decide +kernel⟩
def d_Strategy_call_at_Keeper : DfP := ⟨.m "Strategy" "__call__", "__call__", "Strategy.__call__", s_Strategy_call_at_Keeper⟩
abbrev s_side_strategies : Stmt := top 40
abbrev N_side_strategies : List Str := ["game", "group", "target", "player"]
theorem sc_side_strategies : FnScope N_side_strategies ["game", "group", "target"] (defScope s_side_strategies) := ⟨rfl, rfl, rfl, by decide +kernel, rfl, by decide +kernel, by decide +kernel⟩
def d_side_strategies : DfP := ⟨.g "side_strategies", "side_strategies", "side_strategies", s_side_strategies⟩
abbrev s_can_strike_out : Stmt := top 37
abbrev N_can_strike_out : List Str := ["game", "group", "target"]
theorem sc_can_strike_out : FnScope N_can_strike_out ["game", "group", "target"] (defScope s_can_strike_out) := ⟨rfl, rfl, rfl, by decide +kernel, rfl, by decide +kernel, by decide +kernel⟩
def d_can_strike_out : DfP := ⟨.g "can_strike_out", "can_strike_out", "can_strike_out", s_can_strike_out⟩
abbrev s_run : Stmt := top 32
abbrev N_run : List Str := ["game", "strategies", "player", "strikes", "name"]
theorem sc_run : FnScope N_run ["game", "strategies"] (defScope s_run) := ⟨rfl, rfl, rfl, by decide +kernel, rfl, by decide +kernel, by decide +kernel⟩
def d_run : DfP := ⟨.g "run", "run", "run", s_run⟩
abbrev s_result_of : Stmt := top 33
abbrev N_result_of : List Str := ["game", "strategies", "name"]
theorem sc_result_of : FnScope N_result_of ["game", "strategies"] (defScope s_result_of) := ⟨rfl, rfl, rfl, by decide +kernel, rfl, by decide +kernel, by decide +kernel⟩
def d_result_of : DfP := ⟨.g "result_of", "result_of", "result_of", s_result_of⟩
abbrev s_law_thirty : Stmt := top 56
abbrev N_law_thirty : List Str := ["_law_stream_here", "_law_names_here", "_law_first", "_law_second", "_law_players_here", "_law_rankings", "_law_player", "_law_turn"]
theorem sc_law_thirty : FnScope N_law_thirty ["_law_stream_here"] (defScope s_law_thirty) := ⟨rfl, rfl, rfl, by decide +kernel, rfl, by decide +kernel, by decide +kernel⟩
def d_law_thirty : DfP := ⟨.g "_law_thirty", "_law_thirty", "_law_thirty", s_law_thirty⟩
abbrev s_law_many : Stmt := top 57
abbrev N_law_many : List Str := ["_law_turns", "_law_group", "_law_inside", "_law_outside", "_law_player"]
theorem sc_law_many : FnScope N_law_many ["_law_turns", "_law_group", "_law_inside", "_law_outside"] (defScope s_law_many) := ⟨rfl, rfl, rfl, by decide +kernel, rfl, by decide +kernel, by decide +kernel⟩
def d_law_many : DfP := ⟨.g "_law_many", "_law_many", "_law_many", s_law_many⟩
abbrev s_law_safe : Stmt := top 58
abbrev N_law_safe : List Str := ["_law_own_here", "_law_player", "_law_place"]
theorem sc_law_safe : FnScope N_law_safe ["_law_own_here", "_law_player"] (defScope s_law_safe) := ⟨rfl, rfl, rfl, by decide +kernel, rfl, by decide +kernel, by decide +kernel⟩
def d_law_safe : DfP := ⟨.g "_law_safe", "_law_safe", "_law_safe", s_law_safe⟩
abbrev s_law : Stmt := top 59
abbrev N_law : List Str := ["_law_script", "_law_k", "_law_stream_here", "_law_own_here", "_law_game_here", "_law_turn", "_law_group", "_law_target", "_law_many_here", "_law_left", "_law_name", "_law_player"]
theorem sc_law : FnScope N_law ["_law_script"] (defScope s_law) := ⟨rfl, rfl, rfl, by decide +kernel, rfl, by decide +kernel, by decide +kernel⟩
def d_law : DfP := ⟨.g "law", "law", "law", s_law⟩
def dfs : List DfP := ([d_is_name, d_are_names, d_distinct, d_Committee_init, d_Committee_members, d_Committee_len, d_Committee_eq, d_Ranking_init, d_Ranking_alternatives, d_Ranking_len, d_Ranking_contains, d_members_known, d_as_committee, d_Turns_init, d_Turns_players, d_Turns_len, d_Game_first_ranking, d_Game_rankings, d_Game_turns, d_Game_alternatives, d_Game_ranking_of, d_Game_check_turns, d_check_rankings, d_Game_init, d_check_group] : List DfP) ++ ([d_number_left, d_safe_place, d_law_stream, d_law_draw, d_law_shuffled, d_law_players, d_law_names, d_law_own, d_law_game, d_law_all, d_is_number, d_Committee_and, d_Committee_sub, d_Ranking_sub, d_Ranking_and, d_Turns_getitem, d_Turns_counts, d_Game_mover, d_Committee_contains, d_Game_restricted, d_Game_after, d_check_turn, d_Striker_init, d_Keeper_init, d_Striker_choice] : List DfP) ++ ([d_Keeper_choice, d_Strategy_call_at_Striker, d_Strategy_call_at_Keeper, d_side_strategies, d_can_strike_out, d_run, d_result_of, d_law_thirty, d_law_many, d_law_safe, d_law] : List DfP)
def fcs : List Fc := ([.a (.free "isinstance"), .a (.free "str"), .a (.free "len"), .a (.free "all"), .a (.free "list"), .a (.glo "is_name"), .a (.free "sorted"), .a (.glo "are_names"), .a (.glo "distinct"), .a (.cls "Committee"), .a (.noat "Committee" "own_members"), .a (.glo "Committee"), .a (.int "MAX_LETTERS" 8), .a (.str "LETTERS" "abcdefghijklmnopqrstuvwxyz"), .a (.int "MAX_NAMES" 30), .a (.cls "Ranking"), .a (.noat "Ranking" "order"), .a (.free "enumerate"), .a (.noat "Ranking" "places"), .prop "Committee" "members", .a (.meth "Ranking" "__contains__"), .a (.mkr "Committee"), .prop "Ranking" "alternatives", .a (.cls "Turns"), .a (.noat "Turns" "order")] : List Fc) ++ ([.a (.cls "Game"), .a (.noat "Game" "own_rankings"), .a (.free "dict"), .a (.noat "Game" "own_turns"), .a (.glo "as_committee"), .a (.meth "Game" "first_ranking"), .a (.glo "Turns"), .a (.meth "Turns" "__len__"), .a (.meth "Ranking" "__len__"), .prop "Turns" "players", .a (.glo "Ranking"), .a (.meth "Committee" "__eq__"), .a (.glo "check_rankings"), .a (.meth "Game" "check_turns"), .prop "Game" "rankings", .a (.glo "members_known"), .a (.glo "check_group"), .prop "Game" "turns", .prop "Game" "alternatives", .a (.meth "Committee" "__len__"), .a (.free "max"), .a (.meth "Game" "ranking_of"), .a (.free "range"), .a (.glo "number_left"), .a (.free "int")] : List Fc) ++ ([.a (.glo "_law_draw"), .a (.glo "_law_shuffled"), .a (.glo "_law_players"), .a (.glo "_law_names"), .a (.mkr "Game"), .a (.glo "Game"), .a (.mkr "Turns"), .a (.mkr "Ranking"), .a (.free "bool"), .a (.glo "is_number"), .a (.meth "Turns" "__getitem__"), .fnin "Turns" "__getitem__", .a (.meth "Ranking" "__sub__"), .bin2 "Ranking" "Committee" "sub", .a (.meth "Game" "restricted"), .a (.cls "Striker"), .a (.noat "Striker" "own_target"), .a (.cls "Keeper"), .a (.noat "Keeper" "own_target"), .a (.meth "Committee" "__and__"), .first "Committee", .a (.meth "Committee" "__sub__"), .a (.glo "check_turn"), .a (.meth "Striker" "choice"), .a (.meth "Keeper" "choice")] : List Fc) ++ ([.a (.mkr "Striker"), .a (.glo "Striker"), .a (.mkr "Keeper"), .a (.glo "Keeper"), .a (.meth "Turns" "counts"), .prop "Game" "mover", .callo "Striker" "Strategy", .callo "Keeper" "Strategy", .a (.meth "Committee" "__contains__"), .a (.meth "Game" "after"), .a (.glo "run"), .a (.glo "_law_many"), .a (.free "min"), .a (.glo "_law_stream"), .a (.glo "_law_thirty"), .a (.glo "_law_game"), .a (.glo "_law_all"), .a (.glo "can_strike_out"), .a (.glo "result_of"), .a (.glo "side_strategies"), .a (.glo "safe_place"), .a (.glo "_law_safe"), .a (.glo "law"), .kit (.ty "str") (.ty "str") true, .kit (.ty "int") (.ty "int") true] : List Fc) ++ ([.kit (.ty "list") (.ty "list") true, .kit (.ty "dict") (.ty "dict") true, .kit (.own "Committee") (.own "Committee") true, .kit (.own "Ranking") (.own "Ranking") true, .kit (.own "Turns") (.own "Turns") true, .kit (.own "Game") (.own "Game") true, .kit (.ty "int") (.ty "bool") false, .kit (.ty "bool") (.ty "int") true, .kit (.ty "bool") (.ty "bool") true, .ins "Committee", .ins "Game", .ins "Ranking", .ins "Turns"] : List Fc)
end Fw

set_option maxHeartbeats 0
/-! The top's run, and the end. -/
namespace Fw
open PySem PySem.Spec PyProof.Rows L2
abbrev Rw : PySem.W.OpenRow := PySem.W.OpenLaw.row PySem.Challenge.rw_fewleft_k69_whole_groups_in_large_games
abbrev hk : PySem.W.Hook := hookP 5 fcs dfs
def ob (s : PySem.W.SharedT) : AlP := obsPG 5 fcs dfs (HandSHeadRun.getT s)
theorem ob_eq (s : PySem.W.SharedT) : ob s = hk.obs s.abs := obsPG_eq (HandSHeadRun.getT_eq s)
def loose : List PySem.Str := (["_wall", "StrikeError", "InvalidRanking", "InvalidCommittee", "InvalidTurns", "InvalidGame", "InvalidGroup", "UnknownName", "NoPlace", "GameOver", "InvalidStrike", "LETTERS", "MAX_LETTERS", "MAX_NAMES", "is_name", "are_names", "is_number", "distinct", "Committee", "Ranking"] : List PySem.Str) ++ (["members_known", "as_committee", "Turns", "check_turn", "Strategy", "run", "result_of", "check_group", "number_left", "can_strike_out", "Striker", "Keeper", "side_strategies", "safe_place", "check_rankings", "Game", "_law_stream", "_law_draw", "_law_shuffled", "_law_players"] : List PySem.Str) ++ (["_law_names", "_law_own", "_law_game", "_law_worst", "_law_pass", "_law_all", "_law_thirty", "_law_many", "_law_safe"] : List PySem.Str)
theorem obs_join {n : Nat} {fc : List Fc} {ds : List DfP} {g : Addr → Option Obj} (h1 : obsPG n fc [] g = valP []) (h2 : obsPG n [] ds g = valP ds) : obsPG n fc ds g = valP ds := by
  unfold obsPG obsP valP at *
  have e1 := (Prod.mk.injEq _ _ _ _).mp h1
  have e2 := (Prod.mk.injEq _ _ _ _).mp h2
  have a1 := (He.ba e1.1).1
  have a2 := (He.ba e2.1).2
  exact Prod.ext (by show (_ && _) = true; rw [a1, a2]; rfl) e2.2
theorem run_f (w : World) : HandSHeadRun.RunEq Rw (PySem.W.view Rw.prog [59]) (hookP 5 fcs []) (fun s => obsPG 5 fcs [] (HandSHeadRun.getT s)) 20000 loose w := by
  intro os
  kernel_rfl
theorem run_d (w : World) : HandSHeadRun.RunEq Rw (PySem.W.view Rw.prog [59]) (hookP 5 [] dfs) (fun s => obsPG 5 [] dfs (HandSHeadRun.getT s)) 20000 loose w := by
  intro os
  kernel_rfl
theorem opt_join {σ α β γ : Type} {o : Option σ} {f : σ → α} {f2 : σ → β} {a1 : σ → γ} {a2 : σ → γ} {a3 : σ → γ} {x : α} {y : β} {u v z : γ} (h1 : o.map (fun s => (f s, f2 s, a1 s)) = some (x, y, u)) (h2 : o.map (fun s => (f s, f2 s, a2 s)) = some (x, y, v)) (j : ∀ s, a1 s = u → a2 s = v → a3 s = z) :
    o.map (fun s => (f s, f2 s, a3 s)) = some (x, y, z) := by
  cases o with
  | none => cases h1
  | some s =>
    have e1 := Option.some.inj h1
    have e2 := Option.some.inj h2
    have b1 := (Prod.mk.injEq _ _ _ _).mp e1
    have b2 := (Prod.mk.injEq _ _ _ _).mp b1.2
    have c1 := (Prod.mk.injEq _ _ _ _).mp e2
    have c2 := (Prod.mk.injEq _ _ _ _).mp c1.2
    show some (f s, f2 s, a3 s) = _
    rw [b1.1, b2.1, j s b2.2 c2.2]
theorem run (w : World) : HandSHeadRun.RunEq Rw (PySem.W.view Rw.prog [59]) hk ob 20000 loose w := fun os =>
  opt_join (run_f w os) (run_d w os) fun s h1 h2 => obs_join h1 h2
end Fw

set_option maxHeartbeats 4000000
/-! The data layer: what a Python value is as a datum, what stands in the heap for it. -/
namespace Fw
open PySem PySem.Spec PyProof.Rows L2

/-- a datum -/
inductive D where
  | non | bl (b : Bool) | int (i : Int) | str (s : Str) | ty (n : String)
  | glo (x : Str)
  | lst (xs : List D) | tup (xs : List D) | dic (kvs : List (Key × D)) | obj (c : Str) (fs : List (Str × D))
  | stm | scr (ns : List Int)

/-- the stream: a list of two bounded ints, whatever they are -/
def StmB (a b : Int) : Prop := 0 ≤ a ∧ 0 ≤ b ∧ b < 2147483647
def stmO (a : Addr) : HO := .ext fun h => ∃ (i j : Int) (t u : Tok) (n : Nat), StmB i j ∧ h.get? a = some { cls := .type "list", data := .seq #[.int i t, .int j u] n }

/-- a list of the written part -/
def KL (K : PySem.W.Frag) (a : Addr) (xs : List V) : Prop := ∃ (o : Obj) (its : Array Value) (n : Nat), K.lookup a = some o ∧ o.cls = .type "list" ∧ o.dict = none ∧ o.data = .seq its n ∧ its.size ≤ sizeLine ∧ Vals xs its.toList
section
variable (K : PySem.W.Frag) (S : Addr → Prop) (H : Hp)
mutual
inductive Rep : V → D → Prop where
  | non : Rep .non .non
  | bl (b : Bool) : Rep (.bl b) (.bl b)
  | int (i : Int) : Rep (.int i) (.int i)
  | str (s : Str) : Rep (.str s) (.str s)
  | ty (n : String) : Rep (.ty n) (.ty n)
  | glo (x : Str) : Rep (.ref (He.ga K x)) (.glo x)
  | lst {a : Addr} {vs : List V} {ds : List D} (n : ¬ S a) (h : H a = some (.lst vs)) (r : Reps vs ds) : Rep (.ref a) (.lst ds)
  | tup {a : Addr} {vs : List V} {ds : List D} (n : ¬ S a) (h : H a = some (.tup vs)) (r : Reps vs ds) : Rep (.ref a) (.tup ds)
  | dic {a : Addr} {kvs : List (Key × V)} {ds : List (Key × D)} (n : ¬ S a) (h : Rd H a (.dK kvs)) (e : kvs.map Prod.fst = ds.map Prod.fst) (r : Reps (kvs.map Prod.snd) (ds.map Prod.snd)) : Rep (.ref a) (.dic ds)
  | obj {a dx : Addr} {c : Str} {fs : List (Str × V)} {ds : List (Str × D)} (n : ¬ S a) (h : H a = some (.ins (He.ga K c) dx fs)) (e : fs.map Prod.fst = ds.map Prod.fst) (r : Reps (fs.map Prod.snd) (ds.map Prod.snd)) : Rep (.ref a) (.obj c ds)
  | stm {a : Addr} (n : ¬ S a) (h : H a = some (stmO a)) : Rep (.ref a) .stm
  | scr {a : Addr} {ns : List Int} (n : ¬ S a) (h : Rd H a (.lst (ns.map V.int))) : Rep (.ref a) (.scr ns)
  | scrK {a : Addr} {ns : List Int} (h : KL K a (ns.map V.int)) : Rep (.ref a) (.scr ns)
inductive Reps : List V → List D → Prop where
  | nil : Reps [] []
  | cons {v : V} {d : D} {vs : List V} {ds : List D} (h : Rep v d) (t : Reps vs ds) : Reps (v :: vs) (d :: ds)
end
end

/-! ### heaps that grow -/
/-- objects that never change their description -/
def Solid : HO → Prop
  | .dK _ => False
  | .frz _ (.dK _) => False
  | _ => True
def LeX (S : Addr → Prop) (H H' : Hp) : Prop := ∀ a, ¬ S a → (∀ u, Solid u → H a = some u → H' a = some u) ∧ (∀ kvs, Rd H a (.dK kvs) → Rd H' a (.dK kvs))
abbrev Le (H H' : Hp) : Prop := LeX (fun _ => False) H H'
theorem LeX.rfl' {S : Addr → Prop} {H : Hp} : LeX S H H := fun _ _ => ⟨fun _ _ h => h, fun _ h => h⟩
theorem LeX.trans {S : Addr → Prop} {H H1 H2 : Hp} (a : LeX S H H1) (b : LeX S H1 H2) : LeX S H H2 := fun c n => ⟨fun u s h => (b c n).1 u s ((a c n).1 u s h), fun k h => (b c n).2 k ((a c n).2 k h)⟩
theorem LeX.weak {S T : Addr → Prop} {H H' : Hp} (h : LeX S H H') (s : ∀ a, S a → T a) : LeX T H H' := fun a n => h a fun z => n (s a z)
theorem Le.x {S : Addr → Prop} {H H' : Hp} (h : Le H H') : LeX S H H' := h.weak fun _ z => z.elim
theorem Le.of_same {H H' : Hp} (h : Same H H') : Le H H' := fun a _ => ⟨fun u _ e => h a u e, fun k r => by
  rcases r with r | ⟨o, r⟩
  · exact .inl (h a _ r)
  · exact .inr ⟨o, h a _ r⟩⟩
theorem Le.upd {H : Hp} {p : Addr} {o : HO} (h : H p = none) : Le H (upd H p o) := Le.of_same fun b u e => by
  rw [upd_ne (ne_of_none e h)]; exact e
theorem LeX.free {S : Addr → Prop} {H H' : Hp} (l : LeX S H H') {p : Addr} (n : ¬ S p) (h : H' p = none) : H p = none := by
  cases e : H p with
  | none => rfl
  | some u =>
    exfalso
    by_cases s : Solid u
    · have := (l p n).1 u s e
      rw [h] at this; cases this
    · have rd : ∃ kvs, Rd H p (.dK kvs) := by
        cases u with
        | dK kvs => exact ⟨kvs, .inl e⟩
        | frz o w =>
          cases w with
          | dK kvs => exact ⟨kvs, .inr ⟨o, e⟩⟩
          | _ => exact absurd trivial s
        | _ => exact absurd trivial s
      obtain ⟨kvs, r⟩ := rd
      rcases (l p n).2 kvs r with r | ⟨o, r⟩
      · rw [h] at r; cases r
      · rw [h] at r; cases r
theorem Le.free {H H' : Hp} (l : Le H H') {p : Addr} (h : H' p = none) : H p = none := LeX.free l (fun z => z) h
/-- an owned thing is changed -/
theorem LeX.put {S : Addr → Prop} {H : Hp} {p : Addr} {o : HO} (s : S p) : LeX S H (upd H p o) := fun a n => by
  have e : upd H p o a = H a := upd_ne fun z => n (z ▸ s)
  exact ⟨fun u _ h => e.trans h, fun k h => by
    rcases h with h | ⟨o', h⟩
    · exact .inl (e.trans h)
    · exact .inr ⟨o', e.trans h⟩⟩

theorem Rd.lex {S : Addr → Prop} {H H' : Hp} {a : Addr} {xs : List V} (l : LeX S H H') (n : ¬ S a) (h : Rd H a (.lst xs)) : Rd H' a (.lst xs) := by
  rcases h with h | ⟨o, h⟩
  · exact .inl ((l a n).1 _ trivial h)
  · exact .inr ⟨o, (l a n).1 _ trivial h⟩
section
variable {K : PySem.W.Frag} {S T : Addr → Prop} {H H' : Hp}
mutual
theorem Rep.mono {v : V} {d : D} (l : LeX S H H') : Rep K S H v d → Rep K S H' v d
  | .non => .non
  | .bl b => .bl b
  | .int i => .int i
  | .str s => .str s
  | .ty n => .ty n
  | .glo x => .glo x
  | .lst n h r => .lst n ((l _ n).1 _ trivial h) (Reps.mono l r)
  | .tup n h r => .tup n ((l _ n).1 _ trivial h) (Reps.mono l r)
  | .dic n h e r => .dic n ((l _ n).2 _ h) e (Reps.mono l r)
  | .obj n h e r => .obj n ((l _ n).1 _ trivial h) e (Reps.mono l r)
  | .stm n h => .stm n ((l _ n).1 _ trivial h)
  | .scr n h => .scr n (Rd.lex l n h)
  | .scrK h => .scrK h
theorem Reps.mono {vs : List V} {ds : List D} (l : LeX S H H') : Reps K S H vs ds → Reps K S H' vs ds
  | .nil => .nil
  | .cons h t => .cons (Rep.mono l h) (Reps.mono l t)
end
mutual
theorem Rep.weak {v : V} {d : D} (s : ∀ a, T a → S a) : Rep K S H v d → Rep K T H v d
  | .non => .non
  | .bl b => .bl b
  | .int i => .int i
  | .str s => .str s
  | .ty n => .ty n
  | .glo x => .glo x
  | .lst n h r => .lst (fun z => n (s _ z)) h (Reps.weak s r)
  | .tup n h r => .tup (fun z => n (s _ z)) h (Reps.weak s r)
  | .dic n h e r => .dic (fun z => n (s _ z)) h e (Reps.weak s r)
  | .obj n h e r => .obj (fun z => n (s _ z)) h e (Reps.weak s r)
  | .stm n h => .stm (fun z => n (s _ z)) h
  | .scr n h => .scr (fun z => n (s _ z)) h
  | .scrK h => .scrK h
theorem Reps.weak {vs : List V} {ds : List D} (s : ∀ a, T a → S a) : Reps K S H vs ds → Reps K T H vs ds
  | .nil => .nil
  | .cons h t => .cons (Rep.weak s h) (Reps.weak s t)
end
end
end Fw

set_option maxHeartbeats 4000000
/-! The data calculus: what a reading gives, told of data alone. -/
namespace Fw
open PySem PySem.Spec PyProof.Rows L2

/-! ### all but what is owned stands -/
def SameX (S : Addr → Prop) (H H' : Hp) : Prop := ∀ a, ¬ S a → ∀ u, H a = some u → H' a = some u
theorem SameX.lex {S : Addr → Prop} {H H' : Hp} (h : SameX S H H') : LeX S H H' := fun a n => ⟨fun u _ e => h a n u e, fun k r => by
  rcases r with r | ⟨o, r⟩
  · exact .inl (h a n _ r)
  · exact .inr ⟨o, h a n _ r⟩⟩
theorem SameX.rfl' {S : Addr → Prop} {H : Hp} : SameX S H H := fun _ _ _ h => h
theorem Same.sx {S : Addr → Prop} {H H' : Hp} (h : Same H H') : SameX S H H' := fun a _ u e => h a u e
theorem Same.lex {S : Addr → Prop} {H H' : Hp} (h : Same H H') : LeX S H H' := (Same.sx h).lex
theorem Same.put {H : Hp} {p : Addr} {o : HO} (h : H p = none) : Same H (upd H p o) := fun b u e => by rw [upd_ne (ne_of_none e h)]; exact e

section
variable {K : PySem.W.Frag} {S T : Addr → Prop} {H H' : Hp}
theorem Rep.same {v : V} {d : D} (r : Rep K S H v d) (s : Same H H') : Rep K S H' v d := Rep.mono (Same.lex s) r
theorem Reps.same {v : List V} {d : List D} (r : Reps K S H v d) (s : Same H H') : Reps K S H' v d := Reps.mono (Same.lex s) r
mutual
/-- what is not there is not in it -/
theorem Rep.avoid {v : V} {d : D} (s : ∀ a, T a → S a ∨ H a = none) : Rep K S H v d → Rep K T H v d
  | .non => .non
  | .bl b => .bl b
  | .int i => .int i
  | .str s => .str s
  | .ty n => .ty n
  | .glo x => .glo x
  | .lst n h r => .lst (fun z => (s _ z).elim n fun q => by rw [h] at q; cases q) h (Reps.avoid s r)
  | .tup n h r => .tup (fun z => (s _ z).elim n fun q => by rw [h] at q; cases q) h (Reps.avoid s r)
  | .dic n h e r => .dic (fun z => (s _ z).elim n fun q => by rcases h with h | ⟨_, h⟩ <;> (rw [h] at q; cases q)) h e (Reps.avoid s r)
  | .obj n h e r => .obj (fun z => (s _ z).elim n fun q => by rw [h] at q; cases q) h e (Reps.avoid s r)
  | .stm n h => .stm (fun z => (s _ z).elim n fun q => by rw [h] at q; cases q) h
  | .scr n h => .scr (fun z => (s _ z).elim n fun q => by rcases h with h | ⟨_, h⟩ <;> (rw [h] at q; cases q)) h
  | .scrK h => .scrK h
theorem Reps.avoid {vs : List V} {ds : List D} (s : ∀ a, T a → S a ∨ H a = none) : Reps K S H vs ds → Reps K T H vs ds
  | .nil => .nil
  | .cons h t => .cons (Rep.avoid s h) (Reps.avoid s t)
end
theorem Reps.length {vs : List V} {ds : List D} : Reps K S H vs ds → vs.length = ds.length
  | .nil => rfl
  | .cons _ t => congrArg Nat.succ (Reps.length t)
theorem Reps.get {vs : List V} {ds : List D} : ∀ {i : Nat} {v : V}, Reps K S H vs ds → vs[i]? = some v → ∃ d, ds[i]? = some d ∧ Rep K S H v d
  | _, _, .nil, e => by simp at e
  | 0, _, .cons h _, e => by simp at e; subst e; exact ⟨_, rfl, h⟩
  | i + 1, _, .cons _ t, e => by
    obtain ⟨d, h1, h2⟩ := Reps.get (i := i) t (by simpa using e)
    exact ⟨d, by simpa using h1, h2⟩
theorem Reps.get' {vs : List V} {ds : List D} : ∀ {i : Nat} {d : D}, Reps K S H vs ds → ds[i]? = some d → ∃ v, vs[i]? = some v ∧ Rep K S H v d
  | _, _, .nil, e => by simp at e
  | 0, _, .cons h _, e => by simp at e; subst e; exact ⟨_, rfl, h⟩
  | i + 1, _, .cons _ t, e => by
    obtain ⟨d, h1, h2⟩ := Reps.get' (i := i) t (by simpa using e)
    exact ⟨d, by simpa using h1, h2⟩
theorem Reps.append {vs ws : List V} {ds es : List D} : Reps K S H vs ds → Reps K S H ws es → Reps K S H (vs ++ ws) (ds ++ es)
  | .nil, t => t
  | .cons h r, t => .cons h (Reps.append r t)
theorem Reps.set {v : V} {d : D} (h : Rep K S H v d) : ∀ {vs : List V} {ds : List D} (i : Nat), Reps K S H vs ds → Reps K S H (vs.set i v) (ds.set i d)
  | _, _, _, .nil => .nil
  | _, _, 0, .cons _ t => .cons h t
  | _, _, i + 1, .cons q t => .cons q (Reps.set h i t)
theorem Reps.take {vs : List V} {ds : List D} : ∀ (n : Nat), Reps K S H vs ds → Reps K S H (vs.take n) (ds.take n)
  | 0, _ => .nil
  | _ + 1, .nil => .nil
  | n + 1, .cons r t => .cons r (Reps.take n t)
theorem Reps.drop {vs : List V} {ds : List D} : ∀ (n : Nat), Reps K S H vs ds → Reps K S H (vs.drop n) (ds.drop n)
  | 0, r => r
  | _ + 1, .nil => .nil
  | n + 1, .cons r t => Reps.drop n t
theorem Reps.erase {vs : List V} {ds : List D} : ∀ (n : Nat), Reps K S H vs ds → Reps K S H (vs.eraseIdx n) (ds.eraseIdx n)
  | _, .nil => .nil
  | 0, .cons _ t => t
  | n + 1, .cons r t => .cons r (Reps.erase n t)
theorem Reps.dropLast {vs : List V} {ds : List D} (r : Reps K S H vs ds) : Reps K S H vs.dropLast ds.dropLast := by
  rw [List.dropLast_eq_take, List.dropLast_eq_take, r.length]; exact r.take _
theorem Reps.reverse {vs : List V} {ds : List D} : Reps K S H vs ds → Reps K S H vs.reverse ds.reverse
  | .nil => .nil
  | .cons r t => by rw [List.reverse_cons, List.reverse_cons]; exact (Reps.reverse t).append (.cons r .nil)
theorem Reps.strs {vs : List V} {ss : List Str} (r : Reps K S H vs (ss.map D.str)) : vs = ss.map V.str := by
  induction ss generalizing vs with
  | nil => cases r; rfl
  | cons s ss ih => cases r with | cons h t => cases h; rw [ih t]; rfl
theorem Reps.ints {vs : List V} {ss : List Int} (r : Reps K S H vs (ss.map D.int)) : vs = ss.map V.int := by
  induction ss generalizing vs with
  | nil => cases r; rfl
  | cons s ss ih => cases r with | cons h t => cases h; rw [ih t]; rfl
theorem Reps.bls {vs : List V} {ss : List Bool} (r : Reps K S H vs (ss.map D.bl)) : vs = ss.map V.bl := by
  induction ss generalizing vs with
  | nil => cases r; rfl
  | cons s ss ih => cases r with | cons h t => cases h; rw [ih t]; rfl
theorem reps_strs (ss : List Str) : Reps K S H (ss.map V.str) (ss.map D.str) := by
  induction ss with
  | nil => exact .nil
  | cons s ss ih => exact .cons (.str s) ih
theorem reps_ints (ss : List Int) : Reps K S H (ss.map V.int) (ss.map D.int) := by
  induction ss with
  | nil => exact .nil
  | cons s ss ih => exact .cons (.int s) ih
theorem reps_bls (ss : List Bool) : Reps K S H (ss.map V.bl) (ss.map D.bl) := by
  induction ss with
  | nil => exact .nil
  | cons s ss ih => exact .cons (.bl s) ih
end

/-! ### what is owned -/
inductive Ow where
  | lst (xs : List D) | dic (kvs : List (Key × D)) | obj (c : Str) (fs : List (Str × D)) | slf (a : Addr) (c : Str) (fs : List (Str × D))
def Ow.d : Ow → D
  | .lst xs => .lst xs
  | .dic kvs => .dic kvs
  | .obj c fs => .obj c fs
  | .slf _ c fs => .obj c fs
section
variable (K : PySem.W.Frag)
def OwnAt (S : Addr → Prop) (H : Hp) (a : Addr) : Ow → Prop
  | .lst ds => ∃ vs, H a = some (.lst vs) ∧ Reps K S H vs ds
  | .dic ds => ∃ kvs : List (Key × V), H a = some (.dK kvs) ∧ kvs.map Prod.fst = ds.map Prod.fst ∧ Reps K S H (kvs.map Prod.snd) (ds.map Prod.snd)
  | .obj c ds => ∃ (dx : Addr) (fs : List (Str × V)), H a = some (.ins (He.ga K c) dx fs) ∧ fs.map Prod.fst = ds.map Prod.fst ∧ Reps K S H (fs.map Prod.snd) (ds.map Prod.snd)
  | .slf a' c ds => a = a' ∧ ∃ (dx : Addr) (fs : List (Str × V)), H a = some (.ins (He.ga K c) dx fs) ∧ fs.map Prod.fst = ds.map Prod.fst ∧ Reps K S H (fs.map Prod.snd) (ds.map Prod.snd)
abbrev OL := List (Nat × Ow)
abbrev OLa := List (Addr × Nat × Ow)
abbrev Gm := List (Option D)
def W (Os : OLa) : Addr → Prop := fun b => b ∈ Os.map (·.1)
def SO (S0 : Addr → Prop) (Os : OLa) : Addr → Prop := fun b => S0 b ∨ W Os b
def RE (S : Addr → Prop) (H : Hp) (σ : L2.St) (G : Gm) : Prop := ∀ (i : Nat) (d : D), G[i]? = some (some d) → ∃ v, σ[i]? = some (some v) ∧ Rep K S H v d
structure St1 (S0 : Addr → Prop) (G : Gm) (O : OL) (Os : OLa) (σ : L2.St) (H : Hp) : Prop where
  os : Os.map (·.2) = O
  nd : (Os.map (·.1)).Nodup
  dom : ∀ a, S0 a → H a ≠ none
  ns : ∀ a, W Os a → ¬ S0 a
  len : σ.length = G.length
  re : RE K (SO S0 Os) H σ G
  own : ∀ p ∈ Os, σ[p.2.1]? = some (some (.ref p.1)) ∧ OwnAt K (SO S0 Os) H p.1 p.2.2
end
section
variable {K : PySem.W.Frag} {S T S0 : Addr → Prop} {H H' : Hp} {G : Gm} {O : OL} {Os : OLa} {σ : L2.St}
theorem OwnAt.there {a : Addr} {o : Ow} (h : OwnAt K S H a o) : H a ≠ none := by
  cases o with
  | lst ds => obtain ⟨vs, e, _⟩ := h; rw [e]; simp
  | dic ds => obtain ⟨vs, e, _⟩ := h; rw [e]; simp
  | obj c ds => obtain ⟨dx, fs, e, _⟩ := h; rw [e]; simp
  | slf _ c ds => obtain ⟨ea, dx, fs, e, _⟩ := h; rw [e]; simp
theorem OwnAt.same {a : Addr} {o : Ow} (h : OwnAt K S H a o) (s : Same H H') : OwnAt K S H' a o := by
  cases o with
  | lst ds => obtain ⟨vs, e, r⟩ := h; exact ⟨vs, s _ _ e, r.same s⟩
  | dic ds => obtain ⟨vs, e, q, r⟩ := h; exact ⟨vs, s _ _ e, q, r.same s⟩
  | obj c ds => obtain ⟨dx, fs, e, q, r⟩ := h; exact ⟨dx, fs, s _ _ e, q, r.same s⟩
  | slf _ c ds => obtain ⟨ea, dx, fs, e, q, r⟩ := h; exact ⟨ea, dx, fs, s _ _ e, q, r.same s⟩
theorem St1.domW (h : St1 K S0 G O Os σ H) : ∀ a, SO S0 Os a → H a ≠ none := fun a ha => by
  rcases ha with ha | ha
  · exact h.dom a ha
  · obtain ⟨p, hp, e⟩ := List.mem_map.mp ha
    rw [← e]; exact (h.own p hp).2.there
theorem St1.same (h : St1 K S0 G O Os σ H) (s : Same H H') : St1 K S0 G O Os σ H' where
  os := h.os
  nd := h.nd
  dom := fun a ha => fun z => h.dom a ha (s.free z)
  ns := h.ns
  len := h.len
  re := fun i d e => let ⟨v, e1, r⟩ := h.re i d e; ⟨v, e1, r.same s⟩
  own := fun p hp => ⟨(h.own p hp).1, (h.own p hp).2.same s⟩
theorem St1.set (h : St1 K S0 G O Os σ H) {i : Nat} {v : V} {d : D} (r : Rep K (SO S0 Os) H v d) (hi : ∀ o ∈ O, o.1 ≠ i) : St1 K S0 (G.set i (some d)) O Os (σ.set i (some v)) H where
  os := h.os
  nd := h.nd
  dom := h.dom
  ns := h.ns
  len := by rw [List.length_set, List.length_set]; exact h.len
  re := fun j e q => by
    by_cases hj : i = j
    · subst hj
      by_cases hl : i < G.length
      · rw [List.getElem?_set_self hl] at q
        cases q
        exact ⟨v, by rw [List.getElem?_set_self (by rw [h.len]; exact hl)], r⟩
      · rw [List.getElem?_eq_none (by simpa using hl)] at q; cases q
    · rw [List.getElem?_set_ne hj] at q
      obtain ⟨w, e1, r1⟩ := h.re j e q
      exact ⟨w, by rw [List.getElem?_set_ne hj]; exact e1, r1⟩
  own := fun p hp => by
    have hne : i ≠ p.2.1 := fun z => hi p.2 (by rw [← h.os]; exact List.mem_map_of_mem hp) z.symm
    exact ⟨by rw [List.getElem?_set_ne hne]; exact (h.own p hp).1, (h.own p hp).2⟩
end

/-! ### exceptions as data -/
structure Xd where
  cls : Str
  arg : Option (Str × D) := none
def RepX (K : PySem.W.Frag) (S : Addr → Prop) (H : Hp) (cls : Value) (dd : Option Addr) (x : Xd) : Prop :=
  cls = .ref (He.ga K x.cls) ∧ match x.arg with
    | none => dd = none
    | some (f, d) => ∃ (p : Addr) (v : V), dd = some p ∧ H p = some (.xd [(f, v)]) ∧ Rep K S H v d
def EOk (K : PySem.W.Frag) (S : Addr → Prop) (H : Hp) (E : XK) (ke : Xd → Prop) : Prop := ∀ (cls : Value) (dd : Option Addr) (H' : Hp) (x : Xd), ke x → Same H H' → RepX K S H' cls dd x → E cls dd H'
theorem EOk.same {K : PySem.W.Frag} {S : Addr → Prop} {H H' : Hp} {E : XK} {ke : Xd → Prop} (h : EOk K S H E ke) (s : Same H H') : EOk K S H' E ke := fun c d H2 x k l r => h c d H2 x k (s.trans l) r

/-! ### judgements -/
section
variable (K : PySem.W.Frag) (E : XK)
def DT (t : TE) (G : Gm) (O : OL) (k : D → Prop) (ke : Xd → Prop) : Prop := ∀ (S0 : Addr → Prop) (Os : OLa) (σ : L2.St) (H : Hp) (Q : VK), St1 K S0 G O Os σ H →
  (∀ v H' d, k d → Same H H' → Rep K (SO S0 Os) H' v d → Q v H') → EOk K (SO S0 Os) H E ke → t σ H Q
def DTT (t : TT) (G : Gm) (O : OL) (k : Bool → Prop) (ke : Xd → Prop) : Prop := ∀ (S0 : Addr → Prop) (Os : OLa) (σ : L2.St) (H : Hp) (Q : Bool → Hp → Prop), St1 K S0 G O Os σ H →
  (∀ b H', k b → Same H H' → Q b H') → EOk K (SO S0 Os) H E ke → t σ H Q
def DA (t : TA) (G : Gm) (O : OL) (k : List D → Prop) (ke : Xd → Prop) : Prop := ∀ (S0 : Addr → Prop) (Os : OLa) (σ : L2.St) (H : Hp) (Q : List V → Hp → Prop), St1 K S0 G O Os σ H →
  (∀ vs H' ds, k ds → Same H H' → Reps K (SO S0 Os) H' vs ds → Q vs H') → EOk K (SO S0 Os) H E ke → t σ H Q
/-- a new thing, not yet anybody's -/
def DF (t : TE) (G : Gm) (O : OL) (k : Ow → Prop) (ke : Xd → Prop) : Prop := ∀ (S0 : Addr → Prop) (Os : OLa) (σ : L2.St) (H : Hp) (Q : VK), St1 K S0 G O Os σ H →
  (∀ p H' o, k o → Same H H' → H p = none → OwnAt K (fun b => SO S0 Os b ∨ b = p) H' p o → Q (.ref p) H') → EOk K (SO S0 Os) H E ke → t σ H Q
end
section
variable {K : PySem.W.Frag} {E : XK} {G : Gm} {O : OL} {ke : Xd → Prop}

theorem dt_var {i : Nat} {d : D} {k : D → Prop} (h : G[i]? = some (some d)) (q : k d) : DT K E (tVar i) G O k ke := fun S0 Os σ H Q st hq _ => by
  obtain ⟨v, e, r⟩ := st.re i d h
  exact ⟨v, e, hq v H d q (Same.refl H) r⟩
theorem dt_int {i : Int} {k : D → Prop} (q : k (.int i)) : DT K E (tC (.int i)) G O k ke := fun S0 Os σ H Q st hq _ => hq _ H _ q (Same.refl H) (.int i)
theorem dt_str {i : Str} {k : D → Prop} (q : k (.str i)) : DT K E (tC (.str i)) G O k ke := fun S0 Os σ H Q st hq _ => hq _ H _ q (Same.refl H) (.str i)
theorem dt_bl {i : Bool} {k : D → Prop} (q : k (.bl i)) : DT K E (tC (.bl i)) G O k ke := fun S0 Os σ H Q st hq _ => hq _ H _ q (Same.refl H) (.bl i)
theorem dt_non {k : D → Prop} (q : k .non) : DT K E (tC .non) G O k ke := fun S0 Os σ H Q st hq _ => hq _ H _ q (Same.refl H) .non
theorem dt_ty {n : String} {k : D → Prop} (q : k (.ty n)) : DT K E (tC (.ty n)) G O k ke := fun S0 Os σ H Q st hq _ => hq _ H _ q (Same.refl H) (.ty n)
theorem dt_glo {x : Str} {k : D → Prop} (q : k (.glo x)) : DT K E (tC (.ref (He.ga K x))) G O k ke := fun S0 Os σ H Q st hq _ => hq _ H _ q (Same.refl H) (.glo x)
theorem DT.imp {t : TE} {k k' : D → Prop} (h : DT K E t G O k ke) (i : ∀ d, k d → k' d) : DT K E t G O k' ke := fun S0 Os σ H Q st hq he => h S0 Os σ H Q st (fun v H' d kd s r => hq v H' d (i d kd) s r) he
theorem DT.bind {t : TE} {k : D → Prop} (h : DT K E t G O k ke) {S0 : Addr → Prop} {Os : OLa} {σ : L2.St} {H : Hp} {Q : VK} (st : St1 K S0 G O Os σ H) (he : EOk K (SO S0 Os) H E ke)
    (hq : ∀ v H' d, k d → Same H H' → St1 K S0 G O Os σ H' → EOk K (SO S0 Os) H' E ke → Rep K (SO S0 Os) H' v d → Q v H') : t σ H Q :=
  h S0 Os σ H Q st (fun v H' d kd s r => hq v H' d kd s (st.same s) (he.same s) r) he
theorem DA.bind {t : TA} {k : List D → Prop} (h : DA K E t G O k ke) {S0 : Addr → Prop} {Os : OLa} {σ : L2.St} {H : Hp} {Q : List V → Hp → Prop} (st : St1 K S0 G O Os σ H) (he : EOk K (SO S0 Os) H E ke)
    (hq : ∀ v H' d, k d → Same H H' → St1 K S0 G O Os σ H' → EOk K (SO S0 Os) H' E ke → Reps K (SO S0 Os) H' v d → Q v H') : t σ H Q :=
  h S0 Os σ H Q st (fun v H' d kd s r => hq v H' d kd s (st.same s) (he.same s) r) he
theorem DTT.bind {t : TT} {k : Bool → Prop} (h : DTT K E t G O k ke) {S0 : Addr → Prop} {Os : OLa} {σ : L2.St} {H : Hp} {Q : Bool → Hp → Prop} (st : St1 K S0 G O Os σ H) (he : EOk K (SO S0 Os) H E ke)
    (hq : ∀ b H', k b → Same H H' → St1 K S0 G O Os σ H' → EOk K (SO S0 Os) H' E ke → Q b H') : t σ H Q :=
  h S0 Os σ H Q st (fun b H' kd s => hq b H' kd s (st.same s) (he.same s)) he

/-! ### operators by values -/
abbrev F2 := D → D → (D → Prop) → Prop
def OpD (K : PySem.W.Frag) (r : R2) (f : F2) : Prop := ∀ (S : Addr → Prop) (H : Hp) (x y : V) (a b : D) (Q : VK) (k : D → Prop), (∀ a, S a → H a ≠ none) → Rep K S H x a → Rep K S H y b → f a b k →
  (∀ v H' d, k d → Same H H' → Rep K S H' v d → Q v H') → r x y H Q
theorem dt_op {r : R2} {f : F2} {ta tb : TE} {k : D → Prop} (hr : OpD K r f) (h : DT K E ta G O (fun a => DT K E tb G O (fun b => f a b k) ke) ke) : DT K E (tOp r ta tb) G O k ke := fun S0 Os σ H Q st hq he =>
  h.bind st he fun x H1 a ha s1 st1 he1 rx => ha.bind st1 he1 fun y H2 b hb s2 st2 he2 ry =>
    hr _ H2 x y a b Q k st2.domW (rx.same s2) ry hb fun v H' d kd s r => hq v H' d kd ((s1.trans s2).trans s) r
abbrev F1 := D → (D → Prop) → Prop
def UnD (K : PySem.W.Frag) (r : V → Hp → VK → Prop) (f : F1) : Prop := ∀ (S : Addr → Prop) (H : Hp) (x : V) (a : D) (Q : VK) (k : D → Prop), (∀ a, S a → H a ≠ none) → Rep K S H x a → f a k →
  (∀ v H' d, k d → Same H H' → Rep K S H' v d → Q v H') → r x H Q
theorem dt_un {r : V → Hp → VK → Prop} {f : F1} {ta : TE} {k : D → Prop} (hr : UnD K r f) (h : DT K E ta G O (fun a => f a k) ke) : DT K E (tUn r ta) G O k ke := fun S0 Os σ H Q st hq he =>
  h.bind st he fun x H1 a ha s1 st1 he1 rx => hr _ H1 x a Q k st1.domW rx ha fun v H' d kd s r => hq v H' d kd (s1.trans s) r
abbrev Fn := List D → (D → Prop) → Prop
def CaD (K : PySem.W.Frag) (r : List V → Hp → VK → Prop) (f : Fn) : Prop := ∀ (S : Addr → Prop) (H : Hp) (xs : List V) (ds : List D) (Q : VK) (k : D → Prop), (∀ a, S a → H a ≠ none) → Reps K S H xs ds → f ds k →
  (∀ v H' d, k d → Same H H' → Rep K S H' v d → Q v H') → r xs H Q
theorem dt_cb {r : List V → Hp → VK → Prop} {f : Fn} {ta : TA} {k : D → Prop} (hr : CaD K r f) (h : DA K E ta G O (fun ds => f ds k) ke) : DT K E (tCB r ta) G O k ke := fun S0 Os σ H Q st hq he =>
  h.bind st he fun xs H1 ds ha s1 st1 he1 rx => hr _ H1 xs ds Q k st1.domW rx ha fun v H' d kd s r => hq v H' d kd (s1.trans s) r
/-- results that are new lists, dicts -/
def CaF (K : PySem.W.Frag) (r : List V → Hp → VK → Prop) (f : List D → (Ow → Prop) → Prop) : Prop := ∀ (S : Addr → Prop) (H : Hp) (xs : List V) (ds : List D) (Q : VK) (k : Ow → Prop), (∀ a, S a → H a ≠ none) → Reps K S H xs ds → f ds k →
  (∀ p H' o, k o → Same H H' → H p = none → OwnAt K (fun b => S b ∨ b = p) H' p o → Q (.ref p) H') → r xs H Q
theorem df_cb {r : List V → Hp → VK → Prop} {f : List D → (Ow → Prop) → Prop} {ta : TA} {k : Ow → Prop} (hr : CaF K r f) (h : DA K E ta G O (fun ds => f ds k) ke) : DF K E (tCB r ta) G O k ke := fun S0 Os σ H Q st hq he =>
  h.bind st he fun xs H1 ds ha s1 st1 he1 rx => hr _ H1 xs ds Q k st1.domW rx ha fun p H' d kd s n r => hq p H' d kd (s1.trans s) (s1.free n) r
theorem OwnAt.rep {S T : Addr → Prop} {H : Hp} {p : Addr} {o : Ow} (h : OwnAt K (fun b => S b ∨ b = p) H p o) (n : ¬ S p) : Rep K S H (.ref p) o.d := by
  cases o with
  | lst ds => obtain ⟨vs, e, r⟩ := h; exact .lst n e (Reps.weak (fun a z => .inl z) r)
  | dic ds => obtain ⟨vs, e, q, r⟩ := h; exact .dic n (.inl e) q (Reps.weak (fun a z => .inl z) r)
  | obj c ds => obtain ⟨dx, fs, e, q, r⟩ := h; exact .obj n e q (Reps.weak (fun a z => .inl z) r)
  | slf _ c ds => obtain ⟨ea, dx, fs, e, q, r⟩ := h; exact .obj n e q (Reps.weak (fun a z => .inl z) r)
theorem DF.dt {t : TE} {k : D → Prop} (h : DF K E t G O (fun o => k o.d) ke) : DT K E t G O k ke := fun S0 Os σ H Q st hq he =>
  h S0 Os σ H Q st (fun p H' o ko s n r => hq _ H' _ ko s (OwnAt.rep (T := fun _ => False) r fun z => (st.domW p z) n)) he
theorem CaF.ca {r : List V → Hp → VK → Prop} {f : List D → (Ow → Prop) → Prop} (h : CaF K r f) : CaD K r (fun ds k => f ds fun o => k o.d) := fun S H xs ds Q k dm rx ha hq =>
  h S H xs ds Q _ dm rx ha fun p H' o ko s n r => hq _ H' _ ko s (OwnAt.rep (T := fun _ => False) r fun z => dm p z n)

/-! ### arguments, displays -/
theorem da_nil {k : List D → Prop} (q : k []) : DA K E tNil G O k ke := fun S0 Os σ H Q st hq _ => hq _ H _ q (Same.refl H) .nil
theorem da_cons {ta : TE} {tr : TA} {k : List D → Prop} (h : DT K E ta G O (fun a => DA K E tr G O (fun ds => k (a :: ds)) ke) ke) : DA K E (tCons ta tr) G O k ke := fun S0 Os σ H Q st hq he =>
  h.bind st he fun x H1 a ha s1 st1 he1 rx => ha.bind st1 he1 fun ys H2 ds hb s2 st2 he2 ry => hq _ H2 _ hb (s1.trans s2) (.cons (rx.same s2) ry)
theorem df_lst {t : TA} {k : Ow → Prop} (h : DA K E t G O (fun ds => ds.length ≤ sizeLine ∧ k (.lst ds)) ke) : DF K E (tLst t) G O k ke := fun S0 Os σ H Q st hq he =>
  h.bind st he fun xs H1 ds ⟨hl, ha⟩ s1 st1 he1 rx => ⟨by rw [rx.length]; exact hl, fun p np => by
    have sp : Same H1 (upd H1 p (.lst xs)) := Same.put np
    exact hq p _ _ ha (s1.trans sp) (s1.free np) ⟨xs, upd_same, Reps.same (Reps.avoid (fun a z => z.elim .inl fun e => .inr (e ▸ np)) rx) sp⟩⟩
theorem dt_lst {t : TA} {k : D → Prop} (h : DA K E t G O (fun ds => ds.length ≤ sizeLine ∧ k (.lst ds)) ke) : DT K E (tLst t) G O k ke := (df_lst h).dt
theorem dt_tup {t : TA} {k : D → Prop} (h : DA K E t G O (fun ds => ds.length ≤ sizeLine ∧ k (.tup ds)) ke) : DT K E (tTup t) G O k ke := fun S0 Os σ H Q st hq he =>
  h.bind st he fun xs H1 ds ⟨hl, ha⟩ s1 st1 he1 rx => ⟨by rw [rx.length]; exact hl, fun p np => by
    have sp : Same H1 (upd H1 p (.tup xs)) := Same.put np
    exact hq _ _ _ ha (s1.trans sp) (.tup (fun z => st1.domW p z np) upd_same (rx.same sp))⟩

/-! ### tests -/
theorem dtt_test {t : TE} {k : Bool → Prop} (h : DT K E t G O (fun d => ∃ b, d = .bl b ∧ k b) ke) : DTT K E (tTest t) G O k ke := fun S0 Os σ H Q st hq he =>
  h.bind st he fun x H1 d ⟨b, e, kb⟩ s1 st1 he1 rx => by subst e; cases rx; exact ⟨b, rfl, hq b H1 kb s1⟩
theorem dtt_b {t : TE} {k : Bool → Prop} (h : DT K E t G O (fun d => ∃ b, d = .bl b ∧ k b) ke) : DTT K E (tB t) G O k ke := fun S0 Os σ H Q st hq he =>
  h.bind st he fun x H1 d ⟨b, e, kb⟩ s1 st1 he1 rx => by subst e; cases rx; exact ⟨b, rfl, hq b H1 kb s1⟩
theorem dtt_yes {k : Bool → Prop} (h : k true) : DTT K E tYes G O k ke := fun S0 Os σ H Q st hq he => hq true H h (Same.refl H)
theorem dtt_not {t : TT} {k : Bool → Prop} (h : DTT K E t G O (fun b => k (!b)) ke) : DTT K E (tNot t) G O k ke := fun S0 Os σ H Q st hq he =>
  h.bind st he fun b H1 kb s1 st1 he1 => hq (!b) H1 kb s1
theorem dtt_and {t u : TT} {k : Bool → Prop} (h : DTT K E t G O (fun b => (b = true → DTT K E u G O k ke) ∧ (b = false → k false)) ke) : DTT K E (tAnd t u) G O k ke := fun S0 Os σ H Q st hq he =>
  h.bind st he fun b H1 kb s1 st1 he1 => by
    cases b with
    | true => exact iteT ((kb.1 rfl).bind st1 he1 fun c H2 kc s2 _ _ => hq c H2 kc (s1.trans s2))
    | false => exact iteF (hq false H1 (kb.2 rfl) s1)
theorem dtt_or {t u : TT} {k : Bool → Prop} (h : DTT K E t G O (fun b => (b = false → DTT K E u G O k ke) ∧ (b = true → k true)) ke) : DTT K E (tOr t u) G O k ke := fun S0 Os σ H Q st hq he =>
  h.bind st he fun b H1 kb s1 st1 he1 => by
    cases b with
    | false => exact iteF ((kb.1 rfl).bind st1 he1 fun c H2 kc s2 _ _ => hq c H2 kc (s1.trans s2))
    | true => exact iteT (hq true H1 (kb.2 rfl) s1)
theorem dt_andV {t u : TE} {k : D → Prop} (h : DT K E t G O (fun a => ∃ b, a = .bl b ∧ (b = true → DT K E u G O k ke) ∧ (b = false → k (.bl false))) ke) : DT K E (tAndV t u) G O k ke := fun S0 Os σ H Q st hq he =>
  h.bind st he fun x H1 d ⟨b, e, k1, k2⟩ s1 st1 he1 rx => by
    subst e; cases rx
    refine ⟨b, rfl, ?_⟩
    cases b with
    | true => exact iteT ((k1 rfl).bind st1 he1 fun c H2 d2 kc s2 _ _ r => hq c H2 d2 kc (s1.trans s2) r)
    | false => exact iteF (hq _ H1 _ (k2 rfl) s1 (.bl false))
theorem dt_orV {t u : TE} {k : D → Prop} (h : DT K E t G O (fun a => ∃ b, a = .bl b ∧ (b = false → DT K E u G O k ke) ∧ (b = true → k (.bl true))) ke) : DT K E (tOrV t u) G O k ke := fun S0 Os σ H Q st hq he =>
  h.bind st he fun x H1 d ⟨b, e, k1, k2⟩ s1 st1 he1 rx => by
    subst e; cases rx
    refine ⟨b, rfl, ?_⟩
    cases b with
    | false => exact iteF ((k1 rfl).bind st1 he1 fun c H2 d2 kc s2 _ _ r => hq c H2 d2 kc (s1.trans s2) r)
    | true => exact iteT (hq _ H1 _ (k2 rfl) s1 (.bl true))
theorem dt_notV {t : TE} {k : D → Prop} (h : DT K E t G O (fun a => ∃ b, a = .bl b ∧ k (.bl (!b))) ke) : DT K E (tNotV t) G O k ke := fun S0 Os σ H Q st hq he =>
  h.bind st he fun x H1 d ⟨b, e, k1⟩ s1 st1 he1 rx => by
    subst e; cases rx
    exact ⟨b, rfl, hq _ H1 _ k1 s1 (.bl _)⟩
theorem dt_if {c : TT} {t u : TE} {k : D → Prop} (h : DTT K E c G O (fun b => (b = true → DT K E t G O k ke) ∧ (b = false → DT K E u G O k ke)) ke) : DT K E (tIf c t u) G O k ke := fun S0 Os σ H Q st hq he =>
  h.bind st he fun b H1 kb s1 st1 he1 => by
    cases b with
    | true => exact iteT ((kb.1 rfl).bind st1 he1 fun c H2 d2 kc s2 _ _ r => hq c H2 d2 kc (s1.trans s2) r)
    | false => exact iteF ((kb.2 rfl).bind st1 he1 fun c H2 d2 kc s2 _ _ r => hq c H2 d2 kc (s1.trans s2) r)
end
end Fw

set_option maxHeartbeats 4000000
/-! Operators, built-in calls, methods, subscripts, by data. -/
namespace Fw
open PySem PySem.Spec PyProof.Rows L2
section
variable {K : PySem.W.Frag} {E : XK} {G : Gm} {O : OL} {ke : Xd → Prop}

theorem opd_I0 {g : Int → Int → V} {g' : Int → Int → D} (hg : ∀ i j S H, Rep K S H (g i j) (g' i j)) : OpD K (rI0 g) (fun a b k => ∃ i j, a = .int i ∧ b = .int j ∧ k (g' i j)) := by
  intro S H x y a b Q k dm rx ry ⟨i, j, e1, e2, q⟩ hq
  subst e1 e2; cases rx; cases ry
  exact ⟨i, j, rfl, rfl, hq _ H _ q (Same.refl H) (hg i j S H)⟩
theorem opd_I {C : Int → Int → Prop} {g : Int → Int → V} {g' : Int → Int → D} (hg : ∀ i j S H, Rep K S H (g i j) (g' i j)) : OpD K (rI C g) (fun a b k => ∃ i j, a = .int i ∧ b = .int j ∧ C i j ∧ k (g' i j)) := by
  intro S H x y a b Q k dm rx ry ⟨i, j, e1, e2, c, q⟩ hq
  subst e1 e2; cases rx; cases ry
  exact ⟨i, j, rfl, rfl, c, hq _ H _ q (Same.refl H) (hg i j S H)⟩
theorem opd_add : OpD K (rI0 fun i j => .int (i + j)) (fun a b k => ∃ i j, a = .int i ∧ b = .int j ∧ k (.int (i + j))) := opd_I0 fun _ _ _ _ => .int _
theorem opd_sub : OpD K (rI0 fun i j => .int (i - j)) (fun a b k => ∃ i j, a = .int i ∧ b = .int j ∧ k (.int (i - j))) := opd_I0 fun _ _ _ _ => .int _
theorem opd_mul : OpD K (rI CMul fun i j => .int (i * j)) (fun a b k => ∃ i j, a = .int i ∧ b = .int j ∧ CMul i j ∧ k (.int (i * j))) := opd_I fun _ _ _ _ => .int _
theorem opd_fdivN : OpD K (rI CDivN fun i j => .int (i.fdiv j)) (fun a b k => ∃ i j, a = .int i ∧ b = .int j ∧ CDivN i j ∧ k (.int (i.fdiv j))) := opd_I fun _ _ _ _ => .int _
theorem opd_mod : OpD K (rI (fun _ j => 0 < j) fun i j => .int (i % j)) (fun a b k => ∃ i j, a = .int i ∧ b = .int j ∧ 0 < j ∧ k (.int (i % j))) := opd_I (C := fun _ j => 0 < j) fun _ _ _ _ => .int _
theorem opd_pow : OpD K (rI CPow fun i j => .int (i ^ j.toNat)) (fun a b k => ∃ i j, a = .int i ∧ b = .int j ∧ CPow i j ∧ k (.int (i ^ j.toNat))) := opd_I fun _ _ _ _ => .int _
theorem opd_lt : OpD K (rI0 fun i j => .bl (decide (i < j))) (fun a b k => ∃ i j, a = .int i ∧ b = .int j ∧ k (.bl (decide (i < j)))) := opd_I0 fun _ _ _ _ => .bl _
theorem opd_le : OpD K (rI0 fun i j => .bl (decide (i ≤ j))) (fun a b k => ∃ i j, a = .int i ∧ b = .int j ∧ k (.bl (decide (i ≤ j)))) := opd_I0 fun _ _ _ _ => .bl _
theorem opd_gt : OpD K (rI0 fun i j => .bl (decide (j < i))) (fun a b k => ∃ i j, a = .int i ∧ b = .int j ∧ k (.bl (decide (j < i)))) := opd_I0 fun _ _ _ _ => .bl _
theorem opd_ge : OpD K (rI0 fun i j => .bl (decide (j ≤ i))) (fun a b k => ∃ i j, a = .int i ∧ b = .int j ∧ k (.bl (decide (j ≤ i)))) := opd_I0 fun _ _ _ _ => .bl _
/-- flat data -/
def D.flat : D → Bool
  | .non => true
  | .bl _ => true
  | .int _ => true
  | .str _ => true
  | _ => false
def D.v : D → V
  | .bl b => .bl b
  | .int i => .int i
  | .str s => .str s
  | _ => .non
theorem D.flat_v {S : Addr → Prop} {H : Hp} {x : V} {d : D} (r : Rep K S H x d) (f : d.flat = true) : x = d.v ∧ flatV x = true := by
  cases r <;> first | exact ⟨rfl, rfl⟩ | cases f
theorem D.rep {S : Addr → Prop} {H : Hp} {d : D} (f : d.flat = true) : Rep K S H d.v d := by
  cases d <;> first | constructor | cases f
theorem Reps.flat {S : Addr → Prop} {H : Hp} : ∀ {xs : List V} {ds : List D}, Reps K S H xs ds → ds.all D.flat = true → xs = ds.map D.v ∧ xs.all flatV = true
  | _, _, .nil, _ => ⟨rfl, rfl⟩
  | _, _, .cons h t, f => by
    rw [List.all_cons, Bool.and_eq_true] at f
    obtain ⟨e1, f1⟩ := D.flat_v h f.1
    obtain ⟨e2, f2⟩ := Reps.flat t f.2
    exact ⟨by rw [e1, e2]; rfl, by rw [List.all_cons, f1, f2]; rfl⟩
/-- == of flat data -/
def D.eqf (a b : D) : Bool := eqV a.v b.v
/-- scalars by == (op_eq) -/
theorem opd_eq : OpD K rEq (fun a b k => a.flat = true ∧ b.flat = true ∧ scal a.v b.v = true ∧ k (.bl (decide (a.v = b.v)))) := by
  intro S H x y a b Q k dm rx ry ⟨fa, fb, sc, q⟩ hq
  obtain ⟨e1, _⟩ := D.flat_v rx fa
  obtain ⟨e2, _⟩ := D.flat_v ry fb
  subst e1 e2
  exact ⟨sc, hq _ H _ q (Same.refl H) (.bl _)⟩
theorem opd_ne : OpD K rNe (fun a b k => a.flat = true ∧ b.flat = true ∧ scal a.v b.v = true ∧ k (.bl (!decide (a.v = b.v)))) := by
  intro S H x y a b Q k dm rx ry ⟨fa, fb, sc, q⟩ hq
  obtain ⟨e1, _⟩ := D.flat_v rx fa
  obtain ⟨e2, _⟩ := D.flat_v ry fb
  subst e1 e2
  exact ⟨sc, hq _ H _ q (Same.refl H) (.bl _)⟩
/-- x in a list or a tuple of flat data -/
def inD (a : D) (xs : List D) : Bool := inV a.v (xs.map D.v)
theorem opd_in {neg : Bool} : OpD K (rIn K neg) (fun a b k => ∃ xs, (b = .lst xs ∨ b = .tup xs) ∧ a.flat = true ∧ xs.all D.flat = true ∧ k (.bl (if neg then !inD a xs else inD a xs))) := by
  intro S H x y a b Q k dm rx ry ⟨xs, hb, fa, fx, q⟩ hq
  obtain ⟨e1, f1⟩ := D.flat_v rx fa
  subst e1
  rcases hb with hb | hb
  · subst hb
    cases ry with
    | lst n h r =>
      obtain ⟨e2, f2⟩ := Reps.flat r fx
      refine ⟨_, _, rfl, .inl (SqL.of h), f1, f2, ?_⟩
      rw [e2]
      exact hq _ H _ q (Same.refl H) (.bl _)
  · subst hb
    cases ry with
    | tup n h r =>
      obtain ⟨e2, f2⟩ := Reps.flat r fx
      refine ⟨_, _, rfl, .inr (SqT.of h), f1, f2, ?_⟩
      rw [e2]
      exact hq _ H _ q (Same.refl H) (.bl _)
theorem opd_in_sign : OpD K (fun x y H Q => ∃ (c : Nat) (z : Str), x = .str ⟨#[c]⟩ ∧ y = .str z ∧ Q (.bl (decide (c ∈ z.cps.toList))) H) (fun a b k => ∃ (c : Nat) (z : Str), a = .str ⟨#[c]⟩ ∧ b = .str z ∧ k (.bl (decide (c ∈ z.cps.toList)))) := by
  intro S H x y a b Q k dm rx ry ⟨c, z, e1, e2, q⟩ hq
  subst e1 e2; cases rx; cases ry
  exact ⟨c, z, rfl, rfl, hq _ H _ q (Same.refl H) (.bl _)⟩
def D.isN : D → Bool
  | .non => true
  | _ => false
theorem opd_isN : OpD K (fun x y H Q => y = .non ∧ Q (.bl (decide (x = .non))) H) (fun a b k => b = .non ∧ k (.bl a.isN)) := by
  intro S H x y a b Q k dm rx ry ⟨e2, q⟩ hq
  subst e2; cases ry
  refine ⟨rfl, ?_⟩
  have e : decide (x = V.non) = a.isN := by cases rx <;> rfl
  rw [e]
  exact hq _ H _ q (Same.refl H) (.bl _)
theorem opd_notN : OpD K (fun x y H Q => y = .non ∧ Q (.bl (!decide (x = .non))) H) (fun a b k => b = .non ∧ k (.bl (!a.isN))) := by
  intro S H x y a b Q k dm rx ry ⟨e2, q⟩ hq
  subst e2; cases ry
  refine ⟨rfl, ?_⟩
  have e : (!decide (x = V.non)) = (!a.isN) := by cases rx <;> rfl
  rw [e]
  exact hq _ H _ q (Same.refl H) (.bl _)
/-- a new list of results -/
theorem own_new {S : Addr → Prop} {H : Hp} {p : Addr} {xs : List V} {ds : List D} (np : H p = none) (r : Reps K S H xs ds) : OwnAt K (fun b => S b ∨ b = p) (upd H p (.lst xs)) p (.lst ds) :=
  ⟨xs, upd_same, Reps.same (Reps.avoid (fun a z => z.elim .inl fun e => .inr (e ▸ np)) r) (Same.put np)⟩
/-- operators that make a new list -/
def OpF (K : PySem.W.Frag) (r : R2) (f : D → D → (Ow → Prop) → Prop) : Prop := ∀ (S : Addr → Prop) (H : Hp) (x y : V) (a b : D) (Q : VK) (k : Ow → Prop), (∀ a, S a → H a ≠ none) → Rep K S H x a → Rep K S H y b → f a b k →
  (∀ p H' o, k o → Same H H' → H p = none → OwnAt K (fun b => S b ∨ b = p) H' p o → Q (.ref p) H') → r x y H Q
theorem OpF.op {r : R2} {f : D → D → (Ow → Prop) → Prop} (h : OpF K r f) : OpD K r (fun a b k => f a b fun o => k o.d) := fun S H x y a b Q k dm rx ry hf hq =>
  h S H x y a b Q _ dm rx ry hf fun p H' o ko s n r => hq _ H' _ ko s (OwnAt.rep (T := fun _ => False) r fun z => dm p z n)
theorem df_op {r : R2} {f : D → D → (Ow → Prop) → Prop} {ta tb : TE} {k : Ow → Prop} (hr : OpF K r f) (h : DT K E ta G O (fun a => DT K E tb G O (fun b => f a b k) ke) ke) : DF K E (tOp r ta tb) G O k ke := fun S0 Os σ H Q st hq he =>
  h.bind st he fun x H1 a ha s1 st1 he1 rx => ha.bind st1 he1 fun y H2 b hb s2 st2 he2 ry =>
    hr _ H2 x y a b Q k st2.domW (rx.same s2) ry hb fun p H' d kd s n r => hq p H' d kd ((s1.trans s2).trans s) ((s1.trans s2).free n) r
theorem opf_cat : OpF K rCat (fun a b k => ∃ xs ys, a = .lst xs ∧ b = .lst ys ∧ xs.length + ys.length ≤ sizeLine ∧ k (.lst (xs ++ ys))) := by
  intro S H x y a b Q k dm rx ry ⟨xs, ys, e1, e2, l, q⟩ hq
  subst e1 e2
  cases rx with
  | lst n h r =>
    cases ry with
    | lst n2 h2 r2 =>
      exact ⟨_, _, _, _, rfl, rfl, h, h2, by rw [r.length, r2.length]; exact l, fun p np => hq p _ _ q (Same.put np) np (own_new np (r.append r2))⟩
theorem reps_rep {S : Addr → Prop} {H : Hp} {xs : List V} {ds : List D} (r : Reps K S H xs ds) : ∀ n : Nat, Reps K S H (List.replicate n xs).flatten (List.replicate n ds).flatten
  | 0 => .nil
  | n + 1 => by
    rw [List.replicate_succ, List.replicate_succ, List.flatten_cons, List.flatten_cons]
    exact r.append (reps_rep r n)
theorem opf_rep : OpF K rRep (fun a b k => ∃ xs i, a = .lst xs ∧ b = .int i ∧ -(2 ^ 63) ≤ i ∧ i < 2 ^ 63 ∧ xs.length * i.toNat ≤ sizeLine ∧ k (.lst (List.replicate i.toNat xs).flatten)) := by
  intro S H x y a b Q k dm rx ry ⟨xs, i, e1, e2, l1, l2, l3, q⟩ hq
  subst e1 e2
  cases ry
  cases rx with
  | lst n h r => exact ⟨_, _, _, rfl, rfl, h, l1, l2, by rw [r.length]; exact l3, fun p np => hq p _ _ q (Same.put np) np (own_new np (reps_rep r _))⟩

/-! ### subscripts -/
theorem atI_rep {S : Addr → Prop} {H : Hp} {xs : List V} {ds : List D} {i : Int} {d : D} (r : Reps K S H xs ds) (h : atI ds i = some d) : ∃ v, atI xs i = some v ∧ Rep K S H v d := by
  unfold atI at h ⊢
  rw [r.length]
  cases e : ixN ds.length i with
  | none => rw [e] at h; cases h
  | some j =>
    rw [e] at h
    exact r.get' h
theorem opd_ixL : OpD K (rIxL K) (fun a b k => ∃ xs i d, a = .lst xs ∧ b = .int i ∧ atI xs i = some d ∧ k d) := by
  intro S H x y a b Q k dm rx ry ⟨xs, i, d, e1, e2, l, q⟩ hq
  subst e1 e2
  cases ry
  cases rx with
  | lst n h r =>
    obtain ⟨v, hv, rv⟩ := atI_rep r l
    exact ⟨_, _, _, v, rfl, rfl, SqL.of h, hv, hq _ H _ q (Same.refl H) rv⟩
theorem opd_ixT : OpD K (rIxT K) (fun a b k => ∃ xs i d, a = .tup xs ∧ b = .int i ∧ atI xs i = some d ∧ k d) := by
  intro S H x y a b Q k dm rx ry ⟨xs, i, d, e1, e2, l, q⟩ hq
  subst e1 e2
  cases ry
  cases rx with
  | tup n h r =>
    obtain ⟨v, hv, rv⟩ := atI_rep r l
    exact ⟨_, _, _, v, rfl, rfl, SqT.of h, hv, hq _ H _ q (Same.refl H) rv⟩
/-- a dict's entry -/
def getD (kvs : List (Key × D)) (k : Key) : Option D := (kvs.find? fun kv => decide (kv.1 = k)).map (·.2)
theorem valV_rep {S : Addr → Prop} {H : Hp} {k : Key} : ∀ {kvs : List (Key × V)} {ds : List (Key × D)}, kvs.map Prod.fst = ds.map Prod.fst → Reps K S H (kvs.map Prod.snd) (ds.map Prod.snd) →
    (getD ds k = none ∧ valV kvs k = none) ∨ ∃ v d, getD ds k = some d ∧ valV kvs k = some v ∧ Rep K S H v d
  | [], [], _, _ => .inl ⟨rfl, rfl⟩
  | [], _ :: _, h, _ => by simp at h
  | _ :: _, [], h, _ => by simp at h
  | p :: r, q :: s, h, .cons hv t => by
    have h1 : p.1 = q.1 := by simpa using (List.cons.inj (by simpa using h)).1
    have h2 : r.map Prod.fst = s.map Prod.fst := by simpa using (List.cons.inj (by simpa using h)).2
    by_cases e : q.1 = k
    · refine .inr ⟨p.2, q.2, ?_, valV_pos (h1.trans e), hv⟩
      unfold getD; rw [List.find?_cons_of_pos (by simpa using e)]; rfl
    · have e2 : getD (q :: s) k = getD s k := by
        show Option.map _ _ = Option.map _ _
        rw [List.find?_cons_of_neg (by simpa using e)]
      rw [e2, valV_neg (fun z => e (h1.symm.trans z))]
      exact valV_rep h2 t
theorem kV_key {S : Addr → Prop} {H : Hp} {y : V} {b : D} {k : Key} (e : b = (match k with | .inl i => .int i | .inr s => .str s)) (r : Rep K S H y b) : y = kV k := by
  subst e
  cases k <;> (cases r; rfl)
def kD : Key → D
  | .inl i => .int i
  | .inr s => .str s
theorem kD_rep {S : Addr → Prop} {H : Hp} (k : Key) : Rep K S H (kV k) (kD k) := by cases k <;> constructor
theorem kD_v {S : Addr → Prop} {H : Hp} {y : V} {k : Key} (r : Rep K S H y (kD k)) : y = kV k := by cases k <;> (cases r; rfl)
theorem dt_dget {td ty : TE} {k : D → Prop} (h : DT K E td G O (fun a => DT K E ty G O (fun b => ∃ kvs key d, a = .dic kvs ∧ b = kD key ∧ getD kvs key = some d ∧ k d) ke) ke) : DT K E (tDGet td ty) G O k ke := fun S0 Os σ H Q st hq he =>
  h.bind st he fun x H1 a ha s1 st1 he1 rx => ha.bind st1 he1 fun y H2 b ⟨kvs, key, d, e1, e2, g, kd⟩ s2 st2 he2 ry => by
    subst e1 e2
    have ey := kD_v ry
    subst ey
    have rx2 := rx.same s2
    cases rx2 with
    | dic n hr e r =>
      rcases valV_rep (k := key) e r with ⟨z, _⟩ | ⟨v, d', g1, g2, rv⟩
      · rw [g] at z; cases z
      · rw [g] at g1; cases g1
        exact ⟨_, v, rfl, .inl ⟨_, key, hr, rfl, g2.symm⟩, hq v H2 _ kd (s1.trans s2) rv⟩
theorem dt_din {td ty : TE} {k : D → Prop} (h : DT K E ty G O (fun b => DT K E td G O (fun a => ∃ kvs key, a = .dic kvs ∧ b = kD key ∧ k (.bl (getD kvs key).isSome)) ke) ke) : DT K E (tDIn ty td) G O k ke := fun S0 Os σ H Q st hq he =>
  h.bind st he fun y H1 b hb s1 st1 he1 ry => hb.bind st1 he1 fun x H2 a ⟨kvs, key, e1, e2, kd⟩ s2 st2 he2 rx => by
    subst e1 e2
    have ey := kD_v ry
    subst ey
    cases rx with
    | dic n hr e r =>
      refine ⟨_, _, rfl, .inl ⟨_, key, hr, rfl, rfl⟩, ?_⟩
      rcases valV_rep (k := key) e r with ⟨z1, z2⟩ | ⟨v, d', g1, g2, rv⟩
      · rw [z2]; rw [z1] at kd; exact hq _ H2 _ kd (s1.trans s2) (.bl _)
      · rw [g2]; rw [g1] at kd; exact hq _ H2 _ kd (s1.trans s2) (.bl _)
theorem dt_dnotin {td ty : TE} {k : D → Prop} (h : DT K E ty G O (fun b => DT K E td G O (fun a => ∃ kvs key, a = .dic kvs ∧ b = kD key ∧ k (.bl (!(getD kvs key).isSome))) ke) ke) : DT K E (tDNotIn ty td) G O k ke := fun S0 Os σ H Q st hq he =>
  h.bind st he fun y H1 b hb s1 st1 he1 ry => hb.bind st1 he1 fun x H2 a ⟨kvs, key, e1, e2, kd⟩ s2 st2 he2 rx => by
    subst e1 e2
    have ey := kD_v ry
    subst ey
    cases rx with
    | dic n hr e r =>
      refine ⟨_, _, rfl, .inl ⟨_, key, hr, rfl, rfl⟩, ?_⟩
      rcases valV_rep (k := key) e r with ⟨z1, z2⟩ | ⟨v, d', g1, g2, rv⟩
      · rw [z2]; rw [z1] at kd; exact hq _ H2 _ kd (s1.trans s2) (.bl _)
      · rw [g2]; rw [g1] at kd; exact hq _ H2 _ kd (s1.trans s2) (.bl _)

/-! ### slices of lists -/
def cutD (xs : List D) (lo hi : Option Int) : List D := (xs.drop (HT.sIx xs.length 0 lo)).take (HT.sIx xs.length xs.length hi - HT.sIx xs.length 0 lo)
def DO (K : PySem.W.Frag) (E : XK) (t : TO) (G : Gm) (O : OL) (k : Option Int → Prop) (ke : Xd → Prop) : Prop := ∀ (S0 : Addr → Prop) (Os : OLa) (σ : L2.St) (H : Hp) (Q : Option Int → Hp → Prop), St1 K S0 G O Os σ H →
  (∀ i H', k i → Same H H' → Q i H') → EOk K (SO S0 Os) H E ke → t σ H Q
theorem do_none {k : Option Int → Prop} (q : k none) : DO K E tNoPart G O k ke := fun S0 Os σ H Q st hq he => hq none H q (Same.refl H)
theorem do_some {t : TE} {k : Option Int → Prop} (h : DT K E t G O (fun d => ∃ i, d = .int i ∧ k (some i)) ke) : DO K E (tPart t) G O k ke := fun S0 Os σ H Q st hq he =>
  h.bind st he fun x H1 d ⟨i, e, q⟩ s1 st1 he1 rx => by subst e; cases rx; exact ⟨i, rfl, hq _ H1 q s1⟩
theorem df_slL {te : TE} {tl th : TO} {k : Ow → Prop} (h : DT K E te G O (fun a => DO K E tl G O (fun l => DO K E th G O (fun u => ∃ xs, a = .lst xs ∧ k (.lst (cutD xs l u))) ke) ke) ke) : DF K E (tSl (rSlL K) te tl th) G O k ke := fun S0 Os σ H Q st hq he =>
  h.bind st he fun x H1 a ha s1 st1 he1 rx => ha S0 Os σ H1 _ st1 (fun l H2 hl s2 => hl S0 Os σ H2 _ (st1.same s2) (fun u H3 ⟨xs, e, q⟩ s3 => by
    subst e
    have rx3 := rx.same (s2.trans s3)
    cases rx3 with
    | lst n hh r =>
      refine ⟨_, _, rfl, SqL.of hh, fun p np => hq p _ _ q ((s1.trans (s2.trans s3)).trans (Same.put np)) ((s1.trans (s2.trans s3)).free np) (own_new np ?_)⟩
      unfold cutV cutD
      rw [r.length]
      exact (r.drop _).take _) (he1.same s2)) he1

/-! ### built-in calls -/
theorem caf_list : CaF K (fun xs H Q => ∃ p ys, xs = [.ref p] ∧ (SqL K H p ys ∨ SqT K H p ys) ∧ ∀ l, H l = none → Q (.ref l) (upd H l (.lst ys))) (fun ds k => ∃ xs, (ds = [.lst xs] ∨ ds = [.tup xs]) ∧ k (.lst xs)) := by
  intro S H xs ds Q k dm rx ⟨ys, e, q⟩ hq
  rcases e with e | e <;> subst e
  · cases rx with
    | cons h t =>
      cases t
      cases h with
      | lst n hh r => exact ⟨_, _, rfl, .inl (SqL.of hh), fun p np => hq p _ _ q (Same.put np) np (own_new np r)⟩
  · cases rx with
    | cons h t =>
      cases t
      cases h with
      | tup n hh r => exact ⟨_, _, rfl, .inr (SqT.of hh), fun p np => hq p _ _ q (Same.put np) np (own_new np r)⟩
theorem reps_kV {S : Addr → Prop} {H : Hp} : ∀ {kvs : List (Key × V)} {ds : List (Key × D)}, kvs.map Prod.fst = ds.map Prod.fst → Reps K S H (kvs.map fun kv => kV kv.1) (ds.map fun kv => kD kv.1)
  | [], [], _ => .nil
  | [], _ :: _, h => by simp at h
  | _ :: _, [], h => by simp at h
  | p :: r, q :: s, h => by
    have h1 : p.1 = q.1 := by simpa using (List.cons.inj (by simpa using h)).1
    have h2 : r.map Prod.fst = s.map Prod.fst := by simpa using (List.cons.inj (by simpa using h)).2
    refine .cons ?_ (reps_kV h2)
    show Rep K S H (kV p.1) (kD q.1)
    rw [h1]; exact kD_rep _
theorem caf_listD : CaF K (fun xs H Q => ∃ (a : Addr) (kvs : List (Key × V)), xs = [.ref a] ∧ Rd H a (.dK kvs) ∧ ∀ p, H p = none → Q (.ref p) (upd H p (.lst (kvs.map fun kv => kV kv.1)))) (fun ds k => ∃ kvs : List (Key × D), ds = [.dic kvs] ∧ k (.lst (kvs.map fun kv => kD kv.1))) := by
  intro S H xs ds Q k dm rx ⟨ys, e, q⟩ hq
  subst e
  cases rx with
  | cons h t =>
    cases t
    cases h with
    | dic n hh e r => exact ⟨_, _, rfl, hh, fun p np => hq p _ _ q (Same.put np) np (own_new np (reps_kV e))⟩
theorem caf_dictD : CaF K (fun xs H Q => ∃ (a : Addr) (kvs : List (Key × V)), xs = [.ref a] ∧ Rd H a (.dK kvs) ∧ ∀ p, H p = none → Q (.ref p) (upd H p (.dK kvs))) (fun ds k => ∃ kvs : List (Key × D), ds = [.dic kvs] ∧ k (.dic kvs)) := by
  intro S H xs ds Q k dm rx ⟨ys, e, q⟩ hq
  subst e
  cases rx with
  | cons h t =>
    cases t
    cases h with
    | dic n hh e r => exact ⟨_, _, rfl, hh, fun p np => hq p _ _ q (Same.put np) np ⟨_, upd_same, e, Reps.same (Reps.avoid (fun a z => z.elim .inl fun e => .inr (e ▸ np)) r) (Same.put np)⟩⟩
theorem cad_all : CaD K (rAll K) (fun ds k => ∃ bs : List Bool, ds = [.lst (bs.map D.bl)] ∧ k (.bl (bs.all id))) := by
  intro S H xs ds Q k dm rx ⟨bs, e, q⟩ hq
  subst e
  cases rx with
  | cons h t =>
    cases t
    cases h with
    | lst n hh r =>
      have e := r.bls
      subst e
      exact ⟨_, bs, rfl, SqL.of hh, hq _ H _ q (Same.refl H) (.bl _)⟩
theorem cad_any : CaD K (rAny K) (fun ds k => ∃ bs : List Bool, ds = [.lst (bs.map D.bl)] ∧ k (.bl (bs.any id))) := by
  intro S H xs ds Q k dm rx ⟨bs, e, q⟩ hq
  subst e
  cases rx with
  | cons h t =>
    cases t
    cases h with
    | lst n hh r =>
      have e := r.bls
      subst e
      exact ⟨_, bs, rfl, SqL.of hh, hq _ H _ q (Same.refl H) (.bl _)⟩
theorem cad_sum : CaD K (rSum K) (fun ds k => ∃ bs : List Int, ds = [.lst (bs.map D.int)] ∧ k (.int bs.sum)) := by
  intro S H xs ds Q k dm rx ⟨bs, e, q⟩ hq
  subst e
  cases rx with
  | cons h t =>
    cases t
    cases h with
    | lst n hh r =>
      have e := r.ints
      subst e
      exact ⟨_, bs, rfl, SqL.of hh, hq _ H _ q (Same.refl H) (.int _)⟩
theorem caf_sortedS : CaF K (rSortedS K) (fun ds k => ∃ ss : List Str, ds = [.lst (ss.map D.str)] ∧ ss.length < 64 ∧ ∀ ys : List Str, ys.Perm ss → sortedS ys = true → k (.lst (ys.map D.str))) := by
  intro S H xs ds Q k dm rx ⟨ss, e, l, q⟩ hq
  subst e
  cases rx with
  | cons h t =>
    cases t
    cases h with
    | lst n hh r =>
      have e := r.strs
      subst e
      exact ⟨_, ss, rfl, SqL.of hh, l, fun ys p pm so np => hq p _ _ (q ys pm so) (Same.put np) np (own_new np (reps_strs ys))⟩
theorem caf_sortedD : CaF K (fun xs H Q => ∃ (a : Addr) (kvs : List (Key × V)) (ks : List Str), xs = [.ref a] ∧ Rd H a (.dK kvs) ∧ kvs.map (·.1) = ks.map Sum.inr ∧ ks.length < 64 ∧ ∀ ys p, ys.Perm ks → sortedS ys = true → H p = none → Q (.ref p) (upd H p (.lst (ys.map V.str))))
    (fun ds k => ∃ (kvs : List (Key × D)) (ss : List Str), ds = [.dic kvs] ∧ kvs.map (·.1) = ss.map Sum.inr ∧ ss.length < 64 ∧ ∀ ys : List Str, ys.Perm ss → sortedS ys = true → k (.lst (ys.map D.str))) := by
  intro S H xs ds Q k dm rx ⟨kvs, ss, e, ek, l, q⟩ hq
  subst e
  cases rx with
  | cons h t =>
    cases t
    cases h with
    | dic n hh e r =>
      exact ⟨_, _, ss, rfl, hh, e.trans ek, l, fun ys p pm so np => hq p _ _ (q ys pm so) (Same.put np) np (own_new np (reps_strs ys))⟩
/-- len -/
def lenD : D → Option Nat
  | .str s => some s.length
  | .lst xs => some xs.length
  | .tup xs => some xs.length
  | .dic kvs => some kvs.length
  | _ => none
theorem cad_max2 : CaD K (fun xs H Q => ∃ i j, xs = [.int i, .int j] ∧ Q (.int (if j > i then j else i)) H) (fun ds k => ∃ i j, ds = [.int i, .int j] ∧ k (.int (if j > i then j else i))) := by
  intro S H xs ds Q k dm rx ⟨i, j, e, q⟩ hq
  subst e
  cases rx with | cons h t => cases h; cases t with | cons h t => cases h; cases t; exact ⟨i, j, rfl, hq _ H _ q (Same.refl H) (.int _)⟩
theorem cad_min2 : CaD K (fun xs H Q => ∃ i j, xs = [.int i, .int j] ∧ Q (.int (if j < i then j else i)) H) (fun ds k => ∃ i j, ds = [.int i, .int j] ∧ k (.int (if j < i then j else i))) := by
  intro S H xs ds Q k dm rx ⟨i, j, e, q⟩ hq
  subst e
  cases rx with | cons h t => cases h; cases t with | cons h t => cases h; cases t; exact ⟨i, j, rfl, hq _ H _ q (Same.refl H) (.int _)⟩
theorem cad_int1 : CaD K (fun xs H Q => (∃ i, xs = [.int i] ∧ Q (.int i) H) ∨ ∃ k, xs = [.bl k] ∧ Q (.int (if k then 1 else 0)) H) (fun ds k => (∃ i, ds = [.int i] ∧ k (.int i)) ∨ ∃ b, ds = [.bl b] ∧ k (.int (if b then 1 else 0))) := by
  intro S H xs ds Q k dm rx h hq
  rcases h with ⟨i, e, q⟩ | ⟨b, e, q⟩
  · subst e
    cases rx with | cons h t => cases h; cases t; exact .inl ⟨i, rfl, hq _ H _ q (Same.refl H) (.int _)⟩
  · subst e
    cases rx with | cons h t => cases h; cases t; exact .inr ⟨b, rfl, hq _ H _ q (Same.refl H) (.int _)⟩
end
end Fw

set_option maxHeartbeats 4000000
/-! Specs of defs, calls, objects, statements, loops, comprehensions, by data. -/
namespace Fw
open PySem PySem.Spec PyProof.Rows L2
abbrev Wt := List D → (D → Prop) → (Xd → Prop) → Prop
/-- a def that changes nothing that stands: what it gives, by data -/
def spD (K : PySem.W.Frag) (w : Wt) : Sp := fun vs H Q E => ∃ (S : Addr → Prop) (ds : List D) (k : D → Prop) (ke : Xd → Prop), (∀ a, S a → H a ≠ none) ∧ Reps K S H vs ds ∧ w ds k ke ∧
  (∀ v H' d, k d → Same H H' → Rep K S H' v d → Q v H') ∧ EOk K S H E ke
abbrev WtI := List D → (List (Str × D) → Prop) → (Xd → Prop) → Prop
/-- an __init__: what the fields are -/
def spI (K : PySem.W.Frag) (c : Str) (w : WtI) : Sp := fun vs H Q E => ∃ (S : Addr → Prop) (x dx : Addr) (vs' : List V) (ds : List D) (k : List (Str × D) → Prop) (ke : Xd → Prop),
  vs = .ref x :: vs' ∧ H x = some (.ins (He.ga K c) dx []) ∧ ¬ S x ∧ (∀ a, S a → H a ≠ none) ∧ Reps K (fun b => S b ∨ b = x) H vs' ds ∧ w ds k ke ∧
  (∀ H' fs, k fs → SameX (fun b => b = x) H H' → OwnAt K (fun b => S b ∨ b = x) H' x (.obj c fs) → Q .non H') ∧ EOk K S (del H x) E ke
abbrev F0 : Xd → Prop := fun _ => False

section
variable {K : PySem.W.Frag} {E : XK} {G : Gm} {O : OL} {ke : Xd → Prop}
theorem eok_e0 {S : Addr → Prop} {H : Hp} {E : XK} : EOk K S H E F0 := fun _ _ _ _ z => z.elim
theorem dt_call0 {w : Wt} {t : TA} {k : D → Prop} (h : DA K E t G O (fun ds => w ds k F0) ke) : DT K E (tCall (spD K w) [] E0 t) G O k ke := fun S0 Os σ H Q st hq he =>
  h.bind st he fun xs H1 ds ha s1 st1 he1 rx => by
    show spD K w (xs ++ []) H1 Q E0
    rw [List.append_nil]
    exact ⟨SO S0 Os, ds, k, F0, st1.domW, rx, ha, fun v H' d kd s r => hq v H' d kd (s1.trans s) r, eok_e0⟩
theorem dt_callE {w : Wt} {t : TA} {k : D → Prop} (h : DA K E t G O (fun ds => w ds k ke) ke) : DT K E (tCall (spD K w) [] E t) G O k ke := fun S0 Os σ H Q st hq he =>
  h.bind st he fun xs H1 ds ha s1 st1 he1 rx => by
    show spD K w (xs ++ []) H1 Q E
    rw [List.append_nil]
    exact ⟨SO S0 Os, ds, k, ke, st1.domW, rx, ha, fun v H' d kd s r => hq v H' d kd (s1.trans s) r, he1⟩
theorem lookup_rep {S : Addr → Prop} {H : Hp} {f : Str} : ∀ {fs : List (Str × V)} {ds : List (Str × D)}, fs.map Prod.fst = ds.map Prod.fst → Reps K S H (fs.map Prod.snd) (ds.map Prod.snd) →
    (ds.lookup f = none ∧ fs.lookup f = none) ∨ ∃ v d, ds.lookup f = some d ∧ fs.lookup f = some v ∧ Rep K S H v d
  | [], [], _, _ => .inl ⟨rfl, rfl⟩
  | [], _ :: _, h, _ => by simp at h
  | _ :: _, [], h, _ => by simp at h
  | (p, v) :: r, (q, d) :: s, h, .cons hv t => by
    have h1 : p = q := by simpa using (List.cons.inj (by simpa using h)).1
    have h2 : r.map Prod.fst = s.map Prod.fst := by simpa using (List.cons.inj (by simpa using h)).2
    subst h1
    cases hb : f == p with
    | true => exact .inr ⟨v, d, by rw [List.lookup_cons, hb], by rw [List.lookup_cons, hb], hv⟩
    | false =>
      rw [List.lookup_cons, List.lookup_cons, hb]
      exact lookup_rep h2 t
theorem dt_meth0 {w : Wt} {c m : Str} {ta : TE} {t : TA} {k : D → Prop} (h : DT K E ta G O (fun a => ∃ fs, a = .obj c fs ∧ fs.lookup m = none ∧ DA K E t G O (fun ds => w (a :: ds) k F0) ke) ke) :
    DT K E (tMeth (He.ga K c) m (spD K w) [] E0 ta t) G O k ke := fun S0 Os σ H Q st hq he =>
  h.bind st he fun x H1 a ⟨fs, e, l, ha⟩ s1 st1 he1 rx => by
    subst e
    have rx0 := rx
    cases rx with
    | obj n hh ef r =>
      refine ⟨_, _, _, rfl, hh, ?_, ha.bind st1 he1 fun xs H2 ds hw s2 st2 he2 ry => ?_⟩
      · rcases lookup_rep (f := m) ef r with ⟨_, z⟩ | ⟨v, d, z, _⟩
        · exact z
        · rw [l] at z; cases z
      · rw [List.append_nil]
        exact ⟨SO S0 Os, _, k, F0, st2.domW, .cons (rx0.same s2) ry, hw, fun v H' d kd s r => hq v H' d kd ((s1.trans s2).trans s) r, eok_e0⟩
theorem dt_methE {w : Wt} {c m : Str} {ta : TE} {t : TA} {k : D → Prop} (h : DT K E ta G O (fun a => ∃ fs, a = .obj c fs ∧ fs.lookup m = none ∧ DA K E t G O (fun ds => w (a :: ds) k ke) ke) ke) :
    DT K E (tMeth (He.ga K c) m (spD K w) [] E ta t) G O k ke := fun S0 Os σ H Q st hq he =>
  h.bind st he fun x H1 a ⟨fs, e, l, ha⟩ s1 st1 he1 rx => by
    subst e
    have rx0 := rx
    cases rx with
    | obj n hh ef r =>
      refine ⟨_, _, _, rfl, hh, ?_, ha.bind st1 he1 fun xs H2 ds hw s2 st2 he2 ry => ?_⟩
      · rcases lookup_rep (f := m) ef r with ⟨_, z⟩ | ⟨v, d, z, _⟩
        · exact z
        · rw [l] at z; cases z
      · rw [List.append_nil]
        exact ⟨SO S0 Os, _, k, ke, st2.domW, .cons (rx0.same s2) ry, hw, fun v H' d kd s r => hq v H' d kd ((s1.trans s2).trans s) r, he2⟩
theorem dt_prop {w : Wt} {c : Str} {ta : TE} {k : D → Prop} (h : DT K E ta G O (fun a => ∃ fs, a = .obj c fs ∧ w [a] k F0) ke) :
    DT K E (tProp (He.ga K c) (spD K w) [] E0 ta) G O k ke := fun S0 Os σ H Q st hq he =>
  h.bind st he fun x H1 a ⟨fs, e, ha⟩ s1 st1 he1 rx => by
    subst e
    have rx0 := rx
    cases rx with
    | obj n hh ef r => exact ⟨_, _, _, rfl, hh, SO S0 Os, _, k, F0, st1.domW, .cons rx0 .nil, ha, fun v H' d kd s r => hq v H' d kd (s1.trans s) r, eok_e0⟩
theorem dt_fld {c f : Str} {ta : TE} {k : D → Prop} (cl : Cls K (He.ga K c)) (na : NoAttr K (He.ga K c) f) (h : DT K E ta G O (fun a => ∃ fs d, a = .obj c fs ∧ fs.lookup f = some d ∧ k d) ke) : DT K E (tFld K ta f) G O k ke := fun S0 Os σ H Q st hq he =>
  h.bind st he fun x H1 a ⟨fs, d, e, l, kd⟩ s1 st1 he1 rx => by
    subst e
    cases rx with
    | obj n hh ef r =>
      rcases lookup_rep (f := f) ef r with ⟨z, _⟩ | ⟨v, d', z1, z2, rv⟩
      · rw [l] at z; cases z
      · rw [l] at z1; cases z1
        exact ⟨_, _, _, _, v, rfl, hh, cl, na, z2, hq v H1 _ kd s1 rv⟩
theorem map_erase {α β : Type} (f : α → β) : ∀ (xs : List α) (j : Nat), (xs.eraseIdx j).map f = (xs.map f).eraseIdx j
  | [], _ => rfl
  | _ :: _, 0 => rfl
  | x :: r, j + 1 => by
    show f x :: (r.eraseIdx j).map f = f x :: (r.map f).eraseIdx j
    rw [map_erase f r j]
theorem own_at {Os : OLa} {O : OL} (e : Os.map (·.2) = O) {j : Nat} {o : Nat × Ow} (h : O[j]? = some o) : ∃ p ∈ Os, p.2 = o ∧ Os[j]? = some p := by
  rw [← e, List.getElem?_map] at h
  cases q : Os[j]? with
  | none => rw [q] at h; cases h
  | some p => rw [q] at h; cases h; exact ⟨p, List.mem_of_getElem? q, rfl, rfl⟩
/-- a field of what is owned -/
theorem dt_fldO (j : Nat) {c f : Str} {i : Nat} {fs : List (Str × D)} {d : D} {k : D → Prop} (cl : Cls K (He.ga K c)) (na : NoAttr K (He.ga K c) f) (ho : O[j]? = some (i, .obj c fs)) (l : fs.lookup f = some d) (kd : k d) : DT K E (tFld K (tVar i) f) G O k ke := fun S0 Os σ H Q st hq he => by
  obtain ⟨p, hp, e, _⟩ := own_at st.os ho
  obtain ⟨hs, oa⟩ := st.own p hp
  rw [e] at hs oa
  obtain ⟨dx, gs, hh, ef, r⟩ := oa
  rcases lookup_rep (f := f) ef r with ⟨z, _⟩ | ⟨v, d', z1, z2, rv⟩
  · rw [l] at z; cases z
  · rw [l] at z1; cases z1
    exact ⟨_, hs, _, _, _, _, v, rfl, hh, cl, na, z2, hq v H _ kd (Same.refl H) rv⟩
/-- a field of the instance that an __init__ fills -/
theorem dt_fldS (j : Nat) {x : Addr} {c f : Str} {i : Nat} {fs : List (Str × D)} {d : D} {k : D → Prop} (cl : Cls K (He.ga K c)) (na : NoAttr K (He.ga K c) f) (ho : O[j]? = some (i, .slf x c fs)) (l : fs.lookup f = some d) (kd : k d) : DT K E (tFld K (tVar i) f) G O k ke := fun S0 Os σ H Q st hq he => by
  obtain ⟨p, hp, e, _⟩ := own_at st.os ho
  obtain ⟨hs, oa⟩ := st.own p hp
  rw [e] at hs oa
  obtain ⟨ea, dx, gs, hh, ef, r⟩ := oa
  rcases lookup_rep (f := f) ef r with ⟨z, _⟩ | ⟨v, d', z1, z2, rv⟩
  · rw [l] at z; cases z
  · rw [l] at z1; cases z1
    exact ⟨_, hs, _, _, _, _, v, rfl, hh, cl, na, z2, hq v H _ kd (Same.refl H) rv⟩
theorem reps_S {S T : Addr → Prop} {H : Hp} {vs : List V} {ds : List D} (r : Reps K S H vs ds) (h : ∀ a, T a ↔ S a) : Reps K T H vs ds := Reps.weak (fun a z => (h a).mp z) r
theorem df_make {w : WtI} {c : Str} {t : TA} {k : Ow → Prop} (h : DA K E t G O (fun ds => w ds (fun fs => k (.obj c fs)) F0) ke) : DF K E (tMake (He.ga K c) (spI K c w) [] E0 t) G O k ke := fun S0 Os σ H Q st hq he =>
  h.bind st he fun xs H1 ds ha s1 st1 he1 rx x dx nx ndx ne => by
    rw [List.append_nil]
    have sp : Same H1 (upd (upd H1 dx (.own x)) x (.ins (He.ga K c) dx [])) := fun b o e => by
      rw [upd_ne (ne_of_none e nx), upd_ne (ne_of_none e ndx)]; exact e
    refine ⟨SO S0 Os, x, dx, xs, ds, _, F0, rfl, upd_same, fun z => st1.domW x z nx, fun a z q => st1.domW a z (sp.free q), Reps.same (Reps.avoid (fun a z => z.elim .inl fun e => .inr (e ▸ nx)) rx) sp, ha, fun H' fs kf sx oa => ⟨rfl, ?_⟩, eok_e0⟩
    refine hq x H' _ kf (fun b o e => ?_) (s1.free nx) oa
    exact sx b (fun z => by rw [z] at e; rw [s1 _ _ e] at nx; cases nx) o (sp b o (s1 b o e))
theorem dt_make {w : WtI} {c : Str} {t : TA} {k : D → Prop} (h : DA K E t G O (fun ds => w ds (fun fs => k (.obj c fs)) F0) ke) : DT K E (tMake (He.ga K c) (spI K c w) [] E0 t) G O k ke := (df_make h).dt

/-! ### statements -/
structure Frm (S0 : Addr → Prop) (H0 : Hp) (Os : OLa) (H : Hp) : Prop where
  same : Same H0 H
  new : ∀ a, W Os a → H0 a = none
  dom : ∀ a, S0 a → H0 a ≠ none
/-- what a statement may have changed -/
structure Chg (Os : OLa) (H : Hp) (Os' : OLa) (H' : Hp) : Prop where
  same : SameX (W Os) H H'
  new : ∀ a, W Os' a → W Os a ∨ H a = none
theorem Chg.refl {Os : OLa} {H : Hp} : Chg Os H Os H := ⟨SameX.rfl', fun _ z => .inl z⟩
theorem Chg.of_same {Os : OLa} {H H' : Hp} (h : Same H H') : Chg Os H Os H' := ⟨Same.sx h, fun _ z => .inl z⟩
theorem Chg.trans {Os Os1 Os2 : OLa} {H H1 H2 : Hp} (a : Chg Os H Os1 H1) (b : Chg Os1 H1 Os2 H2) : Chg Os H Os2 H2 :=
  ⟨fun c n u e => b.same c (fun z => (a.new c z).elim n fun q => by rw [e] at q; cases q) u (a.same c n u e), fun c z => (b.new c z).elim (a.new c) fun q => by
    cases e : H c with
    | none => exact .inr rfl
    | some u =>
      by_cases n : W Os c
      · exact .inl n
      · rw [a.same c n u e] at q; cases q⟩
theorem Frm.step {S0 : Addr → Prop} {H0 : Hp} {Os Os' : OLa} {H H' : Hp} (f : Frm S0 H0 Os H) (c : Chg Os H Os' H') : Frm S0 H0 Os' H' :=
  ⟨fun a u e => c.same a (fun z => by rw [f.new a z] at e; cases e) u (f.same a u e), fun a z => (c.new a z).elim (f.new a) fun q => f.same.free q, f.dom⟩
def DS (K : PySem.W.Frag) (E : XK) (t : TS) (G : Gm) (O : OL) (kn : Gm → OL → Prop) (kr : D → Prop) (ke : Xd → Prop) : Prop :=
  ∀ (S0 : Addr → Prop) (H0 : Hp) (Os : OLa) (σ : L2.St) (H : Hp) (Ds : Ends), Frm S0 H0 Os H → St1 K S0 G O Os σ H →
    (∀ G' O' Os' σ' H', kn G' O' → Chg Os H Os' H' → St1 K S0 G' O' Os' σ' H' → Ds.nx σ' H') →
    (∀ v H' d, kr d → Same H0 H' → Rep K S0 H' v d → Ds.rt v H') → EOk K S0 H0 E ke → t Ds σ H
variable {kn : Gm → OL → Prop} {kr : D → Prop}
theorem EOk.so {S0 : Addr → Prop} {Os : OLa} {H0 H : Hp} (h : EOk K S0 H0 E ke) (f : Frm S0 H0 Os H) : EOk K (SO S0 Os) H E ke := fun c d H2 x k l r => h c d H2 x k (f.same.trans l) (by
  obtain ⟨e, r⟩ := r
  refine ⟨e, ?_⟩
  cases q : x.arg with
  | none => rw [q] at r; exact r
  | some p =>
    rw [q] at r
    obtain ⟨a, v, h1, h2, h3⟩ := r
    exact ⟨a, v, h1, h2, Rep.weak (fun a z => .inl z) h3⟩)
/-- an expression in a statement -/
theorem DT.at_ {t : TE} {k : D → Prop} (h : DT K E t G O k ke) {S0 : Addr → Prop} {H0 : Hp} {Os : OLa} {σ : L2.St} {H : Hp} {Q : VK} (f : Frm S0 H0 Os H) (st : St1 K S0 G O Os σ H) (he : EOk K S0 H0 E ke)
    (hq : ∀ v H' d, k d → Same H H' → Frm S0 H0 Os H' → St1 K S0 G O Os σ H' → Rep K (SO S0 Os) H' v d → Q v H') : t σ H Q :=
  h.bind st (he.so f) fun v H' d kd s st' _ r => hq v H' d kd s (f.step (Chg.of_same s)) st' r
theorem DTT.at_ {t : TT} {k : Bool → Prop} (h : DTT K E t G O k ke) {S0 : Addr → Prop} {H0 : Hp} {Os : OLa} {σ : L2.St} {H : Hp} {Q : Bool → Hp → Prop} (f : Frm S0 H0 Os H) (st : St1 K S0 G O Os σ H) (he : EOk K S0 H0 E ke)
    (hq : ∀ b H', k b → Same H H' → Frm S0 H0 Os H' → St1 K S0 G O Os σ H' → Q b H') : t σ H Q :=
  h.bind st (he.so f) fun b H' kd s st' _ => hq b H' kd s (f.step (Chg.of_same s)) st'
theorem DA.at_ {t : TA} {k : List D → Prop} (h : DA K E t G O k ke) {S0 : Addr → Prop} {H0 : Hp} {Os : OLa} {σ : L2.St} {H : Hp} {Q : List V → Hp → Prop} (f : Frm S0 H0 Os H) (st : St1 K S0 G O Os σ H) (he : EOk K S0 H0 E ke)
    (hq : ∀ v H' d, k d → Same H H' → Frm S0 H0 Os H' → St1 K S0 G O Os σ H' → Reps K (SO S0 Os) H' v d → Q v H') : t σ H Q :=
  h.bind st (he.so f) fun v H' d kd s st' _ r => hq v H' d kd s (f.step (Chg.of_same s)) st' r
theorem ds_seq {t u : TS} (h : DS K E t G O (fun G1 O1 => DS K E u G1 O1 kn kr ke) kr ke) : DS K E (tSeq t u) G O kn kr ke := fun S0 H0 Os σ H Ds f st hn hr he =>
  h S0 H0 Os σ H { Ds with nx := u Ds } f st (fun G1 O1 Os1 σ1 H1 k1 c1 st1 => k1 S0 H0 Os1 σ1 H1 Ds (f.step c1) st1 (fun G2 O2 Os2 σ2 H2 k2 c2 st2 => hn G2 O2 Os2 σ2 H2 k2 (c1.trans c2) st2) hr he) hr he
theorem ds_next (h : kn G O) : DS K E tNext G O kn kr ke := fun S0 H0 Os σ H Ds f st hn hr he => hn G O Os σ H h Chg.refl st
theorem ds_expr {te : TE} (h : DT K E te G O (fun _ => kn G O) ke) : DS K E (tDrop te) G O kn kr ke := fun S0 H0 Os σ H Ds f st hn hr he =>
  h.at_ f st he fun v H1 d kd s f1 st1 r => hn G O Os σ H1 kd (Chg.of_same s) st1
theorem ds_ret {te : TE} (h : DT K E te G O kr ke) : DS K E (tRet te) G O kn kr ke := fun S0 H0 Os σ H Ds f st hn hr he =>
  h.at_ f st he fun v H1 d kd s f1 st1 r => hr v H1 d kd f1.same (Rep.weak (fun a z => .inl z) r)
theorem ds_retN (h : kr .non) : DS K E tRetN G O kn kr ke := fun S0 H0 Os σ H Ds f st hn hr he => hr .non H .non h f.same .non
theorem ds_if {c : TT} {t u : TS} (h : DTT K E c G O (fun b => (b = true → DS K E t G O kn kr ke) ∧ (b = false → DS K E u G O kn kr ke)) ke) : DS K E (tIfS c t u) G O kn kr ke := fun S0 H0 Os σ H Ds f st hn hr he =>
  h.at_ f st he fun b H1 kb s f1 st1 => by
    cases b with
    | true => exact iteT (kb.1 rfl S0 H0 Os σ H1 Ds f1 st1 (fun G2 O2 Os2 σ2 H2 k2 c2 st2 => hn G2 O2 Os2 σ2 H2 k2 ((Chg.of_same s).trans c2) st2) hr he)
    | false => exact iteF (kb.2 rfl S0 H0 Os σ H1 Ds f1 st1 (fun G2 O2 Os2 σ2 H2 k2 c2 st2 => hn G2 O2 Os2 σ2 H2 k2 ((Chg.of_same s).trans c2) st2) hr he)
theorem ds_asg {te : TE} {i : Nat} (hi : ∀ o ∈ O, o.1 ≠ i) (h : DT K E te G O (fun d => kn (G.set i (some d)) O) ke) : DS K E (tAsg te (gName i)) G O kn kr ke := fun S0 H0 Os σ H Ds f st hn hr he =>
  h.at_ f st he fun v H1 d kd s f1 st1 r => hn _ O Os _ H1 kd (Chg.of_same s) (st1.set r hi)
/-- what is new becomes owned -/
theorem St1.own_new {S0 : Addr → Prop} {Os : OLa} {σ : L2.St} {H H1 : Hp} (st : St1 K S0 G O Os σ H) {p : Addr} {o : Ow} {i : Nat} (s : Same H H1) (np : H p = none) (oa : OwnAt K (fun b => SO S0 Os b ∨ b = p) H1 p o) (hi : ∀ o ∈ O, o.1 ≠ i) (hl : i < G.length) :
    St1 K S0 (G.set i none) ((i, o) :: O) ((p, i, o) :: Os) (σ.set i (some (.ref p))) H1 := by
  have st1 := st.same s
  have wp : ∀ a, W ((p, i, o) :: Os) a ↔ a = p ∨ W Os a := fun a => by
    show a ∈ List.map _ _ ↔ _
    rw [List.map_cons, List.mem_cons]; exact Iff.rfl
  have so : ∀ a, SO S0 ((p, i, o) :: Os) a → SO S0 Os a ∨ a = p := fun a z => by
    rcases z with z | z
    · exact .inl (.inl z)
    · rcases (wp a).mp z with z | z
      · exact .inr z
      · exact .inl (.inr z)
  have nw : ¬ W Os p := fun z => st.domW p (.inr z) np
  have av : ∀ a, SO S0 ((p, i, o) :: Os) a → SO S0 Os a ∨ H a = none := fun a z => (so a z).elim .inl fun e => .inr (by rw [e]; exact np)
  refine ⟨by rw [List.map_cons, st.os], ?_, st1.dom, fun a z => ?_, by rw [List.length_set, List.length_set]; exact st.len, fun j d e => ?_, fun q hq => ?_⟩
  · rw [List.map_cons]
    exact List.nodup_cons.mpr ⟨nw, st.nd⟩
  · rcases (wp a).mp z with z | z
    · rw [z]; exact fun y => st.dom p y np
    · exact st.ns a z
  · by_cases hj : i = j
    · subst hj
      rw [List.getElem?_set_self hl] at e; cases e
    · rw [List.getElem?_set_ne hj] at e
      obtain ⟨v, e1, r⟩ := st.re j d e
      exact ⟨v, by rw [List.getElem?_set_ne hj]; exact e1, Rep.same (Rep.avoid av r) s⟩
  · rcases List.mem_cons.mp hq with e | hq
    · subst e
      refine ⟨List.getElem?_set_self (by rw [st.len]; exact hl), ?_⟩
      cases o with
      | lst ds => obtain ⟨vs, e, r⟩ := oa; exact ⟨vs, e, Reps.weak so r⟩
      | dic ds => obtain ⟨vs, e, q, r⟩ := oa; exact ⟨vs, e, q, Reps.weak so r⟩
      | obj c ds => obtain ⟨dx, vs, e, q, r⟩ := oa; exact ⟨dx, vs, e, q, Reps.weak so r⟩
      | slf _ c ds => obtain ⟨ea, dx, vs, e, q, r⟩ := oa; exact ⟨ea, dx, vs, e, q, Reps.weak so r⟩
    · obtain ⟨hs, oa'⟩ := st.own q hq
      have hne : i ≠ q.2.1 := fun z => hi q.2 (by rw [← st.os]; exact List.mem_map_of_mem hq) z.symm
      refine ⟨by rw [List.getElem?_set_ne hne]; exact hs, ?_⟩
      generalize q.2.2 = o' at oa' ⊢
      cases o' with
      | lst ds => obtain ⟨vs, e, r⟩ := oa'; exact ⟨vs, s _ _ e, Reps.same (Reps.avoid av r) s⟩
      | dic ds => obtain ⟨vs, e, q, r⟩ := oa'; exact ⟨vs, s _ _ e, q, Reps.same (Reps.avoid av r) s⟩
      | obj c ds => obtain ⟨dx, vs, e, q, r⟩ := oa'; exact ⟨dx, vs, s _ _ e, q, Reps.same (Reps.avoid av r) s⟩
      | slf _ c ds => obtain ⟨ea, dx, vs, e, q, r⟩ := oa'; exact ⟨ea, dx, vs, s _ _ e, q, Reps.same (Reps.avoid av r) s⟩
theorem ds_asgF {te : TE} {i : Nat} (hi : ∀ o ∈ O, o.1 ≠ i) (hl : i < G.length) (h : DF K E te G O (fun o => kn (G.set i none) ((i, o) :: O)) ke) : DS K E (tAsg te (gName i)) G O kn kr ke := fun S0 H0 Os σ H Ds f st hn hr he =>
  h S0 Os σ H _ st (fun p H1 o ko s np oa => hn _ _ ((p, i, o) :: Os) _ H1 ko ⟨Same.sx s, fun a z => by
    have z' : a ∈ List.map _ _ := z
    rw [List.map_cons, List.mem_cons] at z'
    rcases z' with z' | z'
    · exact .inr (by rw [z']; exact np)
    · exact .inl z'⟩ (st.own_new s np oa hi hl)) (he.so f)
/-- the owned thing at slot j of O is changed by the statement -/
theorem St1.own_set {S0 : Addr → Prop} {Os : OLa} {σ : L2.St} {H : Hp} (st : St1 K S0 G O Os σ H) {j : Nat} {p : Addr} {i : Nat} {o o' : Ow} (hp : Os[j]? = some (p, i, o)) {ho' : HO} (oa : OwnAt K (SO S0 Os) (upd H p ho') p o') (hl : SameX (W Os) H (upd H p ho')) :
    St1 K S0 G (O.set j (i, o')) (Os.set j (p, i, o')) σ (upd H p ho') := by
  have hj : j < Os.length := (List.getElem?_eq_some_iff.mp hp).1
  have em : (Os.set j (p, i, o')).map (·.1) = Os.map (·.1) := by
    rw [List.map_set]
    apply List.ext_getElem?
    intro n
    by_cases hn : j = n
    · subst hn
      rw [List.getElem?_set_self (by rw [List.length_map]; exact hj), List.getElem?_map, hp]; rfl
    · rw [List.getElem?_set_ne hn]
  have w : ∀ a, W (Os.set j (p, i, o')) a ↔ W Os a := fun a => by show a ∈ _ ↔ a ∈ _; rw [em]
  have so : SO S0 (Os.set j (p, i, o')) = SO S0 Os := by
    funext a; exact propext ⟨fun z => z.imp id (w a).mp, fun z => z.imp id (w a).mpr⟩
  have lx : LeX (SO S0 Os) H (upd H p ho') := hl.lex.weak fun a z => .inr z
  have hmem : (p, i, o) ∈ Os := List.mem_of_getElem? hp
  refine ⟨by rw [List.map_set, st.os], by rw [em]; exact st.nd, fun a z => ?_, fun a z => st.ns a ((w a).mp z), st.len, fun n d e => ?_, fun q hq => ?_⟩
  · have na : ¬ W Os a := fun y => st.ns a y z
    have ne : a ≠ p := fun y => na (by rw [y]; exact List.mem_map_of_mem (f := (·.1)) hmem)
    rw [upd_ne ne]; exact st.dom a z
  · obtain ⟨v, e1, r⟩ := st.re n d e
    rw [so]
    exact ⟨v, e1, Rep.mono lx r⟩
  · rw [so]
    obtain ⟨n, hn⟩ := List.mem_iff_getElem?.mp hq
    by_cases hjn : j = n
    · subst hjn
      rw [List.getElem?_set_self hj] at hn
      cases hn
      exact ⟨(st.own _ hmem).1, oa⟩
    · rw [List.getElem?_set_ne hjn] at hn
      have hq' := List.mem_of_getElem? hn
      obtain ⟨hs, ob⟩ := st.own q hq'
      refine ⟨hs, ?_⟩
      have ne : q.1 ≠ p := fun z => hjn (by
        have nd := st.nd
        have h1 : (Os.map (·.1))[j]? = some p := by rw [List.getElem?_map, hp]; rfl
        have h2 : (Os.map (·.1))[n]? = some p := by rw [List.getElem?_map, hn]; exact congrArg some z
        obtain ⟨l1, g1⟩ := List.getElem?_eq_some_iff.mp h1
        obtain ⟨l2, g2⟩ := List.getElem?_eq_some_iff.mp h2
        exact (List.getElem_inj nd).mp (g1.trans g2.symm))
      generalize q.2.2 = ow at ob ⊢
      cases ow with
      | lst ds => obtain ⟨vs, e, r⟩ := ob; exact ⟨vs, by rw [upd_ne ne]; exact e, Reps.mono lx r⟩
      | dic ds => obtain ⟨vs, e, q, r⟩ := ob; exact ⟨vs, by rw [upd_ne ne]; exact e, q, Reps.mono lx r⟩
      | obj c ds => obtain ⟨dx, vs, e, q, r⟩ := ob; exact ⟨dx, vs, by rw [upd_ne ne]; exact e, q, Reps.mono lx r⟩
      | slf _ c ds => obtain ⟨ea, dx, vs, e, q, r⟩ := ob; exact ⟨ea, dx, vs, by rw [upd_ne ne]; exact e, q, Reps.mono lx r⟩
theorem chg_put {Os : OLa} {H : Hp} {p : Addr} {ho : HO} {j i : Nat} {o o' : Ow} (hp : Os[j]? = some (p, i, o)) : Chg Os H (Os.set j (p, i, o')) (upd H p ho) := by
  have hmem : (p, i, o) ∈ Os := List.mem_of_getElem? hp
  refine ⟨fun a n u e => ?_, fun a z => ?_⟩
  · rw [upd_ne fun z => n (by rw [z]; exact List.mem_map_of_mem (f := (·.1)) hmem)]; exact e
  · have z' : a ∈ (Os.set j (p, i, o')).map (·.1) := z
    obtain ⟨q, hq, e⟩ := List.mem_map.mp z'
    rcases List.mem_or_eq_of_mem_set hq with hq | hq
    · exact .inl (e ▸ List.mem_map_of_mem (f := (·.1)) hq)
    · subst hq
      exact .inl (e ▸ List.mem_map_of_mem (f := (·.1)) hmem)
/-- what is owned is given up: it is a datum from now on -/
theorem ds_freeze (j : Nat) {i : Nat} {o : Ow} {t : TS} (ho : O[j]? = some (i, o)) (hl : i < G.length) (h : DS K E t (G.set i (some o.d)) (O.eraseIdx j) kn kr ke) : DS K E t G O kn kr ke := fun S0 H0 Os σ H Ds f st hn hr he => by
  obtain ⟨p, hp, e, hpj⟩ := own_at st.os ho
  have w : ∀ a, W (Os.eraseIdx j) a → W Os a := fun a z => by
    obtain ⟨q, hq, e⟩ := List.mem_map.mp (show a ∈ (Os.eraseIdx j).map (·.1) from z)
    exact e ▸ List.mem_map_of_mem (f := (·.1)) (List.mem_of_mem_eraseIdx hq)
  have so : ∀ a, SO S0 (Os.eraseIdx j) a → SO S0 Os a := fun a z => z.imp id (w a)
  have np : ¬ W (Os.eraseIdx j) p.1 := fun z => by
    obtain ⟨q, hq, e⟩ := List.mem_map.mp (show p.1 ∈ (Os.eraseIdx j).map (·.1) from z)
    obtain ⟨n, hn2, hq2⟩ := List.mem_eraseIdx_iff_getElem?.mp hq
    have h1 : (Os.map (·.1))[j]? = some p.1 := by rw [List.getElem?_map, hpj]; rfl
    have h2 : (Os.map (·.1))[n]? = some p.1 := by rw [List.getElem?_map, hq2]; exact congrArg some e
    obtain ⟨l1, g1⟩ := List.getElem?_eq_some_iff.mp h1
    obtain ⟨l2, g2⟩ := List.getElem?_eq_some_iff.mp h2
    exact hn2 ((List.getElem_inj st.nd).mp (g2.trans g1.symm))
  obtain ⟨hs, oa⟩ := st.own p hp
  have e1 : p.2.1 = i := by rw [e]
  have e2 : p.2.2 = o := by rw [e]
  rw [e1] at hs
  rw [e2] at oa
  have rp : Rep K (SO S0 (Os.eraseIdx j)) H (.ref p.1) o.d := by
    have n1 : ¬ SO S0 (Os.eraseIdx j) p.1 := fun z => z.elim (st.ns _ (List.mem_map_of_mem (f := (·.1)) hp)) np
    cases o with
    | lst ds => obtain ⟨vs, q, r⟩ := oa; exact .lst n1 q (Reps.weak so r)
    | dic ds => obtain ⟨vs, q, q2, r⟩ := oa; exact .dic n1 (.inl q) q2 (Reps.weak so r)
    | obj c ds => obtain ⟨dx, vs, q, q2, r⟩ := oa; exact .obj n1 q q2 (Reps.weak so r)
    | slf _ c ds => obtain ⟨ea, dx, vs, q, q2, r⟩ := oa; exact .obj n1 q q2 (Reps.weak so r)
  refine h S0 H0 (Os.eraseIdx j) σ H Ds ⟨f.same, fun a z => f.new a (w a z), f.dom⟩ ⟨?_, ?_, st.dom, fun a z => st.ns a (w a z), by rw [List.length_set]; exact st.len, fun n d q => ?_, fun q hq => ?_⟩
    (fun G' O' Os' σ' H' k c s => hn G' O' Os' σ' H' k ⟨fun a n u q => c.same a (fun z => n (w a z)) u q, fun a z => (c.new a z).imp (w a) id⟩ s) hr he
  · rw [map_erase, st.os]
  · rw [map_erase]
    exact st.nd.sublist (List.eraseIdx_sublist _ _)
  · by_cases hin : i = n
    · subst hin
      rw [List.getElem?_set_self hl] at q
      cases q
      exact ⟨_, hs, rp⟩
    · rw [List.getElem?_set_ne hin] at q
      obtain ⟨v, q1, r⟩ := st.re n d q
      exact ⟨v, q1, Rep.weak so r⟩
  · obtain ⟨h1, h2⟩ := st.own q (List.mem_of_mem_eraseIdx hq)
    refine ⟨h1, ?_⟩
    generalize q.2.2 = ow at h2 ⊢
    cases ow with
    | lst ds => obtain ⟨vs, e, r⟩ := h2; exact ⟨vs, e, Reps.weak so r⟩
    | dic ds => obtain ⟨vs, e, q, r⟩ := h2; exact ⟨vs, e, q, Reps.weak so r⟩
    | obj c ds => obtain ⟨dx, vs, e, q, r⟩ := h2; exact ⟨dx, vs, e, q, Reps.weak so r⟩
    | slf _ c ds => obtain ⟨ea, dx, vs, e, q, r⟩ := h2; exact ⟨ea, dx, vs, e, q, Reps.weak so r⟩
/-- forgetting -/
theorem DS.imp {t : TS} {kn' : Gm → OL → Prop} {kr' : D → Prop} (h : DS K E t G O kn kr ke) (i : ∀ G O, kn G O → kn' G O) (ir : ∀ d, kr d → kr' d) : DS K E t G O kn' kr' ke := fun S0 H0 Os σ H Ds f st hn hr he =>
  h S0 H0 Os σ H Ds f st (fun G' O' Os' σ' H' k c s => hn G' O' Os' σ' H' (i _ _ k) c s) (fun v H' d k s r => hr v H' d (ir d k) s r) he
end
end Fw

set_option maxHeartbeats 4000000
/-! Loops and comprehensions by data; dicts are locked while they are walked. -/
namespace Fw
open PySem PySem.Spec PyProof.Rows L2

/-! ### locks laid by the reading -/
section
variable {X : Cx} {pins : List (Addr × Obj)} {σ : L2.St} {H : Hp} {s : Shared}
/-- behind e the dict that it gives is locked (or was so) -/
def tLk (td : TE) : TE := fun σ H Q => td σ H fun x H1 => ∃ (d : Addr) (kvs : List (Key × V)), x = .ref d ∧ Rd H1 d (.dK kvs) ∧
  ∀ (od : Obj) (H2 : Hp), ((H1 d = some (.dK kvs) ∧ H2 = upd H1 d (.frz od (.dK kvs))) ∨ (H1 d = some (.frz od (.dK kvs)) ∧ H2 = H1)) → Q x H2
theorem pe_lk {e : Expr} {td : TE} (h : PE X e td) : PE X e (tLk td) := by
  refine ⟨fun pins s σ H Q I q => ?_⟩
  refine thn (h.run pins s σ H _ I q) fun v s1 ⟨x, H1, I1, r1, d, kvs, ex, rd, k⟩ => ?_
  rcases rd with rd | ⟨o, rd⟩
  · obtain ⟨od, I2⟩ := I1.lock rd trivial
    exact ⟨x, _, I2, r1, k od _ (.inl ⟨rd, rfl⟩)⟩
  · exact ⟨x, H1, I1, r1, k o H1 (.inr ⟨rd, rfl⟩)⟩
/-- a lock that was laid since is taken away -/
def Ulk (H H2 H3 : Hp) : Prop := H3 = H2 ∨ ∃ (d : Addr) (od : Obj) (kvs : List (Key × V)), H2 d = some (.frz od (.dK kvs)) ∧ (∀ o u, H d ≠ some (.frz o u)) ∧ H3 = upd H2 d (.dK kvs)
theorem Inv.ulk {σ' : L2.St} {s' : Shared} {H2 H3 : Hp} (I : Inv X pins σ H s) (I2 : Inv X pins σ' H2 s') (u : Ulk H H2 H3) : Inv X pins σ' H3 s' := by
  rcases u with e | ⟨d, od, kvs, e, n, e3⟩
  · subst e; exact I2
  · subst e3
    exact I2.unlock e fun o' u' z => n o' u' (I.base.frzs _ _ _ z)
def tUnlE (t : TE) : TE := fun σ H Q => t σ H fun v H2 => ∃ H3, Ulk H H2 H3 ∧ Q v H3
theorem pe_unl {e : Expr} {t : TE} (h : PE X e t) : PE X e (tUnlE t) := by
  refine ⟨fun pins s σ H Q I q => ?_⟩
  refine thn (h.run pins s σ H _ I q) fun v s1 ⟨x, H2, I2, r1, H3, u, k⟩ => ?_
  exact ⟨x, H3, Inv.ulk I I2 u, r1, k⟩
def tUnlS (t : TS) : TS := fun D σ H => t ⟨fun σ' H' => ∃ H3, Ulk H H' H3 ∧ D.nx σ' H3, fun v H' => ∃ H3, Ulk H H' H3 ∧ D.rt v H3, fun σ' H' => ∃ H3, Ulk H H' H3 ∧ D.bk σ' H3, fun σ' H' => ∃ H3, Ulk H H' H3 ∧ D.ct σ' H3⟩ σ H
theorem ps_unl {st : Stmt} {t : TS} (h : PS X st t) : PS X st (tUnlS t) := by
  refine ⟨fun pins s σ H D I q => ?_⟩
  refine thn (h.run pins s σ H _ I q) fun f s1 q => ?_
  cases f with
  | next => obtain ⟨σ', H', I2, H3, u, k⟩ := q; exact ⟨σ', H3, Inv.ulk I I2 u, k⟩
  | brk => obtain ⟨σ', H', I2, H3, u, k⟩ := q; exact ⟨σ', H3, Inv.ulk I I2 u, k⟩
  | cont => obtain ⟨σ', H', I2, H3, u, k⟩ := q; exact ⟨σ', H3, Inv.ulk I I2 u, k⟩
  | ret v => obtain ⟨x, σ', H', I2, r, H3, u, k⟩ := q; exact ⟨x, σ', H3, Inv.ulk I I2 u, r, k⟩
end

section
variable {K : PySem.W.Frag} {E : XK} {G : Gm} {O : OL} {ke : Xd → Prop}
/-- H1: H, one dict of no owner's locked -/
def Lkd (S : Addr → Prop) (H H1 : Hp) : Prop := H1 = H ∨ ∃ (d : Addr) (od : Obj) (kvs : List (Key × V)), ¬ S d ∧ H d = some (.dK kvs) ∧ H1 = upd H d (.frz od (.dK kvs))
theorem Lkd.lex {S T : Addr → Prop} {H H1 : Hp} (l : Lkd S H H1) : LeX T H H1 := by
  rcases l with e | ⟨d, od, kvs, n, hd, e⟩
  · subst e; exact LeX.rfl'
  · subst e
    intro a _
    by_cases h : a = d
    · subst h
      refine ⟨fun u su q => ?_, fun k r => ?_⟩
      · rw [hd] at q; cases q; exact su.elim
      · rcases r with r | ⟨o, r⟩
        · rw [hd] at r; cases r; exact .inr ⟨od, upd_same⟩
        · rw [hd] at r; cases r
    · refine ⟨fun u su q => by rw [upd_ne h]; exact q, fun k r => ?_⟩
      rcases r with r | ⟨o, r⟩
      · exact .inl (by rw [upd_ne h]; exact r)
      · exact .inr ⟨o, by rw [upd_ne h]; exact r⟩
theorem Lkd.noneIff {S : Addr → Prop} {H H1 : Hp} (l : Lkd S H H1) {a : Addr} : H1 a = none ↔ H a = none := by
  rcases l with e | ⟨d, od, kvs, n, hd, e⟩
  · subst e; exact Iff.rfl
  · subst e
    by_cases h : a = d
    · subst h; rw [upd_same, hd]; exact ⟨fun z => (nomatch z), fun z => (nomatch z)⟩
    · rw [upd_ne h]
theorem Lkd.at_ {S : Addr → Prop} {H H1 : Hp} (l : Lkd S H H1) {a : Addr} (s : S a) : H1 a = H a := by
  rcases l with e | ⟨d, od, kvs, n, hd, e⟩
  · rw [e]
  · subst e
    exact upd_ne fun z => n (z ▸ s)
/-- what comes of it when the lock is taken away -/
def unl (H H1 H2 H3 : Hp) : Prop := (H1 = H ∧ H3 = H2) ∨ ∃ (d : Addr) (od : Obj) (kvs : List (Key × V)), H d = some (.dK kvs) ∧ H1 = upd H d (.frz od (.dK kvs)) ∧ H3 = upd H2 d (.dK kvs)
theorem Lkd.unl {S T : Addr → Prop} {H H1 H2 : Hp} (l : Lkd S H H1) (hT : ∀ a, T a → S a ∨ H1 a = none) (s : SameX T H1 H2) : ∃ H3, Fw.unl H H1 H2 H3 ∧ Ulk H H2 H3 ∧ SameX T H H3 ∧ LeX (fun _ => False) H2 H3 ∧ (∀ a, T a → H3 a = H2 a) := by
  rcases l with e | ⟨d, od, kvs, n, hd, e⟩
  · subst e
    exact ⟨H2, .inl ⟨rfl, rfl⟩, .inl rfl, s, LeX.rfl', fun _ _ => rfl⟩
  · have e1 : H1 d = some (.frz od (.dK kvs)) := by rw [e]; exact upd_same
    have nT : ¬ T d := fun z => (hT d z).elim n fun q => by rw [e1] at q; cases q
    have e2 := s d nT _ e1
    refine ⟨upd H2 d (.dK kvs), .inr ⟨d, od, kvs, hd, e, rfl⟩, .inr ⟨d, od, kvs, e2, (fun o u z => by rw [hd] at z; cases z), rfl⟩, fun a na u q => ?_, fun a _ => ?_, fun a ta => upd_ne fun z => nT (z ▸ ta)⟩
    · by_cases h : a = d
      · subst h; rw [hd] at q; cases q; exact upd_same
      · rw [upd_ne h]
        exact s a na u (by rw [e, upd_ne h]; exact q)
    · by_cases h : a = d
      · subst h
        refine ⟨fun u su q => ?_, fun k r => ?_⟩
        · rw [e2] at q; cases q; exact su.elim
        · rcases r with r | ⟨o, r⟩
          · rw [e2] at r; cases r
          · rw [e2] at r; cases r; exact .inl upd_same
      · refine ⟨fun u su q => by rw [upd_ne h]; exact q, fun k r => ?_⟩
        rcases r with r | ⟨o, r⟩
        · exact .inl (by rw [upd_ne h]; exact r)
        · exact .inr ⟨o, by rw [upd_ne h]; exact r⟩
theorem OwnAt.lex {S : Addr → Prop} {H H1 : Hp} {a : Addr} {o : Ow} (h : OwnAt K S H a o) (l : LeX S H H1) (e : H1 a = H a) : OwnAt K S H1 a o := by
  cases o with
  | lst ds => obtain ⟨vs, q, r⟩ := h; exact ⟨vs, e.trans q, Reps.mono l r⟩
  | dic ds => obtain ⟨vs, q, q2, r⟩ := h; exact ⟨vs, e.trans q, q2, Reps.mono l r⟩
  | obj c ds => obtain ⟨dx, vs, q, q2, r⟩ := h; exact ⟨dx, vs, e.trans q, q2, Reps.mono l r⟩
  | slf _ c ds => obtain ⟨ea, dx, vs, q, q2, r⟩ := h; exact ⟨ea, dx, vs, e.trans q, q2, Reps.mono l r⟩
theorem St1.lex {S0 : Addr → Prop} {Os : OLa} {σ : L2.St} {H H1 : Hp} (h : St1 K S0 G O Os σ H) (l : LeX (SO S0 Os) H H1) (e : ∀ a, SO S0 Os a → H1 a = H a) : St1 K S0 G O Os σ H1 where
  os := h.os
  nd := h.nd
  dom := fun a ha => by rw [e a (.inl ha)]; exact h.dom a ha
  ns := h.ns
  len := h.len
  re := fun i d q => let ⟨v, e1, r⟩ := h.re i d q; ⟨v, e1, Rep.mono l r⟩
  own := fun p hp => ⟨(h.own p hp).1, (h.own p hp).2.lex l (e _ (.inr (List.mem_map_of_mem (f := (·.1)) hp)))⟩

/-! ### what is walked -/
def Wk (K : PySem.W.Frag) (S : Addr → Prop) (J : It) (H1 : Hp) (xs : List D) : Prop := ∀ (S' : Addr → Prop) (H' : Hp), (∀ a, S' a → S a ∨ H1 a = none) → (∀ a, S' a → H' a ≠ none) → SameX S H1 H' → ∀ i,
  (i < xs.length → J.go i H') ∧ (xs.length ≤ i → J.stop i H') ∧ ∀ x H'', i < xs.length → J.yld i H' x H'' → ∃ d, xs[i]? = some d ∧ Same H' H'' ∧ Rep K S' H'' x d
def DI (K : PySem.W.Frag) (E : XK) (wi : TI) (G : Gm) (O : OL) (k : List D → Prop) (ke : Xd → Prop) : Prop := ∀ (S0 : Addr → Prop) (Os : OLa) (σ : L2.St) (H : Hp) (R : It → Hp → Prop), St1 K S0 G O Os σ H →
  (∀ J H1 xs, k xs → Same H H1 → Wk K (SO S0 Os) J H1 xs → R J H1) → EOk K (SO S0 Os) H E ke → wi σ H R
/-- .. a dict of the walk locked -/
def DIL (K : PySem.W.Frag) (E : XK) (wi : TI) (G : Gm) (O : OL) (k : List D → Prop) (ke : Xd → Prop) : Prop := ∀ (S0 : Addr → Prop) (Os : OLa) (σ : L2.St) (H : Hp) (R : It → Hp → Prop), St1 K S0 G O Os σ H →
  (∀ J Hm H1 xs, k xs → Same H Hm → Lkd (SO S0 Os) Hm H1 → Wk K (SO S0 Os) J H1 xs → R J H1) → EOk K (SO S0 Os) H E ke → wi σ H R
theorem rep_walk {S S' : Addr → Prop} {H1 H' : Hp} {v : V} {d : D} (r : Rep K S H1 v d) (hS : ∀ a, S' a → S a ∨ H1 a = none) (s : SameX S H1 H') : Rep K S' H' v d := by
  have r1 : Rep K (fun a => S a ∨ S' a) H1 v d := Rep.avoid (fun a z => z.elim .inl (hS a)) r
  exact Rep.weak (fun a z => .inr z) (Rep.mono (s.lex.weak fun a z => .inl z) r1)
theorem wk_list {S : Addr → Prop} {H1 : Hp} {a : Addr} {vs : List V} {xs : List D} (n : ¬ S a) (h : H1 a = some (.lst vs)) (r : Reps K S H1 vs xs) : Wk K S (Itl K a) H1 xs := fun S' H' hS dm s i => by
  have e := s a n _ h
  have q : SqL K H' a vs := SqL.of e
  refine ⟨fun hi => ⟨vs, vs[i]'(by rw [r.length]; exact hi), q, List.getElem?_eq_getElem _⟩, fun hi => ⟨vs, q, by rw [r.length]; exact hi⟩, fun x H'' _ ⟨e2, y⟩ => ?_⟩
  subst e2
  obtain ⟨d, e3, rd⟩ := r.get (y vs q)
  exact ⟨d, e3, Same.refl _, rep_walk rd hS s⟩
theorem di_list {tl : TE} {k : List D → Prop} (h : DT K E tl G O (fun a => ∃ xs, a = .lst xs ∧ k xs) ke) : DI K E (iList K tl) G O k ke := fun S0 Os σ H R st hR he =>
  h.bind st he fun x H1 a ⟨xs, e, kx⟩ s1 st1 he1 rx => by
    subst e
    cases rx with
    | lst n hh r => exact ⟨_, rfl, ⟨_, SqL.of hh⟩, hR _ H1 xs kx s1 (wk_list n hh r)⟩
def rngD (lo : Int) (n : Nat) : List D := (List.range n).map fun i => D.int (lo + (i : Nat))
theorem rngD_get {lo : Int} {n i : Nat} (h : i < n) : (rngD lo n)[i]? = some (.int (lo + (i : Nat))) := by
  unfold rngD
  rw [List.getElem?_map, List.getElem?_range h]; rfl
theorem rngD_len {lo : Int} {n : Nat} : (rngD lo n).length = n := by unfold rngD; simp
theorem wk_range {S : Addr → Prop} {H1 : Hp} {lo : Int} {n : Nat} : Wk K S (Itr lo n) H1 (rngD lo n) := fun S' H' hS dm s i => by
  refine ⟨fun hi => by rw [rngD_len] at hi; exact hi, fun hi => by rw [rngD_len] at hi; exact hi, fun x H'' hi y => ?_⟩
  obtain ⟨e1, e2⟩ := y
  subst e1 e2
  rw [rngD_len] at hi
  exact ⟨_, rngD_get hi, Same.refl _, .int _⟩
theorem di_range1 {ta : TA} {k : List D → Prop} (h : DA K E ta G O (fun ds => ∃ j : Int, ds = [.int j] ∧ -(2 ^ 62) ≤ j ∧ j < 2 ^ 62 ∧ k (rngD 0 j.toNat)) ke) : DI K E (iRng1 ta) G O k ke := fun S0 Os σ H R st hR he =>
  h.bind st he fun xs H1 ds ⟨j, e, l1, l2, kx⟩ s1 st1 he1 rx => by
    subst e
    cases rx with | cons h t => cases h; cases t; exact ⟨j, rfl, l1, l2, hR _ H1 _ kx s1 wk_range⟩
theorem di_range2 {ta : TA} {k : List D → Prop} (h : DA K E ta G O (fun ds => ∃ i j : Int, ds = [.int i, .int j] ∧ (-(2 ^ 62) ≤ i ∧ i < 2 ^ 62 ∧ -(2 ^ 62) ≤ j ∧ j < 2 ^ 62) ∧ k (rngD i (j - i).toNat)) ke) : DI K E (iRng2 ta) G O k ke := fun S0 Os σ H R st hR he =>
  h.bind st he fun xs H1 ds ⟨i, j, e, l, kx⟩ s1 st1 he1 rx => by
    subst e
    cases rx with | cons h t => cases h; cases t with | cons h t => cases h; cases t; exact ⟨i, j, rfl, l, hR _ H1 _ kx s1 wk_range⟩
/-- range with a step -/
def rngC (lo c : Int) (n : Nat) : List D := (List.range n).map fun i => D.int (lo + (i : Nat) * c)
theorem rngC_get {lo c : Int} {n i : Nat} (h : i < n) : (rngC lo c n)[i]? = some (.int (lo + (i : Nat) * c)) := by
  unfold rngC
  rw [List.getElem?_map, List.getElem?_range h]; rfl
theorem rngC_len {lo c : Int} {n : Nat} : (rngC lo c n).length = n := by unfold rngC; simp
theorem wk_rangeC {S : Addr → Prop} {H1 : Hp} {lo c : Int} {n : Nat} : Wk K S (Itc lo c n) H1 (rngC lo c n) := fun S' H' hS dm s i => by
  refine ⟨fun hi => by rw [rngC_len] at hi; exact hi, fun hi => by rw [rngC_len] at hi; exact hi, fun x H'' hi y => ?_⟩
  obtain ⟨e1, e2⟩ := y
  subst e1 e2
  rw [rngC_len] at hi
  exact ⟨_, rngC_get hi, Same.refl _, .int _⟩
theorem di_range3 {ta : TA} {k : List D → Prop} (h : DA K E ta G O (fun ds => ∃ (i j c : Int) (n : Nat), ds = [.int i, .int j, .int c] ∧ RgC i j c n ∧ k (rngC i c n)) ke) : DI K E (iRng3 ta) G O k ke := fun S0 Os σ H R st hR he =>
  h.bind st he fun xs H1 ds ⟨i, j, c, n, e, l, kx⟩ s1 st1 he1 rx => by
    subst e
    cases rx with | cons h t => cases h; cases t with | cons h t => cases h; cases t with | cons h t => cases h; cases t; exact ⟨i, j, c, n, rfl, l, hR _ H1 _ kx s1 wk_rangeC⟩
/-- a text, sign by sign -/
def signs (x : Str) : List D := x.cps.toList.map fun c => D.str ⟨#[c]⟩
theorem wk_str {S : Addr → Prop} {H1 : Hp} {x : Str} : Wk K S (Its x) H1 (signs x) := fun S' H' hS dm s i => by
  have hl : (signs x).length = x.cps.size := by unfold signs; simp
  refine ⟨fun hi => by rw [hl] at hi; exact hi, fun hi => by rw [hl] at hi; exact hi, fun v H'' hi y => ?_⟩
  obtain ⟨e1, c, e2, e3⟩ := y
  subst e1 e3
  refine ⟨.str ⟨#[c]⟩, ?_, Same.refl _, .str _⟩
  unfold signs
  rw [List.getElem?_map, Array.getElem?_toList, e2]; rfl
theorem di_str {te : TE} {k : List D → Prop} (h : DT K E te G O (fun a => ∃ x, a = .str x ∧ k (signs x)) ke) : DI K E (iStr te) G O k ke := fun S0 Os σ H R st hR he =>
  h.bind st he fun v H1 a ⟨x, e, kx⟩ s1 st1 he1 rx => by
    subst e
    cases rx
    exact ⟨x, rfl, hR _ H1 _ kx s1 wk_str⟩
theorem reps_pair {S : Addr → Prop} {H : Hp} {i : Nat} {key : Key} {v : V} {kvs : List (Key × V)} {ds : List (Key × D)} (e : kvs.map Prod.fst = ds.map Prod.fst) (r : Reps K S H (kvs.map Prod.snd) (ds.map Prod.snd)) (h : kvs[i]? = some (key, v)) : ∃ d, ds[i]? = some (key, d) ∧ Rep K S H v d := by
  have h1 : (kvs.map Prod.snd)[i]? = some v := by rw [List.getElem?_map, h]; rfl
  obtain ⟨d, hd, rd⟩ := r.get h1
  have h2 : (ds.map Prod.fst)[i]? = some key := by rw [← e, List.getElem?_map, h]; rfl
  rw [List.getElem?_map] at hd h2
  cases q : ds[i]? with
  | none => rw [q] at hd; cases hd
  | some p =>
    rw [q] at hd h2
    obtain ⟨p1, p2⟩ := p
    cases hd; cases h2
    exact ⟨_, rfl, rd⟩
theorem len_pair {kvs : List (Key × V)} {ds : List (Key × D)} (e : kvs.map Prod.fst = ds.map Prod.fst) : kvs.length = ds.length := by
  have := congrArg List.length e
  simpa using this
/-- the dict behind tLk -/
theorem lk_dic {S : Addr → Prop} {td : TE} {S0 : Addr → Prop} {Os : OLa} {σ : L2.St} {H : Hp} {Q : VK} {k : List (Key × D) → Prop} (h : DT K E td G O (fun a => ∃ kvs, a = .dic kvs ∧ k kvs) ke) (st : St1 K S0 G O Os σ H) (he : EOk K (SO S0 Os) H E ke)
    (hq : ∀ (d : Addr) (od : Obj) (kvs : List (Key × V)) (ds : List (Key × D)) (Hm H1 : Hp), k ds → Same H Hm → Lkd (SO S0 Os) Hm H1 → ¬ SO S0 Os d → H1 d = some (.frz od (.dK kvs)) → kvs.map Prod.fst = ds.map Prod.fst → Reps K (SO S0 Os) H1 (kvs.map Prod.snd) (ds.map Prod.snd) → Q (.ref d) H1) :
    tLk td σ H Q :=
  h.bind st he fun x H1 a ⟨ds, e, kx⟩ s1 st1 he1 rx => by
    subst e
    cases rx with
    | dic n hh ek r =>
      refine ⟨_, _, rfl, hh, fun od H2 hl => ?_⟩
      have lk : Lkd (SO S0 Os) H1 H2 := by
        rcases hl with ⟨h1, h2⟩ | ⟨_, h2⟩
        · exact .inr ⟨_, od, _, n, h1, h2⟩
        · exact .inl h2
      refine hq _ od _ ds H1 H2 kx s1 lk n ?_ ek (Reps.mono lk.lex r)
      rcases hl with ⟨_, h2⟩ | ⟨h1, h2⟩
      · rw [h2]; exact upd_same
      · rw [h2]; exact h1
theorem di_items {td : TE} {k : List D → Prop} (h : DT K E td G O (fun a => ∃ kvs : List (Key × D), a = .dic kvs ∧ k (kvs.map fun p => D.tup [kD p.1, p.2])) ke) : DIL K E (iItems (tLk td)) G O k ke := fun S0 Os σ H R st hR he =>
  lk_dic (S := SO S0 Os) h st he fun d od kvs ds Hm H1 kx s1 lk n hd ek r => by
    refine ⟨d, od, kvs, rfl, hd, hR _ Hm H1 _ kx s1 lk fun S' H' hS dm s i => ?_⟩
    have e := s d n _ hd
    have hl : (ds.map fun p => D.tup [kD p.1, p.2]).length = kvs.length := by rw [List.length_map, len_pair ek]
    refine ⟨fun hi => ⟨e, by rw [← hl]; exact hi⟩, fun hi => ⟨e, by rw [← hl]; exact hi⟩, fun x H'' _ y => ?_⟩
    obtain ⟨T, key, v, h1, h2, h3, h4⟩ := y
    subst h2 h4
    obtain ⟨d', hd', rd⟩ := reps_pair ek r h1
    refine ⟨D.tup [kD key, d'], by rw [List.getElem?_map, hd']; rfl, Same.put h3, ?_⟩
    have nT : ¬ S' T := fun z => dm T z h3
    exact .tup nT upd_same (.cons (kD_rep _) (.cons (Rep.same (rep_walk rd hS s) (Same.put h3)) .nil))
theorem di_values {td : TE} {k : List D → Prop} (h : DT K E td G O (fun a => ∃ kvs : List (Key × D), a = .dic kvs ∧ k (kvs.map fun p => p.2)) ke) : DIL K E (iVals (tLk td)) G O k ke := fun S0 Os σ H R st hR he =>
  lk_dic (S := SO S0 Os) h st he fun d od kvs ds Hm H1 kx s1 lk n hd ek r => by
    refine ⟨d, od, kvs, rfl, hd, hR _ Hm H1 _ kx s1 lk fun S' H' hS dm s i => ?_⟩
    have e := s d n _ hd
    have hl : (ds.map fun p => p.2).length = kvs.length := by rw [List.length_map, len_pair ek]
    refine ⟨fun hi => ⟨e, by rw [← hl]; exact hi⟩, fun hi => ⟨e, by rw [← hl]; exact hi⟩, fun x H'' _ y => ?_⟩
    obtain ⟨h1, key, h2⟩ := y
    subst h1
    obtain ⟨d', hd', rd⟩ := reps_pair ek r h2
    exact ⟨d', by rw [List.getElem?_map, hd']; rfl, Same.refl _, rep_walk rd hS s⟩
theorem di_keys {td : TE} {k : List D → Prop} (h : DT K E td G O (fun a => ∃ kvs : List (Key × D), a = .dic kvs ∧ k (kvs.map fun p => kD p.1)) ke) : DIL K E (iKeys (tLk td)) G O k ke := fun S0 Os σ H R st hR he =>
  lk_dic (S := SO S0 Os) h st he fun d od kvs ds Hm H1 kx s1 lk n hd ek r => by
    refine ⟨d, od, rfl, .inl ⟨kvs, hd, hR _ Hm H1 _ kx s1 lk fun S' H' hS dm s i => ?_⟩⟩
    have e := s d n _ hd
    have hl : (ds.map fun p => kD p.1).length = kvs.length := by rw [List.length_map, len_pair ek]
    refine ⟨fun hi => ⟨e, by rw [← hl]; exact hi⟩, fun hi => ⟨e, by rw [← hl]; exact hi⟩, fun x H'' _ y => ?_⟩
    obtain ⟨h1, key, v, h2, h3⟩ := y
    subst h1 h3
    obtain ⟨d', hd', rd⟩ := reps_pair ek r h2
    exact ⟨kD key, by rw [List.getElem?_map, hd']; rfl, Same.refl _, kD_rep _⟩
theorem di_keysM {td : TE} {k : List D → Prop} (h : DT K E td G O (fun a => ∃ kvs : List (Key × D), a = .dic kvs ∧ k (kvs.map fun p => kD p.1)) ke) : DIL K E (iKeysM (tLk td)) G O k ke := fun S0 Os σ H R st hR he =>
  lk_dic (S := SO S0 Os) h st he fun d od kvs ds Hm H1 kx s1 lk n hd ek r => by
    refine ⟨d, od, kvs, rfl, hd, hR _ Hm H1 _ kx s1 lk fun S' H' hS dm s i => ?_⟩
    have e := s d n _ hd
    have hl : (ds.map fun p => kD p.1).length = kvs.length := by rw [List.length_map, len_pair ek]
    refine ⟨fun hi => ⟨e, by rw [← hl]; exact hi⟩, fun hi => ⟨e, by rw [← hl]; exact hi⟩, fun x H'' _ y => ?_⟩
    obtain ⟨h1, key, v, h2, h3⟩ := y
    subst h1 h3
    obtain ⟨d', hd', rd⟩ := reps_pair ek r h2
    exact ⟨kD key, by rw [List.getElem?_map, hd']; rfl, Same.refl _, kD_rep _⟩
/-- enumerate -/
def enumD (xs : List D) : List D := (List.range xs.length).map fun i => D.tup [.int (i : Nat), xs.getD i .non]
theorem di_enum {ta : TA} {k : List D → Prop} (h : DA K E ta G O (fun ds => ∃ xs, ds = [.lst xs] ∧ k (enumD xs)) ke) : DI K E (iEnum K ta) G O k ke := fun S0 Os σ H R st hR he =>
  h.bind st he fun vs H1 ds ⟨xs, e, kx⟩ s1 st1 he1 rx => by
    subst e
    cases rx with
    | cons h t =>
      cases t
      cases h with
      | lst n hh r =>
        rename_i a us
        have hl : (enumD xs).length = xs.length := by unfold enumD; simp
        refine ⟨_, _, rfl, SqL.of hh, hR _ H1 _ kx s1 fun S' H' hS dm s i => ?_⟩
        have e := s a n _ hh
        have q : SqL K H' a us := SqL.of e
        refine ⟨fun hi => ?_, fun hi => ?_, fun x H'' hi y => ?_⟩
        · exact ⟨us, us[i]'(by rw [r.length, ← hl]; exact hi), q, List.getElem?_eq_getElem _⟩
        · exact ⟨us, q, by rw [r.length, ← hl]; exact hi⟩
        · obtain ⟨T, z, e1, e2, e3, e4⟩ := y
          subst e1 e3
          obtain ⟨d, hd, rd⟩ := r.get (e4 us q)
          refine ⟨D.tup [.int (i : Nat), d], ?_, Same.put e2, ?_⟩
          · have hi' : i < xs.length := by rw [← hl]; exact hi
            unfold enumD
            rw [List.getElem?_map, List.getElem?_range hi']
            show some (D.tup [.int (i : Nat), xs.getD i .non]) = _
            rw [List.getD_eq_getElem?_getD, hd]; rfl
          · exact .tup (fun z => dm T z e2) upd_same (.cons (.int _) (.cons (Rep.same (rep_walk rd hS s) (Same.put e2)) .nil))
/-! ### targets -/
def DG (K : PySem.W.Frag) (g : TG) (is : List Nat) (d : D) (G : Gm) (O : OL) (k : Gm → Prop) : Prop := ∀ (S0 : Addr → Prop) (Os : OLa) (σ : L2.St) (H : Hp) (v : V) (Q : L2.St → Hp → Prop), St1 K S0 G O Os σ H → Rep K (SO S0 Os) H v d →
  (∀ G' σ', k G' → St1 K S0 G' O Os σ' H → σ'.length = σ.length → (∀ n, n ∉ is → σ'[n]? = σ[n]?) → Q σ' H) → g v σ H Q
def DGs (K : PySem.W.Frag) (g : TGs) (is : List Nat) (ds : List D) (G : Gm) (O : OL) (k : Gm → Prop) : Prop := ∀ (S0 : Addr → Prop) (Os : OLa) (σ : L2.St) (H : Hp) (vs : List V) (Q : L2.St → Hp → Prop), St1 K S0 G O Os σ H → Reps K (SO S0 Os) H vs ds →
  (∀ G' σ', k G' → St1 K S0 G' O Os σ' H → σ'.length = σ.length → (∀ n, n ∉ is → σ'[n]? = σ[n]?) → Q σ' H) → g vs σ H Q
theorem dg_name {i : Nat} {d : D} {k : Gm → Prop} (hi : ∀ o ∈ O, o.1 ≠ i) (h : k (G.set i (some d))) : DG K (gName i) [i] d G O k := fun S0 Os σ H v Q st r hq =>
  hq _ _ h (st.set r hi) (List.length_set ..) fun n hn => List.getElem?_set_ne fun z => hn (by rw [z]; exact List.mem_singleton.mpr rfl)
theorem dgs_nil {k : Gm → Prop} (h : k G) : DGs K gNil [] [] G O k := fun S0 Os σ H vs Q st r hq => by
  cases r
  exact ⟨rfl, hq G σ h st rfl fun _ _ => rfl⟩
theorem dgs_cons {t : TG} {u : TGs} {is js : List Nat} {d : D} {ds : List D} {k : Gm → Prop} (h : DG K t is d G O (fun G1 => DGs K u js ds G1 O k)) : DGs K (gCons t u) (is ++ js) (d :: ds) G O k := fun S0 Os σ H vs Q st r hq => by
  cases r with
  | cons h1 h2 =>
    refine ⟨_, _, rfl, h S0 Os σ H _ _ st h1 fun G1 σ1 k1 st1 l1 e1 => k1 S0 Os σ1 H _ Q st1 h2 fun G2 σ2 k2 st2 l2 e2 => hq G2 σ2 k2 st2 (l2.trans l1) fun n hn => ?_⟩
    rw [e2 n (fun z => hn (List.mem_append_right _ z)), e1 n (fun z => hn (List.mem_append_left _ z))]
theorem dg_tup {n : Nat} {t : TGs} {is : List Nat} {ds : List D} {k : Gm → Prop} (hl : ds.length = n) (h : DGs K t is ds G O k) : DG K (gTup K n t) is (.tup ds) G O k := fun S0 Os σ H v Q st r hq => by
  cases r with
  | tup nn hh rr => exact ⟨_, _, rfl, SqT.of hh, by rw [rr.length]; exact hl, h S0 Os σ H _ Q st rr hq⟩

/-! ### comprehensions -/
def wipeG (G : Gm) : List Nat → Gm
  | [] => G
  | v :: vs => (wipeG G vs).set v none
theorem wipeG_len (G : Gm) : ∀ vs : List Nat, (wipeG G vs).length = G.length
  | [] => rfl
  | v :: vs => by unfold wipeG; rw [List.length_set, wipeG_len G vs]
theorem wipe_get {σ : L2.St} {n : Nat} : ∀ {vs : List Nat}, n ∉ vs → (wipe σ vs)[n]? = σ[n]?
  | [], _ => rfl
  | v :: vs, h => by
    unfold wipe
    rw [List.getElem?_set_ne fun z => h (by rw [z]; exact List.mem_cons_self), wipe_get fun z => h (List.mem_cons_of_mem _ z)]
theorem wipe_in {σ : L2.St} {n : Nat} (hn : n < σ.length) : ∀ {vs : List Nat}, n ∈ vs → (wipe σ vs)[n]? = some none
  | v :: vs, h => by
    unfold wipe
    by_cases e : v = n
    · subst e; rw [List.getElem?_set_self (by rw [wipe_length]; exact hn)]
    · rw [List.getElem?_set_ne e]
      exact wipe_in hn ((List.mem_cons.mp h).resolve_left fun z => e z.symm)
theorem wipeG_some {n : Nat} {d : D} : ∀ {vs : List Nat}, (wipeG G vs)[n]? = some (some d) → G[n]? = some (some d) ∧ n ∉ vs
  | [], h => ⟨h, by simp⟩
  | v :: vs, h => by
    unfold wipeG at h
    by_cases hi : v = n
    · subst hi
      by_cases hv : v < (wipeG G vs).length
      · rw [List.getElem?_set_self hv] at h; cases h
      · rw [List.getElem?_eq_none (by simpa using hv)] at h; cases h
    · rw [List.getElem?_set_ne hi] at h
      obtain ⟨h1, h2⟩ := wipeG_some h
      exact ⟨h1, by simp only [List.mem_cons, not_or]; exact ⟨fun e => hi e.symm, h2⟩⟩
theorem wipe_same {σ τ : L2.St} {vs is : List Nat} (hs : ∀ i ∈ is, i ∈ vs) (hl : τ.length = σ.length) (h : ∀ n, n ∉ is → τ[n]? = (wipe σ vs)[n]?) : wipe τ vs = wipe σ vs := by
  apply List.ext_getElem?
  intro n
  by_cases hn : n ∈ vs
  · by_cases hlt : n < σ.length
    · rw [wipe_in (by rw [hl]; exact hlt) hn, wipe_in hlt hn]
    · rw [List.getElem?_eq_none (by rw [wipe_length, hl]; omega), List.getElem?_eq_none (by rw [wipe_length]; omega)]
  · rw [wipe_get hn, h n fun z => hn (hs n z)]
theorem St1.wipe {S0 : Addr → Prop} {Os : OLa} {σ : L2.St} {H : Hp} (h : St1 K S0 G O Os σ H) {vs : List Nat} (hv : ∀ o ∈ O, o.1 ∉ vs) : St1 K S0 (wipeG G vs) O Os (L2.wipe σ vs) H where
  os := h.os
  nd := h.nd
  dom := h.dom
  ns := h.ns
  len := by rw [wipe_length, wipeG_len]; exact h.len
  re := fun i d e => by
    obtain ⟨e1, e2⟩ := wipeG_some e
    obtain ⟨v, e3, r⟩ := h.re i d e1
    exact ⟨v, by rw [wipe_get e2]; exact e3, r⟩
  own := fun p hp => by
    obtain ⟨h1, h2⟩ := h.own p hp
    refine ⟨?_, h2⟩
    rw [wipe_get (hv p.2 (by rw [← h.os]; exact List.mem_map_of_mem hp))]
    exact h1
/-- what a comprehension makes of the items -/
inductive LcR (R : D → Option D → Prop) : List D → List D → Prop where
  | nil : LcR R [] []
  | keep {x y : D} {xs ys : List D} : R x (some y) → LcR R xs ys → LcR R (x :: xs) (y :: ys)
  | skip {x : D} {xs ys : List D} : R x none → LcR R xs ys → LcR R (x :: xs) ys
theorem LcR.snoc {R : D → Option D → Prop} {xs ys : List D} {x y : D} (h : LcR R xs ys) (r : R x (some y)) : LcR R (xs ++ [x]) (ys ++ [y]) := by
  induction h with
  | nil => exact .keep r .nil
  | keep q _ ih => exact .keep q ih
  | skip q _ ih => exact .skip q ih
theorem LcR.snoc0 {R : D → Option D → Prop} {xs ys : List D} {x : D} (h : LcR R xs ys) (r : R x none) : LcR R (xs ++ [x]) ys := by
  induction h with
  | nil => exact .skip r .nil
  | keep q _ ih => exact .keep q ih
  | skip q _ ih => exact .skip q ih
theorem LcR.le {R : D → Option D → Prop} {xs ys : List D} (h : LcR R xs ys) : ys.length ≤ xs.length := by
  induction h with
  | nil => exact Nat.le_refl _
  | keep q _ ih => exact Nat.succ_le_succ ih
  | skip q _ ih => exact Nat.le_succ_of_le ih
theorem LcR.map {R : D → Option D → Prop} {f : D → D} : ∀ {xs ys : List D}, LcR R xs ys → (∀ x ∈ xs, ∀ o, R x o → o = some (f x)) → ys = xs.map f
  | _, _, .nil, _ => rfl
  | _, _, .keep r t, h => by
    have e := h _ List.mem_cons_self _ r
    cases e
    rw [LcR.map t fun x hx => h x (List.mem_cons_of_mem _ hx)]; rfl
  | _, _, .skip r t, h => by cases h _ List.mem_cons_self _ r
theorem LcR.filter {R : D → Option D → Prop} {p : D → Bool} {f : D → D} : ∀ {xs ys : List D}, LcR R xs ys → (∀ x ∈ xs, ∀ o, R x o → o = if p x then some (f x) else none) → ys = (xs.filter p).map f
  | _, _, .nil, _ => rfl
  | x :: _, _, .keep r t, h => by
    have e := h x List.mem_cons_self _ r
    cases hp : p x with
    | false => rw [hp] at e; cases e
    | true =>
      rw [hp] at e; cases e
      rw [LcR.filter t fun x hx => h x (List.mem_cons_of_mem _ hx), List.filter_cons_of_pos hp]; rfl
  | x :: _, _, .skip r t, h => by
    have e := h x List.mem_cons_self _ r
    cases hp : p x with
    | true => rw [hp] at e; cases e
    | false =>
      rw [LcR.filter t fun x hx => h x (List.mem_cons_of_mem _ hx), List.filter_cons_of_neg (by rw [hp]; exact Bool.false_ne_true)]
theorem take_snoc {xs : List D} {i : Nat} {d : D} (h : xs[i]? = some d) : xs.take (i + 1) = xs.take i ++ [d] := by
  obtain ⟨hl, e⟩ := List.getElem?_eq_some_iff.mp h
  rw [List.take_succ, h]; rfl
/-- an item's turn -/
def LcT (K : PySem.W.Frag) (E : XK) (g : TG) (is : List Nat) (tt : TT) (te : TE) (G : Gm) (O : OL) (R : D → Option D → Prop) (x : D) : Prop :=
  DG K g is x G O fun G1 => DTT K E tt G1 O (fun b => (b = true → DT K E te G1 O (fun y => R x (some y)) F0) ∧ (b = false → R x none)) F0
theorem lc_loop {g : TG} {is : List Nat} {tt : TT} {te : TE} {vs : List Nat} {R : D → Option D → Prop} {xs : List D} {J : It} {S0 : Addr → Prop} {Os : OLa} {σ : L2.St} {H1 : Hp} {Q : VK} (st : St1 K S0 G O Os σ H1) (wk : Wk K (SO S0 Os) J H1 xs)
    (hs : ∀ i ∈ is, i ∈ vs) (hv : ∀ o ∈ O, o.1 ∉ vs) (hl : xs.length < sizeLine) (ht : ∀ x ∈ xs, LcT K E g is tt te (wipeG G vs) O R x)
    (hq : ∀ p H' ys, LcR R xs ys → Same H1 H' → H1 p = none → OwnAt K (fun b => SO S0 Os b ∨ b = p) H' p (.lst ys) → Q (.ref p) H') :
    ∀ p, H1 p = none → ∃ W : Nat → Nat → Hp → Prop, (∃ m, W 0 m (upd H1 p (.lst []))) ∧ ∀ i m H, W i m H → (J.stop i H ∧ Q (.ref p) H) ∨ (J.go i H ∧ ∃ Nx : Hp → Prop, (∀ H', Nx H' → ∃ m', m' < m ∧ W (i + 1) m' H') ∧ ∀ x H', J.yld i H x H' → g x (wipe σ vs) H' fun σ2 H2 => wipe σ2 vs = wipe σ vs ∧ tt σ2 H2 fun b H3 =>
        if b = true then te σ2 H3 fun y H4 => ∃ acc, H4 p = some (.lst acc) ∧ acc.length < sizeLine ∧ Nx (upd H4 p (.lst (acc ++ [y]))) else Nx H3) := fun p np => by
  have nS : ¬ SO S0 Os p := fun z => st.domW p z np
  let S' : Addr → Prop := fun b => SO S0 Os b ∨ b = p
  let Pv : Nat → Hp → Prop := fun i H => Same H1 H ∧ ∃ acc ys, H p = some (.lst acc) ∧ Reps K S' H acc ys ∧ LcR R (xs.take i) ys
  refine ⟨fun i m H => m = xs.length - i ∧ i ≤ xs.length ∧ Pv i H, ⟨_, rfl, Nat.zero_le _, Same.put np, [], [], upd_same, .nil, .nil⟩, ?_⟩
  rintro i m H ⟨rfl, hi, s1, acc, ys, hp, ra, lr⟩
  have hS' : ∀ a, S' a → SO S0 Os a ∨ H1 a = none := fun a z => z.elim .inl fun e => .inr (by rw [e]; exact np)
  have dm : ∀ a, S' a → H a ≠ none := fun a z q => z.elim (fun y => st.domW a y (s1.free q)) fun e => by rw [e, hp] at q; cases q
  obtain ⟨wg, ws, wy⟩ := wk S' H hS' dm (Same.sx s1) i
  by_cases hlt : i < xs.length
  · refine .inr ⟨wg hlt, Pv (i + 1), fun H' p' => ⟨xs.length - (i + 1), by omega, rfl, hlt, p'⟩, fun x H' y => ?_⟩
    obtain ⟨d, hd, s2, rd⟩ := wy x H' hlt y
    -- the block's state
    let S0' : Addr → Prop := fun b => S0 b ∨ b = p
    have so : ∀ a, SO S0' Os a → S' a := fun a z => z.elim (fun z => z.elim (fun z => .inl (.inl z)) .inr) fun z => .inl (.inr z)
    have os : ∀ a, S' a → SO S0' Os a := fun a z => z.elim (fun z => z.elim (fun z => .inl (.inl z)) .inr) fun z => .inl (.inr z)
    have s12 : Same H1 H' := s1.trans s2
    have st0 := (st.wipe hv).same s12
    have hp' : H' p = some (.lst acc) := s2 _ _ hp
    have stI : St1 K S0' (wipeG G vs) O Os (wipe σ vs) H' := by
      refine ⟨st0.os, st0.nd, fun a z => z.elim (st0.dom a) fun e => by rw [e, hp']; simp, fun a w z => z.elim (st0.ns a w) fun e => nS (by rw [← e]; exact .inr w), st0.len, fun j e q => ?_, fun q hq => ?_⟩
      · obtain ⟨v, e1, r⟩ := (st.wipe hv).re j e q
        exact ⟨v, e1, Rep.same (Rep.avoid (fun a z => hS' a (so a z)) r) s12⟩
      · obtain ⟨h1, h2⟩ := (st.wipe hv).own q hq
        refine ⟨h1, ?_⟩
        generalize q.2.2 = ow at h2 ⊢
        cases ow with
        | lst ds => obtain ⟨us, e, r⟩ := h2; exact ⟨us, s12 _ _ e, Reps.same (Reps.avoid (fun a z => hS' a (so a z)) r) s12⟩
        | dic ds => obtain ⟨us, e, q, r⟩ := h2; exact ⟨us, s12 _ _ e, q, Reps.same (Reps.avoid (fun a z => hS' a (so a z)) r) s12⟩
        | obj c ds => obtain ⟨dx, us, e, q, r⟩ := h2; exact ⟨dx, us, s12 _ _ e, q, Reps.same (Reps.avoid (fun a z => hS' a (so a z)) r) s12⟩
        | slf _ c ds => obtain ⟨ea, dx, us, e, q, r⟩ := h2; exact ⟨ea, dx, us, s12 _ _ e, q, Reps.same (Reps.avoid (fun a z => hS' a (so a z)) r) s12⟩
    refine ht d (List.mem_of_getElem? hd) S0' Os (wipe σ vs) H' x _ stI (Rep.weak so rd) fun G1 σ1 k1 st1 l1 e1 => ?_
    refine ⟨wipe_same hs (l1.trans (wipe_length σ vs)) e1, ?_⟩
    refine k1.bind st1 eok_e0 fun b H3 kb s3 st3 he3 => ?_
    have ra3 : Reps K S' H3 acc ys := ra.same (s2.trans s3)
    have hp3 : H3 p = some (.lst acc) := s3 _ _ hp'
    cases b with
    | true =>
      refine iteT ((kb.1 rfl).bind st3 he3 fun y H4 e ke s4 st4 he4 ry => ?_)
      have hp4 : H4 p = some (.lst acc) := s4 _ _ hp3
      have la : acc.length < sizeLine := by
        rw [ra.length]
        have l1 := lr.le
        rw [List.length_take] at l1
        omega
      refine ⟨acc, hp4, la, fun a u q => ?_, acc ++ [y], ys ++ [e], upd_same, ?_, ?_⟩
      · rw [upd_ne fun z => by rw [z, np] at q; cases q]
        exact s4 _ _ (s3 _ _ (s12 _ _ q))
      · exact Reps.mono (LeX.put (S := S') (.inr rfl)) ((ra3.same s4).append (.cons (Rep.weak os ry) .nil))
      · rw [take_snoc hd]; exact lr.snoc ke
    | false =>
      refine iteF ⟨s12.trans s3, acc, ys, hp3, ra3, ?_⟩
      rw [take_snoc hd]; exact lr.snoc0 (kb.2 rfl)
  · have e : i = xs.length := by omega
    subst e
    rw [List.take_length] at lr
    exact .inl ⟨ws (Nat.le_refl _), hq p H ys lr s1 np ⟨acc, hp, ra⟩⟩
/-- a comprehension over what stands -/
theorem df_lc {wi : TI} {g : TG} {tt : TT} {te : TE} {vs : List Nat} (is : List Nat) (R : D → Option D → Prop) {k : Ow → Prop} (hs : ∀ i ∈ is, i ∈ vs) (hv : ∀ o ∈ O, o.1 ∉ vs)
    (h : DI K E wi G O (fun xs => xs.length < sizeLine ∧ (∀ x ∈ xs, LcT K E g is tt te (wipeG G vs) O R x) ∧ ∀ ys, LcR R xs ys → k (.lst ys)) ke) : DF K E (tLc wi g tt te vs) G O k ke := fun S0 Os σ H Q st hq he =>
  h S0 Os σ H _ st (fun J H1 xs ⟨hl, ht, hk⟩ s1 wk => lc_loop (st.same s1) wk hs hv hl ht fun p H' ys lr s2 np oa => hq p H' _ (hk ys lr) (s1.trans s2) (s1.free np) oa) he
/-- .. over a dict, which is locked meanwhile -/
theorem unl_same {H H1 H2 H3 : Hp} {S : Addr → Prop} (l : Lkd S H H1) (s : Same H1 H2) : ∃ H3, Ulk H H2 H3 ∧ Same H H3 ∧ LeX (fun _ => False) H2 H3 ∧ ∀ a, (S a ∨ H1 a = none) → H3 a = H2 a := by
  rcases l with e | ⟨d, od, kvs, n, hd, e⟩
  · subst e
    exact ⟨H2, .inl rfl, s, LeX.rfl', fun _ _ => rfl⟩
  · have e1 : H1 d = some (.frz od (.dK kvs)) := by rw [e]; exact upd_same
    have e2 := s d _ e1
    refine ⟨upd H2 d (.dK kvs), .inr ⟨d, od, kvs, e2, (fun o u z => by rw [hd] at z; cases z), rfl⟩, fun a u q => ?_, fun a _ => ?_, fun a ta => upd_ne fun z => ?_⟩
    · by_cases h : a = d
      · subst h; rw [hd] at q; cases q; exact upd_same
      · rw [upd_ne h]
        exact s a u (by rw [e, upd_ne h]; exact q)
    · by_cases h : a = d
      · subst h
        refine ⟨fun u su q => ?_, fun k r => ?_⟩
        · rw [e2] at q; cases q; exact su.elim
        · rcases r with r | ⟨o, r⟩
          · rw [e2] at r; cases r
          · rw [e2] at r; cases r; exact .inl upd_same
      · refine ⟨fun u su q => by rw [upd_ne h]; exact q, fun k r => ?_⟩
        rcases r with r | ⟨o, r⟩
        · exact .inl (by rw [upd_ne h]; exact r)
        · exact .inr ⟨o, by rw [upd_ne h]; exact r⟩
    · rw [z] at ta
      rcases ta with ta | ta
      · exact n ta
      · rw [e1] at ta; cases ta
theorem df_lcL {wi : TI} {g : TG} {tt : TT} {te : TE} {vs : List Nat} (is : List Nat) (R : D → Option D → Prop) {k : Ow → Prop} (hs : ∀ i ∈ is, i ∈ vs) (hv : ∀ o ∈ O, o.1 ∉ vs)
    (h : DIL K E wi G O (fun xs => xs.length < sizeLine ∧ (∀ x ∈ xs, LcT K E g is tt te (wipeG G vs) O R x) ∧ ∀ ys, LcR R xs ys → k (.lst ys)) ke) : DF K E (tUnlE (tLc wi g tt te vs)) G O k ke := fun S0 Os σ H Q st hq he =>
  h S0 Os σ H _ st (fun J Hm H1 xs ⟨hl, ht, hk⟩ s1 lk wk => by
    have st1 : St1 K S0 G O Os σ H1 := (st.same s1).lex lk.lex fun a z => lk.at_ z
    refine lc_loop (Q := fun v H2 => ∃ H3, Ulk H H2 H3 ∧ Q v H3) st1 wk hs hv hl ht fun p H' ys lr s2 np oa => ?_
    obtain ⟨H3, u, s3, lx, e3⟩ := unl_same (H3 := H') lk s2
    have npm : Hm p = none := (lk.noneIff).mp np
    refine ⟨H3, ?_, hq p H3 _ (hk ys lr) (s1.trans s3) (s1.free npm) ?_⟩
    · rcases u with u | ⟨d, od, kvs, h1, h2, h3⟩
      · exact .inl u
      · exact .inr ⟨d, od, kvs, h1, fun o u z => h2 o u (s1 _ _ z), h3⟩
    · obtain ⟨acc, q, r⟩ := oa
      exact ⟨acc, (e3 p (.inr np)).trans q, Reps.mono (lx.weak fun _ z => z.elim) r⟩) he

/-! ### dict comprehensions -/
def putD (kvs : List (Key × D)) (k : Key) (v : D) : List (Key × D) :=
  if (kvs.any fun kv => decide (kv.1 = k)) = true then kvs.map (fun kv => if kv.1 = k then (kv.1, v) else kv) else kvs ++ [(k, v)]
theorem any_keys {k : Key} : ∀ {kvs : List (Key × V)} {ds : List (Key × D)}, kvs.map Prod.fst = ds.map Prod.fst → (kvs.any fun kv => decide (kv.1 = k)) = (ds.any fun kv => decide (kv.1 = k))
  | [], [], _ => rfl
  | [], _ :: _, h => by simp at h
  | _ :: _, [], h => by simp at h
  | p :: r, q :: s, h => by
    have h1 : p.1 = q.1 := by simpa using (List.cons.inj (by simpa using h)).1
    have h2 : r.map Prod.fst = s.map Prod.fst := by simpa using (List.cons.inj (by simpa using h)).2
    rw [List.any_cons, List.any_cons, any_keys h2, h1]
theorem put_map {S : Addr → Prop} {H : Hp} {k : Key} {v : V} {d : D} (rv : Rep K S H v d) : ∀ {kvs : List (Key × V)} {ds : List (Key × D)}, kvs.map Prod.fst = ds.map Prod.fst → Reps K S H (kvs.map Prod.snd) (ds.map Prod.snd) →
    (kvs.map fun kv => if kv.1 = k then (kv.1, v) else kv).map Prod.fst = (ds.map fun kv => if kv.1 = k then (kv.1, d) else kv).map Prod.fst ∧ Reps K S H ((kvs.map fun kv => if kv.1 = k then (kv.1, v) else kv).map Prod.snd) ((ds.map fun kv => if kv.1 = k then (kv.1, d) else kv).map Prod.snd)
  | [], [], _, _ => ⟨rfl, .nil⟩
  | [], _ :: _, h, _ => by simp at h
  | _ :: _, [], h, _ => by simp at h
  | p :: r, q :: s, h, .cons hv t => by
    have h1 : p.1 = q.1 := by simpa using (List.cons.inj (by simpa using h)).1
    have h2 : r.map Prod.fst = s.map Prod.fst := by simpa using (List.cons.inj (by simpa using h)).2
    obtain ⟨i1, i2⟩ := put_map (k := k) rv h2 t
    by_cases e : q.1 = k
    · have e1 : (if p.1 = k then (p.1, v) else p) = (p.1, v) := if_pos (h1.trans e)
      have e2 : (if q.1 = k then (q.1, d) else q) = (q.1, d) := if_pos e
      rw [List.map_cons (l := r), List.map_cons (l := s), e1, e2, List.map_cons, List.map_cons, List.map_cons, List.map_cons, i1]
      exact ⟨by rw [h1], .cons rv i2⟩
    · have e1 : (if p.1 = k then (p.1, v) else p) = p := if_neg fun z => e (h1.symm.trans z)
      have e2 : (if q.1 = k then (q.1, d) else q) = q := if_neg e
      rw [List.map_cons (l := r), List.map_cons (l := s), e1, e2, List.map_cons, List.map_cons, List.map_cons, List.map_cons, i1]
      exact ⟨by rw [h1], .cons hv i2⟩
theorem put_rep {S : Addr → Prop} {H : Hp} {k : Key} {v : V} {d : D} (rv : Rep K S H v d) {kvs : List (Key × V)} {ds : List (Key × D)} (e : kvs.map Prod.fst = ds.map Prod.fst) (r : Reps K S H (kvs.map Prod.snd) (ds.map Prod.snd)) :
    (putK kvs k v).map Prod.fst = (putD ds k d).map Prod.fst ∧ Reps K S H ((putK kvs k v).map Prod.snd) ((putD ds k d).map Prod.snd) := by
  unfold putK putD
  rw [any_keys e]
  by_cases h : (ds.any fun kv => decide (kv.1 = k)) = true
  · rw [if_pos h, if_pos h]; exact put_map rv e r
  · rw [if_neg h, if_neg h]
    refine ⟨by rw [List.map_append, List.map_append, e]; rfl, ?_⟩
    rw [List.map_append, List.map_append]
    exact r.append (.cons rv .nil)
theorem putD_len (kvs : List (Key × D)) (k : Key) (v : D) : (putD kvs k v).length ≤ kvs.length + 1 := by
  unfold putD
  split
  · rw [List.length_map]; omega
  · rw [List.length_append]; exact Nat.le_refl _
/-- what a dict comprehension makes of the items -/
inductive DcR (R : D → Option (Key × D) → Prop) : List D → List (Key × D) → Prop where
  | nil : DcR R [] []
  | keep {x : D} {k : Key} {y : D} {xs : List D} {ys : List (Key × D)} : DcR R xs ys → R x (some (k, y)) → DcR R (xs ++ [x]) (putD ys k y)
  | skip {x : D} {xs : List D} {ys : List (Key × D)} : DcR R xs ys → R x none → DcR R (xs ++ [x]) ys
theorem DcR.le {R : D → Option (Key × D) → Prop} {xs : List D} {ys : List (Key × D)} (h : DcR R xs ys) : ys.length ≤ xs.length := by
  induction h with
  | nil => exact Nat.le_refl _
  | keep q _ ih => rw [List.length_append]; exact Nat.le_trans (putD_len _ _ _) (Nat.succ_le_succ ih)
  | skip q _ ih => rw [List.length_append]; exact Nat.le_succ_of_le ih
def DcT (K : PySem.W.Frag) (E : XK) (g : TG) (is : List Nat) (tt : TT) (tk te : TE) (G : Gm) (O : OL) (R : D → Option (Key × D) → Prop) (x : D) : Prop :=
  DG K g is x G O fun G1 => DTT K E tt G1 O (fun b => (b = true → DT K E tk G1 O (fun y => DT K E te G1 O (fun z => ∃ k, y = kD k ∧ R x (some (k, z))) F0) F0) ∧ (b = false → R x none)) F0
theorem dc_loop {g : TG} {is : List Nat} {tt : TT} {tk te : TE} {vs : List Nat} {R : D → Option (Key × D) → Prop} {xs : List D} {J : It} {S0 : Addr → Prop} {Os : OLa} {σ : L2.St} {H1 : Hp} {Q : VK} (st : St1 K S0 G O Os σ H1) (wk : Wk K (SO S0 Os) J H1 xs)
    (hs : ∀ i ∈ is, i ∈ vs) (hv : ∀ o ∈ O, o.1 ∉ vs) (hl : xs.length < sizeLine) (ht : ∀ x ∈ xs, DcT K E g is tt tk te (wipeG G vs) O R x)
    (hq : ∀ p H' ys, DcR R xs ys → Same H1 H' → H1 p = none → OwnAt K (fun b => SO S0 Os b ∨ b = p) H' p (.dic ys) → Q (.ref p) H') :
    ∀ p, H1 p = none → ∃ W : Nat → Nat → Hp → Prop, (∃ m, W 0 m (upd H1 p (.dK []))) ∧ ∀ i m H, W i m H → (J.stop i H ∧ Q (.ref p) H) ∨ (J.go i H ∧ ∃ Nx : Hp → Prop, (∀ H', Nx H' → ∃ m', m' < m ∧ W (i + 1) m' H') ∧ ∀ x H', J.yld i H x H' → g x (wipe σ vs) H' fun σ2 H2 => wipe σ2 vs = wipe σ vs ∧ tt σ2 H2 fun b H3 =>
        if b = true then tk σ2 H3 fun y H4 => te σ2 H4 fun z H5 => ∃ kvs k, y = kV k ∧ H5 p = some (.dK kvs) ∧ kvs.length < sizeLine ∧ Nx (upd H5 p (.dK (putK kvs k z))) else Nx H3) := fun p np => by
  have nS : ¬ SO S0 Os p := fun z => st.domW p z np
  let S' : Addr → Prop := fun b => SO S0 Os b ∨ b = p
  let Pv : Nat → Hp → Prop := fun i H => Same H1 H ∧ ∃ (acc : List (Key × V)) (ys : List (Key × D)), H p = some (.dK acc) ∧ acc.map Prod.fst = ys.map Prod.fst ∧ Reps K S' H (acc.map Prod.snd) (ys.map Prod.snd) ∧ DcR R (xs.take i) ys
  refine ⟨fun i m H => m = xs.length - i ∧ i ≤ xs.length ∧ Pv i H, ⟨_, rfl, Nat.zero_le _, Same.put np, [], [], upd_same, rfl, .nil, .nil⟩, ?_⟩
  rintro i m H ⟨rfl, hi, s1, acc, ys, hp, ek, ra, lr⟩
  have hS' : ∀ a, S' a → SO S0 Os a ∨ H1 a = none := fun a z => z.elim .inl fun e => .inr (by rw [e]; exact np)
  have dm : ∀ a, S' a → H a ≠ none := fun a z q => z.elim (fun y => st.domW a y (s1.free q)) fun e => by rw [e, hp] at q; cases q
  obtain ⟨wg, ws, wy⟩ := wk S' H hS' dm (Same.sx s1) i
  by_cases hlt : i < xs.length
  · refine .inr ⟨wg hlt, Pv (i + 1), fun H' p' => ⟨xs.length - (i + 1), by omega, rfl, hlt, p'⟩, fun x H' y => ?_⟩
    obtain ⟨d, hd, s2, rd⟩ := wy x H' hlt y
    let S0' : Addr → Prop := fun b => S0 b ∨ b = p
    have so : ∀ a, SO S0' Os a → S' a := fun a z => z.elim (fun z => z.elim (fun z => .inl (.inl z)) .inr) fun z => .inl (.inr z)
    have os : ∀ a, S' a → SO S0' Os a := fun a z => z.elim (fun z => z.elim (fun z => .inl (.inl z)) .inr) fun z => .inl (.inr z)
    have s12 : Same H1 H' := s1.trans s2
    have st0 := (st.wipe hv).same s12
    have hp' : H' p = some (.dK acc) := s2 _ _ hp
    have stI : St1 K S0' (wipeG G vs) O Os (wipe σ vs) H' := by
      refine ⟨st0.os, st0.nd, fun a z => z.elim (st0.dom a) fun e => by rw [e, hp']; simp, fun a w z => z.elim (st0.ns a w) fun e => nS (by rw [← e]; exact .inr w), st0.len, fun j e q => ?_, fun q hq => ?_⟩
      · obtain ⟨v, e1, r⟩ := (st.wipe hv).re j e q
        exact ⟨v, e1, Rep.same (Rep.avoid (fun a z => hS' a (so a z)) r) s12⟩
      · obtain ⟨h1, h2⟩ := (st.wipe hv).own q hq
        refine ⟨h1, ?_⟩
        generalize q.2.2 = ow at h2 ⊢
        cases ow with
        | lst ds => obtain ⟨us, e, r⟩ := h2; exact ⟨us, s12 _ _ e, Reps.same (Reps.avoid (fun a z => hS' a (so a z)) r) s12⟩
        | dic ds => obtain ⟨us, e, q, r⟩ := h2; exact ⟨us, s12 _ _ e, q, Reps.same (Reps.avoid (fun a z => hS' a (so a z)) r) s12⟩
        | obj c ds => obtain ⟨dx, us, e, q, r⟩ := h2; exact ⟨dx, us, s12 _ _ e, q, Reps.same (Reps.avoid (fun a z => hS' a (so a z)) r) s12⟩
        | slf _ c ds => obtain ⟨ea, dx, us, e, q, r⟩ := h2; exact ⟨ea, dx, us, s12 _ _ e, q, Reps.same (Reps.avoid (fun a z => hS' a (so a z)) r) s12⟩
    refine ht d (List.mem_of_getElem? hd) S0' Os (wipe σ vs) H' x _ stI (Rep.weak so rd) fun G1 σ1 k1 st1 l1 e1 => ?_
    refine ⟨wipe_same hs (l1.trans (wipe_length σ vs)) e1, ?_⟩
    refine k1.bind st1 eok_e0 fun b H3 kb s3 st3 he3 => ?_
    have ra3 : Reps K S' H3 (acc.map Prod.snd) (ys.map Prod.snd) := ra.same (s2.trans s3)
    have hp3 : H3 p = some (.dK acc) := s3 _ _ hp'
    cases b with
    | true =>
      refine iteT ((kb.1 rfl).bind st3 he3 fun y H4 e ke s4 st4 he4 ry => ke.bind st4 he4 fun z H5 e5 ⟨key, ey, rk⟩ s5 st5 he5 rz => ?_)
      have hp5 : H5 p = some (.dK acc) := s5 _ _ (s4 _ _ hp3)
      have la : acc.length < sizeLine := by
        rw [len_pair ek]
        have l1 := lr.le
        rw [List.length_take] at l1
        omega
      subst ey
      have yk := kD_v ry
      have nS5 : LeX S' H5 (upd H5 p (.dK (putK acc key z))) := LeX.put (S := S') (.inr rfl)
      obtain ⟨p1, p2⟩ := put_rep (k := key) (Rep.mono nS5 (Rep.weak os rz)) ek (Reps.mono nS5 (ra3.same (s4.trans s5)))
      refine ⟨acc, key, yk, hp5, la, fun a u q => ?_, putK acc key z, putD ys key e5, upd_same, p1, p2, ?_⟩
      · rw [upd_ne fun z => by rw [z, np] at q; cases q]
        exact s5 _ _ (s4 _ _ (s3 _ _ (s12 _ _ q)))
      · rw [take_snoc hd]; exact .keep lr rk
    | false =>
      refine iteF ⟨s12.trans s3, acc, ys, hp3, ek, ra3, ?_⟩
      rw [take_snoc hd]; exact .skip lr (kb.2 rfl)
  · have e : i = xs.length := by omega
    subst e
    rw [List.take_length] at lr
    exact .inl ⟨ws (Nat.le_refl _), hq p H ys lr s1 np ⟨acc, hp, ek, ra⟩⟩
theorem df_dc {wi : TI} {g : TG} {tt : TT} {tk te : TE} {vs : List Nat} (is : List Nat) (R : D → Option (Key × D) → Prop) {k : Ow → Prop} (hs : ∀ i ∈ is, i ∈ vs) (hv : ∀ o ∈ O, o.1 ∉ vs)
    (h : DI K E wi G O (fun xs => xs.length < sizeLine ∧ (∀ x ∈ xs, DcT K E g is tt tk te (wipeG G vs) O R x) ∧ ∀ ys, DcR R xs ys → k (.dic ys)) ke) : DF K E (tDc wi g tt tk te vs) G O k ke := fun S0 Os σ H Q st hq he =>
  h S0 Os σ H _ st (fun J H1 xs ⟨hl, ht, hk⟩ s1 wk => dc_loop (st.same s1) wk hs hv hl ht fun p H' ys lr s2 np oa => hq p H' _ (hk ys lr) (s1.trans s2) (s1.free np) oa) he
theorem df_dcL {wi : TI} {g : TG} {tt : TT} {tk te : TE} {vs : List Nat} (is : List Nat) (R : D → Option (Key × D) → Prop) {k : Ow → Prop} (hs : ∀ i ∈ is, i ∈ vs) (hv : ∀ o ∈ O, o.1 ∉ vs)
    (h : DIL K E wi G O (fun xs => xs.length < sizeLine ∧ (∀ x ∈ xs, DcT K E g is tt tk te (wipeG G vs) O R x) ∧ ∀ ys, DcR R xs ys → k (.dic ys)) ke) : DF K E (tUnlE (tDc wi g tt tk te vs)) G O k ke := fun S0 Os σ H Q st hq he =>
  h S0 Os σ H _ st (fun J Hm H1 xs ⟨hl, ht, hk⟩ s1 lk wk => by
    have st1 : St1 K S0 G O Os σ H1 := (st.same s1).lex lk.lex fun a z => lk.at_ z
    refine dc_loop (Q := fun v H2 => ∃ H3, Ulk H H2 H3 ∧ Q v H3) st1 wk hs hv hl ht fun p H' ys lr s2 np oa => ?_
    obtain ⟨H3, u, s3, lx, e3⟩ := unl_same (H3 := H') lk s2
    have npm : Hm p = none := (lk.noneIff).mp np
    refine ⟨H3, ?_, hq p H3 _ (hk ys lr) (s1.trans s3) (s1.free npm) ?_⟩
    · rcases u with u | ⟨d, od, kvs, h1, h2, h3⟩
      · exact .inl u
      · exact .inr ⟨d, od, kvs, h1, fun o u z => h2 o u (s1 _ _ z), h3⟩
    · obtain ⟨acc, q, ek, r⟩ := oa
      exact ⟨acc, (e3 p (.inr np)).trans q, ek, Reps.mono (lx.weak fun _ z => z.elim) r⟩) he
end
end Fw

set_option maxHeartbeats 4000000
/-! Loops as statements; what is owned, changed. -/
namespace Fw
open PySem PySem.Spec PyProof.Rows L2
section
variable {K : PySem.W.Frag} {E : XK} {G : Gm} {O : OL} {ke : Xd → Prop} {kn : Gm → OL → Prop} {kr : D → Prop}

theorem Chg.sx {S0 : Addr → Prop} {Os Os' : OLa} {H H' : Hp} (c : Chg Os H Os' H') : SameX (SO S0 Os) H H' := fun a n u e => c.same a (fun z => n (.inr z)) u e
/-- the turns of a for -/
theorem for_loop {g : TG} {tb : TS} {xs : List D} {J : It} {S0 : Addr → Prop} {H0 : Hp} {Os : OLa} {σ : L2.St} {H1 : Hp} {Ds : Ends} (is : List Nat) (P : Nat → Gm → OL → Prop) (f : Frm S0 H0 Os H1) (st : St1 K S0 G O Os σ H1) (wk : Wk K (SO S0 Os) J H1 xs)
    (h0 : P 0 G O) (ht : ∀ i x G' O', xs[i]? = some x → P i G' O' → DG K g is x G' O' fun G2 => DS K E tb G2 O' (P (i + 1)) kr ke)
    (hd : ∀ G' O' Os' σ' H', P xs.length G' O' → Chg Os H1 Os' H' → St1 K S0 G' O' Os' σ' H' → Ds.nx σ' H')
    (hr : ∀ v H' d, kr d → Same H0 H' → Rep K S0 H' v d → Ds.rt v H') (he : EOk K S0 H0 E ke) :
    ∃ W : Nat → Nat → L2.St → Hp → Prop, (∃ m, W 0 m σ H1) ∧ ∀ i m σ H, W i m σ H →
      (J.stop i H ∧ Ds.nx σ H) ∨ (J.go i H ∧ ∃ N : L2.St → Hp → Prop, (∀ σ' H', N σ' H' → ∃ m', m' < m ∧ W (i + 1) m' σ' H') ∧ ∀ x H', J.yld i H x H' → g x σ H' fun σ2 H2 => tb { Ds with nx := N, ct := N, bk := Ds.nx } σ2 H2) := by
  let Pv : Nat → L2.St → Hp → Prop := fun i σ' H => ∃ G' O' Os', P i G' O' ∧ Chg Os H1 Os' H ∧ St1 K S0 G' O' Os' σ' H
  refine ⟨fun i m σ' H => m = xs.length - i ∧ i ≤ xs.length ∧ Pv i σ' H, ⟨_, rfl, Nat.zero_le _, G, O, Os, h0, Chg.refl, st⟩, ?_⟩
  rintro i m σ' H ⟨rfl, hi, G', O', Os', p, c, st'⟩
  have hS : ∀ a, SO S0 Os' a → SO S0 Os a ∨ H1 a = none := fun a z => z.elim (fun z => .inl (.inl z)) fun z => (c.new a z).imp .inr id
  obtain ⟨wg, ws, wy⟩ := wk (SO S0 Os') H hS st'.domW c.sx i
  by_cases hlt : i < xs.length
  · refine .inr ⟨wg hlt, Pv (i + 1), fun σ2 H2 p' => ⟨xs.length - (i + 1), by omega, rfl, hlt, p'⟩, fun x H2 y => ?_⟩
    obtain ⟨d, hd2, s2, rd⟩ := wy x H2 hlt y
    refine ht i d G' O' hd2 p S0 Os' σ' H2 x _ (st'.same s2) rd fun G2 σ2 k2 st2 _ _ => ?_
    have c2 : Chg Os H1 Os' H2 := c.trans (Chg.of_same s2)
    exact k2 S0 H0 Os' σ2 H2 _ (f.step c2) st2 (fun G3 O3 Os3 σ3 H3 p3 c3 st3 => ⟨G3, O3, Os3, p3, c2.trans c3, st3⟩) hr he
  · have e : i = xs.length := by omega
    subst e
    exact .inl ⟨ws (Nat.le_refl _), hd G' O' Os' σ' H p c st'⟩
theorem ds_for {wi : TI} {g : TG} {tb : TS} (is : List Nat) (P : List D → Nat → Gm → OL → Prop)
    (h : DI K E wi G O (fun xs => P xs 0 G O ∧ (∀ i x G' O', xs[i]? = some x → P xs i G' O' → DG K g is x G' O' fun G2 => DS K E tb G2 O' (P xs (i + 1)) kr ke) ∧ ∀ G' O', P xs xs.length G' O' → kn G' O') ke) :
    DS K E (tFor wi g tb) G O kn kr ke := fun S0 H0 Os σ H Ds f st hn hr he =>
  h S0 Os σ H _ st (fun J H1 xs ⟨h0, ht, hd⟩ s1 wk => by
    have c1 := Chg.of_same (Os := Os) s1
    exact for_loop is (P xs) (f.step c1) (st.same s1) wk h0 ht (fun G' O' Os' σ' H' p c st' => hn G' O' Os' σ' H' (hd G' O' p) (c1.trans c) st') hr he) (he.so f)
/-- a for over a dict, locked meanwhile; no exception leaves it -/
theorem ds_forL {wi : TI} {g : TG} {tb : TS} (is : List Nat) (P : List D → Nat → Gm → OL → Prop) (hke : ∀ x, ¬ ke x)
    (h : DIL K E wi G O (fun xs => P xs 0 G O ∧ (∀ i x G' O', xs[i]? = some x → P xs i G' O' → DG K g is x G' O' fun G2 => DS K E tb G2 O' (P xs (i + 1)) kr ke) ∧ ∀ G' O', P xs xs.length G' O' → kn G' O') ke) :
    DS K E (tUnlS (tFor wi g tb)) G O kn kr ke := fun S0 H0 Os σ H Ds f st hn hr he =>
  h S0 Os σ H _ st (fun J Hm H1 xs ⟨h0, ht, hd⟩ s1 lk wk => by
    have cm := Chg.of_same (Os := Os) s1
    have fm := f.step cm
    have st1 : St1 K S0 G O Os σ H1 := (st.same s1).lex lk.lex fun a z => lk.at_ z
    have nn : ∀ {a : Addr}, H1 a = none ↔ Hm a = none := lk.noneIff
    -- the entry's heap with the lock
    let H0' : Hp := fun b => if H0 b = none then none else H1 b
    have z0 : ∀ a, H0 a = none → H0' a = none := fun a e => if_pos e
    have z1 : ∀ a, H0 a ≠ none → H0' a = H1 a := fun a e => if_neg e
    have f' : Frm S0 H0' Os H1 := ⟨fun a u e => by
      by_cases q : H0 a = none
      · rw [z0 a q] at e; cases e
      · rw [z1 a q] at e; exact e, fun a z => z0 a (f.new a z), fun a z e => by
      rw [z1 a (f.dom a z)] at e
      exact st1.dom a z e⟩
    have ul : ∀ {σ' : L2.St} {Os' : OLa} {H' : Hp}, SameX (W Os) H1 H' → (∀ a, W Os' a → W Os a ∨ H1 a = none) → ∃ H3, Ulk H H' H3 ∧ SameX (W Os) Hm H3 ∧ LeX (fun _ => False) H' H3 ∧ (∀ a, SO S0 Os a ∨ H1 a = none → H3 a = H' a) := fun {σ' Os' H'} sx hw => by
      rcases lk with e | ⟨d, od, kvs, n, hdd, e⟩
      · subst e
        exact ⟨H', .inl rfl, sx, LeX.rfl', fun _ _ => rfl⟩
      · have e1 : H1 d = some (.frz od (.dK kvs)) := by rw [e]; exact upd_same
        have e2 := sx d (fun z => n (.inr z)) _ e1
        refine ⟨upd H' d (.dK kvs), .inr ⟨d, od, kvs, e2, (fun o u z => by rw [s1 _ _ z] at hdd; cases hdd), rfl⟩, fun a na u q => ?_, fun a _ => ?_, fun a ta => upd_ne fun z => ?_⟩
        · by_cases h : a = d
          · subst h; rw [hdd] at q; cases q; exact upd_same
          · rw [upd_ne h]
            exact sx a na u (by rw [e, upd_ne h]; exact q)
        · by_cases h : a = d
          · subst h
            refine ⟨fun u su q => ?_, fun k r => ?_⟩
            · rw [e2] at q; cases q; exact su.elim
            · rcases r with r | ⟨o, r⟩
              · rw [e2] at r; cases r
              · rw [e2] at r; cases r; exact .inl upd_same
          · refine ⟨fun u su q => by rw [upd_ne h]; exact q, fun k r => ?_⟩
            rcases r with r | ⟨o, r⟩
            · exact .inl (by rw [upd_ne h]; exact r)
            · exact .inr ⟨o, by rw [upd_ne h]; exact r⟩
        · rw [z] at ta
          rcases ta with ta | ta
          · exact n ta
          · rw [e1] at ta; cases ta
    refine for_loop is (P xs) f' st1 wk h0 ht (fun G' O' Os' σ' H' p c st' => ?_) (fun v H' d kd s r => ?_) (fun _ _ _ x z => (hke x z).elim)
    · obtain ⟨H3, u, sx3, lx, e3⟩ := ul (σ' := σ') (Os' := Os') c.same c.new
      have e4 : ∀ a, SO S0 Os' a → H3 a = H' a := fun a z => e3 a (z.elim (fun z => .inl (.inl z)) fun z => (c.new a z).imp .inr id)
      refine ⟨H3, u, hn G' O' Os' σ' H3 (hd G' O' p) (cm.trans ⟨sx3, fun a z => (c.new a z).imp id nn.mp⟩) (st'.lex (lx.weak fun _ z => z.elim) e4)⟩
    · -- a return out of the loop
      have hS0 : ∀ a, S0 a → H1 a ≠ none := st1.dom
      rcases lk with e | ⟨dd, od, kvs, n, hdd, e⟩
      · subst e
        refine ⟨H', .inl rfl, hr v H' d kd (fun a u q => s a u ?_) r⟩
        rw [z1 a (by rw [q]; simp)]
        exact s1 _ _ (f.same _ _ q)
      · have e1 : H1 dd = some (.frz od (.dK kvs)) := by rw [e]; exact upd_same
        by_cases q0 : H0 dd = none
        · -- the dict is ours: it may stay locked
          refine ⟨H', .inl rfl, hr v H' d kd (fun a u q => s a u ?_) r⟩
          have ne : a ≠ dd := fun z => by rw [z, q0] at q; cases q
          rw [z1 a (by rw [q]; simp), e, upd_ne ne]
          exact s1 _ _ (f.same _ _ q)
        · have e2 : H' dd = some (.frz od (.dK kvs)) := s dd _ (by rw [z1 dd q0]; exact e1)
          have h0d : H0 dd = some (.dK kvs) := by
            cases q : H0 dd with
            | none => exact absurd q q0
            | some u =>
              have := s1 _ _ (f.same _ _ q)
              rw [hdd] at this
              exact this.symm
          refine ⟨upd H' dd (.dK kvs), .inr ⟨dd, od, kvs, e2, (fun o u z => by rw [s1 _ _ z] at hdd; cases hdd), rfl⟩, hr v _ d kd (fun a u q => ?_) ?_⟩
          · by_cases h : a = dd
            · subst h; rw [h0d] at q; cases q; exact upd_same
            · rw [upd_ne h]
              refine s a u ?_
              rw [z1 a (by rw [q]; simp), e, upd_ne h]
              exact s1 _ _ (f.same _ _ q)
          · refine Rep.mono (fun a _ => ?_) r
            by_cases h : a = dd
            · subst h
              refine ⟨fun u su q => ?_, fun k r => ?_⟩
              · rw [e2] at q; cases q; exact su.elim
              · rcases r with r | ⟨o, r⟩
                · rw [e2] at r; cases r
                · rw [e2] at r; cases r; exact .inl upd_same
            · refine ⟨fun u su q => by rw [upd_ne h]; exact q, fun k r => ?_⟩
              rcases r with r | ⟨o, r⟩
              · exact .inl (by rw [upd_ne h]; exact r)
              · exact .inr ⟨o, by rw [upd_ne h]; exact r⟩) (he.so f)
/-- while, by a word and a measure -/
theorem ds_while {c : TT} {tb : TS} (P : Gm → OL → Prop) (mu : Gm → OL → Nat) (h0 : P G O)
    (ht : ∀ G' O', P G' O' → DTT K E c G' O' (fun b => (b = true → DS K E tb G' O' (fun G2 O2 => P G2 O2 ∧ mu G2 O2 < mu G' O') kr ke) ∧ (b = false → kn G' O')) ke) : DS K E (tWhile c tb) G O kn kr ke := fun S0 H0 Os σ H Ds f st hn hr he => by
  let Pv : Nat → L2.St → Hp → Prop := fun m σ' H' => ∃ G' O' Os', m = mu G' O' ∧ P G' O' ∧ Chg Os H Os' H' ∧ St1 K S0 G' O' Os' σ' H'
  refine ⟨Pv, ⟨_, G, O, Os, rfl, h0, Chg.refl, st⟩, ?_⟩
  rintro m σ' H' ⟨G', O', Os', rfl, p, c1, st'⟩
  have f' := f.step c1
  refine (ht G' O' p).at_ f' st' he fun b H2 kb s2 f2 st2 => ?_
  have c2 : Chg Os H Os' H2 := c1.trans (Chg.of_same s2)
  cases b with
  | true =>
    exact ⟨fun σ3 H3 => ∃ m', m' < mu G' O' ∧ Pv m' σ3 H3, fun _ _ z => z, kb.1 rfl S0 H0 Os' σ' H2 _ f2 st2 (fun G3 O3 Os3 σ3 H3 ⟨p3, l3⟩ c3 st3 => ⟨_, l3, G3, O3, Os3, rfl, p3, c2.trans c3, st3⟩) hr he⟩
  | false => exact hn G' O' Os' σ' H2 (kb.2 rfl) c2 st2
end
end Fw

set_option maxHeartbeats 4000000
/-! What is owned, changed; isinstance; == of data. -/
namespace Fw
open PySem PySem.Spec PyProof.Rows L2
section
variable {K : PySem.W.Frag} {E : XK} {G : Gm} {O : OL} {ke : Xd → Prop} {kn : Gm → OL → Prop} {kr : D → Prop}
/-- an expression that may change what is owned -/
def DM (K : PySem.W.Frag) (E : XK) (t : TE) (G : Gm) (O : OL) (k : D → OL → Prop) (ke : Xd → Prop) : Prop := ∀ (S0 : Addr → Prop) (H0 : Hp) (Os : OLa) (σ : L2.St) (H : Hp) (Q : VK), Frm S0 H0 Os H → St1 K S0 G O Os σ H → EOk K S0 H0 E ke →
  (∀ v H' d O' Os', k d O' → Chg Os H Os' H' → St1 K S0 G O' Os' σ H' → Rep K (SO S0 Os') H' v d → Q v H') → t σ H Q
theorem DT.dm {t : TE} {k : D → OL → Prop} (h : DT K E t G O (fun d => k d O) ke) : DM K E t G O k ke := fun S0 H0 Os σ H Q f st he hq =>
  h.at_ f st he fun v H' d kd s _ st' r => hq v H' d O Os kd (Chg.of_same s) st' r
theorem ds_asgM {te : TE} {i : Nat} (h : DM K E te G O (fun d O' => (∀ o ∈ O', o.1 ≠ i) ∧ kn (G.set i (some d)) O') ke) : DS K E (tAsg te (gName i)) G O kn kr ke := fun S0 H0 Os σ H Ds f st hn hr he =>
  h S0 H0 Os σ H _ f st he fun v H' d O' Os' ⟨hi, kd⟩ c st' r => hn _ O' Os' _ H' kd c (st'.set r hi)
/-- the owned list in slot i -/
theorem lst_at {S0 : Addr → Prop} {Os : OLa} {σ : L2.St} {H : Hp} (st : St1 K S0 G O Os σ H) {j i : Nat} {ds : List D} (ho : O[j]? = some (i, .lst ds)) :
    ∃ (p : Addr) (vs : List V), Os[j]? = some (p, i, .lst ds) ∧ σ[i]? = some (some (.ref p)) ∧ H p = some (.lst vs) ∧ Reps K (SO S0 Os) H vs ds := by
  obtain ⟨p, hp, e, hpj⟩ := own_at st.os ho
  obtain ⟨hs, oa⟩ := st.own p hp
  obtain ⟨p1, p2⟩ := p
  have e' : p2 = (i, .lst ds) := e
  subst e'
  obtain ⟨vs, h1, h2⟩ := oa
  exact ⟨p1, vs, hpj, hs, h1, h2⟩
theorem w_at {Os : OLa} {j i : Nat} {p : Addr} {o : Ow} (h : Os[j]? = some (p, i, o)) : W Os p := List.mem_map_of_mem (f := (·.1)) (List.mem_of_getElem? h)
theorem St1.lst_put {S0 : Addr → Prop} {Os : OLa} {σ : L2.St} {H : Hp} (st : St1 K S0 G O Os σ H) {j i : Nat} {ds ds' : List D} {p : Addr} {vs' : List V} (hp : Os[j]? = some (p, i, .lst ds)) (r : Reps K (SO S0 Os) H vs' ds') :
    St1 K S0 G (O.set j (i, .lst ds')) (Os.set j (p, i, .lst ds')) σ (upd H p (.lst vs')) := by
  have sx : SameX (W Os) H (upd H p (.lst vs')) := fun a n u e => by rw [upd_ne fun z => n (by rw [z]; exact w_at hp)]; exact e
  exact st.own_set hp ⟨vs', upd_same, Reps.mono (sx.lex.weak fun a z => .inr z) r⟩ sx
theorem ty_list {H : Hp} {p : Addr} {vs : List V} (h : H p = some (.lst vs)) : tyV K "list" (.ref p) H := .inl ⟨rfl, _, SqL.of h⟩
/-- x.append(e) -/
theorem ds_append (j : Nat) {i : Nat} {ds : List D} {te : TE} (ho : O[j]? = some (i, .lst ds)) (h : DM K E te G O (fun d O' => ∃ ds', O'[j]? = some (i, .lst ds') ∧ ds'.length < sizeLine ∧ kn G (O'.set j (i, .lst (ds' ++ [d])))) ke) :
    DS K E (tDrop (tBM K "list" rAppend (tVar i) (tCons te tNil))) G O kn kr ke := fun S0 H0 Os σ H Ds f st hn hr he => by
  obtain ⟨p, vs, hpj, hs, hh, r⟩ := lst_at st ho
  refine ⟨_, hs, ty_list hh, h S0 H0 Os σ H _ f st he fun v H' d O' Os' ⟨ds', ho', hl, kd⟩ c st' rd => ?_⟩
  obtain ⟨p', vs', hpj', hs', hh', r'⟩ := lst_at st' ho'
  rw [hs] at hs'; cases hs'
  exact ⟨p, vs', v, rfl, rfl, hh', by rw [r'.length]; exact hl, hn G _ _ σ _ kd (c.trans (chg_put hpj')) (st'.lst_put hpj' (r'.append (.cons rd .nil)))⟩
/-- x.pop(e) -/
theorem dm_popAt (j : Nat) {i : Nat} {ds : List D} {te : TE} {k : D → OL → Prop} (ho : O[j]? = some (i, .lst ds)) (h : DT K E te G O (fun d => ∃ n m y, d = .int n ∧ -(2 ^ 63) ≤ n ∧ n < 2 ^ 63 ∧ seqIndex? n ds.length = some m ∧ ds[m]? = some y ∧ k y (O.set j (i, .lst (ds.eraseIdx m)))) ke) :
    DM K E (tBM K "list" rPopAt (tVar i) (tCons te tNil)) G O k ke := fun S0 H0 Os σ H Q f st he hq => by
  obtain ⟨p, vs, hpj, hs, hh, r⟩ := lst_at st ho
  refine ⟨_, hs, ty_list hh, h.at_ f st he fun v H' d ⟨n, m, y, e, l1, l2, hm, hy, kd⟩ s f' st' rd => ?_⟩
  subst e; cases rd
  have hh' := s _ _ hh
  obtain ⟨w, hw, rw_⟩ := (r.same s).get' hy
  have st2 := st'.lst_put hpj ((r.same s).erase m)
  have so : SO S0 (Os.set j (p, i, .lst (ds.eraseIdx m))) = SO S0 Os := by
    funext a
    have em : ∀ b, W (Os.set j (p, i, Ow.lst (ds.eraseIdx m))) b ↔ W Os b := fun b => by
      have hj : j < Os.length := (List.getElem?_eq_some_iff.mp hpj).1
      have e2 : (Os.set j (p, i, Ow.lst (ds.eraseIdx m))).map (·.1) = Os.map (·.1) := by
        rw [List.map_set]
        apply List.ext_getElem?
        intro n
        by_cases hn : j = n
        · subst hn
          rw [List.getElem?_set_self (by rw [List.length_map]; exact hj), List.getElem?_map, hpj]; rfl
        · rw [List.getElem?_set_ne hn]
      show b ∈ _ ↔ b ∈ _
      rw [e2]
    exact propext ⟨fun z => z.imp id (em a).mp, fun z => z.imp id (em a).mpr⟩
  refine ⟨p, vs, n, m, w, rfl, rfl, hh', l1, l2, by rw [r.length]; exact hm, hw, hq w _ y _ _ kd ((Chg.of_same s).trans (chg_put hpj)) st2 ?_⟩
  rw [so]
  exact Rep.mono (LeX.put (S := SO S0 Os) (.inr (w_at hpj))) rw_
/-- x.extend(e) -/
theorem ds_extend (j : Nat) {i : Nat} {ds : List D} {te : TE} (ho : O[j]? = some (i, .lst ds)) (h : DT K E te G O (fun d => ∃ ys, d = .lst ys ∧ ds.length + ys.length ≤ sizeLine ∧ kn G (O.set j (i, .lst (ds ++ ys)))) ke) :
    DS K E (tDrop (tBM K "list" rExtend (tVar i) (tCons te tNil))) G O kn kr ke := fun S0 H0 Os σ H Ds f st hn hr he => by
  obtain ⟨p, vs, hpj, hs, hh, r⟩ := lst_at st ho
  refine ⟨_, hs, ty_list hh, h.at_ f st he fun v H' d ⟨ys, e, hl, kd⟩ s f' st' rd => ?_⟩
  subst e
  cases rd with
  | lst n h2 r2 =>
    exact ⟨p, _, vs, _, rfl, rfl, s _ _ hh, h2, by rw [r.length, r2.length]; exact hl, hn G _ _ σ _ kd ((Chg.of_same s).trans (chg_put hpj)) (st'.lst_put hpj ((r.same s).append r2))⟩
/-- x[e] = v -/
theorem ds_setitem (j : Nat) {i : Nat} {ds : List D} {tv ti : TE} (ho : O[j]? = some (i, .lst ds)) (h : DT K E tv G O (fun d => DT K E ti G O (fun e => ∃ n m, e = .int n ∧ ixN ds.length n = some m ∧ kn G (O.set j (i, .lst (ds.set m d)))) ke) ke) :
    DS K E (tAsg tv (gSub (tVar i) ti rSetL)) G O kn kr ke := fun S0 H0 Os σ H Ds f st hn hr he =>
  h.at_ f st he fun v H1 d hd s1 f1 st1 rd => by
    obtain ⟨p, vs, hpj, hs, hh, r⟩ := lst_at st1 ho
    refine ⟨_, hs, hd.at_ f1 st1 he fun w H2 e ⟨n, m, ee, hm, kd⟩ s2 f2 st2 re => ?_⟩
    subst ee; cases re
    exact ⟨p, vs, n, m, rfl, rfl, s2 _ _ hh, by rw [r.length]; exact hm, hn G _ _ σ _ kd ((Chg.of_same (s1.trans s2)).trans (chg_put hpj)) (st2.lst_put hpj ((r.same s2).set (rd.same s2) m))⟩
/-- the owned dict -/
theorem dic_at {S0 : Addr → Prop} {Os : OLa} {σ : L2.St} {H : Hp} (st : St1 K S0 G O Os σ H) {j i : Nat} {ds : List (Key × D)} (ho : O[j]? = some (i, .dic ds)) :
    ∃ (p : Addr) (vs : List (Key × V)), Os[j]? = some (p, i, .dic ds) ∧ σ[i]? = some (some (.ref p)) ∧ H p = some (.dK vs) ∧ vs.map Prod.fst = ds.map Prod.fst ∧ Reps K (SO S0 Os) H (vs.map Prod.snd) (ds.map Prod.snd) := by
  obtain ⟨p, hp, e, hpj⟩ := own_at st.os ho
  obtain ⟨hs, oa⟩ := st.own p hp
  obtain ⟨p1, p2⟩ := p
  have e' : p2 = (i, .dic ds) := e
  subst e'
  obtain ⟨vs, h1, h2, h3⟩ := oa
  exact ⟨p1, vs, hpj, hs, h1, h2, h3⟩
theorem St1.dic_put {S0 : Addr → Prop} {Os : OLa} {σ : L2.St} {H : Hp} (st : St1 K S0 G O Os σ H) {j i : Nat} {ds ds' : List (Key × D)} {p : Addr} {vs' : List (Key × V)} (hp : Os[j]? = some (p, i, .dic ds)) (ek : vs'.map Prod.fst = ds'.map Prod.fst) (r : Reps K (SO S0 Os) H (vs'.map Prod.snd) (ds'.map Prod.snd)) :
    St1 K S0 G (O.set j (i, .dic ds')) (Os.set j (p, i, .dic ds')) σ (upd H p (.dK vs')) := by
  have sx : SameX (W Os) H (upd H p (.dK vs')) := fun a n u e => by rw [upd_ne fun z => n (by rw [z]; exact w_at hp)]; exact e
  exact st.own_set hp ⟨vs', upd_same, ek, Reps.mono (sx.lex.weak fun a z => .inr z) r⟩ sx
/-- d[e] = v -/
theorem ds_dput (j : Nat) {i : Nat} {ds : List (Key × D)} {tv ty : TE} (ho : O[j]? = some (i, .dic ds)) (h : DT K E tv G O (fun d => DT K E ty G O (fun e => ∃ key, e = kD key ∧ ds.length < sizeLine ∧ kn G (O.set j (i, .dic (putD ds key d)))) ke) ke) :
    DS K E (sDPut (tVar i) ty tv) G O kn kr ke := fun S0 H0 Os σ H Ds f st hn hr he =>
  h.at_ f st he fun v H1 d hd s1 f1 st1 rd => by
    obtain ⟨p, vs, hpj, hs, hh, ek, r⟩ := dic_at st1 ho
    refine ⟨_, hs, hd.at_ f1 st1 he fun w H2 e ⟨key, ee, hl, kd⟩ s2 f2 st2 re => ?_⟩
    subst ee
    have ew := kD_v re
    subst ew
    obtain ⟨q1, q2⟩ := put_rep (k := key) (rd.same s2) ek (r.same s2)
    exact ⟨p, _, rfl, DPut.k (s2 _ _ hh) (by rw [len_pair ek]; exact hl), hn G _ _ σ _ kd ((Chg.of_same (s1.trans s2)).trans (chg_put hpj)) (st2.dic_put hpj q1 q2)⟩
/-- the owned object -/
theorem obj_at {S0 : Addr → Prop} {Os : OLa} {σ : L2.St} {H : Hp} (st : St1 K S0 G O Os σ H) {j i : Nat} {c : Str} {ds : List (Str × D)} (ho : O[j]? = some (i, .obj c ds)) :
    ∃ (p dx : Addr) (vs : List (Str × V)), Os[j]? = some (p, i, .obj c ds) ∧ σ[i]? = some (some (.ref p)) ∧ H p = some (.ins (He.ga K c) dx vs) ∧ vs.map Prod.fst = ds.map Prod.fst ∧ Reps K (SO S0 Os) H (vs.map Prod.snd) (ds.map Prod.snd) := by
  obtain ⟨p, hp, e, hpj⟩ := own_at st.os ho
  obtain ⟨hs, oa⟩ := st.own p hp
  obtain ⟨p1, p2⟩ := p
  have e' : p2 = (i, .obj c ds) := e
  subst e'
  obtain ⟨dx, vs, h1, h2, h3⟩ := oa
  exact ⟨p1, dx, vs, hpj, hs, h1, h2, h3⟩
def putG (f : Str) (v : D) : List (Str × D) → List (Str × D)
  | [] => [(f, v)]
  | (g, u) :: r => if g = f then (g, v) :: r else (g, u) :: putG f v r
theorem putG_rep {S : Addr → Prop} {H : Hp} {f : Str} {v : V} {d : D} (rv : Rep K S H v d) : ∀ {fs : List (Str × V)} {ds : List (Str × D)}, fs.map Prod.fst = ds.map Prod.fst → Reps K S H (fs.map Prod.snd) (ds.map Prod.snd) →
    (putF f v fs).map Prod.fst = (putG f d ds).map Prod.fst ∧ Reps K S H ((putF f v fs).map Prod.snd) ((putG f d ds).map Prod.snd)
  | [], [], _, _ => ⟨rfl, .cons rv .nil⟩
  | [], _ :: _, h, _ => by simp at h
  | _ :: _, [], h, _ => by simp at h
  | (p, x) :: r, (q, y) :: s, h, .cons hv t => by
    have h1 : p = q := by simpa using (List.cons.inj (by simpa using h)).1
    have h2 : r.map Prod.fst = s.map Prod.fst := by simpa using (List.cons.inj (by simpa using h)).2
    subst h1
    obtain ⟨i1, i2⟩ := putG_rep (f := f) rv h2 t
    by_cases e : p = f
    · have e1 : putF f v ((p, x) :: r) = (p, v) :: r := by unfold putF; exact if_pos e
      have e2 : putG f d ((p, y) :: s) = (p, d) :: s := by unfold putG; exact if_pos e
      rw [e1, e2]
      exact ⟨by rw [List.map_cons, List.map_cons, h2], .cons rv t⟩
    · have e1 : putF f v ((p, x) :: r) = (p, x) :: putF f v r := by
        show (if p = f then _ else _) = _
        exact if_neg e
      have e2 : putG f d ((p, y) :: s) = (p, y) :: putG f d s := by
        show (if p = f then _ else _) = _
        exact if_neg e
      rw [e1, e2]
      exact ⟨by rw [List.map_cons, List.map_cons, i1], .cons hv i2⟩
/-- self.f = e, self owned -/
theorem ds_fld (j : Nat) {i : Nat} {c f : Str} {ds : List (Str × D)} {tv : TE} (cl : Cls K (He.ga K c)) (na : NoAttr K (He.ga K c) f) (ho : O[j]? = some (i, .obj c ds)) (hl : ds.length < 1000) (h : DT K E tv G O (fun d => kn G (O.set j (i, .obj c (putG f d ds)))) ke) :
    DS K E (sFld K (tVar i) tv f) G O kn kr ke := fun S0 H0 Os σ H Ds ff st hn hr he =>
  h.at_ ff st he fun v H1 d kd s1 f1 st1 rd => by
    obtain ⟨p, dx, vs, hpj, hs, hh, ek, r⟩ := obj_at st1 ho
    obtain ⟨q1, q2⟩ := putG_rep (f := f) rd ek r
    have hle : vs.length = ds.length := by
      have := congrArg List.length ek
      simpa using this
    have sx : SameX (W Os) H1 (upd H1 p (.ins (He.ga K c) dx (putF f v vs))) := fun a n u e => by rw [upd_ne fun z => n (by rw [z]; exact w_at hpj)]; exact e
    have st2 := st1.own_set hpj (o' := .obj c (putG f d ds)) ⟨dx, _, upd_same, q1, Reps.mono (sx.lex.weak fun a z => .inr z) q2⟩ sx
    exact ⟨_, hs, p, _, dx, vs, rfl, hh, cl, na, by rw [hle]; exact hl, hn G _ _ σ _ kd ((Chg.of_same s1).trans (chg_put hpj)) st2⟩
/-- .. the instance that an __init__ fills -/
theorem ds_fldS (j : Nat) {x : Addr} {i : Nat} {c f : Str} {ds : List (Str × D)} {tv : TE} (cl : Cls K (He.ga K c)) (na : NoAttr K (He.ga K c) f) (ho : O[j]? = some (i, .slf x c ds)) (hl : ds.length < 1000) (h : DT K E tv G O (fun d => kn G (O.set j (i, .slf x c (putG f d ds)))) ke) :
    DS K E (sFld K (tVar i) tv f) G O kn kr ke := fun S0 H0 Os σ H Ds ff st hn hr he =>
  h.at_ ff st he fun v H1 d kd s1 f1 st1 rd => by
    obtain ⟨p0, hp, e, hpj⟩ := own_at st1.os ho
    obtain ⟨hs, oa⟩ := st1.own p0 hp
    obtain ⟨p, p2⟩ := p0
    have e' : p2 = (i, .slf x c ds) := e
    subst e'
    obtain ⟨ea, dx, vs, hh, ek, r⟩ := oa
    obtain ⟨q1, q2⟩ := putG_rep (f := f) rd ek r
    have hle : vs.length = ds.length := by
      have := congrArg List.length ek
      simpa using this
    have sx : SameX (W Os) H1 (upd H1 p (.ins (He.ga K c) dx (putF f v vs))) := fun a n u e => by rw [upd_ne fun z => n (by rw [z]; exact w_at hpj)]; exact e
    have st2 := st1.own_set hpj (o' := .slf x c (putG f d ds)) ⟨ea, dx, _, upd_same, q1, Reps.mono (sx.lex.weak fun a z => .inr z) q2⟩ sx
    exact ⟨_, hs, p, _, dx, vs, rfl, hh, cl, na, by rw [hle]; exact hl, hn G _ _ σ _ kd ((Chg.of_same s1).trans (chg_put hpj)) st2⟩
/-! ### len -/
abbrev rLenB (K : PySem.W.Frag) : List V → Hp → VK → Prop := fun xs H Q => ∃ x n, xs = [x] ∧ LenV K x H n ∧ Q (.int n) H
theorem dt_lenO (j : Nat) {i : Nat} {ds : List D} {k : D → Prop} (ho : O[j]? = some (i, .lst ds)) (h : k (.int (ds.length : Nat))) : DT K E (tCB (rLenB K) (tCons (tVar i) tNil)) G O k ke := fun S0 Os σ H Q st hq he => by
  obtain ⟨p, vs, hpj, hs, hh, r⟩ := lst_at st ho
  refine ⟨_, hs, _, vs.length, rfl, .inl ⟨vs, SqL.of hh, rfl⟩, ?_⟩
  rw [r.length]
  exact hq _ H _ h (Same.refl H) (.int _)
theorem cad_len : CaD K (rLenB K) (fun ds k => ∃ d, ds = [d] ∧ ((∃ xs, d = .lst xs ∧ k (.int (xs.length : Nat))) ∨ (∃ xs, d = .tup xs ∧ k (.int (xs.length : Nat))) ∨ ∃ z : Str, d = .str z ∧ z.length ≤ sizeLine ∧ k (.int (z.length : Nat)))) := by
  intro S H xs ds Q k dm rx ⟨d, e, h⟩ hq
  subst e
  cases rx with
  | cons hx t =>
    cases t
    rcases h with ⟨ys, e, q⟩ | ⟨ys, e, q⟩ | ⟨z, e, l, q⟩
    · subst e
      cases hx with
      | lst n hh r => exact ⟨_, _, rfl, .inl ⟨_, SqL.of hh, rfl⟩, by rw [r.length]; exact hq _ H _ q (Same.refl H) (.int _)⟩
    · subst e
      cases hx with
      | tup n hh r => exact ⟨_, _, rfl, .inr ⟨_, SqT.of hh, rfl⟩, by rw [r.length]; exact hq _ H _ q (Same.refl H) (.int _)⟩
    · subst e
      cases hx
      exact ⟨_, _, rfl, ⟨l, rfl⟩, hq _ H _ q (Same.refl H) (.int _)⟩
theorem cad_lenS : CaD K (rLenB K) (fun ds k => ∃ ns, ds = [.scr ns] ∧ k (.int (ns.length : Nat))) := by
  intro S H xs ds Q k dm rx ⟨ns, e, q⟩ hq
  subst e
  cases rx with
  | cons hx t =>
    cases t
    cases hx with
    | scr n h => exact ⟨_, _, rfl, .inl ⟨_, .inl h, rfl⟩, by rw [List.length_map]; exact hq _ H _ q (Same.refl H) (.int _)⟩
    | scrK h => exact ⟨_, _, rfl, .inl ⟨_, .inr h, rfl⟩, by rw [List.length_map]; exact hq _ H _ q (Same.refl H) (.int _)⟩
theorem opd_ixS : OpD K (rIxL K) (fun a b k => ∃ ns i n, a = .scr ns ∧ b = .int i ∧ atI ns i = some n ∧ k (.int n)) := by
  intro S H x y a b Q k dm rx ry ⟨ns, i, n, e1, e2, l, q⟩ hq
  subst e1 e2
  cases ry
  have l2 : atI (ns.map V.int) i = some (.int n) := by
    unfold atI at l ⊢
    rw [List.length_map]
    cases e : ixN ns.length i with
    | none => rw [e] at l; cases l
    | some j =>
      rw [e] at l
      show (ns.map V.int)[j]? = some (V.int n)
      have l' : ns[j]? = some n := l
      rw [List.getElem?_map, l']; rfl
  cases rx with
  | scr m h => exact ⟨_, _, _, _, rfl, rfl, .inl h, l2, hq _ H _ q (Same.refl H) (.int _)⟩
  | scrK h => exact ⟨_, _, _, _, rfl, rfl, .inr h, l2, hq _ H _ q (Same.refl H) (.int _)⟩
theorem cad_lenD : CaD K (fun xs H Q => ∃ (a : Addr) (kvs : List (Key × V)), xs = [.ref a] ∧ H a = some (.dK kvs) ∧ Q (.int kvs.length) H) (fun ds k => False) := fun _ _ _ _ _ _ _ _ h => h.elim

/-! ### == of data -/
mutual
def D.pd : D → Option PyData
  | .non => some .none
  | .bl b => some (.bool b)
  | .int i => some (.int i)
  | .str s => some (.str s)
  | .lst xs => (D.pds xs).map .list
  | .tup xs => (D.pds xs).map .tuple
  | .ty _ => none
  | .glo _ => none
  | .dic _ => none
  | .obj _ _ => none
  | .stm => none
  | .scr _ => none
def D.pds : List D → Option (List PyData)
  | [] => some []
  | d :: r => match D.pd d, D.pds r with
    | some a, some b => some (a :: b)
    | _, _ => none
end
mutual
theorem dp_of {S : Addr → Prop} {H : Hp} : ∀ (d : D) (v : V) (p : PyData), Rep K S H v d → d.pd = some p → Dp K H v p
  | .non, _, p, r, e => by cases r; unfold D.pd at e; cases e; exact .non
  | .bl b, _, p, r, e => by cases r; unfold D.pd at e; cases e; exact .bl b
  | .int i, _, p, r, e => by cases r; unfold D.pd at e; cases e; exact .int i
  | .str s, _, p, r, e => by cases r; unfold D.pd at e; cases e; exact .str s
  | .lst xs, _, p, r, e => by
    unfold D.pd at e
    cases r with
    | lst n hh rr =>
      cases q : D.pds xs with
      | none => rw [q] at e; cases e
      | some ps => rw [q] at e; cases e; exact .lst (SqL.of hh) (dps_of xs _ ps rr q)
  | .tup xs, _, p, r, e => by
    unfold D.pd at e
    cases r with
    | tup n hh rr =>
      cases q : D.pds xs with
      | none => rw [q] at e; cases e
      | some ps => rw [q] at e; cases e; exact .tup (SqT.of hh) (dps_of xs _ ps rr q)
  | .ty _, _, p, r, e => by unfold D.pd at e; cases e
  | .glo _, _, p, r, e => by unfold D.pd at e; cases e
  | .dic _, _, p, r, e => by unfold D.pd at e; cases e
  | .obj _ _, _, p, r, e => by unfold D.pd at e; cases e
  | .stm, _, p, r, e => by unfold D.pd at e; cases e
  | .scr _, _, p, r, e => by unfold D.pd at e; cases e
theorem dps_of {S : Addr → Prop} {H : Hp} : ∀ (ds : List D) (vs : List V) (ps : List PyData), Reps K S H vs ds → D.pds ds = some ps → DpAll K H vs ps
  | [], _, ps, r, e => by cases r; unfold D.pds at e; cases e; exact .nil
  | d :: ds, _, ps, r, e => by
    cases r with
    | cons h t =>
      unfold D.pds at e
      cases q1 : d.pd with
      | none => rw [q1] at e; cases e
      | some a =>
        cases q2 : D.pds ds with
        | none => rw [q1, q2] at e; cases e
        | some b => rw [q1, q2] at e; cases e; exact .cons (dp_of d _ a h q1) (dps_of ds _ b t q2)
end
theorem opd_eqD : OpD K (rEqD K) (fun a b k => ∃ p q, a.pd = some p ∧ b.pd = some q ∧ SeqAt.shaped p = true ∧ SeqAt.shaped q = true ∧ k (.bl (PyData.eqv p q))) := by
  intro S H x y a b Q k dm rx ry ⟨p, q, e1, e2, s1, s2, h⟩ hq
  exact ⟨p, q, dp_of a x p rx e1, dp_of b y q ry e2, s1, s2, hq _ H _ h (Same.refl H) (.bl _)⟩
theorem opd_neD : OpD K (rNeD K) (fun a b k => ∃ p q, a.pd = some p ∧ b.pd = some q ∧ SeqAt.shaped p = true ∧ SeqAt.shaped q = true ∧ k (.bl (!PyData.eqv p q))) := by
  intro S H x y a b Q k dm rx ry ⟨p, q, e1, e2, s1, s2, h⟩ hq
  exact ⟨p, q, dp_of a x p rx e1, dp_of b y q ry e2, s1, s2, hq _ H _ h (Same.refl H) (.bl _)⟩
/-! ### isinstance -/
/-- what isinstance asks of an own class -/
structure InsK (K : PySem.W.Frag) (c : Str) : Prop where
  cl : Cls K (He.ga K c)
  ha : PySem.W.findIn K (.ref (He.ga K c)) "__class__" = some (some (.builtin "object.__class__"))
  hn : PySem.W.specialIn K (.builtin "object.__class__") "__get__" = some (some (.builtin "getset_descriptor.__get__"))
  htk : PySem.W.takesIn K (.builtin "object.__class__") = some true
  hm : PySem.W.mroIn K (He.ga K c) (.type "object") = some true
theorem insB_ok {K : PySem.W.Frag} {c : Str} (h : insB K c = true) : InsK K c := by
  obtain ⟨h1, h⟩ := He.ba h
  obtain ⟨h2, h⟩ := He.ba h
  obtain ⟨h3, h⟩ := He.ba h
  obtain ⟨h4, h5⟩ := He.ba h
  exact ⟨He.cls_ok h1, He.eqO_ok h2, He.eqO_ok h3, of_decide_eq_true h4, of_decide_eq_true h5⟩
inductive TyD (K : PySem.W.Frag) : D → Value → Prop where
  | non : TyD K .non (.type "NoneType")
  | bl (b : Bool) : TyD K (.bl b) (.type "bool")
  | int (i : Int) : TyD K (.int i) (.type "int")
  | str (s : Str) : TyD K (.str s) (.type "str")
  | lst (xs : List D) : TyD K (.lst xs) (.type "list")
  | tup (xs : List D) : TyD K (.tup xs) (.type "tuple")
  | dic (xs : List (Key × D)) : TyD K (.dic xs) (.type "dict")
  | obj (c : Str) (fs : List (Str × D)) (h : InsK K c) : TyD K (.obj c fs) (.ref (He.ga K c))
theorem tyx_of {S : Addr → Prop} {H : Hp} {v : V} {d : D} {t : Value} (r : Rep K S H v d) (h : TyD K d t) : TyX K H v t := by
  cases h with
  | non => cases r; exact .base .non
  | bl b => cases r; exact .base (.bl b)
  | int b => cases r; exact .base (.int b)
  | str b => cases r; exact .base (.str b)
  | lst xs => cases r with | lst n hh rr => exact .base (.lst hh)
  | tup xs => cases r with | tup n hh rr => exact .base (.tup hh)
  | dic xs =>
    cases r with
    | dic n hh e rr =>
      rcases hh with hh | ⟨o, hh⟩
      · exact .base (.dK hh)
      · exact .fDict hh
  | obj c fs hc => cases r with | obj n hh e rr => exact .base (.ins hh hc.cl hc.ha hc.hn hc.htk hc.hm)
inductive ClD (K : PySem.W.Frag) : D → Value → Prop where
  | ty (n : String) : ClD K (.ty n) (.type n)
  | glo (x : Str) : ClD K (.glo x) (.ref (He.ga K x))
theorem cad_isi : CaD K (rIsi K) (fun ds k => ∃ d c t u b, ds = [d, c] ∧ TyD K d t ∧ ClD K c u ∧ PySem.W.kitOne K t u = some b ∧ k (.bl b)) := by
  intro S H xs ds Q k dm rx ⟨d, c, t, u, b, e, ht, hc, hk, q⟩ hq
  subst e
  cases rx with
  | cons h1 tt =>
    cases tt with
    | cons h2 t2 =>
      cases t2
      refine ⟨_, _, t, u, b, rfl, ?_, tyx_of h1 ht, hk, hq _ H _ q (Same.refl H) (.bl _)⟩
      cases hc with
      | ty n => cases h2; exact .ty n
      | glo x => cases h2; exact .own _
end
end Fw

set_option maxHeartbeats 4000000
/-! Own special methods: len, in, operators, ==, subscripts; list(d.values()). -/
namespace Fw
open PySem PySem.Spec PyProof.Rows L2
section
variable {X : Cx} {CX : CXT} {k : Nat} {f C Dc : Addr} {fd : FuncData} {ps : List Str} {sp : Sp} {E : XK} {pins : List (Addr × Obj)} {σ : L2.St} {H : Hp} {s : Shared} {A : Around}
theorem call_at {Q : VK} {us : List Value} {vs : List V} (F : FnOk X.prog X.w X.K X.mg X.base CX k f fd ps sp) (hr : Room k A) (hA : A.frames = X.A.frames) (hb : Binds X.K fd ps []) (hx : Passes CX X E)
    (I : Inv X pins σ H s) (r : Vals vs us) (h : sp vs H Q E) : wpAny (model X.prog X.w) A (call (.ref f) us) (EP X pins σ Q) X.xe s := by
  have hl : (us ++ []).length = ps.length := by rw [List.append_nil, ← r.length]; exact F.len _ _ _ _ h
  have e0 : Env0 X.prog X.w X.K X.mg X.base A X.stack s H := by
    have e := I.env0
    exact ⟨by rw [hA]; exact e.frames, e.mod, e.bs, e.bsz, e.funs, e.frf, e.hok, e.bare⟩
  have hb' := hb s us I.kIn hl
  rw [List.append_nil] at hb'
  refine wpAny_call (codeAny_mono (F.run A X.stack s H ⟨us, []⟩ us vs Q E hr e0 hb' r h) fun r s' hq => ?_)
  cases r with
  | error e => exact hx pins σ H s e s' I hq
  | ok fl =>
    cases fl with
    | ret u => exact I.after hq
    | next => exact False.elim hq
    | brk => exact False.elim hq
    | cont => exact False.elim hq
theorem rr {a : Addr} : RelV (.ref a) (Value.ref a) := rfl
theorem ins_at {a dx : Addr} {fs : List (Str × V)} (I : Inv X pins σ H s) (h : H a = some (.ins C dx fs)) : ∃ od, PySem.W.InstAt s.heap a (PySem.W.instObj C dx) C (some od) := by
  obtain ⟨mA, J, _⟩ := ins_get I.hok h
  obtain ⟨od, J, _⟩ := J.look
  exact ⟨od, J⟩
theorem back_ok {Q : Value → Shared → Prop} {v : V} {u : Value} {s : Shared} (r : RelV v u) (h : Q u s) : PySem.W.CmpBack Q u s := by
  cases v with
  | non => cases r; exact h
  | bl b => cases r; exact h
  | int i => obtain ⟨t, rfl⟩ := r; exact h
  | str i => obtain ⟨t, rfl⟩ := r; exact h
  | byt i => obtain ⟨t, rfl⟩ := r; exact h
  | flt i => obtain ⟨t, rfl⟩ := r; exact h
  | ref a => cases r; exact h
  | ty n => cases r; exact h
/-- len(o) -/
def rLenI (C : Addr) (sp : Sp) : List V → Hp → VK → Prop := fun xs H Q => ∃ a dx fs, xs = [.ref a] ∧ H a = some (.ins C dx fs) ∧ sp [.ref a] H (fun v H' => ∃ n : Int, v = .int n ∧ (0 ≤ n ∧ n < 2 ^ 63) ∧ Q (.int n) H') E0
theorem call_lenI (F : FnOk X.prog X.w X.K X.mg X.base (L2.CX X.prog X.w) k f fd ps sp) (hr : Room (k + 1) X.A) (hm : Meth X.K C "__len__" f) (hb : Binds X.K fd ps []) : CallR X (.builtin "len") (rLenI C sp) := by
  intro pins s σ H xs us Q I r ⟨a, dx, fs, e, ha, h⟩
  subst e
  obtain ⟨u, eu, ru⟩ := vals1 r
  subst eu; cases ru
  obtain ⟨od, J⟩ := ins_at I ha
  obtain ⟨m, hF⟩ := I.fr
  refine PySem.W.len_K hF I.ok.mod.kin J hm.at_ hm.fn (wpAny_mono (call_at F hr.in1 rfl hb passL I (.cons (rr (a := a)) .nil) h) (fun v s' hv => ?_) fun _ _ z => z)
  obtain ⟨w, H', I', rw_, n, ew, hn, q⟩ := hv
  subst ew
  obtain ⟨t, rfl⟩ := rw_
  exact ⟨hn, .int n, H', I'.tok _, ⟨_, rfl⟩, q⟩
/-- x in o, x not in o -/
def rInI (C : Addr) (sp : Sp) (neg : Bool) : R2 := fun x y H Q => ∃ a dx fs, y = .ref a ∧ H a = some (.ins C dx fs) ∧ sp [.ref a, x] H (fun v H' => ∃ b : Bool, v = .bl b ∧ Q (.bl (if neg then !b else b)) H') E0
theorem op_inI (F : FnOk X.prog X.w X.K X.mg X.base (L2.CX X.prog X.w) k f fd ps sp) (hr : Room k X.A) (hm : Meth X.K C "__contains__" f) (hb : Binds X.K fd ps []) : OpR X (compareOp .In) (rInI C sp false) := by
  intro pins s σ H x y v u Q I rx ry ⟨a, dx, fs, e, ha, h⟩
  subst e; cases ry
  obtain ⟨od, J⟩ := ins_at I ha
  obtain ⟨m, hF⟩ := I.fr
  refine PySem.W.in_K hF I.ok.mod.kin J hm.at_ hm.fn (wpAny_mono (call_at F hr rfl hb passL I (.cons (rr (a := a)) (.cons rx .nil)) h) (fun v s' hv => ?_) fun _ _ z => z)
  obtain ⟨w, H', I', rw_, b, ew, q⟩ := hv
  subst ew; cases rw_
  exact wpAny_truthy_bool ⟨.bl b, H', I', rfl, q⟩
theorem op_notInI (F : FnOk X.prog X.w X.K X.mg X.base (L2.CX X.prog X.w) k f fd ps sp) (hr : Room k X.A) (hm : Meth X.K C "__contains__" f) (hb : Binds X.K fd ps []) : OpR X (compareOp .NotIn) (rInI C sp true) := by
  intro pins s σ H x y v u Q I rx ry ⟨a, dx, fs, e, ha, h⟩
  subst e; cases ry
  obtain ⟨od, J⟩ := ins_at I ha
  obtain ⟨m, hF⟩ := I.fr
  refine PySem.W.notIn_K hF I.ok.mod.kin J hm.at_ hm.fn (wpAny_mono (call_at F hr rfl hb passL I (.cons (rr (a := a)) (.cons rx .nil)) h) (fun v s' hv => ?_) fun _ _ z => z)
  obtain ⟨w, H', I', rw_, b, ew, q⟩ := hv
  subst ew; cases rw_
  exact wpAny_truthy_bool ⟨.bl (!b), H', I', rfl, q⟩
/-- o + p by an own method -/
def rBinI (C Dc : Addr) (sp : Sp) : R2 := fun x y H Q => ∃ a dx fs b dy gs, x = .ref a ∧ y = .ref b ∧ H a = some (.ins C dx fs) ∧ H b = some (.ins Dc dy gs) ∧ sp [.ref a, .ref b] H Q E0
theorem op_binI {op : Operator} (F : FnOk X.prog X.w X.K X.mg X.base (L2.CX X.prog X.w) k f fd ps sp) (hr : Room k X.A) (hm : Meth X.K C (PySem.dunder op.info.2) f) (hc : PySem.W.selfFirst X.K C = true) (hb : Binds X.K fd ps []) : OpR X (binaryOp op) (rBinI C C sp) := by
  intro pins s σ H x y v u Q I rx ry ⟨a, dx, fs, b, dy, gs, e1, e2, ha, hb', h⟩
  subst e1 e2; cases rx; cases ry
  obtain ⟨od, J⟩ := ins_at I ha
  obtain ⟨od', J'⟩ := ins_at I hb'
  obtain ⟨m, hF⟩ := I.fr
  refine PySem.W.binop_K hF I.ok.mod.kin J J'.type hc hm.at_ hm.fn (wpAny_mono (call_at F hr rfl hb passL I (.cons (rr (a := a)) (.cons (rr (a := b)) .nil)) h) (fun v s' hv => ?_) fun _ _ z => z)
  obtain ⟨w, H', I', rw_, q⟩ := hv
  exact back_ok (Q := EP X pins σ Q) rw_ ⟨w, H', I', rw_, q⟩
end
section
open PySem.W PySem.Calls
variable {prog : Program} {w : World} {A : Around} {E : Value → Shared → Prop} {s : Shared} {K : Frag} {x C y Dc L f f2 : Addr} {h₀ : Heap} {m : Str → Option Value} {ox oy : Obj} {od od' : Option Obj}
/-- o op p, of two own classes that both have the method, none above the other -/
theorem bin_two {op : Operator} {rc rd : Option Value} {Q : Value → Shared → Prop} (F : Fr h₀ L s.heap m) (X₀ : K.In h₀) (I : InstAt s.heap x ox C od) (J : InstAt s.heap y oy Dc od') (hne : C ≠ Dc) (hc : selfFirst K C = true) (hd : selfFirst K Dc = true)
    (hs : findIn K (.ref C) (PySem.dunder op.info.2) = some (some (.ref f))) (hf : isFn K (.ref f) = true) (hs2 : findIn K (.ref Dc) (PySem.dunder op.info.2) = some (some (.ref f2)))
    (hr : findIn K (.ref C) (dunderR op.info.2) = some rc) (hp : rc = none ∨ ∃ g : Addr, rc = some (.ref g)) (hr2 : findIn K (.ref Dc) (dunderR op.info.2) = some rd) (hp2 : rd = none ∨ ∃ g : Addr, rd = some (.ref g)) (hsub : subIn K (.ref Dc) (.ref C) = some false)
    (h : wpAny (model prog w) A (call (.ref f) [.ref x, .ref y]) (PySem.W.CmpBack Q) E s) : wpAny (model prog w) A (binaryOp op (.ref x) (.ref y)) Q E s := by
  have X := X₀.keeps F.keep
  obtain ⟨cd, rest, hcd, hm⟩ := ksp_first hc
  obtain ⟨cd2, rest2, hcd2, hm2⟩ := ksp_first hd
  rcases hi : op.info with ⟨sym, nm'⟩
  rw [hi] at hs hr hs2 hr2
  dsimp only at hs hr hs2 hr2
  have one := ksp_try X I hs hf h
  obtain ⟨hh, g, d, tt, os⟩ := s
  have L1 : Looks (model prog w) hh (typeOf (.ref x)) (.ref C) := I.type
  have L2 : Looks (model prog w) hh (typeOf (.ref y)) (.ref Dc) := J.type
  have L3 : Looks (model prog w) hh (fillsNumberSlot (.ref C) nm') true := fills_K X hcd hm hs
  have L4 : Looks (model prog w) hh (fillsNumberSlot (.ref Dc) nm') true := fills_K X hcd2 hm2 hs2
  have L5 : Looks (model prog w) hh (isSubtype (.ref Dc) (.ref C)) false := looks_subIn X hsub
  have L6 : Looks (model prog w) hh (numberSlotInPython (.ref C) nm') true := ksp_inPy X hs hr hp
  have L7 : Looks (model prog w) hh (numberSlotInPython (.ref Dc) nm') true := ksp_inPy X hs2 hr2 hp2
  have hne' : (Value.ref C == Value.ref Dc) = false := Bool.eq_false_iff.mpr fun q => by
    have := beq_iff_eq.mp q
    cases this; exact hne rfl
  simp only [binaryOp, hi]
  refine wpAny_holding (wpAny_bind ?_)
  unfold binaryOp1
  refine wpAny_bind (L1.at (wpAny_bind (L2.at (wpAny_bind (L3.at ?_)))))
  simp only [hne', Bool.false_eq_true, if_false]
  ksp_lk
  refine wpAny_mono one (fun r s' hr' => ?_) fun _ _ e => e
  obtain ⟨v, rfl, hq⟩ := hr'
  ksp_lk
  exact hq
end
section
variable {X : Cx} {CX : CXT} {k : Nat} {f f2 C Dc : Addr} {fd : FuncData} {ps : List Str} {sp : Sp} {E : XK} {pins : List (Addr × Obj)} {σ : L2.St} {H : Hp} {s : Shared} {A : Around}
structure Bin2 (K : PySem.W.Frag) (C Dc : Addr) (nm : String) (f2 : Addr) : Prop where
  ne : C ≠ Dc
  sc : PySem.W.selfFirst K C = true
  sd : PySem.W.selfFirst K Dc = true
  at2 : PySem.W.findIn K (.ref Dc) (PySem.dunder nm) = some (some (.ref f2))
  r1 : PySem.W.findIn K (.ref C) (dunderR nm) = some none
  r2 : PySem.W.findIn K (.ref Dc) (dunderR nm) = some none
  sub : PySem.W.subIn K (.ref Dc) (.ref C) = some false
theorem op_binI2 {op : Operator} (F : FnOk X.prog X.w X.K X.mg X.base (L2.CX X.prog X.w) k f fd ps sp) (hr : Room k X.A) (hm : Meth X.K C (PySem.dunder op.info.2) f) (b2 : Bin2 X.K C Dc op.info.2 f2) (hb : Binds X.K fd ps []) : OpR X (binaryOp op) (rBinI C Dc sp) := by
  intro pins s σ H x y v u Q I rx ry ⟨a, dx, fs, b, dy, gs, e1, e2, ha, hb', h⟩
  subst e1 e2; cases rx; cases ry
  obtain ⟨od, J⟩ := ins_at I ha
  obtain ⟨od', J'⟩ := ins_at I hb'
  obtain ⟨m, hF⟩ := I.fr
  refine bin_two hF I.ok.mod.kin J J' b2.ne b2.sc b2.sd hm.at_ hm.fn b2.at2 b2.r1 (.inl rfl) b2.r2 (.inl rfl) b2.sub (wpAny_mono (call_at F hr rfl hb passL I (.cons (rr (a := a)) (.cons (rr (a := b)) .nil)) h) (fun v s' hv => ?_) fun _ _ z => z)
  obtain ⟨w, H', I', rw_, q⟩ := hv
  exact back_ok (Q := EP X pins σ Q) rw_ ⟨w, H', I', rw_, q⟩
/-- ~o -/
def rInvI (C : Addr) (sp : Sp) : V → Hp → VK → Prop := fun x H Q => ∃ a dx fs, x = .ref a ∧ H a = some (.ins C dx fs) ∧ sp [.ref a] H Q E0
theorem un_invI (F : FnOk X.prog X.w X.K X.mg X.base (L2.CX X.prog X.w) k f fd ps sp) (hr : Room k X.A) (hm : Meth X.K C "__invert__" f) (hb : Binds X.K fd ps []) : UnR X (unaryOp .Invert) (rInvI C sp) := by
  intro pins s σ H x v Q I rx ⟨a, dx, fs, e1, ha, h⟩
  subst e1; cases rx
  obtain ⟨od, J⟩ := ins_at I ha
  obtain ⟨m, hF⟩ := I.fr
  exact PySem.W.ksp_inv hF I.ok.mod.kin J hm.at_ hm.fn (call_at F hr rfl hb passL I (.cons (rr (a := a)) .nil) h)
/-- o == p -/
def rEqI (C : Addr) (sp : Sp) : R2 := fun x y H Q => ∃ a dx fs b dy gs, x = .ref a ∧ y = .ref b ∧ H a = some (.ins C dx fs) ∧ H b = some (.ins C dy gs) ∧ sp [.ref a, .ref b] H (fun v H' => ∃ t : Bool, v = .bl t ∧ Q (.bl t) H') E0
theorem op_eqI (F : FnOk X.prog X.w X.K X.mg X.base (L2.CX X.prog X.w) k f fd ps sp) (hr : Room k X.A) (hm : Meth X.K C "__eq__" f) (hb : Binds X.K fd ps []) : OpR X (compareOp .Eq) (rEqI C sp) := by
  intro pins s σ H x y v u Q I rx ry ⟨a, dx, fs, b, dy, gs, e1, e2, ha, hb', h⟩
  subst e1 e2; cases rx; cases ry
  obtain ⟨od, J⟩ := ins_at I ha
  obtain ⟨od', J'⟩ := ins_at I hb'
  obtain ⟨m, hF⟩ := I.fr
  show wpAny (model X.prog X.w) X.A (richCompare .Eq (.ref a) (.ref b)) (EP X pins σ Q) X.xe s
  refine PySem.W.cmp_K (op := .Eq) (tb := .ref C) hr.units0 hF I.ok.mod.kin J J'.type (by simp [PySem.W.notFirst]) hm.at_ hm.fn (wpAny_mono (call_at F hr rfl hb passL I (.cons (rr (a := a)) (.cons (rr (a := b)) .nil)) h) (fun v s' hv => ?_) fun _ _ z => z)
  obtain ⟨w, H', I', rw_, t, ew, q⟩ := hv
  subst ew; cases rw_
  exact ⟨.bl t, H', I', rfl, q⟩
/-- o[i] by an own method -/
def rGetI (C : Addr) (sp : Sp) : R2 := fun x y H Q => ∃ a dx fs, x = .ref a ∧ H a = some (.ins C dx fs) ∧ sp [.ref a, y] H Q E0
theorem ix_own (F : FnOk X.prog X.w X.K X.mg X.base (L2.CX X.prog X.w) k f fd ps sp) (hr : Room (k + 1) X.A) (hm : Meth X.K C "__getitem__" f) (hn : PySem.W.fnIn X.K f = true) (hb : Binds X.K fd ps []) {a b : Expr} {ta tb : TE} {pos : Pos} (ha : PE X a ta) (hb2 : PE X b tb)
    (hsl : ∀ o i, subscripted b true o i = runValue (.builtin "lifetime.subscript" ⟨[o, i], []⟩) := by intro _ _; with_unfolding_all rfl) : PE X (.Subscript a b pos) (tOp (rGetI C sp) ta tb) := by
  refine ⟨fun pins s σ H Q I h => ?_⟩
  refine Subscript_ (binT ha hb2 I h fun v u s2 x y H2 I2 rx ry q => ?_)
  obtain ⟨c, dx, fs, e, hc, h2⟩ := q
  subst e; cases rx
  obtain ⟨od, J⟩ := ins_at I2 hc
  obtain ⟨m, hF⟩ := I2.fr
  exact PySem.W.sub_K hF I2.ok.mod.kin J hm.at_ hn hm.fn (call_at F hr.in1 rfl hb passL I2 (.cons (rr (a := c)) (.cons ry .nil)) h2) (hsl _ _)
end
end Fw

set_option maxHeartbeats 4000000
/-! The special methods by data; list(d.values()); dict(pairs). -/
namespace Fw
open PySem PySem.Spec PyProof.Rows L2
section
variable {K : PySem.W.Frag} {E : XK} {G : Gm} {O : OL} {ke : Xd → Prop}
theorem cad_lenI {c : Str} {w : Wt} : CaD K (rLenI (He.ga K c) (spD K w)) (fun ds k => ∃ fs, ds = [.obj c fs] ∧ w [.obj c fs] (fun d => ∃ n : Int, d = .int n ∧ (0 ≤ n ∧ n < 2 ^ 63) ∧ k (.int n)) F0) := by
  intro S H xs ds Q k dm rx ⟨fs, e, h⟩ hq
  subst e
  cases rx with
  | cons h1 t =>
    cases t
    have h0 := h1
    cases h1 with
    | obj n hh ek r =>
      exact ⟨_, _, _, rfl, hh, S, _, _, F0, dm, .cons h0 .nil, h, fun v H' d ⟨m, e, hb, kd⟩ s rv => by
        subst e; cases rv
        exact ⟨m, rfl, hb, hq _ H' _ kd s (.int _)⟩, eok_e0⟩
theorem opd_inI {c : Str} {w : Wt} {neg : Bool} : OpD K (rInI (He.ga K c) (spD K w) neg) (fun a b k => ∃ fs, b = .obj c fs ∧ w [b, a] (fun d => ∃ t, d = .bl t ∧ k (.bl (if neg then !t else t))) F0) := by
  intro S H x y a b Q k dm rx ry ⟨fs, e, h⟩ hq
  subst e
  have r0 := ry
  cases ry with
  | obj n hh ek r =>
    exact ⟨_, _, _, rfl, hh, S, _, _, F0, dm, .cons r0 (.cons rx .nil), h, fun v H' d ⟨t, e, kd⟩ s rv => by
      subst e; cases rv
      exact ⟨t, rfl, hq _ H' _ kd s (.bl _)⟩, eok_e0⟩
theorem opd_binI {c e : Str} {w : Wt} : OpD K (rBinI (He.ga K c) (He.ga K e) (spD K w)) (fun a b k => ∃ fs gs, a = .obj c fs ∧ b = .obj e gs ∧ w [a, b] k F0) := by
  intro S H x y a b Q k dm rx ry ⟨fs, gs, e1, e2, h⟩ hq
  subst e1 e2
  have r1 := rx
  have r2 := ry
  cases rx with
  | obj n hh ek r =>
    cases ry with
    | obj n' hh' ek' r' => exact ⟨_, _, _, _, _, _, rfl, rfl, hh, hh', S, _, _, F0, dm, .cons r1 (.cons r2 .nil), h, hq, eok_e0⟩
theorem und_invI {c : Str} {w : Wt} : UnD K (rInvI (He.ga K c) (spD K w)) (fun a k => ∃ fs, a = .obj c fs ∧ w [a] k F0) := by
  intro S H x a Q k dm rx ⟨fs, e1, h⟩ hq
  subst e1
  have r1 := rx
  cases rx with
  | obj n hh ek r => exact ⟨_, _, _, rfl, hh, S, _, _, F0, dm, .cons r1 .nil, h, hq, eok_e0⟩
theorem opd_eqI {c : Str} {w : Wt} : OpD K (rEqI (He.ga K c) (spD K w)) (fun a b k => ∃ fs gs, a = .obj c fs ∧ b = .obj c gs ∧ w [a, b] (fun d => ∃ t, d = .bl t ∧ k (.bl t)) F0) := by
  intro S H x y a b Q k dm rx ry ⟨fs, gs, e1, e2, h⟩ hq
  subst e1 e2
  have r1 := rx
  have r2 := ry
  cases rx with
  | obj n hh ek r =>
    cases ry with
    | obj n' hh' ek' r' => exact ⟨_, _, _, _, _, _, rfl, rfl, hh, hh', S, _, _, F0, dm, .cons r1 (.cons r2 .nil), h, fun v H' d ⟨t, e, kd⟩ s rv => by
        subst e; cases rv
        exact ⟨t, rfl, hq _ H' _ kd s (.bl _)⟩, eok_e0⟩
theorem opd_getI {c : Str} {w : Wt} : OpD K (rGetI (He.ga K c) (spD K w)) (fun a b k => ∃ fs, a = .obj c fs ∧ w [a, b] k F0) := by
  intro S H x y a b Q k dm rx ry ⟨fs, e1, h⟩ hq
  subst e1
  have r1 := rx
  cases rx with
  | obj n hh ek r => exact ⟨_, _, _, rfl, hh, S, _, _, F0, dm, .cons r1 (.cons ry .nil), h, hq, eok_e0⟩
end
/-! ### list(d.values()) -/
def rValsL : V → Hp → VK → Prop := fun x H Q => ∃ (d : Addr) (kvs : List (Key × V)), x = .ref d ∧ Rd H d (.dK kvs) ∧ ∀ p, H p = none → Q (.ref p) (upd H p (.lst (kvs.map Prod.snd)))
def tListVals (te : TE) : TE := fun σ H Q => te σ H fun x H1 => rValsL x H1 Q
section
variable {X : Cx} {e : Expr} {te : TE} {p apos cpos pos : Pos}
theorem vals_snd : ∀ {kvs : List (Key × V)} {vs : List (Key × Value)}, KV kvs vs → Vals (kvs.map Prod.snd) (vs.map Prod.snd)
  | _, _, .nil => .nil
  | _, _, .cons h t => .cons h.2 (vals_snd t)
theorem pe_listVals (hc : X.calm = true) (he : PE X e te) (hg : Gl X "list") (hm : X.mg "list" = none) (hv : bootBuiltins "list" = some (.type "list")) (hbase : attributeBase e "values" X.env (eval e X.env) = eval e X.env := by rfl) (hline : (apos.endLine == cpos.line) = true := by rfl)
    (hs : starEach [.Call (.Attribute e "values" apos) [] [] cpos] X.env = (false, eval (.Call (.Attribute e "values" apos) [] [] cpos) X.env) :: starEach [] X.env := by rfl) :
    PE X (.Call (.Name "list" p) [.Call (.Attribute e "values" apos) [] [] cpos] [] pos) (tListVals te) := by
  refine ⟨fun pins s σ H Q I hq => ?_⟩
  refine wpAny_Call_Name_kw (ld_blt I hg hm hv ?_)
  refine PyProof.Rows.callWith_type1 ?_ hs rfl
  rw [hs]
  show wpAny _ _ (spliced ((false, eval (.Call (.Attribute e "values" apos) [] [] cpos) X.env) :: backTo pos (starEach [] X.env))) _ _ s
  refine Calls.spliced_cons ?_
  refine wpAny_Call_method (T := "dict") (id := "dict.values") hbase rfl hline F.plainAttrs_dict F.slot_dict_values F.type_dict_values (thn (he.run pins s σ H _ I hq) fun u s1 ⟨x, H1, I1, rx, d, kvs, ex, hd, q⟩ => ?_)
  subst ex
  obtain rfl : u = Value.ref d := rx
  obtain ⟨hz, hs0, vs, kv, hdo⟩ := dk_rd I1.hok hd
  obtain ⟨ep, hat⟩ := hdo.dictAt
  have lk : kvs.length = vs.length := Paired.length kv
  have I2 : Inv X pins σ H1 { s1 with heap := s1.heap.push { cls := .type "dict_values", data := .fields #[.ref d] } } := I1.kept (t' := s1.toks) fun b ob q => Heap.get?_push_of_some _ q
  refine ⟨hdo.typeIs, hdo.mapOf.noDict, ?_⟩
  show wpAny _ _ (callWith cpos (.builtin "dict.values") [.ref d] [] []) _ X.xe s1
  refine method_meetsIn F.slot_dict_values F.entry_dict_values rfl (PySem.evalArgs_none ⟨rfl, hdo.typeIs, F.args_dict_values_1 _, _, meets_dict_values (mixKind X.prog X.w) d hs0, ⟨vs, hdo⟩, ?_⟩)
  refine Calls.spliced_nil ?_
  refine PySem.W.kdl_call (PySem.W.kdl_values (knd := mixKind X.prog X.w) (kvs := vs) (ep := ep)) (I1.ok.hd hc) ⟨⟨_, Heap.get?_push_size _ rfl, rfl, rfl⟩, hat.push _⟩ (by omega) fun h' tk acc c' hk hD hacc => ?_
  have ev : acc.toList = vs.map Prod.snd := PySem.W.kdl_vals_eq acc.toList (by rw [Array.length_toList]; exact hacc.1) fun j v e => hacc.2 j v (by rw [← Array.getElem?_toList]; exact e)
  have fr := I2.hok.fresh (Nat.le_refl _)
  refine ⟨.ref _, upd H1 _ (.lst (kvs.map Prod.snd)), I2.laid (t' := tk) hk (Nat.le_refl _) ⟨by rw [List.length_map]; exact hz, acc.toList, c', by rw [ev]; exact vals_snd kv, by rw [Array.toArray_toList]; exact hD⟩, rr, q _ fr⟩
end
section
variable {K : PySem.W.Frag} {E : XK} {G : Gm} {O : OL} {ke : Xd → Prop}
theorem df_listVals {te : TE} {k : Ow → Prop} (h : DT K E te G O (fun a => ∃ kvs : List (Key × D), a = .dic kvs ∧ k (.lst (kvs.map Prod.snd))) ke) : DF K E (tListVals te) G O k ke := fun S0 Os σ H Q st hq he =>
  h.bind st he fun x H1 a ⟨kvs, e, q⟩ s1 st1 he1 rx => by
    subst e
    cases rx with
    | dic n hh ek r => exact ⟨_, _, rfl, hh, fun p np => hq p _ _ q (s1.trans (Same.put np)) (s1.free np) (own_new np r)⟩
/-! ### dict(pairs) -/
def mergeD (kvs more : List (Key × D)) : List (Key × D) := more.foldl (fun acc kv => putD acc kv.1 kv.2) kvs
theorem merge_rep {S : Addr → Prop} {H : Hp} : ∀ {more : List (Key × V)} {md : List (Key × D)} {kvs : List (Key × V)} {ds : List (Key × D)}, more.map Prod.fst = md.map Prod.fst → Reps K S H (more.map Prod.snd) (md.map Prod.snd) → kvs.map Prod.fst = ds.map Prod.fst → Reps K S H (kvs.map Prod.snd) (ds.map Prod.snd) →
    (mergeK kvs more).map Prod.fst = (mergeD ds md).map Prod.fst ∧ Reps K S H ((mergeK kvs more).map Prod.snd) ((mergeD ds md).map Prod.snd)
  | [], [], _, _, _, _, e, r => ⟨e, r⟩
  | [], _ :: _, _, _, h, _, _, _ => by simp at h
  | _ :: _, [], _, _, h, _, _, _ => by simp at h
  | p :: m, q :: n, kvs, ds, h, .cons hv t, e, r => by
    have h1 : p.1 = q.1 := by simpa using (List.cons.inj (by simpa using h)).1
    have h2 : m.map Prod.fst = n.map Prod.fst := by simpa using (List.cons.inj (by simpa using h)).2
    obtain ⟨e2, r2⟩ := put_rep (k := p.1) hv e r
    show (mergeK (putK kvs p.1 p.2) m).map Prod.fst = (mergeD (putD ds q.1 q.2) n).map Prod.fst ∧ Reps K S H ((mergeK (putK kvs p.1 p.2) m).map Prod.snd) ((mergeD (putD ds q.1 q.2) n).map Prod.snd)
    rw [← h1]
    exact merge_rep h2 t e2 r2
theorem pairs_of {S : Addr → Prop} {H : Hp} : ∀ {vs : List V} {kvs : List (Key × D)}, Reps K S H vs (kvs.map fun p => D.tup [kD p.1, p.2]) → ∃ (ps : List Addr) (ks : List (Key × V)), vs = ps.map V.ref ∧ Paired (fun p kv => SqT K H p [kV kv.1, kv.2]) ps ks ∧ ks.map Prod.fst = kvs.map Prod.fst ∧ Reps K S H (ks.map Prod.snd) (kvs.map Prod.snd)
  | _, [], .nil => ⟨[], [], rfl, .nil, rfl, .nil⟩
  | _, q :: r, .cons h t => by
    obtain ⟨ps, ks, e1, e2, e3, e4⟩ := pairs_of t
    cases h with
    | tup n hh rr =>
      rename_i a us
      cases rr with
      | cons ha tt =>
        cases tt with
        | cons hb t3 =>
          cases t3
          have ea := kD_v ha
          subst ea
          exact ⟨a :: ps, (q.1, _) :: ks, by rw [List.map_cons, e1], .cons (SqT.of hh) e2, by rw [List.map_cons, List.map_cons, e3], .cons hb e4⟩
theorem caf_dictP : CaF K (fun xs H Q => ∃ (a : Addr) (ps : List Addr) (kvs : List (Key × V)), xs = [.ref a] ∧ SqL K H a (ps.map V.ref) ∧ Paired (fun p kv => SqT K H p [kV kv.1, kv.2]) ps kvs ∧ ∀ p, H p = none → Q (.ref p) (upd H p (.dK (mergeK [] kvs))))
    (fun ds k => ∃ kvs : List (Key × D), ds = [.lst (kvs.map fun p => D.tup [kD p.1, p.2])] ∧ k (.dic (mergeD [] kvs))) := by
  intro S H xs ds Q k dm rx ⟨kvs, e, q⟩ hq
  subst e
  cases rx with
  | cons h t =>
    cases t
    cases h with
    | lst n hh r =>
      obtain ⟨ps, ks, e1, e2, e3, e4⟩ := pairs_of r
      subst e1
      refine ⟨_, ps, ks, rfl, SqL.of hh, e2, fun p np => hq p _ _ q (Same.put np) np ?_⟩
      obtain ⟨m1, m2⟩ := merge_rep (kvs := []) (ds := []) e3 e4 rfl .nil
      exact ⟨_, upd_same, m1, Reps.same (Reps.avoid (fun a z => z.elim .inl fun e => .inr (by rw [e]; exact np)) m2) (Same.put np)⟩
end
end Fw

set_option maxHeartbeats 4000000
/-! A def by its body, told of data; the stream. -/
namespace Fw
open PySem PySem.Spec PyProof.Rows L2
def startG (N : List Str) (ds : List D) : Gm := ds.map some ++ List.replicate (N.length - ds.length) none
section
variable {P : Program} {w : World} {K : PySem.W.Frag} {mg : Str → Option Value} {base : Heap} {x qual : Str} {params : Arguments} {body : List Stmt} {scope : Scope} {f : Addr} {fd : FuncData}
theorem start_len {N : List Str} {vs : List V} (h : vs.length ≤ N.length) : (L2.start N vs).length = N.length := by
  unfold L2.start; rw [List.length_append, List.length_map, List.length_replicate]; omega
theorem start_st {S : Addr → Prop} {H : Hp} {N : List Str} {vs : List V} {ds : List D} (r : Reps K S H vs ds) (dm : ∀ a, S a → H a ≠ none) : St1 K S (startG N ds) [] [] (L2.start N vs) H := by
  refine ⟨rfl, List.nodup_nil, dm, (fun a z => by cases z), ?_, fun i d e => ?_, (fun p hp => by cases hp)⟩
  · unfold L2.start startG
    rw [List.length_append, List.length_append, List.length_map, List.length_map, List.length_replicate, List.length_replicate, r.length]
  · unfold startG at e
    by_cases hi : i < ds.length
    · rw [List.getElem?_append_left (by simpa using hi), List.getElem?_map] at e
      cases q : ds[i]? with
      | none => rw [q] at e; cases e
      | some d' =>
        rw [q] at e; cases e
        obtain ⟨v, hv, rv⟩ := r.get' q
        refine ⟨v, ?_, Rep.weak (fun a z => z.elim id fun y => by cases y) rv⟩
        unfold L2.start
        rw [List.getElem?_append_left (by rw [List.length_map, r.length]; exact hi), List.getElem?_map, hv]; rfl
    · rw [List.getElem?_append_right (by simpa using hi), List.getElem?_replicate] at e
      split at e <;> cases e
/-- THE RULE for a def, by data -/
theorem fnD {N ps : List Str} {k : Nat} {wt : Wt} (F : FunD K x qual params body scope [] [] f fd) (S : FnScope N ps scope) (len : ∀ ds kk ke, wt ds kk ke → ds.length = ps.length)
    (hb : ∀ (cdv : Value) (A : Around) (outer : List Env) (s : Shared) (H : Hp) (E : XK), Room k (A.deeper (envOfC qual scope s.heap.objs.size f cdv)) →
      ∃ t, PSs (cxOf (L2.CX P w) P w K mg base N qual scope f cdv A outer s H E) body t ∧ ∀ ds kk ke, wt ds kk ke → DS K E t (startG N ds) [] (fun _ _ => kk .non) kk ke) : FnOk P w K mg base (L2.CX P w) (k + 1) f fd ps (spD K wt) := by
  refine F.ok S (fun vs H Q E ⟨T, ds, kk, ke, dm, rr, hw, _⟩ => by rw [rr.length]; exact len ds kk ke hw) (fun cdv A outer s H vs Q E hr ⟨T, ds, kk, ke, dm, rr, hw, hq, he⟩ => ?_)
  obtain ⟨t, ht, hd⟩ := hb cdv A outer s H E hr
  refine ⟨t, ht, hd ds kk ke hw T H [] (L2.start N vs) H _ ⟨Same.refl H, fun a z => (by cases z), dm⟩ (start_st rr dm) (fun G' O' Os' σ' H' kn c st => ?_) (fun v H' d kd s r => hq v H' d kd s r) he⟩
  exact hq .non H' .non kn (fun a u e => c.same a (fun z => by cases z) u e) .non
/-- .. an __init__ -/
theorem fnI {N ps : List Str} {k : Nat} {c : Str} {wt : WtI} (F : FunD K x qual params body scope [] [] f fd) (S : FnScope N ps scope) (hN : 0 < N.length) (len : ∀ ds kk ke, wt ds kk ke → ds.length + 1 = ps.length)
    (hb : ∀ (cdv : Value) (A : Around) (outer : List Env) (s : Shared) (H : Hp) (E : XK), Room k (A.deeper (envOfC qual scope s.heap.objs.size f cdv)) →
      ∃ t, PSs (cxOf (L2.CX P w) P w K mg base N qual scope f cdv A outer s H E) body t ∧ ∀ (x : Addr) ds kk ke, wt ds kk ke → DS K E t (none :: (ds.map some ++ List.replicate (N.length - (ds.length + 1)) none)) [(0, .slf x c [])] (fun _ O' => ∃ fs, O' = [(0, .slf x c fs)] ∧ kk fs) (fun _ => False) ke) : FnOk P w K mg base (L2.CX P w) (k + 1) f fd ps (spI K c wt) := by
  refine F.ok S (fun vs H Q E ⟨T, x, dx, vs', ds, kk, ke, e, hx, nx, dm, rr, hw, _⟩ => by rw [e, List.length_cons, rr.length]; exact len ds kk ke hw) (fun cdv A outer s H vs Q E hr ⟨T, x, dx, vs', ds, kk, ke, e, hx, nx, dm, rr, hw, hq, he⟩ => ?_)
  subst e
  obtain ⟨t, ht, hd⟩ := hb cdv A outer s H E hr
  have s0 : Same (del H x) H := fun a u e => by
    by_cases h : a = x
    · subst h; rw [del_same] at e; cases e
    · rw [del_ne h] at e; exact e
  have wx : ∀ a, W [(x, 0, Ow.slf x c [])] a ↔ a = x := fun a => by
    show a ∈ [x] ↔ _
    exact List.mem_singleton
  have so : ∀ a, SO T [(x, 0, Ow.slf x c [])] a → T a ∨ a = x := fun a z => z.imp id (wx a).mp
  have hl : (L2.start N (V.ref x :: vs')).length = (none :: (ds.map some ++ List.replicate (N.length - (ds.length + 1)) none) : Gm).length := by
    unfold L2.start
    rw [List.length_append, List.length_map, List.length_replicate, List.length_cons, List.length_cons, List.length_append, List.length_map, List.length_replicate, rr.length]; omega
  refine ⟨t, ht, hd x ds kk ke hw T (del H x) [(x, 0, .slf x c [])] (L2.start N (.ref x :: vs')) H _ ⟨s0, fun a z => by rw [(wx a).mp z]; exact del_same, fun a ta => by rw [del_ne fun z => nx (by rw [← z]; exact ta)]; exact dm a ta⟩ ⟨rfl, ?_, dm, fun a z => by rw [(wx a).mp z]; exact nx, hl, fun i d e => ?_, fun p hp => ?_⟩ (fun G' O' Os' σ' H' ⟨fs, eo, kf⟩ cc st => ?_) (fun v H' d kd _ _ => kd.elim) he⟩
  · exact List.nodup_cons.mpr ⟨by simp, List.nodup_nil⟩
  · cases i with
    | zero => cases e
    | succ i =>
      have e' : (ds.map some ++ List.replicate (N.length - (ds.length + 1)) none : Gm)[i]? = some (some d) := e
      by_cases hi : i < ds.length
      · rw [List.getElem?_append_left (by simpa using hi), List.getElem?_map] at e'
        cases q : ds[i]? with
        | none => rw [q] at e'; cases e'
        | some d' =>
          rw [q] at e'; cases e'
          obtain ⟨v, hv, rv⟩ := rr.get' q
          refine ⟨v, ?_, Rep.weak so rv⟩
          unfold L2.start
          rw [List.getElem?_append_left (by rw [List.length_map, List.length_cons, rr.length]; omega), List.getElem?_map, List.getElem?_cons_succ, hv]; rfl
      · rw [List.getElem?_append_right (by simpa using hi), List.getElem?_replicate] at e'
        split at e' <;> cases e'
  · have e := List.mem_singleton.mp hp
    subst e
    exact ⟨rfl, rfl, dx, [], hx, rfl, .nil⟩
  · have hos := st.os
    rw [eo] at hos
    cases Os' with
    | nil => cases hos
    | cons q qs =>
      cases qs with
      | cons _ _ =>
        have hz := congrArg List.length hos
        simp at hz
      | nil =>
        obtain ⟨q1, q2⟩ := q
        have e2 : q2 = (0, .slf x c fs) := by simpa using hos
        obtain ⟨hs, oa⟩ := st.own (q1, q2) List.mem_cons_self
        subst e2
        obtain ⟨ea, dx', vs2, h1, h2, h3⟩ := oa
        have ea' : q1 = x := ea
        subst ea'
        have w1 : ∀ a, (T a ∨ a = q1) → SO T [(q1, 0, .slf q1 c fs)] a := fun a z => z.imp id fun e => by
          show a ∈ [q1]
          rw [e]; exact List.mem_singleton.mpr rfl
        exact hq H' fs kf (fun a n u e => cc.same a (fun z => n ((wx a).mp z)) u e) ⟨dx', vs2, h1, h2, Reps.weak w1 h3⟩
end
end Fw

set_option maxHeartbeats 4000000
/-! What the top has written: the facts read off it, and short words for the rules. -/
namespace Fw
open PySem PySem.Spec PyProof.Rows L2
theorem DfP.funD {K : PySem.W.Frag} {d : DfP} (e : fnP K (d.at_.ad K) = d.val) (c : d.ok K = true) : ∃ fd, FunD K d.name d.qual (defArgs d.st) (defBody d.st) (defScope d.st) [] [] (d.at_.ad K) fd := by
  obtain ⟨kp, c2⟩ := He.ba c
  unfold fnP at e
  cases q : K.lookup (d.at_.ad K) with
  | none => rw [q] at c2; cases c2
  | some o =>
    obtain ⟨oc, od, dt, osl⟩ := o
    rw [q] at c2 e
    cases dt with
    | func fd =>
      obtain ⟨n1, n2, n3, n4, n5, n6, n7, n8, n9, n10, n11, n12, n13, n14, n15⟩ := fd
      have e2 : (some (n1, n2, n3, n4, n5, n6, n7, n15) : He.FnW) = some (d.name, d.qual, defArgs d.st, .stmts (defBody d.st), defScope d.st, mainGlobals, [], builtinsNs) := e
      simp only [Option.some.injEq, Prod.mk.injEq] at e2
      obtain ⟨h1, h2, h3, h4, h5, h6, h7, h8⟩ := e2
      subst h1 h2 h3 h4 h5 h6 h7 h8
      have c3 : (PySem.W.codeIn K n13 d.qual && isNone n8) = true := c2
      obtain ⟨k1, k2⟩ := He.ba c3
      have e8 : n8 = .none := by cases n8 <;> first | rfl | cases k2
      exact ⟨_, ⟨oc, od, n8, n9, n10, n11, n12, n13, n14, osl, rfl, q, k1, .inl ⟨rfl, e8⟩, .inl rfl⟩, kp⟩
    | _ => cases c2
theorem prop_ok {K : PySem.W.Frag} {c x : Str} (h : (Fc.prop c x).ok K = true) : PropOf K (He.ga K c) x (He.ma K (He.ga K c) x) (getter K (He.ga K c) x) := by
  obtain ⟨h1, h⟩ := He.ba h
  obtain ⟨h2, h⟩ := He.ba h
  obtain ⟨h3, h4⟩ := He.ba h
  refine ⟨He.eqO_ok h1, He.eqO_ok h2, of_decide_eq_true h3, ?_⟩
  unfold getter
  cases q : PySem.W.recIn K (He.ma K (He.ga K c) x) "property" with
  | none => rw [q] at h4; cases h4
  | some l =>
    rw [q] at h4
    cases l with
    | nil => cases h4
    | cons v r =>
      cases v with
      | ref a => exact ⟨r, rfl⟩
      | _ => cases h4
theorem bin2_ok {K : PySem.W.Frag} {c e : Str} {nm : String} (h : (Fc.bin2 c e nm).ok K = true) : Bin2 K (He.ga K c) (He.ga K e) nm (He.ma K (He.ga K e) (PySem.dunder nm)) := by
  obtain ⟨h1, h⟩ := He.ba h
  obtain ⟨h2, h⟩ := He.ba h
  obtain ⟨h3, h⟩ := He.ba h
  obtain ⟨h4, h⟩ := He.ba h
  obtain ⟨h5, h⟩ := He.ba h
  obtain ⟨h6, h7⟩ := He.ba h
  refine ⟨fun z => ?_, h2, h3, He.eqO_ok h4, He.eqO_ok h5, He.eqO_ok h6, of_decide_eq_true h7⟩
  rw [decide_eq_true z] at h1; cases h1
theorem callo_ok {K : PySem.W.Frag} {c e : Str} (h : (Fc.callo c e).ok K = true) : StX.CallO K (He.ga K c) (He.ma K (He.ga K e) "__call__") := by
  obtain ⟨h1, h⟩ := He.ba h
  obtain ⟨h2, h3⟩ := He.ba h
  exact ⟨He.eqO_ok h1, h2, h3⟩
theorem kit_ok {K : PySem.W.Frag} {t u : Tv} {b : Bool} (h : (Fc.kit t u b).ok K = true) : PySem.W.kitOne K (t.v K) (u.v K) = some b := of_decide_eq_true h
/-- the facts, behind the top -/
structure Tx (fc : List Fc) (ds : List DfP) (K : PySem.W.Frag) (mg : Str → Option Value) : Prop where
  says : obsP fc ds K = valP ds
  some_ : ∀ x v, PySem.W.nsIn K mainGlobals x = some (some v) → mg x = some v
  none_ : ∀ x, PySem.W.nsIn K mainGlobals x = some none → mg x = none
section
variable {fc : List Fc} {ds : List DfP} {K : PySem.W.Frag} {mg : Str → Option Value}
theorem Tx.mk' {h : Heap} (X : K.In h) (G : h.Ns mainGlobals mg) (c : obsP fc ds K = valP ds) : Tx fc ds K mg := ⟨c, fun _ _ e => PySem.W.mg_of X G e, fun _ e => PySem.W.mg_none_of X G e⟩
theorem Tx.fact (T : Tx fc ds K mg) (i : Nat) {f : Fc} (h : fc[i]? = some f := by rfl) : f.ok K = true := by
  have c1 := (He.ba (show ((fc.all fun f => f.ok K) && ds.all fun d => d.ok K) = true from congrArg (fun z : AlP => z.1) T.says)).1
  exact List.all_eq_true.mp c1 f (List.mem_of_getElem? h)
theorem Tx.def_ (T : Tx fc ds K mg) (i : Nat) {d : DfP} (h : ds[i]? = some d := by rfl) : ∃ fd, FunD K d.name d.qual (defArgs d.st) (defBody d.st) (defScope d.st) [] [] (d.at_.ad K) fd := by
  have c2 := (He.ba (show ((fc.all fun f => f.ok K) && ds.all fun d => d.ok K) = true from congrArg (fun z : AlP => z.1) T.says)).2
  have e : ds.map (fun d => fnP K (d.at_.ad K)) = ds.map DfP.val := congrArg (fun z : AlP => z.2) T.says
  have e2 : (ds.map fun d => fnP K (d.at_.ad K))[i]? = (ds.map DfP.val)[i]? := by rw [e]
  rw [List.getElem?_map, List.getElem?_map, h] at e2
  exact DfP.funD (Option.some.inj e2) (List.all_eq_true.mp c2 d (List.mem_of_getElem? h))
theorem Tx.glo (T : Tx fc ds K mg) (i : Nat) {x : Str} (h : fc[i]? = some (.a (.glo x)) := by rfl) : mg x = some (.ref (He.ga K x)) := T.some_ _ _ (He.eqO_ok (show He.eqO _ _ = true from T.fact i h))
theorem Tx.free (T : Tx fc ds K mg) (i : Nat) {x : Str} (h : fc[i]? = some (.a (.free x)) := by rfl) : mg x = none := T.none_ _ (He.eqO_ok (show He.eqO _ _ = true from T.fact i h))
theorem Tx.int (T : Tx fc ds K mg) (i : Nat) {x : Str} {n : Int} (h : fc[i]? = some (.a (.int x n)) := by rfl) : ∃ t, mg x = some (.int n t) := by
  have c2 : (match PySem.W.nsIn K mainGlobals x with
    | some (some (.int j _)) => decide (j = n)
    | _ => false) = true := T.fact i h
  cases e : PySem.W.nsIn K mainGlobals x with
  | none => rw [e] at c2; cases c2
  | some o =>
    rw [e] at c2
    cases o with
    | none => cases c2
    | some v =>
      cases v with
      | int j t =>
        have ej : j = n := of_decide_eq_true c2
        rw [ej] at e
        exact ⟨t, T.some_ _ _ e⟩
      | _ => cases c2
theorem Tx.str (T : Tx fc ds K mg) (i : Nat) {x z : Str} (h : fc[i]? = some (.a (.str x z)) := by rfl) : ∃ t, mg x = some (.str z t) := by
  have c2 : (match PySem.W.nsIn K mainGlobals x with
    | some (some (.str y _)) => decide (y = z)
    | _ => false) = true := T.fact i h
  cases e : PySem.W.nsIn K mainGlobals x with
  | none => rw [e] at c2; cases c2
  | some o =>
    rw [e] at c2
    cases o with
    | none => cases c2
    | some v =>
      cases v with
      | str y t =>
        have ej : y = z := of_decide_eq_true c2
        rw [ej] at e
        exact ⟨t, T.some_ _ _ e⟩
      | _ => cases c2
theorem Tx.cls (T : Tx fc ds K mg) (i : Nat) {c : Str} (h : fc[i]? = some (.a (.cls c)) := by rfl) : Cls K (He.ga K c) := He.cls_ok (T.fact i h)
theorem Tx.noat (T : Tx fc ds K mg) (i : Nat) {c f : Str} (h : fc[i]? = some (.a (.noat c f)) := by rfl) : NoAttr K (He.ga K c) f := He.noat_ok (T.fact i h)
theorem Tx.meth (T : Tx fc ds K mg) (i : Nat) {c m : Str} (h : fc[i]? = some (.a (.meth c m)) := by rfl) : Meth K (He.ga K c) m (He.ma K (He.ga K c) m) := He.meth_ok (T.fact i h)
theorem Tx.mkr (T : Tx fc ds K mg) (i : Nat) {c : Str} (h : fc[i]? = some (.a (.mkr c)) := by rfl) : Mk K (He.ga K c) (He.ma K (He.ga K c) "__init__") := He.mkr_ok (T.fact i h)
theorem Tx.ins (T : Tx fc ds K mg) (i : Nat) {c : Str} (h : fc[i]? = some (.ins c) := by rfl) : InsK K c := insB_ok (T.fact i h)
theorem Tx.prop (T : Tx fc ds K mg) (i : Nat) {c x : Str} (h : fc[i]? = some (.prop c x) := by rfl) : PropOf K (He.ga K c) x (He.ma K (He.ga K c) x) (getter K (He.ga K c) x) := prop_ok (T.fact i h)
theorem Tx.kit (T : Tx fc ds K mg) (i : Nat) {t u : Tv} {b : Bool} (h : fc[i]? = some (.kit t u b) := by rfl) : PySem.W.kitOne K (t.v K) (u.v K) = some b := kit_ok (T.fact i h)
theorem Tx.first (T : Tx fc ds K mg) (i : Nat) {c : Str} (h : fc[i]? = some (.first c) := by rfl) : PySem.W.selfFirst K (He.ga K c) = true := T.fact i h
theorem Tx.bin2 (T : Tx fc ds K mg) (i : Nat) {c e : Str} {nm : String} (h : fc[i]? = some (.bin2 c e nm) := by rfl) : Bin2 K (He.ga K c) (He.ga K e) nm (He.ma K (He.ga K e) (PySem.dunder nm)) := bin2_ok (T.fact i h)
theorem Tx.callo (T : Tx fc ds K mg) (i : Nat) {c e : Str} (h : fc[i]? = some (.callo c e) := by rfl) : StX.CallO K (He.ga K c) (He.ma K (He.ga K e) "__call__") := callo_ok (T.fact i h)
theorem Tx.fnin (T : Tx fc ds K mg) (i : Nat) {c m : Str} (h : fc[i]? = some (.fnin c m) := by rfl) : PySem.W.fnIn K (He.ma K (He.ga K c) m) = true := T.fact i h
end
/-! ### a def that stands and keeps its promise -/
structure Ok (P : Program) (w : World) (K : PySem.W.Frag) (mg : Str → Option Value) (base : Heap) (k : Nat) (f : Addr) (ps : List Str) (sp : Sp) : Prop where
  ex : ∃ fd, FnOk P w K mg base (L2.CX P w) k f fd ps sp ∧ Binds K fd ps []
  kp : PySem.W.keepIn K (.ref f) = true
section
variable {X : Cx} {j k : Nat} {f C p g Dc : Addr} {ps : List Str} {sp : Sp} {x m : Str} {E : XK} {pp pos apos : Pos} {e o : Expr} {es : List Expr} {t : TA} {ta tb : TE}
theorem q_call (F : Ok X.prog X.w X.K X.mg X.base k f ps sp) (hr : Room j X.A) (hm : X.mg x = some (.ref f)) (ha : PA X (e :: es) t) (hj : k ≤ j := by first | decide | omega) (hg : Gl X x := by rfl) (hdb : (x == ("__debug__" : Str)) = false := by decide)
    (he : starEach (e :: es) X.env = (false, eval e X.env) :: starEach es X.env := by rfl) (hpl : (backTo pos (starEach es X.env)).any (·.1) = false := by rfl) : PE X (.Call (.Name x pp) (e :: es) [] pos) (tCall sp [] E0 t) := by
  obtain ⟨fd, F1, B⟩ := F.ex
  exact pe_call F1 (hr.mono hj) hg hm F.kp B .nil passL ha hdb he hpl
theorem q_callE (F : Ok X.prog X.w X.K X.mg X.base k f ps sp) (hr : Room j X.A) (hp : Passes (L2.CX X.prog X.w) X E) (hm : X.mg x = some (.ref f)) (ha : PA X (e :: es) t) (hj : k ≤ j := by first | decide | omega) (hg : Gl X x := by rfl) (hdb : (x == ("__debug__" : Str)) = false := by decide)
    (he : starEach (e :: es) X.env = (false, eval e X.env) :: starEach es X.env := by rfl) (hpl : (backTo pos (starEach es X.env)).any (·.1) = false := by rfl) : PE X (.Call (.Name x pp) (e :: es) [] pos) (tCall sp [] E t) := by
  obtain ⟨fd, F1, B⟩ := F.ex
  exact pe_call F1 (hr.mono hj) hg hm F.kp B .nil hp ha hdb he hpl
theorem q_call0 (F : Ok X.prog X.w X.K X.mg X.base k f ps sp) (hr : Room j X.A) (hm : X.mg x = some (.ref f)) (hj : k ≤ j := by first | decide | omega) (hg : Gl X x := by rfl) (hdb : (x == ("__debug__" : Str)) = false := by decide) : PE X (.Call (.Name x pp) [] [] pos) (tCall sp [] E0 tNil) := by
  obtain ⟨fd, F1, B⟩ := F.ex
  exact pe_call0 F1 (hr.mono hj) hg hm F.kp B .nil passL hdb
theorem q_make (F : Ok X.prog X.w X.K X.mg X.base k f ps sp) (M : Mk X.K C f) (hr : Room j X.A) (hm : X.mg x = some (.ref C)) (ha : PA X (e :: es) t) (hj : k + 1 ≤ j := by first | decide | omega) (hg : Gl X x := by rfl) (hdb : (x == ("__debug__" : Str)) = false := by decide)
    (he : starEach (e :: es) X.env = (false, eval e X.env) :: starEach es X.env := by rfl) (hpl : (backTo pos (starEach es X.env)).any (·.1) = false := by rfl) : PE X (.Call (.Name x pp) (e :: es) [] pos) (tMake C sp [] E0 t) := by
  obtain ⟨fd, F1, B⟩ := F.ex
  exact pe_make M F1 (hr.mono hj) hg hm B .nil passL ha hdb he hpl
theorem q_meth {pl : Sem Bool} (F : Ok X.prog X.w X.K X.mg X.base k f ps sp) (he : PE X o ta) (c : Cls X.K C) (hm : Meth X.K C m f) (hr : Room j X.A) (ha : PA X (e :: es) t) (hj : k ≤ j := by first | decide | omega)
    (hst : starEach (e :: es) X.env = (false, eval e X.env) :: starEach es X.env := by rfl) (hpl : (backTo pos (starEach es X.env)).any (·.1) = false := by rfl)
    (ht : eval (.Call (.Attribute o m apos) (e :: es) [] pos) X.env = (do
      let ov ← eval o X.env
      standAt apos.atName
      let (f, first) ← holding [ov] (getMethod ov m pl)
      callWith pos f first (backTo pos (starEach (e :: es) X.env)) (backToKw pos (keywordEach [] X.env))) := by rfl) :
    PE X (.Call (.Attribute o m apos) (e :: es) [] pos) (tMeth C m sp [] E0 ta t) := by
  obtain ⟨fd, F1, B⟩ := F.ex
  exact pe_meth he c hm F1 (hr.mono hj) B .nil passL ha hst hpl ht
theorem q_meth0 {pl : Sem Bool} (F : Ok X.prog X.w X.K X.mg X.base k f ps sp) (he : PE X o ta) (c : Cls X.K C) (hm : Meth X.K C m f) (hr : Room j X.A) (hj : k ≤ j := by first | decide | omega)
    (ht : eval (.Call (.Attribute o m apos) [] [] pos) X.env = (do
      let ov ← eval o X.env
      standAt apos.atName
      let (f, first) ← holding [ov] (getMethod ov m pl)
      callWith pos f first (backTo pos (starEach [] X.env)) (backToKw pos (keywordEach [] X.env))) := by rfl) :
    PE X (.Call (.Attribute o m apos) [] [] pos) (tMeth C m sp [] E0 ta tNil) := by
  obtain ⟨fd, F1, B⟩ := F.ex
  exact pe_meth0 he c hm F1 (hr.mono hj) B .nil passL ht
theorem q_prop (F : Ok X.prog X.w X.K X.mg X.base k g ps sp) (he : PE X e ta) (c : Cls X.K C) (hp : PropOf X.K C m p g) (hr : Room j X.A) (hj : k + 1 ≤ j := by first | decide | omega)
    (hab : attributeBase e m X.env (eval e X.env) = eval e X.env := by rfl) : PE X (.Attribute e m pos) (tProp C sp [] E0 ta) := by
  obtain ⟨fd, F1, B⟩ := F.ex
  exact pe_prop he c hp F1 (hr.mono hj) B .nil passL hab
theorem q_len (F : Ok X.prog X.w X.K X.mg X.base k f ps sp) (hm : Meth X.K C "__len__" f) (hr : Room j X.A) (hn : X.mg "len" = none) (ha : PA X (e :: es) t) (hj : k + 1 ≤ j := by first | decide | omega) (hg : Gl X "len" := by rfl)
    (he : starEach (e :: es) X.env = (false, eval e X.env) :: starEach es X.env := by rfl) (hpl : (backTo pos (starEach es X.env)).any (·.1) = false := by rfl) : PE X (.Call (.Name "len" pp) (e :: es) [] pos) (tCB (rLenI C sp) t) := by
  obtain ⟨fd, F1, B⟩ := F.ex
  exact pe_callB (call_lenI F1 (hr.mono hj) hm B) hg hn boot_len ha (by decide) (by decide) he hpl
theorem q_in (F : Ok X.prog X.w X.K X.mg X.base k f ps sp) (hm : Meth X.K C "__contains__" f) (hr : Room j X.A) (hj : k ≤ j := by first | decide | omega) : OpR X (compareOp .In) (rInI C sp false) := by
  obtain ⟨fd, F1, B⟩ := F.ex
  exact op_inI F1 (hr.mono hj) hm B
theorem q_notin (F : Ok X.prog X.w X.K X.mg X.base k f ps sp) (hm : Meth X.K C "__contains__" f) (hr : Room j X.A) (hj : k ≤ j := by first | decide | omega) : OpR X (compareOp .NotIn) (rInI C sp true) := by
  obtain ⟨fd, F1, B⟩ := F.ex
  exact op_notInI F1 (hr.mono hj) hm B
theorem q_bin {op : Operator} (F : Ok X.prog X.w X.K X.mg X.base k f ps sp) (hm : Meth X.K C (PySem.dunder op.info.2) f) (hc : PySem.W.selfFirst X.K C = true) (hr : Room j X.A) (hj : k ≤ j := by first | decide | omega) : OpR X (binaryOp op) (rBinI C C sp) := by
  obtain ⟨fd, F1, B⟩ := F.ex
  exact op_binI F1 (hr.mono hj) hm hc B
theorem q_bin2 {op : Operator} {f2 : Addr} (F : Ok X.prog X.w X.K X.mg X.base k f ps sp) (hm : Meth X.K C (PySem.dunder op.info.2) f) (b2 : Bin2 X.K C Dc op.info.2 f2) (hr : Room j X.A) (hj : k ≤ j := by first | decide | omega) : OpR X (binaryOp op) (rBinI C Dc sp) := by
  obtain ⟨fd, F1, B⟩ := F.ex
  exact op_binI2 F1 (hr.mono hj) hm b2 B
theorem q_eq (F : Ok X.prog X.w X.K X.mg X.base k f ps sp) (hm : Meth X.K C "__eq__" f) (hr : Room j X.A) (hj : k ≤ j := by first | decide | omega) : OpR X (compareOp .Eq) (rEqI C sp) := by
  obtain ⟨fd, F1, B⟩ := F.ex
  exact op_eqI F1 (hr.mono hj) hm B
theorem q_inv (F : Ok X.prog X.w X.K X.mg X.base k f ps sp) (hm : Meth X.K C "__invert__" f) (hr : Room j X.A) (hj : k ≤ j := by first | decide | omega) : UnR X (unaryOp .Invert) (rInvI C sp) := by
  obtain ⟨fd, F1, B⟩ := F.ex
  exact un_invI F1 (hr.mono hj) hm B
theorem q_get (F : Ok X.prog X.w X.K X.mg X.base k f ps sp) (hm : Meth X.K C "__getitem__" f) (hn : PySem.W.fnIn X.K f = true) (hr : Room j X.A) (ha : PE X e ta) (hb : PE X o tb) (hj : k + 1 ≤ j := by first | decide | omega)
    (hsl : ∀ u i, subscripted o true u i = runValue (.builtin "lifetime.subscript" ⟨[u, i], []⟩) := by intro _ _; with_unfolding_all rfl) : PE X (.Subscript e o pos) (tOp (rGetI C sp) ta tb) := by
  obtain ⟨fd, F1, B⟩ := F.ex
  exact ix_own F1 (hr.mono hj) hm hn B ha hb hsl
end
end Fw

set_option maxHeartbeats 4000000
/-! More rules by data: chains, pairs, == of dicts, the stream. -/
namespace Fw
open PySem PySem.Spec PyProof.Rows L2
section
variable {K : PySem.W.Frag} {E : XK} {G : Gm} {O : OL} {ke : Xd → Prop} {kn : Gm → OL → Prop} {kr : D → Prop}
theorem dt_chain {r r' : R2} {f f' : F2} {ta tb tc : TE} {k : D → Prop} (hr : OpD K r f) (hr' : OpD K r' f')
    (h : DT K E ta G O (fun a => DT K E tb G O (fun b => f a b (fun d => ∃ t, d = .bl t ∧ (t = true → DT K E tc G O (fun c => f' b c k) ke) ∧ (t = false → k (.bl false)))) ke) ke) : DT K E (tChain r r' ta tb tc) G O k ke := fun S0 Os σ H Q st hq he =>
  h.bind st he fun x H1 a ha s1 st1 he1 rx => ha.bind st1 he1 fun y H2 b hb s2 st2 he2 ry =>
    hr _ H2 x y a b _ _ st2.domW (rx.same s2) ry hb fun z H3 d ⟨t, e, k1, k2⟩ s3 rz => by
      subst e; cases rz
      refine ⟨t, rfl, ?_⟩
      cases t with
      | true => exact iteT ((k1 rfl).bind (st2.same s3) (he2.same s3) fun w H4 c hc s4 st4 he4 rw' => hr' _ H4 y w b c Q k st4.domW (ry.same (s3.trans s4)) rw' hc fun v H5 d kd s5 r => hq v H5 d kd (((s1.trans s2).trans s3).trans (s4.trans s5)) r)
      | false => exact iteF (hq _ H3 _ (k2 rfl) ((s1.trans s2).trans s3) (.bl false))
theorem ds_par {i j : Nat} {ta : TA} (hi : ∀ o ∈ O, o.1 ≠ i) (hj : ∀ o ∈ O, o.1 ≠ j) (h : DA K E ta G O (fun ds => ∃ a b, ds = [a, b] ∧ kn ((G.set i (some a)).set j (some b)) O) ke) : DS K E (tPar i j ta) G O kn kr ke := fun S0 H0 Os σ H Ds f st hn hr he =>
  h.at_ f st he fun vs H1 ds ⟨a, b, e, kd⟩ s f1 st1 r => by
    subst e
    cases r with
    | cons ra t =>
      cases t with
      | cons rb t =>
        cases t
        exact ⟨_, _, rfl, hn _ O Os _ H1 kd (Chg.of_same s) ((st1.set ra hi).set rb hj)⟩
theorem ds_asgG {te : TE} {g : TG} {is : List Nat} (h : DT K E te G O (fun d => DG K g is d G O (fun G' => kn G' O)) ke) : DS K E (tAsg te g) G O kn kr ke := fun S0 H0 Os σ H Ds f st hn hr he =>
  h.at_ f st he fun v H1 d kd s f1 st1 r => kd S0 Os σ H1 v _ st1 r fun G' σ' k' st' _ _ => hn G' O Os σ' H1 k' (Chg.of_same s) st'
theorem ds_asgT {te : TE} {i j : Nat} (hi : ∀ o ∈ O, o.1 ≠ i) (hj : ∀ o ∈ O, o.1 ≠ j) (h : DT K E te G O (fun d => ∃ a b, d = .tup [a, b] ∧ kn ((G.set i (some a)).set j (some b)) O) ke) : DS K E (tAsg te (gTup K 2 (gCons (gName i) (gCons (gName j) gNil)))) G O kn kr ke :=
  ds_asgG (is := [i] ++ ([j] ++ [])) fun S0 Os σ H Q st hq he => h S0 Os σ H Q st (fun v H' d ⟨a, b, e, kd⟩ s r => hq v H' d (by
    subst e
    exact dg_tup rfl (dgs_cons (dg_name hi (dgs_cons (dg_name hj (dgs_nil kd)))))) s r) he
/-- a new empty list, to be filled -/
theorem ds_asgE {i : Nat} (hi : ∀ o ∈ O, o.1 ≠ i) (hl : i < G.length) (h : kn (G.set i none) ((i, .lst []) :: O)) : DS K E (tAsg (tLst tNil) (gName i)) G O kn kr ke :=
  ds_asgF hi hl (df_lst (da_nil ⟨Nat.zero_le _, h⟩))
/-- what holds between -/
theorem ds_cut {t : TS} (A : Gm → OL → Prop) (h : DS K E t G O A kr ke) (i : ∀ G1 O1, A G1 O1 → kn G1 O1) : DS K E t G O kn kr ke := h.imp i fun _ h => h
/-- both new -/
theorem ds_parF {i j : Nat} {ta tb : TE} (hij : i ≠ j) (hi : ∀ o ∈ O, o.1 ≠ i) (hj : ∀ o ∈ O, o.1 ≠ j) (hl : i < G.length) (hl2 : j < G.length)
    (h : DF K E ta G O (fun o1 => DF K E tb G O (fun o2 => kn ((G.set i none).set j none) ((j, o2) :: (i, o1) :: O)) ke) ke) : DS K E (tPar i j (tCons ta (tCons tb tNil))) G O kn kr ke := fun S0 H0 Os σ H Ds f st hn hr he =>
  h S0 Os σ H _ st (fun p H1 o1 k1 s1 np1 oa1 => by
    have st1 := st.same s1
    have hp1 : H1 p ≠ none := oa1.there
    let S0' : Addr → Prop := fun b => S0 b ∨ b = p
    have nW : ¬ W Os p := fun z => st.domW p (.inr z) np1
    have so : ∀ a, SO S0' Os a → SO S0 Os a ∨ a = p := fun a z => z.elim (fun z => z.elim (fun z => .inl (.inl z)) .inr) fun z => .inl (.inr z)
    have so2 : ∀ a, SO S0' Os a → SO S0 Os a ∨ H a = none := fun a z => (so a z).elim .inl fun e => .inr (by rw [e]; exact np1)
    have st1' : St1 K S0' G O Os σ H1 := by
      refine ⟨st1.os, st1.nd, fun a z => z.elim (st1.dom a) fun e => by rw [e]; exact hp1, fun a w z => z.elim (st1.ns a w) fun e => nW (by rw [← e]; exact w), st1.len, fun n e q => ?_, fun q hq => ?_⟩
      · obtain ⟨v, e1, r⟩ := st.re n e q
        exact ⟨v, e1, Rep.same (Rep.avoid so2 r) s1⟩
      · obtain ⟨h1, h2⟩ := st.own q hq
        refine ⟨h1, ?_⟩
        generalize q.2.2 = ow at h2 ⊢
        cases ow with
        | lst ds => obtain ⟨us, e, r⟩ := h2; exact ⟨us, s1 _ _ e, Reps.same (Reps.avoid so2 r) s1⟩
        | dic ds => obtain ⟨us, e, q, r⟩ := h2; exact ⟨us, s1 _ _ e, q, Reps.same (Reps.avoid so2 r) s1⟩
        | obj c ds => obtain ⟨dx, us, e, q, r⟩ := h2; exact ⟨dx, us, s1 _ _ e, q, Reps.same (Reps.avoid so2 r) s1⟩
        | slf _ c ds => obtain ⟨ea, dx, us, e, q, r⟩ := h2; exact ⟨ea, dx, us, s1 _ _ e, q, Reps.same (Reps.avoid so2 r) s1⟩
    have he1 : EOk K (SO S0' Os) H1 E ke := fun c d H2 x kx l r => (he.so f) c d H2 x kx (s1.trans l) (by
      obtain ⟨e, r⟩ := r
      refine ⟨e, ?_⟩
      cases q : x.arg with
      | none => rw [q] at r; exact r
      | some pr =>
        rw [q] at r
        obtain ⟨a, v, h1, h2, h3⟩ := r
        exact ⟨a, v, h1, h2, Rep.weak (fun a z => z.elim (fun z => .inl (.inl z)) .inr) h3⟩)
    refine k1 S0' Os σ H1 _ st1' (fun p2 H2 o2 k2 s2 np2 oa2 => ⟨_, _, rfl, ?_⟩) he1
    have A := st.own_new (i := i) s1 np1 oa1 hi hl
    have wp : ∀ a, W ((p, i, o1) :: Os) a ↔ a = p ∨ W Os a := fun a => by
      show a ∈ List.map _ _ ↔ _
      rw [List.map_cons, List.mem_cons]; exact Iff.rfl
    have oa2' : OwnAt K (fun b => SO S0 ((p, i, o1) :: Os) b ∨ b = p2) H2 p2 o2 := by
      have w1 : ∀ a, (SO S0 ((p, i, o1) :: Os) a ∨ a = p2) → (SO S0' Os a ∨ a = p2) := fun a z => z.imp (fun z => z.elim (fun z => .inl (.inl z)) fun z => ((wp a).mp z).elim (fun e => .inl (.inr e)) .inr) id
      cases o2 with
      | lst ds => obtain ⟨us, e, r⟩ := oa2; exact ⟨us, e, Reps.weak w1 r⟩
      | dic ds => obtain ⟨us, e, q, r⟩ := oa2; exact ⟨us, e, q, Reps.weak w1 r⟩
      | obj c ds => obtain ⟨dx, us, e, q, r⟩ := oa2; exact ⟨dx, us, e, q, Reps.weak w1 r⟩
      | slf _ c ds => obtain ⟨ea, dx, us, e, q, r⟩ := oa2; exact ⟨ea, dx, us, e, q, Reps.weak w1 r⟩
    have B := A.own_new (i := j) s2 np2 oa2' (fun o ho => by
      rcases List.mem_cons.mp ho with e | ho
      · rw [e]; exact hij
      · exact hj o ho) (by rw [List.length_set]; exact hl2)
    refine hn _ _ _ _ H2 k2 ⟨Same.sx (s1.trans s2), fun a z => ?_⟩ B
    have z' : a ∈ List.map _ _ := z
    rw [List.map_cons, List.map_cons, List.mem_cons, List.mem_cons] at z'
    rcases z' with z' | z' | z'
    · exact .inr (by rw [z']; exact s1.free np2)
    · exact .inr (by rw [z']; exact np1)
    · exact .inl z') (he.so f)
theorem ds_never {P : Prop} (h : False) : DS K E tNever G O kn kr ke := h.elim
theorem df_dnew {k : Ow → Prop} (h : k (.dic [])) : DF K E tDNewK G O k ke := fun S0 Os σ H Q st hq he => fun p np => hq p _ _ h (Same.put np) np ⟨[], upd_same, rfl, .nil⟩
/-- == of dicts of different sizes -/
def rEqDn : R2 := fun x y H Q => ∃ (a b : Addr) (ka kb : List (Key × V)), x = .ref a ∧ y = .ref b ∧ Rd H a (.dK ka) ∧ Rd H b (.dK kb) ∧ ka.length ≠ kb.length ∧ Q (.bl false) H
theorem opd_eqDn : OpD K rEqDn (fun a b k => ∃ ka kb, a = .dic ka ∧ b = .dic kb ∧ ka.length ≠ kb.length ∧ k (.bl false)) := by
  intro S H x y a b Q k dm rx ry ⟨ka, kb, e1, e2, l, q⟩ hq
  subst e1 e2
  cases rx with
  | dic n h e r =>
    cases ry with
    | dic n2 h2 e2 r2 => exact ⟨_, _, _, _, rfl, rfl, h, h2, by rw [len_pair e, len_pair e2]; exact l, hq _ H _ q (Same.refl H) (.bl _)⟩
end
theorem op_eqDn {X : Cx} {k : Nat} (hr : Room k X.A) : OpR X (compareOp .Eq) rEqDn := by
  intro pins s σ H x y v u Q I rx ry ⟨a, b, ka, kb, e1, e2, ha, hb, hl, q⟩
  subst e1 e2; cases rx; cases ry
  obtain ⟨_, sa, va, kva, da⟩ := dk_rd I.hok ha
  obtain ⟨_, sb, vb, kvb, db⟩ := dk_rd I.hok hb
  have la : ka.length = va.length := Paired.length kva
  have lb : kb.length = vb.length := Paired.length kvb
  refine PySem.W.rcP_dicts (r := false) sa sb da db hr.units0 (fun z => absurd (by rw [la, lb]; exact z) hl) X.xe (EP X pins σ Q) ?_
  exact ⟨.bl false, H, I, by rw [Bool.and_false]; exact rfl, q⟩

section
variable {X : Cx} {k : Nat} {o i : Expr} {td ty : TE} {pos : Pos}
theorem q_dget (hr : Room k X.A) (ho : PE X o td) (hi : PE X i ty) (hs : NoSl i) : PE X (.Subscript o i pos) (tDGet td ty) := pe_dget (hu_of hr) ho hi hs
theorem q_din (hr : Room k X.A) (hi : PE X i ty) (ho : PE X o td) : PC X .In i o (tDIn ty td) := pc_din (hu_of hr) hi ho
theorem q_dnotin (hr : Room k X.A) (hi : PE X i ty) (ho : PE X o td) : PC X .NotIn i o (tDNotIn ty td) := pc_dnotin (hu_of hr) hi ho
theorem q_eqD (hr : Room k X.A) : OpR X (compareOp .Eq) (rEqD X.K) := op_eqD hr.units
theorem q_neD (hr : Room k X.A) : OpR X (compareOp .NotEq) (rNeD X.K) := op_neD hr.units
end
section
variable {K : PySem.W.Frag}
theorem und_neg : UnD K (rU fun i => .int (-i)) (fun a k => ∃ i, a = .int i ∧ k (.int (-i))) := by
  intro S H x a Q k dm rx ⟨i, e, q⟩ hq
  subst e; cases rx
  exact ⟨i, rfl, hq _ H _ q (Same.refl H) (.int _)⟩
/-- what has a length -/
inductive LenD : List D → Nat → Prop where
  | lst (xs : List D) : LenD [.lst xs] xs.length
  | tup (xs : List D) : LenD [.tup xs] xs.length
  | str (z : Str) (h : z.length ≤ sizeLine) : LenD [.str z] z.length
  | scr (ns : List Int) : LenD [.scr ns] ns.length
theorem cad_lenA : CaD K (rLenB K) (fun ds k => ∃ n : Nat, LenD ds n ∧ k (.int (n : Nat))) := by
  intro S H xs ds Q k dm rx ⟨n, h, q⟩ hq
  cases h with
  | lst ys => exact cad_len S H xs _ Q k dm rx ⟨_, rfl, .inl ⟨_, rfl, q⟩⟩ hq
  | tup ys => exact cad_len S H xs _ Q k dm rx ⟨_, rfl, .inr (.inl ⟨_, rfl, q⟩)⟩ hq
  | str z h => exact cad_len S H xs _ Q k dm rx ⟨_, rfl, .inr (.inr ⟨_, rfl, h, q⟩)⟩ hq
  | scr ns => exact cad_lenS S H xs _ Q k dm rx ⟨_, rfl, q⟩ hq
end
/-! the same, the written part told by name (a comprehension's block asks it) -/
section
variable {X : Cx} {k : Nat} {e o i : Expr} {ta td ty : TE} {pos : Pos} {f : Str} (K : PySem.W.Frag)
theorem z_fld (he : PE X e ta) (hK : X.K = K := by rfl) (hb : attributeBase e f X.env (eval e X.env) = eval e X.env := by rfl) : PE X (.Attribute e f pos) (tFld K ta f) := by subst hK; exact pe_fld he hb
theorem z_ixL (hK : X.K = K := by rfl) : IxR X (rIxL K) := by subst hK; exact ix_list
theorem z_ixT (hK : X.K = K := by rfl) : IxR X (rIxT K) := by subst hK; exact ix_tup
theorem z_in (hK : X.K = K := by rfl) : OpR X (compareOp .In) (rIn K false) := by subst hK; exact op_in_seq
theorem z_nin (hK : X.K = K := by rfl) : OpR X (compareOp .NotIn) (rIn K true) := by subst hK; exact op_notIn_seq
theorem z_eqD (hr : Room k X.A) (hK : X.K = K := by rfl) : OpR X (compareOp .Eq) (rEqD K) := by subst hK; exact q_eqD hr
theorem z_neD (hr : Room k X.A) (hK : X.K = K := by rfl) : OpR X (compareOp .NotEq) (rNeD K) := by subst hK; exact q_neD hr
theorem z_len (hK : X.K = K := by rfl) : CallR X (.builtin "len") (rLenB K) := by subst hK; exact call_len
theorem z_isi (hK : X.K = K := by rfl) : CallR X (.builtin "isinstance") (rIsi K) := by subst hK; exact call_isi
theorem z_all (hc : X.calm = true) (hK : X.K = K := by rfl) : CallR X (.builtin "all") (rAll K) := by subst hK; exact cr_all hc
theorem z_any (hc : X.calm = true) (hK : X.K = K := by rfl) : CallR X (.builtin "any") (rAny K) := by subst hK; exact cr_any hc
theorem z_sum (hc : X.calm = true) (hK : X.K = K := by rfl) : CallR X (.builtin "sum") (rSum K) := by subst hK; exact cr_sum hc
theorem z_sortedS (hK : X.K = K := by rfl) : CallR X (.builtin "sorted") (rSortedS K) := by subst hK; exact cr_sortedS
theorem z_listof (hK : X.K = K := by rfl) : CallR X (.type "list") (fun xs H Q => ∃ p ys, xs = [.ref p] ∧ (SqL K H p ys ∨ SqT K H p ys) ∧ ∀ l, H l = none → Q (.ref l) (upd H l (.lst ys))) := by subst hK; exact call_list_of
theorem z_dictP (hc : X.calm = true) (hK : X.K = K := by rfl) : CallR X (.type "dict") (fun xs H Q => ∃ (a : Addr) (ps : List Addr) (kvs : List (Key × V)), xs = [.ref a] ∧ SqL K H a (ps.map V.ref) ∧ Paired (fun p kv => SqT K H p [kV kv.1, kv.2]) ps kvs ∧ ∀ p, H p = none → Q (.ref p) (upd H p (.dK (mergeK [] kvs)))) := by subst hK; exact call_dictP hc
theorem z_slL (hK : X.K = K := by rfl) : SlR X (rSlL K) := by subst hK; exact sl_list
theorem z_plist {tg : Expr} (hl : PE X e ta) (hK : X.K = K := by rfl) : PI X tg e (iList K ta) := by subst hK; exact pi_list hl
end
theorem q_tup {X : Cx} {pos : Pos} {es : List Expr} {k : Nat} {t : TGs} {n : Nat} (K : PySem.W.Frag) (hK : X.K = K) (hc : X.calm = true) (h : PGs X es t)
    (hn : (assignEach es X.env).length = n := by rfl) (hst : (assignEach es X.env).findIdx? (·.1) = none := by rfl) : PG X (.Tuple es k pos) (gTup K n t) := by
  subst hK; exact pg_tup hc h hn hst
/-! ### the stream -/
section
variable {X : Cx} {pins : List (Addr × Obj)} {σ : L2.St} {H : Hp} {s : Shared} {p : Addr}
theorem Inv.stm {i j : Int} (I : Inv X pins σ H s) (h : H p = some (.lst [.int i, .int j])) (hb : StmB i j) : Inv X pins σ (upd H p (stmO p)) s := by
  obtain ⟨_, its, n, r, hg⟩ := I.hok p _ h
  cases r with
  | cons h1 t =>
    cases t with
    | cons h2 t =>
      cases t
      obtain ⟨t1, rfl⟩ := h1
      obtain ⟨t2, rfl⟩ := h2
      refine I.write (x := p) (e := p) (t' := s.toks) (h' := s.heap) (by rw [h]; trivial) (.inl rfl) (fun b v _ q => q) ⟨_, hg⟩ ?_
      exact ⟨⟨i, j, _, _, n, hb, hg⟩, ⟨_, hg⟩, fun h1 h2 ⟨i, j, t, u, n, hb, e⟩ k => ⟨i, j, t, u, n, hb, k _ e⟩⟩
theorem Inv.unstm (I : Inv X pins σ H s) (h : H p = some (stmO p)) : ∃ i j, StmB i j ∧ Inv X pins σ (upd H p (.lst [.int i, .int j])) s := by
  obtain ⟨⟨i, j, t, u, n, hb, hg⟩, _, _⟩ := I.hok p _ h
  exact ⟨i, j, hb, I.write (x := p) (e := p) (t' := s.toks) (h' := s.heap) (by rw [h]; trivial) (.inl rfl) (fun b v _ q => q) ⟨_, hg⟩ ⟨by show (2 : Nat) ≤ sizeLine; decide, [.int i t, .int j u], n, .cons ⟨t, rfl⟩ (.cons ⟨u, rfl⟩ .nil), hg⟩⟩
/-- a new pair of ints is a stream from now on -/
def tStm (t : TE) : TE := fun σ H Q => t σ H fun x H1 => ∃ p i j, x = .ref p ∧ H1 p = some (.lst [.int i, .int j]) ∧ StmB i j ∧ Q x (upd H1 p (stmO p))
theorem pe_stm {e : Expr} {t : TE} (h : PE X e t) : PE X e (tStm t) := by
  refine ⟨fun pins s σ H Q I q => ?_⟩
  refine thn (h.run pins s σ H _ I q) fun v s1 ⟨x, H1, I1, r1, p, i, j, e, hp, hb, k⟩ => ?_
  exact ⟨x, _, Inv.stm I1 hp hb, r1, k⟩
/-- a def over the stream in slot 0, opened -/
def tOpenS (t : TS) : TS := fun D σ H => ∃ p, σ[0]? = some (some (.ref p)) ∧ H p = some (stmO p) ∧ ∀ i j, StmB i j →
  t { nx := fun _ _ => False, rt := fun v H' => ∃ i' j', StmB i' j' ∧ H' p = some (.lst [.int i', .int j']) ∧ D.rt v (upd H' p (stmO p)) } σ (upd H p (.lst [.int i, .int j]))
theorem pss_openS {st : List Stmt} {t : TS} (h : PSs X st t) : PSs X st (tOpenS t) := by
  refine ⟨fun pins s σ H D I ⟨p, hs, hp, k⟩ => ?_⟩
  obtain ⟨i, j, hb, I2⟩ := Inv.unstm I hp
  refine thn (h.run pins s σ _ _ I2 (k i j hb)) fun f s1 q => ?_
  cases f with
  | next => obtain ⟨σ', H', I2, z⟩ := q; exact z.elim
  | brk => obtain ⟨σ', H', I2, z⟩ := q; exact z.elim
  | cont => obtain ⟨σ', H', I2, z⟩ := q; exact z.elim
  | ret v => obtain ⟨x, σ', H', I2, r, i', j', hb', hp', z⟩ := q; exact ⟨x, σ', _, Inv.stm I2 hp' hb', r, z⟩
end
section
variable {K : PySem.W.Frag} {E : XK} {G : Gm} {O : OL} {ke : Xd → Prop}
theorem dt_stm {t : TE} {k : D → Prop} (h : DF K E t G O (fun o => ∃ i j, o = .lst [.int i, .int j] ∧ StmB i j ∧ k .stm) ke) : DT K E (tStm t) G O k ke := fun S0 Os σ H Q st hq he =>
  h S0 Os σ H _ st (fun p H1 o ⟨i, j, e, hb, kd⟩ s1 np oa => by
    subst e
    obtain ⟨vs, hp, r⟩ := oa
    cases r with
    | cons h1 t1 =>
      cases t1 with
      | cons h2 t2 =>
        cases t2
        cases h1; cases h2
        refine ⟨p, i, j, rfl, hp, hb, hq _ _ _ kd (fun a u e => ?_) (.stm (fun z => st.domW p z np) upd_same)⟩
        rw [upd_ne fun z => by rw [z, np] at e; cases e]
        exact s1 a u e) he
end
end Fw

set_option maxHeartbeats 4000000
/-! The program's data: names, sorted lists, committees, rankings, turns, games. -/
namespace Fw
open PySem PySem.Spec PyProof.Rows L2
def LET : Str := "abcdefghijklmnopqrstuvwxyz"
def isName (s : Str) : Bool := (decide ((1 : Int) ≤ (s.length : Nat)) && decide (((s.length : Nat) : Int) ≤ 8)) && s.cps.toList.all fun c => decide (c ∈ LET.cps.toList)
theorem isName_len {s : Str} (h : isName s = true) : s.length ≤ 8 := by
  unfold isName at h
  simp only [Bool.and_eq_true, decide_eq_true_eq] at h
  omega
theorem lt_conn : ∀ {a b : List Nat}, ltCps a b = false → ltCps b a = false → a = b
  | [], [], _, _ => rfl
  | [], _ :: _, h, _ => by simp [ltCps] at h
  | _ :: _, [], _, h => by simp [ltCps] at h
  | x :: r, y :: t, h1, h2 => by
    simp only [ltCps, Bool.or_eq_false_iff, Bool.and_eq_false_iff, decide_eq_false_iff_not, beq_eq_false_iff_ne, ne_eq] at h1 h2
    have e : x = y := by omega
    subst e
    obtain ⟨_, h1⟩ := h1
    obtain ⟨_, h2⟩ := h2
    rw [lt_conn (h1.resolve_left fun z => z rfl) (h2.resolve_left fun z => z rfl)]
theorem le_trans : ∀ {a b c : List Nat}, ltCps b a = false → ltCps c b = false → ltCps c a = false
  | [], _, [], _, _ => rfl
  | [], _, _ :: _, _, _ => rfl
  | _ :: _, [], _, h, _ => by simp [ltCps] at h
  | _ :: _, _ :: _, [], _, h => by simp [ltCps] at h
  | x :: r, y :: t, z :: u, h1, h2 => by
    simp only [ltCps, Bool.or_eq_false_iff, Bool.and_eq_false_iff, decide_eq_false_iff_not, beq_eq_false_iff_ne, ne_eq] at h1 h2 ⊢
    refine ⟨by omega, ?_⟩
    by_cases e : z = x
    · right
      have e1 : y = x := by omega
      subst e e1
      exact le_trans (h1.2.resolve_left fun z => z rfl) (h2.2.resolve_left fun z => z rfl)
    · exact .inl e
def leS (a b : Str) : Prop := ltCps b.cps.toList a.cps.toList = false
theorem rising_pw : ∀ {p : Str} {l : List Str}, risingS p l = true → (p :: l).Pairwise leS
  | p, [], _ => by simp
  | p, x :: r, h => by
    have h' : (!ltCps x.cps.toList p.cps.toList && risingS x r) = true := h
    rw [Bool.and_eq_true, Bool.not_eq_true'] at h'
    have ih := rising_pw h'.2
    refine List.pairwise_cons.mpr ⟨fun y hy => ?_, ih⟩
    rcases List.mem_cons.mp hy with e | hy
    · subst e; exact h'.1
    · exact le_trans h'.1 ((List.pairwise_cons.mp ih).1 y hy)
theorem sorted_pw : ∀ {l : List Str}, sortedS l = true → l.Pairwise leS
  | [], _ => .nil
  | x :: r, h => rising_pw h
theorem leS_anti {a b : Str} (h1 : leS a b) (h2 : leS b a) : a = b := by
  have e := lt_conn h2 h1
  cases a; cases b
  congr 1
  exact Array.toList_inj.mp e
def SortedOf (ss ys : List Str) : Prop := ys.Nodup ∧ (∀ x, x ∈ ys ↔ x ∈ ss) ∧ sortedS ys = true
theorem SortedOf.uniq {ss ys zs : List Str} (h1 : SortedOf ss ys) (h2 : SortedOf ss zs) : ys = zs := by
  have p : ys.Perm zs := (List.perm_ext_iff_of_nodup h1.1 h2.1).mpr fun x => (h1.2.1 x).trans (h2.2.1 x).symm
  exact p.eq_of_pairwise (fun _ _ _ _ => leS_anti) (sorted_pw h1.2.2) (sorted_pw h2.2.2)
/-- the names, each once, sorted -/
noncomputable def srt (ss : List Str) : List Str := open Classical in if h : ∃ ys, SortedOf ss ys then h.choose else []
theorem srt_eq {ss ys : List Str} (h : SortedOf ss ys) : srt ss = ys := by
  unfold srt
  rw [dif_pos ⟨ys, h⟩]
  exact SortedOf.uniq (Exists.choose_spec (⟨ys, h⟩ : ∃ ys, SortedOf ss ys)) h
/-- there is always one -/
def insS (x : Str) : List Str → List Str
  | [] => [x]
  | y :: r => if ltCps y.cps.toList x.cps.toList then y :: insS x r else x :: y :: r
theorem lt_asymm : ∀ {a b : List Nat}, ltCps a b = true → ltCps b a = false
  | [], [], h => rfl
  | [], _ :: _, _ => rfl
  | _ :: _, [], h => by simp [ltCps] at h
  | x :: r, y :: t, h => by
    simp only [ltCps, Bool.or_eq_true, Bool.and_eq_true, decide_eq_true_eq, beq_iff_eq] at h
    simp only [ltCps, Bool.or_eq_false_iff, Bool.and_eq_false_iff, decide_eq_false_iff_not, beq_eq_false_iff_ne, ne_eq]
    rcases h with h | ⟨e, h⟩
    · exact ⟨by omega, .inl (by omega)⟩
    · exact ⟨by omega, .inr (lt_asymm h)⟩
theorem insS_mem {x y : Str} : ∀ {l : List Str}, y ∈ insS x l ↔ y = x ∨ y ∈ l
  | [] => by simp [insS]
  | z :: r => by
    unfold insS
    split
    · rw [List.mem_cons, insS_mem, List.mem_cons]
      constructor
      · rintro (h | h | h)
        · exact .inr (.inl h)
        · exact .inl h
        · exact .inr (.inr h)
      · rintro (h | h | h)
        · exact .inr (.inl h)
        · exact .inl h
        · exact .inr (.inr h)
    · rw [List.mem_cons]
theorem insS_pw {x : Str} : ∀ {l : List Str}, l.Pairwise leS → (insS x l).Pairwise leS
  | [], _ => by simp [insS]
  | z :: r, h => by
    have h2 := List.pairwise_cons.mp h
    unfold insS
    split
    · rename_i hz
      refine List.pairwise_cons.mpr ⟨fun y hy => ?_, insS_pw h2.2⟩
      rcases insS_mem.mp hy with e | hy
      · subst e; exact lt_asymm hz
      · exact h2.1 y hy
    · rename_i hz
      have hz' : leS x z := by
        unfold leS
        cases q : ltCps z.cps.toList x.cps.toList with
        | true => exact absurd q hz
        | false => rfl
      refine List.pairwise_cons.mpr ⟨fun y hy => ?_, h⟩
      rcases List.mem_cons.mp hy with e | hy
      · subst e; exact hz'
      · exact le_trans hz' (h2.1 y hy)
theorem insS_nodup {x : Str} : ∀ {l : List Str}, l.Nodup → x ∉ l → (insS x l).Nodup
  | [], _, _ => by simp [insS]
  | z :: r, h, hx => by
    have h2 := List.nodup_cons.mp h
    unfold insS
    split
    · refine List.nodup_cons.mpr ⟨fun y => ?_, insS_nodup h2.2 fun y => hx (List.mem_cons_of_mem _ y)⟩
      rcases insS_mem.mp y with e | y
      · exact hx (by rw [e]; exact List.mem_cons_self)
      · exact h2.1 y
    · exact List.nodup_cons.mpr ⟨hx, h⟩
theorem srt_ex : ∀ ss : List Str, ∃ ys, SortedOf ss ys
  | [] => ⟨[], .nil, fun x => Iff.rfl, rfl⟩
  | s :: r => by
    obtain ⟨ys, h1, h2, h3⟩ := srt_ex r
    by_cases hs : s ∈ r
    · exact ⟨ys, h1, fun x => by rw [h2, List.mem_cons]; exact ⟨.inr, fun h => h.elim (fun e => e ▸ hs) id⟩, h3⟩
    · refine ⟨insS s ys, insS_nodup h1 fun z => hs ((h2 s).mp z), fun x => by rw [insS_mem, h2, List.mem_cons], ?_⟩
      exact sortedS_of_pairwise _ (insS_pw (sorted_pw h3))
theorem srt_ok (ss : List Str) : SortedOf ss (srt ss) := by
  obtain ⟨ys, h⟩ := srt_ex ss
  rw [srt_eq h]; exact h
theorem srt_mem {ss : List Str} {x : Str} : x ∈ srt ss ↔ x ∈ ss := (srt_ok ss).2.1 x
theorem srt_nodup (ss : List Str) : (srt ss).Nodup := (srt_ok ss).1
theorem srt_sorted (ss : List Str) : sortedS (srt ss) = true := (srt_ok ss).2.2
theorem srt_congr {ss ts : List Str} (h : ∀ x, x ∈ ss ↔ x ∈ ts) : srt ss = srt ts := srt_eq ⟨srt_nodup ts, fun x => srt_mem.trans (h x).symm, srt_sorted ts⟩
theorem srt_perm {ss : List Str} (h : ss.Nodup) : (srt ss).Perm ss := (List.perm_ext_iff_of_nodup (srt_nodup ss) h).mpr fun x => srt_mem
theorem srt_len {ss : List Str} (h : ss.Nodup) : (srt ss).length = ss.length := (srt_perm h).length_eq
theorem srt_srt (ss : List Str) : srt (srt ss) = srt ss := srt_congr fun x => srt_mem
theorem nodup_le : ∀ {xs ys : List Str}, xs.Nodup → (∀ x ∈ xs, x ∈ ys) → xs.length ≤ ys.length
  | [], _, _, _ => Nat.zero_le _
  | x :: xs, ys, h, s => by
    have h2 := List.nodup_cons.mp h
    have hx : x ∈ ys := s x List.mem_cons_self
    have ih := nodup_le (ys := ys.erase x) h2.2 fun y hy => by
      have ne : y ≠ x := fun e => h2.1 (e ▸ hy)
      exact (List.mem_erase_of_ne ne).mpr (s y (List.mem_cons_of_mem _ hy))
    rw [List.length_erase_of_mem hx] at ih
    have : 0 < ys.length := List.length_pos_of_mem hx
    rw [List.length_cons]; omega
theorem srt_le (ss : List Str) : (srt ss).length ≤ ss.length := nodup_le (srt_nodup ss) fun x hx => srt_mem.mp hx
/-! ### objects -/
abbrev sl (ss : List Str) : D := .lst (ss.map D.str)
noncomputable def cmt (ss : List Str) : D := .obj "Committee" [("own_members", sl (srt ss))]
/-- the places of a ranking -/
def plc (ss : List Str) : List (Key × D) := ss.zipIdx.map fun p => ((.inr p.1 : Key), D.int (p.2 : Nat))
def rk (ss : List Str) : D := .obj "Ranking" [("order", sl ss), ("places", .dic (plc ss))]
def tn (ss : List Str) : D := .obj "Turns" [("order", sl ss)]
def rks (rs : List (Str × List Str)) : List (Key × D) := rs.map fun p => ((.inr p.1 : Key), rk p.2)
def gm (rs : List (Str × List Str)) (ts : List Str) : D := .obj "Game" [("own_rankings", .dic (rks rs)), ("own_turns", tn ts)]
/-- lists of names that are allowed -/
structure Nm (ss : List Str) : Prop where
  name : ∀ s ∈ ss, isName s = true
  len : ss.length ≤ 30
/-! ### comprehensions over a list of data of one kind -/
def RM {α : Type} (g f : α → D) : D → Option D → Prop := fun x o => ∀ a, x = g a → o = some (f a)
def RF {α : Type} (g : α → D) (p : α → Bool) (f : α → D) : D → Option D → Prop := fun x o => ∀ a, x = g a → o = if p a then some (f a) else none
theorem LcR.mapOf {α : Type} {g f : α → D} : ∀ {as : List α} {ys : List D}, LcR (RM g f) (as.map g) ys → ys = as.map f
  | [], _, .nil => rfl
  | a :: as, _, .keep r t => by
    have e := r a rfl
    cases e
    rw [LcR.mapOf t]; rfl
  | a :: as, _, .skip r t => by cases r a rfl
theorem LcR.filterOf {α : Type} {g f : α → D} {p : α → Bool} : ∀ {as : List α} {ys : List D}, LcR (RF g p f) (as.map g) ys → ys = (as.filter p).map f
  | [], _, .nil => rfl
  | a :: as, _, .keep r t => by
    have e := r a rfl
    cases hp : p a with
    | false => rw [hp] at e; cases e
    | true =>
      rw [hp] at e; cases e
      rw [LcR.filterOf t, List.filter_cons_of_pos hp]; rfl
  | a :: as, _, .skip r t => by
    have e := r a rfl
    cases hp : p a with
    | true => rw [hp] at e; cases e
    | false => rw [LcR.filterOf t, List.filter_cons_of_neg (by rw [hp]; exact Bool.false_ne_true)]
theorem all_id {α : Type} {p : α → Bool} {as : List α} : (as.map p).all id = as.all p := by rw [List.all_map]; rfl
theorem sizeL : (1000000 : Nat) < sizeLine := by decide
end Fw

set_option maxHeartbeats 4000000
/-! Comprehensions that map and filter; dicts by their keys. -/
namespace Fw
open PySem PySem.Spec PyProof.Rows L2
section
variable {K : PySem.W.Frag} {E : XK} {G : Gm} {O : OL} {ke : Xd → Prop}
theorem DG.imp {g : TG} {is : List Nat} {d : D} {k k' : Gm → Prop} (h : DG K g is d G O k) (i : ∀ G, k G → k' G) : DG K g is d G O k' := fun S0 Os σ H v Q st r hq => h S0 Os σ H v Q st r fun G' σ' k1 => hq G' σ' (i _ k1)
theorem DTT.imp {t : TT} {k k' : Bool → Prop} (h : DTT K E t G O k ke) (i : ∀ b, k b → k' b) : DTT K E t G O k' ke := fun S0 Os σ H Q st hq he => h S0 Os σ H Q st (fun b H' kb => hq b H' (i b kb)) he
theorem LcT.imp {g : TG} {is : List Nat} {tt : TT} {te : TE} {R R' : D → Option D → Prop} {x : D} (h : LcT K E g is tt te G O R x) (i : ∀ o, R x o → R' x o) : LcT K E g is tt te G O R' x :=
  DG.imp h fun G1 h1 => DTT.imp h1 fun b ⟨h2, h3⟩ => ⟨fun e => (h2 e).imp fun d => i _, fun e => i _ (h3 e)⟩
theorem DcT.imp {g : TG} {is : List Nat} {tt : TT} {tk te : TE} {R R' : D → Option (Key × D) → Prop} {x : D} (h : DcT K E g is tt tk te G O R x) (i : ∀ o, R x o → R' x o) : DcT K E g is tt tk te G O R' x :=
  DG.imp h fun G1 h1 => DTT.imp h1 fun b ⟨h2, h3⟩ => ⟨fun e => (h2 e).imp fun d hd => hd.imp fun z ⟨k, e, r⟩ => ⟨k, e, i _ r⟩, fun e => i _ (h3 e)⟩
theorem lct {g : TG} {is : List Nat} {tt : TT} {te : TE} {R : D → Option D → Prop} {x : D} (h : DG K g is x G O fun G1 => DTT K E tt G1 O (fun b => (b = true → DT K E te G1 O (fun y => R x (some y)) F0) ∧ (b = false → R x none)) F0) : LcT K E g is tt te G O R x := h
theorem dct {g : TG} {is : List Nat} {tt : TT} {tk te : TE} {R : D → Option (Key × D) → Prop} {x : D} (h : DG K g is x G O fun G1 => DTT K E tt G1 O (fun b => (b = true → DT K E tk G1 O (fun y => DT K E te G1 O (fun z => ∃ k, y = kD k ∧ R x (some (k, z))) F0) F0) ∧ (b = false → R x none)) F0) : DcT K E g is tt tk te G O R x := h
variable {α : Type} {wi : TI} {gt : TG} {tt : TT} {te tk : TE} {vs : List Nat} {k : Ow → Prop}
theorem df_lcM (is : List Nat) (g f : α → D) (inj : ∀ a b, g a = g b → f a = f b) (hs : ∀ i ∈ is, i ∈ vs) (hv : ∀ o ∈ O, o.1 ∉ vs)
    (h : DI K E wi G O (fun xs => ∃ as : List α, xs = as.map g ∧ as.length < sizeLine ∧ (∀ a ∈ as, LcT K E gt is tt te (wipeG G vs) O (fun _ o => o = some (f a)) (g a)) ∧ k (.lst (as.map f))) ke) : DF K E (tLc wi gt tt te vs) G O k ke :=
  df_lc is (RM g f) hs hv fun S0 Os σ H R st hR he => h S0 Os σ H R st (fun J H1 xs ⟨as, e, hl, ht, hk⟩ s wk => hR J H1 xs (by
    subst e
    refine ⟨by rw [List.length_map]; exact hl, fun x hx => ?_, fun ys r => by rw [r.mapOf]; exact hk⟩
    obtain ⟨a, ha, rfl⟩ := List.mem_map.mp hx
    exact (ht a ha).imp fun o e a' e' => by rw [e, inj _ _ e']) s wk) he
theorem df_lcF (is : List Nat) (g : α → D) (p : α → Bool) (f : α → D) (inj : ∀ a b, g a = g b → p a = p b ∧ f a = f b) (hs : ∀ i ∈ is, i ∈ vs) (hv : ∀ o ∈ O, o.1 ∉ vs)
    (h : DI K E wi G O (fun xs => ∃ as : List α, xs = as.map g ∧ as.length < sizeLine ∧ (∀ a ∈ as, LcT K E gt is tt te (wipeG G vs) O (fun _ o => o = if p a then some (f a) else none) (g a)) ∧ k (.lst ((as.filter p).map f))) ke) : DF K E (tLc wi gt tt te vs) G O k ke :=
  df_lc is (RF g p f) hs hv fun S0 Os σ H R st hR he => h S0 Os σ H R st (fun J H1 xs ⟨as, e, hl, ht, hk⟩ s wk => hR J H1 xs (by
    subst e
    refine ⟨by rw [List.length_map]; exact hl, fun x hx => ?_, fun ys r => by rw [r.filterOf]; exact hk⟩
    obtain ⟨a, ha, rfl⟩ := List.mem_map.mp hx
    exact (ht a ha).imp fun o e a' e' => by rw [e, (inj _ _ e').1, (inj _ _ e').2]) s wk) he
theorem df_lcLM (is : List Nat) (g f : α → D) (inj : ∀ a b, g a = g b → f a = f b) (hs : ∀ i ∈ is, i ∈ vs) (hv : ∀ o ∈ O, o.1 ∉ vs)
    (h : DIL K E wi G O (fun xs => ∃ as : List α, xs = as.map g ∧ as.length < sizeLine ∧ (∀ a ∈ as, LcT K E gt is tt te (wipeG G vs) O (fun _ o => o = some (f a)) (g a)) ∧ k (.lst (as.map f))) ke) : DF K E (tUnlE (tLc wi gt tt te vs)) G O k ke :=
  df_lcL is (RM g f) hs hv fun S0 Os σ H R st hR he => h S0 Os σ H R st (fun J Hm H1 xs ⟨as, e, hl, ht, hk⟩ s lk wk => hR J Hm H1 xs (by
    subst e
    refine ⟨by rw [List.length_map]; exact hl, fun x hx => ?_, fun ys r => by rw [r.mapOf]; exact hk⟩
    obtain ⟨a, ha, rfl⟩ := List.mem_map.mp hx
    exact (ht a ha).imp fun o e a' e' => by rw [e, inj _ _ e']) s lk wk) he
theorem df_lcLF (is : List Nat) (g : α → D) (p : α → Bool) (f : α → D) (inj : ∀ a b, g a = g b → p a = p b ∧ f a = f b) (hs : ∀ i ∈ is, i ∈ vs) (hv : ∀ o ∈ O, o.1 ∉ vs)
    (h : DIL K E wi G O (fun xs => ∃ as : List α, xs = as.map g ∧ as.length < sizeLine ∧ (∀ a ∈ as, LcT K E gt is tt te (wipeG G vs) O (fun _ o => o = if p a then some (f a) else none) (g a)) ∧ k (.lst ((as.filter p).map f))) ke) : DF K E (tUnlE (tLc wi gt tt te vs)) G O k ke :=
  df_lcL is (RF g p f) hs hv fun S0 Os σ H R st hR he => h S0 Os σ H R st (fun J Hm H1 xs ⟨as, e, hl, ht, hk⟩ s lk wk => hR J Hm H1 xs (by
    subst e
    refine ⟨by rw [List.length_map]; exact hl, fun x hx => ?_, fun ys r => by rw [r.filterOf]; exact hk⟩
    obtain ⟨a, ha, rfl⟩ := List.mem_map.mp hx
    exact (ht a ha).imp fun o e a' e' => by rw [e, (inj _ _ e').1, (inj _ _ e').2]) s lk wk) he
theorem DcR.mapOf {g : α → D} {h : α → Key × D} {xs : List D} {ys : List (Key × D)} (r : DcR (fun x o => ∀ a, x = g a → o = some (h a)) xs ys) : ∀ {as : List α}, xs = as.map g → ys = mergeD [] (as.map h) := by
  induction r with
  | nil =>
    intro as e
    cases as with
    | nil => rfl
    | cons _ _ => cases e
  | keep q r ih =>
    intro as e
    obtain ⟨bs, cs, rfl, e1, e2⟩ := List.map_eq_append_iff.mp e.symm
    cases cs with
    | nil => cases e2
    | cons c cs =>
      cases cs with
      | cons _ _ => cases e2
      | nil =>
        have ec : g c = _ := (List.cons.inj e2).1
        have eo := r c ec.symm
        injection eo with eo
        rw [ih e1.symm, List.map_append]
        unfold mergeD
        rw [List.foldl_append]
        show _ = putD _ (h c).1 (h c).2
        rw [← eo]
  | skip q r ih =>
    intro as e
    obtain ⟨bs, cs, rfl, e1, e2⟩ := List.map_eq_append_iff.mp e.symm
    cases cs with
    | nil => cases e2
    | cons c cs =>
      have ec : g c = _ := (List.cons.inj e2).1
      have eo := r c ec.symm
      cases eo
theorem df_dcM (is : List Nat) (g : α → D) (f : α → Key × D) (inj : ∀ a b, g a = g b → f a = f b) (hs : ∀ i ∈ is, i ∈ vs) (hv : ∀ o ∈ O, o.1 ∉ vs)
    (h : DI K E wi G O (fun xs => ∃ as : List α, xs = as.map g ∧ as.length < sizeLine ∧ (∀ a ∈ as, DcT K E gt is tt tk te (wipeG G vs) O (fun _ o => o = some (f a)) (g a)) ∧ k (.dic (mergeD [] (as.map f)))) ke) : DF K E (tDc wi gt tt tk te vs) G O k ke :=
  df_dc is (fun x o => ∀ a, x = g a → o = some (f a)) hs hv fun S0 Os σ H R st hR he => h S0 Os σ H R st (fun J H1 xs ⟨as, e, hl, ht, hk⟩ s wk => hR J H1 xs (by
    subst e
    refine ⟨by rw [List.length_map]; exact hl, fun x hx => ?_, fun ys r => by rw [r.mapOf rfl]; exact hk⟩
    obtain ⟨a, ha, rfl⟩ := List.mem_map.mp hx
    exact (ht a ha).imp fun o e a' e' => by rw [e, inj _ _ e']) s wk) he
theorem df_dcLM (is : List Nat) (g : α → D) (f : α → Key × D) (inj : ∀ a b, g a = g b → f a = f b) (hs : ∀ i ∈ is, i ∈ vs) (hv : ∀ o ∈ O, o.1 ∉ vs)
    (h : DIL K E wi G O (fun xs => ∃ as : List α, xs = as.map g ∧ as.length < sizeLine ∧ (∀ a ∈ as, DcT K E gt is tt tk te (wipeG G vs) O (fun _ o => o = some (f a)) (g a)) ∧ k (.dic (mergeD [] (as.map f)))) ke) : DF K E (tUnlE (tDc wi gt tt tk te vs)) G O k ke :=
  df_dcL is (fun x o => ∀ a, x = g a → o = some (f a)) hs hv fun S0 Os σ H R st hR he => h S0 Os σ H R st (fun J Hm H1 xs ⟨as, e, hl, ht, hk⟩ s lk wk => hR J Hm H1 xs (by
    subst e
    refine ⟨by rw [List.length_map]; exact hl, fun x hx => ?_, fun ys r => by rw [r.mapOf rfl]; exact hk⟩
    obtain ⟨a, ha, rfl⟩ := List.mem_map.mp hx
    exact (ht a ha).imp fun o e a' e' => by rw [e, inj _ _ e']) s lk wk) he
end
/-! ### keys -/
theorem any_iff {ds : List (Key × D)} {k : Key} : (ds.any fun kv => decide (kv.1 = k)) = true ↔ k ∈ ds.map Prod.fst := by
  rw [List.any_eq_true, List.mem_map]
  exact ⟨fun ⟨x, hx, e⟩ => ⟨x, hx, of_decide_eq_true e⟩, fun ⟨x, hx, e⟩ => ⟨x, hx, decide_eq_true e⟩⟩
theorem putD_keys (ds : List (Key × D)) (k : Key) (v : D) : (putD ds k v).map Prod.fst = if (ds.any fun kv => decide (kv.1 = k)) = true then ds.map Prod.fst else ds.map Prod.fst ++ [k] := by
  unfold putD
  by_cases h : (ds.any fun kv => decide (kv.1 = k)) = true
  · rw [if_pos h, if_pos h, List.map_map]
    apply List.map_congr_left
    intro x _
    show (if x.1 = k then (x.1, v) else x).1 = x.1
    split <;> rfl
  · rw [if_neg h, if_neg h, List.map_append]; rfl
theorem mergeD_keys : ∀ (more ds : List (Key × D)), (ds.map Prod.fst).Nodup → ((mergeD ds more).map Prod.fst).Nodup ∧ ∀ k, k ∈ (mergeD ds more).map Prod.fst ↔ k ∈ ds.map Prod.fst ∨ k ∈ more.map Prod.fst
  | [], ds, h => ⟨h, fun k => by simp [mergeD]⟩
  | p :: r, ds, h => by
    have h1 : ((putD ds p.1 p.2).map Prod.fst).Nodup := by
      rw [putD_keys]
      split
      · exact h
      · rename_i q
        refine List.nodup_append.mpr ⟨h, by simp, fun a ha b hb => ?_⟩
        rw [List.mem_singleton] at hb
        exact fun z => q (any_iff.mpr (by rw [← hb, ← z]; exact ha))
    obtain ⟨a, b⟩ := mergeD_keys r (putD ds p.1 p.2) h1
    refine ⟨a, fun k => (b k).trans ?_⟩
    rw [putD_keys, List.map_cons, List.mem_cons]
    split
    · rename_i q
      constructor
      · rintro (h | h)
        · exact .inl h
        · exact .inr (.inr h)
      · rintro (h | h | h)
        · exact .inl h
        · exact .inl (by rw [h]; exact any_iff.mp q)
        · exact .inr h
    · rw [List.mem_append, List.mem_singleton]
      constructor
      · rintro ((h | h) | h)
        · exact .inl h
        · exact .inr (.inl h)
        · exact .inr (.inr h)
      · rintro (h | h | h)
        · exact .inl (.inl h)
        · exact .inl (.inr h)
        · exact .inr h
/-- new keys alone: the pairs as they are -/
theorem mergeD_app : ∀ (more ds : List (Key × D)), ((ds ++ more).map Prod.fst).Nodup → mergeD ds more = ds ++ more
  | [], ds, _ => by simp [mergeD]
  | p :: r, ds, h => by
    have hp : p.1 ∉ ds.map Prod.fst := fun z => by
      rw [List.map_append, List.nodup_append] at h
      exact h.2.2 _ z p.1 (by simp) rfl
    have e : putD ds p.1 p.2 = ds ++ [p] := by
      unfold putD
      rw [if_neg fun z => hp (any_iff.mp z)]
    show mergeD (putD ds p.1 p.2) r = _
    rw [e, mergeD_app r (ds ++ [p]) (by simpa using h)]
    simp
theorem mergeD_nil {more : List (Key × D)} (h : (more.map Prod.fst).Nodup) : mergeD [] more = more := mergeD_app more [] (by simpa using h)
theorem getD_some {kvs : List (Key × D)} {k : Key} {d : D} (nd : (kvs.map Prod.fst).Nodup) (h : (k, d) ∈ kvs) : getD kvs k = some d := by
  unfold getD
  induction kvs with
  | nil => cases h
  | cons p r ih =>
    have nd2 := List.nodup_cons.mp (show (p.1 :: r.map Prod.fst).Nodup from nd)
    rcases List.mem_cons.mp h with e | h
    · subst e
      rw [List.find?_cons_of_pos (by simp)]; rfl
    · have ne : p.1 ≠ k := fun z => nd2.1 (by rw [z]; exact List.mem_map_of_mem (f := Prod.fst) h)
      rw [List.find?_cons_of_neg (by simpa using ne)]
      exact ih nd2.2 h
theorem getD_is {kvs : List (Key × D)} {k : Key} : (getD kvs k).isSome = true ↔ k ∈ kvs.map Prod.fst := by
  unfold getD
  induction kvs with
  | nil => simp
  | cons p r ih =>
    by_cases e : p.1 = k
    · rw [List.find?_cons_of_pos (by simpa using e)]
      refine ⟨fun _ => ?_, fun _ => rfl⟩
      rw [List.map_cons, e]; exact List.mem_cons_self
    · rw [List.find?_cons_of_neg (by simpa using e), ih, List.map_cons, List.mem_cons]
      exact ⟨.inr, fun h => h.resolve_left fun z => e z.symm⟩
theorem strs_inj {a b : Str} (h : D.str a = D.str b) : a = b := by cases h; rfl
theorem keys_nodup {ss : List Str} (h : ss.Nodup) : (ss.map (Sum.inr : Str → Key)).Nodup := by
  induction ss with
  | nil => exact .nil
  | cons s r ih =>
    have h2 := List.nodup_cons.mp h
    refine List.nodup_cons.mpr ⟨fun z => ?_, ih h2.2⟩
    obtain ⟨x, hx, e⟩ := List.mem_map.mp z
    cases e
    exact h2.1 hx
theorem key_mem {ss : List Str} {x : Str} : (Sum.inr x : Key) ∈ ss.map (Sum.inr : Str → Key) ↔ x ∈ ss := by
  rw [List.mem_map]
  exact ⟨fun ⟨y, hy, e⟩ => by cases e; exact hy, fun h => ⟨x, h, rfl⟩⟩
theorem flat_strs (ss : List Str) : (ss.map D.str).all D.flat = true := by
  rw [List.all_map, List.all_eq_true]; intro _ _; rfl
theorem inV_strs {x : Str} {ss : List Str} : inD (.str x) (ss.map D.str) = decide (x ∈ ss) := by
  have e : inD (.str x) (ss.map D.str) = ss.any fun s => s == x := by
    unfold inD inV
    rw [List.map_map, List.any_map]; rfl
  rw [e, Bool.eq_iff_iff, List.any_eq_true, decide_eq_true_eq]
  exact ⟨fun ⟨y, hy, e⟩ => by rw [← beq_iff_eq.mp e]; exact hy, fun h => ⟨x, h, beq_self_eq_true x⟩⟩
end Fw

set_option maxHeartbeats 4000000
/-! == of lists of names; a method of what is being made; games. -/
namespace Fw
open PySem PySem.Spec PyProof.Rows L2
theorem let_ok : (LET.cps.toList.all fun c => decide (c < 1114112)) = true := by decide +kernel
theorem isName_ok {s : Str} (h : isName s = true) : PyData.strOk s = true := by
  unfold isName at h
  rw [Bool.and_eq_true] at h
  unfold PyData.strOk
  rw [← Array.all_toList, List.all_eq_true]
  intro c hc
  have := List.all_eq_true.mp h.2 c hc
  exact List.all_eq_true.mp let_ok c (of_decide_eq_true this)
theorem pds_strs : ∀ ss : List Str, D.pds (ss.map D.str) = some (ss.map PyData.str)
  | [] => rfl
  | s :: r => by
    show (match D.pd (.str s), D.pds (r.map D.str) with
      | some a, some b => some (a :: b)
      | _, _ => none) = _
    rw [pds_strs r]; rfl
theorem pd_sl (ss : List Str) : (sl ss).pd = some (.list (ss.map PyData.str)) := by
  show (D.pds (ss.map D.str)).map PyData.list = _
  rw [pds_strs]; rfl
theorem lay_strs : ∀ {ss : List Str}, (∀ s ∈ ss, isName s = true) → PyData.canLayAll0 (ss.map PyData.str) = true
  | [], _ => by simp [PyData.canLayAll0]
  | s :: r, h => by
    rw [List.map_cons]
    simp only [PyData.canLayAll0, PyData.canLay0, Bool.and_eq_true]
    exact ⟨isName_ok (h s List.mem_cons_self), lay_strs fun x hx => h x (List.mem_cons_of_mem _ hx)⟩
theorem depth_strs : ∀ {ss : List Str}, PyData.depthAll (ss.map PyData.str) ≤ 1
  | [] => by simp [PyData.depthAll]
  | s :: r => by
    rw [List.map_cons]
    simp only [PyData.depthAll, PyData.depth]
    have := depth_strs (ss := r)
    omega
theorem shaped_sl {ss : List Str} (h : ∀ s ∈ ss, isName s = true) : SeqAt.shaped (.list (ss.map PyData.str)) = true := by
  unfold SeqAt.shaped
  rw [Bool.and_eq_true, decide_eq_true_eq]
  refine ⟨by simp only [PyData.canLay0]; exact lay_strs h, ?_⟩
  have := depth_strs (ss := ss)
  simp only [PyData.depth]
  omega
theorem eqvAll_strs : ∀ {ss ts : List Str}, PyData.eqvAll (ss.map .str) (ts.map .str) = decide (ss = ts)
  | [], [] => by simp [PyData.eqvAll]
  | [], _ :: _ => by simp [PyData.eqvAll]
  | _ :: _, [] => by simp [PyData.eqvAll]
  | s :: r, t :: u => by
    rw [List.map_cons, List.map_cons]
    simp only [PyData.eqvAll, PyData.eqv]
    rw [eqvAll_strs, Bool.eq_iff_iff, Bool.and_eq_true, decide_eq_true_eq, decide_eq_true_eq, beq_iff_eq, List.cons.injEq]
theorem eqv_sl {ss ts : List Str} : PyData.eqv (.list (ss.map .str)) (.list (ts.map .str)) = decide (ss = ts) := by
  simp only [PyData.eqv]; exact eqvAll_strs
/-! ### keys that are texts -/
theorem keys_strs : ∀ {ks : List Key}, (∀ k ∈ ks, ∃ s : Str, k = .inr s) → ∃ ts : List Str, ks = ts.map (Sum.inr : Str → Key)
  | [], _ => ⟨[], rfl⟩
  | k :: r, h => by
    obtain ⟨s, rfl⟩ := h k List.mem_cons_self
    obtain ⟨ts, rfl⟩ := keys_strs fun k hk => h k (List.mem_cons_of_mem _ hk)
    exact ⟨s :: ts, rfl⟩
theorem nodup_keys {ts : List Str} (h : (ts.map (Sum.inr : Str → Key)).Nodup) : ts.Nodup := by
  induction ts with
  | nil => exact .nil
  | cons s r ih =>
    have h2 := List.nodup_cons.mp (show ((Sum.inr s : Key) :: r.map Sum.inr).Nodup from h)
    exact List.nodup_cons.mpr ⟨fun z => h2.1 (List.mem_map_of_mem z), ih h2.2⟩
/-- the keys of a dict made of names -/
theorem merge_strs (f : Str → D) (ss : List Str) : ∃ ts : List Str, (mergeD [] (ss.map fun s => ((.inr s : Key), f s))).map Prod.fst = ts.map (Sum.inr : Str → Key) ∧ ts.Nodup ∧ ∀ x, x ∈ ts ↔ x ∈ ss := by
  obtain ⟨h1, h2⟩ := mergeD_keys (ss.map fun s => ((.inr s : Key), f s)) [] (by simp)
  have e : (ss.map fun s => ((.inr s : Key), f s)).map Prod.fst = ss.map (Sum.inr : Str → Key) := by rw [List.map_map]; rfl
  rw [e] at h2
  obtain ⟨ts, ht⟩ := keys_strs (ks := (mergeD [] (ss.map fun s => ((.inr s : Key), f s))).map Prod.fst) fun k hk => by
    rcases (h2 k).mp hk with z | z
    · cases z
    · obtain ⟨s, _, e⟩ := List.mem_map.mp z
      exact ⟨s, e.symm⟩
  rw [ht] at h1 h2
  refine ⟨ts, ht, nodup_keys h1, fun x => ?_⟩
  have := h2 (.inr x)
  rw [key_mem, key_mem] at this
  exact this.trans ⟨fun h => h.resolve_left (by simp), .inr⟩
theorem ts_len {ss ts : List Str} (h1 : ts.Nodup) (h2 : ∀ x, x ∈ ts ↔ x ∈ ss) : ts.length = (srt ss).length :=
  ((List.perm_ext_iff_of_nodup h1 (srt_nodup ss)).mpr fun x => (h2 x).trans srt_mem.symm).length_eq
theorem ts_srt {ss ts ys : List Str} (h1 : ts.Nodup) (h2 : ∀ x, x ∈ ts ↔ x ∈ ss) (p : ys.Perm ts) (s : sortedS ys = true) : ys = srt ss :=
  (srt_eq ⟨(List.Perm.nodup_iff p).mpr h1, fun x => p.mem_iff.trans (h2 x), s⟩).symm
/-! ### places -/
theorem enum_strs (ss : List Str) : enumD (ss.map D.str) = ss.zipIdx.map fun p => D.tup [.int (p.2 : Nat), .str p.1] := by
  unfold enumD
  apply List.ext_getElem?
  intro i
  rw [List.length_map, List.getElem?_map, List.getElem?_map, List.getElem?_zipIdx]
  by_cases h : i < ss.length
  · rw [List.getElem?_range h, List.getElem?_eq_getElem h]
    show some (D.tup [.int (i : Nat), (ss.map D.str).getD i .non]) = some _
    rw [List.getD_eq_getElem?_getD, List.getElem?_map, List.getElem?_eq_getElem h]
    show some (D.tup [.int (i : Nat), D.str ss[i]]) = some (D.tup [.int ((0 + i : Nat) : Int), D.str ss[i]])
    rw [Nat.zero_add]
  · rw [List.getElem?_eq_none (by simpa using h), List.getElem?_eq_none (by simpa using h)]; rfl
theorem plc_keys (ss : List Str) : (plc ss).map Prod.fst = ss.map (Sum.inr : Str → Key) := by
  unfold plc
  rw [List.map_map]
  have : (ss.zipIdx.map Prod.fst).map (Sum.inr : Str → Key) = ss.map Sum.inr := by rw [List.zipIdx_map_fst]
  rw [← this, List.map_map]; rfl
theorem plc_merge {ss : List Str} (h : ss.Nodup) : mergeD [] (ss.zipIdx.map fun p => ((.inr p.1 : Key), D.int (p.2 : Nat))) = plc ss := mergeD_nil (by
  show ((plc ss).map Prod.fst).Nodup
  rw [plc_keys]; exact keys_nodup h)
/-! ### a method of the instance that an __init__ fills, its answer no object -/
section
variable {K : PySem.W.Frag} {E : XK} {G : Gm} {O : OL} {ke : Xd → Prop}
theorem DA.bindS {t : TA} {k : List D → Prop} (h : DA K E t G O k ke) {S0 : Addr → Prop} {Os : OLa} {σ : L2.St} {H : Hp} {Q : List V → Hp → Prop} (st : St1 K S0 G O Os σ H) (he : EOk K (SO S0 Os) H E ke)
    (hq : ∀ v H' d, k d → Same H H' → St1 K S0 G O Os σ H' → Reps K (SO S0 Os) H' v d → Q v H') : t σ H Q := h.bind st he fun v H' d kd s st' _ r => hq v H' d kd s st' r
theorem dt_methS (j : Nat) {x : Addr} {i : Nat} {w : Wt} {c m : Str} {fs : List (Str × D)} {t : TA} {k : D → Prop} (ho : O[j]? = some (i, .slf x c fs)) (l : fs.lookup m = none) (h : DA K E t G O (fun ds => w (.obj c fs :: ds) (fun d => d.flat = true ∧ k d) F0) ke) :
    DT K E (tMeth (He.ga K c) m (spD K w) [] E0 (tVar i) t) G O k ke := fun S0 Os σ H Q st hq he => by
  obtain ⟨p0, hp, e, hpj⟩ := own_at st.os ho
  obtain ⟨hs, oa⟩ := st.own p0 hp
  obtain ⟨p, p2⟩ := p0
  have e' : p2 = (i, .slf x c fs) := e
  subst e'
  obtain ⟨ea, dx, gs, hh, ek, r⟩ := oa
  refine ⟨_, hs, p, dx, gs, rfl, hh, ?_, h.bindS st he fun xs H2 ds hw s2 st2 ry => ?_⟩
  · rcases lookup_rep (f := m) ek r with ⟨_, z⟩ | ⟨v, d, z, _⟩
    · exact z
    · rw [l] at z; cases z
  · rw [List.append_nil]
    let T : Addr → Prop := fun b => SO S0 Os b ∧ b ≠ p
    have wk : ∀ a, T a → SO S0 Os a := fun a z => z.1
    refine ⟨T, _, _, F0, fun a z => st2.domW a z.1, .cons (.obj (fun z => z.2 rfl) (s2 _ _ hh) ek (Reps.weak wk (Reps.same r s2))) (Reps.weak wk ry), hw, fun v H' d ⟨fl, kd⟩ s rv => ?_, eok_e0⟩
    refine hq v H' d kd (s2.trans s) ?_
    rw [(D.flat_v rv fl).1]
    exact D.rep fl
end
/-! ### games -/
theorem rks_keys (rs : List (Str × List Str)) : (rks rs).map Prod.fst = (rs.map Prod.fst).map (Sum.inr : Str → Key) := by
  unfold rks; rw [List.map_map, List.map_map]; rfl
/-- a player's ranking -/
def lk (rs : List (Str × List Str)) (p : Str) : List Str := (rs.lookup p).getD []
theorem getD_rks {rs : List (Str × List Str)} {p : Str} (h : p ∈ rs.map Prod.fst) : getD (rks rs) (.inr p) = some (rk (lk rs p)) := by
  induction rs with
  | nil => cases h
  | cons q r ih =>
    unfold lk
    rw [List.lookup_cons]
    by_cases e : q.1 = p
    · subst e
      unfold getD rks
      rw [List.map_cons, List.find?_cons_of_pos (by simp), beq_self_eq_true]; rfl
    · have hb : (p == q.1) = false := by
        rw [beq_eq_false_iff_ne]; exact fun z => e z.symm
      rw [hb]
      have hr : p ∈ r.map Prod.fst := by
        rcases List.mem_cons.mp (show p ∈ q.1 :: r.map Prod.fst from h) with z | z
        · exact absurd z.symm e
        · exact z
      have := ih hr
      unfold getD rks at this ⊢
      rw [List.map_cons, List.find?_cons_of_neg (by simpa using e)]
      exact this
theorem getD_rks_is {rs : List (Str × List Str)} {p : Str} : (getD (rks rs) (.inr p)).isSome = decide (p ∈ rs.map Prod.fst) := by
  rw [Bool.eq_iff_iff, getD_is, rks_keys, key_mem, decide_eq_true_eq]
end Fw

set_option maxHeartbeats 4000000
/-! The plain law: what whole groups can hold. -/
namespace Fw
open PySem PySem.Spec PyProof.Rows L2
def mx (i j : Int) : Int := if j > i then j else i
def ownN (ts g : List Str) : Int := ((ts.filter fun t => decide (t ∈ g)).length : Nat)
def nl (ts g : List Str) (m n : Nat) : Int := mx 0 ((m : Int) - ownN ts g - mx 0 ((ts.length : Int) - ownN ts g - ((n : Int) - (m : Int))))
/-- by what is in and what is out -/
def fv (ts g : List Str) (a b : Int) : Int := mx 0 (a - ownN ts g - mx 0 ((ts.length : Int) - ownN ts g - b))
theorem nl_fv {ts g : List Str} {m n : Nat} : nl ts g m n = fv ts g m ((n : Int) - (m : Int)) := rfl
theorem ownN_cons (t : Str) (r g : List Str) : ownN (t :: r) g = ownN r g + (if t ∈ g then 1 else 0) := by
  unfold ownN
  by_cases h : t ∈ g
  · rw [List.filter_cons_of_pos (by simpa using h), if_pos h, List.length_cons]; omega
  · rw [List.filter_cons_of_neg (by simpa using h), if_neg h]; omega
theorem ownN_le (r g : List Str) : 0 ≤ ownN r g ∧ ownN r g ≤ r.length := by
  unfold ownN
  have := List.length_filter_le (fun t => decide (t ∈ g)) r
  omega
theorem fv_nil {g : List Str} {a b : Int} (ha : 0 ≤ a) (hb : 0 ≤ b) : fv [] g a b = a := by
  have e : ownN [] g = 0 := rfl
  unfold fv mx
  rw [e, List.length_nil]
  split <;> split <;> omega
theorem fv_le {t : Str} {r g : List Str} {a b : Int} : fv r g (a - 1) b ≤ fv r g a (b - 1) := by
  have := ownN_le r g
  unfold fv mx
  split <;> split <;> split <;> split <;> omega
theorem fv_in {t : Str} {r g : List Str} {a b : Int} (ha : 0 < a) (hb : 0 ≤ b) (hl : ((t :: r).length : Int) ≤ a + b) (h : t ∈ g ∨ b = 0) : fv (t :: r) g a b = fv r g (a - 1) b := by
  have := ownN_le r g
  unfold fv mx
  rw [ownN_cons]
  rw [List.length_cons] at hl ⊢
  by_cases q : t ∈ g
  · rw [if_pos q]
    split <;> split <;> split <;> split <;> omega
  · rw [if_neg q]
    have := h.resolve_left q
    split <;> split <;> split <;> split <;> omega
theorem fv_out {t : Str} {r g : List Str} {a b : Int} (ha : 0 ≤ a) (hb : 0 < b) (hl : ((t :: r).length : Int) ≤ a + b) (h : t ∉ g ∨ a = 0) : fv (t :: r) g a b = fv r g a (b - 1) := by
  have := ownN_le r g
  unfold fv mx
  rw [ownN_cons]
  rw [List.length_cons] at hl ⊢
  by_cases q : t ∈ g
  · rw [if_pos q]
    have := h.resolve_left (fun z => z q)
    split <;> split <;> split <;> split <;> omega
  · rw [if_neg q]
    split <;> split <;> split <;> split <;> omega
end Fw

set_option maxHeartbeats 4000000
/-! Instances called; texts added; counts; max and min of lists of ints. -/
namespace Fw
open PySem PySem.Spec PyProof.Rows L2
section
variable {K : PySem.W.Frag} {E : XK} {G : Gm} {O : OL} {ke : Xd → Prop}
/-! ### f(e), f an instance of one of two classes -/
def tCall2 (C1 C2 : Addr) (sp1 sp2 : Sp) (E : XK) (tf : TE) (t : TA) : TE := fun σ H Q => tf σ H fun y H1 => ∃ a, y = V.ref a ∧ t σ H1 fun vs H2 =>
  (∃ dx fs, H2 a = some (.ins C1 dx fs) ∧ sp1 (V.ref a :: vs) H2 Q E) ∨ (∃ dx fs, H2 a = some (.ins C2 dx fs) ∧ sp2 (V.ref a :: vs) H2 Q E)
theorem dt_call2 {c1 c2 : Str} {w1 w2 : Wt} {tf : TE} {t : TA} {k : D → Prop} (h : DT K E tf G O (fun a => (∃ fs, a = .obj c1 fs ∧ DA K E t G O (fun ds => w1 (a :: ds) k F0) ke) ∨ (∃ fs, a = .obj c2 fs ∧ DA K E t G O (fun ds => w2 (a :: ds) k F0) ke)) ke) :
    DT K E (tCall2 (He.ga K c1) (He.ga K c2) (spD K w1) (spD K w2) E0 tf t) G O k ke := fun S0 Os σ H Q st hq he =>
  h.bind st he fun x H1 a ha s1 st1 he1 rx => by
    rcases ha with ⟨fs, e, ha⟩ | ⟨fs, e, ha⟩
    · subst e
      have r0 := rx
      cases rx with
      | obj n hh ef r => exact ⟨_, rfl, ha.bind st1 he1 fun ys H2 ds hb s2 st2 he2 ry => .inl ⟨_, _, s2 _ _ hh, SO S0 Os, _, k, F0, st2.domW, .cons (r0.same s2) ry, hb, fun v H' d kd s r => hq v H' d kd ((s1.trans s2).trans s) r, eok_e0⟩⟩
    · subst e
      have r0 := rx
      cases rx with
      | obj n hh ef r => exact ⟨_, rfl, ha.bind st1 he1 fun ys H2 ds hb s2 st2 he2 ry => .inr ⟨_, _, s2 _ _ hh, SO S0 Os, _, k, F0, st2.domW, .cons (r0.same s2) ry, hb, fun v H' d kd s r => hq v H' d kd ((s1.trans s2).trans s) r, eok_e0⟩⟩
end
section
variable {X : Cx} {j k1 k2 : Nat} {C1 C2 g1 g2 : Addr} {ps1 ps2 : List Str} {sp1 sp2 : Sp} {fe e : Expr} {es : List Expr} {pos : Pos} {tf : TE} {t : TA}
theorem q_call2 (hf : PE X fe tf) (c1 : StX.CallO X.K C1 g1) (c2 : StX.CallO X.K C2 g2) (F1 : Ok X.prog X.w X.K X.mg X.base k1 g1 ps1 sp1) (F2 : Ok X.prog X.w X.K X.mg X.base k2 g2 ps2 sp2) (hr : Room j X.A) (ha : PA X (e :: es) t) (hj : k1 ≤ j := by first | decide | omega) (hj2 : k2 ≤ j := by first | decide | omega)
    (ht : eval (.Call fe (e :: es) [] pos) X.env = (do callWith pos (← eval fe X.env) [] (backTo pos (starEach (e :: es) X.env)) (backToKw pos (keywordEach [] X.env))) := by rfl)
    (he : starEach (e :: es) X.env = (false, eval e X.env) :: starEach es X.env := by rfl) (hpl : (backTo pos (starEach es X.env)).any (·.1) = false := by rfl) : PE X (.Call fe (e :: es) [] pos) (tCall2 C1 C2 sp1 sp2 E0 tf t) := by
  refine ⟨fun pins s σ H Q I h => ?_⟩
  refine Call_ (thn (hf.run pins s σ H _ I h) fun u s1 ⟨y, H1, I1, ry, a, ey, q⟩ => ?_) ht
  subst ey
  obtain rfl : u = Value.ref a := ry
  refine StX.callO_with (thn (ha.run pos pins s1 σ H1 _ I1 q) fun us s2 ⟨vs, H2, I2, r, hi⟩ => ?_) he hpl
  obtain ⟨fd1, G1, B1⟩ := F1.ex
  obtain ⟨fd2, G2, B2⟩ := F2.ex
  rcases hi with ⟨dx, fs, hi, q2⟩ | ⟨dx, fs, hi, q2⟩
  · obtain ⟨ox, od, J, hd⟩ := StX.insC_at I2 (.inr ⟨_, _, hi⟩)
    refine ⟨⟨C1, ox, od, J, hd⟩, StX.run_callO c1 (G1.raw B1 .nil) (hr.mono hj) passL I2 (.inr ⟨_, _, hi⟩) r ?_⟩
    rw [List.append_nil]; exact q2
  · obtain ⟨ox, od, J, hd⟩ := StX.insC_at I2 (.inr ⟨_, _, hi⟩)
    refine ⟨⟨C2, ox, od, J, hd⟩, StX.run_callO c2 (G2.raw B2 .nil) (hr.mono hj2) passL I2 (.inr ⟨_, _, hi⟩) r ?_⟩
    rw [List.append_nil]; exact q2
end
section
variable {X : Cx} {j k1 k2 : Nat} {C1 C2 g1 g2 : Addr} {ps1 ps2 : List Str} {sp1 sp2 : Sp} {x : Str} {e : Expr} {es : List Expr} {pos p : Pos} {tf : TE} {t : TA}
theorem q_call2N (hf : PE X (.Name x p) tf) (c1 : StX.CallO X.K C1 g1) (c2 : StX.CallO X.K C2 g2) (F1 : Ok X.prog X.w X.K X.mg X.base k1 g1 ps1 sp1) (F2 : Ok X.prog X.w X.K X.mg X.base k2 g2 ps2 sp2) (hr : Room j X.A) (ha : PA X (e :: es) t) (hj : k1 ≤ j := by first | decide | omega) (hj2 : k2 ≤ j := by first | decide | omega)
    (he : starEach (e :: es) X.env = (false, eval e X.env) :: starEach es X.env := by rfl) (hpl : (backTo pos (starEach es X.env)).any (·.1) = false := by rfl) : PE X (.Call (.Name x p) (e :: es) [] pos) (tCall2 C1 C2 sp1 sp2 E0 tf t) := by
  refine ⟨fun pins s σ H Q I h => ?_⟩
  refine wpAny_Call_Name_kw (thn (hf.run pins s σ H _ I h) fun u s1 ⟨y, H1, I1, ry, a, ey, q⟩ => ?_)
  subst ey
  obtain rfl : u = Value.ref a := ry
  refine StX.callO_with (thn (ha.run pos pins s1 σ H1 _ I1 q) fun us s2 ⟨vs, H2, I2, r, hi⟩ => ?_) he hpl
  obtain ⟨fd1, G1, B1⟩ := F1.ex
  obtain ⟨fd2, G2, B2⟩ := F2.ex
  rcases hi with ⟨dx, fs, hi, q2⟩ | ⟨dx, fs, hi, q2⟩
  · obtain ⟨ox, od, J, hd⟩ := StX.insC_at I2 (.inr ⟨_, _, hi⟩)
    refine ⟨⟨C1, ox, od, J, hd⟩, StX.run_callO c1 (G1.raw B1 .nil) (hr.mono hj) passL I2 (.inr ⟨_, _, hi⟩) r ?_⟩
    rw [List.append_nil]; exact q2
  · obtain ⟨ox, od, J, hd⟩ := StX.insC_at I2 (.inr ⟨_, _, hi⟩)
    refine ⟨⟨C2, ox, od, J, hd⟩, StX.run_callO c2 (G2.raw B2 .nil) (hr.mono hj2) passL I2 (.inr ⟨_, _, hi⟩) r ?_⟩
    rw [List.append_nil]; exact q2
end
section
variable {K : PySem.W.Frag} {E : XK} {G : Gm} {O : OL} {ke : Xd → Prop}
theorem opd_add_str : OpD K (fun x y H Q => ∃ i j, x = .str i ∧ y = .str j ∧ i.length + j.length ≤ sizeLine ∧ Q (.str (i ++ j)) H) (fun a b k => ∃ i j : Str, a = .str i ∧ b = .str j ∧ i.length + j.length ≤ sizeLine ∧ k (.str (i ++ j))) := by
  intro S H x y a b Q k dm rx ry ⟨i, j, e1, e2, hl, q⟩ hq
  subst e1 e2; cases rx; cases ry
  exact ⟨i, j, rfl, rfl, hl, hq _ H _ q (Same.refl H) (.str _)⟩
theorem cad_max : CaD K (rMax K) (fun ds k => ∃ ns : List Int, ds = [.lst (ns.map D.int)] ∧ 0 < ns.length ∧ ∀ m, m ∈ ns → (∀ y, y ∈ ns → y ≤ m) → k (.int m)) := by
  intro S H xs ds Q k dm rx ⟨ns, e, hl, q⟩ hq
  subst e
  cases rx with
  | cons h t =>
    cases t
    cases h with
    | lst n hh r =>
      have e := r.ints
      subst e
      exact ⟨_, ns, rfl, SqL.of hh, hl, fun m h1 h2 => hq _ H _ (q m h1 h2) (Same.refl H) (.int _)⟩
theorem cad_min : CaD K (rMin K) (fun ds k => ∃ ns : List Int, ds = [.lst (ns.map D.int)] ∧ 0 < ns.length ∧ ∀ m, m ∈ ns → (∀ y, y ∈ ns → m ≤ y) → k (.int m)) := by
  intro S H xs ds Q k dm rx ⟨ns, e, hl, q⟩ hq
  subst e
  cases rx with
  | cons h t =>
    cases t
    cases h with
    | lst n hh r =>
      have e := r.ints
      subst e
      exact ⟨_, ns, rfl, SqL.of hh, hl, fun m h1 h2 => hq _ H _ (q m h1 h2) (Same.refl H) (.int _)⟩
end
theorem DS.f0 {t : TS} {G : Gm} {O : OL} {kn : Gm → OL → Prop} {kr : D → Prop} {ke : Xd → Prop} {K : PySem.W.Frag} {E : XK} (h : DS K E t G O kn kr F0) : DS K E t G O kn kr ke := fun S0 H0 Os σ H Ds f st hn hr _ => h S0 H0 Os σ H Ds f st hn hr eok_e0
def rLenDR : List V → Hp → VK → Prop := fun xs H Q => ∃ (a : Addr) (kvs : List (Key × V)), xs = [V.ref a] ∧ Rd H a (.dK kvs) ∧ Q (.int kvs.length) H
theorem call_lenDR {X : Cx} : CallR X (.builtin "len") rLenDR := by
  intro pins s σ H xs us Q I r h
  obtain ⟨a, kvs, rfl, ha, q⟩ := h
  obtain ⟨u, rfl, ru⟩ := vals1 r
  cases ru
  exact d_len I ha fun t s' I' => ⟨.int kvs.length, H, I', ⟨t, rfl⟩, q⟩
theorem cad_lenDR {K : PySem.W.Frag} : CaD K rLenDR (fun ds k => ∃ kvs : List (Key × D), ds = [.dic kvs] ∧ k (.int (kvs.length : Nat))) := by
  intro S H xs ds Q k dm rx ⟨kvs, e, q⟩ hq
  subst e
  cases rx with
  | cons h t =>
    cases t
    cases h with
    | dic n hh ek r =>
      refine ⟨_, _, rfl, hh, ?_⟩
      rw [len_pair ek]
      exact hq _ H _ q (Same.refl H) (.int _)
theorem z_max {X : Cx} (K : PySem.W.Frag) (hc : X.calm = true) (hK : X.K = K := by rfl) : CallR X (.builtin "max") (rMax K) := by subst hK; exact cr_max hc
theorem z_min {X : Cx} (K : PySem.W.Frag) (hc : X.calm = true) (hK : X.K = K := by rfl) : CallR X (.builtin "min") (rMin K) := by subst hK; exact cr_min hc
/-- x in, x not in the owned list -/
theorem dt_inO (j : Nat) {neg : Bool} {i : Nat} {ds : List D} {K : PySem.W.Frag} {E : XK} {G : Gm} {O : OL} {ke : Xd → Prop} {ta : TE} {k : D → Prop} (ho : O[j]? = some (i, .lst ds)) (h : DT K E ta G O (fun a => a.flat = true ∧ ds.all D.flat = true ∧ k (.bl (if neg then !inD a ds else inD a ds))) ke) : DT K E (tOp (rIn K neg) ta (tVar i)) G O k ke := fun S0 Os σ H Q st hq he =>
  h.bind st he fun x H1 a ⟨fa, fx, q⟩ s1 st1 he1 rx => by
    obtain ⟨p, vs, hpj, hs, hh, r⟩ := lst_at st1 ho
    obtain ⟨e1, f1⟩ := D.flat_v rx fa
    subst e1
    obtain ⟨e2, f2⟩ := Reps.flat r fx
    refine ⟨_, hs, _, _, rfl, .inl (SqL.of hh), f1, f2, ?_⟩
    rw [e2]
    exact hq _ H1 _ q s1 (.bl _)
theorem ds_unlAsg {t : TE} {i : Nat} {G : Gm} {O : OL} {kn : Gm → OL → Prop} {kr : D → Prop} {ke : Xd → Prop} {K : PySem.W.Frag} {E : XK} (h : DS K E (tAsg (tUnlE t) (gName i)) G O kn kr ke) : DS K E (tUnlS (tAsg t (gName i))) G O kn kr ke := h
/-! ### list.count of texts -/
def eqs (k : Str) (v : Value) : Bool := match v with
  | .str n _ => n.cps.toList == k.cps.toList
  | _ => false
theorem eqs_gives {k : Str} {t : Tok} : ∀ {us : List Value} {ns : List Str}, Vals (ns.map V.str) us → ∀ y ∈ us, MeetsSeq.EqGives y (.str k t) (eqs k y)
  | _, [], .nil => fun y hy => by cases hy
  | _, n :: ns, .cons r h => fun y hy => by
    obtain ⟨t', rfl⟩ := r
    rcases List.mem_cons.mp hy with e | e
    · rw [e]
      exact SeqRoads2.EqGives.str n k t' t
    · exact eqs_gives h y e
theorem eqs_count {k : Str} : ∀ {us : List Value} {ns : List Str}, Vals (ns.map V.str) us → us.countP (eqs k) = ns.count k
  | _, [], .nil => rfl
  | _, n :: ns, .cons r h => by
    obtain ⟨t', rfl⟩ := r
    have ih := eqs_count (k := k) h
    rw [List.countP_cons, List.count_cons, ih]
    have e : eqs k (.str n t') = (n == k) := by
      show (n.cps.toList == k.cps.toList) = (n == k)
      rw [Bool.eq_iff_iff, beq_iff_eq, beq_iff_eq]
      refine ⟨fun h => ?_, fun h => by rw [h]⟩
      cases n; cases k
      congr 1
      exact Array.toList_inj.mp h
    rw [e]
section
variable {X : Cx} {K : PySem.W.Frag}
def rCntS (K : PySem.W.Frag) : V → List V → Hp → VK → Prop := fun x xs H Q => ∃ (p : Addr) (ns : List Str) (k : Str), x = .ref p ∧ xs = [.str k] ∧ SqL K H p (ns.map V.str) ∧ Q (.int (ns.count k : Nat)) H
theorem mt_countS : MtR X "list.count" (rCntS X.K) := by
  intro pins s σ H x xs v us Q I rx rxs h
  obtain ⟨p, ns, k, rfl, rfl, hs, q⟩ := h
  cases rx
  obtain ⟨u, rfl, ru⟩ := rxs.one
  obtain ⟨t, rfl⟩ := ru
  obtain ⟨its, rv, ⟨⟨cls, dd, data, sl⟩, n, ho, hc, hdn, hd⟩, hlen⟩ := I.list hs
  simp only at hc hd
  subst hc hd
  refine call_meets PySem.F.slot_list_count ⟨_, ho, rfl⟩ PySem.F.entry_list_count (PySem.F.args_list_count_2 _ _)
    (SeqAt.list_countAt p its.toArray n dd sl (.str k t) (eqs k)) ⟨ho, fun y hy => (eqs_gives rv y (by simpa using hy)).at _ _, ?_⟩
  have ec : its.toArray.toList.countP (eqs k) = ns.count k := eqs_count rv
  refine ⟨.int (ns.count k : Nat), H, I.tok _, ⟨s.toks, ?_⟩, q⟩
  show Value.int ((its.toArray.toList.countP (eqs k) : Nat) : Int) s.toks = Value.int ((ns.count k : Nat) : Int) s.toks
  rw [ec]
theorem z_bm {T id : String} {r : V → List V → Hp → VK → Prop} {o e : Expr} {es : List Expr} {name : Str} {apos cpos : Pos} {to : TE} {t : TA} (K : PySem.W.Frag) (pa : PlainAttrs T) (slot : Slot T name id) (hty : typeOf (.builtin id) = pure (.type "method_descriptor")) (hm : MtR X id r) (ho : PE X o to) (ha : PA X (e :: es) t) (hK : X.K = K := by rfl)
    (hbase : attributeBase o name X.env (eval o X.env) = eval o X.env := by rfl)
    (hfew : ((backTo cpos (starEach (e :: es) X.env)).all (fun x => !x.1) && (backToKw cpos (keywordEach [] X.env)).all (fun x => x.1.isSome)
      && decide ((e :: es).length + ([] : List Keyword).length + (if ([] : List Keyword).isEmpty then 0 else 1) < 30)) = true := by rfl)
    (hline : (apos.endLine == cpos.line) = true := by rfl) (hs : starEach (e :: es) X.env = (false, eval e X.env) :: starEach es X.env := by rfl) (hplain : (backTo cpos (starEach es X.env)).any (·.1) = false := by rfl) :
    PE X (.Call (.Attribute o name apos) (e :: es) [] cpos) (tBM K T r to t) := by subst hK; exact pe_bm pa slot hty hm ho ha hbase hfew hline hs hplain
theorem z_countS (K : PySem.W.Frag) (hK : X.K = K := by rfl) : MtR X "list.count" (rCntS K) := by subst hK; exact mt_countS
end
section
variable {K : PySem.W.Frag} {E : XK} {G : Gm} {O : OL} {ke : Xd → Prop}
theorem dt_countS {to te : TE} {k : D → Prop} (h : DT K E to G O (fun a => ∃ ns : List Str, a = .lst (ns.map D.str) ∧ DT K E te G O (fun d => ∃ s : Str, d = .str s ∧ k (.int (ns.count s : Nat))) ke) ke) : DT K E (tBM K "list" (rCntS K) to (tCons te tNil)) G O k ke := fun S0 Os σ H Q st hq he =>
  h.bind st he fun x H1 a ⟨ns, e, ha⟩ s1 st1 he1 rx => by
    subst e
    cases rx with
    | lst n hh r =>
      have er := r.strs
      subst er
      refine ⟨ty_list hh, ha.bind st1 he1 fun y H2 d ⟨z, e2, kd⟩ s2 st2 he2 ry => ?_⟩
      subst e2; cases ry
      exact ⟨_, ns, z, rfl, rfl, SqL.of (s2 _ _ hh), hq _ H2 _ kd (s1.trans s2) (.int _)⟩
end
end Fw

set_option maxHeartbeats 4000000
/-! The places of the program's text and the facts asked of its top. -/
namespace Fw
open PySem PySem.Spec PyProof.Rows L2
abbrev TX (K : PySem.W.Frag) (mg : Str → Option Value) : Prop := Tx fcs dfs K mg
section
variable {K : PySem.W.Frag} {mg : Str → Option Value} {E : XK} {G : Gm} {O : OL} {ke : Xd → Prop}
theorem fld_Committee_own_members (T : TX K mg) {ta : TE} {k : D → Prop} (h : DT K E ta G O (fun a => ∃ fs d, a = .obj "Committee" fs ∧ fs.lookup ("own_members" : Str) = some d ∧ k d) ke) : DT K E (tFld K ta "own_members") G O k ke := dt_fld (T.cls 9) (T.noat 10) h
theorem fld_Ranking_order (T : TX K mg) {ta : TE} {k : D → Prop} (h : DT K E ta G O (fun a => ∃ fs d, a = .obj "Ranking" fs ∧ fs.lookup ("order" : Str) = some d ∧ k d) ke) : DT K E (tFld K ta "order") G O k ke := dt_fld (T.cls 15) (T.noat 16) h
theorem fld_Ranking_places (T : TX K mg) {ta : TE} {k : D → Prop} (h : DT K E ta G O (fun a => ∃ fs d, a = .obj "Ranking" fs ∧ fs.lookup ("places" : Str) = some d ∧ k d) ke) : DT K E (tFld K ta "places") G O k ke := dt_fld (T.cls 15) (T.noat 18) h
theorem fld_Turns_order (T : TX K mg) {ta : TE} {k : D → Prop} (h : DT K E ta G O (fun a => ∃ fs d, a = .obj "Turns" fs ∧ fs.lookup ("order" : Str) = some d ∧ k d) ke) : DT K E (tFld K ta "order") G O k ke := dt_fld (T.cls 23) (T.noat 24) h
theorem fld_Game_own_rankings (T : TX K mg) {ta : TE} {k : D → Prop} (h : DT K E ta G O (fun a => ∃ fs d, a = .obj "Game" fs ∧ fs.lookup ("own_rankings" : Str) = some d ∧ k d) ke) : DT K E (tFld K ta "own_rankings") G O k ke := dt_fld (T.cls 25) (T.noat 26) h
theorem fld_Game_own_turns (T : TX K mg) {ta : TE} {k : D → Prop} (h : DT K E ta G O (fun a => ∃ fs d, a = .obj "Game" fs ∧ fs.lookup ("own_turns" : Str) = some d ∧ k d) ke) : DT K E (tFld K ta "own_turns") G O k ke := dt_fld (T.cls 25) (T.noat 28) h
theorem fld_Striker_own_target (T : TX K mg) {ta : TE} {k : D → Prop} (h : DT K E ta G O (fun a => ∃ fs d, a = .obj "Striker" fs ∧ fs.lookup ("own_target" : Str) = some d ∧ k d) ke) : DT K E (tFld K ta "own_target") G O k ke := dt_fld (T.cls 65) (T.noat 66) h
theorem fld_Keeper_own_target (T : TX K mg) {ta : TE} {k : D → Prop} (h : DT K E ta G O (fun a => ∃ fs d, a = .obj "Keeper" fs ∧ fs.lookup ("own_target" : Str) = some d ∧ k d) ke) : DT K E (tFld K ta "own_target") G O k ke := dt_fld (T.cls 67) (T.noat 68) h
theorem kit_str_str (T : TX K mg) : PySem.W.kitOne K (Tv.v K (.ty "str")) (Tv.v K (.ty "str")) = some true := T.kit 98 (t := .ty "str") (u := .ty "str") (b := true)
theorem kit_int_int (T : TX K mg) : PySem.W.kitOne K (Tv.v K (.ty "int")) (Tv.v K (.ty "int")) = some true := T.kit 99 (t := .ty "int") (u := .ty "int") (b := true)
theorem kit_list_list (T : TX K mg) : PySem.W.kitOne K (Tv.v K (.ty "list")) (Tv.v K (.ty "list")) = some true := T.kit 100 (t := .ty "list") (u := .ty "list") (b := true)
theorem kit_dict_dict (T : TX K mg) : PySem.W.kitOne K (Tv.v K (.ty "dict")) (Tv.v K (.ty "dict")) = some true := T.kit 101 (t := .ty "dict") (u := .ty "dict") (b := true)
theorem kit_Committee_Committee (T : TX K mg) : PySem.W.kitOne K (Tv.v K (.own "Committee")) (Tv.v K (.own "Committee")) = some true := T.kit 102 (t := .own "Committee") (u := .own "Committee") (b := true)
theorem kit_Ranking_Ranking (T : TX K mg) : PySem.W.kitOne K (Tv.v K (.own "Ranking")) (Tv.v K (.own "Ranking")) = some true := T.kit 103 (t := .own "Ranking") (u := .own "Ranking") (b := true)
theorem kit_Turns_Turns (T : TX K mg) : PySem.W.kitOne K (Tv.v K (.own "Turns")) (Tv.v K (.own "Turns")) = some true := T.kit 104 (t := .own "Turns") (u := .own "Turns") (b := true)
theorem kit_Game_Game (T : TX K mg) : PySem.W.kitOne K (Tv.v K (.own "Game")) (Tv.v K (.own "Game")) = some true := T.kit 105 (t := .own "Game") (u := .own "Game") (b := true)
theorem kit_int_bool (T : TX K mg) : PySem.W.kitOne K (Tv.v K (.ty "int")) (Tv.v K (.ty "bool")) = some false := T.kit 106 (t := .ty "int") (u := .ty "bool") (b := false)
theorem kit_bool_int (T : TX K mg) : PySem.W.kitOne K (Tv.v K (.ty "bool")) (Tv.v K (.ty "int")) = some true := T.kit 107 (t := .ty "bool") (u := .ty "int") (b := true)
theorem kit_bool_bool (T : TX K mg) : PySem.W.kitOne K (Tv.v K (.ty "bool")) (Tv.v K (.ty "bool")) = some true := T.kit 108 (t := .ty "bool") (u := .ty "bool") (b := true)
theorem ins_Committee (T : TX K mg) : InsK K "Committee" := T.ins 109
theorem ins_Game (T : TX K mg) : InsK K "Game" := T.ins 110
theorem ins_Ranking (T : TX K mg) : InsK K "Ranking" := T.ins 111
theorem ins_Turns (T : TX K mg) : InsK K "Turns" := T.ins 112
end
end Fw

set_option maxHeartbeats 4000000
/-! The program's defs: names, committees, rankings. -/
namespace Fw
open PySem PySem.Spec PyProof.Rows L2
local macro_rules | `(tactic| walk_at "fno") => `(tactic| first | (intro o ho; exact absurd ho (List.not_mem_nil)) | (simp; done) | (intro o ho; simp at ho; (try rcases ho with ho | ho) <;> subst ho <;> decide))
local macro_rules | `(tactic| walk_at "fop") => `(tactic| with_reducible first
  | refine dt_op opd_add ?_ | refine dt_op opd_sub ?_ | refine dt_op opd_mul ?_ | refine dt_op opd_fdivN ?_ | refine dt_op opd_mod ?_ | refine dt_op opd_pow ?_
  | refine dt_op opd_lt ?_ | refine dt_op opd_le ?_ | refine dt_op opd_gt ?_ | refine dt_op opd_ge ?_
  | refine dt_op opd_eq ?_ | refine dt_op opd_ne ?_ | refine dt_op opd_in ?_ | refine dt_op opd_in_sign ?_ | refine dt_op opd_add_str ?_ | refine dt_op opd_isN ?_ | refine dt_op opd_notN ?_
  | refine dt_op opd_ixL ?_ | refine dt_op opd_ixT ?_ | refine dt_op opf_cat.op ?_ | refine dt_op opf_rep.op ?_
  | refine dt_op opd_eqD ?_ | refine dt_op opd_neD ?_ | refine dt_op opd_eqDn ?_ | refine dt_op opd_inI ?_ | refine dt_op opd_eqI ?_ | refine dt_op opd_binI ?_ | refine dt_op opd_getI ?_)
local macro_rules | `(tactic| walk_at "fcb") => `(tactic| with_reducible first
  | refine dt_cb cad_lenA ?_ | refine dt_cb cad_lenI ?_ | refine dt_cb cad_isi ?_ | refine dt_cb cad_lenDR ?_ | refine dt_cb cad_max ?_ | refine dt_cb cad_min ?_ | refine dt_cb cad_all ?_ | refine dt_cb cad_any ?_ | refine dt_cb cad_sum ?_ | refine dt_cb cad_max2 ?_ | refine dt_cb cad_min2 ?_ | refine dt_cb cad_int1 ?_
  | refine dt_cb caf_list.ca ?_ | refine dt_cb caf_listD.ca ?_ | refine dt_cb caf_dictD.ca ?_ | refine dt_cb caf_dictP.ca ?_ | refine dt_cb caf_sortedS.ca ?_ | refine dt_cb caf_sortedD.ca ?_)
local macro_rules | `(tactic| walk_at "fex") => `(tactic| first
  | (refine ⟨(rfl : D.non = D.non), ?_⟩) | (refine ⟨_, .lst _, ?_⟩) | (refine ⟨_, .scr _, ?_⟩) | (refine ⟨_, _, _, rfl, rfl, rfl, ?_⟩) | (refine ⟨_, _, rfl, rfl, ?_⟩) | (refine ⟨_, rfl, ?_⟩) | (refine ⟨_, _, rfl, ?_⟩) | (refine ⟨_, _, _, rfl, ?_⟩) | (refine ⟨_, _, _, _, rfl, ?_⟩) | (refine ⟨_, _, _, _, _, rfl, ?_⟩) | (refine ⟨_, _, _, _, _, _, rfl, ?_⟩) | (refine ⟨_, .inl rfl, rfl, flat_strs _, ?_⟩) | (refine ⟨_, .inl rfl, ?_⟩) | (refine ⟨rfl, rfl, rfl, ?_⟩) | (refine ⟨(by simp only [List.length_cons, List.length_nil]; decide : List.length _ ≤ sizeLine), ?_⟩) | (refine ⟨fun _ => ?_, fun h => absurd h (by decide)⟩) | (refine ⟨fun h => absurd h (by decide), fun _ => ?_⟩))
local macro_rules | `(tactic| walk_at "fdi") => `(tactic| with_reducible first
  | refine di_list ?_ | refine di_range1 ?_ | refine di_range2 ?_ | refine di_range3 ?_ | refine di_str ?_ | refine di_items ?_ | refine di_values ?_ | refine di_keys ?_ | refine di_keysM ?_ | refine di_enum ?_)
local macro_rules | `(tactic| walk_at "ffld") => `(tactic| first
  | ((with_reducible refine fld_Committee_own_members ‹_› (dt_var (d := .obj "Committee" ?fs0) ?a1 ?a2)); (case a1 => rfl); refine ⟨_, _, rfl, rfl, ?_⟩)
  | ((with_reducible refine fld_Ranking_order ‹_› (dt_var (d := .obj "Ranking" ?fs0) ?a1 ?a2)); (case a1 => rfl); refine ⟨_, _, rfl, rfl, ?_⟩)
  | ((with_reducible refine fld_Ranking_places ‹_› (dt_var (d := .obj "Ranking" ?fs0) ?a1 ?a2)); (case a1 => rfl); refine ⟨_, _, rfl, rfl, ?_⟩)
  | ((with_reducible refine fld_Turns_order ‹_› (dt_var (d := .obj "Turns" ?fs0) ?a1 ?a2)); (case a1 => rfl); refine ⟨_, _, rfl, rfl, ?_⟩)
  | ((with_reducible refine fld_Game_own_rankings ‹_› (dt_var (d := .obj "Game" ?fs0) ?a1 ?a2)); (case a1 => rfl); refine ⟨_, _, rfl, rfl, ?_⟩)
  | ((with_reducible refine fld_Game_own_turns ‹_› (dt_var (d := .obj "Game" ?fs0) ?a1 ?a2)); (case a1 => rfl); refine ⟨_, _, rfl, rfl, ?_⟩)
  | ((with_reducible refine fld_Striker_own_target ‹_› (dt_var (d := .obj "Striker" ?fs0) ?a1 ?a2)); (case a1 => rfl); refine ⟨_, _, rfl, rfl, ?_⟩)
  | ((with_reducible refine fld_Keeper_own_target ‹_› (dt_var (d := .obj "Keeper" ?fs0) ?a1 ?a2)); (case a1 => rfl); refine ⟨_, _, rfl, rfl, ?_⟩))
local macro_rules | `(tactic| walk_at "fkit") => `(tactic| first
  | refine ⟨_, _, _, _, _, rfl, .str _, .ty _, kit_str_str ‹_›, ?_⟩
  | refine ⟨_, _, _, _, _, rfl, .int _, .ty _, kit_int_int ‹_›, ?_⟩
  | refine ⟨_, _, _, _, _, rfl, .lst _, .ty _, kit_list_list ‹_›, ?_⟩
  | refine ⟨_, _, _, _, _, rfl, .dic _, .ty _, kit_dict_dict ‹_›, ?_⟩
  | refine ⟨_, _, _, _, _, rfl, .obj _ _ (ins_Committee ‹_›), .glo _, kit_Committee_Committee ‹_›, ?_⟩
  | refine ⟨_, _, _, _, _, rfl, .obj _ _ (ins_Ranking ‹_›), .glo _, kit_Ranking_Ranking ‹_›, ?_⟩
  | refine ⟨_, _, _, _, _, rfl, .obj _ _ (ins_Turns ‹_›), .glo _, kit_Turns_Turns ‹_›, ?_⟩
  | refine ⟨_, _, _, _, _, rfl, .obj _ _ (ins_Game ‹_›), .glo _, kit_Game_Game ‹_›, ?_⟩
  | refine ⟨_, _, _, _, _, rfl, .int _, .ty _, kit_int_bool ‹_›, ?_⟩
  | refine ⟨_, _, _, _, _, rfl, .bl _, .ty _, kit_bool_int ‹_›, ?_⟩
  | refine ⟨_, _, _, _, _, rfl, .bl _, .ty _, kit_bool_bool ‹_›, ?_⟩)
local macro_rules | `(tactic| walk_at "fw1") => `(tactic| first
  | ((with_reducible refine dt_var (d := ?d0) ?a1 ?a2); (case a1 => rfl))
  | (with_reducible first
    | refine dt_int ?_ | refine dt_str ?_ | refine dt_bl ?_ | refine dt_non ?_ | refine dt_ty ?_ | refine dt_glo ?_
    | refine da_cons ?_ | refine da_nil ?_ | refine dtt_b ?_ | refine dtt_test ?_ | refine dtt_yes ?_ | refine dtt_not ?_ | refine dtt_and ?_ | refine dtt_or ?_ 
    | refine ds_unlAsg ?_ | refine ds_seq ?_ | refine ds_next ?_ | refine ds_ret ?_ | refine ds_retN ?_
    | refine dt_andV ?_ | refine dt_orV ?_ | refine dt_notV ?_ | refine dt_if ?_ | refine dt_chain opd_le opd_le ?_ | refine dt_chain opd_lt opd_lt ?_
    | refine dt_call0 ?_ | refine dt_prop ?_ | refine dt_make ?_ | refine dt_dget ?_ | refine dt_din ?_ | refine dt_dnotin ?_
    | refine (df_slL ?_).dt | refine do_none ?_ | refine do_some ?_ | refine (df_listVals ?_).dt | refine dt_stm ?_ | refine df_lst ?_ | refine df_cb caf_list ?_ | refine df_cb caf_listD ?_ | refine df_cb caf_dictD ?_ | refine df_cb caf_dictP ?_ | refine df_cb caf_sortedS ?_ | refine df_cb caf_sortedD ?_ | refine df_op opf_cat ?_ | refine df_listVals ?_ | refine df_make ?_ | refine df_slL ?_ | refine df_dnew ?_ | refine dt_lst ?_ | refine dt_tup ?_ | refine (df_dnew ?_).dt)
  | ((with_reducible refine dt_methS 0 (x := ?x0) (fs := ?f0) ?a1 ?a2 ?a3); (case a1 => rfl); (case a2 => rfl)) | (with_reducible refine dt_meth0 ?_)
  | (with_reducible refine dt_un und_neg ?_)
  | ((with_reducible refine dt_inO 0 (ds := ?d0) ?a1 ?a2); (case a1 => rfl)) | ((with_reducible refine dt_lenO 0 (ds := ?d0) ?a1 ?a2); (case a1 => rfl)) | ((with_reducible refine dt_lenO 1 (ds := ?d0) ?a1 ?a2); (case a1 => rfl))
  | ((with_reducible refine dm_popAt 0 (ds := ?d0) ?a1 ?a2); (case a1 => rfl)) | ((with_reducible refine dm_popAt 1 (ds := ?d0) ?a1 ?a2); (case a1 => rfl)) | (with_reducible refine DT.dm ?_) | walk_at "fop" | walk_at "fcb" | walk_at "fdi"
  | ((with_reducible refine ds_asgE ?a1 ?a2 ?a3); (case a1 => walk_at "fno"); (case a2 => simp [startG])) | ((with_reducible refine ds_asg ?a1 ?a2); (case a1 => walk_at "fno")) | ((with_reducible refine ds_asgT ?a1 ?a2 ?a3); (case a1 => walk_at "fno"); (case a2 => walk_at "fno")) | ((with_reducible refine ds_append 0 (ds := ?d0) ?a1 ?a2); (case a1 => rfl)) | ((with_reducible refine ds_append 1 (ds := ?d0) ?a1 ?a2); (case a1 => rfl)) | (with_reducible refine ds_expr ?_) | ((with_reducible refine ds_par ?a1 ?a2 ?a3); (case a1 => walk_at "fno"); (case a2 => walk_at "fno"))
  | ((with_reducible refine dg_tup ?a1 ?a2); (case a1 => rfl)) | (with_reducible refine dgs_cons ?_) | (with_reducible refine dgs_nil ?_) | (with_reducible refine lct ?_) | (with_reducible refine dct ?_)
  | ((with_reducible refine dg_name ?a1 ?a2); (case a1 => walk_at "fno"))
  | walk_at "ffld" | walk_at "fex" | walk_at "fkit")
local macro_rules | `(tactic| walk_at "fw") => `(tactic| repeat (first | walk_at "fw1" | (with_reducible refine ds_if ?_)))
local macro_rules | `(tactic| walk_at "fwn") => `(tactic| repeat walk_at "fw1")

section
variable {P : Program} {w : World} {K : PySem.W.Frag} {mg : Str → Option Value} {base : Heap}
theorem cxK {CX : CXT} {N : List Str} {q : Str} {sc : Scope} {f : Addr} {cd : Value} {A : Around} {o : List Env} {s : Shared} {H : Hp} {E : XK} : (cxOf CX P w K mg base N q sc f cd A o s H E).K = K := rfl
end
theorem get_strs {ss : List Str} {i : Nat} {x : D} (h : (ss.map D.str)[i]? = some x) : ∃ s ∈ ss, x = .str s := by
  rw [List.getElem?_map] at h
  cases e : ss[i]? with
  | none => rw [e] at h; cases h
  | some s => rw [e] at h; cases h; exact ⟨s, List.mem_of_getElem? e, rfl⟩
theorem szOf {n : Nat} (h : n ≤ 1000) : n < sizeLine := Nat.lt_of_le_of_lt (Nat.le_trans h (by decide)) sizeL
section
variable {P : Program} {w : World} {K : PySem.W.Frag} {mg : Str → Option Value} {base : Heap}
def wt_is_name : Wt := fun ds kk _ => ∃ s : Str, ds = [.str s] ∧ s.length ≤ 1000 ∧ kk (.bl (isName s))
theorem ok_is_name (T : TX K mg) : Ok P w K mg base 1 (He.ga K "is_name") ["candidate"] (spD K wt_is_name) := by
  obtain ⟨fd, F⟩ := T.def_ 0 (d := d_is_name)
  obtain ⟨tk_MAX_LETTERS, g_MAX_LETTERS⟩ := T.int 12 (x := "MAX_LETTERS")
  obtain ⟨tk_LETTERS, g_LETTERS⟩ := T.str 13 (x := "LETTERS")
  refine ⟨⟨fd, fnD F sc_is_name (fun _ _ _ h => by obtain ⟨s, rfl, hl, hk⟩ := h; rfl) (fun cdv A outer s H E hr => ⟨_, (pss_cons (ps_if (PW.pt (pw_or (pt_not (pt_val (pe_callB (z_isi K) (by rfl) (T.free 0) (by decide +kernel) (pa_cons (pv 0) (pa_cons (pe_bltn (v := .ty "str") rfl (T.free 1) (by decide +kernel) rfl) pa_nil))))) (pw_or1 (pt_not (pt_chain op_le op_le pe_int (pe_callB (z_len K) (by rfl) (T.free 2) boot_len (pa_cons (pv 0) pa_nil)) (pe_glob (v := .int 8) rfl g_MAX_LETTERS ⟨_, rfl⟩)))))) (pss_one (ps_ret pe_bl)) pss_nil) (pss_one (ps_ret (pe_callB (z_all K rfl) (by rfl) (T.free 3) (by decide +kernel) (pa_cons (pe_lc (own := [("letter", 1)]) rfl sc_is_name.nd (pi_str (pv 0)) (blkOk_by (own := [("letter", 1)]) (N := N_is_name) (sc := defScope s_is_name) (by decide +kernel)) (fun _ _ _ _ _ => (pg_name (i := 1) sc_is_name.nd rfl (by first | exact Or.inl rfl | exact Or.inr rfl))) (fun _ _ _ _ _ => pts_nil) (fun _ _ _ _ _ => (pe_cmpR op_in_sign (pv 1) (pe_glob (v := .str "abcdefghijklmnopqrstuvwxyz") rfl g_LETTERS ⟨_, rfl⟩) (by rfl)))) pa_nil))))), fun ds kk ke h => ?_⟩), FunD.bindsN F fun _ _ _ _ _ _ us hl => match us, hl with | [_], _ => rfl⟩, F.kp⟩
  obtain ⟨s, rfl, hl, hk⟩ := h
  try dsimp only [cxK]
  walk_at "fw"
  refine ⟨_, .str _ (Nat.le_of_lt (szOf hl)), ?_⟩
  walk_at "fw"
  have fin : ∀ b : Bool, isName s = b → kk (.bl b) := fun b e => e ▸ hk
  refine ⟨fun h1 => ?_, fun h1 => ?_⟩
  · walk_at "fw"
    refine ⟨fun h2 => ?_, fun h2 => ?_⟩
    · walk_at "fw"
      exact fin _ (by
        unfold isName
        have h2' := (Bool.not_eq_true' _).mp h2; rw [h1, h2']; rfl)
    · walk_at "fw"
      refine (df_lcM [1] (fun c : Nat => D.str ⟨#[c]⟩) (fun c => .bl (decide (c ∈ LET.cps.toList))) (fun a b e => by cases e; rfl) (by decide) (by walk_at "fno") ?_).dt
      walk_at "fw"
      refine ⟨by show s.cps.size < sizeLine; exact szOf hl, fun c hc => ?_, ?_⟩
      · walk_at "fw"
        rfl
      · walk_at "fw"
        refine ⟨s.cps.toList.map fun c => decide (c ∈ LET.cps.toList), by rw [List.map_map]; rfl, ?_⟩
        exact fin _ (by unfold isName; have h2' := (Bool.not_eq_false' _).mp h2; rw [h1, h2', all_id]; rfl)
  · walk_at "fw"
    exact fin _ (by unfold isName; rw [h1]; rfl)
def wt_are_names : Wt := fun ds kk _ => ∃ ss : List Str, ds = [sl ss] ∧ ss.length ≤ 1000 ∧ (∀ s ∈ ss, s.length ≤ 1000) ∧ kk (.bl (ss.all isName))
theorem ok_are_names (T : TX K mg) : Ok P w K mg base 2 (He.ga K "are_names") ["candidate"] (spD K wt_are_names) := by
  obtain ⟨fd, F⟩ := T.def_ 1 (d := d_are_names)
  have k_is_name := ok_is_name (P := P) (w := w) (base := base) T
  refine ⟨⟨fd, fnD F sc_are_names (fun _ _ _ h => by obtain ⟨ss, rfl, hl, hs, hk⟩ := h; rfl) (fun cdv A outer s H E hr => ⟨_, (pss_one (ps_ret (pe_and (pe_callB (z_isi K) (by rfl) (T.free 0) (by decide +kernel) (pa_cons (pv 0) (pa_cons (pe_bltn (v := .ty "list") rfl (T.free 4) (by decide +kernel) rfl) pa_nil))) (pe_one (pe_callB (z_all K rfl) (by rfl) (T.free 3) (by decide +kernel) (pa_cons (pe_lc (own := [("name", 1)]) rfl sc_are_names.nd (z_plist K (pv 0)) (blkOk_by (own := [("name", 1)]) (N := N_are_names) (sc := defScope s_are_names) (by decide +kernel)) (fun _ _ _ _ _ => (pg_name (i := 1) sc_are_names.nd rfl (by first | exact Or.inl rfl | exact Or.inr rfl))) (fun _ _ _ _ _ => pts_nil) (fun _ _ _ _ _ => (q_call k_is_name hr (T.glo 5) (pa_cons (pv 1) pa_nil)))) pa_nil)))))), fun ds kk ke h => ?_⟩), FunD.bindsN F fun _ _ _ _ _ _ us hl => match us, hl with | [_], _ => rfl⟩, F.kp⟩
  obtain ⟨ss, rfl, hl, hs, hk⟩ := h
  try dsimp only [cxK]
  walk_at "fw"
  refine (df_lcM [1] D.str (fun s => .bl (isName s)) (fun a b e => by cases e; rfl) (by decide) (by walk_at "fno") ?_).dt
  walk_at "fw"
  refine ⟨szOf hl, fun s hm => ?_, ?_⟩
  · walk_at "fw"
    exact ⟨hs s hm, rfl⟩
  · walk_at "fw"
    refine ⟨ss.map isName, by rw [List.map_map]; rfl, ?_⟩
    rw [all_id]; exact hk
def wt_distinct : Wt := fun ds kk _ => ∃ ss : List Str, ds = [sl ss] ∧ ss.length ≤ 1000 ∧ (srt ss).length < 64 ∧ kk (sl (srt ss))
theorem ok_distinct (T : TX K mg) : Ok P w K mg base 1 (He.ga K "distinct") ["names"] (spD K wt_distinct) := by
  obtain ⟨fd, F⟩ := T.def_ 2 (d := d_distinct)
  refine ⟨⟨fd, fnD F sc_distinct (fun _ _ _ h => by obtain ⟨ss, rfl, hl, h64, hk⟩ := h; rfl) (fun cdv A outer s H E hr => ⟨_, (pss_one (ps_ret (pe_callB (call_sortedD rfl) (by rfl) (T.free 6) (by decide +kernel) (pa_cons (pe_dc (own := [("name", 1)]) rfl sc_distinct.nd (z_plist K (pv 0)) (blkOk_by (own := [("name", 1)]) (N := N_distinct) (sc := defScope s_distinct) (by decide +kernel)) (fun _ _ _ _ _ => (pg_name (i := 1) sc_distinct.nd rfl (by first | exact Or.inl rfl | exact Or.inr rfl))) (fun _ _ _ _ _ => pts_nil) (fun _ _ _ _ _ => (pv 1)) (fun _ _ _ _ _ => pe_bl)) pa_nil)))), fun ds kk ke h => ?_⟩), FunD.bindsN F fun _ _ _ _ _ _ us hl => match us, hl with | [_], _ => rfl⟩, F.kp⟩
  obtain ⟨ss, rfl, hl, h64, hk⟩ := h
  try dsimp only [cxK]
  walk_at "fw"
  refine (df_dcM [1] D.str (fun s => ((.inr s : Key), .bl true)) (fun a b e => by cases e; rfl) (by decide) (by walk_at "fno") ?_).dt
  walk_at "fw"
  refine ⟨szOf hl, fun s hm => ?_, ?_⟩
  · walk_at "fw"
    exact ⟨.inr s, rfl, rfl⟩
  · walk_at "fw"
    obtain ⟨ts, t1, t2, t3⟩ := merge_strs (fun _ => .bl true) ss
    refine ⟨_, ts, rfl, t1, by rw [ts_len t2 t3]; exact h64, fun ys p so => ?_⟩
    rw [ts_srt t2 t3 p so]; exact hk
def wt_Committee_init : WtI := fun ds kk _ => ∃ ss : List Str, ds = [sl ss] ∧ ss.length ≤ 1000 ∧ (∀ s ∈ ss, isName s = true) ∧ (srt ss).length ≤ 30 ∧ kk [("own_members", sl (srt ss))]
theorem ok_Committee_init (T : TX K mg) : Ok P w K mg base 3 (He.ma K (He.ga K "Committee") "__init__") ["self", "names"] (spI K "Committee" wt_Committee_init) := by
  obtain ⟨fd, F⟩ := T.def_ 3 (d := d_Committee_init)
  obtain ⟨tk_MAX_NAMES, g_MAX_NAMES⟩ := T.int 14 (x := "MAX_NAMES")
  have k_are_names := ok_are_names (P := P) (w := w) (base := base) T
  have k_distinct := ok_distinct (P := P) (w := w) (base := base) T
  refine ⟨⟨fd, fnI F sc_Committee_init (by decide) (fun _ _ _ h => by obtain ⟨ss, rfl, hl, hs, h30, hk⟩ := h; rfl) (fun cdv A outer s H E hr => ⟨_, (pss_cons (ps_if (PW.pt (pw_or (pt_not (pt_val (q_call k_are_names hr (T.glo 7) (pa_cons (pv 1) pa_nil)))) (pw_or1 (pt_cmpR op_gt (pe_callB (z_len K) (by rfl) (T.free 2) boot_len (pa_cons (q_call k_distinct hr (T.glo 8) (pa_cons (pv 1) pa_nil)) pa_nil)) (pe_glob (v := .int 30) rfl g_MAX_NAMES ⟨_, rfl⟩) (nomark _))))) (pss_one ps_never) pss_nil) (pss_one (ps_fld (pv 0) (q_call k_distinct hr (T.glo 8) (pa_cons (pv 1) pa_nil)) rfl))), fun x ds kk ke h => ?_⟩), FunD.bindsN F fun _ _ _ _ _ _ us hl => match us, hl with | [_, _], _ => rfl⟩, F.kp⟩
  obtain ⟨ss, rfl, hl, hs, h30, hk⟩ := h
  try dsimp only [cxK]
  walk_at "fw"
  have ha : ss.all isName = true := List.all_eq_true.mpr hs
  refine ⟨hl, fun s m => Nat.le_trans (isName_len (hs s m)) (by decide), ?_⟩
  rw [ha]
  walk_at "fw"
  refine ⟨hl, by omega, ?_⟩
  walk_at "fw"
  refine ⟨fun h => ?_, fun h => ?_⟩
  · refine ds_never (P := True) ?_
    rw [List.length_map] at h
    have := of_decide_eq_true h
    omega
  · walk_at "fw"
    refine ds_fldS 0 (T.cls 9) (T.noat 10) rfl (by decide) ?_
    walk_at "fw"
    refine ⟨hl, by omega, ?_⟩
    exact ⟨_, rfl, hk⟩
/-- a committee of these, in order -/
abbrev cm (ss : List Str) : D := .obj "Committee" [("own_members", sl ss)]
def wt_Committee_members : Wt := fun ds kk _ => ∃ ss : List Str, ds = [cm ss] ∧ kk (sl ss)
theorem ok_Committee_members (T : TX K mg) : Ok P w K mg base 1 (getter K (He.ga K "Committee") "members") ["self"] (spD K wt_Committee_members) := by
  obtain ⟨fd, F⟩ := T.def_ 4 (d := d_Committee_members)
  refine ⟨⟨fd, fnD F sc_Committee_members (fun _ _ _ h => by obtain ⟨ss, rfl, hk⟩ := h; rfl) (fun cdv A outer s H E hr => ⟨_, (pss_one (ps_ret (pe_callTy (z_listof K) (by rfl) (T.free 4) (by decide +kernel) (pa_cons (z_fld K (pv 0)) pa_nil)))), fun ds kk ke h => ?_⟩), FunD.bindsN F fun _ _ _ _ _ _ us hl => match us, hl with | [_], _ => rfl⟩, F.kp⟩
  obtain ⟨ss, rfl, hk⟩ := h
  try dsimp only [cxK]
  walk_at "fw"
  exact hk
def wt_Committee_len : Wt := fun ds kk _ => ∃ ss : List Str, ds = [cm ss] ∧ kk (.int (ss.length : Nat))
theorem ok_Committee_len (T : TX K mg) : Ok P w K mg base 1 (He.ma K (He.ga K "Committee") "__len__") ["self"] (spD K wt_Committee_len) := by
  obtain ⟨fd, F⟩ := T.def_ 5 (d := d_Committee_len)
  refine ⟨⟨fd, fnD F sc_Committee_len (fun _ _ _ h => by obtain ⟨ss, rfl, hk⟩ := h; rfl) (fun cdv A outer s H E hr => ⟨_, (pss_one (ps_ret (pe_callB (z_len K) (by rfl) (T.free 2) boot_len (pa_cons (z_fld K (pv 0)) pa_nil)))), fun ds kk ke h => ?_⟩), FunD.bindsN F fun _ _ _ _ _ _ us hl => match us, hl with | [_], _ => rfl⟩, F.kp⟩
  obtain ⟨ss, rfl, hk⟩ := h
  try dsimp only [cxK]
  walk_at "fw"
  rw [List.length_map]; exact hk
def wt_Committee_eq : Wt := fun ds kk _ => ∃ ss ts : List Str, ds = [cm ss, cm ts] ∧ (∀ s ∈ ss, isName s = true) ∧ (∀ s ∈ ts, isName s = true) ∧ kk (.bl (decide (ss = ts)))
theorem ok_Committee_eq (T : TX K mg) : Ok P w K mg base 1 (He.ma K (He.ga K "Committee") "__eq__") ["self", "other"] (spD K wt_Committee_eq) := by
  obtain ⟨fd, F⟩ := T.def_ 6 (d := d_Committee_eq)
  refine ⟨⟨fd, fnD F sc_Committee_eq (fun _ _ _ h => by obtain ⟨ss, ts, rfl, h1, h2, hk⟩ := h; rfl) (fun cdv A outer s H E hr => ⟨_, (pss_one (ps_ret (pe_and (pe_callB (z_isi K) (by rfl) (T.free 0) (by decide +kernel) (pa_cons (pv 1) (pa_cons (pe_glob (v := .ref (He.ga K "Committee")) rfl (T.glo 11) rfl) pa_nil))) (pe_one (pe_cmpR (z_eqD K hr) (z_fld K (pv 0)) (z_fld K (pv 1)) (nomark _)))))), fun ds kk ke h => ?_⟩), FunD.bindsN F fun _ _ _ _ _ _ us hl => match us, hl with | [_, _], _ => rfl⟩, F.kp⟩
  obtain ⟨ss, ts, rfl, h1, h2, hk⟩ := h
  try dsimp only [cxK]
  walk_at "fw"
  exact ⟨_, _, pd_sl ss, pd_sl ts, shaped_sl h1, shaped_sl h2, by rw [eqv_sl]; exact hk⟩
end
end Fw

set_option maxHeartbeats 4000000
/-! The program's defs: names, committees, rankings. -/
namespace Fw
open PySem PySem.Spec PyProof.Rows L2
local macro_rules | `(tactic| walk_at "fno") => `(tactic| first | (intro o ho; exact absurd ho (List.not_mem_nil)) | (simp; done) | (intro o ho; simp at ho; (try rcases ho with ho | ho) <;> subst ho <;> decide))
local macro_rules | `(tactic| walk_at "fop") => `(tactic| with_reducible first
  | refine dt_op opd_add ?_ | refine dt_op opd_sub ?_ | refine dt_op opd_mul ?_ | refine dt_op opd_fdivN ?_ | refine dt_op opd_mod ?_ | refine dt_op opd_pow ?_
  | refine dt_op opd_lt ?_ | refine dt_op opd_le ?_ | refine dt_op opd_gt ?_ | refine dt_op opd_ge ?_
  | refine dt_op opd_eq ?_ | refine dt_op opd_ne ?_ | refine dt_op opd_in ?_ | refine dt_op opd_in_sign ?_ | refine dt_op opd_add_str ?_ | refine dt_op opd_isN ?_ | refine dt_op opd_notN ?_
  | refine dt_op opd_ixL ?_ | refine dt_op opd_ixT ?_ | refine dt_op opf_cat.op ?_ | refine dt_op opf_rep.op ?_
  | refine dt_op opd_eqD ?_ | refine dt_op opd_neD ?_ | refine dt_op opd_eqDn ?_ | refine dt_op opd_inI ?_ | refine dt_op opd_eqI ?_ | refine dt_op opd_binI ?_ | refine dt_op opd_getI ?_)
local macro_rules | `(tactic| walk_at "fcb") => `(tactic| with_reducible first
  | refine dt_cb cad_lenA ?_ | refine dt_cb cad_lenI ?_ | refine dt_cb cad_isi ?_ | refine dt_cb cad_lenDR ?_ | refine dt_cb cad_max ?_ | refine dt_cb cad_min ?_ | refine dt_cb cad_all ?_ | refine dt_cb cad_any ?_ | refine dt_cb cad_sum ?_ | refine dt_cb cad_max2 ?_ | refine dt_cb cad_min2 ?_ | refine dt_cb cad_int1 ?_
  | refine dt_cb caf_list.ca ?_ | refine dt_cb caf_listD.ca ?_ | refine dt_cb caf_dictD.ca ?_ | refine dt_cb caf_dictP.ca ?_ | refine dt_cb caf_sortedS.ca ?_ | refine dt_cb caf_sortedD.ca ?_)
local macro_rules | `(tactic| walk_at "fex") => `(tactic| first
  | (refine ⟨(rfl : D.non = D.non), ?_⟩) | (refine ⟨_, .lst _, ?_⟩) | (refine ⟨_, .scr _, ?_⟩) | (refine ⟨_, _, _, rfl, rfl, rfl, ?_⟩) | (refine ⟨_, _, rfl, rfl, ?_⟩) | (refine ⟨_, rfl, ?_⟩) | (refine ⟨_, _, rfl, ?_⟩) | (refine ⟨_, _, _, rfl, ?_⟩) | (refine ⟨_, _, _, _, rfl, ?_⟩) | (refine ⟨_, _, _, _, _, rfl, ?_⟩) | (refine ⟨_, _, _, _, _, _, rfl, ?_⟩) | (refine ⟨_, .inl rfl, rfl, flat_strs _, ?_⟩) | (refine ⟨_, .inl rfl, ?_⟩) | (refine ⟨rfl, rfl, rfl, ?_⟩) | (refine ⟨(by simp only [List.length_cons, List.length_nil]; decide : List.length _ ≤ sizeLine), ?_⟩) | (refine ⟨fun _ => ?_, fun h => absurd h (by decide)⟩) | (refine ⟨fun h => absurd h (by decide), fun _ => ?_⟩))
local macro_rules | `(tactic| walk_at "fdi") => `(tactic| with_reducible first
  | refine di_list ?_ | refine di_range1 ?_ | refine di_range2 ?_ | refine di_range3 ?_ | refine di_str ?_ | refine di_items ?_ | refine di_values ?_ | refine di_keys ?_ | refine di_keysM ?_ | refine di_enum ?_)
local macro_rules | `(tactic| walk_at "ffld") => `(tactic| first
  | ((with_reducible refine fld_Committee_own_members ‹_› (dt_var (d := .obj "Committee" ?fs0) ?a1 ?a2)); (case a1 => rfl); refine ⟨_, _, rfl, rfl, ?_⟩)
  | ((with_reducible refine fld_Ranking_order ‹_› (dt_var (d := .obj "Ranking" ?fs0) ?a1 ?a2)); (case a1 => rfl); refine ⟨_, _, rfl, rfl, ?_⟩)
  | ((with_reducible refine fld_Ranking_places ‹_› (dt_var (d := .obj "Ranking" ?fs0) ?a1 ?a2)); (case a1 => rfl); refine ⟨_, _, rfl, rfl, ?_⟩)
  | ((with_reducible refine fld_Turns_order ‹_› (dt_var (d := .obj "Turns" ?fs0) ?a1 ?a2)); (case a1 => rfl); refine ⟨_, _, rfl, rfl, ?_⟩)
  | ((with_reducible refine fld_Game_own_rankings ‹_› (dt_var (d := .obj "Game" ?fs0) ?a1 ?a2)); (case a1 => rfl); refine ⟨_, _, rfl, rfl, ?_⟩)
  | ((with_reducible refine fld_Game_own_turns ‹_› (dt_var (d := .obj "Game" ?fs0) ?a1 ?a2)); (case a1 => rfl); refine ⟨_, _, rfl, rfl, ?_⟩)
  | ((with_reducible refine fld_Striker_own_target ‹_› (dt_var (d := .obj "Striker" ?fs0) ?a1 ?a2)); (case a1 => rfl); refine ⟨_, _, rfl, rfl, ?_⟩)
  | ((with_reducible refine fld_Keeper_own_target ‹_› (dt_var (d := .obj "Keeper" ?fs0) ?a1 ?a2)); (case a1 => rfl); refine ⟨_, _, rfl, rfl, ?_⟩))
local macro_rules | `(tactic| walk_at "fkit") => `(tactic| first
  | refine ⟨_, _, _, _, _, rfl, .str _, .ty _, kit_str_str ‹_›, ?_⟩
  | refine ⟨_, _, _, _, _, rfl, .int _, .ty _, kit_int_int ‹_›, ?_⟩
  | refine ⟨_, _, _, _, _, rfl, .lst _, .ty _, kit_list_list ‹_›, ?_⟩
  | refine ⟨_, _, _, _, _, rfl, .dic _, .ty _, kit_dict_dict ‹_›, ?_⟩
  | refine ⟨_, _, _, _, _, rfl, .obj _ _ (ins_Committee ‹_›), .glo _, kit_Committee_Committee ‹_›, ?_⟩
  | refine ⟨_, _, _, _, _, rfl, .obj _ _ (ins_Ranking ‹_›), .glo _, kit_Ranking_Ranking ‹_›, ?_⟩
  | refine ⟨_, _, _, _, _, rfl, .obj _ _ (ins_Turns ‹_›), .glo _, kit_Turns_Turns ‹_›, ?_⟩
  | refine ⟨_, _, _, _, _, rfl, .obj _ _ (ins_Game ‹_›), .glo _, kit_Game_Game ‹_›, ?_⟩
  | refine ⟨_, _, _, _, _, rfl, .int _, .ty _, kit_int_bool ‹_›, ?_⟩
  | refine ⟨_, _, _, _, _, rfl, .bl _, .ty _, kit_bool_int ‹_›, ?_⟩
  | refine ⟨_, _, _, _, _, rfl, .bl _, .ty _, kit_bool_bool ‹_›, ?_⟩)
local macro_rules | `(tactic| walk_at "fw1") => `(tactic| first
  | ((with_reducible refine dt_var (d := ?d0) ?a1 ?a2); (case a1 => rfl))
  | (with_reducible first
    | refine dt_int ?_ | refine dt_str ?_ | refine dt_bl ?_ | refine dt_non ?_ | refine dt_ty ?_ | refine dt_glo ?_
    | refine da_cons ?_ | refine da_nil ?_ | refine dtt_b ?_ | refine dtt_test ?_ | refine dtt_yes ?_ | refine dtt_not ?_ | refine dtt_and ?_ | refine dtt_or ?_ 
    | refine ds_unlAsg ?_ | refine ds_seq ?_ | refine ds_next ?_ | refine ds_ret ?_ | refine ds_retN ?_
    | refine dt_andV ?_ | refine dt_orV ?_ | refine dt_notV ?_ | refine dt_if ?_ | refine dt_chain opd_le opd_le ?_ | refine dt_chain opd_lt opd_lt ?_
    | refine dt_call0 ?_ | refine dt_prop ?_ | refine dt_make ?_ | refine dt_dget ?_ | refine dt_din ?_ | refine dt_dnotin ?_
    | refine (df_slL ?_).dt | refine do_none ?_ | refine do_some ?_ | refine (df_listVals ?_).dt | refine dt_stm ?_ | refine df_lst ?_ | refine df_cb caf_list ?_ | refine df_cb caf_listD ?_ | refine df_cb caf_dictD ?_ | refine df_cb caf_dictP ?_ | refine df_cb caf_sortedS ?_ | refine df_cb caf_sortedD ?_ | refine df_op opf_cat ?_ | refine df_listVals ?_ | refine df_make ?_ | refine df_slL ?_ | refine df_dnew ?_ | refine dt_lst ?_ | refine dt_tup ?_ | refine (df_dnew ?_).dt)
  | ((with_reducible refine dt_methS 0 (x := ?x0) (fs := ?f0) ?a1 ?a2 ?a3); (case a1 => rfl); (case a2 => rfl)) | (with_reducible refine dt_meth0 ?_)
  | (with_reducible refine dt_un und_neg ?_)
  | ((with_reducible refine dt_inO 0 (ds := ?d0) ?a1 ?a2); (case a1 => rfl)) | ((with_reducible refine dt_lenO 0 (ds := ?d0) ?a1 ?a2); (case a1 => rfl)) | ((with_reducible refine dt_lenO 1 (ds := ?d0) ?a1 ?a2); (case a1 => rfl))
  | ((with_reducible refine dm_popAt 0 (ds := ?d0) ?a1 ?a2); (case a1 => rfl)) | ((with_reducible refine dm_popAt 1 (ds := ?d0) ?a1 ?a2); (case a1 => rfl)) | (with_reducible refine DT.dm ?_) | walk_at "fop" | walk_at "fcb" | walk_at "fdi"
  | ((with_reducible refine ds_asgE ?a1 ?a2 ?a3); (case a1 => walk_at "fno"); (case a2 => simp [startG])) | ((with_reducible refine ds_asg ?a1 ?a2); (case a1 => walk_at "fno")) | ((with_reducible refine ds_asgT ?a1 ?a2 ?a3); (case a1 => walk_at "fno"); (case a2 => walk_at "fno")) | ((with_reducible refine ds_append 0 (ds := ?d0) ?a1 ?a2); (case a1 => rfl)) | ((with_reducible refine ds_append 1 (ds := ?d0) ?a1 ?a2); (case a1 => rfl)) | (with_reducible refine ds_expr ?_) | ((with_reducible refine ds_par ?a1 ?a2 ?a3); (case a1 => walk_at "fno"); (case a2 => walk_at "fno"))
  | ((with_reducible refine dg_tup ?a1 ?a2); (case a1 => rfl)) | (with_reducible refine dgs_cons ?_) | (with_reducible refine dgs_nil ?_) | (with_reducible refine lct ?_) | (with_reducible refine dct ?_)
  | ((with_reducible refine dg_name ?a1 ?a2); (case a1 => walk_at "fno"))
  | walk_at "ffld" | walk_at "fex" | walk_at "fkit")
local macro_rules | `(tactic| walk_at "fw") => `(tactic| repeat (first | walk_at "fw1" | (with_reducible refine ds_if ?_)))
local macro_rules | `(tactic| walk_at "fwn") => `(tactic| repeat walk_at "fw1")

section
variable {P : Program} {w : World} {K : PySem.W.Frag} {mg : Str → Option Value} {base : Heap}
def wt_Ranking_init : WtI := fun ds kk _ => ∃ ss : List Str, ds = [sl ss] ∧ ss.length ≤ 30 ∧ (∀ s ∈ ss, isName s = true) ∧ ss.Nodup ∧ kk [("order", sl ss), ("places", .dic (plc ss))]
theorem ok_Ranking_init (T : TX K mg) : Ok P w K mg base 3 (He.ma K (He.ga K "Ranking") "__init__") ["self", "alternatives"] (spI K "Ranking" wt_Ranking_init) := by
  obtain ⟨fd, F⟩ := T.def_ 7 (d := d_Ranking_init)
  obtain ⟨tk_MAX_NAMES, g_MAX_NAMES⟩ := T.int 14 (x := "MAX_NAMES")
  have k_are_names := ok_are_names (P := P) (w := w) (base := base) T
  have k_distinct := ok_distinct (P := P) (w := w) (base := base) T
  refine ⟨⟨fd, fnI F sc_Ranking_init (by decide) (fun _ _ _ h => by obtain ⟨ss, rfl, h30, hs, hn, hk⟩ := h; rfl) (fun cdv A outer s H E hr => ⟨_, (pss_cons (ps_if (PW.pt (pw_or (pt_not (pt_val (q_call k_are_names hr (T.glo 7) (pa_cons (pv 1) pa_nil)))) (pw_or1 (pt_cmpR op_gt (pe_callB (z_len K) (by rfl) (T.free 2) boot_len (pa_cons (pv 1) pa_nil)) (pe_glob (v := .int 30) rfl g_MAX_NAMES ⟨_, rfl⟩) (nomark _))))) (pss_one ps_never) pss_nil) (pss_cons (ps_if (pt_cmpR op_ne (pe_callB (z_len K) (by rfl) (T.free 2) boot_len (pa_cons (q_call k_distinct hr (T.glo 8) (pa_cons (pv 1) pa_nil)) pa_nil)) (pe_callB (z_len K) (by rfl) (T.free 2) boot_len (pa_cons (pv 1) pa_nil)) (nomark _)) (pss_one ps_never) pss_nil) (pss_cons (ps_fld (pv 0) (pe_callTy (z_listof K) (by rfl) (T.free 4) (by decide +kernel) (pa_cons (pv 1) pa_nil)) rfl) (pss_one (ps_fld (pv 0) (pe_dc (own := [("place", 2), ("name", 3)]) rfl sc_Ranking_init.nd (pi_enum (by rfl) (T.free 17) (pa_cons (z_fld K (pv 0)) pa_nil)) (blkOk_by (own := [("place", 2), ("name", 3)]) (N := N_Ranking_init) (sc := defScope s_Ranking_init) (by decide +kernel)) (fun _ _ _ _ _ => (q_tup (n := 2) K rfl rfl (pgs_cons (pg_name (i := 2) sc_Ranking_init.nd rfl (by first | exact Or.inl rfl | exact Or.inr rfl)) (pgs_cons (pg_name (i := 3) sc_Ranking_init.nd rfl (by first | exact Or.inl rfl | exact Or.inr rfl)) pgs_nil)))) (fun _ _ _ _ _ => pts_nil) (fun _ _ _ _ _ => (pv 3)) (fun _ _ _ _ _ => (pv 2))) rfl))))), fun x ds kk ke h => ?_⟩), FunD.bindsN F fun _ _ _ _ _ _ us hl => match us, hl with | [_, _], _ => rfl⟩, F.kp⟩
  obtain ⟨ss, rfl, h30, hs, hn, hk⟩ := h
  try dsimp only [cxK]
  walk_at "fw"
  have ha : ss.all isName = true := List.all_eq_true.mpr hs
  have hq : (srt ss).length = ss.length := srt_len hn
  refine ⟨by omega, fun s m => Nat.le_trans (isName_len (hs s m)) (by decide), ?_⟩
  rw [ha]
  walk_at "fw"
  refine ⟨fun h => ?_, fun h => ?_⟩
  · refine ds_never (P := True) ?_
    rw [List.length_map] at h
    have := of_decide_eq_true h
    omega
  · walk_at "fw"
    refine ⟨by omega, by omega, ?_⟩
    walk_at "fw"
    refine ⟨fun h => ?_, fun h => ?_⟩
    · refine ds_never (P := True) ?_
      rw [List.length_map, List.length_map, hq] at h
      simp [D.v] at h
    · walk_at "fw"
      refine ds_fldS 0 (T.cls 15) (T.noat 16) rfl (by decide) ?_
      walk_at "fw"
      refine ds_fldS 0 (T.cls 15) (T.noat 18) rfl (by exact (by decide : 1 < 1000)) ?_
      refine (df_dcM ([2] ++ ([3] ++ [])) (fun p : Str × Nat => D.tup [.int (p.2 : Nat), .str p.1]) (fun p => ((.inr p.1 : Key), .int (p.2 : Nat))) (fun a b e => by cases a; cases b; cases e; rfl) (by decide) (by walk_at "fno") ?_).dt
      walk_at "fw"
      refine dt_fldS 0 (T.cls 15) (T.noat 16) rfl rfl ?_
      walk_at "fw"
      refine ⟨ss.zipIdx, enum_strs ss, by rw [List.length_zipIdx]; exact szOf (by omega), fun p hp => ?_, ?_⟩
      · walk_at "fw"
        exact ⟨.inr p.1, rfl, rfl⟩
      · rw [plc_merge hn]
        exact ⟨_, rfl, hk⟩
def wt_Ranking_alternatives : Wt := fun ds kk _ => ∃ ss : List Str, ds = [rk ss] ∧ kk (sl ss)
theorem ok_Ranking_alternatives (T : TX K mg) : Ok P w K mg base 1 (getter K (He.ga K "Ranking") "alternatives") ["self"] (spD K wt_Ranking_alternatives) := by
  obtain ⟨fd, F⟩ := T.def_ 8 (d := d_Ranking_alternatives)
  refine ⟨⟨fd, fnD F sc_Ranking_alternatives (fun _ _ _ h => by obtain ⟨ss, rfl, hk⟩ := h; rfl) (fun cdv A outer s H E hr => ⟨_, (pss_one (ps_ret (pe_callTy (z_listof K) (by rfl) (T.free 4) (by decide +kernel) (pa_cons (z_fld K (pv 0)) pa_nil)))), fun ds kk ke h => ?_⟩), FunD.bindsN F fun _ _ _ _ _ _ us hl => match us, hl with | [_], _ => rfl⟩, F.kp⟩
  obtain ⟨ss, rfl, hk⟩ := h
  try dsimp only [cxK]
  walk_at "fw"
  exact hk
def wt_Ranking_len : Wt := fun ds kk _ => ∃ ss : List Str, ds = [rk ss] ∧ kk (.int (ss.length : Nat))
theorem ok_Ranking_len (T : TX K mg) : Ok P w K mg base 1 (He.ma K (He.ga K "Ranking") "__len__") ["self"] (spD K wt_Ranking_len) := by
  obtain ⟨fd, F⟩ := T.def_ 9 (d := d_Ranking_len)
  refine ⟨⟨fd, fnD F sc_Ranking_len (fun _ _ _ h => by obtain ⟨ss, rfl, hk⟩ := h; rfl) (fun cdv A outer s H E hr => ⟨_, (pss_one (ps_ret (pe_callB (z_len K) (by rfl) (T.free 2) boot_len (pa_cons (z_fld K (pv 0)) pa_nil)))), fun ds kk ke h => ?_⟩), FunD.bindsN F fun _ _ _ _ _ _ us hl => match us, hl with | [_], _ => rfl⟩, F.kp⟩
  obtain ⟨ss, rfl, hk⟩ := h
  try dsimp only [cxK]
  walk_at "fw"
  rw [List.length_map]; exact hk
def wt_Ranking_contains : Wt := fun ds kk _ => ∃ (ss : List Str) (x : Str), ds = [rk ss, .str x] ∧ x.length ≤ 1000 ∧ kk (.bl (isName x && decide (x ∈ ss)))
theorem ok_Ranking_contains (T : TX K mg) : Ok P w K mg base 2 (He.ma K (He.ga K "Ranking") "__contains__") ["self", "name"] (spD K wt_Ranking_contains) := by
  obtain ⟨fd, F⟩ := T.def_ 10 (d := d_Ranking_contains)
  have k_is_name := ok_is_name (P := P) (w := w) (base := base) T
  refine ⟨⟨fd, fnD F sc_Ranking_contains (fun _ _ _ h => by obtain ⟨ss, x, rfl, hl, hk⟩ := h; rfl) (fun cdv A outer s H E hr => ⟨_, (pss_one (ps_ret (pe_and (q_call k_is_name hr (T.glo 5) (pa_cons (pv 1) pa_nil)) (pe_one (pe_cmp (q_din hr (pv 1) (z_fld K (pv 0))) rfl))))), fun ds kk ke h => ?_⟩), FunD.bindsN F fun _ _ _ _ _ _ us hl => match us, hl with | [_, _], _ => rfl⟩, F.kp⟩
  obtain ⟨ss, x, rfl, hl, hk⟩ := h
  try dsimp only [cxK]
  walk_at "fw"
  refine ⟨hl, ?_⟩
  walk_at "fw"
  refine ⟨fun h => ?_, fun h => ?_⟩
  · walk_at "fw"
    refine ⟨_, .inr x, rfl, rfl, ?_⟩
    have e : (getD (plc ss) (.inr x)).isSome = decide (x ∈ ss) := by
      rw [Bool.eq_iff_iff, getD_is, plc_keys, key_mem, decide_eq_true_eq]
    rw [e]
    rw [h, Bool.true_and] at hk
    exact hk
  · rw [h, Bool.false_and] at hk
    exact hk
def wt_members_known : Wt := fun ds kk _ => ∃ ss ts : List Str, ds = [rk ss, cm ts] ∧ (∀ s ∈ ts, isName s = true ∧ s ∈ ss) ∧ kk .non
theorem ok_members_known (T : TX K mg) : Ok P w K mg base 3 (He.ga K "members_known") ["ranking", "committee"] (spD K wt_members_known) := by
  obtain ⟨fd, F⟩ := T.def_ 11 (d := d_members_known)
  have k_Committee_members := ok_Committee_members (P := P) (w := w) (base := base) T
  have k_Ranking_contains := ok_Ranking_contains (P := P) (w := w) (base := base) T
  refine ⟨⟨fd, fnD F sc_members_known (fun _ _ _ h => by obtain ⟨ss, ts, rfl, hs, hk⟩ := h; rfl) (fun cdv A outer s H E hr => ⟨_, (pss_one (ps_for (passes_of rfl) rfl (z_plist K (q_prop k_Committee_members (pv 1) (T.cls 9) (T.prop 19) hr)) (pg_name (i := 2) sc_members_known.nd rfl (by first | exact Or.inl rfl | exact Or.inr rfl)) (pss_one (ps_if (pt_cmpR (q_notin k_Ranking_contains (T.meth 20) hr) (pv 2) (pv 0) (by rfl)) (pss_one ps_never) pss_nil)))), fun ds kk ke h => ?_⟩), FunD.bindsN F fun _ _ _ _ _ _ us hl => match us, hl with | [_, _], _ => rfl⟩, F.kp⟩
  obtain ⟨ss, ts, rfl, hs, hk⟩ := h
  try dsimp only [cxK]
  walk_at "fw"
  refine ds_for [2] (fun _ _ G' O' => O' = [] ∧ ∃ g, G' = [some (rk ss), some (cm ts), g]) ?_
  walk_at "fw"
  refine ⟨⟨rfl, _, rfl⟩, fun i a G' O' hi hP => ?_, fun G' O' hP => hk⟩
  obtain ⟨rfl, g, rfl⟩ := hP
  obtain ⟨s, hm, rfl⟩ := get_strs hi
  obtain ⟨n1, n2⟩ := hs s hm
  walk_at "fw"
  refine ⟨Nat.le_trans (isName_len n1) (by decide), ?_⟩
  rw [n1, decide_eq_true n2, Bool.true_and]
  walk_at "fw"
  exact ⟨rfl, _, rfl⟩
def wt_as_committee : Wt := fun ds kk _ => ∃ ss : List Str, ds = [rk ss] ∧ ss.length ≤ 30 ∧ (∀ s ∈ ss, isName s = true) ∧ kk (cm (srt ss))
theorem ok_as_committee (T : TX K mg) : Ok P w K mg base 5 (He.ga K "as_committee") ["ranking"] (spD K wt_as_committee) := by
  obtain ⟨fd, F⟩ := T.def_ 12 (d := d_as_committee)
  have k_Committee_init := ok_Committee_init (P := P) (w := w) (base := base) T
  have k_Ranking_alternatives := ok_Ranking_alternatives (P := P) (w := w) (base := base) T
  refine ⟨⟨fd, fnD F sc_as_committee (fun _ _ _ h => by obtain ⟨ss, rfl, h30, hs, hk⟩ := h; rfl) (fun cdv A outer s H E hr => ⟨_, (pss_one (ps_ret (q_make k_Committee_init (T.mkr 21) hr (T.glo 11) (pa_cons (q_prop k_Ranking_alternatives (pv 0) (T.cls 15) (T.prop 22) hr) pa_nil)))), fun ds kk ke h => ?_⟩), FunD.bindsN F fun _ _ _ _ _ _ us hl => match us, hl with | [_], _ => rfl⟩, F.kp⟩
  obtain ⟨ss, rfl, h30, hs, hk⟩ := h
  try dsimp only [cxK]
  walk_at "fw"
  exact ⟨by omega, hs, Nat.le_trans (srt_le ss) h30, hk⟩
end
end Fw

set_option maxHeartbeats 4000000
/-! The program's defs: turns, games, groups. -/
namespace Fw
open PySem PySem.Spec PyProof.Rows L2
local macro_rules | `(tactic| walk_at "fno") => `(tactic| first | (intro o ho; exact absurd ho (List.not_mem_nil)) | (simp; done) | (intro o ho; simp at ho; (try rcases ho with ho | ho) <;> subst ho <;> decide))
local macro_rules | `(tactic| walk_at "fop") => `(tactic| with_reducible first
  | refine dt_op opd_add ?_ | refine dt_op opd_sub ?_ | refine dt_op opd_mul ?_ | refine dt_op opd_fdivN ?_ | refine dt_op opd_mod ?_ | refine dt_op opd_pow ?_
  | refine dt_op opd_lt ?_ | refine dt_op opd_le ?_ | refine dt_op opd_gt ?_ | refine dt_op opd_ge ?_
  | refine dt_op opd_eq ?_ | refine dt_op opd_ne ?_ | refine dt_op opd_in ?_ | refine dt_op opd_in_sign ?_ | refine dt_op opd_add_str ?_ | refine dt_op opd_isN ?_ | refine dt_op opd_notN ?_
  | refine dt_op opd_ixL ?_ | refine dt_op opd_ixT ?_ | refine dt_op opf_cat.op ?_ | refine dt_op opf_rep.op ?_
  | refine dt_op opd_eqD ?_ | refine dt_op opd_neD ?_ | refine dt_op opd_eqDn ?_ | refine dt_op opd_inI ?_ | refine dt_op opd_eqI ?_ | refine dt_op opd_binI ?_ | refine dt_op opd_getI ?_)
local macro_rules | `(tactic| walk_at "fcb") => `(tactic| with_reducible first
  | refine dt_cb cad_lenA ?_ | refine dt_cb cad_lenI ?_ | refine dt_cb cad_isi ?_ | refine dt_cb cad_lenDR ?_ | refine dt_cb cad_max ?_ | refine dt_cb cad_min ?_ | refine dt_cb cad_all ?_ | refine dt_cb cad_any ?_ | refine dt_cb cad_sum ?_ | refine dt_cb cad_max2 ?_ | refine dt_cb cad_min2 ?_ | refine dt_cb cad_int1 ?_
  | refine dt_cb caf_list.ca ?_ | refine dt_cb caf_listD.ca ?_ | refine dt_cb caf_dictD.ca ?_ | refine dt_cb caf_dictP.ca ?_ | refine dt_cb caf_sortedS.ca ?_ | refine dt_cb caf_sortedD.ca ?_)
local macro_rules | `(tactic| walk_at "fex") => `(tactic| first
  | (refine ⟨(rfl : D.non = D.non), ?_⟩) | (refine ⟨_, .lst _, ?_⟩) | (refine ⟨_, .scr _, ?_⟩) | (refine ⟨_, _, _, rfl, rfl, rfl, ?_⟩) | (refine ⟨_, _, rfl, rfl, ?_⟩) | (refine ⟨_, rfl, ?_⟩) | (refine ⟨_, _, rfl, ?_⟩) | (refine ⟨_, _, _, rfl, ?_⟩) | (refine ⟨_, _, _, _, rfl, ?_⟩) | (refine ⟨_, _, _, _, _, rfl, ?_⟩) | (refine ⟨_, _, _, _, _, _, rfl, ?_⟩) | (refine ⟨_, .inl rfl, rfl, flat_strs _, ?_⟩) | (refine ⟨_, .inl rfl, ?_⟩) | (refine ⟨rfl, rfl, rfl, ?_⟩) | (refine ⟨(by simp only [List.length_cons, List.length_nil]; decide : List.length _ ≤ sizeLine), ?_⟩) | (refine ⟨fun _ => ?_, fun h => absurd h (by decide)⟩) | (refine ⟨fun h => absurd h (by decide), fun _ => ?_⟩))
local macro_rules | `(tactic| walk_at "fdi") => `(tactic| with_reducible first
  | refine di_list ?_ | refine di_range1 ?_ | refine di_range2 ?_ | refine di_range3 ?_ | refine di_str ?_ | refine di_items ?_ | refine di_values ?_ | refine di_keys ?_ | refine di_keysM ?_ | refine di_enum ?_)
local macro_rules | `(tactic| walk_at "ffld") => `(tactic| first
  | ((with_reducible refine fld_Committee_own_members ‹_› (dt_var (d := .obj "Committee" ?fs0) ?a1 ?a2)); (case a1 => rfl); refine ⟨_, _, rfl, rfl, ?_⟩)
  | ((with_reducible refine fld_Ranking_order ‹_› (dt_var (d := .obj "Ranking" ?fs0) ?a1 ?a2)); (case a1 => rfl); refine ⟨_, _, rfl, rfl, ?_⟩)
  | ((with_reducible refine fld_Ranking_places ‹_› (dt_var (d := .obj "Ranking" ?fs0) ?a1 ?a2)); (case a1 => rfl); refine ⟨_, _, rfl, rfl, ?_⟩)
  | ((with_reducible refine fld_Turns_order ‹_› (dt_var (d := .obj "Turns" ?fs0) ?a1 ?a2)); (case a1 => rfl); refine ⟨_, _, rfl, rfl, ?_⟩)
  | ((with_reducible refine fld_Game_own_rankings ‹_› (dt_var (d := .obj "Game" ?fs0) ?a1 ?a2)); (case a1 => rfl); refine ⟨_, _, rfl, rfl, ?_⟩)
  | ((with_reducible refine fld_Game_own_turns ‹_› (dt_var (d := .obj "Game" ?fs0) ?a1 ?a2)); (case a1 => rfl); refine ⟨_, _, rfl, rfl, ?_⟩)
  | ((with_reducible refine fld_Striker_own_target ‹_› (dt_var (d := .obj "Striker" ?fs0) ?a1 ?a2)); (case a1 => rfl); refine ⟨_, _, rfl, rfl, ?_⟩)
  | ((with_reducible refine fld_Keeper_own_target ‹_› (dt_var (d := .obj "Keeper" ?fs0) ?a1 ?a2)); (case a1 => rfl); refine ⟨_, _, rfl, rfl, ?_⟩))
local macro_rules | `(tactic| walk_at "fkit") => `(tactic| first
  | refine ⟨_, _, _, _, _, rfl, .str _, .ty _, kit_str_str ‹_›, ?_⟩
  | refine ⟨_, _, _, _, _, rfl, .int _, .ty _, kit_int_int ‹_›, ?_⟩
  | refine ⟨_, _, _, _, _, rfl, .lst _, .ty _, kit_list_list ‹_›, ?_⟩
  | refine ⟨_, _, _, _, _, rfl, .dic _, .ty _, kit_dict_dict ‹_›, ?_⟩
  | refine ⟨_, _, _, _, _, rfl, .obj _ _ (ins_Committee ‹_›), .glo _, kit_Committee_Committee ‹_›, ?_⟩
  | refine ⟨_, _, _, _, _, rfl, .obj _ _ (ins_Ranking ‹_›), .glo _, kit_Ranking_Ranking ‹_›, ?_⟩
  | refine ⟨_, _, _, _, _, rfl, .obj _ _ (ins_Turns ‹_›), .glo _, kit_Turns_Turns ‹_›, ?_⟩
  | refine ⟨_, _, _, _, _, rfl, .obj _ _ (ins_Game ‹_›), .glo _, kit_Game_Game ‹_›, ?_⟩
  | refine ⟨_, _, _, _, _, rfl, .int _, .ty _, kit_int_bool ‹_›, ?_⟩
  | refine ⟨_, _, _, _, _, rfl, .bl _, .ty _, kit_bool_int ‹_›, ?_⟩
  | refine ⟨_, _, _, _, _, rfl, .bl _, .ty _, kit_bool_bool ‹_›, ?_⟩)
local macro_rules | `(tactic| walk_at "fw1") => `(tactic| first
  | ((with_reducible refine dt_var (d := ?d0) ?a1 ?a2); (case a1 => rfl))
  | (with_reducible first
    | refine dt_int ?_ | refine dt_str ?_ | refine dt_bl ?_ | refine dt_non ?_ | refine dt_ty ?_ | refine dt_glo ?_
    | refine da_cons ?_ | refine da_nil ?_ | refine dtt_b ?_ | refine dtt_test ?_ | refine dtt_yes ?_ | refine dtt_not ?_ | refine dtt_and ?_ | refine dtt_or ?_ 
    | refine ds_unlAsg ?_ | refine ds_seq ?_ | refine ds_next ?_ | refine ds_ret ?_ | refine ds_retN ?_
    | refine dt_andV ?_ | refine dt_orV ?_ | refine dt_notV ?_ | refine dt_if ?_ | refine dt_chain opd_le opd_le ?_ | refine dt_chain opd_lt opd_lt ?_
    | refine dt_call0 ?_ | refine dt_prop ?_ | refine dt_make ?_ | refine dt_dget ?_ | refine dt_din ?_ | refine dt_dnotin ?_
    | refine (df_slL ?_).dt | refine do_none ?_ | refine do_some ?_ | refine (df_listVals ?_).dt | refine dt_stm ?_ | refine df_lst ?_ | refine df_cb caf_list ?_ | refine df_cb caf_listD ?_ | refine df_cb caf_dictD ?_ | refine df_cb caf_dictP ?_ | refine df_cb caf_sortedS ?_ | refine df_cb caf_sortedD ?_ | refine df_op opf_cat ?_ | refine df_listVals ?_ | refine df_make ?_ | refine df_slL ?_ | refine df_dnew ?_ | refine dt_lst ?_ | refine dt_tup ?_ | refine (df_dnew ?_).dt)
  | ((with_reducible refine dt_methS 0 (x := ?x0) (fs := ?f0) ?a1 ?a2 ?a3); (case a1 => rfl); (case a2 => rfl)) | (with_reducible refine dt_meth0 ?_)
  | (with_reducible refine dt_un und_neg ?_)
  | ((with_reducible refine dt_inO 0 (ds := ?d0) ?a1 ?a2); (case a1 => rfl)) | ((with_reducible refine dt_lenO 0 (ds := ?d0) ?a1 ?a2); (case a1 => rfl)) | ((with_reducible refine dt_lenO 1 (ds := ?d0) ?a1 ?a2); (case a1 => rfl))
  | ((with_reducible refine dm_popAt 0 (ds := ?d0) ?a1 ?a2); (case a1 => rfl)) | ((with_reducible refine dm_popAt 1 (ds := ?d0) ?a1 ?a2); (case a1 => rfl)) | (with_reducible refine DT.dm ?_) | walk_at "fop" | walk_at "fcb" | walk_at "fdi"
  | ((with_reducible refine ds_asgE ?a1 ?a2 ?a3); (case a1 => walk_at "fno"); (case a2 => simp [startG])) | ((with_reducible refine ds_asg ?a1 ?a2); (case a1 => walk_at "fno")) | ((with_reducible refine ds_asgT ?a1 ?a2 ?a3); (case a1 => walk_at "fno"); (case a2 => walk_at "fno")) | ((with_reducible refine ds_append 0 (ds := ?d0) ?a1 ?a2); (case a1 => rfl)) | ((with_reducible refine ds_append 1 (ds := ?d0) ?a1 ?a2); (case a1 => rfl)) | (with_reducible refine ds_expr ?_) | ((with_reducible refine ds_par ?a1 ?a2 ?a3); (case a1 => walk_at "fno"); (case a2 => walk_at "fno"))
  | ((with_reducible refine dg_tup ?a1 ?a2); (case a1 => rfl)) | (with_reducible refine dgs_cons ?_) | (with_reducible refine dgs_nil ?_) | (with_reducible refine lct ?_) | (with_reducible refine dct ?_)
  | ((with_reducible refine dg_name ?a1 ?a2); (case a1 => walk_at "fno"))
  | walk_at "ffld" | walk_at "fex" | walk_at "fkit")
local macro_rules | `(tactic| walk_at "fw") => `(tactic| repeat (first | walk_at "fw1" | (with_reducible refine ds_if ?_)))
local macro_rules | `(tactic| walk_at "fwn") => `(tactic| repeat walk_at "fw1")

section
variable {P : Program} {w : World} {K : PySem.W.Frag} {mg : Str → Option Value} {base : Heap}
def wt_Turns_init : WtI := fun ds kk _ => ∃ ss : List Str, ds = [sl ss] ∧ ss.length ≤ 30 ∧ (∀ s ∈ ss, isName s = true) ∧ kk [("order", sl ss)]
theorem ok_Turns_init (T : TX K mg) : Ok P w K mg base 3 (He.ma K (He.ga K "Turns") "__init__") ["self", "players"] (spI K "Turns" wt_Turns_init) := by
  obtain ⟨fd, F⟩ := T.def_ 13 (d := d_Turns_init)
  obtain ⟨tk_MAX_NAMES, g_MAX_NAMES⟩ := T.int 14 (x := "MAX_NAMES")
  have k_are_names := ok_are_names (P := P) (w := w) (base := base) T
  refine ⟨⟨fd, fnI F sc_Turns_init (by decide) (fun _ _ _ h => by obtain ⟨ss, rfl, h30, hs, hk⟩ := h; rfl) (fun cdv A outer s H E hr => ⟨_, (pss_cons (ps_if (PW.pt (pw_or (pt_not (pt_val (q_call k_are_names hr (T.glo 7) (pa_cons (pv 1) pa_nil)))) (pw_or1 (pt_cmpR op_gt (pe_callB (z_len K) (by rfl) (T.free 2) boot_len (pa_cons (pv 1) pa_nil)) (pe_glob (v := .int 30) rfl g_MAX_NAMES ⟨_, rfl⟩) (nomark _))))) (pss_one ps_never) pss_nil) (pss_one (ps_fld (pv 0) (pe_callTy (z_listof K) (by rfl) (T.free 4) (by decide +kernel) (pa_cons (pv 1) pa_nil)) rfl))), fun x ds kk ke h => ?_⟩), FunD.bindsN F fun _ _ _ _ _ _ us hl => match us, hl with | [_, _], _ => rfl⟩, F.kp⟩
  obtain ⟨ss, rfl, h30, hs, hk⟩ := h
  try dsimp only [cxK]
  walk_at "fw"
  have ha : ss.all isName = true := List.all_eq_true.mpr hs
  refine ⟨by omega, fun s m => Nat.le_trans (isName_len (hs s m)) (by decide), ?_⟩
  rw [ha]
  walk_at "fw"
  refine ⟨fun h => ?_, fun h => ?_⟩
  · refine ds_never (P := True) ?_
    rw [List.length_map] at h
    have := of_decide_eq_true h
    omega
  · walk_at "fw"
    refine ds_fldS 0 (T.cls 23) (T.noat 24) rfl (by decide) ?_
    walk_at "fw"
    exact hk
def wt_Turns_players : Wt := fun ds kk _ => ∃ ss : List Str, ds = [tn ss] ∧ kk (sl ss)
theorem ok_Turns_players (T : TX K mg) : Ok P w K mg base 1 (getter K (He.ga K "Turns") "players") ["self"] (spD K wt_Turns_players) := by
  obtain ⟨fd, F⟩ := T.def_ 14 (d := d_Turns_players)
  refine ⟨⟨fd, fnD F sc_Turns_players (fun _ _ _ h => by obtain ⟨ss, rfl, hk⟩ := h; rfl) (fun cdv A outer s H E hr => ⟨_, (pss_one (ps_ret (pe_callTy (z_listof K) (by rfl) (T.free 4) (by decide +kernel) (pa_cons (z_fld K (pv 0)) pa_nil)))), fun ds kk ke h => ?_⟩), FunD.bindsN F fun _ _ _ _ _ _ us hl => match us, hl with | [_], _ => rfl⟩, F.kp⟩
  obtain ⟨ss, rfl, hk⟩ := h
  try dsimp only [cxK]
  walk_at "fw"
  exact hk
def wt_Turns_len : Wt := fun ds kk _ => ∃ ss : List Str, ds = [tn ss] ∧ kk (.int (ss.length : Nat))
theorem ok_Turns_len (T : TX K mg) : Ok P w K mg base 1 (He.ma K (He.ga K "Turns") "__len__") ["self"] (spD K wt_Turns_len) := by
  obtain ⟨fd, F⟩ := T.def_ 15 (d := d_Turns_len)
  refine ⟨⟨fd, fnD F sc_Turns_len (fun _ _ _ h => by obtain ⟨ss, rfl, hk⟩ := h; rfl) (fun cdv A outer s H E hr => ⟨_, (pss_one (ps_ret (pe_callB (z_len K) (by rfl) (T.free 2) boot_len (pa_cons (z_fld K (pv 0)) pa_nil)))), fun ds kk ke h => ?_⟩), FunD.bindsN F fun _ _ _ _ _ _ us hl => match us, hl with | [_], _ => rfl⟩, F.kp⟩
  obtain ⟨ss, rfl, hk⟩ := h
  try dsimp only [cxK]
  walk_at "fw"
  rw [List.length_map]; exact hk
/-- a game, or one on the way -/
abbrev gmX (rs : List (Str × List Str)) (more : List (Str × D)) : D := .obj "Game" (("own_rankings", .dic (rks rs)) :: more)
theorem atI_0 {α : Type} (x : α) (xs : List α) : atI (x :: xs) 0 = some x := by
  unfold atI
  have e : ixN (x :: xs).length 0 = some 0 := by
    unfold ixN
    rw [List.length_cons]
    simp
  rw [e]; rfl
abbrev Fr (more : List (Str × D)) : Prop := more.lookup ("first_ranking" : Str) = none
theorem fr_look {d : D} {more : List (Str × D)} (h : Fr more) : ((("own_rankings" : Str), d) :: more).lookup ("first_ranking" : Str) = none := by
  rw [List.lookup_cons, show (("first_ranking" : Str) == "own_rankings") = false from by decide +kernel]; exact h
theorem all_tt {α : Type} (xs : List α) : (xs.map fun _ => true).all id = true := by
  rw [all_id]; exact List.all_eq_true.mpr fun _ _ => rfl
theorem map_tt {α : Type} (xs : List α) : (xs.map fun _ => true).map D.bl = xs.map fun _ => D.bl true := by rw [List.map_map]; rfl
def wt_Game_first_ranking : Wt := fun ds kk _ => ∃ (q : Str × List Str) (r : List (Str × List Str)) (more : List (Str × D)), ds = [gmX (q :: r) more] ∧ kk (rk q.2)
theorem ok_Game_first_ranking (T : TX K mg) : Ok P w K mg base 1 (He.ma K (He.ga K "Game") "first_ranking") ["self"] (spD K wt_Game_first_ranking) := by
  obtain ⟨fd, F⟩ := T.def_ 16 (d := d_Game_first_ranking)
  refine ⟨⟨fd, fnD F sc_Game_first_ranking (fun _ _ _ h => by obtain ⟨q, r, more, rfl, hk⟩ := h; rfl) (fun cdv A outer s H E hr => ⟨_, (pss_one (ps_ret (pe_ix (z_ixL K) (pe_listVals rfl (z_fld K (pv 0)) (by rfl) (T.free 4) (by decide +kernel)) pe_int (fun _ _ => rfl)))), fun ds kk ke h => ?_⟩), FunD.bindsN F fun _ _ _ _ _ _ us hl => match us, hl with | [_], _ => rfl⟩, F.kp⟩
  obtain ⟨q, r, more, rfl, hk⟩ := h
  try dsimp only [cxK]
  walk_at "fw"
  exact ⟨_, _, rk q.2, rfl, rfl, by unfold rks; rw [List.map_cons, List.map_cons]; exact atI_0 _ _, hk⟩
def wt_Game_rankings : Wt := fun ds kk _ => ∃ (rs : List (Str × List Str)) (more : List (Str × D)), ds = [gmX rs more] ∧ kk (.dic (rks rs))
theorem ok_Game_rankings (T : TX K mg) : Ok P w K mg base 1 (getter K (He.ga K "Game") "rankings") ["self"] (spD K wt_Game_rankings) := by
  obtain ⟨fd, F⟩ := T.def_ 17 (d := d_Game_rankings)
  refine ⟨⟨fd, fnD F sc_Game_rankings (fun _ _ _ h => by obtain ⟨rs, more, rfl, hk⟩ := h; rfl) (fun cdv A outer s H E hr => ⟨_, (pss_one (ps_ret (pe_callTy (call_dictD) (by rfl) (T.free 27) (by decide +kernel) (pa_cons (z_fld K (pv 0)) pa_nil)))), fun ds kk ke h => ?_⟩), FunD.bindsN F fun _ _ _ _ _ _ us hl => match us, hl with | [_], _ => rfl⟩, F.kp⟩
  obtain ⟨rs, more, rfl, hk⟩ := h
  try dsimp only [cxK]
  walk_at "fw"
  exact hk
def wt_Game_turns : Wt := fun ds kk _ => ∃ (rs : List (Str × List Str)) (ts : List Str), ds = [gm rs ts] ∧ kk (tn ts)
theorem ok_Game_turns (T : TX K mg) : Ok P w K mg base 1 (getter K (He.ga K "Game") "turns") ["self"] (spD K wt_Game_turns) := by
  obtain ⟨fd, F⟩ := T.def_ 18 (d := d_Game_turns)
  refine ⟨⟨fd, fnD F sc_Game_turns (fun _ _ _ h => by obtain ⟨rs, ts, rfl, hk⟩ := h; rfl) (fun cdv A outer s H E hr => ⟨_, (pss_one (ps_ret (z_fld K (pv 0)))), fun ds kk ke h => ?_⟩), FunD.bindsN F fun _ _ _ _ _ _ us hl => match us, hl with | [_], _ => rfl⟩, F.kp⟩
  obtain ⟨rs, ts, rfl, hk⟩ := h
  try dsimp only [cxK]
  walk_at "fw"
  exact hk
def wt_Game_alternatives : Wt := fun ds kk _ => ∃ (q : Str × List Str) (r : List (Str × List Str)) (more : List (Str × D)), ds = [gmX (q :: r) more] ∧ Fr more ∧ q.2.length ≤ 30 ∧ (∀ s ∈ q.2, isName s = true) ∧ kk (cm (srt q.2))
theorem ok_Game_alternatives (T : TX K mg) : Ok P w K mg base 6 (getter K (He.ga K "Game") "alternatives") ["self"] (spD K wt_Game_alternatives) := by
  obtain ⟨fd, F⟩ := T.def_ 19 (d := d_Game_alternatives)
  have k_Game_first_ranking := ok_Game_first_ranking (P := P) (w := w) (base := base) T
  have k_as_committee := ok_as_committee (P := P) (w := w) (base := base) T
  refine ⟨⟨fd, fnD F sc_Game_alternatives (fun _ _ _ h => by obtain ⟨q, r, more, rfl, hmr, h30, hs, hk⟩ := h; rfl) (fun cdv A outer s H E hr => ⟨_, (pss_one (ps_ret (q_call k_as_committee hr (T.glo 29) (pa_cons (q_meth0 k_Game_first_ranking (pv 0) (T.cls 25) (T.meth 30) hr) pa_nil)))), fun ds kk ke h => ?_⟩), FunD.bindsN F fun _ _ _ _ _ _ us hl => match us, hl with | [_], _ => rfl⟩, F.kp⟩
  obtain ⟨q, r, more, rfl, hmr, h30, hs, hk⟩ := h
  try dsimp only [cxK]
  walk_at "fw"
  refine ⟨fr_look hmr, ?_⟩
  walk_at "fw"
  exact ⟨h30, hs, hk⟩
def wt_Game_ranking_of : Wt := fun ds kk _ => ∃ (rs : List (Str × List Str)) (more : List (Str × D)) (p : Str), ds = [gmX rs more, .str p] ∧ isName p = true ∧ p ∈ rs.map Prod.fst ∧ kk (rk (lk rs p))
theorem ok_Game_ranking_of (T : TX K mg) : Ok P w K mg base 2 (He.ma K (He.ga K "Game") "ranking_of") ["self", "player"] (spD K wt_Game_ranking_of) := by
  obtain ⟨fd, F⟩ := T.def_ 20 (d := d_Game_ranking_of)
  have k_is_name := ok_is_name (P := P) (w := w) (base := base) T
  refine ⟨⟨fd, fnD F sc_Game_ranking_of (fun _ _ _ h => by obtain ⟨rs, more, p, rfl, hn, hp, hk⟩ := h; rfl) (fun cdv A outer s H E hr => ⟨_, (pss_cons (ps_if (PW.pt (pw_or (pt_not (pt_val (q_call k_is_name hr (T.glo 5) (pa_cons (pv 1) pa_nil)))) (pw_or1 (pt_cmp (q_dnotin hr (pv 1) (z_fld K (pv 0))) rfl)))) (pss_one ps_never) pss_nil) (pss_one (ps_ret (q_dget hr (z_fld K (pv 0)) (pv 1) (fun _ _ => rfl))))), fun ds kk ke h => ?_⟩), FunD.bindsN F fun _ _ _ _ _ _ us hl => match us, hl with | [_, _], _ => rfl⟩, F.kp⟩
  obtain ⟨rs, more, p, rfl, hn, hp, hk⟩ := h
  try dsimp only [cxK]
  walk_at "fw"
  refine ⟨Nat.le_trans (isName_len hn) (by decide), ?_⟩
  rw [hn]
  walk_at "fw"
  refine ⟨_, .inr p, rfl, rfl, ?_⟩
  rw [getD_rks_is, decide_eq_true hp]
  walk_at "fw"
  exact ⟨_, .inr p, _, rfl, rfl, getD_rks hp, hk⟩
end
end Fw

set_option maxHeartbeats 4000000
/-! The program's defs: turns, games, groups. -/
namespace Fw
open PySem PySem.Spec PyProof.Rows L2
local macro_rules | `(tactic| walk_at "fno") => `(tactic| first | (intro o ho; exact absurd ho (List.not_mem_nil)) | (simp; done) | (intro o ho; simp at ho; (try rcases ho with ho | ho) <;> subst ho <;> decide))
local macro_rules | `(tactic| walk_at "fop") => `(tactic| with_reducible first
  | refine dt_op opd_add ?_ | refine dt_op opd_sub ?_ | refine dt_op opd_mul ?_ | refine dt_op opd_fdivN ?_ | refine dt_op opd_mod ?_ | refine dt_op opd_pow ?_
  | refine dt_op opd_lt ?_ | refine dt_op opd_le ?_ | refine dt_op opd_gt ?_ | refine dt_op opd_ge ?_
  | refine dt_op opd_eq ?_ | refine dt_op opd_ne ?_ | refine dt_op opd_in ?_ | refine dt_op opd_in_sign ?_ | refine dt_op opd_add_str ?_ | refine dt_op opd_isN ?_ | refine dt_op opd_notN ?_
  | refine dt_op opd_ixL ?_ | refine dt_op opd_ixT ?_ | refine dt_op opf_cat.op ?_ | refine dt_op opf_rep.op ?_
  | refine dt_op opd_eqD ?_ | refine dt_op opd_neD ?_ | refine dt_op opd_eqDn ?_ | refine dt_op opd_inI ?_ | refine dt_op opd_eqI ?_ | refine dt_op opd_binI ?_ | refine dt_op opd_getI ?_)
local macro_rules | `(tactic| walk_at "fcb") => `(tactic| with_reducible first
  | refine dt_cb cad_lenA ?_ | refine dt_cb cad_lenI ?_ | refine dt_cb cad_isi ?_ | refine dt_cb cad_lenDR ?_ | refine dt_cb cad_max ?_ | refine dt_cb cad_min ?_ | refine dt_cb cad_all ?_ | refine dt_cb cad_any ?_ | refine dt_cb cad_sum ?_ | refine dt_cb cad_max2 ?_ | refine dt_cb cad_min2 ?_ | refine dt_cb cad_int1 ?_
  | refine dt_cb caf_list.ca ?_ | refine dt_cb caf_listD.ca ?_ | refine dt_cb caf_dictD.ca ?_ | refine dt_cb caf_dictP.ca ?_ | refine dt_cb caf_sortedS.ca ?_ | refine dt_cb caf_sortedD.ca ?_)
local macro_rules | `(tactic| walk_at "fex") => `(tactic| first
  | (refine ⟨(rfl : D.non = D.non), ?_⟩) | (refine ⟨_, .lst _, ?_⟩) | (refine ⟨_, .scr _, ?_⟩) | (refine ⟨_, _, _, rfl, rfl, rfl, ?_⟩) | (refine ⟨_, _, rfl, rfl, ?_⟩) | (refine ⟨_, rfl, ?_⟩) | (refine ⟨_, _, rfl, ?_⟩) | (refine ⟨_, _, _, rfl, ?_⟩) | (refine ⟨_, _, _, _, rfl, ?_⟩) | (refine ⟨_, _, _, _, _, rfl, ?_⟩) | (refine ⟨_, _, _, _, _, _, rfl, ?_⟩) | (refine ⟨_, .inl rfl, rfl, flat_strs _, ?_⟩) | (refine ⟨_, .inl rfl, ?_⟩) | (refine ⟨rfl, rfl, rfl, ?_⟩) | (refine ⟨(by simp only [List.length_cons, List.length_nil]; decide : List.length _ ≤ sizeLine), ?_⟩) | (refine ⟨fun _ => ?_, fun h => absurd h (by decide)⟩) | (refine ⟨fun h => absurd h (by decide), fun _ => ?_⟩))
local macro_rules | `(tactic| walk_at "fdi") => `(tactic| with_reducible first
  | refine di_list ?_ | refine di_range1 ?_ | refine di_range2 ?_ | refine di_range3 ?_ | refine di_str ?_ | refine di_items ?_ | refine di_values ?_ | refine di_keys ?_ | refine di_keysM ?_ | refine di_enum ?_)
local macro_rules | `(tactic| walk_at "ffld") => `(tactic| first
  | ((with_reducible refine fld_Committee_own_members ‹_› (dt_var (d := .obj "Committee" ?fs0) ?a1 ?a2)); (case a1 => rfl); refine ⟨_, _, rfl, rfl, ?_⟩)
  | ((with_reducible refine fld_Ranking_order ‹_› (dt_var (d := .obj "Ranking" ?fs0) ?a1 ?a2)); (case a1 => rfl); refine ⟨_, _, rfl, rfl, ?_⟩)
  | ((with_reducible refine fld_Ranking_places ‹_› (dt_var (d := .obj "Ranking" ?fs0) ?a1 ?a2)); (case a1 => rfl); refine ⟨_, _, rfl, rfl, ?_⟩)
  | ((with_reducible refine fld_Turns_order ‹_› (dt_var (d := .obj "Turns" ?fs0) ?a1 ?a2)); (case a1 => rfl); refine ⟨_, _, rfl, rfl, ?_⟩)
  | ((with_reducible refine fld_Game_own_rankings ‹_› (dt_var (d := .obj "Game" ?fs0) ?a1 ?a2)); (case a1 => rfl); refine ⟨_, _, rfl, rfl, ?_⟩)
  | ((with_reducible refine fld_Game_own_turns ‹_› (dt_var (d := .obj "Game" ?fs0) ?a1 ?a2)); (case a1 => rfl); refine ⟨_, _, rfl, rfl, ?_⟩)
  | ((with_reducible refine fld_Striker_own_target ‹_› (dt_var (d := .obj "Striker" ?fs0) ?a1 ?a2)); (case a1 => rfl); refine ⟨_, _, rfl, rfl, ?_⟩)
  | ((with_reducible refine fld_Keeper_own_target ‹_› (dt_var (d := .obj "Keeper" ?fs0) ?a1 ?a2)); (case a1 => rfl); refine ⟨_, _, rfl, rfl, ?_⟩))
local macro_rules | `(tactic| walk_at "fkit") => `(tactic| first
  | refine ⟨_, _, _, _, _, rfl, .str _, .ty _, kit_str_str ‹_›, ?_⟩
  | refine ⟨_, _, _, _, _, rfl, .int _, .ty _, kit_int_int ‹_›, ?_⟩
  | refine ⟨_, _, _, _, _, rfl, .lst _, .ty _, kit_list_list ‹_›, ?_⟩
  | refine ⟨_, _, _, _, _, rfl, .dic _, .ty _, kit_dict_dict ‹_›, ?_⟩
  | refine ⟨_, _, _, _, _, rfl, .obj _ _ (ins_Committee ‹_›), .glo _, kit_Committee_Committee ‹_›, ?_⟩
  | refine ⟨_, _, _, _, _, rfl, .obj _ _ (ins_Ranking ‹_›), .glo _, kit_Ranking_Ranking ‹_›, ?_⟩
  | refine ⟨_, _, _, _, _, rfl, .obj _ _ (ins_Turns ‹_›), .glo _, kit_Turns_Turns ‹_›, ?_⟩
  | refine ⟨_, _, _, _, _, rfl, .obj _ _ (ins_Game ‹_›), .glo _, kit_Game_Game ‹_›, ?_⟩
  | refine ⟨_, _, _, _, _, rfl, .int _, .ty _, kit_int_bool ‹_›, ?_⟩
  | refine ⟨_, _, _, _, _, rfl, .bl _, .ty _, kit_bool_int ‹_›, ?_⟩
  | refine ⟨_, _, _, _, _, rfl, .bl _, .ty _, kit_bool_bool ‹_›, ?_⟩)
local macro_rules | `(tactic| walk_at "fw1") => `(tactic| first
  | ((with_reducible refine dt_var (d := ?d0) ?a1 ?a2); (case a1 => rfl))
  | (with_reducible first
    | refine dt_int ?_ | refine dt_str ?_ | refine dt_bl ?_ | refine dt_non ?_ | refine dt_ty ?_ | refine dt_glo ?_
    | refine da_cons ?_ | refine da_nil ?_ | refine dtt_b ?_ | refine dtt_test ?_ | refine dtt_yes ?_ | refine dtt_not ?_ | refine dtt_and ?_ | refine dtt_or ?_ 
    | refine ds_unlAsg ?_ | refine ds_seq ?_ | refine ds_next ?_ | refine ds_ret ?_ | refine ds_retN ?_
    | refine dt_andV ?_ | refine dt_orV ?_ | refine dt_notV ?_ | refine dt_if ?_ | refine dt_chain opd_le opd_le ?_ | refine dt_chain opd_lt opd_lt ?_
    | refine dt_call0 ?_ | refine dt_prop ?_ | refine dt_make ?_ | refine dt_dget ?_ | refine dt_din ?_ | refine dt_dnotin ?_
    | refine (df_slL ?_).dt | refine do_none ?_ | refine do_some ?_ | refine (df_listVals ?_).dt | refine dt_stm ?_ | refine df_lst ?_ | refine df_cb caf_list ?_ | refine df_cb caf_listD ?_ | refine df_cb caf_dictD ?_ | refine df_cb caf_dictP ?_ | refine df_cb caf_sortedS ?_ | refine df_cb caf_sortedD ?_ | refine df_op opf_cat ?_ | refine df_listVals ?_ | refine df_make ?_ | refine df_slL ?_ | refine df_dnew ?_ | refine dt_lst ?_ | refine dt_tup ?_ | refine (df_dnew ?_).dt)
  | ((with_reducible refine dt_methS 0 (x := ?x0) (fs := ?f0) ?a1 ?a2 ?a3); (case a1 => rfl); (case a2 => rfl)) | (with_reducible refine dt_meth0 ?_)
  | (with_reducible refine dt_un und_neg ?_)
  | ((with_reducible refine dt_inO 0 (ds := ?d0) ?a1 ?a2); (case a1 => rfl)) | ((with_reducible refine dt_lenO 0 (ds := ?d0) ?a1 ?a2); (case a1 => rfl)) | ((with_reducible refine dt_lenO 1 (ds := ?d0) ?a1 ?a2); (case a1 => rfl))
  | ((with_reducible refine dm_popAt 0 (ds := ?d0) ?a1 ?a2); (case a1 => rfl)) | ((with_reducible refine dm_popAt 1 (ds := ?d0) ?a1 ?a2); (case a1 => rfl)) | (with_reducible refine DT.dm ?_) | walk_at "fop" | walk_at "fcb" | walk_at "fdi"
  | ((with_reducible refine ds_asgE ?a1 ?a2 ?a3); (case a1 => walk_at "fno"); (case a2 => simp [startG])) | ((with_reducible refine ds_asg ?a1 ?a2); (case a1 => walk_at "fno")) | ((with_reducible refine ds_asgT ?a1 ?a2 ?a3); (case a1 => walk_at "fno"); (case a2 => walk_at "fno")) | ((with_reducible refine ds_append 0 (ds := ?d0) ?a1 ?a2); (case a1 => rfl)) | ((with_reducible refine ds_append 1 (ds := ?d0) ?a1 ?a2); (case a1 => rfl)) | (with_reducible refine ds_expr ?_) | ((with_reducible refine ds_par ?a1 ?a2 ?a3); (case a1 => walk_at "fno"); (case a2 => walk_at "fno"))
  | ((with_reducible refine dg_tup ?a1 ?a2); (case a1 => rfl)) | (with_reducible refine dgs_cons ?_) | (with_reducible refine dgs_nil ?_) | (with_reducible refine lct ?_) | (with_reducible refine dct ?_)
  | ((with_reducible refine dg_name ?a1 ?a2); (case a1 => walk_at "fno"))
  | walk_at "ffld" | walk_at "fex" | walk_at "fkit")
local macro_rules | `(tactic| walk_at "fw") => `(tactic| repeat (first | walk_at "fw1" | (with_reducible refine ds_if ?_)))
local macro_rules | `(tactic| walk_at "fwn") => `(tactic| repeat walk_at "fw1")

section
variable {P : Program} {w : World} {K : PySem.W.Frag} {mg : Str → Option Value} {base : Heap}
def wt_Game_check_turns : Wt := fun ds kk _ => ∃ (q : Str × List Str) (r : List (Str × List Str)) (more : List (Str × D)) (ts : List Str), ds = [gmX (q :: r) more, tn ts] ∧ Fr more ∧ ts.length ≤ 30 ∧ q.2.length ≤ 30 ∧ ts.length ≤ q.2.length ∧ (∀ t ∈ ts, t ∈ (q :: r).map Prod.fst) ∧ kk .non
theorem ok_Game_check_turns (T : TX K mg) : Ok P w K mg base 3 (He.ma K (He.ga K "Game") "check_turns") ["self", "turns"] (spD K wt_Game_check_turns) := by
  obtain ⟨fd, F⟩ := T.def_ 21 (d := d_Game_check_turns)
  have k_Game_first_ranking := ok_Game_first_ranking (P := P) (w := w) (base := base) T
  have k_Ranking_len := ok_Ranking_len (P := P) (w := w) (base := base) T
  have k_Turns_len := ok_Turns_len (P := P) (w := w) (base := base) T
  have k_Turns_players := ok_Turns_players (P := P) (w := w) (base := base) T
  refine ⟨⟨fd, fnD F sc_Game_check_turns (fun _ _ _ h => by obtain ⟨q, r, more, ts, rfl, hmr, hl, hl2, hle, hm, hk⟩ := h; rfl) (fun cdv A outer s H E hr => ⟨_, (pss_cons (ps_if (PW.pt (pw_or (pt_not (pt_val (pe_callB (z_isi K) (by rfl) (T.free 0) (by decide +kernel) (pa_cons (pv 1) (pa_cons (pe_glob (v := .ref (He.ga K "Turns")) rfl (T.glo 31) rfl) pa_nil))))) (pw_or1 (pt_cmpR op_gt (q_len k_Turns_len (T.meth 32) hr (T.free 2) (pa_cons (pv 1) pa_nil)) (q_len k_Ranking_len (T.meth 33) hr (T.free 2) (pa_cons (q_meth0 k_Game_first_ranking (pv 0) (T.cls 25) (T.meth 30) hr) pa_nil)) (nomark _))))) (pss_one ps_never) pss_nil) (pss_one (ps_if (pt_not (pt_val (pe_callB (z_all K rfl) (by rfl) (T.free 3) (by decide +kernel) (pa_cons (pe_lc (own := [("player", 2)]) rfl sc_Game_check_turns.nd (z_plist K (q_prop k_Turns_players (pv 1) (T.cls 23) (T.prop 34) hr)) (blkOk_by (own := [("player", 2)]) (N := N_Game_check_turns) (sc := defScope s_Game_check_turns) (by decide +kernel)) (fun _ _ _ _ _ => (pg_name (i := 2) sc_Game_check_turns.nd rfl (by first | exact Or.inl rfl | exact Or.inr rfl))) (fun _ _ _ _ _ => pts_nil) (fun _ _ _ _ _ => (pe_cmp (q_din hr (pv 2) (z_fld K (pv 0))) rfl))) pa_nil)))) (pss_one ps_never) pss_nil))), fun ds kk ke h => ?_⟩), FunD.bindsN F fun _ _ _ _ _ _ us hl => match us, hl with | [_, _], _ => rfl⟩, F.kp⟩
  obtain ⟨q, r, more, ts, rfl, hmr, hl, hl2, hle, hm, hk⟩ := h
  try dsimp only [cxK]
  walk_at "fw"
  refine ⟨⟨by omega, by omega⟩, ?_⟩
  walk_at "fw"
  refine ⟨fr_look hmr, ?_⟩
  walk_at "fw"
  refine ⟨⟨by omega, by omega⟩, ?_⟩
  walk_at "fw"
  refine ⟨fun h => absurd (of_decide_eq_true h) (by omega), fun _ => ?_⟩
  walk_at "fw"
  refine (df_lcM [2] D.str (fun _ => .bl true) (fun _ _ _ => rfl) (by decide) (by walk_at "fno") ?_).dt
  walk_at "fw"
  refine ⟨szOf (by omega), fun s hs => ?_, ?_⟩
  · walk_at "fw"
    refine ⟨_, .inr s, rfl, rfl, ?_⟩
    rw [getD_rks_is, decide_eq_true (hm s hs)]
  · walk_at "fw"
    refine ⟨ts.map fun _ => true, by rw [map_tt]; rfl, ?_⟩
    rw [all_tt]
    walk_at "fw"
    exact hk
/-- rankings that make a game -/
structure Rks (rs : List (Str × List Str)) : Prop where
  ne : rs ≠ []
  len : rs.length ≤ 30
  nd : (rs.map Prod.fst).Nodup
  name : ∀ p ∈ rs, isName p.1 = true
  le : ∀ p ∈ rs, p.2.length ≤ 30
  names : ∀ p ∈ rs, ∀ s ∈ p.2, isName s = true
  same : ∀ p ∈ rs, ∀ q ∈ rs, srt p.2 = srt q.2
def wt_check_rankings : Wt := fun ds kk _ => ∃ rs : List (Str × List Str), ds = [.dic (rks rs)] ∧ Rks rs ∧ kk .non
theorem ok_check_rankings (T : TX K mg) : Ok P w K mg base 6 (He.ga K "check_rankings") ["rankings"] (spD K wt_check_rankings) := by
  obtain ⟨fd, F⟩ := T.def_ 22 (d := d_check_rankings)
  have k_Committee_eq := ok_Committee_eq (P := P) (w := w) (base := base) T
  have k_as_committee := ok_as_committee (P := P) (w := w) (base := base) T
  have k_is_name := ok_is_name (P := P) (w := w) (base := base) T
  refine ⟨⟨fd, fnD F sc_check_rankings (fun _ _ _ h => by obtain ⟨rs, rfl, hr1, hk⟩ := h; rfl) (fun cdv A outer s H E hr => ⟨_, (pss_cons (ps_if (PW.pt (pw_or (pt_not (pt_val (pe_callB (z_isi K) (by rfl) (T.free 0) (by decide +kernel) (pa_cons (pv 0) (pa_cons (pe_bltn (v := .ty "dict") rfl (T.free 27) (by decide +kernel) rfl) pa_nil))))) (pw_or1 (pt_cmpR (op_eqDn hr) (pv 0) pe_dnewK (nomark _))))) (pss_one ps_never) pss_nil) (pss_cons (ps_if (pt_not (pt_val (pe_callB (z_all K rfl) (by rfl) (T.free 3) (by decide +kernel) (pa_cons (pe_unl (pe_lc (own := [("player", 1), ("ranking", 2)]) rfl sc_check_rankings.nd (pi_items (pe_lk (pv 0))) (blkOk_by (own := [("player", 1), ("ranking", 2)]) (N := N_check_rankings) (sc := defScope s_check_rankings) (by decide +kernel)) (fun _ _ _ _ _ => (q_tup (n := 2) K rfl rfl (pgs_cons (pg_name (i := 1) sc_check_rankings.nd rfl (by first | exact Or.inl rfl | exact Or.inr rfl)) (pgs_cons (pg_name (i := 2) sc_check_rankings.nd rfl (by first | exact Or.inl rfl | exact Or.inr rfl)) pgs_nil)))) (fun _ _ _ _ _ => pts_nil) (fun _ _ _ _ _ => (pe_and (q_call k_is_name hr (T.glo 5) (pa_cons (pv 1) pa_nil)) (pe_one (pe_callB (z_isi K) (by rfl) (T.free 0) (by decide +kernel) (pa_cons (pv 2) (pa_cons (pe_glob (v := .ref (He.ga K "Ranking")) rfl (T.glo 35) rfl) pa_nil)))))))) pa_nil)))) (pss_one ps_never) pss_nil) (pss_cons (ps_set (i := 3) sc_check_rankings.nd rfl (by first | exact Or.inl rfl | exact Or.inr rfl) (pe_ix (z_ixL K) (pe_listVals rfl (pv 0) (by rfl) (T.free 4) (by decide +kernel)) pe_int (fun _ _ => rfl))) (pss_one (ps_if (pt_not (pt_val (pe_callB (z_all K rfl) (by rfl) (T.free 3) (by decide +kernel) (pa_cons (pe_unl (pe_lc (own := [("ranking", 2)]) rfl sc_check_rankings.nd (pi_values (pe_lk (pv 0))) (blkOk_by (own := [("ranking", 2)]) (N := N_check_rankings) (sc := defScope s_check_rankings) (by decide +kernel)) (fun _ _ _ _ _ => (pg_name (i := 2) sc_check_rankings.nd rfl (by first | exact Or.inl rfl | exact Or.inr rfl))) (fun _ _ _ _ _ => pts_nil) (fun _ _ _ _ _ => (pe_cmpR (q_eq k_Committee_eq (T.meth 36) hr) (q_call k_as_committee hr (T.glo 29) (pa_cons (pv 2) pa_nil)) (q_call k_as_committee hr (T.glo 29) (pa_cons (pv 3) pa_nil)) (nomark _))))) pa_nil)))) (pss_one ps_never) pss_nil))))), fun ds kk ke h => ?_⟩), FunD.bindsN F fun _ _ _ _ _ _ us hl => match us, hl with | [_], _ => rfl⟩, F.kp⟩
  obtain ⟨rs, rfl, hr1, hk⟩ := h
  try dsimp only [cxK]
  walk_at "fw"
  have h30 := hr1.len
  refine ⟨by unfold rks; rw [List.length_map]; exact fun z => hr1.ne (List.length_eq_zero_iff.mp z), ?_⟩
  walk_at "fw"
  refine (df_lcLM ([1] ++ ([2] ++ [])) (fun p : Str × List Str => D.tup [.str p.1, rk p.2]) (fun _ => .bl true) (fun _ _ _ => rfl) (by decide) (by walk_at "fno") ?_).dt
  walk_at "fw"
  refine ⟨rs, by unfold rks; rw [List.map_map]; rfl, szOf (by omega), fun p hp => ?_, ?_⟩
  · walk_at "fw"
    refine ⟨Nat.le_trans (isName_len (hr1.name p hp)) (by decide), ?_⟩
    rw [hr1.name p hp]
    walk_at "fw"
    rfl
  · walk_at "fw"
    refine ⟨rs.map fun _ => true, by rw [map_tt]; rfl, ?_⟩
    rw [all_tt]
    walk_at "fw"
    obtain ⟨q, r, rfl⟩ := List.exists_cons_of_ne_nil hr1.ne
    refine ⟨_, _, rk q.2, rfl, rfl, by unfold rks; rw [List.map_cons, List.map_cons]; exact atI_0 _ _, ?_⟩
    walk_at "fw"
    refine (df_lcLM [2] (fun p : Str × List Str => rk p.2) (fun _ => .bl true) (fun _ _ _ => rfl) (by decide) (by walk_at "fno") ?_).dt
    walk_at "fw"
    refine ⟨q :: r, by unfold rks; rw [List.map_map]; rfl, szOf (by omega), fun p hp => ?_, ?_⟩
    · walk_at "fw"
      refine ⟨hr1.le p hp, hr1.names p hp, ?_⟩
      walk_at "fw"
      refine ⟨hr1.le q List.mem_cons_self, hr1.names q List.mem_cons_self, ?_⟩
      walk_at "fw"
      refine ⟨fun s h => hr1.names p hp s (srt_mem.mp h), fun s h => hr1.names q List.mem_cons_self s (srt_mem.mp h), ?_⟩
      rw [decide_eq_true (hr1.same p hp q List.mem_cons_self)]
      exact ⟨_, rfl, rfl⟩
    · walk_at "fw"
      refine ⟨(q :: r).map fun _ => true, by rw [map_tt]; rfl, ?_⟩
      rw [all_tt]
      walk_at "fw"
      exact hk
/-- by the players -/
noncomputable def srs (rs : List (Str × List Str)) : List (Str × List Str) := (srt (rs.map Prod.fst)).map fun p => (p, lk rs p)
theorem lk_mem {rs : List (Str × List Str)} {p : Str} (h : p ∈ rs.map Prod.fst) : (p, lk rs p) ∈ rs := by
  induction rs with
  | nil => cases h
  | cons q r ih =>
    unfold lk
    rw [List.lookup_cons]
    by_cases e : q.1 = p
    · subst e
      rw [beq_self_eq_true]; exact List.mem_cons_self
    · have hb : (p == q.1) = false := by
        rw [beq_eq_false_iff_ne]; exact fun z => e z.symm
      rw [hb]
      have hr : p ∈ r.map Prod.fst := by
        rcases List.mem_cons.mp (show p ∈ q.1 :: r.map Prod.fst from h) with z | z
        · exact absurd z.symm e
        · exact z
      exact List.mem_cons_of_mem _ (ih hr)
theorem srs_mem {rs : List (Str × List Str)} {q : Str × List Str} (h : q ∈ srs rs) : q ∈ rs := by
  obtain ⟨p, hp, rfl⟩ := List.mem_map.mp h
  exact lk_mem (srt_mem.mp hp)
theorem srs_keys (rs : List (Str × List Str)) : (srs rs).map Prod.fst = srt (rs.map Prod.fst) := by
  unfold srs
  rw [List.map_map]
  exact List.map_id _
theorem srs_ne {rs : List (Str × List Str)} (h : Rks rs) : srs rs ≠ [] := fun z => by
  have e := srs_keys rs
  rw [z] at e
  have l := srt_len h.nd
  rw [← e, List.length_map, List.length_map] at l
  exact h.ne (List.length_eq_zero_iff.mp l.symm)
end
end Fw

set_option maxHeartbeats 4000000
/-! The program's defs: turns, games, groups. -/
namespace Fw
open PySem PySem.Spec PyProof.Rows L2
local macro_rules | `(tactic| walk_at "fno") => `(tactic| first | (intro o ho; exact absurd ho (List.not_mem_nil)) | (simp; done) | (intro o ho; simp at ho; (try rcases ho with ho | ho) <;> subst ho <;> decide))
local macro_rules | `(tactic| walk_at "fop") => `(tactic| with_reducible first
  | refine dt_op opd_add ?_ | refine dt_op opd_sub ?_ | refine dt_op opd_mul ?_ | refine dt_op opd_fdivN ?_ | refine dt_op opd_mod ?_ | refine dt_op opd_pow ?_
  | refine dt_op opd_lt ?_ | refine dt_op opd_le ?_ | refine dt_op opd_gt ?_ | refine dt_op opd_ge ?_
  | refine dt_op opd_eq ?_ | refine dt_op opd_ne ?_ | refine dt_op opd_in ?_ | refine dt_op opd_in_sign ?_ | refine dt_op opd_add_str ?_ | refine dt_op opd_isN ?_ | refine dt_op opd_notN ?_
  | refine dt_op opd_ixL ?_ | refine dt_op opd_ixT ?_ | refine dt_op opf_cat.op ?_ | refine dt_op opf_rep.op ?_
  | refine dt_op opd_eqD ?_ | refine dt_op opd_neD ?_ | refine dt_op opd_eqDn ?_ | refine dt_op opd_inI ?_ | refine dt_op opd_eqI ?_ | refine dt_op opd_binI ?_ | refine dt_op opd_getI ?_)
local macro_rules | `(tactic| walk_at "fcb") => `(tactic| with_reducible first
  | refine dt_cb cad_lenA ?_ | refine dt_cb cad_lenI ?_ | refine dt_cb cad_isi ?_ | refine dt_cb cad_lenDR ?_ | refine dt_cb cad_max ?_ | refine dt_cb cad_min ?_ | refine dt_cb cad_all ?_ | refine dt_cb cad_any ?_ | refine dt_cb cad_sum ?_ | refine dt_cb cad_max2 ?_ | refine dt_cb cad_min2 ?_ | refine dt_cb cad_int1 ?_
  | refine dt_cb caf_list.ca ?_ | refine dt_cb caf_listD.ca ?_ | refine dt_cb caf_dictD.ca ?_ | refine dt_cb caf_dictP.ca ?_ | refine dt_cb caf_sortedS.ca ?_ | refine dt_cb caf_sortedD.ca ?_)
local macro_rules | `(tactic| walk_at "fex") => `(tactic| first
  | (refine ⟨(rfl : D.non = D.non), ?_⟩) | (refine ⟨_, .lst _, ?_⟩) | (refine ⟨_, .scr _, ?_⟩) | (refine ⟨_, _, _, rfl, rfl, rfl, ?_⟩) | (refine ⟨_, _, rfl, rfl, ?_⟩) | (refine ⟨_, rfl, ?_⟩) | (refine ⟨_, _, rfl, ?_⟩) | (refine ⟨_, _, _, rfl, ?_⟩) | (refine ⟨_, _, _, _, rfl, ?_⟩) | (refine ⟨_, _, _, _, _, rfl, ?_⟩) | (refine ⟨_, _, _, _, _, _, rfl, ?_⟩) | (refine ⟨_, .inl rfl, rfl, flat_strs _, ?_⟩) | (refine ⟨_, .inl rfl, ?_⟩) | (refine ⟨rfl, rfl, rfl, ?_⟩) | (refine ⟨(by simp only [List.length_cons, List.length_nil]; decide : List.length _ ≤ sizeLine), ?_⟩) | (refine ⟨fun _ => ?_, fun h => absurd h (by decide)⟩) | (refine ⟨fun h => absurd h (by decide), fun _ => ?_⟩))
local macro_rules | `(tactic| walk_at "fdi") => `(tactic| with_reducible first
  | refine di_list ?_ | refine di_range1 ?_ | refine di_range2 ?_ | refine di_range3 ?_ | refine di_str ?_ | refine di_items ?_ | refine di_values ?_ | refine di_keys ?_ | refine di_keysM ?_ | refine di_enum ?_)
local macro_rules | `(tactic| walk_at "ffld") => `(tactic| first
  | ((with_reducible refine fld_Committee_own_members ‹_› (dt_var (d := .obj "Committee" ?fs0) ?a1 ?a2)); (case a1 => rfl); refine ⟨_, _, rfl, rfl, ?_⟩)
  | ((with_reducible refine fld_Ranking_order ‹_› (dt_var (d := .obj "Ranking" ?fs0) ?a1 ?a2)); (case a1 => rfl); refine ⟨_, _, rfl, rfl, ?_⟩)
  | ((with_reducible refine fld_Ranking_places ‹_› (dt_var (d := .obj "Ranking" ?fs0) ?a1 ?a2)); (case a1 => rfl); refine ⟨_, _, rfl, rfl, ?_⟩)
  | ((with_reducible refine fld_Turns_order ‹_› (dt_var (d := .obj "Turns" ?fs0) ?a1 ?a2)); (case a1 => rfl); refine ⟨_, _, rfl, rfl, ?_⟩)
  | ((with_reducible refine fld_Game_own_rankings ‹_› (dt_var (d := .obj "Game" ?fs0) ?a1 ?a2)); (case a1 => rfl); refine ⟨_, _, rfl, rfl, ?_⟩)
  | ((with_reducible refine fld_Game_own_turns ‹_› (dt_var (d := .obj "Game" ?fs0) ?a1 ?a2)); (case a1 => rfl); refine ⟨_, _, rfl, rfl, ?_⟩)
  | ((with_reducible refine fld_Striker_own_target ‹_› (dt_var (d := .obj "Striker" ?fs0) ?a1 ?a2)); (case a1 => rfl); refine ⟨_, _, rfl, rfl, ?_⟩)
  | ((with_reducible refine fld_Keeper_own_target ‹_› (dt_var (d := .obj "Keeper" ?fs0) ?a1 ?a2)); (case a1 => rfl); refine ⟨_, _, rfl, rfl, ?_⟩))
local macro_rules | `(tactic| walk_at "fkit") => `(tactic| first
  | refine ⟨_, _, _, _, _, rfl, .str _, .ty _, kit_str_str ‹_›, ?_⟩
  | refine ⟨_, _, _, _, _, rfl, .int _, .ty _, kit_int_int ‹_›, ?_⟩
  | refine ⟨_, _, _, _, _, rfl, .lst _, .ty _, kit_list_list ‹_›, ?_⟩
  | refine ⟨_, _, _, _, _, rfl, .dic _, .ty _, kit_dict_dict ‹_›, ?_⟩
  | refine ⟨_, _, _, _, _, rfl, .obj _ _ (ins_Committee ‹_›), .glo _, kit_Committee_Committee ‹_›, ?_⟩
  | refine ⟨_, _, _, _, _, rfl, .obj _ _ (ins_Ranking ‹_›), .glo _, kit_Ranking_Ranking ‹_›, ?_⟩
  | refine ⟨_, _, _, _, _, rfl, .obj _ _ (ins_Turns ‹_›), .glo _, kit_Turns_Turns ‹_›, ?_⟩
  | refine ⟨_, _, _, _, _, rfl, .obj _ _ (ins_Game ‹_›), .glo _, kit_Game_Game ‹_›, ?_⟩
  | refine ⟨_, _, _, _, _, rfl, .int _, .ty _, kit_int_bool ‹_›, ?_⟩
  | refine ⟨_, _, _, _, _, rfl, .bl _, .ty _, kit_bool_int ‹_›, ?_⟩
  | refine ⟨_, _, _, _, _, rfl, .bl _, .ty _, kit_bool_bool ‹_›, ?_⟩)
local macro_rules | `(tactic| walk_at "fw1") => `(tactic| first
  | ((with_reducible refine dt_var (d := ?d0) ?a1 ?a2); (case a1 => rfl))
  | (with_reducible first
    | refine dt_int ?_ | refine dt_str ?_ | refine dt_bl ?_ | refine dt_non ?_ | refine dt_ty ?_ | refine dt_glo ?_
    | refine da_cons ?_ | refine da_nil ?_ | refine dtt_b ?_ | refine dtt_test ?_ | refine dtt_yes ?_ | refine dtt_not ?_ | refine dtt_and ?_ | refine dtt_or ?_ 
    | refine ds_unlAsg ?_ | refine ds_seq ?_ | refine ds_next ?_ | refine ds_ret ?_ | refine ds_retN ?_
    | refine dt_andV ?_ | refine dt_orV ?_ | refine dt_notV ?_ | refine dt_if ?_ | refine dt_chain opd_le opd_le ?_ | refine dt_chain opd_lt opd_lt ?_
    | refine dt_call0 ?_ | refine dt_prop ?_ | refine dt_make ?_ | refine dt_dget ?_ | refine dt_din ?_ | refine dt_dnotin ?_
    | refine (df_slL ?_).dt | refine do_none ?_ | refine do_some ?_ | refine (df_listVals ?_).dt | refine dt_stm ?_ | refine df_lst ?_ | refine df_cb caf_list ?_ | refine df_cb caf_listD ?_ | refine df_cb caf_dictD ?_ | refine df_cb caf_dictP ?_ | refine df_cb caf_sortedS ?_ | refine df_cb caf_sortedD ?_ | refine df_op opf_cat ?_ | refine df_listVals ?_ | refine df_make ?_ | refine df_slL ?_ | refine df_dnew ?_ | refine dt_lst ?_ | refine dt_tup ?_ | refine (df_dnew ?_).dt)
  | ((with_reducible refine dt_methS 0 (x := ?x0) (fs := ?f0) ?a1 ?a2 ?a3); (case a1 => rfl); (case a2 => rfl)) | (with_reducible refine dt_meth0 ?_)
  | (with_reducible refine dt_un und_neg ?_)
  | ((with_reducible refine dt_inO 0 (ds := ?d0) ?a1 ?a2); (case a1 => rfl)) | ((with_reducible refine dt_lenO 0 (ds := ?d0) ?a1 ?a2); (case a1 => rfl)) | ((with_reducible refine dt_lenO 1 (ds := ?d0) ?a1 ?a2); (case a1 => rfl))
  | ((with_reducible refine dm_popAt 0 (ds := ?d0) ?a1 ?a2); (case a1 => rfl)) | ((with_reducible refine dm_popAt 1 (ds := ?d0) ?a1 ?a2); (case a1 => rfl)) | (with_reducible refine DT.dm ?_) | walk_at "fop" | walk_at "fcb" | walk_at "fdi"
  | ((with_reducible refine ds_asgE ?a1 ?a2 ?a3); (case a1 => walk_at "fno"); (case a2 => simp [startG])) | ((with_reducible refine ds_asg ?a1 ?a2); (case a1 => walk_at "fno")) | ((with_reducible refine ds_asgT ?a1 ?a2 ?a3); (case a1 => walk_at "fno"); (case a2 => walk_at "fno")) | ((with_reducible refine ds_append 0 (ds := ?d0) ?a1 ?a2); (case a1 => rfl)) | ((with_reducible refine ds_append 1 (ds := ?d0) ?a1 ?a2); (case a1 => rfl)) | (with_reducible refine ds_expr ?_) | ((with_reducible refine ds_par ?a1 ?a2 ?a3); (case a1 => walk_at "fno"); (case a2 => walk_at "fno"))
  | ((with_reducible refine dg_tup ?a1 ?a2); (case a1 => rfl)) | (with_reducible refine dgs_cons ?_) | (with_reducible refine dgs_nil ?_) | (with_reducible refine lct ?_) | (with_reducible refine dct ?_)
  | ((with_reducible refine dg_name ?a1 ?a2); (case a1 => walk_at "fno"))
  | walk_at "ffld" | walk_at "fex" | walk_at "fkit")
local macro_rules | `(tactic| walk_at "fw") => `(tactic| repeat (first | walk_at "fw1" | (with_reducible refine ds_if ?_)))
local macro_rules | `(tactic| walk_at "fwn") => `(tactic| repeat walk_at "fw1")

section
variable {P : Program} {w : World} {K : PySem.W.Frag} {mg : Str → Option Value} {base : Heap}
def wt_Game_init : WtI := fun ds kk _ => ∃ (rs : List (Str × List Str)) (ts : List Str), ds = [.dic (rks rs), tn ts] ∧ Rks rs ∧ ts.length ≤ 30 ∧ (∀ p ∈ rs, ts.length ≤ p.2.length) ∧ (∀ t ∈ ts, t ∈ rs.map Prod.fst) ∧ kk [("own_rankings", .dic (rks (srs rs))), ("own_turns", tn ts)]
theorem ok_Game_init (T : TX K mg) : Ok P w K mg base 7 (He.ma K (He.ga K "Game") "__init__") ["self", "rankings", "turns"] (spI K "Game" wt_Game_init) := by
  obtain ⟨fd, F⟩ := T.def_ 23 (d := d_Game_init)
  have k_Game_check_turns := ok_Game_check_turns (P := P) (w := w) (base := base) T
  have k_check_rankings := ok_check_rankings (P := P) (w := w) (base := base) T
  refine ⟨⟨fd, fnI F sc_Game_init (by decide) (fun _ _ _ h => by obtain ⟨rs, ts, rfl, hr1, hl, hle, hm, hk⟩ := h; rfl) (fun cdv A outer s H E hr => ⟨_, (pss_cons (ps_expr (q_call k_check_rankings hr (T.glo 37) (pa_cons (pv 1) pa_nil))) (pss_cons (ps_fld (pv 0) (pe_dc (own := [("player", 3)]) rfl sc_Game_init.nd (z_plist K (pe_callB (call_sortedD rfl) (by rfl) (T.free 6) (by decide +kernel) (pa_cons (pv 1) pa_nil))) (blkOk_by (own := [("player", 3)]) (N := N_Game_init) (sc := defScope s_Game_init) (by decide +kernel)) (fun _ _ _ _ _ => (pg_name (i := 3) sc_Game_init.nd rfl (by first | exact Or.inl rfl | exact Or.inr rfl))) (fun _ _ _ _ _ => pts_nil) (fun _ _ _ _ _ => (pv 3)) (fun _ _ _ _ _ => (q_dget hr (pv 1) (pv 3) (fun _ _ => rfl)))) rfl) (pss_cons (ps_expr (q_meth k_Game_check_turns (pv 0) (T.cls 25) (T.meth 38) hr (pa_cons (pv 2) pa_nil))) (pss_one (ps_fld (pv 0) (pv 2) rfl))))), fun x ds kk ke h => ?_⟩), FunD.bindsN F fun _ _ _ _ _ _ us hl => match us, hl with | [_, _, _], _ => rfl⟩, F.kp⟩
  obtain ⟨rs, ts, rfl, hr1, hl, hle, hm, hk⟩ := h
  try dsimp only [cxK]
  walk_at "fw"
  refine ⟨hr1, ?_⟩
  walk_at "fw"
  refine ds_fldS 0 (T.cls 25) (T.noat 26) rfl (by decide) ?_
  refine (df_dcM [3] D.str (fun s => ((.inr s : Key), rk (lk rs s))) (fun a b e => by cases e; rfl) (by decide) (by walk_at "fno") ?_).dt
  walk_at "fw"
  refine ⟨_, rs.map Prod.fst, rfl, rks_keys rs, by rw [List.length_map]; have := hr1.len; omega, fun ys yp ys1 => ?_⟩
  have ey := ts_srt (ss := rs.map Prod.fst) hr1.nd (fun x => Iff.rfl) yp ys1
  subst ey
  walk_at "fw"
  refine ⟨szOf (by rw [srt_len hr1.nd, List.length_map]; have := hr1.len; omega), fun s hs => ?_, ?_⟩
  · walk_at "fw"
    exact ⟨_, .inr s, _, rfl, rfl, getD_rks (srt_mem.mp hs), .inr s, rfl, rfl⟩
  · have e : mergeD [] ((srt (rs.map Prod.fst)).map fun s => ((.inr s : Key), rk (lk rs s))) = rks (srs rs) := by
      rw [mergeD_nil (by rw [List.map_map]; exact keys_nodup (srt_nodup _))]
      unfold rks srs
      rw [List.map_map]; rfl
    rw [e]
    obtain ⟨q, r, eq⟩ := List.exists_cons_of_ne_nil (srs_ne hr1)
    have hq : q ∈ rs := srs_mem (by rw [eq]; exact List.mem_cons_self)
    have hky : (q :: r).map Prod.fst = srt (rs.map Prod.fst) := by rw [← eq, srs_keys]
    rw [eq] at hk ⊢
    walk_at "fw"
    refine ⟨rfl, hl, hr1.le q hq, hle q hq, fun t ht => ?_, rfl, ?_⟩
    · rw [hky]; exact srt_mem.mpr (hm t ht)
    · walk_at "fw"
      refine ds_fldS 0 (T.cls 25) (T.noat 28) rfl (by exact (by decide : 1 < 1000)) ?_
      walk_at "fw"
      exact hk
end
end Fw

set_option maxHeartbeats 4000000
/-! The program's defs: turns, games, groups. -/
namespace Fw
open PySem PySem.Spec PyProof.Rows L2
local macro_rules | `(tactic| walk_at "fno") => `(tactic| first | (intro o ho; exact absurd ho (List.not_mem_nil)) | (simp; done) | (intro o ho; simp at ho; (try rcases ho with ho | ho) <;> subst ho <;> decide))
local macro_rules | `(tactic| walk_at "fop") => `(tactic| with_reducible first
  | refine dt_op opd_add ?_ | refine dt_op opd_sub ?_ | refine dt_op opd_mul ?_ | refine dt_op opd_fdivN ?_ | refine dt_op opd_mod ?_ | refine dt_op opd_pow ?_
  | refine dt_op opd_lt ?_ | refine dt_op opd_le ?_ | refine dt_op opd_gt ?_ | refine dt_op opd_ge ?_
  | refine dt_op opd_eq ?_ | refine dt_op opd_ne ?_ | refine dt_op opd_in ?_ | refine dt_op opd_in_sign ?_ | refine dt_op opd_add_str ?_ | refine dt_op opd_isN ?_ | refine dt_op opd_notN ?_
  | refine dt_op opd_ixL ?_ | refine dt_op opd_ixT ?_ | refine dt_op opf_cat.op ?_ | refine dt_op opf_rep.op ?_
  | refine dt_op opd_eqD ?_ | refine dt_op opd_neD ?_ | refine dt_op opd_eqDn ?_ | refine dt_op opd_inI ?_ | refine dt_op opd_eqI ?_ | refine dt_op opd_binI ?_ | refine dt_op opd_getI ?_)
local macro_rules | `(tactic| walk_at "fcb") => `(tactic| with_reducible first
  | refine dt_cb cad_lenA ?_ | refine dt_cb cad_lenI ?_ | refine dt_cb cad_isi ?_ | refine dt_cb cad_lenDR ?_ | refine dt_cb cad_max ?_ | refine dt_cb cad_min ?_ | refine dt_cb cad_all ?_ | refine dt_cb cad_any ?_ | refine dt_cb cad_sum ?_ | refine dt_cb cad_max2 ?_ | refine dt_cb cad_min2 ?_ | refine dt_cb cad_int1 ?_
  | refine dt_cb caf_list.ca ?_ | refine dt_cb caf_listD.ca ?_ | refine dt_cb caf_dictD.ca ?_ | refine dt_cb caf_dictP.ca ?_ | refine dt_cb caf_sortedS.ca ?_ | refine dt_cb caf_sortedD.ca ?_)
local macro_rules | `(tactic| walk_at "fex") => `(tactic| first
  | (refine ⟨(rfl : D.non = D.non), ?_⟩) | (refine ⟨_, .lst _, ?_⟩) | (refine ⟨_, .scr _, ?_⟩) | (refine ⟨_, _, _, rfl, rfl, rfl, ?_⟩) | (refine ⟨_, _, rfl, rfl, ?_⟩) | (refine ⟨_, rfl, ?_⟩) | (refine ⟨_, _, rfl, ?_⟩) | (refine ⟨_, _, _, rfl, ?_⟩) | (refine ⟨_, _, _, _, rfl, ?_⟩) | (refine ⟨_, _, _, _, _, rfl, ?_⟩) | (refine ⟨_, _, _, _, _, _, rfl, ?_⟩) | (refine ⟨_, .inl rfl, rfl, flat_strs _, ?_⟩) | (refine ⟨_, .inl rfl, ?_⟩) | (refine ⟨rfl, rfl, rfl, ?_⟩) | (refine ⟨(by simp only [List.length_cons, List.length_nil]; decide : List.length _ ≤ sizeLine), ?_⟩) | (refine ⟨fun _ => ?_, fun h => absurd h (by decide)⟩) | (refine ⟨fun h => absurd h (by decide), fun _ => ?_⟩))
local macro_rules | `(tactic| walk_at "fdi") => `(tactic| with_reducible first
  | refine di_list ?_ | refine di_range1 ?_ | refine di_range2 ?_ | refine di_range3 ?_ | refine di_str ?_ | refine di_items ?_ | refine di_values ?_ | refine di_keys ?_ | refine di_keysM ?_ | refine di_enum ?_)
local macro_rules | `(tactic| walk_at "ffld") => `(tactic| first
  | ((with_reducible refine fld_Committee_own_members ‹_› (dt_var (d := .obj "Committee" ?fs0) ?a1 ?a2)); (case a1 => rfl); refine ⟨_, _, rfl, rfl, ?_⟩)
  | ((with_reducible refine fld_Ranking_order ‹_› (dt_var (d := .obj "Ranking" ?fs0) ?a1 ?a2)); (case a1 => rfl); refine ⟨_, _, rfl, rfl, ?_⟩)
  | ((with_reducible refine fld_Ranking_places ‹_› (dt_var (d := .obj "Ranking" ?fs0) ?a1 ?a2)); (case a1 => rfl); refine ⟨_, _, rfl, rfl, ?_⟩)
  | ((with_reducible refine fld_Turns_order ‹_› (dt_var (d := .obj "Turns" ?fs0) ?a1 ?a2)); (case a1 => rfl); refine ⟨_, _, rfl, rfl, ?_⟩)
  | ((with_reducible refine fld_Game_own_rankings ‹_› (dt_var (d := .obj "Game" ?fs0) ?a1 ?a2)); (case a1 => rfl); refine ⟨_, _, rfl, rfl, ?_⟩)
  | ((with_reducible refine fld_Game_own_turns ‹_› (dt_var (d := .obj "Game" ?fs0) ?a1 ?a2)); (case a1 => rfl); refine ⟨_, _, rfl, rfl, ?_⟩)
  | ((with_reducible refine fld_Striker_own_target ‹_› (dt_var (d := .obj "Striker" ?fs0) ?a1 ?a2)); (case a1 => rfl); refine ⟨_, _, rfl, rfl, ?_⟩)
  | ((with_reducible refine fld_Keeper_own_target ‹_› (dt_var (d := .obj "Keeper" ?fs0) ?a1 ?a2)); (case a1 => rfl); refine ⟨_, _, rfl, rfl, ?_⟩))
local macro_rules | `(tactic| walk_at "fkit") => `(tactic| first
  | refine ⟨_, _, _, _, _, rfl, .str _, .ty _, kit_str_str ‹_›, ?_⟩
  | refine ⟨_, _, _, _, _, rfl, .int _, .ty _, kit_int_int ‹_›, ?_⟩
  | refine ⟨_, _, _, _, _, rfl, .lst _, .ty _, kit_list_list ‹_›, ?_⟩
  | refine ⟨_, _, _, _, _, rfl, .dic _, .ty _, kit_dict_dict ‹_›, ?_⟩
  | refine ⟨_, _, _, _, _, rfl, .obj _ _ (ins_Committee ‹_›), .glo _, kit_Committee_Committee ‹_›, ?_⟩
  | refine ⟨_, _, _, _, _, rfl, .obj _ _ (ins_Ranking ‹_›), .glo _, kit_Ranking_Ranking ‹_›, ?_⟩
  | refine ⟨_, _, _, _, _, rfl, .obj _ _ (ins_Turns ‹_›), .glo _, kit_Turns_Turns ‹_›, ?_⟩
  | refine ⟨_, _, _, _, _, rfl, .obj _ _ (ins_Game ‹_›), .glo _, kit_Game_Game ‹_›, ?_⟩
  | refine ⟨_, _, _, _, _, rfl, .int _, .ty _, kit_int_bool ‹_›, ?_⟩
  | refine ⟨_, _, _, _, _, rfl, .bl _, .ty _, kit_bool_int ‹_›, ?_⟩
  | refine ⟨_, _, _, _, _, rfl, .bl _, .ty _, kit_bool_bool ‹_›, ?_⟩)
local macro_rules | `(tactic| walk_at "fw1") => `(tactic| first
  | ((with_reducible refine dt_var (d := ?d0) ?a1 ?a2); (case a1 => rfl))
  | (with_reducible first
    | refine dt_int ?_ | refine dt_str ?_ | refine dt_bl ?_ | refine dt_non ?_ | refine dt_ty ?_ | refine dt_glo ?_
    | refine da_cons ?_ | refine da_nil ?_ | refine dtt_b ?_ | refine dtt_test ?_ | refine dtt_yes ?_ | refine dtt_not ?_ | refine dtt_and ?_ | refine dtt_or ?_ 
    | refine ds_unlAsg ?_ | refine ds_seq ?_ | refine ds_next ?_ | refine ds_ret ?_ | refine ds_retN ?_
    | refine dt_andV ?_ | refine dt_orV ?_ | refine dt_notV ?_ | refine dt_if ?_ | refine dt_chain opd_le opd_le ?_ | refine dt_chain opd_lt opd_lt ?_
    | refine dt_call0 ?_ | refine dt_prop ?_ | refine dt_make ?_ | refine dt_dget ?_ | refine dt_din ?_ | refine dt_dnotin ?_
    | refine (df_slL ?_).dt | refine do_none ?_ | refine do_some ?_ | refine (df_listVals ?_).dt | refine dt_stm ?_ | refine df_lst ?_ | refine df_cb caf_list ?_ | refine df_cb caf_listD ?_ | refine df_cb caf_dictD ?_ | refine df_cb caf_dictP ?_ | refine df_cb caf_sortedS ?_ | refine df_cb caf_sortedD ?_ | refine df_op opf_cat ?_ | refine df_listVals ?_ | refine df_make ?_ | refine df_slL ?_ | refine df_dnew ?_ | refine dt_lst ?_ | refine dt_tup ?_ | refine (df_dnew ?_).dt)
  | ((with_reducible refine dt_methS 0 (x := ?x0) (fs := ?f0) ?a1 ?a2 ?a3); (case a1 => rfl); (case a2 => rfl)) | (with_reducible refine dt_meth0 ?_)
  | (with_reducible refine dt_un und_neg ?_)
  | ((with_reducible refine dt_inO 0 (ds := ?d0) ?a1 ?a2); (case a1 => rfl)) | ((with_reducible refine dt_lenO 0 (ds := ?d0) ?a1 ?a2); (case a1 => rfl)) | ((with_reducible refine dt_lenO 1 (ds := ?d0) ?a1 ?a2); (case a1 => rfl))
  | ((with_reducible refine dm_popAt 0 (ds := ?d0) ?a1 ?a2); (case a1 => rfl)) | ((with_reducible refine dm_popAt 1 (ds := ?d0) ?a1 ?a2); (case a1 => rfl)) | (with_reducible refine DT.dm ?_) | walk_at "fop" | walk_at "fcb" | walk_at "fdi"
  | ((with_reducible refine ds_asgE ?a1 ?a2 ?a3); (case a1 => walk_at "fno"); (case a2 => simp [startG])) | ((with_reducible refine ds_asg ?a1 ?a2); (case a1 => walk_at "fno")) | ((with_reducible refine ds_asgT ?a1 ?a2 ?a3); (case a1 => walk_at "fno"); (case a2 => walk_at "fno")) | ((with_reducible refine ds_append 0 (ds := ?d0) ?a1 ?a2); (case a1 => rfl)) | ((with_reducible refine ds_append 1 (ds := ?d0) ?a1 ?a2); (case a1 => rfl)) | (with_reducible refine ds_expr ?_) | ((with_reducible refine ds_par ?a1 ?a2 ?a3); (case a1 => walk_at "fno"); (case a2 => walk_at "fno"))
  | ((with_reducible refine dg_tup ?a1 ?a2); (case a1 => rfl)) | (with_reducible refine dgs_cons ?_) | (with_reducible refine dgs_nil ?_) | (with_reducible refine lct ?_) | (with_reducible refine dct ?_)
  | ((with_reducible refine dg_name ?a1 ?a2); (case a1 => walk_at "fno"))
  | walk_at "ffld" | walk_at "fex" | walk_at "fkit")
local macro_rules | `(tactic| walk_at "fw") => `(tactic| repeat (first | walk_at "fw1" | (with_reducible refine ds_if ?_)))
local macro_rules | `(tactic| walk_at "fwn") => `(tactic| repeat walk_at "fw1")

section
variable {P : Program} {w : World} {K : PySem.W.Frag} {mg : Str → Option Value} {base : Heap}
def wt_check_group : Wt := fun ds kk _ => ∃ (q : Str × List Str) (r : List (Str × List Str)) (more : List (Str × D)) (g m : List Str), ds = [gmX (q :: r) more, sl g, cm m] ∧ Fr more ∧ g.length ≤ 1000 ∧ (∀ s ∈ g, isName s = true ∧ s ∈ (q :: r).map Prod.fst) ∧ (∀ s ∈ m, isName s = true ∧ s ∈ q.2) ∧ kk .non
theorem ok_check_group (T : TX K mg) : Ok P w K mg base 4 (He.ga K "check_group") ["game", "group", "target"] (spD K wt_check_group) := by
  obtain ⟨fd, F⟩ := T.def_ 24 (d := d_check_group)
  have k_Game_first_ranking := ok_Game_first_ranking (P := P) (w := w) (base := base) T
  have k_Game_rankings := ok_Game_rankings (P := P) (w := w) (base := base) T
  have k_are_names := ok_are_names (P := P) (w := w) (base := base) T
  have k_members_known := ok_members_known (P := P) (w := w) (base := base) T
  refine ⟨⟨fd, fnD F sc_check_group (fun _ _ _ h => by obtain ⟨q, r, more, g, m, rfl, hmr, hg, hgs, hms, hk⟩ := h; rfl) (fun cdv A outer s H E hr => ⟨_, (pss_cons (ps_if (PW.pt (pw_or (pt_not (pt_val (q_call k_are_names hr (T.glo 7) (pa_cons (pv 1) pa_nil)))) (pw_or1 (pt_not (pt_val (pe_callB (z_all K rfl) (by rfl) (T.free 3) (by decide +kernel) (pa_cons (pe_lc (own := [("player", 3)]) rfl sc_check_group.nd (z_plist K (pv 1)) (blkOk_by (own := [("player", 3)]) (N := N_check_group) (sc := defScope s_check_group) (by decide +kernel)) (fun _ _ _ _ _ => (pg_name (i := 3) sc_check_group.nd rfl (by first | exact Or.inl rfl | exact Or.inr rfl))) (fun _ _ _ _ _ => pts_nil) (fun _ _ _ _ _ => (pe_cmp (q_din hr (pv 3) (q_prop k_Game_rankings (pv 0) (T.cls 25) (T.prop 39) hr)) rfl))) pa_nil))))))) (pss_one ps_never) pss_nil) (pss_one (ps_expr (q_call k_members_known hr (T.glo 40) (pa_cons (q_meth0 k_Game_first_ranking (pv 0) (T.cls 25) (T.meth 30) hr) (pa_cons (pv 2) pa_nil)))))), fun ds kk ke h => ?_⟩), FunD.bindsN F fun _ _ _ _ _ _ us hl => match us, hl with | [_, _, _], _ => rfl⟩, F.kp⟩
  obtain ⟨q, r, more, g, m, rfl, hmr, hg, hgs, hms, hk⟩ := h
  try dsimp only [cxK]
  walk_at "fw"
  have ha : g.all isName = true := List.all_eq_true.mpr fun s h => (hgs s h).1
  refine ⟨hg, fun s h => Nat.le_trans (isName_len (hgs s h).1) (by decide), ?_⟩
  rw [ha]
  walk_at "fw"
  refine (df_lcM [3] D.str (fun _ => .bl true) (fun _ _ _ => rfl) (by decide) (by walk_at "fno") ?_).dt
  walk_at "fw"
  refine ⟨szOf (by omega), fun s hs => ?_, ?_⟩
  · walk_at "fw"
    refine ⟨_, .inr s, rfl, rfl, ?_⟩
    rw [getD_rks_is, decide_eq_true (hgs s hs).2]
  · walk_at "fw"
    refine ⟨g.map fun _ => true, by rw [map_tt]; rfl, ?_⟩
    rw [all_tt]
    walk_at "fw"
    refine ⟨fr_look hmr, ?_⟩
    walk_at "fw"
    refine ⟨hms, ?_⟩
    walk_at "fw"
    exact hk
def wt_number_left : Wt := fun ds kk _ => ∃ (q : Str × List Str) (r : List (Str × List Str)) (ts g m : List Str), ds = [gm (q :: r) ts, sl g, cm m] ∧ g.length ≤ 1000 ∧ (∀ s ∈ g, isName s = true ∧ s ∈ (q :: r).map Prod.fst) ∧ (∀ s ∈ m, isName s = true ∧ s ∈ q.2) ∧
  q.2.length ≤ 30 ∧ (∀ s ∈ q.2, isName s = true) ∧ ts.length ≤ 30 ∧ m.length ≤ 30 ∧ kk (.int (nl ts g m.length (srt q.2).length))
theorem ok_number_left (T : TX K mg) : Ok P w K mg base 8 (He.ga K "number_left") ["game", "group", "target"] (spD K wt_number_left) := by
  obtain ⟨fd, F⟩ := T.def_ 25 (d := d_number_left)
  have k_Committee_len := ok_Committee_len (P := P) (w := w) (base := base) T
  have k_Game_alternatives := ok_Game_alternatives (P := P) (w := w) (base := base) T
  have k_Game_turns := ok_Game_turns (P := P) (w := w) (base := base) T
  have k_Turns_len := ok_Turns_len (P := P) (w := w) (base := base) T
  have k_Turns_players := ok_Turns_players (P := P) (w := w) (base := base) T
  have k_check_group := ok_check_group (P := P) (w := w) (base := base) T
  refine ⟨⟨fd, fnD F sc_number_left (fun _ _ _ h => by obtain ⟨q, r, ts, g, m, rfl, hg, hgs, hms, h30, hs, hts, hm30, hk⟩ := h; rfl) (fun cdv A outer s H E hr => ⟨_, (pss_cons (ps_expr (q_call k_check_group hr (T.glo 41) (pa_cons (pv 0) (pa_cons (pv 1) (pa_cons (pv 2) pa_nil))))) (pss_cons (ps_set (i := 3) sc_number_left.nd rfl (by first | exact Or.inl rfl | exact Or.inr rfl) (pe_callB (z_len K) (by rfl) (T.free 2) boot_len (pa_cons (pe_lc (own := [("player", 4)]) rfl sc_number_left.nd (z_plist K (q_prop k_Turns_players (q_prop k_Game_turns (pv 0) (T.cls 25) (T.prop 42) hr) (T.cls 23) (T.prop 34) hr)) (blkOk_by (own := [("player", 4)]) (N := N_number_left) (sc := defScope s_number_left) (by decide +kernel)) (fun _ _ _ _ _ => (pg_name (i := 4) sc_number_left.nd rfl (by first | exact Or.inl rfl | exact Or.inr rfl))) (fun _ _ _ _ _ => (pts_one (pt_cmpR (z_in K) (pv 4) (pv 1) (by rfl)))) (fun _ _ _ _ _ => (pv 4))) pa_nil))) (pss_cons (ps_set (i := 5) sc_number_left.nd rfl (by first | exact Or.inl rfl | exact Or.inr rfl) (pe_op op_sub (q_len k_Turns_len (T.meth 32) hr (T.free 2) (pa_cons (q_prop k_Game_turns (pv 0) (T.cls 25) (T.prop 42) hr) pa_nil)) (pv 3))) (pss_cons (ps_set (i := 6) sc_number_left.nd rfl (by first | exact Or.inl rfl | exact Or.inr rfl) (pe_op op_sub (q_len k_Committee_len (T.meth 44) hr (T.free 2) (pa_cons (q_prop k_Game_alternatives (pv 0) (T.cls 25) (T.prop 43) hr) pa_nil)) (q_len k_Committee_len (T.meth 44) hr (T.free 2) (pa_cons (pv 2) pa_nil)))) (pss_one (ps_ret (pe_callB (call_max2 rfl) (by rfl) (T.free 45) (by decide +kernel) (pa_cons pe_int (pa_cons (pe_op op_sub (pe_op op_sub (q_len k_Committee_len (T.meth 44) hr (T.free 2) (pa_cons (pv 2) pa_nil)) (pv 3)) (pe_callB (call_max2 rfl) (by rfl) (T.free 45) (by decide +kernel) (pa_cons pe_int (pa_cons (pe_op op_sub (pv 5) (pv 6)) pa_nil)))) pa_nil))))))))), fun ds kk ke h => ?_⟩), FunD.bindsN F fun _ _ _ _ _ _ us hl => match us, hl with | [_, _, _], _ => rfl⟩, F.kp⟩
  obtain ⟨q, r, ts, g, m, rfl, hg, hgs, hms, h30, hs, hts, hm30, hk⟩ := h
  try dsimp only [cxK]
  walk_at "fw"
  refine ⟨rfl, hg, hgs, hms, ?_⟩
  walk_at "fw"
  refine (df_lcF [4] D.str (fun t => decide (t ∈ g)) D.str (fun a b e => by cases e; exact ⟨rfl, rfl⟩) (by decide) (by walk_at "fno") ?_).dt
  walk_at "fw"
  refine ⟨szOf (by omega), fun t ht => ?_, ?_⟩
  · walk_at "fw"
    rw [inV_strs]
    refine ⟨fun h => ?_, fun h => ?_⟩
    · walk_at "fw"
      have h' : decide (t ∈ g) = true := h
      rw [h']; rfl
    · have h' : decide (t ∈ g) = false := h
      rw [h']; rfl
  · walk_at "fw"
    refine ⟨⟨by omega, by omega⟩, ?_⟩
    walk_at "fw"
    refine ⟨rfl, h30, hs, ?_⟩
    walk_at "fw"
    refine ⟨⟨by omega, by have := srt_le q.2; omega⟩, ?_⟩
    walk_at "fw"
    refine ⟨⟨by omega, by omega⟩, ?_⟩
    walk_at "fw"
    refine ⟨⟨by omega, by omega⟩, ?_⟩
    walk_at "fw"
    unfold nl mx ownN at hk
    rw [List.length_map]
    exact hk
end
end Fw

set_option maxHeartbeats 4000000
/-! The program's safe_place; the law's draws. -/
namespace Fw
open PySem PySem.Spec PyProof.Rows L2
local macro_rules | `(tactic| walk_at "fno") => `(tactic| first | (intro o ho; exact absurd ho (List.not_mem_nil)) | (simp; done) | (intro o ho; simp at ho; (try rcases ho with ho | ho) <;> subst ho <;> decide))
local macro_rules | `(tactic| walk_at "fop") => `(tactic| with_reducible first
  | refine dt_op opd_add ?_ | refine dt_op opd_sub ?_ | refine dt_op opd_mul ?_ | refine dt_op opd_fdivN ?_ | refine dt_op opd_mod ?_ | refine dt_op opd_pow ?_
  | refine dt_op opd_lt ?_ | refine dt_op opd_le ?_ | refine dt_op opd_gt ?_ | refine dt_op opd_ge ?_
  | refine dt_op opd_eq ?_ | refine dt_op opd_ne ?_ | refine dt_op opd_in ?_ | refine dt_op opd_in_sign ?_ | refine dt_op opd_add_str ?_ | refine dt_op opd_isN ?_ | refine dt_op opd_notN ?_
  | refine dt_op opd_ixL ?_ | refine dt_op opd_ixT ?_ | refine dt_op opf_cat.op ?_ | refine dt_op opf_rep.op ?_
  | refine dt_op opd_eqD ?_ | refine dt_op opd_neD ?_ | refine dt_op opd_eqDn ?_ | refine dt_op opd_inI ?_ | refine dt_op opd_eqI ?_ | refine dt_op opd_binI ?_ | refine dt_op opd_getI ?_)
local macro_rules | `(tactic| walk_at "fcb") => `(tactic| with_reducible first
  | refine dt_cb cad_lenA ?_ | refine dt_cb cad_lenI ?_ | refine dt_cb cad_isi ?_ | refine dt_cb cad_lenDR ?_ | refine dt_cb cad_max ?_ | refine dt_cb cad_min ?_ | refine dt_cb cad_all ?_ | refine dt_cb cad_any ?_ | refine dt_cb cad_sum ?_ | refine dt_cb cad_max2 ?_ | refine dt_cb cad_min2 ?_ | refine dt_cb cad_int1 ?_
  | refine dt_cb caf_list.ca ?_ | refine dt_cb caf_listD.ca ?_ | refine dt_cb caf_dictD.ca ?_ | refine dt_cb caf_dictP.ca ?_ | refine dt_cb caf_sortedS.ca ?_ | refine dt_cb caf_sortedD.ca ?_)
local macro_rules | `(tactic| walk_at "fex") => `(tactic| first
  | (refine ⟨(rfl : D.non = D.non), ?_⟩) | (refine ⟨_, .lst _, ?_⟩) | (refine ⟨_, .scr _, ?_⟩) | (refine ⟨_, _, _, rfl, rfl, rfl, ?_⟩) | (refine ⟨_, _, rfl, rfl, ?_⟩) | (refine ⟨_, rfl, ?_⟩) | (refine ⟨_, _, rfl, ?_⟩) | (refine ⟨_, _, _, rfl, ?_⟩) | (refine ⟨_, _, _, _, rfl, ?_⟩) | (refine ⟨_, _, _, _, _, rfl, ?_⟩) | (refine ⟨_, _, _, _, _, _, rfl, ?_⟩) | (refine ⟨_, .inl rfl, rfl, flat_strs _, ?_⟩) | (refine ⟨_, .inl rfl, ?_⟩) | (refine ⟨rfl, rfl, rfl, ?_⟩) | (refine ⟨(by simp only [List.length_cons, List.length_nil]; decide : List.length _ ≤ sizeLine), ?_⟩) | (refine ⟨fun _ => ?_, fun h => absurd h (by decide)⟩) | (refine ⟨fun h => absurd h (by decide), fun _ => ?_⟩))
local macro_rules | `(tactic| walk_at "fdi") => `(tactic| with_reducible first
  | refine di_list ?_ | refine di_range1 ?_ | refine di_range2 ?_ | refine di_range3 ?_ | refine di_str ?_ | refine di_items ?_ | refine di_values ?_ | refine di_keys ?_ | refine di_keysM ?_ | refine di_enum ?_)
local macro_rules | `(tactic| walk_at "ffld") => `(tactic| first
  | ((with_reducible refine fld_Committee_own_members ‹_› (dt_var (d := .obj "Committee" ?fs0) ?a1 ?a2)); (case a1 => rfl); refine ⟨_, _, rfl, rfl, ?_⟩)
  | ((with_reducible refine fld_Ranking_order ‹_› (dt_var (d := .obj "Ranking" ?fs0) ?a1 ?a2)); (case a1 => rfl); refine ⟨_, _, rfl, rfl, ?_⟩)
  | ((with_reducible refine fld_Ranking_places ‹_› (dt_var (d := .obj "Ranking" ?fs0) ?a1 ?a2)); (case a1 => rfl); refine ⟨_, _, rfl, rfl, ?_⟩)
  | ((with_reducible refine fld_Turns_order ‹_› (dt_var (d := .obj "Turns" ?fs0) ?a1 ?a2)); (case a1 => rfl); refine ⟨_, _, rfl, rfl, ?_⟩)
  | ((with_reducible refine fld_Game_own_rankings ‹_› (dt_var (d := .obj "Game" ?fs0) ?a1 ?a2)); (case a1 => rfl); refine ⟨_, _, rfl, rfl, ?_⟩)
  | ((with_reducible refine fld_Game_own_turns ‹_› (dt_var (d := .obj "Game" ?fs0) ?a1 ?a2)); (case a1 => rfl); refine ⟨_, _, rfl, rfl, ?_⟩)
  | ((with_reducible refine fld_Striker_own_target ‹_› (dt_var (d := .obj "Striker" ?fs0) ?a1 ?a2)); (case a1 => rfl); refine ⟨_, _, rfl, rfl, ?_⟩)
  | ((with_reducible refine fld_Keeper_own_target ‹_› (dt_var (d := .obj "Keeper" ?fs0) ?a1 ?a2)); (case a1 => rfl); refine ⟨_, _, rfl, rfl, ?_⟩))
local macro_rules | `(tactic| walk_at "fkit") => `(tactic| first
  | refine ⟨_, _, _, _, _, rfl, .str _, .ty _, kit_str_str ‹_›, ?_⟩
  | refine ⟨_, _, _, _, _, rfl, .int _, .ty _, kit_int_int ‹_›, ?_⟩
  | refine ⟨_, _, _, _, _, rfl, .lst _, .ty _, kit_list_list ‹_›, ?_⟩
  | refine ⟨_, _, _, _, _, rfl, .dic _, .ty _, kit_dict_dict ‹_›, ?_⟩
  | refine ⟨_, _, _, _, _, rfl, .obj _ _ (ins_Committee ‹_›), .glo _, kit_Committee_Committee ‹_›, ?_⟩
  | refine ⟨_, _, _, _, _, rfl, .obj _ _ (ins_Ranking ‹_›), .glo _, kit_Ranking_Ranking ‹_›, ?_⟩
  | refine ⟨_, _, _, _, _, rfl, .obj _ _ (ins_Turns ‹_›), .glo _, kit_Turns_Turns ‹_›, ?_⟩
  | refine ⟨_, _, _, _, _, rfl, .obj _ _ (ins_Game ‹_›), .glo _, kit_Game_Game ‹_›, ?_⟩
  | refine ⟨_, _, _, _, _, rfl, .int _, .ty _, kit_int_bool ‹_›, ?_⟩
  | refine ⟨_, _, _, _, _, rfl, .bl _, .ty _, kit_bool_int ‹_›, ?_⟩
  | refine ⟨_, _, _, _, _, rfl, .bl _, .ty _, kit_bool_bool ‹_›, ?_⟩)
local macro_rules | `(tactic| walk_at "fw1") => `(tactic| first
  | ((with_reducible refine dt_var (d := ?d0) ?a1 ?a2); (case a1 => rfl))
  | (with_reducible first
    | refine dt_int ?_ | refine dt_str ?_ | refine dt_bl ?_ | refine dt_non ?_ | refine dt_ty ?_ | refine dt_glo ?_
    | refine da_cons ?_ | refine da_nil ?_ | refine dtt_b ?_ | refine dtt_test ?_ | refine dtt_yes ?_ | refine dtt_not ?_ | refine dtt_and ?_ | refine dtt_or ?_ 
    | refine ds_unlAsg ?_ | refine ds_seq ?_ | refine ds_next ?_ | refine ds_ret ?_ | refine ds_retN ?_
    | refine dt_andV ?_ | refine dt_orV ?_ | refine dt_notV ?_ | refine dt_if ?_ | refine dt_chain opd_le opd_le ?_ | refine dt_chain opd_lt opd_lt ?_
    | refine dt_call0 ?_ | refine dt_prop ?_ | refine dt_make ?_ | refine dt_dget ?_ | refine dt_din ?_ | refine dt_dnotin ?_
    | refine (df_slL ?_).dt | refine do_none ?_ | refine do_some ?_ | refine (df_listVals ?_).dt | refine dt_stm ?_ | refine df_lst ?_ | refine df_cb caf_list ?_ | refine df_cb caf_listD ?_ | refine df_cb caf_dictD ?_ | refine df_cb caf_dictP ?_ | refine df_cb caf_sortedS ?_ | refine df_cb caf_sortedD ?_ | refine df_op opf_cat ?_ | refine df_listVals ?_ | refine df_make ?_ | refine df_slL ?_ | refine df_dnew ?_ | refine dt_lst ?_ | refine dt_tup ?_ | refine (df_dnew ?_).dt)
  | ((with_reducible refine dt_methS 0 (x := ?x0) (fs := ?f0) ?a1 ?a2 ?a3); (case a1 => rfl); (case a2 => rfl)) | (with_reducible refine dt_meth0 ?_)
  | (with_reducible refine dt_un und_neg ?_)
  | ((with_reducible refine dt_inO 0 (ds := ?d0) ?a1 ?a2); (case a1 => rfl)) | ((with_reducible refine dt_lenO 0 (ds := ?d0) ?a1 ?a2); (case a1 => rfl)) | ((with_reducible refine dt_lenO 1 (ds := ?d0) ?a1 ?a2); (case a1 => rfl))
  | ((with_reducible refine dm_popAt 0 (ds := ?d0) ?a1 ?a2); (case a1 => rfl)) | ((with_reducible refine dm_popAt 1 (ds := ?d0) ?a1 ?a2); (case a1 => rfl)) | (with_reducible refine DT.dm ?_) | walk_at "fop" | walk_at "fcb" | walk_at "fdi"
  | ((with_reducible refine ds_asgE ?a1 ?a2 ?a3); (case a1 => walk_at "fno"); (case a2 => simp [startG])) | ((with_reducible refine ds_asg ?a1 ?a2); (case a1 => walk_at "fno")) | ((with_reducible refine ds_asgT ?a1 ?a2 ?a3); (case a1 => walk_at "fno"); (case a2 => walk_at "fno")) | ((with_reducible refine ds_append 0 (ds := ?d0) ?a1 ?a2); (case a1 => rfl)) | ((with_reducible refine ds_append 1 (ds := ?d0) ?a1 ?a2); (case a1 => rfl)) | (with_reducible refine ds_expr ?_) | ((with_reducible refine ds_par ?a1 ?a2 ?a3); (case a1 => walk_at "fno"); (case a2 => walk_at "fno"))
  | ((with_reducible refine dg_tup ?a1 ?a2); (case a1 => rfl)) | (with_reducible refine dgs_cons ?_) | (with_reducible refine dgs_nil ?_) | (with_reducible refine lct ?_) | (with_reducible refine dct ?_)
  | ((with_reducible refine dg_name ?a1 ?a2); (case a1 => walk_at "fno"))
  | walk_at "ffld" | walk_at "fex" | walk_at "fkit")
local macro_rules | `(tactic| walk_at "fw") => `(tactic| repeat (first | walk_at "fw1" | (with_reducible refine ds_if ?_)))
local macro_rules | `(tactic| walk_at "fwn") => `(tactic| repeat walk_at "fw1")

theorem bit01 (b : Bool) : -2 ^ 64 < (if b = true then (1 : Int) else 0) ∧ (if b = true then (1 : Int) else 0) < 2 ^ 64 ∧ 0 ≤ (if b = true then (1 : Int) else 0) := by cases b <;> decide
section
variable {P : Program} {w : World} {K : PySem.W.Frag} {mg : Str → Option Value} {base : Heap}
theorem cut_from {ss : List Str} {k : Nat} (h : k < ss.length) : cutD (ss.map D.str) (some (k : Int)) none = (ss.drop k).map D.str := by
  unfold cutD HT.sIx
  have h0 : ¬ ((k : Int) < 0) := by omega
  simp only [h0, if_false, Int.toNat_natCast, List.length_map]
  rw [Nat.min_eq_left (by omega), ← List.map_drop, List.take_of_length_le (by rw [List.length_map, List.length_drop]; exact Nat.le_refl _)]
theorem erase_perm {α : Type} : ∀ {l : List α} {i : Nat} (h : i < l.length), (l[i] :: l.eraseIdx i).Perm l
  | x :: r, 0, _ => List.Perm.refl _
  | x :: r, i + 1, h => by
    have h2 : i < r.length := by simpa using h
    show (r[i] :: x :: r.eraseIdx i).Perm (x :: r)
    exact (List.Perm.swap x r[i] _).trans (List.Perm.cons x (erase_perm h2))
/-- what a game is made of -/
structure GOk (rs : List (Str × List Str)) (ts : List Str) : Prop where
  rk : Rks rs
  nds : ∀ p ∈ rs, p.2.Nodup
  tl : ts.length ≤ 30
def SafeIs (ts : List Str) (p : Str) (n : Nat) (d : D) : Prop := (∃ k : Nat, k < n ∧ d = .int (k : Nat) ∧ 0 < nl ts [p] (n - k) n ∧ ∀ j, k < j → j < n → ¬ 0 < nl ts [p] (n - j) n) ∨ (d = .non ∧ ∀ j, j < n → ¬ 0 < nl ts [p] (n - j) n)
def wt_safe_place : Wt := fun ds kk _ => ∃ (rs : List (Str × List Str)) (ts : List Str) (p : Str), ds = [gm rs ts, .str p] ∧ GOk rs ts ∧ p ∈ rs.map Prod.fst ∧ ∀ d, SafeIs ts p (lk rs p).length d → kk d
theorem ok_safe_place (T : TX K mg) : Ok P w K mg base 9 (He.ga K "safe_place") ["game", "player"] (spD K wt_safe_place) := by
  obtain ⟨fd, F⟩ := T.def_ 26 (d := d_safe_place)
  have k_Committee_init := ok_Committee_init (P := P) (w := w) (base := base) T
  have k_Game_ranking_of := ok_Game_ranking_of (P := P) (w := w) (base := base) T
  have k_Ranking_len := ok_Ranking_len (P := P) (w := w) (base := base) T
  have k_Ranking_alternatives := ok_Ranking_alternatives (P := P) (w := w) (base := base) T
  have k_number_left := ok_number_left (P := P) (w := w) (base := base) T
  refine ⟨⟨fd, fnD F sc_safe_place (fun _ _ _ h => by obtain ⟨rs, ts, p, rfl, ok, hp, hk⟩ := h; rfl) (fun cdv A outer s H E hr => ⟨_, (pss_cons (ps_set (i := 2) sc_safe_place.nd rfl (by first | exact Or.inl rfl | exact Or.inr rfl) (q_meth k_Game_ranking_of (pv 0) (T.cls 25) (T.meth 46) hr (pa_cons (pv 1) pa_nil))) (pss_cons (ps_for (passes_of rfl) rfl (pi_range3 (by rfl) (T.free 47) (pa_cons (pe_op op_sub (q_len k_Ranking_len (T.meth 33) hr (T.free 2) (pa_cons (pv 2) pa_nil)) pe_int) (pa_cons (pe_un un_neg pe_int) (pa_cons (pe_un un_neg pe_int) pa_nil)))) (pg_name (i := 3) sc_safe_place.nd rfl (by first | exact Or.inl rfl | exact Or.inr rfl)) (pss_one (ps_if (pt_cmpR op_gt (q_call k_number_left hr (T.glo 48) (pa_cons (pv 0) (pa_cons (pe_lst (pa_cons (pv 1) pa_nil)) (pa_cons (q_make k_Committee_init (T.mkr 21) hr (T.glo 11) (pa_cons (pe_slice (z_slL K) (q_prop k_Ranking_alternatives (pv 2) (T.cls 15) (T.prop 22) hr) (po_some (pv 3)) po_none) pa_nil)) pa_nil)))) pe_int (nomark _)) (pss_one (ps_ret (pv 3))) pss_nil))) (pss_one (ps_ret pe_non)))), fun ds kk ke h => ?_⟩), FunD.bindsN F fun _ _ _ _ _ _ us hl => match us, hl with | [_, _], _ => rfl⟩, F.kp⟩
  obtain ⟨rs, ts, p, rfl, ok, hp, hk⟩ := h
  try dsimp only [cxK]
  walk_at "fw"
  have hm := lk_mem hp
  have hn : isName p = true := ok.rk.name _ hm
  have hnd : (lk rs p).Nodup := ok.nds _ hm
  have h30 : (lk rs p).length ≤ 30 := ok.rk.le _ hm
  have hs : ∀ s ∈ lk rs p, isName s = true := ok.rk.names _ hm
  refine ⟨rfl, ?_⟩
  walk_at "fw"
  refine ⟨hn, hp, ?_⟩
  obtain ⟨q, r, rfl⟩ := List.exists_cons_of_ne_nil ok.rk.ne
  have hq : srt q.2 = srt (lk (q :: r) p) := ok.rk.same _ List.mem_cons_self _ hm
  generalize lk (q :: r) p = ss at *
  have hql : (srt q.2).length = ss.length := by rw [hq, srt_len hnd]
  walk_at "fw"
  refine ds_for [3] (fun _ i G' O' => O' = [] ∧ (∃ g, G' = [some (gm (q :: r) ts), some (.str p), some (rk ss), g]) ∧ ∀ j : Nat, ss.length - i ≤ j → j < ss.length → ¬ 0 < nl ts [p] (ss.length - j) ss.length) ?_
  walk_at "fw"
  refine ⟨⟨by omega, by omega⟩, ?_⟩
  walk_at "fw"
  have rg : RgC ((ss.length : Int) - 1) (-1) (-1) ss.length := by
    have h := RgC.neg (i := (ss.length : Int) - 1) (j := -1) (by omega) (by omega) (by decide) (by decide)
    have e : ((ss.length : Int) - 1 - -1).toNat = ss.length := by omega
    rw [e] at h; exact h
  refine ⟨_, _, _, ss.length, rfl, rg, ⟨rfl, ⟨_, rfl⟩, fun j h1 h2 => absurd h2 (by omega)⟩, fun i x G' O' hi hP => ?_, fun G' O' hP => ?_⟩
  · obtain ⟨rfl, ⟨g, rfl⟩, hj⟩ := hP
    have hin : i < ss.length := by
      have := (List.getElem?_eq_some_iff.mp hi).1
      rw [rngC_len] at this; exact this
    rw [rngC_get hin] at hi
    have hx : x = .int ((ss.length - 1 - i : Nat) : Int) := by
      rw [← Option.some.inj hi]; congr 1; omega
    subst hx
    have hkn : ss.length - 1 - i < ss.length := by omega
    generalize hk' : ss.length - 1 - i = k at *
    walk_at "fw"
    rw [cut_from hkn]
    walk_at "fw"
    have hds : ∀ s ∈ ss.drop k, isName s = true := fun s h => hs s (List.mem_of_mem_drop h)
    have hdn : (ss.drop k).Nodup := hnd.sublist (List.drop_sublist _ _)
    have hdl : (srt (ss.drop k)).length = ss.length - k := by rw [srt_len hdn, List.length_drop]
    refine ⟨by rw [List.length_drop]; omega, hds, by omega, ?_⟩
    walk_at "fw"
    refine ⟨q, r, ts, [p], srt (ss.drop k), rfl, (by exact (by decide : 1 ≤ 1000)), fun s h => ?_, fun s h => ?_, ok.rk.le _ List.mem_cons_self, ok.rk.names _ List.mem_cons_self, ok.tl, by omega, ?_⟩
    · rw [List.mem_singleton.mp h]; exact ⟨hn, hp⟩
    · have h1 := srt_mem.mp h
      exact ⟨hds s h1, srt_mem.mp (by rw [hq]; exact srt_mem.mpr (List.mem_of_mem_drop h1))⟩
    · rw [hdl, hql]
      walk_at "fw"
      refine ⟨fun h => ?_, fun h => ?_⟩
      · walk_at "fw"
        exact hk _ (.inl ⟨k, hkn, rfl, of_decide_eq_true h, fun j h1 h2 => hj j (by omega) h2⟩)
      · walk_at "fw"
        refine ⟨rfl, ⟨_, rfl⟩, fun j h1 h2 => ?_⟩
        by_cases e : j = k
        · subst e; exact of_decide_eq_false h
        · exact hj j (by omega) h2
  · obtain ⟨rfl, ⟨g, rfl⟩, hj⟩ := hP
    walk_at "fw"
    exact hk _ (.inr ⟨rfl, fun j h => hj j (by rw [rngC_len]; omega) h⟩)
end
end Fw

set_option maxHeartbeats 4000000
/-! The program's safe_place; the law's draws. -/
namespace Fw
open PySem PySem.Spec PyProof.Rows L2
local macro_rules | `(tactic| walk_at "fno") => `(tactic| first | (intro o ho; exact absurd ho (List.not_mem_nil)) | (simp; done) | (intro o ho; simp at ho; (try rcases ho with ho | ho) <;> subst ho <;> decide))
local macro_rules | `(tactic| walk_at "fop") => `(tactic| with_reducible first
  | refine dt_op opd_add ?_ | refine dt_op opd_sub ?_ | refine dt_op opd_mul ?_ | refine dt_op opd_fdivN ?_ | refine dt_op opd_mod ?_ | refine dt_op opd_pow ?_
  | refine dt_op opd_lt ?_ | refine dt_op opd_le ?_ | refine dt_op opd_gt ?_ | refine dt_op opd_ge ?_
  | refine dt_op opd_eq ?_ | refine dt_op opd_ne ?_ | refine dt_op opd_in ?_ | refine dt_op opd_in_sign ?_ | refine dt_op opd_add_str ?_ | refine dt_op opd_isN ?_ | refine dt_op opd_notN ?_
  | refine dt_op opd_ixL ?_ | refine dt_op opd_ixT ?_ | refine dt_op opf_cat.op ?_ | refine dt_op opf_rep.op ?_
  | refine dt_op opd_eqD ?_ | refine dt_op opd_neD ?_ | refine dt_op opd_eqDn ?_ | refine dt_op opd_inI ?_ | refine dt_op opd_eqI ?_ | refine dt_op opd_binI ?_ | refine dt_op opd_getI ?_)
local macro_rules | `(tactic| walk_at "fcb") => `(tactic| with_reducible first
  | refine dt_cb cad_lenA ?_ | refine dt_cb cad_lenI ?_ | refine dt_cb cad_isi ?_ | refine dt_cb cad_lenDR ?_ | refine dt_cb cad_max ?_ | refine dt_cb cad_min ?_ | refine dt_cb cad_all ?_ | refine dt_cb cad_any ?_ | refine dt_cb cad_sum ?_ | refine dt_cb cad_max2 ?_ | refine dt_cb cad_min2 ?_ | refine dt_cb cad_int1 ?_
  | refine dt_cb caf_list.ca ?_ | refine dt_cb caf_listD.ca ?_ | refine dt_cb caf_dictD.ca ?_ | refine dt_cb caf_dictP.ca ?_ | refine dt_cb caf_sortedS.ca ?_ | refine dt_cb caf_sortedD.ca ?_)
local macro_rules | `(tactic| walk_at "fex") => `(tactic| first
  | (refine ⟨(rfl : D.non = D.non), ?_⟩) | (refine ⟨_, .lst _, ?_⟩) | (refine ⟨_, .scr _, ?_⟩) | (refine ⟨_, _, _, rfl, rfl, rfl, ?_⟩) | (refine ⟨_, _, rfl, rfl, ?_⟩) | (refine ⟨_, rfl, ?_⟩) | (refine ⟨_, _, rfl, ?_⟩) | (refine ⟨_, _, _, rfl, ?_⟩) | (refine ⟨_, _, _, _, rfl, ?_⟩) | (refine ⟨_, _, _, _, _, rfl, ?_⟩) | (refine ⟨_, _, _, _, _, _, rfl, ?_⟩) | (refine ⟨_, .inl rfl, rfl, flat_strs _, ?_⟩) | (refine ⟨_, .inl rfl, ?_⟩) | (refine ⟨rfl, rfl, rfl, ?_⟩) | (refine ⟨(by simp only [List.length_cons, List.length_nil]; decide : List.length _ ≤ sizeLine), ?_⟩) | (refine ⟨fun _ => ?_, fun h => absurd h (by decide)⟩) | (refine ⟨fun h => absurd h (by decide), fun _ => ?_⟩))
local macro_rules | `(tactic| walk_at "fdi") => `(tactic| with_reducible first
  | refine di_list ?_ | refine di_range1 ?_ | refine di_range2 ?_ | refine di_range3 ?_ | refine di_str ?_ | refine di_items ?_ | refine di_values ?_ | refine di_keys ?_ | refine di_keysM ?_ | refine di_enum ?_)
local macro_rules | `(tactic| walk_at "ffld") => `(tactic| first
  | ((with_reducible refine fld_Committee_own_members ‹_› (dt_var (d := .obj "Committee" ?fs0) ?a1 ?a2)); (case a1 => rfl); refine ⟨_, _, rfl, rfl, ?_⟩)
  | ((with_reducible refine fld_Ranking_order ‹_› (dt_var (d := .obj "Ranking" ?fs0) ?a1 ?a2)); (case a1 => rfl); refine ⟨_, _, rfl, rfl, ?_⟩)
  | ((with_reducible refine fld_Ranking_places ‹_› (dt_var (d := .obj "Ranking" ?fs0) ?a1 ?a2)); (case a1 => rfl); refine ⟨_, _, rfl, rfl, ?_⟩)
  | ((with_reducible refine fld_Turns_order ‹_› (dt_var (d := .obj "Turns" ?fs0) ?a1 ?a2)); (case a1 => rfl); refine ⟨_, _, rfl, rfl, ?_⟩)
  | ((with_reducible refine fld_Game_own_rankings ‹_› (dt_var (d := .obj "Game" ?fs0) ?a1 ?a2)); (case a1 => rfl); refine ⟨_, _, rfl, rfl, ?_⟩)
  | ((with_reducible refine fld_Game_own_turns ‹_› (dt_var (d := .obj "Game" ?fs0) ?a1 ?a2)); (case a1 => rfl); refine ⟨_, _, rfl, rfl, ?_⟩)
  | ((with_reducible refine fld_Striker_own_target ‹_› (dt_var (d := .obj "Striker" ?fs0) ?a1 ?a2)); (case a1 => rfl); refine ⟨_, _, rfl, rfl, ?_⟩)
  | ((with_reducible refine fld_Keeper_own_target ‹_› (dt_var (d := .obj "Keeper" ?fs0) ?a1 ?a2)); (case a1 => rfl); refine ⟨_, _, rfl, rfl, ?_⟩))
local macro_rules | `(tactic| walk_at "fkit") => `(tactic| first
  | refine ⟨_, _, _, _, _, rfl, .str _, .ty _, kit_str_str ‹_›, ?_⟩
  | refine ⟨_, _, _, _, _, rfl, .int _, .ty _, kit_int_int ‹_›, ?_⟩
  | refine ⟨_, _, _, _, _, rfl, .lst _, .ty _, kit_list_list ‹_›, ?_⟩
  | refine ⟨_, _, _, _, _, rfl, .dic _, .ty _, kit_dict_dict ‹_›, ?_⟩
  | refine ⟨_, _, _, _, _, rfl, .obj _ _ (ins_Committee ‹_›), .glo _, kit_Committee_Committee ‹_›, ?_⟩
  | refine ⟨_, _, _, _, _, rfl, .obj _ _ (ins_Ranking ‹_›), .glo _, kit_Ranking_Ranking ‹_›, ?_⟩
  | refine ⟨_, _, _, _, _, rfl, .obj _ _ (ins_Turns ‹_›), .glo _, kit_Turns_Turns ‹_›, ?_⟩
  | refine ⟨_, _, _, _, _, rfl, .obj _ _ (ins_Game ‹_›), .glo _, kit_Game_Game ‹_›, ?_⟩
  | refine ⟨_, _, _, _, _, rfl, .int _, .ty _, kit_int_bool ‹_›, ?_⟩
  | refine ⟨_, _, _, _, _, rfl, .bl _, .ty _, kit_bool_int ‹_›, ?_⟩
  | refine ⟨_, _, _, _, _, rfl, .bl _, .ty _, kit_bool_bool ‹_›, ?_⟩)
local macro_rules | `(tactic| walk_at "fw1") => `(tactic| first
  | ((with_reducible refine dt_var (d := ?d0) ?a1 ?a2); (case a1 => rfl))
  | (with_reducible first
    | refine dt_int ?_ | refine dt_str ?_ | refine dt_bl ?_ | refine dt_non ?_ | refine dt_ty ?_ | refine dt_glo ?_
    | refine da_cons ?_ | refine da_nil ?_ | refine dtt_b ?_ | refine dtt_test ?_ | refine dtt_yes ?_ | refine dtt_not ?_ | refine dtt_and ?_ | refine dtt_or ?_ 
    | refine ds_unlAsg ?_ | refine ds_seq ?_ | refine ds_next ?_ | refine ds_ret ?_ | refine ds_retN ?_
    | refine dt_andV ?_ | refine dt_orV ?_ | refine dt_notV ?_ | refine dt_if ?_ | refine dt_chain opd_le opd_le ?_ | refine dt_chain opd_lt opd_lt ?_
    | refine dt_call0 ?_ | refine dt_prop ?_ | refine dt_make ?_ | refine dt_dget ?_ | refine dt_din ?_ | refine dt_dnotin ?_
    | refine (df_slL ?_).dt | refine do_none ?_ | refine do_some ?_ | refine (df_listVals ?_).dt | refine dt_stm ?_ | refine df_lst ?_ | refine df_cb caf_list ?_ | refine df_cb caf_listD ?_ | refine df_cb caf_dictD ?_ | refine df_cb caf_dictP ?_ | refine df_cb caf_sortedS ?_ | refine df_cb caf_sortedD ?_ | refine df_op opf_cat ?_ | refine df_listVals ?_ | refine df_make ?_ | refine df_slL ?_ | refine df_dnew ?_ | refine dt_lst ?_ | refine dt_tup ?_ | refine (df_dnew ?_).dt)
  | ((with_reducible refine dt_methS 0 (x := ?x0) (fs := ?f0) ?a1 ?a2 ?a3); (case a1 => rfl); (case a2 => rfl)) | (with_reducible refine dt_meth0 ?_)
  | (with_reducible refine dt_un und_neg ?_)
  | ((with_reducible refine dt_inO 0 (ds := ?d0) ?a1 ?a2); (case a1 => rfl)) | ((with_reducible refine dt_lenO 0 (ds := ?d0) ?a1 ?a2); (case a1 => rfl)) | ((with_reducible refine dt_lenO 1 (ds := ?d0) ?a1 ?a2); (case a1 => rfl))
  | ((with_reducible refine dm_popAt 0 (ds := ?d0) ?a1 ?a2); (case a1 => rfl)) | ((with_reducible refine dm_popAt 1 (ds := ?d0) ?a1 ?a2); (case a1 => rfl)) | (with_reducible refine DT.dm ?_) | walk_at "fop" | walk_at "fcb" | walk_at "fdi"
  | ((with_reducible refine ds_asgE ?a1 ?a2 ?a3); (case a1 => walk_at "fno"); (case a2 => simp [startG])) | ((with_reducible refine ds_asg ?a1 ?a2); (case a1 => walk_at "fno")) | ((with_reducible refine ds_asgT ?a1 ?a2 ?a3); (case a1 => walk_at "fno"); (case a2 => walk_at "fno")) | ((with_reducible refine ds_append 0 (ds := ?d0) ?a1 ?a2); (case a1 => rfl)) | ((with_reducible refine ds_append 1 (ds := ?d0) ?a1 ?a2); (case a1 => rfl)) | (with_reducible refine ds_expr ?_) | ((with_reducible refine ds_par ?a1 ?a2 ?a3); (case a1 => walk_at "fno"); (case a2 => walk_at "fno"))
  | ((with_reducible refine dg_tup ?a1 ?a2); (case a1 => rfl)) | (with_reducible refine dgs_cons ?_) | (with_reducible refine dgs_nil ?_) | (with_reducible refine lct ?_) | (with_reducible refine dct ?_)
  | ((with_reducible refine dg_name ?a1 ?a2); (case a1 => walk_at "fno"))
  | walk_at "ffld" | walk_at "fex" | walk_at "fkit")
local macro_rules | `(tactic| walk_at "fw") => `(tactic| repeat (first | walk_at "fw1" | (with_reducible refine ds_if ?_)))
local macro_rules | `(tactic| walk_at "fwn") => `(tactic| repeat walk_at "fw1")

section
variable {P : Program} {w : World} {K : PySem.W.Frag} {mg : Str → Option Value} {base : Heap}
local macro_rules | `(tactic| walk_at "strm") => `(tactic| (
    walk_at "fw"
    refine ⟨by decide, ?_⟩
    walk_at "fw"
    refine ⟨.inl ⟨by decide, by decide⟩, ?_⟩
    walk_at "fw"
    refine ⟨.inr ⟨by omega, by omega⟩, ?_⟩
    walk_at "fw"
    refine ⟨.inl ⟨by decide, by decide⟩, ?_⟩
    walk_at "fw"
    refine ⟨.inr ⟨by decide, by decide⟩, ?_⟩
    walk_at "fw"
    refine ⟨by decide, ?_⟩
    walk_at "fw"
    refine ⟨⟨by decide, by decide, by decide⟩, ?_⟩
    walk_at "fw"
    refine .inr ⟨_, rfl, ?_⟩
    walk_at "fw"
    refine ⟨.inr ⟨(bit01 _).1, (bit01 _).2.1⟩, ?_⟩
    walk_at "fw"
    refine ⟨⟨Int.mul_nonneg (by split <;> omega) (bit01 _).2.2, Int.emod_nonneg _ (by decide), Int.emod_lt_of_pos _ (by decide)⟩, ?_⟩
    assumption))
def wt_law_stream : Wt := fun ds kk _ => ∃ (ns : List Int) (k : Nat), ds = [.scr ns, .int (k : Nat)] ∧ k ≤ 1000 ∧ kk .stm
theorem ok_law_stream (T : TX K mg) : Ok P w K mg base 1 (He.ga K "_law_stream") ["_law_script", "_law_k"] (spD K wt_law_stream) := by
  obtain ⟨fd, F⟩ := T.def_ 27 (d := d_law_stream)
  refine ⟨⟨fd, fnD F sc_law_stream (fun _ _ _ h => by obtain ⟨ns, k, rfl, h1, hk⟩ := h; rfl) (fun cdv A outer s H E hr => ⟨_, (pss_cons (ps_set (i := 2) sc_law_stream.nd rfl (by first | exact Or.inl rfl | exact Or.inr rfl) pe_int) (pss_cons (ps_if (pt_cmpR op_lt (pv 1) (pe_callB (z_len K) (by rfl) (T.free 2) boot_len (pa_cons (pv 0) pa_nil)) (nomark _)) (pss_one (ps_set (i := 2) sc_law_stream.nd rfl (by first | exact Or.inl rfl | exact Or.inr rfl) (pe_ix (z_ixL K) (pv 0) (pv 1) (fun _ _ => rfl)))) pss_nil) (pss_cons (ps_set (i := 3) sc_law_stream.nd rfl (by first | exact Or.inl rfl | exact Or.inr rfl) (pe_callB (call_max2 rfl) (by rfl) (T.free 45) (by decide +kernel) (pa_cons (pv 2) (pa_cons (pe_op op_sub (pe_un un_neg pe_int) (pv 2)) pa_nil)))) (pss_cons (ps_set (i := 4) sc_law_stream.nd rfl (by first | exact Or.inl rfl | exact Or.inr rfl) (pe_op op_mod (pe_op op_mul (pe_op op_add (pe_op op_add (pe_op op_add (pe_op op_mod (pv 3) pe_int) (pe_op op_mul (pe_op op_mul pe_int (pv 1)) (pv 1))) (pe_op op_mul pe_int (pv 1))) pe_int) pe_int) pe_int)) (pss_one (ps_ret (pe_stm (pe_lst (pa_cons (pe_op op_mul (pv 3) (pe_callTy (call_int1) (by rfl) (T.free 49) (by decide +kernel) (pa_cons (pe_cmpR op_ge (pv 3) (pe_op op_pow pe_int pe_int) (nomark _)) pa_nil))) (pa_cons (pv 4) pa_nil)))))))))), fun ds kk ke h => ?_⟩), FunD.bindsN F fun _ _ _ _ _ _ us hl => match us, hl with | [_, _], _ => rfl⟩, F.kp⟩
  obtain ⟨ns, k, rfl, h1, hk⟩ := h
  try dsimp only [cxK]
  walk_at "fw"
  refine ⟨fun h => ?_, fun h => ?_⟩
  · refine ds_asg (by walk_at "fno") ?_
    refine dt_op opd_ixS ?_
    walk_at "fw"
    have hlt : k < ns.length := by have := of_decide_eq_true h; omega
    refine ⟨_, _, ns[k], rfl, rfl, ?_, ?_⟩
    · unfold atI ixN
      rw [if_pos (by omega), if_pos (by omega)]
      show ns[(k : Int).toNat]? = _
      rw [Int.toNat_natCast, List.getElem?_eq_getElem hlt]
    · walk_at "strm"
  · walk_at "strm"
def wt_law_draw : Wt := fun ds kk _ => ∃ n : Int, ds = [.stm, .int n] ∧ 0 < n ∧ n < 1000000 ∧ ∀ r : Int, 0 ≤ r → r < n → kk (.int r)
theorem ok_law_draw (T : TX K mg) : Ok P w K mg base 1 (He.ga K "_law_draw") ["_law_stream_here", "_law_count"] (spD K wt_law_draw) := by
  obtain ⟨fd, F⟩ := T.def_ 28 (d := d_law_draw)
  refine ⟨⟨fd, F.ok sc_law_draw (fun vs H Q E ⟨T, ds, kk, ke, dm, rr, ⟨n, e, _⟩, _⟩ => by rw [rr.length, e]; rfl) (fun cdv A outer s H vs Q E hr ⟨S, ds, kk, ke, dm, rr, ⟨n, e, n0, n1, hk⟩, hq, he⟩ => ⟨_, pss_openS (pss_cons (ps_if (pt_cmpR op_gt (pe_ix (z_ixL K) (pv 0) pe_int (fun _ _ => rfl)) pe_int (nomark _)) (pss_cons (ps_set (i := 2) sc_law_draw.nd rfl (by first | exact Or.inl rfl | exact Or.inr rfl) (pe_op op_mod (pe_ix (z_ixL K) (pv 0) pe_int (fun _ _ => rfl)) (pv 1))) (pss_cons (ps_asg (pe_op op_fdivN (pe_ix (z_ixL K) (pv 0) pe_int (fun _ _ => rfl)) (pv 1)) (pg_sub (pv 0) pe_int set_list)) (pss_one (ps_ret (pv 2))))) pss_nil) (pss_cons (ps_asg (pe_op op_mod (pe_op op_add (pe_op op_mul (pe_ix (z_ixL K) (pv 0) pe_int (fun _ _ => rfl)) pe_int) pe_int) pe_int) (pg_sub (pv 0) pe_int set_list)) (pss_one (ps_ret (pe_op op_mod (pe_op op_fdivN (pe_op op_mod (pe_op op_mul (pe_ix (z_ixL K) (pv 0) pe_int (fun _ _ => rfl)) (pe_ix (z_ixL K) (pv 0) pe_int (fun _ _ => rfl))) pe_int) pe_int) (pv 1)))))), ?_⟩), FunD.bindsN F fun _ _ _ _ _ _ us hl => match us, hl with | [_, _], _ => rfl⟩, F.kp⟩
  subst e
  cases rr with
  | cons r1 t =>
    cases t with
    | cons r2 t =>
      cases t
      cases r2
      cases r1 with
      | @stm p nS hp =>
        refine ⟨p, rfl, hp, fun i j hb => ?_⟩
        have st : ∀ (i' j' : Int) (r : Int) (H1 : Hp), 0 ≤ r → r < n → StmB i' j' → H1 p = some (.lst [.int i', .int j']) → (∀ a, a ≠ p → H1 a = H a) → ∃ i' j', StmB i' j' ∧ H1 p = some (.lst [.int i', .int j']) ∧ Q (.int r) (upd H1 p (stmO p)) :=
          fun i' j' r H1 r0 r1 sb hp1 he1 => ⟨i', j', sb, hp1, hq _ _ _ (hk r r0 r1) (fun a u e => by
            by_cases ea : a = p
            · subst ea; rw [hp] at e; cases e; exact upd_same
            · rw [upd_ne ea, he1 a ea]; exact e) (.int r)⟩
        refine ⟨_, rfl, p, [.int i, .int j], 0, .int i, rfl, rfl, SqL.of upd_same, rfl, i, 0, rfl, rfl, _, rfl, ?_⟩
        by_cases h : 0 < i
        · refine (iff_of_eq (if_pos (decide_eq_true h))).mpr ?_
          refine ⟨_, rfl, p, [.int i, .int j], 0, .int i, rfl, rfl, SqL.of upd_same, rfl, ⟨_, rfl, i, n, rfl, rfl, n0, ?_⟩⟩
          refine ⟨_, rfl, p, [.int i, .int j], 0, .int i, rfl, rfl, SqL.of upd_same, rfl, ⟨_, rfl, i, n, rfl, rfl, ⟨by omega, by omega⟩, ?_⟩⟩
          refine ⟨_, rfl, p, [.int i, .int j], 0, 0, rfl, rfl, upd_same, rfl, ?_⟩
          refine ⟨_, rfl, ?_⟩
          exact st (i.fdiv n) j (i % n) _ (Int.emod_nonneg _ (by omega)) (Int.emod_lt_of_pos _ n0) ⟨Int.fdiv_nonneg hb.1 (by omega), hb.2.1, hb.2.2⟩ upd_same (fun a ea => by rw [upd_ne ea, upd_ne ea])
        · refine (iff_of_eq (if_neg (by rw [decide_eq_true_eq]; exact h))).mpr ?_
          refine ⟨_, rfl, p, [.int i, .int j], 1, .int j, rfl, rfl, SqL.of upd_same, rfl, j, 69621, rfl, rfl, .inr ⟨by decide, by decide⟩, _, 7, rfl, rfl, _, 2147483647, rfl, rfl, (by show (0 : Int) < 2147483647; decide), ?_⟩
          refine ⟨_, rfl, p, [.int i, .int j], 1, 1, rfl, rfl, upd_same, rfl, ?_⟩
          have b0 : 0 ≤ (j * 69621 + 7) % 2147483647 := Int.emod_nonneg _ (by decide)
          have b1 : (j * 69621 + 7) % 2147483647 < 2147483647 := Int.emod_lt_of_pos _ (by decide)
          refine ⟨_, rfl, p, [.int i, .int ((j * 69621 + 7) % 2147483647)], 1, .int ((j * 69621 + 7) % 2147483647), rfl, rfl, SqL.of upd_same, rfl, ?_⟩
          refine ⟨_, rfl, p, [.int i, .int ((j * 69621 + 7) % 2147483647)], 1, .int ((j * 69621 + 7) % 2147483647), rfl, rfl, SqL.of upd_same, rfl, ((j * 69621 + 7) % 2147483647), ((j * 69621 + 7) % 2147483647), rfl, rfl, .inr ⟨by omega, by omega⟩, ?_⟩
          refine ⟨_, 2147483629, rfl, rfl, (by show (0 : Int) < 2147483629; decide), _, 32, rfl, rfl, ⟨by decide, by decide⟩, _, rfl, _, n, rfl, rfl, n0, ?_⟩
          exact st i ((j * 69621 + 7) % 2147483647) _ _ (Int.emod_nonneg _ (by omega)) (Int.emod_lt_of_pos _ n0) ⟨hb.1, b0, b1⟩ upd_same (fun a ea => by rw [upd_ne ea, upd_ne ea])
def wt_law_shuffled : Wt := fun ds kk _ => ∃ ss : List Str, ds = [.stm, sl ss] ∧ ss.length ≤ 1000 ∧ ∀ ys : List Str, ys.Perm ss → kk (sl ys)
theorem ok_law_shuffled (T : TX K mg) : Ok P w K mg base 2 (He.ga K "_law_shuffled") ["_law_stream_here", "_law_items"] (spD K wt_law_shuffled) := by
  obtain ⟨fd, F⟩ := T.def_ 29 (d := d_law_shuffled)
  have k_law_draw := ok_law_draw (P := P) (w := w) (base := base) T
  refine ⟨⟨fd, fnD F sc_law_shuffled (fun _ _ _ h => by obtain ⟨ss, rfl, hl, hk⟩ := h; rfl) (fun cdv A outer s H E hr => ⟨_, (pss_cons (ps_par (i := 2) (j := 3) rfl sc_law_shuffled.nd rfl rfl (by decide) rfl rfl (pa_cons (pe_callTy (z_listof K) (by rfl) (T.free 4) (by decide +kernel) (pa_cons (pv 1) pa_nil)) (pa_cons (pe_lst pa_nil) pa_nil)) (by rfl)) (pss_cons (ps_for (passes_of rfl) rfl (pi_range1 (by rfl) (T.free 47) (pa_cons (pe_callB (z_len K) (by rfl) (T.free 2) boot_len (pa_cons (pv 2) pa_nil)) pa_nil)) (pg_name (i := 4) sc_law_shuffled.nd rfl (by first | exact Or.inl rfl | exact Or.inr rfl)) (pss_one (ps_expr (pe_bm PySem.F.plainAttrs_list PySem.F.slot_list_append PySem.F.type_list_append mt_append (pv 3) (pa_cons (pe_bm PySem.F.plainAttrs_list PySem.F.slot_list_pop PySem.F.type_list_pop mt_popAt (pv 2) (pa_cons (q_call k_law_draw hr (T.glo 50) (pa_cons (pv 0) (pa_cons (pe_callB (z_len K) (by rfl) (T.free 2) boot_len (pa_cons (pv 2) pa_nil)) pa_nil))) pa_nil)) pa_nil))))) (pss_one (ps_ret (pv 3))))), fun ds kk ke h => ?_⟩), FunD.bindsN F fun _ _ _ _ _ _ us hl => match us, hl with | [_, _], _ => rfl⟩, F.kp⟩
  obtain ⟨ss, rfl, hl, hk⟩ := h
  try dsimp only [cxK]
  refine ds_seq ?_
  refine ds_parF (by decide) (by walk_at "fno") (by walk_at "fno") (by exact (by decide : 2 < 5)) (by exact (by decide : 3 < 5)) ?_
  walk_at "fw"
  refine ds_for [4] (fun _ i G' O' => ∃ (f l : List Str) (g : Option D), G' = [some .stm, some (sl ss), none, none, g] ∧ O' = [(3, .lst (f.map D.str)), (2, .lst (l.map D.str))] ∧ l.length + i = ss.length ∧ (f ++ l).Perm ss) ?_
  walk_at "fw"
  rw [List.length_map]
  refine ⟨by omega, by omega, ⟨[], ss, _, rfl, rfl, rfl, List.Perm.refl _⟩, fun i x G' O' hi hP => ?_, fun G' O' hP => ?_⟩
  · obtain ⟨f, l, g, rfl, rfl, hl2, hp⟩ := hP
    have hin : i < ss.length := by
      have := (List.getElem?_eq_some_iff.mp hi).1
      rw [rngD_len] at this; omega
    walk_at "fw"
    rw [List.length_map]
    refine ⟨by omega, by omega, fun r r0 r1 => ?_⟩
    have hr2 : r.toNat < l.length := by omega
    refine ⟨r, r.toNat, .str l[r.toNat], rfl, by omega, by omega, ?_, ?_, _, rfl, ?_, f ++ [l[r.toNat]], l.eraseIdx r.toNat, _, rfl, ?_, ?_, ?_⟩
    · exact (ixN_seq (by unfold ixN; rw [if_pos r0, if_pos r1])).1
    · rw [List.getElem?_map, List.getElem?_eq_getElem hr2]; rfl
    · have hfl := hp.length_eq
      rw [List.length_append] at hfl
      rw [List.length_map]
      exact szOf (by omega)
    · rw [List.map_append, ← map_erase]; rfl
    · rw [List.length_eraseIdx_of_lt hr2]; omega
    · rw [List.append_assoc]
      exact ((List.Perm.append_left f (erase_perm hr2))).trans hp
  · obtain ⟨f, l, g, rfl, rfl, hl2, hp⟩ := hP
    rw [rngD_len] at hl2
    have e : l = [] := List.length_eq_zero_iff.mp (by omega)
    subst e
    refine ds_freeze 0 (i := 3) (o := .lst (f.map D.str)) rfl (by exact (by decide : 3 < 5)) ?_
    walk_at "fw"
    rw [List.append_nil] at hp
    exact hk f hp
end
end Fw

set_option maxHeartbeats 4000000
/-! The law's makings. -/
namespace Fw
open PySem PySem.Spec PyProof.Rows L2
local macro_rules | `(tactic| walk_at "fno") => `(tactic| first | (intro o ho; exact absurd ho (List.not_mem_nil)) | (simp; done) | (intro o ho; simp at ho; (try rcases ho with ho | ho) <;> subst ho <;> decide))
local macro_rules | `(tactic| walk_at "fop") => `(tactic| with_reducible first
  | refine dt_op opd_add ?_ | refine dt_op opd_sub ?_ | refine dt_op opd_mul ?_ | refine dt_op opd_fdivN ?_ | refine dt_op opd_mod ?_ | refine dt_op opd_pow ?_
  | refine dt_op opd_lt ?_ | refine dt_op opd_le ?_ | refine dt_op opd_gt ?_ | refine dt_op opd_ge ?_
  | refine dt_op opd_eq ?_ | refine dt_op opd_ne ?_ | refine dt_op opd_in ?_ | refine dt_op opd_in_sign ?_ | refine dt_op opd_add_str ?_ | refine dt_op opd_isN ?_ | refine dt_op opd_notN ?_
  | refine dt_op opd_ixL ?_ | refine dt_op opd_ixT ?_ | refine dt_op opf_cat.op ?_ | refine dt_op opf_rep.op ?_
  | refine dt_op opd_eqD ?_ | refine dt_op opd_neD ?_ | refine dt_op opd_eqDn ?_ | refine dt_op opd_inI ?_ | refine dt_op opd_eqI ?_ | refine dt_op opd_binI ?_ | refine dt_op opd_getI ?_)
local macro_rules | `(tactic| walk_at "fcb") => `(tactic| with_reducible first
  | refine dt_cb cad_lenA ?_ | refine dt_cb cad_lenI ?_ | refine dt_cb cad_isi ?_ | refine dt_cb cad_lenDR ?_ | refine dt_cb cad_max ?_ | refine dt_cb cad_min ?_ | refine dt_cb cad_all ?_ | refine dt_cb cad_any ?_ | refine dt_cb cad_sum ?_ | refine dt_cb cad_max2 ?_ | refine dt_cb cad_min2 ?_ | refine dt_cb cad_int1 ?_
  | refine dt_cb caf_list.ca ?_ | refine dt_cb caf_listD.ca ?_ | refine dt_cb caf_dictD.ca ?_ | refine dt_cb caf_dictP.ca ?_ | refine dt_cb caf_sortedS.ca ?_ | refine dt_cb caf_sortedD.ca ?_)
local macro_rules | `(tactic| walk_at "fex") => `(tactic| first
  | (refine ⟨(rfl : D.non = D.non), ?_⟩) | (refine ⟨_, .lst _, ?_⟩) | (refine ⟨_, .scr _, ?_⟩) | (refine ⟨_, _, _, rfl, rfl, rfl, ?_⟩) | (refine ⟨_, _, rfl, rfl, ?_⟩) | (refine ⟨_, rfl, ?_⟩) | (refine ⟨_, _, rfl, ?_⟩) | (refine ⟨_, _, _, rfl, ?_⟩) | (refine ⟨_, _, _, _, rfl, ?_⟩) | (refine ⟨_, _, _, _, _, rfl, ?_⟩) | (refine ⟨_, _, _, _, _, _, rfl, ?_⟩) | (refine ⟨_, .inl rfl, rfl, flat_strs _, ?_⟩) | (refine ⟨_, .inl rfl, ?_⟩) | (refine ⟨rfl, rfl, rfl, ?_⟩) | (refine ⟨(by simp only [List.length_cons, List.length_nil]; decide : List.length _ ≤ sizeLine), ?_⟩) | (refine ⟨fun _ => ?_, fun h => absurd h (by decide)⟩) | (refine ⟨fun h => absurd h (by decide), fun _ => ?_⟩))
local macro_rules | `(tactic| walk_at "fdi") => `(tactic| with_reducible first
  | refine di_list ?_ | refine di_range1 ?_ | refine di_range2 ?_ | refine di_range3 ?_ | refine di_str ?_ | refine di_items ?_ | refine di_values ?_ | refine di_keys ?_ | refine di_keysM ?_ | refine di_enum ?_)
local macro_rules | `(tactic| walk_at "ffld") => `(tactic| first
  | ((with_reducible refine fld_Committee_own_members ‹_› (dt_var (d := .obj "Committee" ?fs0) ?a1 ?a2)); (case a1 => rfl); refine ⟨_, _, rfl, rfl, ?_⟩)
  | ((with_reducible refine fld_Ranking_order ‹_› (dt_var (d := .obj "Ranking" ?fs0) ?a1 ?a2)); (case a1 => rfl); refine ⟨_, _, rfl, rfl, ?_⟩)
  | ((with_reducible refine fld_Ranking_places ‹_› (dt_var (d := .obj "Ranking" ?fs0) ?a1 ?a2)); (case a1 => rfl); refine ⟨_, _, rfl, rfl, ?_⟩)
  | ((with_reducible refine fld_Turns_order ‹_› (dt_var (d := .obj "Turns" ?fs0) ?a1 ?a2)); (case a1 => rfl); refine ⟨_, _, rfl, rfl, ?_⟩)
  | ((with_reducible refine fld_Game_own_rankings ‹_› (dt_var (d := .obj "Game" ?fs0) ?a1 ?a2)); (case a1 => rfl); refine ⟨_, _, rfl, rfl, ?_⟩)
  | ((with_reducible refine fld_Game_own_turns ‹_› (dt_var (d := .obj "Game" ?fs0) ?a1 ?a2)); (case a1 => rfl); refine ⟨_, _, rfl, rfl, ?_⟩)
  | ((with_reducible refine fld_Striker_own_target ‹_› (dt_var (d := .obj "Striker" ?fs0) ?a1 ?a2)); (case a1 => rfl); refine ⟨_, _, rfl, rfl, ?_⟩)
  | ((with_reducible refine fld_Keeper_own_target ‹_› (dt_var (d := .obj "Keeper" ?fs0) ?a1 ?a2)); (case a1 => rfl); refine ⟨_, _, rfl, rfl, ?_⟩))
local macro_rules | `(tactic| walk_at "fkit") => `(tactic| first
  | refine ⟨_, _, _, _, _, rfl, .str _, .ty _, kit_str_str ‹_›, ?_⟩
  | refine ⟨_, _, _, _, _, rfl, .int _, .ty _, kit_int_int ‹_›, ?_⟩
  | refine ⟨_, _, _, _, _, rfl, .lst _, .ty _, kit_list_list ‹_›, ?_⟩
  | refine ⟨_, _, _, _, _, rfl, .dic _, .ty _, kit_dict_dict ‹_›, ?_⟩
  | refine ⟨_, _, _, _, _, rfl, .obj _ _ (ins_Committee ‹_›), .glo _, kit_Committee_Committee ‹_›, ?_⟩
  | refine ⟨_, _, _, _, _, rfl, .obj _ _ (ins_Ranking ‹_›), .glo _, kit_Ranking_Ranking ‹_›, ?_⟩
  | refine ⟨_, _, _, _, _, rfl, .obj _ _ (ins_Turns ‹_›), .glo _, kit_Turns_Turns ‹_›, ?_⟩
  | refine ⟨_, _, _, _, _, rfl, .obj _ _ (ins_Game ‹_›), .glo _, kit_Game_Game ‹_›, ?_⟩
  | refine ⟨_, _, _, _, _, rfl, .int _, .ty _, kit_int_bool ‹_›, ?_⟩
  | refine ⟨_, _, _, _, _, rfl, .bl _, .ty _, kit_bool_int ‹_›, ?_⟩
  | refine ⟨_, _, _, _, _, rfl, .bl _, .ty _, kit_bool_bool ‹_›, ?_⟩)
local macro_rules | `(tactic| walk_at "fw1") => `(tactic| first
  | ((with_reducible refine dt_var (d := ?d0) ?a1 ?a2); (case a1 => rfl))
  | (with_reducible first
    | refine dt_int ?_ | refine dt_str ?_ | refine dt_bl ?_ | refine dt_non ?_ | refine dt_ty ?_ | refine dt_glo ?_
    | refine da_cons ?_ | refine da_nil ?_ | refine dtt_b ?_ | refine dtt_test ?_ | refine dtt_yes ?_ | refine dtt_not ?_ | refine dtt_and ?_ | refine dtt_or ?_ 
    | refine ds_unlAsg ?_ | refine ds_seq ?_ | refine ds_next ?_ | refine ds_ret ?_ | refine ds_retN ?_
    | refine dt_andV ?_ | refine dt_orV ?_ | refine dt_notV ?_ | refine dt_if ?_ | refine dt_chain opd_le opd_le ?_ | refine dt_chain opd_lt opd_lt ?_
    | refine dt_call0 ?_ | refine dt_prop ?_ | refine dt_make ?_ | refine dt_dget ?_ | refine dt_din ?_ | refine dt_dnotin ?_
    | refine (df_slL ?_).dt | refine do_none ?_ | refine do_some ?_ | refine (df_listVals ?_).dt | refine dt_stm ?_ | refine df_lst ?_ | refine df_cb caf_list ?_ | refine df_cb caf_listD ?_ | refine df_cb caf_dictD ?_ | refine df_cb caf_dictP ?_ | refine df_cb caf_sortedS ?_ | refine df_cb caf_sortedD ?_ | refine df_op opf_cat ?_ | refine df_listVals ?_ | refine df_make ?_ | refine df_slL ?_ | refine df_dnew ?_ | refine dt_lst ?_ | refine dt_tup ?_ | refine (df_dnew ?_).dt)
  | ((with_reducible refine dt_methS 0 (x := ?x0) (fs := ?f0) ?a1 ?a2 ?a3); (case a1 => rfl); (case a2 => rfl)) | (with_reducible refine dt_meth0 ?_)
  | (with_reducible refine dt_un und_neg ?_)
  | ((with_reducible refine dt_inO 0 (ds := ?d0) ?a1 ?a2); (case a1 => rfl)) | ((with_reducible refine dt_lenO 0 (ds := ?d0) ?a1 ?a2); (case a1 => rfl)) | ((with_reducible refine dt_lenO 1 (ds := ?d0) ?a1 ?a2); (case a1 => rfl))
  | ((with_reducible refine dm_popAt 0 (ds := ?d0) ?a1 ?a2); (case a1 => rfl)) | ((with_reducible refine dm_popAt 1 (ds := ?d0) ?a1 ?a2); (case a1 => rfl)) | (with_reducible refine DT.dm ?_) | walk_at "fop" | walk_at "fcb" | walk_at "fdi"
  | ((with_reducible refine ds_asgE ?a1 ?a2 ?a3); (case a1 => walk_at "fno"); (case a2 => simp [startG])) | ((with_reducible refine ds_asg ?a1 ?a2); (case a1 => walk_at "fno")) | ((with_reducible refine ds_asgT ?a1 ?a2 ?a3); (case a1 => walk_at "fno"); (case a2 => walk_at "fno")) | ((with_reducible refine ds_append 0 (ds := ?d0) ?a1 ?a2); (case a1 => rfl)) | ((with_reducible refine ds_append 1 (ds := ?d0) ?a1 ?a2); (case a1 => rfl)) | (with_reducible refine ds_expr ?_) | ((with_reducible refine ds_par ?a1 ?a2 ?a3); (case a1 => walk_at "fno"); (case a2 => walk_at "fno"))
  | ((with_reducible refine dg_tup ?a1 ?a2); (case a1 => rfl)) | (with_reducible refine dgs_cons ?_) | (with_reducible refine dgs_nil ?_) | (with_reducible refine lct ?_) | (with_reducible refine dct ?_)
  | ((with_reducible refine dg_name ?a1 ?a2); (case a1 => walk_at "fno"))
  | walk_at "ffld" | walk_at "fex" | walk_at "fkit")
local macro_rules | `(tactic| walk_at "fw") => `(tactic| repeat (first | walk_at "fw1" | (with_reducible refine ds_if ?_)))
local macro_rules | `(tactic| walk_at "fwn") => `(tactic| repeat walk_at "fw1")

theorem cut_to {ss : List Str} {k : Nat} : cutD (ss.map D.str) none (some (k : Int)) = (ss.take k).map D.str := by
  unfold cutD HT.sIx
  have h0 : ¬ ((k : Int) < 0) := by omega
  simp only [h0, if_false, Int.toNat_natCast, List.length_map]
  rw [List.drop_zero, Nat.sub_zero, ← List.map_take]
  rcases Nat.le_total k ss.length with h | h
  · rw [Nat.min_eq_left h]
  · rw [Nat.min_eq_right h, List.take_of_length_le (Nat.le_refl _), List.take_of_length_le h]
theorem get_strs2 {ss : List Str} {i : Nat} {x : D} (h : (ss.map D.str)[i]? = some x) : ∃ s, ss[i]? = some s ∧ x = .str s := by
  rw [List.getElem?_map] at h
  cases e : ss[i]? with
  | none => rw [e] at h; cases h
  | some s => rw [e] at h; cases h; exact ⟨s, rfl, rfl⟩
def PLAYERS : List Str := ["ann", "bob", "zoe", "b", "carol"]
def NAMES : List Str := ["a", "ab", "c", "dd", "e", "x", "yes", "zzzzzzzz"]
theorem players_ok : (PLAYERS.all isName) = true := by decide +kernel
theorem names_ok : (NAMES.all isName) = true := by decide +kernel
theorem players_nd : PLAYERS.Nodup := by decide +kernel
theorem names_nd : NAMES.Nodup := by decide +kernel
section
variable {P : Program} {w : World} {K : PySem.W.Frag} {mg : Str → Option Value} {base : Heap}
def wt_law_players : Wt := fun ds kk _ => ∃ m : Int, ds = [.stm, .int m] ∧ 0 < m ∧ m ≤ 5 ∧ ∀ ps : List Str, ps ≠ [] → ps.length ≤ m.toNat → ps.Nodup → (∀ p ∈ ps, isName p = true) → kk (sl ps)
theorem ok_law_players (T : TX K mg) : Ok P w K mg base 3 (He.ga K "_law_players") ["_law_stream_here", "_law_most"] (spD K wt_law_players) := by
  obtain ⟨fd, F⟩ := T.def_ 30 (d := d_law_players)
  have k_law_draw := ok_law_draw (P := P) (w := w) (base := base) T
  have k_law_shuffled := ok_law_shuffled (P := P) (w := w) (base := base) T
  refine ⟨⟨fd, fnD F sc_law_players (fun _ _ _ h => by obtain ⟨m, rfl, h0, h1, hk⟩ := h; rfl) (fun cdv A outer s H E hr => ⟨_, (pss_one (ps_ret (pe_slice (z_slL K) (q_call k_law_shuffled hr (T.glo 51) (pa_cons (pv 0) (pa_cons (pe_lst (pa_cons pe_str (pa_cons pe_str (pa_cons pe_str (pa_cons pe_str (pa_cons pe_str pa_nil)))))) pa_nil))) po_none (po_some (pe_op op_add pe_int (q_call k_law_draw hr (T.glo 50) (pa_cons (pv 0) (pa_cons (pv 1) pa_nil)))))))), fun ds kk ke h => ?_⟩), FunD.bindsN F fun _ _ _ _ _ _ us hl => match us, hl with | [_, _], _ => rfl⟩, F.kp⟩
  obtain ⟨m, rfl, h0, h1, hk⟩ := h
  try dsimp only [cxK]
  walk_at "fw"
  refine ⟨PLAYERS, rfl, by decide, fun ys hp => ?_⟩
  walk_at "fw"
  refine ⟨h0, by omega, fun r r0 r1 => ?_⟩
  walk_at "fw"
  have e : (1 + r) = ((1 + r.toNat : Nat) : Int) := by omega
  have hl : ys.length = 5 := hp.length_eq
  show kk (.lst (cutD (ys.map D.str) none (some (1 + r))))
  rw [e, cut_to]
  refine hk _ (fun z => ?_) ?_ (((List.Perm.nodup_iff hp).mpr players_nd).sublist (List.take_sublist _ _)) fun p h => List.all_eq_true.mp players_ok p (hp.mem_iff.mp (List.mem_of_mem_take h))
  · have := congrArg List.length z
    rw [List.length_take, hl, List.length_nil] at this
    omega
  · rw [List.length_take]; omega
def wt_law_names : Wt := fun ds kk _ => ∃ m : Int, ds = [.stm, .int m] ∧ 0 < m ∧ m ≤ 8 ∧ ∀ ps : List Str, (ps.length : Int) = m → ps.Nodup → (∀ p ∈ ps, isName p = true) → kk (sl ps)
theorem ok_law_names (T : TX K mg) : Ok P w K mg base 3 (He.ga K "_law_names") ["_law_stream_here", "_law_many_here"] (spD K wt_law_names) := by
  obtain ⟨fd, F⟩ := T.def_ 31 (d := d_law_names)
  have k_law_shuffled := ok_law_shuffled (P := P) (w := w) (base := base) T
  refine ⟨⟨fd, fnD F sc_law_names (fun _ _ _ h => by obtain ⟨m, rfl, h0, h1, hk⟩ := h; rfl) (fun cdv A outer s H E hr => ⟨_, (pss_one (ps_ret (pe_slice (z_slL K) (q_call k_law_shuffled hr (T.glo 51) (pa_cons (pv 0) (pa_cons (pe_lst (pa_cons pe_str (pa_cons pe_str (pa_cons pe_str (pa_cons pe_str (pa_cons pe_str (pa_cons pe_str (pa_cons pe_str (pa_cons pe_str pa_nil))))))))) pa_nil))) po_none (po_some (pv 1))))), fun ds kk ke h => ?_⟩), FunD.bindsN F fun _ _ _ _ _ _ us hl => match us, hl with | [_, _], _ => rfl⟩, F.kp⟩
  obtain ⟨m, rfl, h0, h1, hk⟩ := h
  try dsimp only [cxK]
  walk_at "fw"
  refine ⟨NAMES, rfl, by decide, fun ys hp => ?_⟩
  walk_at "fw"
  have e : m = ((m.toNat : Nat) : Int) := by omega
  have hl : ys.length = 8 := hp.length_eq
  show kk (.lst (cutD (ys.map D.str) none (some m)))
  rw [e, cut_to]
  refine hk _ ?_ (((List.Perm.nodup_iff hp).mpr names_nd).sublist (List.take_sublist _ _)) fun p h => List.all_eq_true.mp names_ok p (hp.mem_iff.mp (List.mem_of_mem_take h))
  rw [List.length_take]; omega
/-- what the law lays by -/
abbrev ownD (rs : List (Str × List Str)) (ts : List Str) : D := .lst [.dic (rs.map fun p => ((.inr p.1 : Key), sl p.2)), sl ts]
structure OwnOk (rs : List (Str × List Str)) (ts ns : List Str) (m : Nat) : Prop where
  ne : rs ≠ []
  len : rs.length ≤ 4
  nd : (rs.map Prod.fst).Nodup
  name : ∀ p ∈ rs, isName p.1 = true
  perm : ∀ p ∈ rs, p.2.Perm ns
  nsd : ns.Nodup
  nsn : ∀ s ∈ ns, isName s = true
  nsl : ns.length ≤ m
  tl : ts.length ≤ ns.length
  tk : ∀ t ∈ ts, t ∈ rs.map Prod.fst
theorem own_lc {ns : List Str} : ∀ {ps : List Str} {zs : List D}, LcR (fun x o => ∃ p ys, x = .str p ∧ List.Perm ys ns ∧ o = some (.tup [.str p, sl ys])) (ps.map D.str) zs → ∃ rs : List (Str × List Str), rs.map Prod.fst = ps ∧ (∀ q ∈ rs, q.2.Perm ns) ∧ zs = rs.map fun p => .tup [.str p.1, sl p.2]
  | [], _, .nil => ⟨[], rfl, (fun q h => by cases h), rfl⟩
  | p :: ps, _, .keep r t => by
    obtain ⟨rs, e1, e2, e3⟩ := own_lc t
    obtain ⟨p', ys, h1, h2, h3⟩ := r
    cases h1
    injection h3 with h3
    refine ⟨(p, ys) :: rs, by rw [List.map_cons, e1], fun q hq => ?_, by rw [h3, e3]; rfl⟩
    rcases List.mem_cons.mp hq with e | hq
    · rw [e]; exact h2
    · exact e2 q hq
  | p :: ps, _, .skip r t => by
    obtain ⟨p', ys, h1, h2, h3⟩ := r
    cases h3
theorem turn_lc {ps : List Str} : ∀ {xs zs : List D}, LcR (fun x o => ∃ t ∈ ps, o = some (D.str t)) xs zs → ∃ ts : List Str, ts.length = xs.length ∧ (∀ t ∈ ts, t ∈ ps) ∧ zs = ts.map D.str
  | [], _, .nil => ⟨[], rfl, (fun q h => by cases h), rfl⟩
  | x :: xs, _, .keep r t => by
    obtain ⟨ts, e1, e2, e3⟩ := turn_lc t
    obtain ⟨s, h1, h2⟩ := r
    injection h2 with h2
    refine ⟨s :: ts, by rw [List.length_cons, List.length_cons, e1], fun q hq => ?_, by rw [h2, e3]; rfl⟩
    rcases List.mem_cons.mp hq with e | hq
    · rw [e]; exact h1
    · exact e2 q hq
  | x :: xs, _, .skip r t => by
    obtain ⟨s, h1, h2⟩ := r
    cases h2
theorem atI_strs {ps : List Str} {r : Int} (r0 : 0 ≤ r) (r1 : r < ps.length) : ∃ p ∈ ps, atI (ps.map D.str) r = some (.str p) := by
  have h : r.toNat < ps.length := by omega
  refine ⟨ps[r.toNat], List.getElem_mem h, ?_⟩
  unfold atI ixN
  rw [List.length_map, if_pos r0, if_pos r1]
  show (ps.map D.str)[r.toNat]? = _
  rw [List.getElem?_map, List.getElem?_eq_getElem h]; rfl
theorem getD_own {rs : List (Str × List Str)} {p : Str} (nd : (rs.map Prod.fst).Nodup) (h : p ∈ rs.map Prod.fst) : getD (rs.map fun p => ((.inr p.1 : Key), sl p.2)) (.inr p) = some (sl (lk rs p)) := by
  refine getD_some ?_ ?_
  · have : (rs.map fun p => ((.inr p.1 : Key), sl p.2)).map Prod.fst = (rs.map Prod.fst).map (Sum.inr : Str → Key) := by rw [List.map_map, List.map_map]; rfl
    rw [this]; exact keys_nodup nd
  · exact List.mem_map.mpr ⟨_, lk_mem h, rfl⟩
theorem lk_self {rs : List (Str × List Str)} (nd : (rs.map Prod.fst).Nodup) {q : Str × List Str} (h : q ∈ rs) : lk rs q.1 = q.2 := by
  induction rs with
  | nil => cases h
  | cons a r ih =>
    have nd2 := List.nodup_cons.mp (show (a.1 :: r.map Prod.fst).Nodup from nd)
    unfold lk
    rw [List.lookup_cons]
    rcases List.mem_cons.mp h with e | h
    · subst e
      rw [beq_self_eq_true]; rfl
    · have hb : (q.1 == a.1) = false := by
        rw [beq_eq_false_iff_ne]; exact fun z => nd2.1 (by rw [← z]; exact List.mem_map_of_mem (f := Prod.fst) h)
      rw [hb]
      exact ih nd2.2 h
theorem rks_lk {rs : List (Str × List Str)} (nd : (rs.map Prod.fst).Nodup) : ((rs.map Prod.fst).map fun s => ((.inr s : Key), rk (lk rs s))) = rks rs := by
  unfold rks
  rw [List.map_map]
  exact List.map_congr_left fun q hq => by
    show ((.inr q.1 : Key), rk (lk rs q.1)) = _
    rw [lk_self nd hq]
theorem OwnOk.nd2 {rs : List (Str × List Str)} {ts ns : List Str} {m : Nat} (ok : OwnOk rs ts ns m) {p : Str × List Str} (h : p ∈ rs) : p.2.Nodup := (List.Perm.nodup_iff (ok.perm p h)).mpr ok.nsd
theorem OwnOk.nm {rs : List (Str × List Str)} {ts ns : List Str} {m : Nat} (ok : OwnOk rs ts ns m) {p : Str × List Str} (h : p ∈ rs) : ∀ s ∈ p.2, isName s = true := fun s hs => ok.nsn s ((ok.perm p h).mem_iff.mp hs)
theorem OwnOk.ln {rs : List (Str × List Str)} {ts ns : List Str} {m : Nat} (ok : OwnOk rs ts ns m) {p : Str × List Str} (h : p ∈ rs) : p.2.length = ns.length := (ok.perm p h).length_eq
theorem OwnOk.rks {rs : List (Str × List Str)} {ts ns : List Str} (ok : OwnOk rs ts ns 30) : Rks rs where
  ne := ok.ne
  len := by have := ok.len; omega
  nd := ok.nd
  name := ok.name
  le := fun p h => by rw [ok.ln h]; have := ok.nsl; omega
  names := fun p h => ok.nm h
  same := fun p hp q hq => srt_congr fun x => (ok.perm p hp).mem_iff.trans (ok.perm q hq).mem_iff.symm
end
end Fw

set_option maxHeartbeats 4000000
/-! The law's makings. -/
namespace Fw
open PySem PySem.Spec PyProof.Rows L2
local macro_rules | `(tactic| walk_at "fno") => `(tactic| first | (intro o ho; exact absurd ho (List.not_mem_nil)) | (simp; done) | (intro o ho; simp at ho; (try rcases ho with ho | ho) <;> subst ho <;> decide))
local macro_rules | `(tactic| walk_at "fop") => `(tactic| with_reducible first
  | refine dt_op opd_add ?_ | refine dt_op opd_sub ?_ | refine dt_op opd_mul ?_ | refine dt_op opd_fdivN ?_ | refine dt_op opd_mod ?_ | refine dt_op opd_pow ?_
  | refine dt_op opd_lt ?_ | refine dt_op opd_le ?_ | refine dt_op opd_gt ?_ | refine dt_op opd_ge ?_
  | refine dt_op opd_eq ?_ | refine dt_op opd_ne ?_ | refine dt_op opd_in ?_ | refine dt_op opd_in_sign ?_ | refine dt_op opd_add_str ?_ | refine dt_op opd_isN ?_ | refine dt_op opd_notN ?_
  | refine dt_op opd_ixL ?_ | refine dt_op opd_ixT ?_ | refine dt_op opf_cat.op ?_ | refine dt_op opf_rep.op ?_
  | refine dt_op opd_eqD ?_ | refine dt_op opd_neD ?_ | refine dt_op opd_eqDn ?_ | refine dt_op opd_inI ?_ | refine dt_op opd_eqI ?_ | refine dt_op opd_binI ?_ | refine dt_op opd_getI ?_)
local macro_rules | `(tactic| walk_at "fcb") => `(tactic| with_reducible first
  | refine dt_cb cad_lenA ?_ | refine dt_cb cad_lenI ?_ | refine dt_cb cad_isi ?_ | refine dt_cb cad_lenDR ?_ | refine dt_cb cad_max ?_ | refine dt_cb cad_min ?_ | refine dt_cb cad_all ?_ | refine dt_cb cad_any ?_ | refine dt_cb cad_sum ?_ | refine dt_cb cad_max2 ?_ | refine dt_cb cad_min2 ?_ | refine dt_cb cad_int1 ?_
  | refine dt_cb caf_list.ca ?_ | refine dt_cb caf_listD.ca ?_ | refine dt_cb caf_dictD.ca ?_ | refine dt_cb caf_dictP.ca ?_ | refine dt_cb caf_sortedS.ca ?_ | refine dt_cb caf_sortedD.ca ?_)
local macro_rules | `(tactic| walk_at "fex") => `(tactic| first
  | (refine ⟨(rfl : D.non = D.non), ?_⟩) | (refine ⟨_, .lst _, ?_⟩) | (refine ⟨_, .scr _, ?_⟩) | (refine ⟨_, _, _, rfl, rfl, rfl, ?_⟩) | (refine ⟨_, _, rfl, rfl, ?_⟩) | (refine ⟨_, rfl, ?_⟩) | (refine ⟨_, _, rfl, ?_⟩) | (refine ⟨_, _, _, rfl, ?_⟩) | (refine ⟨_, _, _, _, rfl, ?_⟩) | (refine ⟨_, _, _, _, _, rfl, ?_⟩) | (refine ⟨_, _, _, _, _, _, rfl, ?_⟩) | (refine ⟨_, .inl rfl, rfl, flat_strs _, ?_⟩) | (refine ⟨_, .inl rfl, ?_⟩) | (refine ⟨rfl, rfl, rfl, ?_⟩) | (refine ⟨(by simp only [List.length_cons, List.length_nil]; decide : List.length _ ≤ sizeLine), ?_⟩) | (refine ⟨fun _ => ?_, fun h => absurd h (by decide)⟩) | (refine ⟨fun h => absurd h (by decide), fun _ => ?_⟩))
local macro_rules | `(tactic| walk_at "fdi") => `(tactic| with_reducible first
  | refine di_list ?_ | refine di_range1 ?_ | refine di_range2 ?_ | refine di_range3 ?_ | refine di_str ?_ | refine di_items ?_ | refine di_values ?_ | refine di_keys ?_ | refine di_keysM ?_ | refine di_enum ?_)
local macro_rules | `(tactic| walk_at "ffld") => `(tactic| first
  | ((with_reducible refine fld_Committee_own_members ‹_› (dt_var (d := .obj "Committee" ?fs0) ?a1 ?a2)); (case a1 => rfl); refine ⟨_, _, rfl, rfl, ?_⟩)
  | ((with_reducible refine fld_Ranking_order ‹_› (dt_var (d := .obj "Ranking" ?fs0) ?a1 ?a2)); (case a1 => rfl); refine ⟨_, _, rfl, rfl, ?_⟩)
  | ((with_reducible refine fld_Ranking_places ‹_› (dt_var (d := .obj "Ranking" ?fs0) ?a1 ?a2)); (case a1 => rfl); refine ⟨_, _, rfl, rfl, ?_⟩)
  | ((with_reducible refine fld_Turns_order ‹_› (dt_var (d := .obj "Turns" ?fs0) ?a1 ?a2)); (case a1 => rfl); refine ⟨_, _, rfl, rfl, ?_⟩)
  | ((with_reducible refine fld_Game_own_rankings ‹_› (dt_var (d := .obj "Game" ?fs0) ?a1 ?a2)); (case a1 => rfl); refine ⟨_, _, rfl, rfl, ?_⟩)
  | ((with_reducible refine fld_Game_own_turns ‹_› (dt_var (d := .obj "Game" ?fs0) ?a1 ?a2)); (case a1 => rfl); refine ⟨_, _, rfl, rfl, ?_⟩)
  | ((with_reducible refine fld_Striker_own_target ‹_› (dt_var (d := .obj "Striker" ?fs0) ?a1 ?a2)); (case a1 => rfl); refine ⟨_, _, rfl, rfl, ?_⟩)
  | ((with_reducible refine fld_Keeper_own_target ‹_› (dt_var (d := .obj "Keeper" ?fs0) ?a1 ?a2)); (case a1 => rfl); refine ⟨_, _, rfl, rfl, ?_⟩))
local macro_rules | `(tactic| walk_at "fkit") => `(tactic| first
  | refine ⟨_, _, _, _, _, rfl, .str _, .ty _, kit_str_str ‹_›, ?_⟩
  | refine ⟨_, _, _, _, _, rfl, .int _, .ty _, kit_int_int ‹_›, ?_⟩
  | refine ⟨_, _, _, _, _, rfl, .lst _, .ty _, kit_list_list ‹_›, ?_⟩
  | refine ⟨_, _, _, _, _, rfl, .dic _, .ty _, kit_dict_dict ‹_›, ?_⟩
  | refine ⟨_, _, _, _, _, rfl, .obj _ _ (ins_Committee ‹_›), .glo _, kit_Committee_Committee ‹_›, ?_⟩
  | refine ⟨_, _, _, _, _, rfl, .obj _ _ (ins_Ranking ‹_›), .glo _, kit_Ranking_Ranking ‹_›, ?_⟩
  | refine ⟨_, _, _, _, _, rfl, .obj _ _ (ins_Turns ‹_›), .glo _, kit_Turns_Turns ‹_›, ?_⟩
  | refine ⟨_, _, _, _, _, rfl, .obj _ _ (ins_Game ‹_›), .glo _, kit_Game_Game ‹_›, ?_⟩
  | refine ⟨_, _, _, _, _, rfl, .int _, .ty _, kit_int_bool ‹_›, ?_⟩
  | refine ⟨_, _, _, _, _, rfl, .bl _, .ty _, kit_bool_int ‹_›, ?_⟩
  | refine ⟨_, _, _, _, _, rfl, .bl _, .ty _, kit_bool_bool ‹_›, ?_⟩)
local macro_rules | `(tactic| walk_at "fw1") => `(tactic| first
  | ((with_reducible refine dt_var (d := ?d0) ?a1 ?a2); (case a1 => rfl))
  | (with_reducible first
    | refine dt_int ?_ | refine dt_str ?_ | refine dt_bl ?_ | refine dt_non ?_ | refine dt_ty ?_ | refine dt_glo ?_
    | refine da_cons ?_ | refine da_nil ?_ | refine dtt_b ?_ | refine dtt_test ?_ | refine dtt_yes ?_ | refine dtt_not ?_ | refine dtt_and ?_ | refine dtt_or ?_ 
    | refine ds_unlAsg ?_ | refine ds_seq ?_ | refine ds_next ?_ | refine ds_ret ?_ | refine ds_retN ?_
    | refine dt_andV ?_ | refine dt_orV ?_ | refine dt_notV ?_ | refine dt_if ?_ | refine dt_chain opd_le opd_le ?_ | refine dt_chain opd_lt opd_lt ?_
    | refine dt_call0 ?_ | refine dt_prop ?_ | refine dt_make ?_ | refine dt_dget ?_ | refine dt_din ?_ | refine dt_dnotin ?_
    | refine (df_slL ?_).dt | refine do_none ?_ | refine do_some ?_ | refine (df_listVals ?_).dt | refine dt_stm ?_ | refine df_lst ?_ | refine df_cb caf_list ?_ | refine df_cb caf_listD ?_ | refine df_cb caf_dictD ?_ | refine df_cb caf_dictP ?_ | refine df_cb caf_sortedS ?_ | refine df_cb caf_sortedD ?_ | refine df_op opf_cat ?_ | refine df_listVals ?_ | refine df_make ?_ | refine df_slL ?_ | refine df_dnew ?_ | refine dt_lst ?_ | refine dt_tup ?_ | refine (df_dnew ?_).dt)
  | ((with_reducible refine dt_methS 0 (x := ?x0) (fs := ?f0) ?a1 ?a2 ?a3); (case a1 => rfl); (case a2 => rfl)) | (with_reducible refine dt_meth0 ?_)
  | (with_reducible refine dt_un und_neg ?_)
  | ((with_reducible refine dt_inO 0 (ds := ?d0) ?a1 ?a2); (case a1 => rfl)) | ((with_reducible refine dt_lenO 0 (ds := ?d0) ?a1 ?a2); (case a1 => rfl)) | ((with_reducible refine dt_lenO 1 (ds := ?d0) ?a1 ?a2); (case a1 => rfl))
  | ((with_reducible refine dm_popAt 0 (ds := ?d0) ?a1 ?a2); (case a1 => rfl)) | ((with_reducible refine dm_popAt 1 (ds := ?d0) ?a1 ?a2); (case a1 => rfl)) | (with_reducible refine DT.dm ?_) | walk_at "fop" | walk_at "fcb" | walk_at "fdi"
  | ((with_reducible refine ds_asgE ?a1 ?a2 ?a3); (case a1 => walk_at "fno"); (case a2 => simp [startG])) | ((with_reducible refine ds_asg ?a1 ?a2); (case a1 => walk_at "fno")) | ((with_reducible refine ds_asgT ?a1 ?a2 ?a3); (case a1 => walk_at "fno"); (case a2 => walk_at "fno")) | ((with_reducible refine ds_append 0 (ds := ?d0) ?a1 ?a2); (case a1 => rfl)) | ((with_reducible refine ds_append 1 (ds := ?d0) ?a1 ?a2); (case a1 => rfl)) | (with_reducible refine ds_expr ?_) | ((with_reducible refine ds_par ?a1 ?a2 ?a3); (case a1 => walk_at "fno"); (case a2 => walk_at "fno"))
  | ((with_reducible refine dg_tup ?a1 ?a2); (case a1 => rfl)) | (with_reducible refine dgs_cons ?_) | (with_reducible refine dgs_nil ?_) | (with_reducible refine lct ?_) | (with_reducible refine dct ?_)
  | ((with_reducible refine dg_name ?a1 ?a2); (case a1 => walk_at "fno"))
  | walk_at "ffld" | walk_at "fex" | walk_at "fkit")
local macro_rules | `(tactic| walk_at "fw") => `(tactic| repeat (first | walk_at "fw1" | (with_reducible refine ds_if ?_)))
local macro_rules | `(tactic| walk_at "fwn") => `(tactic| repeat walk_at "fw1")

section
variable {P : Program} {w : World} {K : PySem.W.Frag} {mg : Str → Option Value} {base : Heap}
def wt_law_own : Wt := fun ds kk _ => ∃ m : Nat, ds = [.stm, .int (m : Nat)] ∧ 0 < m ∧ m ≤ 8 ∧ ∀ rs ts ns, OwnOk rs ts ns m → kk (ownD rs ts)
theorem ok_law_own (T : TX K mg) : Ok P w K mg base 4 (He.ga K "_law_own") ["_law_stream_here", "_law_most"] (spD K wt_law_own) := by
  obtain ⟨fd, F⟩ := T.def_ 32 (d := d_law_own)
  have k_law_draw := ok_law_draw (P := P) (w := w) (base := base) T
  have k_law_names := ok_law_names (P := P) (w := w) (base := base) T
  have k_law_players := ok_law_players (P := P) (w := w) (base := base) T
  have k_law_shuffled := ok_law_shuffled (P := P) (w := w) (base := base) T
  refine ⟨⟨fd, fnD F sc_law_own (fun _ _ _ h => by obtain ⟨m, rfl, h0, h1, hk⟩ := h; rfl) (fun cdv A outer s H E hr => ⟨_, (pss_cons (ps_asg (pe_tup (pa_cons (q_call k_law_names hr (T.glo 53) (pa_cons (pv 0) (pa_cons (pe_op op_add pe_int (q_call k_law_draw hr (T.glo 50) (pa_cons (pv 0) (pa_cons (pv 1) pa_nil)))) pa_nil))) (pa_cons (q_call k_law_players hr (T.glo 52) (pa_cons (pv 0) (pa_cons pe_int pa_nil))) pa_nil))) (q_tup (n := 2) K rfl rfl (pgs_cons (pg_name (i := 2) sc_law_own.nd rfl (by first | exact Or.inl rfl | exact Or.inr rfl)) (pgs_cons (pg_name (i := 3) sc_law_own.nd rfl (by first | exact Or.inl rfl | exact Or.inr rfl)) pgs_nil)))) (pss_cons (ps_set (i := 4) sc_law_own.nd rfl (by first | exact Or.inl rfl | exact Or.inr rfl) (pe_callTy (z_dictP K rfl) (by rfl) (T.free 27) (by decide +kernel) (pa_cons (pe_lc (own := [("_law_player", 5)]) rfl sc_law_own.nd (z_plist K (pv 3)) (blkOk_by (own := [("_law_player", 5)]) (N := N_law_own) (sc := defScope s_law_own) (by decide +kernel)) (fun _ _ _ _ _ => (pg_name (i := 5) sc_law_own.nd rfl (by first | exact Or.inl rfl | exact Or.inr rfl))) (fun _ _ _ _ _ => pts_nil) (fun _ _ _ _ _ => (pe_tup (pa_cons (pv 5) (pa_cons (q_call k_law_shuffled hr (T.glo 51) (pa_cons (pv 0) (pa_cons (pv 2) pa_nil))) pa_nil))))) pa_nil))) (pss_cons (ps_setLc (i := 6) (own := [("_law_turn", 7)]) rfl sc_law_own.nd rfl rfl (sw_true rfl rfl rfl (by decide +kernel)) (pi_range1 (by rfl) (T.free 47) (pa_cons (q_call k_law_draw hr (T.glo 50) (pa_cons (pv 0) (pa_cons (pe_op op_add (pe_callB (z_len K) (by rfl) (T.free 2) boot_len (pa_cons (pv 2) pa_nil)) pe_int) pa_nil))) pa_nil)) (blkOk_by (own := [("_law_turn", 7)]) (N := N_law_own) (sc := defScope s_law_own) (by decide +kernel)) (fun _ _ _ _ _ => (pg_name (i := 7) sc_law_own.nd rfl (by first | exact Or.inl rfl | exact Or.inr rfl))) (fun _ _ _ _ _ => pts_nil) (fun _ _ _ _ _ => (pe_ix (z_ixL K) (pv 3) (q_call k_law_draw hr (T.glo 50) (pa_cons (pv 0) (pa_cons (pe_callB (z_len K) (by rfl) (T.free 2) boot_len (pa_cons (pv 3) pa_nil)) pa_nil))) (fun _ _ => rfl)))) (pss_one (ps_ret (pe_lst (pa_cons (pv 4) (pa_cons (pv 6) pa_nil)))))))), fun ds kk ke h => ?_⟩), FunD.bindsN F fun _ _ _ _ _ _ us hl => match us, hl with | [_, _], _ => rfl⟩, F.kp⟩
  obtain ⟨m, rfl, h0, h1, hk⟩ := h
  try dsimp only [cxK]
  walk_at "fw"
  refine ⟨by omega, by omega, fun r r0 r1 => ?_⟩
  walk_at "fw"
  refine ⟨by omega, by omega, fun ns n1 n2 n3 => ?_⟩
  walk_at "fw"
  refine ⟨by decide, by decide, fun ps p1 p2 p3 p4 => ?_⟩
  have p2' : ps.length ≤ 3 := p2
  walk_at "fw"
  refine (df_lc [5] (fun x o => ∃ p ys, x = .str p ∧ List.Perm ys ns ∧ o = some (.tup [.str p, sl ys])) (by decide) (by walk_at "fno") ?_).dt
  walk_at "fw"
  refine ⟨by rw [List.length_map]; exact szOf (by omega), fun x hx => ?_, fun zs hz => ?_⟩
  · obtain ⟨p, hp, rfl⟩ := List.mem_map.mp hx
    walk_at "fw"
    refine ⟨by omega, fun ys hy => ?_⟩
    walk_at "fw"
    exact ⟨p, ys, rfl, hy, rfl⟩
  · obtain ⟨rs, e1, e2, rfl⟩ := own_lc hz
    have nd : (rs.map Prod.fst).Nodup := by rw [e1]; exact p3
    have lrs : rs.length = ps.length := by rw [← e1, List.length_map]
    walk_at "fw"
    refine ⟨rs.map fun p => ((.inr p.1 : Key), sl p.2), by simp only [List.map_map]; rfl, ?_⟩
    rw [mergeD_nil (by
      have e : (rs.map fun p => ((.inr p.1 : Key), sl p.2)).map Prod.fst = (rs.map Prod.fst).map (Sum.inr : Str → Key) := by rw [List.map_map, List.map_map]; rfl
      rw [e]; exact keys_nodup nd)]
    walk_at "fw"
    refine (df_lc [7] (fun x o => ∃ t ∈ ps, o = some (.str t)) (by decide) (by walk_at "fno") ?_).dt
    walk_at "fw"
    rw [List.length_map]
    refine ⟨by omega, by omega, fun c c0 c1 => ?_⟩
    walk_at "fw"
    refine ⟨by omega, by omega, by rw [rngD_len]; exact szOf (by omega), fun x hx => ?_, fun zs hz => ?_⟩
    · walk_at "fw"
      have h0 : 0 < ps.length := List.length_pos_iff.mpr p1
      rw [List.length_map]
      refine ⟨by omega, by omega, fun r2 r20 r21 => ?_⟩
      obtain ⟨t, ht, e⟩ := atI_strs r20 r21
      exact ⟨_, _, _, rfl, rfl, e, t, ht, rfl⟩
    · obtain ⟨ts, t1, t2, rfl⟩ := turn_lc hz
      rw [rngD_len] at t1
      walk_at "fw"
      refine hk rs ts ns ⟨fun z => p1 (by rw [← e1, z]; rfl), by omega, nd, fun p hp => p4 _ (by rw [← e1]; exact List.mem_map_of_mem (f := Prod.fst) hp), e2, n2, n3, by omega, by omega, fun t ht => by rw [e1]; exact t2 t ht⟩
def wt_law_game : Wt := fun ds kk _ => ∃ (rs : List (Str × List Str)) (ts ns : List Str), ds = [ownD rs ts] ∧ OwnOk rs ts ns 30 ∧ kk (gm (srs rs) ts)
theorem ok_law_game (T : TX K mg) : Ok P w K mg base 9 (He.ga K "_law_game") ["_law_own_here"] (spD K wt_law_game) := by
  obtain ⟨fd, F⟩ := T.def_ 33 (d := d_law_game)
  have k_Game_init := ok_Game_init (P := P) (w := w) (base := base) T
  have k_Ranking_init := ok_Ranking_init (P := P) (w := w) (base := base) T
  have k_Turns_init := ok_Turns_init (P := P) (w := w) (base := base) T
  refine ⟨⟨fd, fnD F sc_law_game (fun _ _ _ h => by obtain ⟨rs, ts, ns, rfl, ok, hk⟩ := h; rfl) (fun cdv A outer s H E hr => ⟨_, (pss_one (ps_ret (q_make k_Game_init (T.mkr 54) hr (T.glo 55) (pa_cons (pe_callTy (z_dictP K rfl) (by rfl) (T.free 27) (by decide +kernel) (pa_cons (pe_unl (pe_lc (own := [("_law_player", 1)]) rfl sc_law_game.nd (pi_keys (pe_lk (pe_ix (z_ixL K) (pv 0) pe_int (fun _ _ => rfl)))) (blkOk_by (own := [("_law_player", 1)]) (N := N_law_game) (sc := defScope s_law_game) (by decide +kernel)) (fun _ _ _ _ _ => (pg_name (i := 1) sc_law_game.nd rfl (by first | exact Or.inl rfl | exact Or.inr rfl))) (fun _ _ _ _ _ => pts_nil) (fun _ _ _ _ _ => (pe_tup (pa_cons (pv 1) (pa_cons (q_make k_Ranking_init (T.mkr 57) hr (T.glo 35) (pa_cons (q_dget hr (pe_ix (z_ixL K) (pv 0) pe_int (fun _ _ => rfl)) (pv 1) (fun _ _ => rfl)) pa_nil)) pa_nil)))))) pa_nil)) (pa_cons (q_make k_Turns_init (T.mkr 56) hr (T.glo 31) (pa_cons (pe_ix (z_ixL K) (pv 0) pe_int (fun _ _ => rfl)) pa_nil)) pa_nil))))), fun ds kk ke h => ?_⟩), FunD.bindsN F fun _ _ _ _ _ _ us hl => match us, hl with | [_], _ => rfl⟩, F.kp⟩
  obtain ⟨rs, ts, ns, rfl, ok, hk⟩ := h
  try dsimp only [cxK]
  walk_at "fw"
  refine (df_lcLM [1] D.str (fun s => .tup [.str s, rk (lk rs s)]) (fun a b e => by cases e; rfl) (by decide) (by walk_at "fno") ?_).dt
  walk_at "fw"
  have l3 := ok.len
  have l8 := ok.nsl
  refine ⟨rs.map Prod.fst, by rw [List.map_map, List.map_map]; rfl, szOf (by rw [List.length_map]; omega), fun s hs => ?_, ?_⟩
  · walk_at "fw"
    refine ⟨_, .inr s, _, rfl, rfl, getD_own ok.nd hs, ?_⟩
    walk_at "fw"
    have hm := lk_mem hs
    refine ⟨by rw [ok.ln hm]; omega, ok.nm hm, ok.nd2 hm, ?_⟩
    walk_at "fw"
    rfl
  · walk_at "fw"
    refine ⟨(rs.map Prod.fst).map fun s => ((.inr s : Key), rk (lk rs s)), by simp only [List.map_map]; rfl, ?_⟩
    rw [mergeD_nil (by rw [List.map_map]; exact keys_nodup ok.nd), rks_lk ok.nd]
    walk_at "fw"
    refine ⟨by have := ok.tl; omega, fun s h => ?_, ?_⟩
    · obtain ⟨q, hq, e⟩ := List.mem_map.mp (ok.tk s h)
      rw [← e]; exact ok.name q hq
    · walk_at "fw"
      exact ⟨ok.rks, by have := ok.tl; omega, fun p hp => by rw [ok.ln hp]; exact ok.tl, ok.tk, hk⟩
def wt_law_all : Wt := fun ds kk _ => ∃ (rs : List (Str × List Str)) (ts ns : List Str), ds = [ownD rs ts] ∧ OwnOk rs ts ns 30 ∧ kk (sl (srt ns))
theorem ok_law_all (T : TX K mg) : Ok P w K mg base 1 (He.ga K "_law_all") ["_law_own_here"] (spD K wt_law_all) := by
  obtain ⟨fd, F⟩ := T.def_ 34 (d := d_law_all)
  refine ⟨⟨fd, fnD F sc_law_all (fun _ _ _ h => by obtain ⟨rs, ts, ns, rfl, ok, hk⟩ := h; rfl) (fun cdv A outer s H E hr => ⟨_, (pss_one (ps_ret (pe_callB (z_sortedS K) (by rfl) (T.free 6) (by decide +kernel) (pa_cons (pe_ix (z_ixL K) (pe_listVals rfl (pe_ix (z_ixL K) (pv 0) pe_int (fun _ _ => rfl)) (by rfl) (T.free 4) (by decide +kernel)) pe_int (fun _ _ => rfl)) pa_nil)))), fun ds kk ke h => ?_⟩), FunD.bindsN F fun _ _ _ _ _ _ us hl => match us, hl with | [_], _ => rfl⟩, F.kp⟩
  obtain ⟨rs, ts, ns, rfl, ok, hk⟩ := h
  try dsimp only [cxK]
  walk_at "fw"
  obtain ⟨q, r, rfl⟩ := List.exists_cons_of_ne_nil ok.ne
  have hq : q ∈ q :: r := List.mem_cons_self
  refine ⟨_, _, sl q.2, rfl, rfl, by rw [List.map_cons, List.map_cons]; exact atI_0 _ _, ?_⟩
  walk_at "fw"
  refine ⟨by rw [ok.ln hq]; have := ok.nsl; omega, fun ys yp so => ?_⟩
  rw [ts_srt (ss := ns) (ok.nd2 hq) (fun x => (ok.perm q hq).mem_iff) yp so]
  exact hk
end
end Fw

set_option maxHeartbeats 4000000
/-! Games after strikes. -/
namespace Fw
open PySem PySem.Spec PyProof.Rows L2
local macro_rules | `(tactic| walk_at "fno") => `(tactic| first | (intro o ho; exact absurd ho (List.not_mem_nil)) | (simp; done) | (intro o ho; simp at ho; (try rcases ho with ho | ho) <;> subst ho <;> decide))
local macro_rules | `(tactic| walk_at "fop") => `(tactic| with_reducible first
  | refine dt_op opd_add ?_ | refine dt_op opd_sub ?_ | refine dt_op opd_mul ?_ | refine dt_op opd_fdivN ?_ | refine dt_op opd_mod ?_ | refine dt_op opd_pow ?_
  | refine dt_op opd_lt ?_ | refine dt_op opd_le ?_ | refine dt_op opd_gt ?_ | refine dt_op opd_ge ?_
  | refine dt_op opd_eq ?_ | refine dt_op opd_ne ?_ | refine dt_op opd_in ?_ | refine dt_op opd_in_sign ?_ | refine dt_op opd_add_str ?_ | refine dt_op opd_isN ?_ | refine dt_op opd_notN ?_
  | refine dt_op opd_ixL ?_ | refine dt_op opd_ixT ?_ | refine dt_op opf_cat.op ?_ | refine dt_op opf_rep.op ?_
  | refine dt_op opd_eqD ?_ | refine dt_op opd_neD ?_ | refine dt_op opd_eqDn ?_ | refine dt_op opd_inI ?_ | refine dt_op opd_eqI ?_ | refine dt_op opd_binI ?_ | refine dt_op opd_getI ?_)
local macro_rules | `(tactic| walk_at "fcb") => `(tactic| with_reducible first
  | refine dt_cb cad_lenA ?_ | refine dt_cb cad_lenI ?_ | refine dt_cb cad_isi ?_ | refine dt_cb cad_lenDR ?_ | refine dt_cb cad_max ?_ | refine dt_cb cad_min ?_ | refine dt_cb cad_all ?_ | refine dt_cb cad_any ?_ | refine dt_cb cad_sum ?_ | refine dt_cb cad_max2 ?_ | refine dt_cb cad_min2 ?_ | refine dt_cb cad_int1 ?_
  | refine dt_cb caf_list.ca ?_ | refine dt_cb caf_listD.ca ?_ | refine dt_cb caf_dictD.ca ?_ | refine dt_cb caf_dictP.ca ?_ | refine dt_cb caf_sortedS.ca ?_ | refine dt_cb caf_sortedD.ca ?_)
local macro_rules | `(tactic| walk_at "fex") => `(tactic| first
  | (refine ⟨(rfl : D.non = D.non), ?_⟩) | (refine ⟨_, .lst _, ?_⟩) | (refine ⟨_, .scr _, ?_⟩) | (refine ⟨_, _, _, rfl, rfl, rfl, ?_⟩) | (refine ⟨_, _, rfl, rfl, ?_⟩) | (refine ⟨_, rfl, ?_⟩) | (refine ⟨_, _, rfl, ?_⟩) | (refine ⟨_, _, _, rfl, ?_⟩) | (refine ⟨_, _, _, _, rfl, ?_⟩) | (refine ⟨_, _, _, _, _, rfl, ?_⟩) | (refine ⟨_, _, _, _, _, _, rfl, ?_⟩) | (refine ⟨_, .inl rfl, rfl, flat_strs _, ?_⟩) | (refine ⟨_, .inl rfl, ?_⟩) | (refine ⟨rfl, rfl, rfl, ?_⟩) | (refine ⟨(by simp only [List.length_cons, List.length_nil]; decide : List.length _ ≤ sizeLine), ?_⟩) | (refine ⟨fun _ => ?_, fun h => absurd h (by decide)⟩) | (refine ⟨fun h => absurd h (by decide), fun _ => ?_⟩))
local macro_rules | `(tactic| walk_at "fdi") => `(tactic| with_reducible first
  | refine di_list ?_ | refine di_range1 ?_ | refine di_range2 ?_ | refine di_range3 ?_ | refine di_str ?_ | refine di_items ?_ | refine di_values ?_ | refine di_keys ?_ | refine di_keysM ?_ | refine di_enum ?_)
local macro_rules | `(tactic| walk_at "ffld") => `(tactic| first
  | ((with_reducible refine fld_Committee_own_members ‹_› (dt_var (d := .obj "Committee" ?fs0) ?a1 ?a2)); (case a1 => rfl); refine ⟨_, _, rfl, rfl, ?_⟩)
  | ((with_reducible refine fld_Ranking_order ‹_› (dt_var (d := .obj "Ranking" ?fs0) ?a1 ?a2)); (case a1 => rfl); refine ⟨_, _, rfl, rfl, ?_⟩)
  | ((with_reducible refine fld_Ranking_places ‹_› (dt_var (d := .obj "Ranking" ?fs0) ?a1 ?a2)); (case a1 => rfl); refine ⟨_, _, rfl, rfl, ?_⟩)
  | ((with_reducible refine fld_Turns_order ‹_› (dt_var (d := .obj "Turns" ?fs0) ?a1 ?a2)); (case a1 => rfl); refine ⟨_, _, rfl, rfl, ?_⟩)
  | ((with_reducible refine fld_Game_own_rankings ‹_› (dt_var (d := .obj "Game" ?fs0) ?a1 ?a2)); (case a1 => rfl); refine ⟨_, _, rfl, rfl, ?_⟩)
  | ((with_reducible refine fld_Game_own_turns ‹_› (dt_var (d := .obj "Game" ?fs0) ?a1 ?a2)); (case a1 => rfl); refine ⟨_, _, rfl, rfl, ?_⟩)
  | ((with_reducible refine fld_Striker_own_target ‹_› (dt_var (d := .obj "Striker" ?fs0) ?a1 ?a2)); (case a1 => rfl); refine ⟨_, _, rfl, rfl, ?_⟩)
  | ((with_reducible refine fld_Keeper_own_target ‹_› (dt_var (d := .obj "Keeper" ?fs0) ?a1 ?a2)); (case a1 => rfl); refine ⟨_, _, rfl, rfl, ?_⟩))
local macro_rules | `(tactic| walk_at "fkit") => `(tactic| first
  | refine ⟨_, _, _, _, _, rfl, .str _, .ty _, kit_str_str ‹_›, ?_⟩
  | refine ⟨_, _, _, _, _, rfl, .int _, .ty _, kit_int_int ‹_›, ?_⟩
  | refine ⟨_, _, _, _, _, rfl, .lst _, .ty _, kit_list_list ‹_›, ?_⟩
  | refine ⟨_, _, _, _, _, rfl, .dic _, .ty _, kit_dict_dict ‹_›, ?_⟩
  | refine ⟨_, _, _, _, _, rfl, .obj _ _ (ins_Committee ‹_›), .glo _, kit_Committee_Committee ‹_›, ?_⟩
  | refine ⟨_, _, _, _, _, rfl, .obj _ _ (ins_Ranking ‹_›), .glo _, kit_Ranking_Ranking ‹_›, ?_⟩
  | refine ⟨_, _, _, _, _, rfl, .obj _ _ (ins_Turns ‹_›), .glo _, kit_Turns_Turns ‹_›, ?_⟩
  | refine ⟨_, _, _, _, _, rfl, .obj _ _ (ins_Game ‹_›), .glo _, kit_Game_Game ‹_›, ?_⟩
  | refine ⟨_, _, _, _, _, rfl, .int _, .ty _, kit_int_bool ‹_›, ?_⟩
  | refine ⟨_, _, _, _, _, rfl, .bl _, .ty _, kit_bool_int ‹_›, ?_⟩
  | refine ⟨_, _, _, _, _, rfl, .bl _, .ty _, kit_bool_bool ‹_›, ?_⟩)
local macro_rules | `(tactic| walk_at "fw1") => `(tactic| first
  | ((with_reducible refine dt_var (d := ?d0) ?a1 ?a2); (case a1 => rfl))
  | (with_reducible first
    | refine dt_int ?_ | refine dt_str ?_ | refine dt_bl ?_ | refine dt_non ?_ | refine dt_ty ?_ | refine dt_glo ?_
    | refine da_cons ?_ | refine da_nil ?_ | refine dtt_b ?_ | refine dtt_test ?_ | refine dtt_yes ?_ | refine dtt_not ?_ | refine dtt_and ?_ | refine dtt_or ?_ 
    | refine ds_unlAsg ?_ | refine ds_seq ?_ | refine ds_next ?_ | refine ds_ret ?_ | refine ds_retN ?_
    | refine dt_andV ?_ | refine dt_orV ?_ | refine dt_notV ?_ | refine dt_if ?_ | refine dt_chain opd_le opd_le ?_ | refine dt_chain opd_lt opd_lt ?_
    | refine dt_call0 ?_ | refine dt_prop ?_ | refine dt_make ?_ | refine dt_dget ?_ | refine dt_din ?_ | refine dt_dnotin ?_
    | refine (df_slL ?_).dt | refine do_none ?_ | refine do_some ?_ | refine (df_listVals ?_).dt | refine dt_stm ?_ | refine df_lst ?_ | refine df_cb caf_list ?_ | refine df_cb caf_listD ?_ | refine df_cb caf_dictD ?_ | refine df_cb caf_dictP ?_ | refine df_cb caf_sortedS ?_ | refine df_cb caf_sortedD ?_ | refine df_op opf_cat ?_ | refine df_listVals ?_ | refine df_make ?_ | refine df_slL ?_ | refine df_dnew ?_ | refine dt_lst ?_ | refine dt_tup ?_ | refine (df_dnew ?_).dt)
  | ((with_reducible refine dt_methS 0 (x := ?x0) (fs := ?f0) ?a1 ?a2 ?a3); (case a1 => rfl); (case a2 => rfl)) | (with_reducible refine dt_meth0 ?_)
  | (with_reducible refine dt_un und_neg ?_)
  | ((with_reducible refine dt_inO 0 (ds := ?d0) ?a1 ?a2); (case a1 => rfl)) | ((with_reducible refine dt_lenO 0 (ds := ?d0) ?a1 ?a2); (case a1 => rfl)) | ((with_reducible refine dt_lenO 1 (ds := ?d0) ?a1 ?a2); (case a1 => rfl))
  | ((with_reducible refine dm_popAt 0 (ds := ?d0) ?a1 ?a2); (case a1 => rfl)) | ((with_reducible refine dm_popAt 1 (ds := ?d0) ?a1 ?a2); (case a1 => rfl)) | (with_reducible refine DT.dm ?_) | walk_at "fop" | walk_at "fcb" | walk_at "fdi"
  | ((with_reducible refine ds_asgE ?a1 ?a2 ?a3); (case a1 => walk_at "fno"); (case a2 => simp [startG])) | ((with_reducible refine ds_asg ?a1 ?a2); (case a1 => walk_at "fno")) | ((with_reducible refine ds_asgT ?a1 ?a2 ?a3); (case a1 => walk_at "fno"); (case a2 => walk_at "fno")) | ((with_reducible refine ds_append 0 (ds := ?d0) ?a1 ?a2); (case a1 => rfl)) | ((with_reducible refine ds_append 1 (ds := ?d0) ?a1 ?a2); (case a1 => rfl)) | (with_reducible refine ds_expr ?_) | ((with_reducible refine ds_par ?a1 ?a2 ?a3); (case a1 => walk_at "fno"); (case a2 => walk_at "fno"))
  | ((with_reducible refine dg_tup ?a1 ?a2); (case a1 => rfl)) | (with_reducible refine dgs_cons ?_) | (with_reducible refine dgs_nil ?_) | (with_reducible refine lct ?_) | (with_reducible refine dct ?_)
  | ((with_reducible refine dg_name ?a1 ?a2); (case a1 => walk_at "fno"))
  | walk_at "ffld" | walk_at "fex" | walk_at "fkit")
local macro_rules | `(tactic| walk_at "fw") => `(tactic| repeat (first | walk_at "fw1" | (with_reducible refine ds_if ?_)))
local macro_rules | `(tactic| walk_at "fwn") => `(tactic| repeat walk_at "fw1")

/-! ### plain -/
def cut (c : List Str) (rs : List (Str × List Str)) : List (Str × List Str) := rs.map fun p => (p.1, p.2.filter fun s => decide (s ∉ c))
theorem cut_keys (c : List Str) (rs : List (Str × List Str)) : (cut c rs).map Prod.fst = rs.map Prod.fst := by
  unfold cut; rw [List.map_map]; rfl
theorem cut_mem {c : List Str} {rs : List (Str × List Str)} {p : Str × List Str} (h : p ∈ cut c rs) : ∃ q ∈ rs, p = (q.1, q.2.filter fun s => decide (s ∉ c)) := by
  obtain ⟨q, hq, e⟩ := List.mem_map.mp h
  exact ⟨q, hq, e.symm⟩
theorem cut_congr {c d : List Str} (h : ∀ s, s ∈ c ↔ s ∈ d) (rs : List (Str × List Str)) : cut c rs = cut d rs := by
  unfold cut
  refine List.map_congr_left fun p _ => ?_
  congr 1
  refine List.filter_congr fun s _ => ?_
  rw [Bool.eq_iff_iff, decide_eq_true_eq, decide_eq_true_eq, h]
theorem cut_nil (rs : List (Str × List Str)) : cut [] rs = rs := by
  unfold cut
  rw [show (fun p : Str × List Str => (p.1, p.2.filter fun s => decide (s ∉ ([] : List Str)))) = id from ?_, List.map_id]
  funext p
  rw [List.filter_eq_self.mpr (by intro s _; simp)]; rfl
theorem cut_cut (c d : List Str) (rs : List (Str × List Str)) : cut d (cut c rs) = cut (c ++ d) rs := by
  unfold cut
  rw [List.map_map]
  refine List.map_congr_left fun p _ => ?_
  show (p.1, (p.2.filter fun s => decide (s ∉ c)).filter fun s => decide (s ∉ d)) = _
  rw [List.filter_filter]
  congr 1
  refine List.filter_congr fun s _ => ?_
  rw [Bool.eq_iff_iff, Bool.and_eq_true, decide_eq_true_eq, decide_eq_true_eq, decide_eq_true_eq, List.mem_append, not_or]
  exact And.comm
/-- keys in order -/
def Sk (rs : List (Str × List Str)) : Prop := srt (rs.map Prod.fst) = rs.map Prod.fst
theorem srs_sk (rs : List (Str × List Str)) : Sk (srs rs) := by
  unfold Sk
  rw [srs_keys, srt_srt]
theorem srs_id {rs : List (Str × List Str)} (nd : (rs.map Prod.fst).Nodup) (h : Sk rs) : srs rs = rs := by
  unfold srs
  rw [h, List.map_map]
  conv => rhs; rw [← List.map_id rs]
  exact List.map_congr_left fun q hq => by
    show (q.1, lk rs q.1) = q
    rw [lk_self nd hq]
theorem cut_sk {c : List Str} {rs : List (Str × List Str)} (h : Sk rs) : Sk (cut c rs) := by
  unfold Sk; rw [cut_keys]; exact h
theorem Rks.cut {c : List Str} {rs : List (Str × List Str)} (h : Rks rs) : Rks (cut c rs) where
  ne := fun z => h.ne (by
    have e := congrArg List.length z
    unfold Fw.cut at e
    rw [List.length_map] at e
    exact List.length_eq_zero_iff.mp e)
  len := by unfold Fw.cut; rw [List.length_map]; exact h.len
  nd := by rw [cut_keys]; exact h.nd
  name := fun p hp => by obtain ⟨q, hq, rfl⟩ := cut_mem hp; exact h.name q hq
  le := fun p hp => by
    obtain ⟨q, hq, rfl⟩ := cut_mem hp
    exact Nat.le_trans (List.length_filter_le _ _) (h.le q hq)
  names := fun p hp s hs => by
    obtain ⟨q, hq, rfl⟩ := cut_mem hp
    exact h.names q hq s ((List.mem_filter.mp hs).1)
  same := fun p hp q hq => by
    obtain ⟨p', hp', rfl⟩ := cut_mem hp
    obtain ⟨q', hq', rfl⟩ := cut_mem hq
    have e := h.same p' hp' q' hq'
    refine srt_congr fun x => ?_
    show x ∈ p'.2.filter _ ↔ x ∈ q'.2.filter _
    rw [List.mem_filter, List.mem_filter, ← srt_mem (ss := p'.2), e, srt_mem]
/-- a game as it stands -/
structure GX (rs : List (Str × List Str)) (ts : List Str) : Prop where
  rk : Rks rs
  sk : Sk rs
  nds : ∀ p ∈ rs, p.2.Nodup
  tl : ts.length ≤ 30
  ln : ∀ p ∈ rs, ts.length ≤ p.2.length
  tk : ∀ t ∈ ts, t ∈ rs.map Prod.fst
theorem GX.ok {rs : List (Str × List Str)} {ts : List Str} (g : GX rs ts) : GOk rs ts := ⟨g.rk, g.nds, g.tl⟩
theorem GX.tn {rs : List (Str × List Str)} {ts : List Str} (g : GX rs ts) : ∀ t ∈ ts, isName t = true := fun t ht => by
  obtain ⟨q, hq, e⟩ := List.mem_map.mp (g.tk t ht)
  rw [← e]; exact g.rk.name q hq
theorem GX.mem {rs : List (Str × List Str)} {ts : List Str} (g : GX rs ts) {p q : Str × List Str} (hp : p ∈ rs) (hq : q ∈ rs) {s : Str} : s ∈ p.2 ↔ s ∈ q.2 := by
  rw [← srt_mem (ss := p.2), g.rk.same p hp q hq, srt_mem]
theorem GX.len {rs : List (Str × List Str)} {ts : List Str} (g : GX rs ts) {p q : Str × List Str} (hp : p ∈ rs) (hq : q ∈ rs) : p.2.length = q.2.length := by
  rw [← srt_len (g.nds p hp), g.rk.same p hp q hq, srt_len (g.nds q hq)]
theorem filter_ne {A : List Str} {x : Str} (nd : A.Nodup) (h : x ∈ A) : (A.filter fun s => decide (s ∉ [x])).length + 1 = A.length := by
  have e : (A.filter fun s => decide (s ∉ [x])) = A.erase x := by
    rw [nd.erase_eq_filter]
    refine List.filter_congr fun s _ => ?_
    rw [Bool.eq_iff_iff, decide_eq_true_eq, List.mem_singleton, bne_iff_ne]
  rw [e, List.length_erase_of_mem h]
  have := List.length_pos_of_mem h
  omega
theorem GX.after {rs : List (Str × List Str)} {t : Str} {ts : List Str} {x : Str} (g : GX rs (t :: ts)) (hx : ∀ p ∈ rs, x ∈ p.2) : GX (Fw.cut [x] rs) ts where
  rk := g.rk.cut
  sk := cut_sk g.sk
  nds := fun p hp => by obtain ⟨q, hq, rfl⟩ := cut_mem hp; exact (g.nds q hq).filter _
  tl := by have := g.tl; rw [List.length_cons] at this; omega
  ln := fun p hp => by
    obtain ⟨q, hq, rfl⟩ := cut_mem hp
    have h1 := filter_ne (g.nds q hq) (hx q hq)
    have h2 := g.ln q hq
    rw [List.length_cons] at h2
    show ts.length ≤ (q.2.filter _).length
    omega
  tk := fun s hs => by rw [cut_keys]; exact g.tk s (List.mem_cons_of_mem _ hs)
theorem atI_nat' {α : Type} {xs : List α} {i : Nat} {x : α} (h : xs[i]? = some x) : atI xs (i : Int) = some x := by
  have hl := (List.getElem?_eq_some_iff.mp h).1
  unfold atI ixN
  rw [if_pos (by omega), if_pos (by omega)]
  show xs[((i : Int)).toNat]? = _
  rw [Int.toNat_natCast]; exact h
theorem sl_inj : ∀ {a b : List Str}, a.map D.str = b.map D.str → a = b
  | [], [], _ => rfl
  | [], _ :: _, h => by cases h
  | _ :: _, [], h => by cases h
  | x :: r, y :: t, h => by
    rw [List.map_cons, List.map_cons] at h
    injection h with h1 h2
    rw [strs_inj h1, sl_inj h2]
theorem rk_inj {a b : List Str} (h : rk a = rk b) : a = b := by
  unfold rk at h
  injection h with h1 h2
  injection h2 with h3 h4
  injection h3 with h5 h6
  injection h6 with h7
  exact sl_inj h7
theorem pair_inj {a b : Str} {x y : List Str} (h : D.tup [.str a, rk x] = D.tup [.str b, rk y]) : a = b ∧ x = y := by
  injection h with h1
  injection h1 with h2 h3
  injection h3 with h4 h5
  exact ⟨strs_inj h2, rk_inj h4⟩
/-! ### the defs -/
theorem cut_tail {t : Str} {r : List Str} : cutD ((t :: r).map D.str) (some (1 : Int)) none = r.map D.str := by
  unfold cutD HT.sIx
  have h0 : ¬ ((1 : Int) < 0) := by decide
  simp only [h0, if_false, List.length_map]
  rw [show (1 : Int).toNat = 1 from rfl, List.length_cons, Nat.min_eq_left (by omega), List.map_cons, List.drop_succ_cons, List.drop_zero, List.take_of_length_le (by rw [List.length_map]; omega)]
section
variable {P : Program} {w : World} {K : PySem.W.Frag} {mg : Str → Option Value} {base : Heap}
def wt_is_number : Wt := fun ds kk _ => ∃ i lo hi : Int, ds = [.int i, .int lo, .int hi] ∧ kk (.bl (decide (lo ≤ i) && decide (i ≤ hi)))
theorem ok_is_number (T : TX K mg) : Ok P w K mg base 1 (He.ga K "is_number") ["candidate", "least", "greatest"] (spD K wt_is_number) := by
  obtain ⟨fd, F⟩ := T.def_ 35 (d := d_is_number)
  refine ⟨⟨fd, fnD F sc_is_number (fun _ _ _ h => by obtain ⟨i, lo, hi, rfl, hk⟩ := h; rfl) (fun cdv A outer s H E hr => ⟨_, (pss_one (ps_ret (pe_and (pe_callB (z_isi K) (by rfl) (T.free 0) (by decide +kernel) (pa_cons (pv 0) (pa_cons (pe_bltn (v := .ty "int") rfl (T.free 49) (by decide +kernel) rfl) pa_nil))) (pe_and (pe_not (pe_callB (z_isi K) (by rfl) (T.free 0) (by decide +kernel) (pa_cons (pv 0) (pa_cons (pe_bltn (v := .ty "bool") rfl (T.free 58) (by decide +kernel) rfl) pa_nil)))) (pe_one (pe_chain op_le op_le (pv 1) (pv 0) (pv 2))))))), fun ds kk ke h => ?_⟩), FunD.bindsN F fun _ _ _ _ _ _ us hl => match us, hl with | [_, _, _], _ => rfl⟩, F.kp⟩
  obtain ⟨i, lo, hi, rfl, hk⟩ := h
  try dsimp only [cxK]
  walk_at "fw"
  refine ⟨fun h => ?_, fun h => ?_⟩
  · walk_at "fw"
    rw [h, Bool.true_and] at hk; exact hk
  · rw [h, Bool.false_and] at hk; exact hk
def wt_Committee_and : Wt := fun ds kk _ => ∃ ss ts : List Str, ds = [cm ss, cm ts] ∧ ss.length ≤ 30 ∧ (∀ s ∈ ss, isName s = true) ∧ kk (cm (srt (ss.filter fun s => decide (s ∈ ts))))
theorem ok_Committee_and (T : TX K mg) : Ok P w K mg base 5 (He.ma K (He.ga K "Committee") "__and__") ["self", "other"] (spD K wt_Committee_and) := by
  obtain ⟨fd, F⟩ := T.def_ 36 (d := d_Committee_and)
  have k_Committee_init := ok_Committee_init (P := P) (w := w) (base := base) T
  refine ⟨⟨fd, fnD F sc_Committee_and (fun _ _ _ h => by obtain ⟨ss, ts, rfl, h30, hs, hk⟩ := h; rfl) (fun cdv A outer s H E hr => ⟨_, (pss_one (ps_ret (q_make k_Committee_init (T.mkr 21) hr (T.glo 11) (pa_cons (pe_lc (own := [("name", 2)]) rfl sc_Committee_and.nd (z_plist K (z_fld K (pv 0))) (blkOk_by (own := [("name", 2)]) (N := N_Committee_and) (sc := defScope s_Committee_and) (by decide +kernel)) (fun _ _ _ _ _ => (pg_name (i := 2) sc_Committee_and.nd rfl (by first | exact Or.inl rfl | exact Or.inr rfl))) (fun _ _ _ _ _ => (pts_one (pt_cmpR (z_in K) (pv 2) (z_fld K (pv 1)) (by rfl)))) (fun _ _ _ _ _ => (pv 2))) pa_nil)))), fun ds kk ke h => ?_⟩), FunD.bindsN F fun _ _ _ _ _ _ us hl => match us, hl with | [_, _], _ => rfl⟩, F.kp⟩
  obtain ⟨ss, ts, rfl, h30, hs, hk⟩ := h
  try dsimp only [cxK]
  walk_at "fw"
  refine (df_lcF [2] D.str (fun t => decide (t ∈ ts)) D.str (fun a b e => by cases e; exact ⟨rfl, rfl⟩) (by decide) (by walk_at "fno") ?_).dt
  walk_at "fw"
  refine ⟨szOf (by omega), fun t ht => ?_, ?_⟩
  · walk_at "fw"
    rw [inV_strs]
    refine ⟨fun h => ?_, fun h => ?_⟩
    · walk_at "fw"
      have h' : decide (t ∈ ts) = true := h
      rw [h']; rfl
    · have h' : decide (t ∈ ts) = false := h
      rw [h']; rfl
  · walk_at "fw"
    have l := List.length_filter_le (fun t => decide (t ∈ ts)) ss
    exact ⟨by omega, fun s h => hs s (List.mem_filter.mp h).1, Nat.le_trans (srt_le _) (by omega), hk⟩
def wt_Committee_sub : Wt := fun ds kk _ => ∃ ss ts : List Str, ds = [cm ss, cm ts] ∧ ss.length ≤ 30 ∧ (∀ s ∈ ss, isName s = true) ∧ kk (cm (srt (ss.filter fun s => decide (s ∉ ts))))
theorem ok_Committee_sub (T : TX K mg) : Ok P w K mg base 5 (He.ma K (He.ga K "Committee") "__sub__") ["self", "other"] (spD K wt_Committee_sub) := by
  obtain ⟨fd, F⟩ := T.def_ 37 (d := d_Committee_sub)
  have k_Committee_init := ok_Committee_init (P := P) (w := w) (base := base) T
  refine ⟨⟨fd, fnD F sc_Committee_sub (fun _ _ _ h => by obtain ⟨ss, ts, rfl, h30, hs, hk⟩ := h; rfl) (fun cdv A outer s H E hr => ⟨_, (pss_one (ps_ret (q_make k_Committee_init (T.mkr 21) hr (T.glo 11) (pa_cons (pe_lc (own := [("name", 2)]) rfl sc_Committee_sub.nd (z_plist K (z_fld K (pv 0))) (blkOk_by (own := [("name", 2)]) (N := N_Committee_sub) (sc := defScope s_Committee_sub) (by decide +kernel)) (fun _ _ _ _ _ => (pg_name (i := 2) sc_Committee_sub.nd rfl (by first | exact Or.inl rfl | exact Or.inr rfl))) (fun _ _ _ _ _ => (pts_one (pt_cmpR (z_nin K) (pv 2) (z_fld K (pv 1)) (by rfl)))) (fun _ _ _ _ _ => (pv 2))) pa_nil)))), fun ds kk ke h => ?_⟩), FunD.bindsN F fun _ _ _ _ _ _ us hl => match us, hl with | [_, _], _ => rfl⟩, F.kp⟩
  obtain ⟨ss, ts, rfl, h30, hs, hk⟩ := h
  try dsimp only [cxK]
  walk_at "fw"
  refine (df_lcF [2] D.str (fun t => decide (t ∉ ts)) D.str (fun a b e => by cases e; exact ⟨rfl, rfl⟩) (by decide) (by walk_at "fno") ?_).dt
  walk_at "fw"
  refine ⟨szOf (by omega), fun t ht => ?_, ?_⟩
  · walk_at "fw"
    rw [inV_strs]
    refine ⟨fun h => ?_, fun h => ?_⟩
    · walk_at "fw"
      have h' : t ∉ ts := by simpa using h
      rw [decide_eq_true h']; rfl
    · have h' : t ∈ ts := by simpa using h
      rw [decide_eq_false (fun z => z h')]; rfl
  · walk_at "fw"
    have l := List.length_filter_le (fun t => decide (t ∉ ts)) ss
    exact ⟨by omega, fun s h => hs s (List.mem_filter.mp h).1, Nat.le_trans (srt_le _) (by omega), hk⟩
end
end Fw

set_option maxHeartbeats 4000000
/-! Games after strikes. -/
namespace Fw
open PySem PySem.Spec PyProof.Rows L2
local macro_rules | `(tactic| walk_at "fno") => `(tactic| first | (intro o ho; exact absurd ho (List.not_mem_nil)) | (simp; done) | (intro o ho; simp at ho; (try rcases ho with ho | ho) <;> subst ho <;> decide))
local macro_rules | `(tactic| walk_at "fop") => `(tactic| with_reducible first
  | refine dt_op opd_add ?_ | refine dt_op opd_sub ?_ | refine dt_op opd_mul ?_ | refine dt_op opd_fdivN ?_ | refine dt_op opd_mod ?_ | refine dt_op opd_pow ?_
  | refine dt_op opd_lt ?_ | refine dt_op opd_le ?_ | refine dt_op opd_gt ?_ | refine dt_op opd_ge ?_
  | refine dt_op opd_eq ?_ | refine dt_op opd_ne ?_ | refine dt_op opd_in ?_ | refine dt_op opd_in_sign ?_ | refine dt_op opd_add_str ?_ | refine dt_op opd_isN ?_ | refine dt_op opd_notN ?_
  | refine dt_op opd_ixL ?_ | refine dt_op opd_ixT ?_ | refine dt_op opf_cat.op ?_ | refine dt_op opf_rep.op ?_
  | refine dt_op opd_eqD ?_ | refine dt_op opd_neD ?_ | refine dt_op opd_eqDn ?_ | refine dt_op opd_inI ?_ | refine dt_op opd_eqI ?_ | refine dt_op opd_binI ?_ | refine dt_op opd_getI ?_)
local macro_rules | `(tactic| walk_at "fcb") => `(tactic| with_reducible first
  | refine dt_cb cad_lenA ?_ | refine dt_cb cad_lenI ?_ | refine dt_cb cad_isi ?_ | refine dt_cb cad_lenDR ?_ | refine dt_cb cad_max ?_ | refine dt_cb cad_min ?_ | refine dt_cb cad_all ?_ | refine dt_cb cad_any ?_ | refine dt_cb cad_sum ?_ | refine dt_cb cad_max2 ?_ | refine dt_cb cad_min2 ?_ | refine dt_cb cad_int1 ?_
  | refine dt_cb caf_list.ca ?_ | refine dt_cb caf_listD.ca ?_ | refine dt_cb caf_dictD.ca ?_ | refine dt_cb caf_dictP.ca ?_ | refine dt_cb caf_sortedS.ca ?_ | refine dt_cb caf_sortedD.ca ?_)
local macro_rules | `(tactic| walk_at "fex") => `(tactic| first
  | (refine ⟨(rfl : D.non = D.non), ?_⟩) | (refine ⟨_, .lst _, ?_⟩) | (refine ⟨_, .scr _, ?_⟩) | (refine ⟨_, _, _, rfl, rfl, rfl, ?_⟩) | (refine ⟨_, _, rfl, rfl, ?_⟩) | (refine ⟨_, rfl, ?_⟩) | (refine ⟨_, _, rfl, ?_⟩) | (refine ⟨_, _, _, rfl, ?_⟩) | (refine ⟨_, _, _, _, rfl, ?_⟩) | (refine ⟨_, _, _, _, _, rfl, ?_⟩) | (refine ⟨_, _, _, _, _, _, rfl, ?_⟩) | (refine ⟨_, .inl rfl, rfl, flat_strs _, ?_⟩) | (refine ⟨_, .inl rfl, ?_⟩) | (refine ⟨rfl, rfl, rfl, ?_⟩) | (refine ⟨(by simp only [List.length_cons, List.length_nil]; decide : List.length _ ≤ sizeLine), ?_⟩) | (refine ⟨fun _ => ?_, fun h => absurd h (by decide)⟩) | (refine ⟨fun h => absurd h (by decide), fun _ => ?_⟩))
local macro_rules | `(tactic| walk_at "fdi") => `(tactic| with_reducible first
  | refine di_list ?_ | refine di_range1 ?_ | refine di_range2 ?_ | refine di_range3 ?_ | refine di_str ?_ | refine di_items ?_ | refine di_values ?_ | refine di_keys ?_ | refine di_keysM ?_ | refine di_enum ?_)
local macro_rules | `(tactic| walk_at "ffld") => `(tactic| first
  | ((with_reducible refine fld_Committee_own_members ‹_› (dt_var (d := .obj "Committee" ?fs0) ?a1 ?a2)); (case a1 => rfl); refine ⟨_, _, rfl, rfl, ?_⟩)
  | ((with_reducible refine fld_Ranking_order ‹_› (dt_var (d := .obj "Ranking" ?fs0) ?a1 ?a2)); (case a1 => rfl); refine ⟨_, _, rfl, rfl, ?_⟩)
  | ((with_reducible refine fld_Ranking_places ‹_› (dt_var (d := .obj "Ranking" ?fs0) ?a1 ?a2)); (case a1 => rfl); refine ⟨_, _, rfl, rfl, ?_⟩)
  | ((with_reducible refine fld_Turns_order ‹_› (dt_var (d := .obj "Turns" ?fs0) ?a1 ?a2)); (case a1 => rfl); refine ⟨_, _, rfl, rfl, ?_⟩)
  | ((with_reducible refine fld_Game_own_rankings ‹_› (dt_var (d := .obj "Game" ?fs0) ?a1 ?a2)); (case a1 => rfl); refine ⟨_, _, rfl, rfl, ?_⟩)
  | ((with_reducible refine fld_Game_own_turns ‹_› (dt_var (d := .obj "Game" ?fs0) ?a1 ?a2)); (case a1 => rfl); refine ⟨_, _, rfl, rfl, ?_⟩)
  | ((with_reducible refine fld_Striker_own_target ‹_› (dt_var (d := .obj "Striker" ?fs0) ?a1 ?a2)); (case a1 => rfl); refine ⟨_, _, rfl, rfl, ?_⟩)
  | ((with_reducible refine fld_Keeper_own_target ‹_› (dt_var (d := .obj "Keeper" ?fs0) ?a1 ?a2)); (case a1 => rfl); refine ⟨_, _, rfl, rfl, ?_⟩))
local macro_rules | `(tactic| walk_at "fkit") => `(tactic| first
  | refine ⟨_, _, _, _, _, rfl, .str _, .ty _, kit_str_str ‹_›, ?_⟩
  | refine ⟨_, _, _, _, _, rfl, .int _, .ty _, kit_int_int ‹_›, ?_⟩
  | refine ⟨_, _, _, _, _, rfl, .lst _, .ty _, kit_list_list ‹_›, ?_⟩
  | refine ⟨_, _, _, _, _, rfl, .dic _, .ty _, kit_dict_dict ‹_›, ?_⟩
  | refine ⟨_, _, _, _, _, rfl, .obj _ _ (ins_Committee ‹_›), .glo _, kit_Committee_Committee ‹_›, ?_⟩
  | refine ⟨_, _, _, _, _, rfl, .obj _ _ (ins_Ranking ‹_›), .glo _, kit_Ranking_Ranking ‹_›, ?_⟩
  | refine ⟨_, _, _, _, _, rfl, .obj _ _ (ins_Turns ‹_›), .glo _, kit_Turns_Turns ‹_›, ?_⟩
  | refine ⟨_, _, _, _, _, rfl, .obj _ _ (ins_Game ‹_›), .glo _, kit_Game_Game ‹_›, ?_⟩
  | refine ⟨_, _, _, _, _, rfl, .int _, .ty _, kit_int_bool ‹_›, ?_⟩
  | refine ⟨_, _, _, _, _, rfl, .bl _, .ty _, kit_bool_int ‹_›, ?_⟩
  | refine ⟨_, _, _, _, _, rfl, .bl _, .ty _, kit_bool_bool ‹_›, ?_⟩)
local macro_rules | `(tactic| walk_at "fw1") => `(tactic| first
  | ((with_reducible refine dt_var (d := ?d0) ?a1 ?a2); (case a1 => rfl))
  | (with_reducible first
    | refine dt_int ?_ | refine dt_str ?_ | refine dt_bl ?_ | refine dt_non ?_ | refine dt_ty ?_ | refine dt_glo ?_
    | refine da_cons ?_ | refine da_nil ?_ | refine dtt_b ?_ | refine dtt_test ?_ | refine dtt_yes ?_ | refine dtt_not ?_ | refine dtt_and ?_ | refine dtt_or ?_ 
    | refine ds_unlAsg ?_ | refine ds_seq ?_ | refine ds_next ?_ | refine ds_ret ?_ | refine ds_retN ?_
    | refine dt_andV ?_ | refine dt_orV ?_ | refine dt_notV ?_ | refine dt_if ?_ | refine dt_chain opd_le opd_le ?_ | refine dt_chain opd_lt opd_lt ?_
    | refine dt_call0 ?_ | refine dt_prop ?_ | refine dt_make ?_ | refine dt_dget ?_ | refine dt_din ?_ | refine dt_dnotin ?_
    | refine (df_slL ?_).dt | refine do_none ?_ | refine do_some ?_ | refine (df_listVals ?_).dt | refine dt_stm ?_ | refine df_lst ?_ | refine df_cb caf_list ?_ | refine df_cb caf_listD ?_ | refine df_cb caf_dictD ?_ | refine df_cb caf_dictP ?_ | refine df_cb caf_sortedS ?_ | refine df_cb caf_sortedD ?_ | refine df_op opf_cat ?_ | refine df_listVals ?_ | refine df_make ?_ | refine df_slL ?_ | refine df_dnew ?_ | refine dt_lst ?_ | refine dt_tup ?_ | refine (df_dnew ?_).dt)
  | ((with_reducible refine dt_methS 0 (x := ?x0) (fs := ?f0) ?a1 ?a2 ?a3); (case a1 => rfl); (case a2 => rfl)) | (with_reducible refine dt_meth0 ?_)
  | (with_reducible refine dt_un und_neg ?_)
  | ((with_reducible refine dt_inO 0 (ds := ?d0) ?a1 ?a2); (case a1 => rfl)) | ((with_reducible refine dt_lenO 0 (ds := ?d0) ?a1 ?a2); (case a1 => rfl)) | ((with_reducible refine dt_lenO 1 (ds := ?d0) ?a1 ?a2); (case a1 => rfl))
  | ((with_reducible refine dm_popAt 0 (ds := ?d0) ?a1 ?a2); (case a1 => rfl)) | ((with_reducible refine dm_popAt 1 (ds := ?d0) ?a1 ?a2); (case a1 => rfl)) | (with_reducible refine DT.dm ?_) | walk_at "fop" | walk_at "fcb" | walk_at "fdi"
  | ((with_reducible refine ds_asgE ?a1 ?a2 ?a3); (case a1 => walk_at "fno"); (case a2 => simp [startG])) | ((with_reducible refine ds_asg ?a1 ?a2); (case a1 => walk_at "fno")) | ((with_reducible refine ds_asgT ?a1 ?a2 ?a3); (case a1 => walk_at "fno"); (case a2 => walk_at "fno")) | ((with_reducible refine ds_append 0 (ds := ?d0) ?a1 ?a2); (case a1 => rfl)) | ((with_reducible refine ds_append 1 (ds := ?d0) ?a1 ?a2); (case a1 => rfl)) | (with_reducible refine ds_expr ?_) | ((with_reducible refine ds_par ?a1 ?a2 ?a3); (case a1 => walk_at "fno"); (case a2 => walk_at "fno"))
  | ((with_reducible refine dg_tup ?a1 ?a2); (case a1 => rfl)) | (with_reducible refine dgs_cons ?_) | (with_reducible refine dgs_nil ?_) | (with_reducible refine lct ?_) | (with_reducible refine dct ?_)
  | ((with_reducible refine dg_name ?a1 ?a2); (case a1 => walk_at "fno"))
  | walk_at "ffld" | walk_at "fex" | walk_at "fkit")
local macro_rules | `(tactic| walk_at "fw") => `(tactic| repeat (first | walk_at "fw1" | (with_reducible refine ds_if ?_)))
local macro_rules | `(tactic| walk_at "fwn") => `(tactic| repeat walk_at "fw1")

section
variable {P : Program} {w : World} {K : PySem.W.Frag} {mg : Str → Option Value} {base : Heap}
def wt_Ranking_sub : Wt := fun ds kk _ => ∃ ss ts : List Str, ds = [rk ss, cm ts] ∧ ss.length ≤ 30 ∧ (∀ s ∈ ss, isName s = true) ∧ ss.Nodup ∧ kk (rk (ss.filter fun s => decide (s ∉ ts)))
theorem ok_Ranking_sub (T : TX K mg) : Ok P w K mg base 5 (He.ma K (He.ga K "Ranking") "__sub__") ["self", "committee"] (spD K wt_Ranking_sub) := by
  obtain ⟨fd, F⟩ := T.def_ 38 (d := d_Ranking_sub)
  have k_Committee_members := ok_Committee_members (P := P) (w := w) (base := base) T
  have k_Ranking_init := ok_Ranking_init (P := P) (w := w) (base := base) T
  refine ⟨⟨fd, fnD F sc_Ranking_sub (fun _ _ _ h => by obtain ⟨ss, ts, rfl, h30, hs, hn, hk⟩ := h; rfl) (fun cdv A outer s H E hr => ⟨_, (pss_one (ps_ret (q_make k_Ranking_init (T.mkr 57) hr (T.glo 35) (pa_cons (pe_lc (own := [("name", 2)]) rfl sc_Ranking_sub.nd (z_plist K (z_fld K (pv 0))) (blkOk_by (own := [("name", 2)]) (N := N_Ranking_sub) (sc := defScope s_Ranking_sub) (by decide +kernel)) (fun _ _ _ _ _ => (pg_name (i := 2) sc_Ranking_sub.nd rfl (by first | exact Or.inl rfl | exact Or.inr rfl))) (fun _ _ _ _ _ => (pts_one (pt_cmpR (z_nin K) (pv 2) (q_prop k_Committee_members (pv 1) (T.cls 9) (T.prop 19) hr) (by rfl)))) (fun _ _ _ _ _ => (pv 2))) pa_nil)))), fun ds kk ke h => ?_⟩), FunD.bindsN F fun _ _ _ _ _ _ us hl => match us, hl with | [_, _], _ => rfl⟩, F.kp⟩
  obtain ⟨ss, ts, rfl, h30, hs, hn, hk⟩ := h
  try dsimp only [cxK]
  walk_at "fw"
  refine (df_lcF [2] D.str (fun t => decide (t ∉ ts)) D.str (fun a b e => by cases e; exact ⟨rfl, rfl⟩) (by decide) (by walk_at "fno") ?_).dt
  walk_at "fw"
  refine ⟨szOf (by omega), fun t ht => ?_, ?_⟩
  · walk_at "fw"
    rw [inV_strs]
    refine ⟨fun h => ?_, fun h => ?_⟩
    · walk_at "fw"
      have h' : t ∉ ts := by simpa using h
      rw [decide_eq_true h']; rfl
    · have h' : t ∈ ts := by simpa using h
      rw [decide_eq_false (fun z => z h')]; rfl
  · walk_at "fw"
    have l := List.length_filter_le (fun t => decide (t ∉ ts)) ss
    exact ⟨by omega, fun s h => hs s (List.mem_filter.mp h).1, hn.filter _, hk⟩
def wt_Ranking_and : Wt := fun ds kk _ => ∃ ss ts : List Str, ds = [rk ss, cm ts] ∧ ss.length ≤ 30 ∧ (∀ s ∈ ss, isName s = true) ∧ ss.Nodup ∧ kk (rk (ss.filter fun s => decide (s ∈ ts)))
theorem ok_Ranking_and (T : TX K mg) : Ok P w K mg base 5 (He.ma K (He.ga K "Ranking") "__and__") ["self", "committee"] (spD K wt_Ranking_and) := by
  obtain ⟨fd, F⟩ := T.def_ 39 (d := d_Ranking_and)
  have k_Committee_members := ok_Committee_members (P := P) (w := w) (base := base) T
  have k_Ranking_init := ok_Ranking_init (P := P) (w := w) (base := base) T
  refine ⟨⟨fd, fnD F sc_Ranking_and (fun _ _ _ h => by obtain ⟨ss, ts, rfl, h30, hs, hn, hk⟩ := h; rfl) (fun cdv A outer s H E hr => ⟨_, (pss_one (ps_ret (q_make k_Ranking_init (T.mkr 57) hr (T.glo 35) (pa_cons (pe_lc (own := [("name", 2)]) rfl sc_Ranking_and.nd (z_plist K (z_fld K (pv 0))) (blkOk_by (own := [("name", 2)]) (N := N_Ranking_and) (sc := defScope s_Ranking_and) (by decide +kernel)) (fun _ _ _ _ _ => (pg_name (i := 2) sc_Ranking_and.nd rfl (by first | exact Or.inl rfl | exact Or.inr rfl))) (fun _ _ _ _ _ => (pts_one (pt_cmpR (z_in K) (pv 2) (q_prop k_Committee_members (pv 1) (T.cls 9) (T.prop 19) hr) (by rfl)))) (fun _ _ _ _ _ => (pv 2))) pa_nil)))), fun ds kk ke h => ?_⟩), FunD.bindsN F fun _ _ _ _ _ _ us hl => match us, hl with | [_, _], _ => rfl⟩, F.kp⟩
  obtain ⟨ss, ts, rfl, h30, hs, hn, hk⟩ := h
  try dsimp only [cxK]
  walk_at "fw"
  refine (df_lcF [2] D.str (fun t => decide (t ∈ ts)) D.str (fun a b e => by cases e; exact ⟨rfl, rfl⟩) (by decide) (by walk_at "fno") ?_).dt
  walk_at "fw"
  refine ⟨szOf (by omega), fun t ht => ?_, ?_⟩
  · walk_at "fw"
    rw [inV_strs]
    refine ⟨fun h => ?_, fun h => ?_⟩
    · walk_at "fw"
      have h' : decide (t ∈ ts) = true := h
      rw [h']; rfl
    · have h' : decide (t ∈ ts) = false := h
      rw [h']; rfl
  · walk_at "fw"
    have l := List.length_filter_le (fun t => decide (t ∈ ts)) ss
    exact ⟨by omega, fun s h => hs s (List.mem_filter.mp h).1, hn.filter _, hk⟩
end
end Fw

set_option maxHeartbeats 4000000
/-! Games after strikes. -/
namespace Fw
open PySem PySem.Spec PyProof.Rows L2
local macro_rules | `(tactic| walk_at "fno") => `(tactic| first | (intro o ho; exact absurd ho (List.not_mem_nil)) | (simp; done) | (intro o ho; simp at ho; (try rcases ho with ho | ho) <;> subst ho <;> decide))
local macro_rules | `(tactic| walk_at "fop") => `(tactic| with_reducible first
  | refine dt_op opd_add ?_ | refine dt_op opd_sub ?_ | refine dt_op opd_mul ?_ | refine dt_op opd_fdivN ?_ | refine dt_op opd_mod ?_ | refine dt_op opd_pow ?_
  | refine dt_op opd_lt ?_ | refine dt_op opd_le ?_ | refine dt_op opd_gt ?_ | refine dt_op opd_ge ?_
  | refine dt_op opd_eq ?_ | refine dt_op opd_ne ?_ | refine dt_op opd_in ?_ | refine dt_op opd_in_sign ?_ | refine dt_op opd_add_str ?_ | refine dt_op opd_isN ?_ | refine dt_op opd_notN ?_
  | refine dt_op opd_ixL ?_ | refine dt_op opd_ixT ?_ | refine dt_op opf_cat.op ?_ | refine dt_op opf_rep.op ?_
  | refine dt_op opd_eqD ?_ | refine dt_op opd_neD ?_ | refine dt_op opd_eqDn ?_ | refine dt_op opd_inI ?_ | refine dt_op opd_eqI ?_ | refine dt_op opd_binI ?_ | refine dt_op opd_getI ?_)
local macro_rules | `(tactic| walk_at "fcb") => `(tactic| with_reducible first
  | refine dt_cb cad_lenA ?_ | refine dt_cb cad_lenI ?_ | refine dt_cb cad_isi ?_ | refine dt_cb cad_lenDR ?_ | refine dt_cb cad_max ?_ | refine dt_cb cad_min ?_ | refine dt_cb cad_all ?_ | refine dt_cb cad_any ?_ | refine dt_cb cad_sum ?_ | refine dt_cb cad_max2 ?_ | refine dt_cb cad_min2 ?_ | refine dt_cb cad_int1 ?_
  | refine dt_cb caf_list.ca ?_ | refine dt_cb caf_listD.ca ?_ | refine dt_cb caf_dictD.ca ?_ | refine dt_cb caf_dictP.ca ?_ | refine dt_cb caf_sortedS.ca ?_ | refine dt_cb caf_sortedD.ca ?_)
local macro_rules | `(tactic| walk_at "fex") => `(tactic| first
  | (refine ⟨(rfl : D.non = D.non), ?_⟩) | (refine ⟨_, .lst _, ?_⟩) | (refine ⟨_, .scr _, ?_⟩) | (refine ⟨_, _, _, rfl, rfl, rfl, ?_⟩) | (refine ⟨_, _, rfl, rfl, ?_⟩) | (refine ⟨_, rfl, ?_⟩) | (refine ⟨_, _, rfl, ?_⟩) | (refine ⟨_, _, _, rfl, ?_⟩) | (refine ⟨_, _, _, _, rfl, ?_⟩) | (refine ⟨_, _, _, _, _, rfl, ?_⟩) | (refine ⟨_, _, _, _, _, _, rfl, ?_⟩) | (refine ⟨_, .inl rfl, rfl, flat_strs _, ?_⟩) | (refine ⟨_, .inl rfl, ?_⟩) | (refine ⟨rfl, rfl, rfl, ?_⟩) | (refine ⟨(by simp only [List.length_cons, List.length_nil]; decide : List.length _ ≤ sizeLine), ?_⟩) | (refine ⟨fun _ => ?_, fun h => absurd h (by decide)⟩) | (refine ⟨fun h => absurd h (by decide), fun _ => ?_⟩))
local macro_rules | `(tactic| walk_at "fdi") => `(tactic| with_reducible first
  | refine di_list ?_ | refine di_range1 ?_ | refine di_range2 ?_ | refine di_range3 ?_ | refine di_str ?_ | refine di_items ?_ | refine di_values ?_ | refine di_keys ?_ | refine di_keysM ?_ | refine di_enum ?_)
local macro_rules | `(tactic| walk_at "ffld") => `(tactic| first
  | ((with_reducible refine fld_Committee_own_members ‹_› (dt_var (d := .obj "Committee" ?fs0) ?a1 ?a2)); (case a1 => rfl); refine ⟨_, _, rfl, rfl, ?_⟩)
  | ((with_reducible refine fld_Ranking_order ‹_› (dt_var (d := .obj "Ranking" ?fs0) ?a1 ?a2)); (case a1 => rfl); refine ⟨_, _, rfl, rfl, ?_⟩)
  | ((with_reducible refine fld_Ranking_places ‹_› (dt_var (d := .obj "Ranking" ?fs0) ?a1 ?a2)); (case a1 => rfl); refine ⟨_, _, rfl, rfl, ?_⟩)
  | ((with_reducible refine fld_Turns_order ‹_› (dt_var (d := .obj "Turns" ?fs0) ?a1 ?a2)); (case a1 => rfl); refine ⟨_, _, rfl, rfl, ?_⟩)
  | ((with_reducible refine fld_Game_own_rankings ‹_› (dt_var (d := .obj "Game" ?fs0) ?a1 ?a2)); (case a1 => rfl); refine ⟨_, _, rfl, rfl, ?_⟩)
  | ((with_reducible refine fld_Game_own_turns ‹_› (dt_var (d := .obj "Game" ?fs0) ?a1 ?a2)); (case a1 => rfl); refine ⟨_, _, rfl, rfl, ?_⟩)
  | ((with_reducible refine fld_Striker_own_target ‹_› (dt_var (d := .obj "Striker" ?fs0) ?a1 ?a2)); (case a1 => rfl); refine ⟨_, _, rfl, rfl, ?_⟩)
  | ((with_reducible refine fld_Keeper_own_target ‹_› (dt_var (d := .obj "Keeper" ?fs0) ?a1 ?a2)); (case a1 => rfl); refine ⟨_, _, rfl, rfl, ?_⟩))
local macro_rules | `(tactic| walk_at "fkit") => `(tactic| first
  | refine ⟨_, _, _, _, _, rfl, .str _, .ty _, kit_str_str ‹_›, ?_⟩
  | refine ⟨_, _, _, _, _, rfl, .int _, .ty _, kit_int_int ‹_›, ?_⟩
  | refine ⟨_, _, _, _, _, rfl, .lst _, .ty _, kit_list_list ‹_›, ?_⟩
  | refine ⟨_, _, _, _, _, rfl, .dic _, .ty _, kit_dict_dict ‹_›, ?_⟩
  | refine ⟨_, _, _, _, _, rfl, .obj _ _ (ins_Committee ‹_›), .glo _, kit_Committee_Committee ‹_›, ?_⟩
  | refine ⟨_, _, _, _, _, rfl, .obj _ _ (ins_Ranking ‹_›), .glo _, kit_Ranking_Ranking ‹_›, ?_⟩
  | refine ⟨_, _, _, _, _, rfl, .obj _ _ (ins_Turns ‹_›), .glo _, kit_Turns_Turns ‹_›, ?_⟩
  | refine ⟨_, _, _, _, _, rfl, .obj _ _ (ins_Game ‹_›), .glo _, kit_Game_Game ‹_›, ?_⟩
  | refine ⟨_, _, _, _, _, rfl, .int _, .ty _, kit_int_bool ‹_›, ?_⟩
  | refine ⟨_, _, _, _, _, rfl, .bl _, .ty _, kit_bool_int ‹_›, ?_⟩
  | refine ⟨_, _, _, _, _, rfl, .bl _, .ty _, kit_bool_bool ‹_›, ?_⟩)
local macro_rules | `(tactic| walk_at "fw1") => `(tactic| first
  | ((with_reducible refine dt_var (d := ?d0) ?a1 ?a2); (case a1 => rfl))
  | (with_reducible first
    | refine dt_int ?_ | refine dt_str ?_ | refine dt_bl ?_ | refine dt_non ?_ | refine dt_ty ?_ | refine dt_glo ?_
    | refine da_cons ?_ | refine da_nil ?_ | refine dtt_b ?_ | refine dtt_test ?_ | refine dtt_yes ?_ | refine dtt_not ?_ | refine dtt_and ?_ | refine dtt_or ?_ 
    | refine ds_unlAsg ?_ | refine ds_seq ?_ | refine ds_next ?_ | refine ds_ret ?_ | refine ds_retN ?_
    | refine dt_andV ?_ | refine dt_orV ?_ | refine dt_notV ?_ | refine dt_if ?_ | refine dt_chain opd_le opd_le ?_ | refine dt_chain opd_lt opd_lt ?_
    | refine dt_call0 ?_ | refine dt_prop ?_ | refine dt_make ?_ | refine dt_dget ?_ | refine dt_din ?_ | refine dt_dnotin ?_
    | refine (df_slL ?_).dt | refine do_none ?_ | refine do_some ?_ | refine (df_listVals ?_).dt | refine dt_stm ?_ | refine df_lst ?_ | refine df_cb caf_list ?_ | refine df_cb caf_listD ?_ | refine df_cb caf_dictD ?_ | refine df_cb caf_dictP ?_ | refine df_cb caf_sortedS ?_ | refine df_cb caf_sortedD ?_ | refine df_op opf_cat ?_ | refine df_listVals ?_ | refine df_make ?_ | refine df_slL ?_ | refine df_dnew ?_ | refine dt_lst ?_ | refine dt_tup ?_ | refine (df_dnew ?_).dt)
  | ((with_reducible refine dt_methS 0 (x := ?x0) (fs := ?f0) ?a1 ?a2 ?a3); (case a1 => rfl); (case a2 => rfl)) | (with_reducible refine dt_meth0 ?_)
  | (with_reducible refine dt_un und_neg ?_)
  | ((with_reducible refine dt_inO 0 (ds := ?d0) ?a1 ?a2); (case a1 => rfl)) | ((with_reducible refine dt_lenO 0 (ds := ?d0) ?a1 ?a2); (case a1 => rfl)) | ((with_reducible refine dt_lenO 1 (ds := ?d0) ?a1 ?a2); (case a1 => rfl))
  | ((with_reducible refine dm_popAt 0 (ds := ?d0) ?a1 ?a2); (case a1 => rfl)) | ((with_reducible refine dm_popAt 1 (ds := ?d0) ?a1 ?a2); (case a1 => rfl)) | (with_reducible refine DT.dm ?_) | walk_at "fop" | walk_at "fcb" | walk_at "fdi"
  | ((with_reducible refine ds_asgE ?a1 ?a2 ?a3); (case a1 => walk_at "fno"); (case a2 => simp [startG])) | ((with_reducible refine ds_asg ?a1 ?a2); (case a1 => walk_at "fno")) | ((with_reducible refine ds_asgT ?a1 ?a2 ?a3); (case a1 => walk_at "fno"); (case a2 => walk_at "fno")) | ((with_reducible refine ds_append 0 (ds := ?d0) ?a1 ?a2); (case a1 => rfl)) | ((with_reducible refine ds_append 1 (ds := ?d0) ?a1 ?a2); (case a1 => rfl)) | (with_reducible refine ds_expr ?_) | ((with_reducible refine ds_par ?a1 ?a2 ?a3); (case a1 => walk_at "fno"); (case a2 => walk_at "fno"))
  | ((with_reducible refine dg_tup ?a1 ?a2); (case a1 => rfl)) | (with_reducible refine dgs_cons ?_) | (with_reducible refine dgs_nil ?_) | (with_reducible refine lct ?_) | (with_reducible refine dct ?_)
  | ((with_reducible refine dg_name ?a1 ?a2); (case a1 => walk_at "fno"))
  | walk_at "ffld" | walk_at "fex" | walk_at "fkit")
local macro_rules | `(tactic| walk_at "fw") => `(tactic| repeat (first | walk_at "fw1" | (with_reducible refine ds_if ?_)))
local macro_rules | `(tactic| walk_at "fwn") => `(tactic| repeat walk_at "fw1")

section
variable {P : Program} {w : World} {K : PySem.W.Frag} {mg : Str → Option Value} {base : Heap}
def wt_Turns_getitem : Wt := fun ds kk _ => ∃ (ss : List Str) (i : Nat) (s : Str), ds = [tn ss, .int (i : Nat)] ∧ ss.length ≤ 30 ∧ ss[i]? = some s ∧ kk (.str s)
theorem ok_Turns_getitem (T : TX K mg) : Ok P w K mg base 2 (He.ma K (He.ga K "Turns") "__getitem__") ["self", "number"] (spD K wt_Turns_getitem) := by
  obtain ⟨fd, F⟩ := T.def_ 40 (d := d_Turns_getitem)
  have k_is_number := ok_is_number (P := P) (w := w) (base := base) T
  refine ⟨⟨fd, fnD F sc_Turns_getitem (fun _ _ _ h => by obtain ⟨ss, i, s, rfl, h30, hi, hk⟩ := h; rfl) (fun cdv A outer s H E hr => ⟨_, (pss_cons (ps_if (pt_not (pt_val (q_call k_is_number hr (T.glo 59) (pa_cons (pv 1) (pa_cons pe_int (pa_cons (pe_op op_sub (pe_callB (z_len K) (by rfl) (T.free 2) boot_len (pa_cons (z_fld K (pv 0)) pa_nil)) pe_int) pa_nil)))))) (pss_one ps_never) pss_nil) (pss_one (ps_ret (pe_ix (z_ixL K) (z_fld K (pv 0)) (pv 1) (fun _ _ => rfl))))), fun ds kk ke h => ?_⟩), FunD.bindsN F fun _ _ _ _ _ _ us hl => match us, hl with | [_, _], _ => rfl⟩, F.kp⟩
  obtain ⟨ss, i, s, rfl, h30, hi, hk⟩ := h
  try dsimp only [cxK]
  walk_at "fw"
  have hl := (List.getElem?_eq_some_iff.mp hi).1
  rw [List.length_map, decide_eq_true (by omega : (0 : Int) ≤ (i : Int)), decide_eq_true (by omega : (i : Int) ≤ (ss.length : Int) - 1)]
  walk_at "fw"
  exact ⟨_, _, .str s, rfl, rfl, atI_nat' (by rw [List.getElem?_map, hi]; rfl), hk⟩
def wt_Turns_counts : Wt := fun ds kk _ => ∃ (ss : List Str), ds = [tn ss] ∧ ss.length ≤ 30 ∧ kk (.dic ((srt ss).map fun s => ((.inr s : Key), .int (ss.count s : Nat))))
theorem ok_Turns_counts (T : TX K mg) : Ok P w K mg base 2 (He.ma K (He.ga K "Turns") "counts") ["self"] (spD K wt_Turns_counts) := by
  obtain ⟨fd, F⟩ := T.def_ 41 (d := d_Turns_counts)
  have k_distinct := ok_distinct (P := P) (w := w) (base := base) T
  refine ⟨⟨fd, fnD F sc_Turns_counts (fun _ _ _ h => by obtain ⟨ss, rfl, h30, hk⟩ := h; rfl) (fun cdv A outer s H E hr => ⟨_, (pss_one (ps_ret (pe_dc (own := [("player", 1)]) rfl sc_Turns_counts.nd (z_plist K (q_call k_distinct hr (T.glo 8) (pa_cons (z_fld K (pv 0)) pa_nil))) (blkOk_by (own := [("player", 1)]) (N := N_Turns_counts) (sc := defScope s_Turns_counts) (by decide +kernel)) (fun _ _ _ _ _ => (pg_name (i := 1) sc_Turns_counts.nd rfl (by first | exact Or.inl rfl | exact Or.inr rfl))) (fun _ _ _ _ _ => pts_nil) (fun _ _ _ _ _ => (pv 1)) (fun _ _ _ _ _ => (z_bm K PySem.F.plainAttrs_list PySem.F.slot_list_count PySem.F.type_list_count (z_countS K) (z_fld K (pv 0)) (pa_cons (pv 1) pa_nil)))))), fun ds kk ke h => ?_⟩), FunD.bindsN F fun _ _ _ _ _ _ us hl => match us, hl with | [_], _ => rfl⟩, F.kp⟩
  obtain ⟨ss, rfl, h30, hk⟩ := h
  try dsimp only [cxK]
  walk_at "fw"
  refine (df_dcM [1] D.str (fun s => ((.inr s : Key), .int (ss.count s : Nat))) (fun a b e => by cases e; rfl) (by decide) (by walk_at "fno") ?_).dt
  walk_at "fw"
  have hl := srt_le ss
  refine ⟨by omega, by omega, ?_⟩
  walk_at "fw"
  refine ⟨szOf (by omega), fun s hs => ?_, ?_⟩
  · walk_at "fw"
    refine dt_countS ?_
    walk_at "fw"
    exact ⟨.inr s, rfl, rfl⟩
  · rw [mergeD_nil (by rw [List.map_map]; exact keys_nodup (srt_nodup _))]
    exact hk
def wt_Game_mover : Wt := fun ds kk _ => ∃ (rs : List (Str × List Str)) (ts : List Str), ds = [gm rs ts] ∧ ts.length ≤ 30 ∧ ((ts = [] ∧ kk .non) ∨ ∃ t r, ts = t :: r ∧ kk (.str t))
theorem ok_Game_mover (T : TX K mg) : Ok P w K mg base 4 (getter K (He.ga K "Game") "mover") ["self"] (spD K wt_Game_mover) := by
  obtain ⟨fd, F⟩ := T.def_ 42 (d := d_Game_mover)
  have k_Turns_getitem := ok_Turns_getitem (P := P) (w := w) (base := base) T
  have k_Turns_len := ok_Turns_len (P := P) (w := w) (base := base) T
  refine ⟨⟨fd, fnD F sc_Game_mover (fun _ _ _ h => by obtain ⟨rs, ts, rfl, h30, hk⟩ := h; rfl) (fun cdv A outer s H E hr => ⟨_, (pss_one (ps_ret (pe_ifExp (pt_cmpR op_gt (q_len k_Turns_len (T.meth 32) hr (T.free 2) (pa_cons (z_fld K (pv 0)) pa_nil)) pe_int (nomark _)) (q_get k_Turns_getitem (T.meth 60) (T.fnin 61) hr (z_fld K (pv 0)) pe_int) pe_non))), fun ds kk ke h => ?_⟩), FunD.bindsN F fun _ _ _ _ _ _ us hl => match us, hl with | [_], _ => rfl⟩, F.kp⟩
  obtain ⟨rs, ts, rfl, h30, hk⟩ := h
  try dsimp only [cxK]
  walk_at "fw"
  refine ⟨⟨by omega, by omega⟩, ?_⟩
  walk_at "fw"
  refine ⟨fun h => ?_, fun h => ?_⟩
  · have h' := of_decide_eq_true h
    cases ts with
    | nil => exact absurd h' (by simp)
    | cons t r =>
      obtain ⟨z, _⟩ | ⟨t', r', e, hk⟩ := hk
      · cases z
      · cases e
        walk_at "fw"
        exact ⟨_, 0, t, rfl, h30, rfl, hk⟩
  · have h' := of_decide_eq_false h
    cases ts with
    | nil =>
      obtain ⟨_, hk⟩ | ⟨t', r', e, hk⟩ := hk
      · walk_at "fw"; exact hk
      · cases e
    | cons t r => exact absurd (by rw [List.length_cons]; omega) h'
def wt_Committee_contains : Wt := fun ds kk _ => ∃ (ss : List Str) (x : Str), ds = [cm ss, .str x] ∧ x.length ≤ 1000 ∧ kk (.bl (isName x && decide (x ∈ ss)))
theorem ok_Committee_contains (T : TX K mg) : Ok P w K mg base 2 (He.ma K (He.ga K "Committee") "__contains__") ["self", "name"] (spD K wt_Committee_contains) := by
  obtain ⟨fd, F⟩ := T.def_ 43 (d := d_Committee_contains)
  have k_is_name := ok_is_name (P := P) (w := w) (base := base) T
  refine ⟨⟨fd, fnD F sc_Committee_contains (fun _ _ _ h => by obtain ⟨ss, x, rfl, hl, hk⟩ := h; rfl) (fun cdv A outer s H E hr => ⟨_, (pss_one (ps_ret (pe_and (q_call k_is_name hr (T.glo 5) (pa_cons (pv 1) pa_nil)) (pe_one (pe_cmpR (z_in K) (pv 1) (z_fld K (pv 0)) (by rfl)))))), fun ds kk ke h => ?_⟩), FunD.bindsN F fun _ _ _ _ _ _ us hl => match us, hl with | [_, _], _ => rfl⟩, F.kp⟩
  obtain ⟨ss, x, rfl, hl, hk⟩ := h
  try dsimp only [cxK]
  walk_at "fw"
  refine ⟨hl, ?_⟩
  walk_at "fw"
  refine ⟨fun h => ?_, fun h => ?_⟩
  · walk_at "fw"
    rw [inV_strs]
    rw [h, Bool.true_and] at hk
    exact hk
  · rw [h, Bool.false_and] at hk
    exact hk
end
end Fw

set_option maxHeartbeats 4000000
/-! Games after strikes. -/
namespace Fw
open PySem PySem.Spec PyProof.Rows L2
local macro_rules | `(tactic| walk_at "fno") => `(tactic| first | (intro o ho; exact absurd ho (List.not_mem_nil)) | (simp; done) | (intro o ho; simp at ho; (try rcases ho with ho | ho) <;> subst ho <;> decide))
local macro_rules | `(tactic| walk_at "fop") => `(tactic| with_reducible first
  | refine dt_op opd_add ?_ | refine dt_op opd_sub ?_ | refine dt_op opd_mul ?_ | refine dt_op opd_fdivN ?_ | refine dt_op opd_mod ?_ | refine dt_op opd_pow ?_
  | refine dt_op opd_lt ?_ | refine dt_op opd_le ?_ | refine dt_op opd_gt ?_ | refine dt_op opd_ge ?_
  | refine dt_op opd_eq ?_ | refine dt_op opd_ne ?_ | refine dt_op opd_in ?_ | refine dt_op opd_in_sign ?_ | refine dt_op opd_add_str ?_ | refine dt_op opd_isN ?_ | refine dt_op opd_notN ?_
  | refine dt_op opd_ixL ?_ | refine dt_op opd_ixT ?_ | refine dt_op opf_cat.op ?_ | refine dt_op opf_rep.op ?_
  | refine dt_op opd_eqD ?_ | refine dt_op opd_neD ?_ | refine dt_op opd_eqDn ?_ | refine dt_op opd_inI ?_ | refine dt_op opd_eqI ?_ | refine dt_op opd_binI ?_ | refine dt_op opd_getI ?_)
local macro_rules | `(tactic| walk_at "fcb") => `(tactic| with_reducible first
  | refine dt_cb cad_lenA ?_ | refine dt_cb cad_lenI ?_ | refine dt_cb cad_isi ?_ | refine dt_cb cad_lenDR ?_ | refine dt_cb cad_max ?_ | refine dt_cb cad_min ?_ | refine dt_cb cad_all ?_ | refine dt_cb cad_any ?_ | refine dt_cb cad_sum ?_ | refine dt_cb cad_max2 ?_ | refine dt_cb cad_min2 ?_ | refine dt_cb cad_int1 ?_
  | refine dt_cb caf_list.ca ?_ | refine dt_cb caf_listD.ca ?_ | refine dt_cb caf_dictD.ca ?_ | refine dt_cb caf_dictP.ca ?_ | refine dt_cb caf_sortedS.ca ?_ | refine dt_cb caf_sortedD.ca ?_)
local macro_rules | `(tactic| walk_at "fex") => `(tactic| first
  | (refine ⟨(rfl : D.non = D.non), ?_⟩) | (refine ⟨_, .lst _, ?_⟩) | (refine ⟨_, .scr _, ?_⟩) | (refine ⟨_, _, _, rfl, rfl, rfl, ?_⟩) | (refine ⟨_, _, rfl, rfl, ?_⟩) | (refine ⟨_, rfl, ?_⟩) | (refine ⟨_, _, rfl, ?_⟩) | (refine ⟨_, _, _, rfl, ?_⟩) | (refine ⟨_, _, _, _, rfl, ?_⟩) | (refine ⟨_, _, _, _, _, rfl, ?_⟩) | (refine ⟨_, _, _, _, _, _, rfl, ?_⟩) | (refine ⟨_, .inl rfl, rfl, flat_strs _, ?_⟩) | (refine ⟨_, .inl rfl, ?_⟩) | (refine ⟨rfl, rfl, rfl, ?_⟩) | (refine ⟨(by simp only [List.length_cons, List.length_nil]; decide : List.length _ ≤ sizeLine), ?_⟩) | (refine ⟨fun _ => ?_, fun h => absurd h (by decide)⟩) | (refine ⟨fun h => absurd h (by decide), fun _ => ?_⟩))
local macro_rules | `(tactic| walk_at "fdi") => `(tactic| with_reducible first
  | refine di_list ?_ | refine di_range1 ?_ | refine di_range2 ?_ | refine di_range3 ?_ | refine di_str ?_ | refine di_items ?_ | refine di_values ?_ | refine di_keys ?_ | refine di_keysM ?_ | refine di_enum ?_)
local macro_rules | `(tactic| walk_at "ffld") => `(tactic| first
  | ((with_reducible refine fld_Committee_own_members ‹_› (dt_var (d := .obj "Committee" ?fs0) ?a1 ?a2)); (case a1 => rfl); refine ⟨_, _, rfl, rfl, ?_⟩)
  | ((with_reducible refine fld_Ranking_order ‹_› (dt_var (d := .obj "Ranking" ?fs0) ?a1 ?a2)); (case a1 => rfl); refine ⟨_, _, rfl, rfl, ?_⟩)
  | ((with_reducible refine fld_Ranking_places ‹_› (dt_var (d := .obj "Ranking" ?fs0) ?a1 ?a2)); (case a1 => rfl); refine ⟨_, _, rfl, rfl, ?_⟩)
  | ((with_reducible refine fld_Turns_order ‹_› (dt_var (d := .obj "Turns" ?fs0) ?a1 ?a2)); (case a1 => rfl); refine ⟨_, _, rfl, rfl, ?_⟩)
  | ((with_reducible refine fld_Game_own_rankings ‹_› (dt_var (d := .obj "Game" ?fs0) ?a1 ?a2)); (case a1 => rfl); refine ⟨_, _, rfl, rfl, ?_⟩)
  | ((with_reducible refine fld_Game_own_turns ‹_› (dt_var (d := .obj "Game" ?fs0) ?a1 ?a2)); (case a1 => rfl); refine ⟨_, _, rfl, rfl, ?_⟩)
  | ((with_reducible refine fld_Striker_own_target ‹_› (dt_var (d := .obj "Striker" ?fs0) ?a1 ?a2)); (case a1 => rfl); refine ⟨_, _, rfl, rfl, ?_⟩)
  | ((with_reducible refine fld_Keeper_own_target ‹_› (dt_var (d := .obj "Keeper" ?fs0) ?a1 ?a2)); (case a1 => rfl); refine ⟨_, _, rfl, rfl, ?_⟩))
local macro_rules | `(tactic| walk_at "fkit") => `(tactic| first
  | refine ⟨_, _, _, _, _, rfl, .str _, .ty _, kit_str_str ‹_›, ?_⟩
  | refine ⟨_, _, _, _, _, rfl, .int _, .ty _, kit_int_int ‹_›, ?_⟩
  | refine ⟨_, _, _, _, _, rfl, .lst _, .ty _, kit_list_list ‹_›, ?_⟩
  | refine ⟨_, _, _, _, _, rfl, .dic _, .ty _, kit_dict_dict ‹_›, ?_⟩
  | refine ⟨_, _, _, _, _, rfl, .obj _ _ (ins_Committee ‹_›), .glo _, kit_Committee_Committee ‹_›, ?_⟩
  | refine ⟨_, _, _, _, _, rfl, .obj _ _ (ins_Ranking ‹_›), .glo _, kit_Ranking_Ranking ‹_›, ?_⟩
  | refine ⟨_, _, _, _, _, rfl, .obj _ _ (ins_Turns ‹_›), .glo _, kit_Turns_Turns ‹_›, ?_⟩
  | refine ⟨_, _, _, _, _, rfl, .obj _ _ (ins_Game ‹_›), .glo _, kit_Game_Game ‹_›, ?_⟩
  | refine ⟨_, _, _, _, _, rfl, .int _, .ty _, kit_int_bool ‹_›, ?_⟩
  | refine ⟨_, _, _, _, _, rfl, .bl _, .ty _, kit_bool_int ‹_›, ?_⟩
  | refine ⟨_, _, _, _, _, rfl, .bl _, .ty _, kit_bool_bool ‹_›, ?_⟩)
local macro_rules | `(tactic| walk_at "fw1") => `(tactic| first
  | ((with_reducible refine dt_var (d := ?d0) ?a1 ?a2); (case a1 => rfl))
  | (with_reducible first
    | refine dt_int ?_ | refine dt_str ?_ | refine dt_bl ?_ | refine dt_non ?_ | refine dt_ty ?_ | refine dt_glo ?_
    | refine da_cons ?_ | refine da_nil ?_ | refine dtt_b ?_ | refine dtt_test ?_ | refine dtt_yes ?_ | refine dtt_not ?_ | refine dtt_and ?_ | refine dtt_or ?_ 
    | refine ds_unlAsg ?_ | refine ds_seq ?_ | refine ds_next ?_ | refine ds_ret ?_ | refine ds_retN ?_
    | refine dt_andV ?_ | refine dt_orV ?_ | refine dt_notV ?_ | refine dt_if ?_ | refine dt_chain opd_le opd_le ?_ | refine dt_chain opd_lt opd_lt ?_
    | refine dt_call0 ?_ | refine dt_prop ?_ | refine dt_make ?_ | refine dt_dget ?_ | refine dt_din ?_ | refine dt_dnotin ?_
    | refine (df_slL ?_).dt | refine do_none ?_ | refine do_some ?_ | refine (df_listVals ?_).dt | refine dt_stm ?_ | refine df_lst ?_ | refine df_cb caf_list ?_ | refine df_cb caf_listD ?_ | refine df_cb caf_dictD ?_ | refine df_cb caf_dictP ?_ | refine df_cb caf_sortedS ?_ | refine df_cb caf_sortedD ?_ | refine df_op opf_cat ?_ | refine df_listVals ?_ | refine df_make ?_ | refine df_slL ?_ | refine df_dnew ?_ | refine dt_lst ?_ | refine dt_tup ?_ | refine (df_dnew ?_).dt)
  | ((with_reducible refine dt_methS 0 (x := ?x0) (fs := ?f0) ?a1 ?a2 ?a3); (case a1 => rfl); (case a2 => rfl)) | (with_reducible refine dt_meth0 ?_)
  | (with_reducible refine dt_un und_neg ?_)
  | ((with_reducible refine dt_inO 0 (ds := ?d0) ?a1 ?a2); (case a1 => rfl)) | ((with_reducible refine dt_lenO 0 (ds := ?d0) ?a1 ?a2); (case a1 => rfl)) | ((with_reducible refine dt_lenO 1 (ds := ?d0) ?a1 ?a2); (case a1 => rfl))
  | ((with_reducible refine dm_popAt 0 (ds := ?d0) ?a1 ?a2); (case a1 => rfl)) | ((with_reducible refine dm_popAt 1 (ds := ?d0) ?a1 ?a2); (case a1 => rfl)) | (with_reducible refine DT.dm ?_) | walk_at "fop" | walk_at "fcb" | walk_at "fdi"
  | ((with_reducible refine ds_asgE ?a1 ?a2 ?a3); (case a1 => walk_at "fno"); (case a2 => simp [startG])) | ((with_reducible refine ds_asg ?a1 ?a2); (case a1 => walk_at "fno")) | ((with_reducible refine ds_asgT ?a1 ?a2 ?a3); (case a1 => walk_at "fno"); (case a2 => walk_at "fno")) | ((with_reducible refine ds_append 0 (ds := ?d0) ?a1 ?a2); (case a1 => rfl)) | ((with_reducible refine ds_append 1 (ds := ?d0) ?a1 ?a2); (case a1 => rfl)) | (with_reducible refine ds_expr ?_) | ((with_reducible refine ds_par ?a1 ?a2 ?a3); (case a1 => walk_at "fno"); (case a2 => walk_at "fno"))
  | ((with_reducible refine dg_tup ?a1 ?a2); (case a1 => rfl)) | (with_reducible refine dgs_cons ?_) | (with_reducible refine dgs_nil ?_) | (with_reducible refine lct ?_) | (with_reducible refine dct ?_)
  | ((with_reducible refine dg_name ?a1 ?a2); (case a1 => walk_at "fno"))
  | walk_at "ffld" | walk_at "fex" | walk_at "fkit")
local macro_rules | `(tactic| walk_at "fw") => `(tactic| repeat (first | walk_at "fw1" | (with_reducible refine ds_if ?_)))
local macro_rules | `(tactic| walk_at "fwn") => `(tactic| repeat walk_at "fw1")

section
variable {P : Program} {w : World} {K : PySem.W.Frag} {mg : Str → Option Value} {base : Heap}
def wt_Game_restricted : Wt := fun ds kk _ => ∃ (rs : List (Str × List Str)) (more : List (Str × D)) (c ts : List Str), ds = [gmX rs more, cm c, tn ts] ∧ GX (cut c rs) ts ∧ Rks rs ∧ Sk rs ∧ (∀ p ∈ rs, p.2.Nodup) ∧ kk (gm (cut c rs) ts)
theorem ok_Game_restricted (T : TX K mg) : Ok P w K mg base 9 (He.ma K (He.ga K "Game") "restricted") ["self", "committee", "turns"] (spD K wt_Game_restricted) := by
  obtain ⟨fd, F⟩ := T.def_ 44 (d := d_Game_restricted)
  have k_Game_init := ok_Game_init (P := P) (w := w) (base := base) T
  have k_Ranking_sub := ok_Ranking_sub (P := P) (w := w) (base := base) T
  refine ⟨⟨fd, fnD F sc_Game_restricted (fun _ _ _ h => by obtain ⟨rs, more, c, ts, rfl, gx, hr1, hsk, hnd, hk⟩ := h; rfl) (fun cdv A outer s H E hr => ⟨_, (pss_one (ps_ret (q_make k_Game_init (T.mkr 54) hr (T.glo 55) (pa_cons (pe_unl (pe_dc (own := [("player", 3), ("ranking", 4)]) rfl sc_Game_restricted.nd (pi_items (pe_lk (z_fld K (pv 0)))) (blkOk_by (own := [("player", 3), ("ranking", 4)]) (N := N_Game_restricted) (sc := defScope s_Game_restricted) (by decide +kernel)) (fun _ _ _ _ _ => (q_tup (n := 2) K rfl rfl (pgs_cons (pg_name (i := 3) sc_Game_restricted.nd rfl (by first | exact Or.inl rfl | exact Or.inr rfl)) (pgs_cons (pg_name (i := 4) sc_Game_restricted.nd rfl (by first | exact Or.inl rfl | exact Or.inr rfl)) pgs_nil)))) (fun _ _ _ _ _ => pts_nil) (fun _ _ _ _ _ => (pv 3)) (fun _ _ _ _ _ => (pe_op (q_bin2 (op := .Sub) k_Ranking_sub (T.meth 62) (T.bin2 63) hr) (pv 4) (pv 1))))) (pa_cons (pv 2) pa_nil))))), fun ds kk ke h => ?_⟩), FunD.bindsN F fun _ _ _ _ _ _ us hl => match us, hl with | [_, _, _], _ => rfl⟩, F.kp⟩
  obtain ⟨rs, more, c, ts, rfl, gx, hr1, hsk, hnd, hk⟩ := h
  try dsimp only [cxK]
  walk_at "fw"
  refine (df_dcLM ([3] ++ ([4] ++ [])) (fun p : Str × List Str => D.tup [.str p.1, rk p.2]) (fun p => ((.inr p.1 : Key), rk (p.2.filter fun s => decide (s ∉ c)))) (fun a b e => by
    obtain ⟨a1, a2⟩ := a
    obtain ⟨b1, b2⟩ := b
    obtain ⟨e1, e2⟩ := pair_inj e
    subst e1 e2; rfl) (by decide) (by walk_at "fno") ?_).dt
  walk_at "fw"
  refine ⟨rs, by unfold rks; rw [List.map_map]; rfl, szOf (by have := hr1.len; omega), fun p hp => ?_, ?_⟩
  · walk_at "fw"
    exact ⟨hr1.le p hp, hr1.names p hp, hnd p hp, .inr p.1, rfl, rfl⟩
  · have e : (rs.map fun p => ((.inr p.1 : Key), rk (p.2.filter fun s => decide (s ∉ c)))) = rks (cut c rs) := by
      unfold rks cut
      rw [List.map_map]; rfl
    rw [e, mergeD_nil (by rw [rks_keys]; exact keys_nodup gx.rk.nd)]
    walk_at "fw"
    refine ⟨gx.rk, gx.tl, gx.ln, gx.tk, ?_⟩
    rw [srs_id gx.rk.nd gx.sk]
    exact hk
end
end Fw

set_option maxHeartbeats 4000000
/-! Games after strikes. -/
namespace Fw
open PySem PySem.Spec PyProof.Rows L2
local macro_rules | `(tactic| walk_at "fno") => `(tactic| first | (intro o ho; exact absurd ho (List.not_mem_nil)) | (simp; done) | (intro o ho; simp at ho; (try rcases ho with ho | ho) <;> subst ho <;> decide))
local macro_rules | `(tactic| walk_at "fop") => `(tactic| with_reducible first
  | refine dt_op opd_add ?_ | refine dt_op opd_sub ?_ | refine dt_op opd_mul ?_ | refine dt_op opd_fdivN ?_ | refine dt_op opd_mod ?_ | refine dt_op opd_pow ?_
  | refine dt_op opd_lt ?_ | refine dt_op opd_le ?_ | refine dt_op opd_gt ?_ | refine dt_op opd_ge ?_
  | refine dt_op opd_eq ?_ | refine dt_op opd_ne ?_ | refine dt_op opd_in ?_ | refine dt_op opd_in_sign ?_ | refine dt_op opd_add_str ?_ | refine dt_op opd_isN ?_ | refine dt_op opd_notN ?_
  | refine dt_op opd_ixL ?_ | refine dt_op opd_ixT ?_ | refine dt_op opf_cat.op ?_ | refine dt_op opf_rep.op ?_
  | refine dt_op opd_eqD ?_ | refine dt_op opd_neD ?_ | refine dt_op opd_eqDn ?_ | refine dt_op opd_inI ?_ | refine dt_op opd_eqI ?_ | refine dt_op opd_binI ?_ | refine dt_op opd_getI ?_)
local macro_rules | `(tactic| walk_at "fcb") => `(tactic| with_reducible first
  | refine dt_cb cad_lenA ?_ | refine dt_cb cad_lenI ?_ | refine dt_cb cad_isi ?_ | refine dt_cb cad_lenDR ?_ | refine dt_cb cad_max ?_ | refine dt_cb cad_min ?_ | refine dt_cb cad_all ?_ | refine dt_cb cad_any ?_ | refine dt_cb cad_sum ?_ | refine dt_cb cad_max2 ?_ | refine dt_cb cad_min2 ?_ | refine dt_cb cad_int1 ?_
  | refine dt_cb caf_list.ca ?_ | refine dt_cb caf_listD.ca ?_ | refine dt_cb caf_dictD.ca ?_ | refine dt_cb caf_dictP.ca ?_ | refine dt_cb caf_sortedS.ca ?_ | refine dt_cb caf_sortedD.ca ?_)
local macro_rules | `(tactic| walk_at "fex") => `(tactic| first
  | (refine ⟨(rfl : D.non = D.non), ?_⟩) | (refine ⟨_, .lst _, ?_⟩) | (refine ⟨_, .scr _, ?_⟩) | (refine ⟨_, _, _, rfl, rfl, rfl, ?_⟩) | (refine ⟨_, _, rfl, rfl, ?_⟩) | (refine ⟨_, rfl, ?_⟩) | (refine ⟨_, _, rfl, ?_⟩) | (refine ⟨_, _, _, rfl, ?_⟩) | (refine ⟨_, _, _, _, rfl, ?_⟩) | (refine ⟨_, _, _, _, _, rfl, ?_⟩) | (refine ⟨_, _, _, _, _, _, rfl, ?_⟩) | (refine ⟨_, .inl rfl, rfl, flat_strs _, ?_⟩) | (refine ⟨_, .inl rfl, ?_⟩) | (refine ⟨rfl, rfl, rfl, ?_⟩) | (refine ⟨(by simp only [List.length_cons, List.length_nil]; decide : List.length _ ≤ sizeLine), ?_⟩) | (refine ⟨fun _ => ?_, fun h => absurd h (by decide)⟩) | (refine ⟨fun h => absurd h (by decide), fun _ => ?_⟩))
local macro_rules | `(tactic| walk_at "fdi") => `(tactic| with_reducible first
  | refine di_list ?_ | refine di_range1 ?_ | refine di_range2 ?_ | refine di_range3 ?_ | refine di_str ?_ | refine di_items ?_ | refine di_values ?_ | refine di_keys ?_ | refine di_keysM ?_ | refine di_enum ?_)
local macro_rules | `(tactic| walk_at "ffld") => `(tactic| first
  | ((with_reducible refine fld_Committee_own_members ‹_› (dt_var (d := .obj "Committee" ?fs0) ?a1 ?a2)); (case a1 => rfl); refine ⟨_, _, rfl, rfl, ?_⟩)
  | ((with_reducible refine fld_Ranking_order ‹_› (dt_var (d := .obj "Ranking" ?fs0) ?a1 ?a2)); (case a1 => rfl); refine ⟨_, _, rfl, rfl, ?_⟩)
  | ((with_reducible refine fld_Ranking_places ‹_› (dt_var (d := .obj "Ranking" ?fs0) ?a1 ?a2)); (case a1 => rfl); refine ⟨_, _, rfl, rfl, ?_⟩)
  | ((with_reducible refine fld_Turns_order ‹_› (dt_var (d := .obj "Turns" ?fs0) ?a1 ?a2)); (case a1 => rfl); refine ⟨_, _, rfl, rfl, ?_⟩)
  | ((with_reducible refine fld_Game_own_rankings ‹_› (dt_var (d := .obj "Game" ?fs0) ?a1 ?a2)); (case a1 => rfl); refine ⟨_, _, rfl, rfl, ?_⟩)
  | ((with_reducible refine fld_Game_own_turns ‹_› (dt_var (d := .obj "Game" ?fs0) ?a1 ?a2)); (case a1 => rfl); refine ⟨_, _, rfl, rfl, ?_⟩)
  | ((with_reducible refine fld_Striker_own_target ‹_› (dt_var (d := .obj "Striker" ?fs0) ?a1 ?a2)); (case a1 => rfl); refine ⟨_, _, rfl, rfl, ?_⟩)
  | ((with_reducible refine fld_Keeper_own_target ‹_› (dt_var (d := .obj "Keeper" ?fs0) ?a1 ?a2)); (case a1 => rfl); refine ⟨_, _, rfl, rfl, ?_⟩))
local macro_rules | `(tactic| walk_at "fkit") => `(tactic| first
  | refine ⟨_, _, _, _, _, rfl, .str _, .ty _, kit_str_str ‹_›, ?_⟩
  | refine ⟨_, _, _, _, _, rfl, .int _, .ty _, kit_int_int ‹_›, ?_⟩
  | refine ⟨_, _, _, _, _, rfl, .lst _, .ty _, kit_list_list ‹_›, ?_⟩
  | refine ⟨_, _, _, _, _, rfl, .dic _, .ty _, kit_dict_dict ‹_›, ?_⟩
  | refine ⟨_, _, _, _, _, rfl, .obj _ _ (ins_Committee ‹_›), .glo _, kit_Committee_Committee ‹_›, ?_⟩
  | refine ⟨_, _, _, _, _, rfl, .obj _ _ (ins_Ranking ‹_›), .glo _, kit_Ranking_Ranking ‹_›, ?_⟩
  | refine ⟨_, _, _, _, _, rfl, .obj _ _ (ins_Turns ‹_›), .glo _, kit_Turns_Turns ‹_›, ?_⟩
  | refine ⟨_, _, _, _, _, rfl, .obj _ _ (ins_Game ‹_›), .glo _, kit_Game_Game ‹_›, ?_⟩
  | refine ⟨_, _, _, _, _, rfl, .int _, .ty _, kit_int_bool ‹_›, ?_⟩
  | refine ⟨_, _, _, _, _, rfl, .bl _, .ty _, kit_bool_int ‹_›, ?_⟩
  | refine ⟨_, _, _, _, _, rfl, .bl _, .ty _, kit_bool_bool ‹_›, ?_⟩)
local macro_rules | `(tactic| walk_at "fw1") => `(tactic| first
  | ((with_reducible refine dt_var (d := ?d0) ?a1 ?a2); (case a1 => rfl))
  | (with_reducible first
    | refine dt_int ?_ | refine dt_str ?_ | refine dt_bl ?_ | refine dt_non ?_ | refine dt_ty ?_ | refine dt_glo ?_
    | refine da_cons ?_ | refine da_nil ?_ | refine dtt_b ?_ | refine dtt_test ?_ | refine dtt_yes ?_ | refine dtt_not ?_ | refine dtt_and ?_ | refine dtt_or ?_ 
    | refine ds_unlAsg ?_ | refine ds_seq ?_ | refine ds_next ?_ | refine ds_ret ?_ | refine ds_retN ?_
    | refine dt_andV ?_ | refine dt_orV ?_ | refine dt_notV ?_ | refine dt_if ?_ | refine dt_chain opd_le opd_le ?_ | refine dt_chain opd_lt opd_lt ?_
    | refine dt_call0 ?_ | refine dt_prop ?_ | refine dt_make ?_ | refine dt_dget ?_ | refine dt_din ?_ | refine dt_dnotin ?_
    | refine (df_slL ?_).dt | refine do_none ?_ | refine do_some ?_ | refine (df_listVals ?_).dt | refine dt_stm ?_ | refine df_lst ?_ | refine df_cb caf_list ?_ | refine df_cb caf_listD ?_ | refine df_cb caf_dictD ?_ | refine df_cb caf_dictP ?_ | refine df_cb caf_sortedS ?_ | refine df_cb caf_sortedD ?_ | refine df_op opf_cat ?_ | refine df_listVals ?_ | refine df_make ?_ | refine df_slL ?_ | refine df_dnew ?_ | refine dt_lst ?_ | refine dt_tup ?_ | refine (df_dnew ?_).dt)
  | ((with_reducible refine dt_methS 0 (x := ?x0) (fs := ?f0) ?a1 ?a2 ?a3); (case a1 => rfl); (case a2 => rfl)) | (with_reducible refine dt_meth0 ?_)
  | (with_reducible refine dt_un und_neg ?_)
  | ((with_reducible refine dt_inO 0 (ds := ?d0) ?a1 ?a2); (case a1 => rfl)) | ((with_reducible refine dt_lenO 0 (ds := ?d0) ?a1 ?a2); (case a1 => rfl)) | ((with_reducible refine dt_lenO 1 (ds := ?d0) ?a1 ?a2); (case a1 => rfl))
  | ((with_reducible refine dm_popAt 0 (ds := ?d0) ?a1 ?a2); (case a1 => rfl)) | ((with_reducible refine dm_popAt 1 (ds := ?d0) ?a1 ?a2); (case a1 => rfl)) | (with_reducible refine DT.dm ?_) | walk_at "fop" | walk_at "fcb" | walk_at "fdi"
  | ((with_reducible refine ds_asgE ?a1 ?a2 ?a3); (case a1 => walk_at "fno"); (case a2 => simp [startG])) | ((with_reducible refine ds_asg ?a1 ?a2); (case a1 => walk_at "fno")) | ((with_reducible refine ds_asgT ?a1 ?a2 ?a3); (case a1 => walk_at "fno"); (case a2 => walk_at "fno")) | ((with_reducible refine ds_append 0 (ds := ?d0) ?a1 ?a2); (case a1 => rfl)) | ((with_reducible refine ds_append 1 (ds := ?d0) ?a1 ?a2); (case a1 => rfl)) | (with_reducible refine ds_expr ?_) | ((with_reducible refine ds_par ?a1 ?a2 ?a3); (case a1 => walk_at "fno"); (case a2 => walk_at "fno"))
  | ((with_reducible refine dg_tup ?a1 ?a2); (case a1 => rfl)) | (with_reducible refine dgs_cons ?_) | (with_reducible refine dgs_nil ?_) | (with_reducible refine lct ?_) | (with_reducible refine dct ?_)
  | ((with_reducible refine dg_name ?a1 ?a2); (case a1 => walk_at "fno"))
  | walk_at "ffld" | walk_at "fex" | walk_at "fkit")
local macro_rules | `(tactic| walk_at "fw") => `(tactic| repeat (first | walk_at "fw1" | (with_reducible refine ds_if ?_)))
local macro_rules | `(tactic| walk_at "fwn") => `(tactic| repeat walk_at "fw1")

section
variable {P : Program} {w : World} {K : PySem.W.Frag} {mg : Str → Option Value} {base : Heap}
def wt_Game_after : Wt := fun ds kk _ => ∃ (rs : List (Str × List Str)) (t : Str) (ts : List Str) (x : Str), ds = [gm rs (t :: ts), .str x] ∧ GX rs (t :: ts) ∧ (∀ p ∈ rs, x ∈ p.2) ∧ kk (gm (cut [x] rs) ts)
theorem ok_Game_after (T : TX K mg) : Ok P w K mg base 10 (He.ma K (He.ga K "Game") "after") ["self", "name"] (spD K wt_Game_after) := by
  obtain ⟨fd, F⟩ := T.def_ 45 (d := d_Game_after)
  have k_Committee_init := ok_Committee_init (P := P) (w := w) (base := base) T
  have k_Game_first_ranking := ok_Game_first_ranking (P := P) (w := w) (base := base) T
  have k_Game_restricted := ok_Game_restricted (P := P) (w := w) (base := base) T
  have k_Ranking_contains := ok_Ranking_contains (P := P) (w := w) (base := base) T
  have k_Turns_init := ok_Turns_init (P := P) (w := w) (base := base) T
  have k_Turns_len := ok_Turns_len (P := P) (w := w) (base := base) T
  have k_Turns_players := ok_Turns_players (P := P) (w := w) (base := base) T
  refine ⟨⟨fd, fnD F sc_Game_after (fun _ _ _ h => by obtain ⟨rs, t, ts, x, rfl, gx, hx, hk⟩ := h; rfl) (fun cdv A outer s H E hr => ⟨_, (pss_cons (ps_if (pt_cmpR op_eq (q_len k_Turns_len (T.meth 32) hr (T.free 2) (pa_cons (z_fld K (pv 0)) pa_nil)) pe_int (nomark _)) (pss_one ps_never) pss_nil) (pss_cons (ps_if (pt_cmpR (q_notin k_Ranking_contains (T.meth 20) hr) (pv 1) (q_meth0 k_Game_first_ranking (pv 0) (T.cls 25) (T.meth 30) hr) (by rfl)) (pss_one ps_never) pss_nil) (pss_one (ps_ret (q_meth k_Game_restricted (pv 0) (T.cls 25) (T.meth 64) hr (pa_cons (q_make k_Committee_init (T.mkr 21) hr (T.glo 11) (pa_cons (pe_lst (pa_cons (pv 1) pa_nil)) pa_nil)) (pa_cons (q_make k_Turns_init (T.mkr 56) hr (T.glo 31) (pa_cons (pe_slice (z_slL K) (q_prop k_Turns_players (z_fld K (pv 0)) (T.cls 23) (T.prop 34) hr) (po_some pe_int) po_none) pa_nil)) pa_nil))))))), fun ds kk ke h => ?_⟩), FunD.bindsN F fun _ _ _ _ _ _ us hl => match us, hl with | [_, _], _ => rfl⟩, F.kp⟩
  obtain ⟨rs, t, ts, x, rfl, gx, hx, hk⟩ := h
  try dsimp only [cxK]
  walk_at "fw"
  have htl := gx.tl
  rw [List.length_cons] at htl ⊢
  refine ⟨⟨by omega, by omega⟩, ?_⟩
  walk_at "fw"
  refine ⟨fun h => absurd (V.int.inj (of_decide_eq_true h)) (by omega), fun _ => ?_⟩
  obtain ⟨q, r, rfl⟩ := List.exists_cons_of_ne_nil gx.rk.ne
  have hxq := hx q List.mem_cons_self
  have hxn := gx.rk.names q List.mem_cons_self x hxq
  walk_at "fw"
  refine ⟨rfl, ?_⟩
  walk_at "fw"
  refine ⟨Nat.le_trans (isName_len hxn) (by decide), ?_⟩
  rw [hxn, decide_eq_true hxq]
  walk_at "fw"
  refine ⟨rfl, ?_⟩
  walk_at "fw"
  refine ⟨[x], rfl, (by exact (by decide : 1 ≤ 1000)), fun s hs => by rw [List.mem_singleton.mp hs]; exact hxn, Nat.le_trans (srt_le [x]) (by exact (by decide : 1 ≤ 30)), ?_⟩
  walk_at "fw"
  rw [cut_tail]
  walk_at "fw"
  refine ⟨by omega, fun s hs => gx.tn s (List.mem_cons_of_mem _ hs), ?_⟩
  walk_at "fw"
  have ec := cut_congr (c := srt [x]) (d := [x]) (fun s => srt_mem) (q :: r)
  refine ⟨by rw [ec]; exact gx.after hx, gx.rk, gx.sk, gx.nds, ?_⟩
  rw [ec]; exact hk
def wt_check_turn : Wt := fun ds kk _ => ∃ (rs : List (Str × List Str)) (t : Str) (ts : List Str), ds = [gm rs (t :: ts)] ∧ ts.length < 30 ∧ kk .non
theorem ok_check_turn (T : TX K mg) : Ok P w K mg base 3 (He.ga K "check_turn") ["game"] (spD K wt_check_turn) := by
  obtain ⟨fd, F⟩ := T.def_ 46 (d := d_check_turn)
  have k_Game_turns := ok_Game_turns (P := P) (w := w) (base := base) T
  have k_Turns_len := ok_Turns_len (P := P) (w := w) (base := base) T
  refine ⟨⟨fd, fnD F sc_check_turn (fun _ _ _ h => by obtain ⟨rs, t, ts, rfl, h30, hk⟩ := h; rfl) (fun cdv A outer s H E hr => ⟨_, (pss_one (ps_if (pt_cmpR op_eq (q_len k_Turns_len (T.meth 32) hr (T.free 2) (pa_cons (q_prop k_Game_turns (pv 0) (T.cls 25) (T.prop 42) hr) pa_nil)) pe_int (nomark _)) (pss_one ps_never) pss_nil)), fun ds kk ke h => ?_⟩), FunD.bindsN F fun _ _ _ _ _ _ us hl => match us, hl with | [_], _ => rfl⟩, F.kp⟩
  obtain ⟨rs, t, ts, rfl, h30, hk⟩ := h
  try dsimp only [cxK]
  walk_at "fw"
  rw [List.length_cons]
  refine ⟨⟨by omega, by omega⟩, ?_⟩
  walk_at "fw"
  refine ⟨fun h => absurd (V.int.inj (of_decide_eq_true h)) (by omega), fun _ => ?_⟩
  walk_at "fw"
  exact hk
end
end Fw

set_option maxHeartbeats 4000000
/-! Strategies of both sides. -/
namespace Fw
open PySem PySem.Spec PyProof.Rows L2
local macro_rules | `(tactic| walk_at "fno") => `(tactic| first | (intro o ho; exact absurd ho (List.not_mem_nil)) | (simp; done) | (intro o ho; simp at ho; (try rcases ho with ho | ho) <;> subst ho <;> decide))
local macro_rules | `(tactic| walk_at "fop") => `(tactic| with_reducible first
  | refine dt_op opd_add ?_ | refine dt_op opd_sub ?_ | refine dt_op opd_mul ?_ | refine dt_op opd_fdivN ?_ | refine dt_op opd_mod ?_ | refine dt_op opd_pow ?_
  | refine dt_op opd_lt ?_ | refine dt_op opd_le ?_ | refine dt_op opd_gt ?_ | refine dt_op opd_ge ?_
  | refine dt_op opd_eq ?_ | refine dt_op opd_ne ?_ | refine dt_op opd_in ?_ | refine dt_op opd_in_sign ?_ | refine dt_op opd_add_str ?_ | refine dt_op opd_isN ?_ | refine dt_op opd_notN ?_
  | refine dt_op opd_ixL ?_ | refine dt_op opd_ixT ?_ | refine dt_op opf_cat.op ?_ | refine dt_op opf_rep.op ?_
  | refine dt_op opd_eqD ?_ | refine dt_op opd_neD ?_ | refine dt_op opd_eqDn ?_ | refine dt_op opd_inI ?_ | refine dt_op opd_eqI ?_ | refine dt_op opd_binI ?_ | refine dt_op opd_getI ?_)
local macro_rules | `(tactic| walk_at "fcb") => `(tactic| with_reducible first
  | refine dt_cb cad_lenA ?_ | refine dt_cb cad_lenI ?_ | refine dt_cb cad_isi ?_ | refine dt_cb cad_lenDR ?_ | refine dt_cb cad_max ?_ | refine dt_cb cad_min ?_ | refine dt_cb cad_all ?_ | refine dt_cb cad_any ?_ | refine dt_cb cad_sum ?_ | refine dt_cb cad_max2 ?_ | refine dt_cb cad_min2 ?_ | refine dt_cb cad_int1 ?_
  | refine dt_cb caf_list.ca ?_ | refine dt_cb caf_listD.ca ?_ | refine dt_cb caf_dictD.ca ?_ | refine dt_cb caf_dictP.ca ?_ | refine dt_cb caf_sortedS.ca ?_ | refine dt_cb caf_sortedD.ca ?_)
local macro_rules | `(tactic| walk_at "fex") => `(tactic| first
  | (refine ⟨(rfl : D.non = D.non), ?_⟩) | (refine ⟨_, .lst _, ?_⟩) | (refine ⟨_, .scr _, ?_⟩) | (refine ⟨_, _, _, rfl, rfl, rfl, ?_⟩) | (refine ⟨_, _, rfl, rfl, ?_⟩) | (refine ⟨_, rfl, ?_⟩) | (refine ⟨_, _, rfl, ?_⟩) | (refine ⟨_, _, _, rfl, ?_⟩) | (refine ⟨_, _, _, _, rfl, ?_⟩) | (refine ⟨_, _, _, _, _, rfl, ?_⟩) | (refine ⟨_, _, _, _, _, _, rfl, ?_⟩) | (refine ⟨_, .inl rfl, rfl, flat_strs _, ?_⟩) | (refine ⟨_, .inl rfl, ?_⟩) | (refine ⟨rfl, rfl, rfl, ?_⟩) | (refine ⟨(by simp only [List.length_cons, List.length_nil]; decide : List.length _ ≤ sizeLine), ?_⟩) | (refine ⟨fun _ => ?_, fun h => absurd h (by decide)⟩) | (refine ⟨fun h => absurd h (by decide), fun _ => ?_⟩))
local macro_rules | `(tactic| walk_at "fdi") => `(tactic| with_reducible first
  | refine di_list ?_ | refine di_range1 ?_ | refine di_range2 ?_ | refine di_range3 ?_ | refine di_str ?_ | refine di_items ?_ | refine di_values ?_ | refine di_keys ?_ | refine di_keysM ?_ | refine di_enum ?_)
local macro_rules | `(tactic| walk_at "ffld") => `(tactic| first
  | ((with_reducible refine fld_Committee_own_members ‹_› (dt_var (d := .obj "Committee" ?fs0) ?a1 ?a2)); (case a1 => rfl); refine ⟨_, _, rfl, rfl, ?_⟩)
  | ((with_reducible refine fld_Ranking_order ‹_› (dt_var (d := .obj "Ranking" ?fs0) ?a1 ?a2)); (case a1 => rfl); refine ⟨_, _, rfl, rfl, ?_⟩)
  | ((with_reducible refine fld_Ranking_places ‹_› (dt_var (d := .obj "Ranking" ?fs0) ?a1 ?a2)); (case a1 => rfl); refine ⟨_, _, rfl, rfl, ?_⟩)
  | ((with_reducible refine fld_Turns_order ‹_› (dt_var (d := .obj "Turns" ?fs0) ?a1 ?a2)); (case a1 => rfl); refine ⟨_, _, rfl, rfl, ?_⟩)
  | ((with_reducible refine fld_Game_own_rankings ‹_› (dt_var (d := .obj "Game" ?fs0) ?a1 ?a2)); (case a1 => rfl); refine ⟨_, _, rfl, rfl, ?_⟩)
  | ((with_reducible refine fld_Game_own_turns ‹_› (dt_var (d := .obj "Game" ?fs0) ?a1 ?a2)); (case a1 => rfl); refine ⟨_, _, rfl, rfl, ?_⟩)
  | ((with_reducible refine fld_Striker_own_target ‹_› (dt_var (d := .obj "Striker" ?fs0) ?a1 ?a2)); (case a1 => rfl); refine ⟨_, _, rfl, rfl, ?_⟩)
  | ((with_reducible refine fld_Keeper_own_target ‹_› (dt_var (d := .obj "Keeper" ?fs0) ?a1 ?a2)); (case a1 => rfl); refine ⟨_, _, rfl, rfl, ?_⟩))
local macro_rules | `(tactic| walk_at "fkit") => `(tactic| first
  | refine ⟨_, _, _, _, _, rfl, .str _, .ty _, kit_str_str ‹_›, ?_⟩
  | refine ⟨_, _, _, _, _, rfl, .int _, .ty _, kit_int_int ‹_›, ?_⟩
  | refine ⟨_, _, _, _, _, rfl, .lst _, .ty _, kit_list_list ‹_›, ?_⟩
  | refine ⟨_, _, _, _, _, rfl, .dic _, .ty _, kit_dict_dict ‹_›, ?_⟩
  | refine ⟨_, _, _, _, _, rfl, .obj _ _ (ins_Committee ‹_›), .glo _, kit_Committee_Committee ‹_›, ?_⟩
  | refine ⟨_, _, _, _, _, rfl, .obj _ _ (ins_Ranking ‹_›), .glo _, kit_Ranking_Ranking ‹_›, ?_⟩
  | refine ⟨_, _, _, _, _, rfl, .obj _ _ (ins_Turns ‹_›), .glo _, kit_Turns_Turns ‹_›, ?_⟩
  | refine ⟨_, _, _, _, _, rfl, .obj _ _ (ins_Game ‹_›), .glo _, kit_Game_Game ‹_›, ?_⟩
  | refine ⟨_, _, _, _, _, rfl, .int _, .ty _, kit_int_bool ‹_›, ?_⟩
  | refine ⟨_, _, _, _, _, rfl, .bl _, .ty _, kit_bool_int ‹_›, ?_⟩
  | refine ⟨_, _, _, _, _, rfl, .bl _, .ty _, kit_bool_bool ‹_›, ?_⟩)
local macro_rules | `(tactic| walk_at "fw1") => `(tactic| first
  | ((with_reducible refine dt_var (d := ?d0) ?a1 ?a2); (case a1 => rfl))
  | (with_reducible first
    | refine dt_int ?_ | refine dt_str ?_ | refine dt_bl ?_ | refine dt_non ?_ | refine dt_ty ?_ | refine dt_glo ?_
    | refine da_cons ?_ | refine da_nil ?_ | refine dtt_b ?_ | refine dtt_test ?_ | refine dtt_yes ?_ | refine dtt_not ?_ | refine dtt_and ?_ | refine dtt_or ?_ 
    | refine ds_unlAsg ?_ | refine ds_seq ?_ | refine ds_next ?_ | refine ds_ret ?_ | refine ds_retN ?_
    | refine dt_andV ?_ | refine dt_orV ?_ | refine dt_notV ?_ | refine dt_if ?_ | refine dt_chain opd_le opd_le ?_ | refine dt_chain opd_lt opd_lt ?_
    | refine dt_call0 ?_ | refine dt_prop ?_ | refine dt_make ?_ | refine dt_dget ?_ | refine dt_din ?_ | refine dt_dnotin ?_
    | refine (df_slL ?_).dt | refine do_none ?_ | refine do_some ?_ | refine (df_listVals ?_).dt | refine dt_stm ?_ | refine df_lst ?_ | refine df_cb caf_list ?_ | refine df_cb caf_listD ?_ | refine df_cb caf_dictD ?_ | refine df_cb caf_dictP ?_ | refine df_cb caf_sortedS ?_ | refine df_cb caf_sortedD ?_ | refine df_op opf_cat ?_ | refine df_listVals ?_ | refine df_make ?_ | refine df_slL ?_ | refine df_dnew ?_ | refine dt_lst ?_ | refine dt_tup ?_ | refine (df_dnew ?_).dt)
  | ((with_reducible refine dt_methS 0 (x := ?x0) (fs := ?f0) ?a1 ?a2 ?a3); (case a1 => rfl); (case a2 => rfl)) | (with_reducible refine dt_meth0 ?_)
  | (with_reducible refine dt_un und_neg ?_)
  | ((with_reducible refine dt_inO 0 (ds := ?d0) ?a1 ?a2); (case a1 => rfl)) | ((with_reducible refine dt_lenO 0 (ds := ?d0) ?a1 ?a2); (case a1 => rfl)) | ((with_reducible refine dt_lenO 1 (ds := ?d0) ?a1 ?a2); (case a1 => rfl))
  | ((with_reducible refine dm_popAt 0 (ds := ?d0) ?a1 ?a2); (case a1 => rfl)) | ((with_reducible refine dm_popAt 1 (ds := ?d0) ?a1 ?a2); (case a1 => rfl)) | (with_reducible refine DT.dm ?_) | walk_at "fop" | walk_at "fcb" | walk_at "fdi"
  | ((with_reducible refine ds_asgE ?a1 ?a2 ?a3); (case a1 => walk_at "fno"); (case a2 => simp [startG])) | ((with_reducible refine ds_asg ?a1 ?a2); (case a1 => walk_at "fno")) | ((with_reducible refine ds_asgT ?a1 ?a2 ?a3); (case a1 => walk_at "fno"); (case a2 => walk_at "fno")) | ((with_reducible refine ds_append 0 (ds := ?d0) ?a1 ?a2); (case a1 => rfl)) | ((with_reducible refine ds_append 1 (ds := ?d0) ?a1 ?a2); (case a1 => rfl)) | (with_reducible refine ds_expr ?_) | ((with_reducible refine ds_par ?a1 ?a2 ?a3); (case a1 => walk_at "fno"); (case a2 => walk_at "fno"))
  | ((with_reducible refine dg_tup ?a1 ?a2); (case a1 => rfl)) | (with_reducible refine dgs_cons ?_) | (with_reducible refine dgs_nil ?_) | (with_reducible refine lct ?_) | (with_reducible refine dct ?_)
  | ((with_reducible refine dg_name ?a1 ?a2); (case a1 => walk_at "fno"))
  | walk_at "ffld" | walk_at "fex" | walk_at "fkit")
local macro_rules | `(tactic| walk_at "fw") => `(tactic| repeat (first | walk_at "fw1" | (with_reducible refine ds_if ?_)))
local macro_rules | `(tactic| walk_at "fwn") => `(tactic| repeat walk_at "fw1")

abbrev stkr (m : List Str) : D := .obj "Striker" [("own_target", cm m)]
abbrev kepr (m : List Str) : D := .obj "Keeper" [("own_target", cm m)]
def sideOf (g m : List Str) (p : Str) : D := if p ∈ g then stkr m else kepr m
def side (rs : List (Str × List Str)) (g m : List Str) : List (Key × D) := rs.map fun p => ((.inr p.1 : Key), sideOf g m p.1)
/-- what a striker, a keeper may strike -/
def PickS (m A : List Str) (x : Str) : Prop := x ∈ A ∧ (x ∈ m ∨ ∀ y ∈ A, y ∉ m)
def PickK (m A : List Str) (x : Str) : Prop := x ∈ A ∧ (x ∉ m ∨ ∀ y ∈ A, y ∈ m)
theorem head_mem {A : List Str} {p : Str → Bool} {x : Str} {r : List Str} (e : srt ((srt A).filter p) = x :: r) : x ∈ A ∧ p x = true := by
  have h : x ∈ srt ((srt A).filter p) := by rw [e]; exact List.mem_cons_self
  have h2 := List.mem_filter.mp (srt_mem.mp h)
  exact ⟨srt_mem.mp h2.1, h2.2⟩
theorem none_mem {A : List Str} {p : Str → Bool} (e : srt ((srt A).filter p) = []) {x : Str} (hx : x ∈ A) : p x = false := by
  cases h : p x with
  | false => rfl
  | true =>
    have h2 : x ∈ srt ((srt A).filter p) := srt_mem.mpr (List.mem_filter.mpr ⟨srt_mem.mpr hx, h⟩)
    rw [e] at h2; cases h2
section
variable {P : Program} {w : World} {K : PySem.W.Frag} {mg : Str → Option Value} {base : Heap}
def wt_Striker_init : WtI := fun ds kk _ => ∃ m : List Str, ds = [cm m] ∧ kk [("own_target", cm m)]
theorem ok_Striker_init (T : TX K mg) : Ok P w K mg base 1 (He.ma K (He.ga K "Striker") "__init__") ["self", "target"] (spI K "Striker" wt_Striker_init) := by
  obtain ⟨fd, F⟩ := T.def_ 47 (d := d_Striker_init)
  refine ⟨⟨fd, fnI F sc_Striker_init (by decide) (fun _ _ _ h => by obtain ⟨m, rfl, hk⟩ := h; rfl) (fun cdv A outer s H E hr => ⟨_, (pss_one (ps_fld (pv 0) (pv 1) rfl)), fun x ds kk ke h => ?_⟩), FunD.bindsN F fun _ _ _ _ _ _ us hl => match us, hl with | [_, _], _ => rfl⟩, F.kp⟩
  obtain ⟨m, rfl, hk⟩ := h
  try dsimp only [cxK]
  walk_at "fw"
  refine ds_fldS 0 (T.cls 65) (T.noat 66) rfl (by decide) ?_
  walk_at "fw"
  exact hk
def wt_Keeper_init : WtI := fun ds kk _ => ∃ m : List Str, ds = [cm m] ∧ kk [("own_target", cm m)]
theorem ok_Keeper_init (T : TX K mg) : Ok P w K mg base 1 (He.ma K (He.ga K "Keeper") "__init__") ["self", "target"] (spI K "Keeper" wt_Keeper_init) := by
  obtain ⟨fd, F⟩ := T.def_ 48 (d := d_Keeper_init)
  refine ⟨⟨fd, fnI F sc_Keeper_init (by decide) (fun _ _ _ h => by obtain ⟨m, rfl, hk⟩ := h; rfl) (fun cdv A outer s H E hr => ⟨_, (pss_one (ps_fld (pv 0) (pv 1) rfl)), fun x ds kk ke h => ?_⟩), FunD.bindsN F fun _ _ _ _ _ _ us hl => match us, hl with | [_, _], _ => rfl⟩, F.kp⟩
  obtain ⟨m, rfl, hk⟩ := h
  try dsimp only [cxK]
  walk_at "fw"
  refine ds_fldS 0 (T.cls 67) (T.noat 68) rfl (by decide) ?_
  walk_at "fw"
  exact hk
end
end Fw

set_option maxHeartbeats 4000000
/-! Strategies of both sides. -/
namespace Fw
open PySem PySem.Spec PyProof.Rows L2
local macro_rules | `(tactic| walk_at "fno") => `(tactic| first | (intro o ho; exact absurd ho (List.not_mem_nil)) | (simp; done) | (intro o ho; simp at ho; (try rcases ho with ho | ho) <;> subst ho <;> decide))
local macro_rules | `(tactic| walk_at "fop") => `(tactic| with_reducible first
  | refine dt_op opd_add ?_ | refine dt_op opd_sub ?_ | refine dt_op opd_mul ?_ | refine dt_op opd_fdivN ?_ | refine dt_op opd_mod ?_ | refine dt_op opd_pow ?_
  | refine dt_op opd_lt ?_ | refine dt_op opd_le ?_ | refine dt_op opd_gt ?_ | refine dt_op opd_ge ?_
  | refine dt_op opd_eq ?_ | refine dt_op opd_ne ?_ | refine dt_op opd_in ?_ | refine dt_op opd_in_sign ?_ | refine dt_op opd_add_str ?_ | refine dt_op opd_isN ?_ | refine dt_op opd_notN ?_
  | refine dt_op opd_ixL ?_ | refine dt_op opd_ixT ?_ | refine dt_op opf_cat.op ?_ | refine dt_op opf_rep.op ?_
  | refine dt_op opd_eqD ?_ | refine dt_op opd_neD ?_ | refine dt_op opd_eqDn ?_ | refine dt_op opd_inI ?_ | refine dt_op opd_eqI ?_ | refine dt_op opd_binI ?_ | refine dt_op opd_getI ?_)
local macro_rules | `(tactic| walk_at "fcb") => `(tactic| with_reducible first
  | refine dt_cb cad_lenA ?_ | refine dt_cb cad_lenI ?_ | refine dt_cb cad_isi ?_ | refine dt_cb cad_lenDR ?_ | refine dt_cb cad_max ?_ | refine dt_cb cad_min ?_ | refine dt_cb cad_all ?_ | refine dt_cb cad_any ?_ | refine dt_cb cad_sum ?_ | refine dt_cb cad_max2 ?_ | refine dt_cb cad_min2 ?_ | refine dt_cb cad_int1 ?_
  | refine dt_cb caf_list.ca ?_ | refine dt_cb caf_listD.ca ?_ | refine dt_cb caf_dictD.ca ?_ | refine dt_cb caf_dictP.ca ?_ | refine dt_cb caf_sortedS.ca ?_ | refine dt_cb caf_sortedD.ca ?_)
local macro_rules | `(tactic| walk_at "fex") => `(tactic| first
  | (refine ⟨(rfl : D.non = D.non), ?_⟩) | (refine ⟨_, .lst _, ?_⟩) | (refine ⟨_, .scr _, ?_⟩) | (refine ⟨_, _, _, rfl, rfl, rfl, ?_⟩) | (refine ⟨_, _, rfl, rfl, ?_⟩) | (refine ⟨_, rfl, ?_⟩) | (refine ⟨_, _, rfl, ?_⟩) | (refine ⟨_, _, _, rfl, ?_⟩) | (refine ⟨_, _, _, _, rfl, ?_⟩) | (refine ⟨_, _, _, _, _, rfl, ?_⟩) | (refine ⟨_, _, _, _, _, _, rfl, ?_⟩) | (refine ⟨_, .inl rfl, rfl, flat_strs _, ?_⟩) | (refine ⟨_, .inl rfl, ?_⟩) | (refine ⟨rfl, rfl, rfl, ?_⟩) | (refine ⟨(by simp only [List.length_cons, List.length_nil]; decide : List.length _ ≤ sizeLine), ?_⟩) | (refine ⟨fun _ => ?_, fun h => absurd h (by decide)⟩) | (refine ⟨fun h => absurd h (by decide), fun _ => ?_⟩))
local macro_rules | `(tactic| walk_at "fdi") => `(tactic| with_reducible first
  | refine di_list ?_ | refine di_range1 ?_ | refine di_range2 ?_ | refine di_range3 ?_ | refine di_str ?_ | refine di_items ?_ | refine di_values ?_ | refine di_keys ?_ | refine di_keysM ?_ | refine di_enum ?_)
local macro_rules | `(tactic| walk_at "ffld") => `(tactic| first
  | ((with_reducible refine fld_Committee_own_members ‹_› (dt_var (d := .obj "Committee" ?fs0) ?a1 ?a2)); (case a1 => rfl); refine ⟨_, _, rfl, rfl, ?_⟩)
  | ((with_reducible refine fld_Ranking_order ‹_› (dt_var (d := .obj "Ranking" ?fs0) ?a1 ?a2)); (case a1 => rfl); refine ⟨_, _, rfl, rfl, ?_⟩)
  | ((with_reducible refine fld_Ranking_places ‹_› (dt_var (d := .obj "Ranking" ?fs0) ?a1 ?a2)); (case a1 => rfl); refine ⟨_, _, rfl, rfl, ?_⟩)
  | ((with_reducible refine fld_Turns_order ‹_› (dt_var (d := .obj "Turns" ?fs0) ?a1 ?a2)); (case a1 => rfl); refine ⟨_, _, rfl, rfl, ?_⟩)
  | ((with_reducible refine fld_Game_own_rankings ‹_› (dt_var (d := .obj "Game" ?fs0) ?a1 ?a2)); (case a1 => rfl); refine ⟨_, _, rfl, rfl, ?_⟩)
  | ((with_reducible refine fld_Game_own_turns ‹_› (dt_var (d := .obj "Game" ?fs0) ?a1 ?a2)); (case a1 => rfl); refine ⟨_, _, rfl, rfl, ?_⟩)
  | ((with_reducible refine fld_Striker_own_target ‹_› (dt_var (d := .obj "Striker" ?fs0) ?a1 ?a2)); (case a1 => rfl); refine ⟨_, _, rfl, rfl, ?_⟩)
  | ((with_reducible refine fld_Keeper_own_target ‹_› (dt_var (d := .obj "Keeper" ?fs0) ?a1 ?a2)); (case a1 => rfl); refine ⟨_, _, rfl, rfl, ?_⟩))
local macro_rules | `(tactic| walk_at "fkit") => `(tactic| first
  | refine ⟨_, _, _, _, _, rfl, .str _, .ty _, kit_str_str ‹_›, ?_⟩
  | refine ⟨_, _, _, _, _, rfl, .int _, .ty _, kit_int_int ‹_›, ?_⟩
  | refine ⟨_, _, _, _, _, rfl, .lst _, .ty _, kit_list_list ‹_›, ?_⟩
  | refine ⟨_, _, _, _, _, rfl, .dic _, .ty _, kit_dict_dict ‹_›, ?_⟩
  | refine ⟨_, _, _, _, _, rfl, .obj _ _ (ins_Committee ‹_›), .glo _, kit_Committee_Committee ‹_›, ?_⟩
  | refine ⟨_, _, _, _, _, rfl, .obj _ _ (ins_Ranking ‹_›), .glo _, kit_Ranking_Ranking ‹_›, ?_⟩
  | refine ⟨_, _, _, _, _, rfl, .obj _ _ (ins_Turns ‹_›), .glo _, kit_Turns_Turns ‹_›, ?_⟩
  | refine ⟨_, _, _, _, _, rfl, .obj _ _ (ins_Game ‹_›), .glo _, kit_Game_Game ‹_›, ?_⟩
  | refine ⟨_, _, _, _, _, rfl, .int _, .ty _, kit_int_bool ‹_›, ?_⟩
  | refine ⟨_, _, _, _, _, rfl, .bl _, .ty _, kit_bool_int ‹_›, ?_⟩
  | refine ⟨_, _, _, _, _, rfl, .bl _, .ty _, kit_bool_bool ‹_›, ?_⟩)
local macro_rules | `(tactic| walk_at "fw1") => `(tactic| first
  | ((with_reducible refine dt_var (d := ?d0) ?a1 ?a2); (case a1 => rfl))
  | (with_reducible first
    | refine dt_int ?_ | refine dt_str ?_ | refine dt_bl ?_ | refine dt_non ?_ | refine dt_ty ?_ | refine dt_glo ?_
    | refine da_cons ?_ | refine da_nil ?_ | refine dtt_b ?_ | refine dtt_test ?_ | refine dtt_yes ?_ | refine dtt_not ?_ | refine dtt_and ?_ | refine dtt_or ?_ 
    | refine ds_unlAsg ?_ | refine ds_seq ?_ | refine ds_next ?_ | refine ds_ret ?_ | refine ds_retN ?_
    | refine dt_andV ?_ | refine dt_orV ?_ | refine dt_notV ?_ | refine dt_if ?_ | refine dt_chain opd_le opd_le ?_ | refine dt_chain opd_lt opd_lt ?_
    | refine dt_call0 ?_ | refine dt_prop ?_ | refine dt_make ?_ | refine dt_dget ?_ | refine dt_din ?_ | refine dt_dnotin ?_
    | refine (df_slL ?_).dt | refine do_none ?_ | refine do_some ?_ | refine (df_listVals ?_).dt | refine dt_stm ?_ | refine df_lst ?_ | refine df_cb caf_list ?_ | refine df_cb caf_listD ?_ | refine df_cb caf_dictD ?_ | refine df_cb caf_dictP ?_ | refine df_cb caf_sortedS ?_ | refine df_cb caf_sortedD ?_ | refine df_op opf_cat ?_ | refine df_listVals ?_ | refine df_make ?_ | refine df_slL ?_ | refine df_dnew ?_ | refine dt_lst ?_ | refine dt_tup ?_ | refine (df_dnew ?_).dt)
  | ((with_reducible refine dt_methS 0 (x := ?x0) (fs := ?f0) ?a1 ?a2 ?a3); (case a1 => rfl); (case a2 => rfl)) | (with_reducible refine dt_meth0 ?_)
  | (with_reducible refine dt_un und_neg ?_)
  | ((with_reducible refine dt_inO 0 (ds := ?d0) ?a1 ?a2); (case a1 => rfl)) | ((with_reducible refine dt_lenO 0 (ds := ?d0) ?a1 ?a2); (case a1 => rfl)) | ((with_reducible refine dt_lenO 1 (ds := ?d0) ?a1 ?a2); (case a1 => rfl))
  | ((with_reducible refine dm_popAt 0 (ds := ?d0) ?a1 ?a2); (case a1 => rfl)) | ((with_reducible refine dm_popAt 1 (ds := ?d0) ?a1 ?a2); (case a1 => rfl)) | (with_reducible refine DT.dm ?_) | walk_at "fop" | walk_at "fcb" | walk_at "fdi"
  | ((with_reducible refine ds_asgE ?a1 ?a2 ?a3); (case a1 => walk_at "fno"); (case a2 => simp [startG])) | ((with_reducible refine ds_asg ?a1 ?a2); (case a1 => walk_at "fno")) | ((with_reducible refine ds_asgT ?a1 ?a2 ?a3); (case a1 => walk_at "fno"); (case a2 => walk_at "fno")) | ((with_reducible refine ds_append 0 (ds := ?d0) ?a1 ?a2); (case a1 => rfl)) | ((with_reducible refine ds_append 1 (ds := ?d0) ?a1 ?a2); (case a1 => rfl)) | (with_reducible refine ds_expr ?_) | ((with_reducible refine ds_par ?a1 ?a2 ?a3); (case a1 => walk_at "fno"); (case a2 => walk_at "fno"))
  | ((with_reducible refine dg_tup ?a1 ?a2); (case a1 => rfl)) | (with_reducible refine dgs_cons ?_) | (with_reducible refine dgs_nil ?_) | (with_reducible refine lct ?_) | (with_reducible refine dct ?_)
  | ((with_reducible refine dg_name ?a1 ?a2); (case a1 => walk_at "fno"))
  | walk_at "ffld" | walk_at "fex" | walk_at "fkit")
local macro_rules | `(tactic| walk_at "fw") => `(tactic| repeat (first | walk_at "fw1" | (with_reducible refine ds_if ?_)))
local macro_rules | `(tactic| walk_at "fwn") => `(tactic| repeat walk_at "fw1")

section
variable {P : Program} {w : World} {K : PySem.W.Frag} {mg : Str → Option Value} {base : Heap}
def wt_Striker_choice : Wt := fun ds kk _ => ∃ (m : List Str) (q : Str × List Str) (r : List (Str × List Str)) (ts : List Str), ds = [stkr m, gm (q :: r) ts] ∧ q.2.length ≤ 30 ∧ (∀ s ∈ q.2, isName s = true) ∧ q.2 ≠ [] ∧ ∀ x, PickS m q.2 x → kk (.str x)
theorem ok_Striker_choice (T : TX K mg) : Ok P w K mg base 8 (He.ma K (He.ga K "Striker") "choice") ["self", "game"] (spD K wt_Striker_choice) := by
  obtain ⟨fd, F⟩ := T.def_ 49 (d := d_Striker_choice)
  have k_Committee_and := ok_Committee_and (P := P) (w := w) (base := base) T
  have k_Committee_members := ok_Committee_members (P := P) (w := w) (base := base) T
  have k_Game_alternatives := ok_Game_alternatives (P := P) (w := w) (base := base) T
  refine ⟨⟨fd, fnD F sc_Striker_choice (fun _ _ _ h => by obtain ⟨m, q, r, ts, rfl, h30, hs, hne, hk⟩ := h; rfl) (fun cdv A outer s H E hr => ⟨_, (pss_cons (ps_set (i := 2) sc_Striker_choice.nd rfl (by first | exact Or.inl rfl | exact Or.inr rfl) (q_prop k_Committee_members (pe_op (q_bin (op := .BitAnd) k_Committee_and (T.meth 69) (T.first 70) hr) (q_prop k_Game_alternatives (pv 1) (T.cls 25) (T.prop 43) hr) (z_fld K (pv 0))) (T.cls 9) (T.prop 19) hr)) (pss_one (ps_ret (pe_ifExp (pt_cmpR (z_neD K hr) (pv 2) (pe_lst pa_nil) (nomark _)) (pe_ix (z_ixL K) (pv 2) pe_int (fun _ _ => rfl)) (pe_ix (z_ixL K) (q_prop k_Committee_members (q_prop k_Game_alternatives (pv 1) (T.cls 25) (T.prop 43) hr) (T.cls 9) (T.prop 19) hr) pe_int (fun _ _ => rfl)))))), fun ds kk ke h => ?_⟩), FunD.bindsN F fun _ _ _ _ _ _ us hl => match us, hl with | [_, _], _ => rfl⟩, F.kp⟩
  obtain ⟨m, q, r, ts, rfl, h30, hs, hne, hk⟩ := h
  try dsimp only [cxK]
  walk_at "fw"
  refine ⟨rfl, h30, hs, ?_⟩
  walk_at "fw"
  have hl := srt_le q.2
  refine ⟨by omega, fun s h => hs s (srt_mem.mp h), ?_⟩
  walk_at "fw"
  refine ⟨_, _, pd_sl _, pd_sl [], shaped_sl (fun s h => hs s (srt_mem.mp (List.mem_filter.mp (srt_mem.mp h)).1)), shaped_sl (fun s h => by cases h), ?_⟩
  rw [eqv_sl]
  generalize e : srt (List.filter _ (srt q.2)) = zs
  cases zs with
  | nil =>
    walk_at "fw"
    refine ⟨rfl, h30, hs, ?_⟩
    obtain ⟨y, r2, e2⟩ := List.exists_cons_of_ne_nil (l := srt q.2) fun z => by
      obtain ⟨y, r3, e3⟩ := List.exists_cons_of_ne_nil hne
      have h : y ∈ srt q.2 := srt_mem.mpr (by rw [e3]; exact List.mem_cons_self)
      rw [z] at h; cases h
    rw [e2]
    walk_at "fw"
    exact ⟨_, _, .str y, rfl, rfl, atI_0 _ _, hk y ⟨srt_mem.mp (by rw [e2]; exact List.mem_cons_self), .inr (fun z hz => of_decide_eq_false (none_mem (p := fun s => decide (s ∈ m)) e hz))⟩⟩
  | cons y r2 =>
    walk_at "fw"
    refine ⟨fun _ => ?_, fun h => absurd h (by simp)⟩
    walk_at "fw"
    exact ⟨_, _, .str y, rfl, rfl, atI_0 _ _, hk y ⟨(head_mem (p := fun s => decide (s ∈ m)) e).1, .inl (of_decide_eq_true (head_mem (p := fun s => decide (s ∈ m)) e).2)⟩⟩
def wt_Keeper_choice : Wt := fun ds kk _ => ∃ (m : List Str) (q : Str × List Str) (r : List (Str × List Str)) (ts : List Str), ds = [kepr m, gm (q :: r) ts] ∧ q.2.length ≤ 30 ∧ (∀ s ∈ q.2, isName s = true) ∧ q.2 ≠ [] ∧ ∀ x, PickK m q.2 x → kk (.str x)
theorem ok_Keeper_choice (T : TX K mg) : Ok P w K mg base 8 (He.ma K (He.ga K "Keeper") "choice") ["self", "game"] (spD K wt_Keeper_choice) := by
  obtain ⟨fd, F⟩ := T.def_ 50 (d := d_Keeper_choice)
  have k_Committee_sub := ok_Committee_sub (P := P) (w := w) (base := base) T
  have k_Committee_members := ok_Committee_members (P := P) (w := w) (base := base) T
  have k_Game_alternatives := ok_Game_alternatives (P := P) (w := w) (base := base) T
  refine ⟨⟨fd, fnD F sc_Keeper_choice (fun _ _ _ h => by obtain ⟨m, q, r, ts, rfl, h30, hs, hne, hk⟩ := h; rfl) (fun cdv A outer s H E hr => ⟨_, (pss_cons (ps_set (i := 2) sc_Keeper_choice.nd rfl (by first | exact Or.inl rfl | exact Or.inr rfl) (q_prop k_Committee_members (pe_op (q_bin (op := .Sub) k_Committee_sub (T.meth 71) (T.first 70) hr) (q_prop k_Game_alternatives (pv 1) (T.cls 25) (T.prop 43) hr) (z_fld K (pv 0))) (T.cls 9) (T.prop 19) hr)) (pss_one (ps_ret (pe_ifExp (pt_cmpR (z_neD K hr) (pv 2) (pe_lst pa_nil) (nomark _)) (pe_ix (z_ixL K) (pv 2) pe_int (fun _ _ => rfl)) (pe_ix (z_ixL K) (q_prop k_Committee_members (q_prop k_Game_alternatives (pv 1) (T.cls 25) (T.prop 43) hr) (T.cls 9) (T.prop 19) hr) pe_int (fun _ _ => rfl)))))), fun ds kk ke h => ?_⟩), FunD.bindsN F fun _ _ _ _ _ _ us hl => match us, hl with | [_, _], _ => rfl⟩, F.kp⟩
  obtain ⟨m, q, r, ts, rfl, h30, hs, hne, hk⟩ := h
  try dsimp only [cxK]
  walk_at "fw"
  refine ⟨rfl, h30, hs, ?_⟩
  walk_at "fw"
  have hl := srt_le q.2
  refine ⟨by omega, fun s h => hs s (srt_mem.mp h), ?_⟩
  walk_at "fw"
  refine ⟨_, _, pd_sl _, pd_sl [], shaped_sl (fun s h => hs s (srt_mem.mp (List.mem_filter.mp (srt_mem.mp h)).1)), shaped_sl (fun s h => by cases h), ?_⟩
  rw [eqv_sl]
  generalize e : srt (List.filter _ (srt q.2)) = zs
  cases zs with
  | nil =>
    walk_at "fw"
    refine ⟨rfl, h30, hs, ?_⟩
    obtain ⟨y, r2, e2⟩ := List.exists_cons_of_ne_nil (l := srt q.2) fun z => by
      obtain ⟨y, r3, e3⟩ := List.exists_cons_of_ne_nil hne
      have h : y ∈ srt q.2 := srt_mem.mpr (by rw [e3]; exact List.mem_cons_self)
      rw [z] at h; cases h
    rw [e2]
    walk_at "fw"
    exact ⟨_, _, .str y, rfl, rfl, atI_0 _ _, hk y ⟨srt_mem.mp (by rw [e2]; exact List.mem_cons_self), .inr (fun z hz => Classical.byContradiction fun n => of_decide_eq_false (none_mem (p := fun s => decide (s ∉ m)) e hz) n)⟩⟩
  | cons y r2 =>
    walk_at "fw"
    refine ⟨fun _ => ?_, fun h => absurd h (by simp)⟩
    walk_at "fw"
    exact ⟨_, _, .str y, rfl, rfl, atI_0 _ _, hk y ⟨(head_mem (p := fun s => decide (s ∉ m)) e).1, .inl (of_decide_eq_true (head_mem (p := fun s => decide (s ∉ m)) e).2)⟩⟩
def wt_Strategy_call_at_Striker : Wt := fun ds kk _ => ∃ (m : List Str) (q : Str × List Str) (r : List (Str × List Str)) (t : Str) (ts : List Str), ds = [stkr m, gm (q :: r) (t :: ts)] ∧ ts.length < 30 ∧ q.2.length ≤ 30 ∧ (∀ s ∈ q.2, isName s = true) ∧ q.2 ≠ [] ∧ ∀ x, PickS m q.2 x → kk (.str x)
theorem ok_Strategy_call_at_Striker (T : TX K mg) : Ok P w K mg base 9 (He.ma K (He.ga K "Strategy") "__call__") ["self", "game"] (spD K wt_Strategy_call_at_Striker) := by
  obtain ⟨fd, F⟩ := T.def_ 51 (d := d_Strategy_call_at_Striker)
  have k_Striker_choice := ok_Striker_choice (P := P) (w := w) (base := base) T
  have k_check_turn := ok_check_turn (P := P) (w := w) (base := base) T
  refine ⟨⟨fd, fnD F sc_Strategy_call_at_Striker (fun _ _ _ h => by obtain ⟨m, q, r, t, ts, rfl, ht, h30, hs, hne, hk⟩ := h; rfl) (fun cdv A outer s H E hr => ⟨_, (pss_cons (ps_expr (q_call k_check_turn hr (T.glo 72) (pa_cons (pv 1) pa_nil))) (pss_one (ps_ret (q_meth k_Striker_choice (pv 0) (T.cls 65) (T.meth 73) hr (pa_cons (pv 1) pa_nil))))), fun ds kk ke h => ?_⟩), FunD.bindsN F fun _ _ _ _ _ _ us hl => match us, hl with | [_, _], _ => rfl⟩, F.kp⟩
  obtain ⟨m, q, r, t, ts, rfl, ht, h30, hs, hne, hk⟩ := h
  try dsimp only [cxK]
  walk_at "fw"
  refine ⟨ht, ?_⟩
  walk_at "fw"
  refine ⟨rfl, ?_⟩
  walk_at "fw"
  exact ⟨h30, hs, hne, hk⟩
def wt_Strategy_call_at_Keeper : Wt := fun ds kk _ => ∃ (m : List Str) (q : Str × List Str) (r : List (Str × List Str)) (t : Str) (ts : List Str), ds = [kepr m, gm (q :: r) (t :: ts)] ∧ ts.length < 30 ∧ q.2.length ≤ 30 ∧ (∀ s ∈ q.2, isName s = true) ∧ q.2 ≠ [] ∧ ∀ x, PickK m q.2 x → kk (.str x)
theorem ok_Strategy_call_at_Keeper (T : TX K mg) : Ok P w K mg base 9 (He.ma K (He.ga K "Strategy") "__call__") ["self", "game"] (spD K wt_Strategy_call_at_Keeper) := by
  obtain ⟨fd, F⟩ := T.def_ 52 (d := d_Strategy_call_at_Keeper)
  have k_Keeper_choice := ok_Keeper_choice (P := P) (w := w) (base := base) T
  have k_check_turn := ok_check_turn (P := P) (w := w) (base := base) T
  refine ⟨⟨fd, fnD F sc_Strategy_call_at_Keeper (fun _ _ _ h => by obtain ⟨m, q, r, t, ts, rfl, ht, h30, hs, hne, hk⟩ := h; rfl) (fun cdv A outer s H E hr => ⟨_, (pss_cons (ps_expr (q_call k_check_turn hr (T.glo 72) (pa_cons (pv 1) pa_nil))) (pss_one (ps_ret (q_meth k_Keeper_choice (pv 0) (T.cls 67) (T.meth 74) hr (pa_cons (pv 1) pa_nil))))), fun ds kk ke h => ?_⟩), FunD.bindsN F fun _ _ _ _ _ _ us hl => match us, hl with | [_, _], _ => rfl⟩, F.kp⟩
  obtain ⟨m, q, r, t, ts, rfl, ht, h30, hs, hne, hk⟩ := h
  try dsimp only [cxK]
  walk_at "fw"
  refine ⟨ht, ?_⟩
  walk_at "fw"
  refine ⟨rfl, ?_⟩
  walk_at "fw"
  exact ⟨h30, hs, hne, hk⟩
end
end Fw

set_option maxHeartbeats 4000000
/-! Strategies of both sides. -/
namespace Fw
open PySem PySem.Spec PyProof.Rows L2
local macro_rules | `(tactic| walk_at "fno") => `(tactic| first | (intro o ho; exact absurd ho (List.not_mem_nil)) | (simp; done) | (intro o ho; simp at ho; (try rcases ho with ho | ho) <;> subst ho <;> decide))
local macro_rules | `(tactic| walk_at "fop") => `(tactic| with_reducible first
  | refine dt_op opd_add ?_ | refine dt_op opd_sub ?_ | refine dt_op opd_mul ?_ | refine dt_op opd_fdivN ?_ | refine dt_op opd_mod ?_ | refine dt_op opd_pow ?_
  | refine dt_op opd_lt ?_ | refine dt_op opd_le ?_ | refine dt_op opd_gt ?_ | refine dt_op opd_ge ?_
  | refine dt_op opd_eq ?_ | refine dt_op opd_ne ?_ | refine dt_op opd_in ?_ | refine dt_op opd_in_sign ?_ | refine dt_op opd_add_str ?_ | refine dt_op opd_isN ?_ | refine dt_op opd_notN ?_
  | refine dt_op opd_ixL ?_ | refine dt_op opd_ixT ?_ | refine dt_op opf_cat.op ?_ | refine dt_op opf_rep.op ?_
  | refine dt_op opd_eqD ?_ | refine dt_op opd_neD ?_ | refine dt_op opd_eqDn ?_ | refine dt_op opd_inI ?_ | refine dt_op opd_eqI ?_ | refine dt_op opd_binI ?_ | refine dt_op opd_getI ?_)
local macro_rules | `(tactic| walk_at "fcb") => `(tactic| with_reducible first
  | refine dt_cb cad_lenA ?_ | refine dt_cb cad_lenI ?_ | refine dt_cb cad_isi ?_ | refine dt_cb cad_lenDR ?_ | refine dt_cb cad_max ?_ | refine dt_cb cad_min ?_ | refine dt_cb cad_all ?_ | refine dt_cb cad_any ?_ | refine dt_cb cad_sum ?_ | refine dt_cb cad_max2 ?_ | refine dt_cb cad_min2 ?_ | refine dt_cb cad_int1 ?_
  | refine dt_cb caf_list.ca ?_ | refine dt_cb caf_listD.ca ?_ | refine dt_cb caf_dictD.ca ?_ | refine dt_cb caf_dictP.ca ?_ | refine dt_cb caf_sortedS.ca ?_ | refine dt_cb caf_sortedD.ca ?_)
local macro_rules | `(tactic| walk_at "fex") => `(tactic| first
  | (refine ⟨(rfl : D.non = D.non), ?_⟩) | (refine ⟨_, .lst _, ?_⟩) | (refine ⟨_, .scr _, ?_⟩) | (refine ⟨_, _, _, rfl, rfl, rfl, ?_⟩) | (refine ⟨_, _, rfl, rfl, ?_⟩) | (refine ⟨_, rfl, ?_⟩) | (refine ⟨_, _, rfl, ?_⟩) | (refine ⟨_, _, _, rfl, ?_⟩) | (refine ⟨_, _, _, _, rfl, ?_⟩) | (refine ⟨_, _, _, _, _, rfl, ?_⟩) | (refine ⟨_, _, _, _, _, _, rfl, ?_⟩) | (refine ⟨_, .inl rfl, rfl, flat_strs _, ?_⟩) | (refine ⟨_, .inl rfl, ?_⟩) | (refine ⟨rfl, rfl, rfl, ?_⟩) | (refine ⟨(by simp only [List.length_cons, List.length_nil]; decide : List.length _ ≤ sizeLine), ?_⟩) | (refine ⟨fun _ => ?_, fun h => absurd h (by decide)⟩) | (refine ⟨fun h => absurd h (by decide), fun _ => ?_⟩))
local macro_rules | `(tactic| walk_at "fdi") => `(tactic| with_reducible first
  | refine di_list ?_ | refine di_range1 ?_ | refine di_range2 ?_ | refine di_range3 ?_ | refine di_str ?_ | refine di_items ?_ | refine di_values ?_ | refine di_keys ?_ | refine di_keysM ?_ | refine di_enum ?_)
local macro_rules | `(tactic| walk_at "ffld") => `(tactic| first
  | ((with_reducible refine fld_Committee_own_members ‹_› (dt_var (d := .obj "Committee" ?fs0) ?a1 ?a2)); (case a1 => rfl); refine ⟨_, _, rfl, rfl, ?_⟩)
  | ((with_reducible refine fld_Ranking_order ‹_› (dt_var (d := .obj "Ranking" ?fs0) ?a1 ?a2)); (case a1 => rfl); refine ⟨_, _, rfl, rfl, ?_⟩)
  | ((with_reducible refine fld_Ranking_places ‹_› (dt_var (d := .obj "Ranking" ?fs0) ?a1 ?a2)); (case a1 => rfl); refine ⟨_, _, rfl, rfl, ?_⟩)
  | ((with_reducible refine fld_Turns_order ‹_› (dt_var (d := .obj "Turns" ?fs0) ?a1 ?a2)); (case a1 => rfl); refine ⟨_, _, rfl, rfl, ?_⟩)
  | ((with_reducible refine fld_Game_own_rankings ‹_› (dt_var (d := .obj "Game" ?fs0) ?a1 ?a2)); (case a1 => rfl); refine ⟨_, _, rfl, rfl, ?_⟩)
  | ((with_reducible refine fld_Game_own_turns ‹_› (dt_var (d := .obj "Game" ?fs0) ?a1 ?a2)); (case a1 => rfl); refine ⟨_, _, rfl, rfl, ?_⟩)
  | ((with_reducible refine fld_Striker_own_target ‹_› (dt_var (d := .obj "Striker" ?fs0) ?a1 ?a2)); (case a1 => rfl); refine ⟨_, _, rfl, rfl, ?_⟩)
  | ((with_reducible refine fld_Keeper_own_target ‹_› (dt_var (d := .obj "Keeper" ?fs0) ?a1 ?a2)); (case a1 => rfl); refine ⟨_, _, rfl, rfl, ?_⟩))
local macro_rules | `(tactic| walk_at "fkit") => `(tactic| first
  | refine ⟨_, _, _, _, _, rfl, .str _, .ty _, kit_str_str ‹_›, ?_⟩
  | refine ⟨_, _, _, _, _, rfl, .int _, .ty _, kit_int_int ‹_›, ?_⟩
  | refine ⟨_, _, _, _, _, rfl, .lst _, .ty _, kit_list_list ‹_›, ?_⟩
  | refine ⟨_, _, _, _, _, rfl, .dic _, .ty _, kit_dict_dict ‹_›, ?_⟩
  | refine ⟨_, _, _, _, _, rfl, .obj _ _ (ins_Committee ‹_›), .glo _, kit_Committee_Committee ‹_›, ?_⟩
  | refine ⟨_, _, _, _, _, rfl, .obj _ _ (ins_Ranking ‹_›), .glo _, kit_Ranking_Ranking ‹_›, ?_⟩
  | refine ⟨_, _, _, _, _, rfl, .obj _ _ (ins_Turns ‹_›), .glo _, kit_Turns_Turns ‹_›, ?_⟩
  | refine ⟨_, _, _, _, _, rfl, .obj _ _ (ins_Game ‹_›), .glo _, kit_Game_Game ‹_›, ?_⟩
  | refine ⟨_, _, _, _, _, rfl, .int _, .ty _, kit_int_bool ‹_›, ?_⟩
  | refine ⟨_, _, _, _, _, rfl, .bl _, .ty _, kit_bool_int ‹_›, ?_⟩
  | refine ⟨_, _, _, _, _, rfl, .bl _, .ty _, kit_bool_bool ‹_›, ?_⟩)
local macro_rules | `(tactic| walk_at "fw1") => `(tactic| first
  | ((with_reducible refine dt_var (d := ?d0) ?a1 ?a2); (case a1 => rfl))
  | (with_reducible first
    | refine dt_int ?_ | refine dt_str ?_ | refine dt_bl ?_ | refine dt_non ?_ | refine dt_ty ?_ | refine dt_glo ?_
    | refine da_cons ?_ | refine da_nil ?_ | refine dtt_b ?_ | refine dtt_test ?_ | refine dtt_yes ?_ | refine dtt_not ?_ | refine dtt_and ?_ | refine dtt_or ?_ 
    | refine ds_unlAsg ?_ | refine ds_seq ?_ | refine ds_next ?_ | refine ds_ret ?_ | refine ds_retN ?_
    | refine dt_andV ?_ | refine dt_orV ?_ | refine dt_notV ?_ | refine dt_if ?_ | refine dt_chain opd_le opd_le ?_ | refine dt_chain opd_lt opd_lt ?_
    | refine dt_call0 ?_ | refine dt_prop ?_ | refine dt_make ?_ | refine dt_dget ?_ | refine dt_din ?_ | refine dt_dnotin ?_
    | refine (df_slL ?_).dt | refine do_none ?_ | refine do_some ?_ | refine (df_listVals ?_).dt | refine dt_stm ?_ | refine df_lst ?_ | refine df_cb caf_list ?_ | refine df_cb caf_listD ?_ | refine df_cb caf_dictD ?_ | refine df_cb caf_dictP ?_ | refine df_cb caf_sortedS ?_ | refine df_cb caf_sortedD ?_ | refine df_op opf_cat ?_ | refine df_listVals ?_ | refine df_make ?_ | refine df_slL ?_ | refine df_dnew ?_ | refine dt_lst ?_ | refine dt_tup ?_ | refine (df_dnew ?_).dt)
  | ((with_reducible refine dt_methS 0 (x := ?x0) (fs := ?f0) ?a1 ?a2 ?a3); (case a1 => rfl); (case a2 => rfl)) | (with_reducible refine dt_meth0 ?_)
  | (with_reducible refine dt_un und_neg ?_)
  | ((with_reducible refine dt_inO 0 (ds := ?d0) ?a1 ?a2); (case a1 => rfl)) | ((with_reducible refine dt_lenO 0 (ds := ?d0) ?a1 ?a2); (case a1 => rfl)) | ((with_reducible refine dt_lenO 1 (ds := ?d0) ?a1 ?a2); (case a1 => rfl))
  | ((with_reducible refine dm_popAt 0 (ds := ?d0) ?a1 ?a2); (case a1 => rfl)) | ((with_reducible refine dm_popAt 1 (ds := ?d0) ?a1 ?a2); (case a1 => rfl)) | (with_reducible refine DT.dm ?_) | walk_at "fop" | walk_at "fcb" | walk_at "fdi"
  | ((with_reducible refine ds_asgE ?a1 ?a2 ?a3); (case a1 => walk_at "fno"); (case a2 => simp [startG])) | ((with_reducible refine ds_asg ?a1 ?a2); (case a1 => walk_at "fno")) | ((with_reducible refine ds_asgT ?a1 ?a2 ?a3); (case a1 => walk_at "fno"); (case a2 => walk_at "fno")) | ((with_reducible refine ds_append 0 (ds := ?d0) ?a1 ?a2); (case a1 => rfl)) | ((with_reducible refine ds_append 1 (ds := ?d0) ?a1 ?a2); (case a1 => rfl)) | (with_reducible refine ds_expr ?_) | ((with_reducible refine ds_par ?a1 ?a2 ?a3); (case a1 => walk_at "fno"); (case a2 => walk_at "fno"))
  | ((with_reducible refine dg_tup ?a1 ?a2); (case a1 => rfl)) | (with_reducible refine dgs_cons ?_) | (with_reducible refine dgs_nil ?_) | (with_reducible refine lct ?_) | (with_reducible refine dct ?_)
  | ((with_reducible refine dg_name ?a1 ?a2); (case a1 => walk_at "fno"))
  | walk_at "ffld" | walk_at "fex" | walk_at "fkit")
local macro_rules | `(tactic| walk_at "fw") => `(tactic| repeat (first | walk_at "fw1" | (with_reducible refine ds_if ?_)))
local macro_rules | `(tactic| walk_at "fwn") => `(tactic| repeat walk_at "fw1")

section
variable {P : Program} {w : World} {K : PySem.W.Frag} {mg : Str → Option Value} {base : Heap}
def wt_side_strategies : Wt := fun ds kk _ => ∃ (q : Str × List Str) (r : List (Str × List Str)) (ts g m : List Str), ds = [gm (q :: r) ts, sl g, cm m] ∧ g.length ≤ 1000 ∧ (∀ s ∈ g, isName s = true ∧ s ∈ (q :: r).map Prod.fst) ∧ (∀ s ∈ m, isName s = true ∧ s ∈ q.2) ∧ Rks (q :: r) ∧ kk (.dic (side (q :: r) g m))
theorem ok_side_strategies (T : TX K mg) : Ok P w K mg base 5 (He.ga K "side_strategies") ["game", "group", "target"] (spD K wt_side_strategies) := by
  obtain ⟨fd, F⟩ := T.def_ 53 (d := d_side_strategies)
  have k_Game_rankings := ok_Game_rankings (P := P) (w := w) (base := base) T
  have k_Keeper_init := ok_Keeper_init (P := P) (w := w) (base := base) T
  have k_Striker_init := ok_Striker_init (P := P) (w := w) (base := base) T
  have k_check_group := ok_check_group (P := P) (w := w) (base := base) T
  refine ⟨⟨fd, fnD F sc_side_strategies (fun _ _ _ h => by obtain ⟨q, r, ts, g, m, rfl, hg, hgs, hms, hr1, hk⟩ := h; rfl) (fun cdv A outer s H E hr => ⟨_, (pss_cons (ps_expr (q_call k_check_group hr (T.glo 41) (pa_cons (pv 0) (pa_cons (pv 1) (pa_cons (pv 2) pa_nil))))) (pss_one (ps_ret (pe_unl (pe_dc (own := [("player", 3)]) rfl sc_side_strategies.nd (pi_keys (pe_lk (q_prop k_Game_rankings (pv 0) (T.cls 25) (T.prop 39) hr))) (blkOk_by (own := [("player", 3)]) (N := N_side_strategies) (sc := defScope s_side_strategies) (by decide +kernel)) (fun _ _ _ _ _ => (pg_name (i := 3) sc_side_strategies.nd rfl (by first | exact Or.inl rfl | exact Or.inr rfl))) (fun _ _ _ _ _ => pts_nil) (fun _ _ _ _ _ => (pv 3)) (fun _ _ _ _ _ => (pe_ifExp (pt_cmpR (z_in K) (pv 3) (pv 1) (by rfl)) (q_make k_Striker_init (T.mkr 75) hr (T.glo 76) (pa_cons (pv 2) pa_nil)) (q_make k_Keeper_init (T.mkr 77) hr (T.glo 78) (pa_cons (pv 2) pa_nil))))))))), fun ds kk ke h => ?_⟩), FunD.bindsN F fun _ _ _ _ _ _ us hl => match us, hl with | [_, _, _], _ => rfl⟩, F.kp⟩
  obtain ⟨q, r, ts, g, m, rfl, hg, hgs, hms, hr1, hk⟩ := h
  try dsimp only [cxK]
  walk_at "fw"
  refine ⟨rfl, hg, hgs, hms, ?_⟩
  walk_at "fw"
  refine (df_dcLM [3] D.str (fun s => ((.inr s : Key), sideOf g m s)) (fun a b e => by cases e; rfl) (by decide) (by walk_at "fno") ?_).dt
  walk_at "fw"
  have h30 := hr1.len
  refine ⟨(q :: r).map Prod.fst, by unfold rks; rw [List.map_map, List.map_map]; rfl, szOf (by rw [List.length_map]; omega), fun s hs => ?_, ?_⟩
  · walk_at "fw"
    rw [inV_strs]
    refine ⟨fun h => ?_, fun h => ?_⟩
    · have h' : s ∈ g := of_decide_eq_true h
      walk_at "fw"
      exact ⟨.inr s, rfl, by unfold sideOf; rw [if_pos h']⟩
    · have h' : s ∉ g := of_decide_eq_false h
      walk_at "fw"
      exact ⟨.inr s, rfl, by unfold sideOf; rw [if_neg h']⟩
  · have e : (((q :: r).map Prod.fst).map fun s => ((.inr s : Key), sideOf g m s)) = side (q :: r) g m := by unfold side; rw [List.map_map]; rfl
    rw [e, mergeD_nil (by
      have e2 : (side (q :: r) g m).map Prod.fst = ((q :: r).map Prod.fst).map (Sum.inr : Str → Key) := by unfold side; rw [List.map_map, List.map_map]; rfl
      rw [e2]; exact keys_nodup hr1.nd)]
    exact hk
def wt_can_strike_out : Wt := fun ds kk _ => ∃ (q : Str × List Str) (r : List (Str × List Str)) (ts g m : List Str), ds = [gm (q :: r) ts, sl g, cm m] ∧ g.length ≤ 1000 ∧ (∀ s ∈ g, isName s = true ∧ s ∈ (q :: r).map Prod.fst) ∧ (∀ s ∈ m, isName s = true ∧ s ∈ q.2) ∧
  q.2.length ≤ 30 ∧ (∀ s ∈ q.2, isName s = true) ∧ ts.length ≤ 30 ∧ m.length ≤ 30 ∧ kk (.bl (decide (nl ts g m.length (srt q.2).length = 0)))
theorem ok_can_strike_out (T : TX K mg) : Ok P w K mg base 9 (He.ga K "can_strike_out") ["game", "group", "target"] (spD K wt_can_strike_out) := by
  obtain ⟨fd, F⟩ := T.def_ 54 (d := d_can_strike_out)
  have k_number_left := ok_number_left (P := P) (w := w) (base := base) T
  refine ⟨⟨fd, fnD F sc_can_strike_out (fun _ _ _ h => by obtain ⟨q, r, ts, g, m, rfl, hg, hgs, hms, h30, hs, hts, hm30, hk⟩ := h; rfl) (fun cdv A outer s H E hr => ⟨_, (pss_one (ps_ret (pe_cmpR op_eq (q_call k_number_left hr (T.glo 48) (pa_cons (pv 0) (pa_cons (pv 1) (pa_cons (pv 2) pa_nil)))) pe_int (nomark _)))), fun ds kk ke h => ?_⟩), FunD.bindsN F fun _ _ _ _ _ _ us hl => match us, hl with | [_, _, _], _ => rfl⟩, F.kp⟩
  obtain ⟨q, r, ts, g, m, rfl, hg, hgs, hms, h30, hs, hts, hm30, hk⟩ := h
  try dsimp only [cxK]
  walk_at "fw"
  refine ⟨hg, hgs, hms, h30, hs, hts, hm30, ?_⟩
  walk_at "fw"
  have e : decide ((D.int (nl ts g m.length (srt q.2).length)).v = (D.int 0).v) = decide (nl ts g m.length (srt q.2).length = 0) := by
    rw [Bool.eq_iff_iff, decide_eq_true_eq, decide_eq_true_eq]
    exact ⟨fun h => V.int.inj h, fun h => by rw [h]⟩
  rw [e]
  exact hk
end
end Fw

set_option maxHeartbeats 4000000
/-! Plays. -/
namespace Fw
open PySem PySem.Spec PyProof.Rows L2
local macro_rules | `(tactic| walk_at "fno") => `(tactic| first | (intro o ho; exact absurd ho (List.not_mem_nil)) | (simp; done) | (intro o ho; simp at ho; (try rcases ho with ho | ho) <;> subst ho <;> decide))
local macro_rules | `(tactic| walk_at "fop") => `(tactic| with_reducible first
  | refine dt_op opd_add ?_ | refine dt_op opd_sub ?_ | refine dt_op opd_mul ?_ | refine dt_op opd_fdivN ?_ | refine dt_op opd_mod ?_ | refine dt_op opd_pow ?_
  | refine dt_op opd_lt ?_ | refine dt_op opd_le ?_ | refine dt_op opd_gt ?_ | refine dt_op opd_ge ?_
  | refine dt_op opd_eq ?_ | refine dt_op opd_ne ?_ | refine dt_op opd_in ?_ | refine dt_op opd_in_sign ?_ | refine dt_op opd_add_str ?_ | refine dt_op opd_isN ?_ | refine dt_op opd_notN ?_
  | refine dt_op opd_ixL ?_ | refine dt_op opd_ixT ?_ | refine dt_op opf_cat.op ?_ | refine dt_op opf_rep.op ?_
  | refine dt_op opd_eqD ?_ | refine dt_op opd_neD ?_ | refine dt_op opd_eqDn ?_ | refine dt_op opd_inI ?_ | refine dt_op opd_eqI ?_ | refine dt_op opd_binI ?_ | refine dt_op opd_getI ?_)
local macro_rules | `(tactic| walk_at "fcb") => `(tactic| with_reducible first
  | refine dt_cb cad_lenA ?_ | refine dt_cb cad_lenI ?_ | refine dt_cb cad_isi ?_ | refine dt_cb cad_lenDR ?_ | refine dt_cb cad_max ?_ | refine dt_cb cad_min ?_ | refine dt_cb cad_all ?_ | refine dt_cb cad_any ?_ | refine dt_cb cad_sum ?_ | refine dt_cb cad_max2 ?_ | refine dt_cb cad_min2 ?_ | refine dt_cb cad_int1 ?_
  | refine dt_cb caf_list.ca ?_ | refine dt_cb caf_listD.ca ?_ | refine dt_cb caf_dictD.ca ?_ | refine dt_cb caf_dictP.ca ?_ | refine dt_cb caf_sortedS.ca ?_ | refine dt_cb caf_sortedD.ca ?_)
local macro_rules | `(tactic| walk_at "fex") => `(tactic| first
  | (refine ⟨(rfl : D.non = D.non), ?_⟩) | (refine ⟨_, .lst _, ?_⟩) | (refine ⟨_, .scr _, ?_⟩) | (refine ⟨_, _, _, rfl, rfl, rfl, ?_⟩) | (refine ⟨_, _, rfl, rfl, ?_⟩) | (refine ⟨_, rfl, ?_⟩) | (refine ⟨_, _, rfl, ?_⟩) | (refine ⟨_, _, _, rfl, ?_⟩) | (refine ⟨_, _, _, _, rfl, ?_⟩) | (refine ⟨_, _, _, _, _, rfl, ?_⟩) | (refine ⟨_, _, _, _, _, _, rfl, ?_⟩) | (refine ⟨_, .inl rfl, rfl, flat_strs _, ?_⟩) | (refine ⟨_, .inl rfl, ?_⟩) | (refine ⟨rfl, rfl, rfl, ?_⟩) | (refine ⟨(by simp only [List.length_cons, List.length_nil]; decide : List.length _ ≤ sizeLine), ?_⟩) | (refine ⟨fun _ => ?_, fun h => absurd h (by decide)⟩) | (refine ⟨fun h => absurd h (by decide), fun _ => ?_⟩))
local macro_rules | `(tactic| walk_at "fdi") => `(tactic| with_reducible first
  | refine di_list ?_ | refine di_range1 ?_ | refine di_range2 ?_ | refine di_range3 ?_ | refine di_str ?_ | refine di_items ?_ | refine di_values ?_ | refine di_keys ?_ | refine di_keysM ?_ | refine di_enum ?_)
local macro_rules | `(tactic| walk_at "ffld") => `(tactic| first
  | ((with_reducible refine fld_Committee_own_members ‹_› (dt_var (d := .obj "Committee" ?fs0) ?a1 ?a2)); (case a1 => rfl); refine ⟨_, _, rfl, rfl, ?_⟩)
  | ((with_reducible refine fld_Ranking_order ‹_› (dt_var (d := .obj "Ranking" ?fs0) ?a1 ?a2)); (case a1 => rfl); refine ⟨_, _, rfl, rfl, ?_⟩)
  | ((with_reducible refine fld_Ranking_places ‹_› (dt_var (d := .obj "Ranking" ?fs0) ?a1 ?a2)); (case a1 => rfl); refine ⟨_, _, rfl, rfl, ?_⟩)
  | ((with_reducible refine fld_Turns_order ‹_› (dt_var (d := .obj "Turns" ?fs0) ?a1 ?a2)); (case a1 => rfl); refine ⟨_, _, rfl, rfl, ?_⟩)
  | ((with_reducible refine fld_Game_own_rankings ‹_› (dt_var (d := .obj "Game" ?fs0) ?a1 ?a2)); (case a1 => rfl); refine ⟨_, _, rfl, rfl, ?_⟩)
  | ((with_reducible refine fld_Game_own_turns ‹_› (dt_var (d := .obj "Game" ?fs0) ?a1 ?a2)); (case a1 => rfl); refine ⟨_, _, rfl, rfl, ?_⟩)
  | ((with_reducible refine fld_Striker_own_target ‹_› (dt_var (d := .obj "Striker" ?fs0) ?a1 ?a2)); (case a1 => rfl); refine ⟨_, _, rfl, rfl, ?_⟩)
  | ((with_reducible refine fld_Keeper_own_target ‹_› (dt_var (d := .obj "Keeper" ?fs0) ?a1 ?a2)); (case a1 => rfl); refine ⟨_, _, rfl, rfl, ?_⟩))
local macro_rules | `(tactic| walk_at "fkit") => `(tactic| first
  | refine ⟨_, _, _, _, _, rfl, .str _, .ty _, kit_str_str ‹_›, ?_⟩
  | refine ⟨_, _, _, _, _, rfl, .int _, .ty _, kit_int_int ‹_›, ?_⟩
  | refine ⟨_, _, _, _, _, rfl, .lst _, .ty _, kit_list_list ‹_›, ?_⟩
  | refine ⟨_, _, _, _, _, rfl, .dic _, .ty _, kit_dict_dict ‹_›, ?_⟩
  | refine ⟨_, _, _, _, _, rfl, .obj _ _ (ins_Committee ‹_›), .glo _, kit_Committee_Committee ‹_›, ?_⟩
  | refine ⟨_, _, _, _, _, rfl, .obj _ _ (ins_Ranking ‹_›), .glo _, kit_Ranking_Ranking ‹_›, ?_⟩
  | refine ⟨_, _, _, _, _, rfl, .obj _ _ (ins_Turns ‹_›), .glo _, kit_Turns_Turns ‹_›, ?_⟩
  | refine ⟨_, _, _, _, _, rfl, .obj _ _ (ins_Game ‹_›), .glo _, kit_Game_Game ‹_›, ?_⟩
  | refine ⟨_, _, _, _, _, rfl, .int _, .ty _, kit_int_bool ‹_›, ?_⟩
  | refine ⟨_, _, _, _, _, rfl, .bl _, .ty _, kit_bool_int ‹_›, ?_⟩
  | refine ⟨_, _, _, _, _, rfl, .bl _, .ty _, kit_bool_bool ‹_›, ?_⟩)
local macro_rules | `(tactic| walk_at "fw1") => `(tactic| first
  | ((with_reducible refine dt_var (d := ?d0) ?a1 ?a2); (case a1 => rfl))
  | (with_reducible first
    | refine dt_int ?_ | refine dt_str ?_ | refine dt_bl ?_ | refine dt_non ?_ | refine dt_ty ?_ | refine dt_glo ?_
    | refine da_cons ?_ | refine da_nil ?_ | refine dtt_b ?_ | refine dtt_test ?_ | refine dtt_yes ?_ | refine dtt_not ?_ | refine dtt_and ?_ | refine dtt_or ?_ 
    | refine ds_unlAsg ?_ | refine ds_seq ?_ | refine ds_next ?_ | refine ds_ret ?_ | refine ds_retN ?_
    | refine dt_andV ?_ | refine dt_orV ?_ | refine dt_notV ?_ | refine dt_if ?_ | refine dt_chain opd_le opd_le ?_ | refine dt_chain opd_lt opd_lt ?_
    | refine dt_call0 ?_ | refine dt_prop ?_ | refine dt_make ?_ | refine dt_dget ?_ | refine dt_din ?_ | refine dt_dnotin ?_
    | refine (df_slL ?_).dt | refine do_none ?_ | refine do_some ?_ | refine (df_listVals ?_).dt | refine dt_stm ?_ | refine df_lst ?_ | refine df_cb caf_list ?_ | refine df_cb caf_listD ?_ | refine df_cb caf_dictD ?_ | refine df_cb caf_dictP ?_ | refine df_cb caf_sortedS ?_ | refine df_cb caf_sortedD ?_ | refine df_op opf_cat ?_ | refine df_listVals ?_ | refine df_make ?_ | refine df_slL ?_ | refine df_dnew ?_ | refine dt_lst ?_ | refine dt_tup ?_ | refine (df_dnew ?_).dt)
  | ((with_reducible refine dt_methS 0 (x := ?x0) (fs := ?f0) ?a1 ?a2 ?a3); (case a1 => rfl); (case a2 => rfl)) | (with_reducible refine dt_meth0 ?_)
  | (with_reducible refine dt_un und_neg ?_)
  | ((with_reducible refine dt_inO 0 (ds := ?d0) ?a1 ?a2); (case a1 => rfl)) | ((with_reducible refine dt_lenO 0 (ds := ?d0) ?a1 ?a2); (case a1 => rfl)) | ((with_reducible refine dt_lenO 1 (ds := ?d0) ?a1 ?a2); (case a1 => rfl))
  | ((with_reducible refine dm_popAt 0 (ds := ?d0) ?a1 ?a2); (case a1 => rfl)) | ((with_reducible refine dm_popAt 1 (ds := ?d0) ?a1 ?a2); (case a1 => rfl)) | (with_reducible refine DT.dm ?_) | walk_at "fop" | walk_at "fcb" | walk_at "fdi"
  | ((with_reducible refine ds_asgE ?a1 ?a2 ?a3); (case a1 => walk_at "fno"); (case a2 => simp [startG])) | ((with_reducible refine ds_asg ?a1 ?a2); (case a1 => walk_at "fno")) | ((with_reducible refine ds_asgT ?a1 ?a2 ?a3); (case a1 => walk_at "fno"); (case a2 => walk_at "fno")) | ((with_reducible refine ds_append 0 (ds := ?d0) ?a1 ?a2); (case a1 => rfl)) | ((with_reducible refine ds_append 1 (ds := ?d0) ?a1 ?a2); (case a1 => rfl)) | (with_reducible refine ds_expr ?_) | ((with_reducible refine ds_par ?a1 ?a2 ?a3); (case a1 => walk_at "fno"); (case a2 => walk_at "fno"))
  | ((with_reducible refine dg_tup ?a1 ?a2); (case a1 => rfl)) | (with_reducible refine dgs_cons ?_) | (with_reducible refine dgs_nil ?_) | (with_reducible refine lct ?_) | (with_reducible refine dct ?_)
  | ((with_reducible refine dg_name ?a1 ?a2); (case a1 => walk_at "fno"))
  | walk_at "ffld" | walk_at "fex" | walk_at "fkit")
local macro_rules | `(tactic| walk_at "fw") => `(tactic| repeat (first | walk_at "fw1" | (with_reducible refine ds_if ?_)))
local macro_rules | `(tactic| walk_at "fwn") => `(tactic| repeat walk_at "fw1")

/-! ### plain: what is left -/
def inN (A xs m : List Str) : Nat := (A.filter fun s => decide (s ∉ xs) && decide (s ∈ m)).length
def outN (A xs m : List Str) : Nat := (A.filter fun s => decide (s ∉ xs) && decide (s ∉ m)).length
def leftL (A xs : List Str) : List Str := A.filter fun s => decide (s ∉ xs)
theorem in_out (A xs m : List Str) : inN A xs m + outN A xs m = (leftL A xs).length := by
  unfold inN outN leftL
  induction A with
  | nil => rfl
  | cons a r ih =>
    by_cases h1 : a ∈ xs
    · rw [List.filter_cons_of_neg (by simp [h1]), List.filter_cons_of_neg (by simp [h1]), List.filter_cons_of_neg (by simp [h1])]; exact ih
    · by_cases h2 : a ∈ m
      · rw [List.filter_cons_of_pos (by simp [h1, h2]), List.filter_cons_of_neg (by simp [h1, h2]), List.filter_cons_of_pos (by simp [h1])]
        rw [List.length_cons, List.length_cons]; omega
      · rw [List.filter_cons_of_neg (by simp [h1, h2]), List.filter_cons_of_pos (by simp [h1, h2]), List.filter_cons_of_pos (by simp [h1])]
        rw [List.length_cons, List.length_cons]; omega
/-- one more is taken -/
theorem count_step {A xs : List Str} {x : Str} {p : Str → Bool} (nd : A.Nodup) (hx : x ∈ A) (hn : x ∉ xs) : (A.filter fun s => decide (s ∉ xs ++ [x]) && p s).length + (if p x = true then 1 else 0) = (A.filter fun s => decide (s ∉ xs) && p s).length := by
  induction A with
  | nil => cases hx
  | cons a r ih =>
    have nd2 := List.nodup_cons.mp nd
    by_cases e : a = x
    · subst e
      have er : (r.filter fun s => decide (s ∉ xs ++ [a]) && p s) = r.filter fun s => decide (s ∉ xs) && p s := List.filter_congr fun s hs => by
        have ne : s ≠ a := fun z => nd2.1 (z ▸ hs)
        have : (s ∉ xs ++ [a]) ↔ s ∉ xs := by simp [ne]
        rw [decide_eq_decide.mpr this]
      rw [List.filter_cons_of_neg (by simp), er]
      by_cases hp : p a = true
      · rw [if_pos hp, List.filter_cons_of_pos (by simp [hn, hp]), List.length_cons]
      · rw [if_neg hp, List.filter_cons_of_neg (by simp [hp])]; rfl
    · have hx2 : x ∈ r := (List.mem_cons.mp hx).resolve_left fun z => e z.symm
      have h := ih nd2.2 hx2
      have ea : (a ∉ xs ++ [x]) ↔ a ∉ xs := by simp [e]
      have eb : (decide (a ∉ xs ++ [x]) && p a) = (decide (a ∉ xs) && p a) := by rw [decide_eq_decide.mpr ea]
      by_cases hq : (decide (a ∉ xs) && p a) = true
      · rw [List.filter_cons_of_pos (p := fun s => decide (s ∉ xs ++ [x]) && p s) (eb.trans hq), List.filter_cons_of_pos (p := fun s => decide (s ∉ xs) && p s) hq, List.length_cons, List.length_cons]; omega
      · rw [List.filter_cons_of_neg (p := fun s => decide (s ∉ xs ++ [x]) && p s) (fun z => hq (eb.symm.trans z)), List.filter_cons_of_neg (p := fun s => decide (s ∉ xs) && p s) hq]; exact h
theorem in_step {A xs m : List Str} {x : Str} (nd : A.Nodup) (hx : x ∈ A) (hn : x ∉ xs) : (inN A (xs ++ [x]) m : Int) = (inN A xs m : Int) - (if x ∈ m then 1 else 0) := by
  have h := count_step (p := fun s => decide (s ∈ m)) nd hx hn
  unfold inN
  by_cases q : x ∈ m
  · rw [if_pos (decide_eq_true q)] at h; rw [if_pos q]; omega
  · rw [if_neg (by simpa using q)] at h; rw [if_neg q]; omega
theorem out_step {A xs m : List Str} {x : Str} (nd : A.Nodup) (hx : x ∈ A) (hn : x ∉ xs) : (outN A (xs ++ [x]) m : Int) = (outN A xs m : Int) - (if x ∈ m then 0 else 1) := by
  have h := count_step (p := fun s => decide (s ∉ m)) nd hx hn
  unfold outN
  by_cases q : x ∈ m
  · rw [if_neg (by simpa using q)] at h; rw [if_pos q]; omega
  · rw [if_pos (by simpa using q)] at h; rw [if_neg q]; omega
theorem left_mem {A xs : List Str} {s : Str} : s ∈ leftL A xs ↔ s ∈ A ∧ s ∉ xs := by unfold leftL; rw [List.mem_filter, decide_eq_true_eq]
theorem left_nil (A : List Str) : leftL A [] = A := List.filter_eq_self.mpr (by intro s _; simp)
theorem in_none {A xs m : List Str} (h : ∀ y ∈ leftL A xs, y ∉ m) : inN A xs m = 0 := by
  unfold inN
  rw [List.length_eq_zero_iff, List.filter_eq_nil_iff]
  intro s hs hp
  rw [Bool.and_eq_true, decide_eq_true_eq, decide_eq_true_eq] at hp
  exact h s (left_mem.mpr ⟨hs, hp.1⟩) hp.2
theorem out_none {A xs m : List Str} (h : ∀ y ∈ leftL A xs, y ∈ m) : outN A xs m = 0 := by
  unfold outN
  rw [List.length_eq_zero_iff, List.filter_eq_nil_iff]
  intro s hs hp
  rw [Bool.and_eq_true, decide_eq_true_eq, decide_eq_true_eq] at hp
  exact hp.2 (h s (left_mem.mpr ⟨hs, hp.1⟩))
theorem in_pos {A xs m : List Str} {x : Str} (h : x ∈ leftL A xs) (q : x ∈ m) : 0 < inN A xs m := by
  unfold inN
  refine List.length_pos_of_mem (a := x) (List.mem_filter.mpr ⟨(left_mem.mp h).1, ?_⟩)
  simp [(left_mem.mp h).2, q]
theorem out_pos {A xs m : List Str} {x : Str} (h : x ∈ leftL A xs) (q : x ∉ m) : 0 < outN A xs m := by
  unfold outN
  refine List.length_pos_of_mem (a := x) (List.mem_filter.mpr ⟨(left_mem.mp h).1, ?_⟩)
  simp [(left_mem.mp h).2, q]
/-- a strike of the side that moves keeps the number -/
theorem fv_pick {A xs m g : List Str} {x t : Str} {r : List Str} (nd : A.Nodup) (hl : (t :: r).length ≤ (leftL A xs).length) (hp : if t ∈ g then PickS m (leftL A xs) x else PickK m (leftL A xs) x) :
    fv r g (inN A (xs ++ [x]) m) (outN A (xs ++ [x]) m) = fv (t :: r) g (inN A xs m) (outN A xs m) := by
  have e := in_out A xs m
  have hx : x ∈ leftL A xs := by
    by_cases q : t ∈ g
    · rw [if_pos q] at hp; exact hp.1
    · rw [if_neg q] at hp; exact hp.1
  have hxa := left_mem.mp hx
  rw [in_step nd hxa.1 hxa.2, out_step nd hxa.1 hxa.2]
  by_cases q : x ∈ m
  · rw [if_pos q, if_pos q]
    have h1 := in_pos hx q
    refine (Eq.trans (by rw [Int.sub_zero]) (fv_in (by omega) (by omega) (by omega) ?_).symm)
    by_cases q2 : t ∈ g
    · exact .inl q2
    · rw [if_neg q2] at hp
      exact .inr (by rw [out_none (hp.2.resolve_left fun z => z q)]; rfl)
  · rw [if_neg q, if_neg q]
    have h1 := out_pos hx q
    refine (Eq.trans (by rw [Int.sub_zero]) (fv_out (by omega) (by omega) (by omega) ?_).symm)
    by_cases q2 : t ∈ g
    · rw [if_pos q2] at hp
      exact .inr (by rw [in_none (hp.2.resolve_left q)]; rfl)
    · exact .inl q2
theorem GX.step {rs : List (Str × List Str)} {t : Str} {ts xs : List Str} {x : Str} (gx : GX (cut xs rs) (t :: ts)) (hx : ∀ p ∈ rs, x ∈ p.2) (hn : x ∉ xs) : GX (cut (xs ++ [x]) rs) ts := by
  rw [← cut_cut]
  refine gx.after fun p hp => ?_
  obtain ⟨q, hq, rfl⟩ := cut_mem hp
  exact List.mem_filter.mpr ⟨hx q hq, decide_eq_true hn⟩
theorem GX.steps {rs : List (Str × List Str)} {ts xs : List Str} (gx : GX rs ts) (hl : xs.length = ts.length) (nd : xs.Nodup) (hx : ∀ x ∈ xs, ∀ p ∈ rs, x ∈ p.2) : ∀ i, i ≤ xs.length → GX (cut (xs.take i) rs) (ts.drop i)
  | 0, _ => by rw [List.take_zero, cut_nil, List.drop_zero]; exact gx
  | i + 1, h => by
    have ih := GX.steps gx hl nd hx i (by omega)
    have h1 : i < ts.length := by omega
    have h2 : i < xs.length := by omega
    rw [List.drop_eq_getElem_cons h1] at ih
    rw [List.take_succ, List.getElem?_eq_getElem h2]
    refine ih.step (hx _ (List.getElem_mem h2)) fun z => ?_
    obtain ⟨j, hj, e⟩ := List.mem_take_iff_getElem.mp z
    have := (List.getElem_inj nd).mp e
    omega
theorem cut_left {xs : List Str} {q : Str × List Str} {r : List (Str × List Str)} : cut xs (q :: r) = (q.1, leftL q.2 xs) :: cut xs r := rfl
theorem side_keys (rs : List (Str × List Str)) (g m : List Str) : (side rs g m).map Prod.fst = (rs.map Prod.fst).map (Sum.inr : Str → Key) := by unfold side; rw [List.map_map, List.map_map]; rfl
theorem side_get {rs : List (Str × List Str)} {g m : List Str} {t : Str} (nd : (rs.map Prod.fst).Nodup) (h : t ∈ rs.map Prod.fst) : getD (side rs g m) (.inr t) = some (sideOf g m t) := by
  obtain ⟨p, hp, rfl⟩ := List.mem_map.mp h
  refine getD_some (by rw [side_keys]; exact keys_nodup nd) ?_
  exact List.mem_map.mpr ⟨p, hp, rfl⟩
/-- a whole play -/
structure Play (rs : List (Str × List Str)) (A ts g m xs : List Str) : Prop where
  len : xs.length = ts.length
  nd : xs.Nodup
  sub : ∀ x ∈ xs, x ∈ A
  left : (inN A xs m : Int) = fv ts g (inN A [] m) (outN A [] m)
section
variable {P : Program} {w : World} {K : PySem.W.Frag} {mg : Str → Option Value} {base : Heap}
end
end Fw

set_option maxHeartbeats 4000000
/-! Plays. -/
namespace Fw
open PySem PySem.Spec PyProof.Rows L2
local macro_rules | `(tactic| walk_at "fno") => `(tactic| first | (intro o ho; exact absurd ho (List.not_mem_nil)) | (simp; done) | (intro o ho; simp at ho; (try rcases ho with ho | ho) <;> subst ho <;> decide))
local macro_rules | `(tactic| walk_at "fop") => `(tactic| with_reducible first
  | refine dt_op opd_add ?_ | refine dt_op opd_sub ?_ | refine dt_op opd_mul ?_ | refine dt_op opd_fdivN ?_ | refine dt_op opd_mod ?_ | refine dt_op opd_pow ?_
  | refine dt_op opd_lt ?_ | refine dt_op opd_le ?_ | refine dt_op opd_gt ?_ | refine dt_op opd_ge ?_
  | refine dt_op opd_eq ?_ | refine dt_op opd_ne ?_ | refine dt_op opd_in ?_ | refine dt_op opd_in_sign ?_ | refine dt_op opd_add_str ?_ | refine dt_op opd_isN ?_ | refine dt_op opd_notN ?_
  | refine dt_op opd_ixL ?_ | refine dt_op opd_ixT ?_ | refine dt_op opf_cat.op ?_ | refine dt_op opf_rep.op ?_
  | refine dt_op opd_eqD ?_ | refine dt_op opd_neD ?_ | refine dt_op opd_eqDn ?_ | refine dt_op opd_inI ?_ | refine dt_op opd_eqI ?_ | refine dt_op opd_binI ?_ | refine dt_op opd_getI ?_)
local macro_rules | `(tactic| walk_at "fcb") => `(tactic| with_reducible first
  | refine dt_cb cad_lenA ?_ | refine dt_cb cad_lenI ?_ | refine dt_cb cad_isi ?_ | refine dt_cb cad_lenDR ?_ | refine dt_cb cad_max ?_ | refine dt_cb cad_min ?_ | refine dt_cb cad_all ?_ | refine dt_cb cad_any ?_ | refine dt_cb cad_sum ?_ | refine dt_cb cad_max2 ?_ | refine dt_cb cad_min2 ?_ | refine dt_cb cad_int1 ?_
  | refine dt_cb caf_list.ca ?_ | refine dt_cb caf_listD.ca ?_ | refine dt_cb caf_dictD.ca ?_ | refine dt_cb caf_dictP.ca ?_ | refine dt_cb caf_sortedS.ca ?_ | refine dt_cb caf_sortedD.ca ?_)
local macro_rules | `(tactic| walk_at "fex") => `(tactic| first
  | (refine ⟨(rfl : D.non = D.non), ?_⟩) | (refine ⟨_, .lst _, ?_⟩) | (refine ⟨_, .scr _, ?_⟩) | (refine ⟨_, _, _, rfl, rfl, rfl, ?_⟩) | (refine ⟨_, _, rfl, rfl, ?_⟩) | (refine ⟨_, rfl, ?_⟩) | (refine ⟨_, _, rfl, ?_⟩) | (refine ⟨_, _, _, rfl, ?_⟩) | (refine ⟨_, _, _, _, rfl, ?_⟩) | (refine ⟨_, _, _, _, _, rfl, ?_⟩) | (refine ⟨_, _, _, _, _, _, rfl, ?_⟩) | (refine ⟨_, .inl rfl, rfl, flat_strs _, ?_⟩) | (refine ⟨_, .inl rfl, ?_⟩) | (refine ⟨rfl, rfl, rfl, ?_⟩) | (refine ⟨(by simp only [List.length_cons, List.length_nil]; decide : List.length _ ≤ sizeLine), ?_⟩) | (refine ⟨fun _ => ?_, fun h => absurd h (by decide)⟩) | (refine ⟨fun h => absurd h (by decide), fun _ => ?_⟩))
local macro_rules | `(tactic| walk_at "fdi") => `(tactic| with_reducible first
  | refine di_list ?_ | refine di_range1 ?_ | refine di_range2 ?_ | refine di_range3 ?_ | refine di_str ?_ | refine di_items ?_ | refine di_values ?_ | refine di_keys ?_ | refine di_keysM ?_ | refine di_enum ?_)
local macro_rules | `(tactic| walk_at "ffld") => `(tactic| first
  | ((with_reducible refine fld_Committee_own_members ‹_› (dt_var (d := .obj "Committee" ?fs0) ?a1 ?a2)); (case a1 => rfl); refine ⟨_, _, rfl, rfl, ?_⟩)
  | ((with_reducible refine fld_Ranking_order ‹_› (dt_var (d := .obj "Ranking" ?fs0) ?a1 ?a2)); (case a1 => rfl); refine ⟨_, _, rfl, rfl, ?_⟩)
  | ((with_reducible refine fld_Ranking_places ‹_› (dt_var (d := .obj "Ranking" ?fs0) ?a1 ?a2)); (case a1 => rfl); refine ⟨_, _, rfl, rfl, ?_⟩)
  | ((with_reducible refine fld_Turns_order ‹_› (dt_var (d := .obj "Turns" ?fs0) ?a1 ?a2)); (case a1 => rfl); refine ⟨_, _, rfl, rfl, ?_⟩)
  | ((with_reducible refine fld_Game_own_rankings ‹_› (dt_var (d := .obj "Game" ?fs0) ?a1 ?a2)); (case a1 => rfl); refine ⟨_, _, rfl, rfl, ?_⟩)
  | ((with_reducible refine fld_Game_own_turns ‹_› (dt_var (d := .obj "Game" ?fs0) ?a1 ?a2)); (case a1 => rfl); refine ⟨_, _, rfl, rfl, ?_⟩)
  | ((with_reducible refine fld_Striker_own_target ‹_› (dt_var (d := .obj "Striker" ?fs0) ?a1 ?a2)); (case a1 => rfl); refine ⟨_, _, rfl, rfl, ?_⟩)
  | ((with_reducible refine fld_Keeper_own_target ‹_› (dt_var (d := .obj "Keeper" ?fs0) ?a1 ?a2)); (case a1 => rfl); refine ⟨_, _, rfl, rfl, ?_⟩))
local macro_rules | `(tactic| walk_at "fkit") => `(tactic| first
  | refine ⟨_, _, _, _, _, rfl, .str _, .ty _, kit_str_str ‹_›, ?_⟩
  | refine ⟨_, _, _, _, _, rfl, .int _, .ty _, kit_int_int ‹_›, ?_⟩
  | refine ⟨_, _, _, _, _, rfl, .lst _, .ty _, kit_list_list ‹_›, ?_⟩
  | refine ⟨_, _, _, _, _, rfl, .dic _, .ty _, kit_dict_dict ‹_›, ?_⟩
  | refine ⟨_, _, _, _, _, rfl, .obj _ _ (ins_Committee ‹_›), .glo _, kit_Committee_Committee ‹_›, ?_⟩
  | refine ⟨_, _, _, _, _, rfl, .obj _ _ (ins_Ranking ‹_›), .glo _, kit_Ranking_Ranking ‹_›, ?_⟩
  | refine ⟨_, _, _, _, _, rfl, .obj _ _ (ins_Turns ‹_›), .glo _, kit_Turns_Turns ‹_›, ?_⟩
  | refine ⟨_, _, _, _, _, rfl, .obj _ _ (ins_Game ‹_›), .glo _, kit_Game_Game ‹_›, ?_⟩
  | refine ⟨_, _, _, _, _, rfl, .int _, .ty _, kit_int_bool ‹_›, ?_⟩
  | refine ⟨_, _, _, _, _, rfl, .bl _, .ty _, kit_bool_int ‹_›, ?_⟩
  | refine ⟨_, _, _, _, _, rfl, .bl _, .ty _, kit_bool_bool ‹_›, ?_⟩)
local macro_rules | `(tactic| walk_at "fw1") => `(tactic| first
  | ((with_reducible refine dt_var (d := ?d0) ?a1 ?a2); (case a1 => rfl))
  | (with_reducible first
    | refine dt_int ?_ | refine dt_str ?_ | refine dt_bl ?_ | refine dt_non ?_ | refine dt_ty ?_ | refine dt_glo ?_
    | refine da_cons ?_ | refine da_nil ?_ | refine dtt_b ?_ | refine dtt_test ?_ | refine dtt_yes ?_ | refine dtt_not ?_ | refine dtt_and ?_ | refine dtt_or ?_ 
    | refine ds_unlAsg ?_ | refine ds_seq ?_ | refine ds_next ?_ | refine ds_ret ?_ | refine ds_retN ?_
    | refine dt_andV ?_ | refine dt_orV ?_ | refine dt_notV ?_ | refine dt_if ?_ | refine dt_chain opd_le opd_le ?_ | refine dt_chain opd_lt opd_lt ?_
    | refine dt_call0 ?_ | refine dt_prop ?_ | refine dt_make ?_ | refine dt_dget ?_ | refine dt_din ?_ | refine dt_dnotin ?_
    | refine (df_slL ?_).dt | refine do_none ?_ | refine do_some ?_ | refine (df_listVals ?_).dt | refine dt_stm ?_ | refine df_lst ?_ | refine df_cb caf_list ?_ | refine df_cb caf_listD ?_ | refine df_cb caf_dictD ?_ | refine df_cb caf_dictP ?_ | refine df_cb caf_sortedS ?_ | refine df_cb caf_sortedD ?_ | refine df_op opf_cat ?_ | refine df_listVals ?_ | refine df_make ?_ | refine df_slL ?_ | refine df_dnew ?_ | refine dt_lst ?_ | refine dt_tup ?_ | refine (df_dnew ?_).dt)
  | ((with_reducible refine dt_methS 0 (x := ?x0) (fs := ?f0) ?a1 ?a2 ?a3); (case a1 => rfl); (case a2 => rfl)) | (with_reducible refine dt_meth0 ?_)
  | (with_reducible refine dt_un und_neg ?_)
  | ((with_reducible refine dt_inO 0 (ds := ?d0) ?a1 ?a2); (case a1 => rfl)) | ((with_reducible refine dt_lenO 0 (ds := ?d0) ?a1 ?a2); (case a1 => rfl)) | ((with_reducible refine dt_lenO 1 (ds := ?d0) ?a1 ?a2); (case a1 => rfl))
  | ((with_reducible refine dm_popAt 0 (ds := ?d0) ?a1 ?a2); (case a1 => rfl)) | ((with_reducible refine dm_popAt 1 (ds := ?d0) ?a1 ?a2); (case a1 => rfl)) | (with_reducible refine DT.dm ?_) | walk_at "fop" | walk_at "fcb" | walk_at "fdi"
  | ((with_reducible refine ds_asgE ?a1 ?a2 ?a3); (case a1 => walk_at "fno"); (case a2 => simp [startG])) | ((with_reducible refine ds_asg ?a1 ?a2); (case a1 => walk_at "fno")) | ((with_reducible refine ds_asgT ?a1 ?a2 ?a3); (case a1 => walk_at "fno"); (case a2 => walk_at "fno")) | ((with_reducible refine ds_append 0 (ds := ?d0) ?a1 ?a2); (case a1 => rfl)) | ((with_reducible refine ds_append 1 (ds := ?d0) ?a1 ?a2); (case a1 => rfl)) | (with_reducible refine ds_expr ?_) | ((with_reducible refine ds_par ?a1 ?a2 ?a3); (case a1 => walk_at "fno"); (case a2 => walk_at "fno"))
  | ((with_reducible refine dg_tup ?a1 ?a2); (case a1 => rfl)) | (with_reducible refine dgs_cons ?_) | (with_reducible refine dgs_nil ?_) | (with_reducible refine lct ?_) | (with_reducible refine dct ?_)
  | ((with_reducible refine dg_name ?a1 ?a2); (case a1 => walk_at "fno"))
  | walk_at "ffld" | walk_at "fex" | walk_at "fkit")
local macro_rules | `(tactic| walk_at "fw") => `(tactic| repeat (first | walk_at "fw1" | (with_reducible refine ds_if ?_)))
local macro_rules | `(tactic| walk_at "fwn") => `(tactic| repeat walk_at "fw1")

section
variable {P : Program} {w : World} {K : PySem.W.Frag} {mg : Str → Option Value} {base : Heap}
def wt_run : Wt := fun ds kk _ => ∃ (q : Str × List Str) (r : List (Str × List Str)) (ts g m : List Str), ds = [gm (q :: r) ts, .dic (side (q :: r) g m)] ∧ GX (q :: r) ts ∧ ∀ xs, Play (q :: r) q.2 ts g m xs → kk (sl xs)
theorem ok_run (T : TX K mg) : Ok P w K mg base 11 (He.ga K "run") ["game", "strategies"] (spD K wt_run) := by
  obtain ⟨fd, F⟩ := T.def_ 55 (d := d_run)
  have k_Committee_contains := ok_Committee_contains (P := P) (w := w) (base := base) T
  have k_Game_after := ok_Game_after (P := P) (w := w) (base := base) T
  have k_Game_alternatives := ok_Game_alternatives (P := P) (w := w) (base := base) T
  have k_Game_mover := ok_Game_mover (P := P) (w := w) (base := base) T
  have k_Game_turns := ok_Game_turns (P := P) (w := w) (base := base) T
  have k_Strategy_call_at_Keeper := ok_Strategy_call_at_Keeper (P := P) (w := w) (base := base) T
  have k_Strategy_call_at_Striker := ok_Strategy_call_at_Striker (P := P) (w := w) (base := base) T
  have k_Turns_len := ok_Turns_len (P := P) (w := w) (base := base) T
  have k_Turns_counts := ok_Turns_counts (P := P) (w := w) (base := base) T
  have k_is_name := ok_is_name (P := P) (w := w) (base := base) T
  refine ⟨⟨fd, fnD F sc_run (fun _ _ _ h => by obtain ⟨q, r, ts, g, m, rfl, gx, hk⟩ := h; rfl) (fun cdv A outer s H E hr => ⟨_, (pss_cons (ps_unl (ps_for (passes_of rfl) rfl (pi_keys (pe_lk (q_meth0 k_Turns_counts (q_prop k_Game_turns (pv 0) (T.cls 25) (T.prop 42) hr) (T.cls 23) (T.meth 79) hr))) (pg_name (i := 2) sc_run.nd rfl (by first | exact Or.inl rfl | exact Or.inr rfl)) (pss_one (ps_if (pt_cmp (q_dnotin hr (pv 2) (pv 1)) rfl) (pss_one ps_never) pss_nil)))) (pss_cons (ps_set (i := 3) sc_run.nd rfl (by first | exact Or.inl rfl | exact Or.inr rfl) (pe_lst pa_nil)) (pss_cons (ps_while (passes_of rfl) (pt_cmpR op_gt (q_len k_Turns_len (T.meth 32) hr (T.free 2) (pa_cons (q_prop k_Game_turns (pv 0) (T.cls 25) (T.prop 42) hr) pa_nil)) pe_int (nomark _)) (pss_cons (ps_set (i := 4) sc_run.nd rfl (by first | exact Or.inl rfl | exact Or.inr rfl) (q_call2 (q_dget hr (pv 1) (q_prop k_Game_mover (pv 0) (T.cls 25) (T.prop 80) hr) (fun _ _ => rfl)) (T.callo 81) (T.callo 82) k_Strategy_call_at_Striker k_Strategy_call_at_Keeper hr (pa_cons (pv 0) pa_nil))) (pss_cons (ps_if (PW.pt (pw_or (pt_not (pt_val (q_call k_is_name hr (T.glo 5) (pa_cons (pv 4) pa_nil)))) (pw_or1 (pt_cmpR (q_notin k_Committee_contains (T.meth 83) hr) (pv 4) (q_prop k_Game_alternatives (pv 0) (T.cls 25) (T.prop 43) hr) (by rfl))))) (pss_one ps_never) pss_nil) (pss_cons (ps_expr (pe_bm PySem.F.plainAttrs_list PySem.F.slot_list_append PySem.F.type_list_append mt_append (pv 3) (pa_cons (pv 4) pa_nil))) (pss_one (ps_set (i := 0) sc_run.nd rfl (by first | exact Or.inl rfl | exact Or.inr rfl) (q_meth k_Game_after (pv 0) (T.cls 25) (T.meth 84) hr (pa_cons (pv 4) pa_nil)))))))) (pss_one (ps_ret (pv 3)))))), fun ds kk ke h => ?_⟩), FunD.bindsN F fun _ _ _ _ _ _ us hl => match us, hl with | [_, _], _ => rfl⟩, F.kp⟩
  obtain ⟨q, r, ts, g, m, rfl, gx, hk⟩ := h
  try dsimp only [cxK]
  refine DS.f0 ?_
  have h30 := gx.tl
  walk_at "fw"
  refine ds_forL [2] (fun _ _ G' O' => O' = [] ∧ ∃ g2, G' = [some (gm (q :: r) ts), some (.dic (side (q :: r) g m)), g2, none, none]) (fun _ z => z) ?_
  walk_at "fw"
  refine ⟨rfl, ?_⟩
  walk_at "fw"
  refine ⟨h30, ?_⟩
  walk_at "fw"
  refine ⟨⟨rfl, _, rfl⟩, fun i x G' O' hi hP => ?_, fun G' O' hP => ?_⟩
  · obtain ⟨rfl, g2, rfl⟩ := hP
    rw [List.map_map] at hi
    obtain ⟨s, hs, rfl⟩ := get_strs (ss := srt ts) hi
    walk_at "fw"
    refine ⟨_, .inr s, rfl, rfl, ?_⟩
    have hk2 : (getD (side (q :: r) g m) (.inr s)).isSome = true := by
      rw [getD_is, side_keys, key_mem]
      exact gx.tk s (srt_mem.mp hs)
    rw [hk2]
    walk_at "fw"
    exact ⟨rfl, _, rfl⟩
  · obtain ⟨rfl, g2, rfl⟩ := hP
    walk_at "fw"
    refine ds_while (fun G' O' => ∃ (xs : List Str) (g2 g4 : Option D), xs.length ≤ ts.length ∧ xs.Nodup ∧ (∀ x ∈ xs, x ∈ q.2) ∧ fv (ts.drop xs.length) g (inN q.2 xs m) (outN q.2 xs m) = fv ts g (inN q.2 [] m) (outN q.2 [] m) ∧ GX (cut xs (q :: r)) (ts.drop xs.length) ∧
      G' = [some (gm (cut xs (q :: r)) (ts.drop xs.length)), some (.dic (side (q :: r) g m)), g2, none, g4] ∧ O' = [(3, .lst (xs.map D.str))]) (fun _ O' => match O' with
      | [(_, .lst l)] => ts.length - l.length
      | _ => 0) ⟨[], _, _, Nat.zero_le _, .nil, (fun x h => by cases h), rfl, by rw [cut_nil]; exact gx, by rw [cut_nil]; rfl, rfl⟩ ?_
    rintro G' O' ⟨xs, g2, g4, x1, x2, x3, x4, x5, rfl, rfl⟩
    have hdl : (ts.drop xs.length).length = ts.length - xs.length := List.length_drop
    walk_at "fw"
    refine ⟨⟨by omega, by omega⟩, ?_⟩
    walk_at "fw"
    refine ⟨fun h => ?_, fun h => ?_⟩
    · have h0 := of_decide_eq_true h
      have hit : xs.length < ts.length := by omega
      have ed := List.drop_eq_getElem_cons hit
      generalize ts[xs.length] = t at ed
      rw [ed] at x4 x5 ⊢
      have hln := x5.ln _ (List.mem_cons_self (a := (q.1, leftL q.2 xs)) (l := cut xs r))
      have hne : leftL q.2 xs ≠ [] := fun z => by rw [z] at hln; cases hln
      have hle : (leftL q.2 xs).length ≤ 30 := x5.rk.le _ (List.mem_cons_self (a := (q.1, leftL q.2 xs)) (l := cut xs r))
      have hnm : ∀ s ∈ leftL q.2 xs, isName s = true := x5.rk.names _ (List.mem_cons_self (a := (q.1, leftL q.2 xs)) (l := cut xs r))
      have htl := x5.tl
      rw [List.length_cons] at htl
      have htk : t ∈ (q :: r).map Prod.fst := by have := x5.tk t List.mem_cons_self; rw [cut_keys] at this; exact this
      walk_at "fw"
      refine DT.imp (k := fun d => ∃ x, d = .str x ∧ (if t ∈ g then PickS m (leftL q.2 xs) x else PickK m (leftL q.2 xs) x)) ?_ ?_
      · refine dt_call2 ?_
        walk_at "fw"
        refine ⟨by rw [List.length_cons]; omega, .inr ⟨_, _, rfl, ?_⟩⟩
        walk_at "fw"
        refine ⟨_, .inr t, sideOf g m t, rfl, rfl, side_get gx.rk.nd htk, ?_⟩
        unfold sideOf
        by_cases hg : t ∈ g
        · simp only [if_pos hg]
          refine .inl ⟨_, rfl, ?_⟩
          walk_at "fw"
          exact ⟨by omega, hle, hnm, hne, fun x hx => ⟨x, rfl, hx⟩⟩
        · simp only [if_neg hg]
          refine .inr ⟨_, rfl, ?_⟩
          walk_at "fw"
          exact ⟨by omega, hle, hnm, hne, fun x hx => ⟨x, rfl, hx⟩⟩
      · rintro d ⟨x, rfl, hx⟩
        have hxl : x ∈ leftL q.2 xs := by
          by_cases hg : t ∈ g
          · rw [if_pos hg] at hx; exact hx.1
          · rw [if_neg hg] at hx; exact hx.1
        have hxn := hnm x hxl
        have hx2 := left_mem.mp hxl
        walk_at "fw"
        refine ⟨Nat.le_trans (isName_len hxn) (by decide), ?_⟩
        rw [hxn]
        walk_at "fw"
        refine ⟨rfl, hle, hnm, ?_⟩
        walk_at "fw"
        refine ⟨Nat.le_trans (isName_len hxn) (by decide), ?_⟩
        have hs : decide (x ∈ srt (((fun p : Str × List Str => (p.1, List.filter (fun s => decide (s ∉ xs)) p.2)) q).2)) = true := decide_eq_true (srt_mem.mpr hxl)
        rw [hxn, hs]
        walk_at "fw"
        refine ⟨szOf (by rw [List.length_map]; omega), ?_⟩
        walk_at "fw"
        refine ⟨rfl, ?_⟩
        walk_at "fw"
        have hall : ∀ p ∈ q :: r, x ∈ p.2 := fun p hp => (gx.mem List.mem_cons_self hp).mp hx2.1
        refine ⟨x5, fun p hp => ?_, ?_⟩
        · obtain ⟨p', hp', rfl⟩ := cut_mem hp
          exact List.mem_filter.mpr ⟨hall p' hp', decide_eq_true hx2.2⟩
        · have el : (xs ++ [x]).length = xs.length + 1 := by rw [List.length_append, List.length_singleton]
          refine ⟨⟨xs ++ [x], g2, _, by omega, List.nodup_append.mpr ⟨x2, by simp, fun a ha b hb => by rw [List.mem_singleton.mp hb]; exact fun z => hx2.2 (z ▸ ha)⟩, fun y hy => ?_, ?_, ?_, by rw [cut_cut, el]; rfl, by rw [List.map_append]; rfl⟩, ?_⟩
          · rcases List.mem_append.mp hy with z | z
            · exact x3 y z
            · rw [List.mem_singleton.mp z]; exact hx2.1
          · rw [el, ← x4]
            exact fv_pick (gx.nds q List.mem_cons_self) hln hx
          · rw [el]
            exact x5.step hall hx2.2
          · show ts.length - (xs.map D.str ++ [D.str x]).length < ts.length - (xs.map D.str).length
            rw [List.length_append, List.length_map, List.length_singleton]; omega
    · have h0 := of_decide_eq_false h
      have hz : ts.drop xs.length = [] := List.length_eq_zero_iff.mp (by omega)
      refine ds_freeze 0 (i := 3) (o := .lst (xs.map D.str)) rfl (by exact (by decide : 3 < 5)) ?_
      walk_at "fw"
      refine hk xs ⟨by omega, x2, x3, ?_⟩
      rw [← x4, hz, fv_nil (by omega) (by omega)]
def wt_result_of : Wt := fun ds kk _ => ∃ (q : Str × List Str) (r : List (Str × List Str)) (ts g m : List Str), ds = [gm (q :: r) ts, .dic (side (q :: r) g m)] ∧ GX (q :: r) ts ∧ ∀ xs, Play (q :: r) q.2 ts g m xs → kk (cm (srt (leftL q.2 xs)))
theorem ok_result_of (T : TX K mg) : Ok P w K mg base 12 (He.ga K "result_of") ["game", "strategies"] (spD K wt_result_of) := by
  obtain ⟨fd, F⟩ := T.def_ 56 (d := d_result_of)
  have k_Game_after := ok_Game_after (P := P) (w := w) (base := base) T
  have k_Game_alternatives := ok_Game_alternatives (P := P) (w := w) (base := base) T
  have k_run := ok_run (P := P) (w := w) (base := base) T
  refine ⟨⟨fd, fnD F sc_result_of (fun _ _ _ h => by obtain ⟨q, r, ts, g, m, rfl, gx, hk⟩ := h; rfl) (fun cdv A outer s H E hr => ⟨_, (pss_cons (ps_for (passes_of rfl) rfl (z_plist K (q_call k_run hr (T.glo 85) (pa_cons (pv 0) (pa_cons (pv 1) pa_nil)))) (pg_name (i := 2) sc_result_of.nd rfl (by first | exact Or.inl rfl | exact Or.inr rfl)) (pss_one (ps_set (i := 0) sc_result_of.nd rfl (by first | exact Or.inl rfl | exact Or.inr rfl) (q_meth k_Game_after (pv 0) (T.cls 25) (T.meth 84) hr (pa_cons (pv 2) pa_nil))))) (pss_one (ps_ret (q_prop k_Game_alternatives (pv 0) (T.cls 25) (T.prop 43) hr)))), fun ds kk ke h => ?_⟩), FunD.bindsN F fun _ _ _ _ _ _ us hl => match us, hl with | [_, _], _ => rfl⟩, F.kp⟩
  obtain ⟨q, r, ts, g, m, rfl, gx, hk⟩ := h
  try dsimp only [cxK]
  walk_at "fw"
  refine ds_for [2] (fun ys i G' O' => O' = [] ∧ ∃ xs g2, ys = xs.map D.str ∧ Play (q :: r) q.2 ts g m xs ∧ G' = [some (gm (cut (xs.take i) (q :: r)) (ts.drop i)), some (.dic (side (q :: r) g m)), g2]) ?_
  walk_at "fw"
  refine ⟨gx, fun xs px => ?_⟩
  have hA : ∀ x ∈ xs, ∀ p ∈ q :: r, x ∈ p.2 := fun x hx p hp => (gx.mem List.mem_cons_self hp).mp (px.sub x hx)
  have stp := gx.steps px.len px.nd hA
  walk_at "fw"
  refine ⟨⟨rfl, xs, _, rfl, px, by rw [List.take_zero, cut_nil, List.drop_zero]; rfl⟩, fun i x G' O' hi hP => ?_, fun G' O' hP => ?_⟩
  · obtain ⟨rfl, xs', g2, e1, px', rfl⟩ := hP
    have e2 := sl_inj e1
    subst e2
    obtain ⟨x, hx, rfl⟩ := get_strs2 hi
    have hil := (List.getElem?_eq_some_iff.mp hx).1
    have hit : i < ts.length := by have := px.len; omega
    have gi := stp i (by omega)
    have gj := stp (i + 1) (by omega)
    rw [List.drop_eq_getElem_cons hit] at gi ⊢
    have en : xs.take (i + 1) = xs.take i ++ [x] := by rw [List.take_succ, hx]; rfl
    walk_at "fw"
    refine ⟨rfl, ?_⟩
    walk_at "fw"
    refine ⟨gi, fun p hp => ?_, ?_⟩
    · obtain ⟨p', hp', rfl⟩ := cut_mem hp
      refine List.mem_filter.mpr ⟨hA x (List.mem_of_getElem? hx) p' hp', decide_eq_true fun z => ?_⟩
      obtain ⟨j, hj, e⟩ := List.mem_take_iff_getElem.mp z
      obtain ⟨h1, h2⟩ := List.getElem?_eq_some_iff.mp hx
      have := (List.getElem_inj px.nd).mp (e.trans h2.symm)
      omega
    · rw [cut_cut, ← en]
      exact ⟨rfl, xs, _, rfl, px, rfl⟩
  · obtain ⟨rfl, xs', g2, e1, px', rfl⟩ := hP
    have e2 := sl_inj e1
    subst e2
    rw [List.length_map, List.take_length]
    have gi := stp xs.length (Nat.le_refl _)
    rw [List.take_length] at gi
    walk_at "fw"
    exact ⟨rfl, gi.rk.le _ List.mem_cons_self, gi.rk.names _ List.mem_cons_self, hk xs px⟩
end
end Fw

set_option maxHeartbeats 4000000
/-! The law of large games. -/
namespace Fw
open PySem PySem.Spec PyProof.Rows L2
local macro_rules | `(tactic| walk_at "fno") => `(tactic| first | (intro o ho; exact absurd ho (List.not_mem_nil)) | (simp; done) | (intro o ho; simp at ho; (try rcases ho with ho | ho) <;> subst ho <;> decide))
local macro_rules | `(tactic| walk_at "fop") => `(tactic| with_reducible first
  | refine dt_op opd_add ?_ | refine dt_op opd_sub ?_ | refine dt_op opd_mul ?_ | refine dt_op opd_fdivN ?_ | refine dt_op opd_mod ?_ | refine dt_op opd_pow ?_
  | refine dt_op opd_lt ?_ | refine dt_op opd_le ?_ | refine dt_op opd_gt ?_ | refine dt_op opd_ge ?_
  | refine dt_op opd_eq ?_ | refine dt_op opd_ne ?_ | refine dt_op opd_in ?_ | refine dt_op opd_in_sign ?_ | refine dt_op opd_add_str ?_ | refine dt_op opd_isN ?_ | refine dt_op opd_notN ?_
  | refine dt_op opd_ixL ?_ | refine dt_op opd_ixT ?_ | refine dt_op opf_cat.op ?_ | refine dt_op opf_rep.op ?_
  | refine dt_op opd_eqD ?_ | refine dt_op opd_neD ?_ | refine dt_op opd_eqDn ?_ | refine dt_op opd_inI ?_ | refine dt_op opd_eqI ?_ | refine dt_op opd_binI ?_ | refine dt_op opd_getI ?_)
local macro_rules | `(tactic| walk_at "fcb") => `(tactic| with_reducible first
  | refine dt_cb cad_lenA ?_ | refine dt_cb cad_lenI ?_ | refine dt_cb cad_isi ?_ | refine dt_cb cad_lenDR ?_ | refine dt_cb cad_max ?_ | refine dt_cb cad_min ?_ | refine dt_cb cad_all ?_ | refine dt_cb cad_any ?_ | refine dt_cb cad_sum ?_ | refine dt_cb cad_max2 ?_ | refine dt_cb cad_min2 ?_ | refine dt_cb cad_int1 ?_
  | refine dt_cb caf_list.ca ?_ | refine dt_cb caf_listD.ca ?_ | refine dt_cb caf_dictD.ca ?_ | refine dt_cb caf_dictP.ca ?_ | refine dt_cb caf_sortedS.ca ?_ | refine dt_cb caf_sortedD.ca ?_)
local macro_rules | `(tactic| walk_at "fex") => `(tactic| first
  | (refine ⟨(rfl : D.non = D.non), ?_⟩) | (refine ⟨_, .lst _, ?_⟩) | (refine ⟨_, .scr _, ?_⟩) | (refine ⟨_, _, _, rfl, rfl, rfl, ?_⟩) | (refine ⟨_, _, rfl, rfl, ?_⟩) | (refine ⟨_, rfl, ?_⟩) | (refine ⟨_, _, rfl, ?_⟩) | (refine ⟨_, _, _, rfl, ?_⟩) | (refine ⟨_, _, _, _, rfl, ?_⟩) | (refine ⟨_, _, _, _, _, rfl, ?_⟩) | (refine ⟨_, _, _, _, _, _, rfl, ?_⟩) | (refine ⟨_, .inl rfl, rfl, flat_strs _, ?_⟩) | (refine ⟨_, .inl rfl, ?_⟩) | (refine ⟨rfl, rfl, rfl, ?_⟩) | (refine ⟨(by simp only [List.length_cons, List.length_nil]; decide : List.length _ ≤ sizeLine), ?_⟩) | (refine ⟨fun _ => ?_, fun h => absurd h (by decide)⟩) | (refine ⟨fun h => absurd h (by decide), fun _ => ?_⟩))
local macro_rules | `(tactic| walk_at "fdi") => `(tactic| with_reducible first
  | refine di_list ?_ | refine di_range1 ?_ | refine di_range2 ?_ | refine di_range3 ?_ | refine di_str ?_ | refine di_items ?_ | refine di_values ?_ | refine di_keys ?_ | refine di_keysM ?_ | refine di_enum ?_)
local macro_rules | `(tactic| walk_at "ffld") => `(tactic| first
  | ((with_reducible refine fld_Committee_own_members ‹_› (dt_var (d := .obj "Committee" ?fs0) ?a1 ?a2)); (case a1 => rfl); refine ⟨_, _, rfl, rfl, ?_⟩)
  | ((with_reducible refine fld_Ranking_order ‹_› (dt_var (d := .obj "Ranking" ?fs0) ?a1 ?a2)); (case a1 => rfl); refine ⟨_, _, rfl, rfl, ?_⟩)
  | ((with_reducible refine fld_Ranking_places ‹_› (dt_var (d := .obj "Ranking" ?fs0) ?a1 ?a2)); (case a1 => rfl); refine ⟨_, _, rfl, rfl, ?_⟩)
  | ((with_reducible refine fld_Turns_order ‹_› (dt_var (d := .obj "Turns" ?fs0) ?a1 ?a2)); (case a1 => rfl); refine ⟨_, _, rfl, rfl, ?_⟩)
  | ((with_reducible refine fld_Game_own_rankings ‹_› (dt_var (d := .obj "Game" ?fs0) ?a1 ?a2)); (case a1 => rfl); refine ⟨_, _, rfl, rfl, ?_⟩)
  | ((with_reducible refine fld_Game_own_turns ‹_› (dt_var (d := .obj "Game" ?fs0) ?a1 ?a2)); (case a1 => rfl); refine ⟨_, _, rfl, rfl, ?_⟩)
  | ((with_reducible refine fld_Striker_own_target ‹_› (dt_var (d := .obj "Striker" ?fs0) ?a1 ?a2)); (case a1 => rfl); refine ⟨_, _, rfl, rfl, ?_⟩)
  | ((with_reducible refine fld_Keeper_own_target ‹_› (dt_var (d := .obj "Keeper" ?fs0) ?a1 ?a2)); (case a1 => rfl); refine ⟨_, _, rfl, rfl, ?_⟩))
local macro_rules | `(tactic| walk_at "fkit") => `(tactic| first
  | refine ⟨_, _, _, _, _, rfl, .str _, .ty _, kit_str_str ‹_›, ?_⟩
  | refine ⟨_, _, _, _, _, rfl, .int _, .ty _, kit_int_int ‹_›, ?_⟩
  | refine ⟨_, _, _, _, _, rfl, .lst _, .ty _, kit_list_list ‹_›, ?_⟩
  | refine ⟨_, _, _, _, _, rfl, .dic _, .ty _, kit_dict_dict ‹_›, ?_⟩
  | refine ⟨_, _, _, _, _, rfl, .obj _ _ (ins_Committee ‹_›), .glo _, kit_Committee_Committee ‹_›, ?_⟩
  | refine ⟨_, _, _, _, _, rfl, .obj _ _ (ins_Ranking ‹_›), .glo _, kit_Ranking_Ranking ‹_›, ?_⟩
  | refine ⟨_, _, _, _, _, rfl, .obj _ _ (ins_Turns ‹_›), .glo _, kit_Turns_Turns ‹_›, ?_⟩
  | refine ⟨_, _, _, _, _, rfl, .obj _ _ (ins_Game ‹_›), .glo _, kit_Game_Game ‹_›, ?_⟩
  | refine ⟨_, _, _, _, _, rfl, .int _, .ty _, kit_int_bool ‹_›, ?_⟩
  | refine ⟨_, _, _, _, _, rfl, .bl _, .ty _, kit_bool_int ‹_›, ?_⟩
  | refine ⟨_, _, _, _, _, rfl, .bl _, .ty _, kit_bool_bool ‹_›, ?_⟩)
local macro_rules | `(tactic| walk_at "fw1") => `(tactic| first
  | ((with_reducible refine dt_var (d := ?d0) ?a1 ?a2); (case a1 => rfl))
  | (with_reducible first
    | refine dt_int ?_ | refine dt_str ?_ | refine dt_bl ?_ | refine dt_non ?_ | refine dt_ty ?_ | refine dt_glo ?_
    | refine da_cons ?_ | refine da_nil ?_ | refine dtt_b ?_ | refine dtt_test ?_ | refine dtt_yes ?_ | refine dtt_not ?_ | refine dtt_and ?_ | refine dtt_or ?_ 
    | refine ds_unlAsg ?_ | refine ds_seq ?_ | refine ds_next ?_ | refine ds_ret ?_ | refine ds_retN ?_
    | refine dt_andV ?_ | refine dt_orV ?_ | refine dt_notV ?_ | refine dt_if ?_ | refine dt_chain opd_le opd_le ?_ | refine dt_chain opd_lt opd_lt ?_
    | refine dt_call0 ?_ | refine dt_prop ?_ | refine dt_make ?_ | refine dt_dget ?_ | refine dt_din ?_ | refine dt_dnotin ?_
    | refine (df_slL ?_).dt | refine do_none ?_ | refine do_some ?_ | refine (df_listVals ?_).dt | refine dt_stm ?_ | refine df_lst ?_ | refine df_cb caf_list ?_ | refine df_cb caf_listD ?_ | refine df_cb caf_dictD ?_ | refine df_cb caf_dictP ?_ | refine df_cb caf_sortedS ?_ | refine df_cb caf_sortedD ?_ | refine df_op opf_cat ?_ | refine df_listVals ?_ | refine df_make ?_ | refine df_slL ?_ | refine df_dnew ?_ | refine dt_lst ?_ | refine dt_tup ?_ | refine (df_dnew ?_).dt)
  | ((with_reducible refine dt_methS 0 (x := ?x0) (fs := ?f0) ?a1 ?a2 ?a3); (case a1 => rfl); (case a2 => rfl)) | (with_reducible refine dt_meth0 ?_)
  | (with_reducible refine dt_un und_neg ?_)
  | ((with_reducible refine dt_inO 0 (ds := ?d0) ?a1 ?a2); (case a1 => rfl)) | ((with_reducible refine dt_lenO 0 (ds := ?d0) ?a1 ?a2); (case a1 => rfl)) | ((with_reducible refine dt_lenO 1 (ds := ?d0) ?a1 ?a2); (case a1 => rfl))
  | ((with_reducible refine dm_popAt 0 (ds := ?d0) ?a1 ?a2); (case a1 => rfl)) | ((with_reducible refine dm_popAt 1 (ds := ?d0) ?a1 ?a2); (case a1 => rfl)) | (with_reducible refine DT.dm ?_) | walk_at "fop" | walk_at "fcb" | walk_at "fdi"
  | ((with_reducible refine ds_asgE ?a1 ?a2 ?a3); (case a1 => walk_at "fno"); (case a2 => simp [startG])) | ((with_reducible refine ds_asg ?a1 ?a2); (case a1 => walk_at "fno")) | ((with_reducible refine ds_asgT ?a1 ?a2 ?a3); (case a1 => walk_at "fno"); (case a2 => walk_at "fno")) | ((with_reducible refine ds_append 0 (ds := ?d0) ?a1 ?a2); (case a1 => rfl)) | ((with_reducible refine ds_append 1 (ds := ?d0) ?a1 ?a2); (case a1 => rfl)) | (with_reducible refine ds_expr ?_) | ((with_reducible refine ds_par ?a1 ?a2 ?a3); (case a1 => walk_at "fno"); (case a2 => walk_at "fno"))
  | ((with_reducible refine dg_tup ?a1 ?a2); (case a1 => rfl)) | (with_reducible refine dgs_cons ?_) | (with_reducible refine dgs_nil ?_) | (with_reducible refine lct ?_) | (with_reducible refine dct ?_)
  | ((with_reducible refine dg_name ?a1 ?a2); (case a1 => walk_at "fno"))
  | walk_at "ffld" | walk_at "fex" | walk_at "fkit")
local macro_rules | `(tactic| walk_at "fw") => `(tactic| repeat (first | walk_at "fw1" | (with_reducible refine ds_if ?_)))
local macro_rules | `(tactic| walk_at "fwn") => `(tactic| repeat walk_at "fw1")

theorem nl_at {ts : List Str} {p : Str} {n j : Nat} (h : j ≤ n) : nl ts [p] (n - j) n = fv ts [p] ((n : Int) - (j : Int)) (j : Int) := by
  rw [nl_fv]
  have e1 : ((n - j : Nat) : Int) = (n : Int) - (j : Int) := by omega
  rw [e1, show (n : Int) - ((n : Int) - (j : Int)) = (j : Int) from by omega]
theorem safe_uniq {ts : List Str} {p : Str} {n : Nat} {d e : D} (h1 : SafeIs ts p n d) (h2 : SafeIs ts p n e) : d = e := by
  rcases h1 with ⟨k, k1, rfl, k2, k3⟩ | ⟨rfl, k1⟩
  · rcases h2 with ⟨m, m1, rfl, m2, m3⟩ | ⟨rfl, m1⟩
    · rcases Nat.lt_trichotomy k m with z | z | z
      · exact absurd m2 (k3 m z m1)
      · rw [z]
      · exact absurd k2 (m3 k z k1)
    · exact absurd k2 (m1 k k1)
  · rcases h2 with ⟨m, m1, rfl, m2, m3⟩ | ⟨rfl, m1⟩
    · exact absurd m2 (k1 m m1)
    · rfl
theorem safe_pd {ts : List Str} {p : Str} {n : Nat} {d : D} (h : SafeIs ts p n d) : ∃ q, d.pd = some q ∧ SeqAt.shaped q = true ∧ PyData.eqv q q = true := by
  rcases h with ⟨k, k1, rfl, k2, k3⟩ | ⟨rfl, k1⟩
  · exact ⟨.int k, rfl, rfl, by simp [PyData.eqv]⟩
  · exact ⟨.none, rfl, rfl, by simp [PyData.eqv]⟩
theorem own_keys (rs : List (Str × List Str)) : ((rs.map fun p => ((.inr p.1 : Key), sl p.2)).map fun kv => kD kv.1) = (rs.map Prod.fst).map D.str := by rw [List.map_map, List.map_map]; rfl
theorem rks_srs {rs : List (Str × List Str)} (h : Rks rs) : Rks (srs rs) where
  ne := srs_ne h
  len := by
    have e := congrArg List.length (srs_keys rs)
    rw [List.length_map, srt_len h.nd, List.length_map] at e
    have := h.len; omega
  nd := by rw [srs_keys]; exact srt_nodup _
  name := fun p hp => h.name p (srs_mem hp)
  le := fun p hp => h.le p (srs_mem hp)
  names := fun p hp => h.names p (srs_mem hp)
  same := fun p hp q hq => h.same p (srs_mem hp) q (srs_mem hq)
theorem dint_eq {a b : Int} : decide ((D.int a).v = (D.int b).v) = decide (a = b) := by
  rw [Bool.eq_iff_iff, decide_eq_true_eq, decide_eq_true_eq]
  exact ⟨fun h => V.int.inj h, fun h => by rw [h]⟩
theorem same_len {A B : List Str} (h1 : A.Nodup) (h2 : B.Nodup) (h : ∀ x, x ∈ A ↔ x ∈ B) : A.length = B.length := ((List.perm_ext_iff_of_nodup h1 h2).mpr h).length_eq
theorem in_start {A tg : List Str} (h1 : A.Nodup) (h2 : tg.Nodup) (h : ∀ s ∈ tg, s ∈ A) : inN A [] (srt tg) = tg.length := by
  unfold inN
  refine same_len (h1.filter _) h2 fun x => ?_
  rw [List.mem_filter, Bool.and_eq_true, decide_eq_true_eq, decide_eq_true_eq, srt_mem]
  exact ⟨fun z => z.2.2, fun z => ⟨h x z, by simp, z⟩⟩
theorem in_end {A tg xs : List Str} (h1 : A.Nodup) : ((srt (leftL A xs)).filter fun s => decide (s ∈ tg)).length = inN A xs (srt tg) := by
  unfold inN
  refine same_len ((srt_nodup _).filter _) (h1.filter _) fun x => ?_
  rw [List.mem_filter, List.mem_filter, srt_mem, left_mem, Bool.and_eq_true, decide_eq_true_eq, decide_eq_true_eq, decide_eq_true_eq, srt_mem]
  exact ⟨fun z => ⟨z.1.1, z.1.2, z.2⟩, fun z => ⟨⟨z.1, z.2.1⟩, z.2.2⟩⟩
def FIRST : Str := "abcdef"
def SECOND : Str := "vwxyz"
def sg (c : Nat) : Str := ⟨#[c]⟩
def TH (k : Nat) : List Str := (FIRST.cps.toList.take k).flatMap fun a => SECOND.cps.toList.map fun b => sg a ++ sg b
theorem get_sg {x : Str} {i : Nat} {d : D} (h : (signs x)[i]? = some d) : ∃ c, x.cps.toList[i]? = some c ∧ d = .str (sg c) := by
  unfold signs at h
  rw [List.getElem?_map] at h
  cases e : x.cps.toList[i]? with
  | none => rw [e] at h; cases h
  | some c => rw [e] at h; cases h; exact ⟨c, rfl, rfl⟩
theorem th_succ {i c : Nat} (h : FIRST.cps.toList[i]? = some c) : TH (i + 1) = TH i ++ SECOND.cps.toList.map fun b => sg c ++ sg b := by
  unfold TH
  rw [List.take_succ, h, List.flatMap_append]
  congr 1
theorem th_ok : ((TH 6).all isName) = true := by decide +kernel
theorem th_nd : (TH 6).Nodup := by decide +kernel
theorem th_len2 : ∀ i, i ≤ 6 → (TH i).length = 5 * i
  | 0, _ => rfl
  | 1, _ => rfl
  | 2, _ => rfl
  | 3, _ => rfl
  | 4, _ => rfl
  | 5, _ => rfl
  | 6, _ => rfl
  | n + 7, h => by omega
theorem th_len : (TH 6).length = 30 := by decide +kernel
def PL4 : List Str := ["p", "q", "r", "s"]
theorem pl4_ok : (PL4.all isName) = true := by decide +kernel
theorem pl4_nd : PL4.Nodup := by decide +kernel
section
variable {P : Program} {w : World} {K : PySem.W.Frag} {mg : Str → Option Value} {base : Heap}
end
end Fw

set_option maxHeartbeats 4000000
/-! The law of large games. -/
namespace Fw
open PySem PySem.Spec PyProof.Rows L2
local macro_rules | `(tactic| walk_at "fno") => `(tactic| first | (intro o ho; exact absurd ho (List.not_mem_nil)) | (simp; done) | (intro o ho; simp at ho; (try rcases ho with ho | ho) <;> subst ho <;> decide))
local macro_rules | `(tactic| walk_at "fop") => `(tactic| with_reducible first
  | refine dt_op opd_add ?_ | refine dt_op opd_sub ?_ | refine dt_op opd_mul ?_ | refine dt_op opd_fdivN ?_ | refine dt_op opd_mod ?_ | refine dt_op opd_pow ?_
  | refine dt_op opd_lt ?_ | refine dt_op opd_le ?_ | refine dt_op opd_gt ?_ | refine dt_op opd_ge ?_
  | refine dt_op opd_eq ?_ | refine dt_op opd_ne ?_ | refine dt_op opd_in ?_ | refine dt_op opd_in_sign ?_ | refine dt_op opd_add_str ?_ | refine dt_op opd_isN ?_ | refine dt_op opd_notN ?_
  | refine dt_op opd_ixL ?_ | refine dt_op opd_ixT ?_ | refine dt_op opf_cat.op ?_ | refine dt_op opf_rep.op ?_
  | refine dt_op opd_eqD ?_ | refine dt_op opd_neD ?_ | refine dt_op opd_eqDn ?_ | refine dt_op opd_inI ?_ | refine dt_op opd_eqI ?_ | refine dt_op opd_binI ?_ | refine dt_op opd_getI ?_)
local macro_rules | `(tactic| walk_at "fcb") => `(tactic| with_reducible first
  | refine dt_cb cad_lenA ?_ | refine dt_cb cad_lenI ?_ | refine dt_cb cad_isi ?_ | refine dt_cb cad_lenDR ?_ | refine dt_cb cad_max ?_ | refine dt_cb cad_min ?_ | refine dt_cb cad_all ?_ | refine dt_cb cad_any ?_ | refine dt_cb cad_sum ?_ | refine dt_cb cad_max2 ?_ | refine dt_cb cad_min2 ?_ | refine dt_cb cad_int1 ?_
  | refine dt_cb caf_list.ca ?_ | refine dt_cb caf_listD.ca ?_ | refine dt_cb caf_dictD.ca ?_ | refine dt_cb caf_dictP.ca ?_ | refine dt_cb caf_sortedS.ca ?_ | refine dt_cb caf_sortedD.ca ?_)
local macro_rules | `(tactic| walk_at "fex") => `(tactic| first
  | (refine ⟨(rfl : D.non = D.non), ?_⟩) | (refine ⟨_, .lst _, ?_⟩) | (refine ⟨_, .scr _, ?_⟩) | (refine ⟨_, _, _, rfl, rfl, rfl, ?_⟩) | (refine ⟨_, _, rfl, rfl, ?_⟩) | (refine ⟨_, rfl, ?_⟩) | (refine ⟨_, _, rfl, ?_⟩) | (refine ⟨_, _, _, rfl, ?_⟩) | (refine ⟨_, _, _, _, rfl, ?_⟩) | (refine ⟨_, _, _, _, _, rfl, ?_⟩) | (refine ⟨_, _, _, _, _, _, rfl, ?_⟩) | (refine ⟨_, .inl rfl, rfl, flat_strs _, ?_⟩) | (refine ⟨_, .inl rfl, ?_⟩) | (refine ⟨rfl, rfl, rfl, ?_⟩) | (refine ⟨(by simp only [List.length_cons, List.length_nil]; decide : List.length _ ≤ sizeLine), ?_⟩) | (refine ⟨fun _ => ?_, fun h => absurd h (by decide)⟩) | (refine ⟨fun h => absurd h (by decide), fun _ => ?_⟩))
local macro_rules | `(tactic| walk_at "fdi") => `(tactic| with_reducible first
  | refine di_list ?_ | refine di_range1 ?_ | refine di_range2 ?_ | refine di_range3 ?_ | refine di_str ?_ | refine di_items ?_ | refine di_values ?_ | refine di_keys ?_ | refine di_keysM ?_ | refine di_enum ?_)
local macro_rules | `(tactic| walk_at "ffld") => `(tactic| first
  | ((with_reducible refine fld_Committee_own_members ‹_› (dt_var (d := .obj "Committee" ?fs0) ?a1 ?a2)); (case a1 => rfl); refine ⟨_, _, rfl, rfl, ?_⟩)
  | ((with_reducible refine fld_Ranking_order ‹_› (dt_var (d := .obj "Ranking" ?fs0) ?a1 ?a2)); (case a1 => rfl); refine ⟨_, _, rfl, rfl, ?_⟩)
  | ((with_reducible refine fld_Ranking_places ‹_› (dt_var (d := .obj "Ranking" ?fs0) ?a1 ?a2)); (case a1 => rfl); refine ⟨_, _, rfl, rfl, ?_⟩)
  | ((with_reducible refine fld_Turns_order ‹_› (dt_var (d := .obj "Turns" ?fs0) ?a1 ?a2)); (case a1 => rfl); refine ⟨_, _, rfl, rfl, ?_⟩)
  | ((with_reducible refine fld_Game_own_rankings ‹_› (dt_var (d := .obj "Game" ?fs0) ?a1 ?a2)); (case a1 => rfl); refine ⟨_, _, rfl, rfl, ?_⟩)
  | ((with_reducible refine fld_Game_own_turns ‹_› (dt_var (d := .obj "Game" ?fs0) ?a1 ?a2)); (case a1 => rfl); refine ⟨_, _, rfl, rfl, ?_⟩)
  | ((with_reducible refine fld_Striker_own_target ‹_› (dt_var (d := .obj "Striker" ?fs0) ?a1 ?a2)); (case a1 => rfl); refine ⟨_, _, rfl, rfl, ?_⟩)
  | ((with_reducible refine fld_Keeper_own_target ‹_› (dt_var (d := .obj "Keeper" ?fs0) ?a1 ?a2)); (case a1 => rfl); refine ⟨_, _, rfl, rfl, ?_⟩))
local macro_rules | `(tactic| walk_at "fkit") => `(tactic| first
  | refine ⟨_, _, _, _, _, rfl, .str _, .ty _, kit_str_str ‹_›, ?_⟩
  | refine ⟨_, _, _, _, _, rfl, .int _, .ty _, kit_int_int ‹_›, ?_⟩
  | refine ⟨_, _, _, _, _, rfl, .lst _, .ty _, kit_list_list ‹_›, ?_⟩
  | refine ⟨_, _, _, _, _, rfl, .dic _, .ty _, kit_dict_dict ‹_›, ?_⟩
  | refine ⟨_, _, _, _, _, rfl, .obj _ _ (ins_Committee ‹_›), .glo _, kit_Committee_Committee ‹_›, ?_⟩
  | refine ⟨_, _, _, _, _, rfl, .obj _ _ (ins_Ranking ‹_›), .glo _, kit_Ranking_Ranking ‹_›, ?_⟩
  | refine ⟨_, _, _, _, _, rfl, .obj _ _ (ins_Turns ‹_›), .glo _, kit_Turns_Turns ‹_›, ?_⟩
  | refine ⟨_, _, _, _, _, rfl, .obj _ _ (ins_Game ‹_›), .glo _, kit_Game_Game ‹_›, ?_⟩
  | refine ⟨_, _, _, _, _, rfl, .int _, .ty _, kit_int_bool ‹_›, ?_⟩
  | refine ⟨_, _, _, _, _, rfl, .bl _, .ty _, kit_bool_int ‹_›, ?_⟩
  | refine ⟨_, _, _, _, _, rfl, .bl _, .ty _, kit_bool_bool ‹_›, ?_⟩)
local macro_rules | `(tactic| walk_at "fw1") => `(tactic| first
  | ((with_reducible refine dt_var (d := ?d0) ?a1 ?a2); (case a1 => rfl))
  | (with_reducible first
    | refine dt_int ?_ | refine dt_str ?_ | refine dt_bl ?_ | refine dt_non ?_ | refine dt_ty ?_ | refine dt_glo ?_
    | refine da_cons ?_ | refine da_nil ?_ | refine dtt_b ?_ | refine dtt_test ?_ | refine dtt_yes ?_ | refine dtt_not ?_ | refine dtt_and ?_ | refine dtt_or ?_ 
    | refine ds_unlAsg ?_ | refine ds_seq ?_ | refine ds_next ?_ | refine ds_ret ?_ | refine ds_retN ?_
    | refine dt_andV ?_ | refine dt_orV ?_ | refine dt_notV ?_ | refine dt_if ?_ | refine dt_chain opd_le opd_le ?_ | refine dt_chain opd_lt opd_lt ?_
    | refine dt_call0 ?_ | refine dt_prop ?_ | refine dt_make ?_ | refine dt_dget ?_ | refine dt_din ?_ | refine dt_dnotin ?_
    | refine (df_slL ?_).dt | refine do_none ?_ | refine do_some ?_ | refine (df_listVals ?_).dt | refine dt_stm ?_ | refine df_lst ?_ | refine df_cb caf_list ?_ | refine df_cb caf_listD ?_ | refine df_cb caf_dictD ?_ | refine df_cb caf_dictP ?_ | refine df_cb caf_sortedS ?_ | refine df_cb caf_sortedD ?_ | refine df_op opf_cat ?_ | refine df_listVals ?_ | refine df_make ?_ | refine df_slL ?_ | refine df_dnew ?_ | refine dt_lst ?_ | refine dt_tup ?_ | refine (df_dnew ?_).dt)
  | ((with_reducible refine dt_methS 0 (x := ?x0) (fs := ?f0) ?a1 ?a2 ?a3); (case a1 => rfl); (case a2 => rfl)) | (with_reducible refine dt_meth0 ?_)
  | (with_reducible refine dt_un und_neg ?_)
  | ((with_reducible refine dt_inO 0 (ds := ?d0) ?a1 ?a2); (case a1 => rfl)) | ((with_reducible refine dt_lenO 0 (ds := ?d0) ?a1 ?a2); (case a1 => rfl)) | ((with_reducible refine dt_lenO 1 (ds := ?d0) ?a1 ?a2); (case a1 => rfl))
  | ((with_reducible refine dm_popAt 0 (ds := ?d0) ?a1 ?a2); (case a1 => rfl)) | ((with_reducible refine dm_popAt 1 (ds := ?d0) ?a1 ?a2); (case a1 => rfl)) | (with_reducible refine DT.dm ?_) | walk_at "fop" | walk_at "fcb" | walk_at "fdi"
  | ((with_reducible refine ds_asgE ?a1 ?a2 ?a3); (case a1 => walk_at "fno"); (case a2 => simp [startG])) | ((with_reducible refine ds_asg ?a1 ?a2); (case a1 => walk_at "fno")) | ((with_reducible refine ds_asgT ?a1 ?a2 ?a3); (case a1 => walk_at "fno"); (case a2 => walk_at "fno")) | ((with_reducible refine ds_append 0 (ds := ?d0) ?a1 ?a2); (case a1 => rfl)) | ((with_reducible refine ds_append 1 (ds := ?d0) ?a1 ?a2); (case a1 => rfl)) | (with_reducible refine ds_expr ?_) | ((with_reducible refine ds_par ?a1 ?a2 ?a3); (case a1 => walk_at "fno"); (case a2 => walk_at "fno"))
  | ((with_reducible refine dg_tup ?a1 ?a2); (case a1 => rfl)) | (with_reducible refine dgs_cons ?_) | (with_reducible refine dgs_nil ?_) | (with_reducible refine lct ?_) | (with_reducible refine dct ?_)
  | ((with_reducible refine dg_name ?a1 ?a2); (case a1 => walk_at "fno"))
  | walk_at "ffld" | walk_at "fex" | walk_at "fkit")
local macro_rules | `(tactic| walk_at "fw") => `(tactic| repeat (first | walk_at "fw1" | (with_reducible refine ds_if ?_)))
local macro_rules | `(tactic| walk_at "fwn") => `(tactic| repeat walk_at "fw1")

section
variable {P : Program} {w : World} {K : PySem.W.Frag} {mg : Str → Option Value} {base : Heap}
def wt_law_thirty : Wt := fun ds kk _ => ds = [.stm] ∧ ∀ rs ts ns, OwnOk rs ts ns 30 → ns.length = 30 → kk (ownD rs ts)
theorem ok_law_thirty (T : TX K mg) : Ok P w K mg base 3 (He.ga K "_law_thirty") ["_law_stream_here"] (spD K wt_law_thirty) := by
  obtain ⟨fd, F⟩ := T.def_ 57 (d := d_law_thirty)
  have k_law_draw := ok_law_draw (P := P) (w := w) (base := base) T
  have k_law_shuffled := ok_law_shuffled (P := P) (w := w) (base := base) T
  refine ⟨⟨fd, fnD F sc_law_thirty (fun _ _ _ h => by obtain ⟨rfl, hk⟩ := h; rfl) (fun cdv A outer s H E hr => ⟨_, (pss_cons (ps_set (i := 1) sc_law_thirty.nd rfl (by first | exact Or.inl rfl | exact Or.inr rfl) (pe_lst pa_nil)) (pss_cons (ps_for (passes_of rfl) rfl (pi_str pe_str) (pg_name (i := 2) sc_law_thirty.nd rfl (by first | exact Or.inl rfl | exact Or.inr rfl)) (pss_one (ps_set (i := 1) sc_law_thirty.nd rfl (by first | exact Or.inl rfl | exact Or.inr rfl) (pe_op op_cat (pv 1) (pe_lc (own := [("_law_second", 3)]) rfl sc_law_thirty.nd (pi_str pe_str) (blkOk_by (own := [("_law_second", 3)]) (N := N_law_thirty) (sc := defScope s_law_thirty) (by decide +kernel)) (fun _ _ _ _ _ => (pg_name (i := 3) sc_law_thirty.nd rfl (by first | exact Or.inl rfl | exact Or.inr rfl))) (fun _ _ _ _ _ => pts_nil) (fun _ _ _ _ _ => (pe_op op_add_str (pv 2) (pv 3)))))))) (pss_cons (ps_set (i := 4) sc_law_thirty.nd rfl (by first | exact Or.inl rfl | exact Or.inr rfl) (pe_slice (z_slL K) (pe_lst (pa_cons pe_str (pa_cons pe_str (pa_cons pe_str (pa_cons pe_str pa_nil))))) po_none (po_some (pe_op op_add pe_int (q_call k_law_draw hr (T.glo 50) (pa_cons (pv 0) (pa_cons pe_int pa_nil))))))) (pss_cons (ps_set (i := 5) sc_law_thirty.nd rfl (by first | exact Or.inl rfl | exact Or.inr rfl) (pe_callTy (z_dictP K rfl) (by rfl) (T.free 27) (by decide +kernel) (pa_cons (pe_lc (own := [("_law_player", 6)]) rfl sc_law_thirty.nd (z_plist K (pv 4)) (blkOk_by (own := [("_law_player", 6)]) (N := N_law_thirty) (sc := defScope s_law_thirty) (by decide +kernel)) (fun _ _ _ _ _ => (pg_name (i := 6) sc_law_thirty.nd rfl (by first | exact Or.inl rfl | exact Or.inr rfl))) (fun _ _ _ _ _ => pts_nil) (fun _ _ _ _ _ => (pe_tup (pa_cons (pv 6) (pa_cons (q_call k_law_shuffled hr (T.glo 51) (pa_cons (pv 0) (pa_cons (pv 1) pa_nil))) pa_nil))))) pa_nil))) (pss_one (ps_ret (pe_lst (pa_cons (pv 5) (pa_cons (pe_lc (own := [("_law_turn", 7)]) rfl sc_law_thirty.nd (pi_range1 (by rfl) (T.free 47) (pa_cons (q_call k_law_draw hr (T.glo 50) (pa_cons (pv 0) (pa_cons pe_int pa_nil))) pa_nil)) (blkOk_by (own := [("_law_turn", 7)]) (N := N_law_thirty) (sc := defScope s_law_thirty) (by decide +kernel)) (fun _ _ _ _ _ => (pg_name (i := 7) sc_law_thirty.nd rfl (by first | exact Or.inl rfl | exact Or.inr rfl))) (fun _ _ _ _ _ => pts_nil) (fun _ _ _ _ _ => (pe_ix (z_ixL K) (pv 4) (q_call k_law_draw hr (T.glo 50) (pa_cons (pv 0) (pa_cons (pe_callB (z_len K) (by rfl) (T.free 2) boot_len (pa_cons (pv 4) pa_nil)) pa_nil))) (fun _ _ => rfl)))) pa_nil))))))))), fun ds kk ke h => ?_⟩), FunD.bindsN F fun _ _ _ _ _ _ us hl => match us, hl with | [_], _ => rfl⟩, F.kp⟩
  obtain ⟨rfl, hk⟩ := h
  try dsimp only [cxK]
  walk_at "fw"
  refine ds_freeze 0 (i := 1) (o := .lst []) rfl (by exact (by decide : 1 < 8)) ?_
  refine ds_for [2] (fun _ i G' O' => O' = [] ∧ ∃ g2, G' = [some .stm, some (sl (TH i)), g2, none, none, none, none, none]) ?_
  walk_at "fw"
  refine ⟨⟨rfl, _, rfl⟩, fun i x G' O' hi hP => ?_, fun G' O' hP => ?_⟩
  · obtain ⟨rfl, g2, rfl⟩ := hP
    obtain ⟨c, hc, rfl⟩ := get_sg hi
    have hi6 : i < 6 := (List.getElem?_eq_some_iff.mp hc).1
    walk_at "fw"
    refine (df_lcM [3] (fun b : Nat => D.str (sg b)) (fun b => D.str (sg c ++ sg b)) (fun a b e => by cases e; rfl) (by decide) (by walk_at "fno") ?_).dt
    walk_at "fw"
    refine ⟨(by exact (by decide : 5 < sizeLine)), fun b hb => ?_, ?_⟩
    · walk_at "fw"
      exact ⟨(by exact (by decide : 2 ≤ sizeLine)), rfl⟩
    · refine ⟨_, _, rfl, rfl, ?_, rfl, some (.str (sg c)), ?_⟩
      · have h1 := congrArg List.length (th_succ hc)
        have h2 : (TH i).length = 5 * i := th_len2 i (by omega)
        rw [List.length_map, List.length_map, h2]
        exact Nat.le_of_lt (szOf (by have : (Str.ofString "vwxyz").cps.toList.length = 5 := rfl
                                     omega))
      · have e3 : D.lst (List.map D.str (TH i) ++ List.map (fun b => D.str (sg c ++ sg b)) SECOND.cps.toList) = sl (TH (i + 1)) := by
          rw [th_succ hc]
          show _ = D.lst (List.map D.str _)
          rw [List.map_append, List.map_map]; rfl
        exact congrArg (fun d => [some D.stm, some d, some (.str (sg c)), none, none, none, none, none]) e3
  · obtain ⟨rfl, g2, rfl⟩ := hP
    walk_at "fw"
    refine ⟨by decide, by decide, fun r r0 r1 => ?_⟩
    walk_at "fw"
    generalize hps : cutD _ none (some (1 + r)) = L
    have e : (1 + r) = ((1 + r.toNat : Nat) : Int) := by omega
    have hL : L = (PL4.take (1 + r.toNat)).map D.str := by
      rw [← hps, e]
      exact cut_to (ss := PL4)
    subst hL
    have p1 : PL4.take (1 + r.toNat) ≠ [] := fun z => by
      have := congrArg List.length z
      rw [List.length_take, List.length_nil] at this
      have : PL4.length = 4 := rfl
      omega
    have p2' : (PL4.take (1 + r.toNat)).length ≤ 4 := by rw [List.length_take]; exact Nat.min_le_right _ _
    have p3 : (PL4.take (1 + r.toNat)).Nodup := pl4_nd.sublist (List.take_sublist _ _)
    have p4 : ∀ p ∈ PL4.take (1 + r.toNat), isName p = true := fun p h => List.all_eq_true.mp pl4_ok p (List.mem_of_mem_take h)
    generalize PL4.take (1 + r.toNat) = ps at *
    have n1 : (TH 6).length = 30 := th_len
    refine (df_lc [6] (fun x o => ∃ p ys, x = .str p ∧ List.Perm ys (TH 6) ∧ o = some (.tup [.str p, sl ys])) (by decide) (by walk_at "fno") ?_).dt
    walk_at "fw"
    refine ⟨by rw [List.length_map]; exact szOf (by omega), fun x hx => ?_, fun zs hz => ?_⟩
    · obtain ⟨p, hp, rfl⟩ := List.mem_map.mp hx
      walk_at "fw"
      refine ⟨by exact (by rw [show (signs (Str.ofString "abcdef")).length = 6 from rfl, n1]; decide), fun ys hy => ?_⟩
      walk_at "fw"
      exact ⟨p, ys, rfl, hy, rfl⟩
    · obtain ⟨rs, e1, e2, rfl⟩ := own_lc hz
      have nd : (rs.map Prod.fst).Nodup := by rw [e1]; exact p3
      have lrs : rs.length = ps.length := by rw [← e1, List.length_map]
      walk_at "fw"
      refine ⟨rs.map fun p => ((.inr p.1 : Key), sl p.2), by simp only [List.map_map]; rfl, ?_⟩
      rw [mergeD_nil (by
        have e : (rs.map fun p => ((.inr p.1 : Key), sl p.2)).map Prod.fst = (rs.map Prod.fst).map (Sum.inr : Str → Key) := by rw [List.map_map, List.map_map]; rfl
        rw [e]; exact keys_nodup nd)]
      walk_at "fw"
      refine (df_lc [7] (fun x o => ∃ t ∈ ps, o = some (.str t)) (by decide) (by walk_at "fno") ?_).dt
      walk_at "fw"
      refine ⟨by omega, by omega, fun c c0 c1 => ?_⟩
      walk_at "fw"
      refine ⟨by omega, by omega, by rw [rngD_len]; exact szOf (by omega), fun x hx => ?_, fun zs hz => ?_⟩
      · walk_at "fw"
        have h0 : 0 < ps.length := List.length_pos_iff.mpr p1
        rw [List.length_map]
        refine ⟨by omega, by omega, fun r2 r20 r21 => ?_⟩
        obtain ⟨t, ht, e⟩ := atI_strs r20 r21
        exact ⟨_, _, _, rfl, rfl, e, t, ht, rfl⟩
      · obtain ⟨ts, t1, t2, rfl⟩ := turn_lc hz
        rw [rngD_len] at t1
        walk_at "fw"
        refine hk rs ts (TH 6) ⟨fun z => p1 (by rw [← e1, z]; rfl), by omega, nd, fun p hp => p4 _ (by rw [← e1]; exact List.mem_map_of_mem (f := Prod.fst) hp), e2, th_nd, fun s hs => List.all_eq_true.mp th_ok s hs, by omega, by omega, fun t ht => by rw [e1]; exact t2 t ht⟩ n1
end
end Fw

set_option maxHeartbeats 4000000
/-! The law of large games. -/
namespace Fw
open PySem PySem.Spec PyProof.Rows L2
local macro_rules | `(tactic| walk_at "fno") => `(tactic| first | (intro o ho; exact absurd ho (List.not_mem_nil)) | (simp; done) | (intro o ho; simp at ho; (try rcases ho with ho | ho) <;> subst ho <;> decide))
local macro_rules | `(tactic| walk_at "fop") => `(tactic| with_reducible first
  | refine dt_op opd_add ?_ | refine dt_op opd_sub ?_ | refine dt_op opd_mul ?_ | refine dt_op opd_fdivN ?_ | refine dt_op opd_mod ?_ | refine dt_op opd_pow ?_
  | refine dt_op opd_lt ?_ | refine dt_op opd_le ?_ | refine dt_op opd_gt ?_ | refine dt_op opd_ge ?_
  | refine dt_op opd_eq ?_ | refine dt_op opd_ne ?_ | refine dt_op opd_in ?_ | refine dt_op opd_in_sign ?_ | refine dt_op opd_add_str ?_ | refine dt_op opd_isN ?_ | refine dt_op opd_notN ?_
  | refine dt_op opd_ixL ?_ | refine dt_op opd_ixT ?_ | refine dt_op opf_cat.op ?_ | refine dt_op opf_rep.op ?_
  | refine dt_op opd_eqD ?_ | refine dt_op opd_neD ?_ | refine dt_op opd_eqDn ?_ | refine dt_op opd_inI ?_ | refine dt_op opd_eqI ?_ | refine dt_op opd_binI ?_ | refine dt_op opd_getI ?_)
local macro_rules | `(tactic| walk_at "fcb") => `(tactic| with_reducible first
  | refine dt_cb cad_lenA ?_ | refine dt_cb cad_lenI ?_ | refine dt_cb cad_isi ?_ | refine dt_cb cad_lenDR ?_ | refine dt_cb cad_max ?_ | refine dt_cb cad_min ?_ | refine dt_cb cad_all ?_ | refine dt_cb cad_any ?_ | refine dt_cb cad_sum ?_ | refine dt_cb cad_max2 ?_ | refine dt_cb cad_min2 ?_ | refine dt_cb cad_int1 ?_
  | refine dt_cb caf_list.ca ?_ | refine dt_cb caf_listD.ca ?_ | refine dt_cb caf_dictD.ca ?_ | refine dt_cb caf_dictP.ca ?_ | refine dt_cb caf_sortedS.ca ?_ | refine dt_cb caf_sortedD.ca ?_)
local macro_rules | `(tactic| walk_at "fex") => `(tactic| first
  | (refine ⟨(rfl : D.non = D.non), ?_⟩) | (refine ⟨_, .lst _, ?_⟩) | (refine ⟨_, .scr _, ?_⟩) | (refine ⟨_, _, _, rfl, rfl, rfl, ?_⟩) | (refine ⟨_, _, rfl, rfl, ?_⟩) | (refine ⟨_, rfl, ?_⟩) | (refine ⟨_, _, rfl, ?_⟩) | (refine ⟨_, _, _, rfl, ?_⟩) | (refine ⟨_, _, _, _, rfl, ?_⟩) | (refine ⟨_, _, _, _, _, rfl, ?_⟩) | (refine ⟨_, _, _, _, _, _, rfl, ?_⟩) | (refine ⟨_, .inl rfl, rfl, flat_strs _, ?_⟩) | (refine ⟨_, .inl rfl, ?_⟩) | (refine ⟨rfl, rfl, rfl, ?_⟩) | (refine ⟨(by simp only [List.length_cons, List.length_nil]; decide : List.length _ ≤ sizeLine), ?_⟩) | (refine ⟨fun _ => ?_, fun h => absurd h (by decide)⟩) | (refine ⟨fun h => absurd h (by decide), fun _ => ?_⟩))
local macro_rules | `(tactic| walk_at "fdi") => `(tactic| with_reducible first
  | refine di_list ?_ | refine di_range1 ?_ | refine di_range2 ?_ | refine di_range3 ?_ | refine di_str ?_ | refine di_items ?_ | refine di_values ?_ | refine di_keys ?_ | refine di_keysM ?_ | refine di_enum ?_)
local macro_rules | `(tactic| walk_at "ffld") => `(tactic| first
  | ((with_reducible refine fld_Committee_own_members ‹_› (dt_var (d := .obj "Committee" ?fs0) ?a1 ?a2)); (case a1 => rfl); refine ⟨_, _, rfl, rfl, ?_⟩)
  | ((with_reducible refine fld_Ranking_order ‹_› (dt_var (d := .obj "Ranking" ?fs0) ?a1 ?a2)); (case a1 => rfl); refine ⟨_, _, rfl, rfl, ?_⟩)
  | ((with_reducible refine fld_Ranking_places ‹_› (dt_var (d := .obj "Ranking" ?fs0) ?a1 ?a2)); (case a1 => rfl); refine ⟨_, _, rfl, rfl, ?_⟩)
  | ((with_reducible refine fld_Turns_order ‹_› (dt_var (d := .obj "Turns" ?fs0) ?a1 ?a2)); (case a1 => rfl); refine ⟨_, _, rfl, rfl, ?_⟩)
  | ((with_reducible refine fld_Game_own_rankings ‹_› (dt_var (d := .obj "Game" ?fs0) ?a1 ?a2)); (case a1 => rfl); refine ⟨_, _, rfl, rfl, ?_⟩)
  | ((with_reducible refine fld_Game_own_turns ‹_› (dt_var (d := .obj "Game" ?fs0) ?a1 ?a2)); (case a1 => rfl); refine ⟨_, _, rfl, rfl, ?_⟩)
  | ((with_reducible refine fld_Striker_own_target ‹_› (dt_var (d := .obj "Striker" ?fs0) ?a1 ?a2)); (case a1 => rfl); refine ⟨_, _, rfl, rfl, ?_⟩)
  | ((with_reducible refine fld_Keeper_own_target ‹_› (dt_var (d := .obj "Keeper" ?fs0) ?a1 ?a2)); (case a1 => rfl); refine ⟨_, _, rfl, rfl, ?_⟩))
local macro_rules | `(tactic| walk_at "fkit") => `(tactic| first
  | refine ⟨_, _, _, _, _, rfl, .str _, .ty _, kit_str_str ‹_›, ?_⟩
  | refine ⟨_, _, _, _, _, rfl, .int _, .ty _, kit_int_int ‹_›, ?_⟩
  | refine ⟨_, _, _, _, _, rfl, .lst _, .ty _, kit_list_list ‹_›, ?_⟩
  | refine ⟨_, _, _, _, _, rfl, .dic _, .ty _, kit_dict_dict ‹_›, ?_⟩
  | refine ⟨_, _, _, _, _, rfl, .obj _ _ (ins_Committee ‹_›), .glo _, kit_Committee_Committee ‹_›, ?_⟩
  | refine ⟨_, _, _, _, _, rfl, .obj _ _ (ins_Ranking ‹_›), .glo _, kit_Ranking_Ranking ‹_›, ?_⟩
  | refine ⟨_, _, _, _, _, rfl, .obj _ _ (ins_Turns ‹_›), .glo _, kit_Turns_Turns ‹_›, ?_⟩
  | refine ⟨_, _, _, _, _, rfl, .obj _ _ (ins_Game ‹_›), .glo _, kit_Game_Game ‹_›, ?_⟩
  | refine ⟨_, _, _, _, _, rfl, .int _, .ty _, kit_int_bool ‹_›, ?_⟩
  | refine ⟨_, _, _, _, _, rfl, .bl _, .ty _, kit_bool_int ‹_›, ?_⟩
  | refine ⟨_, _, _, _, _, rfl, .bl _, .ty _, kit_bool_bool ‹_›, ?_⟩)
local macro_rules | `(tactic| walk_at "fw1") => `(tactic| first
  | ((with_reducible refine dt_var (d := ?d0) ?a1 ?a2); (case a1 => rfl))
  | (with_reducible first
    | refine dt_int ?_ | refine dt_str ?_ | refine dt_bl ?_ | refine dt_non ?_ | refine dt_ty ?_ | refine dt_glo ?_
    | refine da_cons ?_ | refine da_nil ?_ | refine dtt_b ?_ | refine dtt_test ?_ | refine dtt_yes ?_ | refine dtt_not ?_ | refine dtt_and ?_ | refine dtt_or ?_ 
    | refine ds_unlAsg ?_ | refine ds_seq ?_ | refine ds_next ?_ | refine ds_ret ?_ | refine ds_retN ?_
    | refine dt_andV ?_ | refine dt_orV ?_ | refine dt_notV ?_ | refine dt_if ?_ | refine dt_chain opd_le opd_le ?_ | refine dt_chain opd_lt opd_lt ?_
    | refine dt_call0 ?_ | refine dt_prop ?_ | refine dt_make ?_ | refine dt_dget ?_ | refine dt_din ?_ | refine dt_dnotin ?_
    | refine (df_slL ?_).dt | refine do_none ?_ | refine do_some ?_ | refine (df_listVals ?_).dt | refine dt_stm ?_ | refine df_lst ?_ | refine df_cb caf_list ?_ | refine df_cb caf_listD ?_ | refine df_cb caf_dictD ?_ | refine df_cb caf_dictP ?_ | refine df_cb caf_sortedS ?_ | refine df_cb caf_sortedD ?_ | refine df_op opf_cat ?_ | refine df_listVals ?_ | refine df_make ?_ | refine df_slL ?_ | refine df_dnew ?_ | refine dt_lst ?_ | refine dt_tup ?_ | refine (df_dnew ?_).dt)
  | ((with_reducible refine dt_methS 0 (x := ?x0) (fs := ?f0) ?a1 ?a2 ?a3); (case a1 => rfl); (case a2 => rfl)) | (with_reducible refine dt_meth0 ?_)
  | (with_reducible refine dt_un und_neg ?_)
  | ((with_reducible refine dt_inO 0 (ds := ?d0) ?a1 ?a2); (case a1 => rfl)) | ((with_reducible refine dt_lenO 0 (ds := ?d0) ?a1 ?a2); (case a1 => rfl)) | ((with_reducible refine dt_lenO 1 (ds := ?d0) ?a1 ?a2); (case a1 => rfl))
  | ((with_reducible refine dm_popAt 0 (ds := ?d0) ?a1 ?a2); (case a1 => rfl)) | ((with_reducible refine dm_popAt 1 (ds := ?d0) ?a1 ?a2); (case a1 => rfl)) | (with_reducible refine DT.dm ?_) | walk_at "fop" | walk_at "fcb" | walk_at "fdi"
  | ((with_reducible refine ds_asgE ?a1 ?a2 ?a3); (case a1 => walk_at "fno"); (case a2 => simp [startG])) | ((with_reducible refine ds_asg ?a1 ?a2); (case a1 => walk_at "fno")) | ((with_reducible refine ds_asgT ?a1 ?a2 ?a3); (case a1 => walk_at "fno"); (case a2 => walk_at "fno")) | ((with_reducible refine ds_append 0 (ds := ?d0) ?a1 ?a2); (case a1 => rfl)) | ((with_reducible refine ds_append 1 (ds := ?d0) ?a1 ?a2); (case a1 => rfl)) | (with_reducible refine ds_expr ?_) | ((with_reducible refine ds_par ?a1 ?a2 ?a3); (case a1 => walk_at "fno"); (case a2 => walk_at "fno"))
  | ((with_reducible refine dg_tup ?a1 ?a2); (case a1 => rfl)) | (with_reducible refine dgs_cons ?_) | (with_reducible refine dgs_nil ?_) | (with_reducible refine lct ?_) | (with_reducible refine dct ?_)
  | ((with_reducible refine dg_name ?a1 ?a2); (case a1 => walk_at "fno"))
  | walk_at "ffld" | walk_at "fex" | walk_at "fkit")
local macro_rules | `(tactic| walk_at "fw") => `(tactic| repeat (first | walk_at "fw1" | (with_reducible refine ds_if ?_)))
local macro_rules | `(tactic| walk_at "fwn") => `(tactic| repeat walk_at "fw1")

section
variable {P : Program} {w : World} {K : PySem.W.Frag} {mg : Str → Option Value} {base : Heap}
def wt_law_many : Wt := fun ds kk _ => ∃ (ts g : List Str) (a b : Int), ds = [sl ts, sl g, .int a, .int b] ∧ ts.length ≤ 1000 ∧ 0 ≤ a ∧ 0 ≤ b ∧ (ts.length : Int) ≤ a + b ∧ kk (.int (fv ts g a b))
theorem ok_law_many (T : TX K mg) : Ok P w K mg base 1 (He.ga K "_law_many") ["_law_turns", "_law_group", "_law_inside", "_law_outside"] (spD K wt_law_many) := by
  obtain ⟨fd, F⟩ := T.def_ 58 (d := d_law_many)
  refine ⟨⟨fd, fnD F sc_law_many (fun _ _ _ h => by obtain ⟨ts, g, a, b, rfl, hl, ha, hb, hab, hk⟩ := h; rfl) (fun cdv A outer s H E hr => ⟨_, (pss_cons (ps_for (passes_of rfl) rfl (z_plist K (pv 0)) (pg_name (i := 4) sc_law_many.nd rfl (by first | exact Or.inl rfl | exact Or.inr rfl)) (pss_one (ps_if (PW.pt (pw_or (PW.pt (pw_and (pt_cmpR op_eq (pe_cmpR (z_in K) (pv 4) (pv 1) (by rfl)) (pe_cmpR op_gt (pv 2) pe_int (nomark _)) (nomark _)) (pw_and1 (pt_cmpR op_gt (pv 2) pe_int (nomark _))))) (pw_or1 (pt_cmpR op_eq (pv 3) pe_int (nomark _))))) (pss_one (ps_set (i := 2) sc_law_many.nd rfl (by first | exact Or.inl rfl | exact Or.inr rfl) (pe_op op_sub (pv 2) pe_int))) (pss_one (ps_set (i := 3) sc_law_many.nd rfl (by first | exact Or.inl rfl | exact Or.inr rfl) (pe_op op_sub (pv 3) pe_int)))))) (pss_one (ps_ret (pv 2)))), fun ds kk ke h => ?_⟩), FunD.bindsN F fun _ _ _ _ _ _ us hl => match us, hl with | [_, _, _, _], _ => rfl⟩, F.kp⟩
  obtain ⟨ts, g, a, b, rfl, hl, ha, hb, hab, hk⟩ := h
  try dsimp only [cxK]
  walk_at "fw"
  refine ds_for [4] (fun _ i G' O' => O' = [] ∧ ∃ (a' b' : Int) (g4 : Option D), G' = [some (sl ts), some (sl g), some (.int a'), some (.int b'), g4] ∧ 0 ≤ a' ∧ 0 ≤ b' ∧ ((ts.drop i).length : Int) ≤ a' + b' ∧ fv (ts.drop i) g a' b' = fv ts g a b) ?_
  walk_at "fw"
  refine ⟨⟨rfl, a, b, _, rfl, ha, hb, hab, rfl⟩, fun i x G' O' hi hP => ?_, fun G' O' hP => ?_⟩
  · obtain ⟨rfl, a', b', g4, rfl, h1, h2, h3, h4⟩ := hP
    obtain ⟨t, ht, rfl⟩ := get_strs2 hi
    obtain ⟨hil, e⟩ := List.getElem?_eq_some_iff.mp ht
    rw [List.drop_eq_getElem_cons hil, e] at h3 h4
    walk_at "fw"
    rw [inV_strs]
    have eT : decide ((D.bl (if false = true then !decide (t ∈ g) else decide (t ∈ g))).v = (D.bl (decide (0 < a'))).v) = decide ((t ∈ g) ↔ 0 < a') := by
      rw [Bool.eq_iff_iff, decide_eq_true_eq, decide_eq_true_eq]
      refine ⟨fun h => by
        have h := V.bl.inj h
        exact decide_eq_decide.mp h, fun h => by
        show V.bl (decide (t ∈ g)) = V.bl _
        rw [decide_eq_decide.mpr h]⟩
    rw [eT]
    rw [List.length_cons] at h3
    have eB : decide ((D.int b').v = (D.int 0).v) = decide (b' = 0) := by
      rw [Bool.eq_iff_iff, decide_eq_true_eq, decide_eq_true_eq]
      exact ⟨fun h => V.int.inj h, fun h => by rw [h]⟩
    have hIn : (t ∈ g ∧ 0 < a') ∨ b' = 0 → 0 ≤ a' - 1 ∧ ((ts.drop (i + 1)).length : Int) ≤ a' - 1 + b' ∧ fv (ts.drop (i + 1)) g (a' - 1) b' = fv ts g a b := fun h => by
      have ha : 0 < a' := h.elim (fun z => z.2) fun z => by omega
      refine ⟨by omega, by omega, ?_⟩
      rw [← h4, fv_in ha h2 (by rw [List.length_cons]; omega) (h.imp (fun z => z.1) id)]
    have hOut : ¬ ((t ∈ g ∧ 0 < a') ∨ b' = 0) → 0 ≤ b' - 1 ∧ ((ts.drop (i + 1)).length : Int) ≤ a' + (b' - 1) ∧ fv (ts.drop (i + 1)) g a' (b' - 1) = fv ts g a b := fun h => by
      have hb : 0 < b' := by
        have : b' ≠ 0 := fun z => h (.inr z)
        omega
      refine ⟨by omega, by omega, ?_⟩
      rw [← h4, fv_out h1 hb (by rw [List.length_cons]; omega) (by
        by_cases q : t ∈ g
        · right
          have : ¬ 0 < a' := fun z => h (.inl ⟨q, z⟩)
          omega
        · exact .inl q)]
    have useIn : (t ∈ g ∧ 0 < a') ∨ b' = 0 → ∃ a2 b2 g4, [some (sl ts), some (sl g), some (D.int (a' - 1)), some (D.int b'), some (D.str t)] = [some (sl ts), some (sl g), some (D.int a2), some (D.int b2), g4] ∧ 0 ≤ a2 ∧ 0 ≤ b2 ∧ ((ts.drop (i + 1)).length : Int) ≤ a2 + b2 ∧ fv (ts.drop (i + 1)) g a2 b2 = fv ts g a b := fun h => by
      obtain ⟨z1, z2, z3⟩ := hIn h
      exact ⟨_, _, _, rfl, z1, h2, z2, z3⟩
    have useOut : ¬ ((t ∈ g ∧ 0 < a') ∨ b' = 0) → ∃ a2 b2 g4, [some (sl ts), some (sl g), some (D.int a'), some (D.int (b' - 1)), some (D.str t)] = [some (sl ts), some (sl g), some (D.int a2), some (D.int b2), g4] ∧ 0 ≤ a2 ∧ 0 ≤ b2 ∧ ((ts.drop (i + 1)).length : Int) ≤ a2 + b2 ∧ fv (ts.drop (i + 1)) g a2 b2 = fv ts g a b := fun h => by
      obtain ⟨z1, z2, z3⟩ := hOut h
      exact ⟨_, _, _, rfl, h1, z1, z2, z3⟩
    clear hIn hOut h4 hab
    refine ⟨fun q1 => ?_, fun q1 => ?_⟩
    · have q1 := of_decide_eq_true q1
      walk_at "fw"
      refine ⟨fun q2 => ?_, fun q2 => ?_⟩
      · have q2 := of_decide_eq_false q2
        walk_at "fw"
        rw [eB]
        refine ⟨fun q3 => ?_, fun q3 => ?_⟩
        · have q3 := of_decide_eq_true q3
          walk_at "fw"
          exact ⟨rfl, useIn (.inr q3)⟩
        · have q3 := of_decide_eq_false q3
          walk_at "fw"
          exact ⟨rfl, useOut fun z => z.elim (fun z => q2 z.2) q3⟩
      · have q2 := of_decide_eq_true q2
        walk_at "fw"
        exact ⟨rfl, useIn (.inl ⟨q1.mpr q2, q2⟩)⟩
    · have q1 := of_decide_eq_false q1
      walk_at "fw"
      rw [eB]
      refine ⟨fun q3 => ?_, fun q3 => ?_⟩
      · have q3 := of_decide_eq_true q3
        walk_at "fw"
        exact ⟨rfl, useIn (.inr q3)⟩
      · have q3 := of_decide_eq_false q3
        walk_at "fw"
        exact ⟨rfl, useOut fun z => z.elim (fun z => q1 ⟨fun _ => z.2, fun _ => z.1⟩) q3⟩
  · obtain ⟨rfl, a', b', g4, rfl, h1, h2, h3, h4⟩ := hP
    rw [List.length_map, List.drop_length, fv_nil h1 h2] at h4
    walk_at "fw"
    rw [h4]; exact hk
end
end Fw

set_option maxHeartbeats 4000000
/-! The law of large games. -/
namespace Fw
open PySem PySem.Spec PyProof.Rows L2
local macro_rules | `(tactic| walk_at "fno") => `(tactic| first | (intro o ho; exact absurd ho (List.not_mem_nil)) | (simp; done) | (intro o ho; simp at ho; (try rcases ho with ho | ho) <;> subst ho <;> decide))
local macro_rules | `(tactic| walk_at "fop") => `(tactic| with_reducible first
  | refine dt_op opd_add ?_ | refine dt_op opd_sub ?_ | refine dt_op opd_mul ?_ | refine dt_op opd_fdivN ?_ | refine dt_op opd_mod ?_ | refine dt_op opd_pow ?_
  | refine dt_op opd_lt ?_ | refine dt_op opd_le ?_ | refine dt_op opd_gt ?_ | refine dt_op opd_ge ?_
  | refine dt_op opd_eq ?_ | refine dt_op opd_ne ?_ | refine dt_op opd_in ?_ | refine dt_op opd_in_sign ?_ | refine dt_op opd_add_str ?_ | refine dt_op opd_isN ?_ | refine dt_op opd_notN ?_
  | refine dt_op opd_ixL ?_ | refine dt_op opd_ixT ?_ | refine dt_op opf_cat.op ?_ | refine dt_op opf_rep.op ?_
  | refine dt_op opd_eqD ?_ | refine dt_op opd_neD ?_ | refine dt_op opd_eqDn ?_ | refine dt_op opd_inI ?_ | refine dt_op opd_eqI ?_ | refine dt_op opd_binI ?_ | refine dt_op opd_getI ?_)
local macro_rules | `(tactic| walk_at "fcb") => `(tactic| with_reducible first
  | refine dt_cb cad_lenA ?_ | refine dt_cb cad_lenI ?_ | refine dt_cb cad_isi ?_ | refine dt_cb cad_lenDR ?_ | refine dt_cb cad_max ?_ | refine dt_cb cad_min ?_ | refine dt_cb cad_all ?_ | refine dt_cb cad_any ?_ | refine dt_cb cad_sum ?_ | refine dt_cb cad_max2 ?_ | refine dt_cb cad_min2 ?_ | refine dt_cb cad_int1 ?_
  | refine dt_cb caf_list.ca ?_ | refine dt_cb caf_listD.ca ?_ | refine dt_cb caf_dictD.ca ?_ | refine dt_cb caf_dictP.ca ?_ | refine dt_cb caf_sortedS.ca ?_ | refine dt_cb caf_sortedD.ca ?_)
local macro_rules | `(tactic| walk_at "fex") => `(tactic| first
  | (refine ⟨(rfl : D.non = D.non), ?_⟩) | (refine ⟨_, .lst _, ?_⟩) | (refine ⟨_, .scr _, ?_⟩) | (refine ⟨_, _, _, rfl, rfl, rfl, ?_⟩) | (refine ⟨_, _, rfl, rfl, ?_⟩) | (refine ⟨_, rfl, ?_⟩) | (refine ⟨_, _, rfl, ?_⟩) | (refine ⟨_, _, _, rfl, ?_⟩) | (refine ⟨_, _, _, _, rfl, ?_⟩) | (refine ⟨_, _, _, _, _, rfl, ?_⟩) | (refine ⟨_, _, _, _, _, _, rfl, ?_⟩) | (refine ⟨_, .inl rfl, rfl, flat_strs _, ?_⟩) | (refine ⟨_, .inl rfl, ?_⟩) | (refine ⟨rfl, rfl, rfl, ?_⟩) | (refine ⟨(by simp only [List.length_cons, List.length_nil]; decide : List.length _ ≤ sizeLine), ?_⟩) | (refine ⟨fun _ => ?_, fun h => absurd h (by decide)⟩) | (refine ⟨fun h => absurd h (by decide), fun _ => ?_⟩))
local macro_rules | `(tactic| walk_at "fdi") => `(tactic| with_reducible first
  | refine di_list ?_ | refine di_range1 ?_ | refine di_range2 ?_ | refine di_range3 ?_ | refine di_str ?_ | refine di_items ?_ | refine di_values ?_ | refine di_keys ?_ | refine di_keysM ?_ | refine di_enum ?_)
local macro_rules | `(tactic| walk_at "ffld") => `(tactic| first
  | ((with_reducible refine fld_Committee_own_members ‹_› (dt_var (d := .obj "Committee" ?fs0) ?a1 ?a2)); (case a1 => rfl); refine ⟨_, _, rfl, rfl, ?_⟩)
  | ((with_reducible refine fld_Ranking_order ‹_› (dt_var (d := .obj "Ranking" ?fs0) ?a1 ?a2)); (case a1 => rfl); refine ⟨_, _, rfl, rfl, ?_⟩)
  | ((with_reducible refine fld_Ranking_places ‹_› (dt_var (d := .obj "Ranking" ?fs0) ?a1 ?a2)); (case a1 => rfl); refine ⟨_, _, rfl, rfl, ?_⟩)
  | ((with_reducible refine fld_Turns_order ‹_› (dt_var (d := .obj "Turns" ?fs0) ?a1 ?a2)); (case a1 => rfl); refine ⟨_, _, rfl, rfl, ?_⟩)
  | ((with_reducible refine fld_Game_own_rankings ‹_› (dt_var (d := .obj "Game" ?fs0) ?a1 ?a2)); (case a1 => rfl); refine ⟨_, _, rfl, rfl, ?_⟩)
  | ((with_reducible refine fld_Game_own_turns ‹_› (dt_var (d := .obj "Game" ?fs0) ?a1 ?a2)); (case a1 => rfl); refine ⟨_, _, rfl, rfl, ?_⟩)
  | ((with_reducible refine fld_Striker_own_target ‹_› (dt_var (d := .obj "Striker" ?fs0) ?a1 ?a2)); (case a1 => rfl); refine ⟨_, _, rfl, rfl, ?_⟩)
  | ((with_reducible refine fld_Keeper_own_target ‹_› (dt_var (d := .obj "Keeper" ?fs0) ?a1 ?a2)); (case a1 => rfl); refine ⟨_, _, rfl, rfl, ?_⟩))
local macro_rules | `(tactic| walk_at "fkit") => `(tactic| first
  | refine ⟨_, _, _, _, _, rfl, .str _, .ty _, kit_str_str ‹_›, ?_⟩
  | refine ⟨_, _, _, _, _, rfl, .int _, .ty _, kit_int_int ‹_›, ?_⟩
  | refine ⟨_, _, _, _, _, rfl, .lst _, .ty _, kit_list_list ‹_›, ?_⟩
  | refine ⟨_, _, _, _, _, rfl, .dic _, .ty _, kit_dict_dict ‹_›, ?_⟩
  | refine ⟨_, _, _, _, _, rfl, .obj _ _ (ins_Committee ‹_›), .glo _, kit_Committee_Committee ‹_›, ?_⟩
  | refine ⟨_, _, _, _, _, rfl, .obj _ _ (ins_Ranking ‹_›), .glo _, kit_Ranking_Ranking ‹_›, ?_⟩
  | refine ⟨_, _, _, _, _, rfl, .obj _ _ (ins_Turns ‹_›), .glo _, kit_Turns_Turns ‹_›, ?_⟩
  | refine ⟨_, _, _, _, _, rfl, .obj _ _ (ins_Game ‹_›), .glo _, kit_Game_Game ‹_›, ?_⟩
  | refine ⟨_, _, _, _, _, rfl, .int _, .ty _, kit_int_bool ‹_›, ?_⟩
  | refine ⟨_, _, _, _, _, rfl, .bl _, .ty _, kit_bool_int ‹_›, ?_⟩
  | refine ⟨_, _, _, _, _, rfl, .bl _, .ty _, kit_bool_bool ‹_›, ?_⟩)
local macro_rules | `(tactic| walk_at "fw1") => `(tactic| first
  | ((with_reducible refine dt_var (d := ?d0) ?a1 ?a2); (case a1 => rfl))
  | (with_reducible first
    | refine dt_int ?_ | refine dt_str ?_ | refine dt_bl ?_ | refine dt_non ?_ | refine dt_ty ?_ | refine dt_glo ?_
    | refine da_cons ?_ | refine da_nil ?_ | refine dtt_b ?_ | refine dtt_test ?_ | refine dtt_yes ?_ | refine dtt_not ?_ | refine dtt_and ?_ | refine dtt_or ?_ 
    | refine ds_unlAsg ?_ | refine ds_seq ?_ | refine ds_next ?_ | refine ds_ret ?_ | refine ds_retN ?_
    | refine dt_andV ?_ | refine dt_orV ?_ | refine dt_notV ?_ | refine dt_if ?_ | refine dt_chain opd_le opd_le ?_ | refine dt_chain opd_lt opd_lt ?_
    | refine dt_call0 ?_ | refine dt_prop ?_ | refine dt_make ?_ | refine dt_dget ?_ | refine dt_din ?_ | refine dt_dnotin ?_
    | refine (df_slL ?_).dt | refine do_none ?_ | refine do_some ?_ | refine (df_listVals ?_).dt | refine dt_stm ?_ | refine df_lst ?_ | refine df_cb caf_list ?_ | refine df_cb caf_listD ?_ | refine df_cb caf_dictD ?_ | refine df_cb caf_dictP ?_ | refine df_cb caf_sortedS ?_ | refine df_cb caf_sortedD ?_ | refine df_op opf_cat ?_ | refine df_listVals ?_ | refine df_make ?_ | refine df_slL ?_ | refine df_dnew ?_ | refine dt_lst ?_ | refine dt_tup ?_ | refine (df_dnew ?_).dt)
  | ((with_reducible refine dt_methS 0 (x := ?x0) (fs := ?f0) ?a1 ?a2 ?a3); (case a1 => rfl); (case a2 => rfl)) | (with_reducible refine dt_meth0 ?_)
  | (with_reducible refine dt_un und_neg ?_)
  | ((with_reducible refine dt_inO 0 (ds := ?d0) ?a1 ?a2); (case a1 => rfl)) | ((with_reducible refine dt_lenO 0 (ds := ?d0) ?a1 ?a2); (case a1 => rfl)) | ((with_reducible refine dt_lenO 1 (ds := ?d0) ?a1 ?a2); (case a1 => rfl))
  | ((with_reducible refine dm_popAt 0 (ds := ?d0) ?a1 ?a2); (case a1 => rfl)) | ((with_reducible refine dm_popAt 1 (ds := ?d0) ?a1 ?a2); (case a1 => rfl)) | (with_reducible refine DT.dm ?_) | walk_at "fop" | walk_at "fcb" | walk_at "fdi"
  | ((with_reducible refine ds_asgE ?a1 ?a2 ?a3); (case a1 => walk_at "fno"); (case a2 => simp [startG])) | ((with_reducible refine ds_asg ?a1 ?a2); (case a1 => walk_at "fno")) | ((with_reducible refine ds_asgT ?a1 ?a2 ?a3); (case a1 => walk_at "fno"); (case a2 => walk_at "fno")) | ((with_reducible refine ds_append 0 (ds := ?d0) ?a1 ?a2); (case a1 => rfl)) | ((with_reducible refine ds_append 1 (ds := ?d0) ?a1 ?a2); (case a1 => rfl)) | (with_reducible refine ds_expr ?_) | ((with_reducible refine ds_par ?a1 ?a2 ?a3); (case a1 => walk_at "fno"); (case a2 => walk_at "fno"))
  | ((with_reducible refine dg_tup ?a1 ?a2); (case a1 => rfl)) | (with_reducible refine dgs_cons ?_) | (with_reducible refine dgs_nil ?_) | (with_reducible refine lct ?_) | (with_reducible refine dct ?_)
  | ((with_reducible refine dg_name ?a1 ?a2); (case a1 => walk_at "fno"))
  | walk_at "ffld" | walk_at "fex" | walk_at "fkit")
local macro_rules | `(tactic| walk_at "fw") => `(tactic| repeat (first | walk_at "fw1" | (with_reducible refine ds_if ?_)))
local macro_rules | `(tactic| walk_at "fwn") => `(tactic| repeat walk_at "fw1")

section
variable {P : Program} {w : World} {K : PySem.W.Frag} {mg : Str → Option Value} {base : Heap}
def wt_law_safe : Wt := fun ds kk _ => ∃ (rs : List (Str × List Str)) (ts : List Str) (p : Str), ds = [ownD rs ts, .str p] ∧ ts.length ≤ 30 ∧ ∀ d, SafeIs ts p 30 d → kk d
theorem ok_law_safe (T : TX K mg) : Ok P w K mg base 2 (He.ga K "_law_safe") ["_law_own_here", "_law_player"] (spD K wt_law_safe) := by
  obtain ⟨fd, F⟩ := T.def_ 59 (d := d_law_safe)
  have k_law_many := ok_law_many (P := P) (w := w) (base := base) T
  refine ⟨⟨fd, fnD F sc_law_safe (fun _ _ _ h => by obtain ⟨rs, ts, p, rfl, hl, hk⟩ := h; rfl) (fun cdv A outer s H E hr => ⟨_, (pss_cons (ps_for (passes_of rfl) rfl (pi_range3 (by rfl) (T.free 47) (pa_cons pe_int (pa_cons (pe_un un_neg pe_int) (pa_cons (pe_un un_neg pe_int) pa_nil)))) (pg_name (i := 2) sc_law_safe.nd rfl (by first | exact Or.inl rfl | exact Or.inr rfl)) (pss_one (ps_if (pt_cmpR op_gt (q_call k_law_many hr (T.glo 86) (pa_cons (pe_ix (z_ixL K) (pv 0) pe_int (fun _ _ => rfl)) (pa_cons (pe_lst (pa_cons (pv 1) pa_nil)) (pa_cons (pe_op op_sub pe_int (pv 2)) (pa_cons (pv 2) pa_nil))))) pe_int (nomark _)) (pss_one (ps_ret (pv 2))) pss_nil))) (pss_one (ps_ret pe_non))), fun ds kk ke h => ?_⟩), FunD.bindsN F fun _ _ _ _ _ _ us hl => match us, hl with | [_, _], _ => rfl⟩, F.kp⟩
  obtain ⟨rs, ts, p, rfl, hl, hk⟩ := h
  try dsimp only [cxK]
  walk_at "fw"
  refine ds_for [2] (fun _ i G' O' => O' = [] ∧ (∃ g, G' = [some (ownD rs ts), some (.str p), g]) ∧ ∀ j : Nat, 30 - i ≤ j → j < 30 → ¬ 0 < nl ts [p] (30 - j) 30) ?_
  walk_at "fw"
  have rg : RgC 29 (-1) (-1) 30 := RgC.neg (i := 29) (j := -1) (by decide) (by decide) (by decide) (by decide)
  refine ⟨_, _, _, 30, rfl, rg, ⟨rfl, ⟨_, rfl⟩, fun j h1 h2 => absurd h2 (by omega)⟩, fun i x G' O' hi hP => ?_, fun G' O' hP => ?_⟩
  · obtain ⟨rfl, ⟨g, rfl⟩, hj⟩ := hP
    have hin : i < 30 := by
      have := (List.getElem?_eq_some_iff.mp hi).1
      rw [rngC_len] at this; exact this
    rw [rngC_get hin] at hi
    have hx : x = .int ((29 - i : Nat) : Int) := by
      rw [← Option.some.inj hi]; congr 1; omega
    subst hx
    have hkn : 29 - i < 30 := by omega
    generalize hk' : 29 - i = k at *
    walk_at "fw"
    refine ⟨ts, [p], 30 - (k : Int), (k : Int), rfl, by omega, by omega, by omega, by omega, ?_⟩
    walk_at "fw"
    have en : nl ts [p] (30 - k) 30 = fv ts [p] (30 - (k : Int)) (k : Int) := nl_at (n := 30) (by omega)
    rw [← en]
    refine ⟨fun h => ?_, fun h => ?_⟩
    · walk_at "fw"
      exact hk _ (.inl ⟨k, hkn, rfl, of_decide_eq_true h, fun j h1 h2 => hj j (by omega) h2⟩)
    · walk_at "fw"
      refine ⟨rfl, ⟨_, rfl⟩, fun j h1 h2 => ?_⟩
      by_cases e : j = k
      · subst e; exact of_decide_eq_false h
      · exact hj j (by omega) h2
  · obtain ⟨rfl, ⟨g, rfl⟩, hj⟩ := hP
    walk_at "fw"
    exact hk _ (.inr ⟨rfl, fun j h => hj j (by rw [rngC_len]; omega) h⟩)
end
end Fw

set_option maxHeartbeats 4000000
/-! The law of large games. -/
namespace Fw
open PySem PySem.Spec PyProof.Rows L2
local macro_rules | `(tactic| walk_at "fno") => `(tactic| first | (intro o ho; exact absurd ho (List.not_mem_nil)) | (simp; done) | (intro o ho; simp at ho; (try rcases ho with ho | ho) <;> subst ho <;> decide))
local macro_rules | `(tactic| walk_at "fop") => `(tactic| with_reducible first
  | refine dt_op opd_add ?_ | refine dt_op opd_sub ?_ | refine dt_op opd_mul ?_ | refine dt_op opd_fdivN ?_ | refine dt_op opd_mod ?_ | refine dt_op opd_pow ?_
  | refine dt_op opd_lt ?_ | refine dt_op opd_le ?_ | refine dt_op opd_gt ?_ | refine dt_op opd_ge ?_
  | refine dt_op opd_eq ?_ | refine dt_op opd_ne ?_ | refine dt_op opd_in ?_ | refine dt_op opd_in_sign ?_ | refine dt_op opd_add_str ?_ | refine dt_op opd_isN ?_ | refine dt_op opd_notN ?_
  | refine dt_op opd_ixL ?_ | refine dt_op opd_ixT ?_ | refine dt_op opf_cat.op ?_ | refine dt_op opf_rep.op ?_
  | refine dt_op opd_eqD ?_ | refine dt_op opd_neD ?_ | refine dt_op opd_eqDn ?_ | refine dt_op opd_inI ?_ | refine dt_op opd_eqI ?_ | refine dt_op opd_binI ?_ | refine dt_op opd_getI ?_)
local macro_rules | `(tactic| walk_at "fcb") => `(tactic| with_reducible first
  | refine dt_cb cad_lenA ?_ | refine dt_cb cad_lenI ?_ | refine dt_cb cad_isi ?_ | refine dt_cb cad_lenDR ?_ | refine dt_cb cad_max ?_ | refine dt_cb cad_min ?_ | refine dt_cb cad_all ?_ | refine dt_cb cad_any ?_ | refine dt_cb cad_sum ?_ | refine dt_cb cad_max2 ?_ | refine dt_cb cad_min2 ?_ | refine dt_cb cad_int1 ?_
  | refine dt_cb caf_list.ca ?_ | refine dt_cb caf_listD.ca ?_ | refine dt_cb caf_dictD.ca ?_ | refine dt_cb caf_dictP.ca ?_ | refine dt_cb caf_sortedS.ca ?_ | refine dt_cb caf_sortedD.ca ?_)
local macro_rules | `(tactic| walk_at "fex") => `(tactic| first
  | (refine ⟨(rfl : D.non = D.non), ?_⟩) | (refine ⟨_, .lst _, ?_⟩) | (refine ⟨_, .scr _, ?_⟩) | (refine ⟨_, _, _, rfl, rfl, rfl, ?_⟩) | (refine ⟨_, _, rfl, rfl, ?_⟩) | (refine ⟨_, rfl, ?_⟩) | (refine ⟨_, _, rfl, ?_⟩) | (refine ⟨_, _, _, rfl, ?_⟩) | (refine ⟨_, _, _, _, rfl, ?_⟩) | (refine ⟨_, _, _, _, _, rfl, ?_⟩) | (refine ⟨_, _, _, _, _, _, rfl, ?_⟩) | (refine ⟨_, .inl rfl, rfl, flat_strs _, ?_⟩) | (refine ⟨_, .inl rfl, ?_⟩) | (refine ⟨rfl, rfl, rfl, ?_⟩) | (refine ⟨(by simp only [List.length_cons, List.length_nil]; decide : List.length _ ≤ sizeLine), ?_⟩) | (refine ⟨fun _ => ?_, fun h => absurd h (by decide)⟩) | (refine ⟨fun h => absurd h (by decide), fun _ => ?_⟩))
local macro_rules | `(tactic| walk_at "fdi") => `(tactic| with_reducible first
  | refine di_list ?_ | refine di_range1 ?_ | refine di_range2 ?_ | refine di_range3 ?_ | refine di_str ?_ | refine di_items ?_ | refine di_values ?_ | refine di_keys ?_ | refine di_keysM ?_ | refine di_enum ?_)
local macro_rules | `(tactic| walk_at "ffld") => `(tactic| first
  | ((with_reducible refine fld_Committee_own_members ‹_› (dt_var (d := .obj "Committee" ?fs0) ?a1 ?a2)); (case a1 => rfl); refine ⟨_, _, rfl, rfl, ?_⟩)
  | ((with_reducible refine fld_Ranking_order ‹_› (dt_var (d := .obj "Ranking" ?fs0) ?a1 ?a2)); (case a1 => rfl); refine ⟨_, _, rfl, rfl, ?_⟩)
  | ((with_reducible refine fld_Ranking_places ‹_› (dt_var (d := .obj "Ranking" ?fs0) ?a1 ?a2)); (case a1 => rfl); refine ⟨_, _, rfl, rfl, ?_⟩)
  | ((with_reducible refine fld_Turns_order ‹_› (dt_var (d := .obj "Turns" ?fs0) ?a1 ?a2)); (case a1 => rfl); refine ⟨_, _, rfl, rfl, ?_⟩)
  | ((with_reducible refine fld_Game_own_rankings ‹_› (dt_var (d := .obj "Game" ?fs0) ?a1 ?a2)); (case a1 => rfl); refine ⟨_, _, rfl, rfl, ?_⟩)
  | ((with_reducible refine fld_Game_own_turns ‹_› (dt_var (d := .obj "Game" ?fs0) ?a1 ?a2)); (case a1 => rfl); refine ⟨_, _, rfl, rfl, ?_⟩)
  | ((with_reducible refine fld_Striker_own_target ‹_› (dt_var (d := .obj "Striker" ?fs0) ?a1 ?a2)); (case a1 => rfl); refine ⟨_, _, rfl, rfl, ?_⟩)
  | ((with_reducible refine fld_Keeper_own_target ‹_› (dt_var (d := .obj "Keeper" ?fs0) ?a1 ?a2)); (case a1 => rfl); refine ⟨_, _, rfl, rfl, ?_⟩))
local macro_rules | `(tactic| walk_at "fkit") => `(tactic| first
  | refine ⟨_, _, _, _, _, rfl, .str _, .ty _, kit_str_str ‹_›, ?_⟩
  | refine ⟨_, _, _, _, _, rfl, .int _, .ty _, kit_int_int ‹_›, ?_⟩
  | refine ⟨_, _, _, _, _, rfl, .lst _, .ty _, kit_list_list ‹_›, ?_⟩
  | refine ⟨_, _, _, _, _, rfl, .dic _, .ty _, kit_dict_dict ‹_›, ?_⟩
  | refine ⟨_, _, _, _, _, rfl, .obj _ _ (ins_Committee ‹_›), .glo _, kit_Committee_Committee ‹_›, ?_⟩
  | refine ⟨_, _, _, _, _, rfl, .obj _ _ (ins_Ranking ‹_›), .glo _, kit_Ranking_Ranking ‹_›, ?_⟩
  | refine ⟨_, _, _, _, _, rfl, .obj _ _ (ins_Turns ‹_›), .glo _, kit_Turns_Turns ‹_›, ?_⟩
  | refine ⟨_, _, _, _, _, rfl, .obj _ _ (ins_Game ‹_›), .glo _, kit_Game_Game ‹_›, ?_⟩
  | refine ⟨_, _, _, _, _, rfl, .int _, .ty _, kit_int_bool ‹_›, ?_⟩
  | refine ⟨_, _, _, _, _, rfl, .bl _, .ty _, kit_bool_int ‹_›, ?_⟩
  | refine ⟨_, _, _, _, _, rfl, .bl _, .ty _, kit_bool_bool ‹_›, ?_⟩)
local macro_rules | `(tactic| walk_at "fw1") => `(tactic| first
  | ((with_reducible refine dt_var (d := ?d0) ?a1 ?a2); (case a1 => rfl))
  | (with_reducible first
    | refine dt_int ?_ | refine dt_str ?_ | refine dt_bl ?_ | refine dt_non ?_ | refine dt_ty ?_ | refine dt_glo ?_
    | refine da_cons ?_ | refine da_nil ?_ | refine dtt_b ?_ | refine dtt_test ?_ | refine dtt_yes ?_ | refine dtt_not ?_ | refine dtt_and ?_ | refine dtt_or ?_ 
    | refine ds_unlAsg ?_ | refine ds_seq ?_ | refine ds_next ?_ | refine ds_ret ?_ | refine ds_retN ?_
    | refine dt_andV ?_ | refine dt_orV ?_ | refine dt_notV ?_ | refine dt_if ?_ | refine dt_chain opd_le opd_le ?_ | refine dt_chain opd_lt opd_lt ?_
    | refine dt_call0 ?_ | refine dt_prop ?_ | refine dt_make ?_ | refine dt_dget ?_ | refine dt_din ?_ | refine dt_dnotin ?_
    | refine (df_slL ?_).dt | refine do_none ?_ | refine do_some ?_ | refine (df_listVals ?_).dt | refine dt_stm ?_ | refine df_lst ?_ | refine df_cb caf_list ?_ | refine df_cb caf_listD ?_ | refine df_cb caf_dictD ?_ | refine df_cb caf_dictP ?_ | refine df_cb caf_sortedS ?_ | refine df_cb caf_sortedD ?_ | refine df_op opf_cat ?_ | refine df_listVals ?_ | refine df_make ?_ | refine df_slL ?_ | refine df_dnew ?_ | refine dt_lst ?_ | refine dt_tup ?_ | refine (df_dnew ?_).dt)
  | ((with_reducible refine dt_methS 0 (x := ?x0) (fs := ?f0) ?a1 ?a2 ?a3); (case a1 => rfl); (case a2 => rfl)) | (with_reducible refine dt_meth0 ?_)
  | (with_reducible refine dt_un und_neg ?_)
  | ((with_reducible refine dt_inO 0 (ds := ?d0) ?a1 ?a2); (case a1 => rfl)) | ((with_reducible refine dt_lenO 0 (ds := ?d0) ?a1 ?a2); (case a1 => rfl)) | ((with_reducible refine dt_lenO 1 (ds := ?d0) ?a1 ?a2); (case a1 => rfl))
  | ((with_reducible refine dm_popAt 0 (ds := ?d0) ?a1 ?a2); (case a1 => rfl)) | ((with_reducible refine dm_popAt 1 (ds := ?d0) ?a1 ?a2); (case a1 => rfl)) | (with_reducible refine DT.dm ?_) | walk_at "fop" | walk_at "fcb" | walk_at "fdi"
  | ((with_reducible refine ds_asgE ?a1 ?a2 ?a3); (case a1 => walk_at "fno"); (case a2 => simp [startG])) | ((with_reducible refine ds_asg ?a1 ?a2); (case a1 => walk_at "fno")) | ((with_reducible refine ds_asgT ?a1 ?a2 ?a3); (case a1 => walk_at "fno"); (case a2 => walk_at "fno")) | ((with_reducible refine ds_append 0 (ds := ?d0) ?a1 ?a2); (case a1 => rfl)) | ((with_reducible refine ds_append 1 (ds := ?d0) ?a1 ?a2); (case a1 => rfl)) | (with_reducible refine ds_expr ?_) | ((with_reducible refine ds_par ?a1 ?a2 ?a3); (case a1 => walk_at "fno"); (case a2 => walk_at "fno"))
  | ((with_reducible refine dg_tup ?a1 ?a2); (case a1 => rfl)) | (with_reducible refine dgs_cons ?_) | (with_reducible refine dgs_nil ?_) | (with_reducible refine lct ?_) | (with_reducible refine dct ?_)
  | ((with_reducible refine dg_name ?a1 ?a2); (case a1 => walk_at "fno"))
  | walk_at "ffld" | walk_at "fex" | walk_at "fkit")
local macro_rules | `(tactic| walk_at "fw") => `(tactic| repeat (first | walk_at "fw1" | (with_reducible refine ds_if ?_)))
local macro_rules | `(tactic| walk_at "fwn") => `(tactic| repeat walk_at "fw1")

section
variable {P : Program} {w : World} {K : PySem.W.Frag} {mg : Str → Option Value} {base : Heap}
def wt_law : Wt := fun ds kk _ => ∃ ns : List Int, ds = [.scr ns] ∧ kk (.bl true)
theorem ok_law {fd : FuncData} (T : TX K mg) (F : FunD K d_law.name d_law.qual (defArgs d_law.st) (defBody d_law.st) (defScope d_law.st) [] [] (d_law.at_.ad K) fd) : FnOk P w K mg base (L2.CX P w) 13 (He.ga K "law") fd ["_law_script"] (spD K wt_law) := by
  have k_Committee_init := ok_Committee_init (P := P) (w := w) (base := base) T
  have k_Committee_members := ok_Committee_members (P := P) (w := w) (base := base) T
  have k_law_all := ok_law_all (P := P) (w := w) (base := base) T
  have k_law_draw := ok_law_draw (P := P) (w := w) (base := base) T
  have k_law_game := ok_law_game (P := P) (w := w) (base := base) T
  have k_law_many := ok_law_many (P := P) (w := w) (base := base) T
  have k_law_safe := ok_law_safe (P := P) (w := w) (base := base) T
  have k_law_shuffled := ok_law_shuffled (P := P) (w := w) (base := base) T
  have k_law_stream := ok_law_stream (P := P) (w := w) (base := base) T
  have k_law_thirty := ok_law_thirty (P := P) (w := w) (base := base) T
  have k_can_strike_out := ok_can_strike_out (P := P) (w := w) (base := base) T
  have k_number_left := ok_number_left (P := P) (w := w) (base := base) T
  have k_result_of := ok_result_of (P := P) (w := w) (base := base) T
  have k_safe_place := ok_safe_place (P := P) (w := w) (base := base) T
  have k_side_strategies := ok_side_strategies (P := P) (w := w) (base := base) T
  refine fnD F sc_law (fun _ _ _ h => by obtain ⟨_, rfl, _⟩ := h; rfl) (fun cdv A outer s H E hr => ⟨_, (pss_cons (ps_for (passes_of rfl) rfl (pi_range1 (by rfl) (T.free 47) (pa_cons (pe_callB (call_max2 rfl) (by rfl) (T.free 45) (by decide +kernel) (pa_cons pe_int (pa_cons (pe_callB (call_min2 rfl) (by rfl) (T.free 87) (by decide +kernel) (pa_cons pe_int (pa_cons (pe_callB (z_len K) (by rfl) (T.free 2) boot_len (pa_cons (pv 0) pa_nil)) pa_nil))) pa_nil))) pa_nil)) (pg_name (i := 1) sc_law.nd rfl (by first | exact Or.inl rfl | exact Or.inr rfl)) (pss_cons (ps_set (i := 2) sc_law.nd rfl (by first | exact Or.inl rfl | exact Or.inr rfl) (q_call k_law_stream hr (T.glo 88) (pa_cons (pv 0) (pa_cons (pv 1) pa_nil)))) (pss_cons (ps_set (i := 3) sc_law.nd rfl (by first | exact Or.inl rfl | exact Or.inr rfl) (q_call k_law_thirty hr (T.glo 89) (pa_cons (pv 2) pa_nil))) (pss_cons (ps_set (i := 4) sc_law.nd rfl (by first | exact Or.inl rfl | exact Or.inr rfl) (q_call k_law_game hr (T.glo 90) (pa_cons (pv 3) pa_nil))) (pss_cons (ps_for (passes_of rfl) rfl (pi_range1 (by rfl) (T.free 47) (pa_cons pe_int pa_nil)) (pg_name (i := 5) sc_law.nd rfl (by first | exact Or.inl rfl | exact Or.inr rfl)) (pss_cons (ps_set (i := 6) sc_law.nd rfl (by first | exact Or.inl rfl | exact Or.inr rfl) (pe_slice (z_slL K) (q_call k_law_shuffled hr (T.glo 51) (pa_cons (pv 2) (pa_cons (pe_callTy (call_listD rfl) (by rfl) (T.free 4) (by decide +kernel) (pa_cons (pe_ix (z_ixL K) (pv 3) pe_int (fun _ _ => rfl)) pa_nil)) pa_nil))) po_none (po_some (q_call k_law_draw hr (T.glo 50) (pa_cons (pv 2) (pa_cons (pe_op op_add (pe_callB call_lenDR (by rfl) (T.free 2) boot_len (pa_cons (pe_ix (z_ixL K) (pv 3) pe_int (fun _ _ => rfl)) pa_nil)) pe_int) pa_nil)))))) (pss_cons (ps_set (i := 7) sc_law.nd rfl (by first | exact Or.inl rfl | exact Or.inr rfl) (pe_slice (z_slL K) (q_call k_law_shuffled hr (T.glo 51) (pa_cons (pv 2) (pa_cons (q_call k_law_all hr (T.glo 91) (pa_cons (pv 3) pa_nil)) pa_nil))) po_none (po_some (q_call k_law_draw hr (T.glo 50) (pa_cons (pv 2) (pa_cons pe_int pa_nil)))))) (pss_cons (ps_set (i := 8) sc_law.nd rfl (by first | exact Or.inl rfl | exact Or.inr rfl) (q_call k_law_many hr (T.glo 86) (pa_cons (pe_ix (z_ixL K) (pv 3) pe_int (fun _ _ => rfl)) (pa_cons (pv 6) (pa_cons (pe_callB (z_len K) (by rfl) (T.free 2) boot_len (pa_cons (pv 7) pa_nil)) (pa_cons (pe_op op_sub pe_int (pe_callB (z_len K) (by rfl) (T.free 2) boot_len (pa_cons (pv 7) pa_nil))) pa_nil)))))) (pss_cons (ps_if (pt_cmpR op_ne (q_call k_number_left hr (T.glo 48) (pa_cons (pv 4) (pa_cons (pv 6) (pa_cons (q_make k_Committee_init (T.mkr 21) hr (T.glo 11) (pa_cons (pv 7) pa_nil)) pa_nil)))) (pv 8) (nomark _)) (pss_one (ps_ret pe_bl)) pss_nil) (pss_cons (ps_if (pt_cmpR op_ne (q_call k_can_strike_out hr (T.glo 92) (pa_cons (pv 4) (pa_cons (pv 6) (pa_cons (q_make k_Committee_init (T.mkr 21) hr (T.glo 11) (pa_cons (pv 7) pa_nil)) pa_nil)))) (pe_cmpR op_eq (pv 8) pe_int (nomark _)) (nomark _)) (pss_one (ps_ret pe_bl)) pss_nil) (pss_one (ps_if (pt_cmpR op_eq (pv 5) pe_int (nomark _)) (pss_cons (ps_set (i := 9) sc_law.nd rfl (by first | exact Or.inl rfl | exact Or.inr rfl) (q_prop k_Committee_members (q_call k_result_of hr (T.glo 93) (pa_cons (pv 4) (pa_cons (q_call k_side_strategies hr (T.glo 94) (pa_cons (pv 4) (pa_cons (pv 6) (pa_cons (q_make k_Committee_init (T.mkr 21) hr (T.glo 11) (pa_cons (pv 7) pa_nil)) pa_nil)))) pa_nil))) (T.cls 9) (T.prop 19) hr)) (pss_one (ps_if (pt_cmpR op_ne (pe_callB (z_len K) (by rfl) (T.free 2) boot_len (pa_cons (pe_lc (own := [("_law_name", 10)]) rfl sc_law.nd (z_plist K (pv 9)) (blkOk_by (own := [("_law_name", 10)]) (N := N_law) (sc := defScope s_law) (by decide +kernel)) (fun _ _ _ _ _ => (pg_name (i := 10) sc_law.nd rfl (by first | exact Or.inl rfl | exact Or.inr rfl))) (fun _ _ _ _ _ => (pts_one (pt_cmpR (z_in K) (pv 10) (pv 7) (by rfl)))) (fun _ _ _ _ _ => (pv 10))) pa_nil)) (pv 8) (nomark _)) (pss_one (ps_ret pe_bl)) pss_nil))) pss_nil)))))))) (pss_one (ps_if (pt_cmpR (z_neD K hr) (pe_unl (pe_lc (own := [("_law_player", 11)]) rfl sc_law.nd (pi_keys (pe_lk (pe_ix (z_ixL K) (pv 3) pe_int (fun _ _ => rfl)))) (blkOk_by (own := [("_law_player", 11)]) (N := N_law) (sc := defScope s_law) (by decide +kernel)) (fun _ _ _ _ _ => (pg_name (i := 11) sc_law.nd rfl (by first | exact Or.inl rfl | exact Or.inr rfl))) (fun _ _ _ _ _ => (pts_one (pt_cmpR (z_neD K hr) (q_call k_safe_place hr (T.glo 95) (pa_cons (pv 4) (pa_cons (pv 11) pa_nil))) (q_call k_law_safe hr (T.glo 96) (pa_cons (pv 3) (pa_cons (pv 11) pa_nil))) (nomark _)))) (fun _ _ _ _ _ => (pv 11)))) (pe_lst pa_nil) (nomark _)) (pss_one (ps_ret pe_bl)) pss_nil))))))) (pss_one (ps_ret pe_bl))), fun ds kk ke h => ?_⟩)
  obtain ⟨sc, rfl, hk⟩ := h
  try dsimp only [cxK]
  walk_at "fw"
  refine ds_for [1] (fun _ i G' O' => O' = [] ∧ ∃ g1 g2 g3 g4 g5 g6 g7 g8 g9 g10 g11 : Option D, G' = [some (.scr sc), g1, g2, g3, g4, g5, g6, g7, g8, g9, g10, g11]) ?_
  walk_at "fw"
  generalize hcnt : (if (if (sc.length : Int) < 4 then (sc.length : Int) else 4) > 1 then (if (sc.length : Int) < 4 then (sc.length : Int) else 4) else 1) = cnt
  have hc4 : cnt ≤ 4 := by rw [← hcnt]; split <;> split <;> omega
  have hc1 : 1 ≤ cnt := by rw [← hcnt]; split <;> split <;> omega
  refine ⟨by omega, by omega, ⟨rfl, _, _, _, _, _, _, _, _, _, _, _, rfl⟩, fun i x G' O' hi hP => ?_, fun G' O' hP => ?_⟩
  · obtain ⟨rfl, g1, g2, g3, g4, g5, g6, g7, g8, g9, g10, g11, rfl⟩ := hP
    have hin : i < cnt.toNat := by
      have := (List.getElem?_eq_some_iff.mp hi).1
      rw [rngD_len] at this; exact this
    rw [rngD_get hin, Int.zero_add] at hi
    have hx := Option.some.inj hi
    subst hx
    walk_at "fw"
    refine ⟨by omega, ?_⟩
    walk_at "fw"
    refine ⟨rfl, fun rs ts ns ok hns => ?_⟩
    have htl := ok.tl
    have hl3 := ok.len
    walk_at "fw"
    refine ⟨rs, ts, ns, rfl, ok, ?_⟩
    obtain ⟨q, r, eq⟩ := List.exists_cons_of_ne_nil (srs_ne ok.rks)
    have hq : q ∈ rs := srs_mem (by rw [eq]; exact List.mem_cons_self)
    have hky : (q :: r).map Prod.fst = srt (rs.map Prod.fst) := by rw [← eq, srs_keys]
    rw [eq]
    have gx : GX (q :: r) ts := by
      rw [← eq]
      exact ⟨rks_srs ok.rks, srs_sk rs, fun p h => ok.nd2 (srs_mem h), by omega, fun p h => by rw [ok.ln (srs_mem h)]; exact ok.tl, fun t h => by rw [srs_keys]; exact srt_mem.mpr (ok.tk t h)⟩
    walk_at "fw"
    have hsn : (srt ns).length = ns.length := srt_len ok.nsd
    refine ds_for [5] (fun _ _ G' O' => O' = [] ∧ ∃ g5 g6 g7 g8 g9 g10 g11 : Option D, G' = [some (.scr sc), some (.int (i : Nat)), some .stm, some (ownD rs ts), some (gm (q :: r) ts), g5, g6, g7, g8, g9, g10, g11]) ?_
    walk_at "fw"
    refine ⟨by decide, by decide, ⟨rfl, _, _, _, _, _, _, _, rfl⟩, fun i2 x2 G2 O2 hi2 hP2 => ?_, fun G2 O2 hP2 => ?_⟩
    · obtain ⟨rfl, f5, f6, f7, f8, f9, f10, f11, rfl⟩ := hP2
      have hin2 : i2 < 3 := by
        have := (List.getElem?_eq_some_iff.mp hi2).1
        rw [rngD_len] at this; exact this
      rw [rngD_get (n := (3 : Int).toNat) hin2, Int.zero_add] at hi2
      have hx2 := Option.some.inj hi2
      subst hx2
      walk_at "fw"
      refine ⟨rs.map Prod.fst, by show [D.stm, D.lst ((rs.map fun p => ((.inr p.1 : Key), sl p.2)).map fun kv => kD kv.1)] = _; rw [own_keys], by rw [List.length_map]; omega, fun gs hgp => ?_⟩
      walk_at "fw"
      rw [List.length_map]
      refine ⟨by omega, by omega, fun r1 r10 r11 => ?_⟩
      have er1 : r1 = ((r1.toNat : Nat) : Int) := by omega
      rw [er1]
      walk_at "fw"
      simp only [cut_to]
      have hgl : (gs.take r1.toNat).length ≤ 4 := by
        have := hgp.length_eq
        rw [List.length_map] at this
        rw [List.length_take]; omega
      have hgs : ∀ s ∈ gs.take r1.toNat, isName s = true ∧ s ∈ (q :: r).map Prod.fst := fun s hs => by
        have hk1 : s ∈ rs.map Prod.fst := hgp.mem_iff.mp (List.mem_of_mem_take hs)
        obtain ⟨p, hp, ep⟩ := List.mem_map.mp hk1
        exact ⟨by rw [← ep]; exact ok.name p hp, by rw [hky]; exact srt_mem.mpr hk1⟩
      generalize gs.take r1.toNat = g at *
      refine ⟨rs, ts, ns, rfl, ok, ?_⟩
      walk_at "fw"
      refine ⟨by omega, fun ys hy => ?_⟩
      walk_at "fw"
      refine ⟨by decide, by decide, fun rr r0 r1 => ?_⟩
      have er : rr = ((rr.toNat : Nat) : Int) := by omega
      rw [er]
      walk_at "fw"
      simp only [cut_to, List.length_map]
      have hyn : ys.Nodup := (List.Perm.nodup_iff hy).mpr (srt_nodup ns)
      have htn : (ys.take rr.toNat).Nodup := hyn.sublist (List.take_sublist _ _)
      have htm : ∀ s ∈ ys.take rr.toNat, s ∈ ns := fun s h => srt_mem.mp (hy.mem_iff.mp (List.mem_of_mem_take h))
      have htl2 : (ys.take rr.toNat).length ≤ 30 := by rw [List.length_take]; omega
      generalize ys.take rr.toNat = tg at *
      refine ⟨by omega, by omega, by omega, by omega, ?_⟩
      walk_at "fw"
      have l1 : (srt tg).length = tg.length := srt_len htn
      have l2 : (srt q.2).length = 30 := by rw [srt_len (ok.nd2 hq), ok.ln hq, hns]
      have em : nl ts g (srt tg).length (srt q.2).length = fv ts g (tg.length : Int) (30 - (tg.length : Int)) := by rw [nl_fv, l1, l2]; rfl
      have cmk : tg.length ≤ 1000 ∧ (∀ s ∈ tg, isName s = true) ∧ (srt tg).length ≤ 30 := ⟨by omega, fun s h => ok.nsn s (htm s h), by omega⟩
      have hmq : ∀ s ∈ srt tg, isName s = true ∧ s ∈ q.2 := fun s h => ⟨ok.nsn s (htm s (srt_mem.mp h)), (ok.perm q hq).mem_iff.mpr (htm s (srt_mem.mp h))⟩
      refine ⟨cmk.1, cmk.2.1, cmk.2.2, ?_⟩
      walk_at "fw"
      refine ⟨by omega, hgs, hmq, by rw [ok.ln hq]; omega, ok.nm hq, by omega, by omega, ?_⟩
      rw [em]
      walk_at "fw"
      refine ⟨fun h => absurd h (by simp), fun _ => ?_⟩
      walk_at "fw"
      refine ⟨cmk.1, cmk.2.1, cmk.2.2, ?_⟩
      walk_at "fw"
      refine ⟨by omega, hgs, hmq, by rw [ok.ln hq]; omega, ok.nm hq, by omega, by omega, ?_⟩
      rw [em]
      walk_at "fw"
      rw [dint_eq]
      refine ⟨fun h => absurd h (by simp), fun _ => ?_⟩
      walk_at "fw"
      rw [dint_eq]
      refine ⟨fun h3 => ?_, fun _ => ?_⟩
      · walk_at "fw"
        refine ⟨cmk.1, cmk.2.1, cmk.2.2, ?_⟩
        walk_at "fw"
        refine ⟨by omega, hgs, hmq, gx.rk, ?_⟩
        walk_at "fw"
        refine ⟨gx, fun xs px => ?_⟩
        have hqn := gx.nds q List.mem_cons_self
        have i0 : inN q.2 [] (srt tg) = tg.length := in_start hqn htn fun s h => (ok.perm q hq).mem_iff.mpr (htm s h)
        have o0 : (outN q.2 [] (srt tg) : Int) = 30 - (tg.length : Int) := by
          have := in_out q.2 [] (srt tg)
          rw [left_nil, i0, ok.ln hq, hns] at this; omega
        have e3 : (((srt (leftL q.2 xs)).filter fun s => decide (s ∈ tg)).length : Int) = fv ts g (tg.length : Int) (30 - (tg.length : Int)) := by
          rw [in_end hqn, px.left, i0, o0]
        have hle : (srt (leftL q.2 xs)).length ≤ 30 := by
          have h1 := srt_le (leftL q.2 xs)
          have h2 : (leftL q.2 xs).length ≤ q.2.length := List.length_filter_le _ _
          rw [ok.ln hq, hns] at h2; omega
        walk_at "fw"
        refine (df_lcF [10] D.str (fun t => decide (t ∈ tg)) D.str (fun a b e => by cases e; exact ⟨rfl, rfl⟩) (by decide) (by walk_at "fno") ?_).dt
        walk_at "fw"
        refine ⟨szOf (by omega), fun t ht => ?_, ?_⟩
        · walk_at "fw"
          rw [inV_strs]
          refine ⟨fun h => ?_, fun h => ?_⟩
          · walk_at "fw"
            have h' : decide (t ∈ tg) = true := h
            rw [h']; rfl
          · have h' : decide (t ∈ tg) = false := h
            rw [h']; rfl
        · walk_at "fw"
          rw [List.length_map, dint_eq, e3]
          refine ⟨fun h => absurd h (by simp), fun _ => ?_⟩
          walk_at "fw"
          exact ⟨rfl, _, _, _, _, _, _, _, rfl⟩
      · walk_at "fw"
        exact ⟨rfl, _, _, _, _, _, _, _, rfl⟩
    · obtain ⟨rfl, f5, f6, f7, f8, f9, f10, f11, rfl⟩ := hP2
      walk_at "fw"
      refine (df_lcLF [11] D.str (fun _ => false) D.str (fun a b e => by cases e; exact ⟨rfl, rfl⟩) (by decide) (by walk_at "fno") ?_).dt
      walk_at "fw"
      refine ⟨rs.map Prod.fst, own_keys rs, szOf (by rw [List.length_map]; omega), fun p hp => ?_, ?_⟩
      · walk_at "fw"
        have hpk : p ∈ (q :: r).map Prod.fst := by rw [hky]; exact srt_mem.mpr hp
        refine ⟨gx.ok, hpk, fun d1 h1 => ?_⟩
        have hln : (lk (q :: r) p).length = 30 := by
          have hm2 := lk_mem hpk
          rw [← eq] at hm2 ⊢
          rw [← hns]
          exact ok.ln (srs_mem hm2)
        rw [hln] at h1
        walk_at "fw"
        refine ⟨by omega, fun d2 h2 => ?_⟩
        have ed := safe_uniq h1 h2
        subst ed
        obtain ⟨pdq, s1, s2, s3⟩ := safe_pd h2
        refine ⟨_, _, s1, s1, s2, s2, ?_⟩
        rw [s3]
        walk_at "fw"
        rfl
      · have ef : (rs.map Prod.fst).filter (fun _ => false) = [] := List.filter_eq_nil_iff.mpr (by simp)
        rw [ef]
        walk_at "fw"
        refine ⟨shaped_sl (ss := []) (fun s h => by cases h), shaped_sl (ss := []) (fun s h => by cases h), ?_⟩
        have e0 : PyData.eqv (.list []) (.list []) = true := by rw [show PyData.eqv (.list []) (.list []) = decide (([] : List Str) = []) from eqv_sl (ss := []) (ts := [])]; rfl
        rw [e0]
        walk_at "fw"
        exact ⟨rfl, _, _, _, _, _, _, _, _, _, _, _, rfl⟩
  · obtain ⟨rfl, g1, g2, g3, g4, g5, g6, g7, g8, g9, g10, g11, rfl⟩ := hP
    walk_at "fw"
    exact hk
end
end Fw

set_option maxHeartbeats 0
/-! The end. -/
namespace Fw
open PySem PySem.Spec PyProof.Rows L2
theorem cx0 {P : Program} {w : World} {K : PySem.W.Frag} {mg : Str → Option Value} {base : Heap} {k : Nat} {f : Addr} {fd : FuncData} {ps : List Str} {sp : Sp} (F : FnOk P w K mg base (L2.CX P w) k f fd ps sp) :
    FnOk P w K mg base (fun _ _ _ _ _ _ => False) k f fd ps (fun vs H Q _ => sp vs H Q E0) :=
  ⟨fun vs H Q E h => F.len vs H Q E0 h, fun A o s H args us vs Q E hr e b v h => codeAny_mono (F.run A o s H args us vs Q E0 hr e b v h) fun r s' q => by
    cases r with
    | ok x => cases x <;> exact q
    | error e =>
      obtain ⟨_, _, _, _, _, _, _, _, _, _, _, _, z⟩ := q
      exact z.elim⟩
theorem facts {P : Program} {w : World} {K : PySem.W.Frag} {h : Heap} {mg : Str → Option Value} {f : Addr} (X : K.In h) (G : h.Ns mainGlobals mg) (hfa : mg ("law" : Str) = some (.ref f)) (c : obsP fcs dfs K = valP dfs) :
    ∃ fd : FuncData, (∀ (s : Shared) (v : Value), BindsTo s fd ⟨[v], []⟩ [("_law_script", v)]) ∧ ∀ base : Heap, K.In base → base.Ns mainGlobals mg → FnOk P w K mg base (fun _ _ _ _ _ _ => False) 13 f fd ["_law_script"] (fun vs H Q _ => spD K wt_law vs H Q E0) := by
  have T : TX K mg := Tx.mk' X G c
  have e := hfa.symm.trans (T.glo 97)
  cases e
  obtain ⟨fd, F⟩ := T.def_ 60 (d := d_law)
  have b := FunD.bindsA (ps := ["_law_script"]) F fun _ _ _ _ _ _ us hl => match us, hl with | [_], _ => rfl
  exact ⟨fd, fun s v => b s [v] rfl, fun base _ _ => cx0 (ok_law T F)⟩
theorem spec {K : PySem.W.Frag} {H : Hp} {a : Addr} {ns : List Int} (hS : SqL K H a (ns.map V.int)) : spD K wt_law [.ref a] H (fun v _ => v = .bl true) E0 := by
  refine ⟨fun _ => False, [.scr ns], fun d => d = .bl true, F0, fun _ z => z.elim, .cons ?_ .nil, ⟨ns, rfl, rfl⟩, fun v H' d e s r => by subst e; cases r; rfl, eok_e0⟩
  rcases hS with h | h
  · exact .scr (fun z => z) h
  · exact .scrK h
end Fw
open PySem PySem.W PySem.Calls PyProof.Rows
theorem PySem.Challenge.cw_fewleft_k69_whole_groups_in_large_games_holds : PySem.Challenge.rw_fewleft_k69_whole_groups_in_large_games.Holds := by
  w_on; o_law
  refine HandSHeadRun.head_any (r := Fw.Rw) (q := view Fw.Rw.prog [59]) (H := Fw.hk) (ob := Fw.ob) (M := 20000) (loose := Fw.loose) (d := HandSHeadRun.topDef Fw.Rw.prog 59) (kwd := []) Fw.ob_eq
    (by kernel_rfl) (fun s => by kernel_rfl) Fw.run (by kernel_rfl) (by kernel_rfl) (by kernel_rfl) (by rfl) (by first | assumption | decide +kernel) (by decide +kernel) ⟨rfl, rfl, rfl, rfl, rfl, by decide +kernel⟩ ?hw ?hc
  case hw => w_witness2
  case hc =>
    refine L2.walk_ofE (l := PySem.Challenge.rw_fewleft_k69_whole_groups_in_large_games) (k := 13) (x := "_law_script") (CX := fun _ _ _ _ _ _ => False) rfl (by decide) (by kernel_rfl) ⟨rfl, by decide, by decide⟩ ?F (fun _ _ _ _ z => z)
    intro w mg fa h Y G hmg0
    obtain ⟨K, KX, c⟩ := Y
    have hmg : mg ("law" : PySem.Str) = some (.ref fa) := by
      have e : (HandSHeadRun.topDef Fw.Rw.prog 59).name = ("law" : PySem.Str) := by kernel_rfl
      rw [← e]
      exact hmg0
    obtain ⟨fd, hb, hF⟩ := Fw.facts (P := (PySem.Challenge.rw_fewleft_k69_whole_groups_in_large_games).prog) (w := w) KX G hmg c
    exact ⟨K, fd, (fun vs H Q _ => Fw.spD K Fw.wt_law vs H Q L2.E0), KX, hb, fun H a ns hl _ hS => Fw.spec hS, hF⟩
