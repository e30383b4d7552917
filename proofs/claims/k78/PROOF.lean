import PyProof.Rows.All
import Wide.All
import OpenK.AllK
import Wide.FinOn
import HandS.Head0
import HandS.Head1
import HandS.Head2
import HandS.HeadEnd
import HandS.HeadHook1
import HandS.HeadHook2
import KE.KSuper
import HandS.Words
import HandS.ForMost
import HandS.Conv
import HandS.Sort
import HandS.NoneIn
import KE.KDictKeyed
import KE.SortData
import HandS.Walk
import HandS.Defaults
import HandS.MakeKw
import HandS.Property
import HandS.SortInts
import HandS.Wide
import HandS.TupAny
import HandS.Rev
import HandS.IsInst
import HandS.Style
import HandS.DictComp
import KE.GoesMore
import KE.KIndexOf
import HandS.Star
import HandS.Comp
import KE.DataCmp
import KE.DataMinMax
import HandS.ClsMeth
import KE.KStateDown
import PySem.Challenge.RW_boughtparts_k78_growing_from_chains_alon
set_option Elab.async false
set_option linter.all false
set_option maxRecDepth 100000
set_option maxHeartbeats 1000000
/-! The head's facts: defs by names, defs over __class__, any other test. -/
namespace Dt
open PySem PySem.Spec PyProof.Rows L2
abbrev FnS : Type := Option (Str × Str × Arguments × FuncBody × Scope × Addr × List Str × Addr)
def fnS (K : PySem.W.Frag) (p : Str × Option Str) : FnS := match K.lookup (He.fAd K p) with
  | some ⟨_, _, .func fd, _⟩ => some (fd.name, fd.qualname, fd.params, fd.body, fd.scope, fd.globals, fd.closure.map (·.1), fd.builtins)
  | _ => none
/-- a def over __class__: where it stands, its class, the def behind super() -/
structure SupD where
  d : He.DefD
  cls : Str
  to : Str × Option Str
def SupD.val (s : SupD) : FnS := some (s.d.name, s.d.qual, s.d.params, .stmts s.d.body, s.d.scope, mainGlobals, ["__class__"], builtinsNs)
def celB (K : PySem.W.Frag) (cc C : Addr) : Bool := match K.lookup cc with
  | some ⟨_, _, .cell (some (.ref C')), _⟩ => decide (C' = C)
  | _ => false
def filB (P : Program) (K : PySem.W.Frag) (cd : Value) : Bool := match cd with
  | .ref a => (match K.lookup a with
    | some ⟨_, _, .fields vs, _⟩ => (match (vs[2]? : Option Value) with
      | some (Value.str file _) => (P.main.file : Str) == file
      | _ => false)
    | _ => false)
  | _ => false
def nonB : Value → Bool
  | .none => true
  | _ => false
def supB (P : Program) (K : PySem.W.Frag) (s : SupD) : Bool := match K.lookup (He.fAd K s.d.at_) with
  | some ⟨_, _, .func fd, _⟩ => nonB fd.defaults && (PySem.W.codeIn K fd.code s.d.qual && (filB P K fd.code && ((fd.closure.all fun c => celB K c.2 (He.ga K s.cls)) && ((PySem.W.clsIn K (He.ga K s.cls)).isSome && (decide (PySem.W.mroIn K (He.ga K s.cls) (.ref (He.ga K s.cls)) = some true) &&
      (He.eqO (PySem.W.nsIn K cStatics "thirdparty.any") (some none) && (He.eqO (PySem.W.ks_superIn K (He.ga K s.cls) (He.ga K s.cls) "__init__") (some (some (.ref (He.fAd K s.to)))) && (decide (PySem.W.typeIn K (.ref (He.fAd K s.to)) = some (.type "function")) && PySem.W.fnIn K (He.fAd K s.to)))))))))
  | _ => false
/-- a class's constant that is a text -/
def conB (K : PySem.W.Frag) (C : Addr) (f z : Str) : Bool := match PySem.W.findIn K (.ref C) f with
  | some (some (.str y t)) => decide (y = z) && (He.eqO (PySem.W.specialIn K (.str y t) "__get__") (some none) && !PySem.W.copiedNames.contains f)
  | _ => false
/-! ### the Hook -/
abbrev AlX : Type := Bool × List He.FnW × List FnS
section
variable (P : Program) (ex : List (PySem.W.Frag → Bool)) (fa : List He.Fa) (fn : List He.DefD) (sp : List SupD)
def obsX (K : PySem.W.Frag) : AlX := ((ex.all fun f => f K) && ((fa.all fun f => f.ok K) && ((fn.all fun d => d.ok K) && sp.all fun s => supB P K s)), fn.map fun d => He.fnW K d.at_, sp.map fun s => fnS K s.d.at_)
def valX : AlX := (true, fn.map He.DefD.val, sp.map SupD.val)
def SaysX (K : PySem.W.Frag) : Prop := obsX P ex fa fn sp K = valX fn sp
def obsXG (n : Nat) (g : Addr → Option Obj) : AlX := obsX P ex fa fn sp (He.frG g (He.asD g n ++ [cStatics]))
def hookX (n : Nat) : PySem.W.Hook where
  α := AlX
  obs := fun s => obsXG P ex fa fn sp n s.heap.get?
  val := fun _ => valX fn sp
  says := fun _ h => ∃ K : PySem.W.Frag, K.In h ∧ SaysX P ex fa fn sp K
  of := fun _ _ e => ⟨_, He.frG_in, e⟩
  keeps := fun _ _ _ ⟨K, hK, c⟩ k => ⟨K, PySem.W.Frag.In.keeps hK k, c⟩
end
section
variable {P : Program} {ex : List (PySem.W.Frag → Bool)} {fa : List He.Fa} {fn : List He.DefD} {sp : List SupD} {K : PySem.W.Frag}
theorem obsXG_eq {n : Nat} {g : Addr → Option Obj} {s : Shared} (h : ∀ a, g a = s.heap.get? a) : obsXG P ex fa fn sp n g = (hookX P ex fa fn sp n).obs s := by
  have e : g = s.heap.get? := funext h
  rw [e] <;> rfl
end
end Dt

set_option Elab.async false
set_option linter.all false
set_option maxRecDepth 100000
set_option maxHeartbeats 4000000
namespace K78
open PySem PySem.Spec PyProof.Rows L2 Dt
def top (i : Nat) : Stmt := PySem.Challenge.pw_boughtparts_k78_growing_from_chains_alon.main.body.getD i (.Pass ⟨0, 0, 0, 0⟩)
def inClass (s : Stmt) (j : Nat) : Stmt := match s with
  | .ClassDef _ _ _ body _ _ _ _ _ _ _ => body.getD j (.Pass ⟨0, 0, 0, 0⟩)
  | _ => .Pass ⟨0, 0, 0, 0⟩
abbrev s_law_draws : Stmt := top 78
abbrev s_law_take : Stmt := top 79
abbrev s_law_special : Stmt := top 83
abbrev s_law_chains : Stmt := top 82
abbrev s_law_market : Stmt := top 84
abbrev s_is_int : Stmt := top 15
abbrev s_check_number : Stmt := top 16
abbrev s_pair_of : Stmt := top 23
abbrev s_u_runs_of : Stmt := top 24
abbrev s_set_of : Stmt := top 18
abbrev s_Market_init : Stmt := inClass (top 29) 1
abbrev s_Join_init : Stmt := inClass (top 39) 1
abbrev s_minus : Stmt := top 21
abbrev s_Market_there : Stmt := inClass (top 29) 3
abbrev s_u_reached : Stmt := top 51
abbrev s_u_turn : Stmt := top 52
abbrev s_u_full_flow : Stmt := top 61
abbrev s_strength : Stmt := top 62
abbrev s_check_join : Stmt := top 26
abbrev s_check_few : Stmt := top 72
abbrev s_check_size : Stmt := top 71
abbrev s_demand_of : Stmt := top 41
abbrev s_points_of : Stmt := top 64
abbrev s_check_part : Stmt := top 27
abbrev s_part_there : Stmt := top 28
abbrev s_begins : Stmt := top 47
abbrev s_u_chosen : Stmt := top 53
abbrev s_u_filled : Stmt := top 54
abbrev s_u_any_stock : Stmt := top 55
abbrev s_has_stock : Stmt := top 57
abbrev s_u_check_stocks : Stmt := top 68
abbrev s_u_moves : Stmt := top 49
abbrev s_u_both_ways : Stmt := top 66
abbrev s_u_cover : Stmt := top 42
abbrev s_cover : Stmt := top 43
abbrev s_some_stock : Stmt := top 56
abbrev s_both : Stmt := top 19
abbrev s_Join_lose : Stmt := inClass (top 39) 2
abbrev s_u_stock_with : Stmt := top 67
abbrev s_walk_over : Stmt := top 69
abbrev s_going_back : Stmt := top 73
abbrev s_grows_at : Stmt := top 74
abbrev s_grows : Stmt := top 75
abbrev s_u_more : Stmt := top 58
abbrev s_stocks_of : Stmt := top 59
abbrev s_common : Stmt := top 20
abbrev s_u_misfit : Stmt := top 44
abbrev s_check_stock : Stmt := top 46
abbrev s_u_others : Stmt := top 30
abbrev s_Join_keep : Stmt := inClass (top 39) 3
abbrev s_stock_left : Stmt := top 76
abbrev s_law_all_leave : Stmt := top 87
abbrev s_law_int : Stmt := top 80
abbrev s_law_set : Stmt := top 81
abbrev s_law_cover : Stmt := top 85
abbrev s_law_left_right : Stmt := top 86
abbrev s_law_some_leave : Stmt := top 88
abbrev s_law_lost_chains : Stmt := top 89
abbrev s_law : Stmt := top 90
def loc (k : Str) : Str × Option Str := if k = "Join.keep" then ("Join", some "keep") else if k = "Join.lose" then ("Join", some "lose") else if k = "Market.there" then ("Join", some "there") else if k = "Join.__init__" then ("Join", some "__init__") else if k = "Market.__init__" then ("Market", some "__init__") else (k, none)
abbrev d_law_draws : He.DefD := ⟨loc "_law_draws", "_law_draws", "_law_draws", defArgs s_law_draws, defBody s_law_draws, defScope s_law_draws, [], []⟩
abbrev d_law_take : He.DefD := ⟨loc "_law_take", "_law_take", "_law_take", defArgs s_law_take, defBody s_law_take, defScope s_law_take, [], []⟩
abbrev d_law_special : He.DefD := ⟨loc "_law_special", "_law_special", "_law_special", defArgs s_law_special, defBody s_law_special, defScope s_law_special, [], []⟩
abbrev d_law_chains : He.DefD := ⟨loc "_law_chains", "_law_chains", "_law_chains", defArgs s_law_chains, defBody s_law_chains, defScope s_law_chains, [], []⟩
abbrev d_law_market : He.DefD := ⟨loc "_law_market", "_law_market", "_law_market", defArgs s_law_market, defBody s_law_market, defScope s_law_market, [], []⟩
abbrev d_is_int : He.DefD := ⟨loc "is_int", "is_int", "is_int", defArgs s_is_int, defBody s_is_int, defScope s_is_int, [], []⟩
abbrev d_check_number : He.DefD := ⟨loc "check_number", "check_number", "check_number", defArgs s_check_number, defBody s_check_number, defScope s_check_number, [], []⟩
abbrev d_pair_of : He.DefD := ⟨loc "pair_of", "pair_of", "pair_of", defArgs s_pair_of, defBody s_pair_of, defScope s_pair_of, [], []⟩
abbrev d_u_runs_of : He.DefD := ⟨loc "_runs_of", "_runs_of", "_runs_of", defArgs s_u_runs_of, defBody s_u_runs_of, defScope s_u_runs_of, [], []⟩
abbrev d_set_of : He.DefD := ⟨loc "set_of", "set_of", "set_of", defArgs s_set_of, defBody s_set_of, defScope s_set_of, [], []⟩
abbrev d_Market_init : He.DefD := ⟨loc "Market.__init__", "__init__", "Market.__init__", defArgs s_Market_init, defBody s_Market_init, defScope s_Market_init, [], []⟩
abbrev d_minus : He.DefD := ⟨loc "minus", "minus", "minus", defArgs s_minus, defBody s_minus, defScope s_minus, [], []⟩
abbrev d_Market_there : He.DefD := ⟨loc "Market.there", "there", "Market.there", defArgs s_Market_there, defBody s_Market_there, defScope s_Market_there, [], []⟩
abbrev d_u_reached : He.DefD := ⟨loc "_reached", "_reached", "_reached", defArgs s_u_reached, defBody s_u_reached, defScope s_u_reached, [], []⟩
abbrev d_u_turn : He.DefD := ⟨loc "_turn", "_turn", "_turn", defArgs s_u_turn, defBody s_u_turn, defScope s_u_turn, [], []⟩
abbrev d_u_full_flow : He.DefD := ⟨loc "_full_flow", "_full_flow", "_full_flow", defArgs s_u_full_flow, defBody s_u_full_flow, defScope s_u_full_flow, [], []⟩
abbrev d_strength : He.DefD := ⟨loc "strength", "strength", "strength", defArgs s_strength, defBody s_strength, defScope s_strength, [], []⟩
abbrev d_check_join : He.DefD := ⟨loc "check_join", "check_join", "check_join", defArgs s_check_join, defBody s_check_join, defScope s_check_join, [], []⟩
abbrev d_check_few : He.DefD := ⟨loc "check_few", "check_few", "check_few", defArgs s_check_few, defBody s_check_few, defScope s_check_few, [], []⟩
abbrev d_check_size : He.DefD := ⟨loc "check_size", "check_size", "check_size", defArgs s_check_size, defBody s_check_size, defScope s_check_size, [], []⟩
abbrev d_demand_of : He.DefD := ⟨loc "demand_of", "demand_of", "demand_of", defArgs s_demand_of, defBody s_demand_of, defScope s_demand_of, [], []⟩
abbrev d_points_of : He.DefD := ⟨loc "points_of", "points_of", "points_of", defArgs s_points_of, defBody s_points_of, defScope s_points_of, [], []⟩
abbrev d_check_part : He.DefD := ⟨loc "check_part", "check_part", "check_part", defArgs s_check_part, defBody s_check_part, defScope s_check_part, [], []⟩
abbrev d_part_there : He.DefD := ⟨loc "part_there", "part_there", "part_there", defArgs s_part_there, defBody s_part_there, defScope s_part_there, [], []⟩
abbrev d_begins : He.DefD := ⟨loc "begins", "begins", "begins", defArgs s_begins, defBody s_begins, defScope s_begins, [], []⟩
abbrev d_u_chosen : He.DefD := ⟨loc "_chosen", "_chosen", "_chosen", defArgs s_u_chosen, defBody s_u_chosen, defScope s_u_chosen, [], []⟩
abbrev d_u_filled : He.DefD := ⟨loc "_filled", "_filled", "_filled", defArgs s_u_filled, defBody s_u_filled, defScope s_u_filled, [], []⟩
abbrev d_u_any_stock : He.DefD := ⟨loc "_any_stock", "_any_stock", "_any_stock", defArgs s_u_any_stock, defBody s_u_any_stock, defScope s_u_any_stock, [], []⟩
abbrev d_has_stock : He.DefD := ⟨loc "has_stock", "has_stock", "has_stock", defArgs s_has_stock, defBody s_has_stock, defScope s_has_stock, [], []⟩
abbrev d_u_check_stocks : He.DefD := ⟨loc "_check_stocks", "_check_stocks", "_check_stocks", defArgs s_u_check_stocks, defBody s_u_check_stocks, defScope s_u_check_stocks, [], []⟩
abbrev d_u_moves : He.DefD := ⟨loc "_moves", "_moves", "_moves", defArgs s_u_moves, defBody s_u_moves, defScope s_u_moves, [], []⟩
abbrev d_u_both_ways : He.DefD := ⟨loc "_both_ways", "_both_ways", "_both_ways", defArgs s_u_both_ways, defBody s_u_both_ways, defScope s_u_both_ways, [], []⟩
abbrev d_u_cover : He.DefD := ⟨loc "_cover", "_cover", "_cover", defArgs s_u_cover, defBody s_u_cover, defScope s_u_cover, [], []⟩
abbrev d_cover : He.DefD := ⟨loc "cover", "cover", "cover", defArgs s_cover, defBody s_cover, defScope s_cover, [], []⟩
abbrev d_some_stock : He.DefD := ⟨loc "some_stock", "some_stock", "some_stock", defArgs s_some_stock, defBody s_some_stock, defScope s_some_stock, [], []⟩
abbrev d_both : He.DefD := ⟨loc "both", "both", "both", defArgs s_both, defBody s_both, defScope s_both, [], []⟩
abbrev d_Join_lose : He.DefD := ⟨loc "Join.lose", "lose", "Join.lose", defArgs s_Join_lose, defBody s_Join_lose, defScope s_Join_lose, [], []⟩
abbrev d_u_stock_with : He.DefD := ⟨loc "_stock_with", "_stock_with", "_stock_with", defArgs s_u_stock_with, defBody s_u_stock_with, defScope s_u_stock_with, [], []⟩
abbrev d_walk_over : He.DefD := ⟨loc "walk_over", "walk_over", "walk_over", defArgs s_walk_over, defBody s_walk_over, defScope s_walk_over, [], []⟩
abbrev d_going_back : He.DefD := ⟨loc "going_back", "going_back", "going_back", defArgs s_going_back, defBody s_going_back, defScope s_going_back, [], []⟩
abbrev d_grows_at : He.DefD := ⟨loc "grows_at", "grows_at", "grows_at", defArgs s_grows_at, defBody s_grows_at, defScope s_grows_at, [], []⟩
abbrev d_grows : He.DefD := ⟨loc "grows", "grows", "grows", defArgs s_grows, defBody s_grows, defScope s_grows, [], []⟩
abbrev d_u_more : He.DefD := ⟨loc "_more", "_more", "_more", defArgs s_u_more, defBody s_u_more, defScope s_u_more, [], []⟩
abbrev d_stocks_of : He.DefD := ⟨loc "stocks_of", "stocks_of", "stocks_of", defArgs s_stocks_of, defBody s_stocks_of, defScope s_stocks_of, [], []⟩
abbrev d_common : He.DefD := ⟨loc "common", "common", "common", defArgs s_common, defBody s_common, defScope s_common, [], []⟩
abbrev d_u_misfit : He.DefD := ⟨loc "_misfit", "_misfit", "_misfit", defArgs s_u_misfit, defBody s_u_misfit, defScope s_u_misfit, [], []⟩
abbrev d_check_stock : He.DefD := ⟨loc "check_stock", "check_stock", "check_stock", defArgs s_check_stock, defBody s_check_stock, defScope s_check_stock, [], []⟩
abbrev d_u_others : He.DefD := ⟨loc "_others", "_others", "_others", defArgs s_u_others, defBody s_u_others, defScope s_u_others, [], []⟩
abbrev d_Join_keep : He.DefD := ⟨loc "Join.keep", "keep", "Join.keep", defArgs s_Join_keep, defBody s_Join_keep, defScope s_Join_keep, [], []⟩
abbrev d_stock_left : He.DefD := ⟨loc "stock_left", "stock_left", "stock_left", defArgs s_stock_left, defBody s_stock_left, defScope s_stock_left, [], []⟩
abbrev d_law_all_leave : He.DefD := ⟨loc "_law_all_leave", "_law_all_leave", "_law_all_leave", defArgs s_law_all_leave, defBody s_law_all_leave, defScope s_law_all_leave, [], []⟩
abbrev d_law_int : He.DefD := ⟨loc "_law_int", "_law_int", "_law_int", defArgs s_law_int, defBody s_law_int, defScope s_law_int, [], []⟩
abbrev d_law_set : He.DefD := ⟨loc "_law_set", "_law_set", "_law_set", defArgs s_law_set, defBody s_law_set, defScope s_law_set, [], []⟩
abbrev d_law_cover : He.DefD := ⟨loc "_law_cover", "_law_cover", "_law_cover", defArgs s_law_cover, defBody s_law_cover, defScope s_law_cover, [], []⟩
abbrev d_law_left_right : He.DefD := ⟨loc "_law_left_right", "_law_left_right", "_law_left_right", defArgs s_law_left_right, defBody s_law_left_right, defScope s_law_left_right, [], []⟩
abbrev d_law_some_leave : He.DefD := ⟨loc "_law_some_leave", "_law_some_leave", "_law_some_leave", defArgs s_law_some_leave, defBody s_law_some_leave, defScope s_law_some_leave, [], []⟩
abbrev d_law_lost_chains : He.DefD := ⟨loc "_law_lost_chains", "_law_lost_chains", "_law_lost_chains", defArgs s_law_lost_chains, defBody s_law_lost_chains, defScope s_law_lost_chains, [], []⟩
abbrev d_law : He.DefD := ⟨loc "law", "law", "law", defArgs s_law, defBody s_law, defScope s_law, [], []⟩
def fns_0 : List He.DefD := [d_law_draws, d_law_take, d_law_special, d_law_chains, d_law_market, d_is_int, d_check_number, d_pair_of, d_u_runs_of, d_set_of, d_Market_init, d_minus, d_Market_there, d_u_reached, d_u_turn, d_u_full_flow, d_strength, d_check_join, d_check_few, d_check_size, d_demand_of, d_points_of, d_check_part, d_part_there, d_begins, d_u_chosen, d_u_filled, d_u_any_stock, d_has_stock, d_u_check_stocks]
def fns_1 : List He.DefD := [d_u_moves, d_u_both_ways, d_u_cover, d_cover, d_some_stock, d_both, d_Join_lose, d_u_stock_with, d_walk_over, d_going_back, d_grows_at, d_grows, d_u_more, d_stocks_of, d_common, d_u_misfit, d_check_stock, d_u_others, d_Join_keep, d_stock_left, d_law_all_leave, d_law_int, d_law_set, d_law_cover, d_law_left_right, d_law_some_leave, d_law_lost_chains, d_law]
def fns : List He.DefD := fns_0 ++ fns_1
def fas_0 : List He.Fa := [.glo "_law_draws", .glo "_law_take", .glo "_law_special", .glo "_law_chains", .glo "_law_market", .glo "is_int", .glo "check_number", .glo "pair_of", .glo "_runs_of", .glo "set_of", .glo "minus", .glo "_reached", .glo "_turn", .glo "_full_flow", .glo "strength", .glo "check_join", .glo "check_few", .glo "check_size", .glo "demand_of", .glo "points_of", .glo "check_part", .glo "part_there", .glo "begins", .glo "_chosen", .glo "_filled", .glo "_any_stock", .glo "has_stock", .glo "_check_stocks", .glo "_moves", .glo "_both_ways"]
def fas_1 : List He.Fa := [.glo "_cover", .glo "cover", .glo "some_stock", .glo "both", .glo "_stock_with", .glo "walk_over", .glo "going_back", .glo "grows_at", .glo "grows", .glo "_more", .glo "stocks_of", .glo "common", .glo "_misfit", .glo "check_stock", .glo "_others", .glo "stock_left", .glo "_law_all_leave", .glo "_law_int", .glo "_law_set", .glo "_law_cover", .glo "_law_left_right", .glo "_law_some_leave", .glo "_law_lost_chains", .glo "law", .free "bool", .free "enumerate", .free "int", .free "isinstance", .free "len", .free "list"]
def fas_2 : List He.Fa := [.free "min", .free "range", .free "reversed", .free "sorted", .free "tuple", .free "super", .mkr "Join", .cls "Join", .glo "Join", .meth "Join" "there", .meth "Join" "lose", .meth "Join" "keep", .noat "Join" "size", .noat "Join" "runs", .noat "Join" "gone"]
def fas : List He.Fa := fas_0 ++ fas_1 ++ fas_2
abbrev prg : Program := PySem.Challenge.rw_boughtparts_k78_growing_from_chains_alon.prog
abbrev p_Join_init : SupD := ⟨⟨loc "Join.__init__", "__init__", "Join.__init__", defArgs s_Join_init, defBody s_Join_init, defScope s_Join_init, [], []⟩, "Join", loc "Market.__init__"⟩
def sps : List SupD := [p_Join_init]
def exs : List (PySem.W.Frag → Bool) := [fun K => conB K (He.ga K "Join") "KIND" "join"]
def names_0 : List PySem.Str := ["_wall", "PartsError", "BadNumber", "BadRun", "BadSet", "BadPart", "IsGone", "BadDemand", "NotJoin", "NoStock", "NotAStock", "BadPoint", "TooMany", "is_int", "check_number", "set_of", "both", "common", "minus", "pair_of", "_runs_of", "check_run", "check_join", "check_part", "part_there", "Market", "_others", "_moved", "_all_gone", "_row_behind"]
def names_1 : List PySem.Str := ["_turned", "_point_beside", "_row_beside", "_gone_often", "_check_kind", "Join", "demand_of", "_cover", "cover", "_misfit", "is_stock", "check_stock", "begins", "_moves", "_reached", "_turn", "_chosen", "_filled", "_any_stock", "some_stock", "has_stock", "_more", "stocks_of", "_full_flow", "strength", "points_of", "_both_ways", "_stock_with", "_check_stocks", "walk_over"]
def names_2 : List PySem.Str := ["check_size", "check_few", "going_back", "grows_at", "grows", "stock_left", "_law_draws", "_law_take", "_law_int", "_law_set", "_law_chains", "_law_special", "_law_market", "_law_cover", "_law_left_right", "_law_all_leave", "_law_some_leave", "_law_lost_chains"]
def names : List PySem.Str := names_0 ++ names_1 ++ names_2
abbrev Rr : PySem.W.OpenRow := PySem.W.OpenLaw.row PySem.Challenge.rw_boughtparts_k78_growing_from_chains_alon
abbrev hk : PySem.W.Hook := hookX prg exs fas fns sps 4
def ob (s : PySem.W.SharedT) : AlX := obsXG prg exs fas fns sps 4 (HandSHeadRun.getT s)
theorem ob_eq (s : PySem.W.SharedT) : ob s = hk.obs s.abs := obsXG_eq (HandSHeadRun.getT_eq s)
theorem run (w : World) : HandSHeadRun.RunEq Rr (PySem.W.view Rr.prog [90]) hk ob 20000 names w := by
  intro os
  kernel_rfl
end K78

set_option Elab.async false
set_option linter.all false
set_option maxRecDepth 100000
set_option maxHeartbeats 1000000
/-! Data trees over the abstract heap: values that never change again (D), objects that are still being changed (Cell), states of a def's slots (Sd), and what a reading does from such a state (RE, RT, RA, RG, RS). -/
namespace Dt
open PySem L2

/-- a value that is data -/
inductive D where
  | v (x : V)
  | tup (l : List D)
  | tupF (l : List D)
  | lst (l : List D)
  | rl (l : List D)
  | dk (ks : List Key) (l : List D)
  | rng (lo hi : Int)
  | ins (C : Addr) (ns : List Str) (l : List D)

/-- an object that may still change -/
inductive Cell where
  | dead
  | lst (l : List D)
  | ptrs (ks : List Nat)
  | dk (ks : List Key) (l : List D)
  | dn (l : List (List Int × List Int))
  | ins (C : Addr) (ns : List Str) (l : List D)

/-- what a slot holds: nothing that is known, data, a pointer to a cell -/
inductive Sl where
  | no
  | im (d : D)
  | pt (k : Nat)

abbrev iD (i : Int) : D := .v (.int i)
abbrev bD (b : Bool) : D := .v (.bl b)
abbrev sD (s : Str) : D := .v (.str s)
abbrev nD : D := .v .non

structure Cn where
  P : Program
  w : World
  K : PySem.W.Frag

def Ex (H H' : Hp) : Prop := ∀ a o, H a = some o → H' a = some o
theorem Ex.refl (H : Hp) : Ex H H := fun _ _ h => h
theorem Ex.trans {H H1 H2 : Hp} (a : Ex H H1) (b : Ex H1 H2) : Ex H H2 := fun x o h => b x o (a x o h)
theorem Ex.new {H : Hp} {p : Addr} {o : HO} (h : H p = none) : Ex H (upd H p o) := fun a u e => by
  rw [upd_ne (ne_of_none e h)]; exact e
theorem Ex.sqL {K : PySem.W.Frag} {H H' : Hp} {a : Addr} {xs : List V} (e : Ex H H') (h : SqL K H a xs) : SqL K H' a xs := by
  rcases h with (h | ⟨o, h⟩) | h
  · exact .inl (.inl (e _ _ h))
  · exact .inl (.inr ⟨o, e _ _ h⟩)
  · exact .inr h
theorem Ex.sqT {K : PySem.W.Frag} {H H' : Hp} {a : Addr} {xs : List V} (e : Ex H H') (h : SqT K H a xs) : SqT K H' a xs := by
  rcases h with (h | ⟨o, h⟩) | h
  · exact .inl (.inl (e _ _ h))
  · exact .inl (.inr ⟨o, e _ _ h⟩)
  · exact .inr h
/-- an address that a lesser heap does not know -/
theorem Ex.none {H H' : Hp} {p : Addr} (e : Ex H H') (h : H' p = Option.none) : H p = Option.none := by
  cases q : H p with
  | none => rfl
  | some o => rw [e p o q] at h; cases h

mutual
inductive Holds (K : PySem.W.Frag) (I : Hp) : V → D → Prop
  | v (x : V) : Holds K I x (.v x)
  | tup {a : Addr} {xs : List V} {l : List D} : (I a = some (.tup xs) ∨ (xs = [] ∧ SqT K I a xs)) → HoldsL K I xs l → Holds K I (.ref a) (.tup l)
  | tupF {a : Addr} {ob : Obj} {xs : List V} {l : List D} : I a = some (.frz ob (.tup xs)) → ob.dict = none → HoldsL K I xs l → Holds K I (.ref a) (.tupF l)
  | lst {a : Addr} {xs : List V} {l : List D} : I a = some (.lst xs) → HoldsL K I xs l → Holds K I (.ref a) (.lst l)
  | rl {a : Addr} {xs : List V} {l : List D} : SqL K I a xs → HoldsL K I xs l → Holds K I (.ref a) (.rl l)
  | dk {a : Addr} {ks : List Key} {xs : List V} {l : List D} : I a = some (.dK (ks.zip xs)) → ks.length = xs.length → HoldsL K I xs l → Holds K I (.ref a) (.dk ks l)
  | rng {a : Addr} {lo hi : Int} : I a = some (.rng lo hi) → Holds K I (.ref a) (.rng lo hi)
  | ins {a C dx : Addr} {ns : List Str} {xs : List V} {l : List D} : I a = some (.ins C dx (ns.zip xs)) → ns.length = xs.length → HoldsL K I xs l → Holds K I (.ref a) (.ins C ns l)
inductive HoldsL (K : PySem.W.Frag) (I : Hp) : List V → List D → Prop
  | nil : HoldsL K I [] []
  | cons {x : V} {xs : List V} {d : D} {l : List D} : Holds K I x d → HoldsL K I xs l → HoldsL K I (x :: xs) (d :: l)
end

section
variable {K : PySem.W.Frag} {I I' : Hp}
mutual
theorem Holds.mono (e : Ex I I') : ∀ {x : V} {d : D}, Holds K I x d → Holds K I' x d
  | _, _, .v x => .v x
  | _, _, .tup h r => .tup (h.elim (fun h => .inl (e _ _ h)) fun h => .inr ⟨h.1, e.sqT h.2⟩) (HoldsL.mono e r)
  | _, _, .tupF h n r => .tupF (e _ _ h) n (HoldsL.mono e r)
  | _, _, .lst h r => .lst (e _ _ h) (HoldsL.mono e r)
  | _, _, .rl h r => .rl (e.sqL h) (HoldsL.mono e r)
  | _, _, .dk h l r => .dk (e _ _ h) l (HoldsL.mono e r)
  | _, _, .rng h => .rng (e _ _ h)
  | _, _, .ins h l r => .ins (e _ _ h) l (HoldsL.mono e r)
theorem HoldsL.mono (e : Ex I I') : ∀ {xs : List V} {l : List D}, HoldsL K I xs l → HoldsL K I' xs l
  | _, _, .nil => .nil
  | _, _, .cons h r => .cons (Holds.mono e h) (HoldsL.mono e r)
end
theorem HoldsL.length : ∀ {xs : List V} {l : List D}, HoldsL K I xs l → xs.length = l.length
  | _, _, .nil => rfl
  | _, _, .cons _ r => by rw [List.length_cons, List.length_cons, r.length]
theorem HoldsL.get : ∀ {xs : List V} {l : List D} {i : Nat} {x : V}, HoldsL K I xs l → xs[i]? = some x → ∃ d, l[i]? = some d ∧ Holds K I x d
  | _, _, 0, _, .cons h _, e => by simp at e; subst e; exact ⟨_, rfl, h⟩
  | _, _, i + 1, _, .cons _ r, e => by
    obtain ⟨d, h1, h2⟩ := r.get (i := i) (by simpa using e)
    exact ⟨d, by simpa using h1, h2⟩
  | _, _, _, _, .nil, e => by simp at e
theorem HoldsL.getD : ∀ {xs : List V} {l : List D} {i : Nat} {d : D}, HoldsL K I xs l → l[i]? = some d → ∃ x, xs[i]? = some x ∧ Holds K I x d
  | _, _, 0, _, .cons h _, e => by simp at e; subst e; exact ⟨_, rfl, h⟩
  | _, _, i + 1, _, .cons _ r, e => by
    obtain ⟨d, h1, h2⟩ := r.getD (i := i) (by simpa using e)
    exact ⟨d, by simpa using h1, h2⟩
  | _, _, _, _, .nil, e => by simp at e
theorem HoldsL.append : ∀ {xs ys : List V} {l m : List D}, HoldsL K I xs l → HoldsL K I ys m → HoldsL K I (xs ++ ys) (l ++ m)
  | _, _, _, _, .nil, s => s
  | _, _, _, _, .cons h r, s => .cons h (r.append s)
theorem HoldsL.set {x : V} {d : D} (hd : Holds K I x d) : ∀ {xs : List V} {l : List D} (i : Nat), HoldsL K I xs l → HoldsL K I (xs.set i x) (l.set i d)
  | _, _, _, .nil => .nil
  | _, _, 0, .cons _ r => .cons hd r
  | _, _, i + 1, .cons h r => .cons h (HoldsL.set hd i r)
theorem HoldsL.take : ∀ {xs : List V} {l : List D} (n : Nat), HoldsL K I xs l → HoldsL K I (xs.take n) (l.take n)
  | _, _, 0, _ => .nil
  | _, _, _ + 1, .nil => .nil
  | _, _, n + 1, .cons h r => .cons h (r.take n)
theorem HoldsL.drop : ∀ {xs : List V} {l : List D} (n : Nat), HoldsL K I xs l → HoldsL K I (xs.drop n) (l.drop n)
  | _, _, 0, r => r
  | _, _, _ + 1, .nil => .nil
  | _, _, n + 1, .cons _ r => r.drop n
theorem HoldsL.reverse {xs : List V} {l : List D} (h : HoldsL K I xs l) : HoldsL K I xs.reverse l.reverse := by
  induction h using HoldsL.rec (motive_1 := fun _ _ _ => True) with
  | nil => exact .nil
  | cons a r ih ih2 =>
    rw [List.reverse_cons, List.reverse_cons]
    exact ih2.append (.cons a .nil)
  | _ => trivial
theorem HoldsL.vs : ∀ (xs : List V), HoldsL K I xs (xs.map D.v)
  | [] => .nil
  | x :: xs => .cons (.v x) (HoldsL.vs xs)
theorem Holds.v_inv {x y : V} (h : Holds K I x (.v y)) : x = y := by cases h; rfl
theorem HoldsL.v_inv : ∀ {xs : List V} {ys : List V}, HoldsL K I xs (ys.map D.v) → xs = ys
  | [], [], _ => rfl
  | _ :: _, y :: ys, h => by
    cases h with
    | cons a r => rw [a.v_inv, HoldsL.v_inv r]
  | [], _ :: _, h => by cases h
  | _ :: _, [], h => by cases h
end

/-- a key made of two tuples of ints -/
def nkOf (p : List Int × List Int) : NestedKey := .tup [.tup (p.1.map .num), .tup (p.2.map .num)]
def kkD (p : List Int × List Int) : D := .tup [.tup (p.1.map iD), .tup (p.2.map iD)]
/-- a dict with such keys -/
def dnO (P : Program) (w : World) (a : Addr) (xs : List (NestedKey × Addr × Value)) : HO := .ext fun h => (a == sysModules) = false ∧ xs.length ≤ sizeLine ∧ ∃ o es ep, h.get? a = some o ∧ o.ExactDict ∧ o.data = .dict es ep ∧ es.toList = xs.map (entryOfKey (nestedKind P w)) ∧ (xs.map (·.1)).Nodup
/-- a cell's object stands at p -/
def CellAt (c : Cn) (I H : Hp) (ps : List Addr) (p : Addr) : Cell → Prop
  | .dead => True
  | .lst l => I p = none ∧ ∃ xs, H p = some (.lst xs) ∧ HoldsL c.K I xs l
  | .ptrs ks => I p = none ∧ ∃ qs : List Addr, H p = some (.lst (qs.map V.ref)) ∧ ks.map (ps[·]?) = qs.map some
  | .dk ks l => I p = none ∧ ∃ xs, H p = some (.dK (ks.zip xs)) ∧ ks.length = xs.length ∧ HoldsL c.K I xs l
  | .dn l => I p = none ∧ ∃ xs, H p = some (dnO c.P c.w p xs) ∧ xs.map (·.1) = l.map nkOf ∧ HoldsL c.K I (xs.map fun x => V.ref x.2.1) (l.map kkD)
  | .ins C ns l => I p = none ∧ ∃ dx xs, H p = some (.ins C dx (ns.zip xs)) ∧ ns.length = xs.length ∧ HoldsL c.K I xs l

/-- the ground on which a def (or a part of it) runs: what was data, the heap, the cells handed in -/
structure Fr where
  I : Hp
  H : Hp
  ps : List Addr

def SlOk (c : Cn) (I : Hp) (ps : List Addr) (x : Option V) : Sl → Prop
  | .no => True
  | .im d => ∃ v, x = some v ∧ Holds c.K I v d
  | .pt k => ∃ p, ps[k]? = some p ∧ x = some (.ref p)

inductive Slots (c : Cn) (I : Hp) (ps : List Addr) : St → List Sl → Prop
  | nil : Slots c I ps [] []
  | cons {x : Option V} {σ : St} {s : Sl} {G : List Sl} : SlOk c I ps x s → Slots c I ps σ G → Slots c I ps (x :: σ) (s :: G)

structure SdI (c : Cn) (F : Fr) (I : Hp) (ps : List Addr) (σ : St) (H : Hp) (G : List Sl) (S : List Cell) : Prop where
  ex : Ex I H
  fi : Ex F.I I
  fh : ∀ p o, F.H p = some o → p ∉ F.ps → H p = some o
  fn : ∀ p, F.H p ≠ none → F.I p = none → p ∉ F.ps → I p = none
  pre : F.ps <+: ps
  new : ∀ p ∈ ps, p ∈ F.ps ∨ F.H p = none
  th : ∀ p ∈ ps, H p ≠ none
  nd : ps.Nodup
  len : ps.length = S.length
  cl : ∀ (k : Nat) (p : Addr) (x : Cell), ps[k]? = some p → S[k]? = some x → CellAt c I H ps p x
  ok : Slots c I ps σ G

def Sd (c : Cn) (F : Fr) (σ : St) (H : Hp) (G : List Sl) (S : List Cell) : Prop := ∃ I ps, SdI c F I ps σ H G S

section
variable {c : Cn} {F : Fr} {I I' : Hp} {ps ps' : List Addr} {σ τ : St} {H H' : Hp} {G T : List Sl} {S : List Cell}
theorem SlOk.mono {x : Option V} {s : Sl} (e : Ex I I') (hp : ps <+: ps') (h : SlOk c I ps x s) : SlOk c I' ps' x s := by
  cases s with
  | no => trivial
  | im d => obtain ⟨v, h1, h2⟩ := h; exact ⟨v, h1, h2.mono e⟩
  | pt k =>
    obtain ⟨p, h1, h2⟩ := h
    obtain ⟨t, rfl⟩ := hp
    refine ⟨p, ?_, h2⟩
    rw [List.getElem?_append_left (List.getElem?_eq_some_iff.mp h1).1]; exact h1
theorem Slots.mono (e : Ex I I') (hp : ps <+: ps') : ∀ {σ : St} {G : List Sl}, Slots c I ps σ G → Slots c I' ps' σ G
  | _, _, .nil => .nil
  | _, _, .cons h r => .cons (h.mono e hp) (r.mono e hp)
theorem Slots.length : ∀ {σ : St} {G : List Sl}, Slots c I ps σ G → σ.length = G.length
  | _, _, .nil => rfl
  | _, _, .cons _ r => by rw [List.length_cons, List.length_cons, r.length]
theorem Slots.append : ∀ {σ τ : St} {G T : List Sl}, Slots c I ps σ G → Slots c I ps τ T → Slots c I ps (σ ++ τ) (G ++ T)
  | _, _, _, _, .nil, s => s
  | _, _, _, _, .cons h r, s => .cons h (r.append s)
theorem Slots.split : ∀ {σ τ : St} {G T : List Sl}, σ.length = G.length → Slots c I ps (σ ++ τ) (G ++ T) → Slots c I ps σ G ∧ Slots c I ps τ T
  | [], _, [], _, _, h => ⟨.nil, h⟩
  | x :: σ, _, s :: G, _, e, h => by
    cases h with
    | cons a r =>
      obtain ⟨h1, h2⟩ := Slots.split (by simpa using e) r
      exact ⟨.cons a h1, h2⟩
  | [], _, _ :: _, _, e, _ => by simp at e
  | _ :: _, _, [], _, e, _ => by simp at e
theorem Slots.get : ∀ {σ : St} {G : List Sl} {i : Nat} {s : Sl}, Slots c I ps σ G → G[i]? = some s → ∃ x, σ[i]? = some x ∧ SlOk c I ps x s
  | _, _, 0, _, .cons h _, e => by simp at e; subst e; exact ⟨_, rfl, h⟩
  | _, _, i + 1, _, .cons _ r, e => by
    obtain ⟨x, h1, h2⟩ := r.get (i := i) (by simpa using e)
    exact ⟨x, by simpa using h1, h2⟩
  | _, _, _, _, .nil, e => by simp at e
theorem Slots.set {x : Option V} {s : Sl} (h : SlOk c I ps x s) : ∀ {σ : St} {G : List Sl} (i : Nat), Slots c I ps σ G → Slots c I ps (σ.set i x) (G.set i s)
  | _, _, _, .nil => .nil
  | _, _, 0, .cons _ r => .cons h r
  | _, _, i + 1, .cons a r => .cons a (r.set h i)
theorem Slots.nos : ∀ n : Nat, Slots c I ps (List.replicate n none) (List.replicate n Sl.no)
  | 0 => .nil
  | n + 1 => .cons trivial (Slots.nos n)

/-- the heap grew, what was known is known -/
theorem CellAt.grow {p : Addr} {x : Cell} (hx : CellAt c I H ps p x) (ei : Ex I I') (hp : ps <+: ps') (hn' : ∀ o, H p = some o → I p = none → I' p = none) (hh : ∀ o, H p = some o → H' p = some o) : CellAt c I' H' ps' p x := by
  cases x with
  | dead => trivial
  | lst l => obtain ⟨h1, xs, h2, h3⟩ := hx; exact ⟨hn' _ h2 h1, xs, hh _ h2, h3.mono ei⟩
  | ptrs ks =>
    obtain ⟨h1, qs, h2, h3⟩ := hx
    refine ⟨hn' _ h2 h1, qs, hh _ h2, ?_⟩
    obtain ⟨t, rfl⟩ := hp
    rw [← h3]
    refine List.map_congr_left fun k hk => ?_
    have : ps[k]? ≠ none := fun e => by
      have := (List.mem_map (f := fun k => ps[k]?)).mpr ⟨k, hk, e⟩
      rw [h3] at this
      simp at this
    have hlt : k < ps.length := by
      rcases Nat.lt_or_ge k ps.length with z | z
      · exact z
      · exact absurd (List.getElem?_eq_none_iff.mpr z) this
    exact List.getElem?_append_left hlt
  | dk ks l => obtain ⟨h1, xs, h2, h3, h4⟩ := hx; exact ⟨hn' _ h2 h1, xs, hh _ h2, h3, h4.mono ei⟩
  | dn l => obtain ⟨h1, xs, h2, h3, h4⟩ := hx; exact ⟨hn' _ h2 h1, xs, hh _ h2, h3, h4.mono ei⟩
  | ins C ns l => obtain ⟨h1, dx, xs, h2, h3, h4⟩ := hx; exact ⟨hn' _ h2 h1, dx, xs, hh _ h2, h3, h4.mono ei⟩

/-- the present state as the ground -/
theorem SdI.ground (d : SdI c F I ps σ H G S) : SdI c ⟨I, H, ps⟩ I ps σ H G S :=
  ⟨d.ex, Ex.refl I, fun _ _ h _ => h, fun _ _ h _ => h, List.prefix_refl _, fun _ h => .inl h, d.th, d.nd, d.len, d.cl, d.ok⟩
/-- back on the old ground -/
theorem SdI.back {G' : List Sl} {S' : List Cell} {σ' : St} (d : SdI c F I ps σ H G S) (e : SdI c ⟨I, H, ps⟩ I' ps' σ' H' G' S') : SdI c F I' ps' σ' H' G' S' where
  ex := e.ex
  fi := d.fi.trans e.fi
  fh := fun p o h hn => by
    have hp : H p = some o := d.fh p o h hn
    refine e.fh p o hp fun hm => ?_
    rcases d.new p hm with z | z
    · exact hn z
    · rw [z] at h; cases h
  fn := fun p h hi hn => by
    refine e.fn p (fun z => ?_) (d.fn p h hi hn) fun hm => ?_
    · cases q : F.H p with
      | none => exact h q
      | some o =>
        have z2 : H p = none := z
        rw [d.fh p o q hn] at z2
        cases z2
    · rcases d.new p hm with z | z
      · exact hn z
      · exact h z
  pre := d.pre.trans e.pre
  new := fun p hp => by
    rcases e.new p hp with z | z
    · exact d.new p z
    · by_cases hf : p ∈ F.ps
      · exact .inl hf
      · refine .inr ?_
        cases q : F.H p with
        | none => rfl
        | some o =>
          have := d.fh p o q hf
          have z' : H p = none := z
          rw [this] at z'; cases z'
  th := e.th
  nd := e.nd
  len := e.len
  cl := e.cl
  ok := e.ok
/-- the slots of the old state in the new one -/
theorem SdI.keepSlots {G' : List Sl} {S' : List Cell} {σ' : St} {σ0 : St} {G0 : List Sl} (e : SdI c ⟨I, H, ps⟩ I' ps' σ' H' G' S') (h : Slots c I ps σ0 G0) : Slots c I' ps' σ0 G0 := h.mono e.fi e.pre
theorem SdI.withSlots {σ' : St} {G' : List Sl} (d : SdI c F I ps σ H G S) (h : Slots c I ps σ' G') : SdI c F I ps σ' H G' S := { d with ok := h }

/-- a new object that is data -/
theorem SdI.newIm {p : Addr} {o : HO} (d : SdI c F I ps σ H G S) (hp : H p = none) : SdI c F (upd I p o) ps σ (upd H p o) G S := by
  have hI : I p = none := d.ex.none hp
  have e1 : Ex I (upd I p o) := Ex.new hI
  refine ⟨fun a u h => ?_, d.fi.trans e1, fun q u h hn => ?_, fun q h hi hn => ?_, d.pre, d.new, fun q hq => ?_, d.nd, d.len, fun k q x hk hx => ?_, d.ok.mono e1 (List.prefix_refl _)⟩
  · by_cases ha : a = p
    · subst ha; rw [upd_same] at h; rw [upd_same]; exact h
    · rw [upd_ne ha] at h; rw [upd_ne ha]; exact d.ex a u h
  · have := d.fh q u h hn
    rw [upd_ne (ne_of_none this hp)]; exact this
  · have hq : q ≠ p := fun z => by
      subst z
      cases r : F.H q with
      | none => exact h r
      | some u => rw [d.fh q u r hn] at hp; cases hp
    rw [upd_ne hq]; exact d.fn q h hi hn
  · have hq2 : q ≠ p := fun z => d.th q hq (by rw [z]; exact hp)
    rw [upd_ne hq2]; exact d.th q hq
  · have h0 := d.cl k q x hk hx
    refine h0.grow e1 (List.prefix_refl _) (fun u hu hq => ?_) fun u hu => ?_
    · rw [upd_ne (ne_of_none hu hp)]; exact hq
    · rw [upd_ne (ne_of_none hu hp)]; exact hu
/-- a new object that is a cell -/
theorem SdI.newCell {p : Addr} {o : HO} {x : Cell} (d : SdI c F I ps σ H G S) (hp : H p = none) (hx : CellAt c I (upd H p o) (ps ++ [p]) p x) : SdI c F I (ps ++ [p]) σ (upd H p o) G (S ++ [x]) := by
  have hI : I p = none := d.ex.none hp
  have hps : p ∉ ps := fun z => d.th p z hp
  have hne : ∀ q, q ∈ ps → q ≠ p := fun q hq z => hps (z ▸ hq)
  refine ⟨fun a u h => ?_, d.fi, fun q u h hn => ?_, d.fn, d.pre.trans (List.prefix_append _ _), fun q hq => ?_, fun q hq => ?_, ?_, by rw [List.length_append, List.length_append, d.len]; rfl, fun k q y hk hy => ?_, d.ok.mono (Ex.refl I) (List.prefix_append _ _)⟩
  · rw [upd_ne (ne_of_none h hI)]; exact d.ex a u h
  · have := d.fh q u h hn
    rw [upd_ne (ne_of_none this hp)]; exact this
  · rcases List.mem_append.mp hq with z | z
    · exact d.new q z
    · have : q = p := by simpa using z
      subst this
      by_cases hf : q ∈ F.ps
      · exact .inl hf
      · refine .inr ?_
        cases r : F.H q with
        | none => rfl
        | some u => rw [d.fh q u r hf] at hp; cases hp
  · rcases List.mem_append.mp hq with z | z
    · rw [upd_ne (hne q z)]; exact d.th q z
    · have : q = p := by simpa using z
      subst this
      rw [upd_same]; exact fun h => by cases h
  · rw [List.nodup_append]
    exact ⟨d.nd, by simp, fun a ha b hb => by
      have : b = p := by simpa using hb
      subst this
      exact hne a ha⟩
  · rcases Nat.lt_or_ge k ps.length with hk' | hk'
    · rw [List.getElem?_append_left hk'] at hk
      rw [List.getElem?_append_left (by rw [← d.len]; exact hk')] at hy
      have hq := List.mem_of_getElem? hk
      exact (d.cl k q y hk hy).grow (Ex.refl I) (List.prefix_append _ _) (fun _ _ h => h) fun o' h' => by rw [upd_ne (hne q hq)]; exact h'
    · rw [List.getElem?_append_right hk'] at hk
      rw [List.getElem?_append_right (by rw [← d.len]; exact hk'), ← d.len] at hy
      cases e : k - ps.length with
      | zero =>
        rw [e] at hk hy
        simp at hk hy
        subst hk hy
        exact hx
      | succ m => rw [e] at hk; simp at hk
theorem SdI.at_ (d : SdI c F I ps σ H G S) {k : Nat} {x : Cell} (h : S[k]? = some x) : ∃ p, ps[k]? = some p ∧ CellAt c I H ps p x := by
  have hk : k < ps.length := by rw [d.len]; exact (List.getElem?_eq_some_iff.mp h).1
  exact ⟨ps[k], List.getElem?_eq_getElem hk, d.cl k _ x (List.getElem?_eq_getElem hk) h⟩
theorem nodup_get {α : Type} : ∀ {l : List α}, l.Nodup → ∀ {i j : Nat} {x : α}, l[i]? = some x → l[j]? = some x → i = j
  | [], _, i, _, _, hi, _ => by simp at hi
  | a :: l, h, 0, 0, x, _, _ => rfl
  | a :: l, h, 0, j + 1, x, hi, hj => by
    simp at hi hj
    subst hi
    exact absurd (List.mem_of_getElem? hj) (List.nodup_cons.mp h).1
  | a :: l, h, i + 1, 0, x, hi, hj => by
    simp at hi hj
    subst hj
    exact absurd (List.mem_of_getElem? hi) (List.nodup_cons.mp h).1
  | a :: l, h, i + 1, j + 1, x, hi, hj => by
    simp at hi hj
    rw [nodup_get (List.nodup_cons.mp h).2 hi hj]
/-- a cell is written -/
theorem SdI.wr {k : Nat} {p : Addr} {o : HO} {x : Cell} (d : SdI c F I ps σ H G S) (hk : ps[k]? = some p) (hI : I p = none) (hx : CellAt c I (upd H p o) ps p x) : SdI c F I ps σ (upd H p o) G (S.set k x) := by
  have hm := List.mem_of_getElem? hk
  refine ⟨fun a u h => ?_, d.fi, fun q u h hn => ?_, d.fn, d.pre, d.new, fun q hq => ?_, d.nd, by rw [List.length_set]; exact d.len, fun j q y hj hy => ?_, d.ok⟩
  · rw [upd_ne (ne_of_none h hI)]; exact d.ex a u h
  · have hqp : q ≠ p := fun z => by
      subst z
      rcases d.new q hm with z | z
      · exact hn z
      · rw [z] at h; cases h
    rw [upd_ne hqp]; exact d.fh q u h hn
  · by_cases hq2 : q = p
    · subst hq2; rw [upd_same]; exact fun h => by cases h
    · rw [upd_ne hq2]; exact d.th q hq
  · by_cases hjk : j = k
    · subst hjk
      rw [hk] at hj; cases hj
      rw [List.getElem?_set_self (by rw [← d.len]; exact (List.getElem?_eq_some_iff.mp hk).1)] at hy
      cases hy
      exact hx
    · rw [List.getElem?_set_ne (Ne.symm hjk)] at hy
      have hq : q ≠ p := fun z => hjk (nodup_get d.nd hj (z ▸ hk))
      exact (d.cl j q y hj hy).grow (Ex.refl I) (List.prefix_refl _) (fun _ _ h => h) fun o' h' => by rw [upd_ne hq]; exact h'
def frz (k : Nat) (e : D) : Sl → Sl
  | .pt j => if j = k then .im e else .pt j
  | s => s
theorem Slots.frz {k : Nat} {e : D} {p : Addr} (hk : ps[k]? = some p) (he : Holds c.K I (.ref p) e) : ∀ {σ : St} {G : List Sl}, Slots c I ps σ G → Slots c I ps σ (G.map (Dt.frz k e))
  | _, _, .nil => .nil
  | _, _, .cons (s := s) h r => by
    refine .cons ?_ (r.frz hk he)
    cases s with
    | no => trivial
    | im d => exact h
    | pt j =>
      obtain ⟨q, h1, h2⟩ := h
      show SlOk c I ps _ (if j = k then Sl.im e else Sl.pt j)
      by_cases hj : j = k
      · subst hj
        rw [if_pos rfl]
        rw [hk] at h1; cases h1
        exact ⟨_, h2, he⟩
      · rw [if_neg hj]; exact ⟨q, h1, h2⟩
/-- a cell becomes data -/
theorem SdI.freezeWith {k : Nat} {p : Addr} {o : HO} {e : D} (d : SdI c F I ps σ H G S) (hk : ps[k]? = some p) (hI : I p = none) (ho : H p = some o) (he : Holds c.K (upd I p o) (.ref p) e) : SdI c F (upd I p o) ps σ H (G.map (frz k e)) (S.set k .dead) := by
  have hm := List.mem_of_getElem? hk
  have e1 : Ex I (upd I p o) := Ex.new hI
  refine ⟨fun a u h => ?_, d.fi.trans e1, d.fh, fun q h hi hn => ?_, d.pre, d.new, d.th, d.nd, by rw [List.length_set]; exact d.len, fun j q y hj hy => ?_, (d.ok.mono e1 (List.prefix_refl _)).frz hk he⟩
  · by_cases ha : a = p
    · subst ha; rw [upd_same] at h; cases h; exact ho
    · rw [upd_ne ha] at h; exact d.ex a u h
  · have hqp : q ≠ p := fun z => by
      subst z
      rcases d.new q hm with z | z
      · exact hn z
      · exact h z
    rw [upd_ne hqp]; exact d.fn q h hi hn
  · by_cases hjk : j = k
    · subst hjk
      rw [List.getElem?_set_self (by rw [← d.len]; exact (List.getElem?_eq_some_iff.mp hk).1)] at hy
      cases hy
      trivial
    · rw [List.getElem?_set_ne (Ne.symm hjk)] at hy
      have hq : q ≠ p := fun z => hjk (nodup_get d.nd hj (z ▸ hk))
      exact (d.cl j q y hj hy).grow e1 (List.prefix_refl _) (fun _ _ h => by rw [upd_ne hq]; exact h) fun o' h' => h'
/-- the data that a cell becomes -/
def Cell.frozen : Cell → Option D
  | .lst l => some (.lst l)
  | .dk ks l => some (.dk ks l)
  | .ins C ns l => some (.ins C ns l)
  | _ => none
theorem SdI.freeze {k : Nat} {x : Cell} {e : D} (d : SdI c F I ps σ H G S) (h : S[k]? = some x) (hf : x.frozen = some e) : ∃ I' p, ps[k]? = some p ∧ Ex I I' ∧ Holds c.K I' (.ref p) e ∧ SdI c F I' ps σ H (G.map (frz k e)) (S.set k .dead) := by
  obtain ⟨p, hk, hc⟩ := d.at_ h
  cases x with
  | dead => cases hf
  | ptrs ks => cases hf
  | dn l => cases hf
  | lst l =>
    cases hf
    obtain ⟨h1, xs, h2, h3⟩ := hc
    have he : Holds c.K (upd I p (.lst xs)) (.ref p) (.lst l) := .lst upd_same (h3.mono (Ex.new h1))
    exact ⟨_, p, hk, Ex.new h1, he, d.freezeWith hk h1 h2 he⟩
  | dk ks l =>
    cases hf
    obtain ⟨h1, xs, h2, h3, h4⟩ := hc
    have he : Holds c.K (upd I p (.dK (ks.zip xs))) (.ref p) (.dk ks l) := .dk upd_same h3 (h4.mono (Ex.new h1))
    exact ⟨_, p, hk, Ex.new h1, he, d.freezeWith hk h1 h2 he⟩
  | ins C ns l =>
    cases hf
    obtain ⟨h1, dx, xs, h2, h3, h4⟩ := hc
    have he : Holds c.K (upd I p (.ins C dx (ns.zip xs))) (.ref p) (.ins C ns l) := .ins upd_same h3 (h4.mono (Ex.new h1))
    exact ⟨_, p, hk, Ex.new h1, he, d.freezeWith hk h1 h2 he⟩
end
end Dt

set_option Elab.async false
set_option linter.all false
set_option maxRecDepth 100000
set_option maxHeartbeats 1000000
namespace Dt
open PySem L2

abbrev SC := List Cell
abbrev SG := List Sl

/-- from such a state the expression gives such a slot's value, the cells behind it so -/
def RE (c : Cn) (te : TE) (G : SG) (S : SC) (Q : SC → Sl → Prop) : Prop := ∀ (F : Fr) (I : Hp) (ps : List Addr) (σ τ : St) (T : SG) (H : Hp) (Qv : VK), σ.length = G.length → SdI c F I ps (σ ++ τ) H (G ++ T) S →
  (∀ I' ps' S' s v H', Q S' s → SdI c F I' ps' (σ ++ τ ++ [some v]) H' (G ++ T ++ [s]) S' → Qv v H') → te σ H Qv
def RT (c : Cn) (tt : TT) (G : SG) (S : SC) (Q : SC → Bool → Prop) : Prop := ∀ (F : Fr) (I : Hp) (ps : List Addr) (σ τ : St) (T : SG) (H : Hp) (Qb : Bool → Hp → Prop), σ.length = G.length → SdI c F I ps (σ ++ τ) H (G ++ T) S →
  (∀ I' ps' S' b H', Q S' b → SdI c F I' ps' (σ ++ τ) H' (G ++ T) S' → Qb b H') → tt σ H Qb
def RA (c : Cn) (ta : TA) (G : SG) (S : SC) (Q : SC → SG → Prop) : Prop := ∀ (F : Fr) (I : Hp) (ps : List Addr) (σ τ : St) (T : SG) (H : Hp) (Qv : List V → Hp → Prop), σ.length = G.length → SdI c F I ps (σ ++ τ) H (G ++ T) S →
  (∀ I' ps' S' ss vs H', Q S' ss → SdI c F I' ps' (σ ++ τ ++ vs.map some) H' (G ++ T ++ ss) S' → Qv vs H') → ta σ H Qv
/-- what is wanted behind a statement -/
structure Po where
  nx : SG → SC → Prop
  rt : SC → Sl → Prop
  bk : SG → SC → Prop := fun _ _ => False
  ct : SG → SC → Prop := fun _ _ => False
def isIm : Sl → Bool
  | .im _ => true
  | .no => true
  | .pt _ => false
structure PoOk (c : Cn) (F : Fr) (τ : St) (T : SG) (n : Nat) (P : Po) (D : Ends) : Prop where
  nx : ∀ I' ps' G' S' σ' H', P.nx G' S' → σ'.length = n → SdI c F I' ps' (σ' ++ τ) H' (G' ++ T) S' → D.nx σ' H'
  rt : ∀ I' ps' S' s v H', P.rt S' s → SdI c F I' ps' [some v] H' [s] S' → D.rt v H'
  bk : ∀ I' ps' G' S' σ' H', P.bk G' S' → σ'.length = n → SdI c F I' ps' (σ' ++ τ) H' (G' ++ T) S' → D.bk σ' H'
  ct : ∀ I' ps' G' S' σ' H', P.ct G' S' → σ'.length = n → SdI c F I' ps' (σ' ++ τ) H' (G' ++ T) S' → D.ct σ' H'
def RS (c : Cn) (ts : TS) (G : SG) (S : SC) (P : Po) : Prop := ∀ (F : Fr) (I : Hp) (ps : List Addr) (σ τ : St) (T : SG) (H : Hp) (D : Ends), σ.length = G.length → T.all isIm = true → SdI c F I ps (σ ++ τ) H (G ++ T) S →
  PoOk c F τ T σ.length P D → ts D σ H
/-- a target takes a slot's value -/
def RG (c : Cn) (tg : TG) (s : Sl) (G : SG) (S : SC) (Q : SG → SC → Prop) : Prop := ∀ (F : Fr) (I : Hp) (ps : List Addr) (σ τ : St) (T : SG) (H : Hp) (v : V) (Qs : St → Hp → Prop), σ.length = G.length → SdI c F I ps (σ ++ τ ++ [some v]) H (G ++ T ++ [s]) S →
  (∀ I' ps' G' S' σ' H', Q G' S' → σ'.length = σ.length → SdI c F I' ps' (σ' ++ τ) H' (G' ++ T) S' → Qs σ' H') → tg v σ H Qs

section
variable {c : Cn} {F : Fr} {I I' : Hp} {ps ps' : List Addr} {σ τ σ' : St} {H H' : Hp} {G T G' : SG} {S S' : SC} {te ta tb : TE} {tt tu : TT} {Q : SC → Sl → Prop}

/-! ### shuffles -/
theorem SdI.lenG {a b : St} {A B : SG} (d : SdI c F I ps (a ++ b) H (A ++ B) S) (h : a.length = A.length) : b.length = B.length := by
  have := d.ok.length
  rw [List.length_append, List.length_append] at this
  omega
theorem SdI.drop1 {v : Option V} {s : Sl} {a : St} {A : SG} (d : SdI c F I ps (a ++ [v]) H (A ++ [s]) S) : SdI c F I ps a H A S ∧ SlOk c I ps v s := by
  have hl : a.length = A.length := by
    have := d.ok.length
    simp at this
    exact this
  obtain ⟨h1, h2⟩ := Slots.split hl d.ok
  refine ⟨d.withSlots h1, ?_⟩
  cases h2 with
  | cons a _ => exact a
theorem SdI.push1 {v : Option V} {s : Sl} (d : SdI c F I ps σ H G S) (h : SlOk c I ps v s) : SdI c F I ps (σ ++ [v]) H (G ++ [s]) S := d.withSlots (d.ok.append (.cons h .nil))
theorem SlOk.im {x : V} {d : D} (h : Holds c.K I x d) : SlOk c I ps (some x) (.im d) := ⟨x, rfl, h⟩
theorem SlOk.holds {x : V} {d : D} (h : SlOk c I ps (some x) (.im d)) : Holds c.K I x d := by
  obtain ⟨v, h1, h2⟩ := h
  cases h1
  exact h2
theorem SlOk.ref {x : V} {k : Nat} (h : SlOk c I ps (some x) (.pt k)) : ∃ p, ps[k]? = some p ∧ x = .ref p := by
  obtain ⟨p, h1, h2⟩ := h
  cases h2
  exact ⟨p, h1, rfl⟩

/-! ### names, constants -/
theorem re_var {i : Nat} {s : Sl} (h : G[i]? = some s) (hs : s ≠ .no) (q : Q S s) : RE c (tVar i) G S Q := by
  intro F I ps σ τ T H Qv hl d k
  obtain ⟨h1, h2⟩ := Slots.split hl d.ok
  obtain ⟨x, hx, ok⟩ := h1.get h
  cases s with
  | no => exact absurd rfl hs
  | im e =>
    obtain ⟨v, rfl, hv⟩ := ok
    exact ⟨v, hx, k I ps S _ v H q (d.push1 ⟨v, rfl, hv⟩)⟩
  | pt j =>
    obtain ⟨p, hp, rfl⟩ := ok
    exact ⟨_, hx, k I ps S _ _ H q (d.push1 ⟨p, hp, rfl⟩)⟩
theorem re_c {x : V} (q : Q S (.im (.v x))) : RE c (tC x) G S Q := by
  intro F I ps σ τ T H Qv hl d k
  exact k I ps S _ x H q (d.push1 ⟨x, rfl, .v x⟩)

/-! ### operators -/
/-- two values by an operator -/
def OpD (c : Cn) (r : R2) (S : SC) (s t : Sl) (Q : SC → Sl → Prop) : Prop := ∀ (F : Fr) (I : Hp) (ps : List Addr) (σ : St) (G : SG) (H : Hp) (x y : V) (Qv : VK), SdI c F I ps σ H G S → SlOk c I ps (some x) s → SlOk c I ps (some y) t →
  (∀ I' ps' S' u v H', Q S' u → SdI c F I' ps' (σ ++ [some v]) H' (G ++ [u]) S' → Qv v H') → r x y H Qv
theorem re_op {r : R2} (h : RE c ta G S fun S1 s => RE c tb G S1 fun S2 t => OpD c r S2 s t Q) : RE c (tOp r ta tb) G S Q := by
  intro F I ps σ τ T H Qv hl d k
  refine h F I ps σ τ T H _ hl d fun I1 ps1 S1 s x H1 h1 d1 => ?_
  rw [List.append_assoc, List.append_assoc] at d1
  refine h1 F I1 ps1 σ (τ ++ [some x]) (T ++ [s]) H1 _ hl d1 fun I2 ps2 S2 t y H2 h2 d2 => ?_
  obtain ⟨d3, oy⟩ := d2.drop1
  rw [← List.append_assoc, ← List.append_assoc] at d3
  obtain ⟨d4, ox⟩ := d3.drop1
  exact h2 F I2 ps2 _ _ H2 x y Qv d4 ox oy k
def UnD (c : Cn) (r : V → Hp → VK → Prop) (S : SC) (s : Sl) (Q : SC → Sl → Prop) : Prop := ∀ (F : Fr) (I : Hp) (ps : List Addr) (σ : St) (G : SG) (H : Hp) (x : V) (Qv : VK), SdI c F I ps σ H G S → SlOk c I ps (some x) s →
  (∀ I' ps' S' u v H', Q S' u → SdI c F I' ps' (σ ++ [some v]) H' (G ++ [u]) S' → Qv v H') → r x H Qv
/-- an expression whose reading asks one value -/
theorem re_un {r : V → Hp → VK → Prop} (h : RE c ta G S fun S1 s => UnD c r S1 s Q) : RE c (fun σ H Q => ta σ H fun x H1 => r x H1 Q) G S Q := by
  intro F I ps σ τ T H Qv hl d k
  refine h F I ps σ τ T H _ hl d fun I1 ps1 S1 s x H1 h1 d1 => ?_
  obtain ⟨d2, ox⟩ := d1.drop1
  exact h1 F I1 ps1 _ _ H1 x Qv d2 ox k
theorem od_pure {r : R2} {s t : Sl} {u : V} (q : Q S (.im (.v u))) (h : ∀ (I : Hp) (ps : List Addr) (x y : V) (H : Hp) (Qv : VK), Ex I H → SlOk c I ps (some x) s → SlOk c I ps (some y) t → Qv u H → r x y H Qv) : OpD c r S s t Q :=
  fun F I ps σ G H x y Qv d ox oy k => h I ps x y H Qv d.ex ox oy (k I ps S _ u H q (d.push1 ⟨u, rfl, .v u⟩))
theorem od_int {g : Int → Int → V} {i j : Int} (q : Q S (.im (.v (g i j)))) : OpD c (rI0 g) S (.im (iD i)) (.im (iD j)) Q := od_pure q fun I ps x y H Qv _ ox oy k => by
  have e1 := ox.holds.v_inv; have e2 := oy.holds.v_inv
  exact ⟨i, j, e1, e2, k⟩
theorem od_intC {C : Int → Int → Prop} {g : Int → Int → V} {i j : Int} (hc : C i j) (q : Q S (.im (.v (g i j)))) : OpD c (rI C g) S (.im (iD i)) (.im (iD j)) Q := od_pure q fun I ps x y H Qv _ ox oy k => by
  have e1 := ox.holds.v_inv; have e2 := oy.holds.v_inv
  exact ⟨i, j, e1, e2, hc, k⟩
theorem od_eq {x y : V} (h : scal x y = true) (q : Q S (.im (bD (decide (x = y))))) : OpD c rEq S (.im (.v x)) (.im (.v y)) Q := od_pure q fun I ps x' y' H Qv _ ox oy k => by
  have e1 := ox.holds.v_inv; have e2 := oy.holds.v_inv
  subst e1 e2
  exact ⟨h, k⟩
theorem od_ne {x y : V} (h : scal x y = true) (q : Q S (.im (bD (!decide (x = y))))) : OpD c rNe S (.im (.v x)) (.im (.v y)) Q := od_pure q fun I ps x' y' H Qv _ ox oy k => by
  have e1 := ox.holds.v_inv; have e2 := oy.holds.v_inv
  subst e1 e2
  exact ⟨h, k⟩

/-! ### sequences -/
/-- a list, data or a cell; a tuple -/
inductive LstOf (S : SC) : Sl → List D → Prop
  | im (l : List D) : LstOf S (.im (.lst l)) l
  | pt {k : Nat} {l : List D} (h : S[k]? = some (.lst l)) : LstOf S (.pt k) l
inductive SeqOf (S : SC) : Sl → List D → Prop
  | lst {s : Sl} {l : List D} (h : LstOf S s l) : SeqOf S s l
  | rl (l : List D) : SeqOf S (.im (.rl l)) l
  | tup (l : List D) : SeqOf S (.im (.tup l)) l
  | tupF (l : List D) : SeqOf S (.im (.tupF l)) l
theorem lst_at {s : Sl} {l : List D} {x : V} (d : SdI c F I ps σ H G S) (ok : SlOk c I ps (some x) s) (h : LstOf S s l) : ∃ p xs, x = .ref p ∧ H p = some (.lst xs) ∧ HoldsL c.K I xs l := by
  cases h with
  | im l =>
    cases ok.holds with
    | lst h1 h2 => exact ⟨_, _, rfl, d.ex _ _ h1, h2⟩
  | pt h =>
    obtain ⟨p, h1, rfl⟩ := ok.ref
    obtain ⟨q, hq, hc⟩ := d.at_ h
    rw [h1] at hq; cases hq
    obtain ⟨_, xs, h2, h3⟩ := hc
    exact ⟨p, xs, rfl, h2, h3⟩
theorem rl_at {l : List D} {x : V} (ex : Ex I H) (h : Holds c.K I x (.rl l)) : ∃ p xs, x = .ref p ∧ SqL c.K H p xs ∧ HoldsL c.K I xs l := by
  cases h with
  | rl h1 h2 => exact ⟨_, _, rfl, ex.sqL h1, h2⟩
theorem tup_at {l : List D} {x : V} (ex : Ex I H) (h : Holds c.K I x (.tup l)) : ∃ p xs, x = .ref p ∧ SqT c.K H p xs ∧ HoldsL c.K I xs l := by
  cases h with
  | tup h1 h2 => exact ⟨_, _, rfl, h1.elim (fun h => .inl (.inl (ex _ _ h))) fun h => ex.sqT h.2, h2⟩
theorem tupF_at {l : List D} {x : V} (ex : Ex I H) (h : Holds c.K I x (.tupF l)) : ∃ p ob xs, x = .ref p ∧ H p = some (.frz ob (.tup xs)) ∧ ob.dict = none ∧ HoldsL c.K I xs l := by
  cases h with
  | tupF h1 h2 h3 => exact ⟨_, _, _, rfl, ex _ _ h1, h2, h3⟩
theorem seq_at {s : Sl} {l : List D} {x : V} (d : SdI c F I ps σ H G S) (ok : SlOk c I ps (some x) s) (h : SeqOf S s l) : ∃ p xs, x = .ref p ∧ (SqL c.K H p xs ∨ SqT c.K H p xs) ∧ HoldsL c.K I xs l := by
  cases h with
  | lst h => obtain ⟨p, xs, h1, h2, h3⟩ := lst_at d ok h; exact ⟨p, xs, h1, .inl (SqL.of h2), h3⟩
  | rl l => obtain ⟨p, xs, h1, h2, h3⟩ := rl_at d.ex ok.holds; exact ⟨p, xs, h1, .inl h2, h3⟩
  | tup l => obtain ⟨p, xs, h1, h2, h3⟩ := tup_at d.ex ok.holds; exact ⟨p, xs, h1, .inr h2, h3⟩
  | tupF l => obtain ⟨p, ob, xs, h1, h2, _, h3⟩ := tupF_at d.ex ok.holds; exact ⟨p, xs, h1, .inr (.inl (.inr ⟨ob, h2⟩)), h3⟩
theorem atI_holds {xs : List V} {l : List D} {i : Int} {e : D} (h : HoldsL c.K I xs l) (hi : atI l i = some e) : ∃ v, atI xs i = some v ∧ Holds c.K I v e := by
  unfold atI at hi ⊢
  rw [h.length]
  cases q : ixN l.length i with
  | none => rw [q] at hi; cases hi
  | some j =>
    rw [q] at hi
    obtain ⟨v, h1, h2⟩ := h.getD (i := j) (d := e) hi
    exact ⟨v, h1, h2⟩
/-- xs[i] -/
theorem od_ix {s : Sl} {l : List D} {i : Int} {e : D} (h : SeqOf S s l) (hi : atI l i = some e) (q : Q S (.im e)) : OpD c (rIx c.K) S s (.im (iD i)) Q := by
  intro F I ps σ G H x y Qv d ox oy k
  have e2 := oy.holds.v_inv
  subst e2
  cases h with
  | lst h =>
    obtain ⟨p, xs, rfl, h1, h2⟩ := lst_at d ox h
    obtain ⟨v, h3, h4⟩ := atI_holds h2 hi
    exact .inl ⟨p, xs, i, v, rfl, rfl, SqL.of h1, h3, k I ps S _ v H q (d.push1 (.im h4))⟩
  | rl l =>
    obtain ⟨p, xs, rfl, h1, h2⟩ := rl_at d.ex ox.holds
    obtain ⟨v, h3, h4⟩ := atI_holds h2 hi
    exact .inl ⟨p, xs, i, v, rfl, rfl, h1, h3, k I ps S _ v H q (d.push1 (.im h4))⟩
  | tup l =>
    obtain ⟨p, xs, rfl, h1, h2⟩ := tup_at d.ex ox.holds
    obtain ⟨v, h3, h4⟩ := atI_holds h2 hi
    exact .inr (.inl ⟨p, xs, i, v, rfl, rfl, h1, h3, k I ps S _ v H q (d.push1 (.im h4))⟩)
  | tupF l =>
    obtain ⟨p, ob, xs, rfl, h1, _, h2⟩ := tupF_at d.ex ox.holds
    obtain ⟨v, h3, h4⟩ := atI_holds h2 hi
    exact .inr (.inl ⟨p, xs, i, v, rfl, rfl, .inl (.inr ⟨ob, h1⟩), h3, k I ps S _ v H q (d.push1 (.im h4))⟩)
/-- a pointer in a list of pointers -/
theorem od_ixP {k j : Nat} {ks : List Nat} {i : Int} (h : S[k]? = some (.ptrs ks)) (hi : atI ks i = some j) (q : Q S (.pt j)) : OpD c (rIx c.K) S (.pt k) (.im (iD i)) Q := by
  intro F I ps σ G H x y Qv d ox oy kk
  have e2 := oy.holds.v_inv
  subst e2
  obtain ⟨p, h1, rfl⟩ := ox.ref
  obtain ⟨p', hp', hc⟩ := d.at_ h
  rw [h1] at hp'; cases hp'
  obtain ⟨_, qs, h2, h3⟩ := hc
  have hlen : qs.length = ks.length := by
    have := congrArg List.length h3
    simpa using this.symm
  unfold atI at hi
  cases e : ixN ks.length i with
  | none => rw [e] at hi; cases hi
  | some m =>
    rw [e] at hi
    have hi' : ks[m]? = some j := hi
    have h4 : (ks.map (ps[·]?))[m]? = some (ps[j]?) := by rw [List.getElem?_map, hi']; rfl
    rw [h3, List.getElem?_map] at h4
    cases e5 : qs[m]? with
    | none => rw [e5] at h4; cases h4
    | some a =>
      rw [e5] at h4
      have h5 : ps[j]? = some a := by
        have : some (some a) = some (ps[j]?) := h4
        exact (Option.some.inj this).symm
      refine .inl ⟨p, qs.map V.ref, i, .ref a, rfl, rfl, SqL.of h2, ?_, kk I ps S _ _ H q (d.push1 ⟨a, h5, rfl⟩)⟩
      unfold atI
      rw [List.length_map, hlen, e]
      show (qs.map V.ref)[m]? = _
      rw [List.getElem?_map, e5]
      rfl

/-! ### tests -/
theorem rt_test (h : RE c te G S fun S1 s => ∃ b, s = .im (bD b) ∧ Q' S1 b) : RT c (tTest te) G S Q' := by
  intro F I ps σ τ T H Qb hl d k
  refine h F I ps σ τ T H _ hl d fun I1 ps1 S1 s x H1 h1 d1 => ?_
  obtain ⟨b, rfl, q⟩ := h1
  obtain ⟨d2, ox⟩ := d1.drop1
  exact ⟨b, ox.holds.v_inv, k I1 ps1 S1 b H1 q d2⟩
theorem rt_B {Q' : SC → Bool → Prop} (h : RE c te G S fun S1 s => ∃ b, s = .im (bD b) ∧ Q' S1 b) : RT c (tB te) G S Q' := rt_test h
theorem rt_not {Q' : SC → Bool → Prop} (h : RT c tt G S fun S1 b => Q' S1 (!b)) : RT c (tNot tt) G S Q' := by
  intro F I ps σ τ T H Qb hl d k
  exact h F I ps σ τ T H _ hl d fun I1 ps1 S1 b H1 h1 d1 => k I1 ps1 S1 _ H1 h1 d1
theorem rt_and {Q' : SC → Bool → Prop} (h : RT c tt G S fun S1 b => if b = true then RT c tu G S1 Q' else Q' S1 false) : RT c (tAnd tt tu) G S Q' := by
  intro F I ps σ τ T H Qb hl d k
  refine h F I ps σ τ T H _ hl d fun I1 ps1 S1 b H1 h1 d1 => ?_
  cases b with
  | true => exact h1 F I1 ps1 σ τ T H1 _ hl d1 k
  | false => exact k I1 ps1 S1 _ H1 h1 d1
theorem rt_or {Q' : SC → Bool → Prop} (h : RT c tt G S fun S1 b => if b = true then Q' S1 true else RT c tu G S1 Q') : RT c (tOr tt tu) G S Q' := by
  intro F I ps σ τ T H Qb hl d k
  refine h F I ps σ τ T H _ hl d fun I1 ps1 S1 b H1 h1 d1 => ?_
  cases b with
  | false => exact h1 F I1 ps1 σ τ T H1 _ hl d1 k
  | true => exact k I1 ps1 S1 _ H1 h1 d1
theorem re_notV (h : RE c te G S fun S1 s => ∃ b, s = .im (bD b) ∧ Q S1 (.im (bD (!b)))) : RE c (tNotV te) G S Q := by
  intro F I ps σ τ T H Qv hl d k
  refine h F I ps σ τ T H _ hl d fun I1 ps1 S1 s x H1 h1 d1 => ?_
  obtain ⟨b, rfl, q⟩ := h1
  obtain ⟨d2, ox⟩ := d1.drop1
  exact ⟨b, ox.holds.v_inv, k I1 ps1 S1 _ _ H1 q (d2.push1 (.im (.v _)))⟩
theorem re_andV (h : RE c ta G S fun S1 s => ∃ b, s = .im (bD b) ∧ if b = true then RE c tb G S1 Q else Q S1 (.im (bD false))) : RE c (tAndV ta tb) G S Q := by
  intro F I ps σ τ T H Qv hl d k
  refine h F I ps σ τ T H _ hl d fun I1 ps1 S1 s x H1 h1 d1 => ?_
  obtain ⟨b, rfl, q⟩ := h1
  obtain ⟨d2, ox⟩ := d1.drop1
  refine ⟨b, ox.holds.v_inv, ?_⟩
  cases b with
  | true => exact q F I1 ps1 σ τ T H1 _ hl d2 k
  | false => exact k I1 ps1 S1 _ _ H1 q (d2.push1 (.im (.v _)))
theorem re_orV (h : RE c ta G S fun S1 s => ∃ b, s = .im (bD b) ∧ if b = true then Q S1 (.im (bD true)) else RE c tb G S1 Q) : RE c (tOrV ta tb) G S Q := by
  intro F I ps σ τ T H Qv hl d k
  refine h F I ps σ τ T H _ hl d fun I1 ps1 S1 s x H1 h1 d1 => ?_
  obtain ⟨b, rfl, q⟩ := h1
  obtain ⟨d2, ox⟩ := d1.drop1
  refine ⟨b, ox.holds.v_inv, ?_⟩
  cases b with
  | false => exact q F I1 ps1 σ τ T H1 _ hl d2 k
  | true => exact k I1 ps1 S1 _ _ H1 q (d2.push1 (.im (.v _)))
theorem re_if (h : RT c tt G S fun S1 b => if b = true then RE c ta G S1 Q else RE c tb G S1 Q) : RE c (tIf tt ta tb) G S Q := by
  intro F I ps σ τ T H Qv hl d k
  refine h F I ps σ τ T H _ hl d fun I1 ps1 S1 b H1 h1 d1 => ?_
  cases b with
  | true => exact h1 F I1 ps1 σ τ T H1 _ hl d1 k
  | false => exact h1 F I1 ps1 σ τ T H1 _ hl d1 k

/-! ### argument lists -/
theorem ra_nil {Q' : SC → SG → Prop} (q : Q' S []) : RA c tNil G S Q' := by
  intro F I ps σ τ T H Qv hl d k
  exact k I ps S [] [] H q (by rw [List.map_nil, List.append_nil, List.append_nil]; exact d)
theorem ra_cons {tr : TA} {Q' : SC → SG → Prop} (h : RE c te G S fun S1 s => RA c tr G S1 fun S2 ss => Q' S2 (s :: ss)) : RA c (tCons te tr) G S Q' := by
  intro F I ps σ τ T H Qv hl d k
  refine h F I ps σ τ T H _ hl d fun I1 ps1 S1 s x H1 h1 d1 => ?_
  rw [List.append_assoc, List.append_assoc] at d1
  refine h1 F I1 ps1 σ (τ ++ [some x]) (T ++ [s]) H1 _ hl d1 fun I2 ps2 S2 ss vs H2 h2 d2 => ?_
  refine k I2 ps2 S2 (s :: ss) (x :: vs) H2 h2 ?_
  rw [← List.append_assoc, List.append_assoc, ← List.append_assoc G, List.append_assoc (G ++ T)] at d2
  exact d2
/-- a display's items, all data -/
theorem slots_ims : ∀ {vs : List V} {ds : List D}, Slots c I ps (vs.map some) (ds.map Sl.im) → HoldsL c.K I vs ds
  | [], [], _ => .nil
  | v :: vs, e :: ds, h => by
    cases h with
    | cons a r => exact .cons a.holds (slots_ims r)
  | [], _ :: _, h => by cases h
  | _ :: _, [], h => by cases h
theorem ims_slots : ∀ {vs : List V} {ds : List D}, HoldsL c.K I vs ds → Slots c I ps (vs.map some) (ds.map Sl.im)
  | _, _, .nil => .nil
  | _, _, .cons h r => .cons (.im h) (ims_slots r)
theorem SdI.dropL {vs : List V} {ss : SG} {a : St} {A : SG} (d : SdI c F I ps (a ++ vs.map some) H (A ++ ss) S) (hl : a.length = A.length) : SdI c F I ps a H A S ∧ Slots c I ps (vs.map some) ss := by
  obtain ⟨h1, h2⟩ := Slots.split hl d.ok
  exact ⟨d.withSlots h1, h2⟩
theorem lenST {a b : St} {A B : SG} (d : SdI c F I ps (a ++ b) H (A ++ B) S) (h : a.length = A.length) : (a ++ b).length = (A ++ B).length := d.ok.length
theorem re_tup {tr : TA} (h : RA c tr G S fun S1 ss => ∃ ds : List D, ss = ds.map Sl.im ∧ ds.length ≤ 1000000 ∧ Q S1 (.im (.tup ds))) : RE c (tTup tr) G S Q := by
  intro F I ps σ τ T H Qv hl d k
  refine h F I ps σ τ T H _ hl d fun I1 ps1 S1 ss vs H1 h1 d1 => ?_
  obtain ⟨ds, rfl, hz, q⟩ := h1
  have hlen := d.ok.length
  obtain ⟨d2, h2⟩ := d1.dropL hlen
  have hv := slots_ims h2
  refine ⟨by rw [hv.length]; exact Nat.le_trans hz (by decide), fun p hp => ?_⟩
  exact k _ ps1 S1 _ _ _ q ((d2.newIm hp).push1 (.im (.tup (.inl upd_same) (hv.mono (Ex.new (d2.ex.none hp))))))
theorem re_lst {tr : TA} (h : RA c tr G S fun S1 ss => ∃ ds : List D, ss = ds.map Sl.im ∧ ds.length ≤ 1000000 ∧ Q S1 (.im (.lst ds))) : RE c (tLst tr) G S Q := by
  intro F I ps σ τ T H Qv hl d k
  refine h F I ps σ τ T H _ hl d fun I1 ps1 S1 ss vs H1 h1 d1 => ?_
  obtain ⟨ds, rfl, hz, q⟩ := h1
  have hlen := d.ok.length
  obtain ⟨d2, h2⟩ := d1.dropL hlen
  have hv := slots_ims h2
  refine ⟨by rw [hv.length]; exact Nat.le_trans hz (by decide), fun p hp => ?_⟩
  exact k _ ps1 S1 _ _ _ q ((d2.newIm hp).push1 (.im (.lst upd_same (hv.mono (Ex.new (d2.ex.none hp))))))
/-- a display that stays one's own -/
theorem re_lstO {tr : TA} (h : RA c tr G S fun S1 ss => ∃ ds : List D, ss = ds.map Sl.im ∧ ds.length ≤ 1000000 ∧ Q (S1 ++ [.lst ds]) (.pt S1.length)) : RE c (tLst tr) G S Q := by
  intro F I ps σ τ T H Qv hl d k
  refine h F I ps σ τ T H _ hl d fun I1 ps1 S1 ss vs H1 h1 d1 => ?_
  obtain ⟨ds, rfl, hz, q⟩ := h1
  have hlen := d.ok.length
  obtain ⟨d2, h2⟩ := d1.dropL hlen
  have hv := slots_ims h2
  refine ⟨by rw [hv.length]; exact Nat.le_trans hz (by decide), fun p hp => ?_⟩
  have hI := d2.ex.none hp
  refine k _ (ps1 ++ [p]) _ _ _ _ q ((d2.newCell hp (x := .lst ds) ⟨hI, vs, upd_same, hv⟩).push1 ⟨p, ?_, rfl⟩)
  rw [← d2.len, List.getElem?_append_right (Nat.le_refl _)]
  simp
end
end Dt

set_option Elab.async false
set_option linter.all false
set_option maxRecDepth 100000
set_option maxHeartbeats 1000000
namespace Dt
open PySem L2

section
variable {c : Cn} {F : Fr} {I I' : Hp} {ps ps' : List Addr} {σ τ σ' : St} {H H' : Hp} {G T G' : SG} {S S' : SC} {te ta tb : TE} {tt tu : TT} {Q : SC → Sl → Prop} {P : Po} {ts tv : TS}

/-! ### targets -/
theorem rg_name {i : Nat} {s : Sl} {Q : SG → SC → Prop} (q : Q (G.set i s) S) : RG c (gName i) s G S Q := by
  intro F I ps σ τ T H v Qs hl d k
  obtain ⟨d1, ok⟩ := d.drop1
  obtain ⟨h1, h2⟩ := Slots.split hl d1.ok
  exact k I ps _ S (σ.set i (some v)) H q (by rw [List.length_set]) (d1.withSlots ((h1.set ok i).append h2))
/-- several targets take several data -/
def RGs (c : Cn) (tg : TGs) (ds : List D) (G : SG) (S : SC) (Q : SG → SC → Prop) : Prop := ∀ (F : Fr) (I : Hp) (ps : List Addr) (σ τ : St) (T : SG) (H : Hp) (vs : List V) (Qs : St → Hp → Prop), σ.length = G.length → SdI c F I ps (σ ++ τ) H (G ++ T) S → HoldsL c.K I vs ds →
  (∀ I' ps' G' S' σ' H', Q G' S' → σ'.length = σ.length → SdI c F I' ps' (σ' ++ τ) H' (G' ++ T) S' → Qs σ' H') → tg vs σ H Qs
theorem rgs_nil {Q : SG → SC → Prop} (q : Q G S) : RGs c gNil [] G S Q := by
  intro F I ps σ τ T H vs Qs hl d hv k
  cases hv
  exact ⟨rfl, k I ps G S σ H q rfl d⟩
theorem rgs_cons {i : Nat} {u : TGs} {e : D} {ds : List D} {Q : SG → SC → Prop} (h : RGs c u ds (G.set i (.im e)) S Q) : RGs c (gCons (gName i) u) (e :: ds) G S Q := by
  intro F I ps σ τ T H vs Qs hl d hv k
  cases hv with
  | cons h1 h2 =>
    rename_i x xs
    obtain ⟨s1, s2⟩ := Slots.split hl d.ok
    refine ⟨x, xs, rfl, ?_⟩
    refine h F I ps (σ.set i (some x)) τ T H xs Qs (by rw [List.length_set, List.length_set]; exact hl) (d.withSlots ((s1.set (.im h1) i).append s2)) h2 fun I' ps' G' S' σ' H' q hl' d' => ?_
    exact k I' ps' G' S' σ' H' q (by rw [hl', List.length_set]) d'
theorem rg_tup {n : Nat} {u : TGs} {ds : List D} {Q : SG → SC → Prop} (hn : ds.length = n) (h : RGs c u ds G S Q) : RG c (gTup c.K n u) (.im (.tup ds)) G S Q := by
  intro F I ps σ τ T H v Qs hl d k
  obtain ⟨d1, ok⟩ := d.drop1
  obtain ⟨p, xs, rfl, h1, h2⟩ := tup_at d1.ex ok.holds
  exact ⟨p, xs, rfl, h1, by rw [h2.length]; exact hn, h F I ps σ τ T H xs Qs hl d1 h2 k⟩

/-! ### statements -/
theorem PoOk.ground {D : Ends} {n : Nat} (k : PoOk c F τ T n P D) (d : SdI c F I ps σ H G S) : PoOk c ⟨I, H, ps⟩ τ T n P D where
  nx := fun I' ps' G' S' σ' H' q hl e => k.nx I' ps' G' S' σ' H' q hl (d.back e)
  rt := fun I' ps' S' s v H' q e => k.rt I' ps' S' s v H' q (d.back e)
  bk := fun I' ps' G' S' σ' H' q hl e => k.bk I' ps' G' S' σ' H' q hl (d.back e)
  ct := fun I' ps' G' S' σ' H' q hl e => k.ct I' ps' G' S' σ' H' q hl (d.back e)
theorem SdI.last {a : St} {A : SG} {v : Option V} {s : Sl} (d : SdI c F I ps (a ++ [v]) H (A ++ [s]) S) : SdI c F I ps [v] H [s] S := d.withSlots (.cons d.drop1.2 .nil)
theorem rs_next (q : P.nx G S) : RS c tNext G S P := by
  intro F I ps σ τ T H D hl hT d k
  exact k.nx I ps G S σ H q rfl d
theorem rs_seq (h : RS c ts G S { P with nx := fun G' S' => RS c tv G' S' P }) : RS c (tSeq ts tv) G S P := by
  intro F I ps σ τ T H D hl hT d k
  refine h F I ps σ τ T H _ hl hT d ⟨fun I' ps' G' S' σ' H' q hl' d' => ?_, k.rt, k.bk, k.ct⟩
  have e1 := d.ok.length
  have e2 := d'.ok.length
  rw [List.length_append, List.length_append] at e1 e2
  refine q F I' ps' σ' τ T H' D (by omega) hT d' ?_
  rw [hl']
  exact k
theorem rs_asg {g : TG} (h : RE c te G S fun S1 s => RG c g s G S1 P.nx) : RS c (tAsg te g) G S P := by
  intro F I ps σ τ T H D hl hT d k
  refine h F I ps σ τ T H _ hl d fun I1 ps1 S1 s x H1 h1 d1 => ?_
  exact h1 F I1 ps1 σ τ T H1 x D.nx hl d1 fun I2 ps2 G2 S2 σ2 H2 q hl2 d2 => k.nx I2 ps2 G2 S2 σ2 H2 q hl2 d2
theorem rs_set {i : Nat} (h : RE c te G S fun S1 s => P.nx (G.set i s) S1) : RS c (tAsg te (gName i)) G S P := rs_asg fun F I ps σ τ T H Qv hl d k => h F I ps σ τ T H Qv hl d fun I' ps' S' s v H' q d' => k I' ps' S' s v H' (rg_name q) d'
theorem rs_ret (h : RE c te G S fun S1 s => P.rt S1 s) : RS c (tRet te) G S P := by
  intro F I ps σ τ T H D hl hT d k
  exact h F I ps σ τ T H _ hl d fun I1 ps1 S1 s x H1 h1 d1 => k.rt I1 ps1 S1 s x H1 h1 d1.last
theorem rs_retN (q : P.rt S (.im nD)) : RS c tRetN G S P := by
  intro F I ps σ τ T H D hl hT d k
  exact k.rt I ps S _ .non H q (d.withSlots (.cons (.im (.v .non)) .nil))
theorem rs_drop (h : RE c te G S fun S1 s => P.nx G S1) : RS c (tDrop te) G S P := by
  intro F I ps σ τ T H D hl hT d k
  exact h F I ps σ τ T H _ hl d fun I1 ps1 S1 s x H1 h1 d1 => k.nx I1 ps1 G S1 σ H1 h1 rfl d1.drop1.1
theorem rs_break (q : P.bk G S) : RS c tBreak G S P := by
  intro F I ps σ τ T H D hl hT d k
  exact k.bk I ps G S σ H q rfl d
theorem rs_cont (q : P.ct G S) : RS c tCont G S P := by
  intro F I ps σ τ T H D hl hT d k
  exact k.ct I ps G S σ H q rfl d
theorem rs_never (q : False) : RS c tNever G S P := q.elim
theorem rs_if (h : RT c tt G S fun S1 b => if b = true then RS c ts G S1 P else RS c tv G S1 P) : RS c (tIfS tt ts tv) G S P := by
  intro F I ps σ τ T H D hl hT d k
  refine h F I ps σ τ T H _ hl d fun I1 ps1 S1 b H1 h1 d1 => ?_
  cases b with
  | true => exact h1 F I1 ps1 σ τ T H1 D hl hT d1 k
  | false => exact h1 F I1 ps1 σ τ T H1 D hl hT d1 k
theorem frz_T {k : Nat} {e : D} : ∀ {T : SG}, T.all isIm = true → T.map (frz k e) = T
  | [], _ => rfl
  | s :: T, h => by
    rw [List.all_cons, Bool.and_eq_true] at h
    rw [List.map_cons, frz_T h.2]
    cases s with
    | no => rfl
    | im d => rfl
    | pt k => cases h.1
/-- a cell is not changed any more -/
theorem rs_freeze {k : Nat} {x : Cell} {e : D} (hx : S[k]? = some x) (hf : x.frozen = some e) (h : RS c ts (G.map (frz k e)) (S.set k .dead) P) : RS c ts G S P := by
  intro F I ps σ τ T H D hl hT d kk
  obtain ⟨I', p, _, _, _, d1⟩ := d.freeze hx hf
  rw [List.map_append, frz_T hT] at d1
  exact h F I' ps σ τ T H D (by rw [List.length_map]; exact hl) hT d1 kk
/-- what is wanted may be weakened, the state strengthened -/
theorem rs_mono {P' : Po} (h : RS c ts G S P') (h1 : ∀ G' S', P'.nx G' S' → P.nx G' S') (h2 : ∀ S' s, P'.rt S' s → P.rt S' s) (h3 : ∀ G' S', P'.bk G' S' → P.bk G' S') (h4 : ∀ G' S', P'.ct G' S' → P.ct G' S') : RS c ts G S P := by
  intro F I ps σ τ T H D hl hT d k
  exact h F I ps σ τ T H D hl hT d ⟨fun I' ps' G' S' σ' H' q => k.nx I' ps' G' S' σ' H' (h1 _ _ q), fun I' ps' S' s v H' q => k.rt I' ps' S' s v H' (h2 _ _ q), fun I' ps' G' S' σ' H' q => k.bk I' ps' G' S' σ' H' (h3 _ _ q), fun I' ps' G' S' σ' H' q => k.ct I' ps' G' S' σ' H' (h4 _ _ q)⟩
theorem re_mono {Q' : SC → Sl → Prop} (h : RE c te G S Q') (h1 : ∀ S' s, Q' S' s → Q S' s) : RE c te G S Q := by
  intro F I ps σ τ T H Qv hl d k
  exact h F I ps σ τ T H Qv hl d fun I' ps' S' s v H' q => k I' ps' S' s v H' (h1 _ _ q)
theorem rt_mono {Q1 Q2 : SC → Bool → Prop} (h : RT c tt G S Q1) (h1 : ∀ S' s, Q1 S' s → Q2 S' s) : RT c tt G S Q2 := by
  intro F I ps σ τ T H Qv hl d k
  exact h F I ps σ τ T H Qv hl d fun I' ps' S' s H' q => k I' ps' S' s H' (h1 _ _ q)

/-! ### what is walked -/
/-- the walk J gives just these data, while what was data stays -/
structure Wk (c : Cn) (I : Hp) (J : It) (ds : List D) : Prop where
  ex : ∃ (Gd : Hp → Prop) (Y : Nat → Hp → V → Hp → Prop), Walk J ds.length Gd Y ∧ (∀ I1 H1, Ex I I1 → Ex I1 H1 → Gd H1) ∧
    ∀ (F : Fr) (I1 : Hp) (ps : List Addr) (σ : St) (H1 : Hp) (G : SG) (S : SC) (i : Nat) (x : V) (H2 : Hp) (e : D), Ex I I1 → SdI c F I1 ps σ H1 G S → ds[i]? = some e → Y i H1 x H2 → ∃ I2, Ex I1 I2 ∧ SdI c F I2 ps (σ ++ [some x]) H2 (G ++ [.im e]) S
theorem Wk.mono {J : It} {ds : List D} (w : Wk c I J ds) (e : Ex I I') : Wk c I' J ds := by
  obtain ⟨Gd, Y, h1, h2, h3⟩ := w.ex
  exact ⟨Gd, Y, h1, fun I1 H1 a b => h2 I1 H1 (e.trans a) b, fun F I1 ps σ H1 G S i x H2 d a => h3 F I1 ps σ H1 G S i x H2 d (e.trans a)⟩
def RW (c : Cn) (wi : TI) (G : SG) (S : SC) (Q : SC → List D → Prop) : Prop := ∀ (F : Fr) (I : Hp) (ps : List Addr) (σ τ : St) (T : SG) (H : Hp) (R : It → Hp → Prop), σ.length = G.length → SdI c F I ps (σ ++ τ) H (G ++ T) S →
  (∀ I' ps' S' ds J H', Q S' ds → SdI c F I' ps' (σ ++ τ) H' (G ++ T) S' → Wk c I' J ds → R J H') → wi σ H R
theorem wk_list {a : Addr} {xs : List V} {ds : List D} (h : SqL c.K I a xs) (hv : HoldsL c.K I xs ds) : Wk c I (Itl c.K a) ds := by
  refine ⟨_, _, hv.length ▸ walk_list (K := c.K) (a := a) (xs := xs), fun I1 H1 e1 e2 => (e1.trans e2).sqL h, fun F I1 ps σ H1 G S i x H2 e ei d hi y => ?_⟩
  obtain ⟨rfl, hx⟩ := y
  obtain ⟨x', h1, h2⟩ := hv.getD hi
  rw [hx] at h1; cases h1
  exact ⟨I1, Ex.refl _, d.push1 (.im (h2.mono ei))⟩
theorem wk_tup {a : Addr} {xs : List V} {ds : List D} (h : SqT c.K I a xs) (hv : HoldsL c.K I xs ds) : Wk c I (Itt c.K a) ds := by
  refine ⟨_, _, hv.length ▸ walk_tup (K := c.K) (a := a) (xs := xs), fun I1 H1 e1 e2 => (e1.trans e2).sqT h, fun F I1 ps σ H1 G S i x H2 e ei d hi y => ?_⟩
  obtain ⟨rfl, hx⟩ := y
  obtain ⟨x', h1, h2⟩ := hv.getD hi
  rw [hx] at h1; cases h1
  exact ⟨I1, Ex.refl _, d.push1 (.im (h2.mono ei))⟩
def rangeD (lo : Int) (n : Nat) : List D := (List.range n).map fun i => iD (lo + (i : Nat))
theorem rangeD_get {lo : Int} {n i : Nat} {e : D} (h : (rangeD lo n)[i]? = some e) : i < n ∧ e = iD (lo + (i : Nat)) := by
  unfold rangeD at h
  rw [List.getElem?_map] at h
  rcases Nat.lt_or_ge i n with z | z
  · rw [List.getElem?_range z] at h
    exact ⟨z, (Option.some.inj h).symm⟩
  · rw [List.getElem?_eq_none (by rw [List.length_range]; exact z)] at h; cases h
theorem rangeD_length (lo : Int) (n : Nat) : (rangeD lo n).length = n := by unfold rangeD; rw [List.length_map, List.length_range]
theorem wk_range {lo : Int} {n : Nat} : Wk c I (Itr lo n) (rangeD lo n) := by
  refine ⟨_, _, (by rw [rangeD_length]; exact walk_range (lo := lo) (n := n)), fun _ _ _ _ => trivial, fun F I1 ps σ H1 G S i x H2 e ei d hi y => ?_⟩
  obtain ⟨rfl, rfl⟩ := y
  obtain ⟨_, rfl⟩ := rangeD_get hi
  exact ⟨I1, Ex.refl _, d.push1 (.im (.v _))⟩
theorem rw_list (h : RE c ta G S fun S1 s => ∃ l, (s = .im (.lst l) ∨ s = .im (.rl l)) ∧ Q' S1 l) : RW c (iList c.K ta) G S Q' := by
  intro F I ps σ τ T H R hl d k
  refine h F I ps σ τ T H _ hl d fun I1 ps1 S1 s x H1 h1 d1 => ?_
  obtain ⟨l, hs, q⟩ := h1
  obtain ⟨d2, ox⟩ := d1.drop1
  have hx : ∃ p xs, x = .ref p ∧ SqL c.K I1 p xs ∧ HoldsL c.K I1 xs l := by
    rcases hs with rfl | rfl
    · cases ox.holds with
      | lst a b => exact ⟨_, _, rfl, SqL.of a, b⟩
    · cases ox.holds with
      | rl a b => exact ⟨_, _, rfl, a, b⟩
  obtain ⟨p, xs, rfl, h2, h3⟩ := hx
  exact ⟨p, rfl, ⟨xs, d2.ex.sqL h2⟩, k I1 ps1 S1 l _ H1 q d2 (wk_list h2 h3)⟩
theorem rw_tup {Q' : SC → List D → Prop} (h : RE c ta G S fun S1 s => ∃ l, (s = .im (.tup l) ∨ s = .im (.tupF l)) ∧ Q' S1 l) : RW c (iTup c.K ta) G S Q' := by
  intro F I ps σ τ T H R hl d k
  refine h F I ps σ τ T H _ hl d fun I1 ps1 S1 s x H1 h1 d1 => ?_
  obtain ⟨l, hs, q⟩ := h1
  obtain ⟨d2, ox⟩ := d1.drop1
  have hx : ∃ p xs, x = .ref p ∧ SqT c.K I1 p xs ∧ HoldsL c.K I1 xs l := by
    rcases hs with rfl | rfl
    · exact tup_at (Ex.refl _) ox.holds
    · obtain ⟨p, ob, xs, h1, h2, _, h3⟩ := tupF_at (Ex.refl _) ox.holds
      exact ⟨p, xs, h1, .inl (.inr ⟨ob, h2⟩), h3⟩
  obtain ⟨p, xs, rfl, h2, h3⟩ := hx
  exact ⟨p, rfl, ⟨xs, d2.ex.sqT h2⟩, k I1 ps1 S1 l _ H1 q d2 (wk_tup h2 h3)⟩
theorem rw_rng1 {tr : TA} {Q' : SC → List D → Prop} (h : RA c tr G S fun S1 ss => ∃ n : Int, ss = [.im (iD n)] ∧ -(2 ^ 62) ≤ n ∧ n < 2 ^ 62 ∧ Q' S1 (rangeD 0 n.toNat)) : RW c (iRng1 tr) G S Q' := by
  intro F I ps σ τ T H R hl d k
  refine h F I ps σ τ T H _ hl d fun I1 ps1 S1 ss vs H1 h1 d1 => ?_
  obtain ⟨n, rfl, a, b, q⟩ := h1
  obtain ⟨d2, hv⟩ := d1.dropL d.ok.length
  have hv' := (slots_ims (ds := [iD n]) hv)
  refine ⟨n, HoldsL.v_inv (ys := [.int n]) hv', a, b, k I1 ps1 S1 _ _ H1 q d2 wk_range⟩
theorem rw_rng2 {tr : TA} {Q' : SC → List D → Prop} (h : RA c tr G S fun S1 ss => ∃ m n : Int, ss = [.im (iD m), .im (iD n)] ∧ (-(2 ^ 62) ≤ m ∧ m < 2 ^ 62 ∧ -(2 ^ 62) ≤ n ∧ n < 2 ^ 62) ∧ Q' S1 (rangeD m (n - m).toNat)) : RW c (iRng2 tr) G S Q' := by
  intro F I ps σ τ T H R hl d k
  refine h F I ps σ τ T H _ hl d fun I1 ps1 S1 ss vs H1 h1 d1 => ?_
  obtain ⟨m, n, rfl, a, q⟩ := h1
  obtain ⟨d2, hv⟩ := d1.dropL d.ok.length
  have hv' := (slots_ims (ds := [iD m, iD n]) hv)
  refine ⟨m, n, HoldsL.v_inv (ys := [.int m, .int n]) hv', a, k I1 ps1 S1 _ _ H1 q d2 wk_range⟩

/-! ### loops -/
theorem rs_for {wi : TI} {g : TG} {tb : TS} (h : RW c wi G S fun S1 ds => ∃ Iv : Nat → SG → SC → Prop, Iv 0 G S1 ∧
    (∀ i e G' S', ds[i]? = some e → Iv i G' S' → RG c g (.im e) G' S' fun G2 S2 => RS c tb G2 S2 { P with nx := Iv (i + 1), ct := Iv (i + 1), bk := P.nx }) ∧ ∀ G' S', Iv ds.length G' S' → P.nx G' S') : RS c (tFor wi g tb) G S P := by
  intro F I ps σ τ T H D hl hT d k
  refine h F I ps σ τ T H _ hl d fun I1 ps1 S1 ds J H1 h1 d1 w => ?_
  obtain ⟨Iv, h0, ht, hd⟩ := h1
  obtain ⟨Gd, Y, hw, hg, hy⟩ := w.ex
  refine for_it hw (fun i σ' H' => ∃ G' S' I' ps', Iv i G' S' ∧ σ'.length = σ.length ∧ Ex I1 I' ∧ SdI c F I' ps' (σ' ++ τ) H' (G' ++ T) S') ⟨G, S1, I1, ps1, h0, rfl, Ex.refl _, d1⟩ ?_ ?_ ?_
  · rintro i σ' H' _ ⟨G', S', I', ps', _, _, e, d'⟩
    exact hg I' H' e d'.ex
  · rintro i x σ' H' H2 hi ⟨G', S', I', ps', hI, hl', e, d'⟩ y
    obtain ⟨I2, e2, d2⟩ := hy F I' ps' _ H' _ S' i x H2 ds[i] e d' (List.getElem?_eq_getElem hi) y
    have hlen : σ'.length = G'.length := by
      have e1 := d.ok.length
      have e3 := d'.ok.length
      rw [List.length_append, List.length_append] at e1 e3
      omega
    have e12 : Ex I1 I2 := e.trans e2
    refine ht i ds[i] G' S' (List.getElem?_eq_getElem hi) hI ⟨I2, H2, ps'⟩ I2 ps' σ' τ T H2 x _ hlen (by rw [List.append_assoc]; rw [List.append_assoc] at d2; exact d2.ground) fun I3 ps3 G3 S3 σ3 H3 q hl3 d3 => ?_
    have hlen3 : σ3.length = G3.length := by
      have e1 := d.ok.length
      have e3 := d3.ok.length
      rw [List.length_append, List.length_append] at e1 e3
      omega
    have d2b : SdI c F I2 ps' (σ' ++ τ) H2 (G' ++ T) S' := d2.drop1.1
    have d3b := d2b.back d3
    refine q ⟨I3, H3, ps3⟩ I3 ps3 σ3 τ T H3 _ hlen3 hT d3.ground ⟨fun I4 ps4 G4 S4 σ4 H4 q4 hl4 d4 => ?_, fun I4 ps4 S4 s v H4 q4 d4 => k.rt I4 ps4 S4 s v H4 q4 (d3b.back d4), fun I4 ps4 G4 S4 σ4 H4 q4 hl4 d4 => ?_, fun I4 ps4 G4 S4 σ4 H4 q4 hl4 d4 => ?_⟩
    · exact ⟨G4, S4, I4, ps4, q4, by rw [hl4, hl3, hl'], (e12.trans d3.fi).trans d4.fi, d3b.back d4⟩
    · exact k.nx I4 ps4 G4 S4 σ4 H4 q4 (by rw [hl4, hl3, hl']) (d3b.back d4)
    · exact ⟨G4, S4, I4, ps4, q4, by rw [hl4, hl3, hl'], (e12.trans d3.fi).trans d4.fi, d3b.back d4⟩
  · rintro σ' H' ⟨G', S', I', ps', hI, hl', e, d'⟩
    exact k.nx I' ps' G' S' σ' H' (hd G' S' hI) hl' d'
theorem rs_while {tb : TS} (Iv : Nat → SG → SC → Prop) (m0 : Nat) (h0 : Iv m0 G S)
    (h : ∀ m G' S', Iv m G' S' → RT c tt G' S' fun S1 b => if b = true then RS c tb G' S1 { P with nx := fun G2 S2 => ∃ m', m' < m ∧ Iv m' G2 S2, ct := fun G2 S2 => ∃ m', m' < m ∧ Iv m' G2 S2, bk := P.nx } else P.nx G' S1) : RS c (tWhile tt tb) G S P := by
  intro F I ps σ τ T H D hl hT d k
  refine ⟨fun m σ' H' => ∃ G' S' I' ps', Iv m G' S' ∧ σ'.length = σ.length ∧ SdI c F I' ps' (σ' ++ τ) H' (G' ++ T) S', ⟨m0, G, S, I, ps, h0, rfl, d⟩, ?_⟩
  rintro m σ' H' ⟨G', S', I', ps', hI, hl', d'⟩
  have hlen : σ'.length = G'.length := by
    have e1 := d.ok.length
    have e3 := d'.ok.length
    rw [List.length_append, List.length_append] at e1 e3
    omega
  refine h m G' S' hI F I' ps' σ' τ T H' _ hlen d' fun I1 ps1 S1 b H1 h1 d1 => ?_
  cases b with
  | true =>
    refine ⟨fun σ2 H2 => ∃ m', m' < m ∧ ∃ G' S' I' ps', Iv m' G' S' ∧ σ2.length = σ.length ∧ SdI c F I' ps' (σ2 ++ τ) H2 (G' ++ T) S', fun σ2 H2 z => z, ?_⟩
    refine h1 F I1 ps1 σ' τ T H1 _ hlen hT d1 ⟨fun I4 ps4 G4 S4 σ4 H4 q4 hl4 d4 => ?_, k.rt, fun I4 ps4 G4 S4 σ4 H4 q4 hl4 d4 => ?_, fun I4 ps4 G4 S4 σ4 H4 q4 hl4 d4 => ?_⟩
    · obtain ⟨m', hm, q⟩ := q4
      exact ⟨m', hm, G4, S4, I4, ps4, q, by rw [hl4, hl'], d4⟩
    · exact k.nx I4 ps4 G4 S4 σ4 H4 q4 (by rw [hl4, hl']) d4
    · obtain ⟨m', hm, q⟩ := q4
      exact ⟨m', hm, G4, S4, I4, ps4, q, by rw [hl4, hl'], d4⟩
  | false => exact k.nx I1 ps1 G' S1 σ' H1 h1 hl' d1
end
end Dt

set_option Elab.async false
set_option linter.all false
set_option maxRecDepth 100000
set_option maxHeartbeats 1000000
namespace Dt
open PySem L2

/-- what a def hands back: data, or an object that only the caller has -/
inductive Rt where
  | im (d : D)
  | own (x : Cell)
def Cell.flat : Cell → Bool
  | .ptrs _ => false
  | _ => true
def updS : SC → List Nat → SC → SC
  | S, k :: ks, x :: xs => updS (S.set k x) ks xs
  | S, _, _ => S

section
variable {c : Cn} {F : Fr} {I I' : Hp} {ps ps' : List Addr} {σ τ σ' : St} {H H' : Hp} {G T G' : SG} {S S' : SC} {te ta tb : TE} {tt tu : TT} {Q : SC → Sl → Prop} {P : Po} {ts tv : TS}
theorem CellAt.flat {p : Addr} {x : Cell} (h : CellAt c I H ps p x) (hf : x.flat = true) : CellAt c I H ps' p x := by
  cases x with
  | ptrs ks => cases hf
  | dn l => exact h
  | dead => exact h
  | lst l => exact h
  | dk ks l => exact h
  | ins C ns l => exact h
theorem updS_length : ∀ {S : SC} {ks : List Nat} {xs : SC}, (updS S ks xs).length = S.length
  | S, k :: ks, x :: xs => by
    show (updS (S.set k x) ks xs).length = _
    rw [updS_length, List.length_set]
  | S, [], _ => by unfold updS; rfl
  | S, _ :: _, [] => by unfold updS; rfl
theorem updS_out : ∀ {S : SC} {ks : List Nat} {xs : SC} {k : Nat}, k ∉ ks → (updS S ks xs)[k]? = S[k]?
  | S, j :: ks, x :: xs, k, h => by
    show (updS (S.set j x) ks xs)[k]? = _
    rw [updS_out (fun z => h (List.mem_cons_of_mem _ z)), List.getElem?_set_ne (fun (z : j = k) => h (by rw [z]; exact List.mem_cons_self))]
  | S, [], _, k, _ => by unfold updS; rfl
  | S, _ :: _, [], k, _ => by unfold updS; rfl
theorem updS_in : ∀ {S : SC} {ks : List Nat} {xs : SC} {j k : Nat} {x y : Cell}, ks.Nodup → ks[j]? = some k → xs[j]? = some x → S[k]? = some y → (updS S ks xs)[k]? = some x
  | S, i :: ks, x' :: xs, 0, k, x, y, nd, h1, h2, h3 => by
    simp at h1 h2
    subst h1 h2
    show (updS (S.set i x') ks xs)[i]? = _
    rw [updS_out (List.nodup_cons.mp nd).1, List.getElem?_set_self (List.getElem?_eq_some_iff.mp h3).1]
  | S, i :: ks, x' :: xs, j + 1, k, x, y, nd, h1, h2, h3 => by
    simp at h1 h2
    show (updS (S.set i x') ks xs)[k]? = _
    have hne : i ≠ k := fun z => (List.nodup_cons.mp nd).1 (z ▸ List.mem_of_getElem? h1)
    exact updS_in (y := y) (List.nodup_cons.mp nd).2 h1 h2 (by rw [List.getElem?_set_ne hne]; exact h3)
  | S, [], _, j, _, _, _, _, h1, _, _ => by simp at h1
  | S, _ :: _, [], j, _, _, _, _, _, h2, _ => by simp at h2

/-- what stands behind a call, over the ground of the call -/
def RetOk (c : Cn) (F : Fr) (I' : Hp) (H' : Hp) (v : V) (S' : SC) : Rt → Prop
  | .im d => SdI c F I' F.ps [some v] H' [.im d] S'
  | .own x => x.flat = true ∧ ∃ p, SdI c F I' (F.ps ++ [p]) [some v] H' [.pt F.ps.length] (S' ++ [x])
abbrev Wp := SG → SC → (SC → Rt → Prop) → Prop
/-- a promise over data: W tells, from the arguments and the cells handed in, what is wanted -/
def spD (c : Cn) (W : Wp) : Sp := fun vs H Q _ => ∃ I ps A S R, SdI c ⟨I, H, ps⟩ I ps (vs.map some) H A S ∧ W A S R ∧ ∀ S' r, R S' r → S'.length = ps.length ∧ (S'.all Cell.flat = true) → ∀ v H' I', RetOk c ⟨I, H, ps⟩ I' H' v S' r → Q v H'

/-- the end of a body: the cells that were handed in, the value -/
inductive Fin (n : Nat) (S : SC) : Sl → SC → Rt → Prop
  | im (d : D) : Fin n S (.im d) (S.take n) (.im d)
  | frz {k : Nat} {x : Cell} {d : D} (h : n ≤ k) (hx : S[k]? = some x) (hf : x.frozen = some d) : Fin n S (.pt k) (S.take n) (.im d)
  | own {k : Nat} {x : Cell} (h : n ≤ k) (hx : S[k]? = some x) (hf : x.flat = true) : Fin n S (.pt k) (S.take n) (.own x)
theorem take_get {α : Type} {l : List α} {n k : Nat} {x : α} (h : (l.take n)[k]? = some x) : k < n ∧ l[k]? = some x := by
  rw [List.getElem?_take] at h
  split at h
  · exact ⟨‹_›, h⟩
  · cases h
/-- the cells behind the first n forgotten -/
theorem SdI.trim (d : SdI c F I ps σ H G S) {n : Nat} (hn : F.ps = ps.take n) (hS : (S.take n).all Cell.flat = true) {σ' : St} {G' : SG} (ok : Slots c I (ps.take n) σ' G') : SdI c F I (ps.take n) σ' H G' (S.take n) where
  ex := d.ex
  fi := d.fi
  fh := d.fh
  fn := d.fn
  pre := by rw [hn]; exact List.prefix_refl _
  new := fun p hp => d.new p (List.mem_of_mem_take hp)
  th := fun p hp => d.th p (List.mem_of_mem_take hp)
  nd := d.nd.sublist (List.take_sublist _ _)
  len := by rw [List.length_take, List.length_take, d.len]
  cl := fun k p x h1 h2 => by
    obtain ⟨_, h1⟩ := take_get h1
    have hm := List.mem_of_getElem? h2
    obtain ⟨_, h2'⟩ := take_get h2
    exact (d.cl k p x h1 h2').flat (List.all_eq_true.mp hS x hm)
  ok := ok
theorem SdI.fin {s : Sl} {v : V} {S' : SC} {r : Rt} (d : SdI c F I ps [some v] H [s] S) (hS : S'.all Cell.flat = true) (h : Fin F.ps.length S s S' r) : ∃ I', RetOk c F I' H v S' r := by
  have hn : F.ps = ps.take F.ps.length := by
    obtain ⟨t, ht⟩ := d.pre
    rw [← ht]; simp
  cases h with
  | im e =>
    have ok : Slots c I (ps.take F.ps.length) [some v] [.im e] := by
      cases d.ok with
      | cons a _ => exact .cons (.im a.holds) .nil
    refine ⟨I, ?_⟩
    show SdI c F I F.ps [some v] H [.im e] (S.take F.ps.length)
    have := d.trim (n := F.ps.length) hn hS ok
    rw [← hn] at this
    exact this
  | frz h hx hf =>
    rename_i k x e
    obtain ⟨I', p, hp, _, he, d1⟩ := d.freeze hx hf
    cases d.ok with
    | cons a _ =>
      obtain ⟨p', hp', rfl⟩ := a.ref
      rw [hp] at hp'; cases hp'
      have hS2 : (S.set k .dead).take F.ps.length = S.take F.ps.length := List.take_set_of_le h
      have := d1.trim (n := F.ps.length) hn (by rw [hS2]; exact hS) (σ' := [some (.ref p)]) (G' := [.im e]) (.cons (.im he) .nil)
      rw [← hn, hS2] at this
      exact ⟨I', this⟩
  | own h hx hf =>
    rename_i k x
    cases d.ok with
    | cons a _ =>
      obtain ⟨p, hp, rfl⟩ := a.ref
      refine ⟨I, hf, p, ?_⟩
      have hnk : p ∉ F.ps := fun hm => by
        obtain ⟨j, hj⟩ := List.mem_iff_getElem?.mp hm
        rw [hn] at hj
        obtain ⟨h1, h2⟩ := take_get hj
        have := nodup_get d.nd hp h2
        omega
      have hlen : (S.take F.ps.length).length = F.ps.length := by
        have := congrArg List.length hn
        rw [List.length_take] at this ⊢
        rw [← d.len]
        omega
      refine ⟨d.ex, d.fi, d.fh, d.fn, List.prefix_append _ _, fun q hq => ?_, fun q hq => ?_, ?_, by rw [List.length_append, List.length_append, hlen]; rfl, fun j q y hj hy => ?_, .cons ⟨p, by rw [List.getElem?_append_right (Nat.le_refl _)]; simp, rfl⟩ .nil⟩
      · rcases List.mem_append.mp hq with z | z
        · exact .inl z
        · have : q = p := by simpa using z
          subst this
          exact d.new q (List.mem_of_getElem? hp)
      · rcases List.mem_append.mp hq with z | z
        · rw [hn] at z; exact d.th q (List.mem_of_mem_take z)
        · have : q = p := by simpa using z
          subst this
          exact d.th q (List.mem_of_getElem? hp)
      · rw [List.nodup_append]
        refine ⟨by rw [hn]; exact d.nd.sublist (List.take_sublist _ _), by simp, fun a ha b hb => ?_⟩
        have : b = p := by simpa using hb
        subst this
        exact fun z => hnk (z ▸ ha)
      · rcases Nat.lt_or_ge j F.ps.length with hj' | hj'
        · rw [List.getElem?_append_left hj'] at hj
          rw [List.getElem?_append_left (by rw [hlen]; exact hj')] at hy
          have hfl := List.all_eq_true.mp hS y (List.mem_of_getElem? hy)
          rw [hn] at hj
          exact (d.cl j q y (take_get hj).2 (take_get hy).2).flat hfl
        · rw [List.getElem?_append_right hj'] at hj
          rw [List.getElem?_append_right (by rw [hlen]; exact hj'), hlen] at hy
          cases e : j - F.ps.length with
          | zero =>
            rw [e] at hj hy
            simp at hj hy
            subst hj hy
            exact (d.cl k p x hp hx).flat hf
          | succ m => rw [e] at hj; simp at hj

/-- a def's body over a promise -/
theorem fn_body {vs : List V} {N : List Str} {A : SG} {Q : VK} {R : SC → Rt → Prop} {m : Nat} (d : SdI c ⟨I, H, ps⟩ I ps (vs.map some) H A S) (hR : ∀ S' r, R S' r → S'.length = ps.length ∧ (S'.all Cell.flat = true) → ∀ v H' I', RetOk c ⟨I, H, ps⟩ I' H' v S' r → Q v H')
    (hm : N.length = A.length + m)
    (h : RS c ts (A ++ List.replicate m .no) S { nx := fun _ S1 => ∃ S' r, Fin S.length S1 (.im nD) S' r ∧ S'.all Cell.flat = true ∧ S.length ≤ S1.length ∧ R S' r, rt := fun S1 s => ∃ S' r, Fin S.length S1 s S' r ∧ S'.all Cell.flat = true ∧ S.length ≤ S1.length ∧ R S' r }) : ts { nx := fun _ H' => Q .non H', rt := Q } (L2.start N vs) H := by
  have hv : vs.length = A.length := by have := d.ok.length; simpa using this
  have e : L2.start N vs = vs.map some ++ List.replicate m none := by
    unfold L2.start
    rw [show N.length - vs.length = m by omega]
  have flen : ∀ {S1 : SC} {s : Sl} {S' : SC} {r : Rt}, Fin S.length S1 s S' r → S.length ≤ S1.length → S'.length = ps.length := by
    intro S1 s S' r hf hl
    rw [d.len]
    cases hf <;> (rw [List.length_take]; omega)
  have fin : ∀ {I1 : Hp} {ps1 : List Addr} {S1 : SC} {s : Sl} {v : V} {H1 : Hp}, (∃ S' r, Fin S.length S1 s S' r ∧ S'.all Cell.flat = true ∧ S.length ≤ S1.length ∧ R S' r) → SdI c ⟨I, H, ps⟩ I1 ps1 [some v] H1 [s] S1 → Q v H1 := by
    intro I1 ps1 S1 s v H1 ⟨S', r, hf, hfl, hl, hr⟩ d1
    have hf' : Fin (Fr.mk I H ps).ps.length S1 s S' r := by
      show Fin ps.length S1 s S' r
      rw [d.len]; exact hf
    obtain ⟨I', hret⟩ := d1.fin hfl hf'
    exact hR S' r hr ⟨flen hf hl, hfl⟩ v H1 I' hret
  rw [e]
  refine h ⟨I, H, ps⟩ I ps (vs.map some ++ List.replicate m none) [] [] H _ (by rw [List.length_append, List.length_append, List.length_map, List.length_replicate, List.length_replicate, hv]) rfl ?_ ⟨fun I1 ps1 G1 S1 σ1 H1 q hl d1 => ?_, fun I1 ps1 S1 s v H1 q d1 => fin q d1, fun _ _ _ _ _ _ q => q.elim, fun _ _ _ _ _ _ q => q.elim⟩
  · rw [List.append_nil, List.append_nil]
    exact d.withSlots (d.ok.append (Slots.nos m))
  · exact fin q (d1.withSlots (.cons (.im (.v .non)) .nil))

/-! ### calls -/
/-- how a slot's value is seen by the callee: its cells are the caller's at ks -/
def ren (ks : List Nat) : Sl → Sl
  | .pt j => .pt (ks.getD j 0)
  | s => s
theorem slots_ren {ks : List Nat} {qs : List Addr} (hq : ks.map (ps[·]?) = qs.map some) : ∀ {vs : List V} {A : SG}, (∀ j, Sl.pt j ∈ A → j < ks.length) → Slots c I ps (vs.map some) (A.map (ren ks)) → Slots c I qs (vs.map some) A
  | [], [], _, _ => .nil
  | v :: vs, s :: A, hj, h => by
    cases h with
    | cons a r =>
      refine .cons ?_ (slots_ren hq (fun j z => hj j (List.mem_cons_of_mem _ z)) r)
      cases s with
      | no => trivial
      | im d => exact a
      | pt j =>
        have hlt := hj j List.mem_cons_self
        obtain ⟨p, h1, h2⟩ := (show SlOk c I ps (some v) (.pt (ks.getD j 0)) from a)
        refine ⟨p, ?_, h2⟩
        have e1 : (ks.map (ps[·]?))[j]? = some (some p) := by
          rw [List.getElem?_map, List.getElem?_eq_getElem hlt]
          show some (ps[ks[j]]?) = _
          rw [List.getD_eq_getElem?_getD, List.getElem?_eq_getElem hlt] at h1
          exact congrArg some h1
        rw [hq, List.getElem?_map] at e1
        cases e2 : qs[j]? with
        | none => rw [e2] at e1; cases e1
        | some q =>
          rw [e2] at e1
          have : some (some q) = some (some p) := e1
          cases this
          rfl
  | [], _ :: _, _, h => by cases h
  | _ :: _, [], _, h => by cases h
/-- the cells at ks handed to a callee: its ground -/
theorem SdI.hand {ks : List Nat} {S0 : SC} {σ' : St} {A : SG} (d : SdI c F I ps σ H G S) (nd : ks.Nodup) (hk : ks.map (S[·]?) = S0.map some) (hf : S0.all Cell.flat = true) : ∃ qs : List Addr, ks.map (ps[·]?) = qs.map some ∧ (∀ q ∈ qs, q ∈ ps) ∧
    (Slots c I qs σ' A → SdI c ⟨I, H, qs⟩ I qs σ' H A S0) := by
  have hlt : ∀ k ∈ ks, k < ps.length := fun k hk' => by
    have : (S[k]?) ∈ ks.map (S[·]?) := List.mem_map.mpr ⟨k, hk', rfl⟩
    rw [hk] at this
    obtain ⟨x, _, hx⟩ := List.mem_map.mp this
    rw [d.len]
    exact (List.getElem?_eq_some_iff.mp hx.symm).1
  have ex : ∀ (l : List Nat), (∀ k ∈ l, k < ps.length) → ∃ qs : List Addr, l.map (ps[·]?) = qs.map some := by
    intro l
    induction l with
    | nil => intro _; exact ⟨[], rfl⟩
    | cons k l ih =>
      intro h
      obtain ⟨qs, e⟩ := ih fun k hk => h k (List.mem_cons_of_mem _ hk)
      refine ⟨ps[k]'(h k List.mem_cons_self) :: qs, ?_⟩
      rw [List.map_cons, List.map_cons, e, List.getElem?_eq_getElem (h k List.mem_cons_self)]
  obtain ⟨qs, hq⟩ := ex ks hlt
  have at_ : ∀ (j : Nat) (q : Addr), qs[j]? = some q → ∃ k, ks[j]? = some k ∧ ps[k]? = some q := fun j q h => by
    have e1 : (qs.map some)[j]? = some (some q) := by rw [List.getElem?_map, h]; rfl
    rw [← hq, List.getElem?_map] at e1
    cases e2 : ks[j]? with
    | none => rw [e2] at e1; cases e1
    | some k =>
      rw [e2] at e1
      have : some (ps[k]?) = some (some q) := e1
      exact ⟨k, rfl, Option.some.inj this⟩
  have mem : ∀ q ∈ qs, q ∈ ps := fun q hm => by
    obtain ⟨j, hj⟩ := List.mem_iff_getElem?.mp hm
    obtain ⟨k, _, h2⟩ := at_ j q hj
    exact List.mem_of_getElem? h2
  have hl : qs.length = ks.length := by have := congrArg List.length hq; simpa using this.symm
  refine ⟨qs, hq, mem, fun ok => ⟨d.ex, Ex.refl _, fun _ _ h _ => h, fun _ _ h _ => h, List.prefix_refl _, fun _ h => .inl h, fun q hm => d.th q (mem q hm), ?_, ?_, fun j q x hj hx => ?_, ok⟩⟩
  · refine List.nodup_iff_pairwise_ne.mpr (List.pairwise_iff_getElem.mpr fun i j hi hj hij e => ?_)
    obtain ⟨k1, a1, b1⟩ := at_ i _ (List.getElem?_eq_getElem hi)
    obtain ⟨k2, a2, b2⟩ := at_ j _ (List.getElem?_eq_getElem hj)
    rw [e] at b1
    have ek := nodup_get d.nd b1 b2
    subst ek
    have := nodup_get nd a1 a2
    omega
  · have := congrArg List.length hk
    rw [hl]; simpa using this
  · obtain ⟨k, h1, h2⟩ := at_ j q hj
    have e1 : (ks.map (S[·]?))[j]? = some (some x) := by rw [hk, List.getElem?_map, hx]; rfl
    rw [List.getElem?_map, h1] at e1
    have : some (S[k]?) = some (some x) := e1
    exact (d.cl k q x h2 (Option.some.inj this)).flat (List.all_eq_true.mp hf x (List.mem_of_getElem? hx))
/-- behind the call: the cells at ks as the callee left them -/
theorem SdI.took {ks : List Nat} {qs : List Addr} {S0 S' : SC} {r : SG} {w : St} {qs' : List Addr} (d : SdI c F I ps σ H G S) (nd : ks.Nodup) (hq : ks.map (ps[·]?) = qs.map some) (hf : S'.all Cell.flat = true) (hl : S'.length = ks.length)
    (e : SdI c ⟨I, H, qs⟩ I' (qs ++ qs') w H' r (S' ++ S0)) : SdI c F I' ps σ H' G (updS S ks S') := by
  have hql : qs.length = ks.length := by have := congrArg List.length hq; simpa using this.symm
  have at2 : ∀ (j : Nat) (q : Addr), qs[j]? = some q → ∃ k, ks[j]? = some k ∧ ps[k]? = some q := fun j q h => by
    have e1 : (qs.map some)[j]? = some (some q) := by rw [List.getElem?_map, h]; rfl
    rw [← hq, List.getElem?_map] at e1
    cases e2 : ks[j]? with
    | none => rw [e2] at e1; cases e1
    | some k =>
      rw [e2] at e1
      have : some (ps[k]?) = some (some q) := e1
      exact ⟨k, rfl, Option.some.inj this⟩
  have at3 : ∀ (j k : Nat) (p : Addr), ks[j]? = some k → ps[k]? = some p → qs[j]? = some p := fun j k p h1 h2 => by
    have e1 : (ks.map (ps[·]?))[j]? = some (some p) := by rw [List.getElem?_map, h1]; exact congrArg some h2
    rw [hq, List.getElem?_map] at e1
    cases e2 : qs[j]? with
    | none => rw [e2] at e1; cases e1
    | some q =>
      rw [e2] at e1
      have : some (some q) = some (some p) := e1
      cases this
      rfl
  have mem : ∀ q ∈ qs, q ∈ ps := fun q hm => by
    obtain ⟨j, hj⟩ := List.mem_iff_getElem?.mp hm
    obtain ⟨k, _, h2⟩ := at2 j q hj
    exact List.mem_of_getElem? h2
  have old : ∀ p o, F.H p = some o → p ∉ F.ps → p ∉ qs := fun p o h hn hm => by
    rcases d.new p (mem p hm) with z | z
    · exact hn z
    · rw [z] at h; cases h
  refine ⟨e.ex, d.fi.trans e.fi, fun p o h hn => e.fh p o (d.fh p o h hn) (old p o h hn), fun p h hi hn => ?_, d.pre, d.new, fun p hp => ?_, d.nd, by rw [updS_length]; exact d.len, fun k p x hp hx => ?_, d.ok.mono e.fi (List.prefix_refl _)⟩
  · cases q : F.H p with
    | none => exact absurd q h
    | some o => exact e.fn p (by show H p ≠ none; rw [d.fh p o q hn]; exact fun z => by cases z) (d.fn p h hi hn) (old p o q hn)
  · by_cases hm : p ∈ qs
    · exact e.th p (List.mem_append_left _ hm)
    · cases q : H p with
      | none => exact absurd q (d.th p hp)
      | some o => rw [e.fh p o q hm]; exact fun z => by cases z
  · by_cases hm : k ∈ ks
    · obtain ⟨j, hj⟩ := List.mem_iff_getElem?.mp hm
      have hjl : j < S'.length := by rw [hl]; exact (List.getElem?_eq_some_iff.mp hj).1
      have hSk : ∃ y, S[k]? = some y := by
        have : k < S.length := by rw [← d.len]; exact (List.getElem?_eq_some_iff.mp hp).1
        exact ⟨S[k], List.getElem?_eq_getElem this⟩
      obtain ⟨y, hy⟩ := hSk
      rw [updS_in nd hj (List.getElem?_eq_getElem hjl) hy] at hx
      cases hx
      have hqp := at3 j k p hj hp
      have hlq := (List.getElem?_eq_some_iff.mp hqp).1
      exact (e.cl j p S'[j] (by rw [List.getElem?_append_left hlq]; exact hqp) (by rw [List.getElem?_append_left hjl]; exact List.getElem?_eq_getElem hjl)).flat (List.all_eq_true.mp hf _ (List.getElem_mem hjl))
    · rw [updS_out hm] at hx
      have hpq : p ∉ qs := fun z => by
        obtain ⟨j, hj⟩ := List.mem_iff_getElem?.mp z
        obtain ⟨k', h1, h2⟩ := at2 j p hj
        have := nodup_get d.nd hp h2
        subst this
        exact hm (List.mem_of_getElem? h1)
      exact (d.cl k p x hp hx).grow e.fi (List.prefix_refl _) (fun o ho hi => e.fn p (by show H p ≠ none; rw [ho]; exact fun z => by cases z) hi hpq) fun o ho => e.fh p o ho hpq
/-- how a caller reads a callee's promise: the arguments ss, of which the pointers are to the cells at ks -/
def CallD (c : Cn) (W : Wp) (ss : SG) (S : SC) (Q : SC → Sl → Prop) : Prop := ∃ (ks : List Nat) (A : SG) (S0 : SC), ks.Nodup ∧ ss = A.map (ren ks) ∧ (∀ j, Sl.pt j ∈ A → j < ks.length) ∧ ks.map (S[·]?) = S0.map some ∧ S0.all Cell.flat = true ∧
  W A S0 fun S' r => S'.length = ks.length → S'.all Cell.flat = true → match r with
    | .im e => Q (updS S ks S') (.im e)
    | .own x => Q (updS S ks S' ++ [x]) (.pt S.length)
theorem SdI.callee {W : Wp} {ss : SG} {vs : List V} {Qv : VK} {E : XK} (d : SdI c F I ps (σ ++ vs.map some) H (G ++ ss) S) (hl : σ.length = G.length) (h : CallD c W ss S Q)
    (k : ∀ I' ps' S' s v H', Q S' s → SdI c F I' ps' (σ ++ [some v]) H' (G ++ [s]) S' → Qv v H') : spD c W vs H Qv E := by
  obtain ⟨ks, A, S0, nd, rfl, hj, hk, hf, w⟩ := h
  obtain ⟨d1, hs⟩ := d.dropL hl
  obtain ⟨qs, hq, mem, mk⟩ := d1.hand (σ' := vs.map some) (A := A) nd hk hf
  have hql : qs.length = ks.length := by have := congrArg List.length hq; simpa using this.symm
  refine ⟨I, qs, A, S0, _, mk (slots_ren hq hj hs), w, fun S' r hr hS v H' I' ret => ?_⟩
  have h1 := hr (by rw [hS.1, hql]) hS.2
  cases r with
  | im e =>
    have e1 : SdI c ⟨I, H, qs⟩ I' (qs ++ []) [some v] H' [.im e] (S' ++ []) := by
      rw [List.append_nil, List.append_nil]; exact ret
    have d2 := d1.took nd hq hS.2 (by rw [hS.1, hql]) e1
    refine k I' ps _ _ v H' h1 (d2.push1 ?_)
    cases e1.ok with
    | cons a _ => exact .im a.holds
  | own x =>
    obtain ⟨hxf, p, e1⟩ := ret
    have d2 := d1.took nd hq hS.2 (by rw [hS.1, hql]) e1
    -- the new cell
    have hpx := e1.cl qs.length p x (by rw [List.getElem?_append_right (Nat.le_refl _)]; simp) (by rw [List.getElem?_append_right (by rw [hS.1]; exact Nat.le_refl _), hS.1]; simp)
    have hnp : p ∉ qs := fun z => by
      have := e1.nd
      rw [List.nodup_append] at this
      exact this.2.2 p z p (by simp) rfl
    have hHp : H p = none := by
      rcases e1.new p (List.mem_append_right _ (by simp)) with z | z
      · exact absurd z hnp
      · exact z
    have hth := e1.th p (List.mem_append_right _ (by simp))
    have hnps : p ∉ ps := fun z => d1.th p z hHp
    have d3 : SdI c F I' (ps ++ [p]) (σ) H' G (updS S ks S' ++ [x]) := by
      refine ⟨d2.ex, d2.fi, d2.fh, d2.fn, d2.pre.trans (List.prefix_append _ _), fun q hq' => ?_, fun q hq' => ?_, ?_, by rw [List.length_append, List.length_append, d2.len]; rfl, fun j q y hj' hy => ?_, d2.ok.mono (Ex.refl _) (List.prefix_append _ _)⟩
      · rcases List.mem_append.mp hq' with z | z
        · exact d2.new q z
        · have : q = p := by simpa using z
          subst this
          by_cases hF : q ∈ F.ps
          · exact .inl hF
          · refine .inr ?_
            cases z2 : F.H q with
            | none => rfl
            | some o => rw [d1.fh q o z2 hF] at hHp; cases hHp
      · rcases List.mem_append.mp hq' with z | z
        · exact d2.th q z
        · have : q = p := by simpa using z
          subst this
          exact hth
      · rw [List.nodup_append]
        refine ⟨d2.nd, by simp, fun a ha b hb => ?_⟩
        have : b = p := by simpa using hb
        subst this
        exact fun z => hnps (z ▸ ha)
      · rcases Nat.lt_or_ge j ps.length with hj2 | hj2
        · rw [List.getElem?_append_left hj2] at hj'
          rw [List.getElem?_append_left (by rw [← d2.len]; exact hj2)] at hy
          exact (d2.cl j q y hj' hy).grow (Ex.refl _) (List.prefix_append _ _) (fun _ _ h => h) fun _ h => h
        · rw [List.getElem?_append_right hj2] at hj'
          rw [List.getElem?_append_right (by rw [← d2.len]; exact hj2), ← d2.len] at hy
          cases e : j - ps.length with
          | zero =>
            rw [e] at hj' hy
            simp at hj' hy
            subst hj' hy
            exact hpx.flat hxf
          | succ m => rw [e] at hj'; simp at hj'
    refine k I' (ps ++ [p]) _ _ v H' h1 (d3.push1 ?_)
    cases e1.ok with
    | cons a _ =>
      obtain ⟨p', hp', rfl⟩ := a.ref
      rw [List.getElem?_append_right (Nat.le_refl _)] at hp'
      simp at hp'
      subst hp'
      refine ⟨p, ?_, rfl⟩
      have : S.length = ps.length := d1.len.symm
      rw [this, List.getElem?_append_right (Nat.le_refl _)]
      simp
end
end Dt

set_option Elab.async false
set_option linter.all false
set_option maxRecDepth 100000
set_option maxHeartbeats 1000000
namespace Dt
open PySem L2

section
variable {c : Cn} {F : Fr} {I I' : Hp} {ps ps' : List Addr} {σ τ σ' : St} {H H' : Hp} {G T G' : SG} {S S' : SC} {te ta tb : TE} {tt tu : TT} {Q : SC → Sl → Prop} {P : Po} {ts tv : TS}

/-! ### calls -/
theorem re_call {W : Wp} {E : XK} {tr : TA} (h : RA c tr G S fun S1 ss => CallD c W ss S1 Q) : RE c (tCall (spD c W) [] E tr) G S Q := by
  intro F I ps σ τ T H Qv hl d k
  refine h F I ps σ τ T H _ hl d fun I1 ps1 S1 ss vs H1 h1 d1 => ?_
  rw [List.append_nil]
  exact SdI.callee d1 d.ok.length h1 k
/-- all arguments data -/
theorem call0 {W : Wp} {ss : SG} (hi : ∀ j, Sl.pt j ∉ ss) (h : W ss [] fun S' r => S' = [] → match r with | .im e => Q S (.im e) | .own x => Q (S ++ [x]) (.pt S.length)) : CallD c W ss S Q := by
  refine ⟨[], ss, [], List.nodup_nil, ?_, fun j hj => absurd hj (hi j), rfl, rfl, ?_⟩
  · have : ∀ (l : SG), (∀ j, Sl.pt j ∉ l) → l = l.map (ren []) := by
      intro l
      induction l with
      | nil => intro _; rfl
      | cons s l ih =>
        intro hl
        rw [List.map_cons, ← ih fun j hj => hl j (List.mem_cons_of_mem _ hj)]
        cases s with
        | pt j => exact absurd List.mem_cons_self (hl j)
        | no => rfl
        | im d => rfl
    exact this ss hi
  · have e : ∀ R R' : SC → Rt → Prop, R = R' → W ss [] R → W ss [] R' := fun _ _ e h => e ▸ h
    refine e _ _ ?_ h
    funext S' r
    refine propext ⟨fun hh hlen _ => ?_, fun hh hnil => ?_⟩
    · have : S' = [] := List.length_eq_zero_iff.mp hlen
      subst this
      have h2 := hh rfl
      cases r <;> exact h2
    · subst hnil
      have h2 := hh rfl rfl
      cases r <;> exact h2
/-- the first argument a cell, the others data -/
theorem call1 {W : Wp} {ss : SG} {k : Nat} {x : Cell} (hx : S[k]? = some x) (hf : x.flat = true) (hi : ∀ j, Sl.pt j ∉ ss) (h : W (.pt 0 :: ss) [x] fun S' r => ∀ x', S' = [x'] → x'.flat = true → match r with | .im e => Q (S.set k x') (.im e) | .own y => Q (S.set k x' ++ [y]) (.pt S.length)) : CallD c W (.pt k :: ss) S Q := by
  refine ⟨[k], .pt 0 :: ss, [x], by simp, ?_, fun j hj => ?_, by rw [List.map_cons, List.map_nil, hx]; rfl, by rw [List.all_cons, hf]; rfl, ?_⟩
  · have : ∀ (l : SG), (∀ j, Sl.pt j ∉ l) → l = l.map (ren [k]) := by
      intro l
      induction l with
      | nil => intro _; rfl
      | cons s l ih =>
        intro hl
        rw [List.map_cons, ← ih fun j hj => hl j (List.mem_cons_of_mem _ hj)]
        cases s with
        | pt j => exact absurd List.mem_cons_self (hl j)
        | no => rfl
        | im d => rfl
    rw [List.map_cons, ← this ss hi]
    rfl
  · rcases List.mem_cons.mp hj with z | z
    · cases z; exact Nat.zero_lt_one
    · exact absurd z (hi j)
  · have e : ∀ R R' : SC → Rt → Prop, R = R' → W (.pt 0 :: ss) [x] R → W (.pt 0 :: ss) [x] R' := fun _ _ e h => e ▸ h
    refine e _ _ ?_ h
    funext S' r
    refine propext ⟨fun hh hlen hall => ?_, fun hh x' hx' hfl => ?_⟩
    · obtain ⟨x', rfl⟩ := List.length_eq_one_iff.mp hlen
      have hfl : x'.flat = true := by rw [List.all_cons, Bool.and_eq_true] at hall; exact hall.1
      have h2 := hh x' rfl hfl
      cases r <;> exact h2
    · subst hx'
      have h2 := hh rfl (by rw [List.all_cons, hfl]; rfl)
      cases r <;> exact h2

/-! ### fields -/
inductive InsOf (S : SC) : Sl → Addr → List Str → List D → Prop
  | im (C : Addr) (ns : List Str) (l : List D) : InsOf S (.im (.ins C ns l)) C ns l
  | pt {k : Nat} {C : Addr} {ns : List Str} {l : List D} (h : S[k]? = some (.ins C ns l)) : InsOf S (.pt k) C ns l
theorem ins_at {s : Sl} {C : Addr} {ns : List Str} {l : List D} {x : V} (d : SdI c F I ps σ H G S) (ok : SlOk c I ps (some x) s) (h : InsOf S s C ns l) : ∃ p dx xs, x = .ref p ∧ H p = some (.ins C dx (ns.zip xs)) ∧ ns.length = xs.length ∧ HoldsL c.K I xs l := by
  cases h with
  | im =>
    cases ok.holds with
    | ins h1 h2 h3 => exact ⟨_, _, _, rfl, d.ex _ _ h1, h2, h3⟩
  | pt h =>
    obtain ⟨p, h1, rfl⟩ := ok.ref
    obtain ⟨q, hq, hc⟩ := d.at_ h
    rw [h1] at hq; cases hq
    obtain ⟨_, dx, xs, h2, h3, h4⟩ := hc
    exact ⟨p, dx, xs, rfl, h2, h3, h4⟩
theorem look_zip {f : Str} {e : D} : ∀ {ns : List Str} {xs : List V} {l : List D}, ns.length = xs.length → HoldsL c.K I xs l → (ns.zip l).lookup f = some e → ∃ v, (ns.zip xs).lookup f = some v ∧ Holds c.K I v e
  | [], [], _, _, .nil, h => by cases h
  | n :: ns, x :: xs, d :: l, hl, .cons h1 h2, h => by
    rw [List.zip_cons_cons, List.lookup_cons] at h ⊢
    cases q : (f == n) with
    | true =>
      rw [q] at h
      cases h
      exact ⟨x, rfl, h1⟩
    | false =>
      rw [q] at h
      exact look_zip (by simpa using hl) h2 h
  | [], _ :: _, _, hl, _, _ => by simp at hl
  | _ :: _, [], _, hl, _, _ => by simp at hl
theorem look_none {f : Str} : ∀ {ns : List Str} {xs : List V}, f ∉ ns → (ns.zip xs).lookup f = none
  | [], _, _ => rfl
  | _ :: _, [], _ => rfl
  | n :: ns, x :: xs, h => by
    rw [List.zip_cons_cons, List.lookup_cons]
    have : (f == n) = false := by simpa using fun (e : f = n) => h (by rw [e]; exact List.mem_cons_self)
    rw [this]
    exact look_none fun z => h (List.mem_cons_of_mem _ z)
theorem re_fld {f : Str} (h : RE c ta G S fun S1 s => ∃ C ns l e, InsOf S1 s C ns l ∧ Cls c.K C ∧ NoAttr c.K C f ∧ (ns.zip l).lookup f = some e ∧ Q S1 (.im e)) : RE c (tFld c.K ta f) G S Q := by
  intro F I ps σ τ T H Qv hl d k
  refine h F I ps σ τ T H _ hl d fun I1 ps1 S1 s x H1 h1 d1 => ?_
  obtain ⟨C, ns, l, e, hi, hc, hn, hf, q⟩ := h1
  obtain ⟨d2, ox⟩ := d1.drop1
  obtain ⟨p, dx, xs, rfl, h2, h3, h4⟩ := ins_at d2 ox hi
  obtain ⟨v, h5, h6⟩ := look_zip h3 h4 hf
  exact ⟨p, C, dx, _, v, rfl, h2, hc, hn, h5, k I1 ps1 S1 _ v H1 q (d2.push1 (.im h6))⟩
theorem re_con {f : Str} (h : RE c ta G S fun S1 s => ∃ C ns l v u, InsOf S1 s C ns l ∧ Cls c.K C ∧ Con c.K C f v u ∧ f ∉ ns ∧ Q S1 (.im (.v v))) : RE c (tCon c.K ta f) G S Q := by
  intro F I ps σ τ T H Qv hl d k
  refine h F I ps σ τ T H _ hl d fun I1 ps1 S1 s x H1 h1 d1 => ?_
  obtain ⟨C, ns, l, v, u, hi, hc, hk, hf, q⟩ := h1
  obtain ⟨d2, ox⟩ := d1.drop1
  obtain ⟨p, dx, xs, rfl, h2, h3, h4⟩ := ins_at d2 ox hi
  exact ⟨p, C, dx, _, v, u, rfl, h2, hc, hk, look_none hf, k I1 ps1 S1 _ v H1 q (d2.push1 (.im (.v _)))⟩
theorem putF_new {f : Str} {y : V} : ∀ {ns : List Str} {xs : List V}, ns.length = xs.length → f ∉ ns → putF f y (ns.zip xs) = (ns ++ [f]).zip (xs ++ [y])
  | [], [], _, _ => rfl
  | n :: ns, x :: xs, hl, h => by
    rw [List.zip_cons_cons, List.cons_append, List.cons_append, List.zip_cons_cons, ← putF_new (by simpa using hl) fun z => h (List.mem_cons_of_mem _ z)]
    have hne : ¬ n = f := fun e => h (by rw [e]; exact List.mem_cons_self)
    show (if n = f then _ else _) = _
    rw [if_neg hne]
  | [], _ :: _, hl, _ => by simp at hl
  | _ :: _, [], hl, _ => by simp at hl
/-- self.f = e, a new name -/
theorem rs_fld {f : Str} (h : RE c tb G S fun S1 t => ∃ e, t = .im e ∧ RE c ta G S1 fun S2 s => ∃ k C ns l, s = .pt k ∧ S2[k]? = some (.ins C ns l) ∧ Cls c.K C ∧ NoAttr c.K C f ∧ f ∉ ns ∧ ns.length < 900 ∧ P.nx G (S2.set k (.ins C (ns ++ [f]) (l ++ [e])))) : RS c (sFld c.K ta tb f) G S P := by
  intro F I ps σ τ T H D hl hT d kk
  refine h F I ps σ τ T H _ hl d fun I1 ps1 S1 t y H1 h1 d1 => ?_
  obtain ⟨e, rfl, h1⟩ := h1
  rw [List.append_assoc, List.append_assoc] at d1
  refine h1 F I1 ps1 σ (τ ++ [some y]) (T ++ [.im e]) H1 _ hl d1 fun I2 ps2 S2 s x H2 h2 d2 => ?_
  obtain ⟨k, C, ns, l, rfl, hk, hc, hn, hf, hz, q⟩ := h2
  obtain ⟨d3, ox⟩ := d2.drop1
  rw [← List.append_assoc, ← List.append_assoc] at d3
  obtain ⟨d4, oy⟩ := d3.drop1
  obtain ⟨p, hp, rfl⟩ := ox.ref
  obtain ⟨p', hp', hc'⟩ := d4.at_ hk
  rw [hp] at hp'; cases hp'
  obtain ⟨hI, dx, xs, h3, h4, h5⟩ := hc'
  refine ⟨p, C, dx, _, rfl, h3, hc, hn, ?_, ?_⟩
  · rw [List.length_zip]; omega
  · rw [putF_new h4 hf]
    exact kk.nx I2 ps2 G _ σ _ q rfl (d4.wr hp hI ⟨hI, dx, xs ++ [y], upd_same, by rw [List.length_append, List.length_append, h4]; rfl, h5.append (.cons oy.holds .nil)⟩)

/-! ### methods of own classes, instances made -/
theorem re_meth {C : Addr} {m : Str} {W : Wp} {E : XK} {tr : TA} (h : RE c ta G S fun S1 s => ∃ ns l, InsOf S1 s C ns l ∧ m ∉ ns ∧ RA c tr G S1 fun S2 ss => CallD c W (s :: ss) S2 Q) : RE c (tMeth C m (spD c W) [] E ta tr) G S Q := by
  intro F I ps σ τ T H Qv hl d k
  refine h F I ps σ τ T H _ hl d fun I1 ps1 S1 s x H1 h1 d1 => ?_
  obtain ⟨ns, l, hi, hm, h1⟩ := h1
  obtain ⟨d2, ox⟩ := d1.drop1
  obtain ⟨p, dx, xs, rfl, h2, h3, h4⟩ := ins_at d2 ox hi
  refine ⟨p, dx, _, rfl, h2, look_none hm, ?_⟩
  have d1' := d1
  rw [List.append_assoc, List.append_assoc] at d1'
  refine h1 F I1 ps1 σ (τ ++ [some (.ref p)]) (T ++ [s]) H1 _ hl d1' fun I2 ps2 S2 ss vs H2 hq d3 => ?_
  rw [List.append_nil]
  refine SdI.callee (I := I2) (ps := ps2) (σ := σ ++ τ) (G := G ++ T) (vs := .ref p :: vs) (ss := s :: ss) ?_ d.ok.length hq k
  rw [← List.append_assoc, List.append_assoc, ← List.append_assoc G, List.append_assoc (G ++ T)] at d3
  exact d3
/-- C(e, .., k = v, ..): the new instance is data behind __init__ -/
theorem re_make {C : Addr} {n m : Nat} {W : Wp} {E : XK} {tr tk : TA} (h : RA c tr G S fun S1 ss => RA c tk G S1 fun S2 zs => ss.length = n ∧ zs.length = m ∧ (∀ j, Sl.pt j ∉ ss ++ zs) ∧
    W (.pt 0 :: (ss ++ zs)) [.ins C [] []] fun S' r => ∃ ns l, S' = [.ins C ns l] ∧ r = .im nD ∧ Q S2 (.im (.ins C ns l))) : RE c (tMakeN C n m (spD c W) (fun vs zs => vs ++ zs) E tr tk) G S Q := by
  intro F I ps σ τ T H Qv hl d k
  refine h F I ps σ τ T H _ hl d fun I1 ps1 S1 ss vs H1 h1 d1 => ?_
  rw [List.append_assoc, List.append_assoc] at d1
  refine h1 F I1 ps1 σ (τ ++ vs.map some) (T ++ ss) H1 _ hl d1 fun I2 ps2 S2 zs ws H2 hq d2 => ?_
  obtain ⟨ln, lm, him, w⟩ := hq
  have hlen := d.ok.length
  rw [← List.append_assoc, List.append_assoc, ← List.append_assoc G, List.append_assoc (G ++ T), ← List.map_append] at d2
  obtain ⟨d3, hs⟩ := d2.dropL hlen
  have hln : vs.length = n := by
    have := d1.ok.length
    rw [List.length_append, List.length_append, List.length_append, List.length_append, List.length_map] at this
    rw [List.length_append, List.length_append] at hlen
    omega
  have hlm : ws.length = m := by
    have := hs.length
    rw [List.length_map, List.length_append, List.length_append] at this
    omega
  refine ⟨hln, hlm, fun x dx hx hdx hne => ?_⟩
  have hIx : I2 x = none := d3.ex.none hx
  have hIdx : I2 dx = none := d3.ex.none hdx
  have hxd : x ≠ dx := fun e => hne e.symm
  have ok0 : Slots c I2 [x] (some (.ref x) :: (vs ++ ws).map some) (.pt 0 :: (ss ++ zs)) := by
    refine .cons ⟨x, rfl, rfl⟩ ?_
    have : ∀ {a : List V} {A : SG}, (∀ j, Sl.pt j ∉ A) → Slots c I2 ps2 (a.map some) A → Slots c I2 [x] (a.map some) A := by
      intro a A
      induction A generalizing a with
      | nil => intro _ h; cases a with | nil => exact .nil | cons _ _ => cases h
      | cons s A ih =>
        intro hj h
        cases a with
        | nil => cases h
        | cons y a =>
          cases h with
          | cons h1 h2 =>
            refine .cons ?_ (ih (fun j hm => hj j (List.mem_cons_of_mem _ hm)) h2)
            cases s with
            | pt j => exact absurd List.mem_cons_self (hj j)
            | no => trivial
            | im e => exact h1
    exact this him hs
  have d0 : SdI c ⟨I2, upd (upd H2 dx (.own x)) x (.ins C dx []), [x]⟩ I2 [x] (some (.ref x) :: (vs ++ ws).map some) (upd (upd H2 dx (.own x)) x (.ins C dx [])) (.pt 0 :: (ss ++ zs)) [.ins C [] []] := by
    refine ⟨fun a o ha => ?_, Ex.refl _, fun _ _ h _ => h, fun _ _ h _ => h, List.prefix_refl _, fun _ h => .inl h, fun p hp => ?_, by simp, rfl, fun j p y hj hy => ?_, ok0⟩
    · rw [upd_ne (ne_of_none ha hIx), upd_ne (ne_of_none ha hIdx)]
      exact d3.ex a o ha
    · have : p = x := by simpa using hp
      subst this
      rw [upd_same]; exact fun h => by cases h
    · cases j with
      | succ j => simp at hj
      | zero =>
        simp at hj hy
        subst hj hy
        exact ⟨hIx, dx, [], upd_same, rfl, .nil⟩
  refine ⟨I2, [x], _, [.ins C [] []], _, d0, w, fun S' r hr hS v H' I' ret => ?_⟩
  obtain ⟨ns, l, rfl, rfl, q⟩ := hr
  have ret' : SdI c ⟨I2, upd (upd H2 dx (.own x)) x (.ins C dx []), [x]⟩ I' [x] [some v] H' [.im nD] [.ins C ns l] := ret
  have hv : v = .non := by
    cases ret'.ok with
    | cons a _ => exact a.holds.v_inv
  refine ⟨hv, ?_⟩
  obtain ⟨I3, p, hp, e3, he, d4⟩ := ret'.freeze (k := 0) (x := .ins C ns l) rfl rfl
  have hpx : p = x := by simpa using hp.symm
  subst hpx
  have old : ∀ q o, H2 q = some o → H' q = some o := fun q o hq => by
    have h1 : q ≠ p := ne_of_none hq hx
    have h2 : q ≠ dx := ne_of_none hq hdx
    refine ret'.fh q o ?_ (by simpa using h1)
    show upd (upd H2 dx (.own p)) p (.ins C dx []) q = some o
    rw [upd_ne h1, upd_ne h2]; exact hq
  have oldI : ∀ q o, H2 q = some o → I2 q = none → I3 q = none := fun q o hq hi => by
    have h1 : q ≠ p := ne_of_none hq hx
    have h2 : q ≠ dx := ne_of_none hq hdx
    refine d4.fn q ?_ hi (by simpa using h1)
    show upd (upd H2 dx (.own p)) p (.ins C dx []) q ≠ none
    rw [upd_ne h1, upd_ne h2, hq]; exact fun z => by cases z
  refine k I3 ps2 S2 _ _ H' q ?_
  refine (show SdI c F I3 ps2 (σ ++ τ) H' (G ++ T) S2 from ⟨d4.ex, d3.fi.trans (d4.fi), fun q o h hn => old q o (d3.fh q o h hn), fun q h hi hn => ?_, d3.pre, d3.new, fun q hq => ?_, d3.nd, d3.len, fun j q y hj hy => ?_, d3.ok.mono d4.fi (List.prefix_refl _)⟩).push1 (.im he)
  · cases z : F.H q with
    | none => exact absurd z h
    | some o => exact oldI q o (d3.fh q o z hn) (d3.fn q h hi hn)
  · cases z : H2 q with
    | none => exact absurd z (d3.th q hq)
    | some o => rw [old q o z]; exact fun z => by cases z
  · exact (d3.cl j q y hj hy).grow d4.fi (List.prefix_refl _) (fun o ho hi => oldI q o ho hi) fun o ho => old q o ho

/-! ### built-in calls -/
/-- a call by values -/
def CbD (c : Cn) (r : List V → Hp → VK → Prop) (ss : SG) (S : SC) (Q : SC → Sl → Prop) : Prop := ∀ (F : Fr) (I : Hp) (ps : List Addr) (σ : St) (G : SG) (H : Hp) (vs : List V) (Qv : VK), SdI c F I ps σ H G S → Slots c I ps (vs.map some) ss →
  (∀ I' ps' S' u v H', Q S' u → SdI c F I' ps' (σ ++ [some v]) H' (G ++ [u]) S' → Qv v H') → r vs H Qv
theorem re_cb {r : List V → Hp → VK → Prop} {tr : TA} (h : RA c tr G S fun S1 ss => CbD c r ss S1 Q) : RE c (tCB r tr) G S Q := by
  intro F I ps σ τ T H Qv hl d k
  refine h F I ps σ τ T H _ hl d fun I1 ps1 S1 ss vs H1 h1 d1 => ?_
  obtain ⟨d2, hs⟩ := d1.dropL d.ok.length
  exact h1 F I1 ps1 _ _ H1 vs Qv d2 hs k
theorem slots1 {vs : List V} {s : Sl} (h : Slots c I ps (vs.map some) [s]) : ∃ v, vs = [v] ∧ SlOk c I ps (some v) s := by
  cases vs with
  | nil => cases h
  | cons v vs =>
    cases h with
    | cons a r =>
      cases vs with
      | nil => exact ⟨v, rfl, a⟩
      | cons _ _ => cases r
theorem slots2 {vs : List V} {s t : Sl} (h : Slots c I ps (vs.map some) [s, t]) : ∃ v w, vs = [v, w] ∧ SlOk c I ps (some v) s ∧ SlOk c I ps (some w) t := by
  cases vs with
  | nil => cases h
  | cons v vs =>
    cases h with
    | cons a r =>
      obtain ⟨w, rfl, b⟩ := slots1 r
      exact ⟨v, w, rfl, a, b⟩
theorem cb_len {s : Sl} {l : List D} (h : SeqOf S s l) (q : Q S (.im (iD l.length))) : CbD c (fun xs H Q => ∃ p ys, xs = [.ref p] ∧ (SqL c.K H p ys ∨ SqT c.K H p ys) ∧ Q (.int ys.length) H) [s] S Q := by
  intro F I ps σ G H vs Qv d hs k
  obtain ⟨v, rfl, ok⟩ := slots1 hs
  obtain ⟨p, xs, rfl, h1, h2⟩ := seq_at d ok h
  exact ⟨p, xs, rfl, h1, k I ps S _ _ H q (d.push1 (.im (by rw [h2.length]; exact .v _)))⟩
theorem cb_int {i : Int} (q : Q S (.im (iD i))) : CbD c (fun xs H Q => (∃ i, xs = [.int i] ∧ Q (.int i) H) ∨ ∃ k, xs = [.bl k] ∧ Q (.int (if k then 1 else 0)) H) [.im (iD i)] S Q := by
  intro F I ps σ G H vs Qv d hs k
  obtain ⟨v, rfl, ok⟩ := slots1 hs
  have e := ok.holds.v_inv
  subst e
  exact .inl ⟨i, rfl, k I ps S _ _ H q (d.push1 (.im (.v _)))⟩
theorem cb_min2 {i j : Int} (q : Q S (.im (iD (if j < i then j else i)))) : CbD c (fun xs H Q => ∃ i j, xs = [.int i, .int j] ∧ Q (.int (if j < i then j else i)) H) [.im (iD i), .im (iD j)] S Q := by
  intro F I ps σ G H vs Qv d hs k
  obtain ⟨v, w, rfl, ok1, ok2⟩ := slots2 hs
  have e := ok1.holds.v_inv
  have e2 := ok2.holds.v_inv
  subst e e2
  exact ⟨i, j, rfl, k I ps S _ _ H q (d.push1 (.im (.v _)))⟩
/-- list(x): a new list, data -/
theorem cb_list {s : Sl} {l : List D} (h : SeqOf S s l) (q : Q S (.im (.lst l))) : CbD c (fun xs H Q => ∃ p ys, xs = [.ref p] ∧ (SqL c.K H p ys ∨ SqT c.K H p ys) ∧ ∀ l, H l = none → Q (.ref l) (upd H l (.lst ys))) [s] S Q := by
  intro F I ps σ G H vs Qv d hs k
  obtain ⟨v, rfl, ok⟩ := slots1 hs
  obtain ⟨p, xs, rfl, h1, h2⟩ := seq_at d ok h
  exact ⟨p, xs, rfl, h1, fun r hr => k _ ps S _ _ _ q ((d.newIm hr).push1 (.im (.lst upd_same (h2.mono (Ex.new (d.ex.none hr))))))⟩
theorem newC (d : SdI c F I ps σ H G S) {p : Addr} {o : HO} {x : Cell} (hp : H p = none) (hx : CellAt c I (upd H p o) (ps ++ [p]) p x) : SdI c F I (ps ++ [p]) (σ ++ [some (.ref p)]) (upd H p o) (G ++ [.pt S.length]) (S ++ [x]) := by
  refine (d.newCell hp hx).push1 ⟨p, ?_, rfl⟩
  rw [← d.len, List.getElem?_append_right (Nat.le_refl _)]
  simp
/-- list(x): a new list, one's own -/
theorem cb_listO {s : Sl} {l : List D} (h : SeqOf S s l) (q : Q (S ++ [.lst l]) (.pt S.length)) : CbD c (fun xs H Q => ∃ p ys, xs = [.ref p] ∧ (SqL c.K H p ys ∨ SqT c.K H p ys) ∧ ∀ l, H l = none → Q (.ref l) (upd H l (.lst ys))) [s] S Q := by
  intro F I ps σ G H vs Qv d hs k
  obtain ⟨v, rfl, ok⟩ := slots1 hs
  obtain ⟨p, xs, rfl, h1, h2⟩ := seq_at d ok h
  exact ⟨p, xs, rfl, h1, fun r hr => k _ _ _ _ _ _ q (newC d hr ⟨d.ex.none hr, xs, upd_same, h2⟩)⟩
/-- tuple(x): a list's items -/
theorem cb_tuple {s : Sl} {l : List D} (h : LstOf S s l) (q : Q S (.im (.tup l))) : CbD c (fun xs H Q => ∃ p ys, xs = [.ref p] ∧ ((SqL c.K H p ys ∧ ∀ l, H l = none → Q (.ref l) (upd H l (.tup ys))) ∨ (SqT c.K H p ys ∧ Q (.ref p) H))) [s] S Q := by
  intro F I ps σ G H vs Qv d hs k
  obtain ⟨v, rfl, ok⟩ := slots1 hs
  obtain ⟨p, xs, rfl, h1, h2⟩ := lst_at d ok h
  exact ⟨p, xs, rfl, .inl ⟨SqL.of h1, fun r hr => k _ ps S _ _ _ q ((d.newIm hr).push1 (.im (.tup (.inl upd_same) (h2.mono (Ex.new (d.ex.none hr))))))⟩⟩
theorem cb_tupleT {l : List D} (q : Q S (.im (.tup l))) : CbD c (fun xs H Q => ∃ p ys, xs = [.ref p] ∧ ((SqL c.K H p ys ∧ ∀ l, H l = none → Q (.ref l) (upd H l (.tup ys))) ∨ (SqT c.K H p ys ∧ Q (.ref p) H))) [.im (.tup l)] S Q := by
  intro F I ps σ G H vs Qv d hs k
  obtain ⟨v, rfl, ok⟩ := slots1 hs
  obtain ⟨p, xs, rfl, h1, h2⟩ := tup_at d.ex ok.holds
  exact ⟨p, xs, rfl, .inr ⟨h1, k I ps S _ _ _ q (d.push1 ok)⟩⟩
/-- sorted(x) of ints -/
theorem cb_sortedI {s : Sl} {ns : List Int} (h : LstOf S s (ns.map iD)) (q : ∀ ms : List Int, ms.Perm ns → ms.Pairwise (· ≤ ·) → Q S (.im (.lst (ms.map iD)))) : CbD c (rSortedI c.K) [s] S Q := by
  intro F I ps σ G H vs Qv d hs k
  obtain ⟨v, rfl, ok⟩ := slots1 hs
  obtain ⟨p, xs, rfl, h1, h2⟩ := lst_at d ok h
  have e : xs = ns.map V.int := by
    refine HoldsL.v_inv (K := c.K) (I := I) ?_
    rw [List.map_map]
    exact h2
  subst e
  refine ⟨p, ns, rfl, SqL.of h1, fun ms r pm srt hr => ?_⟩
  refine k _ ps S _ _ _ (q ms pm srt) ((d.newIm hr).push1 (.im (.lst upd_same ?_)))
  have := HoldsL.vs (K := c.K) (I := upd I r (.lst (ms.map V.int))) (ms.map V.int)
  rw [List.map_map] at this
  exact this

/-! ### in, ==, + of sequences; slices -/
theorem od_in {neg : Bool} {x : V} {t : Sl} {ys : List V} (h : SeqOf S t (ys.map D.v)) (hx : flatV x = true) (hy : ys.all flatV = true) (q : Q S (.im (bD (if neg then !inV x ys else inV x ys)))) : OpD c (rIn c.K neg) S (.im (.v x)) t Q := by
  intro F I ps σ G H x' y Qv d ox oy k
  have e1 := ox.holds.v_inv
  subst e1
  obtain ⟨p, xs, rfl, h1, h2⟩ := seq_at d oy h
  have e := h2.v_inv
  subst e
  exact ⟨p, xs, rfl, h1, hx, hy, k I ps S _ _ H q (d.push1 (.im (.v _)))⟩
theorem inV_int {n : Int} {ns : List Int} : inV (.int n) (ns.map V.int) = decide (n ∈ ns) := by
  unfold inV
  rw [List.any_map]
  by_cases h : n ∈ ns
  · rw [decide_eq_true h, List.any_eq_true]
    exact ⟨n, h, by show (n == n) = true; simp⟩
  · rw [decide_eq_false h, List.any_eq_false]
    intro m hm
    show ¬ ((m == n) = true)
    simp only [beq_iff_eq]
    rintro rfl
    exact h hm
theorem flat_ints (ns : List Int) : (ns.map V.int).all flatV = true := by simp [List.all_map, flatV]
/-- n in xs, of ints -/
theorem od_inI {neg : Bool} {n : Int} {t : Sl} {ns : List Int} (h : SeqOf S t (ns.map iD)) (q : Q S (.im (bD (if neg then !decide (n ∈ ns) else decide (n ∈ ns))))) : OpD c (rIn c.K neg) S (.im (iD n)) t Q := by
  refine od_in (ys := ns.map V.int) (by rw [List.map_map]; exact h) rfl (flat_ints ns) ?_
  rw [inV_int]
  exact q
theorem od_cat {s t : Sl} {l m : List D} (hs : LstOf S s l) (ht : LstOf S t m) (hz : l.length + m.length ≤ 1000000) (q : Q S (.im (.lst (l ++ m)))) : OpD c rCat S s t Q := by
  intro F I ps σ G H x y Qv d ox oy k
  obtain ⟨p, xs, rfl, h1, h2⟩ := lst_at d ox hs
  obtain ⟨r, ys, rfl, h3, h4⟩ := lst_at d oy ht
  refine ⟨p, r, xs, ys, rfl, rfl, h1, h3, by rw [h2.length, h4.length]; exact Nat.le_trans hz (by decide), fun b hb => ?_⟩
  exact k _ ps S _ _ _ q ((d.newIm hb).push1 (.im (.lst upd_same ((h2.append h4).mono (Ex.new (d.ex.none hb))))))
theorem od_isN {neg : Bool} {s : Sl} (hs : (∃ k, s = .pt k) ∨ ∃ e, s = .im e ∧ e ≠ nD) (q : Q S (.im (bD neg))) : OpD c (fun x y H Q => y = .non ∧ Q (.bl (if neg then !decide (x = .non) else decide (x = .non))) H) S s (.im nD) Q := by
  intro F I ps σ G H x y Qv d ox oy k
  have e2 := oy.holds.v_inv
  have hx : x ≠ .non := by
    rcases hs with ⟨j, rfl⟩ | ⟨e, rfl, hne⟩
    · obtain ⟨p, _, rfl⟩ := ox.ref
      exact fun z => by cases z
    · intro z
      subst z
      have := ox.holds
      cases this with
      | v => exact hne rfl
  refine ⟨e2, ?_⟩
  rw [decide_eq_false hx]
  cases neg <;> exact k I ps S _ _ H q (d.push1 (.im (.v _)))
theorem od_isN0 {neg : Bool} (q : Q S (.im (bD !neg))) : OpD c (fun x y H Q => y = .non ∧ Q (.bl (if neg then !decide (x = .non) else decide (x = .non))) H) S (.im nD) (.im nD) Q := by
  intro F I ps σ G H x y Qv d ox oy k
  have e1 := ox.holds.v_inv
  have e2 := oy.holds.v_inv
  subst e1
  refine ⟨e2, ?_⟩
  cases neg <;> exact k I ps S _ _ H q (d.push1 (.im (.v _)))
end
end Dt

set_option Elab.async false
set_option linter.all false
set_option maxRecDepth 100000
set_option maxHeartbeats 1000000
namespace Dt
open PySem L2

section
variable {c : Cn} {F : Fr} {I I' : Hp} {ps ps' : List Addr} {σ τ σ' : St} {H H' : Hp} {G T G' : SG} {S S' : SC} {te ta tb : TE} {tt tu : TT} {Q : SC → Sl → Prop} {P : Po} {ts tv : TS}

theorem SdI.as1 {ρ : St} {R : SG} (d : SdI c F I ps (σ ++ τ ++ ρ) H (G ++ T ++ R) S) : SdI c F I ps (σ ++ (τ ++ ρ)) H (G ++ (T ++ R)) S := by
  rw [List.append_assoc, List.append_assoc] at d; exact d
theorem SdI.us1 {ρ : St} {R : SG} (d : SdI c F I ps (σ ++ (τ ++ ρ)) H (G ++ (T ++ R)) S) : SdI c F I ps (σ ++ τ ++ ρ) H (G ++ T ++ R) S := by
  rw [← List.append_assoc, ← List.append_assoc] at d; exact d
theorem SdI.wrL {k : Nat} {p : Addr} {xs : List V} {l : List D} (d : SdI c F I ps σ H G S) (hk : ps[k]? = some p) (hI : I p = none) (h : HoldsL c.K I xs l) : SdI c F I ps σ (upd H p (.lst xs)) G (S.set k (.lst l)) :=
  d.wr hk hI (show CellAt c I (upd H p (.lst xs)) ps p (.lst l) from ⟨hI, xs, upd_same, h⟩)
theorem SdI.lstAt {k : Nat} {p : Addr} {l : List D} (d : SdI c F I ps σ H G S) (hk : S[k]? = some (.lst l)) (hp : ps[k]? = some p) : I p = none ∧ ∃ xs, H p = some (.lst xs) ∧ HoldsL c.K I xs l := by
  obtain ⟨q, hq, hc⟩ := d.at_ hk
  rw [hp] at hq; cases hq
  exact hc
/-! ### methods of lists -/
theorem bm_of {T' : String} {r : V → List V → Hp → VK → Prop} {tr : TA} (h : RE c ta G S fun S1 s => (∀ {F : Fr} {I : Hp} {ps : List Addr} {σ : St} {G : SG} {H : Hp} {x : V}, SdI c F I ps σ H G S1 → SlOk c I ps (some x) s → tyV c.K T' x H) ∧
    RA c tr G S1 fun S2 ss => ∀ (F : Fr) (I : Hp) (ps : List Addr) (σ : St) (G : SG) (H : Hp) (x : V) (vs : List V) (Qv : VK), SdI c F I ps σ H G S2 → SlOk c I ps (some x) s → Slots c I ps (vs.map some) ss →
      (∀ I' ps' S' u v H', Q S' u → SdI c F I' ps' (σ ++ [some v]) H' (G ++ [u]) S' → Qv v H') → r x vs H Qv) : RE c (tBM c.K T' r ta tr) G S Q := by
  intro F I ps σ τ T H Qv hl d k
  refine h F I ps σ τ T H _ hl d fun I1 ps1 S1 s x H1 h1 d1 => ?_
  obtain ⟨hty, h2⟩ := h1
  obtain ⟨d1', ox⟩ := d1.drop1
  refine ⟨hty d1' ox, ?_⟩
  refine h2 F I1 ps1 σ (τ ++ [some x]) (T ++ [s]) H1 _ hl d1.as1 fun I2 ps2 S2 ss vs H2 hq d2 => ?_
  have hlen : (σ ++ (τ ++ [some x])).length = (G ++ (T ++ [s])).length := d1.as1.ok.length
  obtain ⟨d3, hs⟩ := d2.dropL hlen
  obtain ⟨d4, ox2⟩ := d3.us1.drop1
  exact hq F I2 ps2 _ _ H2 x vs Qv d4 ox2 hs k
theorem bm0_of {T' : String} {r : V → List V → Hp → VK → Prop} (h : RE c ta G S fun S1 s => (∀ {F : Fr} {I : Hp} {ps : List Addr} {σ : St} {G : SG} {H : Hp} {x : V}, SdI c F I ps σ H G S1 → SlOk c I ps (some x) s → tyV c.K T' x H) ∧
    ∀ (F : Fr) (I : Hp) (ps : List Addr) (σ : St) (G : SG) (H : Hp) (x : V) (Qv : VK), SdI c F I ps σ H G S1 → SlOk c I ps (some x) s →
      (∀ I' ps' S' u v H', Q S' u → SdI c F I' ps' (σ ++ [some v]) H' (G ++ [u]) S' → Qv v H') → r x [] H Qv) : RE c (tBM0 c.K T' r ta) G S Q := by
  intro F I ps σ τ T H Qv hl d k
  refine h F I ps σ τ T H _ hl d fun I1 ps1 S1 s x H1 h1 d1 => ?_
  obtain ⟨hty, h2⟩ := h1
  obtain ⟨d1', ox⟩ := d1.drop1
  exact ⟨hty d1' ox, h2 F I1 ps1 _ _ H1 x Qv d1' ox k⟩
theorem ty_list {s : Sl} {l : List D} {x : V} (h : LstOf S s l) (d : SdI c F I ps σ H G S) (ok : SlOk c I ps (some x) s) : tyV c.K "list" x H := by
  obtain ⟨p, xs, rfl, h1, _⟩ := lst_at d ok h
  exact .inl ⟨rfl, xs, SqL.of h1⟩
/-- xs.append(e) -/
theorem re_append {tr : TA} (h : RE c ta G S fun S1 s => ∃ k l0, s = .pt k ∧ S1[k]? = some (.lst l0) ∧ RA c tr G S1 fun S2 ss => ∃ e l, ss = [.im e] ∧ S2[k]? = some (.lst l) ∧ l.length ≤ 1000000 ∧ Q (S2.set k (.lst (l ++ [e]))) (.im nD)) :
    RE c (tBM c.K "list" rAppend ta tr) G S Q := by
  refine bm_of (re_mono h fun S1 s ⟨k, l0, e1, h1, h2⟩ => ⟨fun d ok => by subst e1; exact ty_list (.pt h1) d ok, ?_⟩)
  intro F I ps σ τ T H Qv hl d kk
  refine h2 F I ps σ τ T H Qv hl d fun I' ps' S' ss vs H' hq d' => kk I' ps' S' ss vs H' ?_ d'
  obtain ⟨e, l, rfl, h3, h4, q⟩ := hq
  intro F I ps σ G H x vs Qv d ox hs k'
  subst e1
  obtain ⟨y, rfl, oy⟩ := slots1 hs
  obtain ⟨p, hp, rfl⟩ := ox.ref
  obtain ⟨hI, xs, h5, h6⟩ := d.lstAt h3 hp
  refine ⟨p, xs, y, rfl, rfl, h5, by rw [h6.length]; exact Nat.lt_of_le_of_lt h4 (by decide), ?_⟩
  exact k' I ps _ _ _ _ q ((d.wrL hp hI (h6.append (.cons oy.holds .nil))).push1 (.im (.v _)))
/-- xs.extend(ys) -/
theorem re_extend {tr : TA} (h : RE c ta G S fun S1 s => ∃ k l0, s = .pt k ∧ S1[k]? = some (.lst l0) ∧ RA c tr G S1 fun S2 ss => ∃ t m l, ss = [t] ∧ LstOf S2 t m ∧ S2[k]? = some (.lst l) ∧ l.length + m.length ≤ 1000000 ∧ Q (S2.set k (.lst (l ++ m))) (.im nD)) :
    RE c (tBM c.K "list" rExtend ta tr) G S Q := by
  refine bm_of (re_mono h fun S1 s ⟨k, l0, e1, h1, h2⟩ => ⟨fun d ok => by subst e1; exact ty_list (.pt h1) d ok, ?_⟩)
  intro F I ps σ τ T H Qv hl d kk
  refine h2 F I ps σ τ T H Qv hl d fun I' ps' S' ss vs H' hq d' => kk I' ps' S' ss vs H' ?_ d'
  obtain ⟨t, m, l, rfl, ht, h3, h4, q⟩ := hq
  intro F I ps σ G H x vs Qv d ox hs k'
  subst e1
  obtain ⟨y, rfl, oy⟩ := slots1 hs
  obtain ⟨p, hp, rfl⟩ := ox.ref
  obtain ⟨hI, xs, h5, h6⟩ := d.lstAt h3 hp
  obtain ⟨r, ys, rfl, h7, h8⟩ := lst_at d oy ht
  refine ⟨p, r, xs, ys, rfl, rfl, h5, h7, by rw [h6.length, h8.length]; exact Nat.le_trans h4 (by decide), ?_⟩
  exact k' I ps _ _ _ _ q ((d.wrL hp hI (h6.append h8)).push1 (.im (.v _)))
/-- xs.pop() -/
theorem re_pop (h : RE c ta G S fun S1 s => ∃ k l e, s = .pt k ∧ S1[k]? = some (.lst (l ++ [e])) ∧ Q (S1.set k (.lst l)) (.im e)) : RE c (tBM0 c.K "list" rPop ta) G S Q := by
  refine bm0_of (re_mono h fun S1 s ⟨k, l, e, e1, h1, q⟩ => ⟨fun d ok => by subst e1; exact ty_list (.pt h1) d ok, ?_⟩)
  intro F I ps σ G H x Qv d ox k'
  subst e1
  obtain ⟨p, hp, rfl⟩ := ox.ref
  obtain ⟨hI, xs, h5, h6⟩ := d.lstAt h1 hp
  have hlen := h6.length
  rw [List.length_append] at hlen
  have hlen' : xs.length = l.length + 1 := hlen
  obtain ⟨v, h7, h8⟩ := h6.getD (i := l.length) (d := e) (by simp)
  refine ⟨p, xs, v, rfl, rfl, h5, ?_, ?_⟩
  · rw [show xs.length - 1 = l.length by omega]; exact h7
  · refine k' I ps _ _ _ _ q ((d.wrL hp hI ?_).push1 (.im h8))
    have := h6.take l.length
    rw [List.take_left' rfl] at this
    rw [List.dropLast_eq_take, show xs.length - 1 = l.length by omega]; exact this
/-- xs.reverse() -/
theorem re_reverse (h : RE c ta G S fun S1 s => ∃ k l, s = .pt k ∧ S1[k]? = some (.lst l) ∧ Q (S1.set k (.lst l.reverse)) (.im nD)) : RE c (tBM0 c.K "list" rReverse ta) G S Q := by
  refine bm0_of (re_mono h fun S1 s ⟨k, l, e1, h1, q⟩ => ⟨fun d ok => by subst e1; exact ty_list (.pt h1) d ok, ?_⟩)
  intro F I ps σ G H x Qv d ox k'
  subst e1
  obtain ⟨p, hp, rfl⟩ := ox.ref
  obtain ⟨hI, xs, h5, h6⟩ := d.lstAt h1 hp
  exact ⟨p, xs, rfl, rfl, h5, k' I ps _ _ _ _ q ((d.wrL hp hI h6.reverse).push1 (.im (.v _)))⟩

/-! ### xs[i] = e, xs[i] op= e, n op= e -/
theorem rs_setL {to ti : TE} (h : RE c te G S fun S0 t => ∃ e, t = .im e ∧ RE c to G S0 fun S1 s => ∃ k, s = .pt k ∧ RE c ti G S1 fun S2 u => ∃ i l j, u = .im (iD i) ∧ S2[k]? = some (.lst l) ∧ ixN l.length i = some j ∧ P.nx G (S2.set k (.lst (l.set j e)))) :
    RS c (tAsg te (gSub to ti rSetL)) G S P := by
  intro F I ps σ τ T H D hl hT d kk
  refine h F I ps σ τ T H _ hl d fun I0 ps0 S0 t v H0 h0 d0 => ?_
  obtain ⟨e, rfl, h0⟩ := h0
  refine h0 F I0 ps0 σ (τ ++ [some v]) (T ++ [.im e]) H0 _ hl d0.as1 fun I1 ps1 S1 s x H1 h1 d1 => ?_
  obtain ⟨k, rfl, h1⟩ := h1
  refine h1 F I1 ps1 σ (τ ++ [some v] ++ [some x]) (T ++ [.im e] ++ [.pt k]) H1 _ hl d1.as1 fun I2 ps2 S2 u y H2 h2 d2 => ?_
  obtain ⟨i, l, j, rfl, hk, hj, q⟩ := h2
  obtain ⟨d3, oy⟩ := d2.drop1
  obtain ⟨d4, ox⟩ := d3.us1.drop1
  obtain ⟨d5, ov⟩ := d4.us1.drop1
  have ey := oy.holds.v_inv
  obtain ⟨p, hp, rfl⟩ := ox.ref
  obtain ⟨hI, xs, h5, h6⟩ := d5.lstAt hk hp
  exact ⟨p, xs, i, j, rfl, ey, h5, by rw [h6.length]; exact hj, kk.nx I2 ps2 G _ σ _ q rfl (d5.wrL hp hI (h6.set ov.holds j))⟩
/-- n op= e -/
theorem rs_aug {i : Nat} {f : Int → Int → Int} {a : Int} (hx : G[i]? = some (.im (iD a))) (h : RE c te G S fun S1 s => ∃ b, s = .im (iD b) ∧ P.nx (G.set i (.im (iD (f a b)))) S1) : RS c (tAug i te (ipI f)) G S P := by
  intro F I ps σ τ T H D hl hT d kk
  obtain ⟨s1, s2⟩ := Slots.split hl d.ok
  obtain ⟨x, h1, ok⟩ := s1.get hx
  obtain ⟨v, rfl, hv⟩ := ok
  have ev := hv.v_inv
  subst ev
  refine ⟨.int a, h1, ?_⟩
  refine h F I ps σ τ T H _ hl d fun I1 ps1 S1 s y H1 h2 d1 => ?_
  obtain ⟨b, rfl, q⟩ := h2
  obtain ⟨d2, oy⟩ := d1.drop1
  have ey := oy.holds.v_inv
  subst ey
  obtain ⟨t1, t2⟩ := Slots.split hl d2.ok
  exact ⟨a, b, rfl, rfl, kk.nx I1 ps1 _ S1 _ H1 q (by rw [List.length_set]) (d2.withSlots ((t1.set (.im (.v _)) i).append t2))⟩
def rIxG (K : PySem.W.Frag) : V → V → Hp → VK → Prop := rIxL K
/-- xs[i] op= e -/
theorem rs_augS {to ti : TE} {f : Int → Int → Int} (h : RE c to G S fun S1 s => ∃ k, s = .pt k ∧ RE c ti G S1 fun S2 u => ∃ i a l j, u = .im (iD i) ∧ S2[k]? = some (.lst l) ∧ ixN l.length i = some j ∧ l[j]? = some (iD a) ∧
    RE c te G S2 fun S3 t => ∃ b l3, t = .im (iD b) ∧ S3[k]? = some (.lst l3) ∧ ixN l3.length i = some j ∧ P.nx G (S3.set k (.lst (l3.set j (iD (f a b)))))) : RS c (tAugS to ti te (rIxL c.K) (ipI f) rSetL) G S P := by
  intro F I ps σ τ T H D hl hT d kk
  refine h F I ps σ τ T H _ hl d fun I1 ps1 S1 s x H1 h1 d1 => ?_
  obtain ⟨k, rfl, h1⟩ := h1
  refine h1 F I1 ps1 σ (τ ++ [some x]) (T ++ [.pt k]) H1 _ hl d1.as1 fun I2 ps2 S2 u y H2 h2 d2 => ?_
  obtain ⟨i, a, l, j, rfl, hk, hj, ha, h2⟩ := h2
  obtain ⟨d3, oy⟩ := d2.drop1
  have ey := oy.holds.v_inv
  subst ey
  obtain ⟨d4, ox⟩ := d3.us1.drop1
  obtain ⟨p, hp, rfl⟩ := ox.ref
  obtain ⟨hI, xs, h5, h6⟩ := d4.lstAt hk hp
  obtain ⟨v, h7, h8⟩ := h6.getD ha
  have ev := h8.v_inv
  subst ev
  refine ⟨p, xs, i, .int a, rfl, rfl, SqL.of h5, ?_, ?_⟩
  · unfold atI; rw [h6.length, hj]; exact h7
  refine h2 F I2 ps2 σ (τ ++ [some (.ref p)] ++ [some (.int i)]) (T ++ [.pt k] ++ [.im (iD i)]) H2 _ hl d2.as1 fun I3 ps3 S3 t z H3 h3 d5 => ?_
  obtain ⟨b, l3, rfl, hk3, hj3, q⟩ := h3
  obtain ⟨d6, oz⟩ := d5.drop1
  have ez := oz.holds.v_inv
  subst ez
  obtain ⟨d7, _⟩ := d6.us1.drop1
  obtain ⟨d8, ox3⟩ := d7.us1.drop1
  obtain ⟨p3, hp3, e3⟩ := ox3.ref
  cases e3
  obtain ⟨hI3, xs3, h9, h10⟩ := d8.lstAt hk3 hp3
  exact ⟨a, b, rfl, rfl, p, xs3, i, j, rfl, rfl, h9, by rw [h10.length]; exact hj3, kk.nx I3 ps3 G _ σ _ q rfl (d8.wrL hp3 hI3 (h10.set (.v _) j))⟩
/-- a, b = x, y -/
theorem rs_par {i j : Nat} {tr : TA} (h : RA c tr G S fun S1 ss => ∃ s t, ss = [s, t] ∧ P.nx ((G.set i s).set j t) S1) : RS c (tPar i j tr) G S P := by
  intro F I ps σ τ T H D hl hT d kk
  refine h F I ps σ τ T H _ hl d fun I1 ps1 S1 ss vs H1 h1 d1 => ?_
  obtain ⟨s, t, rfl, q⟩ := h1
  obtain ⟨d2, hs⟩ := d1.dropL d.ok.length
  obtain ⟨v, w, rfl, ok1, ok2⟩ := slots2 hs
  obtain ⟨t1, t2⟩ := Slots.split hl d2.ok
  exact ⟨v, w, rfl, kk.nx I1 ps1 _ S1 _ H1 q (by rw [List.length_set, List.length_set]) (d2.withSlots (((t1.set ok1 i).set ok2 j).append t2))⟩

/-! ### comprehensions -/
def wipeG (G : SG) : List Nat → SG
  | [] => G
  | v :: vs => (wipeG G vs).set v .no
theorem wipeG_length : ∀ vs : List Nat, (wipeG G vs).length = G.length
  | [] => rfl
  | v :: vs => by unfold wipeG; rw [List.length_set, wipeG_length vs]
theorem Slots.wipe (h : Slots c I ps σ G) : ∀ vs : List Nat, Slots c I ps (L2.wipe σ vs) (wipeG G vs)
  | [] => h
  | v :: vs => (Slots.wipe h vs).set (s := .no) trivial v
/-- the target stores within vs alone -/
def GOn (g : TG) (vs : List Nat) : Prop := ∀ (v : V) (σ : St) (H : Hp) (Q : St → Hp → Prop), g v σ H (fun σ2 H2 => L2.wipe σ2 vs = L2.wipe σ vs → Q σ2 H2) → g v σ H Q
theorem wipe_set {i : Nat} {x : Option V} : ∀ {vs : List Nat} {σ : St}, i ∈ vs → L2.wipe (σ.set i x) vs = L2.wipe σ vs
  | v :: vs, σ, h => by
    show (L2.wipe (σ.set i x) vs).set v none = (L2.wipe σ vs).set v none
    have base : ∀ (ws : List Nat) (ρ : St), L2.wipe (ρ.set i x) ws = (L2.wipe ρ ws).set i x ∨ L2.wipe (ρ.set i x) ws = L2.wipe ρ ws := by
      intro ws
      induction ws with
      | nil => intro ρ; exact .inl rfl
      | cons w ws ih =>
        intro ρ
        rcases ih ρ with e | e
        · by_cases hw : w = i
          · refine .inr ?_
            show (L2.wipe (ρ.set i x) ws).set w none = (L2.wipe ρ ws).set w none
            rw [e, hw, List.set_set]
          · refine .inl ?_
            show (L2.wipe (ρ.set i x) ws).set w none = ((L2.wipe ρ ws).set w none).set i x
            rw [e, List.set_comm _ _ (fun z => hw z.symm)]
        · exact .inr (by show (L2.wipe (ρ.set i x) ws).set w none = _; rw [e]; rfl)
    rcases List.mem_cons.mp h with e | e
    · subst e
      rcases base vs σ with q | q
      · rw [q, List.set_set]
      · rw [q]
    · rw [wipe_set e]
theorem wipe_wipe : ∀ (vs : List Nat) (σ : St), L2.wipe (L2.wipe σ vs) vs = L2.wipe σ vs := by
  have key : ∀ (ws vs : List Nat) (σ : St), (∀ w ∈ ws, w ∈ vs) → L2.wipe (L2.wipe σ ws) vs = L2.wipe σ vs := by
    intro ws
    induction ws with
    | nil => intro vs σ _; rfl
    | cons w ws ih =>
      intro vs σ h
      show L2.wipe ((L2.wipe σ ws).set w none) vs = _
      rw [wipe_set (h w List.mem_cons_self)]
      exact ih vs σ fun z hz => h z (List.mem_cons_of_mem _ hz)
  intro vs σ
  exact key vs vs σ fun _ h => h
theorem gon_name {i : Nat} {vs : List Nat} (h : i ∈ vs) : GOn (gName i) vs := fun _ _ _ _ q => q (wipe_set h)
theorem gon_tup2 {K : PySem.W.Frag} {i j n : Nat} {vs : List Nat} (hi : i ∈ vs) (hj : j ∈ vs) : GOn (gTup K n (gCons (gName i) (gCons (gName j) gNil))) vs := by
  rintro v σ H Q ⟨a, xs, rfl, h1, h2, x, r, rfl, y, r2, rfl, h3, h4⟩
  exact ⟨a, _, rfl, h1, h2, x, _, rfl, y, _, rfl, h3, h4 (by rw [wipe_set hj, wipe_set hi])⟩
/-- an object beside the cells, not known as data, is written -/
theorem SdI.other {p : Addr} {o : HO} (d : SdI c F I ps σ H G S) (hp : p ∉ ps) (hI : I p = none) (hF : F.H p = none ∨ p ∈ F.ps) : SdI c F I ps σ (upd H p o) G S := by
  refine ⟨fun a u h => ?_, d.fi, fun q u h hn => ?_, d.fn, d.pre, d.new, fun q hq => ?_, d.nd, d.len, fun k q x hk hx => ?_, d.ok⟩
  · rw [upd_ne (ne_of_none h hI)]; exact d.ex a u h
  · have hqp : q ≠ p := fun z => by
      subst z
      rcases hF with z | z
      · rw [z] at h; cases h
      · exact hn z
    rw [upd_ne hqp]; exact d.fh q u h hn
  · have hqp : q ≠ p := fun z => hp (z ▸ hq)
    rw [upd_ne hqp]; exact d.th q hq
  · have hqp : q ≠ p := fun z => hp (z ▸ List.mem_of_getElem? hk)
    exact (d.cl k q x hk hx).grow (Ex.refl I) (List.prefix_refl _) (fun _ _ h => h) fun o' h' => by rw [upd_ne hqp]; exact h'
theorem SdI.freshF (d : SdI c F I ps σ H G S) {p : Addr} (hp : H p = none) : F.H p = none := by
  cases z : F.H p with
  | none => rfl
  | some o =>
    by_cases hF : p ∈ F.ps
    · obtain ⟨t, ht⟩ := d.pre
      exact absurd hp (d.th p (by rw [← ht]; exact List.mem_append_left _ hF))
    · rw [d.fh p o z hF] at hp; cases hp
/-- [e for target in walked if test], the list data (own = false) or one's own -/
theorem re_lcW {wi : TI} {g : TG} {vs : List Nat} (own : Bool) (hgo : GOn g vs) (h : RW c wi G S fun S1 ds => ds.length ≤ 1000000 ∧ ∃ Iv : Nat → SC → List D → Prop, Iv 0 S1 [] ∧
    (∀ i e S' acc, ds[i]? = some e → acc.length ≤ i → Iv i S' acc → RG c g (.im e) (wipeG G vs) S' fun G2 S2 => RT c tt G2 S2 fun S3 b => if b = true then RE c te G2 S3 fun S4 s => ∃ y, s = .im y ∧ Iv (i + 1) S4 (acc ++ [y]) else Iv (i + 1) S3 acc) ∧
    ∀ S' acc, acc.length ≤ ds.length → Iv ds.length S' acc → if own = true then Q (S' ++ [.lst acc]) (.pt S'.length) else Q S' (.im (.lst acc))) : RE c (tLc wi g tt te vs) G S Q := by
  intro F I ps σ τ T H Qv hl d k
  refine h F I ps σ τ T H _ hl d fun I1 ps1 S1 ds J H1 h1 d1 w => ?_
  obtain ⟨hz, Iv, h0, ht, hd⟩ := h1
  obtain ⟨Gd, Y, hw, hg, hy⟩ := w.ex
  intro p hp
  have hF : F.H p = none := d1.freshF hp
  have hI1 : I1 p = none := d1.ex.none hp
  have hps1 : p ∉ ps1 := fun z => d1.th p z hp
  refine lc_it hw (fun i H' => ∃ S' acc I' ps' xs, Iv i S' acc ∧ acc.length ≤ i ∧ Ex I1 I' ∧ SdI c F I' ps' (σ ++ τ) H' (G ++ T) S' ∧ H' p = some (.lst xs) ∧ I' p = none ∧ HoldsL c.K I' xs acc ∧ p ∉ ps')
    ⟨S1, [], I1, ps1, [], h0, Nat.le_refl _, Ex.refl _, d1.other hps1 hI1 (.inl hF), upd_same, hI1, .nil, hps1⟩ ?_ ?_ ?_
  · rintro i H' _ ⟨S', acc, I', ps', xs, _, _, e, d', _⟩
    exact hg I' H' e d'.ex
  · rintro i x H' H2 hi ⟨S', acc, I', ps', xs, hI, hlen, e, d', hHp, hIp, hxs, hpp⟩ y
    obtain ⟨I2, e2, d2⟩ := hy F I' ps' _ H' _ S' i x H2 ds[i] e d' (List.getElem?_eq_getElem hi) y
    obtain ⟨I2g, e2g, d2g⟩ := hy ⟨I', H', ps'⟩ I' ps' _ H' _ S' i x H2 ds[i] e d'.ground (List.getElem?_eq_getElem hi) y
    -- the ground is the state ahead of this turn: p stays
    obtain ⟨d3, ox⟩ := d2g.drop1
    obtain ⟨s1, s2⟩ := Slots.split hl d3.ok
    have dw : SdI c ⟨I', H', ps'⟩ I2g ps' (L2.wipe σ vs ++ τ ++ [some x]) H2 (wipeG G vs ++ T ++ [.im ds[i]]) S' := d2g.withSlots (((s1.wipe vs).append s2).append (.cons ox .nil))
    refine hgo _ _ _ _ (ht i ds[i] S' acc (List.getElem?_eq_getElem hi) hlen hI ⟨I', H', ps'⟩ I2g ps' (L2.wipe σ vs) τ T H2 x _ (by rw [L2.wipe_length, wipeG_length]; exact hl) dw fun I3 ps3 G3 S3 σ3 H3 q hl3 d4 hwi => ?_)
    · have hl3' : σ3.length = G3.length := by
        have a1 := d4.ok.length
        have a2 := d.ok.length
        rw [List.length_append, List.length_append] at a1 a2
        omega
      refine ⟨by rw [hwi, wipe_wipe], ?_⟩
      refine q ⟨I', H', ps'⟩ I3 ps3 σ3 τ T H3 _ hl3' d4 fun I4 ps4 S4 b H4 q4 d5 => ?_
      have fin : ∀ {I5 : Hp} {ps5 : List Addr} {S5 : SC} {H5 : Hp} {G5 : SG} {σ5 : St}, SdI c ⟨I', H', ps'⟩ I5 ps5 σ5 H5 G5 S5 → H5 p = some (.lst xs) ∧ I5 p = none ∧ p ∉ ps5 := fun {I5 ps5 S5 H5 G5 σ5} d6 =>
        ⟨d6.fh p _ hHp hpp, d6.fn p (by show H' p ≠ none; rw [hHp]; exact fun z => by cases z) hIp hpp, fun z => by
          rcases d6.new p z with z2 | z2
          · exact hpp z2
          · have : H' p = none := z2
            rw [hHp] at this; cases this⟩
      have sl0 : ∀ {I5 : Hp} {ps5 : List Addr} {S5 : SC} {H5 : Hp} {G5 : SG} {σ5 : St}, SdI c ⟨I', H', ps'⟩ I5 ps5 σ5 H5 G5 S5 → SdI c F I5 ps5 (σ ++ τ) H5 (G ++ T) S5 := fun {I5 ps5 S5 H5 G5 σ5} d6 =>
        (d'.back d6).withSlots (d'.ok.mono d6.fi d6.pre)
      cases b with
      | true =>
        refine q4 ⟨I', H', ps'⟩ I4 ps4 σ3 τ T H4 _ hl3' d5 fun I5 ps5 S5 s y H5 q5 d6 => ?_
        obtain ⟨yd, rfl, q5⟩ := q5
        obtain ⟨d7, oy⟩ := d6.drop1
        obtain ⟨f1, f2, f3⟩ := fin d6
        refine ⟨xs, f1, by rw [hxs.length]; exact Nat.lt_of_le_of_lt (Nat.le_trans hlen (Nat.le_of_lt hi)) (Nat.lt_of_le_of_lt hz (by decide)), S5, acc ++ [yd], I5, ps5, xs ++ [y], q5, by rw [List.length_append]; exact Nat.succ_le_succ hlen, e.trans d6.fi, (sl0 d6).other f3 f2 (.inl hF), upd_same, f2, (hxs.mono d6.fi).append (.cons oy.holds .nil), f3⟩
      | false =>
        obtain ⟨f1, f2, f3⟩ := fin d5
        exact ⟨S4, acc, I4, ps4, xs, q4, Nat.le_succ_of_le hlen, e.trans d5.fi, sl0 d5, f1, f2, hxs.mono d5.fi, f3⟩
  · rintro H' ⟨S', acc, I', ps', xs, hI, hlen, e, d', hHp, hIp, hxs, hpp⟩
    have hq := hd S' acc hlen hI
    cases own with
    | true =>
      rw [if_pos rfl] at hq
      have d2 : SdI c F I' (ps' ++ [p]) (σ ++ τ) H' (G ++ T) (S' ++ [.lst acc]) := by
        refine ⟨d'.ex, d'.fi, d'.fh, d'.fn, d'.pre.trans (List.prefix_append _ _), fun q hq' => ?_, fun q hq' => ?_, ?_, by rw [List.length_append, List.length_append, d'.len]; rfl, fun j q y hj hy => ?_, d'.ok.mono (Ex.refl _) (List.prefix_append _ _)⟩
        · rcases List.mem_append.mp hq' with z | z
          · exact d'.new q z
          · have : q = p := by simpa using z
            subst this
            exact .inr hF
        · rcases List.mem_append.mp hq' with z | z
          · exact d'.th q z
          · have : q = p := by simpa using z
            subst this
            rw [hHp]; exact fun z => by cases z
        · rw [List.nodup_append]
          refine ⟨d'.nd, by simp, fun a ha b hb => ?_⟩
          have : b = p := by simpa using hb
          subst this
          exact fun z => hpp (z ▸ ha)
        · rcases Nat.lt_or_ge j ps'.length with hj2 | hj2
          · rw [List.getElem?_append_left hj2] at hj
            rw [List.getElem?_append_left (by rw [← d'.len]; exact hj2)] at hy
            exact (d'.cl j q y hj hy).grow (Ex.refl _) (List.prefix_append _ _) (fun _ _ h => h) fun _ h => h
          · rw [List.getElem?_append_right hj2] at hj
            rw [List.getElem?_append_right (by rw [← d'.len]; exact hj2), ← d'.len] at hy
            cases e : j - ps'.length with
            | zero =>
              rw [e] at hj hy
              simp at hj hy
              subst hj hy
              exact ⟨hIp, xs, hHp, hxs⟩
            | succ m => rw [e] at hj; simp at hj
      refine k I' (ps' ++ [p]) _ _ _ H' hq (d2.push1 ⟨p, ?_, rfl⟩)
      rw [← d'.len, List.getElem?_append_right (Nat.le_refl _)]
      simp
    | false =>
      rw [if_neg Bool.false_ne_true] at hq
      have e1 : Ex I' (upd I' p (.lst xs)) := Ex.new hIp
      have d2 : SdI c F (upd I' p (.lst xs)) ps' (σ ++ τ) H' (G ++ T) S' := by
        refine ⟨fun a u h => ?_, d'.fi.trans e1, d'.fh, fun q h hi hn => ?_, d'.pre, d'.new, d'.th, d'.nd, d'.len, fun j q y hj hy => ?_, d'.ok.mono e1 (List.prefix_refl _)⟩
        · by_cases ha : a = p
          · subst ha; rw [upd_same] at h; cases h; exact hHp
          · rw [upd_ne ha] at h; exact d'.ex a u h
        · have hqp : q ≠ p := fun z => h (z ▸ hF)
          rw [upd_ne hqp]; exact d'.fn q h hi hn
        · have hqp : q ≠ p := fun z => hpp (z ▸ List.mem_of_getElem? hj)
          exact (d'.cl j q y hj hy).grow e1 (List.prefix_refl _) (fun _ _ h => by rw [upd_ne hqp]; exact h) fun o' h' => h'
      exact k _ ps' _ _ _ H' hq (d2.push1 (.im (.lst upd_same (hxs.mono e1))))
end
end Dt

set_option Elab.async false
set_option linter.all false
set_option maxRecDepth 100000
set_option maxHeartbeats 1000000
namespace Dt
open PySem L2

/-- what stands at the key -/
def valD (ks : List Key) (l : List D) (k : Key) : Option D := ((ks.zip l).find? fun kv => decide (kv.1 = k)).map (·.2)
instance (k : Key) (ks : List Key) : Decidable (k ∈ ks) := decidable_of_iff (ks.any (fun a => decide (a = k)) = true) (by simp)
def putDK (ks : List Key) (k : Key) : List Key := if k ∈ ks then ks else ks ++ [k]
def putDL (ks : List Key) (l : List D) (k : Key) (d : D) : List D := if k ∈ ks then (ks.zip l).map (fun kv => if kv.1 = k then d else kv.2) else l ++ [d]
theorem valD_nil {k : Key} : valD [] [] k = none := rfl
theorem valD_none : ∀ {ks : List Key} {l : List D} {k : Key}, k ∉ ks → valD ks l k = none
  | [], _, _, _ => rfl
  | _ :: _, [], _, _ => rfl
  | a :: ks, d :: l, k, h => by
    have h1 : ¬ a = k := fun e => h (by rw [e]; exact List.mem_cons_self)
    have h2 := valD_none (ks := ks) (l := l) fun z => h (List.mem_cons_of_mem _ z)
    unfold valD at h2 ⊢
    rw [List.zip_cons_cons, List.find?_cons]
    simp only [h1, decide_false]
    exact h2
theorem valD_some : ∀ {ks : List Key} {l : List D} {k : Key}, ks.length = l.length → k ∈ ks → ∃ d, valD ks l k = some d
  | [], _, _, _, h => by cases h
  | _ :: _, [], _, e, _ => by simp at e
  | a :: ks, d :: l, k, e, h => by
    by_cases h1 : a = k
    · exact ⟨d, by unfold valD; rw [List.zip_cons_cons, List.find?_cons]; simp [h1]⟩
    · obtain ⟨d', h2⟩ := valD_some (l := l) (by simpa using e) ((List.mem_cons.mp h).resolve_left fun z => h1 z.symm)
      refine ⟨d', ?_⟩
      unfold valD at h2 ⊢
      rw [List.zip_cons_cons, List.find?_cons]
      simp only [h1, decide_false]
      exact h2
section
variable {c : Cn} {F : Fr} {I I' : Hp} {ps ps' : List Addr} {σ τ σ' : St} {H H' : Hp} {G T G' : SG} {S S' : SC} {te ta tb tk tv : TE} {tt tu : TT} {Q : SC → Sl → Prop} {P : Po} {ts : TS}

theorem valV_zip : ∀ {ks : List Key} {xs : List V} {l : List D} (k : Key), ks.length = xs.length → HoldsL c.K I xs l → match valD ks l k with
    | some d => ∃ v, valV (ks.zip xs) k = some v ∧ Holds c.K I v d
    | none => valV (ks.zip xs) k = none
  | [], _, _, k, _, _ => rfl
  | a :: ks, x :: xs, d :: l, k, e, .cons h1 h2 => by
    have ih := valV_zip (ks := ks) k (by simpa using e) h2
    unfold valD at ih ⊢
    rw [List.zip_cons_cons, List.zip_cons_cons, List.find?_cons]
    by_cases q : a = k
    · simp only [q, decide_true]
      exact ⟨x, valV_pos (p := (k, x)) rfl, h1⟩
    · simp only [q, decide_false]
      rw [valV_neg (p := (a, x)) q]
      exact ih
  | _ :: _, [], _, _, e, _ => by simp at e
theorem mem_any {ks : List Key} {xs : List V} {k : Key} (e : ks.length = xs.length) : ((ks.zip xs).any fun kv => decide (kv.1 = k)) = decide (k ∈ ks) := by
  induction ks generalizing xs with
  | nil => rfl
  | cons a ks ih =>
    cases xs with
    | nil => simp at e
    | cons x xs =>
      rw [List.zip_cons_cons, List.any_cons, ih (by simpa using e)]
      by_cases q : a = k
      · subst q; simp
      · have : ¬ k = a := fun z => q z.symm
        simp [q, this]
theorem putK_zip {ks : List Key} {xs : List V} {l : List D} (k : Key) {v : V} {d : D} (e : ks.length = xs.length) (h : HoldsL c.K I xs l) (hv : Holds c.K I v d) :
    ∃ xs', putK (ks.zip xs) k v = (putDK ks k).zip xs' ∧ (putDK ks k).length = xs'.length ∧ HoldsL c.K I xs' (putDL ks l k d) := by
  unfold putK putDK putDL
  rw [mem_any e]
  by_cases q : k ∈ ks
  · rw [if_pos (decide_eq_true q), if_pos q, if_pos q]
    have key : ∀ (ks : List Key) (xs : List V) (l : List D), ks.length = xs.length → HoldsL c.K I xs l →
        ((ks.zip xs).map fun kv => if kv.1 = k then (kv.1, v) else kv) = ks.zip ((ks.zip xs).map fun kv => if kv.1 = k then v else kv.2) ∧ ks.length = ((ks.zip xs).map fun kv => if kv.1 = k then v else kv.2).length ∧ HoldsL c.K I ((ks.zip xs).map fun kv => if kv.1 = k then v else kv.2) ((ks.zip l).map fun kv => if kv.1 = k then d else kv.2) := by
      intro ks
      induction ks with
      | nil => intro xs l _ _; exact ⟨rfl, rfl, .nil⟩
      | cons a ks ih =>
        intro xs l e h
        cases h with
        | nil => simp at e
        | cons h1 h2 =>
          rename_i x xs dd l
          obtain ⟨i1, i2, i3⟩ := ih xs l (by simpa using e) h2
          by_cases qa : a = k
          · subst qa
            simp only [List.zip_cons_cons, List.map_cons, if_true, i1]
            exact ⟨trivial, by rw [List.length_cons, List.length_cons, ← i2], .cons hv i3⟩
          · simp only [List.zip_cons_cons, List.map_cons, if_neg qa, i1]
            exact ⟨trivial, by rw [List.length_cons, List.length_cons, ← i2], .cons h1 i3⟩
    exact ⟨_, key ks xs l e h⟩
  · rw [if_neg (by simpa using q), if_neg q, if_neg q]
    refine ⟨xs ++ [v], ?_, by rw [List.length_append, List.length_append, e]; rfl, h.append (.cons hv .nil)⟩
    rw [List.zip_append e]
    rfl

/-- a dict, data or a cell -/
inductive DkOf (S : SC) : Sl → List Key → List D → Prop
  | im (ks : List Key) (l : List D) : DkOf S (.im (.dk ks l)) ks l
  | pt {k : Nat} {ks : List Key} {l : List D} (h : S[k]? = some (.dk ks l)) : DkOf S (.pt k) ks l
theorem dk_at {s : Sl} {ks : List Key} {l : List D} {x : V} (d : SdI c F I ps σ H G S) (ok : SlOk c I ps (some x) s) (h : DkOf S s ks l) : ∃ p xs, x = .ref p ∧ H p = some (.dK (ks.zip xs)) ∧ ks.length = xs.length ∧ HoldsL c.K I xs l := by
  cases h with
  | im =>
    cases ok.holds with
    | dk h1 h2 h3 => exact ⟨_, _, rfl, d.ex _ _ h1, h2, h3⟩
  | pt h =>
    obtain ⟨p, h1, rfl⟩ := ok.ref
    obtain ⟨q, hq, hc⟩ := d.at_ h
    rw [h1] at hq; cases hq
    obtain ⟨_, xs, h2, h3, h4⟩ := hc
    exact ⟨p, xs, rfl, h2, h3, h4⟩
/-- an int or a text as a key -/
def KeyD : D → Key → Prop
  | .v (.int i), k => k = Sum.inl i
  | .v (.str x), k => k = Sum.inr x
  | _, _ => False
theorem keyD {e : D} {k : Key} {v : V} (h : Holds c.K I v e) (hk : KeyD e k) : v = kV k := by
  cases e with
  | v x =>
    have := h.v_inv
    subst this
    cases v with
    | int i => cases (show k = Sum.inl i from hk); rfl
    | str x => cases (show k = Sum.inr x from hk); rfl
    | _ => exact False.elim hk
  | _ => exact False.elim hk
/-- {} -/
theorem re_dnew (q : Q (S ++ [.dk [] []]) (.pt S.length)) : RE c tDNewK G S Q := by
  intro F I ps σ τ T H Qv hl d k
  intro p hp
  exact k _ _ _ _ _ _ q (newC d hp (x := .dk [] []) ⟨d.ex.none hp, [], upd_same, rfl, .nil⟩)
theorem din_core {t : Sl} {e : D} {ks : List Key} {l : List D} {kk : Key} {x y : V} (d : SdI c F I ps σ H G S) (ox : SlOk c I ps (some x) t) (oy : SlOk c I ps (some y) (.im e)) (h : DkOf S t ks l) (hk : KeyD e kk) : ∃ p o, x = .ref p ∧ DGet H p y o ∧ (match valD ks l kk with
    | some d => ∃ v, o = some v ∧ Holds c.K I v d
    | none => o = none) := by
  obtain ⟨p, xs, rfl, h1, h2, h3⟩ := dk_at d ox h
  have ey := keyD oy.holds hk
  subst ey
  refine ⟨p, _, rfl, DGet.k h1, ?_⟩
  exact valV_zip kk h2 h3
/-- e in d -/
theorem re_din (h : RE c tk G S fun S1 s => ∃ e kk, s = .im e ∧ KeyD e kk ∧ RE c te G S1 fun S2 t => ∃ ks l, DkOf S2 t ks l ∧ Q S2 (.im (bD (valD ks l kk).isSome))) : RE c (tDIn tk te) G S Q := by
  intro F I ps σ τ T H Qv hl d k
  refine h F I ps σ τ T H _ hl d fun I1 ps1 S1 s y H1 h1 d1 => ?_
  obtain ⟨e, kk, rfl, hk, h1⟩ := h1
  refine h1 F I1 ps1 σ (τ ++ [some y]) (T ++ [.im e]) H1 _ hl d1.as1 fun I2 ps2 S2 t x H2 h2 d2 => ?_
  obtain ⟨ks, l, hd, q⟩ := h2
  obtain ⟨d3, ox⟩ := d2.drop1
  obtain ⟨d4, oy⟩ := d3.us1.drop1
  obtain ⟨p, o, rfl, hg, hm⟩ := din_core d4 ox oy hd hk
  refine ⟨p, o, rfl, hg, ?_⟩
  have e1 : o.isSome = (valD ks l kk).isSome := by
    cases z : valD ks l kk with
    | some dd => rw [z] at hm; obtain ⟨v, rfl, _⟩ := hm; rfl
    | none => rw [z] at hm; rw [show o = none from hm]; rfl
  rw [e1]
  exact k I2 ps2 S2 _ _ H2 q (d4.push1 (.im (.v _)))
theorem re_dnotin (h : RE c tk G S fun S1 s => ∃ e kk, s = .im e ∧ KeyD e kk ∧ RE c te G S1 fun S2 t => ∃ ks l, DkOf S2 t ks l ∧ Q S2 (.im (bD !(valD ks l kk).isSome))) : RE c (tDNotIn tk te) G S Q := by
  intro F I ps σ τ T H Qv hl d k
  refine h F I ps σ τ T H _ hl d fun I1 ps1 S1 s y H1 h1 d1 => ?_
  obtain ⟨e, kk, rfl, hk, h1⟩ := h1
  refine h1 F I1 ps1 σ (τ ++ [some y]) (T ++ [.im e]) H1 _ hl d1.as1 fun I2 ps2 S2 t x H2 h2 d2 => ?_
  obtain ⟨ks, l, hd, q⟩ := h2
  obtain ⟨d3, ox⟩ := d2.drop1
  obtain ⟨d4, oy⟩ := d3.us1.drop1
  obtain ⟨p, o, rfl, hg, hm⟩ := din_core d4 ox oy hd hk
  refine ⟨p, o, rfl, hg, ?_⟩
  have e1 : o.isSome = (valD ks l kk).isSome := by
    cases z : valD ks l kk with
    | some dd => rw [z] at hm; obtain ⟨v, rfl, _⟩ := hm; rfl
    | none => rw [z] at hm; rw [show o = none from hm]; rfl
  rw [e1]
  exact k I2 ps2 S2 _ _ H2 q (d4.push1 (.im (.v _)))
/-- d[e] -/
theorem re_dget (h : RE c te G S fun S1 s => RE c tk G S1 fun S2 t => ∃ e kk ks l d, t = .im e ∧ KeyD e kk ∧ DkOf S2 s ks l ∧ valD ks l kk = some d ∧ Q S2 (.im d)) : RE c (tDGet te tk) G S Q := by
  intro F I ps σ τ T H Qv hl d k
  refine h F I ps σ τ T H _ hl d fun I1 ps1 S1 s x H1 h1 d1 => ?_
  refine h1 F I1 ps1 σ (τ ++ [some x]) (T ++ [s]) H1 _ hl d1.as1 fun I2 ps2 S2 t y H2 h2 d2 => ?_
  obtain ⟨e, kk, ks, l, dd, rfl, hk, hd, hv, q⟩ := h2
  obtain ⟨d3, oy⟩ := d2.drop1
  obtain ⟨d4, ox⟩ := d3.us1.drop1
  obtain ⟨p, o, rfl, hg, hm⟩ := din_core d4 ox oy hd hk
  rw [hv] at hm
  obtain ⟨v, rfl, hh⟩ := hm
  exact ⟨p, v, rfl, hg, k I2 ps2 S2 _ _ H2 q (d4.push1 (.im hh))⟩
/-- d[e] = x -/
theorem rs_dput (h : RE c tv G S fun S0 u => ∃ v, u = .im v ∧ RE c te G S0 fun S1 s => ∃ k, s = .pt k ∧ RE c tk G S1 fun S2 t => ∃ e kk ks l, t = .im e ∧ KeyD e kk ∧ S2[k]? = some (.dk ks l) ∧ ks.length ≤ 1000000 ∧ P.nx G (S2.set k (.dk (putDK ks kk) (putDL ks l kk v)))) : RS c (sDPut te tk tv) G S P := by
  intro F I ps σ τ T H D hl hT d kx
  refine h F I ps σ τ T H _ hl d fun I0 ps0 S0 u z H0 h0 d0 => ?_
  obtain ⟨v, rfl, h0⟩ := h0
  refine h0 F I0 ps0 σ (τ ++ [some z]) (T ++ [.im v]) H0 _ hl d0.as1 fun I1 ps1 S1 s x H1 h1 d1 => ?_
  obtain ⟨k, rfl, h1⟩ := h1
  refine h1 F I1 ps1 σ (τ ++ [some z] ++ [some x]) (T ++ [.im v] ++ [.pt k]) H1 _ hl d1.as1 fun I2 ps2 S2 t y H2 h2 d2 => ?_
  obtain ⟨e, kk, ks, l, rfl, hk, hd, hz, q⟩ := h2
  obtain ⟨d3, oy⟩ := d2.drop1
  obtain ⟨d4, ox⟩ := d3.us1.drop1
  obtain ⟨d5, oz⟩ := d4.us1.drop1
  have ey := keyD oy.holds hk
  subst ey
  obtain ⟨p, hp, rfl⟩ := ox.ref
  obtain ⟨p', hp', hc⟩ := d5.at_ hd
  rw [hp] at hp'; cases hp'
  obtain ⟨hI, xs, h5, h6, h7⟩ := hc
  obtain ⟨xs', e1, e2, e3⟩ := putK_zip kk h6 h7 oz.holds
  refine ⟨p, _, rfl, DPut.k h5 ?_, ?_⟩
  · rw [List.length_zip]; exact Nat.lt_of_le_of_lt (Nat.le_trans (Nat.min_le_left _ _) hz) (by decide)
  · rw [e1]
    exact kx.nx I2 ps2 G _ σ _ q rfl (d5.wr hp hI (show CellAt c I2 _ ps2 p (.dk (putDK ks kk) (putDL ks l kk v)) from ⟨hI, xs', upd_same, e2, e3⟩))
/-- the keys as data -/
def kD : Key → D
  | .inl i => iD i
  | .inr x => sD x
theorem kD_holds : ∀ {ks : List Key}, HoldsL c.K I (ks.map kV) (ks.map kD)
  | [] => .nil
  | .inl i :: ks => .cons (.v _) kD_holds
  | .inr i :: ks => .cons (.v _) kD_holds
theorem zip_keys {α : Type} : ∀ {ks : List Key} {xs : List α}, ks.length = xs.length → ((ks.zip xs).map fun kv => kV kv.1) = ks.map kV
  | [], _, _ => rfl
  | a :: ks, x :: xs, e => by rw [List.zip_cons_cons, List.map_cons, List.map_cons, zip_keys (by simpa using e)]
  | _ :: _, [], e => by simp at e
/-- list(d): its keys -/
theorem cb_listD {s : Sl} {ks : List Key} {l : List D} (h : DkOf S s ks l) (q : Q S (.im (.lst (ks.map kD)))) : CbD c rListD [s] S Q := by
  intro F I ps σ G H vs Qv d hs k
  obtain ⟨v, rfl, ok⟩ := slots1 hs
  obtain ⟨p, xs, rfl, h1, h2, h3⟩ := dk_at d ok h
  refine ⟨p, _, rfl, h1, fun r hr => ?_⟩
  refine k _ ps S _ _ _ q ((d.newIm hr).push1 (.im (.lst upd_same ?_)))
  rw [zip_keys h2]
  exact kD_holds
/-- {e: x for target in walked if test}: data -/
theorem re_dcW {wi : TI} {g : TG} {vs : List Nat} (hgo : GOn g vs) (h : RW c wi G S fun S1 ds => ds.length ≤ 1000000 ∧ ∃ Iv : Nat → List Key → List D → Prop, Iv 0 [] [] ∧
    (∀ i e ks l, ds[i]? = some e → ks.length ≤ i → Iv i ks l → RG c g (.im e) (wipeG G vs) S1 fun G2 S2 => RT c tt G2 S2 fun S3 b => if b = true then RE c tk G2 S3 fun S4 s => ∃ y kk, s = .im y ∧ KeyD y kk ∧ RE c tv G2 S4 fun S5 u => ∃ z, u = .im z ∧ S5 = S1 ∧ Iv (i + 1) (putDK ks kk) (putDL ks l kk z) else S3 = S1 ∧ Iv (i + 1) ks l) ∧
    ∀ ks l, ks.length ≤ ds.length → Iv ds.length ks l → Q S1 (.im (.dk ks l))) : RE c (tDc wi g tt tk tv vs) G S Q := by
  intro F I ps σ τ T H Qv hl d k
  refine h F I ps σ τ T H _ hl d fun I1 ps1 S1 ds J H1 h1 d1 w => ?_
  obtain ⟨hz, Iv, h0, ht, hd⟩ := h1
  obtain ⟨Gd, Y, hw, hg, hy⟩ := w.ex
  intro p hp
  have hF : F.H p = none := d1.freshF hp
  have hI1 : I1 p = none := d1.ex.none hp
  have hps1 : p ∉ ps1 := fun z => d1.th p z hp
  let Pv : Nat → Hp → Prop := fun i H' => ∃ ks l I' xs, Iv i ks l ∧ ks.length ≤ i ∧ Ex I1 I' ∧ SdI c F I' ps1 (σ ++ τ) H' (G ++ T) S1 ∧ H' p = some (.dK (ks.zip xs)) ∧ I' p = none ∧ ks.length = xs.length ∧ HoldsL c.K I' xs l
  refine ⟨fun i m H => m = ds.length - i ∧ i ≤ ds.length ∧ Pv i H, ⟨ds.length, by simp, Nat.zero_le _, [], [], I1, [], h0, Nat.le_refl _, Ex.refl _, d1.other hps1 hI1 (.inl hF), upd_same, hI1, rfl, .nil⟩, ?_⟩
  rintro i m H' ⟨rfl, hi, pv⟩
  obtain ⟨ks, l, I', xs, hI, hlen, e, d', hHp, hIp, hkx, hxs⟩ := id pv
  have hgd := hg I' H' e d'.ex
  by_cases hlt : i < ds.length
  · refine .inr ⟨hw.goes i H' hlt hgd, Pv (i + 1), fun H2 p2 => ⟨ds.length - (i + 1), by omega, rfl, hlt, p2⟩, fun x H2 y => ?_⟩
    have y := hw.yields i H' x H2 hlt hgd y
    have hpp : p ∉ ps1 := hps1
    obtain ⟨I2g, e2g, d2g⟩ := hy ⟨I', H', ps1⟩ I' ps1 _ H' _ S1 i x H2 ds[i] e d'.ground (List.getElem?_eq_getElem hlt) y
    obtain ⟨d3, ox⟩ := d2g.drop1
    obtain ⟨s1, s2⟩ := Slots.split hl d3.ok
    have dw : SdI c ⟨I', H', ps1⟩ I2g ps1 (L2.wipe σ vs ++ τ ++ [some x]) H2 (wipeG G vs ++ T ++ [.im ds[i]]) S1 := d2g.withSlots (((s1.wipe vs).append s2).append (.cons ox .nil))
    refine hgo _ _ _ _ (ht i ds[i] ks l (List.getElem?_eq_getElem hlt) hlen hI ⟨I', H', ps1⟩ I2g ps1 (L2.wipe σ vs) τ T H2 x _ (by rw [L2.wipe_length, wipeG_length]; exact hl) dw fun I3 ps3 G3 S3 σ3 H3 q hl3 d4 hwi => ?_)
    have hl3' : σ3.length = G3.length := by
      have a1 := d4.ok.length
      have a2 := d.ok.length
      rw [List.length_append, List.length_append] at a1 a2
      omega
    refine ⟨by rw [hwi, wipe_wipe], ?_⟩
    refine q ⟨I', H', ps1⟩ I3 ps3 σ3 τ T H3 _ hl3' d4 fun I4 ps4 S4 b H4 q4 d5 => ?_
    have fin : ∀ {I5 : Hp} {ps5 : List Addr} {S5 : SC} {H5 : Hp} {G5 : SG} {σ5 : St}, SdI c ⟨I', H', ps1⟩ I5 ps5 σ5 H5 G5 S5 → H5 p = some (.dK (ks.zip xs)) ∧ I5 p = none ∧ p ∉ ps5 := fun {I5 ps5 S5 H5 G5 σ5} d6 =>
      ⟨d6.fh p _ hHp hpp, d6.fn p (by show H' p ≠ none; rw [hHp]; exact fun z => by cases z) hIp hpp, fun z => by
        rcases d6.new p z with z2 | z2
        · exact hpp z2
        · have : H' p = none := z2
          rw [hHp] at this; cases this⟩
    have same : ∀ {I5 : Hp} {ps5 : List Addr} {H5 : Hp} {G5 : SG} {σ5 : St}, SdI c ⟨I', H', ps1⟩ I5 ps5 σ5 H5 G5 S1 → ps5 = ps1 := fun {I5 ps5 H5 G5 σ5} d6 => by
      obtain ⟨t, ht⟩ := d6.pre
      have e1 := d6.len
      have e2 := d'.len
      rw [← ht, List.length_append] at e1
      have : t = [] := List.length_eq_zero_iff.mp (by
        have : (Fr.mk I' H' ps1).ps.length = ps1.length := rfl
        omega)
      rw [← ht, this, List.append_nil]
    have sl0 : ∀ {I5 : Hp} {H5 : Hp} {G5 : SG} {σ5 : St}, SdI c ⟨I', H', ps1⟩ I5 ps1 σ5 H5 G5 S1 → SdI c F I5 ps1 (σ ++ τ) H5 (G ++ T) S1 := fun {I5 H5 G5 σ5} d6 =>
      (d'.back d6).withSlots (d'.ok.mono d6.fi d6.pre)
    cases b with
    | true =>
      refine q4 ⟨I', H', ps1⟩ I4 ps4 σ3 τ T H4 _ hl3' d5 fun I5 ps5 S5 s y H5 q5 d6 => ?_
      obtain ⟨yd, kk, rfl, hkk, q5⟩ := q5
      refine q5 ⟨I', H', ps1⟩ I5 ps5 σ3 (τ ++ [some y]) (T ++ [.im yd]) H5 _ hl3' d6.as1 fun I6 ps6 S6 u z H6 q6 d7 => ?_
      obtain ⟨zd, rfl, rfl, q6⟩ := q6
      obtain ⟨d8, oz⟩ := d7.drop1
      obtain ⟨d9, oy⟩ := d8.us1.drop1
      have ey := keyD oy.holds hkk
      subst ey
      have eps := same d7
      subst eps
      obtain ⟨f1, f2, f3⟩ := fin d7
      obtain ⟨xs', e1, e2, e3⟩ := putK_zip kk hkx (hxs.mono d7.fi) oz.holds
      refine ⟨_, kk, rfl, f1, ?_, putDK ks kk, putDL ks l kk zd, I6, xs', q6, ?_, e.trans d7.fi, (sl0 d7).other f3 f2 (.inl hF), ?_, f2, e2, e3⟩
      · rw [List.length_zip]
        exact Nat.lt_of_le_of_lt (Nat.min_le_left _ _) (Nat.lt_of_le_of_lt (Nat.le_trans hlen (Nat.le_of_lt (Nat.lt_of_lt_of_le hlt hz))) (by decide))
      · unfold putDK
        split
        · omega
        · rw [List.length_append]; exact Nat.succ_le_succ hlen
      · rw [upd_same, e1]
    | false =>
      obtain ⟨rfl, q4⟩ := q4
      have eps := same d5
      subst eps
      obtain ⟨f1, f2, f3⟩ := fin d5
      exact ⟨ks, l, I4, xs, q4, Nat.le_succ_of_le hlen, e.trans d5.fi, sl0 d5, f1, f2, hkx, hxs.mono d5.fi⟩
  · have ei : i = ds.length := by omega
    subst ei
    refine .inl ⟨hw.stops H' hgd, ?_⟩
    have hq := hd ks l hlen hI
    have e1 : Ex I' (upd I' p (.dK (ks.zip xs))) := Ex.new hIp
    have d2 : SdI c F (upd I' p (.dK (ks.zip xs))) ps1 (σ ++ τ) H' (G ++ T) S1 := by
      refine ⟨fun a u h => ?_, d'.fi.trans e1, d'.fh, fun q h hi hn => ?_, d'.pre, d'.new, d'.th, d'.nd, d'.len, fun j q y hj hy => ?_, d'.ok.mono e1 (List.prefix_refl _)⟩
      · by_cases ha : a = p
        · subst ha; rw [upd_same] at h; cases h; exact hHp
        · rw [upd_ne ha] at h; exact d'.ex a u h
      · have hqp : q ≠ p := fun z => h (z ▸ hF)
        rw [upd_ne hqp]; exact d'.fn q h hi hn
      · have hqp : q ≠ p := fun z => hps1 (z ▸ List.mem_of_getElem? hj)
        exact (d'.cl j q y hj hy).grow e1 (List.prefix_refl _) (fun _ _ h => by rw [upd_ne hqp]; exact h) fun o' h' => h'
    exact k _ ps1 _ _ _ H' hq (d2.push1 (.im (.dk upd_same hkx (hxs.mono e1))))
end
end Dt

set_option Elab.async false
set_option linter.all false
set_option maxRecDepth 100000
set_option maxHeartbeats 1000000
/-! Rules of the machine that HandS has not. -/
namespace Dt
open PySem PySem.Spec PyProof.Rows L2

/-! ### enumerate(tuple) -/
set_option maxHeartbeats 4000000 in
theorem meets_enum1 {v : Value} {o : Obj} {H : Heap → Prop} (B : Begins v o H) :
    Meets (Builtin.«enumerate.__new__» ⟨[.type "enumerate", v], []⟩) (fun _ R s => H s.heap ∧
      R (.ok (.ret (.ref (s.heap.push o).objs.size))) { s with heap := (s.heap.push o).push { cls := .type "enumerate", data := .fields #[.none, .bool false, .ref s.heap.objs.size, rawInt 0, .none, .none] } }) :=
  .of_wp fun prog w A R s h => by
    obtain ⟨hp, g, d, tk, os⟩ := s; obtain ⟨h1, h⟩ := h
    have hsub := sub_enumerate
    have q1 : ∀ {A' : Around} {E : Value → Shared → Prop} {Q : Value → Shared → Prop}, Q (.ref hp.objs.size) ⟨hp.push o, g, d, tk, os⟩ → wpAny (model prog w) A' (pyIter v) Q E ⟨hp, g, d, tk, os⟩ :=
      fun q => B.iter prog w _ _ ⟨hp, g, d, tk, os⟩ _ h1 q
    wp_walk using q1
    refine wpAny_stack_any fun st => wpAny_pure ?_
    split
    · rename_i c _ _ _ _ _
      cases (c == Value.type "enumerate")
      · wp_walk using q1
        exact ⟨_, rfl, h⟩
      · wp_walk using q1
        exact ⟨_, rfl, h⟩
    · wp_walk using q1
      exact ⟨_, rfl, h⟩
section
variable {prog : Program} {w : World} {A : Around} {E : Value → Shared → Prop} {s : Shared}
theorem enum1_begins {v : Value} {o : Obj} {H : Heap → Prop} {Q : Value → Shared → Prop} (B : Begins v o H) (h1 : H s.heap)
    (h : ∀ h', IsEnum h' (s.heap.objs.size + 1) s.heap.objs.size 0 .none → h'.get? s.heap.objs.size = some o → h'.objs.size = s.heap.objs.size + 2 →
      (∀ b o, s.heap.get? b = some o → h'.get? b = some o) → Q (.ref (s.heap.objs.size + 1)) { s with heap := h' }) :
    wpAny (model prog w) A (call (.type "enumerate") [v]) Q E s := by
  refine callType_new F.called_enumerate (by decide) (F.typeCall_enumerate_1 _) (F.newCall_enumerate_1 _) (fun obj => F.args_object_init_2 obj _) F.entry_enumerate_new
    (meets_enum1 B) ⟨h1, ?_⟩
  have hz : (s.heap.push o).objs.size = s.heap.objs.size + 1 := Heap.size_push ..
  show _ ∧ _
  rw [hz]
  have he : IsEnum ((s.heap.push o).push { cls := .type "enumerate", data := .fields #[.none, .bool false, .ref s.heap.objs.size, rawInt 0, .none, .none] }) (s.heap.objs.size + 1) s.heap.objs.size 0 .none := by
    have := Heap.get?_push_size (s.heap.push o) (o := { cls := .type "enumerate", data := .fields #[.none, .bool false, .ref s.heap.objs.size, rawInt 0, .none, .none] }) rfl
    rw [hz] at this; exact this
  exact ⟨⟨_, he, rfl⟩, h _ he (Heap.get?_push_of_some _ (Heap.get?_push_size _ B.free)) (by rw [Heap.size_push, hz]) fun b o x => Heap.get?_push_of_some _ (Heap.get?_push_of_some _ x)⟩
end
/-- the tuple at a, each item in a new pair -/
def Itet (K : PySem.W.Frag) (a : Addr) : It :=
  ⟨fun i H => ∃ (xs : List V) (x : V), SqT K H a xs ∧ xs[i]? = some x, fun i H v H' => ∃ T x, v = .ref T ∧ H T = none ∧ H' = upd H T (.tup [.int (i : Nat), x]) ∧ ∀ xs, SqT K H a xs → xs[i]? = some x, fun i H => ∃ xs : List V, SqT K H a xs ∧ xs.length ≤ i⟩
theorem enum_apart {h : Heap} {a e it : Addr} {arr : Array Value} {i : Nat} {c : Int} {old : Value} (he : IsEnum h e it c old) (hit : h.IsTupleIter it a i) (ht : h.IsTuple a arr) : a ≠ it ∧ e ∉ [it, a] ∨ e = it := by
  obtain ⟨o, ho, hc, hd⟩ := hit
  obtain ⟨o2, h2, c2, _⟩ := ht
  by_cases hei : e = it
  · exact .inr hei
  refine .inl ⟨fun z => ?_, fun z => ?_⟩
  · rw [z] at h2
    rw [h2] at ho; cases ho
    rw [c2] at hc
    exact absurd hc (by decide)
  · rcases List.mem_cons.mp z with z | z
    · exact hei z
    · have z : e = a := by simpa using z
      rw [z] at he
      have he' : h.get? a = some _ := he
      rw [h2] at he'; cases he'
      exact absurd (show Value.type "enumerate" = Value.type "tuple" from c2) (by decide)
theorem turn_enumT {P : Program} {w : World} {K : PySem.W.Frag} {elts : List Expr} {kk : Nat} {tpos : Pos} (a e it : Addr) :
    Turn P w K (.Tuple elts kk tpos) (Itet K a) [e, it] e (fun i h => (∃ old, IsEnum h e it ((i : Nat) : Int) old) ∧ h.IsTupleIter it a i ∧ e ≠ it) where
  mem := by simp
  obj := fun i h st b hb => by
    obtain ⟨⟨old, he⟩, ⟨o, ho, hc, hd⟩, _⟩ := st
    have e' : b = e ∨ b = it := by simpa using hb
    rcases e' with z | z
    · rw [z]; exact ⟨_, he, fun v q => nomatch q⟩
    · rw [z]; exact ⟨o, ho, fun v q => by rw [hd] at q; cases q⟩
  keep := fun i h h' st k => let ⟨⟨old, he⟩, hi, hne⟩ := st; ⟨⟨old, k e (by simp) _ he⟩, hi.at fun o q => k it (by simp) o q, hne⟩
  item := by
    intro X hP hw hK hc i pins s σ H E I hf st hg
    subst hP hw hK
    obtain ⟨⟨old, he⟩, hit, hne⟩ := st
    obtain ⟨xs, x, hq, hx⟩ := hg
    obtain ⟨its, rv, p, hz⟩ := I.tuple hq
    obtain ⟨u, hu, ru⟩ := rv.get hx
    have p' : s.heap.IsTuple a its.toArray := p
    have hel : e < s.heap.objs.size := Heap.lt_size he
    have hil : it < s.heap.objs.size := by obtain ⟨_, q, _⟩ := hit; exact Heap.lt_size q
    obtain ⟨hat, hef⟩ := (enum_apart he hit p').resolve_right hne
    have hi : i < its.toArray.size := by
      have := List.getElem?_eq_some_iff.mp hu
      simpa using this.1
    refine wpAny_pyNext_enum_itemD (Draws.tuple (A := X.A.in1) (show X.A.in1.handled = none from I.ok.hd hc) it a hat its.toArray) he ⟨hit, p'⟩ hi hne hef fun y h' tk hP ho hst hT hsz hk => ?_
    have ey : y = u := by
      have h1 : its.toArray[i]? = some y := hP
      have h2 : its.toArray[i]? = some u := by simpa using hu
      rw [h1] at h2
      exact Option.some.inj h2
    subst ey
    refine ⟨_, rfl, wpAny_letOwnedTupleGo_enum (s := { s with heap := h', toks := tk + 1 }) ho fun h'' he' sb => ?_⟩
    have hT2 : h''.get? s.heap.objs.size = some { cls := .type "tuple", data := .seq #[.int i tk, y] } := (sb.2 _ (Nat.ne_of_gt hel)).trans hT
    have new : ObjOk X.prog X.w (upd H s.heap.objs.size (.tup [.int (i : Nat), x])) h'' s.heap.objs.size (.tup [.int (i : Nat), x]) :=
      ⟨by show 2 ≤ sizeLine; decide, [.int i tk, y], .cons ⟨_, rfl⟩ (.cons ru .nil), ⟨_, hT2, rfl, _, rfl⟩⟩
    have I1 : Inv X pins σ (upd H s.heap.objs.size (.tup [.int (i : Nat), x])) { s with heap := h'', toks := tk + 1 } :=
      I.turnedNew (ch := [e, it]) (fun b ob hb q => (sb.2 b (fun z => hb (by simp [z]))).trans (hk b ob (fun z => hb (by simp [z])) (fun z => hb (by simp [z])) q)) hf (Nat.le_refl _) new
    refine ⟨.ref s.heap.objs.size, _, I1, rfl, ⟨_, x, rfl, I.hok.fresh (Nat.le_refl _), rfl, fun ys hy => by rw [I.tuple_inj hy hq]; exact hx⟩, ⟨⟨y, ?_⟩, hst.1.at fun o q => (sb.2 it (Ne.symm hne)).trans q, hne⟩, fun b hb => ?_⟩
    · have e1 : ((i + 1 : Nat) : Int) = (i : Int) + 1 := by omega
      rw [e1]; exact he'
    · have hb' : b < s.heap.objs.size := by
        have e' : b = e ∨ b = it := by simpa using hb
        rcases e' with z | z
        · rw [z]; exact hel
        · rw [z]; exact hil
      rw [upd_ne (Nat.ne_of_lt hb')]
      exact (hf b hb).1
  done := by
    intro X hP hw hK hc i pins s σ H E I hf st hg
    subst hP hw hK
    obtain ⟨⟨old, he⟩, hit, hne⟩ := st
    obtain ⟨xs, hq, hx⟩ := hg
    obtain ⟨its, rv, p, hz⟩ := I.tuple hq
    obtain ⟨f0, f1, f2, f3, f4, f5⟩ := hf it (by simp)
    have hl := rv.length
    have p' : s.heap.IsTuple a its.toArray := p
    have hT : s.TypeIs (.ref e) "enumerate" := ⟨_, he, rfl⟩
    unfold pyNext
    refine wpAny_bind (wpAny_attempt (wpAny_callSpecial?_slot (name := Str.ofString "__next__") hT F.slot_enumerate_next
      (wpAny_call_entry F.slot_enumerate_next hT F.entry_enumerate_next ?_ (F.args_enumerate_next_1 _))))
    show wpAny _ _ (field (.ref e) 2 >>= _) _ _ _
    refine wpAny_bind (wpAny_field he rfl (x := .ref it) rfl ?_)
    refine wpAny_bind (wpAny_nextOf_tuple_end (show X.A.in1.handled = none from I.ok.hd hc) hit p' (by simp; omega) fun h' x eb hx' => ?_)
    obtain ⟨o, ho, hcl⟩ := hx'
    refine wpAny_bind (wpAny_isInstance (T := "StopIteration") (b := true) ⟨o, ho, hcl⟩ isSubtype_stop ?_)
    exact wpAny_pure ⟨rfl, I.turned (t' := s.toks) (fun b o hb q => eb b o hb q) f0 f1 f3 f4 f5⟩
  self := fun A i s Q E st h => let ⟨⟨_, he⟩, _⟩ := st; wpAny_pyIter_enum he h
/-- enumerate(x), x a list or a tuple -/
def iEnumA (K : PySem.W.Frag) (ta : TA) : TI := fun σ H R => ta σ H fun vs H1 => ∃ a xs, vs = [.ref a] ∧ ((SqL K H1 a xs ∧ R (Ite K a) H1) ∨ (SqT K H1 a xs ∧ R (Itet K a) H1))
theorem pi_enumA {X : Cx} {e : Expr} {ta : TA} {p pos tpos : Pos} {elts : List Expr} {kk : Nat} (hg : Gl X "enumerate") (hm : X.mg "enumerate" = none) (ha : PA X [e] ta) (hs : starEach [e] X.env = [(false, eval e X.env)] := by rfl) :
    PI X (.Tuple elts kk tpos) (.Call (.Name "enumerate" p) [e] [] pos) (iEnumA X.K ta) := by
  refine ⟨fun pins s σ H R I h => ?_⟩
  refine Call_ (ld_blt I hg hm boot_enumerate (PyProof.Rows.callWith_type1 (thn (ha.run pos pins s σ H _ I h) fun us s1 ⟨vs, H1, I1, r1, q1⟩ => ?_) hs rfl))
  obtain ⟨a, xs, ex, q1⟩ := q1
  subst ex
  have fin : ∀ b, b ∈ [s1.heap.objs.size + 1, s1.heap.objs.size] → FpOk X pins H1 b := fun b hb => by
    have e' : b = s1.heap.objs.size + 1 ∨ b = s1.heap.objs.size := by simpa using hb
    have hle : s1.heap.objs.size ≤ b := by
      rcases e' with z | z
      · rw [z]; exact Nat.le_add_right _ _
      · rw [z]; exact Nat.le_refl _
    exact I1.fpOk hle (I1.hok.fresh hle)
  cases r1 with
  | cons r rr =>
    cases rr
    cases r
    rcases q1 with ⟨hq, q⟩ | ⟨hq, q⟩
    · obtain ⟨its, rv, p', hz⟩ := I1.list hq
      refine call_enumerate_list p'.isList fun h' he hit hsz hk => wpAny_pyIter_enum he ?_
      have I2 : Inv X pins σ H1 { s1 with heap := h' } := I1.kept (t' := s1.toks) hk
      exact ⟨s1.heap.objs.size + 1, [s1.heap.objs.size + 1, s1.heap.objs.size], _, _, H1, rfl, I2, turn_enum a (s1.heap.objs.size + 1) s1.heap.objs.size, ⟨⟨.none, he⟩, hit, Nat.succ_ne_self _⟩, fin, q⟩
    · obtain ⟨its, rv, p', hz⟩ := I1.tuple hq
      refine enum1_begins (begins_tuple a its.toArray) (show s1.heap.IsTuple a its.toArray from p') fun h' he hit hsz hk => wpAny_pyIter_enum he ?_
      have I2 : Inv X pins σ H1 { s1 with heap := h' } := I1.kept (t' := s1.toks) hk
      exact ⟨s1.heap.objs.size + 1, [s1.heap.objs.size + 1, s1.heap.objs.size], _, _, H1, rfl, I2, turn_enumT a (s1.heap.objs.size + 1) s1.heap.objs.size, ⟨⟨.none, he⟩, ⟨_, hit, rfl, rfl⟩, Nat.succ_ne_self _⟩, fin, q⟩
theorem walk_enumT {K : PySem.W.Frag} {a : Addr} {xs : List V} : Walk (Itet K a) xs.length (fun H => SqT K H a xs) (YPair (fun i => some (.int (i : Nat))) (fun i => xs[i]?)) := by
  refine ⟨fun i _ hi q => ⟨xs, xs[i], q, by simp [hi]⟩, fun _ q => ⟨xs, q, Nat.le_refl _⟩, fun i H v H' _ q y => ?_⟩
  obtain ⟨T, x, h1, h2, h3, h4⟩ := y
  exact ⟨T, .int (i : Nat), x, h1, h2, h3, rfl, h4 xs q⟩
/-- the pairs that enumerate gives -/
def enumD (l : List D) : List D := (List.range l.length).zipWith (fun i d => .tup [iD (i : Nat), d]) l
theorem enumD_length (l : List D) : (enumD l).length = l.length := by simp [enumD]
theorem enumD_get {l : List D} {i : Nat} {e : D} (h : (enumD l)[i]? = some e) : ∃ d, l[i]? = some d ∧ e = .tup [iD (i : Nat), d] := by
  unfold enumD at h
  rw [List.getElem?_zipWith] at h
  by_cases hi : i < l.length
  · rw [List.getElem?_range hi, List.getElem?_eq_getElem hi] at h
    exact ⟨l[i], List.getElem?_eq_getElem hi, (Option.some.inj h).symm⟩
  · rw [List.getElem?_eq_none (l := l) (by omega)] at h
    cases q : (List.range l.length)[i]? <;> rw [q] at h <;> cases h
section
variable {c : Cn} {F : Fr} {I I' : Hp} {ps ps' : List Addr} {σ τ σ' : L2.St} {H H' : Hp} {G T G' : SG} {S S' : SC} {te ta tb tk tv : TE} {tt tu : TT} {Q : SC → Sl → Prop} {P : Po} {ts : TS}
theorem wk_enumL {a : Addr} {xs : List V} {ds : List D} (h : SqL c.K I a xs) (hv : HoldsL c.K I xs ds) : Wk c I (Ite c.K a) (enumD ds) := by
  refine ⟨_, _, (by rw [enumD_length, ← hv.length]; exact walk_enum (K := c.K) (a := a) (xs := xs)), fun I1 H1 e1 e2 => (e1.trans e2).sqL h, fun F I1 ps σ H1 G S i x H2 e ei d hi y => ?_⟩
  obtain ⟨dd, hd, rfl⟩ := enumD_get hi
  obtain ⟨T, x', z, rfl, hT, rfl, hx, hz⟩ := y
  cases hx
  have hz : xs[i]? = some z := hz
  obtain ⟨z', h1, h2⟩ := hv.getD hd
  rw [hz] at h1; cases h1
  refine ⟨_, Ex.new (d.ex.none hT), (d.newIm hT).push1 (.im (.tup (.inl upd_same) ?_))⟩
  exact .cons (.v _) (.cons (h2.mono (ei.trans (Ex.new (d.ex.none hT)))) .nil)
theorem wk_enumT {a : Addr} {xs : List V} {ds : List D} (h : SqT c.K I a xs) (hv : HoldsL c.K I xs ds) : Wk c I (Itet c.K a) (enumD ds) := by
  refine ⟨_, _, (by rw [enumD_length, ← hv.length]; exact walk_enumT (K := c.K) (a := a) (xs := xs)), fun I1 H1 e1 e2 => (e1.trans e2).sqT h, fun F I1 ps σ H1 G S i x H2 e ei d hi y => ?_⟩
  obtain ⟨dd, hd, rfl⟩ := enumD_get hi
  obtain ⟨T, x', z, rfl, hT, rfl, hx, hz⟩ := y
  cases hx
  have hz : xs[i]? = some z := hz
  obtain ⟨z', h1, h2⟩ := hv.getD hd
  rw [hz] at h1; cases h1
  refine ⟨_, Ex.new (d.ex.none hT), (d.newIm hT).push1 (.im (.tup (.inl upd_same) ?_))⟩
  exact .cons (.v _) (.cons (h2.mono (ei.trans (Ex.new (d.ex.none hT)))) .nil)
/-- a list, a read-only list, a tuple, all data -/
inductive SqD : D → List D → Prop
  | lst (l) : SqD (.lst l) l
  | rl (l) : SqD (.rl l) l
  | tup (l) : SqD (.tup l) l
  | tupF (l) : SqD (.tupF l) l
theorem SqD.seq {d : D} {l : List D} (h : SqD d l) : SeqOf S (.im d) l := by
  cases h with
  | lst => exact .lst (.im l)
  | rl => exact .rl l
  | tup => exact .tup l
  | tupF => exact .tupF l
theorem rw_enum {tr : TA} {Q' : SC → List D → Prop} (h : RA c tr G S fun S1 ss => ∃ e l, ss = [.im e] ∧ SqD e l ∧ Q' S1 (enumD l)) : RW c (iEnumA c.K tr) G S Q' := by
  intro F I ps σ τ T H R hl d k
  refine h F I ps σ τ T H _ hl d fun I1 ps1 S1 ss vs H1 h1 d1 => ?_
  obtain ⟨e, l, rfl, hs, q⟩ := h1
  obtain ⟨d2, hv⟩ := d1.dropL d.ok.length
  obtain ⟨v, rfl, ok⟩ := slots1 hv
  cases hs with
  | lst =>
    cases ok.holds with
    | lst h1 h2 => exact ⟨_, _, rfl, .inl ⟨SqL.of (d2.ex _ _ h1), k I1 ps1 S1 _ _ H1 q d2 (wk_enumL (SqL.of h1) h2)⟩⟩
  | rl =>
    cases ok.holds with
    | rl h1 h2 => exact ⟨_, _, rfl, .inl ⟨d2.ex.sqL h1, k I1 ps1 S1 _ _ H1 q d2 (wk_enumL h1 h2)⟩⟩
  | tup =>
    obtain ⟨p, xs, rfl, h1, h2⟩ := tup_at (Ex.refl _) ok.holds
    exact ⟨_, _, rfl, .inr ⟨d2.ex.sqT h1, k I1 ps1 S1 _ _ H1 q d2 (wk_enumT h1 h2)⟩⟩
  | tupF =>
    obtain ⟨p, ob, xs, rfl, h1, _, h2⟩ := tupF_at (Ex.refl _) ok.holds
    exact ⟨_, _, rfl, .inr ⟨d2.ex.sqT (.inl (.inr ⟨ob, h1⟩)), k I1 ps1 S1 _ _ H1 q d2 (wk_enumT (.inl (.inr ⟨ob, h1⟩)) h2)⟩⟩
end
end Dt

set_option Elab.async false
set_option linter.all false
set_option maxRecDepth 100000
set_option maxHeartbeats 1000000
namespace Dt
open PySem PySem.Spec PyProof.Rows L2

/-! ### machine rules -/
section
variable {X : Cx}
theorem cr_range1 : CallR X (.type "range") (fun vs H Q => ∃ n, vs = [V.int n] ∧ ∀ p, H p = none → Q (.ref p) (upd H p (.rng 0 n))) := by
  intro pins s σ H vs us Q I r h
  obtain ⟨n, rfl, q⟩ := h
  obtain ⟨u, rfl, ri⟩ := vals1 r
  obtain ⟨t, rfl⟩ := ri
  refine call_range_1 ⟨.ref s.heap.objs.size, upd H s.heap.objs.size (.rng 0 n), I.laid (fun b o e => Heap.get?_push_of_some _ e) (Nat.le_refl _) ?_, rfl, q _ (I.hok.fresh (Nat.le_refl _))⟩
  exact ⟨_, _, _, Heap.get?_push_size _ rfl⟩
/-- a range in a name, walked -/
def iRngV (tl : TE) : TI := fun σ H R => tl σ H fun x H1 => ∃ a lo hi, x = .ref a ∧ H1 a = some (.rng lo hi) ∧ (-(2 ^ 62) ≤ lo ∧ lo < 2 ^ 62 ∧ -(2 ^ 62) ≤ hi ∧ hi < 2 ^ 62) ∧ R (Itr lo (hi - lo).toNat) H1
theorem pi_rngV {tg l : Expr} {tl : TE} (hl : PE X l tl) : PI X tg l (iRngV tl) := by
  refine ⟨fun pins s σ H R I h => ?_⟩
  refine thn (hl.run pins s σ H _ I h) fun v s1 ⟨x, H1, I1, r1, q1⟩ => ?_
  obtain ⟨a, lo, hi, e, hr, ⟨h1, h2, h3, h4⟩, q⟩ := q1
  subst e
  cases r1
  obtain ⟨t, u, v, ho⟩ := (show ObjOk X.prog X.w H1 s1.heap a (.rng lo hi) from I1.hok a _ hr)
  refine wpAny_pyIter_range (show IsRange s1.heap a lo hi 1 t u v from ho) (small_one h1 h2 h3 h4) ?_
  refine ⟨s1.heap.objs.size, [s1.heap.objs.size], _, _, H1, rfl, I1.kept (t' := s1.toks) fun b o e => Heap.get?_push_of_some _ e, turn_range _ lo (hi - lo).toNat, ?_, fun b hb => ?_, q⟩
  · have e1 : lo + ((0 : Nat) : Int) * 1 = lo := by simp
    have e2 : (((hi - lo).toNat : Nat) : Int) - ((0 : Nat) : Int) = Builtin.Range.rangeSize lo hi 1 := by rw [rangeSize_one]; split <;> omega
    show IsRangeIter _ _ (lo + ((0 : Nat) : Int) * 1) ((((hi - lo).toNat : Nat) : Int) - ((0 : Nat) : Int)) 1
    rw [e1, e2]
    exact Heap.get?_push_size _ rfl
  · have e : b = s1.heap.objs.size := by simpa using hb
    subst e
    exact I1.fpOk (Nat.le_refl _) (I1.hok.fresh (Nat.le_refl _))
theorem pget_list : PGet X (rIxL X.K) := by
  intro pins s σ H x y v u Q I rx ry h
  obtain ⟨p, xs, i, z, rfl, rfl, hq, he, q⟩ := h
  cases rx
  obtain ⟨t, rfl⟩ := ry
  obtain ⟨its, r, pl, hz⟩ := I.list hq
  obtain ⟨j, h1, h2, h3, h4, h5⟩ := atI_get he
  obtain ⟨w, ew, rw'⟩ := r.get h2
  have hl := r.length
  have hn := line63
  have fin : EP X pins σ Q w s := ⟨z, H, I, rw', q⟩
  by_cases h0 : 0 ≤ i
  · have hj : i.toNat = j := by
      rw [seqIndex_of h0 h5] at h1
      exact Option.some.inj h1
    exact wpAny_getItem_list pl.isList h0 (by omega) (by rw [hj]; simpa using ew) fin
  · have hj : (i + (its.toArray.size : Int)).toNat = j := by
      rw [seqIndex_neg (by omega) h4] at h1
      rw [List.size_toArray, ← hl]
      exact Option.some.inj h1
    exact wpAny_getItem_list_neg pl.isList (by omega) (by rw [List.size_toArray] <;> omega) (by omega) (by rw [hj]; simpa using ew) fin
def rTIndex (K : PySem.W.Frag) : V → List V → Hp → VK → Prop := fun x xs H Q => ∃ p, ∃ ns : List Int, ∃ n, x = .ref p ∧ xs = [.int n] ∧ SqT K H p (ns.map V.int) ∧ n ∈ ns ∧ Q (.int (ns.idxOf n : Nat)) H
theorem mt_tindexI : MtR X "tuple.index" (rTIndex X.K) := by
  intro pins s σ H x xs v us Q I rx rs h
  obtain ⟨p, ns, n, rfl, rfl, hq, hn, q⟩ := h
  cases rx
  obtain ⟨u, rfl, t, rfl⟩ := vals1 rs
  obtain ⟨its, r, pl, hz⟩ := I.tuple hq
  exact SeqAt.tuple_index_ints (show s.heap.IsTuple p its.toArray from pl) (intsAre_of r) hn ⟨.int _, H, I.tok _, ⟨_, rfl⟩, q⟩
end

section
variable {c : Cn} {F : Fr} {I I' : Hp} {ps ps' : List Addr} {σ τ σ' : L2.St} {H H' : Hp} {G T G' : SG} {S S' : SC} {te ta tb tk tv : TE} {tt tu : TT} {Q : SC → Sl → Prop} {P : Po} {ts : TS}
/-! ### ranges -/
theorem cb_range1 {n : Int} (q : Q S (.im (.rng 0 n))) : CbD c (fun vs H Q => ∃ n, vs = [V.int n] ∧ ∀ p, H p = none → Q (.ref p) (upd H p (.rng 0 n))) [.im (iD n)] S Q := by
  intro F I ps σ G H vs Qv d hs k
  obtain ⟨v, rfl, ok⟩ := slots1 hs
  have e := ok.holds.v_inv
  subst e
  exact ⟨n, rfl, fun p hp => k _ ps S _ _ _ q ((d.newIm hp).push1 (.im (.rng upd_same)))⟩
theorem rw_rngV {Q' : SC → List D → Prop} (h : RE c ta G S fun S1 s => ∃ lo hi, s = .im (.rng lo hi) ∧ (-(2 ^ 62) ≤ lo ∧ lo < 2 ^ 62 ∧ -(2 ^ 62) ≤ hi ∧ hi < 2 ^ 62) ∧ Q' S1 (rangeD lo (hi - lo).toNat)) : RW c (iRngV ta) G S Q' := by
  intro F I ps σ τ T H R hl d k
  refine h F I ps σ τ T H _ hl d fun I1 ps1 S1 s x H1 h1 d1 => ?_
  obtain ⟨lo, hi, rfl, hb, q⟩ := h1
  obtain ⟨d2, ox⟩ := d1.drop1
  have hh := ox.holds
  cases hh with
  | rng h => exact ⟨_, lo, hi, rfl, d2.ex _ _ h, hb, k I1 ps1 S1 _ _ H1 q d2 wk_range⟩
theorem rgV_holds {I : Hp} {a b : Int} : HoldsL c.K I (rgV a b) (rangeD a (b - a).toNat) := by
  unfold rgV rangeD
  generalize List.range (b - a).toNat = l
  induction l with
  | nil => exact .nil
  | cons i l ih => exact .cons (.v _) ih
/-- tuple(range(n)) -/
theorem re_tupRg1 (h : RE c ta G S fun S1 s => ∃ n : Int, s = .im (iD n) ∧ 0 ≤ n ∧ n ≤ 1000000 ∧ Q S1 (.im (.tup (rangeD 0 n.toNat)))) : RE c (tTupRg (tRg1 ta)) G S Q := by
  intro F I ps σ τ T H Qv hl d k
  refine h F I ps σ τ T H _ hl d fun I1 ps1 S1 s x H1 h1 d1 => ?_
  obtain ⟨n, rfl, h0, hz, q⟩ := h1
  obtain ⟨d2, ox⟩ := d1.drop1
  have e := ox.holds.v_inv
  subst e
  refine ⟨n, rfl, RgOk.of_le (by omega) (by omega) (by omega) (by omega), fun p hp => ?_⟩
  refine k _ ps1 S1 _ _ _ q ((d2.newIm hp).push1 (.im (.tup (.inl upd_same) ?_)))
  have := rgV_holds (c := c) (I := upd I1 p (.tup (rgV 0 n))) (a := 0) (b := n)
  rwa [Int.sub_zero] at this
/-- reversed(list) -/
theorem wk_rev {a : Addr} {xs : List V} {ds : List D} (h : SqL c.K I a xs) (hv : HoldsL c.K I xs ds) : Wk c I (Itv c.K a xs.length) ds.reverse := by
  have hl := hv.length
  refine ⟨_, _, (by rw [List.length_reverse, ← hl]; exact walk_rev (K := c.K) (a := a) (xs := xs)), fun I1 H1 e1 e2 => (e1.trans e2).sqL h, fun F I1 ps σ H1 G S i x H2 e ei d hi y => ?_⟩
  obtain ⟨rfl, hx⟩ := y
  have hil : i < ds.length := by
    have := (List.getElem?_eq_some_iff.mp hi).1
    simpa using this
  rw [List.getElem?_reverse hil, ← hl] at hi
  obtain ⟨x', h1, h2⟩ := hv.getD hi
  rw [show xs.length - 1 - i = xs.length - 1 - i from rfl, hx] at h1; cases h1
  exact ⟨I1, Ex.refl _, d.push1 (.im (h2.mono ei))⟩
theorem rw_rev {Q' : SC → List D → Prop} (h : RE c ta G S fun S1 s => ∃ l, s = .im (.lst l) ∧ Q' S1 l.reverse) : RW c (RT.iRevA c.K ta) G S Q' := by
  intro F I ps σ τ T H R hl d k
  refine h F I ps σ τ T H _ hl d fun I1 ps1 S1 s x H1 h1 d1 => ?_
  obtain ⟨l, rfl, q⟩ := h1
  obtain ⟨d2, ox⟩ := d1.drop1
  have hh := ox.holds
  cases hh with
  | lst h1 h2 => exact ⟨_, _, rfl, .inl ⟨SqL.of (d2.ex _ _ h1), k I1 ps1 S1 _ _ H1 q d2 (wk_rev (SqL.of h1) h2)⟩⟩

/-! ### isinstance -/
def tyD : D → Option String
  | .v .non => some "NoneType"
  | .v (.bl _) => some "bool"
  | .v (.int _) => some "int"
  | .v (.str _) => some "str"
  | .tup _ => some "tuple"
  | .tupF _ => some "tuple"
  | .lst _ => some "list"
  | .rl _ => some "list"
  | _ => none
theorem sqL_ty {K : PySem.W.Frag} {H : Hp} {a : Addr} {xs : List V} (h : SqL K H a xs) : TyX K H (.ref a) (.type "list") := by
  rcases h with (h | ⟨o, h⟩) | ⟨o, its, n, h1, h2, _⟩
  · exact .base (.lst h)
  · exact .base (.frz h)
  · exact .kList h1 h2
theorem sqT_ty {K : PySem.W.Frag} {H : Hp} {a : Addr} {xs : List V} (h : SqT K H a xs) : TyX K H (.ref a) (.type "tuple") := by
  rcases h with (h | ⟨o, h⟩) | ⟨o, its, n, h1, h2, _⟩
  · exact .base (.tup h)
  · exact .fTuple h
  · exact .kTuple h1 h2
theorem tyD_at {d : D} {x : V} {t : String} (ex : Ex I H) (h : Holds c.K I x d) (ht : tyD d = some t) : TyX c.K H x (.type t) := by
  cases h with
  | v x =>
    cases x <;> first | (cases ht; done) | (cases ht; exact .base .non) | (cases ht; exact .base (.bl _)) | (cases ht; exact .base (.int _)) | (cases ht; exact .base (.str _))
  | tup h1 h2 =>
    cases ht
    exact sqT_ty (h1.elim (fun h => .inl (.inl (ex _ _ h))) fun h => ex.sqT h.2)
  | tupF h1 h2 h3 => cases ht; exact .fTuple (ex _ _ h1)
  | lst h1 h2 => cases ht; exact .base (.lst (ex _ _ h1))
  | rl h1 h2 => cases ht; exact sqL_ty (ex.sqL h1)
  | dk h1 h2 h3 => cases ht
  | rng h1 => cases ht
  | ins h1 h2 h3 => cases ht
/-- isinstance(x, T) -/
theorem cb_isi {e : D} {t n : String} {b : Bool} (ht : tyD e = some t) (hk : kitB t n = some b) (q : Q S (.im (bD b))) : CbD c (rIsi c.K) [.im e, .im (.v (.ty n))] S Q := by
  intro F I ps σ G H vs Qv d hs k
  obtain ⟨v, w, rfl, ok1, ok2⟩ := slots2 hs
  have e2 := ok2.holds.v_inv
  subst e2
  exact ⟨v, _, _, _, b, rfl, .ty n, tyD_at d.ex ok1.holds ht, kit_ty hk, k I ps S _ _ H q (d.push1 (.im (.v _)))⟩
/-- isinstance(x, (T, U)) -/
theorem cb_isiT {e : D} {t n m : String} {b b1 b2 : Bool} (ht : tyD e = some t) (hk : kitB t n = some b1) (hm : kitB t m = some b2) (hb : b = (b1 || b2)) (q : Q S (.im (bD b))) : CbD c (rIsiT c.K) [.im e, .im (.tup [.v (.ty n), .v (.ty m)])] S Q := by
  intro F I ps σ G H vs Qv d hs k
  obtain ⟨v, w, rfl, ok1, ok2⟩ := slots2 hs
  have h := ok2.holds
  cases h with
  | tup h1 h2 =>
    rename_i a xs
    have e : xs = [.ty n, .ty m] := HoldsL.v_inv (ys := [.ty n, .ty m]) h2
    subst e
    rcases h1 with h1 | ⟨h1, _⟩
    · refine ⟨v, a, _, _, _, b, rfl, d.ex _ _ h1, .cons (.ty n) (.cons (.ty m) .nil), tyD_at d.ex ok1.holds ht, ?_, k I ps S _ _ H q (d.push1 (.im (.v _)))⟩
      subst hb
      refine kitAny_cons (kit_ty hk) (fun h => ?_) fun h => by subst h; rfl
      subst h
      refine kitAny_cons (kit_ty hm) (fun h => ?_) fun h => by subst h; rfl
      subst h
      exact kitAny_nil
    · cases h1

/-! ### equality of data -/
mutual
def pyD : D → Option PyData
  | .v .non => some .none
  | .v (.bl b) => some (.bool b)
  | .v (.int i) => some (.int i)
  | .v (.str x) => some (.str x)
  | .tup l => (pyDs l).map .tuple
  | .tupF l => (pyDs l).map .tuple
  | .lst l => (pyDs l).map .list
  | .rl l => (pyDs l).map .list
  | _ => none
def pyDs : List D → Option (List PyData)
  | [] => some []
  | d :: l => match pyD d, pyDs l with
    | some a, some b => some (a :: b)
    | _, _ => none
end
mutual
theorem dp_of (ex : Ex I H) : ∀ {x : V} {d : D} {a : PyData}, Holds c.K I x d → pyD d = some a → Dp c.K H x a
  | x, .v y, a, h, e => by
    have := h.v_inv
    subst this
    cases x <;> first | (simp only [pyD, Option.some.injEq, reduceCtorEq] at e; done) | (simp only [pyD, Option.some.injEq] at e; subst e; first | exact .non | exact .bl _ | exact .int _ | exact .str _)
  | x, .tup l, a, h, e => by
    cases h with
    | tup h1 h2 =>
      rw [pyD] at e
      cases q : pyDs l with
      | none => rw [q] at e; cases e
      | some as =>
        rw [q] at e; cases e
        exact .tup (h1.elim (fun h => .inl (.inl (ex _ _ h))) fun h => ex.sqT h.2) (dps_of ex h2 q)
  | x, .tupF l, a, h, e => by
    cases h with
    | tupF h1 h2 h3 =>
      rw [pyD] at e
      cases q : pyDs l with
      | none => rw [q] at e; cases e
      | some as =>
        rw [q] at e; cases e
        exact .tup (.inl (.inr ⟨_, ex _ _ h1⟩)) (dps_of ex h3 q)
  | x, .lst l, a, h, e => by
    cases h with
    | lst h1 h2 =>
      rw [pyD] at e
      cases q : pyDs l with
      | none => rw [q] at e; cases e
      | some as =>
        rw [q] at e; cases e
        exact .lst (SqL.of (ex _ _ h1)) (dps_of ex h2 q)
  | x, .rl l, a, h, e => by
    cases h with
    | rl h1 h2 =>
      rw [pyD] at e
      cases q : pyDs l with
      | none => rw [q] at e; cases e
      | some as =>
        rw [q] at e; cases e
        exact .lst (ex.sqL h1) (dps_of ex h2 q)
  | _, .dk _ _, _, _, e => by simp [pyD] at e
  | _, .rng _ _, _, _, e => by simp [pyD] at e
  | _, .ins _ _ _, _, _, e => by simp [pyD] at e
theorem dps_of (ex : Ex I H) : ∀ {xs : List V} {l : List D} {as : List PyData}, HoldsL c.K I xs l → pyDs l = some as → DpAll c.K H xs as
  | _, [], _, .nil, e => by cases e; exact .nil
  | _, d :: l, as, .cons h1 h2, e => by
    rw [pyDs] at e
    cases q1 : pyD d with
    | none => rw [q1] at e; cases e
    | some a =>
      cases q2 : pyDs l with
      | none => rw [q1, q2] at e; cases e
      | some b =>
        rw [q1, q2] at e
        cases e
        exact .cons (dp_of ex h1 q1) (dps_of ex h2 q2)
end
theorem od_eqD {d e : D} {a b : PyData} (hd : pyD d = some a) (he : pyD e = some b) (sa : SeqAt.shaped a = true) (sb : SeqAt.shaped b = true) (q : Q S (.im (bD (PyData.eqv a b)))) : OpD c (rEqD c.K) S (.im d) (.im e) Q := by
  intro F I ps σ G H x y Qv d ox oy k
  exact ⟨a, b, dp_of d.ex ox.holds hd, dp_of d.ex oy.holds he, sa, sb, k I ps S _ _ H q (d.push1 (.im (.v _)))⟩
theorem od_neD {d e : D} {a b : PyData} (hd : pyD d = some a) (he : pyD e = some b) (sa : SeqAt.shaped a = true) (sb : SeqAt.shaped b = true) (q : Q S (.im (bD (!PyData.eqv a b)))) : OpD c (rNeD c.K) S (.im d) (.im e) Q := by
  intro F I ps σ G H x y Qv d ox oy k
  exact ⟨a, b, dp_of d.ex ox.holds hd, dp_of d.ex oy.holds he, sa, sb, k I ps S _ _ H q (d.push1 (.im (.v _)))⟩

/-! ### chains of comparisons -/
theorem re_chain {r r' : R2} {tc : TE} (h : RE c ta G S fun S1 s => RE c tb G S1 fun S2 t => OpD c r S2 s t fun S3 u => ∃ b, u = .im (bD b) ∧ if b = true then RE c tc G S3 fun S4 w => OpD c r' S4 t w Q else Q S3 (.im (bD false))) : RE c (tChain r r' ta tb tc) G S Q := by
  intro F I ps σ τ T H Qv hl d k
  refine h F I ps σ τ T H _ hl d fun I1 ps1 S1 s x H1 h1 d1 => ?_
  refine h1 F I1 ps1 σ (τ ++ [some x]) (T ++ [s]) H1 _ hl d1.as1 fun I2 ps2 S2 t y H2 h2 d2 => ?_
  obtain ⟨d3, oy⟩ := d2.drop1
  obtain ⟨d4, ox⟩ := d3.us1.drop1
  have d5 : SdI c F I2 ps2 (σ ++ τ ++ [some y]) H2 (G ++ T ++ [t]) S2 := d4.push1 oy
  refine h2 F I2 ps2 _ _ H2 x y _ d5 ox oy fun I3 ps3 S3 u z H3 h3 d6 => ?_
  obtain ⟨b, rfl, h3⟩ := h3
  obtain ⟨d7, oz⟩ := d6.drop1
  refine ⟨b, oz.holds.v_inv, ?_⟩
  cases b with
  | true =>
    rw [if_pos rfl] at h3 ⊢
    refine h3 F I3 ps3 σ (τ ++ [some y]) (T ++ [t]) H3 _ hl d7.as1 fun I4 ps4 S4 w z2 H4 h4 d8 => ?_
    obtain ⟨d9, ow⟩ := d8.drop1
    obtain ⟨d10, oy2⟩ := d9.us1.drop1
    exact h4 F I4 ps4 _ _ H4 y z2 Qv d10 oy2 ow k
  | false =>
    rw [if_neg Bool.false_ne_true] at h3 ⊢
    exact k I3 ps3 S3 _ _ H3 h3 (d7.drop1.1.push1 (.im (.v _)))

/-! ### starred displays -/
theorem ra_star {tr : TA} {Q' : SC → SG → Prop} (h : RE c te G S fun S1 s => ∃ l, (s = .im (.tup l) ∨ s = .im (.tupF l) ∨ s = .im (.lst l)) ∧ RA c tr G S1 fun S2 ss => Q' S2 (l.map Sl.im ++ ss)) : RA c (StX.tStar c.K te tr) G S Q' := by
  intro F I ps σ τ T H Qv hl d k
  refine h F I ps σ τ T H _ hl d fun I1 ps1 S1 s x H1 h1 d1 => ?_
  obtain ⟨l, hs, h1⟩ := h1
  obtain ⟨d1', ox⟩ := d1.drop1
  have hx : ∃ p xs, x = .ref p ∧ (SqT c.K H1 p xs ∨ SqL c.K H1 p xs) ∧ HoldsL c.K I1 xs l := by
    rcases hs with rfl | rfl | rfl
    · obtain ⟨p, xs, e, h2, h3⟩ := tup_at d1'.ex ox.holds
      exact ⟨p, xs, e, .inl h2, h3⟩
    · obtain ⟨p, ob, xs, e, h2, _, h3⟩ := tupF_at d1'.ex ox.holds
      exact ⟨p, xs, e, .inl (.inl (.inr ⟨ob, h2⟩)), h3⟩
    · have hh := ox.holds
      cases hh with
      | lst h2 h3 => exact ⟨_, _, rfl, .inr (SqL.of (d1'.ex _ _ h2)), h3⟩
  obtain ⟨p, xs, rfl, h2, h3⟩ := hx
  refine ⟨p, xs, rfl, h2, ?_⟩
  have d2 : SdI c F I1 ps1 (σ ++ τ ++ xs.map some) H1 (G ++ T ++ l.map Sl.im) S1 := d1'.withSlots (d1'.ok.append (ims_slots h3))
  refine h1 F I1 ps1 σ (τ ++ xs.map some) (T ++ l.map Sl.im) H1 _ hl d2.as1 fun I2 ps2 S2 ss vs H2 h4 d3 => ?_
  refine k I2 ps2 S2 _ (xs ++ vs) H2 h4 ?_
  rw [List.map_append]
  simp only [List.append_assoc] at d3 ⊢
  exact d3

/-! ### slices -/
def RO (c : Cn) (tl : TO) (G : SG) (S : SC) (Q : SC → Option Int → Prop) : Prop := ∀ (F : Fr) (I : Hp) (ps : List Addr) (σ τ : L2.St) (T : SG) (H : Hp) (Qo : Option Int → Hp → Prop), σ.length = G.length → SdI c F I ps (σ ++ τ) H (G ++ T) S →
  (∀ I' ps' S' o H', Q S' o → SdI c F I' ps' (σ ++ τ) H' (G ++ T) S' → Qo o H') → tl σ H Qo
theorem ro_none {Q' : SC → Option Int → Prop} (q : Q' S none) : RO c tNoPart G S Q' := fun F I ps σ τ T H Qo hl d k => k I ps S none H q d
theorem ro_some {Q' : SC → Option Int → Prop} (h : RE c te G S fun S1 s => ∃ i, s = .im (iD i) ∧ Q' S1 (some i)) : RO c (tPart te) G S Q' := by
  intro F I ps σ τ T H Qo hl d k
  refine h F I ps σ τ T H _ hl d fun I1 ps1 S1 s x H1 h1 d1 => ?_
  obtain ⟨i, rfl, q⟩ := h1
  obtain ⟨d2, ox⟩ := d1.drop1
  exact ⟨i, ox.holds.v_inv, k I1 ps1 S1 _ H1 q d2⟩
def cutD (l : List D) (lo hi : Option Int) : List D := (l.drop (HT.sIx l.length 0 lo)).take (HT.sIx l.length l.length hi - HT.sIx l.length 0 lo)
theorem cut_holds {xs : List V} {l : List D} {lo hi : Option Int} (h : HoldsL c.K I xs l) : HoldsL c.K I (cutV xs lo hi) (cutD l lo hi) := by
  unfold cutV cutD
  rw [h.length]
  exact (h.drop _).take _
theorem re_slL {tl th : TO} (h : RE c te G S fun S1 s => RO c tl G S1 fun S2 lo => RO c th G S2 fun S3 hi => ∃ l, LstOf S3 s l ∧ Q S3 (.im (.lst (cutD l lo hi)))) : RE c (tSl (rSlL c.K) te tl th) G S Q := by
  intro F I ps σ τ T H Qv hl d k
  refine h F I ps σ τ T H _ hl d fun I1 ps1 S1 s x H1 h1 d1 => ?_
  refine h1 F I1 ps1 σ (τ ++ [some x]) (T ++ [s]) H1 _ hl d1.as1 fun I2 ps2 S2 lo H2 h2 d2 => ?_
  refine h2 F I2 ps2 σ (τ ++ [some x]) (T ++ [s]) H2 _ hl d2 fun I3 ps3 S3 hi H3 h3 d3 => ?_
  obtain ⟨l, hs, q⟩ := h3
  obtain ⟨d4, ox⟩ := d3.us1.drop1
  obtain ⟨p, xs, rfl, h4, h5⟩ := lst_at d4 ox hs
  refine ⟨p, xs, rfl, SqL.of h4, fun r hr => ?_⟩
  exact k _ ps3 S3 _ _ _ q ((d4.newIm hr).push1 (.im (.lst upd_same ((cut_holds h5).mono (Ex.new (d4.ex.none hr))))))
/-- a slice of a tuple: the whole of it is the tuple itself -/
theorem re_slT {tl th : TO} (h : RE c te G S fun S1 s => RO c tl G S1 fun S2 lo => RO c th G S2 fun S3 hi => ∃ l, (s = .im (.tup l) ∨ s = .im (.tupF l)) ∧ (cutD l lo hi = l → Q S3 s) ∧ Q S3 (.im (.tup (cutD l lo hi)))) : RE c (tSl (rSlA c.K) te tl th) G S Q := by
  intro F I ps σ τ T H Qv hl d k
  refine h F I ps σ τ T H _ hl d fun I1 ps1 S1 s x H1 h1 d1 => ?_
  refine h1 F I1 ps1 σ (τ ++ [some x]) (T ++ [s]) H1 _ hl d1.as1 fun I2 ps2 S2 lo H2 h2 d2 => ?_
  refine h2 F I2 ps2 σ (τ ++ [some x]) (T ++ [s]) H2 _ hl d2 fun I3 ps3 S3 hi H3 h3 d3 => ?_
  obtain ⟨l, hs, qw, q⟩ := h3
  obtain ⟨d4, ox⟩ := d3.us1.drop1
  have hx : ∃ p xs, x = .ref p ∧ SqT c.K H3 p xs ∧ HoldsL c.K I3 xs l := by
    rcases hs with rfl | rfl
    · exact tup_at d4.ex ox.holds
    · obtain ⟨p, ob, xs, h1, h2, _, h3⟩ := tupF_at d4.ex ox.holds
      exact ⟨p, xs, h1, .inl (.inr ⟨ob, h2⟩), h3⟩
  obtain ⟨p, xs, rfl, h4, h5⟩ := hx
  refine ⟨p, xs, rfl, h4, fun hw => ?_, fun _ r hr => ?_⟩
  · have e : cutD l lo hi = l := by
      unfold cutD
      rw [h5.length] at hw
      rw [hw.1, hw.2, List.drop_zero, Nat.sub_zero, List.take_length]
    exact k I3 ps3 S3 _ _ H3 (qw e) (d4.push1 ox)
  · exact k _ ps3 S3 _ _ _ q ((d4.newIm hr).push1 (.im (.tup (.inl upd_same) ((cut_holds h5).mono (Ex.new (d4.ex.none hr))))))

/-! ### tuple.index, min of a list -/
/-- t.index(n), t made by tuple(list) -/
def tTIx (K : PySem.W.Frag) (ta : TE) (t : TA) : TE := fun σ H Q => ta σ H fun x H1 => ∃ p ob xs, x = V.ref p ∧ ob.dict = none ∧ H1 p = some (.frz ob (.tup xs)) ∧ t σ H1 fun vs H2 => rTIndex K x vs H2 Q
theorem pe_tindex {X : Cx} {o e : Expr} {es : List Expr} {to : TE} {t : TA} {apos cpos : Pos} (ho : PE X o to) (ha : PA X (e :: es) t)
    (hbase : attributeBase o "index" X.env (eval o X.env) = eval o X.env := by rfl)
    (hfew : ((backTo cpos (starEach (e :: es) X.env)).all (fun x => !x.1) && (backToKw cpos (keywordEach [] X.env)).all (fun x => x.1.isSome)
      && decide ((e :: es).length + ([] : List Keyword).length + (if ([] : List Keyword).isEmpty then 0 else 1) < 30)) = true := by rfl)
    (hline : (apos.endLine == cpos.line) = true := by rfl) (hs : starEach (e :: es) X.env = (false, eval e X.env) :: starEach es X.env := by rfl) (hplain : (backTo cpos (starEach es X.env)).any (·.1) = false := by rfl) :
    PE X (.Call (.Attribute o "index" apos) (e :: es) [] cpos) (tTIx X.K to t) := by
  refine ⟨fun pins s σ H Q I h => ?_⟩
  refine wpAny_Call_method_late hbase hfew hline rfl (thn (ho.run pins s σ H _ I h) fun v s1 ⟨x, H1, I1, r1, q1⟩ => ?_)
  obtain ⟨p, ob, xs, rfl, hob, hp, q⟩ := q1
  cases r1
  obtain ⟨hg, _, its, rv, o', h1, h2, h3⟩ := (show ObjOk X.prog X.w H1 s1.heap p (.frz ob (.tup xs)) from I1.hok p _ hp)
  refine ⟨"tuple", "tuple.index", PySem.F.plainAttrs_tuple, PySem.F.slot_tuple_index, PySem.F.type_tuple_index, ⟨o', h1, h2⟩, fun a ha => ?_, ?_⟩
  · cases ha; exact ⟨ob, hg, hob⟩
  have hA := ha.run cpos pins s1 σ H1 _ I1 q
  rw [hs] at hA ⊢
  refine Calls.callWith_builtin (by show (false || (backTo cpos (starEach es X.env)).any (·.1)) = false; rw [hplain] <;> rfl) (Calls.evalArgs_plain ?_)
  exact thn hA fun us s2 ⟨vs, H2, I2, r2, q2⟩ => mt_tindexI pins s2 σ H2 (.ref p) vs (.ref p) us Q I2 rfl r2 q2
theorem re_tindex {tr : TA} (h : RE c ta G S fun S1 s => ∃ ns : List Int, s = .im (.tupF (ns.map iD)) ∧ RA c tr G S1 fun S2 ss => ∃ n, ss = [.im (iD n)] ∧ n ∈ ns ∧ Q S2 (.im (iD (ns.idxOf n : Nat)))) : RE c (tTIx c.K ta tr) G S Q := by
  intro F I ps σ τ T H Qv hl d k
  refine h F I ps σ τ T H _ hl d fun I1 ps1 S1 s x H1 h1 d1 => ?_
  obtain ⟨ns, rfl, h1⟩ := h1
  obtain ⟨d2, ox⟩ := d1.drop1
  obtain ⟨p, ob, xs, rfl, h2, h3, h4⟩ := tupF_at d2.ex ox.holds
  refine ⟨p, ob, xs, rfl, h3, h2, ?_⟩
  refine h1 F I1 ps1 σ (τ ++ [some (.ref p)]) (T ++ [.im (.tupF (ns.map iD))]) H1 _ hl d1.as1 fun I2 ps2 S2 ss vs H2 h5 d3 => ?_
  obtain ⟨n, rfl, hn, q⟩ := h5
  obtain ⟨d4, hs⟩ := d3.dropL d1.as1.ok.length
  obtain ⟨y, rfl, oy⟩ := slots1 hs
  have ey := oy.holds.v_inv
  subst ey
  obtain ⟨d5, ox2⟩ := d4.us1.drop1
  obtain ⟨p', ob', xs', e', h6, _, h7⟩ := tupF_at d5.ex ox2.holds
  cases e'
  have e : xs' = ns.map V.int := by
    refine HoldsL.v_inv (K := c.K) (I := I2) ?_
    rw [List.map_map]
    exact h7
  subst e
  exact ⟨p, ns, n, rfl, rfl, .inl (.inr ⟨ob', h6⟩), hn, k I2 ps2 _ _ _ _ q (d5.push1 (.im (.v _)))⟩
/-- tuple(x) of a list: its object is known -/
def rTupF (K : PySem.W.Frag) : List V → Hp → VK → Prop := fun xs H Q => ∃ p ys, xs = [.ref p] ∧ SqL K H p ys ∧ ∀ ob l, ob.dict = none → H l = none → Q (.ref l) (upd H l (.frz ob (.tup ys)))
theorem call_tupleF {X : Cx} : CallR X (.type "tuple") (rTupF X.K) := by
  intro pins s σ H xs us Q I r h
  obtain ⟨p, ys, rfl, hs, q⟩ := h
  obtain ⟨u, rfl, rx⟩ := vals1 r
  obtain rfl : u = Value.ref p := rx
  obtain ⟨its, rv, pl, hz⟩ := I.list hs
  refine call_tuple_list pl.isList (fun h' hk => ?_) (by rw [List.size_toArray, ← rv.length]; exact hz)
  have I1 : Inv X pins σ H { s with heap := h' } := I.kept (t' := s.toks) hk
  have I2 : Inv X pins σ (upd H h'.objs.size (.frz { cls := .type "tuple", data := .seq its.toArray } (.tup ys))) { s with heap := h'.push { cls := .type "tuple", data := .seq its.toArray } } :=
    I1.laid (t' := s.toks) (fun b o e => Heap.get?_push_of_some _ e) (Nat.le_refl _) (show ObjOk X.prog X.w _ _ _ (.frz _ (.tup ys)) from ⟨Heap.get?_push_size _ rfl, hz, its, rv, IsTup.new _ _⟩)
  exact ⟨.ref h'.objs.size, _, I2, rfl, q _ _ rfl (I1.hok.fresh (Nat.le_refl _))⟩
theorem cb_tupleF {s : Sl} {l : List D} (h : LstOf S s l) (q : Q S (.im (.tupF l))) : CbD c (rTupF c.K) [s] S Q := by
  intro F I ps σ G H vs Qv d hs k
  obtain ⟨v, rfl, ok⟩ := slots1 hs
  obtain ⟨p, xs, rfl, h1, h2⟩ := lst_at d ok h
  exact ⟨p, xs, rfl, SqL.of h1, fun ob r hob hr => k _ ps S _ _ _ q ((d.newIm hr).push1 (.im (.tupF upd_same hob (h2.mono (Ex.new (d.ex.none hr))))))⟩
theorem cb_minL {s : Sl} {ns : List Int} (h : LstOf S s (ns.map iD)) (h0 : 0 < ns.length) (q : ∀ m, m ∈ ns → (∀ y ∈ ns, m ≤ y) → Q S (.im (iD m))) : CbD c (rMin c.K) [s] S Q := by
  intro F I ps σ G H vs Qv d hs k
  obtain ⟨v, rfl, ok⟩ := slots1 hs
  obtain ⟨p, xs, rfl, h1, h2⟩ := lst_at d ok h
  have e : xs = ns.map V.int := by
    refine HoldsL.v_inv (K := c.K) (I := I) ?_
    rw [List.map_map]
    exact h2
  subst e
  exact ⟨p, ns, rfl, SqL.of h1, h0, fun m hm hle => k I ps S _ _ H (q m hm hle) (d.push1 (.im (.v _)))⟩
end
end Dt

set_option Elab.async false
set_option linter.all false
set_option maxRecDepth 100000
set_option maxHeartbeats 1000000
/-! A dict whose keys are pairs of tuples of ints; a list of these sorted. -/
namespace Dt
open PySem PySem.Spec PyProof.Rows L2

section
variable {X : Cx} {pins : List (Addr × Obj)} {σ : L2.St} {H : Hp} {s : Shared}
mutual
theorem nested_of (I : Inv X pins σ H s) : ∀ (k : NestedKey) (v : V) (u : Value), Dp X.K H v k.data → RelV v u → NestedIs s.heap k u
  | .none, v, u, h, r => by
    rw [NestedKey.data] at h
    cases h
    cases (show u = Value.none from r)
    exact .none
  | .num i, v, u, h, r => by
    rw [NestedKey.data] at h
    cases h
    obtain ⟨t, rfl⟩ := (show ∃ t, u = Value.int i t from r)
    exact .int i t
  | .text x, v, u, h, r => by
    rw [NestedKey.data] at h
    cases h
    obtain ⟨t, rfl⟩ := (show ∃ t, u = Value.str x t from r)
    exact .text x t
  | .tup ks, v, u, h, r => by
    rw [NestedKey.data] at h
    cases h with
    | tup h1 h2 =>
      rename_i a xs
      cases (show u = Value.ref a from r)
      obtain ⟨its, rv, pl, _⟩ := I.tuple h1
      obtain ⟨o, e1, e2, n, e3⟩ := pl
      exact .tup e1 e2 e3 (by simpa using nested_all I ks xs its h2 rv)
theorem nested_all (I : Inv X pins σ H s) : ∀ (ks : List NestedKey) (vs : List V) (us : List Value), DpAll X.K H vs (NestedKey.datas ks) → Vals vs us → NestedAll s.heap ks us
  | [], vs, us, h, r => by
    rw [NestedKey.datas] at h
    cases h
    cases r
    exact .nil
  | k :: ks, vs, us, h, r => by
    rw [NestedKey.datas] at h
    cases h with
    | cons h1 h2 =>
      cases r with
      | cons r1 r2 => exact .cons (nested_of I k _ _ h1 r1) (nested_all I ks _ _ h2 r2)
end
theorem dn_get {a : Addr} {xs : List (NestedKey × Addr × Value)} (I : Inv X pins σ H s) (h : H a = some (dnO X.prog X.w a xs)) : (a == sysModules) = false ∧ xs.length ≤ sizeLine ∧ ∃ o es ep, s.heap.get? a = some o ∧ o.ExactDict ∧ o.data = .dict es ep ∧ es.toList = xs.map (entryOfKey (nestedKind X.prog X.w)) ∧ (xs.map (·.1)).Nodup :=
  (show ObjOk X.prog X.w H s.heap a (dnO X.prog X.w a xs) from I.hok a _ h).1
theorem dn_ok {P : Program} {w : World} {H' : Hp} {h' : Heap} {a : Addr} {xs : List (NestedKey × Addr × Value)} (h : (a == sysModules) = false ∧ xs.length ≤ sizeLine ∧ ∃ o es ep, h'.get? a = some o ∧ o.ExactDict ∧ o.data = .dict es ep ∧ es.toList = xs.map (entryOfKey (nestedKind P w)) ∧ (xs.map (·.1)).Nodup) : ObjOk P w H' h' a (dnO P w a xs) := by
  obtain ⟨h1, h2, o, es, ep, h3, h4⟩ := id h
  exact ⟨h, ⟨o, h3⟩, fun g1 g2 ⟨a1, a2, o, es, ep, a3, a4⟩ k => ⟨a1, a2, o, es, ep, k _ a3, a4⟩⟩
end

section
variable {X : Cx} {o i value : Expr} {pos pos' : Pos} {td ty tv : TE}
/-- {} whose keys will be such -/
def tDNewN (P : Program) (w : World) : TE := fun _ H Q => ∀ p, H p = none → Q (.ref p) (upd H p (dnO P w p []))
theorem pe_dnewN : PE X (.Dict [] [] pos) (tDNewN X.prog X.w) := ⟨fun pins s σ H Q I h =>
  wpAny_Dict_empty ⟨.ref s.heap.objs.size, _, I.laid (a := s.heap.objs.size) (o := dnO X.prog X.w s.heap.objs.size []) (t' := s.toks) (fun _ _ q => Heap.get?_push_of_some _ q) (Nat.le_refl _)
    (dn_ok ⟨by have := I.big; exact beq_eq_false_iff_ne.mpr (Nat.ne_of_gt this), Nat.zero_le _, _, #[], 0, Heap.get?_push_size _ rfl, ⟨rfl, rfl, rfl⟩, rfl, rfl, List.nodup_nil⟩), rfl, h _ (I.hok.fresh (Nat.le_refl _))⟩⟩
/-- d[a tuple of such] = True -/
def sDPutN (P : Program) (w : World) (K : PySem.W.Frag) (td ty tv : TE) : TS := fun D σ H => tv σ H fun v H1 => v = .bl true ∧ td σ H1 fun x H2 => ty σ H2 fun y H3 => ∃ a xs b k, x = .ref a ∧ H3 a = some (dnO P w a xs) ∧ y = .ref b ∧ Dp K H3 y (NestedKey.data k) ∧ (∀ x ∈ xs, Dp K H3 (.ref x.2.1) (NestedKey.data x.1) ∧ x.1.depth ≤ 8) ∧ k.depth ≤ 8 ∧ xs.length < sizeLine ∧ ∀ r, D.nx σ (upd H3 a (dnO P w a (storedH xs k b r)))
theorem storedH_len {xs : List (NestedKey × Addr × Value)} {k : NestedKey} {b : Addr} {r : Value} : (storedH xs k b r).length ≤ xs.length + 1 := by
  unfold storedH
  split
  · rw [List.length_map]; omega
  · rw [List.length_append]; exact Nat.le_refl _
theorem ps_dputN (hu : X.A.in1.units + 8 < cLine) (ho : PE X o td) (hi : PE X i ty) (hv : PE X value tv) (hs : swapsWith value (some (.Subscript o i pos')) pos.line X.env = pure false) :
    PS X (.Assign [.Subscript o i pos'] value pos) (sDPutN X.prog X.w X.K td ty tv) := by
  refine ⟨fun pins s σ H D I h => ?_⟩
  refine wpAny_Assign_Subscript (thn (hv.run pins s σ H _ I h) fun r s1 ⟨v, H1, I1, rv, ev, q1⟩ => thn (ho.run pins s1 σ H1 _ I1 q1) fun u s2 ⟨x, H2, I2, rx, q2⟩ => thn (hi.run pins s2 σ H2 _ I2 q2) fun iv s3 ⟨y, H3, I3, ry, a, xs, b, k, ex, g, ey, dk, dx, hk, hz, q3⟩ => ?_) hs
  subst ex ey ev
  obtain rfl : u = Value.ref a := rx
  obtain rfl : iv = Value.ref b := ry
  obtain rfl : r = Value.bool true := rv
  obtain ⟨h1, h2, o, es, ep, h3, h4, h5, h6, h7⟩ := dn_get I3 g
  have hd : s3.heap.DictOfH (nestedKind X.prog X.w) a xs := ⟨o, es, ep, h3, h4, h5, h6, fun x hx => ⟨nested_of I3 x.1 _ _ (dx x hx).1 rfl, (dx x hx).2⟩, h7⟩
  refine wpAny_setItem_heap (knd := nestedKind X.prog X.w) (k := k) (hsz := h2) hu ⟨nested_of I3 k _ _ dk rfl, hk⟩ hd fun h' dd' hs' => ?_
  obtain ⟨o', es', ep', k3, k4, k5, k6, _, k7⟩ := dd'
  refine ⟨σ, _, d_write I3 (by rw [g]; exact True.intro) hs' ⟨o', k3⟩ (dn_ok ⟨h1, ?_, o', es', ep', k3, k4, k5, k6, k7⟩), q3 _⟩
  have := storedH_len (xs := xs) (k := k) (b := b) (r := Value.bool true)
  omega
/-- list(d) -/
def rListN (P : Program) (w : World) : List V → Hp → VK → Prop := fun vs H Q => ∃ p xs, vs = [.ref p] ∧ H p = some (dnO P w p xs) ∧ ∀ q, H q = none → Q (.ref q) (upd H q (.lst (xs.map fun x => V.ref x.2.1)))
theorem call_listN (hc : X.calm = true) : CallR X (.type "list") (rListN X.prog X.w) := by
  intro pins s σ H vs us Q I r h
  obtain ⟨d, ks, rfl, hd, q⟩ := h
  obtain ⟨u, rfl, rx⟩ := vals1 r
  cases rx
  obtain ⟨hs, z, o, es, ep, ho, hx, hdt, he, hn⟩ := dn_get I hd
  have l1 : es.size = ks.length := size_of_entries he
  refine PySem.W.kdl_call (kdl_raw hs hx hdt) (I.ok.hd hc) ho (by omega) fun h' tk acc' c' kp e it => ?_
  have ea : acc'.toList = ks.map fun x => Value.ref x.2.1 := by
    have hl : acc'.toList.length = ks.length := by rw [Array.length_toList, it.1]; exact l1
    apply List.ext_getElem?
    intro j
    rw [List.getElem?_map]
    cases hj : acc'.toList[j]? with
    | none =>
      have h1 := List.getElem?_eq_none_iff.mp hj
      rw [List.getElem?_eq_none (by omega)]
      all_goals rfl
    | some v =>
      obtain ⟨en, hen, hv⟩ := it.2 j v (by rw [← Array.getElem?_toList]; exact hj)
      have qe := entry_at he j
      rw [hen] at qe
      cases hb : ks[j]? with
      | none =>
        rw [hb] at qe
        exact nomatch (show some en = none from qe)
      | some b =>
        rw [hb] at qe
        have e2 : en = entryOfKey (nestedKind X.prog X.w) b := Option.some.inj qe
        rw [hv, e2]
        all_goals rfl
  have eb : acc'.toList = (ks.map fun x => x.2.1).map Value.ref := by rw [ea, List.map_map]; all_goals rfl
  have ev : (ks.map fun x => V.ref x.2.1) = (ks.map fun x => x.2.1).map V.ref := by rw [List.map_map]; all_goals rfl
  have rv : Vals (ks.map fun x => V.ref x.2.1) acc'.toList := by rw [eb, ev]; exact vals_refs _
  have hz : (ks.map fun x => V.ref x.2.1).length ≤ sizeLine := by rw [List.length_map]; omega
  refine ⟨.ref s.heap.objs.size, _, I.laid (t' := tk) (o := .lst (ks.map fun x => V.ref x.2.1)) kp (Nat.le_refl _) ?_, rfl, q _ (I.hok.fresh (Nat.le_refl _))⟩
  exact ⟨hz, acc'.toList, c', rv, by rw [Array.toArray_toList]; exact e⟩
/-- sorted(x), of tuples that are data: any order -/
def rSortedN (K : PySem.W.Frag) : List V → Hp → VK → Prop := fun vs H Q => ∃ p, ∃ bs : List (Addr × PyData), vs = [.ref p] ∧ SqL K H p (bs.map fun b => V.ref b.1) ∧ (∀ b ∈ bs, Dp K H (.ref b.1) b.2) ∧ PySem.W.AllAlike (bs.map (·.2)) ∧ PySem.W.Sortable (bs.map (·.2)) ∧ (∀ b ∈ bs, b.2.depth ≤ 8) ∧
  ∀ (cs : List (Addr × PyData)) (r : Addr), cs.Perm bs → H r = none → Q (.ref r) (upd H r (.lst (cs.map fun b => V.ref b.1)))
theorem each_of : ∀ {bs : List (Addr × PyData)} {us : List Value}, Vals (bs.map fun b => V.ref b.1) us → PySem.W.EachIs (fun v (b : Addr × PyData) => v = Value.ref b.1) us bs
  | [], _, r => by cases r; exact .nil
  | b :: bs, _, r => by
    cases r with
    | cons r1 r2 => exact .cons r1 (each_of r2)
theorem of_each : ∀ {bs : List (Addr × PyData)} {us : List Value}, PySem.W.EachIs (fun v (b : Addr × PyData) => v = Value.ref b.1) us bs → Vals (bs.map fun b => V.ref b.1) us
  | [], _, .nil => .nil
  | b :: bs, _, .cons h t => .cons h (of_each t)
theorem each_and {α β : Type} {R S : α → β → Prop} : ∀ {as : List α} {bs : List β}, PySem.W.EachIs R as bs → (∀ a b, R a b → b ∈ bs → S a b) → PySem.W.EachIs S as bs
  | _, _, .nil, _ => .nil
  | _, _, .cons h t, f => .cons (f _ _ h List.mem_cons_self) (each_and t fun a b r m => f a b r (List.mem_cons_of_mem _ m))
theorem each_len {α β : Type} {R : α → β → Prop} : ∀ {as : List α} {bs : List β}, PySem.W.EachIs R as bs → as.length = bs.length
  | _, _, .nil => rfl
  | _, _, .cons _ t => by rw [List.length_cons, List.length_cons, each_len t]
theorem cr_sortedN (hu : X.A.units + 16 < cLine) : CallR X (.builtin "sorted") (rSortedN X.K) := by
  intro pins s σ H vs us Q I r h
  obtain ⟨a, bs, rfl, hs, hx, hal, hso, hdp, q⟩ := h
  obtain ⟨its, rv, hl, hz⟩ := I.list hs
  obtain ⟨u, rfl, ru⟩ := vals1 r
  obtain rfl : u = Value.ref a := ru
  have e1 := each_of rv
  have er : PySem.W.EachIs (fun v (b : Addr × PyData) => ∃ as, Reads s.heap v b.2 as) its bs := each_and e1 fun v b hv hb => by
    subst hv
    exact Dp.reads I b.2 _ _ (hx b hb) rfl
  have hlen : bs.length = its.length := (each_len e1).symm
  have hzl : (bs.map fun b => V.ref b.1).length = its.length := rv.length
  refine PySem.W.sorted_data (enc := fun b : Addr × PyData => b.2) hl.isList e1 er hal hso (by omega) (fun b hb => by have := hdp b hb; omega) fun out ho eo => ?_
  obtain ⟨c, hc⟩ := sortedAll_at s.heap its (List.toArray out)
  have pm : (bs.mergeSort (PySem.W.dataLe false fun b => b.2)).Perm bs := List.mergeSort_perm _ _
  refine ⟨.ref (s.heap.objs.size + 1), _, I.laid (t' := s.toks) (o := .lst ((bs.mergeSort (PySem.W.dataLe false fun b => b.2)).map fun b => V.ref b.1)) (fun b o e => sortedAll_old e) (Nat.le_succ _) ?_, rfl, q _ _ pm (I.hok.fresh (Nat.le_succ _))⟩
  refine ⟨by rw [List.length_map, pm.length_eq]; omega, out, c, of_each eo, ?_⟩
  exact hc
end

section
variable {c : Cn} {F : Fr} {I I' : Hp} {ps ps' : List Addr} {σ τ σ' : L2.St} {H H' : Hp} {G T G' : SG} {S S' : SC} {te ta tb tk tv : TE} {tt tu : TT} {Q : SC → Sl → Prop} {P : Po} {ts : TS}
theorem datas_ints : ∀ ns : List Int, NestedKey.datas (ns.map .num) = ns.map PyData.int
  | [] => rfl
  | n :: ns => by
    show NestedKey.datas (.num n :: ns.map .num) = _
    rw [NestedKey.datas, datas_ints ns]
    rfl
theorem nk_data (p : List Int × List Int) : (nkOf p).data = .tuple [.tuple (p.1.map .int), .tuple (p.2.map .int)] := by
  unfold nkOf
  rw [NestedKey.data, NestedKey.datas, NestedKey.datas, NestedKey.datas, NestedKey.data, NestedKey.data, datas_ints, datas_ints]
theorem dpAll_ints {H : Hp} : ∀ {xs : List V} {ns : List Int}, HoldsL c.K I xs (ns.map iD) → DpAll c.K H xs (ns.map PyData.int)
  | _, [], .nil => .nil
  | _, n :: ns, .cons h1 h2 => by
    have := h1.v_inv
    subst this
    exact .cons (.int n) (dpAll_ints h2)
theorem dp_tupI (ex : Ex I H) {x : V} {ns : List Int} (h : Holds c.K I x (.tup (ns.map iD))) : Dp c.K H x (.tuple (ns.map .int)) := by
  obtain ⟨p, xs, rfl, h1, h2⟩ := tup_at ex h
  exact .tup h1 (dpAll_ints h2)
theorem dp_kk (ex : Ex I H) {x : V} {p : List Int × List Int} (h : Holds c.K I x (kkD p)) : Dp c.K H x (nkOf p).data := by
  rw [nk_data]
  obtain ⟨a, xs, rfl, h1, h2⟩ := tup_at ex h
  cases h2 with
  | cons a1 t1 =>
    cases t1 with
    | cons a2 t2 =>
      cases t2
      exact .tup h1 (.cons (dp_tupI ex a1) (.cons (dp_tupI ex a2) .nil))
theorem depthAll_nums : ∀ ns : List Int, NestedKey.depthAll (ns.map .num) = 0
  | [] => rfl
  | n :: ns => by
    show NestedKey.depthAll (.num n :: ns.map .num) = 0
    rw [NestedKey.depthAll, depthAll_nums ns]
    rfl
theorem nk_depth (p : List Int × List Int) : (nkOf p).depth ≤ 8 := by
  unfold nkOf
  simp only [NestedKey.depth, NestedKey.depthAll, depthAll_nums]
  decide
theorem nk_inj {p q : List Int × List Int} (h : nkOf p = nkOf q) : p = q := by
  have inj : ∀ a b : List Int, a.map NestedKey.num = b.map NestedKey.num → a = b := by
    intro a
    induction a with
    | nil => intro b h; cases b with | nil => rfl | cons _ _ => cases h
    | cons x a ih =>
      intro b h
      cases b with
      | nil => cases h
      | cons y b =>
        rw [List.map_cons, List.map_cons] at h
        injection h with h1 h2
        injection h1 with h1
        rw [h1, ih b h2]
  unfold nkOf at h
  injection h with h
  injection h with h1 h2
  injection h2 with h2 _
  injection h1 with h1
  injection h2 with h2
  exact Prod.ext (inj _ _ h1) (inj _ _ h2)
/-- found = {} -/
theorem re_dnewN (q : Q (S ++ [.dn []]) (.pt S.length)) : RE c (tDNewN c.P c.w) G S Q := by
  intro F I ps σ τ T H Qv hl d k
  intro p hp
  exact k _ _ _ _ _ _ q (newC d hp (x := .dn []) ⟨d.ex.none hp, [], upd_same, rfl, .nil⟩)
/-- the keys behind a store -/
def putN (l : List (List Int × List Int)) (p : List Int × List Int) : List (List Int × List Int) := if p ∈ l then l else l ++ [p]
theorem dn_dps {H : Hp} (ex : Ex I H) : ∀ {xs : List (NestedKey × Addr × Value)} {l : List (List Int × List Int)}, xs.map (·.1) = l.map nkOf → HoldsL c.K I (xs.map fun x => V.ref x.2.1) (l.map kkD) → ∀ x ∈ xs, Dp c.K H (.ref x.2.1) (NestedKey.data x.1) ∧ x.1.depth ≤ 8
  | [], [], _, _, x, hx => by cases hx
  | y :: xs, p :: l, e, .cons h1 h2, x, hx => by
    rw [List.map_cons, List.map_cons] at e
    injection e with e1 e2
    rcases List.mem_cons.mp hx with z | z
    · subst z
      rw [e1]
      exact ⟨dp_kk ex h1, nk_depth p⟩
    · exact dn_dps ex e2 h2 x z
  | [], _ :: _, e, _, _, _ => by cases e
  | _ :: _, [], e, _, _, _ => by cases e
theorem stored_keys {xs : List (NestedKey × Addr × Value)} {l : List (List Int × List Int)} {p : List Int × List Int} {b : Addr} {r : Value} (h1 : xs.map (·.1) = l.map nkOf) (h2 : HoldsL c.K I (xs.map fun x => V.ref x.2.1) (l.map kkD)) (hb : Holds c.K I (.ref b) (kkD p)) :
    (storedH xs (nkOf p) b r).map (·.1) = (putN l p).map nkOf ∧ HoldsL c.K I ((storedH xs (nkOf p) b r).map fun x => V.ref x.2.1) ((putN l p).map kkD) := by
  have hm : ∀ (xs : List (NestedKey × Addr × Value)) (l : List (List Int × List Int)), xs.map (·.1) = l.map nkOf → ((atKey xs (nkOf p)).isSome = true ↔ p ∈ l) := by
    intro xs
    induction xs with
    | nil => intro l e; cases l with | nil => exact ⟨fun z => absurd z (by simp [atKey]), fun z => absurd z (by simp)⟩ | cons _ _ => cases e
    | cons x xs ih =>
      intro l e
      cases l with
      | nil => cases e
      | cons y l =>
        rw [List.map_cons, List.map_cons] at e
        injection e with e1 e2
        by_cases hxy : x.1 = nkOf p
        · have : atKey (x :: xs) (nkOf p) = some x.2 := by simp [atKey, List.find?_cons, hxy]
          rw [this]
          rw [e1] at hxy
          exact ⟨fun _ => by rw [nk_inj hxy]; exact List.mem_cons_self, fun _ => rfl⟩
        · have : atKey (x :: xs) (nkOf p) = atKey xs (nkOf p) := by simp [atKey, List.find?_cons, hxy]
          rw [this, ih l e2]
          refine ⟨fun z => List.mem_cons_of_mem _ z, fun z => (List.mem_cons.mp z).resolve_left fun z2 => hxy ?_⟩
          rw [e1, z2]
  unfold storedH putN
  by_cases hp : p ∈ l
  · rw [if_pos hp, if_pos ((hm xs l h1).mpr hp)]
    have e1 : ∀ (f : NestedKey × Addr × Value → NestedKey), (∀ x, f x = x.1) → (xs.map (putAt (nkOf p) r)).map f = xs.map f := by
      intro f hf
      rw [List.map_map]
      refine List.map_congr_left fun x _ => ?_
      show f (putAt (nkOf p) r x) = f x
      rw [hf, hf]
      unfold putAt
      split <;> rfl
    have e2 : ((xs.map (putAt (nkOf p) r)).map fun x => V.ref x.2.1) = xs.map fun x => V.ref x.2.1 := by
      rw [List.map_map]
      refine List.map_congr_left fun x _ => ?_
      show V.ref (putAt (nkOf p) r x).2.1 = V.ref x.2.1
      unfold putAt
      split <;> rfl
    rw [e1 _ fun _ => rfl, e2]
    exact ⟨h1, h2⟩
  · rw [if_neg hp, if_neg (fun z => hp ((hm xs l h1).mp z))]
    rw [List.map_append, List.map_append, List.map_append, List.map_append, h1]
    exact ⟨rfl, h2.append (.cons hb .nil)⟩
/-- found[a, b] = True -/
theorem rs_dputN (h : RE c tv G S fun S0 u => u = .im (bD true) ∧ RE c te G S0 fun S1 s => ∃ k, s = .pt k ∧ RE c tk G S1 fun S2 t => ∃ p l, t = .im (kkD p) ∧ S2[k]? = some (.dn l) ∧ l.length ≤ 1000000 ∧ P.nx G (S2.set k (.dn (putN l p)))) : RS c (sDPutN c.P c.w c.K te tk tv) G S P := by
  intro F I ps σ τ T H D hl hT d kx
  refine h F I ps σ τ T H _ hl d fun I0 ps0 S0 u z H0 h0 d0 => ?_
  obtain ⟨rfl, h0⟩ := h0
  obtain ⟨d0', oz⟩ := d0.drop1
  refine ⟨oz.holds.v_inv, ?_⟩
  refine h0 F I0 ps0 σ τ T H0 _ hl d0' fun I1 ps1 S1 s x H1 h1 d1 => ?_
  obtain ⟨k, rfl, h1⟩ := h1
  refine h1 F I1 ps1 σ (τ ++ [some x]) (T ++ [.pt k]) H1 _ hl d1.as1 fun I2 ps2 S2 t y H2 h2 d2 => ?_
  obtain ⟨p, l, rfl, hd, hz, q⟩ := h2
  obtain ⟨d3, oy⟩ := d2.drop1
  obtain ⟨d4, ox⟩ := d3.us1.drop1
  obtain ⟨a, ha, rfl⟩ := ox.ref
  obtain ⟨a', ha', hc⟩ := d4.at_ hd
  rw [ha] at ha'; cases ha'
  obtain ⟨hI, xs, h5, h6, h7⟩ := hc
  have hb := oy.holds
  obtain ⟨b, ys, eb, _, _⟩ := tup_at (Ex.refl _) hb
  subst eb
  have hlen : xs.length = l.length := by have := congrArg List.length h6; simpa using this
  refine ⟨a, xs, b, nkOf p, rfl, h5, rfl, dp_kk d4.ex hb, dn_dps d4.ex h6 h7, nk_depth p, by rw [hlen]; exact Nat.lt_of_le_of_lt hz (by decide), fun r => ?_⟩
  obtain ⟨e1, e2⟩ := stored_keys (r := r) h6 h7 hb
  exact kx.nx I2 ps2 G _ σ _ q rfl (d4.wr ha hI (show CellAt c I2 _ ps2 a (.dn (putN l p)) from ⟨hI, _, upd_same, e1, e2⟩))
/-- list(found) -/
theorem cb_listN {k : Nat} {l : List (List Int × List Int)} (h : S[k]? = some (.dn l)) (q : Q S (.im (.lst (l.map kkD)))) : CbD c (rListN c.P c.w) [.pt k] S Q := by
  intro F I ps σ G H vs Qv d hs kk
  obtain ⟨v, rfl, ok⟩ := slots1 hs
  obtain ⟨p, hp, rfl⟩ := ok.ref
  obtain ⟨p', hp', hc⟩ := d.at_ h
  rw [hp] at hp'; cases hp'
  obtain ⟨hI, xs, h5, h6, h7⟩ := hc
  exact ⟨p, xs, rfl, h5, fun r hr => kk _ ps S _ _ _ q ((d.newIm hr).push1 (.im (.lst upd_same (h7.mono (Ex.new (d.ex.none hr))))))⟩
theorem alike_nums (ns ms : List Int) : PySem.W.alike (.tuple (ns.map .int)) (.tuple (ms.map .int)) = true := by
  rw [PySem.W.alike]; exact PySem.W.alike_ints ns ms
theorem alike_nk (p q : List Int × List Int) : PySem.W.alike (nkOf p).data (nkOf q).data = true := by
  rw [nk_data, nk_data]
  simp only [PySem.W.alike, PySem.W.alikeAll, PySem.W.alike_ints, Bool.and_self]
theorem refs_of : ∀ {xs : List V} {l : List (List Int × List Int)}, HoldsL c.K I xs (l.map kkD) → ∃ bs : List Addr, bs.length = l.length ∧ xs = bs.map V.ref ∧ ∀ b p, (b, p) ∈ bs.zip l → Holds c.K I (.ref b) (kkD p)
  | _, [], .nil => ⟨[], rfl, rfl, fun _ _ h => by cases h⟩
  | _, p :: l, .cons h1 h2 => by
    obtain ⟨bs, e0, e1, e2⟩ := refs_of h2
    obtain ⟨b, ys, eb, _, _⟩ := tup_at (Ex.refl _) h1
    refine ⟨b :: bs, by rw [List.length_cons, List.length_cons, e0], by rw [eb, e1]; rfl, fun b' p' h => ?_⟩
    rw [List.zip_cons_cons] at h
    rcases List.mem_cons.mp h with z | z
    · cases z; exact eb ▸ h1
    · exact e2 b' p' z
theorem nk_pdepth (p : List Int × List Int) : (nkOf p).data.depth ≤ 8 := by
  rw [nk_data]
  simp only [PyData.depth, PyData.depthAll, PySem.W.depth_ints]
  decide
/-- sorted(list of such keys): in some order -/
theorem cb_sortedN {l : List (List Int × List Int)} (q : ∀ m : List (List Int × List Int), m.Perm l → Q S (.im (.lst (m.map kkD)))) : CbD c (rSortedN c.K) [.im (.lst (l.map kkD))] S Q := by
  intro F I ps σ G H vs Qv d hs k
  obtain ⟨v, rfl, ok⟩ := slots1 hs
  obtain ⟨p, xs, rfl, h1, h2⟩ := lst_at (S := S) d ok (.im _)
  obtain ⟨bs, e0, rfl, hb⟩ := refs_of h2
  -- the addresses with their keys
  have hz : ∀ b ∈ (bs.zip l).map (fun b => (b.1, (nkOf b.2).data)), ∃ a p, (a, p) ∈ bs.zip l ∧ b = (a, (nkOf p).data) := fun b hb => by
    obtain ⟨x, hx, rfl⟩ := List.mem_map.mp hb
    exact ⟨x.1, x.2, hx, rfl⟩
  have ez : ((bs.zip l).map (fun b => (b.1, (nkOf b.2).data))).map (fun b => V.ref b.1) = bs.map V.ref := by
    rw [List.map_map]
    have : (bs.zip l).map Prod.fst = bs := List.map_fst_zip (by omega)
    conv => rhs; rw [← this]
    rw [List.map_map]
    rfl
  refine ⟨p, (bs.zip l).map (fun b => (b.1, (nkOf b.2).data)), rfl, SqL.of (by rw [ez]; exact h1), fun b hb' => ?_, fun x hx y hy => ?_, .inl fun x hx => ?_, fun b hb' => ?_, fun cs r pm hr => ?_⟩
  · obtain ⟨a, p', hm, rfl⟩ := hz b hb'
    exact dp_kk d.ex (hb a p' hm)
  · obtain ⟨x', hx', rfl⟩ := List.mem_map.mp hx
    obtain ⟨y', hy', rfl⟩ := List.mem_map.mp hy
    obtain ⟨a, p', _, rfl⟩ := hz x' hx'
    obtain ⟨a2, p2, _, rfl⟩ := hz y' hy'
    exact alike_nk p' p2
  · obtain ⟨x', hx', rfl⟩ := List.mem_map.mp hx
    obtain ⟨a, p', _, rfl⟩ := hz x' hx'
    exact ⟨_, _, nk_data p'⟩
  · obtain ⟨a, p', _, rfl⟩ := hz b hb'
    exact nk_pdepth p'
  · -- cs is a permutation of a map: it is a map of a permutation
    have key : ∀ {α β : Type} (f : α → β) (l : List α) (m : List β), m.Perm (l.map f) → ∃ l' : List α, l'.Perm l ∧ m = l'.map f := by
      intro α β f l m hp
      generalize hL : l.map f = L at hp
      induction hp generalizing l with
      | nil =>
        cases l with
        | nil => exact ⟨[], .nil, rfl⟩
        | cons _ _ => cases hL
      | cons x _ ih =>
        cases l with
        | nil => cases hL
        | cons a l =>
          rw [List.map_cons] at hL
          injection hL with e1 e2
          obtain ⟨l', p1, e3⟩ := ih l e2
          exact ⟨a :: l', .cons a p1, by rw [List.map_cons, e1, e3]⟩
      | swap x y m =>
        cases l with
        | nil => cases hL
        | cons a l =>
          cases l with
          | nil => cases hL
          | cons b l =>
            rw [List.map_cons, List.map_cons] at hL
            injection hL with e1 e2
            injection e2 with e2 e3
            exact ⟨b :: a :: l, .swap _ _ _, by rw [List.map_cons, List.map_cons, e1, e2, e3]⟩
      | trans _ _ ih1 ih2 =>
        obtain ⟨l2, p2, e2⟩ := ih2 l hL
        obtain ⟨l1, p1, e1⟩ := ih1 l2 e2.symm
        exact ⟨l1, p1.trans p2, e1⟩
    obtain ⟨zs, pz, rfl⟩ := key _ _ _ pm
    refine k _ ps S _ _ _ (q (zs.map Prod.snd) ?_) ((d.newIm hr).push1 (.im (.lst upd_same ?_)))
    · have := pz.map Prod.snd
      rwa [List.map_snd_zip (by omega)] at this
    · rw [List.map_map, List.map_map]
      have hzs : ∀ x ∈ zs, x ∈ bs.zip l := fun x hx => pz.mem_iff.mp hx
      have go : ∀ zs : List (Addr × (List Int × List Int)), (∀ x ∈ zs, x ∈ bs.zip l) → HoldsL c.K I (zs.map ((fun b => V.ref b.1) ∘ fun b => (b.1, (nkOf b.2).data))) (zs.map (kkD ∘ Prod.snd)) := by
        intro zs
        induction zs with
        | nil => intro _; exact .nil
        | cons x zs ih => intro h; exact .cons (hb x.1 x.2 (h x List.mem_cons_self)) (ih fun y hy => h y (List.mem_cons_of_mem _ hy))
      exact (go zs hzs).mono (Ex.new (d.ex.none hr))
end
end Dt

set_option Elab.async false
set_option linter.all false
set_option maxRecDepth 100000
set_option maxHeartbeats 1000000
namespace Dt
open PySem PySem.Spec PyProof.Rows L2

abbrev qAdd : R2 := rI0 fun i j => .int (i + j)
abbrev qSub : R2 := rI0 fun i j => .int (i - j)
abbrev rMul : R2 := rI CMul fun i j => .int (i * j)
abbrev rMod : R2 := rI (fun _ j => 0 < j) fun i j => .int (i % j)
abbrev rModN : R2 := rI (fun _ j => j ≠ 0) fun i j => .int (i.fmod j)
abbrev rFdivW : R2 := rI CDivW fun i j => .int (i / j)
abbrev rPow : R2 := rI CPow fun i j => .int (i ^ j.toNat)
abbrev rLt : R2 := rI0 fun i j => .bl (decide (i < j))
abbrev rLe : R2 := rI0 fun i j => .bl (decide (i ≤ j))
abbrev rGt : R2 := rI0 fun i j => .bl (decide (j < i))
abbrev rGe : R2 := rI0 fun i j => .bl (decide (j ≤ i))
abbrev rIsN0 : R2 := fun x y H Q => y = .non ∧ Q (.bl (decide (x = .non))) H
abbrev rNotN0 : R2 := fun x y H Q => y = .non ∧ Q (.bl (!decide (x = .non))) H
abbrev rLenS (K : PySem.W.Frag) : List V → Hp → VK → Prop := fun xs H Q => ∃ p ys, xs = [.ref p] ∧ (SqL K H p ys ∨ SqT K H p ys) ∧ Q (.int ys.length) H
abbrev rListS (K : PySem.W.Frag) : List V → Hp → VK → Prop := fun xs H Q => ∃ p ys, xs = [.ref p] ∧ (SqL K H p ys ∨ SqT K H p ys) ∧ ∀ l, H l = none → Q (.ref l) (upd H l (.lst ys))
abbrev rTupS (K : PySem.W.Frag) : List V → Hp → VK → Prop := fun xs H Q => ∃ p ys, xs = [.ref p] ∧ ((SqL K H p ys ∧ ∀ l, H l = none → Q (.ref l) (upd H l (.tup ys))) ∨ (SqT K H p ys ∧ Q (.ref p) H))
abbrev rInt1 : List V → Hp → VK → Prop := fun xs H Q => (∃ i, xs = [.int i] ∧ Q (.int i) H) ∨ ∃ k, xs = [.bl k] ∧ Q (.int (if k then 1 else 0)) H
abbrev rMin2 : List V → Hp → VK → Prop := fun xs H Q => ∃ i j, xs = [.int i, .int j] ∧ Q (.int (if j < i then j else i)) H
abbrev rRange1 : List V → Hp → VK → Prop := fun vs H Q => ∃ n, vs = [V.int n] ∧ ∀ p, H p = none → Q (.ref p) (upd H p (.rng 0 n))
theorem rm16 {k : Nat} {A : Around} (r : Room k A) : A.units + 16 < cLine := by have := r.un; omega
theorem rm9 {k : Nat} {A : Around} (r : Room k A) : A.in1.units + 8 < cLine := by have := r.un; show A.units + 1 + 8 < cLine; omega
/-- what a body's end is -/
def endP (S : SC) (R : SC → Rt → Prop) : Po := { nx := fun _ S1 => ∃ S' r, Fin S.length S1 (.im nD) S' r ∧ S'.all Cell.flat = true ∧ S.length ≤ S1.length ∧ R S' r, rt := fun S1 s => ∃ S' r, Fin S.length S1 s S' r ∧ S'.all Cell.flat = true ∧ S.length ≤ S1.length ∧ R S' r }
section
variable {c : Cn} {F : Fr} {I I' : Hp} {ps ps' : List Addr} {σ τ σ' : L2.St} {H H' : Hp} {G T G' : SG} {S S' : SC} {te ta tb tk tv : TE} {tt tu : TT} {Q : SC → Sl → Prop} {P : Po} {ts tu' : TS}
theorem sp_len {W : Wp} {n : Nat} (len : ∀ A S R, W A S R → A.length = n) : ∀ vs H Q E, spD c W vs H Q E → vs.length = n := by
  rintro vs H Q E ⟨I, ps, A, S, R, d, w, _⟩
  have := d.ok.length
  rw [List.length_map] at this
  rw [this, len A S R w]
theorem sp_body {W : Wp} {n m : Nat} {N : List Str} {vs : List V} {Q' : VK} {E : XK} (len : ∀ A S R, W A S R → A.length = n) (body : ∀ A S R, W A S R → RS c ts (A ++ List.replicate m .no) S (endP S R)) (hm : N.length = n + m)
    (h : spD c W vs H Q' E) : ts { nx := fun _ H' => Q' .non H', rt := Q' } (L2.start N vs) H := by
  obtain ⟨I, ps, A, S, R, d, w, hR⟩ := h
  exact fn_body d hR (by rw [len A S R w]; exact hm) (body A S R w)
theorem rt_yes {Q' : SC → Bool → Prop} (q : Q' S true) : RT c tYes G S Q' := fun F I ps σ τ T H Qb hl d k => k I ps S true H q d
/-- ends of bodies without cells handed in -/
theorem end_im {R : SC → Rt → Prop} {e : D} {S1 : SC} (h : R [] (.im e)) : (endP [] R).rt S1 (.im e) := ⟨[], .im e, by have := Fin.im (n := 0) (S := S1) e; rwa [List.take_zero] at this, rfl, Nat.zero_le _, h⟩
theorem end_no {R : SC → Rt → Prop} {G1 : SG} {S1 : SC} (h : R [] (.im nD)) : (endP [] R).nx G1 S1 := ⟨[], .im nD, by have := Fin.im (n := 0) (S := S1) nD; rwa [List.take_zero] at this, rfl, Nat.zero_le _, h⟩
theorem end_frz {R : SC → Rt → Prop} {k : Nat} {x : Cell} {e : D} {S1 : SC} (hx : S1[k]? = some x) (hf : x.frozen = some e) (h : R [] (.im e)) : (endP [] R).rt S1 (.pt k) := ⟨[], .im e, by have := Fin.frz (n := 0) (Nat.zero_le _) hx hf; rwa [List.take_zero] at this, rfl, Nat.zero_le _, h⟩
theorem end_own {R : SC → Rt → Prop} {k : Nat} {x : Cell} {S1 : SC} (hx : S1[k]? = some x) (hf : x.flat = true) (h : R [] (.own x)) : (endP [] R).rt S1 (.pt k) := ⟨[], .own x, by have := Fin.own (n := 0) (Nat.zero_le _) hx hf; rwa [List.take_zero] at this, rfl, Nat.zero_le _, h⟩
/-- one cell handed in -/
theorem end1_im {R : SC → Rt → Prop} {e : D} {x0 x : Cell} {S1 : SC} (hx : S1[0]? = some x) (hf : x.flat = true) (h : R [x] (.im e)) : (endP [x0] R).rt S1 (.im e) := by
  cases S1 with
  | nil => cases hx
  | cons y S1 =>
    cases hx
    exact ⟨[x], .im e, by have := Fin.im (n := 1) (S := x :: S1) e; simpa using this, by simp [hf], by simp, h⟩
theorem end1_no {R : SC → Rt → Prop} {x0 x : Cell} {G1 : SG} {S1 : SC} (hx : S1[0]? = some x) (hf : x.flat = true) (h : R [x] (.im nD)) : (endP [x0] R).nx G1 S1 := by
  cases S1 with
  | nil => cases hx
  | cons y S1 =>
    cases hx
    exact ⟨[x], .im nD, by have := Fin.im (n := 1) (S := x :: S1) nD; simpa using this, by simp [hf], by simp, h⟩
end
end Dt

set_option Elab.async false
set_option linter.all false
set_option maxRecDepth 100000
set_option maxHeartbeats 1000000
namespace Dt
open PySem PySem.Spec PyProof.Rows L2

theorem iteY {b : Bool} {A B : Prop} (h : b = true) (k : A) : if b = true then A else B := by rw [if_pos h]; exact k
theorem iteN {b : Bool} {A B : Prop} (h : b = false) (k : B) : if b = true then A else B := by subst h; exact k
theorem iteC {b : Bool} {A B : Prop} (k : b = true → A) (k' : b = false → B) : if b = true then A else B := by
  cases b with
  | true => exact k rfl
  | false => exact k' rfl
/-- ints that are not negative -/
abbrev iN (n : Nat) : D := iD (n : Int)
abbrev nsD (l : List Nat) : List D := l.map iN
abbrev tN (l : List Nat) : D := .tup (nsD l)
theorem nsD_map (l : List Nat) : nsD l = (l.map fun n : Nat => (n : Int)).map iD := by rw [List.map_map]; rfl
theorem nsD_keys (l : List Nat) : (l.map fun n : Nat => (Sum.inl (n : Int) : Key)).map kD = nsD l := by rw [List.map_map]; rfl
inductive TupD : D → List D → Prop
  | tup (l) : TupD (.tup l) l
  | tupF (l) : TupD (.tupF l) l
theorem TupD.or {d : D} {l : List D} (h : TupD d l) : Sl.im d = .im (.tup l) ∨ Sl.im d = .im (.tupF l) := by
  cases h with
  | tup => exact .inl rfl
  | tupF => exact .inr rfl
theorem TupD.sqd {d : D} {l : List D} (h : TupD d l) : SqD d l := by
  cases h with
  | tup => exact .tup l
  | tupF => exact .tupF l
abbrev srt (l : List Nat) : Prop := l.Pairwise (· < ·)
theorem srt_eq : ∀ {a b : List Nat}, srt a → srt b → (∀ x, x ∈ a ↔ x ∈ b) → a = b
  | [], [], _, _, _ => rfl
  | [], y :: b, _, _, h => absurd ((h y).mpr List.mem_cons_self) (by simp)
  | x :: a, [], _, _, h => absurd ((h x).mp List.mem_cons_self) (by simp)
  | x :: a, y :: b, ha, hb, h => by
    have ha' := List.pairwise_cons.mp ha
    have hb' := List.pairwise_cons.mp hb
    have hxy : x = y := by
      have h1 := (h x).mp List.mem_cons_self
      have h2 := (h y).mpr List.mem_cons_self
      rcases List.mem_cons.mp h1 with e | m
      · exact e
      · rcases List.mem_cons.mp h2 with e | m2
        · exact e.symm
        · have := hb'.1 x m
          have := ha'.1 y m2
          omega
    subst hxy
    rw [srt_eq ha'.2 hb'.2 fun z => ?_]
    constructor
    · intro m
      rcases List.mem_cons.mp ((h z).mp (List.mem_cons_of_mem _ m)) with e | k
      · have := ha'.1 z m; omega
      · exact k
    · intro m
      rcases List.mem_cons.mp ((h z).mpr (List.mem_cons_of_mem _ m)) with e | k
      · have := hb'.1 z m; omega
      · exact k
/-- a sorted permutation of ints that are natural and without repetition -/
theorem srt_of {l : List Nat} {ms : List Int} (hp : ms.Perm (l.map fun n : Nat => (n : Int))) (hs : ms.Pairwise (· ≤ ·)) (nd : l.Nodup) : ∃ r : List Nat, ms = r.map (fun n : Nat => (n : Int)) ∧ srt r ∧ ∀ x, x ∈ r ↔ x ∈ l := by
  have h0 : ∀ x ∈ ms, 0 ≤ x := fun x hx => by
    obtain ⟨n, _, rfl⟩ := List.mem_map.mp (hp.mem_iff.mp hx)
    exact Int.natCast_nonneg n
  have e : ms = (ms.map Int.toNat).map fun n : Nat => (n : Int) := by
    rw [List.map_map]
    conv => lhs; rw [← List.map_id ms]
    refine List.map_congr_left fun x hx => ?_
    show x = ((x.toNat : Nat) : Int)
    rw [Int.toNat_of_nonneg (h0 x hx)]
  have nd2 : ms.Nodup := by
    refine hp.nodup_iff.mpr (List.nodup_iff_pairwise_ne.mpr (List.pairwise_map.mpr ?_))
    refine List.Pairwise.imp ?_ (List.nodup_iff_pairwise_ne.mp nd)
    intro a b h e
    exact h (by omega)
  refine ⟨ms.map Int.toNat, e, ?_, fun x => ?_⟩
  · have h1 : ms.Pairwise (· < ·) := by
      have := hs.and (List.nodup_iff_pairwise_ne.mp nd2)
      exact this.imp fun {a b} h => by
        have h2 : a ≤ b := h.1
        have h3 : a ≠ b := h.2
        omega
    refine List.pairwise_map.mpr (List.Pairwise.imp_of_mem (fun {a b} ha hb h => ?_) h1)
    have := h0 a ha
    have := h0 b hb
    omega
  · constructor
    · intro hx
      obtain ⟨y, hy, rfl⟩ := List.mem_map.mp hx
      obtain ⟨n, hn, rfl⟩ := List.mem_map.mp (hp.mem_iff.mp hy)
      simpa using hn
    · intro hx
      refine List.mem_map.mpr ⟨(x : Int), hp.mem_iff.mpr (List.mem_map.mpr ⟨x, hx, rfl⟩), by simp⟩
theorem srt_nodup {l : List Nat} (h : srt l) : l.Nodup := List.nodup_iff_pairwise_ne.mpr (List.Pairwise.imp (fun {a b} h => by omega) h)
section
variable {c : Cn} {F : Fr} {I I' : Hp} {ps ps' : List Addr} {σ τ σ' : L2.St} {H H' : Hp} {G T G' : SG} {S S' : SC} {te ta tb tk tv : TE} {tt tu : TT} {Q : SC → Sl → Prop} {P : Po} {ts tu' : TS}
/-- a call with one cell among its arguments -/
theorem callP {W : Wp} {pre post : SG} {k : Nat} {x : Cell} (hx : S[k]? = some x) (hf : x.flat = true) (hi : ∀ j, Sl.pt j ∉ pre ++ post) (h : W (pre ++ .pt 0 :: post) [x] fun S' r => ∀ x', S' = [x'] → x'.flat = true → match r with | .im e => Q (S.set k x') (.im e) | .own y => Q (S.set k x' ++ [y]) (.pt S.length)) : CallD c W (pre ++ .pt k :: post) S Q := by
  have hren : ∀ (l : SG), (∀ j, Sl.pt j ∉ l) → l = l.map (ren [k]) := by
    intro l
    induction l with
    | nil => intro _; rfl
    | cons s l ih =>
      intro hl
      rw [List.map_cons, ← ih fun j hj => hl j (List.mem_cons_of_mem _ hj)]
      cases s with
      | pt j => exact absurd List.mem_cons_self (hl j)
      | no => rfl
      | im d => rfl
  refine ⟨[k], pre ++ .pt 0 :: post, [x], by simp, ?_, fun j hj => ?_, by rw [List.map_cons, List.map_nil, hx]; rfl, by rw [List.all_cons, hf]; rfl, ?_⟩
  · rw [List.map_append, List.map_cons, ← hren pre fun j hj => hi j (List.mem_append_left _ hj), ← hren post fun j hj => hi j (List.mem_append_right _ hj)]
    rfl
  · rcases List.mem_append.mp hj with z | z
    · exact absurd (List.mem_append_left _ z) (hi j)
    · rcases List.mem_cons.mp z with z | z
      · cases z; exact Nat.zero_lt_one
      · exact absurd (List.mem_append_right _ z) (hi j)
  · have e : ∀ R R' : SC → Rt → Prop, R = R' → W (pre ++ .pt 0 :: post) [x] R → W (pre ++ .pt 0 :: post) [x] R' := fun _ _ e h => e ▸ h
    refine e _ _ ?_ h
    funext S' r
    refine propext ⟨fun hh hlen hall => ?_, fun hh x' hx' hfl => ?_⟩
    · obtain ⟨x', rfl⟩ := List.length_eq_one_iff.mp hlen
      have hfl : x'.flat = true := by rw [List.all_cons, Bool.and_eq_true] at hall; exact hall.1
      have h2 := hh x' rfl hfl
      cases r <;> exact h2
    · subst hx'
      have h2 := hh rfl (by rw [List.all_cons, hfl]; rfl)
      cases r <;> exact h2
/-- a call whose arguments and result are data -/
theorem callI {W : Wp} {ss : SG} {e : D → Prop} (hi : ∀ j, Sl.pt j ∉ ss) (h : W ss [] fun S' r => S' = [] ∧ ∃ d, r = .im d ∧ e d) (q : ∀ d, e d → Q S (.im d)) (hm : ∀ R R' : SC → Rt → Prop, (∀ S' r, R S' r → R' S' r) → W ss [] R → W ss [] R') : CallD c W ss S Q :=
  call0 hi (hm _ _ (fun S' r ⟨_, d, e1, e2⟩ _ => by subst e1; exact q d e2) h)
theorem od_notN {s : Sl} (hs : (∃ k, s = .pt k) ∨ ∃ e, s = .im e ∧ e ≠ nD) (q : Q S (.im (bD true))) : OpD c rNotN0 S s (.im nD) Q := od_isN (neg := true) hs q
theorem od_notN0 (q : Q S (.im (bD false))) : OpD c rNotN0 S (.im nD) (.im nD) Q := od_isN0 (neg := true) q
theorem od_isNo {s : Sl} (hs : (∃ k, s = .pt k) ∨ ∃ e, s = .im e ∧ e ≠ nD) (q : Q S (.im (bD false))) : OpD c rIsN0 S s (.im nD) Q := od_isN (neg := false) hs q
theorem od_isNo0 (q : Q S (.im (bD true))) : OpD c rIsN0 S (.im nD) (.im nD) Q := od_isN0 (neg := false) q
theorem re_neg (h : RE c ta G S fun S1 s => ∃ i, s = .im (iD i) ∧ Q S1 (.im (iD (-i)))) : RE c (tUn (rU fun i => .int (-i)) ta) G S Q := by
  intro F I ps σ τ T H Qv hl d k
  refine h F I ps σ τ T H _ hl d fun I1 ps1 S1 s x H1 h1 d1 => ?_
  obtain ⟨i, rfl, q⟩ := h1
  obtain ⟨d2, ox⟩ := d1.drop1
  exact ⟨i, ox.holds.v_inv, k I1 ps1 S1 _ _ H1 q (d2.push1 (.im (.v _)))⟩
theorem not_nD {d : D} (h : d ≠ nD) : (∃ k, Sl.im d = .pt k) ∨ ∃ e, Sl.im d = .im e ∧ e ≠ nD := .inr ⟨d, rfl, h⟩
/-- a for over data whose body changes the same slots and cells: the invariant by what was gone through -/
theorem rs_forD {wi : TI} {g : TG} {tbd : TS} (h : RW c wi G S fun S1 ds => ∃ Iv : Nat → SG → SC → Prop, Iv 0 G S1 ∧
    (∀ i e G' S', ds[i]? = some e → Iv i G' S' → RG c g (.im e) G' S' fun G2 S2 => RS c tbd G2 S2 { P with nx := Iv (i + 1), ct := Iv (i + 1), bk := P.nx }) ∧ ∀ G' S', Iv ds.length G' S' → P.nx G' S') : RS c (tFor wi g tbd) G S P := rs_for h
end
end Dt

set_option Elab.async false
set_option linter.all false
set_option maxRecDepth 100000
set_option maxHeartbeats 1000000
/-! Lists of lists that are still being changed. -/
namespace Dt
open PySem PySem.Spec PyProof.Rows L2
section
variable {c : Cn} {F : Fr} {I I' : Hp} {ps ps' : List Addr} {σ τ σ' : L2.St} {H H' : Hp} {G T G' : SG} {S S' : SC} {te ta tb tk tv : TE} {tt tu : TT} {Q : SC → Sl → Prop} {P : Po} {ts tu' : TS}
theorem iteY0 {b : Bool} {A B : Prop} (h : b = true) (k : A) : if b = true then A else B := by rw [if_pos h]; exact k
/-- [[] for x in walked]: one's own lists in one's own list -/
theorem re_lcP {wi : TI} {j : Nat} (h : RW c wi G S fun S1 ds => ds.length ≤ 1000000 ∧ Q (S1 ++ List.replicate ds.length (.lst []) ++ [.ptrs ((List.range ds.length).map (S1.length + ·))]) (.pt (S1.length + ds.length))) : RE c (tLc wi (gName j) tYes (tLst tNil) [j]) G S Q := by
  intro F I ps σ τ T H Qv hl d k
  refine h F I ps σ τ T H _ hl d fun I1 ps1 S1 ds J H1 h1 d1 w => ?_
  obtain ⟨hz, hq⟩ := h1
  obtain ⟨Gd, Y, hw, hg, hy⟩ := w.ex
  intro p hp
  have hF : F.H p = none := d1.freshF hp
  have hI1 : I1 p = none := d1.ex.none hp
  have hps1 : p ∉ ps1 := fun z => d1.th p z hp
  refine lc_it hw (fun i H' => ∃ (qs : List Addr) (I' : Hp), qs.length = i ∧ Ex I1 I' ∧ SdI c F I' (ps1 ++ qs) (σ ++ τ) H' (G ++ T) (S1 ++ List.replicate i (.lst [])) ∧ H' p = some (.lst (qs.map V.ref)) ∧ I' p = none ∧ p ∉ ps1 ++ qs)
    ⟨[], I1, rfl, Ex.refl _, by simpa using d1.other hps1 hI1 (.inl hF), upd_same, hI1, by simpa using hps1⟩ ?_ ?_ ?_
  · rintro i H' _ ⟨qs, I', _, e, d', _⟩
    exact hg I' H' e d'.ex
  · rintro i x H' H2 hi ⟨qs, I', hql, e, d', hHp, hIp, hpp⟩ y
    obtain ⟨I2, e2, d2⟩ := hy ⟨I', H', ps1 ++ qs⟩ I' (ps1 ++ qs) _ H' _ _ i x H2 ds[i] e d'.ground (List.getElem?_eq_getElem hi) y
    have d2b := d'.back d2.drop1.1
    have hH2 : H2 p = some (.lst (qs.map V.ref)) := d2.fh p _ hHp hpp
    have hI2 : I2 p = none := d2.fn p (by show H' p ≠ none; rw [hHp]; exact fun z => by cases z) hIp hpp
    show L2.wipe ((L2.wipe σ [j]).set j (some x)) [j] = L2.wipe σ [j] ∧ _
    refine ⟨by rw [wipe_set (by simp), wipe_wipe], ?_⟩
    unfold tYes
    dsimp only
    rw [if_pos rfl]
    refine ⟨by simp, fun q hq => ?_⟩
    have hqp : q ≠ p := fun z => by rw [z, hH2] at hq; cases hq
    have d3 : SdI c F I2 (ps1 ++ qs ++ [q]) (σ ++ τ) (upd H2 q (.lst [])) (G ++ T) (S1 ++ List.replicate i (.lst []) ++ [.lst []]) := d2b.newCell hq ⟨d2b.ex.none hq, [], upd_same, .nil⟩
    have hp3 : upd H2 q (.lst []) p = some (.lst (qs.map V.ref)) := by rw [upd_ne hqp.symm]; exact hH2
    have hpq : p ∉ ps1 ++ qs ++ [q] := fun z => by
      rcases List.mem_append.mp z with z | z
      · exact hpp z
      · have : p = q := by simpa using z
        exact hqp this.symm
    refine ⟨_, hp3, by rw [List.length_map, hql]; exact Nat.lt_of_lt_of_le hi (Nat.le_trans hz (by decide)), qs ++ [q], I2, by rw [List.length_append, hql]; rfl, e.trans e2, ?_, ?_, hI2, by rw [← List.append_assoc]; exact hpq⟩
    · have e3 : S1 ++ List.replicate (i + 1) (Cell.lst []) = S1 ++ List.replicate i (.lst []) ++ [.lst []] := by rw [List.replicate_succ', List.append_assoc]
      rw [e3, ← List.append_assoc]
      exact d3.other hpq hI2 (.inl hF)
    · rw [upd_same, List.map_append]; rfl
  · rintro H' ⟨qs, I', hql, e, d', hHp, hIp, hpp⟩
    have hlen := d1.len
    have d2 : SdI c F I' (ps1 ++ qs ++ [p]) (σ ++ τ) H' (G ++ T) (S1 ++ List.replicate ds.length (.lst []) ++ [.ptrs ((List.range ds.length).map (S1.length + ·))]) := by
      refine ⟨d'.ex, d'.fi, d'.fh, d'.fn, d'.pre.trans (List.prefix_append _ _), fun q hq' => ?_, fun q hq' => ?_, ?_, by have := d'.len; simp at this ⊢; omega, fun jj q y hj hy => ?_, d'.ok.mono (Ex.refl _) (List.prefix_append _ _)⟩
      · rcases List.mem_append.mp hq' with z | z
        · exact d'.new q z
        · have : q = p := by simpa using z
          subst this
          exact .inr hF
      · rcases List.mem_append.mp hq' with z | z
        · exact d'.th q z
        · have : q = p := by simpa using z
          subst this
          rw [hHp]; exact fun z => by cases z
      · rw [List.nodup_append]
        refine ⟨d'.nd, by simp, fun a ha b hb => ?_⟩
        have : b = p := by simpa using hb
        subst this
        exact fun z => hpp (z ▸ ha)
      · rcases Nat.lt_or_ge jj (ps1 ++ qs).length with hj2 | hj2
        · rw [List.getElem?_append_left hj2] at hj
          rw [List.getElem?_append_left (by rw [← d'.len]; exact hj2)] at hy
          exact (d'.cl jj q y hj hy).grow (Ex.refl _) (List.prefix_append _ _) (fun _ _ h => h) fun _ h => h
        · rw [List.getElem?_append_right hj2] at hj
          rw [List.getElem?_append_right (by rw [← d'.len]; exact hj2), ← d'.len] at hy
          cases e' : jj - (ps1 ++ qs).length with
          | zero =>
            rw [e'] at hj hy
            simp at hj hy
            subst hj hy
            refine ⟨hIp, qs, hHp, ?_⟩
            rw [List.map_map]
            refine List.ext_getElem? fun i => ?_
            rw [List.getElem?_map, List.getElem?_map]
            by_cases hi : i < ds.length
            · rw [List.getElem?_range hi, List.getElem?_eq_getElem (by omega)]
              show some ((ps1 ++ qs ++ [p])[S1.length + i]?) = some (some qs[i])
              rw [List.append_assoc, List.getElem?_append_right (by omega), ← hlen, Nat.add_sub_cancel_left, List.getElem?_append_left (by omega), List.getElem?_eq_getElem (by omega)]
            · rw [List.getElem?_eq_none (by simp; omega), List.getElem?_eq_none (by omega)]; rfl
          | succ m => rw [e'] at hj; simp at hj
    refine k I' (ps1 ++ qs ++ [p]) _ _ _ H' hq (d2.push1 ⟨p, ?_, rfl⟩)
    rw [← hlen, List.getElem?_append_right (by rw [List.length_append, hql]; exact Nat.le_refl _), List.length_append, hql]
    simp
def killS : SC → List Nat → SC
  | S, [] => S
  | S, k :: ks => killS (S.set k .dead) ks
theorem killS_get : ∀ {S : SC} {ks : List Nat} {k : Nat}, k ∉ ks → (killS S ks)[k]? = S[k]?
  | S, [], k, _ => rfl
  | S, j :: ks, k, h => by
    show (killS (S.set j .dead) ks)[k]? = _
    rw [killS_get fun z => h (List.mem_cons_of_mem _ z), List.getElem?_set_ne (fun e => h (by rw [e]; exact List.mem_cons_self))]
theorem frz_no {k : Nat} {e : D} : ∀ {G : SG}, Sl.pt k ∉ G → G.map (frz k e) = G
  | [], _ => rfl
  | s :: G, h => by
    rw [List.map_cons, frz_no fun z => h (List.mem_cons_of_mem _ z)]
    cases s with
    | no => rfl
    | im d => rfl
    | pt j =>
      have : j ≠ k := fun z => h (by rw [z]; exact List.mem_cons_self)
      show (if j = k then Sl.im e else Sl.pt j) :: G = _
      rw [if_neg this]
theorem SdI.freezeAll : ∀ (zs : List (Nat × List D)) {I : Hp} {S : SC}, SdI c F I ps σ H G S → (∀ z ∈ zs, S[z.1]? = some (.lst z.2)) → (zs.map (·.1)).Nodup → (∀ z ∈ zs, Sl.pt z.1 ∉ G) →
    ∃ I', Ex I I' ∧ SdI c F I' ps σ H G (killS S (zs.map (·.1))) ∧ ∀ z ∈ zs, ∃ p, ps[z.1]? = some p ∧ Holds c.K I' (.ref p) (.lst z.2)
  | [], I, S, d, _, _, _ => ⟨I, Ex.refl _, d, fun z h => by cases h⟩
  | z :: zs, I, S, d, h1, h2, h3 => by
    obtain ⟨I1, p, hp, e1, hh, d1⟩ := d.freeze (h1 z List.mem_cons_self) rfl
    rw [frz_no (h3 z List.mem_cons_self)] at d1
    have nd := List.nodup_cons.mp h2
    obtain ⟨I2, e2, d2, hall⟩ := SdI.freezeAll zs d1 (fun y hy => by
      have hne : z.1 ≠ y.1 := fun e => nd.1 (List.mem_map.mpr ⟨y, hy, e.symm⟩)
      rw [List.getElem?_set_ne hne]
      exact h1 y (List.mem_cons_of_mem _ hy)) nd.2 fun y hy => h3 y (List.mem_cons_of_mem _ hy)
    refine ⟨I2, e1.trans e2, d2, fun y hy => ?_⟩
    rcases List.mem_cons.mp hy with e | m
    · rw [e]; exact ⟨p, hp, hh.mono e2⟩
    · exact hall y m
/-- a list of one's own lists is not changed any more -/
theorem rs_freezeP {k : Nat} {zs : List (Nat × List D)} (hk : S[k]? = some (.ptrs (zs.map (·.1)))) (hz : ∀ z ∈ zs, S[z.1]? = some (.lst z.2)) (nd : (zs.map (·.1)).Nodup) (hkn : k ∉ zs.map (·.1)) (hG : ∀ z ∈ zs, Sl.pt z.1 ∉ G)
    (h : RS c ts (G.map (frz k (.lst (zs.map fun z => .lst z.2)))) ((killS S (zs.map (·.1))).set k .dead) P) : RS c ts G S P := by
  intro F I ps σ τ T H Dn hl hT d kk
  have hT' : ∀ j, Sl.pt j ∉ T := fun j z => by
    have := List.all_eq_true.mp hT _ z
    cases this
  obtain ⟨I', e1, d1, hall⟩ := d.freezeAll zs hz nd fun z hz' hm => (List.mem_append.mp hm).elim (hG z hz') (hT' _)
  obtain ⟨p, hp, hc⟩ := d1.at_ (k := k) (by rw [killS_get hkn]; exact hk)
  obtain ⟨hI, qs, ho, hqs⟩ := hc
  have hh : HoldsL c.K (upd I' p (.lst (qs.map V.ref))) (qs.map V.ref) (zs.map fun z => .lst z.2) := by
    refine HoldsL.mono (Ex.new hI) ?_
    have gen : ∀ (zs : List (Nat × List D)) (qs : List Addr), (zs.map (·.1)).map (ps[·]?) = qs.map some → (∀ z ∈ zs, ∃ p, ps[z.1]? = some p ∧ Holds c.K I' (.ref p) (.lst z.2)) → HoldsL c.K I' (qs.map V.ref) (zs.map fun z => .lst z.2) := by
      intro zs
      induction zs with
      | nil => intro qs h _; cases qs with | nil => exact .nil | cons _ _ => cases h
      | cons z zs ih =>
        intro qs h hz
        cases qs with
        | nil => cases h
        | cons q qs =>
          rw [List.map_cons, List.map_cons, List.map_cons] at h
          injection h with h1 h2
          obtain ⟨p', hp', hh⟩ := hz z List.mem_cons_self
          rw [hp'] at h1
          injection h1 with h1
          rw [List.map_cons, List.map_cons, ← h1]
          exact .cons hh (ih qs h2 fun y hy => hz y (List.mem_cons_of_mem _ hy))
    exact gen zs qs hqs hall
  have d2 := d1.freezeWith hp hI ho (.lst upd_same hh)
  rw [List.map_append, frz_T hT] at d2
  exact h F _ ps σ τ T H Dn (by rw [List.length_map]; exact hl) hT d2 kk
end
end Dt

set_option Elab.async false
set_option linter.all false
set_option maxRecDepth 100000
set_option maxHeartbeats 1000000
/-! max, min, sum, sorted pairs, lists of two ints in order. -/
namespace Dt
open PySem PySem.Spec PyProof.Rows L2

section
variable {X : Cx}
/-- min(t), a tuple of ints -/
def rMinT (K : PySem.W.Frag) : List V → Hp → VK → Prop := fun vs H Q => ∃ (a : Addr) (ns : List Int), vs = [V.ref a] ∧ SqT K H a (ns.map V.int) ∧ 0 < ns.length ∧ ∀ m, m ∈ ns → (∀ y, y ∈ ns → m ≤ y) → Q (.int m) H
theorem readsAll_ints {h : Heap} : ∀ {vs : List Value} {ns : List Int}, Vals (ns.map V.int) vs → ∃ as, ReadsAll h vs (ns.map PyData.int) as
  | [], [], _ => ⟨_, .nil⟩
  | _, n :: ns, r => by
    cases r with
    | cons r1 r2 =>
      obtain ⟨t, rfl⟩ := r1
      obtain ⟨as, h2⟩ := readsAll_ints r2
      exact ⟨_, .cons (.int n t) h2⟩
  | _ :: _, [], r => by cases r
theorem minD_ints : ∀ (ns : List Int) (n : Int), ∃ m, PySem.W.minD (.int n) (ns.map PyData.int) = .int m ∧ (m = n ∨ m ∈ ns) ∧ m ≤ n ∧ ∀ y ∈ ns, m ≤ y
  | [], n => ⟨n, rfl, .inl rfl, Int.le_refl _, fun y h => by cases h⟩
  | k :: ns, n => by
    have e : PySem.W.minD (.int n) ((k :: ns).map PyData.int) = PySem.W.minD (if PySem.W.dataLt (.int k) (.int n) = true then .int k else .int n) (ns.map PyData.int) := by
      unfold PySem.W.minD
      rfl
    rw [PySem.W.dataLt_int] at e
    by_cases h : k < n
    · rw [decide_eq_true h, if_pos rfl] at e
      obtain ⟨m, h1, h2, h3, h4⟩ := minD_ints ns k
      refine ⟨m, e.trans h1, .inr (h2.elim (fun z => z ▸ List.mem_cons_self) (List.mem_cons_of_mem _)), by omega, fun y hy => ?_⟩
      rcases List.mem_cons.mp hy with z | z
      · omega
      · exact h4 y z
    · rw [decide_eq_false h, if_neg (by decide)] at e
      obtain ⟨m, h1, h2, h3, h4⟩ := minD_ints ns n
      refine ⟨m, e.trans h1, h2.elim .inl fun z => .inr (List.mem_cons_of_mem _ z), h3, fun y hy => ?_⟩
      rcases List.mem_cons.mp hy with z | z
      · omega
      · exact h4 y z
theorem depthAll_ints : ∀ ns : List Int, PyData.depthAll (ns.map PyData.int) ≤ 1
  | [] => by simp [PyData.depthAll]
  | n :: ns => by
    have := depthAll_ints ns
    simp only [List.map_cons, PyData.depthAll, PyData.depth]
    omega
theorem cr_minT (hc : X.calm = true) (hu : X.A.units + 64 < cLine) : CallR X (.builtin "min") (rMinT X.K) := by
  intro pins s σ H vs us Q I r h
  obtain ⟨a, ns, rfl, hs, hne, q⟩ := h
  obtain ⟨its, rv, ht, _⟩ := I.tuple hs
  rw [Vals.ref1 r]
  cases ns with
  | nil => simp at hne
  | cons n ns =>
    obtain ⟨as, hr⟩ := readsAll_ints (h := s.heap) (ns := n :: ns) rv
    have hd := depthAll_ints (n :: ns)
    have hl : s.heap.IsTuple a its.toArray := by
      obtain ⟨o, e, c, n, d⟩ := ht
      exact ⟨o, e, c, n, d⟩
    refine PySem.W.min_tuple_data (x := .int n) (xs := ns.map PyData.int) (as := as) (I.ok.hd hc) hl (by simpa using hr) ?_ (by
      have hd' : PyData.depthAll (PyData.int n :: ns.map PyData.int) ≤ 1 := hd
      omega) fun i v h' tk bs hv hrd hk => ?_
    · have gi : ∀ z, z ∈ PyData.int n :: ns.map PyData.int → ∃ k, z = .int k := fun z hz => by
        rcases List.mem_cons.mp hz with e | e
        · exact ⟨n, e⟩
        · obtain ⟨k, _, e⟩ := List.mem_map.mp e
          exact ⟨k, e.symm⟩
      refine ⟨fun x hx y hy => ?_, fun x hx => ?_⟩
      · obtain ⟨k, rfl⟩ := gi x hx
        obtain ⟨k', rfl⟩ := gi y hy
        simp [PySem.W.alike]
      · obtain ⟨k, rfl⟩ := gi x hx
        intro z
        cases z
    · obtain ⟨m, e, h1, h2, h3⟩ := minD_ints ns n
      rw [e] at hrd
      cases hrd
      refine ⟨.int m, H, I.kept hk, ⟨_, rfl⟩, q m (h1.elim (fun z => z ▸ List.mem_cons_self) (List.mem_cons_of_mem _)) fun y hy => ?_⟩
      rcases List.mem_cons.mp hy with z | z
      · omega
      · exact h3 y z
/-- [a, b] <= [e, d] -/
def rLeD (K : PySem.W.Frag) : R2 := fun x y H Q => ∃ (p q : Addr) (a b e d : Int), x = .ref p ∧ y = .ref q ∧ SqL K H p [.int a, .int b] ∧ SqL K H q [.int e, .int d] ∧ Q (.bl (decide (a < e ∨ (a = e ∧ b ≤ d)))) H
def rGeD (K : PySem.W.Frag) : R2 := fun x y H Q => ∃ (p q : Addr) (a b e d : Int), x = .ref p ∧ y = .ref q ∧ SqL K H p [.int a, .int b] ∧ SqL K H q [.int e, .int d] ∧ Q (.bl (decide (e < a ∨ (a = e ∧ d ≤ b)))) H
theorem lt_two (a b e d : Int) : PySem.W.dataLt (.list [.int a, .int b]) (.list [.int e, .int d]) = decide (a < e ∨ (a = e ∧ b < d)) := by
  rw [PySem.W.dataLt_list, PySem.W.dataLt_cons (by simp [PySem.W.alike]), PySem.W.dataLt_cons (by simp [PySem.W.alike]), PySem.W.dataLt_int, PySem.W.dataLt_int]
  have e0 : PyProof.Rows.lexLt PyProof.Rows.itemOrd (PySem.W.keyToksAll []) (PySem.W.keyToksAll []) = false := rfl
  rw [e0]
  by_cases h : a = e
  · subst h
    have : PyData.eqv (.int a) (.int a) = true := by simp [PyData.eqv]
    rw [if_pos this]
    by_cases h2 : b = d
    · subst h2
      have : PyData.eqv (.int b) (.int b) = true := by simp [PyData.eqv]
      rw [if_pos this]
      simp
    · have : ¬ PyData.eqv (.int b) (.int d) = true := by simp [PyData.eqv, h2]
      rw [if_neg this]
      simp
  · have : ¬ PyData.eqv (.int a) (.int e) = true := by simp [PyData.eqv, h]
    rw [if_neg this]
    simp [h]
theorem dp_two {K : PySem.W.Frag} {H : Hp} {p : Addr} {a b : Int} (h : SqL K H p [.int a, .int b]) : Dp K H (.ref p) (.list [.int a, .int b]) := .lst h (.cons (.int a) (.cons (.int b) .nil))
theorem alike_two (a b e d : Int) : PySem.W.alike (.list [.int a, .int b]) (.list [.int e, .int d]) = true := by simp [PySem.W.alike, PySem.W.alikeAll]
theorem depth_two (a b : Int) : PyData.depth (.list [.int a, .int b]) ≤ 3 := by simp [PyData.depth, PyData.depthAll]
theorem op_leD (hu : X.A.units + 64 < cLine) : OpR X (compareOp .LtE) (rLeD X.K) := by
  intro pins s σ H x y v u Q I rx ry h
  obtain ⟨p, q, a, b, e, d, rfl, rfl, h1, h2, hq⟩ := h
  obtain ⟨as, r1⟩ := Dp.reads I _ _ v (dp_two h1) rx
  obtain ⟨bs, r2⟩ := Dp.reads I _ _ u (dp_two h2) ry
  have hd := depth_two a b
  refine PySem.W.rcLe_alike _ _ X.A s _ _ _ _ r1 r2 (alike_two a b e d) (by intro z; cases z) (by omega) X.prog X.w _ _ ?_
  rw [lt_two]
  have : (!decide (e < a ∨ (e = a ∧ d < b))) = decide (a < e ∨ (a = e ∧ b ≤ d)) := by
    rw [← decide_not]
    exact decide_eq_decide.mpr (by omega)
  rw [this]
  exact ⟨.bl _, H, I, rfl, hq⟩
theorem op_geD (hu : X.A.units + 64 < cLine) : OpR X (compareOp .GtE) (rGeD X.K) := by
  intro pins s σ H x y v u Q I rx ry h
  obtain ⟨p, q, a, b, e, d, rfl, rfl, h1, h2, hq⟩ := h
  obtain ⟨as, r1⟩ := Dp.reads I _ _ v (dp_two h1) rx
  obtain ⟨bs, r2⟩ := Dp.reads I _ _ u (dp_two h2) ry
  have hd := depth_two a b
  refine PySem.W.rcGe_alike _ _ X.A s _ _ _ _ r1 r2 (alike_two a b e d) (by intro z; cases z) (by omega) X.prog X.w _ _ ?_
  rw [lt_two]
  have : (!decide (a < e ∨ (a = e ∧ b < d))) = decide (e < a ∨ (a = e ∧ d ≤ b)) := by
    rw [← decide_not]
    exact decide_eq_decide.mpr (by omega)
  rw [this]
  exact ⟨.bl _, H, I, rfl, hq⟩
end
section
variable {X : Cx}
/-- name = {k: v for ..} on one line, the name a local: stored ahead of the block's end -/
theorem ps_setDc {n : Nat} {nm : Str} {pn : Pos} {kx vx tg it : Expr} {fs : List Expr} {sc : Scope} {own : List (Str × Nat)} {dp sp : Pos} {wi : TI} {g : TG} {tt : TT} {tk tv : TE} (hc : X.calm = true) (nd : X.N.Nodup) (hn : X.N[n]? = some nm) (hl : X.env.scope.names.lookup nm = some .local)
    (sw : swapsWith (.DictComp kx vx [⟨tg, it, fs, 0⟩] sc dp) (some (.Name nm pn)) sp.line X.env = pure true) (pi : PI X tg it wi) (ok : BlkOk X.N X.env.scope sc own)
    (pg : ∀ s H C cl fp, PG (X.blk s H sc (compEnvC sc cl C X.env) fp) tg g) (pt : ∀ s H C cl fp, PTs (X.blk s H sc (compEnvC sc cl C X.env) fp) fs tt) (pk : ∀ s H C cl fp, PE (X.blk s H sc (compEnvC sc cl C X.env) fp) kx tk)
    (pv : ∀ s H C cl fp, PE (X.blk s H sc (compEnvC sc cl C X.env) fp) vx tv) (fo : ∀ x, foldedSetIterable it X.env x = pure x := by intro _; rfl) :
    PS X (.Assign [.Name nm pn] (.DictComp kx vx [⟨tg, it, fs, 0⟩] sc dp) sp) (tAsg (tDc wi g tt tk tv (own.map (·.2))) (gName n)) := by
  constructor
  intro pins s σ H D I h
  rw [exec_Assign_Name_used _ _ _ _ sw]
  refine wpAny_bind (wpAny_standAt ?_)
  refine wpAny_bind ?_
  show wpAny _ X.A (comprehension (.DictComp kx vx [⟨tg, it, fs, 0⟩] sc dp) sc X.env (firstIterPos [⟨tg, it, fs, 0⟩] dp) newDict false (eval it X.env) (some (assign (.Name nm pn) X.env)) >>= fun _ => pure ()) _ _ s
  have h : tDc wi g tt tk tv (own.map (·.2)) σ H (fun x H1 => gName n x σ H1 D.nx) := h
  refine wpAny_bind (thn (dc_core (Qf := fun _ s' => SP X pins D .next s') hc nd I pi ok pg pt pk pv fo h ?_) fun _ s' q => wpAny_pure (wpAny_pure q))
  intro L C s' m H' I' q hm ⟨f0, f1, f2, f3, f4, f5⟩
  show wpAny _ _ (assign (.Name nm pn) X.env (.ref L)) _ _ _
  refine wpAny_assign_Name (store_ok2 (v := V.ref L) I' nd hn (.inl hl) rfl (fun s2 I2 ⟨a, sb, ha⟩ => ?_) (.inr hl))
  have ne : C ≠ a := ha.elim (fun z => by rw [z]; exact f1) fun z e => f4 nm a z e.symm
  exact ⟨m, hm.sameBut sb ne, fun h3 sb3 => ⟨_, H', I2.turned (t' := s2.toks) (fun b o hb e => (sb3.2 b hb).trans e) f0 f1 f3 f4 f5, q⟩⟩
theorem sw_trueD {kx vx : Expr} {gs : List Comprehension} {sc : Scope} {dp pn : Pos} {nm : Str} {l : Nat} {env : Env} (hk : env.scope.kind = .function) (hy : env.scope.names.lookup nm = some .local) (hl : (pn.line == dp.line) = true)
    (ha : (sc.names.any fun (n, k) => n == nm && (k == .local || k == .cell)) = false) : swapsWith (.DictComp kx vx gs sc dp) (some (.Name nm pn)) l env = pure true := by
  have k1 : env.kindOf nm = some .local := hy
  have k2 : env.blockKind = .function := by unfold Env.blockKind; rw [hk]; rfl
  unfold swapsWith
  simp only [k2, k1, ha, Expr.pos, hl]
  rfl
end
section
variable {c : Cn} {F : Fr} {I I' : Hp} {ps ps' : List Addr} {σ τ σ' : L2.St} {H H' : Hp} {G T G' : SG} {S S' : SC} {te ta tb tk tv : TE} {tt tu : TT} {Q : SC → Sl → Prop} {P : Po} {ts : TS}
theorem ints_inv {xs : List V} {ns : List Int} (h : HoldsL c.K I xs (ns.map iD)) : xs = ns.map V.int := by
  refine HoldsL.v_inv (K := c.K) (I := I) ?_
  rw [List.map_map]
  exact h
theorem cb_maxL {s : Sl} {ns : List Int} (h : LstOf S s (ns.map iD)) (h0 : 0 < ns.length) (q : ∀ m, m ∈ ns → (∀ y ∈ ns, y ≤ m) → Q S (.im (iD m))) : CbD c (rMax c.K) [s] S Q := by
  intro F I ps σ G H vs Qv d hs k
  obtain ⟨v, rfl, ok⟩ := slots1 hs
  obtain ⟨p, xs, rfl, h1, h2⟩ := lst_at d ok h
  have e := ints_inv h2
  subst e
  exact ⟨p, ns, rfl, SqL.of h1, h0, fun m hm hle => k I ps S _ _ H (q m hm hle) (d.push1 (.im (.v _)))⟩
theorem cb_sumL {s : Sl} {ns : List Int} (h : LstOf S s (ns.map iD)) (q : Q S (.im (iD ns.sum))) : CbD c (rSum c.K) [s] S Q := by
  intro F I ps σ G H vs Qv d hs k
  obtain ⟨v, rfl, ok⟩ := slots1 hs
  obtain ⟨p, xs, rfl, h1, h2⟩ := lst_at d ok h
  have e := ints_inv h2
  subst e
  exact ⟨p, ns, rfl, SqL.of h1, k I ps S _ _ H q (d.push1 (.im (.v _)))⟩
theorem cb_minT {ns : List Int} (h0 : 0 < ns.length) (q : ∀ m, m ∈ ns → (∀ y ∈ ns, m ≤ y) → Q S (.im (iD m))) : CbD c (rMinT c.K) [.im (.tup (ns.map iD))] S Q := by
  intro F I ps σ G H vs Qv d hs k
  obtain ⟨v, rfl, ok⟩ := slots1 hs
  obtain ⟨p, xs, rfl, h1, h2⟩ := tup_at d.ex ok.holds
  have e := ints_inv h2
  subst e
  exact ⟨p, ns, rfl, h1, h0, fun m hm hle => k I ps S _ _ H (q m hm hle) (d.push1 (.im (.v _)))⟩
theorem two_inv {xs : List V} {a b : Int} (h : HoldsL c.K I xs [iD a, iD b]) : xs = [.int a, .int b] := ints_inv (ns := [a, b]) h
theorem od_leD {s t : Sl} {a b e d : Int} (h : LstOf S s [iD a, iD b]) (h' : LstOf S t [iD e, iD d]) (q : Q S (.im (bD (decide (a < e ∨ (a = e ∧ b ≤ d)))))) : OpD c (rLeD c.K) S s t Q := by
  intro F I ps σ G H x y Qv dd hs ht k
  obtain ⟨p, xs, rfl, h1, h2⟩ := lst_at dd hs h
  obtain ⟨p', xs', rfl, h1', h2'⟩ := lst_at dd ht h'
  have e1 := two_inv h2
  have e2 := two_inv h2'
  subst e1 e2
  exact ⟨p, p', a, b, e, d, rfl, rfl, SqL.of h1, SqL.of h1', k I ps S _ _ H q (dd.push1 (.im (.v _)))⟩
theorem od_geD {s t : Sl} {a b e d : Int} (h : LstOf S s [iD a, iD b]) (h' : LstOf S t [iD e, iD d]) (q : Q S (.im (bD (decide (e < a ∨ (a = e ∧ d ≤ b)))))) : OpD c (rGeD c.K) S s t Q := by
  intro F I ps σ G H x y Qv dd hs ht k
  obtain ⟨p, xs, rfl, h1, h2⟩ := lst_at dd hs h
  obtain ⟨p', xs', rfl, h1', h2'⟩ := lst_at dd ht h'
  have e1 := two_inv h2
  have e2 := two_inv h2'
  subst e1 e2
  exact ⟨p, p', a, b, e, d, rfl, rfl, SqL.of h1, SqL.of h1', k I ps S _ _ H q (dd.push1 (.im (.v _)))⟩
/-! ### sorted pairs -/
abbrev pI (p : Int × Int) : D := .tup [iD p.1, iD p.2]
def pI_data (p : Int × Int) : PyData := .tuple [.int p.1, .int p.2]
theorem dp_pI (ex : Ex I H) {x : V} {p : Int × Int} (h : Holds c.K I x (pI p)) : Dp c.K H x (pI_data p) := by
  obtain ⟨a, xs, rfl, h1, h2⟩ := tup_at ex h
  have e := two_inv h2
  subst e
  exact .tup h1 (.cons (.int _) (.cons (.int _) .nil))
theorem refs_pI : ∀ {xs : List V} {l : List (Int × Int)}, HoldsL c.K I xs (l.map pI) → ∃ bs : List Addr, bs.length = l.length ∧ xs = bs.map V.ref ∧ ∀ b p, (b, p) ∈ bs.zip l → Holds c.K I (.ref b) (pI p)
  | _, [], .nil => ⟨[], rfl, rfl, fun _ _ h => by cases h⟩
  | _, p :: l, .cons h1 h2 => by
    obtain ⟨bs, e0, e1, e2⟩ := refs_pI h2
    obtain ⟨b, ys, eb, _, _⟩ := tup_at (Ex.refl _) h1
    refine ⟨b :: bs, by rw [List.length_cons, List.length_cons, e0], by rw [eb, e1]; rfl, fun b' p' h => ?_⟩
    rw [List.zip_cons_cons] at h
    rcases List.mem_cons.mp h with z | z
    · cases z; exact eb ▸ h1
    · exact e2 b' p' z
theorem alike_pI (p q : Int × Int) : PySem.W.alike (pI_data p) (pI_data q) = true := by simp [pI_data, PySem.W.alike, PySem.W.alikeAll]
theorem depth_pI (p : Int × Int) : (pI_data p).depth ≤ 8 := by simp [pI_data, PyData.depth, PyData.depthAll]
theorem perm_map_of {α β : Type} (f : α → β) (l : List α) (m : List β) (hp : m.Perm (l.map f)) : ∃ l' : List α, l'.Perm l ∧ m = l'.map f := by
  generalize hL : l.map f = L at hp
  induction hp generalizing l with
  | nil =>
    cases l with
    | nil => exact ⟨[], .nil, rfl⟩
    | cons _ _ => cases hL
  | cons x _ ih =>
    cases l with
    | nil => cases hL
    | cons a l =>
      rw [List.map_cons] at hL
      injection hL with e1 e2
      obtain ⟨l', p1, e3⟩ := ih l e2
      exact ⟨a :: l', .cons a p1, by rw [List.map_cons, e1, e3]⟩
  | swap x y m =>
    cases l with
    | nil => cases hL
    | cons a l =>
      cases l with
      | nil => cases hL
      | cons b l =>
        rw [List.map_cons, List.map_cons] at hL
        injection hL with e1 e2
        injection e2 with e2 e3
        exact ⟨b :: a :: l, .swap _ _ _, by rw [List.map_cons, List.map_cons, e1, e2, e3]⟩
  | trans _ _ ih1 ih2 =>
    obtain ⟨l2, p2, e2⟩ := ih2 l hL
    obtain ⟨l1, p1, e1⟩ := ih1 l2 e2.symm
    exact ⟨l1, p1.trans p2, e1⟩
/-- sorted(list of pairs): in some order -/
theorem cb_sortedP {s : Sl} {l : List (Int × Int)} (hl : LstOf S s (l.map pI)) (q : ∀ m : List (Int × Int), m.Perm l → Q S (.im (.lst (m.map pI)))) : CbD c (rSortedN c.K) [s] S Q := by
  intro F I ps σ G H vs Qv d hs k
  obtain ⟨v, rfl, ok⟩ := slots1 hs
  obtain ⟨p, xs, rfl, h1, h2⟩ := lst_at (S := S) d ok hl
  obtain ⟨bs, e0, rfl, hb⟩ := refs_pI h2
  have hz : ∀ b ∈ (bs.zip l).map (fun b => (b.1, pI_data b.2)), ∃ a p, (a, p) ∈ bs.zip l ∧ b = (a, pI_data p) := fun b hb => by
    obtain ⟨x, hx, rfl⟩ := List.mem_map.mp hb
    exact ⟨x.1, x.2, hx, rfl⟩
  have ez : ((bs.zip l).map (fun b => (b.1, pI_data b.2))).map (fun b => V.ref b.1) = bs.map V.ref := by
    rw [List.map_map]
    have : (bs.zip l).map Prod.fst = bs := List.map_fst_zip (by omega)
    conv => rhs; rw [← this]
    rw [List.map_map]
    rfl
  refine ⟨p, (bs.zip l).map (fun b => (b.1, pI_data b.2)), rfl, SqL.of (by rw [ez]; exact h1), fun b hb' => ?_, fun x hx y hy => ?_, .inl fun x hx => ?_, fun b hb' => ?_, fun cs r pm hr => ?_⟩
  · obtain ⟨a, p', hm, rfl⟩ := hz b hb'
    exact dp_pI d.ex (hb a p' hm)
  · obtain ⟨x', hx', rfl⟩ := List.mem_map.mp hx
    obtain ⟨y', hy', rfl⟩ := List.mem_map.mp hy
    obtain ⟨a, p', _, rfl⟩ := hz x' hx'
    obtain ⟨a2, p2, _, rfl⟩ := hz y' hy'
    exact alike_pI p' p2
  · obtain ⟨x', hx', rfl⟩ := List.mem_map.mp hx
    obtain ⟨a, p', _, rfl⟩ := hz x' hx'
    exact ⟨_, _, rfl⟩
  · obtain ⟨a, p', _, rfl⟩ := hz b hb'
    exact depth_pI p'
  · obtain ⟨zs, pz, rfl⟩ := perm_map_of _ _ _ pm
    refine k _ ps S _ _ _ (q (zs.map Prod.snd) ?_) ((d.newIm hr).push1 (.im (.lst upd_same ?_)))
    · have := pz.map Prod.snd
      rwa [List.map_snd_zip (by omega)] at this
    · rw [List.map_map, List.map_map]
      have hzs : ∀ x ∈ zs, x ∈ bs.zip l := fun x hx => pz.mem_iff.mp hx
      have go : ∀ zs : List (Addr × (Int × Int)), (∀ x ∈ zs, x ∈ bs.zip l) → HoldsL c.K I (zs.map ((fun b => V.ref b.1) ∘ fun b => (b.1, pI_data b.2))) (zs.map (pI ∘ Prod.snd)) := by
        intro zs
        induction zs with
        | nil => intro _; exact .nil
        | cons x zs ih => intro h; exact .cons (hb x.1 x.2 (h x List.mem_cons_self)) (ih fun y hy => h y (List.mem_cons_of_mem _ hy))
      exact (go zs hzs).mono (Ex.new (d.ex.none hr))
end
end Dt

set_option Elab.async false
set_option linter.all false
set_option maxRecDepth 100000
set_option maxHeartbeats 1000000
namespace Dt
open PySem PySem.Spec L2

/-! ### super().__init__(.., k = v) -/
theorem wpAt_MethodCallK {prog : Program} {w : World} {A : Around} {c : Code} {E : Value → Shared → Prop} {s : Shared} {env : Env} {o : Expr} {name : Str} {apos pos : Pos} {args : List Expr} {kws : List Keyword} {pl : Sem Bool} {Q : Value → Shared → Prop}
    (h : _root_.PySem.wpAt (model prog w) A c (attributeBase o name env (eval o env)) (fun ov s₁ => wpAny (model prog w) A (getMethod ov name pl) (fun fx s₂ => wpAny (model prog w) A (callWith pos fx.1 fx.2 (backTo pos (starEach args env)) (backToKw pos (keywordEach kws env))) Q E s₂) E s₁) E s)
    (he : eval (.Call (.Attribute o name apos) args kws pos) env = (do
      let ov ← attributeBase o name env (eval o env)
      standAt apos.atName
      let (f, first) ← holding [ov] (getMethod ov name pl)
      callWith pos f first (backTo pos (starEach args env)) (backToKw pos (keywordEach kws env))) := by rfl) :
    _root_.PySem.wpAt (model prog w) A c (eval (.Call (.Attribute o name apos) args kws pos) env) Q E s := by
  rw [he]
  refine wpAt_bind (wpAt_mono h (fun ov s₁ h₁ => wpAt_of_wpAny (wpAny_bind (wpAny_standAt (wpAny_bind (wpAny_holding (wpAny_mono h₁ (fun fx s₂ h₂ => ?_) fun _ _ x => x)))))) fun _ _ x => x)
  exact h₂

/-- what the top holds of such a def: its record, its class, its code, the def behind super() -/
structure SupI (P : Program) (K : PySem.W.Frag) (mg : Str → Option Value) (qual : Str) (params : Arguments) (body : List Stmt) (scope : Scope) (C f f2 : Addr) (fd : FuncData) : Prop where
  fn : ∃ (oc : Value) (od : Option Addr) (osl : Array (Option Value)) (kV doc pm : Value) (an : Option Addr) (cda : Addr) (ct : Value) (cc : Addr) (cl : Value) (cld : Option Addr) (csl : Array (Option Value)) (ccl : Value) (cdd : Option Addr) (vs : Array Value) (ccs : Array (Option Value)) (file : Str) (tf : Tok),
    fd = PySem.W.ksFn "__init__" qual params body scope .none kV doc pm an (.ref cda) ct cc ∧ K.lookup f = some ⟨oc, od, .func fd, osl⟩ ∧ PySem.W.codeIn K (.ref cda) qual = true ∧
    K.lookup cc = some ⟨cl, cld, .cell (some (.ref C)), csl⟩ ∧ K.lookup cda = some ⟨ccl, cdd, .fields vs, ccs⟩ ∧ vs[2]? = some (.str file tf) ∧ ((P.main.file : Str) == file) = true
  cls : ∃ cd, PySem.W.clsIn K C = some cd
  sub : PySem.W.mroIn K C (.ref C) = some true
  sup : mg "super" = none
  blt : bootBuiltins "super" = some (.type "super")
  top : (P.main.scope.names.lookup ("super" : Str)).isSome = false
  any : PySem.W.nsIn K cStatics "thirdparty.any" = some none
  at_ : PySem.W.ks_superIn K C C "__init__" = some (some (.ref f2))
  ty : PySem.W.typeIn K (.ref f2) = some (.type "function")
  fi : PySem.W.fnIn K f2 = true

theorem lookup_mem {β : Type} {x : Str} {u : β} : ∀ {l : List (Str × β)}, (l.map (·.1)).Nodup → (x, u) ∈ l → l.lookup x = some u
  | [], _, h => by cases h
  | (y, v) :: l, nd, h => by
    rw [List.map_cons, List.nodup_cons] at nd
    rcases List.mem_cons.mp h with e | h
    · cases e
      simp
    · have : x ≠ y := fun e => nd.1 (e ▸ List.mem_map_of_mem (f := (·.1)) h)
      rw [List.lookup_cons]
      have hb : (x == y) = false := by simpa using this
      rw [hb]
      exact lookup_mem nd.2 h
theorem zip_sub {α β : Type} : ∀ (l : List α) (m : List β), ((l.zip m).map (·.1)).Sublist l
  | [], _ => .slnil
  | _ :: _, [] => List.nil_sublist _
  | x :: l, y :: m => (zip_sub l m).cons_cons x
theorem lookup_zip {β : Type} {ps : List Str} {us : List β} {i : Nat} {x : Str} {u : β} (nd : ps.Nodup) (h1 : ps[i]? = some x) (h2 : us[i]? = some u) : (ps.zip us).reverse.lookup x = some u := by
  refine lookup_mem ?_ ?_
  · rw [List.map_reverse]
    refine (List.reverse_perm _).nodup_iff.mpr ?_
    exact nd.sublist (zip_sub ps us)
  · refine List.mem_reverse.mpr (List.mem_of_getElem? (i := i) ?_)
    exact List.getElem?_zip_eq_some.mpr ⟨h1, h2⟩
/-- the context of such a def's body -/
def cxS (P : Program) (w : World) (K : PySem.W.Frag) (mg : Str → Option Value) (base : Heap) (N : List Str) (env : Env) (A : Around) (outer : List Env) (s : Shared) (H : Hp) (E : XK) (Q : VK) : Cx where
  prog := P
  w := w
  K := K
  mg := mg
  base := base
  A := A.deeper env
  N := N
  s_0 := s
  H_0 := H
  env := env
  outer := outer
  stack := env :: outer
  ex := []
  calm := true
  fn := fun _ => false
  pn := []
  xe := fun e s' => wpAny (model P w) (A.deeper env) (leaving env e) (fun _ s'' => CR CX0 outer P w H s Q E (.error e) s'') (fun e' s'' => CR CX0 outer P w H s Q E (.error e') s'') s'
section
variable {P : Program} {w : World} {K : PySem.W.Frag} {mg : Str → Option Value} {base : Heap}
/-- such a def keeps the promise of the def behind super(), where that hands back None -/
theorem fn_super {k n : Nat} {qual : Str} {params : Arguments} {scope : Scope} {C f f2 : Addr} {fd fd2 : FuncData} {ps ks : List Str} {sp : Sp} {p0 p1 ap pos pos' : Pos} {e1 : Expr} {es : List Expr} {kws : List Keyword} {ar : Arg} {g : List Value → List Value → List Value} {gV : List V → List V → List V}
    {t tk : TA}
    (S : SupI P K mg qual params [.Expr (.Call (.Attribute (.Call (.Name "super" p0) [] [] p1) "__init__" ap) (e1 :: es) kws pos) pos'] scope C f f2 fd)
    (F : FnOk P w K mg base CX0 k f2 fd2 ps sp) (hb : KBn K fd2 ps n ks g gV)
    (hkind : scope.kind = .function) (hco : scope.isCoroutine = false) (hgen : scope.isGenerator = false)
    (hsc : ∀ y ∈ scope.names, y.2 ≠ .cell ∧ (y.2 = .free → y.1 = ("__class__" : Str)))
    (hpar : ∀ y ∈ ps, scope.names.lookup y = some .local) (hnd : ps.Nodup)
    (hks : scope.names.lookup ("super" : Str) = some .globalImplicit) (hkc : scope.names.lookup ("__class__" : Str) = some .free)
    (har : (params.posonlyargs ++ params.args).head? = some ar) (hp0 : ps[0]? = some ar.arg)
    (hself : ∀ vs H Q E, sp vs H Q E → ∃ x r dx fs, vs = .ref x :: r ∧ H x = some (.ins C dx fs))
    (hnon : ∀ vs H Q E, sp vs H Q E → sp vs H (fun v H' => v = .non ∧ Q v H') E)
    (ht : ∀ X : Cx, X.N = ps → X.env.scope = scope → X.env.kindOf = (fun x => scope.names.lookup x) → PA X (e1 :: es) t ∧ PK X kws tk)
    (hev : ∀ env : Env, ∃ pl, eval (.Call (.Attribute (.Call (.Name "super" p0) [] [] p1) "__init__" ap) (e1 :: es) kws pos) env = (do
      let ov ← attributeBase (.Call (.Name "super" p0) [] [] p1) "__init__" env (eval (.Call (.Name "super" p0) [] [] p1) env)
      standAt ap.atName
      let (f, first) ← holding [ov] (getMethod ov "__init__" pl)
      callWith pos f first (backTo pos (starEach (e1 :: es) env)) (backToKw pos (keywordEach kws env))))
    (hint : ∀ env : Env, env.scope = scope → interactive env = false)
    (hst : ∀ env : Env, starEach (e1 :: es) env = (false, eval e1 env) :: starEach es env)
    (hpl : ∀ env : Env, ((backTo pos (starEach (e1 :: es) env)).any (·.1) || (backToKw pos (keywordEach kws env)).any (·.1.isNone)) = false)
    (hall : ∀ env : Env, (backToKw pos (keywordEach kws env)).all (·.1.isSome) = true) (hkn : ∀ env : Env, (backToKw pos (keywordEach kws env)).filterMap (·.1) = ks)
    (hrun : ∀ vs H Q E, sp vs H Q E → t (vs.map some) H fun us H1 => tk (vs.map some) H1 fun zs H2 => (∃ x r, vs = .ref x :: r ∧ us.length + 1 = n ∧ zs.length = ks.length ∧ gV (.ref x :: us) zs = vs) ∧ H2 = H) :
    FnOk P w K mg base CX0 (k + 1) f fd ps sp := by
  obtain ⟨oc, od, osl, kV, doc, pm, an, cda, ct, cc, cl, cld, csl, ccl, cdd, vs2, ccs, file, tf, rfl, lk, hcd, lcc, lcd, hv2, hfile⟩ := S.fn
  obtain ⟨cd, hC⟩ := S.cls
  refine ⟨F.len, fun A outer s H args us vs Q E hr e0 hbd r hsp => ?_⟩
  have hl := F.len _ _ _ _ hsp
  have KX : K.In s.heap := e0.mod.kin.keeps fun b o e => (e0.bs b o e).1
  have lim : s.heap.NoLimit := e0.mod.nolimit.keeps fun b o e => (e0.bs b o e).1
  refine ks_codeAny_call_defAt hr.depth (KX _ _ lk) rfl lim (PySem.W.codeRec_of KX hcd) rfl hbd (fun y hy => (hsc y hy).1) (fun y hy => hpar _ (List.of_mem_zip hy).1) (fun h₀ hns hk => ?_) hco hgen hkind
  obtain ⟨xa, rr, dx, fs, rfl, hxa⟩ := hself _ _ _ _ hsp
  let env : Env := PySem.callEnv (PySem.W.ksFn "__init__" qual params [.Expr (.Call (.Attribute (.Call (.Name "super" p0) [] [] p1) "__init__" ap) (e1 :: es) kws pos) pos'] scope .none kV doc pm an (.ref cda) ct cc) s.heap.objs.size f
  have hcells : env.cells = [(("__class__" : Str), cc)] := rfl
  have hcl : ∀ x c, env.cells.lookup x = some c → x = ("__class__" : Str) ∧ c = cc := fun x c e => by
    rw [hcells, List.lookup_cons] at e
    by_cases hx : (x == ("__class__" : Str)) = true
    · rw [hx] at e
      cases e
      exact ⟨eq_of_beq hx, rfl⟩
    · rw [Bool.eq_false_iff.mpr hx] at e
      cases e
  let X : Cx := cxS P w K mg base ps env A outer s H E Q
  have hmem : ar.arg ∈ ps := List.mem_of_getElem? hp0
  have hok : X.Ok := by
    refine ⟨e0.mod, hkind, rfl, rfl, Nat.le_refl _, fun x y c h1 h2 => (hcl x c h1).1.trans (hcl y c h2).1.symm, fun x hx => ?_, (fun x c hf => by cases hf), fun _ => hr.hd, Around.frames_deeper e0.frames, .inr ⟨rfl, rfl⟩, (fun b hb => by cases hb), e0.bs, e0.bsz, (fun b o _ hb => by cases hb), (fun b hb => by cases hb), e0.funs, e0.frf⟩
    rcases hx with hx | hx
    · exact absurd rfl (hsc _ (PySem.mem_of_lookup hx)).1
    · have := (hsc _ (PySem.mem_of_lookup hx)).2 rfl
      exact ⟨cc, by show List.lookup x [(("__class__" : Str), cc)] = _; rw [show x = ("__class__" : Str) from this]; simp⟩
  have I : Inv X [] ((V.ref xa :: rr).map some) H { s with heap := h₀, toks := s.toks + (ps.zip us).length } := by
    refine ⟨hok, rfl, e0.bare, Un.kept hk, ⟨_, hns, fun i x v h1 h2 h3 => ?_⟩, fun x c e => ⟨some (.ref C), ?_⟩, e0.hok.fresh (Nat.le_refl _), fun x c e => ?_, (fun p hp => absurd (show p ∈ ([] : List (Addr × Obj)) from hp) (by simp)), e0.hok.kept hk, ?_⟩
    · have h2' : (V.ref xa :: rr)[i]? = some v := by
        rw [List.getElem?_map] at h2
        cases e : (V.ref xa :: rr)[i]? with
        | none => rw [e] at h2; cases h2
        | some a => rw [e] at h2; cases h2; rfl
      obtain ⟨u, hu, rv⟩ := r.get h2'
      exact ⟨u, rv, .inl ⟨hpar x (List.mem_of_getElem? h1), lookup_zip hnd h1 hu⟩⟩
    · rw [(hcl x c e).2]
      exact ⟨_, hk _ _ (KX _ _ lcc), rfl⟩
    · rw [(hcl x c e).2]
      exact (e0.bs cc _ (e0.mod.kin _ _ lcc)).2
    · rw [List.length_map]; exact hl
  obtain ⟨hta, htk⟩ := ht X rfl rfl rfl
  obtain ⟨mb, hb1, hb2⟩ := e0.mod.blt
  have hD : ∃ oD, h₀.get? C = some oD ∧ oD.data = .cls cd := by
    unfold PySem.W.clsIn at hC
    split at hC
    · rename_i c d cd' sl ho
      cases hC
      exact ⟨_, hk _ _ (KX _ _ ho), rfl⟩
    · cases hC
  obtain ⟨oD, hD1, hD2⟩ := hD
  have hins := e0.hok.kept hk xa _ hxa
  obtain ⟨_, _, _, hxo, _⟩ := hins
  have KX0 : K.In h₀ := I.kIn
  have hxC : xa ≠ C := by
    rintro rfl
    rw [hD1] at hxo
    cases hxo
    cases hD2
  cases r with
  | @cons _ u0 _ ut r0 rt =>
  have r0 : u0 = Value.ref xa := r0
  subst r0
  obtain ⟨pl, hev⟩ := hev env
  refine ks_wpAt_execs_cons (ks_wpAt_Expr_any (wpAt_MethodCallK ?_ hev) (hint env rfl))
  refine ks_wpAt_super_base (env := env) hks hkc (by decide) rfl (hk _ _ (KX _ _ lk)) rfl har rfl (hk _ _ (KX _ _ lcd)) rfl hv2 hfile S.top ?_
  refine PySem.W.ks_loadName_global hkind hks (Calls.loadGlobal_builtin (env := env) (e0.mod.glob.keeps I.bk) S.sup (hb1.keeps I.bk) ((hb2 _ (by decide)).trans S.blt) ⟨rfl, ?_⟩)
  refine wpAny_loadName_free hkind hkc rfl ⟨_, hk _ _ (KX _ _ lcc), rfl⟩ ?_
  refine wpAny_loadName_local hkind (hpar _ hmem) hns (lookup_zip hnd hp0 rfl) ?_
  refine ks_wpAny_isType_cls hD1 hD2 ⟨rfl, ?_⟩
  refine ks_wpAny_call_super hD1 hD2 hxo rfl (fun c e => by cases e) (PySem.W.looks_mroIn KX0 S.sub) (fun h' e k => ?_)
  have I1 : Inv X [] ((V.ref xa :: rr).map some) H { s with heap := h', toks := s.toks + (ps.zip (Value.ref xa :: ut)).length } := I.kept k
  have KX1 : K.In h' := I1.kIn
  have hal : PySem.W.alongIn K "__init__" ((cd.mro.dropWhile (· != .ref C)).drop 1) = some (some (.ref f2)) := by
    have := S.at_
    unfold PySem.W.ks_superIn at this
    rw [hC] at this
    exact this
  obtain ⟨of, hof, hofc⟩ : ∃ of, h'.get? f2 = some of ∧ of.cls = .type "function" := by
    have ht' : (K.lookup f2).map (·.cls) = some (.type "function") := S.ty
    cases z : K.lookup f2 with
    | none => rw [z] at ht'; cases ht'
    | some of => rw [z] at ht'; exact ⟨of, KX1 _ _ z, Option.some.inj ht'⟩
  refine ks_wpAny_getMethod_super e (PySem.W.looks_opaque KX1 S.any) (l₀ := cd.mro) (fun A Q E s k q => wpAny_bind ((PySem.W.looks_clsIn KX1 hC) A _ E s k (wpAny_pure q))) rfl KX1 hal hof hofc hxC (by decide) ?_
  have I2 := ClX.met_new (g := f2) (C := xa) I1
  refine PySem.W.callWith_of (P := PySem.W.MethP K h'.objs.size f2 (.ref xa)) (hpl env) (PySem.W.keeps_M S.fi) (PyProof.Rows.evalArgs_kw2 (hall env) ?_ (hst env))
  refine thn (hta.run pos _ _ _ H _ I2 (hrun _ _ _ _ hsp)) fun us1 s3 ⟨vs1, H1, I3, r1, q1⟩ => ?_
  refine thn (htk.run pos _ _ _ H1 _ I3 q1) fun ws s4 ⟨zs, H2, I4, rz, ⟨xa', rr', e1, l1, l2, eg⟩, eH⟩ => ⟨⟨ClX.pin_at I4, I4.kIn⟩, ?_⟩
  subst eH
  injection e1 with e1 e2
  injection e1 with e1
  subst e1 e2
  rw [hkn env]
  have r2 : Vals (V.ref xa :: vs1) (Value.ref xa :: us1) := .cons rfl r1
  refine wpAny_call (PySem.W.method_call (ClX.pin_at I4) (codeAny_mono (F.run X.A X.stack s4 H2 ⟨.ref xa :: us1, ks.zip ws⟩ (g (.ref xa :: us1) ws) (gV (V.ref xa :: vs1) zs) (fun v H' => v = .non ∧ Q v H') E (hr.deeper env) I4.env0
    (hb.to s4 (.ref xa :: us1) ws I4.kIn (r2.length.symm.trans l1) (rz.length.symm.trans l2)) (hb.rel r2 rz) (by rw [eg]; exact hnon _ _ _ _ hsp)) fun r s' hq => ?_))
  cases r with
  | error e => exact hq.elim
  | ok fl =>
    cases fl with
    | ret u =>
      obtain ⟨v, H', J, rv, ev, q⟩ := ClX.unpinE (I4.after hq)
      subst ev
      refine wpAt_of_wpAny ?_
      exact wpAny_pure ⟨.non, H', J.os, J.bare, J.base, J.hok, rfl, q⟩
    | next => exact False.elim hq
    | brk => exact False.elim hq
    | cont => exact False.elim hq
end
end Dt

set_option Elab.async false
set_option linter.all false
set_option maxRecDepth 100000
set_option maxHeartbeats 1000000
/-! The head's facts: defs by names, defs over __class__, any other test. -/
namespace Dt
open PySem PySem.Spec PyProof.Rows L2
theorem nonB_ok {v : Value} (h : nonB v = true) : v = .none := by
  cases v <;> first | rfl | cases h
theorem celB_ok {K : PySem.W.Frag} {cc C : Addr} (h : celB K cc C = true) : ∃ cl cld csl, K.lookup cc = some ⟨cl, cld, .cell (some (.ref C)), csl⟩ := by
  unfold celB at h
  split at h
  · rename_i a b C' sl e
    have : C' = C := of_decide_eq_true h
    subst this
    exact ⟨_, _, _, e⟩
  · cases h
theorem filB_ok {P : Program} {K : PySem.W.Frag} {cd : Value} (h : filB P K cd = true) : ∃ a ccl cdd vs ccs file tf, cd = .ref a ∧ K.lookup a = some ⟨ccl, cdd, .fields vs, ccs⟩ ∧ vs[2]? = some (.str file tf) ∧ ((P.main.file : Str) == file) = true := by
  unfold filB at h
  split at h
  · split at h
    · split at h
      · rename_i _ a _ x y vs sl e _ file tf e2
        exact ⟨a, x, y, vs, sl, file, tf, rfl, e, e2, h⟩
      · cases h
    · cases h
  · cases h
theorem supB_ok {P : Program} {K : PySem.W.Frag} {mg : Str → Option Value} {s : SupD} (e : fnS K s.d.at_ = s.val) (h : supB P K s = true) (hn : s.d.name = "__init__") (sup : mg "super" = none) (blt : bootBuiltins "super" = some (.type "super"))
    (top : (P.main.scope.names.lookup ("super" : Str)).isSome = false) : ∃ fd, SupI P K mg s.d.qual s.d.params s.d.body s.d.scope (He.ga K s.cls) (He.fAd K s.d.at_) (He.fAd K s.to) fd := by
  unfold fnS at e
  unfold supB at h
  cases q : K.lookup (He.fAd K s.d.at_) with
  | none =>
    rw [q] at h
    cases h
  | some o =>
    obtain ⟨oc, od, dt, osl⟩ := o
    rw [q] at h e
    cases dt with
    | func fd =>
      obtain ⟨n1, n2, n3, n4, n5, n6, n7, n8, n9, n10, n11, n12, n13, n14, n15⟩ := fd
      have e2 : (some (n1, n2, n3, n4, n5, n6, n7.map (·.1), n15) : FnS) = (some (s.d.name, s.d.qual, s.d.params, FuncBody.stmts s.d.body, s.d.scope, mainGlobals, ["__class__"], builtinsNs) : FnS) := e
      simp only [Option.some.injEq, Prod.mk.injEq] at e2
      obtain ⟨h1, h2, h3, h4, h5, h6, h7, h8⟩ := e2
      obtain ⟨x, cc, rfl, hx⟩ : ∃ x cc, n7 = [(x, cc)] ∧ x = ("__class__" : Str) := by
        cases n7 with
        | nil => cases h7
        | cons a r =>
          cases r with
          | nil => exact ⟨a.1, a.2, rfl, by injection h7⟩
          | cons b r => injection h7 with _ h7; cases h7
      subst hx h2 h3 h4 h5 h6 h8
      rw [hn] at h1
      subst h1
      dsimp only at h
      obtain ⟨k0, h'⟩ := He.ba h
      have k0 := nonB_ok k0
      subst k0
      obtain ⟨k1, h⟩ := He.ba h'
      obtain ⟨k2, h⟩ := He.ba h
      obtain ⟨k3, h⟩ := He.ba h
      obtain ⟨k4, h⟩ := He.ba h
      obtain ⟨k5, h⟩ := He.ba h
      obtain ⟨k6, h⟩ := He.ba h
      obtain ⟨k7, h⟩ := He.ba h
      obtain ⟨k8, k9⟩ := He.ba h
      obtain ⟨a, ccl, cdd, vs, ccs, file, tf, rfl, f1, f2, f3⟩ := filB_ok k2
      have k3 : celB K cc (He.ga K s.cls) = true := by simpa using k3
      obtain ⟨cl, cld, csl, l1⟩ := celB_ok k3
      refine ⟨_, ⟨oc, od, osl, n9, n10, n11, n12, a, n14, cc, cl, cld, csl, ccl, cdd, vs, ccs, file, tf, rfl, q, k1, l1, f1, f2, f3⟩, Option.isSome_iff_exists.mp k4, of_decide_eq_true k5, sup, blt, top, He.eqO_ok k6, He.eqO_ok k7, of_decide_eq_true k8, k9⟩
    | _ => cases h
theorem conB_ok {K : PySem.W.Frag} {C : Addr} {f z : Str} (h : conB K C f z = true) : ∃ u, Con K C f (.str z) u := by
  unfold conB at h
  split at h
  · rename_i y t e
    obtain ⟨h1, h⟩ := He.ba h
    obtain ⟨h2, h3⟩ := He.ba h
    have : y = z := of_decide_eq_true h1
    subst this
    exact ⟨_, e, ⟨t, rfl⟩, He.eqO_ok h2, by simpa using h3⟩
  · cases h
section
variable {P : Program} {ex : List (PySem.W.Frag → Bool)} {fa : List He.Fa} {fn : List He.DefD} {sp : List SupD} {K : PySem.W.Frag}
theorem SaysX.all (c : SaysX P ex fa fn sp K) : (ex.all fun f => f K) = true ∧ (fa.all fun f => f.ok K) = true ∧ (fn.all fun d => d.ok K) = true ∧ (sp.all fun s => supB P K s) = true := by
  obtain ⟨c1, c2⟩ := He.ba (show ((ex.all fun f => f K) && ((fa.all fun f => f.ok K) && ((fn.all fun d => d.ok K) && sp.all fun s => supB P K s))) = true from congrArg (fun z : AlX => z.1) c)
  obtain ⟨c2, c3⟩ := He.ba c2
  obtain ⟨c3, c4⟩ := He.ba c3
  exact ⟨c1, c2, c3, c4⟩
theorem SaysX.ex_ (c : SaysX P ex fa fn sp K) (i : Nat) {f : PySem.W.Frag → Bool} (h : ex[i]? = some f := by rfl) : f K = true := List.all_eq_true.mp c.all.1 f (List.mem_of_getElem? h)
theorem SaysX.fact (c : SaysX P ex fa fn sp K) (i : Nat) {f : He.Fa} (h : fa[i]? = some f := by rfl) : f.ok K = true := List.all_eq_true.mp c.all.2.1 f (List.mem_of_getElem? h)
theorem SaysX.def_ (c : SaysX P ex fa fn sp K) (i : Nat) {d : He.DefD} (h : fn[i]? = some d := by rfl) : ∃ fd, FunD K d.name d.qual d.params d.body d.scope (d.dvs K) (d.kws K) (He.fAd K d.at_) fd := by
  have e : fn.map (fun d => He.fnW K d.at_) = fn.map He.DefD.val := congrArg (fun z : AlX => z.2.1) c
  have e2 : (fn.map fun d => He.fnW K d.at_)[i]? = (fn.map He.DefD.val)[i]? := by rw [e]
  rw [List.getElem?_map, List.getElem?_map, h] at e2
  exact He.DefD.funD (Option.some.inj e2) (List.all_eq_true.mp c.all.2.2.1 d (List.mem_of_getElem? h))
theorem SaysX.sup {mg : Str → Option Value} (c : SaysX P ex fa fn sp K) (i : Nat) {s : SupD} (hn : s.d.name = "__init__") (sup : mg "super" = none) (blt : bootBuiltins "super" = some (.type "super"))
    (top : (P.main.scope.names.lookup ("super" : Str)).isSome = false) (h : sp[i]? = some s := by rfl) : ∃ fd, SupI P K mg s.d.qual s.d.params s.d.body s.d.scope (He.ga K s.cls) (He.fAd K s.d.at_) (He.fAd K s.to) fd := by
  have e : sp.map (fun s => fnS K s.d.at_) = sp.map SupD.val := congrArg (fun z : AlX => z.2.2) c
  have e2 : (sp.map fun s => fnS K s.d.at_)[i]? = (sp.map SupD.val)[i]? := by rw [e]
  rw [List.getElem?_map, List.getElem?_map, h] at e2
  exact supB_ok (Option.some.inj e2) (List.all_eq_true.mp c.all.2.2.2 s (List.mem_of_getElem? h)) hn sup blt top
/-- the function object at an address -/
def fdA (K : PySem.W.Frag) (z : FuncData) (a : Addr) : FuncData := match K.lookup a with
  | some ⟨_, _, .func fd, _⟩ => fd
  | _ => z
theorem fdA_of {x qual : Str} {params : Arguments} {body : List Stmt} {scope : Scope} {dvs : List V} {kws : List (Str × V)} {f : Addr} {fd : FuncData} (F : FunD K x qual params body scope dvs kws f fd) (z : FuncData) : FunD K x qual params body scope dvs kws f (fdA K z f) := by
  have : fdA K z f = fd := by
    obtain ⟨oc, od, dV, kV, doc, pm, an, cdv, ct, osl, e, l, _⟩ := F.ex
    unfold fdA
    rw [l]
  rw [this]
  exact F
theorem fdA_sup {P : Program} {mg : Str → Option Value} {qual : Str} {params : Arguments} {body : List Stmt} {scope : Scope} {C f f2 : Addr} {fd : FuncData} (S : SupI P K mg qual params body scope C f f2 fd) (z : FuncData) : SupI P K mg qual params body scope C f f2 (fdA K z f) := by
  have : fdA K z f = fd := by
    obtain ⟨oc, od, osl, kV, doc, pm, an, cda, ct, cc, cl, cld, csl, ccl, cdd, vs, ccs, file, tf, e, l, _⟩ := S.fn
    unfold fdA
    rw [l]
  rw [this]
  exact S
theorem SaysX.F (c : SaysX P ex fa fn sp K) (z : FuncData) (i : Nat) {d : He.DefD} (h : fn[i]? = some d := by rfl) : FunD K d.name d.qual d.params d.body d.scope (d.dvs K) (d.kws K) (He.fAd K d.at_) (fdA K z (He.fAd K d.at_)) := by
  obtain ⟨fd, F⟩ := c.def_ i h
  exact fdA_of F z
/-- keyword-only parameters given -/
theorem sup_kb {P : Program} {mg : Str → Option Value} {qual : Str} {params : Arguments} {body : List Stmt} {scope : Scope} {C f f2 : Addr} {fd : FuncData} {ps ks : List Str} {n : Nat} (S : SupI P K mg qual params body scope C f f2 fd)
    (h : ∀ (kV doc pm : Value) (an : Option Addr) (cdv ct : Value) (cc : Addr) (us ws : List Value), us.length = n → ws.length = ks.length → bindArgs (PySem.W.ksFn "__init__" qual params body scope .none kV doc pm an cdv ct cc) ⟨us, ks.zip ws⟩ = pure (ps.zip (us ++ ws))) :
    KBn K fd ps n ks (fun us ws => us ++ ws) (fun vs zs => vs ++ zs) := by
  obtain ⟨oc, od, osl, kV, doc, pm, an, cda, ct, cc, cl, cld, csl, ccl, cdd, vs, ccs, file, tf, rfl, _⟩ := S.fn
  exact ⟨fun s us ws _ h1 h2 => .of_eq (h kV doc pm an (.ref cda) ct cc us ws h1 h2), fun r1 r2 => r1.append r2⟩
theorem fun_kb {x qual : Str} {params : Arguments} {body : List Stmt} {scope : Scope} {kws : List (Str × V)} {f : Addr} {fd : FuncData} {ps ks : List Str} {n : Nat} (F : FunD K x qual params body scope [] kws f fd)
    (h : ∀ (kV doc pm : Value) (an : Option Addr) (cdv ct : Value) (us ws : List Value), us.length = n → ws.length = ks.length → bindArgs (PySem.W.fnOf x qual params body scope .none kV doc pm an cdv ct) ⟨us, ks.zip ws⟩ = pure (ps.zip (us ++ ws))) :
    KBn K fd ps n ks (fun us ws => us ++ ws) (fun vs zs => vs ++ zs) := by
  obtain ⟨oc, od, dV, kV, doc, pm, an, cdv, ct, osl, rfl, l, _, hd, _⟩ := F.ex
  rcases hd with ⟨_, rfl⟩ | ⟨e, _⟩
  · exact ⟨fun s us ws _ h1 h2 => .of_eq (h kV doc pm an cdv ct us ws h1 h2), fun r1 r2 => r1.append r2⟩
  · exact absurd rfl e
end
end Dt

set_option Elab.async false
set_option linter.all false
set_option maxRecDepth 100000
set_option maxHeartbeats 4000000
namespace K78
open PySem PySem.Spec PyProof.Rows L2 Dt
theorem sc_law_draws : FnScope ["script", "draws", "at", "cell", "k", "number"] ["script"] (defScope s_law_draws) := ⟨rfl, rfl, rfl, by decide +kernel, rfl, by decide +kernel, by decide +kernel⟩
theorem sc_law_take : FnScope ["draws", "many"] ["draws", "many"] (defScope s_law_take) := ⟨rfl, rfl, rfl, by decide +kernel, rfl, by decide +kernel, by decide +kernel⟩
theorem sc_law_special : FnScope ["draws", "word", "size", "menu", "runs", "run"] ["draws"] (defScope s_law_special) := ⟨rfl, rfl, rfl, by decide +kernel, rfl, by decide +kernel, by decide +kernel⟩
theorem sc_law_chains : FnScope ["draws", "size", "runs", "copy", "start", "k", "stop"] ["draws", "size"] (defScope s_law_chains) := ⟨rfl, rfl, rfl, by decide +kernel, rfl, by decide +kernel, by decide +kernel⟩
theorem sc_law_market : FnScope ["draws", "most", "word", "drawn", "size", "runs", "turn", "absent"] ["draws", "most"] (defScope s_law_market) := ⟨rfl, rfl, rfl, by decide +kernel, rfl, by decide +kernel, by decide +kernel⟩
theorem sc_is_int : FnScope ["value"] ["value"] (defScope s_is_int) := ⟨rfl, rfl, rfl, by decide +kernel, rfl, by decide +kernel, by decide +kernel⟩
theorem sc_check_number : FnScope ["value", "name", "least", "most"] ["value", "name", "least", "most"] (defScope s_check_number) := ⟨rfl, rfl, rfl, by decide +kernel, rfl, by decide +kernel, by decide +kernel⟩
theorem sc_pair_of : FnScope ["size", "run", "begin", "end"] ["size", "run"] (defScope s_pair_of) := ⟨rfl, rfl, rfl, by decide +kernel, rfl, by decide +kernel, by decide +kernel⟩
theorem sc_u_runs_of : FnScope ["size", "runs", "result", "place", "run", "pair"] ["size", "runs"] (defScope s_u_runs_of) := ⟨rfl, rfl, rfl, by decide +kernel, rfl, by decide +kernel, by decide +kernel⟩
theorem sc_set_of : FnScope ["many", "parts", "known", "place", "part"] ["many", "parts"] (defScope s_set_of) := ⟨rfl, rfl, rfl, by decide +kernel, rfl, by decide +kernel, by decide +kernel⟩
theorem sc_Market_init : FnScope ["self", "size", "runs", "gone"] ["self", "size", "runs", "gone"] (defScope s_Market_init) := ⟨rfl, rfl, rfl, by decide +kernel, rfl, by decide +kernel, by decide +kernel⟩
theorem sc_minus : FnScope ["one", "other", "known", "part"] ["one", "other"] (defScope s_minus) := ⟨rfl, rfl, rfl, by decide +kernel, rfl, by decide +kernel, by decide +kernel⟩
theorem sc_Market_there : FnScope ["self"] ["self"] (defScope s_Market_there) := ⟨rfl, rfl, rfl, by decide +kernel, rfl, by decide +kernel, by decide +kernel⟩
theorem sc_u_reached : FnScope ["market", "inside", "starts", "ends", "came", "point", "queue", "at", "part", "begin", "end"] ["market", "inside", "starts", "ends"] (defScope s_u_reached) := ⟨rfl, rfl, rfl, by decide +kernel, rfl, by decide +kernel, by decide +kernel⟩
theorem sc_u_turn : FnScope ["inside", "came", "point", "part"] ["inside", "came", "point"] (defScope s_u_turn) := ⟨rfl, rfl, rfl, by decide +kernel, rfl, by decide +kernel, by decide +kernel⟩
theorem sc_u_full_flow : FnScope ["market", "inside", "number", "last", "came", "_"] ["market"] (defScope s_u_full_flow) := ⟨rfl, rfl, rfl, by decide +kernel, rfl, by decide +kernel, by decide +kernel⟩
theorem sc_strength : FnScope ["market"] ["market"] (defScope s_strength) := ⟨rfl, rfl, rfl, by decide +kernel, rfl, by decide +kernel, by decide +kernel⟩
theorem sc_check_join : FnScope ["market"] ["market"] (defScope s_check_join) := ⟨rfl, rfl, rfl, by decide +kernel, rfl, by decide +kernel, by decide +kernel⟩
theorem sc_check_few : FnScope ["market", "many"] ["market"] (defScope s_check_few) := ⟨rfl, rfl, rfl, by decide +kernel, rfl, by decide +kernel, by decide +kernel⟩
theorem sc_check_size : FnScope ["market", "number"] ["market", "number"] (defScope s_check_size) := ⟨rfl, rfl, rfl, by decide +kernel, rfl, by decide +kernel, by decide +kernel⟩
theorem sc_demand_of : FnScope ["market", "demand", "place", "number", "_"] ["market", "demand"] (defScope s_demand_of) := ⟨rfl, rfl, rfl, by decide +kernel, rfl, by decide +kernel, by decide +kernel⟩
theorem sc_points_of : FnScope ["market", "run", "point"] ["market", "run"] (defScope s_points_of) := ⟨rfl, rfl, rfl, by decide +kernel, rfl, by decide +kernel, by decide +kernel⟩
theorem sc_check_part : FnScope ["market", "part"] ["market", "part"] (defScope s_check_part) := ⟨rfl, rfl, rfl, by decide +kernel, rfl, by decide +kernel, by decide +kernel⟩
theorem sc_part_there : FnScope ["market", "part"] ["market", "part"] (defScope s_part_there) := ⟨rfl, rfl, rfl, by decide +kernel, rfl, by decide +kernel, by decide +kernel⟩
theorem sc_begins : FnScope ["market", "demand", "row", "result", "before", "number"] ["market", "demand"] (defScope s_begins) := ⟨rfl, rfl, rfl, by decide +kernel, rfl, by decide +kernel, by decide +kernel⟩
theorem sc_u_chosen : FnScope ["inside", "part", "is_in"] ["inside"] (defScope s_u_chosen) := ⟨rfl, rfl, rfl, by decide +kernel, rfl, by decide +kernel, by decide +kernel⟩
theorem sc_u_filled : FnScope ["market", "row", "need", "inside", "points", "starts", "ends", "last", "came", "_", "point"] ["market", "row"] (defScope s_u_filled) := ⟨rfl, rfl, rfl, by decide +kernel, rfl, by decide +kernel, by decide +kernel⟩
theorem sc_u_any_stock : FnScope ["market", "row", "parts"] ["market", "row"] (defScope s_u_any_stock) := ⟨rfl, rfl, rfl, by decide +kernel, rfl, by decide +kernel, by decide +kernel⟩
theorem sc_has_stock : FnScope ["market", "demand"] ["market", "demand"] (defScope s_has_stock) := ⟨rfl, rfl, rfl, by decide +kernel, rfl, by decide +kernel, by decide +kernel⟩
theorem sc_u_check_stocks : FnScope ["market", "row", "number"] ["market", "row"] (defScope s_u_check_stocks) := ⟨rfl, rfl, rfl, by decide +kernel, rfl, by decide +kernel, by decide +kernel⟩
theorem sc_u_moves : FnScope ["lists", "first", "last", "above", "found", "waiting", "point", "seen", "outs", "ins", "target", "part"] ["lists", "first", "last", "above"] (defScope s_u_moves) := ⟨rfl, rfl, rfl, by decide +kernel, rfl, by decide +kernel, by decide +kernel⟩
theorem sc_u_both_ways : FnScope ["market", "without", "lists", "part", "begin", "end", "_"] ["market", "without"] (defScope s_u_both_ways) := ⟨rfl, rfl, rfl, by decide +kernel, rfl, by decide +kernel, by decide +kernel⟩
theorem sc_u_cover : FnScope ["market", "parts", "rises", "part", "begin", "end", "result", "level", "place", "_"] ["market", "parts"] (defScope s_u_cover) := ⟨rfl, rfl, rfl, by decide +kernel, rfl, by decide +kernel, by decide +kernel⟩
theorem sc_cover : FnScope ["market", "parts"] ["market", "parts"] (defScope s_cover) := ⟨rfl, rfl, rfl, by decide +kernel, rfl, by decide +kernel, by decide +kernel⟩
theorem sc_some_stock : FnScope ["market", "demand"] ["market", "demand"] (defScope s_some_stock) := ⟨rfl, rfl, rfl, by decide +kernel, rfl, by decide +kernel, by decide +kernel⟩
theorem sc_both : FnScope ["one", "other", "known", "part"] ["one", "other"] (defScope s_both) := ⟨rfl, rfl, rfl, by decide +kernel, rfl, by decide +kernel, by decide +kernel⟩
theorem sc_Join_lose : FnScope ["self", "parts"] ["self", "parts"] (defScope s_Join_lose) := ⟨rfl, rfl, rfl, by decide +kernel, rfl, by decide +kernel, by decide +kernel⟩
theorem sc_u_stock_with : FnScope ["market", "row", "outs", "ins", "covers", "rest", "found", "place", "number"] ["market", "row", "outs", "ins"] (defScope s_u_stock_with) := ⟨rfl, rfl, rfl, by decide +kernel, rfl, by decide +kernel, by decide +kernel⟩
theorem sc_walk_over : FnScope ["market", "demand", "run", "part", "sign", "row", "first", "last", "outs", "ins", "stock"] ["market", "demand", "run", "part", "sign"] (defScope s_walk_over) := ⟨rfl, rfl, rfl, by decide +kernel, rfl, by decide +kernel, by decide +kernel⟩
theorem sc_going_back : FnScope ["market", "number", "part", "found"] ["market", "number"] (defScope s_going_back) := ⟨rfl, rfl, rfl, by decide +kernel, rfl, by decide +kernel, by decide +kernel⟩
theorem sc_grows_at : FnScope ["market", "number"] ["market", "number"] (defScope s_grows_at) := ⟨rfl, rfl, rfl, by decide +kernel, rfl, by decide +kernel, by decide +kernel⟩
theorem sc_grows : FnScope ["market"] ["market"] (defScope s_grows) := ⟨rfl, rfl, rfl, by decide +kernel, rfl, by decide +kernel, by decide +kernel⟩
theorem sc_u_more : FnScope ["market", "row", "parts", "chosen", "start", "rest", "now", "later", "fits", "place", "number", "part"] ["market", "row", "parts", "chosen"] (defScope s_u_more) := ⟨rfl, rfl, rfl, by decide +kernel, rfl, by decide +kernel, by decide +kernel⟩
theorem sc_stocks_of : FnScope ["market", "demand", "row", "parts", "result", "waiting", "chosen", "fits", "larger"] ["market", "demand"] (defScope s_stocks_of) := ⟨rfl, rfl, rfl, by decide +kernel, rfl, by decide +kernel, by decide +kernel⟩
theorem sc_common : FnScope ["one", "other", "known", "part"] ["one", "other"] (defScope s_common) := ⟨rfl, rfl, rfl, by decide +kernel, rfl, by decide +kernel, by decide +kernel⟩
theorem sc_u_misfit : FnScope ["market", "row", "parts", "joined", "place", "number"] ["market", "row", "parts"] (defScope s_u_misfit) := ⟨rfl, rfl, rfl, by decide +kernel, rfl, by decide +kernel, by decide +kernel⟩
theorem sc_check_stock : FnScope ["market", "demand", "parts", "row", "chosen", "place"] ["market", "demand", "parts"] (defScope s_check_stock) := ⟨rfl, rfl, rfl, by decide +kernel, rfl, by decide +kernel, by decide +kernel⟩
theorem sc_u_others : FnScope ["market", "parts", "kept"] ["market", "parts"] (defScope s_u_others) := ⟨rfl, rfl, rfl, by decide +kernel, rfl, by decide +kernel, by decide +kernel⟩
theorem sc_Join_keep : FnScope ["self", "parts"] ["self", "parts"] (defScope s_Join_keep) := ⟨rfl, rfl, rfl, by decide +kernel, rfl, by decide +kernel, by decide +kernel⟩
theorem sc_stock_left : FnScope ["market", "number", "stock", "more", "other", "chosen", "larger"] ["market", "number", "stock", "more", "other"] (defScope s_stock_left) := ⟨rfl, rfl, rfl, by decide +kernel, rfl, by decide +kernel, by decide +kernel⟩
theorem sc_law_all_leave : FnScope ["market", "first", "more", "stock", "other"] ["market", "first", "more"] (defScope s_law_all_leave) := ⟨rfl, rfl, rfl, by decide +kernel, rfl, by decide +kernel, by decide +kernel⟩
theorem sc_law_int : FnScope ["value"] ["value"] (defScope s_law_int) := ⟨rfl, rfl, rfl, by decide +kernel, rfl, by decide +kernel, by decide +kernel⟩
theorem sc_law_set : FnScope ["value", "many", "last", "part"] ["value", "many"] (defScope s_law_set) := ⟨rfl, rfl, rfl, by decide +kernel, rfl, by decide +kernel, by decide +kernel⟩
theorem sc_law_cover : FnScope ["size", "runs", "parts", "covers", "part", "place"] ["size", "runs", "parts"] (defScope s_law_cover) := ⟨rfl, rfl, rfl, by decide +kernel, rfl, by decide +kernel, by decide +kernel⟩
theorem sc_law_left_right : FnScope ["size", "runs", "told", "more", "stock", "other", "place", "part"] ["size", "runs", "told", "more", "stock", "other"] (defScope s_law_left_right) := ⟨rfl, rfl, rfl, by decide +kernel, rfl, by decide +kernel, by decide +kernel⟩
theorem sc_law_some_leave : FnScope ["market", "size", "runs", "first", "more", "turn", "lesser", "greater", "k", "stock", "other", "told"] ["market", "size", "runs", "first", "more", "turn"] (defScope s_law_some_leave) := ⟨rfl, rfl, rfl, by decide +kernel, rfl, by decide +kernel, by decide +kernel⟩
theorem sc_law_lost_chains : FnScope ["market", "most", "stock"] ["market", "most"] (defScope s_law_lost_chains) := ⟨rfl, rfl, rfl, by decide +kernel, rfl, by decide +kernel, by decide +kernel⟩
theorem sc_law : FnScope ["script", "draws", "drawn", "size", "runs", "absent", "fixed", "market", "most", "first", "more", "turn", "told", "words", "number"] ["script"] (defScope s_law) := ⟨rfl, rfl, rfl, by decide +kernel, rfl, by decide +kernel, by decide +kernel⟩
/-- what the top holds -/
structure Tx (K : PySem.W.Frag) (mg : Str → Option Value) where
  f : Str → Addr
  fd : Str → FuncData
  cC : Str → Addr
  F_law_draws : FunD K "_law_draws" "_law_draws" (defArgs s_law_draws) (defBody s_law_draws) (defScope s_law_draws) [] [] (f "_law_draws") (fd "_law_draws")
  g_law_draws : mg "_law_draws" = some (.ref (f "_law_draws"))
  F_law_take : FunD K "_law_take" "_law_take" (defArgs s_law_take) (defBody s_law_take) (defScope s_law_take) [] [] (f "_law_take") (fd "_law_take")
  g_law_take : mg "_law_take" = some (.ref (f "_law_take"))
  F_law_special : FunD K "_law_special" "_law_special" (defArgs s_law_special) (defBody s_law_special) (defScope s_law_special) [] [] (f "_law_special") (fd "_law_special")
  g_law_special : mg "_law_special" = some (.ref (f "_law_special"))
  F_law_chains : FunD K "_law_chains" "_law_chains" (defArgs s_law_chains) (defBody s_law_chains) (defScope s_law_chains) [] [] (f "_law_chains") (fd "_law_chains")
  g_law_chains : mg "_law_chains" = some (.ref (f "_law_chains"))
  F_law_market : FunD K "_law_market" "_law_market" (defArgs s_law_market) (defBody s_law_market) (defScope s_law_market) [] [] (f "_law_market") (fd "_law_market")
  g_law_market : mg "_law_market" = some (.ref (f "_law_market"))
  F_is_int : FunD K "is_int" "is_int" (defArgs s_is_int) (defBody s_is_int) (defScope s_is_int) [] [] (f "is_int") (fd "is_int")
  g_is_int : mg "is_int" = some (.ref (f "is_int"))
  F_check_number : FunD K "check_number" "check_number" (defArgs s_check_number) (defBody s_check_number) (defScope s_check_number) [] [] (f "check_number") (fd "check_number")
  g_check_number : mg "check_number" = some (.ref (f "check_number"))
  F_pair_of : FunD K "pair_of" "pair_of" (defArgs s_pair_of) (defBody s_pair_of) (defScope s_pair_of) [] [] (f "pair_of") (fd "pair_of")
  g_pair_of : mg "pair_of" = some (.ref (f "pair_of"))
  F_u_runs_of : FunD K "_runs_of" "_runs_of" (defArgs s_u_runs_of) (defBody s_u_runs_of) (defScope s_u_runs_of) [] [] (f "_runs_of") (fd "_runs_of")
  g_u_runs_of : mg "_runs_of" = some (.ref (f "_runs_of"))
  F_set_of : FunD K "set_of" "set_of" (defArgs s_set_of) (defBody s_set_of) (defScope s_set_of) [] [] (f "set_of") (fd "set_of")
  g_set_of : mg "set_of" = some (.ref (f "set_of"))
  F_Market_init : FunD K "__init__" "Market.__init__" (defArgs s_Market_init) (defBody s_Market_init) (defScope s_Market_init) [] [] (f "Market.__init__") (fd "Market.__init__")
  F_minus : FunD K "minus" "minus" (defArgs s_minus) (defBody s_minus) (defScope s_minus) [] [] (f "minus") (fd "minus")
  g_minus : mg "minus" = some (.ref (f "minus"))
  F_Market_there : FunD K "there" "Market.there" (defArgs s_Market_there) (defBody s_Market_there) (defScope s_Market_there) [] [] (f "Market.there") (fd "Market.there")
  F_u_reached : FunD K "_reached" "_reached" (defArgs s_u_reached) (defBody s_u_reached) (defScope s_u_reached) [] [] (f "_reached") (fd "_reached")
  g_u_reached : mg "_reached" = some (.ref (f "_reached"))
  F_u_turn : FunD K "_turn" "_turn" (defArgs s_u_turn) (defBody s_u_turn) (defScope s_u_turn) [] [] (f "_turn") (fd "_turn")
  g_u_turn : mg "_turn" = some (.ref (f "_turn"))
  F_u_full_flow : FunD K "_full_flow" "_full_flow" (defArgs s_u_full_flow) (defBody s_u_full_flow) (defScope s_u_full_flow) [] [] (f "_full_flow") (fd "_full_flow")
  g_u_full_flow : mg "_full_flow" = some (.ref (f "_full_flow"))
  F_strength : FunD K "strength" "strength" (defArgs s_strength) (defBody s_strength) (defScope s_strength) [] [] (f "strength") (fd "strength")
  g_strength : mg "strength" = some (.ref (f "strength"))
  F_check_join : FunD K "check_join" "check_join" (defArgs s_check_join) (defBody s_check_join) (defScope s_check_join) [] [] (f "check_join") (fd "check_join")
  g_check_join : mg "check_join" = some (.ref (f "check_join"))
  F_check_few : FunD K "check_few" "check_few" (defArgs s_check_few) (defBody s_check_few) (defScope s_check_few) [] [] (f "check_few") (fd "check_few")
  g_check_few : mg "check_few" = some (.ref (f "check_few"))
  F_check_size : FunD K "check_size" "check_size" (defArgs s_check_size) (defBody s_check_size) (defScope s_check_size) [] [] (f "check_size") (fd "check_size")
  g_check_size : mg "check_size" = some (.ref (f "check_size"))
  F_demand_of : FunD K "demand_of" "demand_of" (defArgs s_demand_of) (defBody s_demand_of) (defScope s_demand_of) [] [] (f "demand_of") (fd "demand_of")
  g_demand_of : mg "demand_of" = some (.ref (f "demand_of"))
  F_points_of : FunD K "points_of" "points_of" (defArgs s_points_of) (defBody s_points_of) (defScope s_points_of) [] [] (f "points_of") (fd "points_of")
  g_points_of : mg "points_of" = some (.ref (f "points_of"))
  F_check_part : FunD K "check_part" "check_part" (defArgs s_check_part) (defBody s_check_part) (defScope s_check_part) [] [] (f "check_part") (fd "check_part")
  g_check_part : mg "check_part" = some (.ref (f "check_part"))
  F_part_there : FunD K "part_there" "part_there" (defArgs s_part_there) (defBody s_part_there) (defScope s_part_there) [] [] (f "part_there") (fd "part_there")
  g_part_there : mg "part_there" = some (.ref (f "part_there"))
  F_begins : FunD K "begins" "begins" (defArgs s_begins) (defBody s_begins) (defScope s_begins) [] [] (f "begins") (fd "begins")
  g_begins : mg "begins" = some (.ref (f "begins"))
  F_u_chosen : FunD K "_chosen" "_chosen" (defArgs s_u_chosen) (defBody s_u_chosen) (defScope s_u_chosen) [] [] (f "_chosen") (fd "_chosen")
  g_u_chosen : mg "_chosen" = some (.ref (f "_chosen"))
  F_u_filled : FunD K "_filled" "_filled" (defArgs s_u_filled) (defBody s_u_filled) (defScope s_u_filled) [] [] (f "_filled") (fd "_filled")
  g_u_filled : mg "_filled" = some (.ref (f "_filled"))
  F_u_any_stock : FunD K "_any_stock" "_any_stock" (defArgs s_u_any_stock) (defBody s_u_any_stock) (defScope s_u_any_stock) [] [] (f "_any_stock") (fd "_any_stock")
  g_u_any_stock : mg "_any_stock" = some (.ref (f "_any_stock"))
  F_has_stock : FunD K "has_stock" "has_stock" (defArgs s_has_stock) (defBody s_has_stock) (defScope s_has_stock) [] [] (f "has_stock") (fd "has_stock")
  g_has_stock : mg "has_stock" = some (.ref (f "has_stock"))
  F_u_check_stocks : FunD K "_check_stocks" "_check_stocks" (defArgs s_u_check_stocks) (defBody s_u_check_stocks) (defScope s_u_check_stocks) [] [] (f "_check_stocks") (fd "_check_stocks")
  g_u_check_stocks : mg "_check_stocks" = some (.ref (f "_check_stocks"))
  F_u_moves : FunD K "_moves" "_moves" (defArgs s_u_moves) (defBody s_u_moves) (defScope s_u_moves) [] [] (f "_moves") (fd "_moves")
  g_u_moves : mg "_moves" = some (.ref (f "_moves"))
  F_u_both_ways : FunD K "_both_ways" "_both_ways" (defArgs s_u_both_ways) (defBody s_u_both_ways) (defScope s_u_both_ways) [] [] (f "_both_ways") (fd "_both_ways")
  g_u_both_ways : mg "_both_ways" = some (.ref (f "_both_ways"))
  F_u_cover : FunD K "_cover" "_cover" (defArgs s_u_cover) (defBody s_u_cover) (defScope s_u_cover) [] [] (f "_cover") (fd "_cover")
  g_u_cover : mg "_cover" = some (.ref (f "_cover"))
  F_cover : FunD K "cover" "cover" (defArgs s_cover) (defBody s_cover) (defScope s_cover) [] [] (f "cover") (fd "cover")
  g_cover : mg "cover" = some (.ref (f "cover"))
  F_some_stock : FunD K "some_stock" "some_stock" (defArgs s_some_stock) (defBody s_some_stock) (defScope s_some_stock) [] [] (f "some_stock") (fd "some_stock")
  g_some_stock : mg "some_stock" = some (.ref (f "some_stock"))
  F_both : FunD K "both" "both" (defArgs s_both) (defBody s_both) (defScope s_both) [] [] (f "both") (fd "both")
  g_both : mg "both" = some (.ref (f "both"))
  F_Join_lose : FunD K "lose" "Join.lose" (defArgs s_Join_lose) (defBody s_Join_lose) (defScope s_Join_lose) [] [] (f "Join.lose") (fd "Join.lose")
  F_u_stock_with : FunD K "_stock_with" "_stock_with" (defArgs s_u_stock_with) (defBody s_u_stock_with) (defScope s_u_stock_with) [] [] (f "_stock_with") (fd "_stock_with")
  g_u_stock_with : mg "_stock_with" = some (.ref (f "_stock_with"))
  F_walk_over : FunD K "walk_over" "walk_over" (defArgs s_walk_over) (defBody s_walk_over) (defScope s_walk_over) [] [] (f "walk_over") (fd "walk_over")
  g_walk_over : mg "walk_over" = some (.ref (f "walk_over"))
  F_going_back : FunD K "going_back" "going_back" (defArgs s_going_back) (defBody s_going_back) (defScope s_going_back) [] [] (f "going_back") (fd "going_back")
  g_going_back : mg "going_back" = some (.ref (f "going_back"))
  F_grows_at : FunD K "grows_at" "grows_at" (defArgs s_grows_at) (defBody s_grows_at) (defScope s_grows_at) [] [] (f "grows_at") (fd "grows_at")
  g_grows_at : mg "grows_at" = some (.ref (f "grows_at"))
  F_grows : FunD K "grows" "grows" (defArgs s_grows) (defBody s_grows) (defScope s_grows) [] [] (f "grows") (fd "grows")
  g_grows : mg "grows" = some (.ref (f "grows"))
  F_u_more : FunD K "_more" "_more" (defArgs s_u_more) (defBody s_u_more) (defScope s_u_more) [] [] (f "_more") (fd "_more")
  g_u_more : mg "_more" = some (.ref (f "_more"))
  F_stocks_of : FunD K "stocks_of" "stocks_of" (defArgs s_stocks_of) (defBody s_stocks_of) (defScope s_stocks_of) [] [] (f "stocks_of") (fd "stocks_of")
  g_stocks_of : mg "stocks_of" = some (.ref (f "stocks_of"))
  F_common : FunD K "common" "common" (defArgs s_common) (defBody s_common) (defScope s_common) [] [] (f "common") (fd "common")
  g_common : mg "common" = some (.ref (f "common"))
  F_u_misfit : FunD K "_misfit" "_misfit" (defArgs s_u_misfit) (defBody s_u_misfit) (defScope s_u_misfit) [] [] (f "_misfit") (fd "_misfit")
  g_u_misfit : mg "_misfit" = some (.ref (f "_misfit"))
  F_check_stock : FunD K "check_stock" "check_stock" (defArgs s_check_stock) (defBody s_check_stock) (defScope s_check_stock) [] [] (f "check_stock") (fd "check_stock")
  g_check_stock : mg "check_stock" = some (.ref (f "check_stock"))
  F_u_others : FunD K "_others" "_others" (defArgs s_u_others) (defBody s_u_others) (defScope s_u_others) [] [] (f "_others") (fd "_others")
  g_u_others : mg "_others" = some (.ref (f "_others"))
  F_Join_keep : FunD K "keep" "Join.keep" (defArgs s_Join_keep) (defBody s_Join_keep) (defScope s_Join_keep) [] [] (f "Join.keep") (fd "Join.keep")
  F_stock_left : FunD K "stock_left" "stock_left" (defArgs s_stock_left) (defBody s_stock_left) (defScope s_stock_left) [] [] (f "stock_left") (fd "stock_left")
  g_stock_left : mg "stock_left" = some (.ref (f "stock_left"))
  F_law_all_leave : FunD K "_law_all_leave" "_law_all_leave" (defArgs s_law_all_leave) (defBody s_law_all_leave) (defScope s_law_all_leave) [] [] (f "_law_all_leave") (fd "_law_all_leave")
  g_law_all_leave : mg "_law_all_leave" = some (.ref (f "_law_all_leave"))
  F_law_int : FunD K "_law_int" "_law_int" (defArgs s_law_int) (defBody s_law_int) (defScope s_law_int) [] [] (f "_law_int") (fd "_law_int")
  g_law_int : mg "_law_int" = some (.ref (f "_law_int"))
  F_law_set : FunD K "_law_set" "_law_set" (defArgs s_law_set) (defBody s_law_set) (defScope s_law_set) [] [] (f "_law_set") (fd "_law_set")
  g_law_set : mg "_law_set" = some (.ref (f "_law_set"))
  F_law_cover : FunD K "_law_cover" "_law_cover" (defArgs s_law_cover) (defBody s_law_cover) (defScope s_law_cover) [] [] (f "_law_cover") (fd "_law_cover")
  g_law_cover : mg "_law_cover" = some (.ref (f "_law_cover"))
  F_law_left_right : FunD K "_law_left_right" "_law_left_right" (defArgs s_law_left_right) (defBody s_law_left_right) (defScope s_law_left_right) [] [] (f "_law_left_right") (fd "_law_left_right")
  g_law_left_right : mg "_law_left_right" = some (.ref (f "_law_left_right"))
  F_law_some_leave : FunD K "_law_some_leave" "_law_some_leave" (defArgs s_law_some_leave) (defBody s_law_some_leave) (defScope s_law_some_leave) [] [] (f "_law_some_leave") (fd "_law_some_leave")
  g_law_some_leave : mg "_law_some_leave" = some (.ref (f "_law_some_leave"))
  F_law_lost_chains : FunD K "_law_lost_chains" "_law_lost_chains" (defArgs s_law_lost_chains) (defBody s_law_lost_chains) (defScope s_law_lost_chains) [] [] (f "_law_lost_chains") (fd "_law_lost_chains")
  g_law_lost_chains : mg "_law_lost_chains" = some (.ref (f "_law_lost_chains"))
  F_law : FunD K "law" "law" (defArgs s_law) (defBody s_law) (defScope s_law) [] [] (f "law") (fd "law")
  g_law : mg "law" = some (.ref (f "law"))
  n_bool : mg "bool" = none
  n_enumerate : mg "enumerate" = none
  n_int : mg "int" = none
  n_isinstance : mg "isinstance" = none
  n_len : mg "len" = none
  n_list : mg "list" = none
  n_min : mg "min" = none
  n_range : mg "range" = none
  n_reversed : mg "reversed" = none
  n_sorted : mg "sorted" = none
  n_tuple : mg "tuple" = none
  mk_Join : Mk K (cC "Join") (f "Join.__init__")
  g_Join : mg "Join" = some (.ref (cC "Join"))
  kb_Join : KBn K (fd "Join.__init__") ["self", "size", "runs", "gone"] 3 ["gone"] (fun us ws => us ++ ws) (fun vs zs => vs ++ zs)
  cl_Join : Cls K (cC "Join")
  m_Join_there : Meth K (cC "Join") "there" (f "Market.there")
  m_Join_lose : Meth K (cC "Join") "lose" (f "Join.lose")
  m_Join_keep : Meth K (cC "Join") "keep" (f "Join.keep")
  con_KIND : ∃ u, Con K (cC "Join") "KIND" (.str "join") u
  at_size : NoAttr K (cC "Join") "size"
  at_runs : NoAttr K (cC "Join") "runs"
  at_gone : NoAttr K (cC "Join") "gone"
section
variable {P : Program} {w : World} {K : PySem.W.Frag} {mg : Str → Option Value} {base : Heap}
theorem Tx.b_law_draws (T : Tx K mg) : Binds K (T.fd "_law_draws") ["script"] [] := T.F_law_draws.bindsN fun _ _ _ _ _ _ us hl => match us, hl with | [_], _ => rfl
theorem Tx.b_law_take (T : Tx K mg) : Binds K (T.fd "_law_take") ["draws", "many"] [] := T.F_law_take.bindsN fun _ _ _ _ _ _ us hl => match us, hl with | [_, _], _ => rfl
theorem Tx.b_law_special (T : Tx K mg) : Binds K (T.fd "_law_special") ["draws"] [] := T.F_law_special.bindsN fun _ _ _ _ _ _ us hl => match us, hl with | [_], _ => rfl
theorem Tx.b_law_chains (T : Tx K mg) : Binds K (T.fd "_law_chains") ["draws", "size"] [] := T.F_law_chains.bindsN fun _ _ _ _ _ _ us hl => match us, hl with | [_, _], _ => rfl
theorem Tx.b_law_market (T : Tx K mg) : Binds K (T.fd "_law_market") ["draws", "most"] [] := T.F_law_market.bindsN fun _ _ _ _ _ _ us hl => match us, hl with | [_, _], _ => rfl
theorem Tx.b_is_int (T : Tx K mg) : Binds K (T.fd "is_int") ["value"] [] := T.F_is_int.bindsN fun _ _ _ _ _ _ us hl => match us, hl with | [_], _ => rfl
theorem Tx.b_check_number (T : Tx K mg) : Binds K (T.fd "check_number") ["value", "name", "least", "most"] [] := T.F_check_number.bindsN fun _ _ _ _ _ _ us hl => match us, hl with | [_, _, _, _], _ => rfl
theorem Tx.b_pair_of (T : Tx K mg) : Binds K (T.fd "pair_of") ["size", "run"] [] := T.F_pair_of.bindsN fun _ _ _ _ _ _ us hl => match us, hl with | [_, _], _ => rfl
theorem Tx.b_u_runs_of (T : Tx K mg) : Binds K (T.fd "_runs_of") ["size", "runs"] [] := T.F_u_runs_of.bindsN fun _ _ _ _ _ _ us hl => match us, hl with | [_, _], _ => rfl
theorem Tx.b_set_of (T : Tx K mg) : Binds K (T.fd "set_of") ["many", "parts"] [] := T.F_set_of.bindsN fun _ _ _ _ _ _ us hl => match us, hl with | [_, _], _ => rfl
theorem Tx.b_minus (T : Tx K mg) : Binds K (T.fd "minus") ["one", "other"] [] := T.F_minus.bindsN fun _ _ _ _ _ _ us hl => match us, hl with | [_, _], _ => rfl
theorem Tx.b_u_reached (T : Tx K mg) : Binds K (T.fd "_reached") ["market", "inside", "starts", "ends"] [] := T.F_u_reached.bindsN fun _ _ _ _ _ _ us hl => match us, hl with | [_, _, _, _], _ => rfl
theorem Tx.b_u_turn (T : Tx K mg) : Binds K (T.fd "_turn") ["inside", "came", "point"] [] := T.F_u_turn.bindsN fun _ _ _ _ _ _ us hl => match us, hl with | [_, _, _], _ => rfl
theorem Tx.b_u_full_flow (T : Tx K mg) : Binds K (T.fd "_full_flow") ["market"] [] := T.F_u_full_flow.bindsN fun _ _ _ _ _ _ us hl => match us, hl with | [_], _ => rfl
theorem Tx.b_strength (T : Tx K mg) : Binds K (T.fd "strength") ["market"] [] := T.F_strength.bindsN fun _ _ _ _ _ _ us hl => match us, hl with | [_], _ => rfl
theorem Tx.b_check_join (T : Tx K mg) : Binds K (T.fd "check_join") ["market"] [] := T.F_check_join.bindsN fun _ _ _ _ _ _ us hl => match us, hl with | [_], _ => rfl
theorem Tx.b_check_few (T : Tx K mg) : Binds K (T.fd "check_few") ["market"] [] := T.F_check_few.bindsN fun _ _ _ _ _ _ us hl => match us, hl with | [_], _ => rfl
theorem Tx.b_check_size (T : Tx K mg) : Binds K (T.fd "check_size") ["market", "number"] [] := T.F_check_size.bindsN fun _ _ _ _ _ _ us hl => match us, hl with | [_, _], _ => rfl
theorem Tx.b_demand_of (T : Tx K mg) : Binds K (T.fd "demand_of") ["market", "demand"] [] := T.F_demand_of.bindsN fun _ _ _ _ _ _ us hl => match us, hl with | [_, _], _ => rfl
theorem Tx.b_points_of (T : Tx K mg) : Binds K (T.fd "points_of") ["market", "run"] [] := T.F_points_of.bindsN fun _ _ _ _ _ _ us hl => match us, hl with | [_, _], _ => rfl
theorem Tx.b_check_part (T : Tx K mg) : Binds K (T.fd "check_part") ["market", "part"] [] := T.F_check_part.bindsN fun _ _ _ _ _ _ us hl => match us, hl with | [_, _], _ => rfl
theorem Tx.b_part_there (T : Tx K mg) : Binds K (T.fd "part_there") ["market", "part"] [] := T.F_part_there.bindsN fun _ _ _ _ _ _ us hl => match us, hl with | [_, _], _ => rfl
theorem Tx.b_begins (T : Tx K mg) : Binds K (T.fd "begins") ["market", "demand"] [] := T.F_begins.bindsN fun _ _ _ _ _ _ us hl => match us, hl with | [_, _], _ => rfl
theorem Tx.b_u_chosen (T : Tx K mg) : Binds K (T.fd "_chosen") ["inside"] [] := T.F_u_chosen.bindsN fun _ _ _ _ _ _ us hl => match us, hl with | [_], _ => rfl
theorem Tx.b_u_filled (T : Tx K mg) : Binds K (T.fd "_filled") ["market", "row"] [] := T.F_u_filled.bindsN fun _ _ _ _ _ _ us hl => match us, hl with | [_, _], _ => rfl
theorem Tx.b_u_any_stock (T : Tx K mg) : Binds K (T.fd "_any_stock") ["market", "row"] [] := T.F_u_any_stock.bindsN fun _ _ _ _ _ _ us hl => match us, hl with | [_, _], _ => rfl
theorem Tx.b_has_stock (T : Tx K mg) : Binds K (T.fd "has_stock") ["market", "demand"] [] := T.F_has_stock.bindsN fun _ _ _ _ _ _ us hl => match us, hl with | [_, _], _ => rfl
theorem Tx.b_u_check_stocks (T : Tx K mg) : Binds K (T.fd "_check_stocks") ["market", "row"] [] := T.F_u_check_stocks.bindsN fun _ _ _ _ _ _ us hl => match us, hl with | [_, _], _ => rfl
theorem Tx.b_u_moves (T : Tx K mg) : Binds K (T.fd "_moves") ["lists", "first", "last", "above"] [] := T.F_u_moves.bindsN fun _ _ _ _ _ _ us hl => match us, hl with | [_, _, _, _], _ => rfl
theorem Tx.b_u_both_ways (T : Tx K mg) : Binds K (T.fd "_both_ways") ["market", "without"] [] := T.F_u_both_ways.bindsN fun _ _ _ _ _ _ us hl => match us, hl with | [_, _], _ => rfl
theorem Tx.b_u_cover (T : Tx K mg) : Binds K (T.fd "_cover") ["market", "parts"] [] := T.F_u_cover.bindsN fun _ _ _ _ _ _ us hl => match us, hl with | [_, _], _ => rfl
theorem Tx.b_cover (T : Tx K mg) : Binds K (T.fd "cover") ["market", "parts"] [] := T.F_cover.bindsN fun _ _ _ _ _ _ us hl => match us, hl with | [_, _], _ => rfl
theorem Tx.b_some_stock (T : Tx K mg) : Binds K (T.fd "some_stock") ["market", "demand"] [] := T.F_some_stock.bindsN fun _ _ _ _ _ _ us hl => match us, hl with | [_, _], _ => rfl
theorem Tx.b_both (T : Tx K mg) : Binds K (T.fd "both") ["one", "other"] [] := T.F_both.bindsN fun _ _ _ _ _ _ us hl => match us, hl with | [_, _], _ => rfl
theorem Tx.b_u_stock_with (T : Tx K mg) : Binds K (T.fd "_stock_with") ["market", "row", "outs", "ins"] [] := T.F_u_stock_with.bindsN fun _ _ _ _ _ _ us hl => match us, hl with | [_, _, _, _], _ => rfl
theorem Tx.b_walk_over (T : Tx K mg) : Binds K (T.fd "walk_over") ["market", "demand", "run", "part", "sign"] [] := T.F_walk_over.bindsN fun _ _ _ _ _ _ us hl => match us, hl with | [_, _, _, _, _], _ => rfl
theorem Tx.b_going_back (T : Tx K mg) : Binds K (T.fd "going_back") ["market", "number"] [] := T.F_going_back.bindsN fun _ _ _ _ _ _ us hl => match us, hl with | [_, _], _ => rfl
theorem Tx.b_grows_at (T : Tx K mg) : Binds K (T.fd "grows_at") ["market", "number"] [] := T.F_grows_at.bindsN fun _ _ _ _ _ _ us hl => match us, hl with | [_, _], _ => rfl
theorem Tx.b_grows (T : Tx K mg) : Binds K (T.fd "grows") ["market"] [] := T.F_grows.bindsN fun _ _ _ _ _ _ us hl => match us, hl with | [_], _ => rfl
theorem Tx.b_u_more (T : Tx K mg) : Binds K (T.fd "_more") ["market", "row", "parts", "chosen"] [] := T.F_u_more.bindsN fun _ _ _ _ _ _ us hl => match us, hl with | [_, _, _, _], _ => rfl
theorem Tx.b_stocks_of (T : Tx K mg) : Binds K (T.fd "stocks_of") ["market", "demand"] [] := T.F_stocks_of.bindsN fun _ _ _ _ _ _ us hl => match us, hl with | [_, _], _ => rfl
theorem Tx.b_common (T : Tx K mg) : Binds K (T.fd "common") ["one", "other"] [] := T.F_common.bindsN fun _ _ _ _ _ _ us hl => match us, hl with | [_, _], _ => rfl
theorem Tx.b_u_misfit (T : Tx K mg) : Binds K (T.fd "_misfit") ["market", "row", "parts"] [] := T.F_u_misfit.bindsN fun _ _ _ _ _ _ us hl => match us, hl with | [_, _, _], _ => rfl
theorem Tx.b_check_stock (T : Tx K mg) : Binds K (T.fd "check_stock") ["market", "demand", "parts"] [] := T.F_check_stock.bindsN fun _ _ _ _ _ _ us hl => match us, hl with | [_, _, _], _ => rfl
theorem Tx.b_u_others (T : Tx K mg) : Binds K (T.fd "_others") ["market", "parts"] [] := T.F_u_others.bindsN fun _ _ _ _ _ _ us hl => match us, hl with | [_, _], _ => rfl
theorem Tx.b_stock_left (T : Tx K mg) : Binds K (T.fd "stock_left") ["market", "number", "stock", "more", "other"] [] := T.F_stock_left.bindsN fun _ _ _ _ _ _ us hl => match us, hl with | [_, _, _, _, _], _ => rfl
theorem Tx.b_law_all_leave (T : Tx K mg) : Binds K (T.fd "_law_all_leave") ["market", "first", "more"] [] := T.F_law_all_leave.bindsN fun _ _ _ _ _ _ us hl => match us, hl with | [_, _, _], _ => rfl
theorem Tx.b_law_int (T : Tx K mg) : Binds K (T.fd "_law_int") ["value"] [] := T.F_law_int.bindsN fun _ _ _ _ _ _ us hl => match us, hl with | [_], _ => rfl
theorem Tx.b_law_set (T : Tx K mg) : Binds K (T.fd "_law_set") ["value", "many"] [] := T.F_law_set.bindsN fun _ _ _ _ _ _ us hl => match us, hl with | [_, _], _ => rfl
theorem Tx.b_law_cover (T : Tx K mg) : Binds K (T.fd "_law_cover") ["size", "runs", "parts"] [] := T.F_law_cover.bindsN fun _ _ _ _ _ _ us hl => match us, hl with | [_, _, _], _ => rfl
theorem Tx.b_law_left_right (T : Tx K mg) : Binds K (T.fd "_law_left_right") ["size", "runs", "told", "more", "stock", "other"] [] := T.F_law_left_right.bindsN fun _ _ _ _ _ _ us hl => match us, hl with | [_, _, _, _, _, _], _ => rfl
theorem Tx.b_law_some_leave (T : Tx K mg) : Binds K (T.fd "_law_some_leave") ["market", "size", "runs", "first", "more", "turn"] [] := T.F_law_some_leave.bindsN fun _ _ _ _ _ _ us hl => match us, hl with | [_, _, _, _, _, _], _ => rfl
theorem Tx.b_law_lost_chains (T : Tx K mg) : Binds K (T.fd "_law_lost_chains") ["market", "most"] [] := T.F_law_lost_chains.bindsN fun _ _ _ _ _ _ us hl => match us, hl with | [_, _], _ => rfl
theorem Tx.b_law (T : Tx K mg) : Binds K (T.fd "law") ["script"] [] := T.F_law.bindsN fun _ _ _ _ _ _ us hl => match us, hl with | [_], _ => rfl
theorem Tx.b_Market_there (T : Tx K mg) : Binds K (T.fd "Market.there") ["self"] [] := T.F_Market_there.bindsN fun _ _ _ _ _ _ us hl => match us, hl with | [_], _ => rfl
theorem Tx.b_Join_lose (T : Tx K mg) : Binds K (T.fd "Join.lose") ["self", "parts"] [] := T.F_Join_lose.bindsN fun _ _ _ _ _ _ us hl => match us, hl with | [_, _], _ => rfl
theorem Tx.b_Join_keep (T : Tx K mg) : Binds K (T.fd "Join.keep") ["self", "parts"] [] := T.F_Join_keep.bindsN fun _ _ _ _ _ _ us hl => match us, hl with | [_, _], _ => rfl
end
/-- _law_draws -/
def t_law_draws (c : Cn) : TS :=
  (tSeq (tAsg (tLst tNil) (gName 1))
  (tSeq (tFor (iRng1 (tCons (tCB rMin2 (tCons (tCB (rLenS c.K) (tCons (tVar 0) tNil)) (tCons (tC (.int 63)) tNil))) tNil)) (gName 2) (tSeq (tAsg (tCB rInt1 (tCons (tOp (rIx c.K) (tVar 0) (tVar 2)) tNil)) (gName 3))
  (tSeq (tIfS (tTest (tOp rLt (tVar 3) (tC (.int 0)))) (tAsg (tOp qSub (tC (.int 1)) (tVar 3)) (gName 3)) tNext)
  (tIfS (tTest (tOp rGe (tVar 3) (tOp rPow (tC (.int 10)) (tC (.int 18))))) (tFor (iRng1 (tCons (tC (.int 60)) tNil)) (gName 4) (tIfS (tTest (tOp rGt (tVar 3) (tC (.int 0)))) (tSeq (tDrop (tBM c.K "list" rAppend (tVar 1) (tCons (tOp rMod (tCB rInt1 (tCons (tVar 3) tNil)) (tC (.int 24))) tNil)))
  (tAsg (tOp rFdivW (tVar 3) (tC (.int 24))) (gName 3))) tNext)) (tSeq (tAsg (tOp rMod (tCB rInt1 (tCons (tOp qAdd (tOp qAdd (tOp rMul (tVar 3) (tC (.int 48271))) (tOp rMul (tVar 2) (tC (.int 69621)))) (tC (.int 1))) tNil)) (tC (.int 2147483647))) (gName 5))
  (tFor (iRng1 (tCons (tC (.int 6)) tNil)) (gName 4) (tSeq (tAsg (tOp rMod (tCB rInt1 (tCons (tOp qAdd (tOp qAdd (tOp qAdd (tOp rMul (tVar 5) (tVar 5)) (tOp rMul (tVar 4) (tC (.int 40692)))) (tVar 2)) (tC (.int 7))) tNil)) (tC (.int 2147483563))) (gName 5))
  (tDrop (tBM c.K "list" rAppend (tVar 1) (tCons (tVar 5) tNil))))))))))
  (tSeq (tDrop (tBM0 c.K "list" rReverse (tVar 1)))
  (tRet (tVar 1)))))
theorem mk_law_draws {c : Cn} {mg : Str → Option Value} {base : Heap} (T : Tx c.K mg) {W : Wp}
    (len : ∀ A S R, W A S R → A.length = 1)
    (body : ∀ A S R, W A S R → RS c (t_law_draws c) (A ++ List.replicate 5 .no) S (endP S R)) :
    FnOk c.P c.w c.K mg base CX0 1 (T.f "_law_draws") (T.fd "_law_draws") ["script"] (spD c W) := by
  refine T.F_law_draws.ok sc_law_draws (sp_len len) (fun cdv A outer s H vs Q E hr h => ⟨t_law_draws c, PSs.nox ?_, sp_body len body rfl h⟩)
  have hu := hu_of hr
  exact (pss_cons (ps_set (i := 1) sc_law_draws.nd rfl (Or.inl rfl) (pe_lst pa_nil))
  (pss_cons (ps_for PassesOwn.never rfl (pi_range1 rfl T.n_range (pa_cons (pe_callB (call_min2 rfl) rfl T.n_min (by decide +kernel) (pa_cons (pe_callB call_len_seq rfl T.n_len (by decide +kernel) (pa_cons (pv 0) pa_nil)) (pa_cons pe_int pa_nil))) pa_nil)) (pg_name (i := 2) sc_law_draws.nd rfl (Or.inl rfl)) (pss_cons (ps_set (i := 3) sc_law_draws.nd rfl (Or.inl rfl) (pe_callTy call_int1 rfl T.n_int (by decide +kernel) (pa_cons (pe_ix ix_seq (pv 0) (pv 2) (fun _ _ => rfl)) pa_nil)))
  (pss_cons (ps_if (pt_cmpR op_lt (pv 3) pe_int (nomark _)) (pss_one (ps_set (i := 3) sc_law_draws.nd rfl (Or.inl rfl) (pe_op op_sub pe_int (pv 3)))) pss_nil)
  (pss_one (ps_if (pt_cmpR op_ge (pv 3) (pe_op op_pow pe_int pe_int) (nomark _)) (pss_one (ps_for PassesOwn.never rfl (pi_range1 rfl T.n_range (pa_cons pe_int pa_nil)) (pg_name (i := 4) sc_law_draws.nd rfl (Or.inl rfl)) (pss_one (ps_if (pt_cmpR op_gt (pv 3) pe_int (nomark _)) (pss_cons (ps_expr (pe_bm PySem.F.plainAttrs_list PySem.F.slot_list_append PySem.F.type_list_append mt_append (pv 1) (pa_cons (pe_op op_mod (pe_callTy call_int1 rfl T.n_int (by decide +kernel) (pa_cons (pv 3) pa_nil)) pe_int) pa_nil)))
  (pss_one (ps_set (i := 3) sc_law_draws.nd rfl (Or.inl rfl) (pe_op op_fdivW (pv 3) pe_int)))) pss_nil)))) (pss_cons (ps_set (i := 5) sc_law_draws.nd rfl (Or.inl rfl) (pe_op op_mod (pe_callTy call_int1 rfl T.n_int (by decide +kernel) (pa_cons (pe_op op_add (pe_op op_add (pe_op op_mul (pv 3) pe_int) (pe_op op_mul (pv 2) pe_int)) pe_int) pa_nil)) pe_int))
  (pss_one (ps_for PassesOwn.never rfl (pi_range1 rfl T.n_range (pa_cons pe_int pa_nil)) (pg_name (i := 4) sc_law_draws.nd rfl (Or.inl rfl)) (pss_cons (ps_set (i := 5) sc_law_draws.nd rfl (Or.inl rfl) (pe_op op_mod (pe_callTy call_int1 rfl T.n_int (by decide +kernel) (pa_cons (pe_op op_add (pe_op op_add (pe_op op_add (pe_op op_mul (pv 5) (pv 5)) (pe_op op_mul (pv 4) pe_int)) (pv 2)) pe_int) pa_nil)) pe_int))
  (pss_one (ps_expr (pe_bm PySem.F.plainAttrs_list PySem.F.slot_list_append PySem.F.type_list_append mt_append (pv 1) (pa_cons (pv 5) pa_nil)))))))))))))
  (pss_cons (ps_expr (pe_bm0 PySem.F.plainAttrs_list PySem.F.slot_list_reverse PySem.F.type_list_reverse mt_reverse (pv 1)))
  (pss_one (ps_ret (pv 1))))))
/-- _law_take -/
def t_law_take (c : Cn) : TS :=
  (tSeq (tIfS (tTest (tOp rEq (tCB (rLenS c.K) (tCons (tVar 0) tNil)) (tC (.int 0)))) (tRet (tC (.int 0))) tNext)
  (tRet (tOp rMod (tCB rInt1 (tCons (tBM0 c.K "list" rPop (tVar 0)) tNil)) (tVar 1))))
theorem mk_law_take {c : Cn} {mg : Str → Option Value} {base : Heap} (T : Tx c.K mg) {W : Wp}
    (len : ∀ A S R, W A S R → A.length = 2)
    (body : ∀ A S R, W A S R → RS c (t_law_take c) (A ++ List.replicate 0 .no) S (endP S R)) :
    FnOk c.P c.w c.K mg base CX0 1 (T.f "_law_take") (T.fd "_law_take") ["draws", "many"] (spD c W) := by
  refine T.F_law_take.ok sc_law_take (sp_len len) (fun cdv A outer s H vs Q E hr h => ⟨t_law_take c, PSs.nox ?_, sp_body len body rfl h⟩)
  have hu := hu_of hr
  exact (pss_cons (ps_if (pt_cmpR op_eq (pe_callB call_len_seq rfl T.n_len (by decide +kernel) (pa_cons (pv 0) pa_nil)) pe_int (nomark _)) (pss_one (ps_ret pe_int)) pss_nil)
  (pss_one (ps_ret (pe_op op_mod (pe_callTy call_int1 rfl T.n_int (by decide +kernel) (pa_cons (pe_bm0 PySem.F.plainAttrs_list PySem.F.slot_list_pop PySem.F.type_list_pop mt_pop (pv 0)) pa_nil)) (pv 1)))))
/-- _law_special -/
def t_law_special (c : Cn) (W_law_take : Wp) : TS :=
  (tSeq (tAsg (tCall (spD c W_law_take) [] E0 (tCons (tVar 0) (tCons (tC (.int 3)) tNil))) (gName 1))
  (tSeq (tIfS (tTest (tOp rEq (tVar 1) (tC (.int 0)))) (tSeq (tAsg (tC (.int 3)) (gName 2))
  (tAsg (tLst (tCons (tTup (tCons (tC (.int 0)) (tCons (tC (.int 1)) tNil))) (tCons (tTup (tCons (tC (.int 0)) (tCons (tC (.int 2)) tNil))) (tCons (tTup (tCons (tC (.int 1)) (tCons (tC (.int 2)) tNil))) (tCons (tTup (tCons (tC (.int 1)) (tCons (tC (.int 3)) tNil))) (tCons (tTup (tCons (tC (.int 2)) (tCons (tC (.int 3)) tNil))) (tCons (tTup (tCons (tC (.int 0)) (tCons (tC (.int 3)) tNil))) (tCons (tTup (tCons (tC (.int 1)) (tCons (tC (.int 2)) tNil))) tNil)))))))) (gName 3))) (tIfS (tTest (tOp rEq (tVar 1) (tC (.int 1)))) (tSeq (tAsg (tC (.int 5)) (gName 2))
  (tAsg (tLst (tCons (tTup (tCons (tC (.int 0)) (tCons (tC (.int 1)) tNil))) (tCons (tTup (tCons (tC (.int 1)) (tCons (tC (.int 2)) tNil))) (tCons (tTup (tCons (tC (.int 1)) (tCons (tC (.int 3)) tNil))) (tCons (tTup (tCons (tC (.int 2)) (tCons (tC (.int 3)) tNil))) (tCons (tTup (tCons (tC (.int 2)) (tCons (tC (.int 4)) tNil))) (tCons (tTup (tCons (tC (.int 3)) (tCons (tC (.int 4)) tNil))) (tCons (tTup (tCons (tC (.int 4)) (tCons (tC (.int 5)) tNil))) (tCons (tTup (tCons (tC (.int 0)) (tCons (tC (.int 1)) tNil))) (tCons (tTup (tCons (tC (.int 4)) (tCons (tC (.int 5)) tNil))) tNil)))))))))) (gName 3))) (tSeq (tAsg (tC (.int 4)) (gName 2))
  (tAsg (tLst (tCons (tTup (tCons (tC (.int 0)) (tCons (tC (.int 4)) tNil))) (tCons (tTup (tCons (tC (.int 0)) (tCons (tC (.int 2)) tNil))) (tCons (tTup (tCons (tC (.int 2)) (tCons (tC (.int 4)) tNil))) (tCons (tTup (tCons (tC (.int 0)) (tCons (tC (.int 1)) tNil))) (tCons (tTup (tCons (tC (.int 1)) (tCons (tC (.int 2)) tNil))) (tCons (tTup (tCons (tC (.int 2)) (tCons (tC (.int 3)) tNil))) (tCons (tTup (tCons (tC (.int 3)) (tCons (tC (.int 4)) tNil))) (tCons (tTup (tCons (tC (.int 1)) (tCons (tC (.int 2)) tNil))) (tCons (tTup (tCons (tC (.int 0)) (tCons (tC (.int 4)) tNil))) tNil)))))))))) (gName 3)))))
  (tSeq (tAsg (tLc (iList c.K (tVar 3)) (gName 5) (tTest (tOp rLt (tCall (spD c W_law_take) [] E0 (tCons (tVar 0) (tCons (tC (.int 8)) tNil))) (tC (.int 7)))) (tVar 5) [5]) (gName 4))
  (tRet (tLst (tCons (tVar 2) (tCons (tVar 4) tNil)))))))
theorem mk_law_special {c : Cn} {mg : Str → Option Value} {base : Heap} (T : Tx c.K mg) {W W_law_take : Wp} (G_law_take : FnOk c.P c.w c.K mg base CX0 1 (T.f "_law_take") (T.fd "_law_take") ["draws", "many"] (spD c W_law_take))
    (len : ∀ A S R, W A S R → A.length = 1)
    (body : ∀ A S R, W A S R → RS c (t_law_special c W_law_take) (A ++ List.replicate 5 .no) S (endP S R)) :
    FnOk c.P c.w c.K mg base CX0 2 (T.f "_law_special") (T.fd "_law_special") ["draws"] (spD c W) := by
  refine T.F_law_special.ok sc_law_special (sp_len len) (fun cdv A outer s H vs Q E hr h => ⟨t_law_special c W_law_take, PSs.nox ?_, sp_body len body rfl h⟩)
  have hu := hu_of hr
  exact (pss_cons (ps_set (i := 1) sc_law_special.nd rfl (Or.inl rfl) (pe_call G_law_take (hr.mono (by decide)) rfl T.g_law_take T.F_law_take.kp T.b_law_take .nil pass0 (pa_cons (pv 0) (pa_cons pe_int pa_nil))))
  (pss_cons (ps_if (pt_cmpR op_eq (pv 1) pe_int (nomark _)) (pss_cons (ps_set (i := 2) sc_law_special.nd rfl (Or.inl rfl) pe_int)
  (pss_one (ps_set (i := 3) sc_law_special.nd rfl (Or.inl rfl) (pe_lst (pa_cons (pe_tup (pa_cons pe_int (pa_cons pe_int pa_nil))) (pa_cons (pe_tup (pa_cons pe_int (pa_cons pe_int pa_nil))) (pa_cons (pe_tup (pa_cons pe_int (pa_cons pe_int pa_nil))) (pa_cons (pe_tup (pa_cons pe_int (pa_cons pe_int pa_nil))) (pa_cons (pe_tup (pa_cons pe_int (pa_cons pe_int pa_nil))) (pa_cons (pe_tup (pa_cons pe_int (pa_cons pe_int pa_nil))) (pa_cons (pe_tup (pa_cons pe_int (pa_cons pe_int pa_nil))) pa_nil))))))))))) (pss_one (ps_if (pt_cmpR op_eq (pv 1) pe_int (nomark _)) (pss_cons (ps_set (i := 2) sc_law_special.nd rfl (Or.inl rfl) pe_int)
  (pss_one (ps_set (i := 3) sc_law_special.nd rfl (Or.inl rfl) (pe_lst (pa_cons (pe_tup (pa_cons pe_int (pa_cons pe_int pa_nil))) (pa_cons (pe_tup (pa_cons pe_int (pa_cons pe_int pa_nil))) (pa_cons (pe_tup (pa_cons pe_int (pa_cons pe_int pa_nil))) (pa_cons (pe_tup (pa_cons pe_int (pa_cons pe_int pa_nil))) (pa_cons (pe_tup (pa_cons pe_int (pa_cons pe_int pa_nil))) (pa_cons (pe_tup (pa_cons pe_int (pa_cons pe_int pa_nil))) (pa_cons (pe_tup (pa_cons pe_int (pa_cons pe_int pa_nil))) (pa_cons (pe_tup (pa_cons pe_int (pa_cons pe_int pa_nil))) (pa_cons (pe_tup (pa_cons pe_int (pa_cons pe_int pa_nil))) pa_nil))))))))))))) (pss_cons (ps_set (i := 2) sc_law_special.nd rfl (Or.inl rfl) pe_int)
  (pss_one (ps_set (i := 3) sc_law_special.nd rfl (Or.inl rfl) (pe_lst (pa_cons (pe_tup (pa_cons pe_int (pa_cons pe_int pa_nil))) (pa_cons (pe_tup (pa_cons pe_int (pa_cons pe_int pa_nil))) (pa_cons (pe_tup (pa_cons pe_int (pa_cons pe_int pa_nil))) (pa_cons (pe_tup (pa_cons pe_int (pa_cons pe_int pa_nil))) (pa_cons (pe_tup (pa_cons pe_int (pa_cons pe_int pa_nil))) (pa_cons (pe_tup (pa_cons pe_int (pa_cons pe_int pa_nil))) (pa_cons (pe_tup (pa_cons pe_int (pa_cons pe_int pa_nil))) (pa_cons (pe_tup (pa_cons pe_int (pa_cons pe_int pa_nil))) (pa_cons (pe_tup (pa_cons pe_int (pa_cons pe_int pa_nil))) pa_nil))))))))))))))))
  (pss_cons (ps_setLc (i := 4) (own := [("run", 5)]) (g := (gName 5)) (tt := (tTest (tOp rLt (tCall (spD c W_law_take) [] E0 (tCons (tVar 0) (tCons (tC (.int 8)) tNil))) (tC (.int 7))))) rfl sc_law_special.nd rfl rfl (sw_true rfl rfl rfl (by decide +kernel)) (pi_list (pv 3)) (blkOk_by (own := [("run", 5)]) (N := ["draws", "word", "size", "menu", "runs", "run"]) (sc := defScope s_law_special) (by decide +kernel)) (fun _ _ _ _ _ => (pg_name (i := 5) sc_law_special.nd rfl (Or.inl rfl))) (fun _ _ _ _ _ => (pts_one (pt_cmpR op_lt (pe_call G_law_take (hr.mono (by decide)) rfl T.g_law_take T.F_law_take.kp T.b_law_take .nil pass0 (pa_cons (pv 0) (pa_cons pe_int pa_nil))) pe_int (nomark _)))) (fun _ _ _ _ _ => (pv 5)))
  (pss_one (ps_ret (pe_lst (pa_cons (pv 2) (pa_cons (pv 4) pa_nil))))))))
/-- _law_chains -/
def t_law_chains (c : Cn) (W_law_take : Wp) : TS :=
  (tSeq (tAsg (tLst tNil) (gName 2))
  (tSeq (tFor (iRng1 (tCons (tOp qAdd (tC (.int 1)) (tCall (spD c W_law_take) [] E0 (tCons (tVar 0) (tCons (tC (.int 3)) tNil)))) tNil)) (gName 3) (tSeq (tAsg (tC (.int 0)) (gName 4))
  (tFor (iRng1 (tCons (tVar 1) tNil)) (gName 5) (tIfS (tTest (tOp rLt (tVar 4) (tVar 1))) (tSeq (tAsg (tCB rMin2 (tCons (tVar 1) (tCons (tOp qAdd (tOp qAdd (tVar 4) (tC (.int 1))) (tCall (spD c W_law_take) [] E0 (tCons (tVar 0) (tCons (tVar 1) tNil)))) tNil))) (gName 6))
  (tSeq (tDrop (tBM c.K "list" rAppend (tVar 2) (tCons (tTup (tCons (tVar 4) (tCons (tVar 6) tNil))) tNil)))
  (tAsg (tVar 6) (gName 4)))) tNext))))
  (tSeq (tFor (iRng1 (tCons (tCall (spD c W_law_take) [] E0 (tCons (tVar 0) (tCons (tC (.int 4)) tNil))) tNil)) (gName 5) (tSeq (tAsg (tCall (spD c W_law_take) [] E0 (tCons (tVar 0) (tCons (tVar 1) tNil))) (gName 4))
  (tDrop (tBM c.K "list" rAppend (tVar 2) (tCons (tTup (tCons (tVar 4) (tCons (tOp qAdd (tOp qAdd (tVar 4) (tC (.int 1))) (tCall (spD c W_law_take) [] E0 (tCons (tVar 0) (tCons (tOp qSub (tVar 1) (tVar 4)) tNil)))) tNil))) tNil)))))
  (tRet (tVar 2)))))
theorem mk_law_chains {c : Cn} {mg : Str → Option Value} {base : Heap} (T : Tx c.K mg) {W W_law_take : Wp} (G_law_take : FnOk c.P c.w c.K mg base CX0 1 (T.f "_law_take") (T.fd "_law_take") ["draws", "many"] (spD c W_law_take))
    (len : ∀ A S R, W A S R → A.length = 2)
    (body : ∀ A S R, W A S R → RS c (t_law_chains c W_law_take) (A ++ List.replicate 5 .no) S (endP S R)) :
    FnOk c.P c.w c.K mg base CX0 2 (T.f "_law_chains") (T.fd "_law_chains") ["draws", "size"] (spD c W) := by
  refine T.F_law_chains.ok sc_law_chains (sp_len len) (fun cdv A outer s H vs Q E hr h => ⟨t_law_chains c W_law_take, PSs.nox ?_, sp_body len body rfl h⟩)
  have hu := hu_of hr
  exact (pss_cons (ps_set (i := 2) sc_law_chains.nd rfl (Or.inl rfl) (pe_lst pa_nil))
  (pss_cons (ps_for PassesOwn.never rfl (pi_range1 rfl T.n_range (pa_cons (pe_op op_add pe_int (pe_call G_law_take (hr.mono (by decide)) rfl T.g_law_take T.F_law_take.kp T.b_law_take .nil pass0 (pa_cons (pv 0) (pa_cons pe_int pa_nil)))) pa_nil)) (pg_name (i := 3) sc_law_chains.nd rfl (Or.inl rfl)) (pss_cons (ps_set (i := 4) sc_law_chains.nd rfl (Or.inl rfl) pe_int)
  (pss_one (ps_for PassesOwn.never rfl (pi_range1 rfl T.n_range (pa_cons (pv 1) pa_nil)) (pg_name (i := 5) sc_law_chains.nd rfl (Or.inl rfl)) (pss_one (ps_if (pt_cmpR op_lt (pv 4) (pv 1) (nomark _)) (pss_cons (ps_set (i := 6) sc_law_chains.nd rfl (Or.inl rfl) (pe_callB (call_min2 rfl) rfl T.n_min (by decide +kernel) (pa_cons (pv 1) (pa_cons (pe_op op_add (pe_op op_add (pv 4) pe_int) (pe_call G_law_take (hr.mono (by decide)) rfl T.g_law_take T.F_law_take.kp T.b_law_take .nil pass0 (pa_cons (pv 0) (pa_cons (pv 1) pa_nil)))) pa_nil))))
  (pss_cons (ps_expr (pe_bm PySem.F.plainAttrs_list PySem.F.slot_list_append PySem.F.type_list_append mt_append (pv 2) (pa_cons (pe_tup (pa_cons (pv 4) (pa_cons (pv 6) pa_nil))) pa_nil)))
  (pss_one (ps_set (i := 4) sc_law_chains.nd rfl (Or.inl rfl) (pv 6))))) pss_nil))))))
  (pss_cons (ps_for PassesOwn.never rfl (pi_range1 rfl T.n_range (pa_cons (pe_call G_law_take (hr.mono (by decide)) rfl T.g_law_take T.F_law_take.kp T.b_law_take .nil pass0 (pa_cons (pv 0) (pa_cons pe_int pa_nil))) pa_nil)) (pg_name (i := 5) sc_law_chains.nd rfl (Or.inl rfl)) (pss_cons (ps_set (i := 4) sc_law_chains.nd rfl (Or.inl rfl) (pe_call G_law_take (hr.mono (by decide)) rfl T.g_law_take T.F_law_take.kp T.b_law_take .nil pass0 (pa_cons (pv 0) (pa_cons (pv 1) pa_nil))))
  (pss_one (ps_expr (pe_bm PySem.F.plainAttrs_list PySem.F.slot_list_append PySem.F.type_list_append mt_append (pv 2) (pa_cons (pe_tup (pa_cons (pv 4) (pa_cons (pe_op op_add (pe_op op_add (pv 4) pe_int) (pe_call G_law_take (hr.mono (by decide)) rfl T.g_law_take T.F_law_take.kp T.b_law_take .nil pass0 (pa_cons (pv 0) (pa_cons (pe_op op_sub (pv 1) (pv 4)) pa_nil)))) pa_nil))) pa_nil))))))
  (pss_one (ps_ret (pv 2))))))
/-- _law_market -/
def t_law_market (c : Cn) (W_law_take W_law_special W_law_chains : Wp) : TS :=
  (tSeq (tAsg (tCall (spD c W_law_take) [] E0 (tCons (tVar 0) (tCons (tC (.int 5)) tNil))) (gName 2))
  (tSeq (tIfS (tTest (tOp rGe (tVar 2) (tC (.int 3)))) (tSeq (tAsg (tCall (spD c W_law_special) [] E0 (tCons (tVar 0) tNil)) (gName 3))
  (tSeq (tAsg (tOp (rIx c.K) (tVar 3) (tC (.int 0))) (gName 4))
  (tAsg (tOp (rIx c.K) (tVar 3) (tC (.int 1))) (gName 5)))) (tSeq (tAsg (tOp (rIx c.K) (tLst (tCons (tC (.int 3)) (tCons (tC (.int 1)) (tCons (tC (.int 2)) (tCons (tC (.int 4)) (tCons (tC (.int 5)) (tCons (tC (.int 3)) (tCons (tC (.int 4)) (tCons (tC (.int 3)) (tCons (tC (.int 6)) (tCons (tC (.int 2)) tNil))))))))))) (tCall (spD c W_law_take) [] E0 (tCons (tVar 0) (tCons (tC (.int 10)) tNil)))) (gName 4))
  (tSeq (tIfS (tTest (tOp rEq (tCall (spD c W_law_take) [] E0 (tCons (tVar 0) (tCons (tC (.int 12)) tNil))) (tC (.int 11)))) (tAsg (tC (.int 8)) (gName 4)) tNext)
  (tAsg (tCall (spD c W_law_chains) [] E0 (tCons (tVar 0) (tCons (tVar 4) tNil))) (gName 5)))))
  (tSeq (tAsg (tCall (spD c W_law_take) [] E0 (tCons (tVar 0) (tCons (tC (.int 9)) tNil))) (gName 6))
  (tSeq (tIfS (tTest (tOp rLt (tVar 6) (tCB (rLenS c.K) (tCons (tVar 5) tNil)))) (tAsg (tOp rCat (tSl (rSlL c.K) (tVar 5) (tPart (tVar 6)) tNoPart) (tSl (rSlL c.K) (tVar 5) tNoPart (tPart (tVar 6)))) (gName 5)) tNext)
  (tSeq (tAsg (tSl (rSlL c.K) (tVar 5) tNoPart (tPart (tVar 1))) (gName 5))
  (tSeq (tAsg (tLst tNil) (gName 7))
  (tSeq (tIfS (tAnd (tTest (tOp rEq (tCall (spD c W_law_take) [] E0 (tCons (tVar 0) (tCons (tC (.int 10)) tNil))) (tC (.int 9)))) (tTest (tOp rGt (tCB (rLenS c.K) (tCons (tVar 5) tNil)) (tC (.int 1))))) (tAsg (tLst (tCons (tCall (spD c W_law_take) [] E0 (tCons (tVar 0) (tCons (tCB (rLenS c.K) (tCons (tVar 5) tNil)) tNil))) tNil)) (gName 7)) tNext)
  (tRet (tLst (tCons (tVar 4) (tCons (tVar 5) (tCons (tVar 7) tNil))))))))))))
theorem mk_law_market {c : Cn} {mg : Str → Option Value} {base : Heap} (T : Tx c.K mg) {W W_law_take W_law_special W_law_chains : Wp} (G_law_take : FnOk c.P c.w c.K mg base CX0 1 (T.f "_law_take") (T.fd "_law_take") ["draws", "many"] (spD c W_law_take)) (G_law_special : FnOk c.P c.w c.K mg base CX0 2 (T.f "_law_special") (T.fd "_law_special") ["draws"] (spD c W_law_special)) (G_law_chains : FnOk c.P c.w c.K mg base CX0 2 (T.f "_law_chains") (T.fd "_law_chains") ["draws", "size"] (spD c W_law_chains))
    (len : ∀ A S R, W A S R → A.length = 2)
    (body : ∀ A S R, W A S R → RS c (t_law_market c W_law_take W_law_special W_law_chains) (A ++ List.replicate 6 .no) S (endP S R)) :
    FnOk c.P c.w c.K mg base CX0 3 (T.f "_law_market") (T.fd "_law_market") ["draws", "most"] (spD c W) := by
  refine T.F_law_market.ok sc_law_market (sp_len len) (fun cdv A outer s H vs Q E hr h => ⟨t_law_market c W_law_take W_law_special W_law_chains, PSs.nox ?_, sp_body len body rfl h⟩)
  have hu := hu_of hr
  exact (pss_cons (ps_set (i := 2) sc_law_market.nd rfl (Or.inl rfl) (pe_call G_law_take (hr.mono (by decide)) rfl T.g_law_take T.F_law_take.kp T.b_law_take .nil pass0 (pa_cons (pv 0) (pa_cons pe_int pa_nil))))
  (pss_cons (ps_if (pt_cmpR op_ge (pv 2) pe_int (nomark _)) (pss_cons (ps_set (i := 3) sc_law_market.nd rfl (Or.inl rfl) (pe_call G_law_special (hr.mono (by decide)) rfl T.g_law_special T.F_law_special.kp T.b_law_special .nil pass0 (pa_cons (pv 0) pa_nil)))
  (pss_cons (ps_set (i := 4) sc_law_market.nd rfl (Or.inl rfl) (pe_ix ix_seq (pv 3) pe_int (fun _ _ => rfl)))
  (pss_one (ps_set (i := 5) sc_law_market.nd rfl (Or.inl rfl) (pe_ix ix_seq (pv 3) pe_int (fun _ _ => rfl)))))) (pss_cons (ps_set (i := 4) sc_law_market.nd rfl (Or.inl rfl) (pe_ix ix_seq (pe_lst (pa_cons pe_int (pa_cons pe_int (pa_cons pe_int (pa_cons pe_int (pa_cons pe_int (pa_cons pe_int (pa_cons pe_int (pa_cons pe_int (pa_cons pe_int (pa_cons pe_int pa_nil))))))))))) (pe_call G_law_take (hr.mono (by decide)) rfl T.g_law_take T.F_law_take.kp T.b_law_take .nil pass0 (pa_cons (pv 0) (pa_cons pe_int pa_nil))) (fun _ _ => rfl)))
  (pss_cons (ps_if (pt_cmpR op_eq (pe_call G_law_take (hr.mono (by decide)) rfl T.g_law_take T.F_law_take.kp T.b_law_take .nil pass0 (pa_cons (pv 0) (pa_cons pe_int pa_nil))) pe_int (nomark _)) (pss_one (ps_set (i := 4) sc_law_market.nd rfl (Or.inl rfl) pe_int)) pss_nil)
  (pss_one (ps_set (i := 5) sc_law_market.nd rfl (Or.inl rfl) (pe_call G_law_chains (hr.mono (by decide)) rfl T.g_law_chains T.F_law_chains.kp T.b_law_chains .nil pass0 (pa_cons (pv 0) (pa_cons (pv 4) pa_nil))))))))
  (pss_cons (ps_set (i := 6) sc_law_market.nd rfl (Or.inl rfl) (pe_call G_law_take (hr.mono (by decide)) rfl T.g_law_take T.F_law_take.kp T.b_law_take .nil pass0 (pa_cons (pv 0) (pa_cons pe_int pa_nil))))
  (pss_cons (ps_if (pt_cmpR op_lt (pv 6) (pe_callB call_len_seq rfl T.n_len (by decide +kernel) (pa_cons (pv 5) pa_nil)) (nomark _)) (pss_one (ps_set (i := 5) sc_law_market.nd rfl (Or.inl rfl) (pe_op op_cat (pe_slice sl_list (pv 5) (po_some (pv 6)) po_none) (pe_slice sl_list (pv 5) po_none (po_some (pv 6)))))) pss_nil)
  (pss_cons (ps_set (i := 5) sc_law_market.nd rfl (Or.inl rfl) (pe_slice sl_list (pv 5) po_none (po_some (pv 1))))
  (pss_cons (ps_set (i := 7) sc_law_market.nd rfl (Or.inl rfl) (pe_lst pa_nil))
  (pss_cons (ps_if (PW.pt (pw_and (pt_cmpR op_eq (pe_call G_law_take (hr.mono (by decide)) rfl T.g_law_take T.F_law_take.kp T.b_law_take .nil pass0 (pa_cons (pv 0) (pa_cons pe_int pa_nil))) pe_int (nomark _)) (pw_and1 (pt_cmpR op_gt (pe_callB call_len_seq rfl T.n_len (by decide +kernel) (pa_cons (pv 5) pa_nil)) pe_int (nomark _))))) (pss_one (ps_set (i := 7) sc_law_market.nd rfl (Or.inl rfl) (pe_lst (pa_cons (pe_call G_law_take (hr.mono (by decide)) rfl T.g_law_take T.F_law_take.kp T.b_law_take .nil pass0 (pa_cons (pv 0) (pa_cons (pe_callB call_len_seq rfl T.n_len (by decide +kernel) (pa_cons (pv 5) pa_nil)) pa_nil))) pa_nil)))) pss_nil)
  (pss_one (ps_ret (pe_lst (pa_cons (pv 4) (pa_cons (pv 5) (pa_cons (pv 7) pa_nil)))))))))))))
/-- is_int -/
def t_is_int (c : Cn) : TS :=
  (tRet (tAndV (tCB (rIsi c.K) (tCons (tVar 0) (tCons (tC (.ty "int")) tNil))) (tNotV (tCB (rIsi c.K) (tCons (tVar 0) (tCons (tC (.ty "bool")) tNil))))))
theorem mk_is_int {c : Cn} {mg : Str → Option Value} {base : Heap} (T : Tx c.K mg) {W : Wp}
    (len : ∀ A S R, W A S R → A.length = 1)
    (body : ∀ A S R, W A S R → RS c (t_is_int c) (A ++ List.replicate 0 .no) S (endP S R)) :
    FnOk c.P c.w c.K mg base CX0 1 (T.f "is_int") (T.fd "is_int") ["value"] (spD c W) := by
  refine T.F_is_int.ok sc_is_int (sp_len len) (fun cdv A outer s H vs Q E hr h => ⟨t_is_int c, PSs.nox ?_, sp_body len body rfl h⟩)
  have hu := hu_of hr
  exact (pss_one (ps_ret (pe_and (pe_callB call_isi rfl T.n_isinstance (by decide +kernel) (pa_cons (pv 0) (pa_cons (pe_bltn rfl T.n_int (by decide +kernel) rfl) pa_nil))) (pe_one (pe_not (pe_callB call_isi rfl T.n_isinstance (by decide +kernel) (pa_cons (pv 0) (pa_cons (pe_bltn rfl T.n_bool (by decide +kernel) rfl) pa_nil))))))))
/-- check_number -/
def t_check_number (c : Cn) (W_is_int : Wp) : TS :=
  (tSeq (tIfS (tNot (tB (tCall (spD c W_is_int) [] E0 (tCons (tVar 0) tNil)))) tNever tNext)
  (tSeq (tIfS (tTest (tOp rLt (tVar 0) (tVar 2))) tNever tNext)
  (tSeq (tIfS (tAnd (tTest (tOp rNotN0 (tVar 3) (tC .non))) (tTest (tOp rGt (tVar 0) (tVar 3)))) tNever tNext)
  (tRet (tVar 0)))))
theorem mk_check_number {c : Cn} {mg : Str → Option Value} {base : Heap} (T : Tx c.K mg) {W W_is_int : Wp} (G_is_int : FnOk c.P c.w c.K mg base CX0 1 (T.f "is_int") (T.fd "is_int") ["value"] (spD c W_is_int))
    (len : ∀ A S R, W A S R → A.length = 4)
    (body : ∀ A S R, W A S R → RS c (t_check_number c W_is_int) (A ++ List.replicate 0 .no) S (endP S R)) :
    FnOk c.P c.w c.K mg base CX0 2 (T.f "check_number") (T.fd "check_number") ["value", "name", "least", "most"] (spD c W) := by
  refine T.F_check_number.ok sc_check_number (sp_len len) (fun cdv A outer s H vs Q E hr h => ⟨t_check_number c W_is_int, PSs.nox ?_, sp_body len body rfl h⟩)
  have hu := hu_of hr
  exact (pss_cons (ps_if (pt_not (pt_val (pe_call G_is_int (hr.mono (by decide)) rfl T.g_is_int T.F_is_int.kp T.b_is_int .nil pass0 (pa_cons (pv 0) pa_nil)))) (pss_one ps_never) pss_nil)
  (pss_cons (ps_if (pt_cmpR op_lt (pv 0) (pv 2) (nomark _)) (pss_one ps_never) pss_nil)
  (pss_cons (ps_if (PW.pt (pw_and (pt_cmpR op_notN (pv 3) pe_non (nomark _)) (pw_and1 (pt_cmpR op_gt (pv 0) (pv 3) (nomark _))))) (pss_one ps_never) pss_nil)
  (pss_one (ps_ret (pv 0))))))
/-- pair_of -/
def t_pair_of (c : Cn) (W_is_int : Wp) : TS :=
  (tSeq (tIfS (tOr (tNot (tB (tCB (rIsiT c.K) (tCons (tVar 1) (tCons (tTup (tCons (tC (.ty "list")) (tCons (tC (.ty "tuple")) tNil))) tNil))))) (tTest (tOp rNe (tCB (rLenS c.K) (tCons (tVar 1) tNil)) (tC (.int 2))))) (tRet (tC .non)) tNext)
  (tSeq (tAsg (tVar 1) (gTup c.K 2 (gCons (gName 2) (gCons (gName 3) gNil))))
  (tSeq (tIfS (tOr (tNot (tB (tCall (spD c W_is_int) [] E0 (tCons (tVar 2) tNil)))) (tNot (tB (tCall (spD c W_is_int) [] E0 (tCons (tVar 3) tNil))))) (tRet (tC .non)) tNext)
  (tSeq (tIfS (tOr (tTest (tOp rLt (tVar 2) (tC (.int 0)))) (tOr (tTest (tOp rGe (tVar 2) (tVar 3))) (tTest (tOp rGt (tVar 3) (tVar 0))))) (tRet (tC .non)) tNext)
  (tRet (tTup (tCons (tVar 2) (tCons (tVar 3) tNil))))))))
theorem mk_pair_of {c : Cn} {mg : Str → Option Value} {base : Heap} (T : Tx c.K mg) {W W_is_int : Wp} (G_is_int : FnOk c.P c.w c.K mg base CX0 1 (T.f "is_int") (T.fd "is_int") ["value"] (spD c W_is_int))
    (len : ∀ A S R, W A S R → A.length = 2)
    (body : ∀ A S R, W A S R → RS c (t_pair_of c W_is_int) (A ++ List.replicate 2 .no) S (endP S R)) :
    FnOk c.P c.w c.K mg base CX0 2 (T.f "pair_of") (T.fd "pair_of") ["size", "run"] (spD c W) := by
  refine T.F_pair_of.ok sc_pair_of (sp_len len) (fun cdv A outer s H vs Q E hr h => ⟨t_pair_of c W_is_int, PSs.nox ?_, sp_body len body rfl h⟩)
  have hu := hu_of hr
  exact (pss_cons (ps_if (PW.pt (pw_or (pt_not (pt_val (pe_callB call_isiT rfl T.n_isinstance (by decide +kernel) (pa_cons (pv 1) (pa_cons (pe_tup (pa_cons (pe_bltn rfl T.n_list (by decide +kernel) rfl) (pa_cons (pe_bltn rfl T.n_tuple (by decide +kernel) rfl) pa_nil))) pa_nil))))) (pw_or1 (pt_cmpR op_ne (pe_callB call_len_seq rfl T.n_len (by decide +kernel) (pa_cons (pv 1) pa_nil)) pe_int (nomark _))))) (pss_one (ps_ret pe_non)) pss_nil)
  (pss_cons (ps_asg (pv 1) (pg_tup rfl (pgs_cons (pg_name (i := 2) sc_pair_of.nd rfl (Or.inl rfl)) (pgs_cons (pg_name (i := 3) sc_pair_of.nd rfl (Or.inl rfl)) pgs_nil))))
  (pss_cons (ps_if (PW.pt (pw_or (pt_not (pt_val (pe_call G_is_int (hr.mono (by decide)) rfl T.g_is_int T.F_is_int.kp T.b_is_int .nil pass0 (pa_cons (pv 2) pa_nil)))) (pw_or1 (pt_not (pt_val (pe_call G_is_int (hr.mono (by decide)) rfl T.g_is_int T.F_is_int.kp T.b_is_int .nil pass0 (pa_cons (pv 3) pa_nil))))))) (pss_one (ps_ret pe_non)) pss_nil)
  (pss_cons (ps_if (PW.pt (pw_or (pt_cmpR op_lt (pv 2) pe_int (nomark _)) (pw_or (pt_cmpR op_ge (pv 2) (pv 3) (nomark _)) (pw_or1 (pt_cmpR op_gt (pv 3) (pv 0) (nomark _)))))) (pss_one (ps_ret pe_non)) pss_nil)
  (pss_one (ps_ret (pe_tup (pa_cons (pv 2) (pa_cons (pv 3) pa_nil)))))))))
/-- _runs_of -/
def t_u_runs_of (c : Cn) (W_pair_of : Wp) : TS :=
  (tSeq (tIfS (tNot (tB (tCB (rIsiT c.K) (tCons (tVar 1) (tCons (tTup (tCons (tC (.ty "list")) (tCons (tC (.ty "tuple")) tNil))) tNil))))) tNever tNext)
  (tSeq (tAsg (tLst tNil) (gName 2))
  (tSeq (tFor (iEnumA c.K (tCons (tVar 1) tNil)) (gTup c.K 2 (gCons (gName 3) (gCons (gName 4) gNil))) (tSeq (tAsg (tCall (spD c W_pair_of) [] E0 (tCons (tVar 0) (tCons (tVar 4) tNil))) (gName 5))
  (tSeq (tIfS (tTest (tOp rIsN0 (tVar 5) (tC .non))) tNever tNext)
  (tDrop (tBM c.K "list" rAppend (tVar 2) (tCons (tVar 5) tNil))))))
  (tRet (tCB (rTupS c.K) (tCons (tVar 2) tNil))))))
theorem mk_u_runs_of {c : Cn} {mg : Str → Option Value} {base : Heap} (T : Tx c.K mg) {W W_pair_of : Wp} (G_pair_of : FnOk c.P c.w c.K mg base CX0 2 (T.f "pair_of") (T.fd "pair_of") ["size", "run"] (spD c W_pair_of))
    (len : ∀ A S R, W A S R → A.length = 2)
    (body : ∀ A S R, W A S R → RS c (t_u_runs_of c W_pair_of) (A ++ List.replicate 4 .no) S (endP S R)) :
    FnOk c.P c.w c.K mg base CX0 3 (T.f "_runs_of") (T.fd "_runs_of") ["size", "runs"] (spD c W) := by
  refine T.F_u_runs_of.ok sc_u_runs_of (sp_len len) (fun cdv A outer s H vs Q E hr h => ⟨t_u_runs_of c W_pair_of, PSs.nox ?_, sp_body len body rfl h⟩)
  have hu := hu_of hr
  exact (pss_cons (ps_if (pt_not (pt_val (pe_callB call_isiT rfl T.n_isinstance (by decide +kernel) (pa_cons (pv 1) (pa_cons (pe_tup (pa_cons (pe_bltn rfl T.n_list (by decide +kernel) rfl) (pa_cons (pe_bltn rfl T.n_tuple (by decide +kernel) rfl) pa_nil))) pa_nil))))) (pss_one ps_never) pss_nil)
  (pss_cons (ps_set (i := 2) sc_u_runs_of.nd rfl (Or.inl rfl) (pe_lst pa_nil))
  (pss_cons (ps_for PassesOwn.never rfl (pi_enumA rfl T.n_enumerate (pa_cons (pv 1) pa_nil)) (pg_tup rfl (pgs_cons (pg_name (i := 3) sc_u_runs_of.nd rfl (Or.inl rfl)) (pgs_cons (pg_name (i := 4) sc_u_runs_of.nd rfl (Or.inl rfl)) pgs_nil))) (pss_cons (ps_set (i := 5) sc_u_runs_of.nd rfl (Or.inl rfl) (pe_call G_pair_of (hr.mono (by decide)) rfl T.g_pair_of T.F_pair_of.kp T.b_pair_of .nil pass0 (pa_cons (pv 0) (pa_cons (pv 4) pa_nil))))
  (pss_cons (ps_if (pt_cmpR op_isN (pv 5) pe_non (nomark _)) (pss_one ps_never) pss_nil)
  (pss_one (ps_expr (pe_bm PySem.F.plainAttrs_list PySem.F.slot_list_append PySem.F.type_list_append mt_append (pv 2) (pa_cons (pv 5) pa_nil)))))))
  (pss_one (ps_ret (pe_callTy call_tuple_of rfl T.n_tuple (by decide +kernel) (pa_cons (pv 2) pa_nil)))))))
/-- set_of -/
def t_set_of (c : Cn) (W_check_number W_is_int : Wp) : TS :=
  (tSeq (tDrop (tCall (spD c W_check_number) [] E0 (tCons (tVar 0) (tCons (tC (.str "many")) (tCons (tC (.int 0)) (tCons (tC .non) tNil))))))
  (tSeq (tIfS (tNot (tB (tCB (rIsiT c.K) (tCons (tVar 1) (tCons (tTup (tCons (tC (.ty "list")) (tCons (tC (.ty "tuple")) tNil))) tNil))))) tNever tNext)
  (tSeq (tAsg tDNewK (gName 2))
  (tSeq (tFor (iEnumA c.K (tCons (tVar 1) tNil)) (gTup c.K 2 (gCons (gName 3) (gCons (gName 4) gNil))) (tSeq (tIfS (tOr (tNot (tB (tCall (spD c W_is_int) [] E0 (tCons (tVar 4) tNil)))) (tOr (tTest (tOp rLt (tVar 4) (tC (.int 0)))) (tOr (tTest (tOp rGe (tVar 4) (tVar 0))) (tB (tDIn (tVar 4) (tVar 2)))))) tNever tNext)
  (sDPut (tVar 2) (tVar 4) (tC (.bl true)))))
  (tRet (tCB (rTupS c.K) (tCons (tCB (rSortedI c.K) (tCons (tCB rListD (tCons (tVar 2) tNil)) tNil)) tNil)))))))
theorem mk_set_of {c : Cn} {mg : Str → Option Value} {base : Heap} (T : Tx c.K mg) {W W_check_number W_is_int : Wp} (G_check_number : FnOk c.P c.w c.K mg base CX0 2 (T.f "check_number") (T.fd "check_number") ["value", "name", "least", "most"] (spD c W_check_number)) (G_is_int : FnOk c.P c.w c.K mg base CX0 1 (T.f "is_int") (T.fd "is_int") ["value"] (spD c W_is_int))
    (len : ∀ A S R, W A S R → A.length = 2)
    (body : ∀ A S R, W A S R → RS c (t_set_of c W_check_number W_is_int) (A ++ List.replicate 3 .no) S (endP S R)) :
    FnOk c.P c.w c.K mg base CX0 3 (T.f "set_of") (T.fd "set_of") ["many", "parts"] (spD c W) := by
  refine T.F_set_of.ok sc_set_of (sp_len len) (fun cdv A outer s H vs Q E hr h => ⟨t_set_of c W_check_number W_is_int, PSs.nox ?_, sp_body len body rfl h⟩)
  have hu := hu_of hr
  exact (pss_cons (ps_expr (pe_call G_check_number (hr.mono (by decide)) rfl T.g_check_number T.F_check_number.kp T.b_check_number .nil pass0 (pa_cons (pv 0) (pa_cons pe_str (pa_cons pe_int (pa_cons pe_non pa_nil))))))
  (pss_cons (ps_if (pt_not (pt_val (pe_callB call_isiT rfl T.n_isinstance (by decide +kernel) (pa_cons (pv 1) (pa_cons (pe_tup (pa_cons (pe_bltn rfl T.n_list (by decide +kernel) rfl) (pa_cons (pe_bltn rfl T.n_tuple (by decide +kernel) rfl) pa_nil))) pa_nil))))) (pss_one ps_never) pss_nil)
  (pss_cons (ps_set (i := 2) sc_set_of.nd rfl (Or.inl rfl) pe_dnewK)
  (pss_cons (ps_for PassesOwn.never rfl (pi_enumA rfl T.n_enumerate (pa_cons (pv 1) pa_nil)) (pg_tup rfl (pgs_cons (pg_name (i := 3) sc_set_of.nd rfl (Or.inl rfl)) (pgs_cons (pg_name (i := 4) sc_set_of.nd rfl (Or.inl rfl)) pgs_nil))) (pss_cons (ps_if (PW.pt (pw_or (pt_not (pt_val (pe_call G_is_int (hr.mono (by decide)) rfl T.g_is_int T.F_is_int.kp T.b_is_int .nil pass0 (pa_cons (pv 4) pa_nil)))) (pw_or (pt_cmpR op_lt (pv 4) pe_int (nomark _)) (pw_or (pt_cmpR op_ge (pv 4) (pv 0) (nomark _)) (pw_or1 (pt_cmp (pc_din hu (pv 4) (pv 2)) rfl)))))) (pss_one ps_never) pss_nil)
  (pss_one (ps_dput hu (pv 2) (pv 4) pe_bl rfl))))
  (pss_one (ps_ret (pe_callTy call_tuple_of rfl T.n_tuple (by decide +kernel) (pa_cons (pe_callB cr_sortedI rfl T.n_sorted (by decide +kernel) (pa_cons (pe_callTy (call_list_dK rfl) rfl T.n_list (by decide +kernel) (pa_cons (pv 2) pa_nil)) pa_nil)) pa_nil))))))))
/-- Market.__init__ -/
def t_Market_init (c : Cn) (W_check_number W_u_runs_of W_set_of : Wp) : TS :=
  (tSeq (sFld c.K (tVar 0) (tCall (spD c W_check_number) [] E0 (tCons (tVar 1) (tCons (tC (.str "size")) (tCons (tC (.int 1)) (tCons (tC (.int 30)) tNil))))) "size")
  (tSeq (sFld c.K (tVar 0) (tCall (spD c W_u_runs_of) [] E0 (tCons (tVar 1) (tCons (tVar 2) tNil))) "runs")
  (sFld c.K (tVar 0) (tCall (spD c W_set_of) [] E0 (tCons (tCB (rLenS c.K) (tCons (tFld c.K (tVar 0) "runs") tNil)) (tCons (tVar 3) tNil))) "gone")))
theorem mk_Market_init {c : Cn} {mg : Str → Option Value} {base : Heap} (T : Tx c.K mg) {W W_check_number W_u_runs_of W_set_of : Wp} (G_check_number : FnOk c.P c.w c.K mg base CX0 2 (T.f "check_number") (T.fd "check_number") ["value", "name", "least", "most"] (spD c W_check_number)) (G_u_runs_of : FnOk c.P c.w c.K mg base CX0 3 (T.f "_runs_of") (T.fd "_runs_of") ["size", "runs"] (spD c W_u_runs_of)) (G_set_of : FnOk c.P c.w c.K mg base CX0 3 (T.f "set_of") (T.fd "set_of") ["many", "parts"] (spD c W_set_of))
    (len : ∀ A S R, W A S R → A.length = 4)
    (body : ∀ A S R, W A S R → RS c (t_Market_init c W_check_number W_u_runs_of W_set_of) (A ++ List.replicate 0 .no) S (endP S R)) :
    FnOk c.P c.w c.K mg base CX0 4 (T.f "Market.__init__") (T.fd "Market.__init__") ["self", "size", "runs", "gone"] (spD c W) := by
  refine T.F_Market_init.ok sc_Market_init (sp_len len) (fun cdv A outer s H vs Q E hr h => ⟨t_Market_init c W_check_number W_u_runs_of W_set_of, PSs.nox ?_, sp_body len body rfl h⟩)
  have hu := hu_of hr
  exact (pss_cons (ps_fld (pv 0) (pe_call G_check_number (hr.mono (by decide)) rfl T.g_check_number T.F_check_number.kp T.b_check_number .nil pass0 (pa_cons (pv 1) (pa_cons pe_str (pa_cons pe_int (pa_cons pe_int pa_nil))))) rfl)
  (pss_cons (ps_fld (pv 0) (pe_call G_u_runs_of (hr.mono (by decide)) rfl T.g_u_runs_of T.F_u_runs_of.kp T.b_u_runs_of .nil pass0 (pa_cons (pv 1) (pa_cons (pv 2) pa_nil))) rfl)
  (pss_one (ps_fld (pv 0) (pe_call G_set_of (hr.mono (by decide)) rfl T.g_set_of T.F_set_of.kp T.b_set_of .nil pass0 (pa_cons (pe_callB call_len_seq rfl T.n_len (by decide +kernel) (pa_cons (pe_fld (pv 0) rfl) pa_nil)) (pa_cons (pv 3) pa_nil))) rfl))))
-- Join.__init__: by hand
/-- minus -/
def t_minus (c : Cn) : TS :=
  (tSeq (tAsg (tDc (iTup c.K (tVar 1)) (gName 3) tYes (tVar 3) (tC (.bl true)) [3]) (gName 2))
  (tRet (tCB (rTupF c.K) (tCons (tLc (iTup c.K (tVar 0)) (gName 3) (tB (tDNotIn (tVar 3) (tVar 2))) (tVar 3) [3]) tNil))))
theorem mk_minus {c : Cn} {mg : Str → Option Value} {base : Heap} (T : Tx c.K mg) {W : Wp}
    (len : ∀ A S R, W A S R → A.length = 2)
    (body : ∀ A S R, W A S R → RS c (t_minus c) (A ++ List.replicate 2 .no) S (endP S R)) :
    FnOk c.P c.w c.K mg base CX0 1 (T.f "minus") (T.fd "minus") ["one", "other"] (spD c W) := by
  refine T.F_minus.ok sc_minus (sp_len len) (fun cdv A outer s H vs Q E hr h => ⟨t_minus c, PSs.nox ?_, sp_body len body rfl h⟩)
  have hu := hu_of hr
  exact (pss_cons (ps_set (i := 2) sc_minus.nd rfl (Or.inr rfl) (pe_dc (own := [("part", 3)]) (g := (gName 3)) (tt := tYes) rfl sc_minus.nd (pi_tup (pv 1)) (blkOk_by (own := [("part", 3)]) (N := ["one", "other", "known", "part"]) (sc := defScope s_minus) (by decide +kernel)) (fun _ _ _ _ _ => (pg_name (i := 3) sc_minus.nd rfl (Or.inl rfl))) (fun _ _ _ _ _ => pts_nil) (fun _ _ _ _ _ => (pv 3)) (fun _ _ _ _ _ => pe_bl)))
  (pss_one (ps_ret (pe_callTy call_tupleF rfl T.n_tuple (by decide +kernel) (pa_cons (pe_lc (own := [("part", 3)]) (g := (gName 3)) (tt := (tB (tDNotIn (tVar 3) (tVar 2)))) rfl sc_minus.nd (pi_tup (pv 0)) (blkOk_by (own := [("part", 3)]) (N := ["one", "other", "known", "part"]) (sc := defScope s_minus) (by decide +kernel)) (fun _ _ _ _ _ => (pg_name (i := 3) sc_minus.nd rfl (Or.inl rfl))) (fun _ _ _ _ _ => (pts_one (pt_cmp (pc_dnotin hu (pv 3) (pv 2)) rfl))) (fun _ _ _ _ _ => (pv 3))) pa_nil)))))
/-- Market.there -/
def t_Market_there (c : Cn) (W_minus : Wp) : TS :=
  (tRet (tCall (spD c W_minus) [] E0 (tCons (tTupRg (tRg1 (tCB (rLenS c.K) (tCons (tFld c.K (tVar 0) "runs") tNil)))) (tCons (tFld c.K (tVar 0) "gone") tNil))))
theorem mk_Market_there {c : Cn} {mg : Str → Option Value} {base : Heap} (T : Tx c.K mg) {W W_minus : Wp} (G_minus : FnOk c.P c.w c.K mg base CX0 1 (T.f "minus") (T.fd "minus") ["one", "other"] (spD c W_minus))
    (len : ∀ A S R, W A S R → A.length = 1)
    (body : ∀ A S R, W A S R → RS c (t_Market_there c W_minus) (A ++ List.replicate 0 .no) S (endP S R)) :
    FnOk c.P c.w c.K mg base CX0 2 (T.f "Market.there") (T.fd "Market.there") ["self"] (spD c W) := by
  refine T.F_Market_there.ok sc_Market_there (sp_len len) (fun cdv A outer s H vs Q E hr h => ⟨t_Market_there c W_minus, PSs.nox ?_, sp_body len body rfl h⟩)
  have hu := hu_of hr
  exact (pss_one (ps_ret (pe_call G_minus (hr.mono (by decide)) rfl T.g_minus T.F_minus.kp T.b_minus .nil pass0 (pa_cons (pe_tupRg rfl rfl T.n_tuple (prg_1 rfl T.n_range (pe_callB call_len_seq rfl T.n_len (by decide +kernel) (pa_cons (pe_fld (pv 0) rfl) pa_nil)))) (pa_cons (pe_fld (pv 0) rfl) pa_nil)))))
/-- _reached -/
def t_u_reached (c : Cn) {mg : Str → Option Value} (T : Tx c.K mg) (W_Market_there : Wp) : TS :=
  (tSeq (tAsg tDNewK (gName 4))
  (tSeq (tFor (iList c.K (tVar 2)) (gName 5) (sDPut (tVar 4) (tVar 5) (tC .non)))
  (tSeq (tAsg (tCB (rListS c.K) (tCons (tVar 2) tNil)) (gName 6))
  (tSeq (tAsg (tC (.int 0)) (gName 7))
  (tSeq (tWhile (tTest (tOp rLt (tVar 7) (tCB (rLenS c.K) (tCons (tVar 6) tNil)))) (tSeq (tAsg (tOp (rIx c.K) (tVar 6) (tVar 7)) (gName 5))
  (tSeq (tAug 7 (tC (.int 1)) (ipI fun i j => i + j))
  (tSeq (tIfS (tTest (tOp (rIn c.K false) (tVar 5) (tVar 3))) (tRet (tTup (tCons (tVar 5) (tCons (tVar 4) tNil)))) tNext)
  (tFor (iTup c.K (tMeth (T.cC "Join") "there" (spD c W_Market_there) [] E0 (tVar 0) tNil)) (gName 8) (tSeq (tAsg (tOp (rIx c.K) (tFld c.K (tVar 0) "runs") (tVar 8)) (gTup c.K 2 (gCons (gName 9) (gCons (gName 10) gNil))))
  (tSeq (tIfS (tB (tOp (rIx c.K) (tVar 1) (tVar 8))) (tPar 9 10 (tCons (tVar 10) (tCons (tVar 9) tNil))) tNext)
  (tIfS (tAnd (tTest (tOp rEq (tVar 9) (tVar 5))) (tB (tDNotIn (tVar 10) (tVar 4)))) (tSeq (sDPut (tVar 4) (tVar 10) (tTup (tCons (tVar 5) (tCons (tVar 8) tNil))))
  (tDrop (tBM c.K "list" rAppend (tVar 6) (tCons (tVar 10) tNil)))) tNext))))))))
  (tRet (tTup (tCons (tC .non) (tCons (tVar 4) tNil)))))))))
theorem mk_u_reached {c : Cn} {mg : Str → Option Value} {base : Heap} (T : Tx c.K mg) {W W_Market_there : Wp} (G_Market_there : FnOk c.P c.w c.K mg base CX0 2 (T.f "Market.there") (T.fd "Market.there") ["self"] (spD c W_Market_there))
    (len : ∀ A S R, W A S R → A.length = 4)
    (body : ∀ A S R, W A S R → RS c (t_u_reached c T W_Market_there) (A ++ List.replicate 7 .no) S (endP S R)) :
    FnOk c.P c.w c.K mg base CX0 3 (T.f "_reached") (T.fd "_reached") ["market", "inside", "starts", "ends"] (spD c W) := by
  refine T.F_u_reached.ok sc_u_reached (sp_len len) (fun cdv A outer s H vs Q E hr h => ⟨t_u_reached c T W_Market_there, PSs.nox ?_, sp_body len body rfl h⟩)
  have hu := hu_of hr
  exact (pss_cons (ps_set (i := 4) sc_u_reached.nd rfl (Or.inl rfl) pe_dnewK)
  (pss_cons (ps_for PassesOwn.never rfl (pi_list (pv 2)) (pg_name (i := 5) sc_u_reached.nd rfl (Or.inl rfl)) (pss_one (ps_dput hu (pv 4) (pv 5) pe_non rfl)))
  (pss_cons (ps_set (i := 6) sc_u_reached.nd rfl (Or.inl rfl) (pe_callTy call_list_of rfl T.n_list (by decide +kernel) (pa_cons (pv 2) pa_nil)))
  (pss_cons (ps_set (i := 7) sc_u_reached.nd rfl (Or.inl rfl) pe_int)
  (pss_cons (ps_while PassesOwn.never (pt_cmpR op_lt (pv 7) (pe_callB call_len_seq rfl T.n_len (by decide +kernel) (pa_cons (pv 6) pa_nil)) (nomark _)) (pss_cons (ps_set (i := 5) sc_u_reached.nd rfl (Or.inl rfl) (pe_ix ix_seq (pv 6) (pv 7) (fun _ _ => rfl)))
  (pss_cons (ps_aug (i := 7) sc_u_reached.nd rfl (Or.inl rfl) pe_int ip_add)
  (pss_cons (ps_if (pt_cmpR op_in_seq (pv 5) (pv 3) (by rfl)) (pss_one (ps_ret (pe_tup (pa_cons (pv 5) (pa_cons (pv 4) pa_nil))))) pss_nil)
  (pss_one (ps_for PassesOwn.never rfl (pi_tup (pe_meth0 (pv 0) T.cl_Join T.m_Join_there G_Market_there (hr.mono (by decide)) T.b_Market_there .nil pass0)) (pg_name (i := 8) sc_u_reached.nd rfl (Or.inl rfl)) (pss_cons (ps_asg (pe_ix ix_seq (pe_fld (pv 0) rfl) (pv 8) (fun _ _ => rfl)) (pg_tup rfl (pgs_cons (pg_name (i := 9) sc_u_reached.nd rfl (Or.inl rfl)) (pgs_cons (pg_name (i := 10) sc_u_reached.nd rfl (Or.inl rfl)) pgs_nil))))
  (pss_cons (ps_if (pt_val (pe_ix ix_seq (pv 1) (pv 8) (fun _ _ => rfl))) (pss_one (ps_par (i := 9) (j := 10) rfl sc_u_reached.nd rfl rfl (by decide) rfl rfl (pa_cons (pv 10) (pa_cons (pv 9) pa_nil)) (by rfl))) pss_nil)
  (pss_one (ps_if (PW.pt (pw_and (pt_cmpR op_eq (pv 9) (pv 5) (nomark _)) (pw_and1 (pt_cmp (pc_dnotin hu (pv 10) (pv 4)) rfl)))) (pss_cons (ps_dput hu (pv 4) (pv 10) (pe_tup (pa_cons (pv 5) (pa_cons (pv 8) pa_nil))) rfl)
  (pss_one (ps_expr (pe_bm PySem.F.plainAttrs_list PySem.F.slot_list_append PySem.F.type_list_append mt_append (pv 6) (pa_cons (pv 10) pa_nil))))) pss_nil))))))))))
  (pss_one (ps_ret (pe_tup (pa_cons pe_non (pa_cons (pv 4) pa_nil))))))))))
/-- _turn -/
def t_u_turn (c : Cn) : TS :=
  (tSeq (tWhile (tTest (tOp rNotN0 (tDGet (tVar 1) (tVar 2)) (tC .non))) (tSeq (tAsg (tDGet (tVar 1) (tVar 2)) (gTup c.K 2 (gCons (gName 2) (gCons (gName 3) gNil))))
  (tAsg (tNotV (tOp (rIx c.K) (tVar 0) (tVar 3))) (gSub (tVar 0) (tVar 3) rSetL))))
  (tRet (tVar 2)))
theorem mk_u_turn {c : Cn} {mg : Str → Option Value} {base : Heap} (T : Tx c.K mg) {W : Wp}
    (len : ∀ A S R, W A S R → A.length = 3)
    (body : ∀ A S R, W A S R → RS c (t_u_turn c) (A ++ List.replicate 1 .no) S (endP S R)) :
    FnOk c.P c.w c.K mg base CX0 1 (T.f "_turn") (T.fd "_turn") ["inside", "came", "point"] (spD c W) := by
  refine T.F_u_turn.ok sc_u_turn (sp_len len) (fun cdv A outer s H vs Q E hr h => ⟨t_u_turn c, PSs.nox ?_, sp_body len body rfl h⟩)
  have hu := hu_of hr
  exact (pss_cons (ps_while PassesOwn.never (pt_cmpR op_notN (pe_dget hu (pv 1) (pv 2) (fun _ _ => rfl)) pe_non (nomark _)) (pss_cons (ps_asg (pe_dget hu (pv 1) (pv 2) (fun _ _ => rfl)) (pg_tup rfl (pgs_cons (pg_name (i := 2) sc_u_turn.nd rfl (Or.inl rfl)) (pgs_cons (pg_name (i := 3) sc_u_turn.nd rfl (Or.inl rfl)) pgs_nil))))
  (pss_one (ps_asg (pe_not (pe_ix ix_seq (pv 0) (pv 3) (fun _ _ => rfl))) (pg_sub (pv 0) (pv 3) set_list)))))
  (pss_one (ps_ret (pv 2))))
/-- _full_flow -/
def t_u_full_flow (c : Cn) (W_u_reached W_u_turn : Wp) : TS :=
  (tSeq (tAsg (tLc (iTup c.K (tFld c.K (tVar 0) "runs")) (gName 5) tYes (tC (.bl false)) [5]) (gName 1))
  (tSeq (tAsg (tC (.int 0)) (gName 2))
  (tSeq (tAsg (tCall (spD c W_u_reached) [] E0 (tCons (tVar 0) (tCons (tVar 1) (tCons (tLst (tCons (tC (.int 0)) tNil)) (tCons (tLst (tCons (tFld c.K (tVar 0) "size") tNil)) tNil))))) (gTup c.K 2 (gCons (gName 3) (gCons (gName 4) gNil))))
  (tSeq (tWhile (tTest (tOp rNotN0 (tVar 3) (tC .non))) (tSeq (tDrop (tCall (spD c W_u_turn) [] E0 (tCons (tVar 1) (tCons (tVar 4) (tCons (tVar 3) tNil)))))
  (tSeq (tAug 2 (tC (.int 1)) (ipI fun i j => i + j))
  (tAsg (tCall (spD c W_u_reached) [] E0 (tCons (tVar 0) (tCons (tVar 1) (tCons (tLst (tCons (tC (.int 0)) tNil)) (tCons (tLst (tCons (tFld c.K (tVar 0) "size") tNil)) tNil))))) (gTup c.K 2 (gCons (gName 3) (gCons (gName 4) gNil)))))))
  (tRet (tTup (tCons (tVar 2) (tCons (tCB (rTupS c.K) (tCons (tCB (rSortedI c.K) (tCons (tCB rListD (tCons (tVar 4) tNil)) tNil)) tNil)) tNil))))))))
theorem mk_u_full_flow {c : Cn} {mg : Str → Option Value} {base : Heap} (T : Tx c.K mg) {W W_u_reached W_u_turn : Wp} (G_u_reached : FnOk c.P c.w c.K mg base CX0 3 (T.f "_reached") (T.fd "_reached") ["market", "inside", "starts", "ends"] (spD c W_u_reached)) (G_u_turn : FnOk c.P c.w c.K mg base CX0 1 (T.f "_turn") (T.fd "_turn") ["inside", "came", "point"] (spD c W_u_turn))
    (len : ∀ A S R, W A S R → A.length = 1)
    (body : ∀ A S R, W A S R → RS c (t_u_full_flow c W_u_reached W_u_turn) (A ++ List.replicate 5 .no) S (endP S R)) :
    FnOk c.P c.w c.K mg base CX0 4 (T.f "_full_flow") (T.fd "_full_flow") ["market"] (spD c W) := by
  refine T.F_u_full_flow.ok sc_u_full_flow (sp_len len) (fun cdv A outer s H vs Q E hr h => ⟨t_u_full_flow c W_u_reached W_u_turn, PSs.nox ?_, sp_body len body rfl h⟩)
  have hu := hu_of hr
  exact (pss_cons (ps_setLc (i := 1) (own := [("_", 5)]) (g := (gName 5)) (tt := tYes) rfl sc_u_full_flow.nd rfl rfl (sw_true rfl rfl rfl (by decide +kernel)) (pi_tup (pe_fld (pv 0) rfl)) (blkOk_by (own := [("_", 5)]) (N := ["market", "inside", "number", "last", "came", "_"]) (sc := defScope s_u_full_flow) (by decide +kernel)) (fun _ _ _ _ _ => (pg_name (i := 5) sc_u_full_flow.nd rfl (Or.inl rfl))) (fun _ _ _ _ _ => pts_nil) (fun _ _ _ _ _ => pe_bl))
  (pss_cons (ps_set (i := 2) sc_u_full_flow.nd rfl (Or.inl rfl) pe_int)
  (pss_cons (ps_asg (pe_call G_u_reached (hr.mono (by decide)) rfl T.g_u_reached T.F_u_reached.kp T.b_u_reached .nil pass0 (pa_cons (pv 0) (pa_cons (pv 1) (pa_cons (pe_lst (pa_cons pe_int pa_nil)) (pa_cons (pe_lst (pa_cons (pe_fld (pv 0) rfl) pa_nil)) pa_nil))))) (pg_tup rfl (pgs_cons (pg_name (i := 3) sc_u_full_flow.nd rfl (Or.inl rfl)) (pgs_cons (pg_name (i := 4) sc_u_full_flow.nd rfl (Or.inl rfl)) pgs_nil))))
  (pss_cons (ps_while PassesOwn.never (pt_cmpR op_notN (pv 3) pe_non (nomark _)) (pss_cons (ps_expr (pe_call G_u_turn (hr.mono (by decide)) rfl T.g_u_turn T.F_u_turn.kp T.b_u_turn .nil pass0 (pa_cons (pv 1) (pa_cons (pv 4) (pa_cons (pv 3) pa_nil)))))
  (pss_cons (ps_aug (i := 2) sc_u_full_flow.nd rfl (Or.inl rfl) pe_int ip_add)
  (pss_one (ps_asg (pe_call G_u_reached (hr.mono (by decide)) rfl T.g_u_reached T.F_u_reached.kp T.b_u_reached .nil pass0 (pa_cons (pv 0) (pa_cons (pv 1) (pa_cons (pe_lst (pa_cons pe_int pa_nil)) (pa_cons (pe_lst (pa_cons (pe_fld (pv 0) rfl) pa_nil)) pa_nil))))) (pg_tup rfl (pgs_cons (pg_name (i := 3) sc_u_full_flow.nd rfl (Or.inl rfl)) (pgs_cons (pg_name (i := 4) sc_u_full_flow.nd rfl (Or.inl rfl)) pgs_nil))))))))
  (pss_one (ps_ret (pe_tup (pa_cons (pv 2) (pa_cons (pe_callTy call_tuple_of rfl T.n_tuple (by decide +kernel) (pa_cons (pe_callB cr_sortedI rfl T.n_sorted (by decide +kernel) (pa_cons (pe_callTy (call_list_dK rfl) rfl T.n_list (by decide +kernel) (pa_cons (pv 4) pa_nil)) pa_nil)) pa_nil)) pa_nil)))))))))
/-- strength -/
def t_strength (c : Cn) (W_u_full_flow : Wp) : TS :=
  (tSeq (tIfS (tTest (tOp rEq (tCon c.K (tVar 0) "KIND") (tC (.str "join")))) (tRet (tOp (rIx c.K) (tCall (spD c W_u_full_flow) [] E0 (tCons (tVar 0) tNil)) (tC (.int 0)))) tNext)
  tNever)
theorem mk_strength {c : Cn} {mg : Str → Option Value} {base : Heap} (T : Tx c.K mg) {W W_u_full_flow : Wp} (G_u_full_flow : FnOk c.P c.w c.K mg base CX0 4 (T.f "_full_flow") (T.fd "_full_flow") ["market"] (spD c W_u_full_flow))
    (len : ∀ A S R, W A S R → A.length = 1)
    (body : ∀ A S R, W A S R → RS c (t_strength c W_u_full_flow) (A ++ List.replicate 0 .no) S (endP S R)) :
    FnOk c.P c.w c.K mg base CX0 5 (T.f "strength") (T.fd "strength") ["market"] (spD c W) := by
  refine T.F_strength.ok sc_strength (sp_len len) (fun cdv A outer s H vs Q E hr h => ⟨t_strength c W_u_full_flow, PSs.nox ?_, sp_body len body rfl h⟩)
  have hu := hu_of hr
  exact (pss_cons (ps_if (pt_cmpR op_eq (pe_con (pv 0) rfl) pe_str (nomark _)) (pss_one (ps_ret (pe_ix ix_seq (pe_call G_u_full_flow (hr.mono (by decide)) rfl T.g_u_full_flow T.F_u_full_flow.kp T.b_u_full_flow .nil pass0 (pa_cons (pv 0) pa_nil)) pe_int (fun _ _ => rfl)))) pss_nil)
  (pss_one ps_never))
/-- check_join -/
def t_check_join (c : Cn) : TS :=
  (tIfS (tTest (tOp rNe (tCon c.K (tVar 0) "KIND") (tC (.str "join")))) tNever tNext)
theorem mk_check_join {c : Cn} {mg : Str → Option Value} {base : Heap} (T : Tx c.K mg) {W : Wp}
    (len : ∀ A S R, W A S R → A.length = 1)
    (body : ∀ A S R, W A S R → RS c (t_check_join c) (A ++ List.replicate 0 .no) S (endP S R)) :
    FnOk c.P c.w c.K mg base CX0 1 (T.f "check_join") (T.fd "check_join") ["market"] (spD c W) := by
  refine T.F_check_join.ok sc_check_join (sp_len len) (fun cdv A outer s H vs Q E hr h => ⟨t_check_join c, PSs.nox ?_, sp_body len body rfl h⟩)
  have hu := hu_of hr
  exact (pss_one (ps_if (pt_cmpR op_ne (pe_con (pv 0) rfl) pe_str (nomark _)) (pss_one ps_never) pss_nil))
/-- check_few -/
def t_check_few (c : Cn) {mg : Str → Option Value} (T : Tx c.K mg) (W_Market_there : Wp) : TS :=
  (tSeq (tAsg (tCB (rLenS c.K) (tCons (tMeth (T.cC "Join") "there" (spD c W_Market_there) [] E0 (tVar 0) tNil) tNil)) (gName 1))
  (tIfS (tTest (tOp rGt (tVar 1) (tC (.int 10)))) tNever tNext))
theorem mk_check_few {c : Cn} {mg : Str → Option Value} {base : Heap} (T : Tx c.K mg) {W W_Market_there : Wp} (G_Market_there : FnOk c.P c.w c.K mg base CX0 2 (T.f "Market.there") (T.fd "Market.there") ["self"] (spD c W_Market_there))
    (len : ∀ A S R, W A S R → A.length = 1)
    (body : ∀ A S R, W A S R → RS c (t_check_few c T W_Market_there) (A ++ List.replicate 1 .no) S (endP S R)) :
    FnOk c.P c.w c.K mg base CX0 3 (T.f "check_few") (T.fd "check_few") ["market"] (spD c W) := by
  refine T.F_check_few.ok sc_check_few (sp_len len) (fun cdv A outer s H vs Q E hr h => ⟨t_check_few c T W_Market_there, PSs.nox ?_, sp_body len body rfl h⟩)
  have hu := hu_of hr
  exact (pss_cons (ps_set (i := 1) sc_check_few.nd rfl (Or.inl rfl) (pe_callB call_len_seq rfl T.n_len (by decide +kernel) (pa_cons (pe_meth0 (pv 0) T.cl_Join T.m_Join_there G_Market_there (hr.mono (by decide)) T.b_Market_there .nil pass0) pa_nil)))
  (pss_one (ps_if (pt_cmpR op_gt (pv 1) pe_int (nomark _)) (pss_one ps_never) pss_nil)))
/-- check_size -/
def t_check_size (c : Cn) (W_check_join W_check_number W_strength : Wp) : TS :=
  (tSeq (tDrop (tCall (spD c W_check_join) [] E0 (tCons (tVar 0) tNil)))
  (tSeq (tDrop (tCall (spD c W_check_number) [] E0 (tCons (tVar 1) (tCons (tC (.str "number")) (tCons (tC (.int 0)) (tCons (tC .non) tNil))))))
  (tSeq (tIfS (tTest (tOp rGe (tVar 1) (tCall (spD c W_strength) [] E0 (tCons (tVar 0) tNil)))) tNever tNext)
  (tRet (tVar 1)))))
theorem mk_check_size {c : Cn} {mg : Str → Option Value} {base : Heap} (T : Tx c.K mg) {W W_check_join W_check_number W_strength : Wp} (G_check_join : FnOk c.P c.w c.K mg base CX0 1 (T.f "check_join") (T.fd "check_join") ["market"] (spD c W_check_join)) (G_check_number : FnOk c.P c.w c.K mg base CX0 2 (T.f "check_number") (T.fd "check_number") ["value", "name", "least", "most"] (spD c W_check_number)) (G_strength : FnOk c.P c.w c.K mg base CX0 5 (T.f "strength") (T.fd "strength") ["market"] (spD c W_strength))
    (len : ∀ A S R, W A S R → A.length = 2)
    (body : ∀ A S R, W A S R → RS c (t_check_size c W_check_join W_check_number W_strength) (A ++ List.replicate 0 .no) S (endP S R)) :
    FnOk c.P c.w c.K mg base CX0 6 (T.f "check_size") (T.fd "check_size") ["market", "number"] (spD c W) := by
  refine T.F_check_size.ok sc_check_size (sp_len len) (fun cdv A outer s H vs Q E hr h => ⟨t_check_size c W_check_join W_check_number W_strength, PSs.nox ?_, sp_body len body rfl h⟩)
  have hu := hu_of hr
  exact (pss_cons (ps_expr (pe_call G_check_join (hr.mono (by decide)) rfl T.g_check_join T.F_check_join.kp T.b_check_join .nil pass0 (pa_cons (pv 0) pa_nil)))
  (pss_cons (ps_expr (pe_call G_check_number (hr.mono (by decide)) rfl T.g_check_number T.F_check_number.kp T.b_check_number .nil pass0 (pa_cons (pv 1) (pa_cons pe_str (pa_cons pe_int (pa_cons pe_non pa_nil))))))
  (pss_cons (ps_if (pt_cmpR op_ge (pv 1) (pe_call G_strength (hr.mono (by decide)) rfl T.g_strength T.F_strength.kp T.b_strength .nil pass0 (pa_cons (pv 0) pa_nil)) (nomark _)) (pss_one ps_never) pss_nil)
  (pss_one (ps_ret (pv 1))))))
/-- demand_of -/
def t_demand_of (c : Cn) (W_is_int : Wp) : TS :=
  (tSeq (tIfS (tB (tCall (spD c W_is_int) [] E0 (tCons (tVar 1) tNil))) (tRet (tCB (rTupS c.K) (tCons (tLc (iRng1 (tCons (tFld c.K (tVar 0) "size") tNil)) (gName 4) tYes (tVar 1) [4]) tNil))) tNext)
  (tSeq (tIfS (tOr (tNot (tB (tCB (rIsiT c.K) (tCons (tVar 1) (tCons (tTup (tCons (tC (.ty "list")) (tCons (tC (.ty "tuple")) tNil))) tNil))))) (tTest (tOp rNe (tCB (rLenS c.K) (tCons (tVar 1) tNil)) (tFld c.K (tVar 0) "size")))) tNever tNext)
  (tSeq (tFor (iEnumA c.K (tCons (tVar 1) tNil)) (gTup c.K 2 (gCons (gName 2) (gCons (gName 3) gNil))) (tIfS (tNot (tB (tCall (spD c W_is_int) [] E0 (tCons (tVar 3) tNil)))) tNever tNext))
  (tRet (tCB (rTupS c.K) (tCons (tVar 1) tNil))))))
theorem mk_demand_of {c : Cn} {mg : Str → Option Value} {base : Heap} (T : Tx c.K mg) {W W_is_int : Wp} (G_is_int : FnOk c.P c.w c.K mg base CX0 1 (T.f "is_int") (T.fd "is_int") ["value"] (spD c W_is_int))
    (len : ∀ A S R, W A S R → A.length = 2)
    (body : ∀ A S R, W A S R → RS c (t_demand_of c W_is_int) (A ++ List.replicate 3 .no) S (endP S R)) :
    FnOk c.P c.w c.K mg base CX0 2 (T.f "demand_of") (T.fd "demand_of") ["market", "demand"] (spD c W) := by
  refine T.F_demand_of.ok sc_demand_of (sp_len len) (fun cdv A outer s H vs Q E hr h => ⟨t_demand_of c W_is_int, PSs.nox ?_, sp_body len body rfl h⟩)
  have hu := hu_of hr
  exact (pss_cons (ps_if (pt_val (pe_call G_is_int (hr.mono (by decide)) rfl T.g_is_int T.F_is_int.kp T.b_is_int .nil pass0 (pa_cons (pv 1) pa_nil))) (pss_one (ps_ret (pe_callTy call_tuple_of rfl T.n_tuple (by decide +kernel) (pa_cons (pe_lc (own := [("_", 4)]) (g := (gName 4)) (tt := tYes) rfl sc_demand_of.nd (pi_range1 rfl T.n_range (pa_cons (pe_fld (pv 0) rfl) pa_nil)) (blkOk_by (own := [("_", 4)]) (N := ["market", "demand", "place", "number", "_"]) (sc := defScope s_demand_of) (by decide +kernel)) (fun _ _ _ _ _ => (pg_name (i := 4) sc_demand_of.nd rfl (Or.inl rfl))) (fun _ _ _ _ _ => pts_nil) (fun _ _ _ _ _ => (pv 1))) pa_nil)))) pss_nil)
  (pss_cons (ps_if (PW.pt (pw_or (pt_not (pt_val (pe_callB call_isiT rfl T.n_isinstance (by decide +kernel) (pa_cons (pv 1) (pa_cons (pe_tup (pa_cons (pe_bltn rfl T.n_list (by decide +kernel) rfl) (pa_cons (pe_bltn rfl T.n_tuple (by decide +kernel) rfl) pa_nil))) pa_nil))))) (pw_or1 (pt_cmpR op_ne (pe_callB call_len_seq rfl T.n_len (by decide +kernel) (pa_cons (pv 1) pa_nil)) (pe_fld (pv 0) rfl) (nomark _))))) (pss_one ps_never) pss_nil)
  (pss_cons (ps_for PassesOwn.never rfl (pi_enumA rfl T.n_enumerate (pa_cons (pv 1) pa_nil)) (pg_tup rfl (pgs_cons (pg_name (i := 2) sc_demand_of.nd rfl (Or.inl rfl)) (pgs_cons (pg_name (i := 3) sc_demand_of.nd rfl (Or.inl rfl)) pgs_nil))) (pss_one (ps_if (pt_not (pt_val (pe_call G_is_int (hr.mono (by decide)) rfl T.g_is_int T.F_is_int.kp T.b_is_int .nil pass0 (pa_cons (pv 3) pa_nil)))) (pss_one ps_never) pss_nil)))
  (pss_one (ps_ret (pe_callTy call_tuple_of rfl T.n_tuple (by decide +kernel) (pa_cons (pv 1) pa_nil)))))))
/-- points_of -/
def t_points_of (c : Cn) (W_is_int : Wp) : TS :=
  (tSeq (tIfS (tOr (tNot (tB (tCB (rIsiT c.K) (tCons (tVar 1) (tCons (tTup (tCons (tC (.ty "list")) (tCons (tC (.ty "tuple")) tNil))) tNil))))) (tTest (tOp rNe (tCB (rLenS c.K) (tCons (tVar 1) tNil)) (tC (.int 2))))) tNever tNext)
  (tSeq (tFor (iTup c.K (tVar 1)) (gName 2) (tIfS (tOr (tNot (tB (tCall (spD c W_is_int) [] E0 (tCons (tVar 2) tNil)))) (tOr (tTest (tOp rLt (tVar 2) (tC (.int 0)))) (tTest (tOp rGt (tVar 2) (tFld c.K (tVar 0) "size"))))) tNever tNext))
  (tRet (tTup (tCons (tOp (rIx c.K) (tVar 1) (tC (.int 0))) (tCons (tOp (rIx c.K) (tVar 1) (tC (.int 1))) tNil))))))
theorem mk_points_of {c : Cn} {mg : Str → Option Value} {base : Heap} (T : Tx c.K mg) {W W_is_int : Wp} (G_is_int : FnOk c.P c.w c.K mg base CX0 1 (T.f "is_int") (T.fd "is_int") ["value"] (spD c W_is_int))
    (len : ∀ A S R, W A S R → A.length = 2)
    (body : ∀ A S R, W A S R → RS c (t_points_of c W_is_int) (A ++ List.replicate 1 .no) S (endP S R)) :
    FnOk c.P c.w c.K mg base CX0 2 (T.f "points_of") (T.fd "points_of") ["market", "run"] (spD c W) := by
  refine T.F_points_of.ok sc_points_of (sp_len len) (fun cdv A outer s H vs Q E hr h => ⟨t_points_of c W_is_int, PSs.nox ?_, sp_body len body rfl h⟩)
  have hu := hu_of hr
  exact (pss_cons (ps_if (PW.pt (pw_or (pt_not (pt_val (pe_callB call_isiT rfl T.n_isinstance (by decide +kernel) (pa_cons (pv 1) (pa_cons (pe_tup (pa_cons (pe_bltn rfl T.n_list (by decide +kernel) rfl) (pa_cons (pe_bltn rfl T.n_tuple (by decide +kernel) rfl) pa_nil))) pa_nil))))) (pw_or1 (pt_cmpR op_ne (pe_callB call_len_seq rfl T.n_len (by decide +kernel) (pa_cons (pv 1) pa_nil)) pe_int (nomark _))))) (pss_one ps_never) pss_nil)
  (pss_cons (ps_for PassesOwn.never rfl (pi_tup (pv 1)) (pg_name (i := 2) sc_points_of.nd rfl (Or.inl rfl)) (pss_one (ps_if (PW.pt (pw_or (pt_not (pt_val (pe_call G_is_int (hr.mono (by decide)) rfl T.g_is_int T.F_is_int.kp T.b_is_int .nil pass0 (pa_cons (pv 2) pa_nil)))) (pw_or (pt_cmpR op_lt (pv 2) pe_int (nomark _)) (pw_or1 (pt_cmpR op_gt (pv 2) (pe_fld (pv 0) rfl) (nomark _)))))) (pss_one ps_never) pss_nil)))
  (pss_one (ps_ret (pe_tup (pa_cons (pe_ix ix_seq (pv 1) pe_int (fun _ _ => rfl)) (pa_cons (pe_ix ix_seq (pv 1) pe_int (fun _ _ => rfl)) pa_nil)))))))
/-- check_part -/
def t_check_part (c : Cn) (W_is_int : Wp) : TS :=
  (tSeq (tIfS (tOr (tNot (tB (tCall (spD c W_is_int) [] E0 (tCons (tVar 1) tNil)))) (tOr (tTest (tOp rLt (tVar 1) (tC (.int 0)))) (tTest (tOp rGe (tVar 1) (tCB (rLenS c.K) (tCons (tFld c.K (tVar 0) "runs") tNil)))))) tNever tNext)
  (tRet (tVar 1)))
theorem mk_check_part {c : Cn} {mg : Str → Option Value} {base : Heap} (T : Tx c.K mg) {W W_is_int : Wp} (G_is_int : FnOk c.P c.w c.K mg base CX0 1 (T.f "is_int") (T.fd "is_int") ["value"] (spD c W_is_int))
    (len : ∀ A S R, W A S R → A.length = 2)
    (body : ∀ A S R, W A S R → RS c (t_check_part c W_is_int) (A ++ List.replicate 0 .no) S (endP S R)) :
    FnOk c.P c.w c.K mg base CX0 2 (T.f "check_part") (T.fd "check_part") ["market", "part"] (spD c W) := by
  refine T.F_check_part.ok sc_check_part (sp_len len) (fun cdv A outer s H vs Q E hr h => ⟨t_check_part c W_is_int, PSs.nox ?_, sp_body len body rfl h⟩)
  have hu := hu_of hr
  exact (pss_cons (ps_if (PW.pt (pw_or (pt_not (pt_val (pe_call G_is_int (hr.mono (by decide)) rfl T.g_is_int T.F_is_int.kp T.b_is_int .nil pass0 (pa_cons (pv 1) pa_nil)))) (pw_or (pt_cmpR op_lt (pv 1) pe_int (nomark _)) (pw_or1 (pt_cmpR op_ge (pv 1) (pe_callB call_len_seq rfl T.n_len (by decide +kernel) (pa_cons (pe_fld (pv 0) rfl) pa_nil)) (nomark _)))))) (pss_one ps_never) pss_nil)
  (pss_one (ps_ret (pv 1))))
/-- part_there -/
def t_part_there (c : Cn) (W_check_part : Wp) : TS :=
  (tSeq (tDrop (tCall (spD c W_check_part) [] E0 (tCons (tVar 0) (tCons (tVar 1) tNil))))
  (tSeq (tIfS (tTest (tOp (rIn c.K false) (tVar 1) (tFld c.K (tVar 0) "gone"))) tNever tNext)
  (tRet (tVar 1))))
theorem mk_part_there {c : Cn} {mg : Str → Option Value} {base : Heap} (T : Tx c.K mg) {W W_check_part : Wp} (G_check_part : FnOk c.P c.w c.K mg base CX0 2 (T.f "check_part") (T.fd "check_part") ["market", "part"] (spD c W_check_part))
    (len : ∀ A S R, W A S R → A.length = 2)
    (body : ∀ A S R, W A S R → RS c (t_part_there c W_check_part) (A ++ List.replicate 0 .no) S (endP S R)) :
    FnOk c.P c.w c.K mg base CX0 3 (T.f "part_there") (T.fd "part_there") ["market", "part"] (spD c W) := by
  refine T.F_part_there.ok sc_part_there (sp_len len) (fun cdv A outer s H vs Q E hr h => ⟨t_part_there c W_check_part, PSs.nox ?_, sp_body len body rfl h⟩)
  have hu := hu_of hr
  exact (pss_cons (ps_expr (pe_call G_check_part (hr.mono (by decide)) rfl T.g_check_part T.F_check_part.kp T.b_check_part .nil pass0 (pa_cons (pv 0) (pa_cons (pv 1) pa_nil))))
  (pss_cons (ps_if (pt_cmpR op_in_seq (pv 1) (pe_fld (pv 0) rfl) (by rfl)) (pss_one ps_never) pss_nil)
  (pss_one (ps_ret (pv 1)))))
/-- begins -/
def t_begins (c : Cn) (W_demand_of : Wp) : TS :=
  (tSeq (tAsg (tCall (spD c W_demand_of) [] E0 (tCons (tVar 0) (tCons (tVar 1) tNil))) (gName 2))
  (tSeq (tAsg (tLst tNil) (gName 3))
  (tSeq (tAsg (tC (.int 0)) (gName 4))
  (tSeq (tFor (iTup c.K (tVar 2)) (gName 5) (tSeq (tDrop (tBM c.K "list" rAppend (tVar 3) (tCons (tOp qSub (tVar 5) (tVar 4)) tNil)))
  (tAsg (tVar 5) (gName 4))))
  (tSeq (tDrop (tBM c.K "list" rAppend (tVar 3) (tCons (tUn (rU fun i => .int (-i)) (tVar 4)) tNil)))
  (tRet (tCB (rTupS c.K) (tCons (tVar 3) tNil))))))))
theorem mk_begins {c : Cn} {mg : Str → Option Value} {base : Heap} (T : Tx c.K mg) {W W_demand_of : Wp} (G_demand_of : FnOk c.P c.w c.K mg base CX0 2 (T.f "demand_of") (T.fd "demand_of") ["market", "demand"] (spD c W_demand_of))
    (len : ∀ A S R, W A S R → A.length = 2)
    (body : ∀ A S R, W A S R → RS c (t_begins c W_demand_of) (A ++ List.replicate 4 .no) S (endP S R)) :
    FnOk c.P c.w c.K mg base CX0 3 (T.f "begins") (T.fd "begins") ["market", "demand"] (spD c W) := by
  refine T.F_begins.ok sc_begins (sp_len len) (fun cdv A outer s H vs Q E hr h => ⟨t_begins c W_demand_of, PSs.nox ?_, sp_body len body rfl h⟩)
  have hu := hu_of hr
  exact (pss_cons (ps_set (i := 2) sc_begins.nd rfl (Or.inl rfl) (pe_call G_demand_of (hr.mono (by decide)) rfl T.g_demand_of T.F_demand_of.kp T.b_demand_of .nil pass0 (pa_cons (pv 0) (pa_cons (pv 1) pa_nil))))
  (pss_cons (ps_set (i := 3) sc_begins.nd rfl (Or.inl rfl) (pe_lst pa_nil))
  (pss_cons (ps_set (i := 4) sc_begins.nd rfl (Or.inl rfl) pe_int)
  (pss_cons (ps_for PassesOwn.never rfl (pi_tup (pv 2)) (pg_name (i := 5) sc_begins.nd rfl (Or.inl rfl)) (pss_cons (ps_expr (pe_bm PySem.F.plainAttrs_list PySem.F.slot_list_append PySem.F.type_list_append mt_append (pv 3) (pa_cons (pe_op op_sub (pv 5) (pv 4)) pa_nil)))
  (pss_one (ps_set (i := 4) sc_begins.nd rfl (Or.inl rfl) (pv 5)))))
  (pss_cons (ps_expr (pe_bm PySem.F.plainAttrs_list PySem.F.slot_list_append PySem.F.type_list_append mt_append (pv 3) (pa_cons (pe_un un_neg (pv 4)) pa_nil)))
  (pss_one (ps_ret (pe_callTy call_tuple_of rfl T.n_tuple (by decide +kernel) (pa_cons (pv 3) pa_nil)))))))))
/-- _chosen -/
def t_u_chosen (c : Cn) : TS :=
  (tRet (tCB (rTupS c.K) (tCons (tLc (iEnumA c.K (tCons (tVar 0) tNil)) (gTup c.K 2 (gCons (gName 1) (gCons (gName 2) gNil))) (tB (tVar 2)) (tVar 1) [1, 2]) tNil)))
theorem mk_u_chosen {c : Cn} {mg : Str → Option Value} {base : Heap} (T : Tx c.K mg) {W : Wp}
    (len : ∀ A S R, W A S R → A.length = 1)
    (body : ∀ A S R, W A S R → RS c (t_u_chosen c) (A ++ List.replicate 2 .no) S (endP S R)) :
    FnOk c.P c.w c.K mg base CX0 1 (T.f "_chosen") (T.fd "_chosen") ["inside"] (spD c W) := by
  refine T.F_u_chosen.ok sc_u_chosen (sp_len len) (fun cdv A outer s H vs Q E hr h => ⟨t_u_chosen c, PSs.nox ?_, sp_body len body rfl h⟩)
  have hu := hu_of hr
  exact (pss_one (ps_ret (pe_callTy call_tuple_of rfl T.n_tuple (by decide +kernel) (pa_cons (pe_lc (own := [("part", 1), ("is_in", 2)]) (g := (gTup c.K 2 (gCons (gName 1) (gCons (gName 2) gNil)))) (tt := (tB (tVar 2))) rfl sc_u_chosen.nd (pi_enumA rfl T.n_enumerate (pa_cons (pv 0) pa_nil)) (blkOk_by (own := [("part", 1), ("is_in", 2)]) (N := ["inside", "part", "is_in"]) (sc := defScope s_u_chosen) (by decide +kernel)) (fun _ _ _ _ _ => (pg_tup rfl (pgs_cons (pg_name (i := 1) sc_u_chosen.nd rfl (Or.inl rfl)) (pgs_cons (pg_name (i := 2) sc_u_chosen.nd rfl (Or.inl rfl)) pgs_nil)))) (fun _ _ _ _ _ => (pts_one (pt_val (pv 2)))) (fun _ _ _ _ _ => (pv 1))) pa_nil))))
/-- _filled -/
def t_u_filled (c : Cn) (W_begins W_u_chosen W_u_reached W_u_turn : Wp) : TS :=
  (tSeq (tAsg (tCB (rListS c.K) (tCons (tCall (spD c W_begins) [] E0 (tCons (tVar 0) (tCons (tVar 1) tNil))) tNil)) (gName 2))
  (tSeq (tAsg (tLc (iTup c.K (tFld c.K (tVar 0) "runs")) (gName 9) tYes (tC (.bl false)) [9]) (gName 3))
  (tSeq (tAsg (tCB rRange1 (tCons (tOp qAdd (tFld c.K (tVar 0) "size") (tC (.int 1))) tNil)) (gName 4))
  (tWhile (tB (tC (.bl true))) (tSeq (tAsg (tLc (iRngV (tVar 4)) (gName 10) (tTest (tOp rGt (tOp (rIx c.K) (tVar 2) (tVar 10)) (tC (.int 0)))) (tVar 10) [10]) (gName 5))
  (tSeq (tIfS (tTest (tOp rEq (tCB (rLenS c.K) (tCons (tVar 5) tNil)) (tC (.int 0)))) (tRet (tTup (tCons (tCall (spD c W_u_chosen) [] E0 (tCons (tVar 3) tNil)) (tCons (tTup tNil) tNil)))) tNext)
  (tSeq (tAsg (tLc (iRngV (tVar 4)) (gName 10) (tTest (tOp rLt (tOp (rIx c.K) (tVar 2) (tVar 10)) (tC (.int 0)))) (tVar 10) [10]) (gName 6))
  (tSeq (tAsg (tCall (spD c W_u_reached) [] E0 (tCons (tVar 0) (tCons (tVar 3) (tCons (tVar 5) (tCons (tVar 6) tNil))))) (gTup c.K 2 (gCons (gName 7) (gCons (gName 8) gNil))))
  (tSeq (tIfS (tTest (tOp rIsN0 (tVar 7) (tC .non))) (tRet (tTup (tCons (tC .non) (tCons (tCB (rTupS c.K) (tCons (tCB (rSortedI c.K) (tCons (tCB rListD (tCons (tVar 8) tNil)) tNil)) tNil)) tNil)))) tNext)
  (tSeq (tAugS (tVar 2) (tVar 7) (tC (.int 1)) (rIxL c.K) (ipI fun i j => i + j) rSetL)
  (tAugS (tVar 2) (tCall (spD c W_u_turn) [] E0 (tCons (tVar 3) (tCons (tVar 8) (tCons (tVar 7) tNil)))) (tC (.int 1)) (rIxL c.K) (ipI fun i j => i - j) rSetL)))))))))))
theorem mk_u_filled {c : Cn} {mg : Str → Option Value} {base : Heap} (T : Tx c.K mg) {W W_begins W_u_chosen W_u_reached W_u_turn : Wp} (G_begins : FnOk c.P c.w c.K mg base CX0 3 (T.f "begins") (T.fd "begins") ["market", "demand"] (spD c W_begins)) (G_u_chosen : FnOk c.P c.w c.K mg base CX0 1 (T.f "_chosen") (T.fd "_chosen") ["inside"] (spD c W_u_chosen)) (G_u_reached : FnOk c.P c.w c.K mg base CX0 3 (T.f "_reached") (T.fd "_reached") ["market", "inside", "starts", "ends"] (spD c W_u_reached)) (G_u_turn : FnOk c.P c.w c.K mg base CX0 1 (T.f "_turn") (T.fd "_turn") ["inside", "came", "point"] (spD c W_u_turn))
    (len : ∀ A S R, W A S R → A.length = 2)
    (body : ∀ A S R, W A S R → RS c (t_u_filled c W_begins W_u_chosen W_u_reached W_u_turn) (A ++ List.replicate 9 .no) S (endP S R)) :
    FnOk c.P c.w c.K mg base CX0 4 (T.f "_filled") (T.fd "_filled") ["market", "row"] (spD c W) := by
  refine T.F_u_filled.ok sc_u_filled (sp_len len) (fun cdv A outer s H vs Q E hr h => ⟨t_u_filled c W_begins W_u_chosen W_u_reached W_u_turn, PSs.nox ?_, sp_body len body rfl h⟩)
  have hu := hu_of hr
  exact (pss_cons (ps_set (i := 2) sc_u_filled.nd rfl (Or.inr rfl) (pe_callTy call_list_of rfl T.n_list (by decide +kernel) (pa_cons (pe_call G_begins (hr.mono (by decide)) rfl T.g_begins T.F_begins.kp T.b_begins .nil pass0 (pa_cons (pv 0) (pa_cons (pv 1) pa_nil))) pa_nil)))
  (pss_cons (ps_setLc (i := 3) (own := [("_", 9)]) (g := (gName 9)) (tt := tYes) rfl sc_u_filled.nd rfl rfl (sw_true rfl rfl rfl (by decide +kernel)) (pi_tup (pe_fld (pv 0) rfl)) (blkOk_by (own := [("_", 9)]) (N := ["market", "row", "need", "inside", "points", "starts", "ends", "last", "came", "_", "point"]) (sc := defScope s_u_filled) (by decide +kernel)) (fun _ _ _ _ _ => (pg_name (i := 9) sc_u_filled.nd rfl (Or.inl rfl))) (fun _ _ _ _ _ => pts_nil) (fun _ _ _ _ _ => pe_bl))
  (pss_cons (ps_set (i := 4) sc_u_filled.nd rfl (Or.inl rfl) (pe_callTy cr_range1 rfl T.n_range (by decide +kernel) (pa_cons (pe_op op_add (pe_fld (pv 0) rfl) pe_int) pa_nil)))
  (pss_one (ps_while PassesOwn.never (pt_val pe_bl) (pss_cons (ps_setLc (i := 5) (own := [("point", 10)]) (g := (gName 10)) (tt := (tTest (tOp rGt (tOp (rIx c.K) (tVar 2) (tVar 10)) (tC (.int 0))))) rfl sc_u_filled.nd rfl rfl (sw_true rfl rfl rfl (by decide +kernel)) (pi_rngV (pv 4)) (blkOk_by (own := [("point", 10)]) (N := ["market", "row", "need", "inside", "points", "starts", "ends", "last", "came", "_", "point"]) (sc := defScope s_u_filled) (by decide +kernel)) (fun _ _ _ _ _ => (pg_name (i := 10) sc_u_filled.nd rfl (Or.inl rfl))) (fun _ _ _ _ _ => (pts_one (pt_cmpR op_gt (pe_ix ix_seq (pv 2) (pv 10) (fun _ _ => rfl)) pe_int (nomark _)))) (fun _ _ _ _ _ => (pv 10)))
  (pss_cons (ps_if (pt_cmpR op_eq (pe_callB call_len_seq rfl T.n_len (by decide +kernel) (pa_cons (pv 5) pa_nil)) pe_int (nomark _)) (pss_one (ps_ret (pe_tup (pa_cons (pe_call G_u_chosen (hr.mono (by decide)) rfl T.g_u_chosen T.F_u_chosen.kp T.b_u_chosen .nil pass0 (pa_cons (pv 3) pa_nil)) (pa_cons (pe_tup pa_nil) pa_nil))))) pss_nil)
  (pss_cons (ps_setLc (i := 6) (own := [("point", 10)]) (g := (gName 10)) (tt := (tTest (tOp rLt (tOp (rIx c.K) (tVar 2) (tVar 10)) (tC (.int 0))))) rfl sc_u_filled.nd rfl rfl (sw_true rfl rfl rfl (by decide +kernel)) (pi_rngV (pv 4)) (blkOk_by (own := [("point", 10)]) (N := ["market", "row", "need", "inside", "points", "starts", "ends", "last", "came", "_", "point"]) (sc := defScope s_u_filled) (by decide +kernel)) (fun _ _ _ _ _ => (pg_name (i := 10) sc_u_filled.nd rfl (Or.inl rfl))) (fun _ _ _ _ _ => (pts_one (pt_cmpR op_lt (pe_ix ix_seq (pv 2) (pv 10) (fun _ _ => rfl)) pe_int (nomark _)))) (fun _ _ _ _ _ => (pv 10)))
  (pss_cons (ps_asg (pe_call G_u_reached (hr.mono (by decide)) rfl T.g_u_reached T.F_u_reached.kp T.b_u_reached .nil pass0 (pa_cons (pv 0) (pa_cons (pv 3) (pa_cons (pv 5) (pa_cons (pv 6) pa_nil))))) (pg_tup rfl (pgs_cons (pg_name (i := 7) sc_u_filled.nd rfl (Or.inl rfl)) (pgs_cons (pg_name (i := 8) sc_u_filled.nd rfl (Or.inl rfl)) pgs_nil))))
  (pss_cons (ps_if (pt_cmpR op_isN (pv 7) pe_non (nomark _)) (pss_one (ps_ret (pe_tup (pa_cons pe_non (pa_cons (pe_callTy call_tuple_of rfl T.n_tuple (by decide +kernel) (pa_cons (pe_callB cr_sortedI rfl T.n_sorted (by decide +kernel) (pa_cons (pe_callTy (call_list_dK rfl) rfl T.n_list (by decide +kernel) (pa_cons (pv 8) pa_nil)) pa_nil)) pa_nil)) pa_nil))))) pss_nil)
  (pss_cons (ps_augS (pv 2) (pv 7) pget_list pe_int ip_add set_list)
  (pss_one (ps_augS (pv 2) (pe_call G_u_turn (hr.mono (by decide)) rfl T.g_u_turn T.F_u_turn.kp T.b_u_turn .nil pass0 (pa_cons (pv 3) (pa_cons (pv 8) (pa_cons (pv 7) pa_nil)))) pget_list pe_int ip_sub set_list)))))))))))))
/-- _any_stock -/
def t_u_any_stock (c : Cn) (W_u_filled : Wp) : TS :=
  (tSeq (tIfS (tTest (tOp rEq (tCon c.K (tVar 0) "KIND") (tC (.str "join")))) (tRet (tOp (rIx c.K) (tCall (spD c W_u_filled) [] E0 (tCons (tVar 0) (tCons (tVar 1) tNil))) (tC (.int 0)))) tNext)
  (tSeq tNever
  (tSeq tNever
  tNever)))
theorem mk_u_any_stock {c : Cn} {mg : Str → Option Value} {base : Heap} (T : Tx c.K mg) {W W_u_filled : Wp} (G_u_filled : FnOk c.P c.w c.K mg base CX0 4 (T.f "_filled") (T.fd "_filled") ["market", "row"] (spD c W_u_filled))
    (len : ∀ A S R, W A S R → A.length = 2)
    (body : ∀ A S R, W A S R → RS c (t_u_any_stock c W_u_filled) (A ++ List.replicate 1 .no) S (endP S R)) :
    FnOk c.P c.w c.K mg base CX0 5 (T.f "_any_stock") (T.fd "_any_stock") ["market", "row"] (spD c W) := by
  refine T.F_u_any_stock.ok sc_u_any_stock (sp_len len) (fun cdv A outer s H vs Q E hr h => ⟨t_u_any_stock c W_u_filled, PSs.nox ?_, sp_body len body rfl h⟩)
  have hu := hu_of hr
  exact (pss_cons (ps_if (pt_cmpR op_eq (pe_con (pv 0) rfl) pe_str (nomark _)) (pss_one (ps_ret (pe_ix ix_seq (pe_call G_u_filled (hr.mono (by decide)) rfl T.g_u_filled T.F_u_filled.kp T.b_u_filled .nil pass0 (pa_cons (pv 0) (pa_cons (pv 1) pa_nil))) pe_int (fun _ _ => rfl)))) pss_nil)
  (pss_cons ps_never
  (pss_cons ps_never
  (pss_one ps_never))))
/-- has_stock -/
def t_has_stock (c : Cn) (W_u_any_stock W_demand_of : Wp) : TS :=
  (tRet (tOp rNotN0 (tCall (spD c W_u_any_stock) [] E0 (tCons (tVar 0) (tCons (tCall (spD c W_demand_of) [] E0 (tCons (tVar 0) (tCons (tVar 1) tNil))) tNil))) (tC .non)))
theorem mk_has_stock {c : Cn} {mg : Str → Option Value} {base : Heap} (T : Tx c.K mg) {W W_u_any_stock W_demand_of : Wp} (G_u_any_stock : FnOk c.P c.w c.K mg base CX0 5 (T.f "_any_stock") (T.fd "_any_stock") ["market", "row"] (spD c W_u_any_stock)) (G_demand_of : FnOk c.P c.w c.K mg base CX0 2 (T.f "demand_of") (T.fd "demand_of") ["market", "demand"] (spD c W_demand_of))
    (len : ∀ A S R, W A S R → A.length = 2)
    (body : ∀ A S R, W A S R → RS c (t_has_stock c W_u_any_stock W_demand_of) (A ++ List.replicate 0 .no) S (endP S R)) :
    FnOk c.P c.w c.K mg base CX0 6 (T.f "has_stock") (T.fd "has_stock") ["market", "demand"] (spD c W) := by
  refine T.F_has_stock.ok sc_has_stock (sp_len len) (fun cdv A outer s H vs Q E hr h => ⟨t_has_stock c W_u_any_stock W_demand_of, PSs.nox ?_, sp_body len body rfl h⟩)
  have hu := hu_of hr
  exact (pss_one (ps_ret (pe_cmpR op_notN (pe_call G_u_any_stock (hr.mono (by decide)) rfl T.g_u_any_stock T.F_u_any_stock.kp T.b_u_any_stock .nil pass0 (pa_cons (pv 0) (pa_cons (pe_call G_demand_of (hr.mono (by decide)) rfl T.g_demand_of T.F_demand_of.kp T.b_demand_of .nil pass0 (pa_cons (pv 0) (pa_cons (pv 1) pa_nil))) pa_nil))) pe_non (nomark _))))
/-- _check_stocks -/
def t_u_check_stocks (c : Cn) {mg : Str → Option Value} (T : Tx c.K mg) (W_has_stock W_Market_there : Wp) : TS :=
  (tSeq (tIfS (tNot (tB (tCall (spD c W_has_stock) [] E0 (tCons (tVar 0) (tCons (tVar 1) tNil))))) tNever tNext)
  (tSeq (tAsg (tCB (rLenS c.K) (tCons (tMeth (T.cC "Join") "there" (spD c W_Market_there) [] E0 (tVar 0) tNil) tNil)) (gName 2))
  (tIfS (tTest (tOp rGt (tVar 2) (tC (.int 10)))) tNever tNext)))
theorem mk_u_check_stocks {c : Cn} {mg : Str → Option Value} {base : Heap} (T : Tx c.K mg) {W W_has_stock W_Market_there : Wp} (G_has_stock : FnOk c.P c.w c.K mg base CX0 6 (T.f "has_stock") (T.fd "has_stock") ["market", "demand"] (spD c W_has_stock)) (G_Market_there : FnOk c.P c.w c.K mg base CX0 2 (T.f "Market.there") (T.fd "Market.there") ["self"] (spD c W_Market_there))
    (len : ∀ A S R, W A S R → A.length = 2)
    (body : ∀ A S R, W A S R → RS c (t_u_check_stocks c T W_has_stock W_Market_there) (A ++ List.replicate 1 .no) S (endP S R)) :
    FnOk c.P c.w c.K mg base CX0 7 (T.f "_check_stocks") (T.fd "_check_stocks") ["market", "row"] (spD c W) := by
  refine T.F_u_check_stocks.ok sc_u_check_stocks (sp_len len) (fun cdv A outer s H vs Q E hr h => ⟨t_u_check_stocks c T W_has_stock W_Market_there, PSs.nox ?_, sp_body len body rfl h⟩)
  have hu := hu_of hr
  exact (pss_cons (ps_if (pt_not (pt_val (pe_call G_has_stock (hr.mono (by decide)) rfl T.g_has_stock T.F_has_stock.kp T.b_has_stock .nil pass0 (pa_cons (pv 0) (pa_cons (pv 1) pa_nil))))) (pss_one ps_never) pss_nil)
  (pss_cons (ps_set (i := 2) sc_u_check_stocks.nd rfl (Or.inl rfl) (pe_callB call_len_seq rfl T.n_len (by decide +kernel) (pa_cons (pe_meth0 (pv 0) T.cl_Join T.m_Join_there G_Market_there (hr.mono (by decide)) T.b_Market_there .nil pass0) pa_nil)))
  (pss_one (ps_if (pt_cmpR op_gt (pv 2) pe_int (nomark _)) (pss_one ps_never) pss_nil))))
/-- _moves -/
def t_u_moves (c : Cn) : TS :=
  (tSeq (tAsg (tDNewN c.P c.w) (gName 4))
  (tSeq (tAsg (tLst (tCons (tTup (tCons (tVar 1) (tCons (tTup (tCons (tVar 1) tNil)) (tCons (tTup tNil) (tCons (tTup tNil) tNil))))) tNil)) (gName 5))
  (tSeq (tWhile (tTest (tOp rGt (tCB (rLenS c.K) (tCons (tVar 5) tNil)) (tC (.int 0)))) (tSeq (tAsg (tBM0 c.K "list" rPop (tVar 5)) (gTup c.K 4 (gCons (gName 6) (gCons (gName 7) (gCons (gName 8) (gCons (gName 9) gNil))))))
  (tSeq (tIfS (tTest (tOp rEq (tVar 6) (tVar 2))) (tSeq (sDPutN c.P c.w c.K (tVar 4) (tTup (tCons (tCB (rTupS c.K) (tCons (tCB (rSortedI c.K) (tCons (tCB (rListS c.K) (tCons (tVar 8) tNil)) tNil)) tNil)) (tCons (tCB (rTupS c.K) (tCons (tCB (rSortedI c.K) (tCons (tCB (rListS c.K) (tCons (tVar 9) tNil)) tNil)) tNil)) tNil))) (tC (.bl true)))
  tCont) tNext)
  (tFor (iList c.K (tOp (rIx c.K) (tVar 0) (tVar 6))) (gTup c.K 2 (gCons (gName 10) (gCons (gName 11) gNil))) (tSeq (tIfS (tOr (tTest (tOp (rIn c.K false) (tVar 10) (tVar 7))) (tTest (tChain rLe rLe (tC (.int 0)) (tVar 11) (tVar 3)))) tCont tNext)
  (tIfS (tTest (tOp rLt (tVar 11) (tC (.int 0)))) (tDrop (tBM c.K "list" rAppend (tVar 5) (tCons (tTup (tCons (tVar 10) (tCons (tTup (StX.tStar c.K (tVar 7) (tCons (tVar 10) tNil))) (tCons (tVar 8) (tCons (tVar 9) tNil))))) tNil))) (tIfS (tTest (tOp rLt (tVar 10) (tVar 6))) (tDrop (tBM c.K "list" rAppend (tVar 5) (tCons (tTup (tCons (tVar 10) (tCons (tTup (StX.tStar c.K (tVar 7) (tCons (tVar 10) tNil))) (tCons (tTup (StX.tStar c.K (tVar 8) (tCons (tVar 11) tNil))) (tCons (tVar 9) tNil))))) tNil))) (tDrop (tBM c.K "list" rAppend (tVar 5) (tCons (tTup (tCons (tVar 10) (tCons (tTup (StX.tStar c.K (tVar 7) (tCons (tVar 10) tNil))) (tCons (tVar 8) (tCons (tTup (StX.tStar c.K (tVar 9) (tCons (tVar 11) tNil))) tNil))))) tNil))))))))))
  (tRet (tCB (rSortedN c.K) (tCons (tCB (rListN c.P c.w) (tCons (tVar 4) tNil)) tNil))))))
theorem mk_u_moves {c : Cn} {mg : Str → Option Value} {base : Heap} (T : Tx c.K mg) {W : Wp}
    (len : ∀ A S R, W A S R → A.length = 4)
    (body : ∀ A S R, W A S R → RS c (t_u_moves c) (A ++ List.replicate 8 .no) S (endP S R)) :
    FnOk c.P c.w c.K mg base CX0 1 (T.f "_moves") (T.fd "_moves") ["lists", "first", "last", "above"] (spD c W) := by
  refine T.F_u_moves.ok sc_u_moves (sp_len len) (fun cdv A outer s H vs Q E hr h => ⟨t_u_moves c, PSs.nox ?_, sp_body len body rfl h⟩)
  have hu := hu_of hr
  exact (pss_cons (ps_set (i := 4) sc_u_moves.nd rfl (Or.inl rfl) pe_dnewN)
  (pss_cons (ps_set (i := 5) sc_u_moves.nd rfl (Or.inl rfl) (pe_lst (pa_cons (pe_tup (pa_cons (pv 1) (pa_cons (pe_tup (pa_cons (pv 1) pa_nil)) (pa_cons (pe_tup pa_nil) (pa_cons (pe_tup pa_nil) pa_nil))))) pa_nil)))
  (pss_cons (ps_while PassesOwn.never (pt_cmpR op_gt (pe_callB call_len_seq rfl T.n_len (by decide +kernel) (pa_cons (pv 5) pa_nil)) pe_int (nomark _)) (pss_cons (ps_asg (pe_bm0 PySem.F.plainAttrs_list PySem.F.slot_list_pop PySem.F.type_list_pop mt_pop (pv 5)) (pg_tup rfl (pgs_cons (pg_name (i := 6) sc_u_moves.nd rfl (Or.inl rfl)) (pgs_cons (pg_name (i := 7) sc_u_moves.nd rfl (Or.inl rfl)) (pgs_cons (pg_name (i := 8) sc_u_moves.nd rfl (Or.inl rfl)) (pgs_cons (pg_name (i := 9) sc_u_moves.nd rfl (Or.inl rfl)) pgs_nil))))))
  (pss_cons (ps_if (pt_cmpR op_eq (pv 6) (pv 2) (nomark _)) (pss_cons (ps_dputN (rm9 hr) (pv 4) (pe_tup (pa_cons (pe_callTy call_tuple_of rfl T.n_tuple (by decide +kernel) (pa_cons (pe_callB cr_sortedI rfl T.n_sorted (by decide +kernel) (pa_cons (pe_callTy call_list_of rfl T.n_list (by decide +kernel) (pa_cons (pv 8) pa_nil)) pa_nil)) pa_nil)) (pa_cons (pe_callTy call_tuple_of rfl T.n_tuple (by decide +kernel) (pa_cons (pe_callB cr_sortedI rfl T.n_sorted (by decide +kernel) (pa_cons (pe_callTy call_list_of rfl T.n_list (by decide +kernel) (pa_cons (pv 9) pa_nil)) pa_nil)) pa_nil)) pa_nil))) pe_bl rfl)
  (pss_one ps_continue)) pss_nil)
  (pss_one (ps_for PassesOwn.never rfl (pi_list (pe_ix ix_seq (pv 0) (pv 6) (fun _ _ => rfl))) (pg_tup rfl (pgs_cons (pg_name (i := 10) sc_u_moves.nd rfl (Or.inl rfl)) (pgs_cons (pg_name (i := 11) sc_u_moves.nd rfl (Or.inl rfl)) pgs_nil))) (pss_cons (ps_if (PW.pt (pw_or (pt_cmpR op_in_seq (pv 10) (pv 7) (by rfl)) (pw_or1 (pt_chain op_le op_le pe_int (pv 11) (pv 3))))) (pss_one ps_continue) pss_nil)
  (pss_one (ps_if (pt_cmpR op_lt (pv 11) pe_int (nomark _)) (pss_one (ps_expr (pe_bm PySem.F.plainAttrs_list PySem.F.slot_list_append PySem.F.type_list_append mt_append (pv 5) (pa_cons (pe_tup (pa_cons (pv 10) (pa_cons (pe_tup (StX.pa_star (pv 7) (pa_cons (pv 10) pa_nil))) (pa_cons (pv 8) (pa_cons (pv 9) pa_nil))))) pa_nil)))) (pss_one (ps_if (pt_cmpR op_lt (pv 10) (pv 6) (nomark _)) (pss_one (ps_expr (pe_bm PySem.F.plainAttrs_list PySem.F.slot_list_append PySem.F.type_list_append mt_append (pv 5) (pa_cons (pe_tup (pa_cons (pv 10) (pa_cons (pe_tup (StX.pa_star (pv 7) (pa_cons (pv 10) pa_nil))) (pa_cons (pe_tup (StX.pa_star (pv 8) (pa_cons (pv 11) pa_nil))) (pa_cons (pv 9) pa_nil))))) pa_nil)))) (pss_one (ps_expr (pe_bm PySem.F.plainAttrs_list PySem.F.slot_list_append PySem.F.type_list_append mt_append (pv 5) (pa_cons (pe_tup (pa_cons (pv 10) (pa_cons (pe_tup (StX.pa_star (pv 7) (pa_cons (pv 10) pa_nil))) (pa_cons (pv 8) (pa_cons (pe_tup (StX.pa_star (pv 9) (pa_cons (pv 11) pa_nil))) pa_nil))))) pa_nil))))))))))))))
  (pss_one (ps_ret (pe_callB (cr_sortedN (rm16 hr)) rfl T.n_sorted (by decide +kernel) (pa_cons (pe_callTy (call_listN rfl) rfl T.n_list (by decide +kernel) (pa_cons (pv 4) pa_nil)) pa_nil)))))))
/-- _both_ways -/
def t_u_both_ways (c : Cn) {mg : Str → Option Value} (T : Tx c.K mg) (W_Market_there : Wp) : TS :=
  (tSeq (tAsg (tLc (iRng1 (tCons (tOp qAdd (tFld c.K (tVar 0) "size") (tC (.int 1))) tNil)) (gName 6) tYes (tLst tNil) [6]) (gName 2))
  (tSeq (tFor (iTup c.K (tMeth (T.cC "Join") "there" (spD c W_Market_there) [] E0 (tVar 0) tNil)) (gName 3) (tIfS (tTest (tOp rNe (tVar 3) (tVar 1))) (tSeq (tAsg (tOp (rIx c.K) (tFld c.K (tVar 0) "runs") (tVar 3)) (gTup c.K 2 (gCons (gName 4) (gCons (gName 5) gNil))))
  (tSeq (tDrop (tBM c.K "list" rAppend (tOp (rIx c.K) (tVar 2) (tVar 4)) (tCons (tTup (tCons (tVar 5) (tCons (tVar 3) tNil))) tNil)))
  (tDrop (tBM c.K "list" rAppend (tOp (rIx c.K) (tVar 2) (tVar 5)) (tCons (tTup (tCons (tVar 4) (tCons (tVar 3) tNil))) tNil))))) tNext))
  (tRet (tVar 2))))
theorem mk_u_both_ways {c : Cn} {mg : Str → Option Value} {base : Heap} (T : Tx c.K mg) {W W_Market_there : Wp} (G_Market_there : FnOk c.P c.w c.K mg base CX0 2 (T.f "Market.there") (T.fd "Market.there") ["self"] (spD c W_Market_there))
    (len : ∀ A S R, W A S R → A.length = 2)
    (body : ∀ A S R, W A S R → RS c (t_u_both_ways c T W_Market_there) (A ++ List.replicate 5 .no) S (endP S R)) :
    FnOk c.P c.w c.K mg base CX0 3 (T.f "_both_ways") (T.fd "_both_ways") ["market", "without"] (spD c W) := by
  refine T.F_u_both_ways.ok sc_u_both_ways (sp_len len) (fun cdv A outer s H vs Q E hr h => ⟨t_u_both_ways c T W_Market_there, PSs.nox ?_, sp_body len body rfl h⟩)
  have hu := hu_of hr
  exact (pss_cons (ps_setLc (i := 2) (own := [("_", 6)]) (g := (gName 6)) (tt := tYes) rfl sc_u_both_ways.nd rfl rfl (sw_true rfl rfl rfl (by decide +kernel)) (pi_range1 rfl T.n_range (pa_cons (pe_op op_add (pe_fld (pv 0) rfl) pe_int) pa_nil)) (blkOk_by (own := [("_", 6)]) (N := ["market", "without", "lists", "part", "begin", "end", "_"]) (sc := defScope s_u_both_ways) (by decide +kernel)) (fun _ _ _ _ _ => (pg_name (i := 6) sc_u_both_ways.nd rfl (Or.inl rfl))) (fun _ _ _ _ _ => pts_nil) (fun _ _ _ _ _ => (pe_lst pa_nil)))
  (pss_cons (ps_for PassesOwn.never rfl (pi_tup (pe_meth0 (pv 0) T.cl_Join T.m_Join_there G_Market_there (hr.mono (by decide)) T.b_Market_there .nil pass0)) (pg_name (i := 3) sc_u_both_ways.nd rfl (Or.inl rfl)) (pss_one (ps_if (pt_cmpR op_ne (pv 3) (pv 1) (nomark _)) (pss_cons (ps_asg (pe_ix ix_seq (pe_fld (pv 0) rfl) (pv 3) (fun _ _ => rfl)) (pg_tup rfl (pgs_cons (pg_name (i := 4) sc_u_both_ways.nd rfl (Or.inl rfl)) (pgs_cons (pg_name (i := 5) sc_u_both_ways.nd rfl (Or.inl rfl)) pgs_nil))))
  (pss_cons (ps_expr (pe_bm PySem.F.plainAttrs_list PySem.F.slot_list_append PySem.F.type_list_append mt_append (pe_ix ix_seq (pv 2) (pv 4) (fun _ _ => rfl)) (pa_cons (pe_tup (pa_cons (pv 5) (pa_cons (pv 3) pa_nil))) pa_nil)))
  (pss_one (ps_expr (pe_bm PySem.F.plainAttrs_list PySem.F.slot_list_append PySem.F.type_list_append mt_append (pe_ix ix_seq (pv 2) (pv 5) (fun _ _ => rfl)) (pa_cons (pe_tup (pa_cons (pv 4) (pa_cons (pv 3) pa_nil))) pa_nil)))))) pss_nil)))
  (pss_one (ps_ret (pv 2)))))
/-- _cover -/
def t_u_cover (c : Cn) : TS :=
  (tSeq (tAsg (tLc (iRng1 (tCons (tOp qAdd (tFld c.K (tVar 0) "size") (tC (.int 1))) tNil)) (gName 9) tYes (tC (.int 0)) [9]) (gName 2))
  (tSeq (tFor (iTup c.K (tVar 1)) (gName 3) (tSeq (tAsg (tOp (rIx c.K) (tFld c.K (tVar 0) "runs") (tVar 3)) (gTup c.K 2 (gCons (gName 4) (gCons (gName 5) gNil))))
  (tSeq (tAugS (tVar 2) (tVar 4) (tC (.int 1)) (rIxL c.K) (ipI fun i j => i + j) rSetL)
  (tAugS (tVar 2) (tVar 5) (tC (.int 1)) (rIxL c.K) (ipI fun i j => i - j) rSetL))))
  (tSeq (tAsg (tLst tNil) (gName 6))
  (tSeq (tAsg (tC (.int 0)) (gName 7))
  (tSeq (tFor (iRng1 (tCons (tFld c.K (tVar 0) "size") tNil)) (gName 8) (tSeq (tAsg (tOp qAdd (tVar 7) (tOp (rIx c.K) (tVar 2) (tVar 8))) (gName 7))
  (tDrop (tBM c.K "list" rAppend (tVar 6) (tCons (tVar 7) tNil)))))
  (tRet (tCB (rTupS c.K) (tCons (tVar 6) tNil))))))))
theorem mk_u_cover {c : Cn} {mg : Str → Option Value} {base : Heap} (T : Tx c.K mg) {W : Wp}
    (len : ∀ A S R, W A S R → A.length = 2)
    (body : ∀ A S R, W A S R → RS c (t_u_cover c) (A ++ List.replicate 8 .no) S (endP S R)) :
    FnOk c.P c.w c.K mg base CX0 1 (T.f "_cover") (T.fd "_cover") ["market", "parts"] (spD c W) := by
  refine T.F_u_cover.ok sc_u_cover (sp_len len) (fun cdv A outer s H vs Q E hr h => ⟨t_u_cover c, PSs.nox ?_, sp_body len body rfl h⟩)
  have hu := hu_of hr
  exact (pss_cons (ps_setLc (i := 2) (own := [("_", 9)]) (g := (gName 9)) (tt := tYes) rfl sc_u_cover.nd rfl rfl (sw_true rfl rfl rfl (by decide +kernel)) (pi_range1 rfl T.n_range (pa_cons (pe_op op_add (pe_fld (pv 0) rfl) pe_int) pa_nil)) (blkOk_by (own := [("_", 9)]) (N := ["market", "parts", "rises", "part", "begin", "end", "result", "level", "place", "_"]) (sc := defScope s_u_cover) (by decide +kernel)) (fun _ _ _ _ _ => (pg_name (i := 9) sc_u_cover.nd rfl (Or.inl rfl))) (fun _ _ _ _ _ => pts_nil) (fun _ _ _ _ _ => pe_int))
  (pss_cons (ps_for PassesOwn.never rfl (pi_tup (pv 1)) (pg_name (i := 3) sc_u_cover.nd rfl (Or.inl rfl)) (pss_cons (ps_asg (pe_ix ix_seq (pe_fld (pv 0) rfl) (pv 3) (fun _ _ => rfl)) (pg_tup rfl (pgs_cons (pg_name (i := 4) sc_u_cover.nd rfl (Or.inl rfl)) (pgs_cons (pg_name (i := 5) sc_u_cover.nd rfl (Or.inl rfl)) pgs_nil))))
  (pss_cons (ps_augS (pv 2) (pv 4) pget_list pe_int ip_add set_list)
  (pss_one (ps_augS (pv 2) (pv 5) pget_list pe_int ip_sub set_list)))))
  (pss_cons (ps_set (i := 6) sc_u_cover.nd rfl (Or.inl rfl) (pe_lst pa_nil))
  (pss_cons (ps_set (i := 7) sc_u_cover.nd rfl (Or.inl rfl) pe_int)
  (pss_cons (ps_for PassesOwn.never rfl (pi_range1 rfl T.n_range (pa_cons (pe_fld (pv 0) rfl) pa_nil)) (pg_name (i := 8) sc_u_cover.nd rfl (Or.inl rfl)) (pss_cons (ps_set (i := 7) sc_u_cover.nd rfl (Or.inl rfl) (pe_op op_add (pv 7) (pe_ix ix_seq (pv 2) (pv 8) (fun _ _ => rfl))))
  (pss_one (ps_expr (pe_bm PySem.F.plainAttrs_list PySem.F.slot_list_append PySem.F.type_list_append mt_append (pv 6) (pa_cons (pv 7) pa_nil))))))
  (pss_one (ps_ret (pe_callTy call_tuple_of rfl T.n_tuple (by decide +kernel) (pa_cons (pv 6) pa_nil)))))))))
/-- cover -/
def t_cover (c : Cn) (W_u_cover W_set_of : Wp) : TS :=
  (tRet (tCall (spD c W_u_cover) [] E0 (tCons (tVar 0) (tCons (tCall (spD c W_set_of) [] E0 (tCons (tCB (rLenS c.K) (tCons (tFld c.K (tVar 0) "runs") tNil)) (tCons (tVar 1) tNil))) tNil))))
theorem mk_cover {c : Cn} {mg : Str → Option Value} {base : Heap} (T : Tx c.K mg) {W W_u_cover W_set_of : Wp} (G_u_cover : FnOk c.P c.w c.K mg base CX0 1 (T.f "_cover") (T.fd "_cover") ["market", "parts"] (spD c W_u_cover)) (G_set_of : FnOk c.P c.w c.K mg base CX0 3 (T.f "set_of") (T.fd "set_of") ["many", "parts"] (spD c W_set_of))
    (len : ∀ A S R, W A S R → A.length = 2)
    (body : ∀ A S R, W A S R → RS c (t_cover c W_u_cover W_set_of) (A ++ List.replicate 0 .no) S (endP S R)) :
    FnOk c.P c.w c.K mg base CX0 4 (T.f "cover") (T.fd "cover") ["market", "parts"] (spD c W) := by
  refine T.F_cover.ok sc_cover (sp_len len) (fun cdv A outer s H vs Q E hr h => ⟨t_cover c W_u_cover W_set_of, PSs.nox ?_, sp_body len body rfl h⟩)
  have hu := hu_of hr
  exact (pss_one (ps_ret (pe_call G_u_cover (hr.mono (by decide)) rfl T.g_u_cover T.F_u_cover.kp T.b_u_cover .nil pass0 (pa_cons (pv 0) (pa_cons (pe_call G_set_of (hr.mono (by decide)) rfl T.g_set_of T.F_set_of.kp T.b_set_of .nil pass0 (pa_cons (pe_callB call_len_seq rfl T.n_len (by decide +kernel) (pa_cons (pe_fld (pv 0) rfl) pa_nil)) (pa_cons (pv 1) pa_nil))) pa_nil)))))
/-- some_stock -/
def t_some_stock (c : Cn) (W_u_any_stock W_demand_of : Wp) : TS :=
  (tRet (tCall (spD c W_u_any_stock) [] E0 (tCons (tVar 0) (tCons (tCall (spD c W_demand_of) [] E0 (tCons (tVar 0) (tCons (tVar 1) tNil))) tNil))))
theorem mk_some_stock {c : Cn} {mg : Str → Option Value} {base : Heap} (T : Tx c.K mg) {W W_u_any_stock W_demand_of : Wp} (G_u_any_stock : FnOk c.P c.w c.K mg base CX0 5 (T.f "_any_stock") (T.fd "_any_stock") ["market", "row"] (spD c W_u_any_stock)) (G_demand_of : FnOk c.P c.w c.K mg base CX0 2 (T.f "demand_of") (T.fd "demand_of") ["market", "demand"] (spD c W_demand_of))
    (len : ∀ A S R, W A S R → A.length = 2)
    (body : ∀ A S R, W A S R → RS c (t_some_stock c W_u_any_stock W_demand_of) (A ++ List.replicate 0 .no) S (endP S R)) :
    FnOk c.P c.w c.K mg base CX0 6 (T.f "some_stock") (T.fd "some_stock") ["market", "demand"] (spD c W) := by
  refine T.F_some_stock.ok sc_some_stock (sp_len len) (fun cdv A outer s H vs Q E hr h => ⟨t_some_stock c W_u_any_stock W_demand_of, PSs.nox ?_, sp_body len body rfl h⟩)
  have hu := hu_of hr
  exact (pss_one (ps_ret (pe_call G_u_any_stock (hr.mono (by decide)) rfl T.g_u_any_stock T.F_u_any_stock.kp T.b_u_any_stock .nil pass0 (pa_cons (pv 0) (pa_cons (pe_call G_demand_of (hr.mono (by decide)) rfl T.g_demand_of T.F_demand_of.kp T.b_demand_of .nil pass0 (pa_cons (pv 0) (pa_cons (pv 1) pa_nil))) pa_nil)))))
/-- both -/
def t_both (c : Cn) : TS :=
  (tSeq (tAsg tDNewK (gName 2))
  (tSeq (tFor (iTup c.K (tVar 0)) (gName 3) (sDPut (tVar 2) (tVar 3) (tC (.bl true))))
  (tSeq (tFor (iTup c.K (tVar 1)) (gName 3) (sDPut (tVar 2) (tVar 3) (tC (.bl true))))
  (tRet (tCB (rTupS c.K) (tCons (tCB (rSortedI c.K) (tCons (tCB rListD (tCons (tVar 2) tNil)) tNil)) tNil))))))
theorem mk_both {c : Cn} {mg : Str → Option Value} {base : Heap} (T : Tx c.K mg) {W : Wp}
    (len : ∀ A S R, W A S R → A.length = 2)
    (body : ∀ A S R, W A S R → RS c (t_both c) (A ++ List.replicate 2 .no) S (endP S R)) :
    FnOk c.P c.w c.K mg base CX0 1 (T.f "both") (T.fd "both") ["one", "other"] (spD c W) := by
  refine T.F_both.ok sc_both (sp_len len) (fun cdv A outer s H vs Q E hr h => ⟨t_both c, PSs.nox ?_, sp_body len body rfl h⟩)
  have hu := hu_of hr
  exact (pss_cons (ps_set (i := 2) sc_both.nd rfl (Or.inl rfl) pe_dnewK)
  (pss_cons (ps_for PassesOwn.never rfl (pi_tup (pv 0)) (pg_name (i := 3) sc_both.nd rfl (Or.inl rfl)) (pss_one (ps_dput hu (pv 2) (pv 3) pe_bl rfl)))
  (pss_cons (ps_for PassesOwn.never rfl (pi_tup (pv 1)) (pg_name (i := 3) sc_both.nd rfl (Or.inl rfl)) (pss_one (ps_dput hu (pv 2) (pv 3) pe_bl rfl)))
  (pss_one (ps_ret (pe_callTy call_tuple_of rfl T.n_tuple (by decide +kernel) (pa_cons (pe_callB cr_sortedI rfl T.n_sorted (by decide +kernel) (pa_cons (pe_callTy (call_list_dK rfl) rfl T.n_list (by decide +kernel) (pa_cons (pv 2) pa_nil)) pa_nil)) pa_nil)))))))
/-- Join.lose -/
def t_Join_lose (c : Cn) {mg : Str → Option Value} (T : Tx c.K mg) (W_Join_init W_both W_set_of : Wp) : TS :=
  (tRet (tMakeN (T.cC "Join") 2 (List.length (α := Str) ["gone"]) (spD c W_Join_init) (fun vs zs => vs ++ zs) E0 (tCons (tFld c.K (tVar 0) "size") (tCons (tFld c.K (tVar 0) "runs") tNil)) (tCons (tCall (spD c W_both) [] E0 (tCons (tFld c.K (tVar 0) "gone") (tCons (tCall (spD c W_set_of) [] E0 (tCons (tCB (rLenS c.K) (tCons (tFld c.K (tVar 0) "runs") tNil)) (tCons (tVar 1) tNil))) tNil))) tNil)))
theorem mk_Join_lose {c : Cn} {mg : Str → Option Value} {base : Heap} (T : Tx c.K mg) {W W_Join_init W_both W_set_of : Wp} (G_Join_init : FnOk c.P c.w c.K mg base CX0 5 (T.f "Join.__init__") (T.fd "Join.__init__") ["self", "size", "runs", "gone"] (spD c W_Join_init)) (G_both : FnOk c.P c.w c.K mg base CX0 1 (T.f "both") (T.fd "both") ["one", "other"] (spD c W_both)) (G_set_of : FnOk c.P c.w c.K mg base CX0 3 (T.f "set_of") (T.fd "set_of") ["many", "parts"] (spD c W_set_of))
    (len : ∀ A S R, W A S R → A.length = 2)
    (body : ∀ A S R, W A S R → RS c (t_Join_lose c T W_Join_init W_both W_set_of) (A ++ List.replicate 0 .no) S (endP S R)) :
    FnOk c.P c.w c.K mg base CX0 7 (T.f "Join.lose") (T.fd "Join.lose") ["self", "parts"] (spD c W) := by
  refine T.F_Join_lose.ok sc_Join_lose (sp_len len) (fun cdv A outer s H vs Q E hr h => ⟨t_Join_lose c T W_Join_init W_both W_set_of, PSs.nox ?_, sp_body len body rfl h⟩)
  have hu := hu_of hr
  exact (pss_one (ps_ret (pe_makeN T.mk_Join G_Join_init (hr.mono (by decide)) rfl T.g_Join T.kb_Join pass0 (pa_cons (pe_fld (pv 0) rfl) (pa_cons (pe_fld (pv 0) rfl) pa_nil)) (pk_cons (pe_call G_both (hr.mono (by decide)) rfl T.g_both T.F_both.kp T.b_both .nil pass0 (pa_cons (pe_fld (pv 0) rfl) (pa_cons (pe_call G_set_of (hr.mono (by decide)) rfl T.g_set_of T.F_set_of.kp T.b_set_of .nil pass0 (pa_cons (pe_callB call_len_seq rfl T.n_len (by decide +kernel) (pa_cons (pe_fld (pv 0) rfl) pa_nil)) (pa_cons (pv 1) pa_nil))) pa_nil))) pk_nil))))
/-- _stock_with -/
def t_u_stock_with (c : Cn) {mg : Str → Option Value} (T : Tx c.K mg) (W_cover W_some_stock W_Join_lose W_both : Wp) : TS :=
  (tSeq (tAsg (tCall (spD c W_cover) [] E0 (tCons (tVar 0) (tCons (tVar 2) tNil))) (gName 4))
  (tSeq (tAsg (tLc (iEnumA c.K (tCons (tVar 1) tNil)) (gTup c.K 2 (gCons (gName 7) (gCons (gName 8) gNil))) tYes (tOp qSub (tVar 8) (tOp (rIx c.K) (tVar 4) (tVar 7))) [7, 8]) (gName 5))
  (tSeq (tIfS (tTest (tOp rLt (tCB (rMin c.K) (tCons (tVar 5) tNil)) (tC (.int 0)))) (tRet (tC .non)) tNext)
  (tSeq (tAsg (tCall (spD c W_some_stock) [] E0 (tCons (tMeth (T.cC "Join") "lose" (spD c W_Join_lose) [] E0 (tVar 0) (tCons (tCall (spD c W_both) [] E0 (tCons (tVar 2) (tCons (tVar 3) tNil))) tNil)) (tCons (tVar 5) tNil))) (gName 6))
  (tSeq (tIfS (tTest (tOp rIsN0 (tVar 6) (tC .non))) (tRet (tC .non)) tNext)
  (tRet (tCall (spD c W_both) [] E0 (tCons (tVar 6) (tCons (tVar 2) tNil)))))))))
theorem mk_u_stock_with {c : Cn} {mg : Str → Option Value} {base : Heap} (T : Tx c.K mg) {W W_cover W_some_stock W_Join_lose W_both : Wp} (G_cover : FnOk c.P c.w c.K mg base CX0 4 (T.f "cover") (T.fd "cover") ["market", "parts"] (spD c W_cover)) (G_some_stock : FnOk c.P c.w c.K mg base CX0 6 (T.f "some_stock") (T.fd "some_stock") ["market", "demand"] (spD c W_some_stock)) (G_Join_lose : FnOk c.P c.w c.K mg base CX0 7 (T.f "Join.lose") (T.fd "Join.lose") ["self", "parts"] (spD c W_Join_lose)) (G_both : FnOk c.P c.w c.K mg base CX0 1 (T.f "both") (T.fd "both") ["one", "other"] (spD c W_both))
    (len : ∀ A S R, W A S R → A.length = 4)
    (body : ∀ A S R, W A S R → RS c (t_u_stock_with c T W_cover W_some_stock W_Join_lose W_both) (A ++ List.replicate 5 .no) S (endP S R)) :
    FnOk c.P c.w c.K mg base CX0 8 (T.f "_stock_with") (T.fd "_stock_with") ["market", "row", "outs", "ins"] (spD c W) := by
  refine T.F_u_stock_with.ok sc_u_stock_with (sp_len len) (fun cdv A outer s H vs Q E hr h => ⟨t_u_stock_with c T W_cover W_some_stock W_Join_lose W_both, PSs.nox ?_, sp_body len body rfl h⟩)
  have hu := hu_of hr
  exact (pss_cons (ps_set (i := 4) sc_u_stock_with.nd rfl (Or.inr rfl) (pe_call G_cover (hr.mono (by decide)) rfl T.g_cover T.F_cover.kp T.b_cover .nil pass0 (pa_cons (pv 0) (pa_cons (pv 2) pa_nil))))
  (pss_cons (ps_setLc (i := 5) (own := [("place", 7), ("number", 8)]) (g := (gTup c.K 2 (gCons (gName 7) (gCons (gName 8) gNil)))) (tt := tYes) rfl sc_u_stock_with.nd rfl rfl (sw_true rfl rfl rfl (by decide +kernel)) (pi_enumA rfl T.n_enumerate (pa_cons (pv 1) pa_nil)) (blkOk_by (own := [("place", 7), ("number", 8)]) (N := ["market", "row", "outs", "ins", "covers", "rest", "found", "place", "number"]) (sc := defScope s_u_stock_with) (by decide +kernel)) (fun _ _ _ _ _ => (pg_tup rfl (pgs_cons (pg_name (i := 7) sc_u_stock_with.nd rfl (Or.inl rfl)) (pgs_cons (pg_name (i := 8) sc_u_stock_with.nd rfl (Or.inl rfl)) pgs_nil)))) (fun _ _ _ _ _ => pts_nil) (fun _ _ _ _ _ => (pe_op op_sub (pv 8) (pe_ix ix_seq (pv 4) (pv 7) (fun _ _ => rfl)))))
  (pss_cons (ps_if (pt_cmpR op_lt (pe_callB (cr_min rfl) rfl T.n_min (by decide +kernel) (pa_cons (pv 5) pa_nil)) pe_int (nomark _)) (pss_one (ps_ret pe_non)) pss_nil)
  (pss_cons (ps_set (i := 6) sc_u_stock_with.nd rfl (Or.inl rfl) (pe_call G_some_stock (hr.mono (by decide)) rfl T.g_some_stock T.F_some_stock.kp T.b_some_stock .nil pass0 (pa_cons (pe_meth (pv 0) T.cl_Join T.m_Join_lose G_Join_lose (hr.mono (by decide)) T.b_Join_lose .nil pass0 (pa_cons (pe_call G_both (hr.mono (by decide)) rfl T.g_both T.F_both.kp T.b_both .nil pass0 (pa_cons (pv 2) (pa_cons (pv 3) pa_nil))) pa_nil)) (pa_cons (pv 5) pa_nil))))
  (pss_cons (ps_if (pt_cmpR op_isN (pv 6) pe_non (nomark _)) (pss_one (ps_ret pe_non)) pss_nil)
  (pss_one (ps_ret (pe_call G_both (hr.mono (by decide)) rfl T.g_both T.F_both.kp T.b_both .nil pass0 (pa_cons (pv 6) (pa_cons (pv 2) pa_nil))))))))))
/-- walk_over -/
def t_walk_over (c : Cn) (W_check_join W_demand_of W_points_of W_part_there W_is_int W_u_check_stocks W_u_moves W_u_both_ways W_u_stock_with : Wp) : TS :=
  (tSeq (tDrop (tCall (spD c W_check_join) [] E0 (tCons (tVar 0) tNil)))
  (tSeq (tAsg (tCall (spD c W_demand_of) [] E0 (tCons (tVar 0) (tCons (tVar 1) tNil))) (gName 5))
  (tSeq (tAsg (tCall (spD c W_points_of) [] E0 (tCons (tVar 0) (tCons (tVar 2) tNil))) (gTup c.K 2 (gCons (gName 6) (gCons (gName 7) gNil))))
  (tSeq (tIfS (tTest (tOp rEq (tVar 6) (tVar 7))) tNever tNext)
  (tSeq (tDrop (tCall (spD c W_part_there) [] E0 (tCons (tVar 0) (tCons (tVar 3) tNil))))
  (tSeq (tIfS (tOr (tNot (tB (tCall (spD c W_is_int) [] E0 (tCons (tVar 4) tNil)))) (tTest (tOp (rIn c.K true) (tVar 4) (tTup (tCons (tUn (rU fun i => .int (-i)) (tC (.int 1))) (tCons (tC (.int 1)) tNil)))))) tNever tNext)
  (tSeq (tDrop (tCall (spD c W_u_check_stocks) [] E0 (tCons (tVar 0) (tCons (tVar 5) tNil))))
  (tSeq (tFor (iList c.K (tCall (spD c W_u_moves) [] E0 (tCons (tCall (spD c W_u_both_ways) [] E0 (tCons (tVar 0) (tCons (tUn (rU fun i => .int (-i)) (tC (.int 1))) tNil))) (tCons (tVar 6) (tCons (tVar 7) (tCons (tUn (rU fun i => .int (-i)) (tC (.int 1))) tNil)))))) (gTup c.K 2 (gCons (gName 8) (gCons (gName 9) gNil))) (tIfS (tTest (tOp (rIn c.K false) (tVar 3) (tIf (tTest (tOp rEq (tVar 4) (tUn (rU fun i => .int (-i)) (tC (.int 1))))) (tVar 8) (tVar 9)))) (tSeq (tAsg (tCall (spD c W_u_stock_with) [] E0 (tCons (tVar 0) (tCons (tVar 5) (tCons (tVar 8) (tCons (tVar 9) tNil))))) (gName 10))
  (tIfS (tTest (tOp rNotN0 (tVar 10) (tC .non))) (tRet (tTup (tCons (tVar 10) (tCons (tVar 8) (tCons (tVar 9) tNil))))) tNext)) tNext))
  (tRet (tC .non))))))))))
theorem mk_walk_over {c : Cn} {mg : Str → Option Value} {base : Heap} (T : Tx c.K mg) {W W_check_join W_demand_of W_points_of W_part_there W_is_int W_u_check_stocks W_u_moves W_u_both_ways W_u_stock_with : Wp} (G_check_join : FnOk c.P c.w c.K mg base CX0 1 (T.f "check_join") (T.fd "check_join") ["market"] (spD c W_check_join)) (G_demand_of : FnOk c.P c.w c.K mg base CX0 2 (T.f "demand_of") (T.fd "demand_of") ["market", "demand"] (spD c W_demand_of)) (G_points_of : FnOk c.P c.w c.K mg base CX0 2 (T.f "points_of") (T.fd "points_of") ["market", "run"] (spD c W_points_of)) (G_part_there : FnOk c.P c.w c.K mg base CX0 3 (T.f "part_there") (T.fd "part_there") ["market", "part"] (spD c W_part_there)) (G_is_int : FnOk c.P c.w c.K mg base CX0 1 (T.f "is_int") (T.fd "is_int") ["value"] (spD c W_is_int)) (G_u_check_stocks : FnOk c.P c.w c.K mg base CX0 7 (T.f "_check_stocks") (T.fd "_check_stocks") ["market", "row"] (spD c W_u_check_stocks)) (G_u_moves : FnOk c.P c.w c.K mg base CX0 1 (T.f "_moves") (T.fd "_moves") ["lists", "first", "last", "above"] (spD c W_u_moves)) (G_u_both_ways : FnOk c.P c.w c.K mg base CX0 3 (T.f "_both_ways") (T.fd "_both_ways") ["market", "without"] (spD c W_u_both_ways)) (G_u_stock_with : FnOk c.P c.w c.K mg base CX0 8 (T.f "_stock_with") (T.fd "_stock_with") ["market", "row", "outs", "ins"] (spD c W_u_stock_with))
    (len : ∀ A S R, W A S R → A.length = 5)
    (body : ∀ A S R, W A S R → RS c (t_walk_over c W_check_join W_demand_of W_points_of W_part_there W_is_int W_u_check_stocks W_u_moves W_u_both_ways W_u_stock_with) (A ++ List.replicate 6 .no) S (endP S R)) :
    FnOk c.P c.w c.K mg base CX0 9 (T.f "walk_over") (T.fd "walk_over") ["market", "demand", "run", "part", "sign"] (spD c W) := by
  refine T.F_walk_over.ok sc_walk_over (sp_len len) (fun cdv A outer s H vs Q E hr h => ⟨t_walk_over c W_check_join W_demand_of W_points_of W_part_there W_is_int W_u_check_stocks W_u_moves W_u_both_ways W_u_stock_with, PSs.nox ?_, sp_body len body rfl h⟩)
  have hu := hu_of hr
  exact (pss_cons (ps_expr (pe_call G_check_join (hr.mono (by decide)) rfl T.g_check_join T.F_check_join.kp T.b_check_join .nil pass0 (pa_cons (pv 0) pa_nil)))
  (pss_cons (ps_set (i := 5) sc_walk_over.nd rfl (Or.inl rfl) (pe_call G_demand_of (hr.mono (by decide)) rfl T.g_demand_of T.F_demand_of.kp T.b_demand_of .nil pass0 (pa_cons (pv 0) (pa_cons (pv 1) pa_nil))))
  (pss_cons (ps_asg (pe_call G_points_of (hr.mono (by decide)) rfl T.g_points_of T.F_points_of.kp T.b_points_of .nil pass0 (pa_cons (pv 0) (pa_cons (pv 2) pa_nil))) (pg_tup rfl (pgs_cons (pg_name (i := 6) sc_walk_over.nd rfl (Or.inl rfl)) (pgs_cons (pg_name (i := 7) sc_walk_over.nd rfl (Or.inl rfl)) pgs_nil))))
  (pss_cons (ps_if (pt_cmpR op_eq (pv 6) (pv 7) (nomark _)) (pss_one ps_never) pss_nil)
  (pss_cons (ps_expr (pe_call G_part_there (hr.mono (by decide)) rfl T.g_part_there T.F_part_there.kp T.b_part_there .nil pass0 (pa_cons (pv 0) (pa_cons (pv 3) pa_nil))))
  (pss_cons (ps_if (PW.pt (pw_or (pt_not (pt_val (pe_call G_is_int (hr.mono (by decide)) rfl T.g_is_int T.F_is_int.kp T.b_is_int .nil pass0 (pa_cons (pv 4) pa_nil)))) (pw_or1 (pt_cmpR op_notIn_seq (pv 4) (pe_tup (pa_cons (pe_un un_neg pe_int) (pa_cons pe_int pa_nil))) (by rfl))))) (pss_one ps_never) pss_nil)
  (pss_cons (ps_expr (pe_call G_u_check_stocks (hr.mono (by decide)) rfl T.g_u_check_stocks T.F_u_check_stocks.kp T.b_u_check_stocks .nil pass0 (pa_cons (pv 0) (pa_cons (pv 5) pa_nil))))
  (pss_cons (ps_for PassesOwn.never rfl (pi_list (pe_call G_u_moves (hr.mono (by decide)) rfl T.g_u_moves T.F_u_moves.kp T.b_u_moves .nil pass0 (pa_cons (pe_call G_u_both_ways (hr.mono (by decide)) rfl T.g_u_both_ways T.F_u_both_ways.kp T.b_u_both_ways .nil pass0 (pa_cons (pv 0) (pa_cons (pe_un un_neg pe_int) pa_nil))) (pa_cons (pv 6) (pa_cons (pv 7) (pa_cons (pe_un un_neg pe_int) pa_nil)))))) (pg_tup rfl (pgs_cons (pg_name (i := 8) sc_walk_over.nd rfl (Or.inl rfl)) (pgs_cons (pg_name (i := 9) sc_walk_over.nd rfl (Or.inl rfl)) pgs_nil))) (pss_one (ps_if (pt_cmpR op_in_seq (pv 3) (pe_ifExp (pt_cmpR op_eq (pv 4) (pe_un un_neg pe_int) (nomark _)) (pv 8) (pv 9)) (by rfl)) (pss_cons (ps_set (i := 10) sc_walk_over.nd rfl (Or.inl rfl) (pe_call G_u_stock_with (hr.mono (by decide)) rfl T.g_u_stock_with T.F_u_stock_with.kp T.b_u_stock_with .nil pass0 (pa_cons (pv 0) (pa_cons (pv 5) (pa_cons (pv 8) (pa_cons (pv 9) pa_nil))))))
  (pss_one (ps_if (pt_cmpR op_notN (pv 10) pe_non (nomark _)) (pss_one (ps_ret (pe_tup (pa_cons (pv 10) (pa_cons (pv 8) (pa_cons (pv 9) pa_nil)))))) pss_nil))) pss_nil)))
  (pss_one (ps_ret pe_non))))))))))
/-- going_back -/
def t_going_back (c : Cn) {mg : Str → Option Value} (T : Tx c.K mg) (W_check_size W_check_few W_Market_there W_walk_over : Wp) : TS :=
  (tSeq (tDrop (tCall (spD c W_check_size) [] E0 (tCons (tVar 0) (tCons (tVar 1) tNil))))
  (tSeq (tDrop (tCall (spD c W_check_few) [] E0 (tCons (tVar 0) tNil)))
  (tSeq (tFor (iTup c.K (tMeth (T.cC "Join") "there" (spD c W_Market_there) [] E0 (tVar 0) tNil)) (gName 2) (tSeq (tAsg (tCall (spD c W_walk_over) [] E0 (tCons (tVar 0) (tCons (tVar 1) (tCons (tTup (tCons (tC (.int 0)) (tCons (tFld c.K (tVar 0) "size") tNil))) (tCons (tVar 2) (tCons (tUn (rU fun i => .int (-i)) (tC (.int 1))) tNil)))))) (gName 3))
  (tIfS (tTest (tOp rNotN0 (tVar 3) (tC .non))) (tRet (tVar 3)) tNext)))
  (tRet (tC .non)))))
theorem mk_going_back {c : Cn} {mg : Str → Option Value} {base : Heap} (T : Tx c.K mg) {W W_check_size W_check_few W_Market_there W_walk_over : Wp} (G_check_size : FnOk c.P c.w c.K mg base CX0 6 (T.f "check_size") (T.fd "check_size") ["market", "number"] (spD c W_check_size)) (G_check_few : FnOk c.P c.w c.K mg base CX0 3 (T.f "check_few") (T.fd "check_few") ["market"] (spD c W_check_few)) (G_Market_there : FnOk c.P c.w c.K mg base CX0 2 (T.f "Market.there") (T.fd "Market.there") ["self"] (spD c W_Market_there)) (G_walk_over : FnOk c.P c.w c.K mg base CX0 9 (T.f "walk_over") (T.fd "walk_over") ["market", "demand", "run", "part", "sign"] (spD c W_walk_over))
    (len : ∀ A S R, W A S R → A.length = 2)
    (body : ∀ A S R, W A S R → RS c (t_going_back c T W_check_size W_check_few W_Market_there W_walk_over) (A ++ List.replicate 2 .no) S (endP S R)) :
    FnOk c.P c.w c.K mg base CX0 10 (T.f "going_back") (T.fd "going_back") ["market", "number"] (spD c W) := by
  refine T.F_going_back.ok sc_going_back (sp_len len) (fun cdv A outer s H vs Q E hr h => ⟨t_going_back c T W_check_size W_check_few W_Market_there W_walk_over, PSs.nox ?_, sp_body len body rfl h⟩)
  have hu := hu_of hr
  exact (pss_cons (ps_expr (pe_call G_check_size (hr.mono (by decide)) rfl T.g_check_size T.F_check_size.kp T.b_check_size .nil pass0 (pa_cons (pv 0) (pa_cons (pv 1) pa_nil))))
  (pss_cons (ps_expr (pe_call G_check_few (hr.mono (by decide)) rfl T.g_check_few T.F_check_few.kp T.b_check_few .nil pass0 (pa_cons (pv 0) pa_nil)))
  (pss_cons (ps_for PassesOwn.never rfl (pi_tup (pe_meth0 (pv 0) T.cl_Join T.m_Join_there G_Market_there (hr.mono (by decide)) T.b_Market_there .nil pass0)) (pg_name (i := 2) sc_going_back.nd rfl (Or.inl rfl)) (pss_cons (ps_set (i := 3) sc_going_back.nd rfl (Or.inl rfl) (pe_call G_walk_over (hr.mono (by decide)) rfl T.g_walk_over T.F_walk_over.kp T.b_walk_over .nil pass0 (pa_cons (pv 0) (pa_cons (pv 1) (pa_cons (pe_tup (pa_cons pe_int (pa_cons (pe_fld (pv 0) rfl) pa_nil))) (pa_cons (pv 2) (pa_cons (pe_un un_neg pe_int) pa_nil)))))))
  (pss_one (ps_if (pt_cmpR op_notN (pv 3) pe_non (nomark _)) (pss_one (ps_ret (pv 3))) pss_nil))))
  (pss_one (ps_ret pe_non)))))
/-- grows_at -/
def t_grows_at (c : Cn) (W_going_back : Wp) : TS :=
  (tRet (tOp rIsN0 (tCall (spD c W_going_back) [] E0 (tCons (tVar 0) (tCons (tVar 1) tNil))) (tC .non)))
theorem mk_grows_at {c : Cn} {mg : Str → Option Value} {base : Heap} (T : Tx c.K mg) {W W_going_back : Wp} (G_going_back : FnOk c.P c.w c.K mg base CX0 10 (T.f "going_back") (T.fd "going_back") ["market", "number"] (spD c W_going_back))
    (len : ∀ A S R, W A S R → A.length = 2)
    (body : ∀ A S R, W A S R → RS c (t_grows_at c W_going_back) (A ++ List.replicate 0 .no) S (endP S R)) :
    FnOk c.P c.w c.K mg base CX0 11 (T.f "grows_at") (T.fd "grows_at") ["market", "number"] (spD c W) := by
  refine T.F_grows_at.ok sc_grows_at (sp_len len) (fun cdv A outer s H vs Q E hr h => ⟨t_grows_at c W_going_back, PSs.nox ?_, sp_body len body rfl h⟩)
  have hu := hu_of hr
  exact (pss_one (ps_ret (pe_cmpR op_isN (pe_call G_going_back (hr.mono (by decide)) rfl T.g_going_back T.F_going_back.kp T.b_going_back .nil pass0 (pa_cons (pv 0) (pa_cons (pv 1) pa_nil))) pe_non (nomark _))))
/-- grows -/
def t_grows (c : Cn) (W_check_join W_check_few W_strength W_grows_at : Wp) : TS :=
  (tSeq (tDrop (tCall (spD c W_check_join) [] E0 (tCons (tVar 0) tNil)))
  (tSeq (tDrop (tCall (spD c W_check_few) [] E0 (tCons (tVar 0) tNil)))
  (tSeq (tIfS (tTest (tOp rLe (tCall (spD c W_strength) [] E0 (tCons (tVar 0) tNil)) (tC (.int 1)))) (tRet (tC (.bl true))) tNext)
  (tRet (tCall (spD c W_grows_at) [] E0 (tCons (tVar 0) (tCons (tC (.int 1)) tNil)))))))
theorem mk_grows {c : Cn} {mg : Str → Option Value} {base : Heap} (T : Tx c.K mg) {W W_check_join W_check_few W_strength W_grows_at : Wp} (G_check_join : FnOk c.P c.w c.K mg base CX0 1 (T.f "check_join") (T.fd "check_join") ["market"] (spD c W_check_join)) (G_check_few : FnOk c.P c.w c.K mg base CX0 3 (T.f "check_few") (T.fd "check_few") ["market"] (spD c W_check_few)) (G_strength : FnOk c.P c.w c.K mg base CX0 5 (T.f "strength") (T.fd "strength") ["market"] (spD c W_strength)) (G_grows_at : FnOk c.P c.w c.K mg base CX0 11 (T.f "grows_at") (T.fd "grows_at") ["market", "number"] (spD c W_grows_at))
    (len : ∀ A S R, W A S R → A.length = 1)
    (body : ∀ A S R, W A S R → RS c (t_grows c W_check_join W_check_few W_strength W_grows_at) (A ++ List.replicate 0 .no) S (endP S R)) :
    FnOk c.P c.w c.K mg base CX0 12 (T.f "grows") (T.fd "grows") ["market"] (spD c W) := by
  refine T.F_grows.ok sc_grows (sp_len len) (fun cdv A outer s H vs Q E hr h => ⟨t_grows c W_check_join W_check_few W_strength W_grows_at, PSs.nox ?_, sp_body len body rfl h⟩)
  have hu := hu_of hr
  exact (pss_cons (ps_expr (pe_call G_check_join (hr.mono (by decide)) rfl T.g_check_join T.F_check_join.kp T.b_check_join .nil pass0 (pa_cons (pv 0) pa_nil)))
  (pss_cons (ps_expr (pe_call G_check_few (hr.mono (by decide)) rfl T.g_check_few T.F_check_few.kp T.b_check_few .nil pass0 (pa_cons (pv 0) pa_nil)))
  (pss_cons (ps_if (pt_cmpR op_le (pe_call G_strength (hr.mono (by decide)) rfl T.g_strength T.F_strength.kp T.b_strength .nil pass0 (pa_cons (pv 0) pa_nil)) pe_int (nomark _)) (pss_one (ps_ret pe_bl)) pss_nil)
  (pss_one (ps_ret (pe_call G_grows_at (hr.mono (by decide)) rfl T.g_grows_at T.F_grows_at.kp T.b_grows_at .nil pass0 (pa_cons (pv 0) (pa_cons pe_int pa_nil))))))))
/-- _more -/
def t_u_more (c : Cn) {mg : Str → Option Value} (T : Tx c.K mg) (W_cover : Wp) : TS :=
  (tSeq (tAsg (tC (.int 0)) (gName 4))
  (tSeq (tIfS (tTest (tOp rGt (tCB (rLenS c.K) (tCons (tVar 3) tNil)) (tC (.int 0)))) (tAsg (tOp qAdd (tTIx c.K (tVar 2) (tCons (tOp (rIx c.K) (tVar 3) (tUn (rU fun i => .int (-i)) (tC (.int 1)))) tNil)) (tC (.int 1))) (gName 4)) tNext)
  (tSeq (tAsg (tSl (rSlA c.K) (tVar 2) (tPart (tVar 4)) tNoPart) (gName 5))
  (tSeq (tAsg (tCall (spD c W_cover) [] E0 (tCons (tVar 0) (tCons (tVar 3) tNil))) (gName 6))
  (tSeq (tAsg (tCall (spD c W_cover) [] E0 (tCons (tVar 0) (tCons (tVar 5) tNil))) (gName 7))
  (tSeq (tAsg (tC (.bl true)) (gName 8))
  (tSeq (tFor (iEnumA c.K (tCons (tVar 1) tNil)) (gTup c.K 2 (gCons (gName 9) (gCons (gName 10) gNil))) (tSeq (tIfS (tTest (tOp rLt (tOp qAdd (tOp (rIx c.K) (tVar 6) (tVar 9)) (tOp (rIx c.K) (tVar 7) (tVar 9))) (tVar 10))) (tRet (tTup (tCons (tC (.bl false)) (tCons (tLst tNil) tNil)))) tNext)
  (tSeq (tIfS (tAnd (tTest (tOp rEq (tCon c.K (tVar 0) "KIND") (tC (.str "join")))) (tTest (tOp rGt (tOp (rIx c.K) (tVar 6) (tVar 9)) (tVar 10)))) (tRet (tTup (tCons (tC (.bl false)) (tCons (tLst tNil) tNil)))) tNext)
  (tIfS (tTest (tOp rLt (tOp (rIx c.K) (tVar 6) (tVar 9)) (tVar 10))) (tAsg (tC (.bl false)) (gName 8)) tNext))))
  (tRet (tTup (tCons (tVar 8) (tCons (tLc (RT.iRevA c.K (tCB (rListS c.K) (tCons (tVar 5) tNil))) (gName 11) tYes (tTup (StX.tStar c.K (tVar 3) (tCons (tVar 11) tNil))) [11]) tNil)))))))))))
theorem mk_u_more {c : Cn} {mg : Str → Option Value} {base : Heap} (T : Tx c.K mg) {W W_cover : Wp} (G_cover : FnOk c.P c.w c.K mg base CX0 4 (T.f "cover") (T.fd "cover") ["market", "parts"] (spD c W_cover))
    (len : ∀ A S R, W A S R → A.length = 4)
    (body : ∀ A S R, W A S R → RS c (t_u_more c T W_cover) (A ++ List.replicate 8 .no) S (endP S R)) :
    FnOk c.P c.w c.K mg base CX0 5 (T.f "_more") (T.fd "_more") ["market", "row", "parts", "chosen"] (spD c W) := by
  refine T.F_u_more.ok sc_u_more (sp_len len) (fun cdv A outer s H vs Q E hr h => ⟨t_u_more c T W_cover, PSs.nox ?_, sp_body len body rfl h⟩)
  have hu := hu_of hr
  exact (pss_cons (ps_set (i := 4) sc_u_more.nd rfl (Or.inl rfl) pe_int)
  (pss_cons (ps_if (pt_cmpR op_gt (pe_callB call_len_seq rfl T.n_len (by decide +kernel) (pa_cons (pv 3) pa_nil)) pe_int (nomark _)) (pss_one (ps_set (i := 4) sc_u_more.nd rfl (Or.inl rfl) (pe_op op_add (pe_tindex (pv 2) (pa_cons (pe_ix ix_seq (pv 3) (pe_un un_neg pe_int) (fun _ _ => rfl)) pa_nil)) pe_int))) pss_nil)
  (pss_cons (ps_set (i := 5) sc_u_more.nd rfl (Or.inl rfl) (pe_slice sl_tupA (pv 2) (po_some (pv 4)) po_none))
  (pss_cons (ps_set (i := 6) sc_u_more.nd rfl (Or.inl rfl) (pe_call G_cover (hr.mono (by decide)) rfl T.g_cover T.F_cover.kp T.b_cover .nil pass0 (pa_cons (pv 0) (pa_cons (pv 3) pa_nil))))
  (pss_cons (ps_set (i := 7) sc_u_more.nd rfl (Or.inl rfl) (pe_call G_cover (hr.mono (by decide)) rfl T.g_cover T.F_cover.kp T.b_cover .nil pass0 (pa_cons (pv 0) (pa_cons (pv 5) pa_nil))))
  (pss_cons (ps_set (i := 8) sc_u_more.nd rfl (Or.inl rfl) pe_bl)
  (pss_cons (ps_for PassesOwn.never rfl (pi_enumA rfl T.n_enumerate (pa_cons (pv 1) pa_nil)) (pg_tup rfl (pgs_cons (pg_name (i := 9) sc_u_more.nd rfl (Or.inl rfl)) (pgs_cons (pg_name (i := 10) sc_u_more.nd rfl (Or.inl rfl)) pgs_nil))) (pss_cons (ps_if (pt_cmpR op_lt (pe_op op_add (pe_ix ix_seq (pv 6) (pv 9) (fun _ _ => rfl)) (pe_ix ix_seq (pv 7) (pv 9) (fun _ _ => rfl))) (pv 10) (nomark _)) (pss_one (ps_ret (pe_tup (pa_cons pe_bl (pa_cons (pe_lst pa_nil) pa_nil))))) pss_nil)
  (pss_cons (ps_if (PW.pt (pw_and (pt_cmpR op_eq (pe_con (pv 0) rfl) pe_str (nomark _)) (pw_and1 (pt_cmpR op_gt (pe_ix ix_seq (pv 6) (pv 9) (fun _ _ => rfl)) (pv 10) (nomark _))))) (pss_one (ps_ret (pe_tup (pa_cons pe_bl (pa_cons (pe_lst pa_nil) pa_nil))))) pss_nil)
  (pss_one (ps_if (pt_cmpR op_lt (pe_ix ix_seq (pv 6) (pv 9) (fun _ _ => rfl)) (pv 10) (nomark _)) (pss_one (ps_set (i := 8) sc_u_more.nd rfl (Or.inl rfl) pe_bl)) pss_nil)))))
  (pss_one (ps_ret (pe_tup (pa_cons (pv 8) (pa_cons (pe_lc (own := [("part", 11)]) (g := (gName 11)) (tt := tYes) rfl sc_u_more.nd (RT.pi_revA rfl T.n_reversed (pe_callTy call_list_of rfl T.n_list (by decide +kernel) (pa_cons (pv 5) pa_nil))) (blkOk_by (own := [("part", 11)]) (N := ["market", "row", "parts", "chosen", "start", "rest", "now", "later", "fits", "place", "number", "part"]) (sc := defScope s_u_more) (by decide +kernel)) (fun _ _ _ _ _ => (pg_name (i := 11) sc_u_more.nd rfl (Or.inl rfl))) (fun _ _ _ _ _ => pts_nil) (fun _ _ _ _ _ => (pe_tup (StX.pa_star (pv 3) (pa_cons (pv 11) pa_nil))))) pa_nil))))))))))))
/-- stocks_of -/
def t_stocks_of (c : Cn) {mg : Str → Option Value} (T : Tx c.K mg) (W_demand_of W_Market_there W_u_more : Wp) : TS :=
  (tSeq (tAsg (tCall (spD c W_demand_of) [] E0 (tCons (tVar 0) (tCons (tVar 1) tNil))) (gName 2))
  (tSeq (tAsg (tMeth (T.cC "Join") "there" (spD c W_Market_there) [] E0 (tVar 0) tNil) (gName 3))
  (tSeq (tIfS (tTest (tOp rGt (tCB (rLenS c.K) (tCons (tVar 3) tNil)) (tC (.int 12)))) tNever tNext)
  (tSeq (tAsg (tLst tNil) (gName 4))
  (tSeq (tAsg (tLst (tCons (tTup tNil) tNil)) (gName 5))
  (tSeq (tWhile (tTest (tOp rGt (tCB (rLenS c.K) (tCons (tVar 5) tNil)) (tC (.int 0)))) (tSeq (tAsg (tBM0 c.K "list" rPop (tVar 5)) (gName 6))
  (tSeq (tAsg (tCall (spD c W_u_more) [] E0 (tCons (tVar 0) (tCons (tVar 2) (tCons (tVar 3) (tCons (tVar 6) tNil))))) (gTup c.K 2 (gCons (gName 7) (gCons (gName 8) gNil))))
  (tSeq (tIfS (tB (tVar 7)) (tDrop (tBM c.K "list" rAppend (tVar 4) (tCons (tVar 6) tNil))) tNext)
  (tDrop (tBM c.K "list" rExtend (tVar 5) (tCons (tVar 8) tNil)))))))
  (tRet (tVar 4))))))))
theorem mk_stocks_of {c : Cn} {mg : Str → Option Value} {base : Heap} (T : Tx c.K mg) {W W_demand_of W_Market_there W_u_more : Wp} (G_demand_of : FnOk c.P c.w c.K mg base CX0 2 (T.f "demand_of") (T.fd "demand_of") ["market", "demand"] (spD c W_demand_of)) (G_Market_there : FnOk c.P c.w c.K mg base CX0 2 (T.f "Market.there") (T.fd "Market.there") ["self"] (spD c W_Market_there)) (G_u_more : FnOk c.P c.w c.K mg base CX0 5 (T.f "_more") (T.fd "_more") ["market", "row", "parts", "chosen"] (spD c W_u_more))
    (len : ∀ A S R, W A S R → A.length = 2)
    (body : ∀ A S R, W A S R → RS c (t_stocks_of c T W_demand_of W_Market_there W_u_more) (A ++ List.replicate 7 .no) S (endP S R)) :
    FnOk c.P c.w c.K mg base CX0 6 (T.f "stocks_of") (T.fd "stocks_of") ["market", "demand"] (spD c W) := by
  refine T.F_stocks_of.ok sc_stocks_of (sp_len len) (fun cdv A outer s H vs Q E hr h => ⟨t_stocks_of c T W_demand_of W_Market_there W_u_more, PSs.nox ?_, sp_body len body rfl h⟩)
  have hu := hu_of hr
  exact (pss_cons (ps_set (i := 2) sc_stocks_of.nd rfl (Or.inl rfl) (pe_call G_demand_of (hr.mono (by decide)) rfl T.g_demand_of T.F_demand_of.kp T.b_demand_of .nil pass0 (pa_cons (pv 0) (pa_cons (pv 1) pa_nil))))
  (pss_cons (ps_set (i := 3) sc_stocks_of.nd rfl (Or.inl rfl) (pe_meth0 (pv 0) T.cl_Join T.m_Join_there G_Market_there (hr.mono (by decide)) T.b_Market_there .nil pass0))
  (pss_cons (ps_if (pt_cmpR op_gt (pe_callB call_len_seq rfl T.n_len (by decide +kernel) (pa_cons (pv 3) pa_nil)) pe_int (nomark _)) (pss_one ps_never) pss_nil)
  (pss_cons (ps_set (i := 4) sc_stocks_of.nd rfl (Or.inl rfl) (pe_lst pa_nil))
  (pss_cons (ps_set (i := 5) sc_stocks_of.nd rfl (Or.inl rfl) (pe_lst (pa_cons (pe_tup pa_nil) pa_nil)))
  (pss_cons (ps_while PassesOwn.never (pt_cmpR op_gt (pe_callB call_len_seq rfl T.n_len (by decide +kernel) (pa_cons (pv 5) pa_nil)) pe_int (nomark _)) (pss_cons (ps_set (i := 6) sc_stocks_of.nd rfl (Or.inl rfl) (pe_bm0 PySem.F.plainAttrs_list PySem.F.slot_list_pop PySem.F.type_list_pop mt_pop (pv 5)))
  (pss_cons (ps_asg (pe_call G_u_more (hr.mono (by decide)) rfl T.g_u_more T.F_u_more.kp T.b_u_more .nil pass0 (pa_cons (pv 0) (pa_cons (pv 2) (pa_cons (pv 3) (pa_cons (pv 6) pa_nil))))) (pg_tup rfl (pgs_cons (pg_name (i := 7) sc_stocks_of.nd rfl (Or.inl rfl)) (pgs_cons (pg_name (i := 8) sc_stocks_of.nd rfl (Or.inl rfl)) pgs_nil))))
  (pss_cons (ps_if (pt_val (pv 7)) (pss_one (ps_expr (pe_bm PySem.F.plainAttrs_list PySem.F.slot_list_append PySem.F.type_list_append mt_append (pv 4) (pa_cons (pv 6) pa_nil)))) pss_nil)
  (pss_one (ps_expr (pe_bm PySem.F.plainAttrs_list PySem.F.slot_list_extend PySem.F.type_list_extend mt_extend (pv 5) (pa_cons (pv 8) pa_nil))))))))
  (pss_one (ps_ret (pv 4)))))))))
/-- common -/
def t_common (c : Cn) : TS :=
  (tSeq (tAsg (tDc (iTup c.K (tVar 1)) (gName 3) tYes (tVar 3) (tC (.bl true)) [3]) (gName 2))
  (tRet (tCB (rTupS c.K) (tCons (tLc (iTup c.K (tVar 0)) (gName 3) (tB (tDIn (tVar 3) (tVar 2))) (tVar 3) [3]) tNil))))
theorem mk_common {c : Cn} {mg : Str → Option Value} {base : Heap} (T : Tx c.K mg) {W : Wp}
    (len : ∀ A S R, W A S R → A.length = 2)
    (body : ∀ A S R, W A S R → RS c (t_common c) (A ++ List.replicate 2 .no) S (endP S R)) :
    FnOk c.P c.w c.K mg base CX0 1 (T.f "common") (T.fd "common") ["one", "other"] (spD c W) := by
  refine T.F_common.ok sc_common (sp_len len) (fun cdv A outer s H vs Q E hr h => ⟨t_common c, PSs.nox ?_, sp_body len body rfl h⟩)
  have hu := hu_of hr
  exact (pss_cons (ps_set (i := 2) sc_common.nd rfl (Or.inr rfl) (pe_dc (own := [("part", 3)]) (g := (gName 3)) (tt := tYes) rfl sc_common.nd (pi_tup (pv 1)) (blkOk_by (own := [("part", 3)]) (N := ["one", "other", "known", "part"]) (sc := defScope s_common) (by decide +kernel)) (fun _ _ _ _ _ => (pg_name (i := 3) sc_common.nd rfl (Or.inl rfl))) (fun _ _ _ _ _ => pts_nil) (fun _ _ _ _ _ => (pv 3)) (fun _ _ _ _ _ => pe_bl)))
  (pss_one (ps_ret (pe_callTy call_tuple_of rfl T.n_tuple (by decide +kernel) (pa_cons (pe_lc (own := [("part", 3)]) (g := (gName 3)) (tt := (tB (tDIn (tVar 3) (tVar 2)))) rfl sc_common.nd (pi_tup (pv 0)) (blkOk_by (own := [("part", 3)]) (N := ["one", "other", "known", "part"]) (sc := defScope s_common) (by decide +kernel)) (fun _ _ _ _ _ => (pg_name (i := 3) sc_common.nd rfl (Or.inl rfl))) (fun _ _ _ _ _ => (pts_one (pt_cmp (pc_din hu (pv 3) (pv 2)) rfl))) (fun _ _ _ _ _ => (pv 3))) pa_nil)))))
/-- _misfit -/
def t_u_misfit (c : Cn) (W_u_cover : Wp) : TS :=
  (tSeq (tAsg (tOp rEq (tCon c.K (tVar 0) "KIND") (tC (.str "join"))) (gName 3))
  (tSeq (tFor (iEnumA c.K (tCons (tCall (spD c W_u_cover) [] E0 (tCons (tVar 0) (tCons (tVar 2) tNil))) tNil)) (gTup c.K 2 (gCons (gName 4) (gCons (gName 5) gNil))) (tIfS (tOr (tTest (tOp rLt (tVar 5) (tOp (rIx c.K) (tVar 1) (tVar 4)))) (tAnd (tB (tVar 3)) (tTest (tOp rGt (tVar 5) (tOp (rIx c.K) (tVar 1) (tVar 4)))))) (tRet (tVar 4)) tNext))
  (tRet (tC .non))))
theorem mk_u_misfit {c : Cn} {mg : Str → Option Value} {base : Heap} (T : Tx c.K mg) {W W_u_cover : Wp} (G_u_cover : FnOk c.P c.w c.K mg base CX0 1 (T.f "_cover") (T.fd "_cover") ["market", "parts"] (spD c W_u_cover))
    (len : ∀ A S R, W A S R → A.length = 3)
    (body : ∀ A S R, W A S R → RS c (t_u_misfit c W_u_cover) (A ++ List.replicate 3 .no) S (endP S R)) :
    FnOk c.P c.w c.K mg base CX0 2 (T.f "_misfit") (T.fd "_misfit") ["market", "row", "parts"] (spD c W) := by
  refine T.F_u_misfit.ok sc_u_misfit (sp_len len) (fun cdv A outer s H vs Q E hr h => ⟨t_u_misfit c W_u_cover, PSs.nox ?_, sp_body len body rfl h⟩)
  have hu := hu_of hr
  exact (pss_cons (ps_set (i := 3) sc_u_misfit.nd rfl (Or.inl rfl) (pe_cmpR op_eq (pe_con (pv 0) rfl) pe_str (nomark _)))
  (pss_cons (ps_for PassesOwn.never rfl (pi_enumA rfl T.n_enumerate (pa_cons (pe_call G_u_cover (hr.mono (by decide)) rfl T.g_u_cover T.F_u_cover.kp T.b_u_cover .nil pass0 (pa_cons (pv 0) (pa_cons (pv 2) pa_nil))) pa_nil)) (pg_tup rfl (pgs_cons (pg_name (i := 4) sc_u_misfit.nd rfl (Or.inl rfl)) (pgs_cons (pg_name (i := 5) sc_u_misfit.nd rfl (Or.inl rfl)) pgs_nil))) (pss_one (ps_if (PW.pt (pw_or (pt_cmpR op_lt (pv 5) (pe_ix ix_seq (pv 1) (pv 4) (fun _ _ => rfl)) (nomark _)) (pw_or1 (PW.pt (pw_and (pt_val (pv 3)) (pw_and1 (pt_cmpR op_gt (pv 5) (pe_ix ix_seq (pv 1) (pv 4) (fun _ _ => rfl)) (nomark _)))))))) (pss_one (ps_ret (pv 4))) pss_nil)))
  (pss_one (ps_ret pe_non))))
/-- check_stock -/
def t_check_stock (c : Cn) (W_demand_of W_set_of W_common W_u_misfit : Wp) : TS :=
  (tSeq (tAsg (tCall (spD c W_demand_of) [] E0 (tCons (tVar 0) (tCons (tVar 1) tNil))) (gName 3))
  (tSeq (tAsg (tCall (spD c W_set_of) [] E0 (tCons (tCB (rLenS c.K) (tCons (tFld c.K (tVar 0) "runs") tNil)) (tCons (tVar 2) tNil))) (gName 4))
  (tSeq (tIfS (tTest (tOp rGt (tCB (rLenS c.K) (tCons (tCall (spD c W_common) [] E0 (tCons (tVar 4) (tCons (tFld c.K (tVar 0) "gone") tNil))) tNil)) (tC (.int 0)))) tNever tNext)
  (tSeq (tAsg (tCall (spD c W_u_misfit) [] E0 (tCons (tVar 0) (tCons (tVar 3) (tCons (tVar 4) tNil)))) (gName 5))
  (tSeq (tIfS (tTest (tOp rNotN0 (tVar 5) (tC .non))) tNever tNext)
  (tRet (tVar 4)))))))
theorem mk_check_stock {c : Cn} {mg : Str → Option Value} {base : Heap} (T : Tx c.K mg) {W W_demand_of W_set_of W_common W_u_misfit : Wp} (G_demand_of : FnOk c.P c.w c.K mg base CX0 2 (T.f "demand_of") (T.fd "demand_of") ["market", "demand"] (spD c W_demand_of)) (G_set_of : FnOk c.P c.w c.K mg base CX0 3 (T.f "set_of") (T.fd "set_of") ["many", "parts"] (spD c W_set_of)) (G_common : FnOk c.P c.w c.K mg base CX0 1 (T.f "common") (T.fd "common") ["one", "other"] (spD c W_common)) (G_u_misfit : FnOk c.P c.w c.K mg base CX0 2 (T.f "_misfit") (T.fd "_misfit") ["market", "row", "parts"] (spD c W_u_misfit))
    (len : ∀ A S R, W A S R → A.length = 3)
    (body : ∀ A S R, W A S R → RS c (t_check_stock c W_demand_of W_set_of W_common W_u_misfit) (A ++ List.replicate 3 .no) S (endP S R)) :
    FnOk c.P c.w c.K mg base CX0 4 (T.f "check_stock") (T.fd "check_stock") ["market", "demand", "parts"] (spD c W) := by
  refine T.F_check_stock.ok sc_check_stock (sp_len len) (fun cdv A outer s H vs Q E hr h => ⟨t_check_stock c W_demand_of W_set_of W_common W_u_misfit, PSs.nox ?_, sp_body len body rfl h⟩)
  have hu := hu_of hr
  exact (pss_cons (ps_set (i := 3) sc_check_stock.nd rfl (Or.inl rfl) (pe_call G_demand_of (hr.mono (by decide)) rfl T.g_demand_of T.F_demand_of.kp T.b_demand_of .nil pass0 (pa_cons (pv 0) (pa_cons (pv 1) pa_nil))))
  (pss_cons (ps_set (i := 4) sc_check_stock.nd rfl (Or.inl rfl) (pe_call G_set_of (hr.mono (by decide)) rfl T.g_set_of T.F_set_of.kp T.b_set_of .nil pass0 (pa_cons (pe_callB call_len_seq rfl T.n_len (by decide +kernel) (pa_cons (pe_fld (pv 0) rfl) pa_nil)) (pa_cons (pv 2) pa_nil))))
  (pss_cons (ps_if (pt_cmpR op_gt (pe_callB call_len_seq rfl T.n_len (by decide +kernel) (pa_cons (pe_call G_common (hr.mono (by decide)) rfl T.g_common T.F_common.kp T.b_common .nil pass0 (pa_cons (pv 4) (pa_cons (pe_fld (pv 0) rfl) pa_nil))) pa_nil)) pe_int (nomark _)) (pss_one ps_never) pss_nil)
  (pss_cons (ps_set (i := 5) sc_check_stock.nd rfl (Or.inl rfl) (pe_call G_u_misfit (hr.mono (by decide)) rfl T.g_u_misfit T.F_u_misfit.kp T.b_u_misfit .nil pass0 (pa_cons (pv 0) (pa_cons (pv 3) (pa_cons (pv 4) pa_nil)))))
  (pss_cons (ps_if (pt_cmpR op_notN (pv 5) pe_non (nomark _)) (pss_one ps_never) pss_nil)
  (pss_one (ps_ret (pv 4))))))))
/-- _others -/
def t_u_others (c : Cn) (W_set_of W_both W_minus : Wp) : TS :=
  (tSeq (tAsg (tCall (spD c W_set_of) [] E0 (tCons (tCB (rLenS c.K) (tCons (tFld c.K (tVar 0) "runs") tNil)) (tCons (tVar 1) tNil))) (gName 2))
  (tRet (tCall (spD c W_both) [] E0 (tCons (tFld c.K (tVar 0) "gone") (tCons (tCall (spD c W_minus) [] E0 (tCons (tTupRg (tRg1 (tCB (rLenS c.K) (tCons (tFld c.K (tVar 0) "runs") tNil)))) (tCons (tVar 2) tNil))) tNil)))))
theorem mk_u_others {c : Cn} {mg : Str → Option Value} {base : Heap} (T : Tx c.K mg) {W W_set_of W_both W_minus : Wp} (G_set_of : FnOk c.P c.w c.K mg base CX0 3 (T.f "set_of") (T.fd "set_of") ["many", "parts"] (spD c W_set_of)) (G_both : FnOk c.P c.w c.K mg base CX0 1 (T.f "both") (T.fd "both") ["one", "other"] (spD c W_both)) (G_minus : FnOk c.P c.w c.K mg base CX0 1 (T.f "minus") (T.fd "minus") ["one", "other"] (spD c W_minus))
    (len : ∀ A S R, W A S R → A.length = 2)
    (body : ∀ A S R, W A S R → RS c (t_u_others c W_set_of W_both W_minus) (A ++ List.replicate 1 .no) S (endP S R)) :
    FnOk c.P c.w c.K mg base CX0 4 (T.f "_others") (T.fd "_others") ["market", "parts"] (spD c W) := by
  refine T.F_u_others.ok sc_u_others (sp_len len) (fun cdv A outer s H vs Q E hr h => ⟨t_u_others c W_set_of W_both W_minus, PSs.nox ?_, sp_body len body rfl h⟩)
  have hu := hu_of hr
  exact (pss_cons (ps_set (i := 2) sc_u_others.nd rfl (Or.inl rfl) (pe_call G_set_of (hr.mono (by decide)) rfl T.g_set_of T.F_set_of.kp T.b_set_of .nil pass0 (pa_cons (pe_callB call_len_seq rfl T.n_len (by decide +kernel) (pa_cons (pe_fld (pv 0) rfl) pa_nil)) (pa_cons (pv 1) pa_nil))))
  (pss_one (ps_ret (pe_call G_both (hr.mono (by decide)) rfl T.g_both T.F_both.kp T.b_both .nil pass0 (pa_cons (pe_fld (pv 0) rfl) (pa_cons (pe_call G_minus (hr.mono (by decide)) rfl T.g_minus T.F_minus.kp T.b_minus .nil pass0 (pa_cons (pe_tupRg rfl rfl T.n_tuple (prg_1 rfl T.n_range (pe_callB call_len_seq rfl T.n_len (by decide +kernel) (pa_cons (pe_fld (pv 0) rfl) pa_nil)))) (pa_cons (pv 2) pa_nil))) pa_nil))))))
/-- Join.keep -/
def t_Join_keep (c : Cn) {mg : Str → Option Value} (T : Tx c.K mg) (W_Join_init W_u_others : Wp) : TS :=
  (tRet (tMakeN (T.cC "Join") 2 (List.length (α := Str) ["gone"]) (spD c W_Join_init) (fun vs zs => vs ++ zs) E0 (tCons (tFld c.K (tVar 0) "size") (tCons (tFld c.K (tVar 0) "runs") tNil)) (tCons (tCall (spD c W_u_others) [] E0 (tCons (tVar 0) (tCons (tVar 1) tNil))) tNil)))
theorem mk_Join_keep {c : Cn} {mg : Str → Option Value} {base : Heap} (T : Tx c.K mg) {W W_Join_init W_u_others : Wp} (G_Join_init : FnOk c.P c.w c.K mg base CX0 5 (T.f "Join.__init__") (T.fd "Join.__init__") ["self", "size", "runs", "gone"] (spD c W_Join_init)) (G_u_others : FnOk c.P c.w c.K mg base CX0 4 (T.f "_others") (T.fd "_others") ["market", "parts"] (spD c W_u_others))
    (len : ∀ A S R, W A S R → A.length = 2)
    (body : ∀ A S R, W A S R → RS c (t_Join_keep c T W_Join_init W_u_others) (A ++ List.replicate 0 .no) S (endP S R)) :
    FnOk c.P c.w c.K mg base CX0 7 (T.f "Join.keep") (T.fd "Join.keep") ["self", "parts"] (spD c W) := by
  refine T.F_Join_keep.ok sc_Join_keep (sp_len len) (fun cdv A outer s H vs Q E hr h => ⟨t_Join_keep c T W_Join_init W_u_others, PSs.nox ?_, sp_body len body rfl h⟩)
  have hu := hu_of hr
  exact (pss_one (ps_ret (pe_makeN T.mk_Join G_Join_init (hr.mono (by decide)) rfl T.g_Join T.kb_Join pass0 (pa_cons (pe_fld (pv 0) rfl) (pa_cons (pe_fld (pv 0) rfl) pa_nil)) (pk_cons (pe_call G_u_others (hr.mono (by decide)) rfl T.g_u_others T.F_u_others.kp T.b_u_others .nil pass0 (pa_cons (pv 0) (pa_cons (pv 1) pa_nil))) pk_nil))))
/-- stock_left -/
def t_stock_left (c : Cn) {mg : Str → Option Value} (T : Tx c.K mg) (W_check_join W_check_number W_set_of W_check_stock W_some_stock W_Join_keep W_minus : Wp) : TS :=
  (tSeq (tDrop (tCall (spD c W_check_join) [] E0 (tCons (tVar 0) tNil)))
  (tSeq (tDrop (tCall (spD c W_check_number) [] E0 (tCons (tVar 1) (tCons (tC (.str "number")) (tCons (tC (.int 0)) (tCons (tC .non) tNil))))))
  (tSeq (tAsg (tCall (spD c W_set_of) [] E0 (tCons (tCB (rLenS c.K) (tCons (tFld c.K (tVar 0) "runs") tNil)) (tCons (tVar 2) tNil))) (gName 5))
  (tSeq (tDrop (tCall (spD c W_check_number) [] E0 (tCons (tVar 3) (tCons (tC (.str "more")) (tCons (tC (.int 0)) (tCons (tC .non) tNil))))))
  (tSeq (tAsg (tCall (spD c W_set_of) [] E0 (tCons (tCB (rLenS c.K) (tCons (tFld c.K (tVar 0) "runs") tNil)) (tCons (tVar 4) tNil))) (gName 6))
  (tSeq (tDrop (tCall (spD c W_check_stock) [] E0 (tCons (tVar 0) (tCons (tVar 1) (tCons (tVar 5) tNil)))))
  (tSeq (tDrop (tCall (spD c W_check_stock) [] E0 (tCons (tVar 0) (tCons (tOp qAdd (tVar 1) (tVar 3)) (tCons (tVar 6) tNil)))))
  (tRet (tCall (spD c W_some_stock) [] E0 (tCons (tMeth (T.cC "Join") "keep" (spD c W_Join_keep) [] E0 (tVar 0) (tCons (tCall (spD c W_minus) [] E0 (tCons (tVar 6) (tCons (tVar 5) tNil))) tNil)) (tCons (tVar 3) tNil)))))))))))
theorem mk_stock_left {c : Cn} {mg : Str → Option Value} {base : Heap} (T : Tx c.K mg) {W W_check_join W_check_number W_set_of W_check_stock W_some_stock W_Join_keep W_minus : Wp} (G_check_join : FnOk c.P c.w c.K mg base CX0 1 (T.f "check_join") (T.fd "check_join") ["market"] (spD c W_check_join)) (G_check_number : FnOk c.P c.w c.K mg base CX0 2 (T.f "check_number") (T.fd "check_number") ["value", "name", "least", "most"] (spD c W_check_number)) (G_set_of : FnOk c.P c.w c.K mg base CX0 3 (T.f "set_of") (T.fd "set_of") ["many", "parts"] (spD c W_set_of)) (G_check_stock : FnOk c.P c.w c.K mg base CX0 4 (T.f "check_stock") (T.fd "check_stock") ["market", "demand", "parts"] (spD c W_check_stock)) (G_some_stock : FnOk c.P c.w c.K mg base CX0 6 (T.f "some_stock") (T.fd "some_stock") ["market", "demand"] (spD c W_some_stock)) (G_Join_keep : FnOk c.P c.w c.K mg base CX0 7 (T.f "Join.keep") (T.fd "Join.keep") ["self", "parts"] (spD c W_Join_keep)) (G_minus : FnOk c.P c.w c.K mg base CX0 1 (T.f "minus") (T.fd "minus") ["one", "other"] (spD c W_minus))
    (len : ∀ A S R, W A S R → A.length = 5)
    (body : ∀ A S R, W A S R → RS c (t_stock_left c T W_check_join W_check_number W_set_of W_check_stock W_some_stock W_Join_keep W_minus) (A ++ List.replicate 2 .no) S (endP S R)) :
    FnOk c.P c.w c.K mg base CX0 8 (T.f "stock_left") (T.fd "stock_left") ["market", "number", "stock", "more", "other"] (spD c W) := by
  refine T.F_stock_left.ok sc_stock_left (sp_len len) (fun cdv A outer s H vs Q E hr h => ⟨t_stock_left c T W_check_join W_check_number W_set_of W_check_stock W_some_stock W_Join_keep W_minus, PSs.nox ?_, sp_body len body rfl h⟩)
  have hu := hu_of hr
  exact (pss_cons (ps_expr (pe_call G_check_join (hr.mono (by decide)) rfl T.g_check_join T.F_check_join.kp T.b_check_join .nil pass0 (pa_cons (pv 0) pa_nil)))
  (pss_cons (ps_expr (pe_call G_check_number (hr.mono (by decide)) rfl T.g_check_number T.F_check_number.kp T.b_check_number .nil pass0 (pa_cons (pv 1) (pa_cons pe_str (pa_cons pe_int (pa_cons pe_non pa_nil))))))
  (pss_cons (ps_set (i := 5) sc_stock_left.nd rfl (Or.inl rfl) (pe_call G_set_of (hr.mono (by decide)) rfl T.g_set_of T.F_set_of.kp T.b_set_of .nil pass0 (pa_cons (pe_callB call_len_seq rfl T.n_len (by decide +kernel) (pa_cons (pe_fld (pv 0) rfl) pa_nil)) (pa_cons (pv 2) pa_nil))))
  (pss_cons (ps_expr (pe_call G_check_number (hr.mono (by decide)) rfl T.g_check_number T.F_check_number.kp T.b_check_number .nil pass0 (pa_cons (pv 3) (pa_cons pe_str (pa_cons pe_int (pa_cons pe_non pa_nil))))))
  (pss_cons (ps_set (i := 6) sc_stock_left.nd rfl (Or.inl rfl) (pe_call G_set_of (hr.mono (by decide)) rfl T.g_set_of T.F_set_of.kp T.b_set_of .nil pass0 (pa_cons (pe_callB call_len_seq rfl T.n_len (by decide +kernel) (pa_cons (pe_fld (pv 0) rfl) pa_nil)) (pa_cons (pv 4) pa_nil))))
  (pss_cons (ps_expr (pe_call G_check_stock (hr.mono (by decide)) rfl T.g_check_stock T.F_check_stock.kp T.b_check_stock .nil pass0 (pa_cons (pv 0) (pa_cons (pv 1) (pa_cons (pv 5) pa_nil)))))
  (pss_cons (ps_expr (pe_call G_check_stock (hr.mono (by decide)) rfl T.g_check_stock T.F_check_stock.kp T.b_check_stock .nil pass0 (pa_cons (pv 0) (pa_cons (pe_op op_add (pv 1) (pv 3)) (pa_cons (pv 6) pa_nil)))))
  (pss_one (ps_ret (pe_call G_some_stock (hr.mono (by decide)) rfl T.g_some_stock T.F_some_stock.kp T.b_some_stock .nil pass0 (pa_cons (pe_meth (pv 0) T.cl_Join T.m_Join_keep G_Join_keep (hr.mono (by decide)) T.b_Join_keep .nil pass0 (pa_cons (pe_call G_minus (hr.mono (by decide)) rfl T.g_minus T.F_minus.kp T.b_minus .nil pass0 (pa_cons (pv 6) (pa_cons (pv 5) pa_nil))) pa_nil)) (pa_cons (pv 3) pa_nil))))))))))))
/-- _law_all_leave -/
def t_law_all_leave (c : Cn) (W_stocks_of W_stock_left : Wp) : TS :=
  (tSeq (tFor (iList c.K (tCall (spD c W_stocks_of) [] E0 (tCons (tVar 0) (tCons (tVar 1) tNil)))) (gName 3) (tFor (iList c.K (tCall (spD c W_stocks_of) [] E0 (tCons (tVar 0) (tCons (tOp qAdd (tVar 1) (tVar 2)) tNil)))) (gName 4) (tIfS (tTest (tOp rIsN0 (tCall (spD c W_stock_left) [] E0 (tCons (tVar 0) (tCons (tVar 1) (tCons (tVar 3) (tCons (tVar 2) (tCons (tVar 4) tNil)))))) (tC .non))) (tRet (tC (.bl false))) tNext)))
  (tRet (tC (.bl true))))
theorem mk_law_all_leave {c : Cn} {mg : Str → Option Value} {base : Heap} (T : Tx c.K mg) {W W_stocks_of W_stock_left : Wp} (G_stocks_of : FnOk c.P c.w c.K mg base CX0 6 (T.f "stocks_of") (T.fd "stocks_of") ["market", "demand"] (spD c W_stocks_of)) (G_stock_left : FnOk c.P c.w c.K mg base CX0 8 (T.f "stock_left") (T.fd "stock_left") ["market", "number", "stock", "more", "other"] (spD c W_stock_left))
    (len : ∀ A S R, W A S R → A.length = 3)
    (body : ∀ A S R, W A S R → RS c (t_law_all_leave c W_stocks_of W_stock_left) (A ++ List.replicate 2 .no) S (endP S R)) :
    FnOk c.P c.w c.K mg base CX0 9 (T.f "_law_all_leave") (T.fd "_law_all_leave") ["market", "first", "more"] (spD c W) := by
  refine T.F_law_all_leave.ok sc_law_all_leave (sp_len len) (fun cdv A outer s H vs Q E hr h => ⟨t_law_all_leave c W_stocks_of W_stock_left, PSs.nox ?_, sp_body len body rfl h⟩)
  have hu := hu_of hr
  exact (pss_cons (ps_for PassesOwn.never rfl (pi_list (pe_call G_stocks_of (hr.mono (by decide)) rfl T.g_stocks_of T.F_stocks_of.kp T.b_stocks_of .nil pass0 (pa_cons (pv 0) (pa_cons (pv 1) pa_nil)))) (pg_name (i := 3) sc_law_all_leave.nd rfl (Or.inl rfl)) (pss_one (ps_for PassesOwn.never rfl (pi_list (pe_call G_stocks_of (hr.mono (by decide)) rfl T.g_stocks_of T.F_stocks_of.kp T.b_stocks_of .nil pass0 (pa_cons (pv 0) (pa_cons (pe_op op_add (pv 1) (pv 2)) pa_nil)))) (pg_name (i := 4) sc_law_all_leave.nd rfl (Or.inl rfl)) (pss_one (ps_if (pt_cmpR op_isN (pe_call G_stock_left (hr.mono (by decide)) rfl T.g_stock_left T.F_stock_left.kp T.b_stock_left .nil pass0 (pa_cons (pv 0) (pa_cons (pv 1) (pa_cons (pv 3) (pa_cons (pv 2) (pa_cons (pv 4) pa_nil)))))) pe_non (nomark _)) (pss_one (ps_ret pe_bl)) pss_nil)))))
  (pss_one (ps_ret pe_bl)))
/-- _law_int -/
def t_law_int (c : Cn) : TS :=
  (tRet (tAndV (tCB (rIsi c.K) (tCons (tVar 0) (tCons (tC (.ty "int")) tNil))) (tNotV (tCB (rIsi c.K) (tCons (tVar 0) (tCons (tC (.ty "bool")) tNil))))))
theorem mk_law_int {c : Cn} {mg : Str → Option Value} {base : Heap} (T : Tx c.K mg) {W : Wp}
    (len : ∀ A S R, W A S R → A.length = 1)
    (body : ∀ A S R, W A S R → RS c (t_law_int c) (A ++ List.replicate 0 .no) S (endP S R)) :
    FnOk c.P c.w c.K mg base CX0 1 (T.f "_law_int") (T.fd "_law_int") ["value"] (spD c W) := by
  refine T.F_law_int.ok sc_law_int (sp_len len) (fun cdv A outer s H vs Q E hr h => ⟨t_law_int c, PSs.nox ?_, sp_body len body rfl h⟩)
  have hu := hu_of hr
  exact (pss_one (ps_ret (pe_and (pe_callB call_isi rfl T.n_isinstance (by decide +kernel) (pa_cons (pv 0) (pa_cons (pe_bltn rfl T.n_int (by decide +kernel) rfl) pa_nil))) (pe_one (pe_not (pe_callB call_isi rfl T.n_isinstance (by decide +kernel) (pa_cons (pv 0) (pa_cons (pe_bltn rfl T.n_bool (by decide +kernel) rfl) pa_nil))))))))
/-- _law_set -/
def t_law_set (c : Cn) (W_law_int : Wp) : TS :=
  (tSeq (tIfS (tNot (tB (tCB (rIsi c.K) (tCons (tVar 0) (tCons (tC (.ty "tuple")) tNil))))) (tRet (tC (.bl false))) tNext)
  (tSeq (tAsg (tUn (rU fun i => .int (-i)) (tC (.int 1))) (gName 2))
  (tSeq (tFor (iTup c.K (tVar 0)) (gName 3) (tSeq (tIfS (tOr (tNot (tB (tCall (spD c W_law_int) [] E0 (tCons (tVar 3) tNil)))) (tOr (tTest (tOp rLe (tVar 3) (tVar 2))) (tTest (tOp rGe (tVar 3) (tVar 1))))) (tRet (tC (.bl false))) tNext)
  (tAsg (tVar 3) (gName 2))))
  (tRet (tC (.bl true))))))
theorem mk_law_set {c : Cn} {mg : Str → Option Value} {base : Heap} (T : Tx c.K mg) {W W_law_int : Wp} (G_law_int : FnOk c.P c.w c.K mg base CX0 1 (T.f "_law_int") (T.fd "_law_int") ["value"] (spD c W_law_int))
    (len : ∀ A S R, W A S R → A.length = 2)
    (body : ∀ A S R, W A S R → RS c (t_law_set c W_law_int) (A ++ List.replicate 2 .no) S (endP S R)) :
    FnOk c.P c.w c.K mg base CX0 2 (T.f "_law_set") (T.fd "_law_set") ["value", "many"] (spD c W) := by
  refine T.F_law_set.ok sc_law_set (sp_len len) (fun cdv A outer s H vs Q E hr h => ⟨t_law_set c W_law_int, PSs.nox ?_, sp_body len body rfl h⟩)
  have hu := hu_of hr
  exact (pss_cons (ps_if (pt_not (pt_val (pe_callB call_isi rfl T.n_isinstance (by decide +kernel) (pa_cons (pv 0) (pa_cons (pe_bltn rfl T.n_tuple (by decide +kernel) rfl) pa_nil))))) (pss_one (ps_ret pe_bl)) pss_nil)
  (pss_cons (ps_set (i := 2) sc_law_set.nd rfl (Or.inl rfl) (pe_un un_neg pe_int))
  (pss_cons (ps_for PassesOwn.never rfl (pi_tup (pv 0)) (pg_name (i := 3) sc_law_set.nd rfl (Or.inl rfl)) (pss_cons (ps_if (PW.pt (pw_or (pt_not (pt_val (pe_call G_law_int (hr.mono (by decide)) rfl T.g_law_int T.F_law_int.kp T.b_law_int .nil pass0 (pa_cons (pv 3) pa_nil)))) (pw_or (pt_cmpR op_le (pv 3) (pv 2) (nomark _)) (pw_or1 (pt_cmpR op_ge (pv 3) (pv 1) (nomark _)))))) (pss_one (ps_ret pe_bl)) pss_nil)
  (pss_one (ps_set (i := 2) sc_law_set.nd rfl (Or.inl rfl) (pv 3)))))
  (pss_one (ps_ret pe_bl)))))
/-- _law_cover -/
def t_law_cover (c : Cn) : TS :=
  (tSeq (tAsg (tLc (iRng1 (tCons (tVar 0) tNil)) (gName 5) tYes (tC (.int 0)) [5]) (gName 3))
  (tSeq (tFor (iTup c.K (tVar 2)) (gName 4) (tFor (iRng2 (tCons (tOp (rIx c.K) (tOp (rIx c.K) (tVar 1) (tVar 4)) (tC (.int 0))) (tCons (tOp (rIx c.K) (tOp (rIx c.K) (tVar 1) (tVar 4)) (tC (.int 1))) tNil))) (gName 5) (tAugS (tVar 3) (tVar 5) (tC (.int 1)) (rIxL c.K) (ipI fun i j => i + j) rSetL)))
  (tRet (tVar 3))))
theorem mk_law_cover {c : Cn} {mg : Str → Option Value} {base : Heap} (T : Tx c.K mg) {W : Wp}
    (len : ∀ A S R, W A S R → A.length = 3)
    (body : ∀ A S R, W A S R → RS c (t_law_cover c) (A ++ List.replicate 3 .no) S (endP S R)) :
    FnOk c.P c.w c.K mg base CX0 1 (T.f "_law_cover") (T.fd "_law_cover") ["size", "runs", "parts"] (spD c W) := by
  refine T.F_law_cover.ok sc_law_cover (sp_len len) (fun cdv A outer s H vs Q E hr h => ⟨t_law_cover c, PSs.nox ?_, sp_body len body rfl h⟩)
  have hu := hu_of hr
  exact (pss_cons (ps_setLc (i := 3) (own := [("place", 5)]) (g := (gName 5)) (tt := tYes) rfl sc_law_cover.nd rfl rfl (sw_true rfl rfl rfl (by decide +kernel)) (pi_range1 rfl T.n_range (pa_cons (pv 0) pa_nil)) (blkOk_by (own := [("place", 5)]) (N := ["size", "runs", "parts", "covers", "part", "place"]) (sc := defScope s_law_cover) (by decide +kernel)) (fun _ _ _ _ _ => (pg_name (i := 5) sc_law_cover.nd rfl (Or.inl rfl))) (fun _ _ _ _ _ => pts_nil) (fun _ _ _ _ _ => pe_int))
  (pss_cons (ps_for PassesOwn.never rfl (pi_tup (pv 2)) (pg_name (i := 4) sc_law_cover.nd rfl (Or.inl rfl)) (pss_one (ps_for PassesOwn.never rfl (pi_range2 rfl T.n_range (pa_cons (pe_ix ix_seq (pe_ix ix_seq (pv 1) (pv 4) (fun _ _ => rfl)) pe_int (fun _ _ => rfl)) (pa_cons (pe_ix ix_seq (pe_ix ix_seq (pv 1) (pv 4) (fun _ _ => rfl)) pe_int (fun _ _ => rfl)) pa_nil))) (pg_name (i := 5) sc_law_cover.nd rfl (Or.inl rfl)) (pss_one (ps_augS (pv 3) (pv 5) pget_list pe_int ip_add set_list)))))
  (pss_one (ps_ret (pv 3)))))
/-- _law_left_right -/
def t_law_left_right (c : Cn) (W_law_set W_law_cover : Wp) : TS :=
  (tSeq (tIfS (tOr (tTest (tOp rIsN0 (tVar 2) (tC .non))) (tNot (tB (tCall (spD c W_law_set) [] E0 (tCons (tVar 2) (tCons (tCB (rLenS c.K) (tCons (tVar 1) tNil)) tNil)))))) (tRet (tC (.bl false))) tNext)
  (tSeq (tIfS (tTest (tOp rGt (tCB (rLenS c.K) (tCons (tLc (iTup c.K (tVar 2)) (gName 7) (tOr (tTest (tOp (rIn c.K false) (tVar 7) (tVar 4))) (tTest (tOp (rIn c.K true) (tVar 7) (tVar 5)))) (tVar 7) [7]) tNil)) (tC (.int 0)))) (tRet (tC (.bl false))) tNext)
  (tRet (tOp (rEqD c.K) (tCall (spD c W_law_cover) [] E0 (tCons (tVar 0) (tCons (tVar 1) (tCons (tVar 2) tNil)))) (tLc (iRng1 (tCons (tVar 0) tNil)) (gName 6) tYes (tVar 3) [6])))))
theorem mk_law_left_right {c : Cn} {mg : Str → Option Value} {base : Heap} (T : Tx c.K mg) {W W_law_set W_law_cover : Wp} (G_law_set : FnOk c.P c.w c.K mg base CX0 2 (T.f "_law_set") (T.fd "_law_set") ["value", "many"] (spD c W_law_set)) (G_law_cover : FnOk c.P c.w c.K mg base CX0 1 (T.f "_law_cover") (T.fd "_law_cover") ["size", "runs", "parts"] (spD c W_law_cover))
    (len : ∀ A S R, W A S R → A.length = 6)
    (body : ∀ A S R, W A S R → RS c (t_law_left_right c W_law_set W_law_cover) (A ++ List.replicate 2 .no) S (endP S R)) :
    FnOk c.P c.w c.K mg base CX0 3 (T.f "_law_left_right") (T.fd "_law_left_right") ["size", "runs", "told", "more", "stock", "other"] (spD c W) := by
  refine T.F_law_left_right.ok sc_law_left_right (sp_len len) (fun cdv A outer s H vs Q E hr h => ⟨t_law_left_right c W_law_set W_law_cover, PSs.nox ?_, sp_body len body rfl h⟩)
  have hu := hu_of hr
  exact (pss_cons (ps_if (PW.pt (pw_or (pt_cmpR op_isN (pv 2) pe_non (nomark _)) (pw_or1 (pt_not (pt_val (pe_call G_law_set (hr.mono (by decide)) rfl T.g_law_set T.F_law_set.kp T.b_law_set .nil pass0 (pa_cons (pv 2) (pa_cons (pe_callB call_len_seq rfl T.n_len (by decide +kernel) (pa_cons (pv 1) pa_nil)) pa_nil)))))))) (pss_one (ps_ret pe_bl)) pss_nil)
  (pss_cons (ps_if (pt_cmpR op_gt (pe_callB call_len_seq rfl T.n_len (by decide +kernel) (pa_cons (pe_lc (own := [("part", 7)]) (g := (gName 7)) (tt := (tOr (tTest (tOp (rIn c.K false) (tVar 7) (tVar 4))) (tTest (tOp (rIn c.K true) (tVar 7) (tVar 5))))) rfl sc_law_left_right.nd (pi_tup (pv 2)) (blkOk_by (own := [("part", 7)]) (N := ["size", "runs", "told", "more", "stock", "other", "place", "part"]) (sc := defScope s_law_left_right) (by decide +kernel)) (fun _ _ _ _ _ => (pg_name (i := 7) sc_law_left_right.nd rfl (Or.inl rfl))) (fun _ _ _ _ _ => (pts_one (PW.pt (pw_or (pt_cmpR op_in_seq (pv 7) (pv 4) (by rfl)) (pw_or1 (pt_cmpR op_notIn_seq (pv 7) (pv 5) (by rfl))))))) (fun _ _ _ _ _ => (pv 7))) pa_nil)) pe_int (nomark _)) (pss_one (ps_ret pe_bl)) pss_nil)
  (pss_one (ps_ret (pe_cmpR (op_eqD hr.units) (pe_call G_law_cover (hr.mono (by decide)) rfl T.g_law_cover T.F_law_cover.kp T.b_law_cover .nil pass0 (pa_cons (pv 0) (pa_cons (pv 1) (pa_cons (pv 2) pa_nil)))) (pe_lc (own := [("place", 6)]) (g := (gName 6)) (tt := tYes) rfl sc_law_left_right.nd (pi_range1 rfl T.n_range (pa_cons (pv 0) pa_nil)) (blkOk_by (own := [("place", 6)]) (N := ["size", "runs", "told", "more", "stock", "other", "place", "part"]) (sc := defScope s_law_left_right) (by decide +kernel)) (fun _ _ _ _ _ => (pg_name (i := 6) sc_law_left_right.nd rfl (Or.inl rfl))) (fun _ _ _ _ _ => pts_nil) (fun _ _ _ _ _ => (pv 3))) (nomark _))))))
/-- _law_some_leave -/
def t_law_some_leave (c : Cn) (W_stocks_of W_stock_left W_law_left_right : Wp) : TS :=
  (tSeq (tAsg (tCall (spD c W_stocks_of) [] E0 (tCons (tVar 0) (tCons (tVar 3) tNil))) (gName 6))
  (tSeq (tAsg (tCall (spD c W_stocks_of) [] E0 (tCons (tVar 0) (tCons (tOp qAdd (tVar 3) (tVar 4)) tNil))) (gName 7))
  (tSeq (tIfS (tOr (tTest (tOp rEq (tCB (rLenS c.K) (tCons (tVar 6) tNil)) (tC (.int 0)))) (tTest (tOp rEq (tCB (rLenS c.K) (tCons (tVar 7) tNil)) (tC (.int 0))))) (tRet (tC (.bl false))) tNext)
  (tSeq (tFor (iRng1 (tCons (tC (.int 3)) tNil)) (gName 8) (tSeq (tAsg (tOp (rIx c.K) (tVar 6) (tOp rMod (tCB rInt1 (tCons (tOp qAdd (tVar 5) (tVar 8)) tNil)) (tCB (rLenS c.K) (tCons (tVar 6) tNil)))) (gName 9))
  (tSeq (tAsg (tOp (rIx c.K) (tVar 7) (tOp rMod (tCB rInt1 (tCons (tOp qAdd (tVar 5) (tOp rMul (tC (.int 2)) (tVar 8))) tNil)) (tCB (rLenS c.K) (tCons (tVar 7) tNil)))) (gName 10))
  (tSeq (tAsg (tCall (spD c W_stock_left) [] E0 (tCons (tVar 0) (tCons (tVar 3) (tCons (tVar 9) (tCons (tVar 4) (tCons (tVar 10) tNil)))))) (gName 11))
  (tIfS (tNot (tB (tCall (spD c W_law_left_right) [] E0 (tCons (tVar 1) (tCons (tVar 2) (tCons (tVar 11) (tCons (tVar 4) (tCons (tVar 9) (tCons (tVar 10) tNil))))))))) (tRet (tC (.bl false))) tNext)))))
  (tRet (tC (.bl true)))))))
theorem mk_law_some_leave {c : Cn} {mg : Str → Option Value} {base : Heap} (T : Tx c.K mg) {W W_stocks_of W_stock_left W_law_left_right : Wp} (G_stocks_of : FnOk c.P c.w c.K mg base CX0 6 (T.f "stocks_of") (T.fd "stocks_of") ["market", "demand"] (spD c W_stocks_of)) (G_stock_left : FnOk c.P c.w c.K mg base CX0 8 (T.f "stock_left") (T.fd "stock_left") ["market", "number", "stock", "more", "other"] (spD c W_stock_left)) (G_law_left_right : FnOk c.P c.w c.K mg base CX0 3 (T.f "_law_left_right") (T.fd "_law_left_right") ["size", "runs", "told", "more", "stock", "other"] (spD c W_law_left_right))
    (len : ∀ A S R, W A S R → A.length = 6)
    (body : ∀ A S R, W A S R → RS c (t_law_some_leave c W_stocks_of W_stock_left W_law_left_right) (A ++ List.replicate 6 .no) S (endP S R)) :
    FnOk c.P c.w c.K mg base CX0 9 (T.f "_law_some_leave") (T.fd "_law_some_leave") ["market", "size", "runs", "first", "more", "turn"] (spD c W) := by
  refine T.F_law_some_leave.ok sc_law_some_leave (sp_len len) (fun cdv A outer s H vs Q E hr h => ⟨t_law_some_leave c W_stocks_of W_stock_left W_law_left_right, PSs.nox ?_, sp_body len body rfl h⟩)
  have hu := hu_of hr
  exact (pss_cons (ps_set (i := 6) sc_law_some_leave.nd rfl (Or.inl rfl) (pe_call G_stocks_of (hr.mono (by decide)) rfl T.g_stocks_of T.F_stocks_of.kp T.b_stocks_of .nil pass0 (pa_cons (pv 0) (pa_cons (pv 3) pa_nil))))
  (pss_cons (ps_set (i := 7) sc_law_some_leave.nd rfl (Or.inl rfl) (pe_call G_stocks_of (hr.mono (by decide)) rfl T.g_stocks_of T.F_stocks_of.kp T.b_stocks_of .nil pass0 (pa_cons (pv 0) (pa_cons (pe_op op_add (pv 3) (pv 4)) pa_nil))))
  (pss_cons (ps_if (PW.pt (pw_or (pt_cmpR op_eq (pe_callB call_len_seq rfl T.n_len (by decide +kernel) (pa_cons (pv 6) pa_nil)) pe_int (nomark _)) (pw_or1 (pt_cmpR op_eq (pe_callB call_len_seq rfl T.n_len (by decide +kernel) (pa_cons (pv 7) pa_nil)) pe_int (nomark _))))) (pss_one (ps_ret pe_bl)) pss_nil)
  (pss_cons (ps_for PassesOwn.never rfl (pi_range1 rfl T.n_range (pa_cons pe_int pa_nil)) (pg_name (i := 8) sc_law_some_leave.nd rfl (Or.inl rfl)) (pss_cons (ps_set (i := 9) sc_law_some_leave.nd rfl (Or.inl rfl) (pe_ix ix_seq (pv 6) (pe_op op_mod (pe_callTy call_int1 rfl T.n_int (by decide +kernel) (pa_cons (pe_op op_add (pv 5) (pv 8)) pa_nil)) (pe_callB call_len_seq rfl T.n_len (by decide +kernel) (pa_cons (pv 6) pa_nil))) (fun _ _ => rfl)))
  (pss_cons (ps_set (i := 10) sc_law_some_leave.nd rfl (Or.inl rfl) (pe_ix ix_seq (pv 7) (pe_op op_mod (pe_callTy call_int1 rfl T.n_int (by decide +kernel) (pa_cons (pe_op op_add (pv 5) (pe_op op_mul pe_int (pv 8))) pa_nil)) (pe_callB call_len_seq rfl T.n_len (by decide +kernel) (pa_cons (pv 7) pa_nil))) (fun _ _ => rfl)))
  (pss_cons (ps_set (i := 11) sc_law_some_leave.nd rfl (Or.inl rfl) (pe_call G_stock_left (hr.mono (by decide)) rfl T.g_stock_left T.F_stock_left.kp T.b_stock_left .nil pass0 (pa_cons (pv 0) (pa_cons (pv 3) (pa_cons (pv 9) (pa_cons (pv 4) (pa_cons (pv 10) pa_nil)))))))
  (pss_one (ps_if (pt_not (pt_val (pe_call G_law_left_right (hr.mono (by decide)) rfl T.g_law_left_right T.F_law_left_right.kp T.b_law_left_right .nil pass0 (pa_cons (pv 1) (pa_cons (pv 2) (pa_cons (pv 11) (pa_cons (pv 4) (pa_cons (pv 9) (pa_cons (pv 10) pa_nil))))))))) (pss_one (ps_ret pe_bl)) pss_nil))))))
  (pss_one (ps_ret pe_bl))))))
/-- _law_lost_chains -/
def t_law_lost_chains (c : Cn) {mg : Str → Option Value} (T : Tx c.K mg) (W_stocks_of W_strength W_Join_lose : Wp) : TS :=
  (tSeq (tFor (iList c.K (tCall (spD c W_stocks_of) [] E0 (tCons (tVar 0) (tCons (tC (.int 1)) tNil)))) (gName 2) (tIfS (tTest (tOp rLt (tCall (spD c W_strength) [] E0 (tCons (tMeth (T.cC "Join") "lose" (spD c W_Join_lose) [] E0 (tVar 0) (tCons (tVar 2) tNil)) tNil)) (tOp qSub (tVar 1) (tC (.int 1))))) (tRet (tC (.bl false))) tNext))
  (tRet (tC (.bl true))))
theorem mk_law_lost_chains {c : Cn} {mg : Str → Option Value} {base : Heap} (T : Tx c.K mg) {W W_stocks_of W_strength W_Join_lose : Wp} (G_stocks_of : FnOk c.P c.w c.K mg base CX0 6 (T.f "stocks_of") (T.fd "stocks_of") ["market", "demand"] (spD c W_stocks_of)) (G_strength : FnOk c.P c.w c.K mg base CX0 5 (T.f "strength") (T.fd "strength") ["market"] (spD c W_strength)) (G_Join_lose : FnOk c.P c.w c.K mg base CX0 7 (T.f "Join.lose") (T.fd "Join.lose") ["self", "parts"] (spD c W_Join_lose))
    (len : ∀ A S R, W A S R → A.length = 2)
    (body : ∀ A S R, W A S R → RS c (t_law_lost_chains c T W_stocks_of W_strength W_Join_lose) (A ++ List.replicate 1 .no) S (endP S R)) :
    FnOk c.P c.w c.K mg base CX0 8 (T.f "_law_lost_chains") (T.fd "_law_lost_chains") ["market", "most"] (spD c W) := by
  refine T.F_law_lost_chains.ok sc_law_lost_chains (sp_len len) (fun cdv A outer s H vs Q E hr h => ⟨t_law_lost_chains c T W_stocks_of W_strength W_Join_lose, PSs.nox ?_, sp_body len body rfl h⟩)
  have hu := hu_of hr
  exact (pss_cons (ps_for PassesOwn.never rfl (pi_list (pe_call G_stocks_of (hr.mono (by decide)) rfl T.g_stocks_of T.F_stocks_of.kp T.b_stocks_of .nil pass0 (pa_cons (pv 0) (pa_cons pe_int pa_nil)))) (pg_name (i := 2) sc_law_lost_chains.nd rfl (Or.inl rfl)) (pss_one (ps_if (pt_cmpR op_lt (pe_call G_strength (hr.mono (by decide)) rfl T.g_strength T.F_strength.kp T.b_strength .nil pass0 (pa_cons (pe_meth (pv 0) T.cl_Join T.m_Join_lose G_Join_lose (hr.mono (by decide)) T.b_Join_lose .nil pass0 (pa_cons (pv 2) pa_nil)) pa_nil)) (pe_op op_sub (pv 1) pe_int) (nomark _)) (pss_one (ps_ret pe_bl)) pss_nil)))
  (pss_one (ps_ret pe_bl)))
/-- law -/
def t_law (c : Cn) {mg : Str → Option Value} (T : Tx c.K mg) (W_law_draws W_law_market W_law_take W_Join_init W_strength W_grows W_grows_at W_law_all_leave W_law_some_leave W_law_lost_chains : Wp) : TS :=
  (tSeq (tAsg (tCall (spD c W_law_draws) [] E0 (tCons (tVar 0) tNil)) (gName 1))
  (tSeq (tAsg (tCall (spD c W_law_market) [] E0 (tCons (tVar 1) (tCons (tC (.int 7)) tNil))) (gName 2))
  (tSeq (tAsg (tOp (rIx c.K) (tVar 2) (tC (.int 0))) (gName 3))
  (tSeq (tAsg (tOp (rIx c.K) (tVar 2) (tC (.int 1))) (gName 4))
  (tSeq (tAsg (tOp (rIx c.K) (tVar 2) (tC (.int 2))) (gName 5))
  (tSeq (tAsg (tOp rEq (tCall (spD c W_law_take) [] E0 (tCons (tVar 1) (tCons (tC (.int 6)) tNil))) (tC (.int 5))) (gName 6))
  (tSeq (tIfS (tB (tVar 6)) (tSeq (tAsg (tC (.int 3)) (gName 3))
  (tSeq (tAsg (tLst (tCons (tTup (tCons (tC (.int 0)) (tCons (tC (.int 1)) tNil))) (tCons (tTup (tCons (tC (.int 0)) (tCons (tC (.int 1)) tNil))) (tCons (tTup (tCons (tC (.int 0)) (tCons (tC (.int 2)) tNil))) (tCons (tTup (tCons (tC (.int 1)) (tCons (tC (.int 2)) tNil))) (tCons (tTup (tCons (tC (.int 1)) (tCons (tC (.int 3)) tNil))) (tCons (tTup (tCons (tC (.int 2)) (tCons (tC (.int 3)) tNil))) (tCons (tTup (tCons (tC (.int 2)) (tCons (tC (.int 3)) tNil))) tNil)))))))) (gName 4))
  (tAsg (tLst tNil) (gName 5)))) tNext)
  (tSeq (tIfS (tTest (tOp rEq (tCB (rLenS c.K) (tCons (tVar 4) tNil)) (tC (.int 0)))) (tAsg (tLst (tCons (tTup (tCons (tC (.int 0)) (tCons (tVar 3) tNil))) tNil)) (gName 4)) tNext)
  (tSeq (tAsg (tMakeN (T.cC "Join") 2 (List.length (α := Str) ["gone"]) (spD c W_Join_init) (fun vs zs => vs ++ zs) E0 (tCons (tVar 3) (tCons (tCB (rListS c.K) (tCons (tVar 4) tNil)) tNil)) (tCons (tVar 5) tNil)) (gName 7))
  (tSeq (tAsg (tCall (spD c W_strength) [] E0 (tCons (tVar 7) tNil)) (gName 8))
  (tSeq (tAsg (tCall (spD c W_law_take) [] E0 (tCons (tVar 1) (tCons (tOp qAdd (tVar 8) (tC (.int 1))) tNil))) (gName 9))
  (tSeq (tAsg (tCall (spD c W_law_take) [] E0 (tCons (tVar 1) (tCons (tOp qAdd (tOp qSub (tVar 8) (tVar 9)) (tC (.int 1))) tNil))) (gName 10))
  (tSeq (tAsg (tCall (spD c W_law_take) [] E0 (tCons (tVar 1) (tCons (tC (.int 24)) tNil))) (gName 11))
  (tSeq (tAsg (tCall (spD c W_grows) [] E0 (tCons (tVar 7) tNil)) (gName 12))
  (tSeq (tIfS (tNot (tB (tCB (rIsi c.K) (tCons (tVar 12) (tCons (tC (.ty "bool")) tNil))))) (tRet (tC (.bl false))) tNext)
  (tSeq (tAsg (tLc (iRng1 (tCons (tVar 8) tNil)) (gName 14) tYes (tCall (spD c W_grows_at) [] E0 (tCons (tVar 7) (tCons (tVar 14) tNil))) [14]) (gName 13))
  (tSeq (tIfS (tTest (tOp rNe (tVar 12) (tOp (rIn c.K true) (tC (.bl false)) (tVar 13)))) (tRet (tC (.bl false))) tNext)
  (tSeq (tIfS (tAnd (tB (tVar 6)) (tOr (tB (tVar 12)) (tTest (tOp (rNeD c.K) (tVar 13) (tLst (tCons (tC (.bl true)) (tCons (tC (.bl false)) (tCons (tC (.bl true)) tNil)))))))) (tRet (tC (.bl false))) tNext)
  (tSeq (tIfS (tTest (tOp rGe (tVar 8) (tC (.int 2)))) (tIfS (tOr (tTest (tOp rNe (tVar 12) (tOp (rIx c.K) (tVar 13) (tC (.int 1))))) (tTest (tOp rNe (tVar 12) (tCall (spD c W_law_all_leave) [] E0 (tCons (tVar 7) (tCons (tC (.int 1)) (tCons (tC (.int 1)) tNil))))))) (tRet (tC (.bl false))) tNext) tNext)
  (tSeq (tIfS (tAnd (tTest (tOp rLt (tVar 8) (tC (.int 2)))) (tNot (tB (tVar 12)))) (tRet (tC (.bl false))) tNext)
  (tSeq (tIfS (tAnd (tB (tVar 12)) (tNot (tB (tCall (spD c W_law_some_leave) [] E0 (tCons (tVar 7) (tCons (tVar 3) (tCons (tVar 4) (tCons (tVar 9) (tCons (tVar 10) (tCons (tVar 11) tNil)))))))))) (tRet (tC (.bl false))) tNext)
  (tRet (tOrV (tNotV (tVar 12)) (tCall (spD c W_law_lost_chains) [] E0 (tCons (tVar 7) (tCons (tVar 8) tNil))))))))))))))))))))))))))
theorem mk_law {c : Cn} {mg : Str → Option Value} {base : Heap} (T : Tx c.K mg) {W W_law_draws W_law_market W_law_take W_Join_init W_strength W_grows W_grows_at W_law_all_leave W_law_some_leave W_law_lost_chains : Wp} (G_law_draws : FnOk c.P c.w c.K mg base CX0 1 (T.f "_law_draws") (T.fd "_law_draws") ["script"] (spD c W_law_draws)) (G_law_market : FnOk c.P c.w c.K mg base CX0 3 (T.f "_law_market") (T.fd "_law_market") ["draws", "most"] (spD c W_law_market)) (G_law_take : FnOk c.P c.w c.K mg base CX0 1 (T.f "_law_take") (T.fd "_law_take") ["draws", "many"] (spD c W_law_take)) (G_Join_init : FnOk c.P c.w c.K mg base CX0 5 (T.f "Join.__init__") (T.fd "Join.__init__") ["self", "size", "runs", "gone"] (spD c W_Join_init)) (G_strength : FnOk c.P c.w c.K mg base CX0 5 (T.f "strength") (T.fd "strength") ["market"] (spD c W_strength)) (G_grows : FnOk c.P c.w c.K mg base CX0 12 (T.f "grows") (T.fd "grows") ["market"] (spD c W_grows)) (G_grows_at : FnOk c.P c.w c.K mg base CX0 11 (T.f "grows_at") (T.fd "grows_at") ["market", "number"] (spD c W_grows_at)) (G_law_all_leave : FnOk c.P c.w c.K mg base CX0 9 (T.f "_law_all_leave") (T.fd "_law_all_leave") ["market", "first", "more"] (spD c W_law_all_leave)) (G_law_some_leave : FnOk c.P c.w c.K mg base CX0 9 (T.f "_law_some_leave") (T.fd "_law_some_leave") ["market", "size", "runs", "first", "more", "turn"] (spD c W_law_some_leave)) (G_law_lost_chains : FnOk c.P c.w c.K mg base CX0 8 (T.f "_law_lost_chains") (T.fd "_law_lost_chains") ["market", "most"] (spD c W_law_lost_chains))
    (len : ∀ A S R, W A S R → A.length = 1)
    (body : ∀ A S R, W A S R → RS c (t_law c T W_law_draws W_law_market W_law_take W_Join_init W_strength W_grows W_grows_at W_law_all_leave W_law_some_leave W_law_lost_chains) (A ++ List.replicate 14 .no) S (endP S R)) :
    FnOk c.P c.w c.K mg base CX0 13 (T.f "law") (T.fd "law") ["script"] (spD c W) := by
  refine T.F_law.ok sc_law (sp_len len) (fun cdv A outer s H vs Q E hr h => ⟨t_law c T W_law_draws W_law_market W_law_take W_Join_init W_strength W_grows W_grows_at W_law_all_leave W_law_some_leave W_law_lost_chains, PSs.nox ?_, sp_body len body rfl h⟩)
  have hu := hu_of hr
  exact (pss_cons (ps_set (i := 1) sc_law.nd rfl (Or.inl rfl) (pe_call G_law_draws (hr.mono (by decide)) rfl T.g_law_draws T.F_law_draws.kp T.b_law_draws .nil pass0 (pa_cons (pv 0) pa_nil)))
  (pss_cons (ps_set (i := 2) sc_law.nd rfl (Or.inl rfl) (pe_call G_law_market (hr.mono (by decide)) rfl T.g_law_market T.F_law_market.kp T.b_law_market .nil pass0 (pa_cons (pv 1) (pa_cons pe_int pa_nil))))
  (pss_cons (ps_set (i := 3) sc_law.nd rfl (Or.inl rfl) (pe_ix ix_seq (pv 2) pe_int (fun _ _ => rfl)))
  (pss_cons (ps_set (i := 4) sc_law.nd rfl (Or.inl rfl) (pe_ix ix_seq (pv 2) pe_int (fun _ _ => rfl)))
  (pss_cons (ps_set (i := 5) sc_law.nd rfl (Or.inl rfl) (pe_ix ix_seq (pv 2) pe_int (fun _ _ => rfl)))
  (pss_cons (ps_set (i := 6) sc_law.nd rfl (Or.inl rfl) (pe_cmpR op_eq (pe_call G_law_take (hr.mono (by decide)) rfl T.g_law_take T.F_law_take.kp T.b_law_take .nil pass0 (pa_cons (pv 1) (pa_cons pe_int pa_nil))) pe_int (nomark _)))
  (pss_cons (ps_if (pt_val (pv 6)) (pss_cons (ps_set (i := 3) sc_law.nd rfl (Or.inl rfl) pe_int)
  (pss_cons (ps_set (i := 4) sc_law.nd rfl (Or.inl rfl) (pe_lst (pa_cons (pe_tup (pa_cons pe_int (pa_cons pe_int pa_nil))) (pa_cons (pe_tup (pa_cons pe_int (pa_cons pe_int pa_nil))) (pa_cons (pe_tup (pa_cons pe_int (pa_cons pe_int pa_nil))) (pa_cons (pe_tup (pa_cons pe_int (pa_cons pe_int pa_nil))) (pa_cons (pe_tup (pa_cons pe_int (pa_cons pe_int pa_nil))) (pa_cons (pe_tup (pa_cons pe_int (pa_cons pe_int pa_nil))) (pa_cons (pe_tup (pa_cons pe_int (pa_cons pe_int pa_nil))) pa_nil)))))))))
  (pss_one (ps_set (i := 5) sc_law.nd rfl (Or.inl rfl) (pe_lst pa_nil))))) pss_nil)
  (pss_cons (ps_if (pt_cmpR op_eq (pe_callB call_len_seq rfl T.n_len (by decide +kernel) (pa_cons (pv 4) pa_nil)) pe_int (nomark _)) (pss_one (ps_set (i := 4) sc_law.nd rfl (Or.inl rfl) (pe_lst (pa_cons (pe_tup (pa_cons pe_int (pa_cons (pv 3) pa_nil))) pa_nil)))) pss_nil)
  (pss_cons (ps_set (i := 7) sc_law.nd rfl (Or.inr rfl) (pe_makeN T.mk_Join G_Join_init (hr.mono (by decide)) rfl T.g_Join T.kb_Join pass0 (pa_cons (pv 3) (pa_cons (pe_callTy call_list_of rfl T.n_list (by decide +kernel) (pa_cons (pv 4) pa_nil)) pa_nil)) (pk_cons (pv 5) pk_nil)))
  (pss_cons (ps_set (i := 8) sc_law.nd rfl (Or.inl rfl) (pe_call G_strength (hr.mono (by decide)) rfl T.g_strength T.F_strength.kp T.b_strength .nil pass0 (pa_cons (pv 7) pa_nil)))
  (pss_cons (ps_set (i := 9) sc_law.nd rfl (Or.inl rfl) (pe_call G_law_take (hr.mono (by decide)) rfl T.g_law_take T.F_law_take.kp T.b_law_take .nil pass0 (pa_cons (pv 1) (pa_cons (pe_op op_add (pv 8) pe_int) pa_nil))))
  (pss_cons (ps_set (i := 10) sc_law.nd rfl (Or.inl rfl) (pe_call G_law_take (hr.mono (by decide)) rfl T.g_law_take T.F_law_take.kp T.b_law_take .nil pass0 (pa_cons (pv 1) (pa_cons (pe_op op_add (pe_op op_sub (pv 8) (pv 9)) pe_int) pa_nil))))
  (pss_cons (ps_set (i := 11) sc_law.nd rfl (Or.inl rfl) (pe_call G_law_take (hr.mono (by decide)) rfl T.g_law_take T.F_law_take.kp T.b_law_take .nil pass0 (pa_cons (pv 1) (pa_cons pe_int pa_nil))))
  (pss_cons (ps_set (i := 12) sc_law.nd rfl (Or.inl rfl) (pe_call G_grows (hr.mono (by decide)) rfl T.g_grows T.F_grows.kp T.b_grows .nil pass0 (pa_cons (pv 7) pa_nil)))
  (pss_cons (ps_if (pt_not (pt_val (pe_callB call_isi rfl T.n_isinstance (by decide +kernel) (pa_cons (pv 12) (pa_cons (pe_bltn rfl T.n_bool (by decide +kernel) rfl) pa_nil))))) (pss_one (ps_ret pe_bl)) pss_nil)
  (pss_cons (ps_setLc (i := 13) (own := [("number", 14)]) (g := (gName 14)) (tt := tYes) rfl sc_law.nd rfl rfl (sw_true rfl rfl rfl (by decide +kernel)) (pi_range1 rfl T.n_range (pa_cons (pv 8) pa_nil)) (blkOk_by (own := [("number", 14)]) (N := ["script", "draws", "drawn", "size", "runs", "absent", "fixed", "market", "most", "first", "more", "turn", "told", "words", "number"]) (sc := defScope s_law) (by decide +kernel)) (fun _ _ _ _ _ => (pg_name (i := 14) sc_law.nd rfl (Or.inl rfl))) (fun _ _ _ _ _ => pts_nil) (fun _ _ _ _ _ => (pe_call G_grows_at (hr.mono (by decide)) rfl T.g_grows_at T.F_grows_at.kp T.b_grows_at .nil pass0 (pa_cons (pv 7) (pa_cons (pv 14) pa_nil)))))
  (pss_cons (ps_if (pt_cmpR op_ne (pv 12) (pe_cmpR op_notIn_seq pe_bl (pv 13) (by rfl)) (nomark _)) (pss_one (ps_ret pe_bl)) pss_nil)
  (pss_cons (ps_if (PW.pt (pw_and (pt_val (pv 6)) (pw_and1 (PW.pt (pw_or (pt_val (pv 12)) (pw_or1 (pt_cmpR (op_neD hr.units) (pv 13) (pe_lst (pa_cons pe_bl (pa_cons pe_bl (pa_cons pe_bl pa_nil)))) (nomark _)))))))) (pss_one (ps_ret pe_bl)) pss_nil)
  (pss_cons (ps_if (pt_cmpR op_ge (pv 8) pe_int (nomark _)) (pss_one (ps_if (PW.pt (pw_or (pt_cmpR op_ne (pv 12) (pe_ix ix_seq (pv 13) pe_int (fun _ _ => rfl)) (nomark _)) (pw_or1 (pt_cmpR op_ne (pv 12) (pe_call G_law_all_leave (hr.mono (by decide)) rfl T.g_law_all_leave T.F_law_all_leave.kp T.b_law_all_leave .nil pass0 (pa_cons (pv 7) (pa_cons pe_int (pa_cons pe_int pa_nil)))) (nomark _))))) (pss_one (ps_ret pe_bl)) pss_nil)) pss_nil)
  (pss_cons (ps_if (PW.pt (pw_and (pt_cmpR op_lt (pv 8) pe_int (nomark _)) (pw_and1 (pt_not (pt_val (pv 12)))))) (pss_one (ps_ret pe_bl)) pss_nil)
  (pss_cons (ps_if (PW.pt (pw_and (pt_val (pv 12)) (pw_and1 (pt_not (pt_val (pe_call G_law_some_leave (hr.mono (by decide)) rfl T.g_law_some_leave T.F_law_some_leave.kp T.b_law_some_leave .nil pass0 (pa_cons (pv 7) (pa_cons (pv 3) (pa_cons (pv 4) (pa_cons (pv 9) (pa_cons (pv 10) (pa_cons (pv 11) pa_nil)))))))))))) (pss_one (ps_ret pe_bl)) pss_nil)
  (pss_one (ps_ret (pe_or (pe_not (pv 12)) (pe_one (pe_call G_law_lost_chains (hr.mono (by decide)) rfl T.g_law_lost_chains T.F_law_lost_chains.kp T.b_law_lost_chains .nil pass0 (pa_cons (pv 7) (pa_cons (pv 8) pa_nil))))))))))))))))))))))))))))
end K78

set_option Elab.async false
set_option linter.all false
set_option maxRecDepth 100000
set_option maxHeartbeats 4000000
namespace K78
open PySem PySem.Spec PyProof.Rows L2 Dt
local macro_rules | `(tactic| trivial) => `(tactic| first
  | with_reducible refine rs_seq ?_ | with_reducible refine rs_set ?_ | with_reducible refine rs_asg ?_ | with_reducible refine rs_ret ?_ | with_reducible refine rs_retN ?_ | with_reducible refine rs_drop ?_ | with_reducible refine rs_next ?_ | with_reducible refine rs_break ?_ | with_reducible refine rs_cont ?_ | with_reducible refine rs_if ?_
  | with_reducible refine re_var (by with_unfolding_all rfl) (by with_unfolding_all exact fun h => nomatch h) ?_ | with_reducible refine re_c ?_ | with_reducible refine ra_nil ?_ | with_reducible refine ra_cons ?_ | with_reducible refine re_cb ?_ | with_reducible refine re_call ?_ | with_reducible refine re_op ?_ | with_reducible refine od_int ?_
  | with_reducible refine re_andV ?_ | with_reducible refine re_orV ?_ | with_reducible refine re_notV ?_ | with_reducible refine re_if ?_ | with_reducible refine rt_test ?_ | with_reducible refine rt_B ?_ | with_reducible refine rt_not ?_ | with_reducible refine rt_and ?_ | with_reducible refine rt_or ?_ | with_reducible refine rt_yes ?_
  | with_reducible refine re_tup ?_ | with_reducible refine re_neg ?_ | refine ⟨_, rfl, ?_⟩)
/-! ### numbers -/
def W_is_int : Wp := fun A S R => ∃ d t, A = [.im d] ∧ S = [] ∧ tyD d = some t ∧ (kitB t "int" = some (t == "int" || t == "bool") ∧ kitB t "bool" = some (t == "bool")) ∧ R [] (.im (bD (t == "int")))
theorem len_is_int : ∀ A S R, W_is_int A S R → A.length = 1 := by
  rintro A S R ⟨d, t, rfl, _⟩; rfl
theorem kit_int : kitB "int" "int" = some true ∧ kitB "int" "bool" = some false := by decide +kernel
theorem kit_bool : kitB "bool" "int" = some true ∧ kitB "bool" "bool" = some true := by decide +kernel
section
variable {c : Cn} {mg : Str → Option Value} {base : Heap} (T : Tx c.K mg)
theorem ok_is_int : FnOk c.P c.w c.K mg base CX0 1 (T.f "is_int") (T.fd "is_int") ["value"] (spD c W_is_int) := by
  refine mk_is_int T len_is_int ?_
  rintro A S R ⟨d, t, rfl, rfl, ht, ⟨h1, h2⟩, hR⟩
  unfold t_is_int
  repeat trivial
  refine cb_isi ht h1 ?_
  refine ⟨_, rfl, iteC (fun h => ?_) fun h => ?_⟩
  · repeat trivial
    refine cb_isi ht h2 ?_
    repeat trivial
    refine end_im ?_
    by_cases q : t = "int"
    · subst q; exact hR
    · have hb : (t == "int") = false := by simpa using q
      rw [hb] at h hR
      have hb2 : (t == "bool") = true := by simpa using h
      rw [hb2]; exact hR
  · refine end_im ?_
    have hb : (t == "int") = false := by
      cases q : (t == "int") with
      | false => rfl
      | true => rw [q] at h; exact absurd h (by simp)
    rw [hb] at hR
    exact hR
/-- a call of is_int with an int -/
theorem isI {i : Int} {S : SC} {Q : SC → Sl → Prop} (q : Q S (.im (bD true))) : CallD c W_is_int [.im (iD i)] S Q :=
  call0 (by simp) ⟨iD i, "int", rfl, rfl, rfl, ⟨kit_int.1, kit_int.2⟩, fun _ => q⟩
def W_check_number : Wp := fun A S R => ∃ (v least : Int) (name most : D), A = [.im (iD v), .im name, .im (iD least), .im most] ∧ S = [] ∧ least ≤ v ∧ (most = nD ∨ ∃ m : Int, most = iD m ∧ v ≤ m) ∧ R [] (.im (iD v))
theorem len_check_number : ∀ A S R, W_check_number A S R → A.length = 4 := by
  rintro A S R ⟨v, l, n, m, rfl, _⟩; rfl
theorem ok_check_number : FnOk c.P c.w c.K mg base CX0 2 (T.f "check_number") (T.fd "check_number") ["value", "name", "least", "most"] (spD c W_check_number) := by
  refine mk_check_number T (ok_is_int T) len_check_number ?_
  rintro A S R ⟨v, least, name, most, rfl, rfl, hl, hm, hR⟩
  unfold t_check_number
  repeat trivial
  refine isI ⟨_, rfl, iteN rfl ?_⟩
  repeat trivial
  refine iteN (decide_eq_false (by omega)) ?_
  repeat trivial
  rcases hm with rfl | ⟨m, rfl, hv⟩
  · refine od_notN0 ⟨_, rfl, iteN rfl (iteN rfl ?_)⟩
    repeat trivial
    exact end_im hR
  · refine od_notN (not_nD (by intro h; cases h)) ⟨_, rfl, iteY rfl ?_⟩
    repeat trivial
    refine iteN (decide_eq_false (by omega)) ?_
    repeat trivial
    exact end_im hR
/-- a call of check_number -/
theorem cn {v least : Int} {name most : D} {S : SC} {Q : SC → Sl → Prop} (h1 : least ≤ v) (h2 : most = nD ∨ ∃ m : Int, most = iD m ∧ v ≤ m) (q : Q S (.im (iD v))) : CallD c W_check_number [.im (iD v), .im name, .im (iD least), .im most] S Q :=
  call0 (by simp) ⟨v, least, name, most, rfl, rfl, h1, h2, fun _ => q⟩
/-! ### sets -/
def W_both : Wp := fun A S R => ∃ d1 d2 a b, A = [.im d1, .im d2] ∧ S = [] ∧ TupD d1 (nsD a) ∧ TupD d2 (nsD b) ∧ a.length ≤ 1000 ∧ b.length ≤ 1000 ∧ ∀ r, srt r → (∀ x, x ∈ r ↔ x ∈ a ∨ x ∈ b) → R [] (.im (tN r))
def W_common : Wp := fun A S R => ∃ d1 d2 a b, A = [.im d1, .im d2] ∧ S = [] ∧ TupD d1 (nsD a) ∧ TupD d2 (nsD b) ∧ a.length ≤ 1000 ∧ b.length ≤ 1000 ∧ R [] (.im (tN (a.filter (· ∈ b))))
def W_minus : Wp := fun A S R => ∃ d1 d2 a b, A = [.im d1, .im d2] ∧ S = [] ∧ TupD d1 (nsD a) ∧ TupD d2 (nsD b) ∧ a.length ≤ 1000 ∧ b.length ≤ 1000 ∧ R [] (.im (.tupF (nsD (a.filter (· ∉ b)))))
def W_set_of : Wp := fun A S R => ∃ (many : Nat) (d : D) (l : List Nat), A = [.im (iN many), .im d] ∧ S = [] ∧ SqD d (nsD l) ∧ srt l ∧ (∀ x ∈ l, x < many) ∧ l.length ≤ 1000 ∧ R [] (.im (tN l))
theorem len_both : ∀ A S R, W_both A S R → A.length = 2 := by
  rintro A S R ⟨d1, d2, a, b, rfl, _⟩; rfl
theorem len_common : ∀ A S R, W_common A S R → A.length = 2 := by
  rintro A S R ⟨d1, d2, a, b, rfl, _⟩; rfl
theorem len_minus : ∀ A S R, W_minus A S R → A.length = 2 := by
  rintro A S R ⟨d1, d2, a, b, rfl, _⟩; rfl
theorem len_set_of : ∀ A S R, W_set_of A S R → A.length = 2 := by
  rintro A S R ⟨d1, d2, a, rfl, _⟩; rfl
/-- keys of a dict of ints -/
abbrev kN (l : List Nat) : List Key := l.map fun n : Nat => (Sum.inl (n : Int) : Key)
theorem mem_kN {l : List Nat} {n : Nat} : (Sum.inl (n : Int) : Key) ∈ kN l ↔ n ∈ l := by
  simp only [List.mem_map, Sum.inl.injEq]
  constructor
  · rintro ⟨m, hm, e⟩
    have : m = n := by omega
    exact this ▸ hm
  · intro h
    exact ⟨n, h, rfl⟩
/-- a store into such a dict -/
def put (l : List Nat) (n : Nat) : List Nat := if n ∈ l then l else l ++ [n]
theorem put_kN {l : List Nat} {n : Nat} : putDK (kN l) (Sum.inl (n : Int)) = kN (put l n) := by
  unfold putDK put
  by_cases h : n ∈ l
  · rw [if_pos h, if_pos (mem_kN.mpr h)]
  · rw [if_neg h, if_neg (fun z => h (mem_kN.mp z))]; simp [kN]
theorem mem_put {l : List Nat} {n x : Nat} : x ∈ put l n ↔ x ∈ l ∨ x = n := by
  unfold put
  by_cases h : n ∈ l
  · rw [if_pos h]
    exact ⟨.inl, fun z => z.elim id fun e => e ▸ h⟩
  · rw [if_neg h]; simp
theorem put_nodup {l : List Nat} {n : Nat} (h : l.Nodup) : (put l n).Nodup := by
  unfold put
  by_cases q : n ∈ l
  · rw [if_pos q]; exact h
  · rw [if_neg q, List.nodup_append]
    exact ⟨h, by simp, fun a ha b hb => by
      have : b = n := by simpa using hb
      subst this
      exact fun e => q (e ▸ ha)⟩
theorem put_len {l : List Nat} {n : Nat} : (put l n).length ≤ l.length + 1 := by
  unfold put
  split
  · omega
  · rw [List.length_append]; exact Nat.le_refl _
theorem putDK_len {ks : List Key} {k : Key} {l : List D} {v : D} (h : ks.length = l.length) : (putDL ks l k v).length = (putDK ks k).length := by
  unfold putDL putDK
  split
  · rw [List.length_map, List.length_zip, h, Nat.min_self]
  · rw [List.length_append, List.length_append, h]; rfl
/-- e in such a dict -/
theorem valD_mem {l : List Nat} {vs : List D} {n : Nat} (h : (kN l).length = vs.length) : (valD (kN l) vs (Sum.inl (n : Int))).isSome = decide (n ∈ l) := by
  by_cases q : n ∈ l
  · obtain ⟨d, e⟩ := valD_some h (mem_kN.mpr q)
    rw [e, decide_eq_true q]; rfl
  · rw [valD_none (fun z => q (mem_kN.mp z)), decide_eq_false q]; rfl
theorem nsD_get {l : List Nat} {i : Nat} {e : D} (h : (nsD l)[i]? = some e) : ∃ n, l[i]? = some n ∧ e = iN n := by
  rw [List.getElem?_map] at h
  cases q : l[i]? with
  | none => rw [q] at h; cases h
  | some n => rw [q] at h; exact ⟨n, rfl, (Option.some.inj h).symm⟩
theorem nsD_len {l : List Nat} : (nsD l).length = l.length := List.length_map _
theorem take_succ_of {α : Type} {l : List α} {i : Nat} {n : α} (h : l[i]? = some n) : l.take (i + 1) = l.take i ++ [n] := by
  rw [List.take_add_one, h]; rfl
theorem ok_both : FnOk c.P c.w c.K mg base CX0 1 (T.f "both") (T.fd "both") ["one", "other"] (spD c W_both) := by
  refine mk_both T len_both ?_
  rintro A S R ⟨d1, d2, a, b, rfl, rfl, h1, h2, hla, hlb, hR⟩
  unfold t_both
  trivial
  trivial
  refine re_dnew ?_
  -- the dict is the cell 0, the keys l
  let J : List Nat → SG → SC → Prop := fun l G S => (∃ s, G = [.im d1, .im d2, .pt 0, s]) ∧ l.Nodup ∧ ∃ vs, S = [.dk (kN l) vs] ∧ (kN l).length = vs.length
  have turn : ∀ (l : List Nat) (n : Nat) (G : SG) (S : SC) (P : Po), J l G S → l.length ≤ 10000 → (∀ G' S', J (put l n) G' S' → P.nx G' S') → RG c (gName 3) (.im (iN n)) G S fun G2 S2 => RS c (sDPut (tVar 2) (tVar 3) (tC (.bl true))) G2 S2 P := by
    rintro l n G S P ⟨⟨s, rfl⟩, nd, vs, rfl, hl⟩ hz k
    refine rg_name (rs_dput ?_)
    repeat trivial
    refine ⟨_, Sum.inl (n : Int), _, _, rfl, rfl, rfl, ?_, ?_⟩
    · rw [List.length_map]; omega
    · refine k _ _ ⟨⟨.im (iN n), rfl⟩, put_nodup nd, putDL (kN l) vs (Sum.inl (n : Int)) (bD true), ?_, ?_⟩
      · show [Cell.dk (putDK _ _) _] = _
        rw [put_kN]
      · rw [putDK_len hl, ← put_kN]
  refine rs_seq (rs_for (rw_tup ?_))
  repeat trivial
  refine ⟨nsD a, h1.or, fun i G' S' => i ≤ a.length ∧ ∃ l, J l G' S' ∧ l.length ≤ i ∧ ∀ x, x ∈ l ↔ x ∈ a.take i, ⟨Nat.zero_le _, [], ⟨⟨_, rfl⟩, List.nodup_nil, [], rfl, rfl⟩, Nat.zero_le _, by simp⟩, ?_, ?_⟩
  · rintro i e G' S' he ⟨hi, l, hJ, hll, hm⟩
    obtain ⟨n, hn, rfl⟩ := nsD_get he
    have hil : i < a.length := (List.getElem?_eq_some_iff.mp hn).1
    refine turn l n G' S' _ hJ (by omega) fun G2 S2 h => ⟨hil, put l n, h, Nat.le_trans put_len (by omega), fun x => ?_⟩
    rw [mem_put, hm, take_succ_of hn]
    simp
  rintro G' S' ⟨_, l, hJ, hll, hm⟩
  rw [nsD_len] at hll hm
  rw [List.take_length] at hm
  refine rs_seq (rs_for (rw_tup ?_))
  obtain ⟨⟨s, rfl⟩, nd, vs, rfl, hl⟩ := id hJ
  repeat trivial
  refine ⟨nsD b, h2.or, fun i G' S' => i ≤ b.length ∧ ∃ l, J l G' S' ∧ l.length ≤ a.length + i ∧ ∀ x, x ∈ l ↔ x ∈ a ∨ x ∈ b.take i, ⟨Nat.zero_le _, l, hJ, hll, by simpa using hm⟩, ?_, ?_⟩
  · rintro i e G' S' he ⟨hi, l, hJ, hll, hm⟩
    obtain ⟨n, hn, rfl⟩ := nsD_get he
    have hil : i < b.length := (List.getElem?_eq_some_iff.mp hn).1
    refine turn l n G' S' _ hJ (by omega) fun G2 S2 h => ⟨hil, put l n, h, Nat.le_trans put_len (by omega), fun x => ?_⟩
    rw [mem_put, hm, take_succ_of hn]
    simp [or_assoc]
  rintro G' S' ⟨_, l, ⟨⟨s, rfl⟩, nd, vs, rfl, hl⟩, hll, hm⟩
  rw [nsD_len, List.take_length] at hm
  repeat trivial
  refine cb_listD (.pt rfl) ?_
  repeat trivial
  refine cb_sortedI (ns := l.map fun n : Nat => (n : Int)) (by rw [nsD_keys, ← nsD_map]; exact .im _) fun ms pm so => ?_
  obtain ⟨r, rfl, hs, hr⟩ := srt_of pm so nd
  repeat trivial
  refine cb_tuple (.im _) ?_
  rw [← nsD_map]
  exact end_im (hR r hs fun x => by rw [hr, hm])
end
end K78

set_option Elab.async false
set_option linter.all false
set_option maxRecDepth 100000
set_option maxHeartbeats 4000000
namespace K78
open PySem PySem.Spec PyProof.Rows L2 Dt
local macro_rules | `(tactic| trivial) => `(tactic| first
  | with_reducible refine rs_seq ?_ | with_reducible refine rs_set ?_ | with_reducible refine rs_asg ?_ | with_reducible refine rs_ret ?_ | with_reducible refine rs_retN ?_ | with_reducible refine rs_drop ?_ | with_reducible refine rs_next ?_ | with_reducible refine rs_break ?_ | with_reducible refine rs_cont ?_ | with_reducible refine rs_if ?_
  | with_reducible refine re_var (by with_unfolding_all rfl) (by with_unfolding_all exact fun h => nomatch h) ?_ | with_reducible refine re_c ?_ | with_reducible refine ra_nil ?_ | with_reducible refine ra_cons ?_ | with_reducible refine re_cb ?_ | with_reducible refine re_call ?_ | with_reducible refine re_op ?_ | with_reducible refine od_int ?_
  | with_reducible refine re_andV ?_ | with_reducible refine re_orV ?_ | with_reducible refine re_notV ?_ | with_reducible refine re_if ?_ | with_reducible refine rt_test ?_ | with_reducible refine rt_B ?_ | with_reducible refine rt_not ?_ | with_reducible refine rt_and ?_ | with_reducible refine rt_or ?_ | with_reducible refine rt_yes ?_
  | with_reducible refine re_tup ?_ | with_reducible refine re_neg ?_ | refine ⟨_, rfl, ?_⟩)
section
variable {c : Cn} {mg : Str → Option Value} {base : Heap} (T : Tx c.K mg)
theorem filter_take {l : List Nat} {i : Nat} {n : Nat} {p : Nat → Bool} (h : l[i]? = some n) : (l.take (i + 1)).filter p = (l.take i).filter p ++ (if p n = true then [n] else []) := by
  rw [take_succ_of h, List.filter_append]
  by_cases q : p n = true
  · simp [q]
  · simp [q]
/-- the dict of a set's members -/
theorem dict_of {d2 : D} {b : List Nat} {G : SG} {S : SC} {Q : SC → Sl → Prop} {i j : Nat} {n : Nat} (h2 : TupD d2 (nsD b)) (hz : b.length ≤ 1000) (hG : G[i]? = some (.im d2)) (hn : G.length = n) (hj : j < n) (hji : j ≠ i)
    (k : ∀ ks vs, (kN ks).length = vs.length → (∀ x, x ∈ ks ↔ x ∈ b) → Q S (.im (.dk (kN ks) vs))) : RE c (tDc (iTup c.K (tVar i)) (gName j) tYes (tVar j) (tC (.bl true)) [j]) G S Q := by
  refine re_dcW (gon_name (by simp)) (rw_tup (re_var hG (by intro h; cases h) ⟨nsD b, h2.or, by rw [nsD_len]; omega, ?_⟩))
  refine ⟨fun i ks l => ∃ m, ks = kN m ∧ (kN m).length = l.length ∧ ∀ x, x ∈ m ↔ x ∈ b.take i, ⟨[], rfl, rfl, by simp⟩, ?_, ?_⟩
  · rintro i e ks l he hl ⟨m, rfl, hml, hm⟩
    obtain ⟨n', hn', rfl⟩ := nsD_get he
    have hlen : (wipeG G [j]).length = n := by rw [wipeG_length, hn]
    have hget : ((wipeG G [j]).set j (.im (iN n')))[j]? = some (.im (iN n')) := List.getElem?_set_self (by rw [hlen]; exact hj)
    refine rg_name (rt_yes (iteY rfl (re_var hget (by intro h; cases h) ⟨_, Sum.inl (n' : Int), rfl, rfl, re_c ⟨_, rfl, rfl, put m n', ?_, ?_, fun x => ?_⟩⟩)))
    · rw [put_kN]
    · rw [putDK_len hml, ← put_kN]
    · rw [mem_put, hm, take_succ_of hn']
      simp
  · rintro ks l _ ⟨m, rfl, hml, hm⟩
    rw [nsD_len, List.take_length] at hm
    exact k m l hml hm
theorem ok_minus : FnOk c.P c.w c.K mg base CX0 1 (T.f "minus") (T.fd "minus") ["one", "other"] (spD c W_minus) := by
  refine mk_minus T len_minus ?_
  rintro A S R ⟨d1, d2, a, b, rfl, rfl, h1, h2, hla, hlb, hR⟩
  unfold t_minus
  trivial
  trivial
  refine dict_of (n := 4) h2 hlb rfl rfl (by decide) (by decide) fun ks vs hl hk => ?_
  repeat trivial
  refine re_lcW false (gon_name (by simp)) (rw_tup ?_)
  repeat trivial
  refine ⟨nsD a, h1.or, by rw [nsD_len]; omega, fun i S' acc => S' = [] ∧ acc = nsD ((a.take i).filter (· ∉ b)), ⟨rfl, rfl⟩, ?_, ?_⟩
  · rintro i e S' acc he hl' ⟨rfl, rfl⟩
    obtain ⟨n, hn, rfl⟩ := nsD_get he
    refine rg_name (rt_B (re_dnotin (re_var rfl (by intro h; cases h) ⟨_, Sum.inl (n : Int), rfl, rfl, re_var rfl (by intro h; cases h) ⟨_, _, .im _ _, _, rfl, ?_⟩⟩)))
    rw [valD_mem hl]
    refine iteC (fun h => ?_) fun h => ?_
    · refine re_var rfl (by intro h; cases h) ⟨_, rfl, rfl, ?_⟩
      have hb : n ∉ b := by
        have : decide (n ∈ ks) = false := by simpa using h
        rw [← hk]; simpa using this
      rw [filter_take hn, if_pos (by simpa using hb)]
      simp [nsD]
    · refine ⟨rfl, ?_⟩
      have hb : n ∈ b := by
        have : decide (n ∈ ks) = true := by simpa using h
        rw [← hk]; simpa using this
      rw [filter_take hn, if_neg (by simpa using hb)]
      simp [nsD]
  · rintro S' acc _ ⟨rfl, rfl⟩
    rw [if_neg Bool.false_ne_true, nsD_len, List.take_length]
    repeat trivial
    refine cb_tupleF (.im _) ?_
    exact end_im hR
theorem ok_common : FnOk c.P c.w c.K mg base CX0 1 (T.f "common") (T.fd "common") ["one", "other"] (spD c W_common) := by
  refine mk_common T len_common ?_
  rintro A S R ⟨d1, d2, a, b, rfl, rfl, h1, h2, hla, hlb, hR⟩
  unfold t_common
  trivial
  trivial
  refine dict_of (n := 4) h2 hlb rfl rfl (by decide) (by decide) fun ks vs hl hk => ?_
  repeat trivial
  refine re_lcW false (gon_name (by simp)) (rw_tup ?_)
  repeat trivial
  refine ⟨nsD a, h1.or, by rw [nsD_len]; omega, fun i S' acc => S' = [] ∧ acc = nsD ((a.take i).filter (· ∈ b)), ⟨rfl, rfl⟩, ?_, ?_⟩
  · rintro i e S' acc he hl' ⟨rfl, rfl⟩
    obtain ⟨n, hn, rfl⟩ := nsD_get he
    refine rg_name (rt_B (re_din (re_var rfl (by intro h; cases h) ⟨_, Sum.inl (n : Int), rfl, rfl, re_var rfl (by intro h; cases h) ⟨_, _, .im _ _, _, rfl, ?_⟩⟩)))
    rw [valD_mem hl]
    refine iteC (fun h => ?_) fun h => ?_
    · refine re_var rfl (by intro h; cases h) ⟨_, rfl, rfl, ?_⟩
      have hb : n ∈ b := by rw [← hk]; simpa using h
      rw [filter_take hn, if_pos (by simpa using hb)]
      simp [nsD]
    · refine ⟨rfl, ?_⟩
      have hb : n ∉ b := by rw [← hk]; simpa using h
      rw [filter_take hn, if_neg (by simpa using hb)]
      simp [nsD]
  · rintro S' acc _ ⟨rfl, rfl⟩
    rw [if_neg Bool.false_ne_true, nsD_len, List.take_length]
    repeat trivial
    refine cb_tuple (.im _) ?_
    exact end_im hR
/-- the enumerated items -/
theorem enumD_nat {l : List D} {i : Nat} {e : D} (h : (enumD l)[i]? = some e) : ∃ d, l[i]? = some d ∧ e = .tup [iN i, d] := enumD_get h
theorem ok_set_of : FnOk c.P c.w c.K mg base CX0 3 (T.f "set_of") (T.fd "set_of") ["many", "parts"] (spD c W_set_of) := by
  refine mk_set_of T (ok_check_number T) (ok_is_int T) len_set_of ?_
  rintro A S R ⟨many, d, l, rfl, rfl, hd, hs, hlt, hz, hR⟩
  unfold t_set_of
  repeat trivial
  refine cn (Int.natCast_nonneg _) (.inl rfl) ?_
  repeat trivial
  have hty : ∃ t b1 b2, tyD d = some t ∧ kitB t "list" = some b1 ∧ kitB t "tuple" = some b2 ∧ (b1 || b2) = true := by
    cases hd with
    | lst => exact ⟨"list", true, false, rfl, by decide +kernel, by decide +kernel, rfl⟩
    | rl => exact ⟨"list", true, false, rfl, by decide +kernel, by decide +kernel, rfl⟩
    | tup => exact ⟨"tuple", false, true, rfl, by decide +kernel, by decide +kernel, rfl⟩
    | tupF => exact ⟨"tuple", false, true, rfl, by decide +kernel, by decide +kernel, rfl⟩
  obtain ⟨t, b1, b2, ht, hk1, hk2, hb⟩ := hty
  refine ⟨[.v (.ty "list"), .v (.ty "tuple")], rfl, by decide, ?_⟩
  repeat trivial
  refine cb_isiT ht hk1 hk2 hb.symm ⟨_, rfl, iteN rfl ?_⟩
  repeat trivial
  refine re_dnew ?_
  refine rs_seq (rs_for (rw_enum ?_))
  repeat trivial
  refine ⟨_, _, rfl, hd, fun i G S => i ≤ l.length ∧ (∃ s1 s2, G = [.im (iN many), .im d, .pt 0, s1, s2]) ∧ ∃ vs, S = [.dk (kN (l.take i)) vs] ∧ (kN (l.take i)).length = vs.length, ⟨Nat.zero_le _, ⟨_, _, rfl⟩, [], rfl, rfl⟩, ?_, ?_⟩
  · rintro i e G' S' he ⟨hi, ⟨s1, s2, rfl⟩, vs, rfl, hvl⟩
    obtain ⟨dd, hdd, rfl⟩ := enumD_get he
    obtain ⟨n, hn, rfl⟩ := nsD_get hdd
    have hil : i < l.length := (List.getElem?_eq_some_iff.mp hn).1
    have hnm : n < many := hlt n (List.mem_of_getElem? hn)
    have hnew : n ∉ l.take i := fun hm => by
      obtain ⟨j, hj⟩ := List.mem_iff_getElem?.mp hm
      obtain ⟨hji, hj2⟩ := take_get hj
      have := nodup_get (srt_nodup hs) hj2 hn
      omega
    refine rg_tup rfl (rgs_cons (rgs_cons (rgs_nil ?_)))
    repeat trivial
    refine isI ⟨_, rfl, iteN rfl ?_⟩
    repeat trivial
    refine iteN (decide_eq_false (by omega)) ?_
    repeat trivial
    refine iteN (decide_eq_false (by omega)) ?_
    refine rt_B (re_din (re_var rfl (by intro h; cases h) ⟨_, Sum.inl (n : Int), rfl, rfl, re_var rfl (by intro h; cases h) ⟨_, _, .pt rfl, _, rfl, ?_⟩⟩))
    rw [valD_mem hvl]
    refine iteN (decide_eq_false hnew) ?_
    repeat trivial
    refine rs_dput ?_
    repeat trivial
    refine ⟨_, Sum.inl (n : Int), _, _, rfl, rfl, rfl, ?_, hil, ⟨_, _, rfl⟩, putDL (kN (l.take i)) vs (Sum.inl (n : Int)) (bD true), ?_, ?_⟩
    · rw [List.length_map, List.length_take]; omega
    · show [Cell.dk (putDK _ _) _] = _
      rw [put_kN, take_succ_of hn]
      unfold put
      rw [if_neg hnew]
    · rw [putDK_len hvl, put_kN, take_succ_of hn]
      unfold put
      rw [if_neg hnew]
  · rintro G' S' ⟨hi, ⟨s1, s2, rfl⟩, vs, rfl, hvl⟩
    rw [enumD_length, nsD_len, List.take_length] at *
    repeat trivial
    refine cb_listD (.pt rfl) ?_
    repeat trivial
    refine cb_sortedI (ns := l.map fun n : Nat => (n : Int)) (by rw [nsD_keys, ← nsD_map]; exact .im _) fun ms pm so => ?_
    obtain ⟨r, rfl, hs', hr⟩ := srt_of pm so (srt_nodup hs)
    repeat trivial
    refine cb_tuple (.im _) ?_
    rw [← nsD_map, srt_eq hs' hs hr]
    exact end_im hR
end
end K78

set_option Elab.async false
set_option linter.all false
set_option maxRecDepth 100000
set_option maxHeartbeats 4000000
namespace K78
open PySem PySem.Spec PyProof.Rows L2 Dt
local macro_rules | `(tactic| trivial) => `(tactic| first
  | with_reducible refine rs_seq ?_ | with_reducible refine rs_set ?_ | with_reducible refine rs_asg ?_ | with_reducible refine rs_ret ?_ | with_reducible refine rs_retN ?_ | with_reducible refine rs_drop ?_ | with_reducible refine rs_next ?_ | with_reducible refine rs_break ?_ | with_reducible refine rs_cont ?_ | with_reducible refine rs_if ?_
  | with_reducible refine re_var (by with_unfolding_all rfl) (by with_unfolding_all exact fun h => nomatch h) ?_ | with_reducible refine re_c ?_ | with_reducible refine ra_nil ?_ | with_reducible refine ra_cons ?_ | with_reducible refine re_cb ?_ | with_reducible refine re_call ?_ | with_reducible refine re_op ?_ | with_reducible refine od_int ?_
  | with_reducible refine re_andV ?_ | with_reducible refine re_orV ?_ | with_reducible refine re_notV ?_ | with_reducible refine re_if ?_ | with_reducible refine rt_test ?_ | with_reducible refine rt_B ?_ | with_reducible refine rt_not ?_ | with_reducible refine rt_and ?_ | with_reducible refine rt_or ?_ | with_reducible refine rt_yes ?_
  | with_reducible refine re_tup ?_ | with_reducible refine re_neg ?_ | refine ⟨_, rfl, ?_⟩)
/-! ### markets -/
structure Mkt where
  n : Nat
  runs : List (Nat × Nat)
  gone : List Nat
structure Mkt.Ok (M : Mkt) : Prop where
  n1 : 1 ≤ M.n
  n8 : M.n ≤ 8
  rl : M.runs.length ≤ 7
  run : ∀ p ∈ M.runs, p.1 < p.2 ∧ p.2 ≤ M.n
  gs : srt M.gone
  gl : ∀ x ∈ M.gone, x < M.runs.length
def Mkt.there (M : Mkt) : List Nat := (List.range M.runs.length).filter (· ∉ M.gone)
abbrev prD (p : Nat × Nat) : D := .tup [iN p.1, iN p.2]
abbrev rsD (l : List (Nat × Nat)) : List D := l.map prD
def fldN : List Str := ["size", "runs", "gone"]
def mkD (C : Addr) (M : Mkt) : D := .ins C fldN [iN M.n, .tup (rsD M.runs), tN M.gone]
theorem srt_len {m : Nat} : ∀ {l : List Nat} {b : Nat}, srt l → (∀ x ∈ l, b ≤ x ∧ x < m) → l.length ≤ m - b
  | [], _, _, _ => Nat.zero_le _
  | x :: l, b, hs, h => by
    have hs' := List.pairwise_cons.mp hs
    have hx := h x List.mem_cons_self
    have := srt_len (l := l) (b := x + 1) hs'.2 fun y hy => ⟨hs'.1 y hy, (h y (List.mem_cons_of_mem _ hy)).2⟩
    rw [List.length_cons]
    omega
theorem srt_le {m : Nat} {l : List Nat} (hs : srt l) (h : ∀ x ∈ l, x < m) : l.length ≤ m := by
  have := srt_len (b := 0) hs fun x hx => ⟨Nat.zero_le _, h x hx⟩
  omega
theorem Mkt.Ok.gz {M : Mkt} (h : M.Ok) : M.gone.length ≤ 7 := Nat.le_trans (srt_le h.gs h.gl) h.rl
theorem srt_filter {l : List Nat} {p : Nat → Bool} (h : srt l) : srt (l.filter p) := List.Pairwise.filter _ h
theorem srt_range (n : Nat) : srt (List.range n) := List.pairwise_lt_range
theorem Mkt.there_srt (M : Mkt) : srt M.there := srt_filter (srt_range _)
theorem Mkt.mem_there {M : Mkt} {x : Nat} : x ∈ M.there ↔ x < M.runs.length ∧ x ∉ M.gone := by
  unfold Mkt.there
  rw [List.mem_filter, List.mem_range]
  simp
theorem Mkt.there_len (M : Mkt) : M.there.length ≤ M.runs.length := srt_le M.there_srt fun x hx => (Mkt.mem_there.mp hx).1
theorem rangeD_nat (n : Nat) : rangeD 0 n = nsD (List.range n) := by
  unfold rangeD nsD
  refine List.map_congr_left fun i _ => ?_
  show iD (0 + (i : Int)) = iD (i : Int)
  rw [Int.zero_add]
theorem rsD_len {l : List (Nat × Nat)} : (rsD l).length = l.length := List.length_map _
section
variable {c : Cn} {mg : Str → Option Value} {base : Heap} (T : Tx c.K mg)
abbrev mk (M : Mkt) : D := mkD (T.cC "Join") M
variable {G : SG} {S : SC} {Q : SC → Sl → Prop} {ta : TE}
theorem re_size (h : RE c ta G S fun S1 s => ∃ M, s = .im (mk T M) ∧ Q S1 (.im (iN M.n))) : RE c (tFld c.K ta "size") G S Q :=
  re_fld (re_mono h fun S1 s ⟨M, e, q⟩ => by subst e; exact ⟨_, _, _, _, .im _ _ _, T.cl_Join, T.at_size, rfl, q⟩)
theorem re_runs (h : RE c ta G S fun S1 s => ∃ M, s = .im (mk T M) ∧ Q S1 (.im (.tup (rsD M.runs)))) : RE c (tFld c.K ta "runs") G S Q :=
  re_fld (re_mono h fun S1 s ⟨M, e, q⟩ => by subst e; exact ⟨_, _, _, _, .im _ _ _, T.cl_Join, T.at_runs, rfl, q⟩)
theorem re_gone (h : RE c ta G S fun S1 s => ∃ M, s = .im (mk T M) ∧ Q S1 (.im (tN M.gone))) : RE c (tFld c.K ta "gone") G S Q :=
  re_fld (re_mono h fun S1 s ⟨M, e, q⟩ => by subst e; exact ⟨_, _, _, _, .im _ _ _, T.cl_Join, T.at_gone, rfl, q⟩)
theorem re_KIND (h : RE c ta G S fun S1 s => ∃ M, s = .im (mk T M) ∧ Q S1 (.im (sD "join"))) : RE c (tCon c.K ta "KIND") G S Q :=
  re_con (re_mono h fun S1 s ⟨M, e, q⟩ => by
    subst e
    obtain ⟨u, hu⟩ := T.con_KIND
    exact ⟨_, _, _, _, u, .im _ _ _, T.cl_Join, hu, by unfold fldN; decide, q⟩)
/-- len(market.runs) -/
theorem re_many (h : RE c ta G S fun S1 s => ∃ M, s = .im (mk T M) ∧ Q S1 (.im (iN M.runs.length))) : RE c (tCB (rLenS c.K) (tCons (tFld c.K ta "runs") tNil)) G S Q := by
  refine re_cb (ra_cons (re_runs T (re_mono h fun S1 s ⟨M, e, q⟩ => ⟨M, e, ra_nil (cb_len (.tup _) ?_)⟩)))
  rw [rsD_len]; exact q

def W_pair_of : Wp := fun A S R => ∃ (n : Nat) (p : Nat × Nat), A = [.im (iN n), .im (prD p)] ∧ S = [] ∧ p.1 < p.2 ∧ p.2 ≤ n ∧ R [] (.im (prD p))
theorem len_pair_of : ∀ A S R, W_pair_of A S R → A.length = 2 := by
  rintro A S R ⟨d1, d2, rfl, _⟩; rfl
theorem kit_seq : kitB "list" "list" = some true ∧ kitB "list" "tuple" = some false ∧ kitB "tuple" "list" = some false ∧ kitB "tuple" "tuple" = some true := by decide +kernel
/-- isinstance(x, (list, tuple)) of such -/
theorem cb_seqT {e : D} {l : List D} (h : SqD e l) (q : Q S (.im (bD true))) : CbD c (rIsiT c.K) [.im e, .im (.tup [.v (.ty "list"), .v (.ty "tuple")])] S Q := by
  cases h with
  | lst => exact cb_isiT rfl kit_seq.1 kit_seq.2.1 rfl q
  | rl => exact cb_isiT rfl kit_seq.1 kit_seq.2.1 rfl q
  | tup => exact cb_isiT rfl kit_seq.2.2.1 kit_seq.2.2.2 rfl q
  | tupF => exact cb_isiT rfl kit_seq.2.2.1 kit_seq.2.2.2 rfl q
/-- isinstance(x, (list, tuple)), the whole expression -/
theorem re_seqT (h : RE c ta G S fun S1 s => ∃ e l, s = .im e ∧ SqD e l ∧ Q S1 (.im (bD true))) : RE c (tCB (rIsiT c.K) (tCons ta (tCons (tTup (tCons (tC (.ty "list")) (tCons (tC (.ty "tuple")) tNil))) tNil))) G S Q :=
  re_cb (ra_cons (re_mono h fun S1 s ⟨e, l, e1, hs, q⟩ => by
    subst e1
    exact ra_cons (re_tup (ra_cons (re_c (ra_cons (re_c (ra_nil ⟨[.v (.ty "list"), .v (.ty "tuple")], rfl, by decide, ra_nil (cb_seqT hs q)⟩))))))))
theorem ok_pair_of : FnOk c.P c.w c.K mg base CX0 2 (T.f "pair_of") (T.fd "pair_of") ["size", "run"] (spD c W_pair_of) := by
  refine mk_pair_of T (ok_is_int T) len_pair_of ?_
  rintro A S R ⟨n, p, rfl, rfl, h1, h2, hR⟩
  unfold t_pair_of
  refine rs_seq (rs_if (rt_or (rt_not (rt_B (re_seqT ?_)))))
  repeat trivial
  refine ⟨_, _, rfl, .tup _, _, rfl, iteN rfl ?_⟩
  repeat trivial
  refine cb_len (.tup _) ?_
  repeat trivial
  refine Dt.od_ne (by rfl) ?_
  refine ⟨_, rfl, iteN (by simp) ?_⟩
  repeat trivial
  refine rg_tup rfl (rgs_cons (rgs_cons (rgs_nil ?_)))
  repeat trivial
  refine isI ⟨_, rfl, iteN rfl ?_⟩
  repeat trivial
  refine isI ⟨_, rfl, iteN rfl ?_⟩
  repeat trivial
  refine iteN (decide_eq_false (by omega)) ?_
  repeat trivial
  refine iteN (decide_eq_false (by omega)) ?_
  repeat trivial
  refine iteN (decide_eq_false (by omega)) ?_
  repeat trivial
  refine ⟨[iN p.1, iN p.2], rfl, by simp, ?_⟩
  exact end_im hR
def W_u_runs_of : Wp := fun A S R => ∃ (n : Nat) (d : D) (l : List (Nat × Nat)), A = [.im (iN n), .im d] ∧ S = [] ∧ SqD d (rsD l) ∧ (∀ p ∈ l, p.1 < p.2 ∧ p.2 ≤ n) ∧ l.length ≤ 1000 ∧ R [] (.im (.tup (rsD l)))
theorem len_u_runs_of : ∀ A S R, W_u_runs_of A S R → A.length = 2 := by
  rintro A S R ⟨d1, d2, l, rfl, _⟩; rfl
theorem ok_u_runs_of : FnOk c.P c.w c.K mg base CX0 3 (T.f "_runs_of") (T.fd "_runs_of") ["size", "runs"] (spD c W_u_runs_of) := by
  refine mk_u_runs_of T (ok_pair_of T) len_u_runs_of ?_
  rintro A S R ⟨n, d, l, rfl, rfl, hd, hp, hz, hR⟩
  unfold t_u_runs_of
  refine rs_seq (rs_if (rt_not (rt_B (re_seqT ?_))))
  repeat trivial
  refine ⟨_, _, rfl, hd, _, rfl, iteN rfl ?_⟩
  trivial
  refine rs_seq (rs_set (re_lstO (ra_nil ⟨[], rfl, by simp, ?_⟩)))
  refine rs_seq (rs_for (rw_enum ?_))
  repeat trivial
  refine ⟨_, _, rfl, hd, fun i G S => i ≤ l.length ∧ (∃ s1 s2 s3, G = [.im (iN n), .im d, .pt 0, s1, s2, s3]) ∧ S = [.lst (rsD (l.take i))], ⟨Nat.zero_le _, ⟨_, _, _, rfl⟩, rfl⟩, ?_, ?_⟩
  · rintro i e G' S' he ⟨hi, ⟨s1, s2, s3, rfl⟩, rfl⟩
    obtain ⟨dd, hdd, rfl⟩ := enumD_get he
    rw [List.getElem?_map] at hdd
    cases q : l[i]? with
    | none => rw [q] at hdd; cases hdd
    | some p =>
      rw [q] at hdd
      cases hdd
      have hil : i < l.length := (List.getElem?_eq_some_iff.mp q).1
      have hpp := hp p (List.mem_of_getElem? q)
      refine rg_tup rfl (rgs_cons (rgs_cons (rgs_nil ?_)))
      repeat trivial
      refine call0 (by simp) ⟨n, p, rfl, rfl, hpp.1, hpp.2, fun _ => ?_⟩
      repeat trivial
      refine od_isNo (not_nD (by intro h; cases h)) ⟨_, rfl, iteN rfl ?_⟩
      repeat trivial
      refine re_append ?_
      repeat trivial
      refine ⟨0, _, rfl, rfl, ?_⟩
      repeat trivial
      refine ⟨_, _, rfl, rfl, ?_, hil, ⟨_, _, _, rfl⟩, ?_⟩
      · rw [List.length_map, List.length_take]; omega
      · show [Cell.lst (rsD (l.take i) ++ [prD p])] = _
        rw [take_succ_of q]
        simp [rsD]
  · rintro G' S' ⟨hi, ⟨s1, s2, s3, rfl⟩, rfl⟩
    rw [enumD_length, rsD_len, List.take_length]
    repeat trivial
    refine cb_tuple (.pt rfl) ?_
    exact end_im hR
def W_Market_init : Wp := fun A S R => ∃ (M : Mkt) (C : Addr) (d1 d2 : D), A = [.pt 0, .im (iN M.n), .im d1, .im d2] ∧ S = [.ins C [] []] ∧ C = T.cC "Join" ∧ SqD d1 (rsD M.runs) ∧ SqD d2 (nsD M.gone) ∧ M.Ok ∧ R [.ins C fldN [iN M.n, .tup (rsD M.runs), tN M.gone]] (.im nD)
theorem len_Market_init : ∀ A S R, W_Market_init T A S R → A.length = 4 := by
  rintro A S R ⟨M, C, d1, d2, rfl, _⟩; rfl
theorem ok_Market_init : FnOk c.P c.w c.K mg base CX0 4 (T.f "Market.__init__") (T.fd "Market.__init__") ["self", "size", "runs", "gone"] (spD c (W_Market_init T)) := by
  refine mk_Market_init T (ok_check_number T) (ok_u_runs_of T) (ok_set_of T) (len_Market_init T) ?_
  rintro A S R ⟨M, C, d1, d2, rfl, rfl, rfl, h1, h2, ok, hR⟩
  unfold t_Market_init
  have n1 := ok.n1
  have n8 := ok.n8
  have rl := ok.rl
  refine rs_seq (rs_fld ?_)
  repeat trivial
  refine cn (by omega) (.inr ⟨30, rfl, by omega⟩) ?_
  refine ⟨_, rfl, re_var rfl (by intro h; cases h) ⟨0, _, _, _, rfl, rfl, T.cl_Join, T.at_size, by simp, by decide, ?_⟩⟩
  refine rs_seq (rs_fld ?_)
  repeat trivial
  refine call0 (by simp) ⟨M.n, d1, M.runs, rfl, rfl, h1, ok.run, by omega, fun _ => ?_⟩
  refine ⟨_, rfl, re_var rfl (by intro h; cases h) ⟨0, _, _, _, rfl, rfl, T.cl_Join, T.at_runs, by decide, by decide, ?_⟩⟩
  refine rs_fld (re_call (ra_cons (re_cb (ra_cons (re_fld (re_var rfl (by intro h; cases h) ⟨_, _, _, _, .pt rfl, T.cl_Join, T.at_runs, rfl, ra_nil (cb_len (.tup _) ?_)⟩))))))
  rw [rsD_len]
  repeat trivial
  have gz := ok.gz
  refine call0 (by simp) ⟨M.runs.length, d2, M.gone, rfl, rfl, h2, ok.gs, ok.gl, by omega, fun _ => ?_⟩
  refine ⟨_, rfl, re_var rfl (by intro h; cases h) ⟨0, _, _, _, rfl, rfl, T.cl_Join, T.at_gone, by decide, by decide, ?_⟩⟩
  exact end1_no rfl rfl hR
end
end K78

set_option Elab.async false
set_option linter.all false
set_option maxRecDepth 100000
set_option maxHeartbeats 4000000
namespace K78
open PySem PySem.Spec PyProof.Rows L2 Dt
local macro_rules | `(tactic| trivial) => `(tactic| first
  | with_reducible refine rs_seq ?_ | with_reducible refine rs_set ?_ | with_reducible refine rs_asg ?_ | with_reducible refine rs_ret ?_ | with_reducible refine rs_retN ?_ | with_reducible refine rs_drop ?_ | with_reducible refine rs_next ?_ | with_reducible refine rs_break ?_ | with_reducible refine rs_cont ?_ | with_reducible refine rs_if ?_
  | with_reducible refine re_var (by with_unfolding_all rfl) (by with_unfolding_all exact fun h => nomatch h) ?_ | with_reducible refine re_c ?_ | with_reducible refine ra_nil ?_ | with_reducible refine ra_cons ?_ | with_reducible refine re_cb ?_ | with_reducible refine re_call ?_ | with_reducible refine re_op ?_ | with_reducible refine od_int ?_
  | with_reducible refine re_andV ?_ | with_reducible refine re_orV ?_ | with_reducible refine re_notV ?_ | with_reducible refine re_if ?_ | with_reducible refine rt_test ?_ | with_reducible refine rt_B ?_ | with_reducible refine rt_not ?_ | with_reducible refine rt_and ?_ | with_reducible refine rt_or ?_ | with_reducible refine rt_yes ?_
  | with_reducible refine re_tup ?_ | with_reducible refine re_neg ?_ | refine ⟨_, rfl, ?_⟩)
section
variable {c : Cn} {mg : Str → Option Value} {base : Heap} (T : Tx c.K mg)
variable {G : SG} {S : SC} {Q : SC → Sl → Prop} {ta : TE}
def W_there : Wp := fun A S R => ∃ M : Mkt, A = [.im (mk T M)] ∧ S = [] ∧ M.Ok ∧ R [] (.im (.tupF (nsD M.there)))
theorem len_there : ∀ A S R, W_there T A S R → A.length = 1 := by
  rintro A S R ⟨M, rfl, _⟩; rfl
/-- tuple(range(len(market.runs))) -/
theorem re_all (h : RE c ta G S fun S1 s => ∃ M, s = .im (mk T M) ∧ M.Ok ∧ Q S1 (.im (tN (List.range M.runs.length)))) : RE c (tTupRg (tRg1 (tCB (rLenS c.K) (tCons (tFld c.K ta "runs") tNil)))) G S Q :=
  re_tupRg1 (re_many T (re_mono h fun S1 s ⟨M, e, ok, q⟩ => ⟨M, e, _, rfl, Int.natCast_nonneg _, by have := ok.rl; omega, by
    have : (M.runs.length : Int).toNat = M.runs.length := by omega
    rw [this, rangeD_nat]; exact q⟩))
/-- market.there() -/
theorem re_there (h : RE c ta G S fun S1 s => ∃ M, s = .im (mk T M) ∧ M.Ok ∧ Q S1 (.im (.tupF (nsD M.there)))) : RE c (tMeth (T.cC "Join") "there" (spD c (W_there T)) [] E0 ta tNil) G S Q :=
  re_meth (re_mono h fun S1 s ⟨M, e, ok, q⟩ => by
    subst e
    exact ⟨_, _, .im _ _ _, by unfold fldN; decide, ra_nil (call0 (by simp) ⟨M, rfl, rfl, ok, fun _ => q⟩)⟩)
end
end K78

set_option Elab.async false
set_option linter.all false
set_option maxRecDepth 100000
set_option maxHeartbeats 4000000
namespace K78
open PySem PySem.Spec PyProof.Rows L2 Dt
local macro_rules | `(tactic| trivial) => `(tactic| first
  | with_reducible refine re_many (‹Tx _ _›) ?_ | with_reducible refine re_all (‹Tx _ _›) ?_ | with_reducible refine re_size (‹Tx _ _›) ?_ | with_reducible refine re_runs (‹Tx _ _›) ?_ | with_reducible refine re_gone (‹Tx _ _›) ?_ | with_reducible refine re_KIND (‹Tx _ _›) ?_ | with_reducible refine re_there (‹Tx _ _›) ?_
  | with_reducible refine rs_seq ?_ | with_reducible refine rs_set ?_ | with_reducible refine rs_asg ?_ | with_reducible refine rs_ret ?_ | with_reducible refine rs_retN ?_ | with_reducible refine rs_drop ?_ | with_reducible refine rs_next ?_ | with_reducible refine rs_break ?_ | with_reducible refine rs_cont ?_ | with_reducible refine rs_if ?_
  | with_reducible refine re_var (by with_unfolding_all rfl) (by with_unfolding_all exact fun h => nomatch h) ?_ | with_reducible refine re_c ?_ | with_reducible refine ra_nil ?_ | with_reducible refine ra_cons ?_ | with_reducible refine re_cb ?_ | with_reducible refine re_call ?_ | with_reducible refine re_op ?_ | with_reducible refine od_int ?_
  | with_reducible refine re_andV ?_ | with_reducible refine re_orV ?_ | with_reducible refine re_notV ?_ | with_reducible refine re_if ?_ | with_reducible refine rt_test ?_ | with_reducible refine rt_B ?_ | with_reducible refine rt_not ?_ | with_reducible refine rt_and ?_ | with_reducible refine rt_or ?_ | with_reducible refine rt_yes ?_
  | with_reducible refine re_tup ?_ | with_reducible refine re_neg ?_ | refine ⟨_, rfl, ?_⟩ | refine ⟨‹Mkt.Ok _›, ?_⟩)
section
variable {c : Cn} {mg : Str → Option Value} {base : Heap} (T : Tx c.K mg)
variable {G : SG} {S : SC} {Q : SC → Sl → Prop} {ta : TE}
theorem ok_there : FnOk c.P c.w c.K mg base CX0 2 (T.f "Market.there") (T.fd "Market.there") ["self"] (spD c (W_there T)) := by
  refine mk_Market_there T (ok_minus T) (len_there T) ?_
  rintro A S R ⟨M, rfl, rfl, ok, hR⟩
  unfold t_Market_there
  repeat trivial
  have rl := ok.rl
  have gz := ok.gz
  refine call0 (by simp) ⟨_, _, _, _, rfl, rfl, .tup _, .tup _, by rw [List.length_range]; omega, by omega, fun _ => ?_⟩
  exact end_im hR
/-- a new market -/
abbrev FJ (T : Tx c.K mg) (base : Heap) : Prop := FnOk c.P c.w c.K mg base CX0 5 (T.f "Join.__init__") (T.fd "Join.__init__") ["self", "size", "runs", "gone"] (spD c (W_Market_init T))
theorem re_Join {tr tk : TA} (h : RA c tr G S fun S1 ss => RA c tk G S1 fun S2 zs => ∃ (M : Mkt) (d1 d2 : D), ss = [.im (iN M.n), .im d1] ∧ zs = [.im d2] ∧ SqD d1 (rsD M.runs) ∧ SqD d2 (nsD M.gone) ∧ M.Ok ∧ Q S2 (.im (mk T M))) :
    RE c (tMakeN (T.cC "Join") 2 (List.length (α := Str) ["gone"]) (spD c (W_Market_init T)) (fun vs zs => vs ++ zs) E0 tr tk) G S Q := by
  refine re_make fun F I ps σ τ T' H Qv hl d k => h F I ps σ τ T' H Qv hl d fun I1 ps1 S1 ss vs H1 h1 d1 => k I1 ps1 S1 ss vs H1 (fun F I ps σ τ T' H Qv hl d k => h1 F I ps σ τ T' H Qv hl d fun I2 ps2 S2 zs ws H2 h2 d2 => k I2 ps2 S2 zs ws H2 ?_ d2) d1
  obtain ⟨M, e1, e2, rfl, rfl, s1, s2, ok, q⟩ := h2
  refine ⟨rfl, rfl, by simp, M, _, e1, e2, rfl, rfl, rfl, s1, s2, ok, fldN, _, rfl, rfl, q⟩
theorem Mkt.Ok.gone {M : Mkt} (ok : M.Ok) {g : List Nat} (hs : srt g) (hl : ∀ x ∈ g, x < M.runs.length) : (Mkt.mk M.n M.runs g).Ok := ⟨ok.n1, ok.n8, ok.rl, ok.run, hs, hl⟩
def W_lose : Wp := fun A S R => ∃ (M : Mkt) (d : D) (l : List Nat), A = [.im (mk T M), .im d] ∧ S = [] ∧ M.Ok ∧ SqD d (nsD l) ∧ srt l ∧ (∀ x ∈ l, x < M.runs.length) ∧ ∀ g, srt g → (∀ x, x ∈ g ↔ x ∈ M.gone ∨ x ∈ l) → (Mkt.mk M.n M.runs g).Ok → R [] (.im (mk T ⟨M.n, M.runs, g⟩))
def W_keep : Wp := fun A S R => ∃ (M : Mkt) (d : D) (l : List Nat), A = [.im (mk T M), .im d] ∧ S = [] ∧ M.Ok ∧ SqD d (nsD l) ∧ srt l ∧ (∀ x ∈ l, x < M.runs.length) ∧ ∀ g, srt g → (∀ x, x ∈ g ↔ x ∈ M.gone ∨ (x < M.runs.length ∧ x ∉ l)) → (Mkt.mk M.n M.runs g).Ok → R [] (.im (mk T ⟨M.n, M.runs, g⟩))
def W_others : Wp := fun A S R => ∃ (M : Mkt) (d : D) (l : List Nat), A = [.im (mk T M), .im d] ∧ S = [] ∧ M.Ok ∧ SqD d (nsD l) ∧ srt l ∧ (∀ x ∈ l, x < M.runs.length) ∧ ∀ g, srt g → (∀ x, x ∈ g ↔ x ∈ M.gone ∨ (x < M.runs.length ∧ x ∉ l)) → R [] (.im (tN g))
theorem len_lose : ∀ A S R, W_lose T A S R → A.length = 2 := by rintro A S R ⟨M, d, l, rfl, _⟩; rfl
theorem len_keep : ∀ A S R, W_keep T A S R → A.length = 2 := by rintro A S R ⟨M, d, l, rfl, _⟩; rfl
theorem len_others : ∀ A S R, W_others T A S R → A.length = 2 := by rintro A S R ⟨M, d, l, rfl, _⟩; rfl
theorem ok_lose (GJ : FJ T base) : FnOk c.P c.w c.K mg base CX0 7 (T.f "Join.lose") (T.fd "Join.lose") ["self", "parts"] (spD c (W_lose T)) := by
  refine mk_Join_lose T GJ (ok_both T) (ok_set_of T) (len_lose T) ?_
  rintro A S R ⟨M, d, l, rfl, rfl, ok, hd, hs, hl, hR⟩
  unfold t_Join_lose
  have rl := ok.rl
  have gz := ok.gz
  have lz := Nat.le_trans (srt_le hs hl) rl
  refine rs_ret (re_Join T ?_)
  repeat trivial
  refine call0 (by simp) ⟨_, d, l, rfl, rfl, hd, hs, hl, by omega, fun _ => ?_⟩
  repeat trivial
  refine call0 (by simp) ⟨_, _, _, _, rfl, rfl, .tup _, .tup _, by omega, by omega, fun g sg hg _ => ?_⟩
  have okg : (Mkt.mk M.n M.runs g).Ok := ok.gone sg fun x hx => ((hg x).mp hx).elim (ok.gl x) (hl x)
  repeat trivial
  exact ⟨⟨M.n, M.runs, g⟩, _, _, rfl, rfl, .tup _, .tup _, okg, end_im (hR g sg hg okg)⟩
theorem ok_others : FnOk c.P c.w c.K mg base CX0 4 (T.f "_others") (T.fd "_others") ["market", "parts"] (spD c (W_others T)) := by
  refine mk_u_others T (ok_set_of T) (ok_both T) (ok_minus T) (len_others T) ?_
  rintro A S R ⟨M, d, l, rfl, rfl, ok, hd, hs, hl, hR⟩
  unfold t_u_others
  have rl := ok.rl
  have gz := ok.gz
  have lz := Nat.le_trans (srt_le hs hl) rl
  repeat trivial
  refine call0 (by simp) ⟨_, d, l, rfl, rfl, hd, hs, hl, by omega, fun _ => ?_⟩
  repeat trivial
  refine call0 (by simp) ⟨_, _, _, _, rfl, rfl, .tup _, .tup _, by rw [List.length_range]; omega, by omega, fun _ => ?_⟩
  repeat trivial
  have hz : ((List.range M.runs.length).filter (· ∉ l)).length ≤ 7 := Nat.le_trans (List.length_filter_le _ _) (by rw [List.length_range]; exact rl)
  refine call0 (by simp) ⟨_, _, _, _, rfl, rfl, .tup _, .tupF _, by omega, by omega, fun g sg hg _ => ?_⟩
  exact end_im (hR g sg fun x => by rw [hg, List.mem_filter, List.mem_range]; simp)
theorem ok_keep (GJ : FJ T base) : FnOk c.P c.w c.K mg base CX0 7 (T.f "Join.keep") (T.fd "Join.keep") ["self", "parts"] (spD c (W_keep T)) := by
  refine mk_Join_keep T GJ (ok_others T) (len_keep T) ?_
  rintro A S R ⟨M, d, l, rfl, rfl, ok, hd, hs, hl, hR⟩
  unfold t_Join_keep
  refine rs_ret (re_Join T ?_)
  repeat trivial
  refine call0 (by simp) ⟨M, d, l, rfl, rfl, ok, hd, hs, hl, fun g sg hg _ => ?_⟩
  have okg : (Mkt.mk M.n M.runs g).Ok := ok.gone sg fun x hx => ((hg x).mp hx).elim (ok.gl x) (·.1)
  repeat trivial
  exact ⟨⟨M.n, M.runs, g⟩, _, _, rfl, rfl, .tup _, .tup _, okg, end_im (hR g sg hg okg)⟩
/-! ### checks -/
def W_check_join : Wp := fun A S R => ∃ M : Mkt, A = [.im (mk T M)] ∧ S = [] ∧ R [] (.im nD)
theorem len_check_join : ∀ A S R, W_check_join T A S R → A.length = 1 := by rintro A S R ⟨M, rfl, _⟩; rfl
theorem ok_check_join : FnOk c.P c.w c.K mg base CX0 1 (T.f "check_join") (T.fd "check_join") ["market"] (spD c (W_check_join T)) := by
  refine mk_check_join T (len_check_join T) ?_
  rintro A S R ⟨M, rfl, rfl, hR⟩
  unfold t_check_join
  repeat trivial
  refine Dt.od_ne (by rfl) ?_
  refine ⟨_, rfl, iteN (by simp) ?_⟩
  exact rs_next (end_no hR)
def W_check_few : Wp := fun A S R => ∃ M : Mkt, A = [.im (mk T M)] ∧ S = [] ∧ M.Ok ∧ R [] (.im nD)
theorem len_check_few : ∀ A S R, W_check_few T A S R → A.length = 1 := by rintro A S R ⟨M, rfl, _⟩; rfl
theorem ok_check_few : FnOk c.P c.w c.K mg base CX0 3 (T.f "check_few") (T.fd "check_few") ["market"] (spD c (W_check_few T)) := by
  refine mk_check_few T (ok_there T) (len_check_few T) ?_
  rintro A S R ⟨M, rfl, rfl, ok, hR⟩
  unfold t_check_few
  repeat trivial
  refine cb_len (.tupF _) ?_
  repeat trivial
  have := M.there_len
  have := ok.rl
  refine iteN (decide_eq_false (by rw [nsD_len]; omega)) ?_
  exact rs_next (end_no hR)
def W_check_part : Wp := fun A S R => ∃ (M : Mkt) (p : Nat), A = [.im (mk T M), .im (iN p)] ∧ S = [] ∧ p < M.runs.length ∧ R [] (.im (iN p))
theorem len_check_part : ∀ A S R, W_check_part T A S R → A.length = 2 := by rintro A S R ⟨M, p, rfl, _⟩; rfl
theorem ok_check_part : FnOk c.P c.w c.K mg base CX0 2 (T.f "check_part") (T.fd "check_part") ["market", "part"] (spD c (W_check_part T)) := by
  refine mk_check_part T (ok_is_int T) (len_check_part T) ?_
  rintro A S R ⟨M, p, rfl, rfl, hp, hR⟩
  unfold t_check_part
  repeat trivial
  refine isI ⟨_, rfl, iteN rfl ?_⟩
  repeat trivial
  refine iteN (decide_eq_false (by omega)) ?_
  repeat trivial
  refine iteN (decide_eq_false (by omega)) ?_
  repeat trivial
  exact end_im hR
def W_part_there : Wp := fun A S R => ∃ (M : Mkt) (p : Nat), A = [.im (mk T M), .im (iN p)] ∧ S = [] ∧ p ∈ M.there ∧ R [] (.im (iN p))
theorem len_part_there : ∀ A S R, W_part_there T A S R → A.length = 2 := by rintro A S R ⟨M, p, rfl, _⟩; rfl
theorem ok_part_there : FnOk c.P c.w c.K mg base CX0 3 (T.f "part_there") (T.fd "part_there") ["market", "part"] (spD c (W_part_there T)) := by
  refine mk_part_there T (ok_check_part T) (len_part_there T) ?_
  rintro A S R ⟨M, p, rfl, rfl, hp, hR⟩
  unfold t_part_there
  have hp' := Mkt.mem_there.mp hp
  repeat trivial
  refine call0 (by simp) ⟨M, p, rfl, rfl, hp'.1, fun _ => ?_⟩
  repeat trivial
  refine od_inI (ns := M.gone.map fun n : Nat => (n : Int)) (by rw [← nsD_map]; exact .tup _) ?_
  refine ⟨_, rfl, iteN ?_ ?_⟩
  · rw [if_neg Bool.false_ne_true]
    refine decide_eq_false fun h => hp'.2 ?_
    obtain ⟨m, hm, e⟩ := List.mem_map.mp h
    have : m = p := by omega
    exact this ▸ hm
  repeat trivial
  exact end_im hR
end
end K78

set_option Elab.async false
set_option linter.all false
set_option maxRecDepth 100000
set_option maxHeartbeats 4000000
namespace K78
open PySem PySem.Spec PyProof.Rows L2 Dt
local macro_rules | `(tactic| trivial) => `(tactic| first
  | with_reducible refine re_many (‹Tx _ _›) ?_ | with_reducible refine re_all (‹Tx _ _›) ?_ | with_reducible refine re_size (‹Tx _ _›) ?_ | with_reducible refine re_runs (‹Tx _ _›) ?_ | with_reducible refine re_gone (‹Tx _ _›) ?_ | with_reducible refine re_KIND (‹Tx _ _›) ?_ | with_reducible refine re_there (‹Tx _ _›) ?_
  | with_reducible refine rs_seq ?_ | with_reducible refine rs_set ?_ | with_reducible refine rs_asg ?_ | with_reducible refine rs_ret ?_ | with_reducible refine rs_retN ?_ | with_reducible refine rs_drop ?_ | with_reducible refine rs_next ?_ | with_reducible refine rs_break ?_ | with_reducible refine rs_cont ?_ | with_reducible refine rs_if ?_
  | with_reducible refine re_var (by with_unfolding_all rfl) (by with_unfolding_all exact fun h => nomatch h) ?_ | with_reducible refine re_c ?_ | with_reducible refine ra_nil ?_ | with_reducible refine ra_cons ?_ | with_reducible refine re_cb ?_ | with_reducible refine re_call ?_ | with_reducible refine re_op ?_ | with_reducible refine od_int ?_
  | with_reducible refine re_andV ?_ | with_reducible refine re_orV ?_ | with_reducible refine re_notV ?_ | with_reducible refine re_if ?_ | with_reducible refine rt_test ?_ | with_reducible refine rt_B ?_ | with_reducible refine rt_not ?_ | with_reducible refine rt_and ?_ | with_reducible refine rt_or ?_ | with_reducible refine rt_yes ?_
  | with_reducible refine re_tup ?_ | with_reducible refine re_neg ?_ | refine ⟨_, rfl, ?_⟩ | refine ⟨‹Mkt.Ok _›, ?_⟩)
/-! ### covers -/
def Mkt.b (M : Mkt) (q : Nat) : Nat := (M.runs.getD q (0, 0)).1
def Mkt.e (M : Mkt) (q : Nat) : Nat := (M.runs.getD q (0, 0)).2
def Mkt.cv (M : Mkt) (q p : Nat) : Bool := decide (M.b q ≤ p ∧ p < M.e q)
/-- how many of the parts lie over the place -/
def Mkt.cnt (M : Mkt) (l : List Nat) (p : Nat) : Nat := (l.filter fun q => M.cv q p).length
def Mkt.cov (M : Mkt) (l : List Nat) : List Nat := (List.range M.n).map (M.cnt l)
theorem Mkt.run_get {M : Mkt} {q : Nat} (h : q < M.runs.length) : M.runs[q]? = some (M.b q, M.e q) := by
  unfold Mkt.b Mkt.e
  rw [List.getD_eq_getElem?_getD, List.getElem?_eq_getElem h]
  rfl
theorem Mkt.Ok.be {M : Mkt} (ok : M.Ok) {q : Nat} (h : q < M.runs.length) : M.b q < M.e q ∧ M.e q ≤ M.n := by
  have := ok.run _ (List.mem_of_getElem? (Mkt.run_get h))
  exact this
/-- what a part adds at a point -/
def Mkt.dl (M : Mkt) (q i : Nat) : Int := (if M.b q = i then 1 else 0) - (if M.e q = i then 1 else 0)
def Mkt.ris (M : Mkt) : List Nat → Nat → Int
  | [], _ => 0
  | q :: l, i => M.dl q i + M.ris l i
theorem Mkt.ris_snoc (M : Mkt) (q i : Nat) : ∀ l : List Nat, M.ris (l ++ [q]) i = M.ris l i + M.dl q i
  | [] => by simp [Mkt.ris]
  | x :: l => by
    show M.dl x i + M.ris (l ++ [q]) i = M.dl x i + M.ris l i + M.dl q i
    rw [Mkt.ris_snoc M q i l]; omega
/-- the sum of the first ones -/
def psum (f : Nat → Int) : Nat → Int
  | 0 => 0
  | n + 1 => psum f n + f n
theorem psum_add (f g : Nat → Int) : ∀ n, psum (fun i => f i + g i) n = psum f n + psum g n
  | 0 => rfl
  | n + 1 => by show psum _ n + (f n + g n) = _; rw [psum_add f g n]; show _ = psum f n + f n + (psum g n + g n); omega
theorem psum_zero : ∀ n, psum (fun _ => 0) n = 0
  | 0 => rfl
  | n + 1 => by show psum _ n + 0 = 0; rw [psum_zero n]; rfl
theorem psum_dl (M : Mkt) (q : Nat) : ∀ n, psum (M.dl q) n = (if M.b q < n then 1 else 0) - (if M.e q < n then 1 else 0)
  | 0 => rfl
  | n + 1 => by
    show psum (M.dl q) n + M.dl q n = _
    rw [psum_dl M q n]
    unfold Mkt.dl
    by_cases h1 : M.b q < n <;> by_cases h2 : M.e q < n <;> by_cases h3 : M.b q = n <;> by_cases h4 : M.e q = n <;> simp [h1, h2, h3, h4] <;> (repeat' split) <;> omega
theorem Mkt.psum_ris {M : Mkt} (ok : M.Ok) (p : Nat) : ∀ l : List Nat, (∀ q ∈ l, q < M.runs.length) → psum (M.ris l) (p + 1) = (M.cnt l p : Int)
  | [], _ => psum_zero _
  | q :: l, h => by
    have e : (M.ris (q :: l)) = fun i => M.dl q i + M.ris l i := rfl
    rw [e, psum_add, psum_dl, Mkt.psum_ris ok p l fun x hx => h x (List.mem_cons_of_mem _ hx)]
    have hb := ok.be (h q List.mem_cons_self)
    unfold Mkt.cnt
    rw [List.filter_cons]
    unfold Mkt.cv
    by_cases h1 : M.b q ≤ p <;> by_cases h2 : p < M.e q
    · have a1 : M.b q < p + 1 := by omega
      have a2 : ¬ M.e q < p + 1 := by omega
      simp [h1, h2, a1, a2]; omega
    · have a1 : M.b q < p + 1 := by omega
      have a2 : M.e q < p + 1 := by omega
      simp [h1, h2, a1, a2]
    · have a1 : ¬ M.b q < p + 1 := by omega
      have a2 : ¬ M.e q < p + 1 := by omega
      simp [h1, h2, a1, a2]
    · omega
theorem set_range {α : Type} {f : Nat → α} {m j : Nat} {v : α} (h : j < m) : ((List.range m).map f).set j v = (List.range m).map fun i => if i = j then v else f i := by
  apply List.ext_getElem?
  intro i
  rw [List.getElem?_set, List.getElem?_map]
  by_cases hi : i < m
  · rw [List.getElem?_map, List.getElem?_range hi]
    by_cases hj : j = i
    · subst hj; simp [h]
    · have : ¬ i = j := fun e => hj e.symm
      simp [hj, this]
  · have e1 : (List.range m)[i]? = none := List.getElem?_eq_none (by simp; omega)
    rw [List.getElem?_map, e1]
    by_cases hj : j = i
    · omega
    · simp [hj]
section
variable {c : Cn} {mg : Str → Option Value} {base : Heap} (T : Tx c.K mg)
variable {G : SG} {S : SC} {Q : SC → Sl → Prop} {ta : TE}
theorem ixN_nat {m i : Nat} (h : i < m) : ixN m (i : Int) = some i := by
  unfold ixN
  rw [if_pos (by omega), if_pos (by omega)]; simp
/-- x[i], i natural, the item known -/
theorem od_ixN {s : Sl} {l : List D} {i : Nat} {e : D} (h : SeqOf S s l) (hi : l[i]? = some e) (q : Q S (.im e)) : OpD c (rIx c.K) S s (.im (iN i)) Q := od_ix h (atI_nat hi) q
def W_u_cover : Wp := fun A S R => ∃ (M : Mkt) (l : List Nat), A = [.im (mk T M), .im (tN l)] ∧ S = [] ∧ M.Ok ∧ (∀ q ∈ l, q < M.runs.length) ∧ l.length ≤ 1000 ∧ R [] (.im (tN (M.cov l)))
theorem len_u_cover : ∀ A S R, W_u_cover T A S R → A.length = 2 := by rintro A S R ⟨M, l, rfl, _⟩; rfl
theorem ok_u_cover : FnOk c.P c.w c.K mg base CX0 1 (T.f "_cover") (T.fd "_cover") ["market", "parts"] (spD c (W_u_cover T)) := by
  refine mk_u_cover T (len_u_cover T) ?_
  rintro A S R ⟨M, l, rfl, rfl, ok, hl, hz, hR⟩
  unfold t_u_cover
  have n1 := ok.n1
  have n8 := ok.n8
  refine rs_seq (rs_set (re_lcW true (gon_name (by simp)) (rw_rng1 ?_)))
  repeat trivial
  refine ⟨by omega, by omega, by rw [rangeD_length]; omega, fun i S' acc => S' = [] ∧ acc = (List.range i).map (fun _ => iD 0), ⟨rfl, rfl⟩, ?_, ?_⟩
  · rintro i e S' acc he _ ⟨rfl, rfl⟩
    refine rg_name (rt_yes (iteY rfl (re_c ⟨_, rfl, rfl, ?_⟩)))
    rw [List.range_succ, List.map_append]; rfl
  rintro S' acc _ ⟨rfl, rfl⟩
  rw [if_pos rfl, rangeD_length]
  have e1 : ((M.n : Int) + 1).toNat = M.n + 1 := by omega
  rw [e1]
  let rs (done : List Nat) : Cell := .lst ((List.range (M.n + 1)).map fun i => iD (M.ris done i))
  refine rs_seq (rs_for (rw_tup ?_))
  repeat trivial
  refine ⟨nsD l, .inl rfl, fun i G S => i ≤ l.length ∧ (∃ s1 s2 s3, G = [.im (mk T M), .im (tN l), .pt 0, s1, s2, s3, .no, .no, .no, .no]) ∧ S = [rs (l.take i)], ⟨Nat.zero_le _, ⟨_, _, _, rfl⟩, rfl⟩, ?_, ?_⟩
  · rintro i e G' S' he ⟨hi, ⟨s1, s2, s3, rfl⟩, rfl⟩
    obtain ⟨q, hq, rfl⟩ := nsD_get he
    have hil : i < l.length := (List.getElem?_eq_some_iff.mp hq).1
    have hqr := hl q (List.mem_of_getElem? hq)
    have be := ok.be hqr
    refine rg_name ?_
    repeat trivial
    refine od_ixN (e := prD (M.b q, M.e q)) (.tup _) (by rw [List.getElem?_map, Mkt.run_get hqr]; rfl) ?_
    refine rg_tup rfl (rgs_cons (rgs_cons (rgs_nil ?_)))
    refine rs_seq (rs_augS ?_)
    repeat trivial
    refine ⟨(M.b q : Int), M.ris (l.take i) (M.b q), _, M.b q, rfl, rfl, ixN_nat (by simp; omega), ?_, ?_⟩
    · rw [List.getElem?_map, List.getElem?_range (by omega)]; rfl
    repeat trivial
    refine ⟨_, _, rfl, rfl, ixN_nat (by simp; omega), ?_⟩
    refine rs_augS ?_
    repeat trivial
    refine ⟨(M.e q : Int), M.ris (l.take i) (M.e q), _, M.e q, rfl, rfl, ixN_nat (by simp; omega), ?_, ?_⟩
    · rw [set_range (by omega), List.getElem?_map, List.getElem?_range (by omega)]
      have : ¬ M.e q = M.b q := by omega
      simp [this]
    repeat trivial
    refine ⟨_, _, rfl, rfl, ixN_nat (by simp; omega), ?_⟩
    refine ⟨hil, ⟨_, _, _, rfl⟩, ?_⟩
    show [Cell.lst _] = [Cell.lst _]
    rw [set_range (by omega), set_range (by omega), take_succ_of hq]
    congr 2
    refine List.map_congr_left fun j _ => ?_
    rw [Mkt.ris_snoc]
    unfold Mkt.dl
    by_cases h1 : j = M.e q
    · subst h1
      have h2 : ¬ M.b q = M.e q := by omega
      simp [h2]; rfl
    · by_cases h2 : j = M.b q
      · subst h2
        have h3 : ¬ M.e q = M.b q := by omega
        have h4 : ¬ M.b q = M.e q := by omega
        simp [h3, h4]
      · have h3 : ¬ M.e q = j := fun e => h1 e.symm
        have h4 : ¬ M.b q = j := fun e => h2 e.symm
        simp [h1, h2, h3, h4]
  rintro G' S' ⟨_, ⟨s1, s2, s3, rfl⟩, rfl⟩
  rw [nsD_len, List.take_length]
  refine rs_seq (rs_set (re_lstO (ra_nil ⟨[], rfl, by simp, ?_⟩)))
  repeat trivial
  refine rs_for (rw_rng1 ?_)
  repeat trivial
  refine ⟨by omega, by omega, fun i G S => i ≤ M.n ∧ (∃ s, G = [.im (mk T M), .im (tN l), .pt 0, s1, s2, s3, .pt 1, .im (iD (psum (M.ris l) i)), s, .no]) ∧ S = [rs l, .lst ((List.range i).map fun p => iN (M.cnt l p))], ⟨Nat.zero_le _, ⟨_, rfl⟩, rfl⟩, ?_, ?_⟩
  · rintro i e G' S' he ⟨hi, ⟨s, rfl⟩, rfl⟩
    obtain ⟨hi2, rfl⟩ := rangeD_get he
    have hin : i < M.n := by omega
    refine rg_name ?_
    rw [Int.zero_add]
    repeat trivial
    refine od_ixN (e := iD (M.ris l i)) (.lst (.pt rfl)) (by rw [List.getElem?_map, List.getElem?_range (by omega)]; rfl) ?_
    repeat trivial
    refine re_append ?_
    repeat trivial
    refine ⟨1, _, rfl, rfl, ?_⟩
    repeat trivial
    refine ⟨_, _, rfl, rfl, by simp; omega, hin, ⟨_, rfl⟩, ?_⟩
    show [rs l, Cell.lst _] = _
    have e2 : psum (M.ris l) i + M.ris l i = (M.cnt l i : Int) := Mkt.psum_ris ok i l hl
    rw [List.range_succ, List.map_append, e2]
    rfl
  rintro G' S' ⟨_, ⟨s, rfl⟩, rfl⟩
  rw [rangeD_length]
  repeat trivial
  refine cb_tuple (.pt rfl) ?_
  refine end_im ?_
  have e3 : (M.n : Int).toNat = M.n := by omega
  rw [e3]
  unfold Mkt.cov at hR
  unfold tN nsD at hR
  rw [List.map_map] at hR
  exact hR
def W_cover : Wp := fun A S R => ∃ (M : Mkt) (d : D) (l : List Nat), A = [.im (mk T M), .im d] ∧ S = [] ∧ M.Ok ∧ SqD d (nsD l) ∧ srt l ∧ (∀ q ∈ l, q < M.runs.length) ∧ R [] (.im (tN (M.cov l)))
theorem len_cover : ∀ A S R, W_cover T A S R → A.length = 2 := by rintro A S R ⟨M, d, l, rfl, _⟩; rfl
theorem ok_cover : FnOk c.P c.w c.K mg base CX0 4 (T.f "cover") (T.fd "cover") ["market", "parts"] (spD c (W_cover T)) := by
  refine mk_cover T (ok_u_cover T) (ok_set_of T) (len_cover T) ?_
  rintro A S R ⟨M, d, l, rfl, rfl, ok, hd, hs, hl, hR⟩
  unfold t_cover
  have rl := ok.rl
  have lz := Nat.le_trans (srt_le hs hl) rl
  repeat trivial
  refine call0 (by simp) ⟨_, d, l, rfl, rfl, hd, hs, hl, by omega, fun _ => ?_⟩
  repeat trivial
  exact call0 (by simp) ⟨M, l, rfl, rfl, ok, hl, by omega, fun _ => end_im hR⟩
end
end K78

set_option Elab.async false
set_option linter.all false
set_option maxRecDepth 100000
set_option maxHeartbeats 4000000
namespace K78
open PySem PySem.Spec PyProof.Rows L2 Dt
local macro_rules | `(tactic| trivial) => `(tactic| first
  | with_reducible refine re_many (‹Tx _ _›) ?_ | with_reducible refine re_all (‹Tx _ _›) ?_ | with_reducible refine re_size (‹Tx _ _›) ?_ | with_reducible refine re_runs (‹Tx _ _›) ?_ | with_reducible refine re_gone (‹Tx _ _›) ?_ | with_reducible refine re_KIND (‹Tx _ _›) ?_ | with_reducible refine re_there (‹Tx _ _›) ?_
  | with_reducible refine rs_seq ?_ | with_reducible refine rs_set ?_ | with_reducible refine rs_asg ?_ | with_reducible refine rs_ret ?_ | with_reducible refine rs_retN ?_ | with_reducible refine rs_drop ?_ | with_reducible refine rs_next ?_ | with_reducible refine rs_break ?_ | with_reducible refine rs_cont ?_ | with_reducible refine rs_if ?_
  | with_reducible refine re_var (by with_unfolding_all rfl) (by with_unfolding_all exact fun h => nomatch h) ?_ | with_reducible refine re_c ?_ | with_reducible refine ra_nil ?_ | with_reducible refine ra_cons ?_ | with_reducible refine re_cb ?_ | with_reducible refine re_call ?_ | with_reducible refine re_op ?_ | with_reducible refine od_int ?_
  | with_reducible refine re_andV ?_ | with_reducible refine re_orV ?_ | with_reducible refine re_notV ?_ | with_reducible refine re_if ?_ | with_reducible refine rt_test ?_ | with_reducible refine rt_B ?_ | with_reducible refine rt_not ?_ | with_reducible refine rt_and ?_ | with_reducible refine rt_or ?_ | with_reducible refine rt_yes ?_
  | with_reducible refine re_tup ?_ | with_reducible refine re_neg ?_ | refine ⟨_, rfl, ?_⟩ | refine ⟨‹Mkt.Ok _›, ?_⟩)
/-- the row of a demand: the same number over all places, or the numbers told -/
inductive DemD (M : Mkt) : D → List Nat → Prop
  | num (k : Nat) : DemD M (iN k) (List.replicate M.n k)
  | seq {d : D} {l : List Nat} (h : SqD d (nsD l)) (hl : l.length = M.n) (hf : ∀ m, d ≠ .tupF m) : DemD M d l
theorem DemD.row {M : Mkt} {l : List Nat} (h : l.length = M.n) : DemD M (tN l) l := .seq (.tup _) h fun m => by intro e; cases e
theorem DemD.len {M : Mkt} {d : D} {l : List Nat} (h : DemD M d l) : l.length = M.n := by
  cases h with
  | num k => simp
  | seq _ h _ => exact h
theorem cov_len {M : Mkt} {l : List Nat} : (M.cov l).length = M.n := by unfold Mkt.cov; simp
/-- what begins at each point -/
def bgs : Int → List Nat → List Int
  | b, [] => [-b]
  | b, x :: l => ((x : Int) - b) :: bgs x l
section
variable {c : Cn} {mg : Str → Option Value} {base : Heap} (T : Tx c.K mg)
variable {G : SG} {S : SC} {Q : SC → Sl → Prop} {ta : TE}
def W_demand_of : Wp := fun A S R => ∃ (M : Mkt) (d : D) (l : List Nat), A = [.im (mk T M), .im d] ∧ S = [] ∧ M.Ok ∧ DemD M d l ∧ R [] (.im (tN l))
theorem len_demand_of : ∀ A S R, W_demand_of T A S R → A.length = 2 := by rintro A S R ⟨M, d, l, rfl, _⟩; rfl
theorem kit_seqi : kitB "list" "int" = some false ∧ kitB "list" "bool" = some false ∧ kitB "tuple" "int" = some false ∧ kitB "tuple" "bool" = some false := by decide +kernel
/-- is_int of a sequence -/
theorem isS {e : D} {l : List D} (h : SqD e l) (q : Q S (.im (bD false))) : CallD c W_is_int [.im e] S Q := by
  cases h with
  | lst => exact call0 (by simp) ⟨_, "list", rfl, rfl, rfl, ⟨kit_seqi.1, kit_seqi.2.1⟩, fun _ => q⟩
  | rl => exact call0 (by simp) ⟨_, "list", rfl, rfl, rfl, ⟨kit_seqi.1, kit_seqi.2.1⟩, fun _ => q⟩
  | tup => exact call0 (by simp) ⟨_, "tuple", rfl, rfl, rfl, ⟨kit_seqi.2.2.1, kit_seqi.2.2.2⟩, fun _ => q⟩
  | tupF => exact call0 (by simp) ⟨_, "tuple", rfl, rfl, rfl, ⟨kit_seqi.2.2.1, kit_seqi.2.2.2⟩, fun _ => q⟩
/-- tuple(x) of a sequence that is no tuple(list) -/
theorem cb_tupS {e : D} {l : List D} (h : SqD e l) (q : Q S (.im (.tup l))) (q' : e = .tupF l → Q S (.im (.tupF l))) : CbD c (rTupS c.K) [.im e] S Q := by
  cases h with
  | lst => exact cb_tuple (.im _) q
  | tup => exact cb_tupleT q
  | rl =>
    intro F I ps σ G H vs Qv d hs k
    obtain ⟨v, rfl, ok⟩ := slots1 hs
    obtain ⟨p, xs, rfl, h1, h2⟩ := rl_at d.ex ok.holds
    exact ⟨p, xs, rfl, .inl ⟨h1, fun r hr => k _ ps S _ _ _ q ((d.newIm hr).push1 (.im (.tup (.inl upd_same) (h2.mono (Ex.new (d.ex.none hr))))))⟩⟩
  | tupF =>
    intro F I ps σ G H vs Qv d hs k
    obtain ⟨v, rfl, ok⟩ := slots1 hs
    obtain ⟨p, ob, xs, rfl, h1, _, h2⟩ := tupF_at d.ex ok.holds
    exact ⟨p, xs, rfl, .inr ⟨.inl (.inr ⟨ob, h1⟩), k I ps S _ _ _ (q' rfl) (d.push1 ok)⟩⟩
theorem ok_demand_of : FnOk c.P c.w c.K mg base CX0 2 (T.f "demand_of") (T.fd "demand_of") ["market", "demand"] (spD c (W_demand_of T)) := by
  refine mk_demand_of T (ok_is_int T) (len_demand_of T) ?_
  rintro A S R ⟨M, d, l, rfl, rfl, ok, hd, hR⟩
  unfold t_demand_of
  have n1 := ok.n1
  have n8 := ok.n8
  cases hd with
  | num k =>
    repeat trivial
    refine isI ⟨_, rfl, iteY rfl ?_⟩
    refine rs_ret (re_cb (ra_cons (re_lcW false (gon_name (by simp)) (rw_rng1 ?_))))
    repeat trivial
    refine ⟨by omega, by omega, by rw [rangeD_length]; omega, fun i S' acc => S' = [] ∧ acc = List.replicate i (iN k), ⟨rfl, rfl⟩, ?_, ?_⟩
    · rintro i e S' acc he _ ⟨rfl, rfl⟩
      refine rg_name (rt_yes (iteY rfl (re_var rfl (by intro h; cases h) ⟨_, rfl, rfl, ?_⟩)))
      rw [List.replicate_succ', ]
    · rintro S' acc _ ⟨rfl, rfl⟩
      rw [if_neg Bool.false_ne_true, rangeD_length]
      have e3 : (M.n : Int).toNat = M.n := by omega
      rw [e3]
      repeat trivial
      refine cb_tuple (.im _) ?_
      refine end_im ?_
      unfold tN nsD at hR
      rw [List.map_replicate] at hR
      exact hR
  | seq h hl hf =>
    repeat trivial
    refine isS h ⟨_, rfl, iteN rfl ?_⟩
    trivial
    trivial
    refine rs_if (rt_or (rt_not (rt_B (re_seqT ?_))))
    repeat trivial
    refine ⟨_, _, rfl, h, _, rfl, iteN rfl ?_⟩
    repeat trivial
    refine cb_len h.seq ?_
    repeat trivial
    refine Dt.od_ne (by rfl) ?_
    refine ⟨_, rfl, iteN (by rw [nsD_len, hl]; simp) ?_⟩
    repeat trivial
    refine rs_for (rw_enum ?_)
    repeat trivial
    refine ⟨_, _, rfl, h, fun i G S => (∃ s1 s2 s3, G = [.im (mk T M), .im d, s1, s2, s3]) ∧ S = [], ⟨⟨_, _, _, rfl⟩, rfl⟩, ?_, ?_⟩
    · rintro i e G' S' he ⟨⟨s1, s2, s3, rfl⟩, rfl⟩
      obtain ⟨dd, hdd, rfl⟩ := enumD_get he
      obtain ⟨n, hn, rfl⟩ := nsD_get hdd
      refine rg_tup rfl (rgs_cons (rgs_cons (rgs_nil ?_)))
      repeat trivial
      refine isI ⟨_, rfl, iteN rfl ?_⟩
      repeat trivial
      exact ⟨⟨_, _, _, rfl⟩, rfl⟩
    · rintro G' S' ⟨⟨s1, s2, s3, rfl⟩, rfl⟩
      repeat trivial
      exact cb_tupS h (end_im hR) fun e => absurd e (hf _)
/-! ### points, begins -/
def W_points_of : Wp := fun A S R => ∃ (M : Mkt) (a b : Nat), A = [.im (mk T M), .im (.tup [iN a, iN b])] ∧ S = [] ∧ a ≤ M.n ∧ b ≤ M.n ∧ R [] (.im (.tup [iN a, iN b]))
theorem len_points_of : ∀ A S R, W_points_of T A S R → A.length = 2 := by rintro A S R ⟨M, a, b, rfl, _⟩; rfl
theorem ok_points_of : FnOk c.P c.w c.K mg base CX0 2 (T.f "points_of") (T.fd "points_of") ["market", "run"] (spD c (W_points_of T)) := by
  refine mk_points_of T (ok_is_int T) (len_points_of T) ?_
  rintro A S R ⟨M, a, b, rfl, rfl, ha, hb, hR⟩
  unfold t_points_of
  refine rs_seq (rs_if (rt_or (rt_not (rt_B (re_seqT ?_)))))
  repeat trivial
  refine ⟨_, _, rfl, .tup _, _, rfl, iteN rfl ?_⟩
  repeat trivial
  refine cb_len (.tup _) ?_
  repeat trivial
  refine Dt.od_ne (by rfl) ?_
  refine ⟨_, rfl, iteN (by simp) ?_⟩
  repeat trivial
  refine rs_for (rw_tup ?_)
  repeat trivial
  refine ⟨nsD [a, b], .inl rfl, fun i G S => (∃ s1, G = [.im (mk T M), .im (.tup [iN a, iN b]), s1]) ∧ S = [], ⟨⟨_, rfl⟩, rfl⟩, ?_, ?_⟩
  · rintro i e G' S' he ⟨⟨s1, rfl⟩, rfl⟩
    obtain ⟨n, hn, rfl⟩ := nsD_get he
    have hle : n ≤ M.n := by
      have := List.mem_of_getElem? hn
      simp at this
      rcases this with rfl | rfl
      · exact ha
      · exact hb
    refine rg_name ?_
    repeat trivial
    refine isI ⟨_, rfl, iteN rfl ?_⟩
    repeat trivial
    refine iteN (decide_eq_false (by omega)) ?_
    repeat trivial
    refine iteN (decide_eq_false (by omega)) ?_
    repeat trivial
    exact ⟨⟨_, rfl⟩, rfl⟩
  · rintro G' S' ⟨⟨s1, rfl⟩, rfl⟩
    repeat trivial
    refine od_ixN (i := 0) (.tup _) rfl ?_
    repeat trivial
    refine od_ixN (i := 1) (.tup _) rfl ?_
    repeat trivial
    exact ⟨[iN a, iN b], rfl, by simp, end_im hR⟩
def W_begins : Wp := fun A S R => ∃ (M : Mkt) (d : D) (l : List Nat), A = [.im (mk T M), .im d] ∧ S = [] ∧ M.Ok ∧ DemD M d l ∧ R [] (.im (.tup ((bgs 0 l).map iD)))
theorem len_begins : ∀ A S R, W_begins T A S R → A.length = 2 := by rintro A S R ⟨M, d, l, rfl, _⟩; rfl
theorem bgs_split : ∀ (a : List Nat) (x : Nat) (b : Int), bgs b (a ++ [x]) = (bgs b (a ++ [x])).dropLast ++ [-(x : Int)]
  | [], x, b => rfl
  | y :: a, x, b => by
    show ((y : Int) - b) :: bgs y (a ++ [x]) = ((((y : Int) - b) :: bgs y (a ++ [x])).dropLast) ++ [-(x : Int)]
    have hne : bgs (y : Int) (a ++ [x]) ≠ [] := by cases a <;> exact fun h => by cases h
    rw [List.dropLast_cons_of_ne_nil hne, List.cons_append, ← bgs_split a x y]
/-- the differences told so far -/
def dfs : Int → List Nat → List Int
  | _, [] => []
  | b, x :: l => ((x : Int) - b) :: dfs x l
def lastI : Int → List Nat → Int
  | b, [] => b
  | _, x :: l => lastI x l
theorem bgs_eq : ∀ (l : List Nat) (b : Int), bgs b l = dfs b l ++ [-(lastI b l)]
  | [], b => rfl
  | x :: l, b => by show _ :: bgs x l = _; rw [bgs_eq l x]; rfl
theorem dfs_snoc : ∀ (l : List Nat) (x : Nat) (b : Int), dfs b (l ++ [x]) = dfs b l ++ [(x : Int) - lastI b l]
  | [], x, b => rfl
  | y :: l, x, b => by show _ :: dfs y (l ++ [x]) = _; rw [dfs_snoc l x y]; rfl
theorem lastI_snoc : ∀ (l : List Nat) (x : Nat) (b : Int), lastI b (l ++ [x]) = x
  | [], x, b => rfl
  | y :: l, x, b => lastI_snoc l x y
theorem dfs_len : ∀ (l : List Nat) (b : Int), (dfs b l).length = l.length
  | [], b => rfl
  | x :: l, b => by show (dfs x l).length + 1 = l.length + 1; rw [dfs_len l x]
theorem ok_begins : FnOk c.P c.w c.K mg base CX0 3 (T.f "begins") (T.fd "begins") ["market", "demand"] (spD c (W_begins T)) := by
  refine mk_begins T (ok_demand_of T) (len_begins T) ?_
  rintro A S R ⟨M, d, l, rfl, rfl, ok, hd, hR⟩
  unfold t_begins
  have n8 := ok.n8
  have hl := hd.len
  repeat trivial
  refine call0 (by simp) ⟨M, d, l, rfl, rfl, ok, hd, fun _ => ?_⟩
  refine rs_seq (rs_set (re_lstO (ra_nil ⟨[], rfl, by simp, ?_⟩)))
  repeat trivial
  refine rs_for (rw_tup ?_)
  repeat trivial
  refine ⟨nsD l, .inl rfl, fun i G S => i ≤ l.length ∧ (∃ s1, G = [.im (mk T M), .im d, .im (tN l), .pt 0, .im (iD (lastI 0 (l.take i))), s1]) ∧ S = [.lst ((dfs 0 (l.take i)).map iD)], ⟨Nat.zero_le _, ⟨_, rfl⟩, rfl⟩, ?_, ?_⟩
  · rintro i e G' S' he ⟨hi, ⟨s1, rfl⟩, rfl⟩
    obtain ⟨n, hn, rfl⟩ := nsD_get he
    have hil : i < l.length := (List.getElem?_eq_some_iff.mp hn).1
    refine rg_name ?_
    trivial
    trivial
    refine re_append ?_
    repeat trivial
    refine ⟨0, _, rfl, rfl, ?_⟩
    repeat trivial
    refine ⟨_, _, rfl, rfl, by rw [List.length_map, dfs_len, List.length_take]; omega, ?_⟩
    repeat trivial
    refine ⟨hil, ⟨.im (iN n), ?_⟩, ?_⟩
    · rw [take_succ_of hn, lastI_snoc]; rfl
    · show [Cell.lst _] = [Cell.lst _]
      rw [take_succ_of hn, dfs_snoc, List.map_append]; rfl
  · rintro G' S' ⟨_, ⟨s1, rfl⟩, rfl⟩
    rw [nsD_len, List.take_length]
    trivial
    trivial
    refine re_append ?_
    repeat trivial
    refine ⟨0, _, rfl, rfl, ?_⟩
    repeat trivial
    refine ⟨_, _, rfl, rfl, by rw [List.length_map, dfs_len]; omega, ?_⟩
    repeat trivial
    refine cb_tuple (.pt rfl) ?_
    refine end_im ?_
    rw [bgs_eq, List.map_append] at hR
    exact hR
/-! ### fits -/
def W_misfit : Wp := fun A S R => ∃ (M : Mkt) (l : List Nat), A = [.im (mk T M), .im (tN (M.cov l)), .im (tN l)] ∧ S = [] ∧ M.Ok ∧ (∀ q ∈ l, q < M.runs.length) ∧ l.length ≤ 1000 ∧ R [] (.im nD)
theorem len_misfit : ∀ A S R, W_misfit T A S R → A.length = 3 := by rintro A S R ⟨M, l, rfl, _⟩; rfl
theorem ok_misfit : FnOk c.P c.w c.K mg base CX0 2 (T.f "_misfit") (T.fd "_misfit") ["market", "row", "parts"] (spD c (W_misfit T)) := by
  refine mk_u_misfit T (ok_u_cover T) (len_misfit T) ?_
  rintro A S R ⟨M, l, rfl, rfl, ok, hl, hz, hR⟩
  unfold t_u_misfit
  repeat trivial
  refine Dt.od_eq (by rfl) ?_
  trivial
  refine rs_for (rw_enum ?_)
  repeat trivial
  refine call0 (by simp) ⟨M, l, rfl, rfl, ok, hl, hz, fun _ => ?_⟩
  repeat trivial
  refine ⟨_, _, rfl, .tup _, fun i G S => (∃ s1 s2, G = [.im (mk T M), .im (tN (M.cov l)), .im (tN l), .im (bD true), s1, s2]) ∧ S = [], ⟨⟨.no, .no, by rw [decide_eq_true rfl]; rfl⟩, rfl⟩, ?_, ?_⟩
  · rintro i e G' S' he ⟨⟨s1, s2, rfl⟩, rfl⟩
    obtain ⟨dd, hdd, rfl⟩ := enumD_get he
    obtain ⟨n, hn, rfl⟩ := nsD_get hdd
    refine rg_tup rfl (rgs_cons (rgs_cons (rgs_nil ?_)))
    repeat trivial
    refine od_ixN (.tup _) hdd ?_
    repeat trivial
    refine iteN (decide_eq_false (by omega)) ?_
    repeat trivial
    refine iteY rfl ?_
    repeat trivial
    refine od_ixN (.tup _) hdd ?_
    repeat trivial
    refine iteN (decide_eq_false (by omega)) ?_
    repeat trivial
    exact ⟨⟨_, _, rfl⟩, rfl⟩
  · rintro G' S' ⟨⟨s1, s2, rfl⟩, rfl⟩
    repeat trivial
    exact end_im hR
/-- a stock for a row: sorted parts that are there, the cover just the row -/
structure Mkt.Fit (M : Mkt) (row l : List Nat) : Prop where
  s : srt l
  t : ∀ q ∈ l, q ∈ M.there
  c : M.cov l = row
theorem Mkt.Fit.lt {M : Mkt} {row l : List Nat} (h : M.Fit row l) : ∀ q ∈ l, q < M.runs.length := fun q hq => (Mkt.mem_there.mp (h.t q hq)).1
theorem Mkt.Fit.len {M : Mkt} {row l : List Nat} (h : M.Fit row l) : l.length ≤ M.runs.length := srt_le h.s h.lt
def W_check_stock : Wp := fun A S R => ∃ (M : Mkt) (d : D) (row l : List Nat), A = [.im (mk T M), .im d, .im (tN l)] ∧ S = [] ∧ M.Ok ∧ DemD M d row ∧ M.Fit row l ∧ R [] (.im (tN l))
theorem len_check_stock : ∀ A S R, W_check_stock T A S R → A.length = 3 := by rintro A S R ⟨M, d, row, l, rfl, _⟩; rfl
theorem ok_check_stock : FnOk c.P c.w c.K mg base CX0 4 (T.f "check_stock") (T.fd "check_stock") ["market", "demand", "parts"] (spD c (W_check_stock T)) := by
  refine mk_check_stock T (ok_demand_of T) (ok_set_of T) (ok_common T) (ok_misfit T) (len_check_stock T) ?_
  rintro A S R ⟨M, d, row, l, rfl, rfl, ok, hd, hf, hR⟩
  unfold t_check_stock
  have rl := ok.rl
  have gz := ok.gz
  have lz := hf.len
  repeat trivial
  refine call0 (by simp) ⟨M, d, row, rfl, rfl, ok, hd, fun _ => ?_⟩
  repeat trivial
  refine call0 (by simp) ⟨_, _, l, rfl, rfl, .tup _, hf.s, hf.lt, by omega, fun _ => ?_⟩
  repeat trivial
  refine call0 (by simp) ⟨_, _, _, _, rfl, rfl, .tup _, .tup _, by omega, by omega, fun _ => ?_⟩
  repeat trivial
  refine cb_len (.tup _) ?_
  have e0 : l.filter (· ∈ M.gone) = [] := by
    rw [List.filter_eq_nil_iff]
    intro q hq
    have := (Mkt.mem_there.mp (hf.t q hq)).2
    simpa using this
  rw [e0]
  repeat trivial
  refine iteN (by simp) ?_
  repeat trivial
  refine call0 (by simp) ⟨M, l, by rw [← hf.c], rfl, ok, hf.lt, by omega, fun _ => ?_⟩
  repeat trivial
  refine od_notN0 ⟨_, rfl, iteN rfl ?_⟩
  repeat trivial
  exact end_im hR
end
end K78

set_option Elab.async false
set_option linter.all false
set_option maxRecDepth 100000
set_option maxHeartbeats 4000000
namespace K78
open PySem PySem.Spec PyProof.Rows L2 Dt
local macro_rules | `(tactic| trivial) => `(tactic| first
  | with_reducible refine re_many (‹Tx _ _›) ?_ | with_reducible refine re_all (‹Tx _ _›) ?_ | with_reducible refine re_size (‹Tx _ _›) ?_ | with_reducible refine re_runs (‹Tx _ _›) ?_ | with_reducible refine re_gone (‹Tx _ _›) ?_ | with_reducible refine re_KIND (‹Tx _ _›) ?_ | with_reducible refine re_there (‹Tx _ _›) ?_
  | with_reducible refine rs_seq ?_ | with_reducible refine rs_set ?_ | with_reducible refine rs_asg ?_ | with_reducible refine rs_ret ?_ | with_reducible refine rs_retN ?_ | with_reducible refine rs_drop ?_ | with_reducible refine rs_next ?_ | with_reducible refine rs_break ?_ | with_reducible refine rs_cont ?_ | with_reducible refine rs_if ?_
  | with_reducible refine re_var (by with_unfolding_all rfl) (by with_unfolding_all exact fun h => nomatch h) ?_ | with_reducible refine re_c ?_ | with_reducible refine ra_nil ?_ | with_reducible refine ra_cons ?_ | with_reducible refine re_cb ?_ | with_reducible refine re_call ?_ | with_reducible refine re_op ?_ | with_reducible refine od_int ?_
  | with_reducible refine re_andV ?_ | with_reducible refine re_orV ?_ | with_reducible refine re_notV ?_ | with_reducible refine re_if ?_ | with_reducible refine rt_test ?_ | with_reducible refine rt_B ?_ | with_reducible refine rt_not ?_ | with_reducible refine rt_and ?_ | with_reducible refine rt_or ?_ | with_reducible refine rt_yes ?_
  | with_reducible refine re_tup ?_ | with_reducible refine re_neg ?_ | refine ⟨_, rfl, ?_⟩ | refine ⟨‹Mkt.Ok _›, ?_⟩)
/-! ### flows: plain mathematics -/
abbrev zb (b : Bool) : Int := if b then 1 else 0
theorem psum_congr {f g : Nat → Int} : ∀ {n : Nat}, (∀ i, i < n → f i = g i) → psum f n = psum g n
  | 0, _ => rfl
  | n + 1, h => by show psum f n + f n = psum g n + g n; rw [psum_congr fun i hi => h i (by omega), h n (by omega)]
theorem psum_sub (f g : Nat → Int) : ∀ n, psum (fun i => f i - g i) n = psum f n - psum g n
  | 0 => rfl
  | n + 1 => by show psum _ n + (f n - g n) = _; rw [psum_sub f g n]; show _ = psum f n + f n - (psum g n + g n); omega
theorem psum_mulc (f : Nat → Int) (k : Int) : ∀ n, psum (fun i => f i * k) n = psum f n * k
  | 0 => by show (0 : Int) = 0 * k; rw [Int.zero_mul]
  | n + 1 => by show psum _ n + f n * k = (psum f n + f n) * k; rw [psum_mulc f k n, Int.add_mul]
theorem psum_le {f g : Nat → Int} : ∀ {n : Nat}, (∀ i, i < n → f i ≤ g i) → psum f n ≤ psum g n
  | 0, _ => Int.le_refl _
  | n + 1, h => by
    have h1 := psum_le (f := f) (g := g) (n := n) fun i hi => h i (by omega)
    have h2 := h n (by omega)
    show psum f n + f n ≤ psum g n + g n
    omega
theorem psum_lt {f g : Nat → Int} {n j : Nat} (h : ∀ i, i < n → f i ≤ g i) (hj : j < n) (hl : f j < g j) : psum f n < psum g n := by
  induction n with
  | zero => omega
  | succ n ih =>
    have h2 := h n (by omega)
    show psum f n + f n < psum g n + g n
    by_cases e : j = n
    · subst e
      have := psum_le (f := f) (g := g) (n := j) fun i hi => h i (by omega)
      omega
    · have := ih (fun i hi => h i (by omega)) (by omega)
      omega
/-- one value changed -/
theorem psum_upd {f g : Nat → Int} {n j : Nat} (hj : j < n) (h : ∀ i, i ≠ j → f i = g i) : psum f n = psum g n + (f j - g j) := by
  induction n with
  | zero => omega
  | succ n ih =>
    show psum f n + f n = psum g n + g n + (f j - g j)
    by_cases e : j = n
    · subst e
      rw [psum_congr fun i hi => h i (by omega)]
      omega
    · rw [ih (by omega), h n (fun z => e z.symm)]
      omega
/-- sums exchanged -/
theorem psum_comm (f : Nat → Nat → Int) (m : Nat) : ∀ n, psum (fun i => psum (f i) m) n = psum (fun j => psum (fun i => f i j) n) m
  | 0 => (psum_zero m).symm
  | n + 1 => by
    show psum _ n + psum (f n) m = psum (fun j => psum (fun i => f i j) n + f n j) m
    rw [psum_comm f m n, psum_add]
/-- the weight at one point -/
theorem psum_at (z : Nat → Int) (a : Nat) : ∀ n, psum (fun v => z v * (if a = v then 1 else 0)) n = if a < n then z a else 0
  | 0 => rfl
  | n + 1 => by
    show psum _ n + z n * (if a = n then 1 else 0) = _
    rw [psum_at z a n]
    by_cases h : a = n
    · subst h
      have h1 : ¬ a < a := by omega
      have h2 : a < a + 1 := by omega
      simp [h1, h2]
    · by_cases h1 : a < n
      · have h2 : a < n + 1 := by omega
        simp [h, h1, h2]
      · have h2 : ¬ a < n + 1 := by omega
        simp [h, h1, h2]
/-- begins less ends at a point, of the parts inside -/
def Mkt.bal (M : Mkt) (X : Nat → Bool) (v : Nat) : Int := psum (fun q => zb (X q) * M.dl q v) M.runs.length
/-- a step that may be gone: a part taken along, a part inside given back -/
def Mkt.stp (M : Mkt) (X : Nat → Bool) (u v q : Nat) : Prop := q ∈ M.there ∧ ((X q = false ∧ M.b q = u ∧ M.e q = v) ∨ (X q = true ∧ M.e q = u ∧ M.b q = v))
def flip (X : Nat → Bool) (q : Nat) : Nat → Bool := fun i => if i = q then !X q else X i
theorem Mkt.bal_flip {M : Mkt} {X : Nat → Bool} {u v q : Nat} (h : M.stp X u v q) (w : Nat) : M.bal (flip X q) w = M.bal X w + (if u = w then 1 else 0) - (if v = w then 1 else 0) := by
  have hq := (Mkt.mem_there.mp h.1).1
  unfold Mkt.bal
  rw [psum_upd (g := fun q => zb (X q) * M.dl q w) hq fun i hi => by unfold flip; rw [if_neg hi]]
  have e : flip X q q = !X q := by unfold flip; rw [if_pos rfl]
  rw [e]
  unfold Mkt.dl
  rcases h.2 with ⟨h1, h2, h3⟩ | ⟨h1, h2, h3⟩
  · rw [h1, h2, h3]
    simp only [zb, Bool.not_false, if_true, Bool.false_eq_true, if_false, Int.one_mul, Int.zero_mul]
    omega
  · rw [h1, h2, h3]
    simp only [zb, Bool.not_true, if_true, Bool.false_eq_true, if_false, Int.one_mul, Int.zero_mul]
    omega
/-- a weighed sum of the balance -/
theorem Mkt.wsum {M : Mkt} (ok : M.Ok) (X : Nat → Bool) (z : Nat → Int) : psum (fun v => z v * M.bal X v) (M.n + 1) = psum (fun q => zb (X q) * (z (M.b q) - z (M.e q))) M.runs.length := by
  have e1 : psum (fun v => z v * M.bal X v) (M.n + 1) = psum (fun v => psum (fun q => zb (X q) * (z v * M.dl q v)) M.runs.length) (M.n + 1) := by
    refine psum_congr fun v _ => ?_
    unfold Mkt.bal
    have := psum_mulc (fun q => zb (X q) * M.dl q v) (z v) M.runs.length
    rw [Int.mul_comm, ← this]
    refine psum_congr fun q _ => ?_
    rw [Int.mul_assoc, Int.mul_comm (M.dl q v)]
  rw [e1, psum_comm]
  refine psum_congr fun q hq => ?_
  have be := ok.be hq
  have e2 : psum (fun v => zb (X q) * (z v * M.dl q v)) (M.n + 1) = zb (X q) * psum (fun v => z v * M.dl q v) (M.n + 1) := by
    have := psum_mulc (fun v => z v * M.dl q v) (zb (X q)) (M.n + 1)
    rw [Int.mul_comm (zb (X q)), ← this]
    exact psum_congr fun v _ => Int.mul_comm _ _
  rw [e2]
  congr 1
  have e3 : psum (fun v => z v * M.dl q v) (M.n + 1) = psum (fun v => z v * (if M.b q = v then 1 else 0) - z v * (if M.e q = v then 1 else 0)) (M.n + 1) := psum_congr fun v _ => by
    unfold Mkt.dl; rw [Int.mul_sub]
  rw [e3, psum_sub, psum_at, psum_at, if_pos (by omega), if_pos (by omega)]
/-- a set of points that no step leaves: no other choice can bring more out of it -/
theorem Mkt.cut {M : Mkt} (ok : M.Ok) {X Y : Nat → Bool} (hX : ∀ q, X q = true → q ∈ M.there) (hY : ∀ q, Y q = true → q ∈ M.there) {Z : Nat → Bool} (hZ : ∀ u v q, M.stp X u v q → Z u = true → Z v = true) :
    psum (fun v => zb (Z v) * (M.bal Y v - M.bal X v)) (M.n + 1) ≤ 0 := by
  have e : psum (fun v => zb (Z v) * (M.bal Y v - M.bal X v)) (M.n + 1) = psum (fun q => (zb (Y q) - zb (X q)) * (zb (Z (M.b q)) - zb (Z (M.e q)))) M.runs.length := by
    have e1 : psum (fun v => zb (Z v) * (M.bal Y v - M.bal X v)) (M.n + 1) = psum (fun v => zb (Z v) * M.bal Y v - zb (Z v) * M.bal X v) (M.n + 1) := psum_congr fun v _ => Int.mul_sub _ _ _
    rw [e1, psum_sub, M.wsum ok Y fun v => zb (Z v), M.wsum ok X fun v => zb (Z v), ← psum_sub]
    exact psum_congr fun q _ => (Int.sub_mul _ _ _).symm
  rw [e, ← psum_zero M.runs.length]
  refine psum_le fun q _ => ?_
  have h1 : ∀ (hq : q ∈ M.there), X q = false → Z (M.b q) = true → Z (M.e q) = true := fun hq hx => hZ _ _ q ⟨hq, .inl ⟨hx, rfl, rfl⟩⟩
  have h2 : ∀ (hq : q ∈ M.there), X q = true → Z (M.e q) = true → Z (M.b q) = true := fun hq hx => hZ _ _ q ⟨hq, .inr ⟨hx, rfl, rfl⟩⟩
  have h3 := hX q
  have h4 := hY q
  revert h1 h2 h3 h4
  generalize X q = x
  generalize Y q = y
  generalize Z (M.b q) = z1
  generalize Z (M.e q) = z2
  intro h1 h2 h3 h4
  cases x <;> cases y <;> cases z1 <;> cases z2 <;> simp [zb] <;> first
    | (exact absurd (h1 (h4 rfl) rfl rfl) (by decide))
    | (exact absurd (h2 (h3 rfl) rfl rfl) (by decide))
    | decide
/-! ### rows and balances -/
/-- membership as a choice -/
def mem (l : List Nat) : Nat → Bool := fun q => decide (q ∈ l)
theorem ris_psum (M : Mkt) (v : Nat) : ∀ {l : List Nat}, l.Nodup → (∀ q ∈ l, q < M.runs.length) → M.ris l v = M.bal (mem l) v
  | [], _, _ => by
    unfold Mkt.bal
    have : psum (fun q => zb (mem [] q) * M.dl q v) M.runs.length = psum (fun _ => 0) M.runs.length := psum_congr fun q _ => by simp [mem, zb]
    rw [this, psum_zero]; rfl
  | q :: l, nd, h => by
    have nd' := List.nodup_cons.mp nd
    show M.dl q v + M.ris l v = _
    rw [ris_psum M v nd'.2 fun x hx => h x (List.mem_cons_of_mem _ hx)]
    unfold Mkt.bal
    have hq := h q List.mem_cons_self
    rw [psum_upd (f := fun x => zb (mem (q :: l) x) * M.dl x v) (g := fun x => zb (mem l x) * M.dl x v) hq fun i hi => by simp [mem, hi]]
    have e1 : mem (q :: l) q = true := by simp [mem]
    have e2 : mem l q = false := by simp [mem, nd'.1]
    simp only [e1, e2, zb, if_true, Bool.false_eq_true, if_false, Int.one_mul, Int.zero_mul]
    omega
/-- what begins at each point by the row -/
def beg (row : List Nat) (v : Nat) : Int := (bgs 0 row).getD v 0
theorem bgs_len : ∀ (l : List Nat) (b : Int), (bgs b l).length = l.length + 1
  | [], _ => rfl
  | x :: l, b => by show (bgs x l).length + 1 = l.length + 1 + 1; rw [bgs_len l x]
theorem psum_shift (f : Nat → Int) : ∀ n, psum f (n + 1) = f 0 + psum (fun i => f (i + 1)) n
  | 0 => by show (0 : Int) + f 0 = f 0 + 0; omega
  | n + 1 => by
    show psum f (n + 1) + f (n + 1) = f 0 + (psum (fun i => f (i + 1)) n + f (n + 1))
    rw [psum_shift f n]; omega
theorem psum_bgs : ∀ (l : List Nat) (b : Int) (k : Nat), k ≤ l.length → psum (fun i => (bgs b l).getD i 0) k = (if k = 0 then 0 else ((l.getD (k - 1) 0 : Nat) : Int) - b)
  | _, _, 0, _ => rfl
  | [], b, k + 1, h => by simp at h
  | x :: l, b, k + 1, h => by
    have hk : k ≤ l.length := by simpa using h
    rw [psum_shift, if_neg (by omega)]
    have e : psum (fun i => (bgs b (x :: l)).getD (i + 1) 0) k = psum (fun i => (bgs x l).getD i 0) k := psum_congr fun i _ => rfl
    rw [e, psum_bgs l x k hk]
    show ((x : Int) - b) + _ = _
    cases k with
    | zero => simp
    | succ k => rw [if_neg (by omega)]; simp; omega
theorem psum_bgs_all (l : List Nat) (b : Int) : psum (fun i => (bgs b l).getD i 0) (l.length + 1) = -b := by
  show psum (fun i => (bgs b l).getD i 0) l.length + (bgs b l).getD l.length 0 = -b
  rw [psum_bgs l b l.length (Nat.le_refl _)]
  have e : (bgs b l).getD l.length 0 = -(lastI b l) := by
    rw [bgs_eq, List.getD_eq_getElem?_getD, List.getElem?_append_right (by rw [dfs_len]; exact Nat.le_refl _), dfs_len]
    simp
  rw [e]
  have hlast : ∀ (l : List Nat) (b : Int), lastI b l = if l.length = 0 then b else ((l.getD (l.length - 1) 0 : Nat) : Int) := by
    intro l
    induction l with
    | nil => intro b; rfl
    | cons x l ih =>
      intro b
      cases l with
      | nil => simp [lastI]
      | cons y l =>
        show lastI x (y :: l) = _
        rw [ih x]; simp
  rw [hlast]
  by_cases h : l.length = 0
  · simp [h]
  · simp [h]; omega
theorem psum_eq {f g : Nat → Int} {n : Nat} (h : ∀ k, k ≤ n → psum f k = psum g k) : ∀ v, v < n → f v = g v := fun v hv => by
  have h1 : psum f v + f v = psum g v + g v := h (v + 1) (by omega)
  have h2 := h v (by omega)
  omega
theorem cov_get {M : Mkt} {l : List Nat} {p : Nat} (hp : p < M.n) : (M.cov l).getD p 0 = M.cnt l p := by
  unfold Mkt.cov
  rw [List.getD_eq_getElem?_getD, List.getElem?_map, List.getElem?_range hp]; rfl
theorem psum_ris_all {M : Mkt} (ok : M.Ok) : ∀ {l : List Nat}, (∀ q ∈ l, q < M.runs.length) → psum (M.ris l) (M.n + 1) = 0
  | [], _ => psum_zero _
  | q :: l, h => by
    have e : (M.ris (q :: l)) = fun i => M.dl q i + M.ris l i := rfl
    have hb := ok.be (h q List.mem_cons_self)
    rw [e, psum_add, psum_dl, psum_ris_all ok fun x hx => h x (List.mem_cons_of_mem _ hx), if_pos (by omega), if_pos (by omega)]
    rfl
/-- the cover is the row just if the balance is what begins -/
theorem cov_iff {M : Mkt} (ok : M.Ok) {row l : List Nat} (hr : row.length = M.n) (hl : ∀ q ∈ l, q < M.runs.length) : M.cov l = row ↔ ∀ v, v < M.n + 1 → M.ris l v = beg row v := by
  constructor
  · rintro rfl
    refine psum_eq fun k hk => ?_
    unfold beg
    by_cases hkn : k ≤ M.n
    · rw [psum_bgs _ _ k (by rw [cov_len]; exact hkn)]
      cases k with
      | zero => rfl
      | succ k =>
        rw [Mkt.psum_ris ok k l hl, if_neg (by omega), Nat.add_sub_cancel, cov_get (by omega)]
        omega
    · have : k = M.n + 1 := by omega
      subst this
      rw [psum_ris_all ok hl]
      have := psum_bgs_all (M.cov l) 0
      rw [cov_len] at this
      rw [this]; rfl
  · intro h
    refine List.ext_getElem? fun p => ?_
    by_cases hp : p < M.n
    · have h1 : psum (M.ris l) (p + 1) = psum (beg row) (p + 1) := psum_congr fun i hi => h i (by omega)
      rw [Mkt.psum_ris ok p l hl] at h1
      unfold beg at h1
      rw [psum_bgs row 0 (p + 1) (by omega), if_neg (by omega), Nat.add_sub_cancel] at h1
      have h2 : M.cnt l p = row.getD p 0 := by omega
      have h3 := cov_get (l := l) hp
      rw [h2] at h3
      rw [List.getD_eq_getElem?_getD, List.getD_eq_getElem?_getD, List.getElem?_eq_getElem (by rw [cov_len]; exact hp), List.getElem?_eq_getElem (by omega)] at h3
      rw [List.getElem?_eq_getElem (by rw [cov_len]; exact hp), List.getElem?_eq_getElem (by omega)]
      exact congrArg some h3
    · rw [List.getElem?_eq_none (by rw [cov_len]; omega), List.getElem?_eq_none (by omega)]
/-- the parts inside -/
def ins (m : Nat) (X : Nat → Bool) : List Nat := (List.range m).filter X
theorem ins_srt {m : Nat} {X : Nat → Bool} : srt (ins m X) := srt_filter (srt_range m)
theorem mem_ins {m : Nat} {X : Nat → Bool} {q : Nat} : q ∈ ins m X ↔ q < m ∧ X q = true := by unfold ins; rw [List.mem_filter, List.mem_range]
theorem bal_congr {M : Mkt} {X Y : Nat → Bool} {v : Nat} (h : ∀ q, q < M.runs.length → X q = Y q) : M.bal X v = M.bal Y v := psum_congr fun q hq => by rw [h q hq]
theorem fit_ins {M : Mkt} (ok : M.Ok) {X : Nat → Bool} {row : List Nat} (hr : row.length = M.n) (hX : ∀ q, X q = true → q ∈ M.there) (h : ∀ v, v < M.n + 1 → M.bal X v = beg row v) : M.Fit row (ins M.runs.length X) where
  s := ins_srt
  t := fun q hq => hX q (mem_ins.mp hq).2
  c := by
    refine (cov_iff ok hr fun q hq => (mem_ins.mp hq).1).mpr fun v hv => ?_
    rw [ris_psum M v (srt_nodup ins_srt) fun q hq => (mem_ins.mp hq).1, ← h v hv]
    refine bal_congr fun q hq => ?_
    unfold mem
    cases e : X q with
    | true => exact decide_eq_true (mem_ins.mpr ⟨hq, e⟩)
    | false => exact decide_eq_false fun z => by have := (mem_ins.mp z).2; rw [e] at this; cases this
theorem fit_bal {M : Mkt} (ok : M.Ok) {row l : List Nat} (hf : M.Fit row l) : ∀ v, v < M.n + 1 → M.bal (mem l) v = beg row v := fun v hv => by
  have hr : row.length = M.n := by rw [← hf.c, cov_len]
  rw [← ris_psum M v (srt_nodup hf.s) hf.lt]
  exact (cov_iff ok hr hf.lt).mp hf.c v hv
/-- a closed set in which more is asked than is there: no stock -/
theorem no_fit {M : Mkt} (ok : M.Ok) {X : Nat → Bool} {row : List Nat} (hX : ∀ q, X q = true → q ∈ M.there) {Z : Nat → Bool} (hZ : ∀ u v q, M.stp X u v q → Z u = true → Z v = true)
    (hp : ∀ v, v < M.n + 1 → Z v = true → 0 ≤ beg row v - M.bal X v) {s : Nat} (hs : s < M.n + 1) (hs1 : Z s = true) (hs2 : 0 < beg row s - M.bal X s) (l : List Nat) : ¬ M.Fit row l := fun hf => by
  have h := M.cut ok hX (Y := mem l) (fun q hq => hf.t q (of_decide_eq_true hq)) hZ
  have h1 : psum (fun _ => 0) (M.n + 1) < psum (fun v => zb (Z v) * (M.bal (mem l) v - M.bal X v)) (M.n + 1) := by
    refine psum_lt (j := s) (fun v hv => ?_) hs ?_
    · rw [fit_bal ok hf v hv]
      cases e : Z v with
      | true => simp only [zb, if_true, Int.one_mul]; exact hp v hv e
      | false => simp [zb]
    · rw [fit_bal ok hf s hs, hs1]
      simp only [zb, if_true, Int.one_mul]; exact hs2
  rw [psum_zero] at h1
  omega
end K78

set_option Elab.async false
set_option linter.all false
set_option maxRecDepth 100000
set_option maxHeartbeats 4000000
namespace K78
open PySem PySem.Spec PyProof.Rows L2 Dt
local macro_rules | `(tactic| trivial) => `(tactic| first
  | with_reducible refine re_many (‹Tx _ _›) ?_ | with_reducible refine re_all (‹Tx _ _›) ?_ | with_reducible refine re_size (‹Tx _ _›) ?_ | with_reducible refine re_runs (‹Tx _ _›) ?_ | with_reducible refine re_gone (‹Tx _ _›) ?_ | with_reducible refine re_KIND (‹Tx _ _›) ?_ | with_reducible refine re_there (‹Tx _ _›) ?_
  | with_reducible refine rs_seq ?_ | with_reducible refine rs_set ?_ | with_reducible refine rs_asg ?_ | with_reducible refine rs_ret ?_ | with_reducible refine rs_retN ?_ | with_reducible refine rs_drop ?_ | with_reducible refine rs_next ?_ | with_reducible refine rs_break ?_ | with_reducible refine rs_cont ?_ | with_reducible refine rs_if ?_
  | with_reducible refine re_var (by with_unfolding_all rfl) (by with_unfolding_all exact fun h => nomatch h) ?_ | with_reducible refine re_c ?_ | with_reducible refine ra_nil ?_ | with_reducible refine ra_cons ?_ | with_reducible refine re_cb ?_ | with_reducible refine re_call ?_ | with_reducible refine re_op ?_ | with_reducible refine od_int ?_
  | with_reducible refine re_andV ?_ | with_reducible refine re_orV ?_ | with_reducible refine re_notV ?_ | with_reducible refine re_if ?_ | with_reducible refine rt_test ?_ | with_reducible refine rt_B ?_ | with_reducible refine rt_not ?_ | with_reducible refine rt_and ?_ | with_reducible refine rt_or ?_ | with_reducible refine rt_yes ?_
  | with_reducible refine re_tup ?_ | with_reducible refine re_neg ?_ | refine ⟨_, rfl, ?_⟩ | refine ⟨‹Mkt.Ok _›, ?_⟩)
theorem nodup_le : ∀ {m : Nat} {l : List Nat}, l.Nodup → (∀ x ∈ l, x < m) → l.length ≤ m
  | 0, [], _, _ => Nat.le_refl _
  | 0, x :: l, _, h => absurd (h x List.mem_cons_self) (by omega)
  | m + 1, l, nd, h => by
    by_cases hm : m ∈ l
    · have h1 := nodup_le (m := m) (l := l.erase m) (nd.erase m) fun x hx => by
        have h2 := (nd.mem_erase_iff).mp hx
        have := h x h2.2
        omega
      rw [List.length_erase_of_mem hm] at h1
      omega
    · have := nodup_le (m := m) nd fun x hx => by
        have h1 := h x hx
        have h2 : x ≠ m := fun e => hm (e ▸ hx)
        omega
      omega
/-! ### what is reached, and from where -/
abbrev Ent := Nat × Option (Nat × Nat)
abbrev keys (cs : List Ent) : List Nat := cs.map (·.1)
def vEnt : Option (Nat × Nat) → D
  | none => nD
  | some (u, q) => .tup [iN u, iN q]
abbrev vals (cs : List Ent) : List D := cs.map fun e => vEnt e.2
abbrev camD (cs : List Ent) : D := .dk (kN (keys cs)) (vals cs)
inductive Tr (M : Mkt) (X : Nat → Bool) (st : List Nat) : List Ent → Prop
  | nil : Tr M X st []
  | root {cs : List Ent} {v : Nat} : Tr M X st cs → v ∈ st → v ∉ keys cs → Tr M X st (cs ++ [(v, none)])
  | step {cs : List Ent} {u v q : Nat} : Tr M X st cs → u ∈ keys cs → v ∉ keys cs → M.stp X u v q → Tr M X st (cs ++ [(v, some (u, q))])
section
variable {M : Mkt} {X : Nat → Bool} {st : List Nat}
theorem keys_snoc {cs : List Ent} {e : Ent} : keys (cs ++ [e]) = keys cs ++ [e.1] := by simp [keys]
theorem Tr.nodup {cs : List Ent} (h : Tr M X st cs) : (keys cs).Nodup := by
  induction h with
  | nil => exact List.nodup_nil
  | @root cs v _ _ hn ih =>
    rw [keys_snoc, List.nodup_append]
    exact ⟨ih, by simp, fun a ha b hb => by
      have : b = v := by simpa using hb
      subst this
      exact fun e => hn (e ▸ ha)⟩
  | @step cs u v q _ _ hn _ ih =>
    rw [keys_snoc, List.nodup_append]
    exact ⟨ih, by simp, fun a ha b hb => by
      have : b = v := by simpa using hb
      subst this
      exact fun e => hn (e ▸ ha)⟩
theorem Mkt.stp_le (ok : M.Ok) {u v q : Nat} (h : M.stp X u v q) : u ≤ M.n ∧ v ≤ M.n ∧ u ≠ v := by
  have be := ok.be (Mkt.mem_there.mp h.1).1
  rcases h.2 with ⟨_, h1, h2⟩ | ⟨_, h1, h2⟩
  · omega
  · omega
theorem Tr.le (ok : M.Ok) (hs : ∀ s ∈ st, s ≤ M.n) {cs : List Ent} (h : Tr M X st cs) : ∀ v ∈ keys cs, v ≤ M.n := by
  induction h with
  | nil => intro v hv; cases hv
  | @root cs v _ hv _ ih =>
    intro w hw
    rw [keys_snoc] at hw
    rcases List.mem_append.mp hw with z | z
    · exact ih w z
    · have : w = v := by simpa using z
      subst this; exact hs _ hv
  | @step cs u v q _ _ _ hp ih =>
    intro w hw
    rw [keys_snoc] at hw
    rcases List.mem_append.mp hw with z | z
    · exact ih w z
    · have : w = v := by simpa using z
      subst this; exact (Mkt.stp_le ok hp).2.1
theorem Tr.len (ok : M.Ok) (hs : ∀ s ∈ st, s ≤ M.n) {cs : List Ent} (h : Tr M X st cs) : cs.length ≤ M.n + 1 := by
  have := nodup_le h.nodup fun v hv => Nat.lt_succ_of_le (h.le ok hs v hv)
  simpa [keys] using this
theorem Tr.find {cs : List Ent} (h : Tr M X st cs) {v : Nat} (hv : v ∈ keys cs) : ∃ cs1 o cs2, cs = cs1 ++ (v, o) :: cs2 ∧ Tr M X st cs1 ∧ v ∉ keys cs1 ∧ match o with
    | none => v ∈ st
    | some (u, q) => u ∈ keys cs1 ∧ M.stp X u v q := by
  induction h with
  | nil => cases hv
  | @root cs w hc hw hn ih =>
    rw [keys_snoc] at hv
    rcases List.mem_append.mp hv with z | z
    · obtain ⟨c1, o, c2, rfl, h1, h2, h3⟩ := ih z
      exact ⟨c1, o, c2 ++ [(w, none)], by simp, h1, h2, h3⟩
    · have : v = w := by simpa using z
      subst this
      exact ⟨cs, none, [], rfl, hc, hn, hw⟩
  | @step cs u w q hc hu hn hp ih =>
    rw [keys_snoc] at hv
    rcases List.mem_append.mp hv with z | z
    · obtain ⟨c1, o, c2, rfl, h1, h2, h3⟩ := ih z
      exact ⟨c1, o, c2 ++ [(w, some (u, q))], by simp, h1, h2, h3⟩
    · have : v = w := by simpa using z
      subst this
      exact ⟨cs, some (u, q), [], rfl, hc, hn, hu, hp⟩
theorem valD_ent : ∀ {cs1 : List Ent} {v : Nat} {o : Option (Nat × Nat)} {cs2 : List Ent}, v ∉ keys cs1 → valD (kN (keys (cs1 ++ (v, o) :: cs2))) (vals (cs1 ++ (v, o) :: cs2)) (Sum.inl (v : Int)) = some (vEnt o)
  | [], v, o, cs2, _ => by
    unfold valD
    simp [keys, kN, vals]
  | e :: cs1, v, o, cs2, h => by
    have h1 : e.1 ≠ v := fun z => h (by rw [← z]; simp [keys])
    have h2 : v ∉ keys cs1 := fun z => h (by simp only [keys, List.map_cons]; exact List.mem_cons_of_mem _ z)
    have ih := valD_ent (o := o) (cs2 := cs2) h2
    unfold valD at ih ⊢
    have hne : ¬ ((Sum.inl (e.1 : Int) : Key) = Sum.inl (v : Int)) := by
      intro z
      injection z with z
      exact h1 (by omega)
    show Option.map _ (List.find? _ ((Sum.inl (e.1 : Int), vEnt e.2) :: _)) = _
    rw [List.find?_cons]
    simp only [hne, decide_false]
    exact ih
/-- the head of a part's step is told by the part -/
theorem stp_head {u v u' v' q : Nat} (h : M.stp X u v q) (h' : M.stp X u' v' q) : v = v' := by
  rcases h.2 with ⟨a, b, e⟩ | ⟨a, b, e⟩ <;> rcases h'.2 with ⟨a', b', e'⟩ | ⟨a', b', e'⟩
  · omega
  · rw [a] at a'; cases a'
  · rw [a] at a'; cases a'
  · omega
end
abbrev xD (M : Mkt) (X : Nat → Bool) : List D := (List.range M.runs.length).map fun q => bD (X q)
theorem xD_get {M : Mkt} {X : Nat → Bool} {q : Nat} (h : q < M.runs.length) : (xD M X)[q]? = some (bD (X q)) := by
  rw [List.getElem?_map, List.getElem?_range h]; rfl
theorem xD_flip {M : Mkt} {X : Nat → Bool} {q : Nat} (h : q < M.runs.length) : (xD M X).set q (bD (!X q)) = xD M (flip X q) := by
  rw [set_range h]
  refine List.map_congr_left fun i _ => ?_
  unfold flip
  by_cases e : i = q
  · subst e; simp
  · simp [e]
section
variable {c : Cn} {mg : Str → Option Value} {base : Heap} (T : Tx c.K mg)
variable {G : SG} {S : SC} {Q : SC → Sl → Prop} {ta : TE}
def W_turn : Wp := fun A S R => ∃ (M : Mkt) (X : Nat → Bool) (st : List Nat) (cs : List Ent) (p : Nat), A = [.pt 0, .im (camD cs), .im (iN p)] ∧ S = [.lst (xD M X)] ∧ M.Ok ∧ Tr M X st cs ∧ p ∈ keys cs ∧ (∀ q, X q = true → q ∈ M.there) ∧
  ∀ X' r, r ∈ st → (∀ q, X' q = true → q ∈ M.there) → (∀ w, M.bal X' w = M.bal X w + (if r = w then 1 else 0) - (if p = w then 1 else 0)) → R [.lst (xD M X')] (.im (iN r))
theorem len_turn : ∀ A S R, W_turn A S R → A.length = 3 := by rintro A S R ⟨M, X, st, cs, p, rfl, _⟩; rfl
theorem ok_turn : FnOk c.P c.w c.K mg base CX0 1 (T.f "_turn") (T.fd "_turn") ["inside", "came", "point"] (spD c W_turn) := by
  refine mk_u_turn T len_turn ?_
  rintro A S R ⟨M, X, st, cs, p, rfl, rfl, ok, tr, hp, hX, hR⟩
  unfold t_u_turn
  -- the point within a shorter tree, the parts changed lead elsewhere
  refine rs_seq (rs_while (fun m G' S' => ∃ (c1 c2 : List Ent) (v : Nat) (X1 : Nat → Bool), m = c1.length ∧ cs = c1 ++ c2 ∧ Tr M X st c1 ∧ v ∈ keys c1 ∧ (∃ s, G' = [.pt 0, .im (camD cs), .im (iN v), s]) ∧ S' = [.lst (xD M X1)] ∧
    (∀ q, X1 q = true → q ∈ M.there) ∧ (∀ u w q, M.stp X u w q → w ∈ keys c1 → X1 q = X q) ∧ ∀ w, M.bal X1 w = M.bal X w + (if v = w then 1 else 0) - (if p = w then 1 else 0)) cs.length ⟨cs, [], p, X, rfl, by simp, tr, hp, ⟨_, rfl⟩, rfl, hX, fun _ _ _ _ _ => rfl, fun w => by omega⟩ ?_)
  rintro m G' S' ⟨c1, c2, v, X1, rfl, rfl, tr1, hv, ⟨s, rfl⟩, rfl, hX1, hsame, hbal⟩
  obtain ⟨d1, o, d2, rfl, trd, hvd, ho⟩ := tr1.find hv
  have hval : valD (kN (keys (d1 ++ (v, o) :: d2 ++ c2))) (vals (d1 ++ (v, o) :: d2 ++ c2)) (Sum.inl (v : Int)) = some (vEnt o) := by
    rw [List.append_assoc, List.cons_append]; exact valD_ent hvd
  refine rt_test (re_op (re_dget ?_))
  repeat trivial
  refine ⟨_, Sum.inl (v : Int), _, _, vEnt o, rfl, rfl, .im _ _, hval, ?_⟩
  repeat trivial
  cases o with
  | none =>
    refine od_notN0 ⟨_, rfl, iteN rfl ?_⟩
    repeat trivial
    exact end1_im rfl rfl (hR X1 v ho hX1 hbal)
  | some uq =>
    obtain ⟨u, q⟩ := uq
    obtain ⟨hu, hst⟩ := ho
    refine od_notN (not_nD (by intro h; cases h)) ⟨_, rfl, iteY rfl ?_⟩
    refine rs_seq (rs_asg (re_dget ?_))
    repeat trivial
    refine ⟨_, Sum.inl (v : Int), _, _, vEnt (some (u, q)), rfl, rfl, .im _ _, hval, ?_⟩
    refine rg_tup rfl (rgs_cons (rgs_cons (rgs_nil ?_)))
    refine rs_setL ?_
    have hq := (Mkt.mem_there.mp hst.1).1
    repeat trivial
    refine od_ixN (.lst (.pt rfl)) (xD_get hq) ?_
    repeat trivial
    refine ⟨_, _, q, rfl, rfl, ixN_nat (by simp; exact hq), ?_⟩
    have hXq : X1 q = X q := hsame u v q hst hv
    have hst1 : M.stp X1 u v q := by
      refine ⟨hst.1, ?_⟩
      rw [hXq]; exact hst.2
    refine ⟨d1.length, by simp, d1, (v, some (u, q)) :: d2 ++ c2, u, flip X1 q, rfl, by simp, trd, hu, ⟨_, rfl⟩, ?_, ?_, ?_, ?_⟩
    · show [Cell.lst _] = _
      rw [xD_flip hq]
    · intro i hi
      unfold flip at hi
      by_cases e : i = q
      · subst e; exact hst.1
      · rw [if_neg e] at hi; exact hX1 i hi
    · intro u' w q' hs hw
      have hne : q' ≠ q := fun e => by
        subst e
        have := stp_head hst hs
        subst this
        exact hvd hw
      unfold flip
      rw [if_neg hne]
      exact hsame u' w q' hs (by
        show w ∈ keys (d1 ++ (v, some (u, q)) :: d2)
        simp only [keys, List.map_append]
        exact List.mem_append_left _ hw)
    · intro w
      rw [Mkt.bal_flip hst1, hbal]
      omega
def W_reached : Wp := fun A S R => ∃ (M : Mkt) (X : Nat → Bool) (st en : List Nat), A = [.im (mk T M), .pt 0, .im (.lst (nsD st)), .im (.lst (nsD en))] ∧ S = [.lst (xD M X)] ∧ M.Ok ∧ st.Nodup ∧ (∀ s ∈ st, s ≤ M.n) ∧ en.length ≤ 1000 ∧
  (∀ cs p, Tr M X st cs → p ∈ keys cs → p ∈ en → cs.length ≤ 9 → R [.lst (xD M X)] (.im (.tup [iN p, camD cs]))) ∧
  ∀ cs, (∀ s ∈ st, s ∈ keys cs) → (∀ e ∈ en, e ∉ keys cs) → (∀ u v q, M.stp X u v q → u ∈ keys cs → v ∈ keys cs) → cs.length ≤ 9 → (keys cs).Nodup → R [.lst (xD M X)] (.im (.tup [nD, camD cs]))
theorem len_reached : ∀ A S R, W_reached T A S R → A.length = 4 := by rintro A S R ⟨M, X, st, en, rfl, _⟩; rfl
theorem dk_snoc {cs : List Ent} {e : Ent} (h : e.1 ∉ keys cs) : putDK (kN (keys cs)) (Sum.inl (e.1 : Int)) = kN (keys (cs ++ [e])) ∧ putDL (kN (keys cs)) (vals cs) (Sum.inl (e.1 : Int)) (vEnt e.2) = vals (cs ++ [e]) := by
  have hn : ¬ (Sum.inl (e.1 : Int) : Key) ∈ kN (keys cs) := fun z => h (mem_kN.mp z)
  unfold putDK putDL
  rw [if_neg hn, if_neg hn]
  constructor
  · simp [kN, keys]
  · simp [vals]
theorem keys_len {cs : List Ent} : (kN (keys cs)).length = (vals cs).length := by simp [kN, keys, vals]
theorem ok_reached : FnOk c.P c.w c.K mg base CX0 3 (T.f "_reached") (T.fd "_reached") ["market", "inside", "starts", "ends"] (spD c (W_reached T)) := by
  refine mk_u_reached T (ok_there T) (len_reached T) ?_
  rintro A S R ⟨M, X, st, en, rfl, rfl, ok, nd, hs, hz, hR1, hR2⟩
  unfold t_u_reached
  have n8 := ok.n8
  refine rs_seq (rs_set (re_dnew ?_))
  have stl : st.length ≤ 9 := by
    have := nodup_le nd fun v hv => Nat.lt_succ_of_le (hs v hv)
    omega
  refine rs_seq (rs_for (rw_list ?_))
  repeat trivial
  let cs0 (i : Nat) : List Ent := (st.take i).map fun s => (s, none)
  have k0 : ∀ i, keys (cs0 i) = st.take i := fun i => by simp [cs0, keys, Function.comp_def]
  refine ⟨nsD st, .inl rfl, fun i G S => i ≤ st.length ∧ (∃ s5, G = [.im (mk T M), .pt 0, .im (.lst (nsD st)), .im (.lst (nsD en)), .pt 1, s5, .no, .no, .no, .no, .no]) ∧ S = [.lst (xD M X), .dk (kN (keys (cs0 i))) (vals (cs0 i))] ∧ Tr M X st (cs0 i), ⟨Nat.zero_le _, ⟨_, rfl⟩, rfl, .nil⟩, ?_, ?_⟩
  · rintro i e G' S' he ⟨hi, ⟨s5, rfl⟩, rfl, tr⟩
    obtain ⟨v, hv, rfl⟩ := nsD_get he
    have hil : i < st.length := (List.getElem?_eq_some_iff.mp hv).1
    have hnew : v ∉ keys (cs0 i) := by
      rw [k0]
      intro hm
      obtain ⟨j, hj⟩ := List.mem_iff_getElem?.mp hm
      obtain ⟨hji, hj2⟩ := take_get hj
      have := nodup_get nd hj2 hv
      omega
    have ecs : cs0 (i + 1) = cs0 i ++ [(v, none)] := by
      show (st.take (i + 1)).map _ = _
      rw [take_succ_of hv, List.map_append]; rfl
    refine rg_name (rs_dput ?_)
    repeat trivial
    refine ⟨_, Sum.inl (v : Int), _, _, rfl, rfl, rfl, ?_, hil, ⟨_, rfl⟩, ?_, ?_⟩
    · simp [kN, keys, cs0]; omega
    · obtain ⟨e1, e2⟩ := dk_snoc (e := (v, none)) hnew
      show [_, Cell.dk (putDK _ _) (putDL _ _ _ _)] = _
      rw [ecs, e1]
      exact congrArg (fun z => [_, Cell.dk _ z]) e2
    · rw [ecs]; exact .root tr (List.mem_of_getElem? hv) hnew
  rintro G' S' ⟨_, ⟨s5, rfl⟩, rfl, tr⟩
  rw [nsD_len] at tr ⊢
  have ks : keys (cs0 st.length) = st := by rw [k0, List.take_length]
  generalize cs0 st.length = cs at tr ks
  repeat trivial
  refine cb_listO (.lst (.im _)) ?_
  repeat trivial
  -- the queue holds the keys
  refine rs_while (fun m G' S' => ∃ (cs : List Ent) (at_ : Nat) (s5 s8 s9 s10 : Sl), m = 10 - at_ ∧ at_ ≤ cs.length ∧ G' = [.im (mk T M), .pt 0, .im (.lst (nsD st)), .im (.lst (nsD en)), .pt 1, s5, .pt 2, .im (iN at_), s8, s9, s10] ∧ S' = [.lst (xD M X), .dk (kN (keys cs)) (vals cs), .lst (nsD (keys cs))] ∧ Tr M X st cs ∧ (∀ s ∈ st, s ∈ keys cs) ∧
    ∀ j u, j < at_ → (keys cs)[j]? = some u → u ∉ en ∧ ∀ v q, M.stp X u v q → v ∈ keys cs) 10 ⟨cs, 0, s5, .no, .no, .no, rfl, Nat.zero_le _, rfl, by rw [ks]; rfl, tr, fun s h => by rw [ks]; exact h, fun j u h => absurd h (by omega)⟩ ?_
  rintro m G' S' ⟨cs, at_, s5, s8, s9, s10, rfl, hat, rfl, rfl, tr, hst, hdone⟩
  have hlen := tr.len ok hs
  repeat trivial
  refine cb_len (.lst (.pt rfl)) ?_
  repeat trivial
  refine iteC (fun h => ?_) fun h => ?_
  · have hlt : at_ < cs.length := by
      have := of_decide_eq_true h
      rw [nsD_len] at this
      simp [keys] at this
      omega
    obtain ⟨u, hu⟩ : ∃ u, (keys cs)[at_]? = some u := ⟨_, List.getElem?_eq_getElem (by simpa [keys] using hlt)⟩
    have hum : u ∈ keys cs := List.mem_of_getElem? hu
    repeat trivial
    refine od_ixN (e := iN u) (.lst (.pt rfl)) (by rw [List.getElem?_map, hu]; rfl) ?_
    refine rs_seq (rs_aug rfl ?_)
    repeat trivial
    refine od_inI (ns := en.map fun n : Nat => (n : Int)) (by rw [← nsD_map]; exact .lst (.im _)) ?_
    rw [if_neg Bool.false_ne_true]
    refine ⟨_, rfl, iteC (fun h => ?_) fun h => ?_⟩
    · have hue : u ∈ en := by
        obtain ⟨m, hm, e⟩ := List.mem_map.mp (of_decide_eq_true h)
        have : m = u := by omega
        exact this ▸ hm
      refine rs_freeze (k := 1) rfl rfl ?_
      repeat trivial
      refine ⟨[iN u, camD cs], rfl, by simp, ?_⟩
      exact end1_im rfl rfl (hR1 cs u tr hum hue (by omega))
    · have hue : u ∉ en := fun z => of_decide_eq_false h (List.mem_map.mpr ⟨u, z, rfl⟩)
      repeat trivial
      refine rs_for (rw_tup (re_there T ?_))
      repeat trivial
      refine ⟨_, .inr rfl, fun i G S => i ≤ M.there.length ∧ ∃ (cs : List Ent) (s8 s9 s10 : Sl), at_ < cs.length ∧ G = [.im (mk T M), .pt 0, .im (.lst (nsD st)), .im (.lst (nsD en)), .pt 1, .im (iN u), .pt 2, .im (iN (at_ + 1)), s8, s9, s10] ∧ S = [.lst (xD M X), .dk (kN (keys cs)) (vals cs), .lst (nsD (keys cs))] ∧ Tr M X st cs ∧ (∀ s ∈ st, s ∈ keys cs) ∧
        (keys cs)[at_]? = some u ∧ (∀ j u, j < at_ → (keys cs)[j]? = some u → u ∉ en ∧ ∀ v q, M.stp X u v q → v ∈ keys cs) ∧ ∀ v q, q ∈ M.there.take i → M.stp X u v q → v ∈ keys cs, ⟨Nat.zero_le _, cs, s8, s9, s10, hlt, rfl, rfl, tr, hst, hu, hdone, fun v q hq => absurd hq (by simp)⟩, ?_, ?_⟩
      · rintro i e G' S' he ⟨hi, cs, s8, s9, s10, hlt, rfl, rfl, tr, hst, hu, hdone, hpart⟩
        obtain ⟨q, hq, rfl⟩ := nsD_get he
        have hil : i < M.there.length := (List.getElem?_eq_some_iff.mp hq).1
        have hqt := List.mem_of_getElem? hq
        have hqr := (Mkt.mem_there.mp hqt).1
        have hum : u ∈ keys cs := List.mem_of_getElem? hu
        have hlen := tr.len ok hs
        refine rg_name ?_
        repeat trivial
        refine od_ixN (e := prD (M.b q, M.e q)) (.tup _) (by rw [List.getElem?_map, Mkt.run_get hqr]; rfl) ?_
        refine rg_tup rfl (rgs_cons (rgs_cons (rgs_nil ?_)))
        -- behind the swap: a leads to z
        have rest : ∀ (a z : Nat) (P : Po), (∀ w, M.stp X u w q ↔ a = u ∧ w = z) → (∀ cs' : List Ent, at_ < cs'.length → Tr M X st cs' → (∃ t, keys cs' = keys cs ++ t) → (a = u → z ∈ keys cs') → P.nx [.im (mk T M), .pt 0, .im (.lst (nsD st)), .im (.lst (nsD en)), .pt 1, .im (iN u), .pt 2, .im (iN (at_ + 1)), .im (iN q), .im (iN a), .im (iN z)] [.lst (xD M X), .dk (kN (keys cs')) (vals cs'), .lst (nsD (keys cs'))]) →
            RS c (tIfS (tAnd (tTest (tOp rEq (tVar 9) (tVar 5))) (tB (tDNotIn (tVar 10) (tVar 4)))) (tSeq (sDPut (tVar 4) (tVar 10) (tTup (tCons (tVar 5) (tCons (tVar 8) tNil)))) (tDrop (tBM c.K "list" rAppend (tVar 6) (tCons (tVar 10) tNil)))) tNext)
              [.im (mk T M), .pt 0, .im (.lst (nsD st)), .im (.lst (nsD en)), .pt 1, .im (iN u), .pt 2, .im (iN (at_ + 1)), .im (iN q), .im (iN a), .im (iN z)] [.lst (xD M X), .dk (kN (keys cs)) (vals cs), .lst (nsD (keys cs))] P := by
          intro a z P hstp k
          repeat trivial
          refine Dt.od_eq (by rfl) ?_
          refine ⟨_, rfl, iteC (fun h => ?_) fun h => ?_⟩
          · have hau : a = u := by
              have := of_decide_eq_true h
              injection this with this
              omega
            refine rt_B (re_dnotin ?_)
            repeat trivial
            refine ⟨_, Sum.inl (z : Int), rfl, rfl, ?_⟩
            repeat trivial
            refine ⟨_, _, .pt rfl, _, rfl, ?_⟩
            rw [valD_mem keys_len]
            refine iteC (fun h => ?_) fun h => ?_
            · have hz' : z ∉ keys cs := by simpa using h
              have hst' : M.stp X u z q := (hstp z).mpr ⟨hau, rfl⟩
              obtain ⟨e1, e2⟩ := dk_snoc (e := (z, some (u, q))) hz'
              refine rs_seq (rs_dput ?_)
              repeat trivial
              refine ⟨[iN u, iN q], rfl, by simp, ?_⟩
              repeat trivial
              refine ⟨_, Sum.inl (z : Int), _, _, rfl, rfl, rfl, by simp [kN, keys]; omega, ?_⟩
              trivial
              refine re_append ?_
              repeat trivial
              refine ⟨2, _, rfl, rfl, ?_⟩
              repeat trivial
              refine ⟨_, _, rfl, rfl, by simp [keys]; omega, ?_⟩
              have e3 : nsD (keys cs) ++ [iN z] = nsD (keys (cs ++ [(z, some (u, q))])) := by simp [keys, nsD]
              show P.nx _ [Cell.lst (xD M X), Cell.dk (putDK (kN (keys cs)) (Sum.inl (z : Int))) (putDL (kN (keys cs)) (vals cs) (Sum.inl (z : Int)) (vEnt (some (u, q)))), Cell.lst (nsD (keys cs) ++ [iN z])]
              rw [e3]
              rw [show putDK (kN (keys cs)) (Sum.inl (z : Int)) = kN (keys (cs ++ [(z, some (u, q))])) from e1, show putDL (kN (keys cs)) (vals cs) (Sum.inl (z : Int)) (vEnt (some (u, q))) = vals (cs ++ [(z, some (u, q))]) from e2]
              refine k (cs ++ [(z, some (u, q))]) (by simp; omega) (.step tr hum hz' hst') ⟨[z], keys_snoc⟩ fun _ => ?_
              rw [keys_snoc]; exact List.mem_append_right _ (by simp)
            · have hz' : z ∈ keys cs := by simpa using h
              refine rs_next (k cs hlt tr ⟨[], by simp⟩ fun _ => hz')
          · have hau : a ≠ u := fun e => by
              subst e
              simp at h
            exact rs_next (k cs hlt tr ⟨[], by simp⟩ fun e => absurd e hau)
        have fin : ∀ (a z : Nat), (∀ w, M.stp X u w q ↔ a = u ∧ w = z) → ∀ cs' : List Ent, at_ < cs'.length → Tr M X st cs' → (∃ t, keys cs' = keys cs ++ t) → (a = u → z ∈ keys cs') →
            (∀ s ∈ st, s ∈ keys cs') ∧ (keys cs')[at_]? = some u ∧ (∀ j u, j < at_ → (keys cs')[j]? = some u → u ∉ en ∧ ∀ v q, M.stp X u v q → v ∈ keys cs') ∧ ∀ v q, q ∈ M.there.take (i + 1) → M.stp X u v q → v ∈ keys cs' := by
          rintro a z hstp cs' hlt' tr' ⟨t, ht⟩ haz
          have hatl : at_ < (keys cs).length := by simpa [keys] using hlt
          have old : ∀ x ∈ keys cs, x ∈ keys cs' := fun x hx => by rw [ht]; exact List.mem_append_left _ hx
          refine ⟨fun s h => old s (hst s h), by rw [ht, List.getElem?_append_left hatl]; exact hu, fun j u' hj hu' => ?_, fun v q' hq' hs' => ?_⟩
          · rw [ht, List.getElem?_append_left (by omega)] at hu'
            obtain ⟨h1, h2⟩ := hdone j u' hj hu'
            exact ⟨h1, fun v q h => old v (h2 v q h)⟩
          · rw [take_succ_of hq] at hq'
            rcases List.mem_append.mp hq' with z1 | z1
            · exact old v (hpart v q' z1 hs')
            · have : q' = q := by simpa using z1
              subst this
              obtain ⟨h1, rfl⟩ := (hstp v).mp hs'
              exact haz h1
        repeat trivial
        refine od_ixN (.lst (.pt rfl)) (xD_get hqr) ?_
        refine ⟨_, rfl, iteC (fun h => ?_) fun h => ?_⟩
        · have hstp : ∀ w, M.stp X u w q ↔ M.e q = u ∧ w = M.b q := fun w => by
            constructor
            · rintro ⟨_, ⟨h1, _⟩ | ⟨_, h2, h3⟩⟩
              · rw [h] at h1; cases h1
              · exact ⟨h2, h3.symm⟩
            · rintro ⟨h2, rfl⟩
              exact ⟨hqt, .inr ⟨h, h2, rfl⟩⟩
          refine rs_par ?_
          repeat trivial
          refine ⟨_, _, rfl, rest (M.e q) (M.b q) _ hstp fun cs' h1 h2 h3 h4 => ?_⟩
          exact ⟨hil, cs', _, _, _, h1, rfl, rfl, h2, fin _ _ hstp cs' h1 h2 h3 h4⟩
        · have hstp : ∀ w, M.stp X u w q ↔ M.b q = u ∧ w = M.e q := fun w => by
            constructor
            · rintro ⟨_, ⟨_, h2, h3⟩ | ⟨h1, _⟩⟩
              · exact ⟨h2, h3.symm⟩
              · rw [h] at h1; cases h1
            · rintro ⟨h2, rfl⟩
              exact ⟨hqt, .inl ⟨h, h2, rfl⟩⟩
          refine rs_next (rest (M.b q) (M.e q) _ hstp fun cs' h1 h2 h3 h4 => ?_)
          exact ⟨hil, cs', _, _, _, h1, rfl, rfl, h2, fin _ _ hstp cs' h1 h2 h3 h4⟩
      · rintro G' S' ⟨_, cs, s8, s9, s10, hlt, rfl, rfl, tr, hst, hu, hdone, hpart⟩
        rw [nsD_len, List.take_length] at hpart
        refine ⟨10 - (at_ + 1), by have := tr.len ok hs; omega, cs, at_ + 1, _, s8, s9, s10, rfl, hlt, rfl, rfl, tr, hst, fun j u' hj hu' => ?_⟩
        by_cases e : j = at_
        · subst e
          rw [hu] at hu'; cases hu'
          exact ⟨hue, fun v q h => hpart v q h.1 h⟩
        · exact hdone j u' (by omega) hu'
  · have hge : cs.length ≤ at_ := by
      have := of_decide_eq_false h
      rw [nsD_len] at this
      simp [keys] at this
      omega
    have all : ∀ u ∈ keys cs, u ∉ en ∧ ∀ v q, M.stp X u v q → v ∈ keys cs := fun u hu => by
      obtain ⟨j, hj⟩ := List.mem_iff_getElem?.mp hu
      have : j < (keys cs).length := (List.getElem?_eq_some_iff.mp hj).1
      exact hdone j u (by simp [keys] at this; omega) hj
    refine rs_freeze (k := 1) rfl rfl ?_
    repeat trivial
    refine ⟨[nD, camD cs], rfl, by simp, ?_⟩
    exact end1_im rfl rfl (hR2 cs hst (fun e he hk => (all e hk).1 he) (fun u v q h hu => (all u hu).2 v q h) (by omega) tr.nodup)
end
end K78

set_option Elab.async false
set_option linter.all false
set_option maxRecDepth 100000
set_option maxHeartbeats 4000000
namespace K78
open PySem PySem.Spec PyProof.Rows L2 Dt
local macro_rules | `(tactic| trivial) => `(tactic| first
  | with_reducible refine re_many (‹Tx _ _›) ?_ | with_reducible refine re_all (‹Tx _ _›) ?_ | with_reducible refine re_size (‹Tx _ _›) ?_ | with_reducible refine re_runs (‹Tx _ _›) ?_ | with_reducible refine re_gone (‹Tx _ _›) ?_ | with_reducible refine re_KIND (‹Tx _ _›) ?_ | with_reducible refine re_there (‹Tx _ _›) ?_
  | with_reducible refine rs_seq ?_ | with_reducible refine rs_set ?_ | with_reducible refine rs_asg ?_ | with_reducible refine rs_ret ?_ | with_reducible refine rs_retN ?_ | with_reducible refine rs_drop ?_ | with_reducible refine rs_next ?_ | with_reducible refine rs_break ?_ | with_reducible refine rs_cont ?_ | with_reducible refine rs_if ?_
  | with_reducible refine re_var (by with_unfolding_all rfl) (by with_unfolding_all exact fun h => nomatch h) ?_ | with_reducible refine re_c ?_ | with_reducible refine ra_nil ?_ | with_reducible refine ra_cons ?_ | with_reducible refine re_cb ?_ | with_reducible refine re_call ?_ | with_reducible refine re_op ?_ | with_reducible refine od_int ?_
  | with_reducible refine re_andV ?_ | with_reducible refine re_orV ?_ | with_reducible refine re_notV ?_ | with_reducible refine re_if ?_ | with_reducible refine rt_test ?_ | with_reducible refine rt_B ?_ | with_reducible refine rt_not ?_ | with_reducible refine rt_and ?_ | with_reducible refine rt_or ?_ | with_reducible refine rt_yes ?_
  | with_reducible refine re_tup ?_ | with_reducible refine re_neg ?_ | refine ⟨_, rfl, ?_⟩ | refine ⟨‹Mkt.Ok _›, ?_⟩)
theorem max0_toNat {a b : Int} (h : a < b) (h0 : 0 ≤ a) : a.toNat < b.toNat := by omega
/-- the sum of what is asked -/
def ask (f : Nat → Int) (n : Nat) : Int := psum (fun v => max 0 (f v)) n
theorem ask_nn (f : Nat → Int) (n : Nat) : 0 ≤ ask f n := by
  have := psum_le (f := fun _ => 0) (g := fun v => max 0 (f v)) (n := n) fun i _ => by omega
  rw [psum_zero] at this
  exact this
theorem sum_beg {row : List Nat} {n : Nat} (h : row.length = n) : psum (beg row) (n + 1) = 0 := by
  have := psum_bgs_all row 0
  rw [h] at this
  exact this
theorem sum_bal {M : Mkt} (ok : M.Ok) (X : Nat → Bool) : psum (M.bal X) (M.n + 1) = 0 := by
  have := M.wsum ok X fun _ => 1
  have e1 : psum (fun v => (1 : Int) * M.bal X v) (M.n + 1) = psum (M.bal X) (M.n + 1) := psum_congr fun v _ => Int.one_mul _
  have e2 : psum (fun q => zb (X q) * ((1 : Int) - 1)) M.runs.length = psum (fun _ => 0) M.runs.length := psum_congr fun q _ => by simp
  rw [e1, e2, psum_zero] at this
  exact this
theorem all_zero {f : Nat → Int} {n : Nat} (h : ∀ v, v < n → f v ≤ 0) (hs : psum f n = 0) : ∀ v, v < n → f v = 0 := fun v hv => by
  by_cases e : f v = 0
  · exact e
  · have := psum_lt (f := f) (g := fun _ => 0) (j := v) h hv (by have := h v hv; omega)
    rw [psum_zero, hs] at this
    omega
section
variable {c : Cn} {mg : Str → Option Value} {base : Heap} (T : Tx c.K mg)
variable {G : SG} {S : SC} {Q : SC → Sl → Prop} {ta : TE}
def W_chosen : Wp := fun A S R => ∃ (M : Mkt) (X : Nat → Bool), A = [.pt 0] ∧ S = [.lst (xD M X)] ∧ M.Ok ∧ R [.dead] (.im (tN (ins M.runs.length X)))
theorem len_chosen : ∀ A S R, W_chosen A S R → A.length = 1 := by rintro A S R ⟨M, X, rfl, _⟩; rfl
theorem ok_chosen : FnOk c.P c.w c.K mg base CX0 1 (T.f "_chosen") (T.fd "_chosen") ["inside"] (spD c W_chosen) := by
  refine mk_u_chosen T len_chosen ?_
  rintro A S R ⟨M, X, rfl, rfl, ok, hR⟩
  unfold t_u_chosen
  have rl := ok.rl
  refine rs_freeze (k := 0) rfl rfl ?_
  refine rs_ret (re_cb (ra_cons (re_lcW false (gon_tup2 (by simp) (by simp)) (rw_enum ?_))))
  repeat trivial
  refine ⟨_, _, rfl, .lst _, by rw [enumD_length]; simp; omega, fun i S' acc => S' = [.dead] ∧ acc = nsD ((List.range i).filter X), ⟨rfl, rfl⟩, ?_, ?_⟩
  · rintro i e S' acc he _ ⟨rfl, rfl⟩
    obtain ⟨dd, hdd, rfl⟩ := enumD_get he
    have hi : i < M.runs.length := by
      have := (List.getElem?_eq_some_iff.mp hdd).1
      simpa using this
    rw [xD_get hi] at hdd
    cases hdd
    refine rg_tup rfl (rgs_cons (rgs_cons (rgs_nil ?_)))
    repeat trivial
    refine iteC (fun h => ?_) fun h => ?_
    · repeat trivial
      refine ⟨rfl, ?_⟩
      rw [List.range_succ, List.filter_append]
      simp [h, nsD]
    · refine ⟨rfl, ?_⟩
      rw [List.range_succ, List.filter_append]
      simp [h]
  · rintro S' acc _ ⟨rfl, rfl⟩
    rw [if_neg Bool.false_ne_true, enumD_length]
    repeat trivial
    refine cb_tuple (.im _) ?_
    refine end1_im rfl rfl ?_
    have e : (xD M X).length = M.runs.length := by simp
    rw [e]; exact hR
def W_filled : Wp := fun A S R => ∃ (M : Mkt) (row : List Nat), A = [.im (mk T M), .im (tN row)] ∧ S = [] ∧ M.Ok ∧ row.length = M.n ∧ (∀ l, M.Fit row l → R [] (.im (.tup [tN l, .tup []]))) ∧ ((∀ l, ¬ M.Fit row l) → ∀ ks, R [] (.im (.tup [nD, tN ks])))
theorem len_filled : ∀ A S R, W_filled T A S R → A.length = 2 := by rintro A S R ⟨M, X, rfl, _⟩; rfl
/-- [point for point in points if need[point] > 0] -/
theorem pts_of {f : Nat → Int} {n : Nat} (p : Int → Bool) {G : SG} {S : SC} {Q : SC → Sl → Prop} {tt : TT} (hn : n ≤ 1000) (hG : G[4]? = some (.im (.rng 0 (n : Int)))) (hl : G.length = 11)
    (ht : ∀ (v : Nat) (Q' : SC → Bool → Prop), v < n → Q' S (p (f v)) → RT c tt ((wipeG G [10]).set 10 (.im (iN v))) S Q')
    (q : Q S (.im (.lst (nsD ((List.range n).filter fun v => p (f v)))))) : RE c (tLc (iRngV (tVar 4)) (gName 10) tt (tVar 10) [10]) G S Q := by
  refine re_lcW false (gon_name (by simp)) (rw_rngV (re_var hG (by intro h; cases h) ⟨0, n, rfl, by omega, ?_⟩))
  have e : ((n : Int) - 0).toNat = n := by omega
  rw [e]
  refine ⟨by rw [rangeD_length]; omega, fun i S' acc => S' = S ∧ acc = nsD ((List.range i).filter fun v => p (f v)), ⟨rfl, rfl⟩, ?_, ?_⟩
  · rintro i e S' acc he _ ⟨rfl, rfl⟩
    obtain ⟨hi, rfl⟩ := rangeD_get he
    rw [Int.zero_add]
    refine rg_name (ht i _ hi (iteC (fun h => ?_) fun h => ?_))
    · refine re_var (List.getElem?_set_self (by rw [wipeG_length, hl]; decide)) (by intro h; cases h) ⟨_, rfl, rfl, ?_⟩
      rw [List.range_succ, List.filter_append]
      simp [h, nsD]
    · refine ⟨rfl, ?_⟩
      rw [List.range_succ, List.filter_append]
      simp [h]
  · rintro S' acc _ ⟨rfl, rfl⟩
    rw [if_neg Bool.false_ne_true, rangeD_length]
    exact q
abbrev nD' (f : Nat → Int) (n : Nat) : List D := (List.range n).map fun v => iD (f v)
theorem nD_get {f : Nat → Int} {n v : Nat} (h : v < n) : (nD' f n)[v]? = some (iD (f v)) := by rw [List.getElem?_map, List.getElem?_range h]; rfl
theorem ok_filled : FnOk c.P c.w c.K mg base CX0 4 (T.f "_filled") (T.fd "_filled") ["market", "row"] (spD c (W_filled T)) := by
  refine mk_u_filled T (ok_begins T) (ok_chosen T) (ok_reached T) (ok_turn T) (len_filled T) ?_
  rintro A S R ⟨M, row, rfl, rfl, ok, hr, hR1, hR2⟩
  unfold t_u_filled
  have n8 := ok.n8
  have rl := ok.rl
  repeat trivial
  refine call0 (by simp) ⟨M, tN row, row, rfl, rfl, ok, .row hr, fun _ => ?_⟩
  repeat trivial
  refine cb_listO (.tup _) ?_
  refine rs_seq (rs_set (re_lcW true (gon_name (by simp)) (rw_tup ?_)))
  repeat trivial
  refine ⟨_, .inl rfl, by rw [rsD_len]; omega, fun i S' acc => S' = [.lst ((bgs 0 row).map iD)] ∧ acc = (List.range i).map (fun _ => bD false), ⟨rfl, rfl⟩, ?_, ?_⟩
  · rintro i e S' acc he _ ⟨rfl, rfl⟩
    refine rg_name (rt_yes (iteY rfl (re_c ⟨_, rfl, rfl, ?_⟩)))
    rw [List.range_succ, List.map_append]; rfl
  rintro S' acc _ ⟨rfl, rfl⟩
  rw [if_pos rfl, rsD_len]
  have e0 : (bgs 0 row).map iD = nD' (fun v => beg row v - M.bal (fun _ => false) v) (M.n + 1) := by
    refine List.ext_getElem? fun v => ?_
    by_cases hv : v < M.n + 1
    · have hb : M.bal (fun _ => false) v = 0 := by
        unfold Mkt.bal
        have : psum (fun q => zb false * M.dl q v) M.runs.length = psum (fun _ => 0) M.runs.length := psum_congr fun q _ => by simp [zb]
        rw [this, psum_zero]
      rw [nD_get hv, hb, List.getElem?_map]
      unfold beg
      rw [List.getD_eq_getElem?_getD, List.getElem?_eq_getElem (by rw [bgs_len, hr]; exact hv)]
      simp
    · rw [List.getElem?_eq_none (by rw [List.length_map, bgs_len, hr]; omega), List.getElem?_eq_none (by simp; omega)]
  have e1 : ((List.range M.runs.length).map fun _ => bD false) = xD M (fun _ => false) := rfl
  rw [e0, e1]
  repeat trivial
  refine cb_range1 ?_
  refine rs_while (fun m G' S' => ∃ (X : Nat → Bool) (s5 s6 s7 s8 : Sl), m = (ask (fun v => beg row v - M.bal X v) (M.n + 1)).toNat ∧ G' = [.im (mk T M), .im (tN row), .pt 0, .pt 1, .im (.rng 0 ((M.n + 1 : Nat) : Int)), s5, s6, s7, s8, .no, .no] ∧ S' = [.lst (nD' (fun v => beg row v - M.bal X v) (M.n + 1)), .lst (xD M X)] ∧ ∀ q, X q = true → q ∈ M.there) _ ⟨fun _ => false, .no, .no, .no, .no, rfl, rfl, rfl, fun q h => by cases h⟩ ?_
  rintro m G' S' ⟨X, s5, s6, s7, s8, rfl, rfl, rfl, hX⟩
  let f : Nat → Int := fun v => beg row v - M.bal X v
  refine rt_B (re_c ⟨true, rfl, iteY rfl ?_⟩)
  refine rs_seq (rs_set (pts_of (f := f) (n := M.n + 1) (fun i => decide (0 < i)) (by omega) rfl rfl (fun v Q' hv q => ?_) ?_))
  · refine rt_test (re_op (re_op (re_var rfl (by intro h; cases h) (re_var rfl (by intro h; cases h) (od_ixN (.lst (.pt rfl)) (nD_get hv) (re_c (od_int ⟨_, rfl, q⟩)))))))
  repeat trivial
  refine cb_len (.lst (.im _)) ?_
  repeat trivial
  refine Dt.od_eq (by rfl) ?_
  refine ⟨_, rfl, iteC (fun h => ?_) fun h => ?_⟩
  · -- nothing is asked any more
    have hnil : ∀ v, v < M.n + 1 → f v ≤ 0 := fun v hv => by
      have h0 : ((List.range (M.n + 1)).filter fun v => decide (0 < f v)).length = 0 := by
        have := of_decide_eq_true h
        injection this with this
        rw [nsD_len] at this
        omega
      have h1 := List.length_eq_zero_iff.mp h0
      rw [List.filter_eq_nil_iff] at h1
      have := h1 v (List.mem_range.mpr hv)
      simp at this
      omega
    have hz := all_zero hnil (by
      show psum (fun v => beg row v - M.bal X v) (M.n + 1) = 0
      rw [psum_sub, sum_beg hr, sum_bal ok]; rfl)
    have hfit : M.Fit row (ins M.runs.length X) := fit_ins ok hr hX fun v hv => by
      have : beg row v - M.bal X v = 0 := hz v hv
      omega
    repeat trivial
    refine callP (pre := []) (post := []) (k := 1) rfl rfl (by simp) ⟨M, X, rfl, rfl, ok, fun x' ex _ => ?_⟩
    cases ex
    repeat trivial
    refine ⟨[], rfl, by simp, ?_⟩
    repeat trivial
    exact ⟨[tN (ins M.runs.length X), .tup []], rfl, by simp, end_im (hR1 _ hfit)⟩
  · have hne : ∃ s, s < M.n + 1 ∧ 0 < f s := by
      have h0 : ((List.range (M.n + 1)).filter fun v => decide (0 < f v)) ≠ [] := fun e => by
        have := of_decide_eq_false h
        rw [nsD_len] at this
        rw [e] at this
        exact this rfl
      obtain ⟨s, hs⟩ := List.exists_mem_of_ne_nil _ h0
      rw [List.mem_filter, List.mem_range] at hs
      exact ⟨s, hs.1, of_decide_eq_true hs.2⟩
    trivial
    refine rs_seq (rs_set (pts_of (f := f) (n := M.n + 1) (fun i => decide (i < 0)) (by omega) rfl rfl (fun v Q' hv q => ?_) ?_))
    · refine rt_test (re_op (re_op (re_var rfl (by intro h; cases h) (re_var rfl (by intro h; cases h) (od_ixN (.lst (.pt rfl)) (nD_get hv) (re_c (od_int ⟨_, rfl, q⟩)))))))
    repeat trivial
    refine callP (pre := [.im (mk T M)]) (k := 1) rfl rfl (by simp) ⟨M, X, _, _, rfl, rfl, ok, srt_nodup (srt_filter (srt_range _)), fun s hs => ?_, ?_, ?_, ?_⟩
    · rw [List.mem_filter, List.mem_range] at hs
      omega
    · exact Nat.le_trans (List.length_filter_le _ _) (by rw [List.length_range]; omega)
    · -- a way to an end
      rintro cs p tr hp hpe hcl x' ex _
      cases ex
      rw [List.mem_filter, List.mem_range] at hpe
      have hpn := hpe.1
      have hpf : f p < 0 := of_decide_eq_true hpe.2
      refine rg_tup rfl (rgs_cons (rgs_cons (rgs_nil ?_)))
      repeat trivial
      refine od_isNo (not_nD (by intro h; cases h)) ⟨_, rfl, iteN rfl ?_⟩
      trivial
      refine rs_seq (rs_augS ?_)
      repeat trivial
      refine ⟨(p : Int), f p, _, p, rfl, rfl, ixN_nat (by simp; omega), nD_get hpn, ?_⟩
      repeat trivial
      refine ⟨_, _, rfl, rfl, ixN_nat (by simp; omega), ?_⟩
      refine rs_augS ?_
      repeat trivial
      refine callP (pre := []) (k := 1) rfl rfl (by simp) ⟨M, X, _, cs, p, rfl, rfl, ok, tr, hp, hX, fun X' r hr' hX' hbal x' ex _ => ?_⟩
      cases ex
      rw [List.mem_filter, List.mem_range] at hr'
      have hrn := hr'.1
      have hrf : 0 < f r := of_decide_eq_true hr'.2
      have hrp : r ≠ p := fun e => by subst e; omega
      refine ⟨(r : Int), f r, _, r, rfl, rfl, ixN_nat (by simp; omega), ?_, ?_⟩
      · rw [set_range (by omega), List.getElem?_map, List.getElem?_range hrn]
        simp [hrp]
        rfl
      repeat trivial
      refine ⟨_, _, rfl, rfl, ixN_nat (by simp; omega), ?_⟩
      have hf' : ∀ v, beg row v - M.bal X' v = f v - (if r = v then 1 else 0) + (if p = v then 1 else 0) := fun v => by
        rw [hbal]
        show _ = beg row v - M.bal X v - _ + _
        omega
      refine ⟨_, ?_, X', _, _, _, _, rfl, rfl, ?_, hX'⟩
      · refine max0_toNat ?_ (ask_nn _ _)
        refine psum_lt (j := r) (fun v _ => ?_) hrn ?_
        · show max 0 (beg row v - M.bal X' v) ≤ max 0 (f v)
          rw [hf']
          by_cases e1 : r = v
          · subst e1
            have : ¬ p = r := fun e => hrp e.symm
            simp only [this, if_true, if_false]
            omega
          · by_cases e2 : p = v
            · subst e2
              simp only [e1, if_true, if_false]
              omega
            · simp only [e1, e2, if_false]
              omega
        · have : ¬ p = r := fun e => hrp e.symm
          show max 0 (beg row r - M.bal X' r) < max 0 (f r)
          rw [hf']
          simp only [this, if_true, if_false]
          omega
      · show [Cell.lst _, Cell.lst _] = _
        rw [set_range (by omega), set_range (by omega)]
        congr 2
        refine List.map_congr_left fun v _ => ?_
        show (if v = r then iD (f r - 1) else if v = p then iD (f p + 1) else iD (f v)) = iD (beg row v - M.bal X' v)
        rw [hf']
        by_cases e1 : v = r
        · subst e1
          have : ¬ p = v := fun e => hrp e.symm
          simp [this]
        · by_cases e2 : v = p
          · subst e2
            have : ¬ r = v := fun e => e1 e.symm
            simp [e1, this]
          · have h1 : ¬ r = v := fun e => e1 e.symm
            have h2 : ¬ p = v := fun e => e2 e.symm
            simp [e1, e2, h1, h2]
    · -- no way: no stock
      rintro cs hst hen hcl hlen hnd x' ex _
      cases ex
      obtain ⟨s, hsn, hsf⟩ := hne
      have hno : ∀ l, ¬ M.Fit row l := no_fit ok hX (Z := fun v => decide (v ∈ keys cs)) (fun u v q h hu => decide_eq_true (hcl u v q h (of_decide_eq_true hu)))
        (fun v hv hz => by
          have hk : v ∈ keys cs := of_decide_eq_true hz
          by_cases e : f v < 0
          · exact absurd hk (hen v (List.mem_filter.mpr ⟨List.mem_range.mpr hv, decide_eq_true e⟩))
          · show 0 ≤ f v
            omega) hsn (decide_eq_true (hst s (List.mem_filter.mpr ⟨List.mem_range.mpr hsn, decide_eq_true hsf⟩))) hsf
      refine rg_tup rfl (rgs_cons (rgs_cons (rgs_nil ?_)))
      repeat trivial
      refine od_isNo0 ⟨_, rfl, iteY rfl ?_⟩
      repeat trivial
      refine cb_listD (.im _ _) ?_
      repeat trivial
      refine cb_sortedI (ns := (keys cs).map fun n : Nat => (n : Int)) (by rw [nsD_keys, ← nsD_map]; exact .im _) fun ms pm so => ?_
      obtain ⟨r, rfl, _, _⟩ := srt_of pm so hnd
      repeat trivial
      refine cb_tuple (.im _) ?_
      rw [← nsD_map]
      repeat trivial
      exact ⟨[nD, tN r], rfl, by simp, end_im (hR2 hno r)⟩
/-! ### stocks by flows, the strength -/
def W_any_stock : Wp := fun A S R => ∃ (M : Mkt) (row : List Nat), A = [.im (mk T M), .im (tN row)] ∧ S = [] ∧ M.Ok ∧ row.length = M.n ∧ (∀ l, M.Fit row l → R [] (.im (tN l))) ∧ ((∀ l, ¬ M.Fit row l) → R [] (.im nD))
theorem len_any_stock : ∀ A S R, W_any_stock T A S R → A.length = 2 := by rintro A S R ⟨M, X, rfl, _⟩; rfl
theorem ok_any_stock : FnOk c.P c.w c.K mg base CX0 5 (T.f "_any_stock") (T.fd "_any_stock") ["market", "row"] (spD c (W_any_stock T)) := by
  refine mk_u_any_stock T (ok_filled T) (len_any_stock T) ?_
  rintro A S R ⟨M, row, rfl, rfl, ok, hr, hR1, hR2⟩
  unfold t_u_any_stock
  repeat trivial
  refine Dt.od_eq (by rfl) ?_
  refine ⟨_, rfl, iteY (decide_eq_true rfl) ?_⟩
  repeat trivial
  refine call0 (by simp) ⟨M, row, rfl, rfl, ok, hr, fun l hl _ => ?_, fun hn ks _ => ?_⟩
  · repeat trivial
    exact od_ixN (i := 0) (.tup _) rfl (end_im (hR1 l hl))
  · repeat trivial
    exact od_ixN (i := 0) (.tup _) rfl (end_im (hR2 hn))
def W_some_stock : Wp := fun A S R => ∃ (M : Mkt) (d : D) (row : List Nat), A = [.im (mk T M), .im d] ∧ S = [] ∧ M.Ok ∧ DemD M d row ∧ (∀ l, M.Fit row l → R [] (.im (tN l))) ∧ ((∀ l, ¬ M.Fit row l) → R [] (.im nD))
theorem len_some_stock : ∀ A S R, W_some_stock T A S R → A.length = 2 := by rintro A S R ⟨M, d, X, rfl, _⟩; rfl
theorem ok_some_stock : FnOk c.P c.w c.K mg base CX0 6 (T.f "some_stock") (T.fd "some_stock") ["market", "demand"] (spD c (W_some_stock T)) := by
  refine mk_some_stock T (ok_any_stock T) (ok_demand_of T) (len_some_stock T) ?_
  rintro A S R ⟨M, d, row, rfl, rfl, ok, hd, hR1, hR2⟩
  unfold t_some_stock
  repeat trivial
  refine call0 (by simp) ⟨M, d, row, rfl, rfl, ok, hd, fun _ => ?_⟩
  repeat trivial
  exact call0 (by simp) ⟨M, row, rfl, rfl, ok, hd.len, fun l hl _ => end_im (hR1 l hl), fun hn _ => end_im (hR2 hn)⟩
def W_has_stock : Wp := fun A S R => ∃ (M : Mkt) (d : D) (row : List Nat), A = [.im (mk T M), .im d] ∧ S = [] ∧ M.Ok ∧ DemD M d row ∧ (∀ l, M.Fit row l → R [] (.im (bD true))) ∧ ((∀ l, ¬ M.Fit row l) → R [] (.im (bD false)))
theorem len_has_stock : ∀ A S R, W_has_stock T A S R → A.length = 2 := by rintro A S R ⟨M, d, X, rfl, _⟩; rfl
theorem ok_has_stock : FnOk c.P c.w c.K mg base CX0 6 (T.f "has_stock") (T.fd "has_stock") ["market", "demand"] (spD c (W_has_stock T)) := by
  refine mk_has_stock T (ok_any_stock T) (ok_demand_of T) (len_has_stock T) ?_
  rintro A S R ⟨M, d, row, rfl, rfl, ok, hd, hR1, hR2⟩
  unfold t_has_stock
  repeat trivial
  refine call0 (by simp) ⟨M, d, row, rfl, rfl, ok, hd, fun _ => ?_⟩
  repeat trivial
  refine call0 (by simp) ⟨M, row, rfl, rfl, ok, hd.len, fun l hl _ => ?_, fun hn _ => ?_⟩
  · repeat trivial
    exact od_notN (not_nD (by intro h; cases h)) (end_im (hR1 l hl))
  · repeat trivial
    exact od_notN0 (end_im (hR2 hn))
/-- stocks of a size -/
abbrev Mkt.Stk (M : Mkt) (k : Nat) (l : List Nat) : Prop := M.Fit (List.replicate M.n k) l
theorem beg_rep {n k v : Nat} (hn : 1 ≤ n) (hv : v < n + 1) : beg (List.replicate n k) v = (if 0 = v then (k : Int) else 0) - (if n = v then (k : Int) else 0) := by
  have gen : ∀ (n : Nat) (b : Int) (v : Nat), 1 ≤ n → v < n + 1 → (bgs b (List.replicate n k)).getD v 0 = (if 0 = v then (k : Int) - b else 0) - (if n = v then (k : Int) else 0) := by
    intro n
    induction n with
    | zero => intro b v h; omega
    | succ n ih =>
      intro b v _ hv
      rw [List.replicate_succ]
      show (((k : Int) - b) :: bgs (k : Int) (List.replicate n k)).getD v 0 = _
      cases v with
      | zero => simp
      | succ v =>
        simp only [List.getD_cons_succ]
        cases n with
        | zero =>
          have : v = 0 := by omega
          subst this
          simp [bgs]
        | succ n =>
          rw [ih (k : Int) v (by omega) (by omega)]
          have e1 : ¬ 0 = v + 1 := by omega
          by_cases e2 : n + 1 = v
          · have e3 : n + 1 + 1 = v + 1 := by omega
            simp [e1, e2, e3]
          · have e3 : ¬ n + 1 + 1 = v + 1 := by omega
            simp [e1, e2, e3]
  have := gen n 0 v hn hv
  simpa [beg] using this
/-- the strength: a stock of the size, none of the next -/
def Mkt.Str (M : Mkt) (s : Nat) : Prop := (∃ l, M.Stk s l) ∧ ∀ l, ¬ M.Stk (s + 1) l
def W_full_flow : Wp := fun A S R => ∃ M : Mkt, A = [.im (mk T M)] ∧ S = [] ∧ M.Ok ∧ ∀ s d, M.Str s → R [] (.im (.tup [iN s, d]))
theorem len_full_flow : ∀ A S R, W_full_flow T A S R → A.length = 1 := by rintro A S R ⟨M, rfl, _⟩; rfl
theorem bal_le {M : Mkt} (X : Nat → Bool) (v : Nat) : M.bal X v ≤ M.runs.length := by
  have h := psum_le (f := fun q => zb (X q) * M.dl q v) (g := fun _ => 1) (n := M.runs.length) fun q _ => by
    show zb (X q) * M.dl q v ≤ 1
    unfold Mkt.dl zb
    cases X q <;> simp <;> (repeat' split) <;> omega
  have e : ∀ n, psum (fun _ => (1 : Int)) n = n := by
    intro n
    induction n with
    | zero => rfl
    | succ n ih => show psum _ n + 1 = _; rw [ih]; omega
  rw [e] at h
  exact h
theorem ok_full_flow : FnOk c.P c.w c.K mg base CX0 4 (T.f "_full_flow") (T.fd "_full_flow") ["market"] (spD c (W_full_flow T)) := by
  refine mk_u_full_flow T (ok_reached T) (ok_turn T) (len_full_flow T) ?_
  rintro A S R ⟨M, rfl, rfl, ok, hR⟩
  unfold t_u_full_flow
  have n1 := ok.n1
  have n8 := ok.n8
  have rl := ok.rl
  refine rs_seq (rs_set (re_lcW true (gon_name (by simp)) (rw_tup ?_)))
  repeat trivial
  refine ⟨_, .inl rfl, by rw [rsD_len]; omega, fun i S' acc => S' = [] ∧ acc = (List.range i).map (fun _ => bD false), ⟨rfl, rfl⟩, ?_, ?_⟩
  · rintro i e S' acc he _ ⟨rfl, rfl⟩
    refine rg_name (rt_yes (iteY rfl (re_c ⟨_, rfl, rfl, ?_⟩)))
    rw [List.range_succ, List.map_append]; rfl
  rintro S' acc _ ⟨rfl, rfl⟩
  rw [if_pos rfl, rsD_len]
  have e1 : ((List.range M.runs.length).map fun _ => bD false) = xD M (fun _ => false) := rfl
  rw [e1]
  -- a flow of the size k
  let Fl (X : Nat → Bool) (k : Nat) : Prop := (∀ q, X q = true → q ∈ M.there) ∧ ∀ v, M.bal X v = (if 0 = v then (k : Int) else 0) - (if M.n = v then (k : Int) else 0)
  have fl_fit : ∀ {X k}, Fl X k → M.Stk k (ins M.runs.length X) := fun {X k} h => fit_ins ok (by simp) h.1 fun v hv => by rw [h.2, beg_rep n1 hv]
  have fl_le : ∀ {X k}, Fl X k → k ≤ M.runs.length := fun {X k} h => by
    have h1 := bal_le (M := M) X 0
    rw [h.2] at h1
    have : ¬ M.n = 0 := by omega
    simp [this] at h1
    omega
  -- the last and came of a search
  let Res (X : Nat → Bool) (k : Nat) (a b : D) : Prop := (∃ cs, a = iN M.n ∧ b = camD cs ∧ Tr M X [0] cs ∧ M.n ∈ keys cs) ∨ (∃ cs, a = nD ∧ b = camD cs ∧ (keys cs).Nodup ∧ ∀ l, ¬ M.Stk (k + 1) l)
  have search : ∀ (X : Nat → Bool) (k : Nat) (s2 s3 s4 s5 : Sl) (Q : SC → Sl → Prop), Fl X k → (∀ a b, Res X k a b → Q [.lst (xD M X)] (.im (.tup [a, b]))) →
      RE c (tCall (spD c (W_reached T)) [] E0 (tCons (tVar 0) (tCons (tVar 1) (tCons (tLst (tCons (tC (.int 0)) tNil)) (tCons (tLst (tCons (tFld c.K (tVar 0) "size") tNil)) tNil))))) [.im (mk T M), .pt 0, s2, s3, s4, s5] [.lst (xD M X)] Q := by
    intro X k s2 s3 s4 s5 Q hfl hq
    trivial
    trivial
    trivial
    trivial
    trivial
    trivial
    refine re_lst ?_
    repeat trivial
    refine ⟨[iN 0], rfl, by simp, ?_⟩
    trivial
    refine re_lst ?_
    repeat trivial
    refine ⟨[iN M.n], rfl, by simp, ?_⟩
    trivial
    refine callP (pre := [.im (mk T M)]) (k := 0) rfl rfl (by simp) ⟨M, X, [0], [M.n], rfl, rfl, ok, by simp, fun s hs => by simp at hs; omega, by simp, ?_, ?_⟩
    · rintro cs p tr hp hpe hcl x' ex _
      cases ex
      have : p = M.n := by simpa using hpe
      subst this
      exact hq _ _ (.inl ⟨cs, rfl, rfl, tr, hp⟩)
    · rintro cs hst hen hcl hlen hnd x' ex _
      cases ex
      refine hq _ _ (.inr ⟨cs, rfl, rfl, hnd, ?_⟩)
      refine no_fit ok hfl.1 (Z := fun v => decide (v ∈ keys cs)) (fun u v q h hu => decide_eq_true (hcl u v q h (of_decide_eq_true hu))) (fun v hv hz => ?_) (s := 0) (by omega) (decide_eq_true (hst 0 (by simp))) ?_
      · rw [beg_rep n1 hv, hfl.2]
        have hk : v ∈ keys cs := of_decide_eq_true hz
        have hvn : ¬ M.n = v := fun e => hen M.n (by simp) (e ▸ hk)
        by_cases e0 : 0 = v <;> simp [hvn, e0]
        omega
      · rw [beg_rep n1 (by omega), hfl.2]
        have : ¬ M.n = 0 := by omega
        simp [this]
        omega
  have fl0 : Fl (fun _ => false) 0 := by
    refine ⟨fun q h => (by cases h), fun v => ?_⟩
    have : M.bal (fun _ => false) v = 0 := by
      unfold Mkt.bal
      have : psum (fun q => zb false * M.dl q v) M.runs.length = psum (fun _ => 0) M.runs.length := psum_congr fun q _ => by simp [zb]
      rw [this, psum_zero]
    rw [this]
    simp
  refine rs_seq (rs_set (re_c ?_))
  refine rs_seq (rs_asg (search _ 0 _ _ _ _ _ fl0 fun a b hres => ?_))
  refine rg_tup rfl (rgs_cons (rgs_cons (rgs_nil ?_)))
  refine rs_seq (rs_while (fun m G' S' => ∃ (X : Nat → Bool) (k : Nat) (a b : D), m = M.runs.length - k ∧ Fl X k ∧ Res X k a b ∧ G' = [.im (mk T M), .pt 0, .im (iN k), .im a, .im b, .no] ∧ S' = [.lst (xD M X)]) _ ⟨_, 0, a, b, rfl, fl0, hres, rfl, rfl⟩ ?_)
  rintro m G' S' ⟨X, k, a, b, rfl, hfl, hres, rfl, rfl⟩
  repeat trivial
  rcases hres with ⟨cs, rfl, rfl, tr, hp⟩ | ⟨cs, rfl, rfl, hnd, hno⟩
  · refine od_notN (not_nD (by intro h; cases h)) ⟨_, rfl, iteY rfl ?_⟩
    repeat trivial
    refine callP (pre := []) (k := 0) rfl rfl (by simp) ⟨M, X, [0], cs, M.n, rfl, rfl, ok, tr, hp, hfl.1, fun X' r hr' hX' hbal x' ex _ => ?_⟩
    cases ex
    have hr0 : r = 0 := by simpa using hr'
    subst hr0
    have hfl' : Fl X' (k + 1) := ⟨hX', fun v => by
      rw [hbal, hfl.2]
      by_cases e0 : 0 = v <;> by_cases e1 : M.n = v <;> simp [e0, e1] <;> omega⟩
    refine rs_seq (rs_aug rfl (re_c ⟨_, rfl, ?_⟩))
    refine rs_asg (search X' (k + 1) _ _ _ _ _ hfl' fun a b hres' => ?_)
    refine rg_tup rfl (rgs_cons (rgs_cons (rgs_nil ?_)))
    have := fl_le hfl'
    exact ⟨M.runs.length - (k + 1), by omega, X', k + 1, a, b, rfl, hfl', hres', rfl, rfl⟩
  · refine od_notN0 ⟨_, rfl, iteN rfl ?_⟩
    repeat trivial
    refine cb_listD (.im _ _) ?_
    repeat trivial
    refine cb_sortedI (ns := (keys cs).map fun n : Nat => (n : Int)) (by rw [nsD_keys, ← nsD_map]; exact .im _) fun ms pm so => ?_
    obtain ⟨r, rfl, _, _⟩ := srt_of pm so hnd
    repeat trivial
    refine cb_tuple (.im _) ?_
    rw [← nsD_map]
    repeat trivial
    exact ⟨[iN k, tN r], rfl, by simp, end_im (hR k _ ⟨⟨_, fl_fit hfl⟩, hno⟩)⟩
def W_strength : Wp := fun A S R => ∃ M : Mkt, A = [.im (mk T M)] ∧ S = [] ∧ M.Ok ∧ ∀ s, M.Str s → R [] (.im (iN s))
theorem len_strength : ∀ A S R, W_strength T A S R → A.length = 1 := by rintro A S R ⟨M, rfl, _⟩; rfl
theorem ok_strength : FnOk c.P c.w c.K mg base CX0 5 (T.f "strength") (T.fd "strength") ["market"] (spD c (W_strength T)) := by
  refine mk_strength T (ok_full_flow T) (len_strength T) ?_
  rintro A S R ⟨M, rfl, rfl, ok, hR⟩
  unfold t_strength
  repeat trivial
  refine Dt.od_eq (by rfl) ?_
  refine ⟨_, rfl, iteY (decide_eq_true rfl) ?_⟩
  repeat trivial
  refine call0 (by simp) ⟨M, rfl, rfl, ok, fun s d hs _ => ?_⟩
  repeat trivial
  exact od_ixN (i := 0) (.tup _) rfl (end_im (hR s hs))
end
end K78

set_option Elab.async false
set_option linter.all false
set_option maxRecDepth 100000
set_option maxHeartbeats 4000000
namespace K78
open PySem PySem.Spec PyProof.Rows L2 Dt
local macro_rules | `(tactic| trivial) => `(tactic| first
  | with_reducible refine re_many (‹Tx _ _›) ?_ | with_reducible refine re_all (‹Tx _ _›) ?_ | with_reducible refine re_size (‹Tx _ _›) ?_ | with_reducible refine re_runs (‹Tx _ _›) ?_ | with_reducible refine re_gone (‹Tx _ _›) ?_ | with_reducible refine re_KIND (‹Tx _ _›) ?_ | with_reducible refine re_there (‹Tx _ _›) ?_
  | with_reducible refine rs_seq ?_ | with_reducible refine rs_set ?_ | with_reducible refine rs_asg ?_ | with_reducible refine rs_ret ?_ | with_reducible refine rs_retN ?_ | with_reducible refine rs_drop ?_ | with_reducible refine rs_next ?_ | with_reducible refine rs_break ?_ | with_reducible refine rs_cont ?_ | with_reducible refine rs_if ?_
  | with_reducible refine re_var (by with_unfolding_all rfl) (by with_unfolding_all exact fun h => nomatch h) ?_ | with_reducible refine re_c ?_ | with_reducible refine ra_nil ?_ | with_reducible refine ra_cons ?_ | with_reducible refine re_cb ?_ | with_reducible refine re_call ?_ | with_reducible refine re_op ?_ | with_reducible refine od_int ?_
  | with_reducible refine re_andV ?_ | with_reducible refine re_orV ?_ | with_reducible refine re_notV ?_ | with_reducible refine re_if ?_ | with_reducible refine rt_test ?_ | with_reducible refine rt_B ?_ | with_reducible refine rt_not ?_ | with_reducible refine rt_and ?_ | with_reducible refine rt_or ?_ | with_reducible refine rt_yes ?_
  | with_reducible refine re_tup ?_ | with_reducible refine re_neg ?_ | refine ⟨_, rfl, ?_⟩ | refine ⟨‹Mkt.Ok _›, ?_⟩)
/-! ### all stocks -/
theorem cnt_nil (M : Mkt) (p : Nat) : M.cnt [] p = 0 := rfl
theorem cnt_append (M : Mkt) (a b : List Nat) (p : Nat) : M.cnt (a ++ b) p = M.cnt a p + M.cnt b p := by
  unfold Mkt.cnt; rw [List.filter_append, List.length_append]
theorem cnt_cons (M : Mkt) (q : Nat) (l : List Nat) (p : Nat) : M.cnt (q :: l) p = (if M.cv q p then 1 else 0) + M.cnt l p := by
  unfold Mkt.cnt
  rw [List.filter_cons]
  split <;> simp <;> omega
/-- a sorted list within another one counts no more -/
theorem cnt_sub (M : Mkt) (p : Nat) : ∀ {a b : List Nat}, a.Nodup → (∀ x ∈ a, x ∈ b) → M.cnt a p ≤ M.cnt b p
  | [], b, _, _ => Nat.zero_le _
  | x :: a, b, nd, h => by
    have nd' := List.nodup_cons.mp nd
    have hx := h x List.mem_cons_self
    obtain ⟨b1, b2, rfl⟩ := List.append_of_mem hx
    have h2 : ∀ y ∈ a, y ∈ b1 ++ b2 := fun y hy => by
      have h3 := h y (List.mem_cons_of_mem _ hy)
      have hne : y ≠ x := fun e => nd'.1 (e ▸ hy)
      simp only [List.mem_append, List.mem_cons] at h3 ⊢
      rcases h3 with z | z | z
      · exact .inl z
      · exact absurd z hne
      · exact .inr z
    have ih := cnt_sub M p nd'.2 h2
    rw [cnt_append] at ih
    rw [cnt_cons, cnt_append, cnt_cons]
    omega
theorem drop_idx : ∀ {l : List Nat} {x : Nat}, srt l → x ∈ l → l.drop (l.idxOf x + 1) = l.filter fun y => decide (x < y)
  | [], _, _, h => by cases h
  | a :: l, x, hs, h => by
    have hs' := List.pairwise_cons.mp hs
    by_cases e : a = x
    · subst e
      rw [List.idxOf_cons_self, List.drop_succ_cons, List.drop_zero, List.filter_cons]
      simp
      exact (List.filter_eq_self.mpr fun y hy => decide_eq_true (hs'.1 y hy)).symm
    · have hx : x ∈ l := (List.mem_cons.mp h).resolve_left fun z => e z.symm
      have e0 : (a :: l).idxOf x = l.idxOf x + 1 := by
        have : (a == x) = false := by simpa using e
        rw [List.idxOf_cons, this]; rfl
      rw [e0, List.drop_succ_cons, drop_idx hs'.2 hx, List.filter_cons]
      have : ¬ x < a := by have := hs'.1 x hx; omega
      simp [this]
/-- what may be added behind the chosen -/
def Mkt.aft (M : Mkt) (ch : List Nat) : List Nat := match ch.getLast? with
  | none => M.there
  | some x => M.there.filter fun y => decide (x < y)
theorem aft_srt (M : Mkt) (ch : List Nat) : srt (M.aft ch) := by
  unfold Mkt.aft
  split
  · exact M.there_srt
  · exact srt_filter M.there_srt
theorem aft_there {M : Mkt} {ch : List Nat} : ∀ q ∈ M.aft ch, q ∈ M.there := by
  unfold Mkt.aft
  intro q hq
  split at hq
  · exact hq
  · exact (List.mem_filter.mp hq).1
theorem aft_len (M : Mkt) (ch : List Nat) : (M.aft ch).length ≤ M.runs.length := srt_le (aft_srt M ch) fun q hq => (Mkt.mem_there.mp (aft_there q hq)).1
theorem aft_mem {M : Mkt} {ch : List Nat} {q : Nat} (hs : srt (ch ++ [q])) (hq : q ∈ M.there) : q ∈ M.aft ch := by
  unfold Mkt.aft
  split
  · exact hq
  · rename_i x hx
    refine List.mem_filter.mpr ⟨hq, decide_eq_true ?_⟩
    have : x ∈ ch := List.mem_of_getLast? hx
    have h2 := List.pairwise_append.mp hs
    exact h2.2.2 x this q (by simp)
theorem aft_srt' {M : Mkt} {ch : List Nat} {q : Nat} (hs : srt ch) (hq : q ∈ M.aft ch) : srt (ch ++ [q]) := by
  refine List.pairwise_append.mpr ⟨hs, by simp, fun a ha b hb => ?_⟩
  have : b = q := by simpa using hb
  subst this
  unfold Mkt.aft at hq
  split at hq
  · rename_i h
    have : ch = [] := by simpa using h
    subst this; cases ha
  · rename_i x hx
    have h1 := of_decide_eq_true (List.mem_filter.mp hq).2
    obtain ⟨l', rfl⟩ : ∃ l', ch = l' ++ [x] := by
      have := List.getLast?_eq_some_iff.mp hx
      exact this
    rcases List.mem_append.mp ha with z | z
    · have := (List.pairwise_append.mp hs).2.2 a z x (by simp)
      omega
    · have : a = x := by simpa using z
      omega
theorem aft_snoc {M : Mkt} {ch : List Nat} {q : Nat} : M.aft (ch ++ [q]) = M.there.filter fun y => decide (q < y) := by
  unfold Mkt.aft
  rw [List.getLast?_append]; rfl
/-- row and chosen: too much, or what is behind is too little -/
def Mkt.bad (M : Mkt) (row ch : List Nat) : Prop := ∃ p, p < M.n ∧ (M.cnt ch p + M.cnt (M.aft ch) p < row.getD p 0 ∨ row.getD p 0 < M.cnt ch p)
theorem row_get {row : List Nat} {p : Nat} {d : D} (h : (nsD row)[p]? = some d) : p < row.length ∧ d = iN (row.getD p 0) := by
  obtain ⟨n, hn, rfl⟩ := nsD_get h
  refine ⟨(List.getElem?_eq_some_iff.mp hn).1, ?_⟩
  rw [List.getD_eq_getElem?_getD, hn]; rfl
theorem cov_getD {M : Mkt} {l : List Nat} {p : Nat} (hp : p < M.n) : (nsD (M.cov l))[p]? = some (iN (M.cnt l p)) := by
  unfold Mkt.cov
  rw [List.getElem?_map, List.getElem?_map, List.getElem?_range hp]; rfl
/-- as asked at the first places -/
def Mkt.eqs (M : Mkt) (row ch : List Nat) (i : Nat) : Bool := (List.range i).all fun p => decide (M.cnt ch p = row.getD p 0)
theorem eqs_succ (M : Mkt) (row ch : List Nat) (i : Nat) : M.eqs row ch (i + 1) = (M.eqs row ch i && decide (M.cnt ch i = row.getD i 0)) := by
  unfold Mkt.eqs
  rw [List.range_succ, List.all_append]
  simp
theorem eqs_all {M : Mkt} {row ch : List Nat} (hr : row.length = M.n) : M.eqs row ch M.n = decide (M.cov ch = row) := by
  have h1 : M.eqs row ch M.n = true ↔ M.cov ch = row := by
    unfold Mkt.eqs
    rw [List.all_eq_true]
    constructor
    · intro z
      refine List.ext_getElem? fun p => ?_
      by_cases hp : p < M.n
      · have h1 := cov_get (l := ch) hp
        rw [of_decide_eq_true (z p (List.mem_range.mpr hp))] at h1
        rw [List.getD_eq_getElem?_getD, List.getD_eq_getElem?_getD, List.getElem?_eq_getElem (by rw [cov_len]; exact hp), List.getElem?_eq_getElem (by omega)] at h1
        rw [List.getElem?_eq_getElem (by rw [cov_len]; exact hp), List.getElem?_eq_getElem (by omega)]
        exact congrArg some h1
      · rw [List.getElem?_eq_none (by rw [cov_len]; omega), List.getElem?_eq_none (by omega)]
    · intro z p hp
      exact decide_eq_true (by rw [← cov_get (List.mem_range.mp hp), z])
  cases e : M.eqs row ch M.n with
  | true => exact (decide_eq_true (h1.mp e)).symm
  | false => exact (decide_eq_false fun z => by rw [h1.mpr z] at e; cases e).symm
section
variable {c : Cn} {mg : Str → Option Value} {base : Heap} (T : Tx c.K mg)
variable {G : SG} {S : SC} {Q : SC → Sl → Prop} {ta : TE}
def W_more : Wp := fun A S R => ∃ (M : Mkt) (row ch : List Nat), A = [.im (mk T M), .im (tN row), .im (.tupF (nsD M.there)), .im (tN ch)] ∧ S = [] ∧ M.Ok ∧ row.length = M.n ∧ srt ch ∧ (∀ q ∈ ch, q ∈ M.there) ∧
  (M.bad row ch → R [] (.im (.tup [bD false, .lst []]))) ∧ (¬ M.bad row ch → R [] (.im (.tup [bD (decide (M.cov ch = row)), .lst (((M.aft ch).reverse.map fun q => ch ++ [q]).map tN)])))
theorem len_more : ∀ A S R, W_more T A S R → A.length = 4 := by rintro A S R ⟨M, row, ch, rfl, _⟩; rfl
theorem ok_more : FnOk c.P c.w c.K mg base CX0 5 (T.f "_more") (T.fd "_more") ["market", "row", "parts", "chosen"] (spD c (W_more T)) := by
  refine mk_u_more T (ok_cover T) (len_more T) ?_
  rintro A S R ⟨M, row, ch, rfl, rfl, ok, hr, hs, ht, hR1, hR2⟩
  unfold t_u_more
  have n8 := ok.n8
  have rl := ok.rl
  have hlt : ∀ q ∈ ch, q < M.runs.length := fun q hq => (Mkt.mem_there.mp (ht q hq)).1
  have chl := srt_le hs hlt
  have al := aft_len M ch
  -- behind start = s with parts[s:] = what may be added
  have rest : ∀ (s : Nat), M.there.drop s = M.aft ch → s ≤ 1000 → RS c (tSeq (tAsg (tSl (rSlA c.K) (tVar 2) (tPart (tVar 4)) tNoPart) (gName 5))
      (tSeq (tAsg (tCall (spD c (W_cover T)) [] E0 (tCons (tVar 0) (tCons (tVar 3) tNil))) (gName 6))
      (tSeq (tAsg (tCall (spD c (W_cover T)) [] E0 (tCons (tVar 0) (tCons (tVar 5) tNil))) (gName 7))
      (tSeq (tAsg (tC (.bl true)) (gName 8))
      (tSeq (tFor (iEnumA c.K (tCons (tVar 1) tNil)) (gTup c.K 2 (gCons (gName 9) (gCons (gName 10) gNil))) (tSeq (tIfS (tTest (tOp rLt (tOp qAdd (tOp (rIx c.K) (tVar 6) (tVar 9)) (tOp (rIx c.K) (tVar 7) (tVar 9))) (tVar 10))) (tRet (tTup (tCons (tC (.bl false)) (tCons (tLst tNil) tNil)))) tNext)
      (tSeq (tIfS (tAnd (tTest (tOp rEq (tCon c.K (tVar 0) "KIND") (tC (.str "join")))) (tTest (tOp rGt (tOp (rIx c.K) (tVar 6) (tVar 9)) (tVar 10)))) (tRet (tTup (tCons (tC (.bl false)) (tCons (tLst tNil) tNil)))) tNext)
      (tIfS (tTest (tOp rLt (tOp (rIx c.K) (tVar 6) (tVar 9)) (tVar 10))) (tAsg (tC (.bl false)) (gName 8)) tNext))))
      (tRet (tTup (tCons (tVar 8) (tCons (tLc (RT.iRevA c.K (tCB (rListS c.K) (tCons (tVar 5) tNil))) (gName 11) tYes (tTup (StX.tStar c.K (tVar 3) (tCons (tVar 11) tNil))) [11]) tNil)))))))))
      [.im (mk T M), .im (tN row), .im (.tupF (nsD M.there)), .im (tN ch), .im (iN s), .no, .no, .no, .no, .no, .no, .no] [] (endP [] R) := by
    intro s hds hsz
    have key : ∀ e, TupD e (nsD (M.aft ch)) → RS c (tSeq (tAsg (tCall (spD c (W_cover T)) [] E0 (tCons (tVar 0) (tCons (tVar 3) tNil))) (gName 6))
      (tSeq (tAsg (tCall (spD c (W_cover T)) [] E0 (tCons (tVar 0) (tCons (tVar 5) tNil))) (gName 7))
      (tSeq (tAsg (tC (.bl true)) (gName 8))
      (tSeq (tFor (iEnumA c.K (tCons (tVar 1) tNil)) (gTup c.K 2 (gCons (gName 9) (gCons (gName 10) gNil))) (tSeq (tIfS (tTest (tOp rLt (tOp qAdd (tOp (rIx c.K) (tVar 6) (tVar 9)) (tOp (rIx c.K) (tVar 7) (tVar 9))) (tVar 10))) (tRet (tTup (tCons (tC (.bl false)) (tCons (tLst tNil) tNil)))) tNext)
      (tSeq (tIfS (tAnd (tTest (tOp rEq (tCon c.K (tVar 0) "KIND") (tC (.str "join")))) (tTest (tOp rGt (tOp (rIx c.K) (tVar 6) (tVar 9)) (tVar 10)))) (tRet (tTup (tCons (tC (.bl false)) (tCons (tLst tNil) tNil)))) tNext)
      (tIfS (tTest (tOp rLt (tOp (rIx c.K) (tVar 6) (tVar 9)) (tVar 10))) (tAsg (tC (.bl false)) (gName 8)) tNext))))
      (tRet (tTup (tCons (tVar 8) (tCons (tLc (RT.iRevA c.K (tCB (rListS c.K) (tCons (tVar 5) tNil))) (gName 11) tYes (tTup (StX.tStar c.K (tVar 3) (tCons (tVar 11) tNil))) [11]) tNil))))))))
      [.im (mk T M), .im (tN row), .im (.tupF (nsD M.there)), .im (tN ch), .im (iN s), .im e, .no, .no, .no, .no, .no, .no] [] (endP [] R) := by
      intro e he
      repeat trivial
      refine call0 (by simp) ⟨M, tN ch, ch, rfl, rfl, ok, .tup _, hs, hlt, fun _ => ?_⟩
      repeat trivial
      refine call0 (by simp) ⟨M, e, M.aft ch, rfl, rfl, ok, he.sqd, aft_srt M ch, fun q hq => (Mkt.mem_there.mp (aft_there q hq)).1, fun _ => ?_⟩
      repeat trivial
      refine rs_for (rw_enum ?_)
      repeat trivial
      refine ⟨_, _, rfl, .tup _, fun i G S => i ≤ M.n ∧ (∃ s9 s10, G = [.im (mk T M), .im (tN row), .im (.tupF (nsD M.there)), .im (tN ch), .im (iN s), .im e, .im (tN (M.cov ch)), .im (tN (M.cov (M.aft ch))), .im (bD (M.eqs row ch i)), s9, s10, .no]) ∧ S = [] ∧
        ∀ p, p < i → ¬ (M.cnt ch p + M.cnt (M.aft ch) p < row.getD p 0 ∨ row.getD p 0 < M.cnt ch p), ⟨Nat.zero_le _, ⟨.no, .no, rfl⟩, rfl, fun p hp => absurd hp (by omega)⟩, ?_, ?_⟩
      · rintro i e' G' S' he' ⟨hi, ⟨s9, s10, rfl⟩, rfl, hok⟩
        obtain ⟨dd, hdd, rfl⟩ := enumD_get he'
        obtain ⟨hil, rfl⟩ := row_get hdd
        rw [hr] at hil
        refine rg_tup rfl (rgs_cons (rgs_cons (rgs_nil ?_)))
        repeat trivial
        refine od_ixN (.tup _) (cov_getD hil) ?_
        repeat trivial
        refine od_ixN (.tup _) (cov_getD hil) ?_
        repeat trivial
        refine iteC (fun h => ?_) fun h => ?_
        · have h1 := of_decide_eq_true h
          have hb : M.bad row ch := ⟨i, hil, .inl (by omega)⟩
          repeat trivial
          refine re_lst (ra_nil ⟨[], rfl, by simp, ?_⟩)
          repeat trivial
          exact ⟨[bD false, .lst []], rfl, by simp, end_im (hR1 hb)⟩
        have h1 := of_decide_eq_false h
        repeat trivial
        refine Dt.od_eq (by rfl) ?_
        refine ⟨_, rfl, iteY (decide_eq_true rfl) ?_⟩
        repeat trivial
        refine od_ixN (.tup _) (cov_getD hil) ?_
        repeat trivial
        refine iteC (fun h => ?_) fun h => ?_
        · have h2 := of_decide_eq_true h
          have hb : M.bad row ch := ⟨i, hil, .inr (by omega)⟩
          repeat trivial
          refine re_lst (ra_nil ⟨[], rfl, by simp, ?_⟩)
          repeat trivial
          exact ⟨[bD false, .lst []], rfl, by simp, end_im (hR1 hb)⟩
        have h2 := of_decide_eq_false h
        have hok' : ∀ p, p < i + 1 → ¬ (M.cnt ch p + M.cnt (M.aft ch) p < row.getD p 0 ∨ row.getD p 0 < M.cnt ch p) := fun p hp => by
          by_cases ep : p = i
          · subst ep; omega
          · exact hok p (by omega)
        repeat trivial
        refine od_ixN (.tup _) (cov_getD hil) ?_
        repeat trivial
        refine iteC (fun h => ?_) fun h => ?_
        · have h3 := of_decide_eq_true h
          repeat trivial
          refine ⟨hil, ⟨.im (iN i), .im (iN (row.getD i 0)), ?_⟩, rfl, hok'⟩
          have : M.eqs row ch (i + 1) = false := by rw [eqs_succ, decide_eq_false (by omega), Bool.and_false]
          rw [this]; rfl
        · have h3 := of_decide_eq_false h
          have hi2 : M.cnt ch i = row.getD i 0 := by omega
          have eq : M.eqs row ch i = M.eqs row ch (i + 1) := by rw [eqs_succ, decide_eq_true hi2, Bool.and_true]
          refine rs_next ⟨hil, ⟨.im (iN i), .im (iN (row.getD i 0)), ?_⟩, rfl, hok'⟩
          rw [eq]; rfl
      · rintro G' S' ⟨_, ⟨s9, s10, rfl⟩, rfl, hok⟩
        have e5 : (enumD (nsD row)).length = M.n := by rw [enumD_length, nsD_len, hr]
        rw [e5] at hok ⊢
        have hnb : ¬ M.bad row ch := fun ⟨p, hp, h⟩ => hok p hp h
        rw [eqs_all hr]
        have hz := hR2 hnb
        refine rs_ret (re_tup (ra_cons (re_var rfl (by intro h; cases h) (ra_cons ?_))))
        refine re_lcW false (gon_name (by simp)) (rw_rev (re_cb (ra_cons (re_var rfl (by intro h; cases h) (ra_nil ?_)))))
        refine cb_list he.sqd.seq ⟨_, rfl, by rw [List.length_reverse, nsD_len]; omega, fun i S' acc => S' = [] ∧ acc = (((M.aft ch).reverse.take i).map fun q => ch ++ [q]).map tN, ⟨rfl, rfl⟩, ?_, ?_⟩
        · rintro i e' S' acc he' _ ⟨rfl, rfl⟩
          have e6 : (nsD (M.aft ch)).reverse = nsD (M.aft ch).reverse := by simp [nsD]
          rw [e6] at he'
          obtain ⟨q, hq, rfl⟩ := nsD_get he'
          refine rg_name (rt_yes (iteY rfl (re_tup (ra_star (re_var rfl (by intro h; cases h) ⟨nsD ch, .inl rfl, ra_cons (re_var rfl (by intro h; cases h) (ra_nil ⟨nsD ch ++ [iN q], by simp, by simp; omega, ?_⟩))⟩)))))
          refine ⟨_, rfl, rfl, ?_⟩
          rw [take_succ_of hq, List.map_append, List.map_append]
          simp [nsD]
        · rintro S' acc _ ⟨rfl, rfl⟩
          have e7 : ((nsD (M.aft ch)).reverse).length = (M.aft ch).reverse.length := by simp
          rw [if_neg Bool.false_ne_true, e7, List.take_length]
          refine ra_nil ⟨[_, _], rfl, by simp, end_im hz⟩
    refine rs_seq (rs_set (re_slT (re_var rfl (by intro h; cases h) (ro_some (re_var rfl (by intro h; cases h) ⟨(s : Int), rfl, ro_none ⟨nsD M.there, .inr rfl, ?_, ?_⟩⟩)))))
    · intro hw
      have ew : M.aft ch = M.there := by
        have h1 : (Dt.cutD (nsD M.there) (some (s : Int)) none).length = (nsD M.there).length := by rw [hw]
        unfold Dt.cutD at h1
        rw [HT.sIx_nat, HT.sIx_none, List.length_take, List.length_drop, nsD_len] at h1
        have h2 : (M.there.drop s).length = M.there.length := by rw [List.length_drop]; omega
        have : M.there.drop s = M.there := by
          by_cases h0 : s = 0
          · subst h0; rfl
          · rw [List.length_drop] at h2
            have : M.there = [] := List.length_eq_zero_iff.mp (by omega)
            rw [this]; simp
        rw [← hds, this]
      have := key (.tupF (nsD M.there)) (by rw [ew]; exact .tupF _)
      exact this
    · have ec : Dt.cutD (nsD M.there) (some (s : Int)) none = nsD (M.aft ch) := by
        unfold Dt.cutD
        rw [HT.sIx_nat, HT.sIx_none, nsD_len, ← hds]
        have h1 : ((nsD M.there).drop (min s M.there.length)) = nsD (M.there.drop s) := by
          rw [← List.map_drop]
          congr 1
          by_cases h0 : s ≤ M.there.length
          · rw [Nat.min_eq_left h0]
          · rw [Nat.min_eq_right (by omega), List.drop_length, List.drop_eq_nil_of_le (by omega)]
        rw [h1, List.take_of_length_le]
        rw [nsD_len, List.length_drop]; omega
      rw [ec]
      exact key _ (.tup _)
  repeat trivial
  refine cb_len (.tup _) ?_
  repeat trivial
  refine iteC (fun h => ?_) fun h => ?_
  · have hne : ch ≠ [] := fun e => by subst e; simp at h
    obtain ⟨ch', x, rfl⟩ : ∃ ch' x, ch = ch' ++ [x] := ⟨ch.dropLast, ch.getLast hne, (List.dropLast_concat_getLast hne).symm⟩
    have hx : x ∈ M.there := ht x (by simp)
    refine rs_set (re_op (re_tindex (re_var rfl (by intro h; cases h) ⟨M.there.map fun n : Nat => (n : Int), by rw [← nsD_map], ra_cons (re_op (re_var rfl (by intro h; cases h) (re_neg (re_c ⟨1, rfl, od_ix (e := iN x) (.tup _) ?_ (ra_nil ⟨(x : Int), rfl, List.mem_map.mpr ⟨x, hx, rfl⟩, re_c (od_int ?_)⟩)⟩))))⟩)))
    · rw [show nsD (ch' ++ [x]) = nsD ch' ++ [iN x] by simp [nsD]]
      exact atI_last _ _
    · have e8 : (M.there.map fun n : Nat => (n : Int)).idxOf (x : Int) = M.there.idxOf x := by
        have gen : ∀ l : List Nat, (l.map fun n : Nat => (n : Int)).idxOf (x : Int) = l.idxOf x := by
          intro l
          induction l with
          | nil => rfl
          | cons a l ih =>
            rw [List.map_cons, List.idxOf_cons, List.idxOf_cons, ih]
            by_cases e : a = x
            · subst e; simp
            · have e9 : ((a : Int) == (x : Int)) = false := by
                have : ¬ (a : Int) = (x : Int) := by omega
                simpa using this
              have e10 : (a == x) = false := by simpa using e
              rw [e9, e10]
        exact gen _
      rw [e8]
      refine rest (M.there.idxOf x + 1) ?_ ?_
      · rw [drop_idx M.there_srt hx, ← aft_snoc (ch := ch')]
      · have := List.idxOf_lt_length_iff.mpr hx
        have := M.there_len
        omega
  · have he : ch = [] := by
      have := of_decide_eq_false h
      rw [nsD_len] at this
      exact List.length_eq_zero_iff.mp (by omega)
    subst he
    exact rs_next (rest 0 rfl (by omega))
end
end K78

set_option Elab.async false
set_option linter.all false
set_option maxRecDepth 100000
set_option maxHeartbeats 4000000
namespace K78
open PySem PySem.Spec PyProof.Rows L2 Dt
local macro_rules | `(tactic| trivial) => `(tactic| first
  | with_reducible refine re_many (‹Tx _ _›) ?_ | with_reducible refine re_all (‹Tx _ _›) ?_ | with_reducible refine re_size (‹Tx _ _›) ?_ | with_reducible refine re_runs (‹Tx _ _›) ?_ | with_reducible refine re_gone (‹Tx _ _›) ?_ | with_reducible refine re_KIND (‹Tx _ _›) ?_ | with_reducible refine re_there (‹Tx _ _›) ?_
  | with_reducible refine rs_seq ?_ | with_reducible refine rs_set ?_ | with_reducible refine rs_asg ?_ | with_reducible refine rs_ret ?_ | with_reducible refine rs_retN ?_ | with_reducible refine rs_drop ?_ | with_reducible refine rs_next ?_ | with_reducible refine rs_break ?_ | with_reducible refine rs_cont ?_ | with_reducible refine rs_if ?_
  | with_reducible refine re_var (by with_unfolding_all rfl) (by with_unfolding_all exact fun h => nomatch h) ?_ | with_reducible refine re_c ?_ | with_reducible refine ra_nil ?_ | with_reducible refine ra_cons ?_ | with_reducible refine re_cb ?_ | with_reducible refine re_call ?_ | with_reducible refine re_op ?_ | with_reducible refine od_int ?_
  | with_reducible refine re_andV ?_ | with_reducible refine re_orV ?_ | with_reducible refine re_notV ?_ | with_reducible refine re_if ?_ | with_reducible refine rt_test ?_ | with_reducible refine rt_B ?_ | with_reducible refine rt_not ?_ | with_reducible refine rt_and ?_ | with_reducible refine rt_or ?_ | with_reducible refine rt_yes ?_
  | with_reducible refine re_tup ?_ | with_reducible refine re_neg ?_ | refine ⟨_, rfl, ?_⟩ | refine ⟨‹Mkt.Ok _›, ?_⟩)
/-- the weight of a list of prefixes -/
def wgt (M : Mkt) : List (List Nat) → Nat
  | [] => 0
  | ch :: ws => 2 ^ (M.aft ch).length + wgt M ws
theorem wgt_append (M : Mkt) : ∀ a b, wgt M (a ++ b) = wgt M a + wgt M b
  | [], b => by simp [wgt]
  | x :: a, b => by show _ + wgt M (a ++ b) = _ + wgt M a + wgt M b; rw [wgt_append M a b]; omega
theorem wgt_len (M : Mkt) : ∀ ws, ws.length ≤ wgt M ws
  | [] => Nat.zero_le _
  | x :: ws => by
    have := wgt_len M ws
    have := Nat.one_le_two_pow (n := (M.aft x).length)
    show ws.length + 1 ≤ _ + wgt M ws
    omega
theorem wgt_rev (M : Mkt) (f : Nat → List Nat) : ∀ l : List Nat, wgt M (l.reverse.map f) = wgt M (l.map f)
  | [] => rfl
  | x :: l => by
    rw [List.reverse_cons, List.map_append, wgt_append, wgt_rev M f l]
    show _ + (_ + 0) = _ + wgt M (l.map f)
    omega
/-- what is added weighs one less -/
theorem wgt_kids (M : Mkt) (ch : List Nat) : ∀ (l : List Nat), srt l → (∀ q ∈ l, ∀ y, y ∈ M.aft (ch ++ [q]) ↔ y ∈ l ∧ q < y) → wgt M (l.map fun q => ch ++ [q]) + 1 = 2 ^ l.length
  | [], _, _ => rfl
  | x :: l, hs, h => by
    have hs' := List.pairwise_cons.mp hs
    have ih := wgt_kids M ch l hs'.2 fun q hq y => by
      rw [h q (List.mem_cons_of_mem _ hq) y]
      constructor
      · rintro ⟨hy, hlt⟩
        rcases List.mem_cons.mp hy with e | m
        · have := hs'.1 q hq; omega
        · exact ⟨m, hlt⟩
      · rintro ⟨hy, hlt⟩
        exact ⟨List.mem_cons_of_mem _ hy, hlt⟩
    have e : M.aft (ch ++ [x]) = l := by
      refine srt_eq (aft_srt M _) hs'.2 fun y => ?_
      rw [h x List.mem_cons_self y]
      constructor
      · rintro ⟨hy, hlt⟩
        rcases List.mem_cons.mp hy with e | m
        · omega
        · exact m
      · intro hy
        exact ⟨List.mem_cons_of_mem _ hy, hs'.1 y hy⟩
    show 2 ^ (M.aft (ch ++ [x])).length + wgt M (l.map fun q => ch ++ [q]) + 1 = 2 ^ (l.length + 1)
    rw [e, Nat.pow_succ]
    omega
theorem aft_kid {M : Mkt} {ch : List Nat} (hs : srt ch) {q : Nat} (hq : q ∈ M.aft ch) (y : Nat) : y ∈ M.aft (ch ++ [q]) ↔ y ∈ M.aft ch ∧ q < y := by
  rw [aft_snoc, List.mem_filter]
  constructor
  · rintro ⟨h1, h2⟩
    have h2 := of_decide_eq_true h2
    refine ⟨?_, h2⟩
    unfold Mkt.aft at hq ⊢
    split
    · exact h1
    · rename_i x hx
      rw [hx] at hq
      have h3 := of_decide_eq_true (List.mem_filter.mp hq).2
      exact List.mem_filter.mpr ⟨h1, decide_eq_true (by omega)⟩
  · rintro ⟨h1, h2⟩
    exact ⟨aft_there y h1, decide_eq_true h2⟩
/-- a stock behind a prefix -/
theorem fit_prefix {M : Mkt} (ok : M.Ok) {row ch t : List Nat} (hf : M.Fit row (ch ++ t)) : ¬ M.bad row ch ∧ (t = [] → M.cov ch = row) ∧ ∀ q t', t = q :: t' → q ∈ M.aft ch := by
  have hsub : ∀ x ∈ t, x ∈ M.aft ch := by
    intro x hx
    refine aft_mem ?_ (hf.t x (List.mem_append_right _ hx))
    refine List.pairwise_append.mpr ⟨(List.pairwise_append.mp hf.s).1, by simp, fun a ha b hb => ?_⟩
    have : b = x := by simpa using hb
    subst this
    exact (List.pairwise_append.mp hf.s).2.2 a ha b hx
  have hr : row.length = M.n := by rw [← hf.c, cov_len]
  refine ⟨?_, fun e => ?_, fun q t' e => hsub q (by rw [e]; exact List.mem_cons_self)⟩
  · rintro ⟨p, hp, h⟩
    have h1 : row.getD p 0 = M.cnt ch p + M.cnt t p := by rw [← hf.c, cov_get hp, cnt_append]
    have h2 := cnt_sub M p (srt_nodup (List.pairwise_append.mp hf.s).2.1) hsub
    omega
  · subst e
    have := hf.c
    rwa [List.append_nil] at this
section
variable {c : Cn} {mg : Str → Option Value} {base : Heap} (T : Tx c.K mg)
variable {G : SG} {S : SC} {Q : SC → Sl → Prop} {ta : TE}
def W_stocks_of : Wp := fun A S R => ∃ (M : Mkt) (d : D) (row : List Nat), A = [.im (mk T M), .im d] ∧ S = [] ∧ M.Ok ∧ DemD M d row ∧ ∀ L : List (List Nat), (∀ l, l ∈ L ↔ M.Fit row l) → L.length ≤ 128 → R [] (.im (.lst (L.map tN)))
theorem len_stocks_of : ∀ A S R, W_stocks_of T A S R → A.length = 2 := by rintro A S R ⟨M, d, row, rfl, _⟩; rfl
theorem ok_stocks_of : FnOk c.P c.w c.K mg base CX0 6 (T.f "stocks_of") (T.fd "stocks_of") ["market", "demand"] (spD c (W_stocks_of T)) := by
  refine mk_stocks_of T (ok_demand_of T) (ok_there T) (ok_more T) (len_stocks_of T) ?_
  rintro A S R ⟨M, d, row, rfl, rfl, ok, hd, hR⟩
  unfold t_stocks_of
  have rl := ok.rl
  have thl := M.there_len
  repeat trivial
  refine call0 (by simp) ⟨M, d, row, rfl, rfl, ok, hd, fun _ => ?_⟩
  repeat trivial
  refine cb_len (.tupF _) ?_
  repeat trivial
  refine iteN (decide_eq_false (by rw [nsD_len]; omega)) ?_
  trivial
  refine rs_seq (rs_set (re_lstO (ra_nil ⟨[], rfl, by simp, ?_⟩)))
  refine rs_seq (rs_set (re_lstO (ra_cons (re_tup (ra_nil ⟨[], rfl, by simp, ra_nil ⟨[.tup []], rfl, by simp, ?_⟩⟩)))))
  have h0 : wgt M [[]] ≤ 128 := by
    have e : M.aft [] = M.there := rfl
    show 2 ^ (M.aft []).length + 0 ≤ 128
    rw [e]
    have : 2 ^ M.there.length ≤ 2 ^ 7 := Nat.pow_le_pow_right (by decide) (by omega)
    omega
  refine rs_seq (rs_while (fun m G' S' => ∃ (res ws : List (List Nat)) (s6 s7 s8 : Sl), m = wgt M ws ∧ res.length + wgt M ws ≤ 128 ∧ G' = [.im (mk T M), .im d, .im (tN row), .im (.tupF (nsD M.there)), .pt 0, .pt 1, s6, s7, s8] ∧ S' = [.lst (res.map tN), .lst (ws.map tN)] ∧
    (∀ l ∈ res, M.Fit row l) ∧ (∀ ch ∈ ws, srt ch ∧ ∀ q ∈ ch, q ∈ M.there) ∧ ∀ l, M.Fit row l → l ∈ res ∨ ∃ ch ∈ ws, ∃ t, l = ch ++ t) _ ⟨[], [[]], .no, .no, .no, rfl, by simpa using h0, rfl, rfl, fun l h => (by cases h), fun ch h => by simp at h; subst h; exact ⟨by simp, fun q hq => by cases hq⟩, fun l _ => .inr ⟨[], by simp, l, rfl⟩⟩ ?_)
  rintro m G' S' ⟨res, ws, s6, s7, s8, rfl, hb, rfl, rfl, hres, hws, hall⟩
  have hwl := wgt_len M ws
  repeat trivial
  refine cb_len (.lst (.pt rfl)) ?_
  repeat trivial
  refine iteC (fun h => ?_) fun h => ?_
  · have hne : ws ≠ [] := fun e => by subst e; simp at h
    obtain ⟨ws', ch, rfl⟩ : ∃ ws' ch, ws = ws' ++ [ch] := ⟨ws.dropLast, ws.getLast hne, (List.dropLast_concat_getLast hne).symm⟩
    have hch := hws ch (by simp)
    have hw2 : wgt M (ws' ++ [ch]) = wgt M ws' + 2 ^ (M.aft ch).length := by rw [wgt_append]; rfl
    trivial
    trivial
    refine re_pop (re_var rfl (by intro h; cases h) ⟨1, ws'.map tN, tN ch, rfl, by simp, ?_⟩)
    repeat trivial
    let J : SG → SC → Prop := fun G' S' => ∃ m', m' < wgt M (ws' ++ [ch]) ∧ ∃ (res ws : List (List Nat)) (s6 s7 s8 : Sl), m' = wgt M ws ∧ res.length + wgt M ws ≤ 128 ∧ G' = [.im (mk T M), .im d, .im (tN row), .im (.tupF (nsD M.there)), .pt 0, .pt 1, s6, s7, s8] ∧ S' = [.lst (res.map tN), .lst (ws.map tN)] ∧
              (∀ l ∈ res, M.Fit row l) ∧ (∀ ch ∈ ws, srt ch ∧ ∀ q ∈ ch, q ∈ M.there) ∧ ∀ l, M.Fit row l → l ∈ res ∨ ∃ ch ∈ ws, ∃ t, l = ch ++ t
    -- behind _more
    have next : ∀ (P : Po), (∀ G' S', J G' S' → P.nx G' S') → ∀ (fits : Bool) (lg : List (List Nat)), wgt M lg < 2 ^ (M.aft ch).length → (fits = true → M.Fit row ch) → (∀ x ∈ lg, srt x ∧ ∀ q ∈ x, q ∈ M.there) → (∀ l t, M.Fit row l → l = ch ++ t → (l = ch ∧ fits = true) ∨ ∃ x ∈ lg, ∃ t, l = x ++ t) →
        RG c (gTup c.K 2 (gCons (gName 7) (gCons (gName 8) gNil))) (.im (.tup [bD fits, .lst (lg.map tN)])) [.im (mk T M), .im d, .im (tN row), .im (.tupF (nsD M.there)), .pt 0, .pt 1, .im (tN ch), s7, s8] [.lst (res.map tN), .lst (ws'.map tN)] fun G2 S2 =>
          RS c (tSeq (tIfS (tB (tVar 7)) (tDrop (tBM c.K "list" rAppend (tVar 4) (tCons (tVar 6) tNil))) tNext) (tDrop (tBM c.K "list" rExtend (tVar 5) (tCons (tVar 8) tNil)))) G2 S2
            P := by
      intro P hP fits lg hlg hfits hx hcov
      have hlen := wgt_len M lg
      refine rg_tup rfl (rgs_cons (rgs_cons (rgs_nil ?_)))
      -- the stack grows
      have ext : ∀ (res2 : List (List Nat)), res2.length ≤ res.length + 1 → (∀ l ∈ res2, M.Fit row l) → (∀ l ∈ res, l ∈ res2) → (fits = true → ch ∈ res2) →
          RS c (tDrop (tBM c.K "list" rExtend (tVar 5) (tCons (tVar 8) tNil))) [.im (mk T M), .im d, .im (tN row), .im (.tupF (nsD M.there)), .pt 0, .pt 1, .im (tN ch), .im (bD fits), .im (.lst (lg.map tN))] [.lst (res2.map tN), .lst (ws'.map tN)]
            P := by
        intro res2 hl2 hf2 hsub hfin
        refine rs_drop (re_extend (re_var rfl (by intro h; cases h) ⟨1, _, rfl, rfl, ra_cons (re_var rfl (by intro h; cases h) (ra_nil ⟨_, _, _, rfl, .im _, rfl, ?_, ?_⟩))⟩))
        · have := wgt_len M ws'
          simp
          omega
        · have e1 : wgt M (ws' ++ lg) = wgt M ws' + wgt M lg := wgt_append M _ _
          refine hP _ _ ⟨wgt M (ws' ++ lg), by omega, res2, ws' ++ lg, _, _, _, rfl, by omega, rfl, ?_, hf2, fun x hx' => ?_, fun l hl => ?_⟩
          · show [Cell.lst _, Cell.lst (ws'.map tN ++ lg.map tN)] = _
            rw [List.map_append]
          · rcases List.mem_append.mp hx' with z | z
            · exact hws x (List.mem_append_left _ z)
            · exact hx x z
          · rcases hall l hl with z | ⟨x, hx', t, rfl⟩
            · exact .inl (hsub l z)
            · rcases List.mem_append.mp hx' with z | z
              · exact .inr ⟨x, List.mem_append_left _ z, t, rfl⟩
              · have : x = ch := by simpa using z
                subst this
                rcases hcov _ t hl rfl with ⟨e, hft⟩ | ⟨y, hy, t', e⟩
                · exact .inl (by rw [e]; exact hfin hft)
                · exact .inr ⟨y, List.mem_append_right _ hy, t', e⟩
      cases fits with
      | true =>
        refine rs_seq (rs_if (rt_B (re_var rfl (by intro h; cases h) ⟨true, rfl, iteY rfl ?_⟩)))
        refine rs_drop (re_append (re_var rfl (by intro h; cases h) ⟨0, _, rfl, rfl, ra_cons (re_var rfl (by intro h; cases h) (ra_nil ⟨_, _, rfl, rfl, ?_, ?_⟩))⟩))
        · simp; omega
        · have := ext (res ++ [ch]) (by simp) (fun l hl => (List.mem_append.mp hl).elim (hres l) fun z => by
            have : l = ch := by simpa using z
            subst this; exact hfits rfl) (fun l hl => List.mem_append_left _ hl) (fun _ => by simp)
          rw [List.map_append] at this
          exact this
      | false =>
        refine rs_seq (rs_if (rt_B (re_var rfl (by intro h; cases h) ⟨false, rfl, iteN rfl ?_⟩)))
        exact rs_next (ext res (by omega) hres (fun l hl => hl) fun h => by cases h)
    refine call0 (by simp) ⟨M, row, ch, rfl, rfl, ok, hd.len, hch.1, hch.2, fun hbad _ => ?_, fun hnb _ => ?_⟩
    · refine next _ (fun _ _ h => h) false [] (by simp [wgt]; exact Nat.two_pow_pos _) (fun h => by cases h) (fun x hx => by cases hx) fun l t hf e => ?_
      subst e
      exact absurd hbad (fit_prefix ok hf).1
    · have hk := wgt_kids M ch (M.aft ch) (aft_srt M ch) fun q hq y => aft_kid hch.1 hq y
      refine next _ (fun _ _ h => h) _ ((M.aft ch).reverse.map fun q => ch ++ [q]) (by rw [wgt_rev]; omega) (fun h => ⟨hch.1, hch.2, of_decide_eq_true h⟩) (fun x hx => ?_) fun l t hf e => ?_
      · obtain ⟨q, hq, rfl⟩ := List.mem_map.mp hx
        have hq' : q ∈ M.aft ch := by simpa using hq
        refine ⟨aft_srt' hch.1 hq', fun y hy => ?_⟩
        rcases List.mem_append.mp hy with z | z
        · exact hch.2 y z
        · have : y = q := by simpa using z
          subst this; exact aft_there y hq'
      · subst e
        obtain ⟨_, h2, h3⟩ := fit_prefix ok hf
        cases t with
        | nil => exact .inl ⟨by simp, decide_eq_true (h2 rfl)⟩
        | cons q t' => exact .inr ⟨ch ++ [q], List.mem_map.mpr ⟨q, by simpa using h3 q t' rfl, rfl⟩, t', by simp⟩
  · have he : ws = [] := by
      have := of_decide_eq_false h
      rw [List.length_map] at this
      exact List.length_eq_zero_iff.mp (by omega)
    subst he
    repeat trivial
    exact end_frz rfl rfl (hR res (fun l => ⟨hres l, fun hl => (hall l hl).elim id fun ⟨ch, hc, _⟩ => by cases hc⟩) (by simp [wgt] at hb; omega))
end
end K78

set_option Elab.async false
set_option linter.all false
set_option maxRecDepth 100000
set_option maxHeartbeats 4000000
namespace K78
open PySem PySem.Spec PyProof.Rows L2 Dt
local macro_rules | `(tactic| trivial) => `(tactic| first
  | with_reducible refine re_many (‹Tx _ _›) ?_ | with_reducible refine re_all (‹Tx _ _›) ?_ | with_reducible refine re_size (‹Tx _ _›) ?_ | with_reducible refine re_runs (‹Tx _ _›) ?_ | with_reducible refine re_gone (‹Tx _ _›) ?_ | with_reducible refine re_KIND (‹Tx _ _›) ?_ | with_reducible refine re_there (‹Tx _ _›) ?_
  | with_reducible refine rs_seq ?_ | with_reducible refine rs_set ?_ | with_reducible refine rs_asg ?_ | with_reducible refine rs_ret ?_ | with_reducible refine rs_retN ?_ | with_reducible refine rs_drop ?_ | with_reducible refine rs_next ?_ | with_reducible refine rs_break ?_ | with_reducible refine rs_cont ?_ | with_reducible refine rs_if ?_
  | with_reducible refine re_var (by with_unfolding_all rfl) (by with_unfolding_all exact fun h => nomatch h) ?_ | with_reducible refine re_c ?_ | with_reducible refine ra_nil ?_ | with_reducible refine ra_cons ?_ | with_reducible refine re_cb ?_ | with_reducible refine re_call ?_ | with_reducible refine re_op ?_ | with_reducible refine od_int ?_
  | with_reducible refine re_andV ?_ | with_reducible refine re_orV ?_ | with_reducible refine re_notV ?_ | with_reducible refine re_if ?_ | with_reducible refine rt_test ?_ | with_reducible refine rt_B ?_ | with_reducible refine rt_not ?_ | with_reducible refine rt_and ?_ | with_reducible refine rt_or ?_ | with_reducible refine rt_yes ?_
  | with_reducible refine re_tup ?_ | with_reducible refine re_neg ?_ | refine ⟨_, rfl, ?_⟩ | refine ⟨‹Mkt.Ok _›, ?_⟩)
/-- where the parts lead from a point -/
def Mkt.adj (M : Mkt) (l : List Nat) (v : Nat) : List (Nat × Nat) := l.filterMap fun q => if M.b q = v then some (M.e q, q) else if M.e q = v then some (M.b q, q) else none
theorem adj_snoc {M : Mkt} (ok : M.Ok) {l : List Nat} {q v : Nat} (hq : q < M.runs.length) : M.adj (l ++ [q]) v = if M.b q = v then M.adj l v ++ [(M.e q, q)] else if M.e q = v then M.adj l v ++ [(M.b q, q)] else M.adj l v := by
  unfold Mkt.adj
  rw [List.filterMap_append]
  by_cases h1 : M.b q = v
  · simp [h1]
  · by_cases h2 : M.e q = v
    · simp [h1, h2]
    · simp [h1, h2]
theorem adj_mem {M : Mkt} {l : List Nat} {v w q : Nat} : (w, q) ∈ M.adj l v ↔ q ∈ l ∧ ((M.b q = v ∧ M.e q = w) ∨ (M.b q ≠ v ∧ M.e q = v ∧ M.b q = w)) := by
  unfold Mkt.adj
  rw [List.mem_filterMap]
  constructor
  · rintro ⟨x, hx, h⟩
    split at h
    · cases h; rename_i h1; exact ⟨hx, .inl ⟨h1, rfl⟩⟩
    · split at h
      · cases h; rename_i h1 h2; exact ⟨hx, .inr ⟨h1, h2, rfl⟩⟩
      · cases h
  · rintro ⟨hq, ⟨h1, h2⟩ | ⟨h1, h2, h3⟩⟩
    · exact ⟨q, hq, by simp [h1, h2]⟩
    · exact ⟨q, hq, by rw [if_neg h1, if_pos h2, h3]⟩
theorem adj_len {M : Mkt} {l : List Nat} {v : Nat} : (M.adj l v).length ≤ l.length := List.length_filterMap_le _ _
section
variable {c : Cn} {mg : Str → Option Value} {base : Heap} (T : Tx c.K mg)
variable {G : SG} {S : SC} {Q : SC → Sl → Prop} {ta : TE}
abbrev adjD (M : Mkt) : D := .lst ((List.range (M.n + 1)).map fun v => .lst (rsD (M.adj M.there v)))
def W_both_ways : Wp := fun A S R => ∃ M : Mkt, A = [.im (mk T M), .im (iD (-1))] ∧ S = [] ∧ M.Ok ∧ R [] (.im (adjD M))
theorem len_both_ways : ∀ A S R, W_both_ways T A S R → A.length = 2 := by rintro A S R ⟨M, rfl, _⟩; rfl
theorem ok_both_ways : FnOk c.P c.w c.K mg base CX0 3 (T.f "_both_ways") (T.fd "_both_ways") ["market", "without"] (spD c (W_both_ways T)) := by
  refine mk_u_both_ways T (ok_there T) (len_both_ways T) ?_
  rintro A S R ⟨M, rfl, rfl, ok, hR⟩
  unfold t_u_both_ways
  have n8 := ok.n8
  have rl := ok.rl
  have thl := M.there_len
  refine rs_seq (rs_set (re_lcP (rw_rng1 ?_)))
  repeat trivial
  refine ⟨by omega, by omega, by rw [rangeD_length]; omega, ?_⟩
  rw [rangeD_length]
  have e1 : ((M.n : Int) + 1).toNat = M.n + 1 := by omega
  rw [e1]
  let st (l : List Nat) : SC := ((List.range (M.n + 1)).map fun v => Cell.lst (rsD (M.adj l v))) ++ [.ptrs (List.range (M.n + 1))]
  have st0 : ([] : SC) ++ List.replicate (M.n + 1) (Cell.lst []) ++ [.ptrs ((List.range (M.n + 1)).map (([] : SC).length + ·))] = st [] := by
    have a1 : List.replicate (M.n + 1) (Cell.lst []) = (List.range (M.n + 1)).map fun v => Cell.lst (rsD (M.adj [] v)) := by
      refine List.ext_getElem? fun i => ?_
      rw [List.getElem?_map, List.getElem?_replicate]
      by_cases hi : i < M.n + 1
      · rw [List.getElem?_range hi, if_pos hi]; rfl
      · rw [if_neg hi, List.getElem?_eq_none (by simp; omega)]; rfl
    have a2 : ((List.range (M.n + 1)).map (([] : SC).length + ·)) = List.range (M.n + 1) := by simp
    rw [a1, a2]; rfl
  have stI : ∀ (l : List Nat) (v : Nat), v < M.n + 1 → (st l)[v]? = some (.lst (rsD (M.adj l v))) := fun l v hv => by
    show (_ ++ _)[v]? = _
    rw [List.getElem?_append_left (by simp; omega), List.getElem?_map, List.getElem?_range hv]; rfl
  have stP : ∀ l : List Nat, (st l)[M.n + 1]? = some (.ptrs (List.range (M.n + 1))) := fun l => by
    show (_ ++ _)[M.n + 1]? = _
    rw [List.getElem?_append_right (by simp)]
    simp
  rw [st0]
  refine rs_seq (rs_for (rw_tup (re_there T ?_)))
  repeat trivial
  refine ⟨_, .inr rfl, fun i G S => i ≤ M.there.length ∧ (∃ s3 s4 s5, [s3, s4, s5].all isIm = true ∧ G = [.im (mk T M), .im (iD (-1)), .pt (M.n + 1), s3, s4, s5, .no]) ∧ S = st (M.there.take i), ⟨Nat.zero_le _, ⟨.no, .no, .no, rfl, by simp⟩, rfl⟩, ?_, ?_⟩
  · rintro i e G' S' he ⟨hi, ⟨s3, s4, s5, _, rfl⟩, rfl⟩
    obtain ⟨q, hq, rfl⟩ := nsD_get he
    have hil : i < M.there.length := (List.getElem?_eq_some_iff.mp hq).1
    have hqr := (Mkt.mem_there.mp (List.mem_of_getElem? hq)).1
    have be := ok.be hqr
    have tl : (M.there.take i).length ≤ 7 := by rw [List.length_take]; omega
    have hne : ¬ ((q : Int) = -1) := by omega
    refine rg_name ?_
    repeat trivial
    refine Dt.od_ne (by rfl) ?_
    refine ⟨_, rfl, iteY ?_ ?_⟩
    · have : ¬ (V.int (q : Int) = V.int (-1)) := fun e => by injection e with e; exact hne e
      rw [decide_eq_false this]; rfl
    repeat trivial
    refine od_ixN (e := prD (M.b q, M.e q)) (.tup _) (by rw [List.getElem?_map, Mkt.run_get hqr]; rfl) ?_
    refine rg_tup rfl (rgs_cons (rgs_cons (rgs_nil ?_)))
    refine rs_seq (rs_drop (re_append (re_op (re_var rfl (by intro h; cases h) (re_var rfl (by intro h; cases h) (od_ixP (stP _) (i := (M.b q : Int)) (j := M.b q) (atI_nat (List.getElem?_range (by omega))) ⟨M.b q, _, rfl, stI _ _ (by omega), ?_⟩))))))
    repeat trivial
    refine ⟨[iN (M.e q), iN q], rfl, by simp, ?_⟩
    repeat trivial
    refine ⟨_, _, rfl, stI _ _ (by omega), by rw [rsD_len]; have := adj_len (M := M) (l := M.there.take i) (v := M.b q); omega, ?_⟩
    let st1 : SC := (st (M.there.take i)).set (M.b q) (.lst (rsD (M.adj (M.there.take i) (M.b q)) ++ [prD (M.e q, q)]))
    have hP1 : st1[M.n + 1]? = some (.ptrs (List.range (M.n + 1))) := by
      show ((st _).set _ _)[M.n + 1]? = _
      rw [List.getElem?_set_ne (by omega)]; exact stP _
    have hI1 : st1[M.e q]? = some (.lst (rsD (M.adj (M.there.take i) (M.e q)))) := by
      show ((st _).set _ _)[M.e q]? = _
      rw [List.getElem?_set_ne (by omega)]; exact stI _ _ (by omega)
    refine rs_drop (re_append (re_op (re_var rfl (by intro h; cases h) (re_var rfl (by intro h; cases h) (od_ixP hP1 (i := (M.e q : Int)) (j := M.e q) (atI_nat (List.getElem?_range (by omega))) ⟨M.e q, _, rfl, hI1, ?_⟩)))))
    repeat trivial
    refine ⟨[iN (M.b q), iN q], rfl, by simp, ?_⟩
    repeat trivial
    refine ⟨_, _, rfl, hI1, by rw [rsD_len]; have := adj_len (M := M) (l := M.there.take i) (v := M.e q); omega, ?_⟩
    refine ⟨hil, ⟨_, _, _, ?_, rfl⟩, ?_⟩
    · rfl
    show st1.set (M.e q) _ = st (M.there.take (i + 1))
    refine List.ext_getElem? fun j => ?_
    have slen : ∀ l, (st l).length = M.n + 2 := fun l => by
      show (((List.range (M.n + 1)).map fun v => Cell.lst (rsD (M.adj l v))) ++ [Cell.ptrs (List.range (M.n + 1))]).length = _
      simp
    by_cases hj : j < M.n + 1
    · rw [stI _ j hj, take_succ_of hq, adj_snoc ok hqr]
      by_cases h1 : M.e q = j
      · subst h1
        have h2 : ¬ M.b q = M.e q := by omega
        rw [List.getElem?_set_self (by show M.e q < ((st _).set _ _).length; rw [List.length_set, slen]; omega)]
        simp [h2, rsD]
      · rw [List.getElem?_set_ne h1]
        show ((st _).set _ _)[j]? = _
        by_cases h2 : M.b q = j
        · subst h2
          rw [List.getElem?_set_self (by rw [slen]; omega)]
          simp [rsD]
        · rw [List.getElem?_set_ne h2, stI _ j hj]
          simp [h1, h2]
    · by_cases hj2 : j = M.n + 1
      · subst hj2
        rw [List.getElem?_set_ne (by omega), hP1, stP]
      · rw [List.getElem?_eq_none (by rw [List.length_set]; show ((st _).set _ _).length ≤ j; rw [List.length_set, slen]; omega), List.getElem?_eq_none (by rw [slen]; omega)]
  · rintro G' S' ⟨_, ⟨s3, s4, s5, him, rfl⟩, rfl⟩
    rw [nsD_len, List.take_length]
    let zs : List (Nat × List D) := (List.range (M.n + 1)).map fun v => (v, rsD (M.adj M.there v))
    have hz1 : zs.map (·.1) = List.range (M.n + 1) := by
      show (List.map _ _).map _ = _
      rw [List.map_map]
      exact List.map_id _
    have hzm : ∀ z ∈ zs, z.1 < M.n + 1 ∧ z.2 = rsD (M.adj M.there z.1) := fun z hz => by
      obtain ⟨v, hv, rfl⟩ := List.mem_map.mp hz
      exact ⟨List.mem_range.mp hv, rfl⟩
    refine rs_freezeP (k := M.n + 1) (zs := zs) (by rw [hz1]; exact stP _) (fun z hz => by rw [(hzm z hz).2]; exact stI _ _ (hzm z hz).1) (by rw [hz1]; exact List.nodup_range) (by rw [hz1]; simp) (fun z hz hm => ?_) ?_
    · have := (hzm z hz).1
      have h3 : ∀ s ∈ [s3, s4, s5], ∀ k, s ≠ Sl.pt k := fun s hs k e => by
        have := List.all_eq_true.mp him s hs
        subst e; cases this
      simp at hm h3
      rcases hm with e | e | e | e
      · omega
      · exact h3.1 _ e.symm
      · exact h3.2.1 _ e.symm
      · exact h3.2.2 _ e.symm
    have e9 : zs.map (fun z => D.lst z.2) = (List.range (M.n + 1)).map fun v => D.lst (rsD (M.adj M.there v)) := by
      show (List.map _ _).map _ = _
      rw [List.map_map]; rfl
    rw [e9]
    refine rs_ret (re_var (s := .im (adjD M)) ?_ (by intro h; cases h) (end_im hR))
    show some (if M.n + 1 = M.n + 1 then Sl.im (adjD M) else Sl.pt (M.n + 1)) = _
    rw [if_pos rfl]
end
end K78

set_option Elab.async false
set_option linter.all false
set_option maxRecDepth 100000
set_option maxHeartbeats 4000000
namespace K78
open PySem PySem.Spec PyProof.Rows L2 Dt
local macro_rules | `(tactic| trivial) => `(tactic| first
  | with_reducible refine re_many (‹Tx _ _›) ?_ | with_reducible refine re_all (‹Tx _ _›) ?_ | with_reducible refine re_size (‹Tx _ _›) ?_ | with_reducible refine re_runs (‹Tx _ _›) ?_ | with_reducible refine re_gone (‹Tx _ _›) ?_ | with_reducible refine re_KIND (‹Tx _ _›) ?_ | with_reducible refine re_there (‹Tx _ _›) ?_
  | with_reducible refine rs_seq ?_ | with_reducible refine rs_set ?_ | with_reducible refine rs_asg ?_ | with_reducible refine rs_ret ?_ | with_reducible refine rs_retN ?_ | with_reducible refine rs_drop ?_ | with_reducible refine rs_next ?_ | with_reducible refine rs_break ?_ | with_reducible refine rs_cont ?_ | with_reducible refine rs_if ?_
  | with_reducible refine re_var (by with_unfolding_all rfl) (by with_unfolding_all exact fun h => nomatch h) ?_ | with_reducible refine re_c ?_ | with_reducible refine ra_nil ?_ | with_reducible refine ra_cons ?_ | with_reducible refine re_cb ?_ | with_reducible refine re_call ?_ | with_reducible refine re_op ?_ | with_reducible refine od_int ?_
  | with_reducible refine re_andV ?_ | with_reducible refine re_orV ?_ | with_reducible refine re_notV ?_ | with_reducible refine re_if ?_ | with_reducible refine rt_test ?_ | with_reducible refine rt_B ?_ | with_reducible refine rt_not ?_ | with_reducible refine rt_and ?_ | with_reducible refine rt_or ?_ | with_reducible refine rt_yes ?_
  | with_reducible refine re_tup ?_ | with_reducible refine re_neg ?_ | refine ⟨_, rfl, ?_⟩ | refine ⟨‹Mkt.Ok _›, ?_⟩)
/-! ### simple ways between two points -/
structure Wy where
  p : Nat
  seen : List Nat
  outs : List Nat
  ins : List Nat
def Mkt.kid (M : Mkt) (s : Wy) (x : Nat × Nat) : Option Wy := if x.1 ∈ s.seen then none else some (if x.1 < s.p then ⟨x.1, s.seen ++ [x.1], s.outs ++ [x.2], s.ins⟩ else ⟨x.1, s.seen ++ [x.1], s.outs, s.ins ++ [x.2]⟩)
def Mkt.kids (M : Mkt) (s : Wy) : List Wy := (M.adj M.there s.p).filterMap (M.kid s)
inductive Rch (M : Mkt) (last : Nat) : Wy → Wy → Prop
  | refl (s : Wy) : Rch M last s s
  | step {s s1 t : Wy} : s.p ≠ last → s1 ∈ M.kids s → Rch M last s1 t → Rch M last s t
structure Wy.Ok (M : Mkt) (s : Wy) : Prop where
  pn : s.p ≤ M.n
  ps : s.p ∈ s.seen
  nd : s.seen.Nodup
  le : ∀ v ∈ s.seen, v ≤ M.n
  qd : (s.outs ++ s.ins).Nodup
  q : ∀ q ∈ s.outs ++ s.ins, q ∈ M.there ∧ M.b q ∈ s.seen ∧ M.e q ∈ s.seen
theorem Wy.Ok.len {M : Mkt} {s : Wy} (h : s.Ok M) : s.seen.length ≤ M.n + 1 := nodup_le h.nd fun v hv => Nat.lt_succ_of_le (h.le v hv)
theorem Wy.Ok.kid {M : Mkt} (ok : M.Ok) {s t : Wy} (h : s.Ok M) (ht : t ∈ M.kids s) : t.Ok M ∧ t.seen.length = s.seen.length + 1 := by
  obtain ⟨⟨w, q⟩, hx, hk⟩ := List.mem_filterMap.mp ht
  obtain ⟨hq, hor⟩ := adj_mem.mp hx
  have be := ok.be (Mkt.mem_there.mp hq).1
  unfold Mkt.kid at hk
  split at hk
  · cases hk
  rename_i hw
  have hwn : w ≤ M.n := by rcases hor with ⟨_, h2⟩ | ⟨_, _, h2⟩ <;> omega
  have hends : (M.b q = s.p ∧ M.e q = w) ∨ (M.e q = s.p ∧ M.b q = w) := by
    rcases hor with ⟨h1, h2⟩ | ⟨_, h1, h2⟩
    · exact .inl ⟨h1, h2⟩
    · exact .inr ⟨h1, h2⟩
  have hb : M.b q ∈ s.seen ++ [w] ∧ M.e q ∈ s.seen ++ [w] := by
    rcases hends with ⟨h1, h2⟩ | ⟨h1, h2⟩
    · rw [h1, h2]; exact ⟨List.mem_append_left _ h.ps, List.mem_append_right _ (by simp)⟩
    · rw [h1, h2]; exact ⟨List.mem_append_right _ (by simp), List.mem_append_left _ h.ps⟩
  have hnew : q ∉ s.outs ++ s.ins := fun hm => by
    obtain ⟨_, h1, h2⟩ := h.q q hm
    rcases hends with ⟨_, h4⟩ | ⟨_, h4⟩
    · exact hw (h4 ▸ h2)
    · exact hw (h4 ▸ h1)
  have hnd : (s.seen ++ [w]).Nodup := by
    rw [List.nodup_append]
    exact ⟨h.nd, by simp, fun a ha b hb' => by
      have : b = w := by simpa using hb'
      subst this
      exact fun e => hw (e ▸ ha)⟩
  have hle : ∀ v ∈ s.seen ++ [w], v ≤ M.n := fun v hv => (List.mem_append.mp hv).elim (h.le v) fun z => by
    have : v = w := by simpa using z
    omega
  have old : ∀ x ∈ s.outs ++ s.ins, x ∈ M.there ∧ M.b x ∈ s.seen ++ [w] ∧ M.e x ∈ s.seen ++ [w] := fun x hx => by
    obtain ⟨h1, h2, h3⟩ := h.q x hx
    exact ⟨h1, List.mem_append_left _ h2, List.mem_append_left _ h3⟩
  have nd0 := List.nodup_append.mp h.qd
  injection hk with hk
  by_cases hlt : w < s.p
  · rw [if_pos hlt] at hk
    subst hk
    refine ⟨⟨hwn, List.mem_append_right _ (by simp), hnd, hle, ?_, fun x hx => ?_⟩, by simp⟩
    · show (s.outs ++ [q] ++ s.ins).Nodup
      have e : (s.outs ++ [q] ++ s.ins).Perm (q :: (s.outs ++ s.ins)) := by
        rw [List.append_assoc]
        exact List.perm_middle
      exact e.nodup_iff.mpr (List.nodup_cons.mpr ⟨hnew, h.qd⟩)
    · have hx : x ∈ s.outs ++ [q] ++ s.ins := hx
      simp only [List.mem_append, List.mem_singleton] at hx
      rcases hx with (z | z) | z
      · exact old x (List.mem_append_left _ z)
      · subst z; exact ⟨hq, hb⟩
      · exact old x (List.mem_append_right _ z)
  · rw [if_neg hlt] at hk
    subst hk
    refine ⟨⟨hwn, List.mem_append_right _ (by simp), hnd, hle, ?_, fun x hx => ?_⟩, by simp⟩
    · show (s.outs ++ (s.ins ++ [q])).Nodup
      have e : (s.outs ++ (s.ins ++ [q])).Perm (q :: (s.outs ++ s.ins)) := by
        rw [← List.append_assoc]
        exact List.perm_append_singleton q _
      exact e.nodup_iff.mpr (List.nodup_cons.mpr ⟨hnew, h.qd⟩)
    · have hx : x ∈ s.outs ++ (s.ins ++ [q]) := hx
      simp only [List.mem_append, List.mem_singleton] at hx
      rcases hx with z | z | z
      · exact old x (List.mem_append_left _ z)
      · exact old x (List.mem_append_right _ z)
      · subst z; exact ⟨hq, hb⟩
theorem kids_len {M : Mkt} (ok : M.Ok) (s : Wy) : (M.kids s).length ≤ 7 := by
  have h1 : (M.kids s).length ≤ (M.adj M.there s.p).length := List.length_filterMap_le _ _
  have h2 := adj_len (M := M) (l := M.there) (v := s.p)
  have := M.there_len
  have := ok.rl
  omega
theorem Rch.ok {M : Mkt} (ok : M.Ok) {last : Nat} {s t : Wy} (h : Rch M last s t) (hs : s.Ok M) : t.Ok M := by
  induction h with
  | refl s => exact hs
  | step _ hk _ ih => exact ih (hs.kid ok hk).1
theorem Rch.snoc {M : Mkt} {last : Nat} {s t u : Wy} (h : Rch M last s t) (hp : t.p ≠ last) (hk : u ∈ M.kids t) : Rch M last s u := by
  induction h with
  | refl s => exact .step hp hk (.refl u)
  | step h1 h2 _ ih => exact .step h1 h2 (ih hp hk)
/-- the sorted outs and ins of a way -/
def isKey (s : Wy) (x : List Nat × List Nat) : Prop := srt x.1 ∧ srt x.2 ∧ (∀ q, q ∈ x.1 ↔ q ∈ s.outs) ∧ ∀ q, q ∈ x.2 ↔ q ∈ s.ins
theorem isKey_inj {s : Wy} {x y : List Nat × List Nat} (hx : isKey s x) (hy : isKey s y) : x = y :=
  Prod.ext (srt_eq hx.1 hy.1 fun q => by rw [hx.2.2.1, hy.2.2.1]) (srt_eq hx.2.1 hy.2.1 fun q => by rw [hx.2.2.2, hy.2.2.2])
/-- all sorted lists of numbers below m -/
def subs : Nat → List (List Nat)
  | 0 => [[]]
  | m + 1 => subs m ++ (subs m).map (· ++ [m])
theorem subs_len : ∀ m, (subs m).length = 2 ^ m
  | 0 => rfl
  | m + 1 => by show (subs m ++ (subs m).map _).length = _; rw [List.length_append, List.length_map, subs_len m, Nat.pow_succ]; omega
theorem mem_subs : ∀ {m : Nat} {l : List Nat}, srt l → (∀ x ∈ l, x < m) → l ∈ subs m
  | 0, [], _, _ => by simp [subs]
  | 0, x :: l, _, h => absurd (h x List.mem_cons_self) (by omega)
  | m + 1, l, hs, h => by
    show l ∈ subs m ++ (subs m).map (· ++ [m])
    by_cases hm : m ∈ l
    · have hne : l ≠ [] := fun e => by subst e; cases hm
      have hd := List.dropLast_concat_getLast hne
      have hl : l.getLast hne = m := by
        by_cases e : l.getLast hne = m
        · exact e
        · have h1 := h _ (List.getLast_mem hne)
          rw [← hd] at hm hs
          rcases List.mem_append.mp hm with z | z
          · have := (List.pairwise_append.mp hs).2.2 m z (l.getLast hne) (by simp)
            omega
          · exact absurd (by simpa using z) (fun z : m = _ => e z.symm)
      refine List.mem_append_right _ (List.mem_map.mpr ⟨l.dropLast, mem_subs ?_ fun x hx => ?_, ?_⟩)
      · rw [← hd] at hs
        exact (List.pairwise_append.mp hs).1
      · rw [← hd] at hs
        have := (List.pairwise_append.mp hs).2.2 x hx (l.getLast hne) (by simp)
        omega
      · rw [← hl]; exact hd
    · refine List.mem_append_left _ (mem_subs hs fun x hx => ?_)
      have h1 := h x hx
      have h2 : x ≠ m := fun e => hm (e ▸ hx)
      omega
theorem nodup_sub {α : Type} [DecidableEq α] : ∀ {l L : List α}, l.Nodup → (∀ x ∈ l, x ∈ L) → l.length ≤ L.length
  | [], _, _, _ => Nat.zero_le _
  | x :: l, L, nd, h => by
    have nd' := List.nodup_cons.mp nd
    have hx := h x List.mem_cons_self
    have := nodup_sub (L := L.erase x) nd'.2 fun y hy => by
      have hne : y ≠ x := fun e => nd'.1 (e ▸ hy)
      exact (List.mem_erase_of_ne hne).mpr (h y (List.mem_cons_of_mem _ hy))
    rw [List.length_erase_of_mem hx] at this
    have := List.length_pos_of_mem hx
    rw [List.length_cons]
    omega
/-- all pairs of such lists -/
def subs2 (m : Nat) : List (List Nat × List Nat) := (subs m).flatMap fun a => (subs m).map fun b => (a, b)
theorem subs2_len (m : Nat) : (subs2 m).length = 2 ^ m * 2 ^ m := by
  unfold subs2
  have gen : ∀ L : List (List Nat), (L.flatMap fun a => (subs m).map fun b => (a, b)).length = L.length * 2 ^ m := by
    intro L
    induction L with
    | nil => simp
    | cons a L ih => rw [List.flatMap_cons, List.length_append, ih, List.length_map, subs_len, List.length_cons, Nat.succ_mul]; omega
  rw [gen, subs_len]
theorem mem_subs2 {m : Nat} {x : List Nat × List Nat} (h1 : x.1 ∈ subs m) (h2 : x.2 ∈ subs m) : x ∈ subs2 m := List.mem_flatMap.mpr ⟨x.1, h1, List.mem_map.mpr ⟨x.2, h2, rfl⟩⟩
/-- as ints -/
def cI (l : List Nat) : List Int := l.map fun n : Nat => (n : Int)
def cP (x : List Nat × List Nat) : List Int × List Int := (cI x.1, cI x.2)
theorem cI_inj : ∀ {a b : List Nat}, cI a = cI b → a = b
  | [], [], _ => rfl
  | [], _ :: _, h => by cases h
  | _ :: _, [], h => by cases h
  | x :: a, y :: b, h => by
    have h' : ((x : Int) :: cI a) = ((y : Int) :: cI b) := h
    injection h' with h1 h2
    rw [cI_inj h2, show x = y by omega]
theorem cP_inj {x y : List Nat × List Nat} (h : cP x = cP y) : x = y := by
  have h1 := congrArg Prod.fst h
  have h2 := congrArg Prod.snd h
  exact Prod.ext (cI_inj h1) (cI_inj h2)
theorem cI_iD (l : List Nat) : (cI l).map iD = nsD l := (nsD_map l).symm
def putP (l : List (List Nat × List Nat)) (x : List Nat × List Nat) : List (List Nat × List Nat) := if x ∈ l then l else l ++ [x]
theorem put_cP {l : List (List Nat × List Nat)} {x : List Nat × List Nat} : putN (l.map cP) (cP x) = (putP l x).map cP := by
  unfold putN putP
  by_cases h : x ∈ l
  · rw [if_pos h, if_pos (List.mem_map.mpr ⟨x, h, rfl⟩)]
  · rw [if_neg h, if_neg (fun z => h (by obtain ⟨y, hy, e⟩ := List.mem_map.mp z; exact cP_inj e ▸ hy)), List.map_append]; rfl
theorem mem_putP {l : List (List Nat × List Nat)} {x y : List Nat × List Nat} : y ∈ putP l x ↔ y ∈ l ∨ y = x := by
  unfold putP
  by_cases h : x ∈ l
  · rw [if_pos h]; exact ⟨.inl, fun z => z.elim id fun e => e ▸ h⟩
  · rw [if_neg h]; simp
theorem putP_nodup {l : List (List Nat × List Nat)} {x : List Nat × List Nat} (h : l.Nodup) : (putP l x).Nodup := by
  unfold putP
  by_cases q : x ∈ l
  · rw [if_pos q]; exact h
  · rw [if_neg q, List.nodup_append]
    exact ⟨h, by simp, fun a ha b hb => by
      have : b = x := by simpa using hb
      subst this
      exact fun e => q (e ▸ ha)⟩
abbrev wyD (s : Wy) : D := .tup [iN s.p, tN s.seen, tN s.outs, tN s.ins]
abbrev kyD (x : List Nat × List Nat) : D := .tup [tN x.1, tN x.2]
theorem kkD_cP (x : List Nat × List Nat) : kkD (cP x) = kyD x := by
  unfold kkD cP
  show D.tup [.tup ((cI x.1).map iD), .tup ((cI x.2).map iD)] = _
  rw [cI_iD, cI_iD]
/-- the weight of a stack of ways -/
def wyg : List Wy → Nat
  | [] => 0
  | s :: ws => 8 ^ (10 - s.seen.length) + wyg ws
theorem wyg_append : ∀ a b, wyg (a ++ b) = wyg a + wyg b
  | [], b => by simp [wyg]
  | x :: a, b => by show _ + wyg (a ++ b) = _ + wyg a + wyg b; rw [wyg_append a b]; omega
theorem wyg_kids {k : Nat} : ∀ {l : List Wy}, (∀ t ∈ l, t.seen.length = k + 1) → k + 1 ≤ 9 → wyg l * 8 = l.length * 8 ^ (10 - k)
  | [], _, _ => by simp [wyg]
  | t :: l, h, hk => by
    have ih := wyg_kids (l := l) (fun x hx => h x (List.mem_cons_of_mem _ hx)) hk
    show (8 ^ (10 - t.seen.length) + wyg l) * 8 = (l.length + 1) * 8 ^ (10 - k)
    rw [h t List.mem_cons_self, Nat.add_mul, ih, Nat.add_mul, Nat.one_mul]
    have e : 10 - k = (10 - (k + 1)) + 1 := by omega
    rw [e, Nat.pow_succ]
    omega
end K78

set_option Elab.async false
set_option linter.all false
set_option maxRecDepth 100000
set_option maxHeartbeats 4000000
namespace K78
open PySem PySem.Spec PyProof.Rows L2 Dt
local macro_rules | `(tactic| trivial) => `(tactic| first
  | with_reducible refine re_many (‹Tx _ _›) ?_ | with_reducible refine re_all (‹Tx _ _›) ?_ | with_reducible refine re_size (‹Tx _ _›) ?_ | with_reducible refine re_runs (‹Tx _ _›) ?_ | with_reducible refine re_gone (‹Tx _ _›) ?_ | with_reducible refine re_KIND (‹Tx _ _›) ?_ | with_reducible refine re_there (‹Tx _ _›) ?_
  | with_reducible refine rs_seq ?_ | with_reducible refine rs_set ?_ | with_reducible refine rs_asg ?_ | with_reducible refine rs_ret ?_ | with_reducible refine rs_retN ?_ | with_reducible refine rs_drop ?_ | with_reducible refine rs_next ?_ | with_reducible refine rs_break ?_ | with_reducible refine rs_cont ?_ | with_reducible refine rs_if ?_
  | with_reducible refine re_var (by with_unfolding_all rfl) (by with_unfolding_all exact fun h => nomatch h) ?_ | with_reducible refine re_c ?_ | with_reducible refine ra_nil ?_ | with_reducible refine ra_cons ?_ | with_reducible refine re_cb ?_ | with_reducible refine re_call ?_ | with_reducible refine re_op ?_ | with_reducible refine od_int ?_
  | with_reducible refine re_andV ?_ | with_reducible refine re_orV ?_ | with_reducible refine re_notV ?_ | with_reducible refine re_if ?_ | with_reducible refine rt_test ?_ | with_reducible refine rt_B ?_ | with_reducible refine rt_not ?_ | with_reducible refine rt_and ?_ | with_reducible refine rt_or ?_ | with_reducible refine rt_yes ?_
  | with_reducible refine re_tup ?_ | with_reducible refine re_neg ?_ | refine ⟨_, rfl, ?_⟩ | refine ⟨‹Mkt.Ok _›, ?_⟩)
section
variable {c : Cn} {mg : Str → Option Value} {base : Heap} (T : Tx c.K mg)
variable {G : SG} {S : SC} {Q : SC → Sl → Prop} {ta : TE}
/-- a key's way -/
def Mkt.Way (M : Mkt) (first last : Nat) (x : List Nat × List Nat) : Prop := ∃ s, Rch M last ⟨first, [first], [], []⟩ s ∧ s.p = last ∧ isKey s x
def W_moves : Wp := fun A S R => ∃ (M : Mkt) (first last : Nat), A = [.im (adjD M), .im (iN first), .im (iN last), .im (iD (-1))] ∧ S = [] ∧ M.Ok ∧ first ≤ M.n ∧ last ≤ M.n ∧ ∀ m : List (List Nat × List Nat), (∀ x, x ∈ m ↔ M.Way first last x) → m.length ≤ 100000 → R [] (.im (.lst (m.map kyD)))
theorem len_moves : ∀ A S R, W_moves A S R → A.length = 4 := by rintro A S R ⟨M, a, b, rfl, _⟩; rfl
theorem ok_start {M : Mkt} {first : Nat} (h : first ≤ M.n) : Wy.Ok M ⟨first, [first], [], []⟩ := ⟨h, by simp, by simp, fun v hv => by simp at hv; omega, by simp, fun q hq => by simp at hq⟩
theorem perm_mapL {α β : Type} (f : α → β) (l : List α) (m : List β) (hp : m.Perm (l.map f)) : ∃ l' : List α, l'.Perm l ∧ m = l'.map f := by
  generalize hL : l.map f = L at hp
  induction hp generalizing l with
  | nil =>
    cases l with
    | nil => exact ⟨[], .nil, rfl⟩
    | cons _ _ => cases hL
  | cons x _ ih =>
    cases l with
    | nil => cases hL
    | cons a l =>
      rw [List.map_cons] at hL
      injection hL with e1 e2
      obtain ⟨l', p1, e3⟩ := ih l e2
      exact ⟨a :: l', .cons a p1, by rw [List.map_cons, e1, e3]⟩
  | swap x y m =>
    cases l with
    | nil => cases hL
    | cons a l =>
      cases l with
      | nil => cases hL
      | cons b l =>
        rw [List.map_cons, List.map_cons] at hL
        injection hL with e1 e2
        injection e2 with e2 e3
        exact ⟨b :: a :: l, .swap _ _ _, by rw [List.map_cons, List.map_cons, e1, e2, e3]⟩
  | trans _ _ ih1 ih2 =>
    obtain ⟨l2, p2, e2⟩ := ih2 l hL
    obtain ⟨l1, p1, e1⟩ := ih1 l2 e2.symm
    exact ⟨l1, p1.trans p2, e1⟩
/-- tuple(sorted(list(x))) of distinct parts -/
theorem re_sorted {i : Nat} {l : List Nat} (hG : G[i]? = some (.im (tN l))) (nd : l.Nodup) (hz : l.length ≤ 1000) (q : ∀ r, srt r → (∀ x, x ∈ r ↔ x ∈ l) → Q S (.im (tN r))) : RE c (tCB (rTupS c.K) (tCons (tCB (rSortedI c.K) (tCons (tCB (rListS c.K) (tCons (tVar i) tNil)) tNil)) tNil)) G S Q := by
  refine re_cb (ra_cons (re_cb (ra_cons (re_cb (ra_cons (re_var hG (by intro h; cases h) (ra_nil (cb_list (.tup _) (ra_nil (cb_sortedI (ns := l.map fun n : Nat => (n : Int)) (by rw [← nsD_map]; exact .im _) fun ms pm so => ?_))))))))))
  obtain ⟨r, rfl, hs, hr⟩ := srt_of pm so nd
  refine ra_nil (cb_tuple (.im _) ?_)
  rw [← nsD_map]
  exact q r hs hr
theorem ok_moves : FnOk c.P c.w c.K mg base CX0 1 (T.f "_moves") (T.fd "_moves") ["lists", "first", "last", "above"] (spD c W_moves) := by
  refine mk_u_moves T len_moves ?_
  rintro A S R ⟨M, first, last, rfl, rfl, ok, hf, hla, hR⟩
  unfold t_u_moves
  have n8 := ok.n8
  have rl := ok.rl
  have thl := M.there_len
  let s0 : Wy := ⟨first, [first], [], []⟩
  have hs0 : s0.Ok M := ok_start hf
  refine rs_seq (rs_set (re_dnewN ?_))
  refine rs_seq (rs_set (re_lstO ?_))
  repeat trivial
  refine ⟨[iN first], rfl, by simp, ?_⟩
  repeat trivial
  refine ⟨[], rfl, by simp, ?_⟩
  repeat trivial
  refine ⟨[], rfl, by simp, ?_⟩
  repeat trivial
  refine ⟨[iN first, .tup [iN first], .tup [], .tup []], rfl, by simp, ?_⟩
  repeat trivial
  refine ⟨[wyD s0], rfl, by simp, ?_⟩
  let J (m : Nat) (G' : SG) (S' : SC) : Prop := ∃ (fs : List (List Nat × List Nat)) (ws : List Wy) (s6 s7 s8 s9 s10 s11 : Sl), m = wyg ws ∧ G' = [.im (adjD M), .im (iN first), .im (iN last), .im (iD (-1)), .pt 0, .pt 1, s6, s7, s8, s9, s10, s11] ∧ S' = [.dn (fs.map cP), .lst (ws.map wyD)] ∧
    fs.Nodup ∧ (∀ x ∈ fs, M.Way first last x) ∧ (∀ s ∈ ws, s.Ok M ∧ Rch M last s0 s) ∧ (∀ i s, ws[i]? = some s → i + 7 * (10 - s.seen.length) ≤ 63) ∧
    ∀ t x, Rch M last s0 t → t.p = last → isKey t x → x ∈ fs ∨ ∃ s ∈ ws, Rch M last s t
  refine rs_seq (rs_while J (wyg [s0]) ⟨[], [s0], .no, .no, .no, .no, .no, .no, rfl, rfl, rfl, List.nodup_nil, fun x h => (by cases h), fun s h => (by simp at h; subst h; exact ⟨hs0, .refl _⟩), fun i s h => ?_, fun t x h _ _ => .inr ⟨s0, by simp, h⟩⟩ ?_)
  · cases i with
    | zero => simp at h; subst h; show 0 + 7 * (10 - 1) ≤ 63; omega
    | succ i => simp at h
  rintro m G' S' ⟨fs, ws, s6, s7, s8, s9, s10, s11, rfl, rfl, rfl, hfn, hfw, hws, hix, hall⟩
  have wlen : ws.length ≤ 64 := by
    by_cases e : ws.length = 0
    · omega
    · have := hix (ws.length - 1) _ (List.getElem?_eq_getElem (by omega))
      omega
  have flen : fs.length ≤ 16384 := by
    have h1 := nodup_sub (L := subs2 M.runs.length) hfn fun x hx => by
      obtain ⟨s, hr, _, hk⟩ := hfw x hx
      have so := hr.ok ok hs0
      exact mem_subs2 (mem_subs hk.1 fun q hq => (Mkt.mem_there.mp (so.q q (List.mem_append_left _ ((hk.2.2.1 q).mp hq))).1).1) (mem_subs hk.2.1 fun q hq => (Mkt.mem_there.mp (so.q q (List.mem_append_right _ ((hk.2.2.2 q).mp hq))).1).1)
    rw [subs2_len] at h1
    have h2 : 2 ^ M.runs.length ≤ 2 ^ 7 := Nat.pow_le_pow_right (by decide) rl
    have h3 : 2 ^ M.runs.length * 2 ^ M.runs.length ≤ 2 ^ 7 * 2 ^ 7 := Nat.mul_le_mul h2 h2
    omega
  repeat trivial
  refine cb_len (.lst (.pt rfl)) ?_
  repeat trivial
  refine iteC (fun h => ?_) fun h => ?_
  · have hne : ws ≠ [] := fun e => by subst e; simp at h
    obtain ⟨ws', s, rfl⟩ : ∃ ws' s, ws = ws' ++ [s] := ⟨ws.dropLast, ws.getLast hne, (List.dropLast_concat_getLast hne).symm⟩
    obtain ⟨hso, hsr⟩ := hws s (by simp)
    have hsl := hso.len
    have hw2 : wyg (ws' ++ [s]) = wyg ws' + 8 ^ (10 - s.seen.length) := by rw [wyg_append]; rfl
    have hqd := List.nodup_append.mp hso.qd
    have hlenq : s.outs.length + s.ins.length ≤ 7 := by
      have := nodup_le hso.qd fun q hq => (Mkt.mem_there.mp (hso.q q hq).1).1
      rw [List.length_append] at this
      omega
    have hix' : ∀ i t, ws'[i]? = some t → i + 7 * (10 - t.seen.length) ≤ 63 := fun i t hi => hix i t (by rw [List.getElem?_append_left (List.getElem?_eq_some_iff.mp hi).1]; exact hi)
    have hixs : ws'.length + 7 * (10 - s.seen.length) ≤ 63 := hix ws'.length s (by simp)
    trivial
    trivial
    refine re_pop (re_var rfl (by intro h; cases h) ⟨1, ws'.map wyD, wyD s, rfl, by simp, ?_⟩)
    refine rg_tup rfl (rgs_cons (rgs_cons (rgs_cons (rgs_cons (rgs_nil ?_)))))
    repeat trivial
    refine Dt.od_eq (by rfl) ?_
    refine ⟨_, rfl, iteC (fun h => ?_) fun h => ?_⟩
    · have hpl : s.p = last := by
        have := of_decide_eq_true h
        injection this with this
        omega
      refine rs_seq (rs_dputN (re_c ⟨rfl, re_var rfl (by intro h; cases h) ⟨0, rfl, ?_⟩⟩))
      refine re_tup (ra_cons (re_sorted rfl hqd.1 (by omega) fun r1 hr1 hm1 => ra_cons (re_sorted rfl hqd.2.1 (by omega) fun r2 hr2 hm2 => ra_nil ⟨[tN r1, tN r2], rfl, by simp, ?_⟩)))
      have hk : isKey s (r1, r2) := ⟨hr1, hr2, hm1, hm2⟩
      refine ⟨cP (r1, r2), fs.map cP, by rw [kkD_cP], rfl, by rw [List.length_map]; omega, ?_⟩
      refine rs_cont ⟨wyg ws', by rw [hw2]; have := Nat.pow_pos (n := 10 - s.seen.length) (show 0 < 8 by decide); omega, putP fs (r1, r2), ws', _, _, _, _, _, _, rfl, rfl, ?_, putP_nodup hfn, fun x hx => ?_, fun t ht => hws t (List.mem_append_left _ ht), hix', fun t x hr hp hkx => ?_⟩
      · show [Cell.dn (putN (fs.map cP) (cP (r1, r2))), _] = _
        rw [put_cP]
      · rcases mem_putP.mp hx with z | z
        · exact hfw x z
        · subst z; exact ⟨s, hsr, hpl, hk⟩
      · rcases hall t x hr hp hkx with z | ⟨y, hy, hyt⟩
        · exact .inl (mem_putP.mpr (.inl z))
        · rcases List.mem_append.mp hy with z | z
          · exact .inr ⟨y, z, hyt⟩
          · have : y = s := by simpa using z
            subst this
            cases hyt with
            | refl => exact .inl (mem_putP.mpr (.inr (isKey_inj hkx hk)))
            | step h1 _ _ => exact absurd hpl h1
    · have hpl : s.p ≠ last := fun e => by
        rw [e] at h
        simp at h
      have hpn : s.p < M.n + 1 := Nat.lt_succ_of_le hso.pn
      refine rs_next (rs_for (rw_list (re_op (re_var rfl (by intro h; cases h) (re_var rfl (by intro h; cases h) (od_ixN (.lst (.im _)) (by rw [List.getElem?_map, List.getElem?_range hpn]; rfl) ?_))))))
      refine ⟨_, .inl rfl, fun i G' S' => i ≤ (M.adj M.there s.p).length ∧ (∃ s10 s11, G' = [.im (adjD M), .im (iN first), .im (iN last), .im (iD (-1)), .pt 0, .pt 1, .im (iN s.p), .im (tN s.seen), .im (tN s.outs), .im (tN s.ins), s10, s11]) ∧ S' = [.dn (fs.map cP), .lst ((ws' ++ ((M.adj M.there s.p).take i).filterMap (M.kid s)).map wyD)], ⟨Nat.zero_le _, ⟨_, _, rfl⟩, by simp⟩, ?_, ?_⟩
      · rintro i e G' S' he ⟨hi, ⟨s10, s11, rfl⟩, rfl⟩
        rw [List.getElem?_map] at he
        cases hx : (M.adj M.there s.p)[i]? with
        | none => rw [hx] at he; cases he
        | some x =>
        obtain ⟨w, q⟩ := x
        rw [hx] at he
        cases he
        have hil : i < (M.adj M.there s.p).length := (List.getElem?_eq_some_iff.mp hx).1
        have pl : (((M.adj M.there s.p).take i).filterMap (M.kid s)).length ≤ 7 := by
          have h1 : (((M.adj M.there s.p).take i).filterMap (M.kid s)).length ≤ ((M.adj M.there s.p).take i).length := List.length_filterMap_le _ _
          have h2 := adj_len (M := M) (l := M.there) (v := s.p)
          rw [List.length_take] at h1
          omega
        refine rg_tup rfl (rgs_cons (rgs_cons (rgs_nil ?_)))
        refine rs_seq (rs_if (rt_or (rt_test (re_op (re_var rfl (by intro h; cases h) (re_var rfl (by intro h; cases h) (od_inI (ns := s.seen.map fun n : Nat => (n : Int)) (by rw [← nsD_map]; exact .tup _) ?_)))))))
        rw [if_neg Bool.false_ne_true]
        refine ⟨_, rfl, iteC (fun h => ?_) fun h => ?_⟩
        · have hw : w ∈ s.seen := by
            obtain ⟨m, hm, e⟩ := List.mem_map.mp (of_decide_eq_true h)
            have : m = w := by omega
            exact this ▸ hm
          refine iteY rfl (rs_cont ⟨hil, ⟨_, _, rfl⟩, ?_⟩)
          have ek : M.kid s (w, q) = none := by unfold Mkt.kid; rw [if_pos hw]
          rw [take_succ_of hx, List.filterMap_append]
          simp [ek]
        · have hw : w ∉ s.seen := fun z => of_decide_eq_false h (List.mem_map.mpr ⟨w, z, rfl⟩)
          refine rt_test (re_chain ?_)
          repeat trivial
          refine iteY (decide_eq_true (by omega)) (re_var rfl (by intro h; cases h) (od_int ⟨_, rfl, iteN (decide_eq_false (by omega)) ?_⟩))
          trivial
          refine rs_if (rt_test (re_op (re_var rfl (by intro h; cases h) (re_c (od_int ⟨_, rfl, iteN (decide_eq_false (by omega)) ?_⟩)))))
          have sl9 : s.seen.length ≤ 9 := by omega
          have snoc : ∀ t : Wy, M.kid s (w, q) = some t → (ws' ++ ((M.adj M.there s.p).take i).filterMap (M.kid s)).map wyD ++ [wyD t] = (ws' ++ ((M.adj M.there s.p).take (i + 1)).filterMap (M.kid s)).map wyD := fun t ht => by
            rw [take_succ_of hx, List.filterMap_append]
            simp [ht]
          refine rs_if (rt_test (re_op (re_var rfl (by intro h; cases h) (re_var rfl (by intro h; cases h) (od_int ⟨_, rfl, iteC (fun h => ?_) fun h => ?_⟩)))))
          · have hlt : w < s.p := by have := of_decide_eq_true h; omega
            have ek : M.kid s (w, q) = some ⟨w, s.seen ++ [w], s.outs ++ [q], s.ins⟩ := by unfold Mkt.kid; rw [if_neg hw, if_pos hlt]
            refine rs_drop (re_append (re_var rfl (by intro h; cases h) ⟨1, _, rfl, rfl, ra_cons (re_tup (ra_cons (re_var rfl (by intro h; cases h) (ra_cons (re_tup (ra_star (re_var rfl (by intro h; cases h) ⟨_, .inl rfl, ra_cons (re_var rfl (by intro h; cases h) (ra_nil ⟨nsD s.seen ++ [iN w], by simp, by simp; omega, ?_⟩))⟩))) )))) ⟩))
            refine ra_cons (re_tup (ra_star (re_var rfl (by intro h; cases h) ⟨_, .inl rfl, ra_cons (re_var rfl (by intro h; cases h) (ra_nil ⟨nsD s.outs ++ [iN q], by simp, by simp; omega, ?_⟩))⟩)))
            refine ra_cons (re_var rfl (by intro h; cases h) (ra_nil ⟨[iN w, .tup (nsD s.seen ++ [iN w]), .tup (nsD s.outs ++ [iN q]), tN s.ins], rfl, by simp, ra_nil ⟨_, _, rfl, rfl, by simp; omega, hil, ⟨_, _, rfl⟩, ?_⟩⟩))
            show [_, Cell.lst _] = _
            rw [← snoc _ ek]
            simp [nsD, wyD]
          · have hlt : ¬ w < s.p := by have := of_decide_eq_false h; omega
            have ek : M.kid s (w, q) = some ⟨w, s.seen ++ [w], s.outs, s.ins ++ [q]⟩ := by unfold Mkt.kid; rw [if_neg hw, if_neg hlt]
            refine rs_drop (re_append (re_var rfl (by intro h; cases h) ⟨1, _, rfl, rfl, ra_cons (re_tup (ra_cons (re_var rfl (by intro h; cases h) (ra_cons (re_tup (ra_star (re_var rfl (by intro h; cases h) ⟨_, .inl rfl, ra_cons (re_var rfl (by intro h; cases h) (ra_nil ⟨nsD s.seen ++ [iN w], by simp, by simp; omega, ?_⟩))⟩))) )))) ⟩))
            refine ra_cons (re_var rfl (by intro h; cases h) ?_)
            refine ra_cons (re_tup (ra_star (re_var rfl (by intro h; cases h) ⟨_, .inl rfl, ra_cons (re_var rfl (by intro h; cases h) (ra_nil ⟨nsD s.ins ++ [iN q], by simp, by simp; omega, ?_⟩))⟩)))
            refine ra_nil ⟨[iN w, .tup (nsD s.seen ++ [iN w]), tN s.outs, .tup (nsD s.ins ++ [iN q])], rfl, by simp, ra_nil ⟨_, _, rfl, rfl, by simp; omega, hil, ⟨_, _, rfl⟩, ?_⟩⟩
            show [_, Cell.lst _] = _
            rw [← snoc _ ek]
            simp [nsD, wyD]
      · rintro G' S' ⟨_, ⟨s10, s11, rfl⟩, rfl⟩
        have e1 : (rsD (M.adj M.there s.p)).length = (M.adj M.there s.p).length := rsD_len
        rw [e1, List.take_length]
        show ∃ m', _
        have kok : ∀ t ∈ M.kids s, t.Ok M ∧ t.seen.length = s.seen.length + 1 := fun t ht => hso.kid ok ht
        have kl := kids_len ok s
        have hwk : wyg (M.kids s) < 8 ^ (10 - s.seen.length) := by
          by_cases e : M.kids s = []
          · rw [e]; exact Nat.pow_pos (show 0 < 8 by decide)
          · obtain ⟨t, ht⟩ := List.exists_mem_of_ne_nil _ e
            have h1 := (kok t ht).1.len
            have h2 := (kok t ht).2
            have h3 := wyg_kids (k := s.seen.length) (fun t ht => (kok t ht).2) (by omega)
            have h4 : 0 < 8 ^ (10 - s.seen.length) := Nat.pow_pos (show 0 < 8 by decide)
            have h5 : (M.kids s).length * 8 ^ (10 - s.seen.length) ≤ 7 * 8 ^ (10 - s.seen.length) := Nat.mul_le_mul_right _ kl
            omega
        refine ⟨wyg (ws' ++ M.kids s), by rw [wyg_append, hw2]; omega, fs, ws' ++ M.kids s, _, _, _, _, _, _, rfl, rfl, rfl, hfn, hfw, fun t ht => ?_, fun i t hi => ?_, fun t x hr hp hkx => ?_⟩
        · rcases List.mem_append.mp ht with z | z
          · exact hws t (List.mem_append_left _ z)
          · exact ⟨(kok t z).1, hsr.snoc hpl z⟩
        · by_cases hi2 : i < ws'.length
          · rw [List.getElem?_append_left hi2] at hi
            exact hix' i t hi
          · rw [List.getElem?_append_right (by omega)] at hi
            have h1 := (kok t (List.mem_of_getElem? hi)).2
            have h2 := (kok t (List.mem_of_getElem? hi)).1.len
            have h3 := (List.getElem?_eq_some_iff.mp hi).1
            omega
        · rcases hall t x hr hp hkx with z | ⟨y, hy, hyt⟩
          · exact .inl z
          · rcases List.mem_append.mp hy with z | z
            · exact .inr ⟨y, List.mem_append_left _ z, hyt⟩
            · have : y = s := by simpa using z
              subst this
              cases hyt with
              | refl => exact absurd hp hpl
              | step h1 h2 h3 => exact .inr ⟨_, List.mem_append_right _ h2, h3⟩
  · have he : ws = [] := by
      have := of_decide_eq_false h
      rw [List.length_map] at this
      exact List.length_eq_zero_iff.mp (by omega)
    subst he
    repeat trivial
    refine cb_listN rfl ?_
    repeat trivial
    have ekk : (fs.map cP).map kkD = fs.map kyD := by rw [List.map_map]; exact List.map_congr_left fun x _ => kkD_cP x
    refine cb_sortedN fun m pm => ?_
    obtain ⟨fs', pf, rfl⟩ := perm_mapL cP fs m pm
    have ekk' : (fs'.map cP).map kkD = fs'.map kyD := by rw [List.map_map]; exact List.map_congr_left fun x _ => kkD_cP x
    rw [ekk']
    refine end_im (hR fs' (fun x => ?_) (by rw [pf.length_eq]; omega))
    rw [pf.mem_iff]
    refine ⟨hfw x, fun ⟨t, h1, h2, h3⟩ => (hall t x h1 h2 h3).elim id fun ⟨y, hy, _⟩ => by cases hy⟩
end
end K78

set_option Elab.async false
set_option linter.all false
set_option maxRecDepth 100000
set_option maxHeartbeats 4000000
namespace K78
open PySem PySem.Spec PyProof.Rows L2 Dt
local macro_rules | `(tactic| trivial) => `(tactic| first
  | with_reducible refine re_many (‹Tx _ _›) ?_ | with_reducible refine re_all (‹Tx _ _›) ?_ | with_reducible refine re_size (‹Tx _ _›) ?_ | with_reducible refine re_runs (‹Tx _ _›) ?_ | with_reducible refine re_gone (‹Tx _ _›) ?_ | with_reducible refine re_KIND (‹Tx _ _›) ?_ | with_reducible refine re_there (‹Tx _ _›) ?_
  | with_reducible refine rs_seq ?_ | with_reducible refine rs_set ?_ | with_reducible refine rs_asg ?_ | with_reducible refine rs_ret ?_ | with_reducible refine rs_retN ?_ | with_reducible refine rs_drop ?_ | with_reducible refine rs_next ?_ | with_reducible refine rs_break ?_ | with_reducible refine rs_cont ?_ | with_reducible refine rs_if ?_
  | with_reducible refine re_var (by with_unfolding_all rfl) (by with_unfolding_all exact fun h => nomatch h) ?_ | with_reducible refine re_c ?_ | with_reducible refine ra_nil ?_ | with_reducible refine ra_cons ?_ | with_reducible refine re_cb ?_ | with_reducible refine re_call ?_ | with_reducible refine re_op ?_ | with_reducible refine od_int ?_
  | with_reducible refine re_andV ?_ | with_reducible refine re_orV ?_ | with_reducible refine re_notV ?_ | with_reducible refine re_if ?_ | with_reducible refine rt_test ?_ | with_reducible refine rt_B ?_ | with_reducible refine rt_not ?_ | with_reducible refine rt_and ?_ | with_reducible refine rt_or ?_ | with_reducible refine rt_yes ?_
  | with_reducible refine re_tup ?_ | with_reducible refine re_neg ?_ | refine ⟨_, rfl, ?_⟩ | refine ⟨‹Mkt.Ok _›, ?_⟩)
/-- a stock of the size with the outs and without the ins -/
def Mkt.With (M : Mkt) (k : Nat) (outs ins l : List Nat) : Prop := M.Stk k l ∧ (∀ q ∈ outs, q ∈ l) ∧ ∀ q ∈ ins, q ∉ l
theorem cov_rep {M : Mkt} {k : Nat} {l : List Nat} : M.cov l = List.replicate M.n k ↔ ∀ p, p < M.n → M.cnt l p = k := by
  constructor
  · intro h p hp
    have := cov_get (l := l) hp
    rw [h, List.getD_eq_getElem?_getD, List.getElem?_replicate, if_pos hp] at this
    exact this.symm
  · intro h
    refine List.ext_getElem? fun p => ?_
    by_cases hp : p < M.n
    · have := cov_get (l := l) hp
      rw [h p hp, List.getD_eq_getElem?_getD, List.getElem?_eq_getElem (by rw [cov_len]; exact hp)] at this
      rw [List.getElem?_eq_getElem (by rw [cov_len]; exact hp), List.getElem?_replicate, if_pos hp]
      exact congrArg some this
    · rw [List.getElem?_eq_none (by rw [cov_len]; omega), List.getElem?_eq_none (by simp; omega)]
/-- the count of a union of two lists apart -/
theorem cnt_union (M : Mkt) {l a b : List Nat} (hl : l.Nodup) (ha : a.Nodup) (hb : b.Nodup) (hab : ∀ x ∈ a, x ∉ b) (h : ∀ x, x ∈ l ↔ x ∈ a ∨ x ∈ b) (p : Nat) : M.cnt l p = M.cnt a p + M.cnt b p := by
  have h1 : M.cnt l p ≤ M.cnt (a ++ b) p := cnt_sub M p hl fun x hx => List.mem_append.mpr ((h x).mp hx)
  have hn : (a ++ b).Nodup := List.nodup_append.mpr ⟨ha, hb, fun x hx y hy e => hab x hx (e ▸ hy)⟩
  have h2 : M.cnt (a ++ b) p ≤ M.cnt l p := cnt_sub M p hn fun x hx => (h x).mpr (List.mem_append.mp hx)
  rw [cnt_append] at h1 h2
  omega
section
variable {c : Cn} {mg : Str → Option Value} {base : Heap} (T : Tx c.K mg)
variable {G : SG} {S : SC} {Q : SC → Sl → Prop} {ta : TE}
def W_stock_with : Wp := fun A S R => ∃ (M : Mkt) (k : Nat) (outs ins : List Nat), A = [.im (mk T M), .im (tN (List.replicate M.n k)), .im (tN outs), .im (tN ins)] ∧ S = [] ∧ M.Ok ∧ srt outs ∧ srt ins ∧ (∀ q ∈ outs, q ∈ M.there) ∧ (∀ q ∈ ins, q ∈ M.there) ∧ (∀ q ∈ outs, q ∉ ins) ∧
  (∀ l, M.With k outs ins l → R [] (.im (tN l))) ∧ ((∀ l, ¬ M.With k outs ins l) → R [] (.im nD))
theorem len_stock_with : ∀ A S R, W_stock_with T A S R → A.length = 4 := by rintro A S R ⟨M, k, a, b, rfl, _⟩; rfl
theorem ok_stock_with (GJ : FJ T base) : FnOk c.P c.w c.K mg base CX0 8 (T.f "_stock_with") (T.fd "_stock_with") ["market", "row", "outs", "ins"] (spD c (W_stock_with T)) := by
  refine mk_u_stock_with T (ok_cover T) (ok_some_stock T) (ok_lose T GJ) (ok_both T) (len_stock_with T) ?_
  rintro A S R ⟨M, k, outs, ins, rfl, rfl, ok, ho, hi, hot, hit, hoi, hR1, hR2⟩
  unfold t_u_stock_with
  have n1 := ok.n1
  have n8 := ok.n8
  have rl := ok.rl
  have lo := srt_le ho fun q hq => (Mkt.mem_there.mp (hot q hq)).1
  have li := srt_le hi fun q hq => (Mkt.mem_there.mp (hit q hq)).1
  repeat trivial
  refine call0 (by simp) ⟨M, tN outs, outs, rfl, rfl, ok, .tup _, ho, fun q hq => (Mkt.mem_there.mp (hot q hq)).1, fun _ => ?_⟩
  let f (p : Nat) : Int := (k : Int) - (M.cnt outs p : Int)
  refine rs_seq (rs_set (re_lcW false (gon_tup2 (by simp) (by simp)) (rw_enum ?_)))
  repeat trivial
  refine ⟨_, _, rfl, .tup _, by rw [enumD_length, nsD_len, List.length_replicate]; omega, fun i S' acc => S' = [] ∧ acc = ((List.range i).map f).map iD, ⟨rfl, rfl⟩, ?_, ?_⟩
  · rintro i e S' acc he _ ⟨rfl, rfl⟩
    obtain ⟨dd, hdd, rfl⟩ := enumD_get he
    obtain ⟨v, hv, rfl⟩ := nsD_get hdd
    have hin : i < M.n := by
      have := (List.getElem?_eq_some_iff.mp hv).1
      simpa using this
    have hvk : v = k := by
      rw [List.getElem?_replicate, if_pos hin] at hv
      exact (Option.some.inj hv).symm
    subst hvk
    refine rg_tup rfl (rgs_cons (rgs_cons (rgs_nil ?_)))
    refine rt_yes (iteY rfl ?_)
    repeat trivial
    refine od_ixN (.tup _) (cov_getD hin) ?_
    repeat trivial
    refine ⟨rfl, ?_⟩
    rw [List.range_succ, List.map_append, List.map_append]; rfl
  rintro S' acc _ ⟨rfl, rfl⟩
  have e0 : (enumD (nsD (List.replicate M.n k))).length = M.n := by rw [enumD_length, nsD_len, List.length_replicate]
  rw [if_neg Bool.false_ne_true, e0]
  repeat trivial
  refine cb_minL (ns := (List.range M.n).map f) (.im _) (by simp; omega) fun m hm hmin => ?_
  repeat trivial
  refine iteC (fun h => ?_) fun h => ?_
  · have hneg := of_decide_eq_true h
    have hno : ∀ l, ¬ M.With k outs ins l := by
      rintro l ⟨hs, h1, _⟩
      obtain ⟨p, hp, rfl⟩ := List.mem_map.mp hm
      have hp := List.mem_range.mp hp
      have h2 := cov_rep.mp hs.c p hp
      have h3 := cnt_sub M p (srt_nodup ho) h1
      have : (k : Int) - (M.cnt outs p : Int) < 0 := hneg
      omega
    repeat trivial
    exact end_im (hR2 hno)
  have hpos := of_decide_eq_false h
  have hle : ∀ p, p < M.n → M.cnt outs p ≤ k := fun p hp => by
    have : m ≤ f p := hmin _ (List.mem_map.mpr ⟨p, List.mem_range.mpr hp, rfl⟩)
    have : m ≤ (k : Int) - (M.cnt outs p : Int) := this
    omega
  let row : List Nat := (List.range M.n).map fun p => k - M.cnt outs p
  have erow : ((List.range M.n).map f).map iD = nsD row := by
    rw [List.map_map]
    show _ = ((List.range M.n).map _).map _
    rw [List.map_map]
    refine List.map_congr_left fun p hp => ?_
    have := hle p (List.mem_range.mp hp)
    show iD ((k : Int) - (M.cnt outs p : Int)) = iN (k - M.cnt outs p)
    have e : (k : Int) - (M.cnt outs p : Int) = ((k - M.cnt outs p : Nat) : Int) := by omega
    rw [e]
  rw [erow]
  have hrow : row.length = M.n := by show (List.map _ _).length = _; simp
  have rowget : ∀ p, p < M.n → row.getD p 0 = k - M.cnt outs p := fun p hp => by
    show ((List.range M.n).map _).getD p 0 = _
    rw [List.getD_eq_getElem?_getD, List.getElem?_map, List.getElem?_range hp]; rfl
  trivial
  trivial
  trivial
  trivial
  refine ra_cons (re_meth (re_var rfl (by intro h; cases h) ⟨_, _, .im _ _ _, by unfold fldN; decide, ?_⟩))
  repeat trivial
  refine call0 (by simp) ⟨_, _, outs, ins, rfl, rfl, .tup _, .tup _, by omega, by omega, fun u su hu _ => ?_⟩
  repeat trivial
  refine call0 (by simp) ⟨M, _, u, rfl, rfl, ok, .tup _, su, fun x hx => ((hu x).mp hx).elim (fun z => (Mkt.mem_there.mp (hot x z)).1) fun z => (Mkt.mem_there.mp (hit x z)).1, fun g sg hg okg _ => ?_⟩
  repeat trivial
  have thM : ∀ x, x ∈ (Mkt.mk M.n M.runs g).there ↔ x ∈ M.there ∧ x ∉ outs ∧ x ∉ ins := fun x => by
    rw [Mkt.mem_there, Mkt.mem_there]
    show x < M.runs.length ∧ x ∉ g ↔ _
    rw [hg, hu]
    constructor
    · rintro ⟨h1, h2⟩
      exact ⟨⟨h1, fun z => h2 (.inl z)⟩, fun z => h2 (.inr (.inl z)), fun z => h2 (.inr (.inr z))⟩
    · rintro ⟨⟨h1, h2⟩, h3, h4⟩
      exact ⟨h1, fun z => z.elim h2 fun z => z.elim h3 h4⟩
  refine call0 (by simp) ⟨⟨M.n, M.runs, g⟩, .lst (nsD row), row, rfl, rfl, okg, .seq (.lst _) hrow (fun m => by intro e; cases e), fun fl hfl _ => ?_, fun hno _ => ?_⟩
  · repeat trivial
    refine od_isNo (not_nD (by intro h; cases h)) ⟨_, rfl, iteN rfl ?_⟩
    repeat trivial
    have fll := hfl.len
    have fll' : fl.length ≤ M.runs.length := fll
    refine call0 (by simp) ⟨_, _, fl, outs, rfl, rfl, .tup _, .tup _, by omega, by omega, fun l sl hl _ => ?_⟩
    refine end_im (hR1 l ⟨⟨sl, fun q hq => ((hl q).mp hq).elim (fun z => ((thM q).mp (hfl.t q z)).1) (hot q), ?_⟩, fun q hq => (hl q).mpr (.inr hq), fun q hq hql => ?_⟩)
    · refine cov_rep.mpr fun p hp => ?_
      rw [cnt_union M (srt_nodup sl) (srt_nodup hfl.s) (srt_nodup ho) (fun x hx => ((thM x).mp (hfl.t x hx)).2.1) hl p]
      have h1 : (Mkt.mk M.n M.runs g).cov fl = row := hfl.c
      have h2 := cov_get (M := ⟨M.n, M.runs, g⟩) (l := fl) hp
      rw [h1, rowget p hp] at h2
      have h3 : M.cnt fl p = k - M.cnt outs p := h2.symm
      have := hle p hp
      omega
    · rcases (hl q).mp hql with z | z
      · exact ((thM q).mp (hfl.t q z)).2.2 hq
      · exact hoi q z hq
  · repeat trivial
    refine od_isNo0 ⟨_, rfl, iteY rfl ?_⟩
    repeat trivial
    refine end_im (hR2 fun l ⟨hs, h1, h2⟩ => hno (l.filter (· ∉ outs)) ⟨srt_filter hs.s, fun q hq => ?_, ?_⟩)
    · have hq' := List.mem_filter.mp hq
      have hqo : q ∉ outs := by simpa using hq'.2
      exact (thM q).mpr ⟨hs.t q hq'.1, hqo, fun z => h2 q z hq'.1⟩
    · refine List.ext_getElem? fun p => ?_
      have hl' : ((Mkt.mk M.n M.runs g).cov (l.filter (· ∉ outs))).length = M.n := cov_len
      by_cases hp : p < M.n
      · have h3 := cnt_union M (srt_nodup hs.s) (srt_nodup (srt_filter (p := fun x => decide (x ∉ outs)) hs.s)) (srt_nodup ho) (fun x hx => by have := (List.mem_filter.mp hx).2; simpa using this) (fun x => by
          rw [List.mem_filter]
          constructor
          · intro hx
            by_cases e : x ∈ outs
            · exact .inr e
            · exact .inl ⟨hx, by simpa using e⟩
          · rintro (z | z)
            · exact z.1
            · exact h1 x z) p
        rw [cov_rep.mp hs.c p hp] at h3
        have h4 := cov_get (M := ⟨M.n, M.runs, g⟩) (l := l.filter (· ∉ outs)) hp
        have h5 : (Mkt.mk M.n M.runs g).cnt (l.filter (· ∉ outs)) p = k - M.cnt outs p := by
          show M.cnt _ p = _
          have : M.cnt (l.filter (· ∉ outs)) p = M.cnt (List.filter (fun x => decide (x ∉ outs)) l) p := rfl
          omega
        rw [h5, ← rowget p hp] at h4
        rw [List.getD_eq_getElem?_getD, List.getD_eq_getElem?_getD, List.getElem?_eq_getElem (by rw [hl']; exact hp), List.getElem?_eq_getElem (by rw [hrow]; exact hp)] at h4
        rw [List.getElem?_eq_getElem (by rw [hl']; exact hp), List.getElem?_eq_getElem (by rw [hrow]; exact hp)]
        exact congrArg some h4
      · rw [List.getElem?_eq_none (by rw [hl']; omega), List.getElem?_eq_none (by rw [hrow]; omega)]
end
end K78

set_option Elab.async false
set_option linter.all false
set_option maxRecDepth 100000
set_option maxHeartbeats 4000000
namespace K78
open PySem PySem.Spec PyProof.Rows L2 Dt
local macro_rules | `(tactic| trivial) => `(tactic| first
  | with_reducible refine re_many (‹Tx _ _›) ?_ | with_reducible refine re_all (‹Tx _ _›) ?_ | with_reducible refine re_size (‹Tx _ _›) ?_ | with_reducible refine re_runs (‹Tx _ _›) ?_ | with_reducible refine re_gone (‹Tx _ _›) ?_ | with_reducible refine re_KIND (‹Tx _ _›) ?_ | with_reducible refine re_there (‹Tx _ _›) ?_
  | with_reducible refine rs_seq ?_ | with_reducible refine rs_set ?_ | with_reducible refine rs_asg ?_ | with_reducible refine rs_ret ?_ | with_reducible refine rs_retN ?_ | with_reducible refine rs_drop ?_ | with_reducible refine rs_next ?_ | with_reducible refine rs_break ?_ | with_reducible refine rs_cont ?_ | with_reducible refine rs_if ?_
  | with_reducible refine re_var (by with_unfolding_all rfl) (by with_unfolding_all exact fun h => nomatch h) ?_ | with_reducible refine re_c ?_ | with_reducible refine ra_nil ?_ | with_reducible refine ra_cons ?_ | with_reducible refine re_cb ?_ | with_reducible refine re_call ?_ | with_reducible refine re_op ?_ | with_reducible refine od_int ?_
  | with_reducible refine re_andV ?_ | with_reducible refine re_orV ?_ | with_reducible refine re_notV ?_ | with_reducible refine re_if ?_ | with_reducible refine rt_test ?_ | with_reducible refine rt_B ?_ | with_reducible refine rt_not ?_ | with_reducible refine rt_and ?_ | with_reducible refine rt_or ?_ | with_reducible refine rt_yes ?_
  | with_reducible refine re_tup ?_ | with_reducible refine re_neg ?_ | refine ⟨_, rfl, ?_⟩ | refine ⟨‹Mkt.Ok _›, ?_⟩)
/-- a way with the part among its outs may be gone back in some stock -/
def Mkt.Res (M : Mkt) (k part : Nat) : Prop := ∃ x, M.Way 0 M.n x ∧ part ∈ x.1 ∧ ∃ l, M.With k x.1 x.2 l
/-- a growing way is lacking: a way back is there -/
def Mkt.GB (M : Mkt) (k : Nat) : Prop := ∃ part, part ∈ M.there ∧ M.Res k part
theorem way_parts {M : Mkt} (ok : M.Ok) {a b : Nat} (ha : a ≤ M.n) {x : List Nat × List Nat} (h : M.Way a b x) : srt x.1 ∧ srt x.2 ∧ (∀ q ∈ x.1, q ∈ M.there) ∧ (∀ q ∈ x.2, q ∈ M.there) ∧ ∀ q ∈ x.1, q ∉ x.2 := by
  obtain ⟨s, hr, _, hk⟩ := h
  have so := hr.ok ok (ok_start ha)
  have nd := List.nodup_append.mp so.qd
  exact ⟨hk.1, hk.2.1, fun q hq => (so.q q (List.mem_append_left _ ((hk.2.2.1 q).mp hq))).1, fun q hq => (so.q q (List.mem_append_right _ ((hk.2.2.2 q).mp hq))).1, fun q h1 h2 => nd.2.2 q ((hk.2.2.1 q).mp h1) q ((hk.2.2.2 q).mp h2) rfl⟩
section
variable {c : Cn} {mg : Str → Option Value} {base : Heap} (T : Tx c.K mg)
variable {G : SG} {S : SC} {Q : SC → Sl → Prop} {ta : TE}
def W_check_stocks : Wp := fun A S R => ∃ (M : Mkt) (row : List Nat), A = [.im (mk T M), .im (tN row)] ∧ S = [] ∧ M.Ok ∧ (∃ l, M.Fit row l) ∧ R [] (.im nD)
theorem len_check_stocks : ∀ A S R, W_check_stocks T A S R → A.length = 2 := by rintro A S R ⟨M, k, rfl, _⟩; rfl
theorem ok_check_stocks : FnOk c.P c.w c.K mg base CX0 7 (T.f "_check_stocks") (T.fd "_check_stocks") ["market", "row"] (spD c (W_check_stocks T)) := by
  refine mk_u_check_stocks T (ok_has_stock T) (ok_there T) (len_check_stocks T) ?_
  rintro A S R ⟨M, row, rfl, rfl, ok, ⟨l, hl⟩, hR⟩
  unfold t_u_check_stocks
  have rl := ok.rl
  have thl := M.there_len
  have hrow : row.length = M.n := by rw [← hl.c, cov_len]
  repeat trivial
  refine call0 (by simp) ⟨M, tN row, row, rfl, rfl, ok, .row hrow, fun _ _ _ => ?_, fun hn => absurd hl (hn l)⟩
  refine ⟨true, rfl, iteN rfl ?_⟩
  repeat trivial
  refine cb_len (.tupF _) ?_
  repeat trivial
  refine iteN (decide_eq_false (by rw [nsD_len]; omega)) ?_
  exact rs_next (end_no hR)
def W_walk_over : Wp := fun A S R => ∃ (M : Mkt) (k part : Nat), A = [.im (mk T M), .im (iN k), .im (.tup [iN 0, iN M.n]), .im (iN part), .im (iD (-1))] ∧ S = [] ∧ M.Ok ∧ part ∈ M.there ∧ (∃ l, M.Stk k l) ∧
  (M.Res k part → ∀ a b e, R [] (.im (.tup [a, b, e]))) ∧ (¬ M.Res k part → R [] (.im nD))
theorem len_walk_over : ∀ A S R, W_walk_over T A S R → A.length = 5 := by rintro A S R ⟨M, k, p, rfl, _⟩; rfl
theorem ok_walk_over (GJ : FJ T base) : FnOk c.P c.w c.K mg base CX0 9 (T.f "walk_over") (T.fd "walk_over") ["market", "demand", "run", "part", "sign"] (spD c (W_walk_over T)) := by
  refine mk_walk_over T (ok_check_join T) (ok_demand_of T) (ok_points_of T) (ok_part_there T) (ok_is_int T) (ok_check_stocks T) (ok_moves T) (ok_both_ways T) (ok_stock_with T GJ) (len_walk_over T) ?_
  rintro A S R ⟨M, k, part, rfl, rfl, ok, hp, ⟨l0, hl0⟩, hR1, hR2⟩
  unfold t_walk_over
  have n1 := ok.n1
  have n8 := ok.n8
  repeat trivial
  refine call0 (by simp) ⟨M, rfl, rfl, fun _ => ?_⟩
  repeat trivial
  refine call0 (by simp) ⟨M, _, _, rfl, rfl, ok, .num k, fun _ => ?_⟩
  repeat trivial
  refine call0 (by simp) ⟨M, 0, M.n, rfl, rfl, by omega, by omega, fun _ => ?_⟩
  refine rg_tup rfl (rgs_cons (rgs_cons (rgs_nil ?_)))
  repeat trivial
  refine Dt.od_eq (by rfl) ?_
  refine ⟨_, rfl, iteN ?_ ?_⟩
  · refine decide_eq_false fun e => ?_
    injection e with e
    omega
  repeat trivial
  refine call0 (by simp) ⟨M, part, rfl, rfl, hp, fun _ => ?_⟩
  repeat trivial
  refine isI ⟨_, rfl, iteN rfl ?_⟩
  repeat trivial
  refine ⟨[iD (-1), iD 1], rfl, by simp, ?_⟩
  refine od_inI (ns := [-1, 1]) (.tup _) ?_
  refine ⟨false, rfl, iteN rfl ?_⟩
  repeat trivial
  refine call0 (by simp) ⟨M, _, rfl, rfl, ok, ⟨l0, hl0⟩, fun _ => ?_⟩
  trivial
  refine rs_for (rw_list ?_)
  repeat trivial
  refine call0 (by simp) ⟨M, rfl, rfl, ok, fun _ => ?_⟩
  repeat trivial
  refine call0 (by simp) ⟨M, 0, M.n, rfl, rfl, ok, by omega, by omega, fun m hm hmz _ => ?_⟩
  refine ⟨_, .inl rfl, fun i G S => i ≤ m.length ∧ (∃ s8 s9 s10, G = [.im (mk T M), .im (iN k), .im (.tup [iN 0, iN M.n]), .im (iN part), .im (iD (-1)), .im (tN (List.replicate M.n k)), .im (iN 0), .im (iN M.n), s8, s9, s10]) ∧ S = [] ∧ ∀ j x, j < i → m[j]? = some x → part ∈ x.1 → ∀ l, ¬ M.With k x.1 x.2 l, ⟨Nat.zero_le _, ⟨_, _, _, rfl⟩, rfl, fun j x h => absurd h (by omega)⟩, ?_, ?_⟩
  · rintro i e G' S' he ⟨hi, ⟨s8, s9, s10, rfl⟩, rfl, hdone⟩
    rw [List.getElem?_map] at he
    cases hx : m[i]? with
    | none => rw [hx] at he; cases he
    | some x =>
    rw [hx] at he
    cases he
    have hil : i < m.length := (List.getElem?_eq_some_iff.mp hx).1
    have hway := (hm x).mp (List.mem_of_getElem? hx)
    obtain ⟨w1, w2, w3, w4, w5⟩ := way_parts ok (by omega) hway
    have next : ∀ (Po : Prop), True → (part ∈ x.1 → ∀ l, ¬ M.With k x.1 x.2 l) → ∀ j y, j < i + 1 → m[j]? = some y → part ∈ y.1 → ∀ l, ¬ M.With k y.1 y.2 l := fun _ _ h j y hj hy => by
      by_cases e : j = i
      · subst e
        rw [hx] at hy; cases hy
        exact h
      · exact hdone j y (by omega) hy
    refine rg_tup rfl (rgs_cons (rgs_cons (rgs_nil ?_)))
    repeat trivial
    refine Dt.od_eq (by rfl) ?_
    refine ⟨true, by rw [decide_eq_true rfl], iteY rfl ?_⟩
    trivial
    refine od_inI (ns := x.1.map fun n : Nat => (n : Int)) (by rw [← nsD_map]; exact .tup _) ?_
    rw [if_neg Bool.false_ne_true]
    refine ⟨_, rfl, iteC (fun h => ?_) fun h => ?_⟩
    · have hpx : part ∈ x.1 := by
        obtain ⟨n, hn, e⟩ := List.mem_map.mp (of_decide_eq_true h)
        have : n = part := by omega
        exact this ▸ hn
      repeat trivial
      refine call0 (by simp) ⟨M, k, x.1, x.2, rfl, rfl, ok, w1, w2, w3, w4, w5, fun l hl _ => ?_, fun hno _ => ?_⟩
      · repeat trivial
        refine od_notN (not_nD (by intro h; cases h)) ⟨_, rfl, iteY rfl ?_⟩
        repeat trivial
        exact ⟨[tN l, tN x.1, tN x.2], rfl, by simp, end_im (hR1 ⟨x, hway, hpx, l, hl⟩ _ _ _)⟩
      · repeat trivial
        refine od_notN0 ⟨_, rfl, iteN rfl ?_⟩
        exact rs_next ⟨hil, ⟨_, _, _, rfl⟩, rfl, next True True.intro fun _ => hno⟩
    · have hpx : part ∉ x.1 := fun z => of_decide_eq_false h (List.mem_map.mpr ⟨part, z, rfl⟩)
      exact rs_next ⟨hil, ⟨_, _, _, rfl⟩, rfl, next True True.intro fun z => absurd z hpx⟩
  · rintro G' S' ⟨_, ⟨s8, s9, s10, rfl⟩, rfl, hdone⟩
    rw [List.length_map] at hdone
    repeat trivial
    refine end_im (hR2 fun ⟨x, hway, hpx, l, hl⟩ => ?_)
    obtain ⟨j, hj⟩ := List.mem_iff_getElem?.mp ((hm x).mpr hway)
    exact hdone j x (List.getElem?_eq_some_iff.mp hj).1 hj hpx l hl
def W_check_size : Wp := fun A S R => ∃ (M : Mkt) (k s : Nat), A = [.im (mk T M), .im (iN k)] ∧ S = [] ∧ M.Ok ∧ k < s ∧ (∀ s', M.Str s' → s' = s) ∧ R [] (.im (iN k))
theorem len_check_size : ∀ A S R, W_check_size T A S R → A.length = 2 := by rintro A S R ⟨M, k, s, rfl, _⟩; rfl
theorem ok_check_size : FnOk c.P c.w c.K mg base CX0 6 (T.f "check_size") (T.fd "check_size") ["market", "number"] (spD c (W_check_size T)) := by
  refine mk_check_size T (ok_check_join T) (ok_check_number T) (ok_strength T) (len_check_size T) ?_
  rintro A S R ⟨M, k, s, rfl, rfl, ok, hk, hs, hR⟩
  unfold t_check_size
  repeat trivial
  refine call0 (by simp) ⟨M, rfl, rfl, fun _ => ?_⟩
  repeat trivial
  refine cn (by omega) (.inl rfl) ?_
  repeat trivial
  refine call0 (by simp) ⟨M, rfl, rfl, ok, fun s' hs' _ => ?_⟩
  have := hs s' hs'
  subst this
  repeat trivial
  refine iteN (decide_eq_false (by omega)) ?_
  repeat trivial
  exact end_im hR
def W_going_back : Wp := fun A S R => ∃ (M : Mkt) (k s : Nat), A = [.im (mk T M), .im (iN k)] ∧ S = [] ∧ M.Ok ∧ k < s ∧ (∀ s', M.Str s' → s' = s) ∧ (∃ l, M.Stk k l) ∧ (M.GB k → ∀ a b e, R [] (.im (.tup [a, b, e]))) ∧ (¬ M.GB k → R [] (.im nD))
theorem len_going_back : ∀ A S R, W_going_back T A S R → A.length = 2 := by rintro A S R ⟨M, k, s, rfl, _⟩; rfl
theorem ok_going_back (GJ : FJ T base) : FnOk c.P c.w c.K mg base CX0 10 (T.f "going_back") (T.fd "going_back") ["market", "number"] (spD c (W_going_back T)) := by
  refine mk_going_back T (ok_check_size T) (ok_check_few T) (ok_there T) (ok_walk_over T GJ) (len_going_back T) ?_
  rintro A S R ⟨M, k, s, rfl, rfl, ok, hk, hs, hl, hR1, hR2⟩
  unfold t_going_back
  repeat trivial
  refine call0 (by simp) ⟨M, k, s, rfl, rfl, ok, hk, hs, fun _ => ?_⟩
  repeat trivial
  refine call0 (by simp) ⟨M, rfl, rfl, ok, fun _ => ?_⟩
  trivial
  refine rs_for (rw_tup (re_there T ?_))
  repeat trivial
  refine ⟨_, .inr rfl, fun i G S => i ≤ M.there.length ∧ (∃ s2 s3, G = [.im (mk T M), .im (iN k), s2, s3]) ∧ S = [] ∧ ∀ j q, j < i → M.there[j]? = some q → ¬ M.Res k q, ⟨Nat.zero_le _, ⟨_, _, rfl⟩, rfl, fun j q h => absurd h (by omega)⟩, ?_, ?_⟩
  · rintro i e G' S' he ⟨hi, ⟨s2, s3, rfl⟩, rfl, hdone⟩
    obtain ⟨q, hq, rfl⟩ := nsD_get he
    have hil : i < M.there.length := (List.getElem?_eq_some_iff.mp hq).1
    have hqt := List.mem_of_getElem? hq
    refine rg_name ?_
    repeat trivial
    refine ⟨[iN 0, iN M.n], rfl, by simp, ?_⟩
    repeat trivial
    refine call0 (by simp) ⟨M, k, q, rfl, rfl, ok, hqt, hl, fun hres a b e' _ => ?_, fun hres _ => ?_⟩
    · repeat trivial
      refine od_notN (not_nD (by intro h; cases h)) ⟨_, rfl, iteY rfl ?_⟩
      repeat trivial
      exact end_im (hR1 ⟨q, hqt, hres⟩ a b e')
    · repeat trivial
      refine od_notN0 ⟨_, rfl, iteN rfl ?_⟩
      refine rs_next ⟨hil, ⟨_, _, rfl⟩, rfl, fun j q' hj hq' => ?_⟩
      by_cases e : j = i
      · subst e
        rw [hq] at hq'; cases hq'
        exact hres
      · exact hdone j q' (by omega) hq'
  · rintro G' S' ⟨_, ⟨s2, s3, rfl⟩, rfl, hdone⟩
    rw [nsD_len] at hdone
    repeat trivial
    refine end_im (hR2 fun ⟨q, hqt, hres⟩ => ?_)
    obtain ⟨j, hj⟩ := List.mem_iff_getElem?.mp hqt
    exact hdone j q (List.getElem?_eq_some_iff.mp hj).1 hj hres
def W_grows_at : Wp := fun A S R => ∃ (M : Mkt) (k s : Nat), A = [.im (mk T M), .im (iN k)] ∧ S = [] ∧ M.Ok ∧ k < s ∧ (∀ s', M.Str s' → s' = s) ∧ (∃ l, M.Stk k l) ∧ (M.GB k → R [] (.im (bD false))) ∧ (¬ M.GB k → R [] (.im (bD true)))
theorem len_grows_at : ∀ A S R, W_grows_at T A S R → A.length = 2 := by rintro A S R ⟨M, k, s, rfl, _⟩; rfl
theorem ok_grows_at (GJ : FJ T base) : FnOk c.P c.w c.K mg base CX0 11 (T.f "grows_at") (T.fd "grows_at") ["market", "number"] (spD c (W_grows_at T)) := by
  refine mk_grows_at T (ok_going_back T GJ) (len_grows_at T) ?_
  rintro A S R ⟨M, k, s, rfl, rfl, ok, hk, hs, hl, hR1, hR2⟩
  unfold t_grows_at
  repeat trivial
  refine call0 (by simp) ⟨M, k, s, rfl, rfl, ok, hk, hs, hl, fun hg a b e _ => ?_, fun hg _ => ?_⟩
  · repeat trivial
    exact od_isNo (not_nD (by intro h; cases h)) (end_im (hR1 hg))
  · repeat trivial
    exact od_isNo0 (end_im (hR2 hg))
def W_grows : Wp := fun A S R => ∃ (M : Mkt) (s : Nat), A = [.im (mk T M)] ∧ S = [] ∧ M.Ok ∧ M.Str s ∧ (∀ s', M.Str s' → s' = s) ∧ (1 < s → ∃ l, M.Stk 1 l) ∧ (s ≤ 1 → R [] (.im (bD true))) ∧ (1 < s → (M.GB 1 → R [] (.im (bD false))) ∧ (¬ M.GB 1 → R [] (.im (bD true))))
theorem len_grows : ∀ A S R, W_grows T A S R → A.length = 1 := by rintro A S R ⟨M, s, rfl, _⟩; rfl
theorem ok_grows (GJ : FJ T base) : FnOk c.P c.w c.K mg base CX0 12 (T.f "grows") (T.fd "grows") ["market"] (spD c (W_grows T)) := by
  refine mk_grows T (ok_check_join T) (ok_check_few T) (ok_strength T) (ok_grows_at T GJ) (len_grows T) ?_
  rintro A S R ⟨M, s, rfl, rfl, ok, hstr, hs, hl, hR1, hR2⟩
  unfold t_grows
  repeat trivial
  refine call0 (by simp) ⟨M, rfl, rfl, fun _ => ?_⟩
  repeat trivial
  refine call0 (by simp) ⟨M, rfl, rfl, ok, fun _ => ?_⟩
  repeat trivial
  refine call0 (by simp) ⟨M, rfl, rfl, ok, fun s' hs' _ => ?_⟩
  have := hs s' hs'
  subst this
  repeat trivial
  refine iteC (fun h => ?_) fun h => ?_
  · have h1 := of_decide_eq_true h
    repeat trivial
    exact end_im (hR1 (by omega))
  · have h1 := of_decide_eq_false h
    have h2 : 1 < s' := by omega
    repeat trivial
    exact call0 (by simp) ⟨M, 1, s', rfl, rfl, ok, h2, hs, hl h2, fun hg _ => end_im ((hR2 h2).1 hg), fun hg _ => end_im ((hR2 h2).2 hg)⟩
/-- a stock left in the larger one outside the other -/
def Mkt.Left (M : Mkt) (r : Nat) (a b l : List Nat) : Prop := srt l ∧ (∀ q ∈ l, q ∈ b ∧ q ∉ a) ∧ M.cov l = List.replicate M.n r
def W_stock_left : Wp := fun A S R => ∃ (M : Mkt) (i r : Nat) (a b : List Nat), A = [.im (mk T M), .im (iN i), .im (tN a), .im (iN r), .im (tN b)] ∧ S = [] ∧ M.Ok ∧ M.Stk i a ∧ M.Stk (i + r) b ∧ (∀ l, M.Left r a b l → R [] (.im (tN l))) ∧ ((∀ l, ¬ M.Left r a b l) → R [] (.im nD))
theorem len_stock_left : ∀ A S R, W_stock_left T A S R → A.length = 5 := by rintro A S R ⟨M, i, r, a, b, rfl, _⟩; rfl
theorem ok_stock_left (GJ : FJ T base) : FnOk c.P c.w c.K mg base CX0 8 (T.f "stock_left") (T.fd "stock_left") ["market", "number", "stock", "more", "other"] (spD c (W_stock_left T)) := by
  refine mk_stock_left T (ok_check_join T) (ok_check_number T) (ok_set_of T) (ok_check_stock T) (ok_some_stock T) (ok_keep T GJ) (ok_minus T) (len_stock_left T) ?_
  rintro A S R ⟨M, i, r, a, b, rfl, rfl, ok, ha, hb, hR1, hR2⟩
  unfold t_stock_left
  have rl := ok.rl
  have la := ha.len
  have lb := hb.len
  repeat trivial
  refine call0 (by simp) ⟨M, rfl, rfl, fun _ => ?_⟩
  repeat trivial
  refine cn (by omega) (.inl rfl) ?_
  repeat trivial
  refine call0 (by simp) ⟨_, _, a, rfl, rfl, .tup _, ha.s, ha.lt, by omega, fun _ => ?_⟩
  repeat trivial
  refine cn (by omega) (.inl rfl) ?_
  repeat trivial
  refine call0 (by simp) ⟨_, _, b, rfl, rfl, .tup _, hb.s, hb.lt, by omega, fun _ => ?_⟩
  repeat trivial
  refine call0 (by simp) ⟨M, _, _, a, rfl, rfl, ok, .num i, ha, fun _ => ?_⟩
  repeat trivial
  refine call0 (by simp) ⟨M, iN (i + r), _, b, by simp [iN], rfl, ok, .num (i + r), hb, fun _ => ?_⟩
  trivial
  trivial
  refine ra_cons (re_meth (re_var rfl (by intro h; cases h) ⟨_, _, .im _ _ _, by unfold fldN; decide, ?_⟩))
  repeat trivial
  refine call0 (by simp) ⟨_, _, b, a, rfl, rfl, .tup _, .tup _, by omega, by omega, fun _ => ?_⟩
  repeat trivial
  have hf : ∀ x ∈ b.filter (· ∉ a), x < M.runs.length := fun x hx => hb.lt x (List.mem_filter.mp hx).1
  refine call0 (by simp) ⟨M, _, b.filter (· ∉ a), rfl, rfl, ok, .tupF _, srt_filter hb.s, hf, fun g sg hg okg _ => ?_⟩
  repeat trivial
  have thM : ∀ x, x ∈ (Mkt.mk M.n M.runs g).there ↔ x ∈ b ∧ x ∉ a := fun x => by
    rw [Mkt.mem_there]
    show x < M.runs.length ∧ x ∉ g ↔ _
    rw [hg, List.mem_filter]
    constructor
    · rintro ⟨h1, h2⟩
      by_cases e : x ∈ b ∧ x ∉ a
      · exact e
      · exact absurd (.inr ⟨h1, fun z => e ⟨z.1, by simpa using z.2⟩⟩) h2
    · rintro ⟨h1, h2⟩
      refine ⟨hb.lt x h1, fun z => z.elim (Mkt.mem_there.mp (hb.t x h1)).2 fun z => z.2 ⟨h1, by simpa using h2⟩⟩
  have iff : ∀ l, (Mkt.mk M.n M.runs g).Fit (List.replicate M.n r) l ↔ M.Left r a b l := fun l =>
    ⟨fun h => ⟨h.s, fun q hq => (thM q).mp (h.t q hq), h.c⟩, fun h => ⟨h.1, fun q hq => (thM q).mpr (h.2.1 q hq), h.2.2⟩⟩
  exact call0 (by simp) ⟨⟨M.n, M.runs, g⟩, _, List.replicate M.n r, rfl, rfl, okg, .num r, fun l hl _ => end_im (hR1 l ((iff l).mp hl)), fun hn _ => end_im (hR2 fun l hl => hn l ((iff l).mpr hl))⟩
end
end K78

set_option Elab.async false
set_option linter.all false
set_option maxRecDepth 100000
set_option maxHeartbeats 4000000
namespace K78
open PySem PySem.Spec PyProof.Rows L2 Dt
local macro_rules | `(tactic| trivial) => `(tactic| first
  | with_reducible refine re_many (‹Tx _ _›) ?_ | with_reducible refine re_all (‹Tx _ _›) ?_ | with_reducible refine re_size (‹Tx _ _›) ?_ | with_reducible refine re_runs (‹Tx _ _›) ?_ | with_reducible refine re_gone (‹Tx _ _›) ?_ | with_reducible refine re_KIND (‹Tx _ _›) ?_ | with_reducible refine re_there (‹Tx _ _›) ?_
  | with_reducible refine rs_seq ?_ | with_reducible refine rs_set ?_ | with_reducible refine rs_asg ?_ | with_reducible refine rs_ret ?_ | with_reducible refine rs_retN ?_ | with_reducible refine rs_drop ?_ | with_reducible refine rs_next ?_ | with_reducible refine rs_break ?_ | with_reducible refine rs_cont ?_ | with_reducible refine rs_if ?_
  | with_reducible refine re_var (by with_unfolding_all rfl) (by with_unfolding_all exact fun h => nomatch h) ?_ | with_reducible refine re_c ?_ | with_reducible refine ra_nil ?_ | with_reducible refine ra_cons ?_ | with_reducible refine re_cb ?_ | with_reducible refine re_call ?_ | with_reducible refine re_op ?_ | with_reducible refine od_int ?_
  | with_reducible refine re_andV ?_ | with_reducible refine re_orV ?_ | with_reducible refine re_notV ?_ | with_reducible refine re_if ?_ | with_reducible refine rt_test ?_ | with_reducible refine rt_B ?_ | with_reducible refine rt_not ?_ | with_reducible refine rt_and ?_ | with_reducible refine rt_or ?_ | with_reducible refine rt_yes ?_
  | with_reducible refine re_tup ?_ | with_reducible refine re_neg ?_ | refine ⟨_, rfl, ?_⟩ | refine ⟨‹Mkt.Ok _›, ?_⟩)
/-! ### growing: plain mathematics -/
/-- a flow of a size: parts that are there, the size begins at 0 and ends at n -/
structure Mkt.Fl (M : Mkt) (k : Nat) (X : Nat → Bool) : Prop where
  t : ∀ q, X q = true → q ∈ M.there
  c : ∀ v, v < M.n + 1 → M.bal X v = (if 0 = v then (k : Int) else 0) - (if M.n = v then (k : Int) else 0)
theorem Mkt.Fl.fit {M : Mkt} (ok : M.Ok) {k : Nat} {X : Nat → Bool} (h : M.Fl k X) : M.Stk k (ins M.runs.length X) := fit_ins ok (by simp) h.t fun v hv => by rw [h.c v hv, beg_rep ok.n1 hv]
theorem fl_of {M : Mkt} (ok : M.Ok) {k : Nat} {l : List Nat} (h : M.Stk k l) : M.Fl k (mem l) := ⟨fun q hq => h.t q (of_decide_eq_true hq), fun v hv => by rw [fit_bal ok h v hv, beg_rep ok.n1 hv]⟩
abbrev non : Nat → Bool := fun _ => false
theorem bal_non (M : Mkt) (v : Nat) : M.bal non v = 0 := by
  unfold Mkt.bal
  have : psum (fun q => zb (non q) * M.dl q v) M.runs.length = psum (fun _ => 0) M.runs.length := psum_congr fun q _ => by simp [zb]
  rw [this, psum_zero]
theorem fl_non (M : Mkt) : M.Fl 0 non := ⟨fun q h => (by cases h), fun v _ => by rw [bal_non]; simp⟩
theorem bal_diff {M : Mkt} {X Y : Nat → Bool} (h : ∀ q, Y q = true → X q = true) (v : Nat) : M.bal (fun q => X q && !Y q) v = M.bal X v - M.bal Y v := by
  unfold Mkt.bal
  rw [← psum_sub]
  refine psum_congr fun q _ => ?_
  rw [← Int.sub_mul]
  congr 1
  show zb (X q && !Y q) = zb (X q) - zb (Y q)
  have := h q
  revert this
  generalize X q = x
  generalize Y q = y
  intro h
  cases x <;> cases y <;> simp [zb] at h ⊢
theorem bal_union {M : Mkt} {X Y : Nat → Bool} (h : ∀ q, Y q = true → X q = false) (v : Nat) : M.bal (fun q => X q || Y q) v = M.bal X v + M.bal Y v := by
  unfold Mkt.bal
  rw [← psum_add]
  refine psum_congr fun q _ => ?_
  rw [← Int.add_mul]
  congr 1
  show zb (X q || Y q) = zb (X q) + zb (Y q)
  have := h q
  revert this
  generalize X q = x
  generalize Y q = y
  intro h
  cases x <;> cases y <;> simp [zb] at h ⊢
theorem Mkt.Fl.diff {M : Mkt} {j k : Nat} {X Y : Nat → Bool} (hX : M.Fl (j + k) X) (hY : M.Fl k Y) (h : ∀ q, Y q = true → X q = true) : M.Fl j fun q => X q && !Y q :=
  ⟨fun q hq => hX.t q (by revert hq; cases X q <;> simp), fun v hv => by
    rw [bal_diff h, hX.c v hv, hY.c v hv]
    by_cases h1 : 0 = v <;> by_cases h2 : M.n = v <;> simp [h1, h2] <;> omega⟩
theorem Mkt.Fl.union {M : Mkt} {j k : Nat} {X Y : Nat → Bool} (hX : M.Fl j X) (hY : M.Fl k Y) (h : ∀ q, Y q = true → X q = false) : M.Fl (j + k) fun q => X q || Y q :=
  ⟨fun q hq => by
    cases e : X q with
    | true => exact hX.t q e
    | false => rw [e] at hq; exact hY.t q hq, fun v hv => by
    rw [bal_union h, hX.c v hv, hY.c v hv]
    by_cases h1 : 0 = v <;> by_cases h2 : M.n = v <;> simp [h1, h2] <;> omega⟩
/-- no step of the difference leaves the set -/
theorem Mkt.cut2 {M : Mkt} (ok : M.Ok) {X Y Z : Nat → Bool} (hZ : ∀ q, q < M.runs.length → (X q = false → Y q = true → Z (M.b q) = true → Z (M.e q) = true) ∧ (X q = true → Y q = false → Z (M.e q) = true → Z (M.b q) = true)) :
    psum (fun v => zb (Z v) * (M.bal Y v - M.bal X v)) (M.n + 1) ≤ 0 := by
  have e : psum (fun v => zb (Z v) * (M.bal Y v - M.bal X v)) (M.n + 1) = psum (fun q => (zb (Y q) - zb (X q)) * (zb (Z (M.b q)) - zb (Z (M.e q)))) M.runs.length := by
    have e1 : psum (fun v => zb (Z v) * (M.bal Y v - M.bal X v)) (M.n + 1) = psum (fun v => zb (Z v) * M.bal Y v - zb (Z v) * M.bal X v) (M.n + 1) := psum_congr fun v _ => Int.mul_sub _ _ _
    rw [e1, psum_sub, M.wsum ok Y fun v => zb (Z v), M.wsum ok X fun v => zb (Z v), ← psum_sub]
    exact psum_congr fun q _ => (Int.sub_mul _ _ _).symm
  rw [e, ← psum_zero M.runs.length]
  refine psum_le fun q hq => ?_
  obtain ⟨h1, h2⟩ := hZ q hq
  revert h1 h2
  generalize X q = x
  generalize Y q = y
  generalize Z (M.b q) = z1
  generalize Z (M.e q) = z2
  intro h1 h2
  cases x <;> cases y <;> cases z1 <;> cases z2 <;> simp [zb] <;> first
    | (exact absurd (h1 rfl rfl rfl) (by decide))
    | (exact absurd (h2 rfl rfl rfl) (by decide))
    | decide
theorem cut_val {M : Mkt} {f : Nat → Int} {j : Int} {Z : Nat → Bool} (hf : ∀ v, v < M.n + 1 → f v = (if 0 = v then j else 0) - (if M.n = v then j else 0)) (h0 : Z 0 = true) (hn : Z M.n = false) : psum (fun v => zb (Z v) * f v) (M.n + 1) = j := by
  have e : psum (fun v => zb (Z v) * f v) (M.n + 1) = psum (fun v => (zb (Z v) * j) * (if 0 = v then 1 else 0) - (zb (Z v) * j) * (if M.n = v then 1 else 0)) (M.n + 1) := psum_congr fun v hv => by
    rw [hf v hv, Int.mul_sub]
    congr 1 <;> split <;> simp
  rw [e, psum_sub, psum_at, psum_at, if_pos (by omega), if_pos (by omega), h0, hn]
  simp [zb]
/-- two flows of other sizes: a set with 0 and without n is left by the difference -/
theorem cut_fl {M : Mkt} (ok : M.Ok) {j k : Nat} {X Y Z : Nat → Bool} (hX : M.Fl k X) (hY : M.Fl (j + k) Y) (hj : 0 < j) (h0 : Z 0 = true) (hn : Z M.n = false)
    (hZ : ∀ q, q < M.runs.length → (X q = false → Y q = true → Z (M.b q) = true → Z (M.e q) = true) ∧ (X q = true → Y q = false → Z (M.e q) = true → Z (M.b q) = true)) : False := by
  have h1 := Mkt.cut2 ok hZ
  have h2 := cut_val (M := M) (f := fun v => M.bal Y v - M.bal X v) (j := (j : Int)) (Z := Z) (fun v hv => by
    show M.bal Y v - M.bal X v = _
    rw [hX.c v hv, hY.c v hv]
    by_cases h1 : 0 = v <;> by_cases h2 : M.n = v <;> simp [h1, h2] <;> omega) h0 hn
  rw [h2] at h1
  omega
/-! ### ways -/
theorem Rch.ind {M : Mkt} {last : Nat} {s0 : Wy} {P : Wy → Prop} (h0 : P s0) (hs : ∀ t u, Rch M last s0 t → P t → t.p ≠ last → u ∈ M.kids t → P u) {s : Wy} (h : Rch M last s0 s) : P s := by
  have : ∀ {a b : Wy}, Rch M last a b → Rch M last s0 a → P a → P b := by
    intro a b hab
    induction hab with
    | refl a => exact fun _ h => h
    | step h1 h2 _ ih => exact fun hr hp => ih (hr.snoc h1 h2) (hs _ _ hr hp h1 h2)
  exact this h (.refl _) h0
theorem kid_of {M : Mkt} (ok : M.Ok) {t u : Wy} (h : u ∈ M.kids t) : ∃ w q, q ∈ M.there ∧ w ∉ t.seen ∧ ((M.e q = t.p ∧ M.b q = w ∧ u = ⟨w, t.seen ++ [w], t.outs ++ [q], t.ins⟩) ∨ (M.b q = t.p ∧ M.e q = w ∧ u = ⟨w, t.seen ++ [w], t.outs, t.ins ++ [q]⟩)) := by
  obtain ⟨⟨w, q⟩, hx, hk⟩ := List.mem_filterMap.mp h
  obtain ⟨hq, hor⟩ := adj_mem.mp hx
  have be := ok.be (Mkt.mem_there.mp hq).1
  unfold Mkt.kid at hk
  split at hk
  · cases hk
  rename_i hw
  injection hk with hk
  refine ⟨w, q, hq, hw, ?_⟩
  rcases hor with ⟨h1, h2⟩ | ⟨_, h1, h2⟩
  · refine .inr ⟨h1, h2, ?_⟩
    have : ¬ w < t.p := by omega
    simp only [this, if_false] at hk
    exact hk.symm
  · refine .inl ⟨h1, h2, ?_⟩
    have : w < t.p := by omega
    simp only [this, if_true] at hk
    exact hk.symm
theorem kid_in {M : Mkt} (ok : M.Ok) {t : Wy} {q : Nat} (hq : q ∈ M.there) (hb : M.b q = t.p) (hw : M.e q ∉ t.seen) : Wy.mk (M.e q) (t.seen ++ [M.e q]) t.outs (t.ins ++ [q]) ∈ M.kids t := by
  have be := ok.be (Mkt.mem_there.mp hq).1
  refine List.mem_filterMap.mpr ⟨(M.e q, q), adj_mem.mpr ⟨hq, .inl ⟨hb, rfl⟩⟩, ?_⟩
  unfold Mkt.kid
  have : ¬ M.e q < t.p := by omega
  simp [hw, this]
theorem kid_out {M : Mkt} (ok : M.Ok) {t : Wy} {q : Nat} (hq : q ∈ M.there) (he : M.e q = t.p) (hw : M.b q ∉ t.seen) : Wy.mk (M.b q) (t.seen ++ [M.b q]) (t.outs ++ [q]) t.ins ∈ M.kids t := by
  have be := ok.be (Mkt.mem_there.mp hq).1
  refine List.mem_filterMap.mpr ⟨(M.b q, q), adj_mem.mpr ⟨hq, .inr ⟨by omega, he, rfl⟩⟩, ?_⟩
  unfold Mkt.kid
  have : M.b q < t.p := by omega
  simp [hw, this]
abbrev wy0 : Wy := ⟨0, [0], [], []⟩
/-- a way to each point seen -/
theorem seen_pre {M : Mkt} (ok : M.Ok) {s : Wy} (h : Rch M M.n wy0 s) : ∀ v ∈ s.seen, ∃ s', Rch M M.n wy0 s' ∧ s'.p = v ∧ (∀ q ∈ s'.outs, q ∈ s.outs) ∧ ∀ q ∈ s'.ins, q ∈ s.ins := by
  refine Rch.ind (P := fun s => ∀ v ∈ s.seen, ∃ s', Rch M M.n wy0 s' ∧ s'.p = v ∧ (∀ q ∈ s'.outs, q ∈ s.outs) ∧ ∀ q ∈ s'.ins, q ∈ s.ins) ?_ ?_ h
  · intro v hv
    have : v = 0 := by simpa using hv
    subst this
    exact ⟨wy0, .refl _, rfl, fun _ h => h, fun _ h => h⟩
  · intro t u hr ih hp hk v hv
    obtain ⟨w, q, hq, hw, ⟨h1, h2, rfl⟩ | ⟨h1, h2, rfl⟩⟩ := kid_of ok hk
    · rcases List.mem_append.mp hv with z | z
      · obtain ⟨s', a, b, c, d⟩ := ih v z
        exact ⟨s', a, b, fun x hx => List.mem_append_left _ (c x hx), d⟩
      · have : v = w := by simpa using z
        subst this
        exact ⟨_, hr.snoc hp hk, rfl, fun _ h => h, fun _ h => h⟩
    · rcases List.mem_append.mp hv with z | z
      · obtain ⟨s', a, b, c, d⟩ := ih v z
        exact ⟨s', a, b, c, fun x hx => List.mem_append_left _ (d x hx)⟩
      · have : v = w := by simpa using z
        subst this
        exact ⟨_, hr.snoc hp hk, rfl, fun _ h => h, fun _ h => h⟩
/-- a way within the difference of two flows -/
theorem way_in {M : Mkt} (ok : M.Ok) {j k : Nat} {X Y : Nat → Bool} (hX : M.Fl k X) (hY : M.Fl (j + k) Y) (hj : 0 < j) :
    ∃ s, Rch M M.n wy0 s ∧ s.p = M.n ∧ (∀ q ∈ s.outs, X q = true ∧ Y q = false) ∧ ∀ q ∈ s.ins, X q = false ∧ Y q = true := by
  let Rea : Nat → Prop := fun v => ∃ s, Rch M M.n wy0 s ∧ s.p = v ∧ (∀ q ∈ s.outs, X q = true ∧ Y q = false) ∧ ∀ q ∈ s.ins, X q = false ∧ Y q = true
  refine Classical.byContradiction fun hno => ?_
  have hno : ¬ Rea M.n := hno
  have dec : DecidablePred Rea := fun v => Classical.propDecidable _
  have ext : ∀ {s : Wy} {v : Nat}, Rch M M.n wy0 s → (∀ q ∈ s.outs, X q = true ∧ Y q = false) → (∀ q ∈ s.ins, X q = false ∧ Y q = true) → v ∈ s.seen → Rea v := by
    intro s v hr ho hi hv
    obtain ⟨s', a, b, c, d⟩ := seen_pre ok hr v hv
    exact ⟨s', a, b, fun q hq => ho q (c q hq), fun q hq => hi q (d q hq)⟩
  refine cut_fl ok hX hY hj (Z := fun v => decide (Rea v)) (decide_eq_true ⟨wy0, .refl _, rfl, (fun _ h => by cases h), (fun _ h => by cases h)⟩) (decide_eq_false hno) fun q hq => ⟨fun h1 h2 hz => ?_, fun h1 h2 hz => ?_⟩
  · obtain ⟨s, hr, hp, ho, hi⟩ := of_decide_eq_true hz
    refine decide_eq_true ?_
    by_cases hs : M.e q ∈ s.seen
    · exact ext hr ho hi hs
    · have hk := kid_in ok (hY.t q h2) hp.symm hs
      refine ⟨_, hr.snoc (fun e => hno ⟨s, hr, e, ho, hi⟩) hk, rfl, ho, fun x hx => ?_⟩
      rcases List.mem_append.mp hx with z | z
      · exact hi x z
      · have : x = q := by simpa using z
        subst this
        exact ⟨h1, h2⟩
  · obtain ⟨s, hr, hp, ho, hi⟩ := of_decide_eq_true hz
    refine decide_eq_true ?_
    by_cases hs : M.b q ∈ s.seen
    · exact ext hr ho hi hs
    · have hk := kid_out ok (hX.t q h1) hp.symm hs
      refine ⟨_, hr.snoc (fun e => hno ⟨s, hr, e, ho, hi⟩) hk, rfl, fun x hx => ?_, hi⟩
      rcases List.mem_append.mp hx with z | z
      · exact ho x z
      · have : x = q := by simpa using z
        subst this
        exact ⟨h1, h2⟩
/-- a choice changed along a way -/
def alg (X : Nat → Bool) (s : Wy) : Nat → Bool := fun q => X q != decide (q ∈ s.outs ++ s.ins)
theorem bal_alg {M : Mkt} (ok : M.Ok) {X : Nat → Bool} {s : Wy} (h : Rch M M.n wy0 s) : (∀ q ∈ s.outs, X q = true) → (∀ q ∈ s.ins, X q = false) → ∀ v, M.bal (alg X s) v = M.bal X v + (if 0 = v then 1 else 0) - (if s.p = v then 1 else 0) := by
  refine Rch.ind (P := fun s => (∀ q ∈ s.outs, X q = true) → (∀ q ∈ s.ins, X q = false) → ∀ v, M.bal (alg X s) v = M.bal X v + (if 0 = v then 1 else 0) - (if s.p = v then 1 else 0)) ?_ ?_ h
  · intro _ _ v
    have : alg X wy0 = X := funext fun q => by simp [alg]
    rw [this]
    show _ = M.bal X v + _ - (if 0 = v then 1 else 0)
    omega
  · intro t u hr ih hp hk ho hi v
    have uo := (hr.snoc hp hk).ok ok (ok_start (Nat.zero_le _))
    obtain ⟨w, q, hq, hw, ⟨h1, h2, rfl⟩ | ⟨h1, h2, rfl⟩⟩ := kid_of ok hk
    · have hn : q ∉ t.outs ++ t.ins := fun hm => by
        have nd := uo.qd
        have e : (t.outs ++ [q] ++ t.ins).Perm (q :: (t.outs ++ t.ins)) := by
          rw [List.append_assoc]
          exact List.perm_middle
        exact (List.nodup_cons.mp (e.nodup_iff.mp nd)).1 hm
      have e : alg X ⟨w, t.seen ++ [w], t.outs ++ [q], t.ins⟩ = flip (alg X t) q := funext fun i => by
        unfold flip
        show (X i != decide (i ∈ (t.outs ++ [q]) ++ t.ins)) = _
        by_cases hi : i = q
        · subst hi
          rw [if_pos rfl]
          show _ = !(X i != decide (i ∈ t.outs ++ t.ins))
          rw [decide_eq_false hn, decide_eq_true (by simp)]
          cases X i <;> rfl
        · rw [if_neg hi]
          show _ = (X i != decide (i ∈ t.outs ++ t.ins))
          congr 1
          simp [hi]
      have hx : alg X t q = true := by
        unfold alg
        rw [decide_eq_false hn, ho q (by simp)]; rfl
      rw [e, Mkt.bal_flip (u := t.p) (v := w) ⟨hq, .inr ⟨hx, h1, h2⟩⟩, ih (fun x hx => ho x (by simp [hx])) (fun x hx => hi x hx)]
      show _ = M.bal X v + _ - (if w = v then 1 else 0)
      omega
    · have hn : q ∉ t.outs ++ t.ins := fun hm => by
        have nd := uo.qd
        have e : (t.outs ++ (t.ins ++ [q])).Perm (q :: (t.outs ++ t.ins)) := by
          rw [← List.append_assoc]
          exact List.perm_append_singleton q _
        exact (List.nodup_cons.mp (e.nodup_iff.mp nd)).1 hm
      have e : alg X ⟨w, t.seen ++ [w], t.outs, t.ins ++ [q]⟩ = flip (alg X t) q := funext fun i => by
        unfold flip
        show (X i != decide (i ∈ t.outs ++ (t.ins ++ [q]))) = _
        by_cases hi : i = q
        · subst hi
          rw [if_pos rfl]
          show _ = !(X i != decide (i ∈ t.outs ++ t.ins))
          rw [decide_eq_false hn, decide_eq_true (by simp)]
          cases X i <;> rfl
        · rw [if_neg hi]
          show _ = (X i != decide (i ∈ t.outs ++ t.ins))
          congr 1
          simp [hi]
      have hx : alg X t q = false := by
        unfold alg
        rw [decide_eq_false hn, hi q (by simp)]; rfl
      rw [e, Mkt.bal_flip (u := t.p) (v := w) ⟨hq, .inl ⟨hx, h1, h2⟩⟩, ih (fun x hx => ho x hx) (fun x hx => hi x (by simp [hx]))]
      show _ = M.bal X v + _ - (if w = v then 1 else 0)
      omega
theorem Mkt.Fl.alg {M : Mkt} (ok : M.Ok) {k : Nat} {X : Nat → Bool} {s : Wy} (hX : M.Fl k X) (h : Rch M M.n wy0 s) (hp : s.p = M.n) (ho : ∀ q ∈ s.outs, X q = true) (hi : ∀ q ∈ s.ins, X q = false) : M.Fl (k + 1) (alg X s) := by
  refine ⟨fun q hq => ?_, fun v hv => ?_⟩
  · by_cases hm : q ∈ s.outs ++ s.ins
    · exact ((h.ok ok (ok_start (Nat.zero_le _))).q q hm).1
    · refine hX.t q ?_
      unfold K78.alg at hq
      rw [decide_eq_false hm] at hq
      simpa using hq
  · rw [bal_alg ok h ho hi v, hX.c v hv, hp]
    by_cases h1 : 0 = v <;> by_cases h2 : M.n = v <;> simp [h1, h2] <;> omega
/-- the ins of a way with an out hold no chain -/
theorem ins_no {M : Mkt} (ok : M.Ok) {s : Wy} (h : Rch M M.n wy0 s) (hp : s.p = M.n) {q : Nat} (hq : q ∈ s.outs) {L : Nat → Bool} (hL : M.Fl 1 L) (hi : ∀ x, L x = true → x ∈ s.ins) : False := by
  have : ∀ q ∈ s.outs, ∃ Z : Nat → Bool, Z 0 = true ∧ (∀ v, Z v = true → v ∈ s.seen) ∧ Z s.p = false ∧ ∀ x ∈ s.ins, Z (M.b x) = Z (M.e x) := by
    refine Rch.ind (P := fun s => ∀ q ∈ s.outs, ∃ Z : Nat → Bool, Z 0 = true ∧ (∀ v, Z v = true → v ∈ s.seen) ∧ Z s.p = false ∧ ∀ x ∈ s.ins, Z (M.b x) = Z (M.e x)) ?_ ?_ h
    · intro q hq
      cases hq
    · intro t u hr ih hp hk q' hq'
      have to := hr.ok ok (ok_start (Nat.zero_le _))
      have h0 : 0 ∈ t.seen := Rch.ind (P := fun s => 0 ∈ s.seen) (by simp) (fun a b _ ha _ hb => by
        obtain ⟨w, q, _, _, ⟨_, _, rfl⟩ | ⟨_, _, rfl⟩⟩ := kid_of ok hb
        · exact List.mem_append_left _ ha
        · exact List.mem_append_left _ ha) hr
      obtain ⟨w, q, hq, hw, ⟨h1, h2, rfl⟩ | ⟨h1, h2, rfl⟩⟩ := kid_of ok hk
      · rcases List.mem_append.mp hq' with z | z
        · obtain ⟨Z, a, b, c, d⟩ := ih q' z
          refine ⟨Z, a, fun v hv => List.mem_append_left _ (b v hv), ?_, d⟩
          cases e : Z w with
          | false => rfl
          | true => exact absurd (b w e) hw
        · refine ⟨mem t.seen, decide_eq_true h0, fun v hv => List.mem_append_left _ (of_decide_eq_true hv), decide_eq_false hw, fun x hx => ?_⟩
          obtain ⟨_, hb, he⟩ := to.q x (List.mem_append_right _ hx)
          show decide _ = decide _
          rw [decide_eq_true hb, decide_eq_true he]
      · obtain ⟨Z, a, b, c, d⟩ := ih q' hq'
        have hZw : Z w = false := by
          cases e : Z w with
          | false => rfl
          | true => exact absurd (b w e) hw
        refine ⟨Z, a, fun v hv => List.mem_append_left _ (b v hv), hZw, fun x hx => ?_⟩
        rcases List.mem_append.mp hx with z | z
        · exact d x z
        · have : x = q := by simpa using z
          subst this
          rw [h1, h2, hZw, c]
  obtain ⟨Z, a, b, c, d⟩ := this q hq
  rw [hp] at c
  refine cut_fl ok (fl_non M) (j := 1) hL (by omega) a c fun x hx => ⟨fun _ h2 hz => ?_, fun h1 => by cases h1⟩
  rw [← d x (hi x h2)]; exact hz
/-! ### flows taken apart -/
/-- a chain in a flow -/
theorem Mkt.Fl.chain {M : Mkt} (ok : M.Ok) {k : Nat} {X : Nat → Bool} (h : M.Fl (k + 1) X) : ∃ C, M.Fl 1 C ∧ ∀ q, C q = true → X q = true := by
  obtain ⟨s, hr, hp, ho, hi⟩ := way_in ok (fl_non M) (j := k + 1) h (by omega)
  refine ⟨_, (fl_non M).alg ok hr hp (fun q hq => (ho q hq).1) (fun q hq => (hi q hq).1), fun q hq => ?_⟩
  have hm : q ∈ s.outs ++ s.ins := by
    refine Classical.byContradiction fun hn => ?_
    unfold K78.alg at hq
    rw [decide_eq_false hn] at hq
    cases hq
  rcases List.mem_append.mp hm with z | z
  · exact absurd (ho q z).1 Bool.false_ne_true
  · exact (hi q z).2
theorem Mkt.Fl.less {M : Mkt} (ok : M.Ok) {k : Nat} : ∀ {d : Nat} {X : Nat → Bool}, M.Fl (k + d) X → ∃ Y, M.Fl k Y ∧ ∀ q, Y q = true → X q = true
  | 0, X, h => ⟨X, h, fun _ h => h⟩
  | d + 1, X, h => by
    obtain ⟨C, hC, hs⟩ := h.chain ok (k := k + d)
    obtain ⟨Y, hY, hs'⟩ := (Mkt.Fl.diff (j := k + d) h hC hs).less ok
    exact ⟨Y, hY, fun q hq => by have := hs' q hq; revert this; cases X q <;> simp⟩
theorem fl_zero {M : Mkt} (ok : M.Ok) {X : Nat → Bool} (h : M.Fl 0 X) (q : Nat) : X q = false := by
  cases e : X q with
  | false => rfl
  | true =>
    have hq := h.t q e
    have hlt := (Mkt.mem_there.mp hq).1
    have be := ok.be hlt
    have hf := cov_rep.mp (h.fit ok).c (M.b q) (by omega)
    have : q ∈ (ins M.runs.length X).filter fun q' => M.cv q' (M.b q) := List.mem_filter.mpr ⟨mem_ins.mpr ⟨hlt, e⟩, by unfold Mkt.cv; simp; omega⟩
    unfold Mkt.cnt at hf
    rw [List.length_eq_zero_iff.mp hf] at this
    cases this
/-- each 2-flow leaves a chain outside each chain -/
def Lv (M : Mkt) : Prop := ∀ C D, M.Fl 1 C → M.Fl 2 D → ∃ H, M.Fl 1 H ∧ ∀ q, H q = true → D q = true ∧ C q = false
theorem lv_of {M : Mkt} (ok : M.Ok) (h : ¬ M.GB 1) : Lv M := by
  intro C D hC hD
  obtain ⟨s, hr, hp, ho, hi⟩ := way_in ok hC (j := 1) hD (by omega)
  have so := hr.ok ok (ok_start (Nat.zero_le _))
  by_cases he : s.outs = []
  · refine ⟨_, (fl_non M).alg ok hr hp (fun q hq => by rw [he] at hq; cases hq) (fun q hq => rfl), fun q hq => ?_⟩
    have hm : q ∈ s.outs ++ s.ins := by
      refine Classical.byContradiction fun hn => ?_
      unfold K78.alg at hq
      rw [decide_eq_false hn] at hq
      cases hq
    rw [he] at hm
    exact ⟨(hi q hm).2, (hi q hm).1⟩
  · exfalso
    obtain ⟨q, hq⟩ := List.exists_mem_of_ne_nil _ he
    have lt : ∀ x, x ∈ s.outs ++ s.ins → x < M.runs.length := fun x hx => (Mkt.mem_there.mp (so.q x hx).1).1
    have m1 : ∀ x, x ∈ ins M.runs.length (mem s.outs) ↔ x ∈ s.outs := fun x => by
      rw [mem_ins]
      exact ⟨fun h => of_decide_eq_true h.2, fun h => ⟨lt x (List.mem_append_left _ h), decide_eq_true h⟩⟩
    have m2 : ∀ x, x ∈ ins M.runs.length (mem s.ins) ↔ x ∈ s.ins := fun x => by
      rw [mem_ins]
      exact ⟨fun h => of_decide_eq_true h.2, fun h => ⟨lt x (List.mem_append_right _ h), decide_eq_true h⟩⟩
    refine h ⟨q, (so.q q (List.mem_append_left _ hq)).1, (ins M.runs.length (mem s.outs), ins M.runs.length (mem s.ins)), ⟨s, hr, hp, ins_srt, ins_srt, m1, m2⟩, (m1 q).mpr hq, ins M.runs.length C, hC.fit ok, fun x hx => ?_, fun x hx hm => ?_⟩
    · have := (m1 x).mp hx
      exact mem_ins.mpr ⟨lt x (List.mem_append_left _ this), (ho x this).1⟩
    · have h1 := (hi x ((m2 x).mp hx)).1
      have h2 := (mem_ins.mp hm).2
      rw [h1] at h2
      cases h2
theorem lv_chain {M : Mkt} (ok : M.Ok) (lv : Lv M) {C : Nat → Bool} (hC : M.Fl 1 C) : ∀ {k : Nat} {T : Nat → Bool}, M.Fl (k + 1) T → ∃ G, M.Fl k G ∧ ∀ q, G q = true → T q = true ∧ C q = false
  | 0, T, _ => ⟨non, fl_non M, fun q h => by cases h⟩
  | k + 1, T, h => by
    obtain ⟨C0, hC0, hs⟩ := h.chain ok
    obtain ⟨G, hG, hs'⟩ := lv_chain ok lv hC (Mkt.Fl.diff (j := k + 1) h hC0 hs)
    have hGT : ∀ q, G q = true → T q = true := fun q hq => by
      have := (hs' q hq).1
      revert this
      cases T q <;> simp
    have hD : M.Fl 2 fun q => T q && !G q := Mkt.Fl.diff (j := 2) (k := k) (by rw [show 2 + k = k + 1 + 1 by omega]; exact h) hG hGT
    obtain ⟨H, hH, hHs⟩ := lv C _ hC hD
    have hHs' : ∀ q, H q = true → T q = true ∧ G q = false ∧ C q = false := fun q hq => by
      obtain ⟨h1, h2⟩ := hHs q hq
      refine ⟨?_, ?_, h2⟩
      · revert h1; cases T q <;> simp
      · revert h1; cases T q <;> cases G q <;> simp
    refine ⟨_, hG.union hH fun q hq => (hHs' q hq).2.1, fun q hq => ?_⟩
    cases e : G q with
    | true => exact ⟨hGT q e, (hs' q e).2⟩
    | false =>
      rw [e] at hq
      exact ⟨(hHs' q hq).1, (hHs' q hq).2.2⟩
theorem lv_all {M : Mkt} (ok : M.Ok) (lv : Lv M) {r : Nat} : ∀ {i : Nat} {S T : Nat → Bool}, M.Fl i S → M.Fl (i + r) T → ∃ G, M.Fl r G ∧ ∀ q, G q = true → T q = true ∧ S q = false
  | 0, S, T, hS, hT => ⟨T, by rw [Nat.zero_add] at hT; exact hT, fun q hq => ⟨hq, fl_zero ok hS q⟩⟩
  | i + 1, S, T, hS, hT => by
    obtain ⟨C, hC, hs⟩ := hS.chain ok
    obtain ⟨T', hT', hs'⟩ := lv_chain ok lv hC (k := i + r) (T := T) (by rw [show i + r + 1 = i + 1 + r by omega]; exact hT)
    obtain ⟨G, hG, hs''⟩ := lv_all ok lv (Mkt.Fl.diff (j := i) hS hC hs) hT'
    refine ⟨G, hG, fun q hq => ?_⟩
    obtain ⟨h1, h2⟩ := hs'' q hq
    obtain ⟨h3, h4⟩ := hs' q h1
    refine ⟨h3, ?_⟩
    revert h2
    rw [h4]
    cases S q <;> simp
/-! ### strength -/
theorem stk_less {M : Mkt} (ok : M.Ok) {j k : Nat} {l : List Nat} (h : M.Stk k l) (hj : j ≤ k) : ∃ l', M.Stk j l' := by
  obtain ⟨d, rfl⟩ := Nat.le.dest hj
  obtain ⟨Y, hY, _⟩ := (fl_of ok h).less ok
  exact ⟨_, hY.fit ok⟩
theorem stk_le {M : Mkt} (ok : M.Ok) {s k : Nat} (hs : M.Str s) {l : List Nat} (h : M.Stk k l) : k ≤ s := by
  refine Classical.byContradiction fun hn => ?_
  obtain ⟨l', h'⟩ := stk_less ok (j := s + 1) h (by omega)
  exact hs.2 _ h'
theorem str_one {M : Mkt} {s s' : Nat} (ok : M.Ok) (h : M.Str s) (h' : M.Str s') : s' = s := by
  obtain ⟨l, hl⟩ := h.1
  obtain ⟨l', hl'⟩ := h'.1
  exact Nat.le_antisymm (stk_le ok h hl') (stk_le ok h' hl)
theorem str_lim {M : Mkt} {s : Nat} (ok : M.Ok) (h : M.Str s) : s ≤ 7 := by
  obtain ⟨l, hl⟩ := h.1
  have h1 := cov_rep.mp hl.c 0 ok.n1
  have h2 : M.cnt l 0 ≤ l.length := by unfold Mkt.cnt; exact List.length_filter_le _ _
  have h3 := hl.len
  have := ok.rl
  omega
theorem lv_str {M : Mkt} {s : Nat} (ok : M.Ok) (h : M.Str s) (hg : 1 < s → ¬ M.GB 1) : Lv M := by
  by_cases h1 : 1 < s
  · exact lv_of ok (hg h1)
  · intro C D _ hD
    have := stk_le ok h (hD.fit ok)
    omega
theorem gb_zero {M : Mkt} (ok : M.Ok) : ¬ M.GB 0 := by
  rintro ⟨part, _, x, _, hx, l, hl, ho, _⟩
  have := fl_zero ok (fl_of ok hl) part
  rw [show mem l part = true from decide_eq_true (ho part hx)] at this
  cases this
/-- a way back: the larger flow has no chain outside the lesser one -/
theorem gb_way {M : Mkt} (ok : M.Ok) {k : Nat} (h : M.GB k) : ∃ S T part, M.Fl k S ∧ M.Fl (k + 1) T ∧ S part = true ∧ T part = false ∧ ∀ G, M.Fl 1 G → ¬ ∀ q, G q = true → T q = true ∧ S q = false := by
  obtain ⟨part, hpt, x, ⟨s, hr, hp, hk⟩, hx, l, hl, ho, hi⟩ := h
  have ho' : ∀ q ∈ s.outs, mem l q = true := fun q hq => decide_eq_true (ho q ((hk.2.2.1 q).mpr hq))
  have hi' : ∀ q ∈ s.ins, mem l q = false := fun q hq => decide_eq_false (hi q ((hk.2.2.2 q).mpr hq))
  have hpo : part ∈ s.outs := (hk.2.2.1 part).mp hx
  refine ⟨mem l, alg (mem l) s, part, fl_of ok hl, (fl_of ok hl).alg ok hr hp ho' hi', ho' part hpo, ?_, fun G hG hs => ?_⟩
  · unfold alg
    rw [ho' part hpo, decide_eq_true (List.mem_append_left _ hpo)]; rfl
  · refine ins_no ok hr hp hpo hG fun q hq => ?_
    obtain ⟨h1, h2⟩ := hs q hq
    have hm : q ∈ s.outs ++ s.ins := by
      refine Classical.byContradiction fun hn => ?_
      unfold alg at h1
      rw [h2, decide_eq_false hn] at h1
      cases h1
    rcases List.mem_append.mp hm with z | z
    · rw [ho' q z] at h2; cases h2
    · exact z
theorem gb_up {M : Mkt} {k : Nat} (ok : M.Ok) (hg : ¬ M.GB 1) : ¬ M.GB k := fun h => by
  obtain ⟨S, T, part, hS, hT, _, _, hno⟩ := gb_way ok h
  obtain ⟨G, hG, hs⟩ := lv_all ok (lv_of ok hg) hS hT
  exact hno G hG hs
theorem left_of {M : Mkt} (ok : M.Ok) {r : Nat} {a b : List Nat} {G : Nat → Bool} (hG : M.Fl r G) (hs : ∀ q, G q = true → mem b q = true ∧ mem a q = false) : M.Left r a b (ins M.runs.length G) :=
  ⟨ins_srt, fun q hq => by
    obtain ⟨h1, h2⟩ := hs q (mem_ins.mp hq).2
    exact ⟨of_decide_eq_true h1, of_decide_eq_false h2⟩, (hG.fit ok).c⟩
theorem leave {M : Mkt} {s i r : Nat} (ok : M.Ok) (h : M.Str s) (hg : 1 < s → ¬ M.GB 1) (a b : List Nat) (ha : M.Stk i a) (hb : M.Stk (i + r) b) : ∃ l, M.Left r a b l := by
  obtain ⟨G, hG, hs⟩ := lv_all ok (lv_str ok h hg) (fl_of ok ha) (fl_of ok hb)
  exact ⟨_, left_of ok hG hs⟩
theorem not_leave {M : Mkt} (ok : M.Ok) (h : M.GB 1) : ∃ a b, M.Stk 1 a ∧ M.Stk (1 + 1) b ∧ ∀ l, ¬ M.Left 1 a b l := by
  obtain ⟨S, T, part, hS, hT, _, _, hno⟩ := gb_way ok h
  refine ⟨_, _, hS.fit ok, hT.fit ok, fun l hl => ?_⟩
  obtain ⟨h1, h2, h3⟩ := hl
  have hfit : M.Stk 1 l := ⟨h1, fun q hq => hT.t q (mem_ins.mp (h2 q hq).1).2, h3⟩
  refine hno _ (fl_of ok hfit) fun q hq => ?_
  obtain ⟨h4, h5⟩ := h2 q (of_decide_eq_true hq)
  have hq' := mem_ins.mp h4
  refine ⟨hq'.2, ?_⟩
  cases e : S q with
  | false => rfl
  | true => exact absurd (mem_ins.mpr ⟨hq'.1, e⟩) h5
theorem lost {M : Mkt} {s : Nat} (ok : M.Ok) (h : M.Str s) (hg : 1 < s → ¬ M.GB 1) (a g : List Nat) (t : Nat) (ha : M.Stk 1 a) (gs : srt g) (gm : ∀ x, x ∈ g ↔ x ∈ M.gone ∨ x ∈ a) (ht : (Mkt.mk M.n M.runs g).Str t) : s ≤ t + 1 := by
  have ok' : (Mkt.mk M.n M.runs g).Ok := ⟨ok.n1, ok.n8, ok.rl, ok.run, gs, fun x hx => ((gm x).mp hx).elim (ok.gl x) fun hx => ha.lt x hx⟩
  by_cases h0 : s = 0
  · omega
  obtain ⟨r, hr⟩ : ∃ r, s = 1 + r := ⟨s - 1, by omega⟩
  obtain ⟨b, hb⟩ := h.1
  rw [hr] at hb
  obtain ⟨l, h1, h2, h3⟩ := leave ok h hg a b ha hb
  have hl : (Mkt.mk M.n M.runs g).Stk r l := ⟨h1, fun q hq => by
    obtain ⟨h4, h5⟩ := h2 q hq
    obtain ⟨h6, h7⟩ := Mkt.mem_there.mp (hb.t q h4)
    exact Mkt.mem_there.mpr ⟨h6, fun hm => ((gm q).mp hm).elim h7 h5⟩, h3⟩
  have := stk_le ok' ht hl
  omega
end K78

set_option Elab.async false
set_option linter.all false
set_option maxRecDepth 100000
set_option maxHeartbeats 4000000
namespace K78
open PySem PySem.Spec PyProof.Rows L2 Dt
local macro_rules | `(tactic| trivial) => `(tactic| first
  | with_reducible refine re_many (‹Tx _ _›) ?_ | with_reducible refine re_all (‹Tx _ _›) ?_ | with_reducible refine re_size (‹Tx _ _›) ?_ | with_reducible refine re_runs (‹Tx _ _›) ?_ | with_reducible refine re_gone (‹Tx _ _›) ?_ | with_reducible refine re_KIND (‹Tx _ _›) ?_ | with_reducible refine re_there (‹Tx _ _›) ?_
  | with_reducible refine rs_seq ?_ | with_reducible refine rs_set ?_ | with_reducible refine rs_asg ?_ | with_reducible refine rs_ret ?_ | with_reducible refine rs_retN ?_ | with_reducible refine rs_drop ?_ | with_reducible refine rs_next ?_ | with_reducible refine rs_break ?_ | with_reducible refine rs_cont ?_ | with_reducible refine rs_if ?_
  | with_reducible refine re_var (by with_unfolding_all rfl) (by with_unfolding_all exact fun h => nomatch h) ?_ | with_reducible refine re_c ?_ | with_reducible refine ra_nil ?_ | with_reducible refine ra_cons ?_ | with_reducible refine re_cb ?_ | with_reducible refine re_call ?_ | with_reducible refine re_op ?_ | with_reducible refine od_int ?_
  | with_reducible refine re_andV ?_ | with_reducible refine re_orV ?_ | with_reducible refine re_notV ?_ | with_reducible refine re_if ?_ | with_reducible refine rt_test ?_ | with_reducible refine rt_B ?_ | with_reducible refine rt_not ?_ | with_reducible refine rt_and ?_ | with_reducible refine rt_or ?_ | with_reducible refine rt_yes ?_
  | with_reducible refine re_tup ?_ | with_reducible refine re_neg ?_ | refine ⟨_, rfl, ?_⟩ | refine ⟨‹Mkt.Ok _›, ?_⟩)
abbrev lsD (l : List Int) : List D := l.map iD
section
variable {c : Cn} {mg : Str → Option Value} {base : Heap} (T : Tx c.K mg)
variable {G : SG} {S : SC} {Q : SC → Sl → Prop} {ta : TE}
def W_law_draws : Wp := fun A S R => ∃ script : List Int, A = [.im (.rl (lsD script))] ∧ S = [] ∧ script.length ≤ 63 ∧ ∀ l : List Int, l.length ≤ 4000 → R [] (.own (.lst (lsD l)))
theorem len_law_draws : ∀ A S R, W_law_draws A S R → A.length = 1 := by rintro A S R ⟨M, rfl, _⟩; rfl
theorem ok_law_draws : FnOk c.P c.w c.K mg base CX0 1 (T.f "_law_draws") (T.fd "_law_draws") ["script"] (spD c W_law_draws) := by
  refine mk_law_draws T len_law_draws ?_
  rintro A S R ⟨script, rfl, rfl, hl, hR⟩
  unfold t_law_draws
  trivial
  refine rs_set (re_lstO (ra_nil ⟨[], rfl, by simp, ?_⟩))
  trivial
  refine rs_for (rw_rng1 ?_)
  repeat trivial
  refine cb_len (.rl _) ?_
  repeat trivial
  refine cb_min2 ?_
  repeat trivial
  have e1 : (if (63 : Int) < ((lsD script).length : Int) then (63 : Int) else ((lsD script).length : Int)) = (script.length : Int) := by
    rw [List.length_map, if_neg (by omega)]
  rw [e1, Int.toNat_natCast]
  refine ⟨by omega, by omega, ?_⟩
  refine ⟨fun i G S => ∃ (l : List Int) (s2 s3 s4 s5 : Sl), G = [.im (.rl (lsD script)), .pt 0, s2, s3, s4, s5] ∧ S = [.lst (lsD l)] ∧ l.length ≤ 60 * i, ⟨[], _, _, _, _, rfl, rfl, Nat.zero_le _⟩, ?_, ?_⟩
  · rintro i e G' S' he ⟨l, s2, s3, s4, s5, rfl, rfl, hll⟩
    obtain ⟨hi, rfl⟩ := rangeD_get he
    have hz : (0 : Int) + (i : Nat) = (i : Int) := by omega
    rw [hz]
    refine rg_name ?_
    repeat trivial
    refine Dt.od_ix (.rl _) (e := iD script[i]) (i := (i : Int)) (by rw [atI_nat (List.getElem?_eq_some_iff.mpr ⟨by simpa using hi, rfl⟩)]; simp) ?_
    refine ra_nil (cb_int ?_)
    refine rs_seq (rs_mono (P' := { nx := fun G' S' => ∃ x : Int, G' = [.im (.rl (lsD script)), .pt 0, .im (iD i), .im (iD x), s4, s5] ∧ S' = [.lst (lsD l)], rt := fun _ _ => False, bk := fun _ _ => False, ct := fun _ _ => False }) ?_ ?_ (fun _ _ h => h.elim) (fun _ _ h => h.elim) fun _ _ h => h.elim)
    · repeat trivial
      refine iteC (fun _ => ?_) fun _ => ?_
      · repeat trivial
      · exact rs_next ⟨_, rfl, rfl⟩
    rintro _ _ ⟨x, rfl, rfl⟩
    repeat trivial
    refine od_intC ⟨by omega, by omega, by decide⟩ ?_
    repeat trivial
    refine iteC (fun _ => ?_) fun hx => ?_
    · refine rs_for (rw_rng1 ?_)
      repeat trivial
      refine ⟨by omega, by omega, ?_⟩
      refine ⟨fun k G S => ∃ (m : List Int) (x : Int) (s4 s5 : Sl), G = [.im (.rl (lsD script)), .pt 0, .im (iD i), .im (iD x), s4, s5] ∧ S = [.lst (lsD m)] ∧ m.length ≤ 60 * i + k, ⟨l, _, _, _, rfl, rfl, by omega⟩, ?_, ?_⟩
      · rintro k e G' S' he ⟨m, x, s4, s5, rfl, rfl, hm⟩
        obtain ⟨hk, rfl⟩ := rangeD_get he
        have hk2 : k < 60 := hk
        refine rg_name ?_
        repeat trivial
        refine iteC (fun _ => ?_) fun _ => ?_
        · trivial
          trivial
          refine re_append (re_var rfl (by intro h; cases h) ⟨0, _, rfl, rfl, ?_⟩)
          repeat trivial
          refine cb_int ?_
          repeat trivial
          refine od_intC (by omega) ?_
          repeat trivial
          refine ⟨_, _, rfl, rfl, by simp; omega, ?_⟩
          repeat trivial
          refine od_intC ⟨by omega, by decide⟩ ?_
          exact ⟨m ++ [x % 24], _, _, _, rfl, by simp [lsD], by simp; omega⟩
        · exact rs_next ⟨m, _, _, _, rfl, rfl, by omega⟩
      · rintro G' S' ⟨m, x, s4, s5, rfl, rfl, hm⟩
        have hm' : m.length ≤ 60 * i + 60 := hm
        exact ⟨m, _, _, _, _, rfl, rfl, by omega⟩
    · have hi63 : i < 63 := by omega
      repeat trivial
      refine od_intC (.inr (by omega)) ?_
      repeat trivial
      refine od_intC (.inr (by omega)) ?_
      repeat trivial
      refine cb_int ?_
      repeat trivial
      refine od_intC (by omega) ?_
      refine rs_for (rw_rng1 ?_)
      repeat trivial
      refine ⟨by omega, by omega, ?_⟩
      refine ⟨fun k G S => ∃ (m : List Int) (y : Int) (s4 : Sl), G = [.im (.rl (lsD script)), .pt 0, .im (iD i), .im (iD x), s4, .im (iD y)] ∧ S = [.lst (lsD m)] ∧ m.length ≤ 60 * i + k ∧ 0 ≤ y ∧ y < 2147483648, ⟨l, _, _, rfl, rfl, by omega, by omega, by omega⟩, ?_, ?_⟩
      · rintro k e G' S' he ⟨m, y, s4, rfl, rfl, hm, y0, y1⟩
        obtain ⟨hk, rfl⟩ := rangeD_get he
        have hk2 : k < 6 := hk
        refine rg_name ?_
        repeat trivial
        refine od_intC (.inr (by omega)) ?_
        repeat trivial
        refine od_intC (.inr (by omega)) ?_
        repeat trivial
        refine cb_int ?_
        repeat trivial
        refine od_intC (by omega) ?_
        trivial
        refine re_append (re_var rfl (by intro h; cases h) ⟨0, _, rfl, rfl, ?_⟩)
        repeat trivial
        refine ⟨_, _, rfl, rfl, by simp; omega, ?_⟩
        refine ⟨m ++ [_], _, _, rfl, by simp [lsD]; rfl, by simp; omega, by omega, by omega⟩
      · rintro G' S' ⟨m, y, s4, rfl, rfl, hm, _⟩
        have hm' : m.length ≤ 60 * i + 6 := hm
        exact ⟨m, _, _, _, _, rfl, rfl, by omega⟩
  · rintro G' S' ⟨l, s2, s3, s4, s5, rfl, rfl, hll⟩
    rw [rangeD_length] at hll
    trivial
    trivial
    refine re_reverse (re_var rfl (by intro h; cases h) ⟨0, _, rfl, rfl, ?_⟩)
    repeat trivial
    refine end_own (by rfl) (by rfl) ?_
    rw [← List.map_reverse]
    exact hR _ (by rw [List.length_reverse]; omega)
def W_law_take : Wp := fun A S R => ∃ (l : List Int) (n : Int), A = [.pt 0, .im (iD n)] ∧ S = [.lst (lsD l)] ∧ 0 < n ∧ ∀ (m : List Int) (x : Nat), m.length ≤ l.length → (x : Int) < n → R [.lst (lsD m)] (.im (iN x))
theorem len_law_take : ∀ A S R, W_law_take A S R → A.length = 2 := by rintro A S R ⟨l, n, rfl, _⟩; rfl
theorem ok_law_take : FnOk c.P c.w c.K mg base CX0 1 (T.f "_law_take") (T.fd "_law_take") ["draws", "many"] (spD c W_law_take) := by
  refine mk_law_take T len_law_take ?_
  rintro A S R ⟨l, n, rfl, rfl, hn, hR⟩
  unfold t_law_take
  repeat trivial
  refine cb_len (.lst (.pt rfl)) ?_
  repeat trivial
  refine Dt.od_eq (by rfl) ?_
  refine ⟨_, rfl, iteC (fun h => ?_) fun h => ?_⟩
  · repeat trivial
    exact end1_im rfl rfl (hR l 0 (Nat.le_refl _) (by omega))
  · have hne : l ≠ [] := fun e => by
      subst e
      exact absurd h (by decide)
    obtain ⟨m, x, rfl⟩ : ∃ m x, l = m ++ [x] := ⟨l.dropLast, l.getLast hne, (List.dropLast_concat_getLast hne).symm⟩
    trivial
    trivial
    trivial
    trivial
    trivial
    refine re_pop (re_var rfl (by intro h; cases h) ⟨0, lsD m, iD x, rfl, by simp [lsD], ?_⟩)
    repeat trivial
    refine cb_int ?_
    repeat trivial
    refine od_intC hn ?_
    have e : x % n = (((x % n).toNat : Nat) : Int) := (Int.toNat_of_nonneg (Int.emod_nonneg _ (by omega))).symm
    rw [e]
    refine end1_im rfl rfl (hR m _ (by simp) ?_)
    rw [← e]
    exact Int.emod_lt_of_pos _ hn
end
end K78

set_option Elab.async false
set_option linter.all false
set_option maxRecDepth 100000
set_option maxHeartbeats 4000000
namespace K78
open PySem PySem.Spec PyProof.Rows L2 Dt
local macro_rules | `(tactic| trivial) => `(tactic| first
  | with_reducible refine re_many (‹Tx _ _›) ?_ | with_reducible refine re_all (‹Tx _ _›) ?_ | with_reducible refine re_size (‹Tx _ _›) ?_ | with_reducible refine re_runs (‹Tx _ _›) ?_ | with_reducible refine re_gone (‹Tx _ _›) ?_ | with_reducible refine re_KIND (‹Tx _ _›) ?_ | with_reducible refine re_there (‹Tx _ _›) ?_
  | with_reducible refine rs_seq ?_ | with_reducible refine rs_set ?_ | with_reducible refine rs_asg ?_ | with_reducible refine rs_ret ?_ | with_reducible refine rs_retN ?_ | with_reducible refine rs_drop ?_ | with_reducible refine rs_next ?_ | with_reducible refine rs_break ?_ | with_reducible refine rs_cont ?_ | with_reducible refine rs_if ?_
  | with_reducible refine re_var (by with_unfolding_all rfl) (by with_unfolding_all exact fun h => nomatch h) ?_ | with_reducible refine re_c ?_ | with_reducible refine ra_nil ?_ | with_reducible refine ra_cons ?_ | with_reducible refine re_cb ?_ | with_reducible refine re_call ?_ | with_reducible refine re_op ?_ | with_reducible refine od_int ?_
  | with_reducible refine re_andV ?_ | with_reducible refine re_orV ?_ | with_reducible refine re_notV ?_ | with_reducible refine re_if ?_ | with_reducible refine rt_test ?_ | with_reducible refine rt_B ?_ | with_reducible refine rt_not ?_ | with_reducible refine rt_and ?_ | with_reducible refine rt_or ?_ | with_reducible refine rt_yes ?_
  | with_reducible refine re_tup ?_ | with_reducible refine re_neg ?_ | refine ⟨_, rfl, ?_⟩ | refine ⟨‹Mkt.Ok _›, ?_⟩)
section
variable {c : Cn} {mg : Str → Option Value} {base : Heap} (T : Tx c.K mg)
variable {G : SG} {S : SC} {Q : SC → Sl → Prop} {ta : TE}
theorem end1_frz {R : SC → Rt → Prop} {x0 x y : Cell} {k : Nat} {d : D} {S1 : SC} (hx : S1[0]? = some x) (hf : x.flat = true) (hk : 1 ≤ k) (hy : S1[k]? = some y) (hd : y.frozen = some d) (h : R [x] (.im d)) : (endP [x0] R).rt S1 (.pt k) := by
  cases S1 with
  | nil => cases hx
  | cons z S1 =>
    cases hx
    exact ⟨[x], .im d, by have := Fin.frz (n := 1) (S := x :: S1) hk hy hd; simpa using this, by simp [hf], by simp, h⟩
/-- a call of _law_take -/
theorem tk {k : Nat} {l : List Int} {n : Int} (hx : S[k]? = some (.lst (lsD l))) (hn : 0 < n) (q : ∀ (m : List Int) (x : Nat), (x : Int) < n → Q (S.set k (.lst (lsD m))) (.im (iN x))) : CallD c W_law_take [.pt k, .im (iD n)] S Q :=
  call1 hx rfl (by simp) ⟨l, n, rfl, rfl, hn, fun m x _ hlt x' e _ => by injection e with e; subst e; exact q m x hlt⟩
/-- runs over n places -/
def RunsOk (n : Nat) (rs : List (Nat × Nat)) : Prop := ∀ r ∈ rs, r.1 < r.2 ∧ r.2 ≤ n
theorem RunsOk.snoc {n : Nat} {rs : List (Nat × Nat)} {r : Nat × Nat} (h : RunsOk n rs) (h1 : r.1 < r.2) (h2 : r.2 ≤ n) : RunsOk n (rs ++ [r]) := fun x hx => by
  rcases List.mem_append.mp hx with z | z
  · exact h x z
  · have : x = r := by simpa using z
    subst this
    exact ⟨h1, h2⟩
def W_law_chains : Wp := fun A S R => ∃ (l : List Int) (n : Nat), A = [.pt 0, .im (iN n)] ∧ S = [.lst (lsD l)] ∧ 1 ≤ n ∧ n ≤ 8 ∧ ∀ (m : List Int) (rs : List (Nat × Nat)), RunsOk n rs → rs.length ≤ 1000 → R [.lst (lsD m)] (.im (.lst (rsD rs)))
theorem len_law_chains : ∀ A S R, W_law_chains A S R → A.length = 2 := by rintro A S R ⟨l, n, rfl, _⟩; rfl
theorem ok_law_chains : FnOk c.P c.w c.K mg base CX0 2 (T.f "_law_chains") (T.fd "_law_chains") ["draws", "size"] (spD c W_law_chains) := by
  refine mk_law_chains T (ok_law_take T) len_law_chains ?_
  rintro A S R ⟨l, n, rfl, rfl, n1, n8, hR⟩
  unfold t_law_chains
  trivial
  refine rs_set (re_lstO (ra_nil ⟨[], rfl, by simp, ?_⟩))
  trivial
  refine rs_for (rw_rng1 ?_)
  repeat trivial
  refine tk (l := l) rfl (by omega) fun m x hx => ?_
  repeat trivial
  refine ⟨by omega, by omega, ?_⟩
  refine ⟨fun i G S => ∃ (m : List Int) (rs : List (Nat × Nat)) (s3 s4 s5 s6 : Sl), G = [.pt 0, .im (iN n), .pt 1, s3, s4, s5, s6] ∧ S = [.lst (lsD m), .lst (rsD rs)] ∧ RunsOk n rs ∧ rs.length ≤ 8 * i, ⟨m, [], _, _, _, _, rfl, rfl, (fun _ h => by cases h), Nat.zero_le _⟩, ?_, ?_⟩
  · rintro i e G' S' he ⟨m, rs, s3, s4, s5, s6, rfl, rfl, hrs, hlen⟩
    obtain ⟨hi, rfl⟩ := rangeD_get he
    have hi3 : i < 3 := by omega
    refine rg_name ?_
    repeat trivial
    refine rs_for (rw_rng1 ?_)
    repeat trivial
    refine ⟨by omega, by omega, ?_⟩
    refine ⟨fun k G S => ∃ (m : List Int) (rs : List (Nat × Nat)) (st : Nat) (s3 s5 s6 : Sl), G = [.pt 0, .im (iN n), .pt 1, s3, .im (iN st), s5, s6] ∧ S = [.lst (lsD m), .lst (rsD rs)] ∧ RunsOk n rs ∧ st ≤ n ∧ rs.length ≤ 8 * i + k, ⟨m, rs, 0, _, _, _, rfl, rfl, hrs, by omega, by omega⟩, ?_, ?_⟩
    · rintro k e G' S' he ⟨m, rs, st, s3, s5, s6, rfl, rfl, hrs, hst, hlen⟩
      obtain ⟨hk, rfl⟩ := rangeD_get he
      refine rg_name ?_
      repeat trivial
      refine iteC (fun hlt => ?_) fun _ => rs_next ⟨m, rs, st, _, _, _, rfl, rfl, hrs, hst, by omega⟩
      have hlt := of_decide_eq_true hlt
      repeat trivial
      refine tk (l := m) rfl (by omega) fun m2 x hx => ?_
      repeat trivial
      refine cb_min2 ?_
      obtain ⟨sp, e1, h1, h2⟩ : ∃ sp : Nat, (if (st : Int) + 1 + x < n then (st : Int) + 1 + x else n) = (sp : Int) ∧ st < sp ∧ sp ≤ n := by
        split
        · exact ⟨st + 1 + x, by omega, by omega, by omega⟩
        · exact ⟨n, rfl, by omega, by omega⟩
      rw [e1]
      trivial
      trivial
      refine re_append (re_var rfl (by intro h; cases h) ⟨1, _, rfl, rfl, ?_⟩)
      repeat trivial
      refine ⟨[iN st, iN sp], rfl, by simp, ?_⟩
      repeat trivial
      refine ⟨_, _, rfl, rfl, by simp; omega, ?_⟩
      repeat trivial
      exact ⟨m2, rs ++ [(st, sp)], sp, _, _, _, rfl, by simp [prD], hrs.snoc h1 h2, h2, by simp; omega⟩
    · rintro G' S' ⟨m, rs, st, s3, s5, s6, rfl, rfl, hrs, hst, hlen⟩
      rw [rangeD_length] at hlen
      exact ⟨m, rs, _, _, _, _, rfl, rfl, hrs, by omega⟩
  · rintro G' S' ⟨m, rs, s3, s4, s5, s6, rfl, rfl, hrs, hlen⟩
    rw [rangeD_length] at hlen
    trivial
    refine rs_for (rw_rng1 ?_)
    repeat trivial
    refine tk (l := m) rfl (by omega) fun m y hy => ?_
    repeat trivial
    refine ⟨by omega, by omega, ?_⟩
    refine ⟨fun i G S => ∃ (m : List Int) (rs : List (Nat × Nat)) (s3 s4 s5 s6 : Sl), G = [.pt 0, .im (iN n), .pt 1, s3, s4, s5, s6] ∧ S = [.lst (lsD m), .lst (rsD rs)] ∧ RunsOk n rs ∧ rs.length ≤ 100 + i, ⟨m, rs, _, _, _, _, rfl, rfl, hrs, by omega⟩, ?_, ?_⟩
    · rintro i e G' S' he ⟨m, rs, s3, s4, s5, s6, rfl, rfl, hrs, hlen⟩
      obtain ⟨hi, rfl⟩ := rangeD_get he
      refine rg_name ?_
      repeat trivial
      refine tk (l := m) rfl (by omega) fun m x hx => ?_
      trivial
      refine re_append (re_var rfl (by intro h; cases h) ⟨1, _, rfl, rfl, ?_⟩)
      repeat trivial
      refine tk (l := m) rfl (by omega) fun m z hz => ?_
      repeat trivial
      refine ⟨[iN x, iN (x + 1 + z)], by simp [iN], by simp, ?_⟩
      repeat trivial
      refine ⟨_, _, rfl, rfl, by simp; omega, ?_⟩
      exact ⟨m, rs ++ [(x, x + 1 + z)], _, _, _, _, rfl, by simp [prD], hrs.snoc (by omega) (by show x + 1 + z ≤ n; omega), by simp; omega⟩
    · rintro G' S' ⟨m, rs, s3, s4, s5, s6, rfl, rfl, hrs, hlen⟩
      rw [rangeD_length] at hlen
      repeat trivial
      exact end1_frz rfl rfl (Nat.le_refl 1) rfl rfl (hR m rs hrs (by omega))
end
end K78

set_option Elab.async false
set_option linter.all false
set_option maxRecDepth 100000
set_option maxHeartbeats 4000000
namespace K78
open PySem PySem.Spec PyProof.Rows L2 Dt
local macro_rules | `(tactic| trivial) => `(tactic| first
  | with_reducible refine re_many (‹Tx _ _›) ?_ | with_reducible refine re_all (‹Tx _ _›) ?_ | with_reducible refine re_size (‹Tx _ _›) ?_ | with_reducible refine re_runs (‹Tx _ _›) ?_ | with_reducible refine re_gone (‹Tx _ _›) ?_ | with_reducible refine re_KIND (‹Tx _ _›) ?_ | with_reducible refine re_there (‹Tx _ _›) ?_
  | with_reducible refine rs_seq ?_ | with_reducible refine rs_set ?_ | with_reducible refine rs_asg ?_ | with_reducible refine rs_ret ?_ | with_reducible refine rs_retN ?_ | with_reducible refine rs_drop ?_ | with_reducible refine rs_next ?_ | with_reducible refine rs_break ?_ | with_reducible refine rs_cont ?_ | with_reducible refine rs_if ?_
  | with_reducible refine re_var (by with_unfolding_all rfl) (by with_unfolding_all exact fun h => nomatch h) ?_ | with_reducible refine re_c ?_ | with_reducible refine ra_nil ?_ | with_reducible refine ra_cons ?_ | with_reducible refine re_cb ?_ | with_reducible refine re_call ?_ | with_reducible refine re_op ?_ | with_reducible refine od_int ?_
  | with_reducible refine re_andV ?_ | with_reducible refine re_orV ?_ | with_reducible refine re_notV ?_ | with_reducible refine re_if ?_ | with_reducible refine rt_test ?_ | with_reducible refine rt_B ?_ | with_reducible refine rt_not ?_ | with_reducible refine rt_and ?_ | with_reducible refine rt_or ?_ | with_reducible refine rt_yes ?_
  | with_reducible refine re_tup ?_ | with_reducible refine re_neg ?_ | refine ⟨_, rfl, ?_⟩ | refine ⟨‹Mkt.Ok _›, ?_⟩)
section
variable {c : Cn} {mg : Str → Option Value} {base : Heap} (T : Tx c.K mg)
variable {G : SG} {S : SC} {Q : SC → Sl → Prop} {ta : TE}
def W_law_special : Wp := fun A S R => ∃ (l : List Int), A = [.pt 0] ∧ S = [.lst (lsD l)] ∧ ∀ (m : List Int) (n : Nat) (rs : List (Nat × Nat)), 1 ≤ n → n ≤ 8 → RunsOk n rs → rs.length ≤ 1000 → R [.lst (lsD m)] (.im (.lst [iN n, .lst (rsD rs)]))
theorem len_law_special : ∀ A S R, W_law_special A S R → A.length = 1 := by rintro A S R ⟨l, rfl, _⟩; rfl
def menu0 : List (Nat × Nat) := [(0, 1), (0, 2), (1, 2), (1, 3), (2, 3), (0, 3), (1, 2)]
def menu1 : List (Nat × Nat) := [(0, 1), (1, 2), (1, 3), (2, 3), (2, 4), (3, 4), (4, 5), (0, 1), (4, 5)]
def menu2 : List (Nat × Nat) := [(0, 4), (0, 2), (2, 4), (0, 1), (1, 2), (2, 3), (3, 4), (1, 2), (0, 4)]
theorem runsOk_of {n : Nat} {rs : List (Nat × Nat)} (h : (rs.all fun r => decide (r.1 < r.2 ∧ r.2 ≤ n)) = true) : RunsOk n rs := fun r hr => of_decide_eq_true (List.all_eq_true.mp h r hr)
theorem ok_law_special : FnOk c.P c.w c.K mg base CX0 2 (T.f "_law_special") (T.fd "_law_special") ["draws"] (spD c W_law_special) := by
  refine mk_law_special T (ok_law_take T) len_law_special ?_
  rintro A S R ⟨l, rfl, rfl, hR⟩
  unfold t_law_special
  repeat trivial
  refine tk (l := l) rfl (by omega) fun m w hw => ?_
  refine rs_seq (rs_mono (P' := { nx := fun G' S' => ∃ (n : Nat) (mu : List (Nat × Nat)), G' = [.pt 0, .im (iN w), .im (iN n), .im (.lst (rsD mu)), .no, .no] ∧ S' = [.lst (lsD m)] ∧ 1 ≤ n ∧ n ≤ 8 ∧ RunsOk n mu ∧ mu.length ≤ 9, rt := fun _ _ => False, bk := fun _ _ => False, ct := fun _ _ => False }) ?_ ?_ (fun _ _ h => h.elim) (fun _ _ h => h.elim) fun _ _ h => h.elim)
  · repeat trivial
    refine Dt.od_eq (by rfl) ⟨_, rfl, iteC (fun _ => ?_) fun _ => ?_⟩
    · repeat trivial
      refine re_lst ?_
      repeat (first | trivial | refine ⟨[_, _], rfl, by simp, ?_⟩)
      exact ⟨rsD menu0, rfl, by decide, 3, menu0, rfl, rfl, by decide, by decide, runsOk_of (by decide), by decide⟩
    · repeat trivial
      refine Dt.od_eq (by rfl) ⟨_, rfl, iteC (fun _ => ?_) fun _ => ?_⟩
      · repeat trivial
        refine re_lst ?_
        repeat (first | trivial | refine ⟨[_, _], rfl, by simp, ?_⟩)
        exact ⟨rsD menu1, rfl, by decide, 5, menu1, rfl, rfl, by decide, by decide, runsOk_of (by decide), by decide⟩
      · repeat trivial
        refine re_lst ?_
        repeat (first | trivial | refine ⟨[_, _], rfl, by simp, ?_⟩)
        exact ⟨rsD menu2, rfl, by decide, 4, menu2, rfl, rfl, by decide, by decide, runsOk_of (by decide), by decide⟩
  rintro _ _ ⟨n, mu, rfl, rfl, n1, n8, hmu, hlen⟩
  trivial
  refine rs_set (re_lcW false (gon_name (by simp)) (rw_list ?_))
  repeat trivial
  refine ⟨_, .inl rfl, by rw [rsD_len]; omega, fun i S' acc => ∃ (m : List Int) (rs : List (Nat × Nat)), S' = [.lst (lsD m)] ∧ acc = rsD rs ∧ RunsOk n rs, ⟨m, [], rfl, rfl, (fun _ h => by cases h)⟩, ?_, ?_⟩
  · rintro i e S' acc he _ ⟨m, rs, rfl, rfl, hrs⟩
    rw [List.getElem?_map] at he
    cases hx : mu[i]? with
    | none => rw [hx] at he; cases he
    | some x =>
    rw [hx] at he
    cases he
    have hxm := hmu x (List.mem_of_getElem? hx)
    refine rg_name ?_
    repeat trivial
    refine tk (l := m) rfl (by omega) fun m z hz => ?_
    repeat trivial
    refine iteC (fun _ => ?_) fun _ => ?_
    · repeat trivial
      exact ⟨m, rs ++ [x], rfl, by simp, hrs.snoc hxm.1 hxm.2⟩
    · exact ⟨m, rs, rfl, rfl, hrs⟩
  · rintro S' acc hacc ⟨m, rs, rfl, rfl, hrs⟩
    rw [if_neg Bool.false_ne_true]
    rw [rsD_len, rsD_len] at hacc
    trivial
    refine re_lst ?_
    repeat trivial
    exact ⟨[iN n, .lst (rsD rs)], rfl, by simp, end1_im rfl rfl (hR m n rs n1 n8 hrs (by omega))⟩
end
end K78

set_option Elab.async false
set_option linter.all false
set_option maxRecDepth 100000
set_option maxHeartbeats 4000000
namespace K78
open PySem PySem.Spec PyProof.Rows L2 Dt
local macro_rules | `(tactic| trivial) => `(tactic| first
  | with_reducible refine re_many (‹Tx _ _›) ?_ | with_reducible refine re_all (‹Tx _ _›) ?_ | with_reducible refine re_size (‹Tx _ _›) ?_ | with_reducible refine re_runs (‹Tx _ _›) ?_ | with_reducible refine re_gone (‹Tx _ _›) ?_ | with_reducible refine re_KIND (‹Tx _ _›) ?_ | with_reducible refine re_there (‹Tx _ _›) ?_
  | with_reducible refine rs_seq ?_ | with_reducible refine rs_set ?_ | with_reducible refine rs_asg ?_ | with_reducible refine rs_ret ?_ | with_reducible refine rs_retN ?_ | with_reducible refine rs_drop ?_ | with_reducible refine rs_next ?_ | with_reducible refine rs_break ?_ | with_reducible refine rs_cont ?_ | with_reducible refine rs_if ?_
  | with_reducible refine re_var (by with_unfolding_all rfl) (by with_unfolding_all exact fun h => nomatch h) ?_ | with_reducible refine re_c ?_ | with_reducible refine ra_nil ?_ | with_reducible refine ra_cons ?_ | with_reducible refine re_cb ?_ | with_reducible refine re_call ?_ | with_reducible refine re_op ?_ | with_reducible refine od_int ?_
  | with_reducible refine re_andV ?_ | with_reducible refine re_orV ?_ | with_reducible refine re_notV ?_ | with_reducible refine re_if ?_ | with_reducible refine rt_test ?_ | with_reducible refine rt_B ?_ | with_reducible refine rt_not ?_ | with_reducible refine rt_and ?_ | with_reducible refine rt_or ?_ | with_reducible refine rt_yes ?_
  | with_reducible refine re_tup ?_ | with_reducible refine re_neg ?_ | refine ⟨_, rfl, ?_⟩ | refine ⟨‹Mkt.Ok _›, ?_⟩)
theorem cut_rs {rs : List (Nat × Nat)} {n : Nat} (h : RunsOk n rs) (lo hi : Option Int) : ∃ rs', Dt.cutD (rsD rs) lo hi = rsD rs' ∧ RunsOk n rs' ∧ rs'.length ≤ rs.length := by
  refine ⟨(rs.drop (HT.sIx (rsD rs).length 0 lo)).take (HT.sIx (rsD rs).length (rsD rs).length hi - HT.sIx (rsD rs).length 0 lo), ?_, fun r hr => h r (List.mem_of_mem_drop (List.mem_of_mem_take hr)), ?_⟩
  · unfold Dt.cutD
    show _ = List.map prD _
    rw [List.map_take, List.map_drop]
  · rw [List.length_take, List.length_drop]; omega
theorem cut7 {rs : List (Nat × Nat)} : (Dt.cutD (rsD rs) none (some 7)).length ≤ 7 := by
  unfold Dt.cutD
  rw [List.length_take]
  refine Nat.le_trans (Nat.min_le_left _ _) (Nat.le_trans (Nat.sub_le _ _) ?_)
  unfold HT.sIx
  simp
  omega
section
variable {c : Cn} {mg : Str → Option Value} {base : Heap} (T : Tx c.K mg)
variable {G : SG} {S : SC} {Q : SC → Sl → Prop} {ta : TE}
def sizes : List Nat := [3, 1, 2, 4, 5, 3, 4, 3, 6, 2]
theorem sizes_ok : ∀ x < 10, ∃ n, sizes[x]? = some n ∧ 1 ≤ n ∧ n ≤ 8 := by
  intro x hx
  refine ⟨sizes[x]'(by show x < 10; exact hx), List.getElem?_eq_getElem _, ?_⟩
  revert x
  decide
def W_law_market : Wp := fun A S R => ∃ (l : List Int), A = [.pt 0, .im (iN 7)] ∧ S = [.lst (lsD l)] ∧ ∀ (m : List Int) (n : Nat) (rs : List (Nat × Nat)) (g : List Nat), 1 ≤ n → n ≤ 8 → RunsOk n rs → rs.length ≤ 7 → srt g → (∀ q ∈ g, q < rs.length) → R [.lst (lsD m)] (.im (.lst [iN n, .lst (rsD rs), .lst (nsD g)]))
theorem len_law_market : ∀ A S R, W_law_market A S R → A.length = 2 := by rintro A S R ⟨l, rfl, _⟩; rfl
theorem ok_law_market : FnOk c.P c.w c.K mg base CX0 3 (T.f "_law_market") (T.fd "_law_market") ["draws", "most"] (spD c W_law_market) := by
  refine mk_law_market T (ok_law_take T) (ok_law_special T) (ok_law_chains T) len_law_market ?_
  rintro A S R ⟨l, rfl, rfl, hR⟩
  unfold t_law_market
  repeat trivial
  refine tk (l := l) rfl (by omega) fun m w hw => ?_
  refine rs_seq (rs_mono (P' := { nx := fun G' S' => ∃ (m : List Int) (n : Nat) (rs : List (Nat × Nat)) (s3 : Sl), G' = [.pt 0, .im (iN 7), .im (iN w), s3, .im (iN n), .im (.lst (rsD rs)), .no, .no] ∧ S' = [.lst (lsD m)] ∧ 1 ≤ n ∧ n ≤ 8 ∧ RunsOk n rs ∧ rs.length ≤ 1000, rt := fun _ _ => False, bk := fun _ _ => False, ct := fun _ _ => False }) ?_ ?_ (fun _ _ h => h.elim) (fun _ _ h => h.elim) fun _ _ h => h.elim)
  · repeat trivial
    refine iteC (fun _ => ?_) fun _ => ?_
    · repeat trivial
      refine call1 (x := .lst (lsD m)) rfl rfl (by simp) ⟨m, rfl, rfl, fun m2 n rs n1 n8 hrs hl x' e _ => ?_⟩
      injection e with e
      subst e
      repeat trivial
      refine Dt.od_ix (.lst (.im _)) (e := iN n) (by rfl) ?_
      repeat trivial
      refine Dt.od_ix (.lst (.im _)) (e := .lst (rsD rs)) (by rfl) ?_
      exact ⟨m2, n, rs, _, rfl, rfl, n1, n8, hrs, hl⟩
    · repeat trivial
      refine re_lst ?_
      repeat trivial
      refine ⟨nsD sizes, rfl, by decide, ?_⟩
      repeat trivial
      refine tk (l := m) rfl (by omega) fun m2 x hx => ?_
      obtain ⟨n, hn, n1, n8⟩ := sizes_ok x (by omega)
      refine Dt.od_ix (.lst (.im _)) (e := iN n) (atI_nat (by rw [List.getElem?_map, hn]; rfl)) ?_
      refine rs_seq (rs_mono (P' := { nx := fun G' S' => ∃ (m : List Int) (n : Nat), G' = [.pt 0, .im (iN 7), .im (iN w), .no, .im (iN n), .no, .no, .no] ∧ S' = [.lst (lsD m)] ∧ 1 ≤ n ∧ n ≤ 8, rt := fun _ _ => False, bk := fun _ _ => False, ct := fun _ _ => False }) ?_ ?_ (fun _ _ h => h.elim) (fun _ _ h => h.elim) fun _ _ h => h.elim)
      · repeat trivial
        refine tk (l := m2) rfl (by omega) fun m3 y hy => ?_
        repeat trivial
        refine Dt.od_eq (by rfl) ⟨_, rfl, iteC (fun _ => ?_) fun _ => ?_⟩
        · repeat trivial
          exact ⟨m3, 8, rfl, rfl, by decide, by decide⟩
        · exact rs_next ⟨m3, n, rfl, rfl, n1, n8⟩
      · rintro _ _ ⟨m3, n, rfl, rfl, n1, n8⟩
        repeat trivial
        refine call1 (x := .lst (lsD m3)) rfl rfl (by simp) ⟨m3, n, rfl, rfl, n1, n8, fun m4 rs hrs hl x' e _ => ?_⟩
        injection e with e
        subst e
        exact ⟨m4, n, rs, _, rfl, rfl, n1, n8, hrs, hl⟩
  rintro _ _ ⟨m, n, rs, s3, rfl, rfl, n1, n8, hrs, hl⟩
  repeat trivial
  refine tk (l := m) rfl (by omega) fun m2 t ht => ?_
  refine rs_seq (rs_mono (P' := { nx := fun G' S' => ∃ (rs : List (Nat × Nat)), G' = [.pt 0, .im (iN 7), .im (iN w), s3, .im (iN n), .im (.lst (rsD rs)), .im (iN t), .no] ∧ S' = [.lst (lsD m2)] ∧ RunsOk n rs ∧ rs.length ≤ 2000, rt := fun _ _ => False, bk := fun _ _ => False, ct := fun _ _ => False }) ?_ ?_ (fun _ _ h => h.elim) (fun _ _ h => h.elim) fun _ _ h => h.elim)
  · repeat trivial
    refine cb_len (.lst (.im _)) ?_
    repeat trivial
    refine iteC (fun _ => ?_) fun _ => rs_next ⟨rs, rfl, rfl, hrs, by omega⟩
    obtain ⟨r1, e1, h1, l1⟩ := cut_rs hrs (some (t : Int)) none
    obtain ⟨r2, e2, h2, l2⟩ := cut_rs hrs none (some (t : Int))
    repeat trivial
    refine re_slL (re_var rfl (by intro h; cases h) (ro_some (re_var rfl (by intro h; cases h) ⟨_, rfl, ro_none ⟨_, .im _, ?_⟩⟩)))
    refine re_slL (re_var rfl (by intro h; cases h) (ro_none (ro_some (re_var rfl (by intro h; cases h) ⟨_, rfl, ⟨_, .im _, ?_⟩⟩))))
    rw [e1, e2]
    refine od_cat (.im _) (.im _) (by rw [rsD_len, rsD_len]; omega) ?_
    rw [← List.map_append]
    exact ⟨r1 ++ r2, rfl, rfl, (fun r hr => (List.mem_append.mp hr).elim (h1 r) (h2 r)), by rw [List.length_append]; omega⟩
  rintro _ _ ⟨rs, rfl, rfl, hrs, hl⟩
  obtain ⟨r1, e1, h1, l1⟩ := cut_rs hrs none (some 7)
  have l7 : r1.length ≤ 7 := by
    have := cut7 (rs := rs)
    rw [e1, rsD_len] at this
    exact this
  trivial
  trivial
  refine re_slL (re_var rfl (by intro h; cases h) (ro_none (ro_some (re_var rfl (by intro h; cases h) ⟨7, rfl, ⟨_, .im _, ?_⟩⟩))))
  rw [e1]
  repeat trivial
  refine re_lst (ra_nil ⟨[], rfl, by decide, ?_⟩)
  refine rs_seq (rs_mono (P' := { nx := fun G' S' => ∃ (m : List Int) (g : List Nat), G' = [.pt 0, .im (iN 7), .im (iN w), s3, .im (iN n), .im (.lst (rsD r1)), .im (iN t), .im (.lst (nsD g))] ∧ S' = [.lst (lsD m)] ∧ srt g ∧ ∀ q ∈ g, q < r1.length, rt := fun _ _ => False, bk := fun _ _ => False, ct := fun _ _ => False }) ?_ ?_ (fun _ _ h => h.elim) (fun _ _ h => h.elim) fun _ _ h => h.elim)
  · repeat trivial
    refine tk (l := m2) rfl (by omega) fun m3 y hy => ?_
    repeat trivial
    refine Dt.od_eq (by rfl) ⟨_, rfl, iteC (fun _ => ?_) fun _ => iteN rfl (rs_next ⟨m3, [], rfl, rfl, .nil, (fun _ h => by cases h)⟩)⟩
    repeat trivial
    refine cb_len (.lst (.im _)) ?_
    repeat trivial
    refine iteC (fun h => ?_) fun _ => rs_next ⟨m3, [], rfl, rfl, .nil, (fun _ h => by cases h)⟩
    have h := of_decide_eq_true h
    rw [rsD_len] at h
    trivial
    refine re_lst ?_
    repeat trivial
    refine cb_len (.lst (.im _)) ?_
    repeat trivial
    refine tk (l := m3) rfl (by rw [rsD_len]; omega) fun m4 z hz => ?_
    rw [rsD_len] at hz
    repeat trivial
    exact ⟨[iN z], rfl, by simp, m4, [z], rfl, rfl, by simp, (fun q hq => by
      have : q = z := by simpa using hq
      omega)⟩
  rintro _ _ ⟨m3, g, rfl, rfl, hg, hgl⟩
  trivial
  refine re_lst ?_
  repeat trivial
  exact ⟨[iN n, .lst (rsD r1), .lst (nsD g)], rfl, by simp, end1_im rfl rfl (hR m3 n r1 g n1 n8 h1 l7 hg hgl)⟩
end
end K78

set_option Elab.async false
set_option linter.all false
set_option maxRecDepth 100000
set_option maxHeartbeats 4000000
namespace K78
open PySem PySem.Spec PyProof.Rows L2 Dt
local macro_rules | `(tactic| trivial) => `(tactic| first
  | with_reducible refine re_many (‹Tx _ _›) ?_ | with_reducible refine re_all (‹Tx _ _›) ?_ | with_reducible refine re_size (‹Tx _ _›) ?_ | with_reducible refine re_runs (‹Tx _ _›) ?_ | with_reducible refine re_gone (‹Tx _ _›) ?_ | with_reducible refine re_KIND (‹Tx _ _›) ?_ | with_reducible refine re_there (‹Tx _ _›) ?_
  | with_reducible refine rs_seq ?_ | with_reducible refine rs_set ?_ | with_reducible refine rs_asg ?_ | with_reducible refine rs_ret ?_ | with_reducible refine rs_retN ?_ | with_reducible refine rs_drop ?_ | with_reducible refine rs_next ?_ | with_reducible refine rs_break ?_ | with_reducible refine rs_cont ?_ | with_reducible refine rs_if ?_
  | with_reducible refine re_var (by with_unfolding_all rfl) (by with_unfolding_all exact fun h => nomatch h) ?_ | with_reducible refine re_c ?_ | with_reducible refine ra_nil ?_ | with_reducible refine ra_cons ?_ | with_reducible refine re_cb ?_ | with_reducible refine re_call ?_ | with_reducible refine re_op ?_ | with_reducible refine od_int ?_
  | with_reducible refine re_andV ?_ | with_reducible refine re_orV ?_ | with_reducible refine re_notV ?_ | with_reducible refine re_if ?_ | with_reducible refine rt_test ?_ | with_reducible refine rt_B ?_ | with_reducible refine rt_not ?_ | with_reducible refine rt_and ?_ | with_reducible refine rt_or ?_ | with_reducible refine rt_yes ?_
  | with_reducible refine re_tup ?_ | with_reducible refine re_neg ?_ | refine ⟨_, rfl, ?_⟩ | refine ⟨‹Mkt.Ok _›, ?_⟩)
section
variable {c : Cn} {mg : Str → Option Value} {base : Heap} (T : Tx c.K mg)
variable {G : SG} {S : SC} {Q : SC → Sl → Prop} {ta : TE}
def W_law_int : Wp := fun A S R => ∃ i : Int, A = [.im (iD i)] ∧ S = [] ∧ R [] (.im (bD true))
theorem len_law_int : ∀ A S R, W_law_int A S R → A.length = 1 := by rintro A S R ⟨i, rfl, _⟩; rfl
theorem ok_law_int : FnOk c.P c.w c.K mg base CX0 1 (T.f "_law_int") (T.fd "_law_int") ["value"] (spD c W_law_int) := by
  refine mk_law_int T len_law_int ?_
  rintro A S R ⟨i, rfl, rfl, hR⟩
  unfold t_law_int
  repeat trivial
  refine cb_isi (t := "int") rfl kit_int.1 ?_
  refine ⟨_, rfl, iteY rfl ?_⟩
  repeat trivial
  refine cb_isi (t := "int") rfl kit_int.2 ?_
  repeat trivial
  exact end_im hR
def W_law_set : Wp := fun A S R => ∃ (l : List Nat) (many : Nat), A = [.im (tN l), .im (iN many)] ∧ S = [] ∧ srt l ∧ (∀ q ∈ l, q < many) ∧ R [] (.im (bD true))
theorem len_law_set : ∀ A S R, W_law_set A S R → A.length = 2 := by rintro A S R ⟨l, many, rfl, _⟩; rfl
theorem ok_law_set : FnOk c.P c.w c.K mg base CX0 2 (T.f "_law_set") (T.fd "_law_set") ["value", "many"] (spD c W_law_set) := by
  refine mk_law_set T (ok_law_int T) len_law_set ?_
  rintro A S R ⟨l, many, rfl, rfl, hs, hl, hR⟩
  unfold t_law_set
  repeat trivial
  refine cb_isi (t := "tuple") rfl (b := true) (by decide +kernel) ?_
  refine ⟨_, rfl, iteN rfl ?_⟩
  repeat trivial
  refine rs_for (rw_tup ?_)
  repeat trivial
  refine ⟨nsD l, .inl rfl, fun i G S => ∃ (x : Int) (s3 : Sl), G = [.im (tN l), .im (iN many), .im (iD x), s3] ∧ S = [] ∧ ∀ q ∈ l.drop i, x < (q : Int), ⟨-1, _, rfl, rfl, fun q _ => by omega⟩, ?_, ?_⟩
  · rintro i e G' S' he ⟨x, s3, rfl, rfl, hx⟩
    obtain ⟨q, hq, rfl⟩ := nsD_get he
    have hil : i < l.length := (List.getElem?_eq_some_iff.mp hq).1
    have eq : l.drop i = q :: l.drop (i + 1) := by
      rw [List.drop_eq_getElem_cons hil]
      rw [(List.getElem?_eq_some_iff.mp hq).2]
    have hs2 : srt (l.drop i) := hs.drop
    rw [eq] at hx hs2
    have hxq := hx q List.mem_cons_self
    have hqm := hl q (List.mem_of_getElem? hq)
    refine rg_name ?_
    repeat trivial
    refine call0 (by simp) ⟨_, rfl, rfl, fun _ => ⟨_, rfl, iteN rfl ?_⟩⟩
    repeat trivial
    refine iteN (decide_eq_false (by omega)) ?_
    repeat trivial
    refine iteN (decide_eq_false (by omega)) ?_
    repeat trivial
    exact ⟨q, _, rfl, rfl, fun y hy => by have := (List.pairwise_cons.mp hs2).1 y hy; omega⟩
  · rintro G' S' ⟨x, s3, rfl, rfl, hx⟩
    repeat trivial
    exact end_im hR
def W_law_cover : Wp := fun A S R => ∃ (M : Mkt) (l : List Nat), A = [.im (iN M.n), .im (.lst (rsD M.runs)), .im (tN l)] ∧ S = [] ∧ M.Ok ∧ (∀ q ∈ l, q < M.runs.length) ∧ R [] (.im (.lst (nsD (M.cov l))))
theorem len_law_cover : ∀ A S R, W_law_cover A S R → A.length = 3 := by rintro A S R ⟨M, l, rfl, _⟩; rfl
theorem cov_map (M : Mkt) (l : List Nat) : nsD (M.cov l) = (List.range M.n).map fun p => iN (M.cnt l p) := by
  show List.map iN (List.map _ _) = _
  rw [List.map_map]; rfl
theorem cnt_snoc (M : Mkt) (l : List Nat) (q p : Nat) : M.cnt (l ++ [q]) p = M.cnt l p + if M.b q ≤ p ∧ p < M.e q then 1 else 0 := by
  unfold Mkt.cnt Mkt.cv
  rw [List.filter_append, List.length_append]
  by_cases h : M.b q ≤ p ∧ p < M.e q
  · simp [h]
  · simp [h]
theorem ok_law_cover : FnOk c.P c.w c.K mg base CX0 1 (T.f "_law_cover") (T.fd "_law_cover") ["size", "runs", "parts"] (spD c W_law_cover) := by
  refine mk_law_cover T len_law_cover ?_
  rintro A S R ⟨M, l, rfl, rfl, ok, hl, hR⟩
  unfold t_law_cover
  have n1 := ok.n1
  have n8 := ok.n8
  refine rs_seq (rs_set (re_lcW true (gon_name (by simp)) (rw_rng1 ?_)))
  repeat trivial
  refine ⟨by omega, by omega, by rw [rangeD_length]; omega, fun i S' acc => S' = [] ∧ acc = (List.range i).map (fun _ => iD 0), ⟨rfl, rfl⟩, ?_, ?_⟩
  · rintro i e S' acc he _ ⟨rfl, rfl⟩
    refine rg_name (rt_yes (iteY rfl (re_c ⟨_, rfl, rfl, ?_⟩)))
    rw [List.range_succ, List.map_append]; rfl
  rintro S' acc _ ⟨rfl, rfl⟩
  rw [if_pos rfl, rangeD_length, Int.toNat_natCast]
  refine rs_seq (rs_for (rw_tup ?_))
  repeat trivial
  refine ⟨nsD l, .inl rfl, fun i G S => i ≤ l.length ∧ (∃ s1 s2, G = [.im (iN M.n), .im (.lst (rsD M.runs)), .im (tN l), .pt 0, s1, s2]) ∧ S = [.lst (nsD (M.cov (l.take i)))], ⟨Nat.zero_le _, ⟨_, _, rfl⟩, ?_⟩, ?_, ?_⟩
  · show [Cell.lst _] = [Cell.lst _]
    rw [cov_map]; rfl
  · rintro i e G' S' he ⟨hi, ⟨s1, s2, rfl⟩, rfl⟩
    obtain ⟨q, hq, rfl⟩ := nsD_get he
    have hil : i < l.length := (List.getElem?_eq_some_iff.mp hq).1
    have hqr := hl q (List.mem_of_getElem? hq)
    have be := ok.be hqr
    refine rg_name ?_
    refine rs_for (rw_rng2 ?_)
    repeat trivial
    refine od_ixN (e := prD (M.b q, M.e q)) (.lst (.im _)) (by rw [List.getElem?_map, Mkt.run_get hqr]; rfl) ?_
    repeat trivial
    refine Dt.od_ix (.tup _) (e := iN (M.b q)) (by rfl) ?_
    repeat trivial
    refine od_ixN (e := prD (M.b q, M.e q)) (.lst (.im _)) (by rw [List.getElem?_map, Mkt.run_get hqr]; rfl) ?_
    repeat trivial
    refine Dt.od_ix (.tup _) (e := iN (M.e q)) (by rfl) ?_
    refine ra_nil ⟨_, _, rfl, ⟨by omega, by omega, by omega, by omega⟩, ?_⟩
    refine ⟨fun k G S => k ≤ M.e q - M.b q ∧ (∃ s2, G = [.im (iN M.n), .im (.lst (rsD M.runs)), .im (tN l), .pt 0, .im (iN q), s2]) ∧ S = [.lst ((List.range M.n).map fun p => iN (M.cnt (l.take i) p + if M.b q ≤ p ∧ p < M.b q + k then 1 else 0))], ⟨Nat.zero_le _, ⟨_, rfl⟩, ?_⟩, ?_, ?_⟩
    · show [Cell.lst _] = [Cell.lst _]
      rw [cov_map]
      congr 2
      refine List.map_congr_left fun p _ => ?_
      have : ¬ (M.b q ≤ p ∧ p < M.b q + 0) := by omega
      rw [if_neg this]; rfl
    · rintro k e G' S' he ⟨hk, ⟨s2, rfl⟩, rfl⟩
      obtain ⟨hk2, rfl⟩ := rangeD_get he
      have hk3 : k < M.e q - M.b q := by omega
      refine rg_name ?_
      refine rs_augS ?_
      repeat trivial
      refine ⟨((M.b q + k : Nat) : Int), ((M.cnt (l.take i) (M.b q + k) : Nat) : Int), _, M.b q + k, by simp, rfl, ixN_nat (by simp; omega), ?_, ?_⟩
      · rw [List.getElem?_map, List.getElem?_range (by omega)]
        show some (iN (_ + if _ then 1 else 0)) = _
        rw [if_neg (by omega)]; rfl
      repeat trivial
      refine ⟨_, _, rfl, rfl, ixN_nat (by simp; omega), ?_⟩
      refine ⟨by omega, ⟨_, rfl⟩, ?_⟩
      show [Cell.lst _] = [Cell.lst _]
      rw [set_range (by omega)]
      congr 2
      refine List.map_congr_left fun j _ => ?_
      by_cases h1 : j = M.b q + k
      · subst h1
        have a1 : ¬ (M.b q ≤ M.b q + k ∧ M.b q + k < M.b q + k) := by omega
        have a2 : M.b q ≤ M.b q + k ∧ M.b q + k < M.b q + (k + 1) := by omega
        rw [if_pos rfl, if_pos a2]
        simp
      · rw [if_neg h1]
        have : (M.b q ≤ j ∧ j < M.b q + k) ↔ (M.b q ≤ j ∧ j < M.b q + (k + 1)) := by omega
        simp only [this]
    · rintro G' S' ⟨hk, ⟨s2, rfl⟩, rfl⟩
      refine ⟨hil, ⟨_, _, rfl⟩, ?_⟩
      show [Cell.lst _] = [Cell.lst _]
      rw [rangeD_length, take_succ_of hq, cov_map]
      congr 2
      refine List.map_congr_left fun p _ => ?_
      show iN _ = iN (M.cnt (l.take i ++ [q]) p)
      rw [cnt_snoc]
      have : (M.b q ≤ p ∧ p < M.b q + ((M.e q : Int) - (M.b q : Int)).toNat) ↔ (M.b q ≤ p ∧ p < M.e q) := by omega
      simp only [this]
  · rintro G' S' ⟨_, ⟨s1, s2, rfl⟩, rfl⟩
    rw [nsD_len, List.take_length]
    repeat trivial
    exact end_frz rfl rfl hR
end
end K78

set_option Elab.async false
set_option linter.all false
set_option maxRecDepth 100000
set_option maxHeartbeats 4000000
namespace K78
open PySem PySem.Spec PyProof.Rows L2 Dt
local macro_rules | `(tactic| trivial) => `(tactic| first
  | with_reducible refine re_many (‹Tx _ _›) ?_ | with_reducible refine re_all (‹Tx _ _›) ?_ | with_reducible refine re_size (‹Tx _ _›) ?_ | with_reducible refine re_runs (‹Tx _ _›) ?_ | with_reducible refine re_gone (‹Tx _ _›) ?_ | with_reducible refine re_KIND (‹Tx _ _›) ?_ | with_reducible refine re_there (‹Tx _ _›) ?_
  | with_reducible refine rs_seq ?_ | with_reducible refine rs_set ?_ | with_reducible refine rs_asg ?_ | with_reducible refine rs_ret ?_ | with_reducible refine rs_retN ?_ | with_reducible refine rs_drop ?_ | with_reducible refine rs_next ?_ | with_reducible refine rs_break ?_ | with_reducible refine rs_cont ?_ | with_reducible refine rs_if ?_
  | with_reducible refine re_var (by with_unfolding_all rfl) (by with_unfolding_all exact fun h => nomatch h) ?_ | with_reducible refine re_c ?_ | with_reducible refine ra_nil ?_ | with_reducible refine ra_cons ?_ | with_reducible refine re_cb ?_ | with_reducible refine re_call ?_ | with_reducible refine re_op ?_ | with_reducible refine od_int ?_
  | with_reducible refine re_andV ?_ | with_reducible refine re_orV ?_ | with_reducible refine re_notV ?_ | with_reducible refine re_if ?_ | with_reducible refine rt_test ?_ | with_reducible refine rt_B ?_ | with_reducible refine rt_not ?_ | with_reducible refine rt_and ?_ | with_reducible refine rt_or ?_ | with_reducible refine rt_yes ?_
  | with_reducible refine re_tup ?_ | with_reducible refine re_neg ?_ | refine ⟨_, rfl, ?_⟩ | refine ⟨‹Mkt.Ok _›, ?_⟩)
section
variable {c : Cn} {mg : Str → Option Value} {base : Heap} (T : Tx c.K mg)
variable {G : SG} {S : SC} {Q : SC → Sl → Prop} {ta : TE}
def W_law_all_leave : Wp := fun A S R => ∃ (M : Mkt) (i r : Nat), A = [.im (mk T M), .im (iN i), .im (iN r)] ∧ S = [] ∧ M.Ok ∧
  ((∀ a b, M.Stk i a → M.Stk (i + r) b → ∃ l, M.Left r a b l) → R [] (.im (bD true))) ∧ ((∃ a b, M.Stk i a ∧ M.Stk (i + r) b ∧ ∀ l, ¬ M.Left r a b l) → R [] (.im (bD false)))
theorem len_law_all_leave : ∀ A S R, W_law_all_leave T A S R → A.length = 3 := by rintro A S R ⟨M, i, r, rfl, _⟩; rfl
theorem ok_law_all_leave (GJ : FJ T base) : FnOk c.P c.w c.K mg base CX0 9 (T.f "_law_all_leave") (T.fd "_law_all_leave") ["market", "first", "more"] (spD c (W_law_all_leave T)) := by
  refine mk_law_all_leave T (ok_stocks_of T) (ok_stock_left T GJ) (len_law_all_leave T) ?_
  rintro A S R ⟨M, i, r, rfl, rfl, ok, hR1, hR2⟩
  unfold t_law_all_leave
  refine rs_seq (rs_for (rw_list ?_))
  repeat trivial
  refine call0 (by simp) ⟨M, _, _, rfl, rfl, ok, .num i, fun L hL _ _ => ?_⟩
  refine ⟨_, .inl rfl, fun j G S => (∃ s3 s4, G = [.im (mk T M), .im (iN i), .im (iN r), s3, s4]) ∧ S = [] ∧ ∀ x ∈ L.take j, ∀ b, M.Stk (i + r) b → ∃ l, M.Left r x b l, ⟨⟨_, _, rfl⟩, rfl, (fun x h => by cases h)⟩, ?_, ?_⟩
  · rintro j e G' S' he ⟨⟨s3, s4, rfl⟩, rfl, hd⟩
    rw [List.getElem?_map] at he
    cases hx : L[j]? with
    | none => rw [hx] at he; cases he
    | some x =>
    rw [hx] at he
    cases he
    have hjl : j < L.length := (List.getElem?_eq_some_iff.mp hx).1
    have hxf := (hL x).mp (List.mem_of_getElem? hx)
    refine rg_name ?_
    refine rs_for (rw_list ?_)
    repeat trivial
    refine call0 (by simp) ⟨M, iN (i + r), _, by simp [iN], rfl, ok, .num (i + r), fun L2 hL2 _ _ => ?_⟩
    refine ⟨_, .inl rfl, fun k G S => (∃ s4, G = [.im (mk T M), .im (iN i), .im (iN r), .im (tN x), s4]) ∧ S = [] ∧ ∀ y ∈ L2.take k, ∃ l, M.Left r x y l, ⟨⟨_, rfl⟩, rfl, (fun x h => by cases h)⟩, ?_, ?_⟩
    · rintro k e G' S' he ⟨⟨s4, rfl⟩, rfl, hd2⟩
      rw [List.getElem?_map] at he
      cases hy : L2[k]? with
      | none => rw [hy] at he; cases he
      | some y =>
      rw [hy] at he
      cases he
      have hyf := (hL2 y).mp (List.mem_of_getElem? hy)
      refine rg_name ?_
      repeat trivial
      refine call0 (by simp) ⟨M, i, r, x, y, rfl, rfl, ok, hxf, hyf, fun l hl _ => ?_, fun hn _ => ?_⟩
      · repeat trivial
        refine od_isNo (not_nD (by intro h; cases h)) ⟨_, rfl, iteN rfl (rs_next ⟨⟨_, rfl⟩, rfl, fun z hz => ?_⟩)⟩
        rw [take_succ_of hy] at hz
        rcases List.mem_append.mp hz with z1 | z1
        · exact hd2 z z1
        · have : z = y := by simpa using z1
          subst this
          exact ⟨l, hl⟩
      · repeat trivial
        refine od_isNo0 ⟨_, rfl, iteY rfl ?_⟩
        repeat trivial
        exact end_im (hR2 ⟨x, y, hxf, hyf, hn⟩)
    · rintro G' S' ⟨⟨s4, rfl⟩, rfl, hd2⟩
      rw [List.length_map, List.take_length] at hd2
      refine ⟨⟨_, _, rfl⟩, rfl, fun z hz => ?_⟩
      rw [take_succ_of hx] at hz
      rcases List.mem_append.mp hz with z1 | z1
      · exact hd z z1
      · have : z = x := by simpa using z1
        subst this
        exact fun b hb => hd2 b ((hL2 b).mpr hb)
  · rintro G' S' ⟨⟨s3, s4, rfl⟩, rfl, hd⟩
    rw [List.length_map, List.take_length] at hd
    repeat trivial
    exact end_im (hR1 fun a b ha hb => hd a ((hL a).mpr ha) b hb)
def W_law_lost_chains : Wp := fun A S R => ∃ (M : Mkt) (s : Nat), A = [.im (mk T M), .im (iN s)] ∧ S = [] ∧ M.Ok ∧ (∀ a g t, M.Stk 1 a → srt g → (∀ x, x ∈ g ↔ x ∈ M.gone ∨ x ∈ a) → (Mkt.mk M.n M.runs g).Str t → s ≤ t + 1) ∧ R [] (.im (bD true))
theorem len_law_lost_chains : ∀ A S R, W_law_lost_chains T A S R → A.length = 2 := by rintro A S R ⟨M, s, rfl, _⟩; rfl
theorem ok_law_lost_chains (GJ : FJ T base) : FnOk c.P c.w c.K mg base CX0 8 (T.f "_law_lost_chains") (T.fd "_law_lost_chains") ["market", "most"] (spD c (W_law_lost_chains T)) := by
  refine mk_law_lost_chains T (ok_stocks_of T) (ok_strength T) (ok_lose T GJ) (len_law_lost_chains T) ?_
  rintro A S R ⟨M, s, rfl, rfl, ok, hst, hR⟩
  unfold t_law_lost_chains
  refine rs_seq (rs_for (rw_list ?_))
  repeat trivial
  refine call0 (by simp) ⟨M, _, _, rfl, rfl, ok, .num 1, fun L hL _ _ => ?_⟩
  refine ⟨_, .inl rfl, fun j G S => (∃ s2, G = [.im (mk T M), .im (iN s), s2]) ∧ S = [], ⟨⟨_, rfl⟩, rfl⟩, ?_, ?_⟩
  · rintro j e G' S' he ⟨⟨s2, rfl⟩, rfl⟩
    rw [List.getElem?_map] at he
    cases hx : L[j]? with
    | none => rw [hx] at he; cases he
    | some x =>
    rw [hx] at he
    cases he
    have hxf := (hL x).mp (List.mem_of_getElem? hx)
    refine rg_name ?_
    trivial
    trivial
    trivial
    trivial
    refine ra_cons (re_meth (re_var rfl (by intro h; cases h) ⟨_, _, .im _ _ _, by unfold fldN; decide, ?_⟩))
    repeat trivial
    refine call0 (by simp) ⟨M, _, x, rfl, rfl, ok, .tup _, hxf.s, hxf.lt, fun g sg hg okg _ => ?_⟩
    repeat trivial
    refine call0 (by simp) ⟨_, rfl, rfl, okg, fun t ht _ => ?_⟩
    have := hst x g t hxf sg hg ht
    repeat trivial
    refine iteN (decide_eq_false (by omega)) ?_
    exact rs_next ⟨⟨_, rfl⟩, rfl⟩
  · rintro G' S' ⟨⟨s2, rfl⟩, rfl⟩
    repeat trivial
    exact end_im hR
end
end K78

set_option Elab.async false
set_option linter.all false
set_option maxRecDepth 100000
set_option maxHeartbeats 4000000
namespace K78
open PySem PySem.Spec PyProof.Rows L2 Dt
local macro_rules | `(tactic| trivial) => `(tactic| first
  | with_reducible refine re_many (‹Tx _ _›) ?_ | with_reducible refine re_all (‹Tx _ _›) ?_ | with_reducible refine re_size (‹Tx _ _›) ?_ | with_reducible refine re_runs (‹Tx _ _›) ?_ | with_reducible refine re_gone (‹Tx _ _›) ?_ | with_reducible refine re_KIND (‹Tx _ _›) ?_ | with_reducible refine re_there (‹Tx _ _›) ?_
  | with_reducible refine rs_seq ?_ | with_reducible refine rs_set ?_ | with_reducible refine rs_asg ?_ | with_reducible refine rs_ret ?_ | with_reducible refine rs_retN ?_ | with_reducible refine rs_drop ?_ | with_reducible refine rs_next ?_ | with_reducible refine rs_break ?_ | with_reducible refine rs_cont ?_ | with_reducible refine rs_if ?_
  | with_reducible refine re_var (by with_unfolding_all rfl) (by with_unfolding_all exact fun h => nomatch h) ?_ | with_reducible refine re_c ?_ | with_reducible refine ra_nil ?_ | with_reducible refine ra_cons ?_ | with_reducible refine re_cb ?_ | with_reducible refine re_call ?_ | with_reducible refine re_op ?_ | with_reducible refine od_int ?_
  | with_reducible refine re_andV ?_ | with_reducible refine re_orV ?_ | with_reducible refine re_notV ?_ | with_reducible refine re_if ?_ | with_reducible refine rt_test ?_ | with_reducible refine rt_B ?_ | with_reducible refine rt_not ?_ | with_reducible refine rt_and ?_ | with_reducible refine rt_or ?_ | with_reducible refine rt_yes ?_
  | with_reducible refine re_tup ?_ | with_reducible refine re_neg ?_ | refine ⟨_, rfl, ?_⟩ | refine ⟨‹Mkt.Ok _›, ?_⟩)
theorem pyDs_ns : ∀ l : List Nat, pyDs (nsD l) = some (l.map fun n : Nat => PyData.int n)
  | [] => rfl
  | n :: l => by
    show (match pyD (iN n), pyDs (nsD l) with | some a, some b => some (a :: b) | _, _ => none) = _
    rw [pyDs_ns l]
    rfl
theorem lay_ns : ∀ l : List Nat, PyData.canLayAll0 (l.map fun n : Nat => PyData.int n) = true ∧ PyData.depthAll (l.map fun n : Nat => PyData.int n) = 0
  | [] => ⟨rfl, rfl⟩
  | n :: l => by
    have ih := lay_ns l
    constructor
    · show (true && PyData.canLayAll0 _) = true
      rw [ih.1]; rfl
    · show max 0 (PyData.depthAll _) = 0
      rw [ih.2]; rfl
theorem shaped_ns (l : List Nat) : SeqAt.shaped (.list (l.map fun n : Nat => PyData.int n)) = true := by
  unfold SeqAt.shaped
  have h := lay_ns l
  rw [Bool.and_eq_true]
  refine ⟨h.1, decide_eq_true ?_⟩
  show PyData.depthAll _ + 1 ≤ 64
  rw [h.2]
  decide
theorem eqv_ns : ∀ l : List Nat, PyData.eqvAll (l.map fun n : Nat => PyData.int n) (l.map fun n : Nat => PyData.int n) = true
  | [] => rfl
  | n :: l => by
    show ((n : Int) == (n : Int) && PyData.eqvAll _ _) = true
    rw [eqv_ns l]; simp
section
variable {c : Cn} {mg : Str → Option Value} {base : Heap} (T : Tx c.K mg)
variable {G : SG} {S : SC} {Q : SC → Sl → Prop} {ta : TE}
theorem eq_ns {l : List Nat} (q : Q S (.im (bD true))) : OpD c (rEqD c.K) S (.im (.lst (nsD l))) (.im (.lst (nsD l))) Q := by
  have hp : pyD (.lst (nsD l)) = some (.list (l.map fun n : Nat => PyData.int n)) := by
    show (pyDs (nsD l)).map PyData.list = _
    rw [pyDs_ns]; rfl
  refine od_eqD hp hp (shaped_ns l) (shaped_ns l) ?_
  have : PyData.eqv (.list (l.map fun n : Nat => PyData.int n)) (.list (l.map fun n : Nat => PyData.int n)) = true := eqv_ns l
  rw [this]; exact q
def W_law_left_right : Wp := fun A S R => ∃ (M : Mkt) (r : Nat) (a b l : List Nat), A = [.im (iN M.n), .im (.lst (rsD M.runs)), .im (tN l), .im (iN r), .im (tN a), .im (tN b)] ∧ S = [] ∧ M.Ok ∧ M.Left r a b l ∧ (∀ q ∈ b, q < M.runs.length) ∧ R [] (.im (bD true))
theorem len_law_left_right : ∀ A S R, W_law_left_right A S R → A.length = 6 := by rintro A S R ⟨M, r, a, b, l, rfl, _⟩; rfl
theorem ok_law_left_right : FnOk c.P c.w c.K mg base CX0 3 (T.f "_law_left_right") (T.fd "_law_left_right") ["size", "runs", "told", "more", "stock", "other"] (spD c W_law_left_right) := by
  refine mk_law_left_right T (ok_law_set T) (ok_law_cover T) len_law_left_right ?_
  rintro A S R ⟨M, r, a, b, l, rfl, rfl, ok, hl, hb, hR⟩
  unfold t_law_left_right
  have n1 := ok.n1
  have n8 := ok.n8
  have rl := ok.rl
  have hlt : ∀ q ∈ l, q < M.runs.length := fun q hq => hb q (hl.2.1 q hq).1
  have hll := srt_le hl.1 hlt
  repeat trivial
  refine od_isNo (not_nD (by intro h; cases h)) ⟨_, rfl, iteN rfl ?_⟩
  repeat trivial
  refine cb_len (.lst (.im _)) ?_
  repeat trivial
  rw [rsD_len]
  refine call0 (by simp) ⟨l, M.runs.length, rfl, rfl, hl.1, hlt, fun _ => ⟨_, rfl, iteN rfl ?_⟩⟩
  refine rs_next ?_
  refine rs_seq (rs_if (rt_test (re_op (re_cb (ra_cons (re_lcW false (gon_name (by simp)) (rw_tup ?_)))))))
  repeat trivial
  refine ⟨nsD l, .inl rfl, by rw [nsD_len]; omega, fun i S' acc => S' = [] ∧ acc = [], ⟨rfl, rfl⟩, ?_, ?_⟩
  · rintro i e S' acc he _ ⟨rfl, rfl⟩
    obtain ⟨q, hq, rfl⟩ := nsD_get he
    have hqq := hl.2.1 q (List.mem_of_getElem? hq)
    refine rg_name ?_
    repeat trivial
    have mem : ∀ {l : List Nat}, (q : Int) ∈ (l.map fun n : Nat => (n : Int)) ↔ q ∈ l := fun {l} => by
      constructor
      · intro h
        obtain ⟨n, hn, e⟩ := List.mem_map.mp h
        have : n = q := by omega
        exact this ▸ hn
      · exact fun h => List.mem_map.mpr ⟨q, h, rfl⟩
    refine od_inI (ns := a.map fun n : Nat => (n : Int)) (by rw [← nsD_map]; exact .tup _) ?_
    rw [if_neg Bool.false_ne_true, decide_eq_false (fun h => hqq.2 (mem.mp h))]
    refine ⟨_, rfl, iteN rfl ?_⟩
    repeat trivial
    refine od_inI (ns := b.map fun n : Nat => (n : Int)) (by rw [← nsD_map]; exact .tup _) ?_
    rw [if_pos rfl, decide_eq_true (mem.mpr hqq.1)]
    exact ⟨_, rfl, iteN rfl ⟨rfl, rfl⟩⟩
  · rintro S' acc _ ⟨rfl, rfl⟩
    rw [if_neg Bool.false_ne_true]
    repeat trivial
    refine cb_len (.lst (.im _)) ?_
    repeat trivial
    refine iteN rfl ?_
    repeat trivial
    refine call0 (by simp) ⟨M, l, rfl, rfl, ok, hlt, fun _ => ?_⟩
    refine re_lcW false (gon_name (by simp)) (rw_rng1 ?_)
    repeat trivial
    refine ⟨by omega, by omega, by rw [rangeD_length]; omega, fun i S' acc => S' = [] ∧ acc = List.replicate i (iN r), ⟨rfl, rfl⟩, ?_, ?_⟩
    · rintro i e S' acc he _ ⟨rfl, rfl⟩
      refine rg_name (rt_yes (iteY rfl (re_var rfl (by intro h; cases h) ⟨_, rfl, rfl, ?_⟩)))
      rw [List.replicate_succ']
    · rintro S' acc _ ⟨rfl, rfl⟩
      rw [if_neg Bool.false_ne_true, rangeD_length, Int.toNat_natCast]
      have e : List.replicate M.n (iN r) = nsD (M.cov l) := by
        rw [hl.2.2]
        show _ = List.map iN (List.replicate M.n r)
        rw [List.map_replicate]
      rw [e]
      exact eq_ns (end_im hR)
end
end K78

set_option Elab.async false
set_option linter.all false
set_option maxRecDepth 100000
set_option maxHeartbeats 4000000
namespace K78
open PySem PySem.Spec PyProof.Rows L2 Dt
local macro_rules | `(tactic| trivial) => `(tactic| first
  | with_reducible refine re_many (‹Tx _ _›) ?_ | with_reducible refine re_all (‹Tx _ _›) ?_ | with_reducible refine re_size (‹Tx _ _›) ?_ | with_reducible refine re_runs (‹Tx _ _›) ?_ | with_reducible refine re_gone (‹Tx _ _›) ?_ | with_reducible refine re_KIND (‹Tx _ _›) ?_ | with_reducible refine re_there (‹Tx _ _›) ?_
  | with_reducible refine rs_seq ?_ | with_reducible refine rs_set ?_ | with_reducible refine rs_asg ?_ | with_reducible refine rs_ret ?_ | with_reducible refine rs_retN ?_ | with_reducible refine rs_drop ?_ | with_reducible refine rs_next ?_ | with_reducible refine rs_break ?_ | with_reducible refine rs_cont ?_ | with_reducible refine rs_if ?_
  | with_reducible refine re_var (by with_unfolding_all rfl) (by with_unfolding_all exact fun h => nomatch h) ?_ | with_reducible refine re_c ?_ | with_reducible refine ra_nil ?_ | with_reducible refine ra_cons ?_ | with_reducible refine re_cb ?_ | with_reducible refine re_call ?_ | with_reducible refine re_op ?_ | with_reducible refine od_int ?_
  | with_reducible refine re_andV ?_ | with_reducible refine re_orV ?_ | with_reducible refine re_notV ?_ | with_reducible refine re_if ?_ | with_reducible refine rt_test ?_ | with_reducible refine rt_B ?_ | with_reducible refine rt_not ?_ | with_reducible refine rt_and ?_ | with_reducible refine rt_or ?_ | with_reducible refine rt_yes ?_
  | with_reducible refine re_tup ?_ | with_reducible refine re_neg ?_ | refine ⟨_, rfl, ?_⟩ | refine ⟨‹Mkt.Ok _›, ?_⟩)
section
variable {c : Cn} {mg : Str → Option Value} {base : Heap} (T : Tx c.K mg)
variable {G : SG} {S : SC} {Q : SC → Sl → Prop} {ta : TE}
def W_law_some_leave : Wp := fun A S R => ∃ (M : Mkt) (i r t : Nat), A = [.im (mk T M), .im (iN M.n), .im (.lst (rsD M.runs)), .im (iN i), .im (iN r), .im (iN t)] ∧ S = [] ∧ M.Ok ∧
  (∀ a b, M.Stk i a → M.Stk (i + r) b → ∃ l, M.Left r a b l) ∧ (∃ a, M.Stk i a) ∧ (∃ b, M.Stk (i + r) b) ∧ R [] (.im (bD true))
theorem len_law_some_leave : ∀ A S R, W_law_some_leave T A S R → A.length = 6 := by rintro A S R ⟨M, i, r, t, rfl, _⟩; rfl
theorem pick {L : List (List Nat)} {z : Nat} (h : L ≠ []) : ∃ (j : Nat) (x : List Nat), ((z : Int) % (L.length : Int)) = (j : Int) ∧ L[j]? = some x ∧ x ∈ L := by
  have hl : 0 < L.length := List.length_pos_iff.mpr h
  have hj : z % L.length < L.length := Nat.mod_lt _ hl
  exact ⟨z % L.length, L[z % L.length], by simp, List.getElem?_eq_getElem hj, List.getElem_mem hj⟩
theorem ok_law_some_leave (GJ : FJ T base) : FnOk c.P c.w c.K mg base CX0 9 (T.f "_law_some_leave") (T.fd "_law_some_leave") ["market", "size", "runs", "first", "more", "turn"] (spD c (W_law_some_leave T)) := by
  refine mk_law_some_leave T (ok_stocks_of T) (ok_stock_left T GJ) (ok_law_left_right T) (len_law_some_leave T) ?_
  rintro A S R ⟨M, i, r, t, rfl, rfl, ok, hA, ⟨a0, ha0⟩, ⟨b0, hb0⟩, hR⟩
  unfold t_law_some_leave
  repeat trivial
  refine call0 (by simp) ⟨M, _, _, rfl, rfl, ok, .num i, fun L hL hLl _ => ?_⟩
  repeat trivial
  refine call0 (by simp) ⟨M, iN (i + r), _, by simp [iN], rfl, ok, .num (i + r), fun L2 hL2 hLl2 _ => ?_⟩
  have ne1 : L ≠ [] := fun e => by have := (hL a0).mpr ha0; rw [e] at this; cases this
  have ne2 : L2 ≠ [] := fun e => by have := (hL2 b0).mpr hb0; rw [e] at this; cases this
  have p1 : 0 < L.length := List.length_pos_iff.mpr ne1
  have p2 : 0 < L2.length := List.length_pos_iff.mpr ne2
  repeat trivial
  refine cb_len (.lst (.im _)) ?_
  rw [List.length_map]
  repeat trivial
  refine Dt.od_eq (by rfl) ⟨_, rfl, iteN (decide_eq_false fun e => by injection e with e; omega) ?_⟩
  repeat trivial
  refine cb_len (.lst (.im _)) ?_
  rw [List.length_map]
  repeat trivial
  refine Dt.od_eq (by rfl) ⟨_, rfl, iteN (decide_eq_false fun e => by injection e with e; omega) ?_⟩
  refine rs_next ?_
  refine rs_seq (rs_for (rw_rng1 ?_))
  repeat trivial
  refine ⟨by omega, by omega, ?_⟩
  refine ⟨fun k G S => (∃ s8 s9 s10 s11, G = [.im (mk T M), .im (iN M.n), .im (.lst (rsD M.runs)), .im (iN i), .im (iN r), .im (iN t), .im (.lst (L.map tN)), .im (.lst (L2.map tN)), s8, s9, s10, s11]) ∧ S = [], ⟨⟨_, _, _, _, rfl⟩, rfl⟩, ?_, ?_⟩
  · rintro k e G' S' he ⟨⟨s8, s9, s10, s11, rfl⟩, rfl⟩
    obtain ⟨hk, rfl⟩ := rangeD_get he
    obtain ⟨j1, x, ej1, hx, hxm⟩ := pick (L := L) (z := t + k) ne1
    obtain ⟨j2, y, ej2, hy, hym⟩ := pick (L := L2) (z := t + 2 * k) ne2
    have hxf := (hL x).mp hxm
    have hyf := (hL2 y).mp hym
    obtain ⟨l0, hl0⟩ := hA x y hxf hyf
    refine rg_name ?_
    repeat trivial
    refine cb_int ?_
    repeat trivial
    refine cb_len (.lst (.im _)) ?_
    rw [List.length_map]
    refine od_intC (by omega) ?_
    have e1 : ((t : Int) + (0 + (k : Nat))) % (L.length : Int) = (j1 : Int) := by rw [← ej1]; congr 1; omega
    rw [e1]
    refine Dt.od_ix (.lst (.im _)) (e := tN x) (atI_nat (by rw [List.getElem?_map, hx]; rfl)) ?_
    repeat trivial
    refine od_intC (.inl (by omega)) ?_
    repeat trivial
    refine cb_int ?_
    repeat trivial
    refine cb_len (.lst (.im _)) ?_
    rw [List.length_map]
    refine od_intC (by omega) ?_
    have e2 : ((t : Int) + 2 * (0 + (k : Nat))) % (L2.length : Int) = (j2 : Int) := by rw [← ej2]; congr 1; omega
    rw [e2]
    refine Dt.od_ix (.lst (.im _)) (e := tN y) (atI_nat (by rw [List.getElem?_map, hy]; rfl)) ?_
    repeat trivial
    refine call0 (by simp) ⟨M, i, r, x, y, rfl, rfl, ok, hxf, hyf, fun l hl _ => ?_, fun hn _ => absurd hl0 (hn l0)⟩
    repeat trivial
    refine call0 (by simp) ⟨M, r, x, y, l, rfl, rfl, ok, hl, hyf.lt, fun _ => ⟨_, rfl, iteN rfl (rs_next ⟨⟨_, _, _, _, rfl⟩, rfl⟩)⟩⟩
  · rintro G' S' ⟨⟨s8, s9, s10, s11, rfl⟩, rfl⟩
    repeat trivial
    exact end_im hR
end
end K78

set_option Elab.async false
set_option linter.all false
set_option maxRecDepth 100000
set_option maxHeartbeats 4000000
namespace K78
open PySem PySem.Spec PyProof.Rows L2 Dt
local macro_rules | `(tactic| trivial) => `(tactic| first
  | with_reducible refine re_many (‹Tx _ _›) ?_ | with_reducible refine re_all (‹Tx _ _›) ?_ | with_reducible refine re_size (‹Tx _ _›) ?_ | with_reducible refine re_runs (‹Tx _ _›) ?_ | with_reducible refine re_gone (‹Tx _ _›) ?_ | with_reducible refine re_KIND (‹Tx _ _›) ?_ | with_reducible refine re_there (‹Tx _ _›) ?_
  | with_reducible refine rs_seq ?_ | with_reducible refine rs_set ?_ | with_reducible refine rs_asg ?_ | with_reducible refine rs_ret ?_ | with_reducible refine rs_retN ?_ | with_reducible refine rs_drop ?_ | with_reducible refine rs_next ?_ | with_reducible refine rs_break ?_ | with_reducible refine rs_cont ?_ | with_reducible refine rs_if ?_
  | with_reducible refine re_var (by with_unfolding_all rfl) (by with_unfolding_all exact fun h => nomatch h) ?_ | with_reducible refine re_c ?_ | with_reducible refine ra_nil ?_ | with_reducible refine ra_cons ?_ | with_reducible refine re_cb ?_ | with_reducible refine re_call ?_ | with_reducible refine re_op ?_ | with_reducible refine od_int ?_
  | with_reducible refine re_andV ?_ | with_reducible refine re_orV ?_ | with_reducible refine re_notV ?_ | with_reducible refine re_if ?_ | with_reducible refine rt_test ?_ | with_reducible refine rt_B ?_ | with_reducible refine rt_not ?_ | with_reducible refine rt_and ?_ | with_reducible refine rt_or ?_ | with_reducible refine rt_yes ?_
  | with_reducible refine re_tup ?_ | with_reducible refine re_neg ?_ | refine ⟨_, rfl, ?_⟩ | refine ⟨‹Mkt.Ok _›, ?_⟩)
theorem in_bools : ∀ bs : List Bool, inV (.bl false) (bs.map V.bl) = decide (false ∈ bs)
  | [] => rfl
  | b :: bs => by
    have ih := in_bools bs
    unfold inV at ih ⊢
    rw [List.map_cons, List.any_cons, ih]
    cases b
    · simp [eqV]
    · simp [eqV]
def fixM : Mkt := ⟨3, [(0, 1), (0, 1), (0, 2), (1, 2), (1, 3), (2, 3), (2, 3)], []⟩
/-- what is asked of growing, in plain words -/
structure Plain : Prop where
  one : ∀ {M : Mkt} {s s' : Nat}, M.Ok → M.Str s → M.Str s' → s' = s
  all : ∀ {M : Mkt} {s k : Nat}, M.Ok → M.Str s → k ≤ s → ∃ l, M.Stk k l
  lim : ∀ {M : Mkt} {s : Nat}, M.Ok → M.Str s → s ≤ 7
  zero : ∀ {M : Mkt}, M.Ok → ¬ M.GB 0
  up : ∀ {M : Mkt} {s k : Nat}, M.Ok → M.Str s → ¬ M.GB 1 → k < s → ¬ M.GB k
  leave : ∀ {M : Mkt} {s i r : Nat}, M.Ok → M.Str s → (1 < s → ¬ M.GB 1) → i + r ≤ s → ∀ a b, M.Stk i a → M.Stk (i + r) b → ∃ l, M.Left r a b l
  not : ∀ {M : Mkt}, M.Ok → M.GB 1 → ∃ a b, M.Stk 1 a ∧ M.Stk (1 + 1) b ∧ ∀ l, ¬ M.Left 1 a b l
  lost : ∀ {M : Mkt} {s : Nat}, M.Ok → M.Str s → (1 < s → ¬ M.GB 1) → ∀ a g t, M.Stk 1 a → srt g → (∀ x, x ∈ g ↔ x ∈ M.gone ∨ x ∈ a) → (Mkt.mk M.n M.runs g).Str t → s ≤ t + 1
  fix : fixM.Ok ∧ fixM.Str 3 ∧ fixM.GB 1 ∧ ¬ fixM.GB 2
section
variable {c : Cn} {mg : Str → Option Value} {base : Heap} (T : Tx c.K mg)
variable {G : SG} {S : SC} {Q : SC → Sl → Prop} {ta : TE}
def W_law : Wp := fun A S R => ∃ script : List Int, A = [.im (.rl (lsD script))] ∧ S = [] ∧ script.length ≤ 63 ∧ R [] (.im (bD true))
theorem len_law : ∀ A S R, W_law A S R → A.length = 1 := by rintro A S R ⟨M, rfl, _⟩; rfl
theorem ok_law (pl : Plain) (GJ : FJ T base) : FnOk c.P c.w c.K mg base CX0 13 (T.f "law") (T.fd "law") ["script"] (spD c W_law) := by
  refine mk_law T (ok_law_draws T) (ok_law_market T) (ok_law_take T) GJ (ok_strength T) (ok_grows T GJ) (ok_grows_at T GJ) (ok_law_all_leave T GJ) (ok_law_some_leave T GJ) (ok_law_lost_chains T GJ) len_law ?_
  rintro A S R ⟨script, rfl, rfl, hl, hR⟩
  unfold t_law
  repeat trivial
  refine call0 (by simp) ⟨script, rfl, rfl, hl, fun l _ _ => ?_⟩
  repeat trivial
  refine call1 (x := .lst (lsD l)) rfl rfl (by simp) ⟨l, rfl, rfl, fun m n rs g n1 n8 hrs hrl hg hgl x' e _ => ?_⟩
  injection e with e
  subst e
  repeat trivial
  refine Dt.od_ix (.lst (.im _)) (e := iN n) (by rfl) ?_
  repeat trivial
  refine Dt.od_ix (.lst (.im _)) (e := .lst (rsD rs)) (by rfl) ?_
  repeat trivial
  refine Dt.od_ix (.lst (.im _)) (e := .lst (nsD g)) (by rfl) ?_
  repeat trivial
  refine tk (l := m) rfl (by omega) fun m y hy => ?_
  repeat trivial
  refine Dt.od_eq (by rfl) ?_
  refine rs_seq (rs_mono (P' := { nx := fun G' S' => ∃ (f : Bool) (n : Nat) (rs : List (Nat × Nat)) (g : List Nat) (s2 : Sl), G' = [.im (.rl (lsD script)), .pt 0, s2, .im (iN n), .im (.lst (rsD rs)), .im (.lst (nsD g)), .im (bD f), .no, .no, .no, .no, .no, .no, .no, .no] ∧ S' = [.lst (lsD m)] ∧ 1 ≤ n ∧ n ≤ 8 ∧ RunsOk n rs ∧ rs.length ≤ 7 ∧ srt g ∧ (∀ q ∈ g, q < rs.length) ∧ (f = true → Mkt.mk n rs g = fixM), rt := fun _ _ => False, bk := fun _ _ => False, ct := fun _ _ => False }) ?_ ?_ (fun _ _ h => h.elim) (fun _ _ h => h.elim) fun _ _ h => h.elim)
  · refine rs_if (rt_B (re_var rfl (by intro h; cases h) ⟨_, rfl, iteC (fun hf => ?_) fun hf => rs_next ⟨false, n, rs, g, _, by rw [hf]; rfl, rfl, n1, n8, hrs, hrl, hg, hgl, (by intro h; cases h)⟩⟩))
    repeat trivial
    refine re_lst ?_
    repeat (first | trivial | refine ⟨[_, _], rfl, by simp, ?_⟩)
    refine ⟨rsD fixM.runs, rfl, by decide, ?_⟩
    repeat trivial
    refine re_lst (ra_nil ⟨[], rfl, by decide, ?_⟩)
    exact ⟨true, 3, fixM.runs, [], _, by rw [hf]; rfl, rfl, by decide, by decide, runsOk_of (by decide), by decide, .nil, (fun _ h => by cases h), fun _ => rfl⟩
  rintro _ _ ⟨f, n, rs, g, s2, rfl, rfl, n1, n8, hrs, hrl, hg, hgl, hfix⟩
  refine rs_seq (rs_mono (P' := { nx := fun G' S' => ∃ (M : Mkt), G' = [.im (.rl (lsD script)), .pt 0, s2, .im (iN M.n), .im (.lst (rsD M.runs)), .im (.lst (nsD M.gone)), .im (bD f), .no, .no, .no, .no, .no, .no, .no, .no] ∧ S' = [.lst (lsD m)] ∧ M.Ok ∧ (f = true → M = fixM), rt := fun _ _ => False, bk := fun _ _ => False, ct := fun _ _ => False }) ?_ ?_ (fun _ _ h => h.elim) (fun _ _ h => h.elim) fun _ _ h => h.elim)
  · repeat trivial
    refine cb_len (.lst (.im _)) ?_
    repeat trivial
    refine Dt.od_eq (by rfl) ⟨_, rfl, iteC (fun hz => ?_) fun hz => rs_next ⟨⟨n, rs, g⟩, rfl, rfl, ⟨n1, n8, hrl, hrs, hg, hgl⟩, hfix⟩⟩
    have h0 : rs = [] := by
      have := of_decide_eq_true hz
      injection this with this
      rw [rsD_len] at this
      exact List.length_eq_zero_iff.mp (by omega)
    subst h0
    have hg0 : g = [] := by
      cases g with
      | nil => rfl
      | cons q g => exact absurd (hgl q List.mem_cons_self) (by simp)
    subst hg0
    repeat trivial
    refine re_lst ?_
    repeat trivial
    refine ⟨[iN 0, iN n], rfl, by simp, ?_⟩
    repeat trivial
    refine ⟨rsD [(0, n)], rfl, by simp, ⟨n, [(0, n)], []⟩, rfl, rfl, ⟨n1, n8, by simp, ?_, .nil, (fun _ h => by cases h)⟩, fun hf => ?_⟩
    · intro r hr
      have : r = (0, n) := by simpa using hr
      subst this
      exact ⟨by show 0 < n; omega, Nat.le_refl _⟩
    · exact absurd (hfix hf) (by intro e; injection e with _ e _; cases e)
  rintro _ _ ⟨M, rfl, rfl, ok, hfix⟩
  have n1 := ok.n1
  have n8 := ok.n8
  have rl := ok.rl
  trivial
  refine rs_set (re_Join T ?_)
  repeat trivial
  refine cb_list (.lst (.im _)) ?_
  repeat trivial
  refine ⟨M, _, _, rfl, rfl, .lst _, .lst _, ok, ?_⟩
  repeat trivial
  refine call0 (by simp) ⟨M, rfl, rfl, ok, fun s hs _ => ?_⟩
  have uni : ∀ s', M.Str s' → s' = s := fun s' h => pl.one ok hs h
  have s7 := pl.lim ok hs
  repeat trivial
  refine tk (l := m) rfl (by omega) fun m1 i hi => ?_
  repeat trivial
  refine tk (l := m1) rfl (by omega) fun m2 r hr => ?_
  repeat trivial
  refine tk (l := m2) rfl (by omega) fun m3 t ht => ?_
  refine rs_seq (rs_mono (P' := { nx := fun G' S' => ∃ (w : Bool), G' = [.im (.rl (lsD script)), .pt 0, s2, .im (iN M.n), .im (.lst (rsD M.runs)), .im (.lst (nsD M.gone)), .im (bD f), .im (mk T M), .im (iN s), .im (iN i), .im (iN r), .im (iN t), .im (bD w), .no, .no] ∧ S' = [.lst (lsD m3)] ∧ (w = true ↔ (1 < s → ¬ M.GB 1)), rt := fun _ _ => False, bk := fun _ _ => False, ct := fun _ _ => False }) ?_ ?_ (fun _ _ h => h.elim) (fun _ _ h => h.elim) fun _ _ h => h.elim)
  · repeat trivial
    refine call0 (by simp) ⟨M, s, rfl, rfl, ok, hs, uni, fun h => pl.all ok hs (by omega), fun h _ => ?_, fun h => ⟨fun hg _ => ?_, fun hg _ => ?_⟩⟩
    · exact ⟨true, rfl, rfl, by simp; omega⟩
    · exact ⟨false, rfl, rfl, by simp [hg, h]⟩
    · exact ⟨true, rfl, rfl, by simp [hg]⟩
  rintro _ _ ⟨w, rfl, rfl, hw⟩
  repeat trivial
  refine cb_isi (t := "bool") rfl (b := true) kit_bool.2 ?_
  refine ⟨_, rfl, iteN rfl (rs_next ?_)⟩
  refine rs_seq (rs_set (re_lcW false (gon_name (by simp)) (rw_rng1 ?_)))
  repeat trivial
  refine ⟨by omega, by omega, by rw [rangeD_length]; omega, fun k S' acc => S' = [.lst (lsD m3)] ∧ ∃ bs : List Bool, acc = bs.map bD ∧ bs.length = k ∧ ∀ j b, bs[j]? = some b → (b = true ↔ ¬ M.GB j), ⟨rfl, [], rfl, rfl, (by intro j b h; cases h)⟩, ?_, ?_⟩
  · rintro k e S' acc he _ ⟨rfl, bs, rfl, hbl, hbs⟩
    obtain ⟨hk, rfl⟩ := rangeD_get he
    have hks : k < s := by omega
    have snoc : ∀ b : Bool, (b = true ↔ ¬ M.GB k) → ∀ j b', (bs ++ [b])[j]? = some b' → (b' = true ↔ ¬ M.GB j) := fun b hb j b' h => by
      by_cases hj : j < bs.length
      · rw [List.getElem?_append_left hj] at h
        exact hbs j b' h
      · have hj2 : j = bs.length := by
          have := (List.getElem?_eq_some_iff.mp h).1
          simp at this
          omega
        subst hj2
        rw [List.getElem?_append_right (Nat.le_refl _)] at h
        simp at h
        subst h
        rw [hbl]
        exact hb
    refine rg_name (rt_yes (iteY rfl ?_))
    repeat trivial
    refine call0 (by simp) ⟨M, k, s, by simp [iN], rfl, ok, hks, uni, pl.all ok hs (by omega), fun hg _ => ?_, fun hg _ => ?_⟩
    · exact ⟨_, rfl, rfl, bs ++ [false], by simp, by simp [hbl], snoc false (by simp [hg])⟩
    · exact ⟨_, rfl, rfl, bs ++ [true], by simp, by simp [hbl], snoc true (by simp [hg])⟩
  rintro S' acc _ ⟨rfl, bs, rfl, hbl, hbs⟩
  rw [if_neg Bool.false_ne_true]
  rw [rangeD_length, Int.toNat_natCast] at hbl
  repeat trivial
  refine od_in (neg := true) (x := .bl false) (ys := bs.map V.bl) (by rw [List.map_map]; exact .lst (.im _)) rfl (by simp [flatV]) ?_
  have at_ : ∀ j, j < s → ∃ b, bs[j]? = some b := fun j hj => ⟨bs[j]'(by omega), List.getElem?_eq_getElem (by omega)⟩
  have noG : (1 < s → ¬ M.GB 1) → ∀ j, j < s → ¬ M.GB j := fun h j hj => by
    by_cases h1 : 1 < s
    · exact pl.up ok hs (h h1) hj
    · have : j = 0 := by omega
      subst this
      exact pl.zero ok
  have key : (!decide (false ∈ bs)) = w := by
    cases w with
    | true =>
      have h := noG (hw.mp rfl)
      have : false ∉ bs := fun hm => by
        obtain ⟨j, hj⟩ := List.mem_iff_getElem?.mp hm
        have hjs : j < s := by have := (List.getElem?_eq_some_iff.mp hj).1; omega
        exact absurd ((hbs j false hj).mpr (h j hjs)) (by decide)
      simp [this]
    | false =>
      have h1 : 1 < s ∧ M.GB 1 := by
        have this : (1 < s → ¬ M.GB 1) → False := fun h => by have := hw.mpr h; cases this
        by_cases a : 1 < s
        · by_cases b : M.GB 1
          · exact ⟨a, b⟩
          · exact (this fun _ => b).elim
        · exact (this fun z => absurd z a).elim
      obtain ⟨b, hb⟩ := at_ 1 h1.1
      have : b = false := by
        cases b with
        | false => rfl
        | true => exact absurd h1.2 ((hbs 1 true hb).mp rfl)
      subst this
      simp [List.mem_of_getElem? hb]
  rw [if_pos rfl, in_bools, key]
  refine Dt.od_ne (by rfl) ⟨_, rfl, iteN (by simp) (rs_next ?_)⟩
  refine rs_seq (rs_mono (P' := { nx := fun G' S' => G' = [.im (.rl (lsD script)), .pt 0, s2, .im (iN M.n), .im (.lst (rsD M.runs)), .im (.lst (nsD M.gone)), .im (bD f), .im (mk T M), .im (iN s), .im (iN i), .im (iN r), .im (iN t), .im (bD w), .im (.lst (bs.map bD)), .no] ∧ S' = [.lst (lsD m3)], rt := fun _ _ => False, bk := fun _ _ => False, ct := fun _ _ => False }) ?_ ?_ (fun _ _ h => h.elim) (fun _ _ h => h.elim) fun _ _ h => h.elim)
  · repeat trivial
    refine iteC (fun hf => ?_) fun _ => iteN rfl (rs_next ⟨rfl, rfl⟩)
    have hM := hfix hf
    obtain ⟨_, f3, f1, f2⟩ := pl.fix
    rw [← hM] at f3 f1 f2
    have e3 := uni 3 f3
    have ew : w = false := by
      cases w with
      | false => rfl
      | true => exact absurd f1 (hw.mp rfl (by omega))
    have eb : bs = [true, false, true] := by
      have h0 := hbs 0
      have h1 := hbs 1
      have h2 := hbs 2
      rw [← e3] at hbl
      match bs, hbl with
      | [b0, b1, b2], _ =>
        have a0 := (h0 b0 rfl).mpr (pl.zero ok)
        have a2 := (h2 b2 rfl).mpr f2
        have a1 : b1 = false := by
          cases b1 with
          | false => rfl
          | true => exact absurd f1 ((h1 true rfl).mp rfl)
        rw [a0, a1, a2]
    subst ew eb
    repeat trivial
    refine iteN rfl ?_
    repeat trivial
    refine re_lst ?_
    repeat trivial
    refine ⟨[bD true, bD false, bD true], rfl, by decide, ?_⟩
    refine od_neD (a := .list [.bool true, .bool false, .bool true]) (b := .list [.bool true, .bool false, .bool true]) rfl rfl (by decide) (by decide) ?_
    exact ⟨_, rfl, iteN (by decide) (rs_next ⟨rfl, rfl⟩)⟩
  rintro _ _ ⟨rfl, rfl⟩
  have bw : ∀ b : Bool, bs[1]? = some b → b = w := fun b hb => by
    have h1 : 1 < s := by have := (List.getElem?_eq_some_iff.mp hb).1; omega
    cases w with
    | true => exact (hbs 1 b hb).mpr (hw.mp rfl h1)
    | false =>
      cases b with
      | false => rfl
      | true =>
        have := hw.mpr fun _ => (hbs 1 true hb).mp rfl
        cases this
  refine rs_seq (rs_mono (P' := { nx := fun G' S' => G' = [.im (.rl (lsD script)), .pt 0, s2, .im (iN M.n), .im (.lst (rsD M.runs)), .im (.lst (nsD M.gone)), .im (bD f), .im (mk T M), .im (iN s), .im (iN i), .im (iN r), .im (iN t), .im (bD w), .im (.lst (bs.map bD)), .no] ∧ S' = [.lst (lsD m3)], rt := fun _ _ => False, bk := fun _ _ => False, ct := fun _ _ => False }) ?_ ?_ (fun _ _ h => h.elim) (fun _ _ h => h.elim) fun _ _ h => h.elim)
  · repeat trivial
    refine iteC (fun h2 => ?_) fun _ => rs_next ⟨rfl, rfl⟩
    have h2 := of_decide_eq_true h2
    obtain ⟨b, hb⟩ := at_ 1 (by omega)
    have e1 := bw b hb
    rw [e1] at hb
    repeat trivial
    refine Dt.od_ix (.lst (.im _)) (e := bD w) (i := 1) (atI_nat (j := 1) (by rw [List.getElem?_map, hb]; rfl)) ?_
    refine Dt.od_ne (by rfl) ⟨_, rfl, iteN (by simp) ?_⟩
    repeat trivial
    refine call0 (by simp) ⟨M, 1, 1, rfl, rfl, ok, fun hA _ => ?_, fun ⟨a, b', ha, hb', hn⟩ _ => ?_⟩
    · have ew : w = true := hw.mpr fun _ hg => by
        obtain ⟨a, b', ha, hb', hn⟩ := pl.not ok hg
        obtain ⟨l, hl⟩ := hA a b' ha hb'
        exact hn l hl
      rw [ew]
      exact Dt.od_ne (by rfl) ⟨_, rfl, iteN (by simp) (rs_next ⟨rfl, rfl⟩)⟩
    · have ew : w = false := by
        cases w with
        | false => rfl
        | true =>
          obtain ⟨l, hl⟩ := pl.leave ok hs (hw.mp rfl) (by omega) a b' ha hb'
          exact absurd hl (hn l)
      rw [ew]
      exact Dt.od_ne (by rfl) ⟨_, rfl, iteN (by simp) (rs_next ⟨rfl, rfl⟩)⟩
  rintro _ _ ⟨rfl, rfl⟩
  refine rs_seq (rs_mono (P' := { nx := fun G' S' => G' = [.im (.rl (lsD script)), .pt 0, s2, .im (iN M.n), .im (.lst (rsD M.runs)), .im (.lst (nsD M.gone)), .im (bD f), .im (mk T M), .im (iN s), .im (iN i), .im (iN r), .im (iN t), .im (bD w), .im (.lst (bs.map bD)), .no] ∧ S' = [.lst (lsD m3)], rt := fun _ _ => False, bk := fun _ _ => False, ct := fun _ _ => False }) ?_ ?_ (fun _ _ h => h.elim) (fun _ _ h => h.elim) fun _ _ h => h.elim)
  · repeat trivial
    refine iteC (fun h2 => ?_) fun _ => iteN rfl (rs_next ⟨rfl, rfl⟩)
    have h2 := of_decide_eq_true h2
    have ew : w = true := hw.mpr fun h => by omega
    subst ew
    repeat trivial
    exact iteN rfl (rs_next ⟨rfl, rfl⟩)
  rintro _ _ ⟨rfl, rfl⟩
  refine rs_seq (rs_mono (P' := { nx := fun G' S' => G' = [.im (.rl (lsD script)), .pt 0, s2, .im (iN M.n), .im (.lst (rsD M.runs)), .im (.lst (nsD M.gone)), .im (bD f), .im (mk T M), .im (iN s), .im (iN i), .im (iN r), .im (iN t), .im (bD w), .im (.lst (bs.map bD)), .no] ∧ S' = [.lst (lsD m3)], rt := fun _ _ => False, bk := fun _ _ => False, ct := fun _ _ => False }) ?_ ?_ (fun _ _ h => h.elim) (fun _ _ h => h.elim) fun _ _ h => h.elim)
  · repeat trivial
    refine iteC (fun ew => ?_) fun _ => iteN rfl (rs_next ⟨rfl, rfl⟩)
    repeat trivial
    refine call0 (by simp) ⟨M, i, r, t, rfl, rfl, ok, pl.leave ok hs (hw.mp ew) (by omega), pl.all ok hs (by omega), pl.all ok hs (by omega), fun _ => ?_⟩
    exact ⟨_, rfl, iteN rfl (rs_next ⟨rfl, rfl⟩)⟩
  rintro _ _ ⟨rfl, rfl⟩
  repeat trivial
  cases hwe : w with
  | false => exact iteY rfl (end_im hR)
  | true =>
    refine iteN rfl ?_
    repeat trivial
    exact call0 (by simp) ⟨M, s, rfl, rfl, ok, pl.lost ok hs (hw.mp hwe), fun _ => end_im hR⟩
end
end K78

set_option Elab.async false
set_option linter.all false
set_option maxRecDepth 100000
set_option maxHeartbeats 4000000
namespace K78
open PySem PySem.Spec PyProof.Rows L2 Dt
local macro_rules | `(tactic| trivial) => `(tactic| first
  | with_reducible refine re_many (‹Tx _ _›) ?_ | with_reducible refine re_all (‹Tx _ _›) ?_ | with_reducible refine re_size (‹Tx _ _›) ?_ | with_reducible refine re_runs (‹Tx _ _›) ?_ | with_reducible refine re_gone (‹Tx _ _›) ?_ | with_reducible refine re_KIND (‹Tx _ _›) ?_ | with_reducible refine re_there (‹Tx _ _›) ?_
  | with_reducible refine rs_seq ?_ | with_reducible refine rs_set ?_ | with_reducible refine rs_asg ?_ | with_reducible refine rs_ret ?_ | with_reducible refine rs_retN ?_ | with_reducible refine rs_drop ?_ | with_reducible refine rs_next ?_ | with_reducible refine rs_break ?_ | with_reducible refine rs_cont ?_ | with_reducible refine rs_if ?_
  | with_reducible refine re_var (by with_unfolding_all rfl) (by with_unfolding_all exact fun h => nomatch h) ?_ | with_reducible refine re_c ?_ | with_reducible refine ra_nil ?_ | with_reducible refine ra_cons ?_ | with_reducible refine re_cb ?_ | with_reducible refine re_call ?_ | with_reducible refine re_op ?_ | with_reducible refine od_int ?_
  | with_reducible refine re_andV ?_ | with_reducible refine re_orV ?_ | with_reducible refine re_notV ?_ | with_reducible refine re_if ?_ | with_reducible refine rt_test ?_ | with_reducible refine rt_B ?_ | with_reducible refine rt_not ?_ | with_reducible refine rt_and ?_ | with_reducible refine rt_or ?_ | with_reducible refine rt_yes ?_
  | with_reducible refine re_tup ?_ | with_reducible refine re_neg ?_ | refine ⟨_, rfl, ?_⟩ | refine ⟨‹Mkt.Ok _›, ?_⟩)
/-! ### the fixed market -/
theorem fix_ok : fixM.Ok := ⟨by decide, by decide, by decide, by decide, .nil, fun _ h => by cases h⟩
theorem fix_all {l : List Nat} (h : fixM.Stk 3 l) : l = [0, 1, 2, 3, 4, 5, 6] := by
  have hm : l ∈ subs 7 := mem_subs h.s h.lt
  have : ∀ l ∈ subs 7, fixM.cov l = List.replicate 3 3 → l = [0, 1, 2, 3, 4, 5, 6] := by decide +kernel
  exact this l hm h.c
theorem fix_str : fixM.Str 3 := by
  refine ⟨⟨[0, 1, 2, 3, 4, 5, 6], by decide, by decide, by decide⟩, fun l h => ?_⟩
  have hm : l ∈ subs 7 := mem_subs h.s h.lt
  have : ∀ l ∈ subs 7, ¬ fixM.cov l = List.replicate 3 4 := by decide +kernel
  exact this l hm h.c
theorem fix_two : ¬ fixM.GB 2 := fun h => by
  obtain ⟨S, T, part, hS, hT, h1, h2, _⟩ := gb_way fix_ok h
  have e := fix_all (hT.fit fix_ok)
  have hp := hS.t part h1
  have hm : part ∈ [0, 1, 2, 3, 4, 5, 6] := (by decide : fixM.there = [0, 1, 2, 3, 4, 5, 6]) ▸ hp
  rw [← e] at hm
  have := (mem_ins.mp hm).2
  rw [h2] at this
  cases this
theorem fix_one : fixM.GB 1 := by
  refine ⟨3, by decide, ([3], [2, 4]), ⟨⟨3, [0, 2, 1, 3], [3], [2, 4]⟩, ?_, rfl, by decide, by decide, by simp, by simp⟩, by decide, [0, 3, 5], ⟨by decide, by decide, by decide⟩, by decide, by decide⟩
  have k1 : Wy.mk 2 [0, 2] [] [2] ∈ fixM.kids ⟨0, [0], [], []⟩ := kid_in fix_ok (t := ⟨0, [0], [], []⟩) (q := 2) (by decide) rfl (by decide)
  have k2 : Wy.mk 1 [0, 2, 1] [3] [2] ∈ fixM.kids ⟨2, [0, 2], [], [2]⟩ := kid_out fix_ok (t := ⟨2, [0, 2], [], [2]⟩) (q := 3) (by decide) rfl (by decide)
  have k3 : Wy.mk 3 [0, 2, 1, 3] [3] [2, 4] ∈ fixM.kids ⟨1, [0, 2, 1], [3], [2]⟩ := kid_in fix_ok (t := ⟨1, [0, 2, 1], [3], [2]⟩) (q := 4) (by decide) rfl (by decide)
  exact .step (by decide) k1 (.step (by decide) k2 (.step (by decide) k3 (.refl _)))
theorem plain : Plain where
  one := fun ok h h' => str_one ok h h'
  all := fun ok h hk => by
    obtain ⟨l, hl⟩ := h.1
    exact stk_less ok hl hk
  lim := str_lim
  zero := gb_zero
  up := fun ok _ hg _ => gb_up ok hg
  leave := fun ok h hg _ a b ha hb => leave ok h hg a b ha hb
  not := not_leave
  lost := fun ok h hg a g t ha gs gm ht => lost ok h hg a g t ha gs gm ht
  fix := ⟨fix_ok, fix_str, fix_one, fix_two⟩
end K78

set_option Elab.async false
set_option linter.all false
set_option maxRecDepth 100000
set_option maxHeartbeats 4000000
namespace K78
open PySem PySem.Spec PyProof.Rows L2 Dt
local macro_rules | `(tactic| trivial) => `(tactic| first
  | with_reducible refine re_many (‹Tx _ _›) ?_ | with_reducible refine re_all (‹Tx _ _›) ?_ | with_reducible refine re_size (‹Tx _ _›) ?_ | with_reducible refine re_runs (‹Tx _ _›) ?_ | with_reducible refine re_gone (‹Tx _ _›) ?_ | with_reducible refine re_KIND (‹Tx _ _›) ?_ | with_reducible refine re_there (‹Tx _ _›) ?_
  | with_reducible refine rs_seq ?_ | with_reducible refine rs_set ?_ | with_reducible refine rs_asg ?_ | with_reducible refine rs_ret ?_ | with_reducible refine rs_retN ?_ | with_reducible refine rs_drop ?_ | with_reducible refine rs_next ?_ | with_reducible refine rs_break ?_ | with_reducible refine rs_cont ?_ | with_reducible refine rs_if ?_
  | with_reducible refine re_var (by with_unfolding_all rfl) (by with_unfolding_all exact fun h => nomatch h) ?_ | with_reducible refine re_c ?_ | with_reducible refine ra_nil ?_ | with_reducible refine ra_cons ?_ | with_reducible refine re_cb ?_ | with_reducible refine re_call ?_ | with_reducible refine re_op ?_ | with_reducible refine od_int ?_
  | with_reducible refine re_andV ?_ | with_reducible refine re_orV ?_ | with_reducible refine re_notV ?_ | with_reducible refine re_if ?_ | with_reducible refine rt_test ?_ | with_reducible refine rt_B ?_ | with_reducible refine rt_not ?_ | with_reducible refine rt_and ?_ | with_reducible refine rt_or ?_ | with_reducible refine rt_yes ?_
  | with_reducible refine re_tup ?_ | with_reducible refine re_neg ?_ | refine ⟨_, rfl, ?_⟩ | refine ⟨‹Mkt.Ok _›, ?_⟩)
section
variable {c : Cn} {mg : Str → Option Value} {base : Heap} (T : Tx c.K mg)
abbrev SJ (T : Tx c.K mg) : Prop := SupI c.P c.K mg "Join.__init__" (defArgs s_Join_init) (defBody s_Join_init) (defScope s_Join_init) (T.cC "Join") (T.f "Join.__init__") (T.f "Market.__init__") (T.fd "Join.__init__")
abbrev KM (T : Tx c.K mg) : Prop := KBn c.K (T.fd "Market.__init__") ["self", "size", "runs", "gone"] 3 ["gone"] (fun us ws => us ++ ws) (fun vs zs => vs ++ zs)
theorem first {F : Fr} {I H : Hp} {ps : List Addr} {vs : List V} {G : SG} {S : SC} (d : SdI c F I ps (vs.map some) H (.pt 0 :: G) S) : ∃ (x : V) (r : List V) (p : Addr), vs = .ref p :: r ∧ ps[0]? = some p ∧ x = .ref p := by
  have h := d.ok
  cases vs with
  | nil => cases h
  | cons v r =>
    cases h with
    | cons a _ =>
      obtain ⟨p, h1, h2⟩ := a
      cases h2
      exact ⟨_, r, p, rfl, h1, rfl⟩
theorem ok_Join_init (S : SJ T) (kb : KM T) : FJ T base := by
  have lk : ∀ (i : Nat) (x : Str), (["self", "size", "runs", "gone"] : List Str)[i]? = some x → (defScope s_Join_init).names.lookup x = some .local := by
    intro i x h
    match i, h with
    | 0, h => cases h; decide +kernel
    | 1, h => cases h; decide +kernel
    | 2, h => cases h; decide +kernel
    | 3, h => cases h; decide +kernel
    | _ + 4, h => cases h
  have pn : ∀ (X : Cx) (i : Nat) (x : Str) (pos : Pos), X.N = (["self", "size", "runs", "gone"] : List Str) → X.env.scope = defScope s_Join_init → (["self", "size", "runs", "gone"] : List Str)[i]? = some x → (x == ("__debug__" : Str)) = false → (x == ("__classdict__" : Str)) = false → PE X (.Name x pos) (tVar i) := fun X i x pos hN hs hi h1 h2 =>
    pe_var (by rw [hN]; exact hi) (.inl (by rw [hs]; exact lk i x hi)) h1 h2
  refine fn_super (k := 4) (n := 3) (ks := ["gone"]) (t := tCons (tVar 1) (tCons (tVar 2) tNil)) (tk := tCons (tVar 3) tNil) (ar := ((defArgs s_Join_init).args.getD 0 default)) S (ok_Market_init T) kb rfl rfl rfl (by decide +kernel) (by decide +kernel) (by decide) (by decide +kernel) (by decide +kernel) rfl rfl ?_ ?_ ?_ ?_ ?_ ?_ ?_ ?_ ?_ ?_
  · rintro vs H Q E ⟨I, ps, A, S', R, d, ⟨M, C, d1, d2, rfl, rfl, rfl, _⟩, _⟩
    obtain ⟨x, r, p, e, hp, hx⟩ := first d
    obtain ⟨_, dx, xs, hH, _⟩ := d.cl 0 p _ hp rfl
    exact ⟨p, r, dx, _, e, hH⟩
  · rintro vs H Q E ⟨I, ps, A, S', R, d, ⟨M, C, d1, d2, rfl, rfl, rfl, s1, s2, ok, hR⟩, k⟩
    refine ⟨I, ps, _, _, fun S' r => R S' r ∧ r = .im nD, d, ⟨M, _, d1, d2, rfl, rfl, rfl, s1, s2, ok, hR, rfl⟩, ?_⟩
    rintro S' r ⟨h1, rfl⟩ hl v H' I' hret
    refine ⟨?_, k S' _ h1 hl v H' I' hret⟩
    have hret : SdI c ⟨I, H, ps⟩ I' ps [some v] H' [.im nD] S' := hret
    cases hret.ok with
    | cons a _ =>
      obtain ⟨v', e, hv⟩ := a
      cases e
      exact hv.v_inv
  · intro X hN hs hk
    exact ⟨pa_cons (pn X 1 _ _ hN hs rfl (by decide) (by decide)) (pa_cons (pn X 2 _ _ hN hs rfl (by decide) (by decide)) pa_nil), pk_cons (pn X 3 _ _ hN hs rfl (by decide) (by decide)) pk_nil⟩
  · exact fun env => ⟨_, rfl⟩
  · intro env h
    unfold interactive
    rw [h]
    rfl
  · exact fun env => rfl
  · exact fun env => rfl
  · exact fun env => rfl
  · exact fun env => rfl
  · rintro vs H Q E ⟨I, ps, A, S', R, d, ⟨M, C, d1, d2, rfl, rfl, rfl, _⟩, _⟩
    have hl : vs.length = 4 := by have := d.ok.length; rw [List.length_map] at this; exact this
    obtain ⟨x, r, p, e, hp, hx⟩ := first d
    match vs, hl, e with
    | [v0, v1, v2, v3], _, e =>
      injection e with e1 e2
      subst e1 e2
      exact ⟨v1, rfl, v2, rfl, v3, rfl, ⟨p, [v1, v2, v3], rfl, rfl, rfl, rfl⟩, rfl⟩
end
end K78

set_option Elab.async false
set_option linter.all false
set_option maxRecDepth 100000
set_option maxHeartbeats 4000000
namespace K78
open PySem PySem.Spec PyProof.Rows L2 Dt
section
variable {w : World} {K : PySem.W.Frag} {h : Heap} {mg : Str → Option Value}
theorem gl (X : K.In h) (G : h.Ns mainGlobals mg) {x k : Str} (c : (He.Fa.glo x).ok K = true) (e : loc k = (x, none)) : mg x = some (.ref (He.fAd K (loc k))) := by
  rw [e]
  exact He.glo_ok X G c
def tx (z : FuncData) (X : K.In h) (G : h.Ns mainGlobals mg) (c : SaysX prg exs fas fns sps K) (S : SupI prg K mg "Join.__init__" (defArgs s_Join_init) (defBody s_Join_init) (defScope s_Join_init) (He.ga K "Join") (He.fAd K (loc "Join.__init__")) (He.fAd K (loc "Market.__init__")) (fdA K z (He.fAd K (loc "Join.__init__")))) : Tx K mg where
  f := fun k => He.fAd K (loc k)
  fd := fun k => fdA K z (He.fAd K (loc k))
  cC := fun x => He.ga K x
  F_law_draws := c.F z 0 (d := d_law_draws)
  g_law_draws := gl X G (c.fact 0 (f := .glo "_law_draws")) (by decide +kernel)
  F_law_take := c.F z 1 (d := d_law_take)
  g_law_take := gl X G (c.fact 1 (f := .glo "_law_take")) (by decide +kernel)
  F_law_special := c.F z 2 (d := d_law_special)
  g_law_special := gl X G (c.fact 2 (f := .glo "_law_special")) (by decide +kernel)
  F_law_chains := c.F z 3 (d := d_law_chains)
  g_law_chains := gl X G (c.fact 3 (f := .glo "_law_chains")) (by decide +kernel)
  F_law_market := c.F z 4 (d := d_law_market)
  g_law_market := gl X G (c.fact 4 (f := .glo "_law_market")) (by decide +kernel)
  F_is_int := c.F z 5 (d := d_is_int)
  g_is_int := gl X G (c.fact 5 (f := .glo "is_int")) (by decide +kernel)
  F_check_number := c.F z 6 (d := d_check_number)
  g_check_number := gl X G (c.fact 6 (f := .glo "check_number")) (by decide +kernel)
  F_pair_of := c.F z 7 (d := d_pair_of)
  g_pair_of := gl X G (c.fact 7 (f := .glo "pair_of")) (by decide +kernel)
  F_u_runs_of := c.F z 8 (d := d_u_runs_of)
  g_u_runs_of := gl X G (c.fact 8 (f := .glo "_runs_of")) (by decide +kernel)
  F_set_of := c.F z 9 (d := d_set_of)
  g_set_of := gl X G (c.fact 9 (f := .glo "set_of")) (by decide +kernel)
  F_Market_init := c.F z 10 (d := d_Market_init)
  F_minus := c.F z 11 (d := d_minus)
  g_minus := gl X G (c.fact 10 (f := .glo "minus")) (by decide +kernel)
  F_Market_there := c.F z 12 (d := d_Market_there)
  F_u_reached := c.F z 13 (d := d_u_reached)
  g_u_reached := gl X G (c.fact 11 (f := .glo "_reached")) (by decide +kernel)
  F_u_turn := c.F z 14 (d := d_u_turn)
  g_u_turn := gl X G (c.fact 12 (f := .glo "_turn")) (by decide +kernel)
  F_u_full_flow := c.F z 15 (d := d_u_full_flow)
  g_u_full_flow := gl X G (c.fact 13 (f := .glo "_full_flow")) (by decide +kernel)
  F_strength := c.F z 16 (d := d_strength)
  g_strength := gl X G (c.fact 14 (f := .glo "strength")) (by decide +kernel)
  F_check_join := c.F z 17 (d := d_check_join)
  g_check_join := gl X G (c.fact 15 (f := .glo "check_join")) (by decide +kernel)
  F_check_few := c.F z 18 (d := d_check_few)
  g_check_few := gl X G (c.fact 16 (f := .glo "check_few")) (by decide +kernel)
  F_check_size := c.F z 19 (d := d_check_size)
  g_check_size := gl X G (c.fact 17 (f := .glo "check_size")) (by decide +kernel)
  F_demand_of := c.F z 20 (d := d_demand_of)
  g_demand_of := gl X G (c.fact 18 (f := .glo "demand_of")) (by decide +kernel)
  F_points_of := c.F z 21 (d := d_points_of)
  g_points_of := gl X G (c.fact 19 (f := .glo "points_of")) (by decide +kernel)
  F_check_part := c.F z 22 (d := d_check_part)
  g_check_part := gl X G (c.fact 20 (f := .glo "check_part")) (by decide +kernel)
  F_part_there := c.F z 23 (d := d_part_there)
  g_part_there := gl X G (c.fact 21 (f := .glo "part_there")) (by decide +kernel)
  F_begins := c.F z 24 (d := d_begins)
  g_begins := gl X G (c.fact 22 (f := .glo "begins")) (by decide +kernel)
  F_u_chosen := c.F z 25 (d := d_u_chosen)
  g_u_chosen := gl X G (c.fact 23 (f := .glo "_chosen")) (by decide +kernel)
  F_u_filled := c.F z 26 (d := d_u_filled)
  g_u_filled := gl X G (c.fact 24 (f := .glo "_filled")) (by decide +kernel)
  F_u_any_stock := c.F z 27 (d := d_u_any_stock)
  g_u_any_stock := gl X G (c.fact 25 (f := .glo "_any_stock")) (by decide +kernel)
  F_has_stock := c.F z 28 (d := d_has_stock)
  g_has_stock := gl X G (c.fact 26 (f := .glo "has_stock")) (by decide +kernel)
  F_u_check_stocks := c.F z 29 (d := d_u_check_stocks)
  g_u_check_stocks := gl X G (c.fact 27 (f := .glo "_check_stocks")) (by decide +kernel)
  F_u_moves := c.F z 30 (d := d_u_moves)
  g_u_moves := gl X G (c.fact 28 (f := .glo "_moves")) (by decide +kernel)
  F_u_both_ways := c.F z 31 (d := d_u_both_ways)
  g_u_both_ways := gl X G (c.fact 29 (f := .glo "_both_ways")) (by decide +kernel)
  F_u_cover := c.F z 32 (d := d_u_cover)
  g_u_cover := gl X G (c.fact 30 (f := .glo "_cover")) (by decide +kernel)
  F_cover := c.F z 33 (d := d_cover)
  g_cover := gl X G (c.fact 31 (f := .glo "cover")) (by decide +kernel)
  F_some_stock := c.F z 34 (d := d_some_stock)
  g_some_stock := gl X G (c.fact 32 (f := .glo "some_stock")) (by decide +kernel)
  F_both := c.F z 35 (d := d_both)
  g_both := gl X G (c.fact 33 (f := .glo "both")) (by decide +kernel)
  F_Join_lose := c.F z 36 (d := d_Join_lose)
  F_u_stock_with := c.F z 37 (d := d_u_stock_with)
  g_u_stock_with := gl X G (c.fact 34 (f := .glo "_stock_with")) (by decide +kernel)
  F_walk_over := c.F z 38 (d := d_walk_over)
  g_walk_over := gl X G (c.fact 35 (f := .glo "walk_over")) (by decide +kernel)
  F_going_back := c.F z 39 (d := d_going_back)
  g_going_back := gl X G (c.fact 36 (f := .glo "going_back")) (by decide +kernel)
  F_grows_at := c.F z 40 (d := d_grows_at)
  g_grows_at := gl X G (c.fact 37 (f := .glo "grows_at")) (by decide +kernel)
  F_grows := c.F z 41 (d := d_grows)
  g_grows := gl X G (c.fact 38 (f := .glo "grows")) (by decide +kernel)
  F_u_more := c.F z 42 (d := d_u_more)
  g_u_more := gl X G (c.fact 39 (f := .glo "_more")) (by decide +kernel)
  F_stocks_of := c.F z 43 (d := d_stocks_of)
  g_stocks_of := gl X G (c.fact 40 (f := .glo "stocks_of")) (by decide +kernel)
  F_common := c.F z 44 (d := d_common)
  g_common := gl X G (c.fact 41 (f := .glo "common")) (by decide +kernel)
  F_u_misfit := c.F z 45 (d := d_u_misfit)
  g_u_misfit := gl X G (c.fact 42 (f := .glo "_misfit")) (by decide +kernel)
  F_check_stock := c.F z 46 (d := d_check_stock)
  g_check_stock := gl X G (c.fact 43 (f := .glo "check_stock")) (by decide +kernel)
  F_u_others := c.F z 47 (d := d_u_others)
  g_u_others := gl X G (c.fact 44 (f := .glo "_others")) (by decide +kernel)
  F_Join_keep := c.F z 48 (d := d_Join_keep)
  F_stock_left := c.F z 49 (d := d_stock_left)
  g_stock_left := gl X G (c.fact 45 (f := .glo "stock_left")) (by decide +kernel)
  F_law_all_leave := c.F z 50 (d := d_law_all_leave)
  g_law_all_leave := gl X G (c.fact 46 (f := .glo "_law_all_leave")) (by decide +kernel)
  F_law_int := c.F z 51 (d := d_law_int)
  g_law_int := gl X G (c.fact 47 (f := .glo "_law_int")) (by decide +kernel)
  F_law_set := c.F z 52 (d := d_law_set)
  g_law_set := gl X G (c.fact 48 (f := .glo "_law_set")) (by decide +kernel)
  F_law_cover := c.F z 53 (d := d_law_cover)
  g_law_cover := gl X G (c.fact 49 (f := .glo "_law_cover")) (by decide +kernel)
  F_law_left_right := c.F z 54 (d := d_law_left_right)
  g_law_left_right := gl X G (c.fact 50 (f := .glo "_law_left_right")) (by decide +kernel)
  F_law_some_leave := c.F z 55 (d := d_law_some_leave)
  g_law_some_leave := gl X G (c.fact 51 (f := .glo "_law_some_leave")) (by decide +kernel)
  F_law_lost_chains := c.F z 56 (d := d_law_lost_chains)
  g_law_lost_chains := gl X G (c.fact 52 (f := .glo "_law_lost_chains")) (by decide +kernel)
  F_law := c.F z 57 (d := d_law)
  g_law := gl X G (c.fact 53 (f := .glo "law")) (by decide +kernel)
  n_bool := He.free_ok X G (c.fact 54 (f := .free "bool"))
  n_enumerate := He.free_ok X G (c.fact 55 (f := .free "enumerate"))
  n_int := He.free_ok X G (c.fact 56 (f := .free "int"))
  n_isinstance := He.free_ok X G (c.fact 57 (f := .free "isinstance"))
  n_len := He.free_ok X G (c.fact 58 (f := .free "len"))
  n_list := He.free_ok X G (c.fact 59 (f := .free "list"))
  n_min := He.free_ok X G (c.fact 60 (f := .free "min"))
  n_range := He.free_ok X G (c.fact 61 (f := .free "range"))
  n_reversed := He.free_ok X G (c.fact 62 (f := .free "reversed"))
  n_sorted := He.free_ok X G (c.fact 63 (f := .free "sorted"))
  n_tuple := He.free_ok X G (c.fact 64 (f := .free "tuple"))
  mk_Join := He.mkr_ok (c.fact 66 (f := .mkr "Join"))
  g_Join := He.glo_ok X G (c.fact 68 (f := .glo "Join"))
  kb_Join := sup_kb (ps := ["self", "size", "runs", "gone"]) (ks := ["gone"]) (n := 3) S fun _ _ _ _ _ _ _ us ws h1 h2 => match us, h1, ws, h2 with | [_, _, _], _, [_], _ => rfl
  cl_Join := He.cls_ok (c.fact 67 (f := .cls "Join"))
  m_Join_there := He.meth_ok (c.fact 69 (f := .meth "Join" "there"))
  m_Join_lose := He.meth_ok (c.fact 70 (f := .meth "Join" "lose"))
  m_Join_keep := He.meth_ok (c.fact 71 (f := .meth "Join" "keep"))
  con_KIND := conB_ok (c.ex_ 0)
  at_size := He.noat_ok (c.fact 72 (f := .noat "Join" "size"))
  at_runs := He.noat_ok (c.fact 73 (f := .noat "Join" "runs"))
  at_gone := He.noat_ok (c.fact 74 (f := .noat "Join" "gone"))
theorem sup_no (X : K.In h) (G : h.Ns mainGlobals mg) (c : SaysX prg exs fas fns sps K) : mg "super" = none := He.free_ok X G (c.fact 65 (f := .free "super"))
end
end K78

set_option Elab.async false
set_option linter.all false
set_option maxRecDepth 100000
set_option maxHeartbeats 4000000
namespace K78
open PySem PySem.Spec PyProof.Rows L2 Dt
theorem facts {w : World} {K : PySem.W.Frag} {h : Heap} {mg : Str → Option Value} {f : Addr} (X : K.In h) (G : h.Ns mainGlobals mg) (hfa : mg ("law" : Str) = some (.ref f)) (c : SaysX prg exs fas fns sps K) :
    ∃ fd : FuncData, (∀ (s : Shared) (v : Value), BindsTo s fd ⟨[v], []⟩ [("script", v)]) ∧ ∀ base : Heap, K.In base → base.Ns mainGlobals mg → FnOk prg w K mg base CX0 13 f fd ["script"] (spD ⟨prg, w, K⟩ W_law) := by
  obtain ⟨z, F0⟩ := c.def_ 0 (d := d_law_draws)
  have sup : mg "super" = none := sup_no X G c
  have hb : bootBuiltins "super" = some (.type "super") := by decide +kernel
  have ht : (prg.main.scope.names.lookup ("super" : Str)).isSome = false := by decide +kernel
  obtain ⟨fj, S0⟩ := c.sup 0 (s := p_Join_init) rfl sup hb ht
  have S := fdA_sup S0 z
  let T := tx z X G c S
  have e := hfa.symm.trans T.g_law
  cases e
  have b := FunD.bindsA (ps := ["script"]) T.F_law fun _ _ _ _ _ _ us hl => match us, hl with | [_], _ => rfl
  have kb : KBn K (T.fd "Market.__init__") ["self", "size", "runs", "gone"] 3 ["gone"] (fun us ws => us ++ ws) (fun vs zs => vs ++ zs) :=
    fun_kb (ps := ["self", "size", "runs", "gone"]) (ks := ["gone"]) (n := 3) T.F_Market_init fun _ _ _ _ _ _ us ws h1 h2 => match us, h1, ws, h2 with | [_, _, _], _, [_], _ => rfl
  exact ⟨T.fd "law", fun s v => b s [v] rfl, fun base _ _ => ok_law (c := ⟨prg, w, K⟩) T plain (ok_Join_init (c := ⟨prg, w, K⟩) T S kb)⟩
theorem spLaw {w : World} {K : PySem.W.Frag} {H : Hp} {a : Addr} {ns : List Int} (hl : ns.length ≤ 63) (hO : Only H) (hS : SqL K H a (ns.map V.int)) : spD ⟨prg, w, K⟩ W_law [.ref a] H (fun v _ => v = .bl true) fun _ _ _ => False := by
  have hh : Holds K H (.ref a) (.rl (lsD ns)) := by
    refine .rl hS ?_
    have : lsD ns = (ns.map V.int).map D.v := by rw [List.map_map]; rfl
    rw [this]
    exact HoldsL.vs _
  refine ⟨H, [], [.im (.rl (lsD ns))], [], fun S' r => r = .im (bD true) ∧ S' = [], ⟨Ex.refl H, Ex.refl H, fun _ _ h _ => h, fun _ _ h _ => h, List.prefix_refl _, (fun p hp => by cases hp), (fun p hp => by cases hp), List.nodup_nil, rfl, (fun k p x h => by simp at h), .cons ⟨_, rfl, hh⟩ .nil⟩, ⟨ns, rfl, rfl, hl, rfl, rfl⟩, ?_⟩
  · rintro S' r ⟨rfl, rfl⟩ _ v H' I' hret
    have hret : SdI _ _ I' [] [some v] H' [.im (bD true)] [] := hret
    cases hret.ok with
    | cons a _ =>
      obtain ⟨v', e, hv⟩ := a
      cases e
      exact hv.v_inv
end K78
open PySem PySem.W PySem.Calls PyProof.Rows
theorem PySem.Challenge.cw_boughtparts_k78_growing_from_chains_alon_holds : PySem.Challenge.rw_boughtparts_k78_growing_from_chains_alon.Holds := by
  w_on; o_law
  refine HandSHeadRun.head_any (r := OpenLaw.row PySem.Challenge.rw_boughtparts_k78_growing_from_chains_alon) (q := view (OpenLaw.row PySem.Challenge.rw_boughtparts_k78_growing_from_chains_alon).prog [90]) (H := K78.hk) (ob := K78.ob) (M := 20000) (loose := K78.names) (d := HandSHeadRun.topDef (OpenLaw.row PySem.Challenge.rw_boughtparts_k78_growing_from_chains_alon).prog 90) (kwd := []) K78.ob_eq
    (by kernel_rfl) (fun s => by kernel_rfl) K78.run (by kernel_rfl) (by kernel_rfl) (by kernel_rfl) (by rfl) (by first | assumption | decide +kernel) (by decide +kernel) ⟨rfl, rfl, rfl, rfl, rfl, by decide +kernel⟩ ?hw ?hc
  case hw => w_witness2
  case hc =>
    refine L2.walk_ofE (l := PySem.Challenge.rw_boughtparts_k78_growing_from_chains_alon) (n := 63) (k := 13) (x := "script") (CX := L2.CX0) rfl (by decide) (by kernel_rfl) ⟨rfl, by decide, by decide⟩ ?F (fun _ _ _ _ z => z)
    intro w mg fa h Y G hmg0
    obtain ⟨K, KX, c⟩ := Y
    have hmg : mg ("law" : PySem.Str) = some (.ref fa) := by
      have e : (HandSHeadRun.topDef (OpenLaw.row PySem.Challenge.rw_boughtparts_k78_growing_from_chains_alon).prog 90).name = ("law" : PySem.Str) := by kernel_rfl
      rw [← e]
      exact hmg0
    obtain ⟨fd, hb, hF⟩ := K78.facts (w := w) KX G hmg c
    exact ⟨K, fd, _, KX, hb, fun H a ns hl hO hS => K78.spLaw hl hO hS, hF⟩
