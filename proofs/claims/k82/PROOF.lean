import PyProof.Rows.All
import Wide.All
import OpenK.AllK
import Wide.FinOn
import KE.KStateDown
import HandS.HeadHook4
import HandS.ExcField
import HandS.Head2
import HandS.HeadEnd
import HandS.HeadWalk
import HandS.ForMost
import HandS.Exc
import HandS.CallSlots
import HandS.WordsExc
import HandS.Zip
import HandS.Walk
import HandS.IsInst
import HandS.Deep
import HandS.Lambda
import HandS.Flow
import KE.GoesEnum
import HandS.NoneIn
import HandS.Defaults
import HandS.HeadHook2
import HandS.TupAny
import HandS.TupLe
import HandS.TupMul
import HandS.Style
import HandS.Conv
import HandS.Small
import KE.KExcInit
import HandS.ExcInit
import HandS.LawCells
import HandS.ExcIs
import HandS.Head0
import HandS.Head1
import HandS.HeadHook1
import PySem.Challenge.RW_tapworks_k82_whole_flows_against_heights
set_option Elab.async false
set_option linter.all false
set_option maxRecDepth 100000
set_option maxHeartbeats 4000001
/-! MVH: a Hook that looks at what the needed names reach alone. -/
namespace MV
open PySem PySem.Spec PyProof.Rows L2 He

def growM (g : Addr → Option Obj) : Nat → List Addr → List Addr → List Addr
  | 0, vis, _ => vis
  | n + 1, vis, fr => (fun new => growM g n (vis ++ new) new) ((fr.flatMap fun a => match g a with
      | some o => refsD o
      | none => []).eraseDups.filter fun a => !vis.contains a)
def startM (g : Addr → Option Obj) (xs : List Str) : List Addr := (xs.map (He.ga (frG g [mainGlobals]))).eraseDups
def asM (n : Nat) (xs : List Str) (g : Addr → Option Obj) : List Addr := (fun st => growM g n (mainGlobals :: st) st) (startM g xs)
def obsY (as : (Addr → Option Obj) → List Addr) (fa : List Fa) (fn : List DefD) (tf : List Defn) (ex : PySem.W.Frag → Bool) (g : Addr → Option Obj) : AlX :=
  (obsT fa fn [] (frT g (as g)), ex (frT g (as g)) && tabsB g tf (frT g (as g)))
theorem saysY_of {as : (Addr → Option Obj) → List Addr} {fa : List Fa} {fn : List DefD} {tf : List Defn} {ex : PySem.W.Frag → Bool} {w : World} {h : Heap} (e : obsY as fa fn tf ex h.get? = valX fn [] w) : SaysX fa fn [] tf ex w h (frT h.get? (as h.get?)) := by
  have e1 : obsT fa fn [] (frT h.get? (as h.get?)) = valT fn [] w := congrArg (fun z : AlX => z.1) e
  have e2 : (ex (frT h.get? (as h.get?)) && tabsB h.get? tf (frT h.get? (as h.get?))) = true := congrArg (fun z : AlX => z.2) e
  obtain ⟨h1, h2⟩ := Bool.and_eq_true_iff.mp e2
  have key : ∀ p ∈ tf, PySem.W.codeHdIn (frT h.get? (as h.get?)) (cT (frT h.get? (as h.get?)) p).1 (cT (frT h.get? (as h.get?)) p).2 = true ∧ ∃ o, h.get? (cT (frT h.get? (as h.get?)) p).2 = some o ∧ emptyTab o = true := fun p hp => by
    obtain ⟨h3, h4⟩ := Bool.and_eq_true_iff.mp (List.all_eq_true.mp h2 p hp)
    refine ⟨h3, ?_⟩
    cases q : h.get? (cT (frT h.get? (as h.get?)) p).2 with
    | none =>
      rw [q] at h4
      cases h4
    | some o =>
      rw [q] at h4
      exact ⟨o, rfl, h4⟩
  exact ⟨e1, h1, fun p hp => (key p hp).1, fun p hp => by
    obtain ⟨_, o, q, z⟩ := key p hp
    exact frT_none q z, fun p hp => by
    obtain ⟨_, o, q, z⟩ := key p hp
    rw [q, emptyTab_eq z]⟩
def hookY (as : (Addr → Option Obj) → List Addr) (fa : List Fa) (fn : List DefD) (tf : List Defn) (ex : PySem.W.Frag → Bool) : PySem.W.Hook where
  α := AlX
  obs := fun s => obsY as fa fn tf ex s.heap.get?
  val := fun w => valX fn [] w
  says := fun w h => ∃ K : PySem.W.Frag, K.In h ∧ SaysX fa fn [] tf ex w h K
  of := fun _ _ e => ⟨_, frT_in, saysY_of e⟩
  keeps := fun _ _ _ ⟨K, hK, c⟩ k => ⟨K, PySem.W.Frag.In.keeps hK k, ⟨c.t, c.more, c.hd, c.out, fun p hp => k _ _ (c.empty p hp)⟩⟩
theorem obsY_eq {as : (Addr → Option Obj) → List Addr} {fa : List Fa} {fn : List DefD} {tf : List Defn} {ex : PySem.W.Frag → Bool} {g : Addr → Option Obj} {s : Shared} (h : ∀ a, g a = s.heap.get? a) : obsY as fa fn tf ex g = (hookY as fa fn tf ex).obs s := by
  have e : g = s.heap.get? := funext h
  rw [e] <;> rfl
/-! ### Bools over K that a head asks for -/
open LamX
def isRf : Value → Bool
  | .ref _ => true
  | _ => false
def clsB (K : PySem.W.Frag) (C : Addr) (newId : String) (tl : List Value) : Bool := match K.lookup C with
  | some ⟨.type "type", _, .cls cd, ⟨[_, _, _, _, some (.builtin n), _]⟩⟩ => (match cd.mro with
    | .ref C' :: bm => decide (C' = C) && (decide (n = newId) && (cd.hasDict && (!cd.hasDel && (bm.dropWhile isRf == tl))))
    | _ => false)
  | _ => false
def excB (K : PySem.W.Frag) (D : Addr) : Bool := decide (PySem.W.findIn K (.ref D) "__getattribute__" = some (some (.builtin "BaseException.__getattribute__"))) && (decide (PySem.W.findIn K (.ref D) "__getattr__" = some none) &&
  (decide (PySem.W.subIn K (.ref D) (.type "BaseException") = some true) && (PySem.W.hasDictIn K D && (decide (PySem.W.findIn K (.ref D) "__class__" = some (some (.builtin "object.__class__"))) &&
  (decide (PySem.W.specialIn K (.builtin "object.__class__") "__get__" = some (some (.builtin "getset_descriptor.__get__"))) && (decide (PySem.W.takesIn K (.builtin "object.__class__") = some true) && decide (PySem.W.mroIn K D (.type "object") = some true)))))))
def suB (K : PySem.W.Frag) (n : Str) : Bool := xfB K (He.ga K n) && excB K (He.ga K n)
/-- m: where the __init__ stands -/
def rzB (K : PySem.W.Frag) (n f : Str) (m : Str × Option Str) (newId : String) (tl : List Value) : Bool := clsB K (He.ga K n) newId tl && (decide (PySem.W.findIn K (.ref (He.ga K n)) "__setattr__" = some (some (.builtin "object.__setattr__"))) &&
  (decide (PySem.W.subIn K (.ref (He.ga K n)) (.type "BaseException") = some true) && (decide (PySem.W.typeIn K (.ref (He.ga K n)) = some (.type "type")) && (PySem.W.keepIn K (.ref (He.ga K n)) &&
  (decide (PySem.W.findIn K (.ref (He.ga K n)) "__init__" = some (some (.ref (He.fAd K m)))) && (decide (PySem.W.typeIn K (.ref (He.fAd K m)) = some (.type "function")) && decide (PySem.W.findIn K (.ref (He.ga K n)) f = some none)))))))
end MV

/-! the head: the top's run, printed by gen.py -/
namespace K82
open PySem PySem.Spec PyProof.Rows L2 MV LamX

def top (i : Nat) : Stmt := PySem.Challenge.pw_tapworks_k82_whole_flows_against_heights.main.body.getD i (.Pass ⟨0, 0, 0, 0⟩)
def clsBody : Stmt → List Stmt
  | .ClassDef _ _ _ body _ _ _ _ _ _ _ => body
  | _ => []
def d__law_pot : He.DefD := ⟨("_law_pot", none), "_law_pot", "_law_pot", defArgs (top 61), defBody (top 61), defScope (top 61), [], []⟩
def d__law_draw : He.DefD := ⟨("_law_draw", none), "_law_draw", "_law_draw", defArgs (top 62), defBody (top 62), defScope (top 62), [], []⟩
def d__law_pick : He.DefD := ⟨("_law_pick", none), "_law_pick", "_law_pick", defArgs (top 63), defBody (top 63), defScope (top 63), [], []⟩
def d__law_stair : He.DefD := ⟨("_law_stair", none), "_law_stair", "_law_stair", defArgs (top 64), defBody (top 64), defScope (top 64), [], []⟩
def d__law_net : He.DefD := ⟨("_law_net", none), "_law_net", "_law_net", defArgs (top 65), defBody (top 65), defScope (top 65), [], []⟩
def d_is_tuple : He.DefD := ⟨("is_tuple", none), "is_tuple", "is_tuple", defArgs (top 3), defBody (top 3), defScope (top 3), [], []⟩
def d_is_integer : He.DefD := ⟨("is_integer", none), "is_integer", "is_integer", defArgs (top 1), defBody (top 1), defScope (top 1), [], []⟩
def d_are_heights : He.DefD := ⟨("are_heights", none), "are_heights", "are_heights", defArgs (top 35), defBody (top 35), defScope (top 35), [], []⟩
def d_are_flows : He.DefD := ⟨("are_flows", none), "are_flows", "are_flows", defArgs (top 36), defBody (top 36), defScope (top 36), [], []⟩
def d_is_let : He.DefD := ⟨("is_let", none), "is_let", "is_let", defArgs (top 22), defBody (top 22), defScope (top 22), [], []⟩
def d_ahead_of : He.DefD := ⟨("ahead_of", none), "ahead_of", "ahead_of", defArgs (top 19), defBody (top 19), defScope (top 19), [], []⟩
def d_drop_ends : He.DefD := ⟨("drop_ends", none), "drop_ends", "drop_ends", defArgs (top 20), defBody (top 20), defScope (top 20), [], []⟩
def d_flow_ends : He.DefD := ⟨("flow_ends", none), "flow_ends", "flow_ends", defArgs (top 21), defBody (top 21), defScope (top 21), [], []⟩
def d_flows_in : He.DefD := ⟨("flows_in", none), "flows_in", "flows_in", defArgs (top 23), defBody (top 23), defScope (top 23), [], []⟩
def d_is_on : He.DefD := ⟨("is_on", none), "is_on", "is_on", defArgs (top 24), defBody (top 24), defScope (top 24), [], []⟩
def d_drop_of : He.DefD := ⟨("drop_of", none), "drop_of", "drop_of", defArgs (top 39), defBody (top 39), defScope (top 39), [], []⟩
def d_taps_of : He.DefD := ⟨("taps_of", none), "taps_of", "taps_of", defArgs (top 32), defBody (top 32), defScope (top 32), [], []⟩
def d_comes_to : He.DefD := ⟨("comes_to", none), "comes_to", "comes_to", defArgs (top 40), defBody (top 40), defScope (top 40), [], []⟩
def d_are_kept : He.DefD := ⟨("are_kept", none), "are_kept", "are_kept", defArgs (top 41), defBody (top 41), defScope (top 41), [], []⟩
def d_is_stand_of : He.DefD := ⟨("is_stand_of", none), "is_stand_of", "is_stand_of", defArgs (top 42), defBody (top 42), defScope (top 42), [], []⟩
def d_is_stand_any : He.DefD := ⟨("is_stand_any", none), "is_stand_any", "is_stand_any", defArgs (top 43), defBody (top 43), defScope (top 43), [], []⟩
def d_is_within : He.DefD := ⟨("is_within", none), "is_within", "is_within", defArgs (top 2), defBody (top 2), defScope (top 2), [], []⟩
def d_is_number : He.DefD := ⟨("is_number", none), "is_number", "is_number", defArgs (top 16), defBody (top 16), defScope (top 16), [], []⟩
def d_are_mosts : He.DefD := ⟨("are_mosts", none), "are_mosts", "are_mosts", defArgs (top 17), defBody (top 17), defScope (top 17), [], []⟩
def d_is_stair_any : He.DefD := ⟨("is_stair_any", none), "is_stair_any", "is_stair_any", defArgs (top 18), defBody (top 18), defScope (top 18), [], []⟩
def d_is_pipe_of : He.DefD := ⟨("is_pipe_of", none), "is_pipe_of", "is_pipe_of", defArgs (top 29), defBody (top 29), defScope (top 29), [], []⟩
def d_is_net_any : He.DefD := ⟨("is_net_any", none), "is_net_any", "is_net_any", defArgs (top 30), defBody (top 30), defScope (top 30), [], []⟩
def d_want_net : He.DefD := ⟨("want_net", none), "want_net", "want_net", defArgs (top 31), defBody (top 31), defScope (top 31), [], []⟩
def d_are_draws : He.DefD := ⟨("are_draws", none), "are_draws", "are_draws", defArgs (top 33), defBody (top 33), defScope (top 33), [], []⟩
def d_want_draws : He.DefD := ⟨("want_draws", none), "want_draws", "want_draws", defArgs (top 34), defBody (top 34), defScope (top 34), [], []⟩
def d_want_asked : He.DefD := ⟨("want_asked", none), "want_asked", "want_asked", defArgs (top 47), defBody (top 47), defScope (top 47), [], []⟩
def d_is_stand : He.DefD := ⟨("is_stand", none), "is_stand", "is_stand", defArgs (top 48), defBody (top 48), defScope (top 48), [], []⟩
def d_want_flows : He.DefD := ⟨("want_flows", none), "want_flows", "want_flows", defArgs (top 38), defBody (top 38), defScope (top 38), [], []⟩
def d_not_let_flow : He.DefD := ⟨("not_let_flow", none), "not_let_flow", "not_let_flow", defArgs (top 53), defBody (top 53), defScope (top 53), [], []⟩
def d_nearest : He.DefD := ⟨("nearest", none), "nearest", "nearest", defArgs (top 45), defBody (top 45), defScope (top 45), [], []⟩
def d_under_steps : He.DefD := ⟨("under_steps", none), "under_steps", "under_steps", defArgs (top 50), defBody (top 50), defScope (top 50), [], []⟩
def d_energy_of : He.DefD := ⟨("energy_of", none), "energy_of", "energy_of", defArgs (top 51), defBody (top 51), defScope (top 51), [], []⟩
def d_flows_cost : He.DefD := ⟨("flows_cost", none), "flows_cost", "flows_cost", defArgs (top 55), defBody (top 55), defScope (top 55), [], []⟩
def d_want_let : He.DefD := ⟨("want_let", none), "want_let", "want_let", defArgs (top 57), defBody (top 57), defScope (top 57), [], []⟩
def d_flows_energy : He.DefD := ⟨("flows_energy", none), "flows_energy", "flows_energy", defArgs (top 58), defBody (top 58), defScope (top 58), [], []⟩
def d_want_heights : He.DefD := ⟨("want_heights", none), "want_heights", "want_heights", defArgs (top 37), defBody (top 37), defScope (top 37), [], []⟩
def d_not_let_drop : He.DefD := ⟨("not_let_drop", none), "not_let_drop", "not_let_drop", defArgs (top 54), defBody (top 54), defScope (top 54), [], []⟩
def d_worth_of : He.DefD := ⟨("worth_of", none), "worth_of", "worth_of", defArgs (top 52), defBody (top 52), defScope (top 52), [], []⟩
def d_heights_worth_of : He.DefD := ⟨("heights_worth_of", none), "heights_worth_of", "heights_worth_of", defArgs (top 56), defBody (top 56), defScope (top 56), [], []⟩
def d_heights_worth : He.DefD := ⟨("heights_worth", none), "heights_worth", "heights_worth", defArgs (top 59), defBody (top 59), defScope (top 59), [], []⟩
def d__law_flow_ends : He.DefD := ⟨("_law_flow_ends", none), "_law_flow_ends", "_law_flow_ends", defArgs (top 66), defBody (top 66), defScope (top 66), [], []⟩
def d__law_is_between : He.DefD := ⟨("_law_is_between", none), "_law_is_between", "_law_is_between", defArgs (top 68), defBody (top 68), defScope (top 68), [], []⟩
def d__law_drop_ends : He.DefD := ⟨("_law_drop_ends", none), "_law_drop_ends", "_law_drop_ends", defArgs (top 67), defBody (top 67), defScope (top 67), [], []⟩
def d__law_flows_at : He.DefD := ⟨("_law_flows_at", none), "_law_flows_at", "_law_flows_at", defArgs (top 69), defBody (top 69), defScope (top 69), [], []⟩
def d__law_comes : He.DefD := ⟨("_law_comes", none), "_law_comes", "_law_comes", defArgs (top 71), defBody (top 71), defScope (top 71), [], []⟩
def d__law_near_nought : He.DefD := ⟨("_law_near_nought", none), "_law_near_nought", "_law_near_nought", defArgs (top 70), defBody (top 70), defScope (top 70), [], []⟩
def d__law_under : He.DefD := ⟨("_law_under", none), "_law_under", "_law_under", defArgs (top 80), defBody (top 80), defScope (top 80), [], []⟩
def d__law_energy : He.DefD := ⟨("_law_energy", none), "_law_energy", "_law_energy", defArgs (top 81), defBody (top 81), defScope (top 81), [], []⟩
def d__law_cost : He.DefD := ⟨("_law_cost", none), "_law_cost", "_law_cost", defArgs (top 83), defBody (top 83), defScope (top 83), [], []⟩
def d__law_worth : He.DefD := ⟨("_law_worth", none), "_law_worth", "_law_worth", defArgs (top 82), defBody (top 82), defScope (top 82), [], []⟩
def d__law_value : He.DefD := ⟨("_law_value", none), "_law_value", "_law_value", defArgs (top 84), defBody (top 84), defScope (top 84), [], []⟩
def d__law_some_flows : He.DefD := ⟨("_law_some_flows", none), "_law_some_flows", "_law_some_flows", defArgs (top 86), defBody (top 86), defScope (top 86), [], []⟩
def d__law_some_heights : He.DefD := ⟨("_law_some_heights", none), "_law_some_heights", "_law_some_heights", defArgs (top 87), defBody (top 87), defScope (top 87), [], []⟩
def d__law_two_right : He.DefD := ⟨("_law_two_right", none), "_law_two_right", "_law_two_right", defArgs (top 88), defBody (top 88), defScope (top 88), [], []⟩
def d__law_right : He.DefD := ⟨("_law_right", none), "_law_right", "_law_right", defArgs (top 89), defBody (top 89), defScope (top 89), [], []⟩
def d_law : He.DefD := ⟨("law", none), "law", "law", defArgs (top 90), defBody (top 90), defScope (top 90), [], []⟩
def d__law_heard : He.DefD := ⟨("_law_heard", none), "_law_heard", "_law_heard", defArgs (top 85), defBody (top 85), defScope (top 85), [], []⟩
def d_NotLet_init : He.DefD := ⟨("NotLet", some "__init__"), "__init__", "NotLet.__init__", defArgs ((clsBody (top 11)).getD 0 (.Pass ⟨0, 0, 0, 0⟩)), defBody ((clsBody (top 11)).getD 0 (.Pass ⟨0, 0, 0, 0⟩)), defScope ((clsBody (top 11)).getD 0 (.Pass ⟨0, 0, 0, 0⟩)), [], []⟩
def fn : List He.DefD := ([d__law_pot, d__law_draw, d__law_pick, d__law_stair, d__law_net, d_is_tuple, d_is_integer, d_are_heights, d_are_flows, d_is_let, d_ahead_of, d_drop_ends, d_flow_ends, d_flows_in, d_is_on, d_drop_of, d_taps_of, d_comes_to, d_are_kept, d_is_stand_of] : List He.DefD) ++ ([d_is_stand_any, d_is_within, d_is_number, d_are_mosts, d_is_stair_any, d_is_pipe_of, d_is_net_any, d_want_net, d_are_draws, d_want_draws, d_want_asked, d_is_stand, d_want_flows, d_not_let_flow, d_nearest, d_under_steps, d_energy_of, d_flows_cost, d_want_let, d_flows_energy] : List He.DefD) ++ ([d_want_heights, d_not_let_drop, d_worth_of, d_heights_worth_of, d_heights_worth, d__law_flow_ends, d__law_is_between, d__law_drop_ends, d__law_flows_at, d__law_comes, d__law_near_nought, d__law_under, d__law_energy, d__law_cost, d__law_worth, d__law_value, d__law_some_flows, d__law_some_heights, d__law_two_right, d__law_right] : List He.DefD) ++ ([d_law, d__law_heard, d_NotLet_init] : List He.DefD)
def fa : List He.Fa := ([.glo "_law_pot", .glo "_law_draw", .glo "_law_pick", .glo "_law_stair", .glo "_law_net", .glo "is_tuple", .glo "is_integer", .glo "are_heights", .glo "are_flows", .glo "is_let", .glo "ahead_of", .glo "drop_ends", .glo "flow_ends", .glo "flows_in", .glo "is_on", .glo "drop_of", .glo "taps_of", .glo "comes_to", .glo "are_kept", .glo "is_stand_of"] : List He.Fa) ++ ([.glo "is_stand_any", .glo "is_within", .glo "is_number", .glo "are_mosts", .glo "is_stair_any", .glo "is_pipe_of", .glo "is_net_any", .glo "want_net", .glo "are_draws", .glo "want_draws", .glo "want_asked", .glo "is_stand", .glo "want_flows", .glo "not_let_flow", .glo "nearest", .glo "under_steps", .glo "energy_of", .glo "flows_cost", .glo "want_let", .glo "flows_energy"] : List He.Fa) ++ ([.glo "want_heights", .glo "not_let_drop", .glo "worth_of", .glo "heights_worth_of", .glo "heights_worth", .glo "_law_flow_ends", .glo "_law_is_between", .glo "_law_drop_ends", .glo "_law_flows_at", .glo "_law_comes", .glo "_law_near_nought", .glo "_law_under", .glo "_law_energy", .glo "_law_cost", .glo "_law_worth", .glo "_law_value", .glo "_law_some_flows", .glo "_law_some_heights", .glo "_law_two_right", .glo "_law_right"] : List He.Fa) ++ ([.glo "law", .glo "_law_heard", .glo "NotLet", .glo "StateError", .free "abs", .free "all", .free "any", .free "bool", .free "divmod", .free "enumerate", .free "int", .free "isinstance", .free "len", .free "max", .free "min", .free "range", .free "repr", .free "str", .free "sum", .free "tuple"] : List He.Fa) ++ ([.free "zip", .int "MOST_NUMBER" 999, .int "MOST_PIPES" 24, .int "MOST_PLACES" 12, .int "MOST_STEPS" 40, .str "NET" "net", .str "STAIR" "stair"] : List He.Fa)
def exs : List (PySem.W.Frag → Bool) := [fun K => rzB K "NotLet" "pipe" ("NotLet", some "__init__") "RuntimeError.__new__" [.type "RuntimeError", .type "Exception", .type "BaseException", .type "object"],
  fun K => suB K "NotLet",
  fun K => decide (PySem.W.findIn K (.ref (He.ga K "NotLet")) "pipe" = some none),
  fun K => decide (PySem.W.kitOne K (.ref (He.ga K "NotLet")) (.ref (He.ga K "StateError")) = some true),
  fun K => decide (PySem.W.exmOne K (.ref (He.ga K "NotLet")) (.ref (He.ga K "NotLet")) = some true)]
def ex (K : PySem.W.Frag) : Bool := exs.all fun b => b K
theorem ex_get {K : PySem.W.Frag} (h : ex K = true) (i : Nat) {b : PySem.W.Frag → Bool} (e : exs[i]? = some b) : b K = true := List.all_eq_true.mp h b (List.mem_of_getElem? e)
def tfn : List He.Defn := [("_law_two_right", none)]
def tfq : List (He.Defn × Str) := [(("_law_two_right", none), "_law_two_right.<locals>.<lambda>")]
def gxs : List Str := (["_law_pot", "_law_draw", "_law_pick", "_law_stair", "_law_net", "is_tuple", "is_integer", "are_heights", "are_flows", "is_let", "ahead_of", "drop_ends", "flow_ends", "flows_in", "is_on", "drop_of", "taps_of", "comes_to", "are_kept", "is_stand_of"] : List Str) ++ (["is_stand_any", "is_within", "is_number", "are_mosts", "is_stair_any", "is_pipe_of", "is_net_any", "want_net", "are_draws", "want_draws", "want_asked", "is_stand", "want_flows", "not_let_flow", "nearest", "under_steps", "energy_of", "flows_cost", "want_let", "flows_energy"] : List Str) ++ (["want_heights", "not_let_drop", "worth_of", "heights_worth_of", "heights_worth", "_law_flow_ends", "_law_is_between", "_law_drop_ends", "_law_flows_at", "_law_comes", "_law_near_nought", "_law_under", "_law_energy", "_law_cost", "_law_worth", "_law_value", "_law_some_flows", "_law_some_heights", "_law_two_right", "_law_right"] : List Str) ++ (["law", "_law_heard", "NotLet", "StateError", "MOST_NUMBER", "MOST_PIPES", "MOST_PLACES", "MOST_STEPS", "NET", "STAIR"] : List Str)
abbrev R : PySem.W.OpenRow := PySem.W.OpenLaw.row PySem.Challenge.rw_tapworks_k82_whole_flows_against_heights
abbrev hk : PySem.W.Hook := MV.hookY (MV.asM 3 gxs) fa fn tfn ex
def ob (s : PySem.W.SharedT) : He.AlX := MV.obsY (MV.asM 3 gxs) fa fn tfn ex (HandSHeadRun.getT s)
theorem ob_eq (s : PySem.W.SharedT) : ob s = hk.obs s.abs := MV.obsY_eq (HandSHeadRun.getT_eq s)
def loose : List Str := ((["is_integer", "is_within", "is_tuple", "WorkError", "StateError", "InvalidNet", "InvalidDraws", "InvalidHeights", "InvalidFlows", "NotLet", "STAIR", "MOST_STEPS", "MOST_NUMBER", "is_number", "are_mosts", "is_stair_any", "ahead_of", "drop_ends", "flow_ends", "is_let"] : List Str) ++ (["flows_in", "is_on", "NET", "MOST_PLACES", "MOST_PIPES", "is_pipe_of", "is_net_any", "want_net", "taps_of", "are_draws", "want_draws", "are_heights", "are_flows", "want_heights", "want_flows", "drop_of", "comes_to", "are_kept", "is_stand_of", "is_stand_any"] : List Str) ++ (["nearest", "want_asked", "is_stand", "under_steps", "energy_of", "worth_of", "not_let_flow", "not_let_drop", "flows_cost", "heights_worth_of", "want_let", "flows_energy", "heights_worth", "_law_pot", "_law_draw", "_law_pick", "_law_stair", "_law_net", "_law_flow_ends", "_law_drop_ends"] : List Str) ++ (["_law_is_between", "_law_flows_at", "_law_near_nought", "_law_comes", "_law_draws", "_law_taps", "_law_lots", "_law_sum", "_law_into", "_law_ends", "_law_drawn", "_law_is_kept", "_law_under", "_law_energy", "_law_worth", "_law_cost", "_law_value", "_law_heard", "_law_some_flows", "_law_some_heights"] : List Str) ++ (["_law_two_right", "_law_right"] : List Str))
noncomputable def endS (w : World) (os : OsState) : Option PySem.W.SharedT := HandSHeadRun.endF (HandSHeadRun.stepQ (HandSHeadRun.denQ HandSHeadRun.tabQ) R.prog w) 4000 R.prog w os
theorem run1 (w : World) (os : OsState) : (endS w os).map (fun s => HandSHeadRun.looksF R.prog (PySem.W.boot_heap w.params) s.abs) = some true := by kernel_rfl
theorem run2 (w : World) (os : OsState) : (endS w os).map (fun s => HandSHeadRun.seenQ (PySem.W.view R.prog [90]) loose (importedModules R.prog.main.body) (fun s => PySem.W.xlAt (PySem.W.view R.prog [90]) [] s && PySem.W.recOk R.toRowW.records s) s.abs) = some (PySem.W.openGood (PySem.W.view R.prog [90]) loose) := by kernel_rfl
theorem run3 (w : World) (os : OsState) : (endS w os).map ob = some (hk.val w) := by kernel_rfl
theorem run (w : World) : HandSHeadRun.RunEq R (PySem.W.view R.prog [90]) hk ob 4000 loose w := by
  intro os
  have e1 := run1 w os
  have e2 := run2 w os
  have e3 := run3 w os
  show (endS w os).map _ = _
  generalize endS w os = E at *
  cases E with
  | none => cases e1
  | some s =>
    exact congrArg some (Prod.ext (Option.some.inj e1) (Prod.ext (Option.some.inj e2) (Option.some.inj e3)))
end K82

/-! MV1: pure data P, values D, the small virtual heap, the relation to the abstract heap of the hand layer. -/
namespace MV
open PySem PySem.Spec PyProof.Rows L2

/-- data without identity; rep: the text of a datum; dct: a dict that stays as it is -/
inductive P where
  | non | bl (b : Bool) | int (i : Int) | str (s : Str) | tup (l : List P) | lst (l : List P) | fn (a : Addr) | rep (x : P) | dct (kvs : List (Key × P))
mutual
/-- as the model's data -/
def P.py : P → PyData
  | .non => .none
  | .bl b => .bool b
  | .int i => .int i
  | .str s => .str s
  | .tup l => .tuple (pyL l)
  | .lst l => .list (pyL l)
  | .fn _ => .none
  | .rep x => .str (P.py x).shown
  | .dct _ => .none
def pyL : List P → List PyData
  | [] => []
  | x :: r => x.py :: pyL r
end

/-- a value: data, or a mutable object by its number -/
inductive D where
  | p (x : P) | ob (n : Nat)

/-- a mutable object; dead: it is data now, or forgotten -/
inductive VO where
  | dead | lst (l : List P) | dK (kvs : List (Key × P)) | tab (p : Str × Option Str) (q : Str)

abbrev VH := List VO

/-- an exception: its class by number, its fields -/
structure Ex where
  cls : Str
  fs : List (Str × P)

inductive R (α : Type) where
  | ok (a : α) (h : VH) | exc (x : Ex) (h : VH) | bad

def R.bind {α β : Type} (r : R α) (k : α → VH → R β) : R β := match r with
  | .ok a h => k a h
  | .exc x h => .exc x h
  | .bad => .bad

abbrev Sg := List (Option D)

/-! ### relations -/
abbrev Rho := List (Option Addr)
def Live (ρ : Rho) (a : Addr) : Prop := ∃ n : Nat, ρ[n]? = some (some a)

/-- a list (tuple) that stays as it is: tracked and no mutable one of ours, or of the module -/
def SL (K : PySem.W.Frag) (ρ : Rho) (H : Hp) (a : Addr) (xs : List V) : Prop := (Rd H a (.lst xs) ∧ ¬ Live ρ a) ∨ SqL K (fun _ => none) a xs
def ST (K : PySem.W.Frag) (ρ : Rho) (H : Hp) (a : Addr) (xs : List V) : Prop := (Rd H a (.tup xs) ∧ ¬ Live ρ a) ∨ SqT K (fun _ => none) a xs

mutual
inductive RelP (K : PySem.W.Frag) (ρ : Rho) (H : Hp) : P → V → Prop
  | non : RelP K ρ H .non .non
  | bl (b : Bool) : RelP K ρ H (.bl b) (.bl b)
  | int (i : Int) : RelP K ρ H (.int i) (.int i)
  | str (s : Str) : RelP K ρ H (.str s) (.str s)
  | fn (a : Addr) : RelP K ρ H (.fn a) (.ref a)
  | rep (x : P) : RelP K ρ H (.rep x) (.str x.py.shown)
  | dct {a : Addr} {vs : List (Key × V)} {kvs : List (Key × P)} : Rd H a (.dK vs) → ¬ Live ρ a → RelKV K ρ H kvs vs → RelP K ρ H (.dct kvs) (.ref a)
  | tup {a : Addr} {xs : List V} {ds : List P} : ST K ρ H a xs → RelPs K ρ H ds xs → RelP K ρ H (.tup ds) (.ref a)
  | lst {a : Addr} {xs : List V} {ds : List P} : SL K ρ H a xs → RelPs K ρ H ds xs → RelP K ρ H (.lst ds) (.ref a)
inductive RelPs (K : PySem.W.Frag) (ρ : Rho) (H : Hp) : List P → List V → Prop
  | nil : RelPs K ρ H [] []
  | cons {d : P} {ds : List P} {v : V} {vs : List V} : RelP K ρ H d v → RelPs K ρ H ds vs → RelPs K ρ H (d :: ds) (v :: vs)
inductive RelKV (K : PySem.W.Frag) (ρ : Rho) (H : Hp) : List (Key × P) → List (Key × V) → Prop
  | nil : RelKV K ρ H [] []
  | cons {k : Key} {d : P} {ds : List (Key × P)} {v : V} {vs : List (Key × V)} : RelP K ρ H d v → RelKV K ρ H ds vs → RelKV K ρ H ((k, d) :: ds) ((k, v) :: vs)
end

inductive RelD (K : PySem.W.Frag) (ρ : Rho) (H : Hp) : D → V → Prop
  | p {x : P} {v : V} : RelP K ρ H x v → RelD K ρ H (.p x) v
  | ob {n : Nat} {a : Addr} : n < ρ.length → (∀ b, ρ[n]? = some (some b) → a = b) → RelD K ρ H (.ob n) (.ref a)

abbrev RelDs (K : PySem.W.Frag) (ρ : Rho) (H : Hp) : List D → List V → Prop := Paired (RelD K ρ H)

def RelVO (K : PySem.W.Frag) (ρ : Rho) (H : Hp) (a : Addr) : VO → Prop
  | .dead => True
  | .lst l => ∃ xs, H a = some (.lst xs) ∧ RelPs K ρ H l xs
  | .dK kvs => ∃ vs, H a = some (.dK vs) ∧ RelKV K ρ H kvs vs
  | .tab p q => a = (He.cT K p).2 ∧ ∃ ps : Array Value, H a = some (.tbl ps) ∧ TriplesOk ps.toList ∧ ∀ (pos : Pos) (cv : Value), codeAmong pos ps.toList = some cv → ∃ c, cv = .ref c ∧ H c = some (LamX.CodeO c q) ∧ ¬ Live ρ c

structure RelW (K : PySem.W.Frag) (ρ : Rho) (H : Hp) (h : VH) : Prop where
  len : ρ.length = h.length
  inj : ∀ (n m : Nat) (a : Addr), ρ[n]? = some (some a) → ρ[m]? = some (some a) → n = m
  at_ : ∀ (n : Nat) (o : VO), h[n]? = some o → o = .dead ∨ ∃ a, ρ[n]? = some (some a) ∧ RelVO K ρ H a o
  live : ∀ (n : Nat) (a : Addr), ρ[n]? = some (some a) → ∃ o, H a = some o

/-- slots: an unset one may be anything -/
def RelSl (K : PySem.W.Frag) (ρ : Rho) (H : Hp) : Option D → Option V → Prop
  | none, _ => True
  | some d, some v => RelD K ρ H d v
  | some _, none => False
abbrev RelS (K : PySem.W.Frag) (ρ : Rho) (H : Hp) : Sg → L2.St → Prop := Paired (RelSl K ρ H)

/-- what may have changed -/
structure Ext (ρ : Rho) (H : Hp) (ρ' : Rho) (H' : Hp) : Prop where
  len : ρ.length ≤ ρ'.length
  old : ∀ (n : Nat) (a : Addr), n < ρ.length → ρ'[n]? = some (some a) → ρ[n]? = some (some a)
  new : ∀ (n : Nat) (a : Addr), ρ.length ≤ n → ρ'[n]? = some (some a) → ∀ o, H a = some o → ∃ ps, o = .tbl ps
  keep : ∀ (a : Addr) (o : HO), H a = some o → ¬ Live ρ a → (∀ ps, o ≠ .tbl ps) → H' a = some o
  there : ∀ (a : Addr) (o : HO), H a = some o → (∀ ps, o ≠ .tbl ps) → ∃ o', H' a = some o' ∧ ∀ ps, o' ≠ .tbl ps

theorem Ext.refl (ρ : Rho) (H : Hp) : Ext ρ H ρ H where
  len := Nat.le_refl _
  old := fun _ _ _ h => h
  new := fun n a hn h => by rw [List.getElem?_eq_none hn] at h; cases h
  keep := fun _ _ h _ _ => h
  there := fun _ o h n => ⟨o, h, n⟩

section
variable {K : PySem.W.Frag} {ρ ρ' ρ'' : Rho} {H H' H'' : Hp} {h : VH}

theorem Ext.notLive (e : Ext ρ H ρ' H') {a : Addr} {o : HO} (ha : H a = some o) (n : ¬ Live ρ a) (nt : ∀ ps, o ≠ .tbl ps := by intro ps z; cases z) : ¬ Live ρ' a := fun ⟨i, hi⟩ => by
  by_cases hl : i < ρ.length
  · exact n ⟨i, e.old i a hl hi⟩
  · obtain ⟨ps, h⟩ := e.new i a (by omega) hi _ ha
    exact nt ps h

theorem Ext.trans (e : Ext ρ H ρ' H') (f : Ext ρ' H' ρ'' H'') : Ext ρ H ρ'' H'' where
  len := Nat.le_trans e.len f.len
  old := fun n a hn h => e.old n a hn (f.old n a (Nat.lt_of_lt_of_le hn e.len) h)
  new := fun n a hn h => by
    by_cases hl : n < ρ'.length
    · exact e.new n a hn (f.old n a hl h)
    · intro o q
      by_cases ht : ∃ ps, o = .tbl ps
      · exact ht
      · obtain ⟨o', h2, h3⟩ := e.there a o q fun ps z => ht ⟨ps, z⟩
        obtain ⟨ps, h4⟩ := f.new n a (by omega) h _ h2
        exact absurd h4 (h3 ps)
  keep := fun a o ha n nt => f.keep a o (e.keep a o ha n nt) (e.notLive ha n nt) nt
  there := fun a o ha nt => by
    obtain ⟨o', h1, h2⟩ := e.there a o ha nt
    exact f.there a o' h1 h2

/-- a new object that is no mutable one of ours -/
theorem Ext.laid {p : Addr} {o : HO} (n : H p = none) : Ext ρ H ρ (upd H p o) where
  len := Nat.le_refl _
  old := fun _ _ _ h => h
  new := fun i a hi h => by rw [List.getElem?_eq_none hi] at h; cases h
  keep := fun a u ha _ _ => by rw [upd_ne (ne_of_none ha n)]; exact ha
  there := fun a u ha nt => ⟨u, by rw [upd_ne (ne_of_none ha n)]; exact ha, nt⟩
/-- a mutable object of ours is written -/
theorem Ext.wrote {n : Nat} {p : Addr} {o u : HO} (hn : ρ[n]? = some (some p)) (hp : H p = some u) (no : ∀ ps, o ≠ .tbl ps := by intro ps z; cases z) : Ext ρ H ρ (upd H p o) where
  len := Nat.le_refl _
  old := fun _ _ _ h => h
  new := fun i a hi h => by rw [List.getElem?_eq_none hi] at h; cases h
  keep := fun a u ha nl _ => by rw [upd_ne (fun e => nl ⟨n, by rw [e]; exact hn⟩)]; exact ha
  there := fun a u ha nt => by
    by_cases e : a = p
    · exact ⟨o, by rw [e]; exact upd_same, no⟩
    · exact ⟨u, by rw [upd_ne e]; exact ha, nt⟩
/-- a new mutable object of ours -/
theorem Ext.fresh {p : Addr} {o : HO} (n : H p = none) : Ext ρ H (ρ ++ [some p]) (upd H p o) where
  len := by rw [List.length_append]; omega
  old := fun i a hi h => by rw [List.getElem?_append_left hi] at h; exact h
  new := fun i a hi h => by
    rw [List.getElem?_append_right hi] at h
    cases q : i - ρ.length with
    | zero =>
      rw [q] at h
      have e : some p = some a := Option.some.inj h
      cases e; intro o ho; rw [n] at ho; cases ho
    | succ k =>
      rw [q] at h
      simp at h
  keep := fun a u ha _ _ => by rw [upd_ne (ne_of_none ha n)]; exact ha
  there := fun a u ha nt => ⟨u, by rw [upd_ne (ne_of_none ha n)]; exact ha, nt⟩

theorem Rd.some2 {a : Addr} {u : HO} (r : Rd H a u) (nt : ∀ ps, u ≠ .tbl ps := by intro ps z; cases z) : ∃ o, H a = some o ∧ ∀ ps, o ≠ .tbl ps := by
  rcases r with r | ⟨o, r⟩
  · exact ⟨_, r, nt⟩
  · exact ⟨_, r, by intro ps z; cases z⟩
theorem Rd.some {a : Addr} {u : HO} (r : Rd H a u) : ∃ o, H a = some o := by
  rcases r with r | ⟨o, r⟩
  · exact ⟨_, r⟩
  · exact ⟨_, r⟩
theorem Rd.ext {a : Addr} {u : HO} (e : Ext ρ H ρ' H') (n : ¬ Live ρ a) (r : Rd H a u) (nt : ∀ ps, u ≠ .tbl ps := by intro ps z; cases z) : Rd H' a u := by
  rcases r with r | ⟨o, r⟩
  · exact .inl (e.keep a _ r n nt)
  · exact .inr ⟨o, e.keep a _ r n (by intro ps z; cases z)⟩
theorem SL.ext {a : Addr} {xs : List V} (e : Ext ρ H ρ' H') (q : SL K ρ H a xs) : SL K ρ' H' a xs := by
  rcases q with ⟨q, n⟩ | q
  · obtain ⟨o, ho, nt⟩ := Rd.some2 q
    exact .inl ⟨Rd.ext e n q, e.notLive ho n nt⟩
  · exact .inr q
theorem ST.ext {a : Addr} {xs : List V} (e : Ext ρ H ρ' H') (q : ST K ρ H a xs) : ST K ρ' H' a xs := by
  rcases q with ⟨q, n⟩ | q
  · obtain ⟨o, ho, nt⟩ := Rd.some2 q
    exact .inl ⟨Rd.ext e n q, e.notLive ho n nt⟩
  · exact .inr q
theorem no_none {a : Addr} {u : HO} (r : Rd (fun _ => none) a u) : False := by
  rcases r with r | ⟨o, r⟩ <;> cases r
theorem SL.seq {a : Addr} {xs : List V} (q : SL K ρ H a xs) : SqL K H a xs := by
  rcases q with ⟨q, n⟩ | q
  · exact .inl q
  · rcases q with q | q
    · exact (no_none q).elim
    · exact .inr q
theorem ST.seq {a : Addr} {xs : List V} (q : ST K ρ H a xs) : SqT K H a xs := by
  rcases q with ⟨q, n⟩ | q
  · exact .inl q
  · rcases q with q | q
    · exact (no_none q).elim
    · exact .inr q
mutual
theorem RelP.ext (e : Ext ρ H ρ' H') : ∀ {d : P} {v : V}, RelP K ρ H d v → RelP K ρ' H' d v
  | _, _, .non => .non
  | _, _, .bl b => .bl b
  | _, _, .int i => .int i
  | _, _, .str s => .str s
  | _, _, .fn a => .fn a
  | _, _, .rep a => .rep a
  | _, _, .dct q n r => .dct (Rd.ext e n q) (let ⟨_, ho, nt⟩ := Rd.some2 q; e.notLive ho n nt) (RelKV.ext e r)
  | _, _, .tup q r => .tup (q.ext e) (RelPs.ext e r)
  | _, _, .lst q r => .lst (q.ext e) (RelPs.ext e r)
theorem RelPs.ext (e : Ext ρ H ρ' H') : ∀ {d : List P} {v : List V}, RelPs K ρ H d v → RelPs K ρ' H' d v
  | _, _, .nil => .nil
  | _, _, .cons a b => .cons (RelP.ext e a) (RelPs.ext e b)
theorem RelKV.ext (e : Ext ρ H ρ' H') : ∀ {d : List (Key × P)} {v : List (Key × V)}, RelKV K ρ H d v → RelKV K ρ' H' d v
  | _, _, .nil => .nil
  | _, _, .cons a b => .cons (RelP.ext e a) (RelKV.ext e b)
end
theorem RelPs.len : ∀ {d : List P} {v : List V}, RelPs K ρ H d v → d.length = v.length
  | _, _, .nil => rfl
  | _, _, .cons _ b => by rw [List.length_cons, List.length_cons, RelPs.len b]
theorem RelPs.app : ∀ {d d' : List P} {v v' : List V}, RelPs K ρ H d v → RelPs K ρ H d' v' → RelPs K ρ H (d ++ d') (v ++ v')
  | _, _, _, _, .nil, s => s
  | _, _, _, _, .cons a b, s => .cons a (RelPs.app b s)
theorem RelPs.get : ∀ {d : List P} {v : List V} {i : Nat} {x : P}, RelPs K ρ H d v → d[i]? = some x → ∃ u, v[i]? = some u ∧ RelP K ρ H x u
  | _, _, _, _, .nil, h => by simp at h
  | _, _, 0, _, .cons a _, h => by simp at h; subst h; exact ⟨_, rfl, a⟩
  | _, _, i + 1, x, .cons _ b, h => by
    obtain ⟨u, h1, h2⟩ := RelPs.get (i := i) (x := x) b (by simpa using h)
    exact ⟨u, by simpa using h1, h2⟩
theorem RelPs.getV : ∀ {d : List P} {v : List V} {i : Nat} {u : V}, RelPs K ρ H d v → v[i]? = some u → ∃ x, d[i]? = some x ∧ RelP K ρ H x u
  | _, _, _, _, .nil, h => by simp at h
  | _, _, 0, _, .cons a _, h => by simp at h; subst h; exact ⟨_, rfl, a⟩
  | _, _, i + 1, u, .cons _ b, h => by
    obtain ⟨x, h1, h2⟩ := RelPs.getV (i := i) (u := u) b (by simpa using h)
    exact ⟨x, by simpa using h1, h2⟩
theorem RelPs.take : ∀ {d : List P} {v : List V} (n : Nat), RelPs K ρ H d v → RelPs K ρ H (d.take n) (v.take n)
  | _, _, 0, _ => by simp; exact .nil
  | _, _, n + 1, .nil => by simp; exact .nil
  | _, _, n + 1, .cons a b => by simp; exact .cons a (RelPs.take n b)
theorem RelPs.drop : ∀ {d : List P} {v : List V} (n : Nat), RelPs K ρ H d v → RelPs K ρ H (d.drop n) (v.drop n)
  | _, _, 0, r => by simpa using r
  | _, _, n + 1, .nil => by simp; exact .nil
  | _, _, n + 1, .cons a b => by simpa using RelPs.drop n b
theorem RelPs.rev : ∀ {d : List P} {v : List V}, RelPs K ρ H d v → RelPs K ρ H d.reverse v.reverse
  | _, _, .nil => by simp; exact .nil
  | _, _, .cons a b => by simp; exact (RelPs.rev b).app (.cons a .nil)
theorem RelPs.set : ∀ {d : List P} {v : List V} {x : P} {u : V} (i : Nat), RelPs K ρ H d v → RelP K ρ H x u → RelPs K ρ H (d.set i x) (v.set i u)
  | _, _, _, _, _, .nil, _ => by simp; exact .nil
  | _, _, _, _, 0, .cons _ b, r => by simp; exact .cons r b
  | _, _, _, _, i + 1, .cons a b, r => by simp; exact .cons a (RelPs.set i b r)
theorem RelPs.rep {x : P} {u : V} (r : RelP K ρ H x u) : ∀ n : Nat, RelPs K ρ H (List.replicate n x) (List.replicate n u)
  | 0 => .nil
  | n + 1 => .cons r (RelPs.rep r n)
theorem RelD.ext (e : Ext ρ H ρ' H') {d : D} {v : V} (r : RelD K ρ H d v) : RelD K ρ' H' d v := by
  cases r with
  | p r => exact .p (r.ext e)
  | ob hn hb => exact .ob (Nat.lt_of_lt_of_le hn e.len) fun b h => hb b (e.old _ b hn h)
theorem RelDs.ext (e : Ext ρ H ρ' H') : ∀ {d : List D} {v : List V}, RelDs K ρ H d v → RelDs K ρ' H' d v
  | _, _, .nil => .nil
  | _, _, .cons a b => .cons (a.ext e) (RelDs.ext e b)
theorem RelSl.ext (e : Ext ρ H ρ' H') : ∀ {d : Option D} {v : Option V}, RelSl K ρ H d v → RelSl K ρ' H' d v
  | none, _, _ => trivial
  | some _, some _, r => RelD.ext e r
theorem RelS.ext (e : Ext ρ H ρ' H') : ∀ {d : Sg} {v : L2.St}, RelS K ρ H d v → RelS K ρ' H' d v
  | _, _, .nil => .nil
  | _, _, .cons a b => .cons (RelSl.ext e a) (RelS.ext e b)
theorem RelSl.of {d : D} {o : Option V} (r : RelSl K ρ H (some d) o) : ∃ v, o = some v ∧ RelD K ρ H d v := by
  cases o with
  | none => cases r
  | some v => exact ⟨v, rfl, r⟩
theorem RelS.get : ∀ {s : Sg} {σ : L2.St} {i : Nat} {d : D}, RelS K ρ H s σ → s[i]? = some (some d) → ∃ v, σ[i]? = some (some v) ∧ RelD K ρ H d v
  | _, _, _, _, .nil, h => by simp at h
  | _, _, 0, _, .cons a _, h => by
    simp at h; subst h
    obtain ⟨v, rfl, r⟩ := RelSl.of a
    exact ⟨v, rfl, r⟩
  | _, _, i + 1, d, .cons _ b, h => by
    obtain ⟨u, h1, h2⟩ := RelS.get (i := i) (d := d) b (by simpa using h)
    exact ⟨u, by simpa using h1, h2⟩
theorem RelS.set : ∀ {s : Sg} {σ : L2.St} {d : D} {v : V} (i : Nat), RelS K ρ H s σ → RelD K ρ H d v → RelS K ρ H (s.set i (some d)) (σ.set i (some v))
  | _, _, _, _, _, .nil, _ => by simp; exact .nil
  | _, _, _, _, 0, .cons _ b, r => by simp; exact .cons r b
  | _, _, _, _, i + 1, .cons a b, r => by simp; exact .cons a (RelS.set i b r)
theorem RelVO.ext (e : Ext ρ H ρ' H') {a : Addr} {o : VO} (h : RelVO K ρ H a o) (k : H' a = H a) : RelVO K ρ' H' a o := by
  cases o with
  | dead => trivial
  | lst l =>
    obtain ⟨xs, h1, h2⟩ := h
    exact ⟨xs, by rw [k]; exact h1, h2.ext e⟩
  | dK kvs =>
    obtain ⟨xs, h1, h2⟩ := h
    exact ⟨xs, by rw [k]; exact h1, RelKV.ext e h2⟩
  | tab p q =>
    obtain ⟨h0, ps, h1, h2, h3⟩ := h
    refine ⟨h0, ps, by rw [k]; exact h1, h2, fun pos cv hc => ?_⟩
    obtain ⟨c, e1, e2, e3⟩ := h3 pos cv hc
    exact ⟨c, e1, e.keep c _ e2 e3 (fun ps => LamX.codeO_ne ps), e.notLive e2 e3 (fun ps => LamX.codeO_ne ps)⟩
/-- all that is tracked stays -/
theorem RelW.same (w : RelW K ρ H h) (k : Same H H') (e : Ext ρ H ρ H') : RelW K ρ H' h where
  len := w.len
  inj := w.inj
  at_ := fun n o ho => by
    rcases w.at_ n o ho with h1 | ⟨a, h1, h2⟩
    · exact .inl h1
    · obtain ⟨u, hu⟩ := w.live n a h1
      exact .inr ⟨a, h1, h2.ext e (by rw [k a u hu, hu])⟩
  live := fun n a hn => by
    obtain ⟨u, hu⟩ := w.live n a hn
    exact ⟨u, k a u hu⟩
theorem same_laid {p : Addr} {o : HO} (n : H p = none) : Same H (upd H p o) := fun b u e => by rw [upd_ne (ne_of_none e n)]; exact e
theorem RelW.laid {p : Addr} {o : HO} (w : RelW K ρ H h) (n : H p = none) : RelW K ρ (upd H p o) h := w.same (same_laid n) (.laid n)
theorem RelW.notLive {p : Addr} (w : RelW K ρ H h) (n : H p = none) : ¬ Live ρ p := fun ⟨i, hi⟩ => by
  obtain ⟨o, ho⟩ := w.live i p hi
  rw [n] at ho; cases ho
/-- a new mutable object -/
theorem RelW.fresh {p : Addr} {u : HO} {o : VO} (w : RelW K ρ H h) (n : H p = none) (hu : RelVO K (ρ ++ [some p]) (upd H p u) p o) : RelW K (ρ ++ [some p]) (upd H p u) (h ++ [o]) where
  len := by rw [List.length_append, List.length_append, w.len]; rfl
  inj := fun i j a hi hj => by
    have key : ∀ k : Nat, (ρ ++ [some p])[k]? = some (some a) → (k < ρ.length ∧ ρ[k]? = some (some a)) ∨ (k = ρ.length ∧ a = p) := fun k hk => by
      by_cases hl : k < ρ.length
      · rw [List.getElem?_append_left hl] at hk; exact .inl ⟨hl, hk⟩
      · rw [List.getElem?_append_right (by omega)] at hk
        cases q : k - ρ.length with
        | zero =>
          rw [q] at hk
          have e : some p = some a := Option.some.inj hk
          cases e
          exact .inr ⟨by omega, rfl⟩
        | succ m => rw [q] at hk; simp at hk
    have nl := w.notLive n
    rcases key i hi with ⟨h1, h2⟩ | ⟨h1, h2⟩ <;> rcases key j hj with ⟨h3, h4⟩ | ⟨h3, h4⟩
    · exact w.inj i j a h2 h4
    · exact absurd ⟨i, by rw [← h4]; exact h2⟩ nl
    · exact absurd ⟨j, by rw [← h2]; exact h4⟩ nl
    · omega
  at_ := fun i x hx => by
    by_cases hl : i < h.length
    · rw [List.getElem?_append_left hl] at hx
      rcases w.at_ i x hx with h1 | ⟨a, h1, h2⟩
      · exact .inl h1
      · obtain ⟨v, hv⟩ := w.live i a h1
        refine .inr ⟨a, ?_, h2.ext (.fresh n) (upd_ne (ne_of_none hv n))⟩
        rw [List.getElem?_append_left (by rw [w.len]; exact hl)]; exact h1
    · rw [List.getElem?_append_right (by omega)] at hx
      cases q : i - h.length with
      | zero =>
        rw [q] at hx
        have e : o = x := Option.some.inj hx
        cases e
        refine .inr ⟨p, ?_, hu⟩
        have : i = ρ.length := by rw [w.len]; omega
        rw [this, List.getElem?_append_right (Nat.le_refl _)]
        simp
      | succ m => rw [q] at hx; simp at hx
  live := fun i a hi => by
    by_cases hl : i < ρ.length
    · rw [List.getElem?_append_left hl] at hi
      obtain ⟨v, hv⟩ := w.live i a hi
      exact ⟨v, by rw [upd_ne (ne_of_none hv n)]; exact hv⟩
    · rw [List.getElem?_append_right (by omega)] at hi
      cases q : i - ρ.length with
      | zero =>
        rw [q] at hi
        have e : some p = some a := Option.some.inj hi
        cases e
        exact ⟨u, upd_same⟩
      | succ m => rw [q] at hi; simp at hi
/-- a mutable object is written -/
theorem RelW.wrote {i : Nat} {p : Addr} {u : HO} {o : VO} (w : RelW K ρ H h) (hi : ρ[i]? = some (some p)) (hu : RelVO K ρ (upd H p u) p o) (nu : ∀ ps, u ≠ .tbl ps := by intro ps z; cases z) : RelW K ρ (upd H p u) (h.set i o) where
  len := by rw [List.length_set]; exact w.len
  inj := w.inj
  at_ := fun j x hx => by
    by_cases e : j = i
    · subst e
      have hl : j < h.length := by rw [← w.len]; exact (List.getElem?_eq_some_iff.mp hi).1
      rw [List.getElem?_set_self hl] at hx
      cases hx
      exact .inr ⟨p, hi, hu⟩
    · rw [List.getElem?_set_ne (Ne.symm e)] at hx
      rcases w.at_ j x hx with h1 | ⟨a, h1, h2⟩
      · exact .inl h1
      · have ne : a ≠ p := fun q => e (w.inj j i a h1 (by rw [q]; exact hi))
        obtain ⟨v, hv⟩ := w.live i p hi
        exact .inr ⟨a, h1, h2.ext (.wrote hi hv nu) (upd_ne ne)⟩
  live := fun j a hj => by
    obtain ⟨v, hv⟩ := w.live j a hj
    by_cases e : a = p
    · exact ⟨u, by rw [e]; exact upd_same⟩
    · exact ⟨v, by rw [upd_ne e]; exact hv⟩
/-- the object behind ob n -/
theorem RelW.get {n : Nat} {o : VO} {a : Addr} (w : RelW K ρ H h) (hn : h[n]? = some o) (no : o ≠ .dead) (hb : ∀ b, ρ[n]? = some (some b) → a = b) : ρ[n]? = some (some a) ∧ RelVO K ρ H a o := by
  rcases w.at_ n o hn with h1 | ⟨b, h1, h2⟩
  · exact absurd h1 no
  · have e := hb b h1
    subst e
    exact ⟨h1, h2⟩
end
end MV

/-! MV2: readings by executable functions; expressions. -/
namespace MV
open PySem PySem.Spec PyProof.Rows L2

abbrev RXT := Rho → Hp → Ex → Value → Option Addr → Prop
abbrev RelT (α β : Type) := Rho → Hp → α → β → Prop

/-- what a result promises -/
def Post {α β : Type} (K : PySem.W.Frag) (RX : RXT) (Rel : RelT α β) (ρ : Rho) (H : Hp) (r : R α) (Q : β → Hp → Prop) (E : XK) : Prop := match r with
  | .ok d h' => ∀ ρ' H' v, Ext ρ H ρ' H' → RelW K ρ' H' h' → Rel ρ' H' d v → Q v H'
  | .exc x h' => ∀ ρ' H' c d, Ext ρ H ρ' H' → RelW K ρ' H' h' → RX ρ' H' x c d → E c d H'
  | .bad => False

section
variable {K : PySem.W.Frag} {RX : RXT} {α β γ δ : Type} {Rel : RelT α β} {Rel2 : RelT γ δ} {ρ ρ' : Rho} {H H' : Hp} {h : VH}
theorem Post.ext {r : R α} {Q : β → Hp → Prop} {E : XK} (e : Ext ρ H ρ' H') (p : Post K RX Rel ρ H r Q E) : Post K RX Rel ρ' H' r Q E := by
  cases r with
  | ok d h' => exact fun ρ2 H2 v f w rl => p ρ2 H2 v (e.trans f) w rl
  | exc x h' => exact fun ρ2 H2 c d f w rl => p ρ2 H2 c d (e.trans f) w rl
  | bad => exact p
theorem Post.imp {r : R α} {Q Q' : β → Hp → Prop} {E E' : XK} (p : Post K RX Rel ρ H r Q E) (hQ : ∀ v H', Q v H' → Q' v H') (hE : ∀ c d H', E c d H' → E' c d H') : Post K RX Rel ρ H r Q' E' := by
  cases r with
  | ok d h' => exact fun ρ2 H2 v f w rl => hQ _ _ (p ρ2 H2 v f w rl)
  | exc x h' => exact fun ρ2 H2 c d f w rl => hE _ _ _ (p ρ2 H2 c d f w rl)
  | bad => exact p
/-- one after the other -/
theorem Post.bind {r : R α} {k : α → VH → R γ} {Q : δ → Hp → Prop} {E : XK} (p : Post K RX Rel2 ρ H (r.bind k) Q E) :
    Post K RX Rel ρ H r (fun v H1 => ∃ ρ1 h1 a, Ext ρ H ρ1 H1 ∧ RelW K ρ1 H1 h1 ∧ Rel ρ1 H1 a v ∧ Post K RX Rel2 ρ1 H1 (k a h1) Q E) E := by
  cases r with
  | ok d h' => exact fun ρ2 H2 v f w rl => ⟨ρ2, h', d, f, w, rl, Post.ext f p⟩
  | exc x h' => exact p
  | bad => exact p
theorem Post.ok {a : α} {v : β} {Q : β → Hp → Prop} {E : XK} (w : RelW K ρ H h) (rl : Rel ρ H a v) (p : Post K RX Rel ρ H (.ok a h) Q E) : Q v H := p ρ H v (.refl ρ H) w rl
end

/-! ### readings -/
def TF {α β : Type} (K : PySem.W.Frag) (RX : RXT) (W : WX) (Rel : RelT α β) (f : Sg → VH → R α) : L2.St → Hp → (β → Hp → Prop) → Prop := fun σ H Q =>
  ∃ ρ s h, RelW K ρ H h ∧ RelS K ρ H s σ ∧ Post K RX Rel ρ H (f s h) Q (fun c d H' => W c d σ H')
abbrev FE := Sg → VH → R D
abbrev FB := Sg → VH → R Bool
abbrev FA := Sg → VH → R (List D)
abbrev RelB : RelT Bool Bool := fun _ _ a b => a = b
abbrev TV (K : PySem.W.Frag) (RX : RXT) (W : WX) (f : FE) : TE := TF K RX W (RelD K) f
abbrev TB (K : PySem.W.Frag) (RX : RXT) (W : WX) (f : FB) : TT := TF K RX W RelB f
abbrev TL (K : PySem.W.Frag) (RX : RXT) (W : WX) (f : FA) : TA := TF K RX W (RelDs K) f

theorem PE.imp {X : Cx} {e : Expr} {t t' : TE} (p : PE X e t) (h : ∀ σ H Q, t' σ H Q → t σ H Q) : PE X e t' := ⟨fun pins s σ H Q I q => p.run pins s σ H Q I (h σ H Q q)⟩
theorem PT.imp {X : Cx} {e : Expr} {t t' : TT} (p : PT X e t) (h : ∀ σ H Q, t' σ H Q → t σ H Q) : PT X e t' := ⟨fun pins s σ H Q I q => p.run pins s σ H Q I (h σ H Q q)⟩
theorem PW.imp {X : Cx} {e : Expr} {t t' : TT} (p : PW X e t) (h : ∀ σ H Q, t' σ H Q → t σ H Q) : PW X e t' := ⟨fun wh pins s σ H Q I q => p.run wh pins s σ H Q I (h σ H Q q)⟩
theorem PA.imp {X : Cx} {e : List Expr} {t t' : TA} (p : PA X e t) (h : ∀ σ H Q, t' σ H Q → t σ H Q) : PA X e t' := ⟨fun pos pins s σ H Q I q => p.run pos pins s σ H Q I (h σ H Q q)⟩
theorem PK.imp {X : Cx} {e : List Keyword} {t t' : TA} (p : PK X e t) (h : ∀ σ H Q, t' σ H Q → t σ H Q) : PK X e t' := ⟨fun pos pins s σ H Q I q => p.run pos pins s σ H Q I (h σ H Q q)⟩

section
variable {K : PySem.W.Frag} {RX : RXT} {W : WX} {α β γ δ : Type} {Rel : RelT α β} {Rel2 : RelT γ δ} {σ : L2.St} {H : Hp}
/-- the first part, then what is left in the state behind it -/
theorem TF.bind {f : Sg → VH → R α} {k : Sg → α → VH → R γ} {Q : δ → Hp → Prop} (t : TF K RX W Rel2 (fun s h => (f s h).bind (k s)) σ H Q) :
    TF K RX W Rel f σ H fun v H1 => ∃ ρ1 s h1 a, RelW K ρ1 H1 h1 ∧ RelS K ρ1 H1 s σ ∧ Rel ρ1 H1 a v ∧ Post K RX Rel2 ρ1 H1 (k s a h1) Q (fun c d H' => W c d σ H') := by
  obtain ⟨ρ, s, h, w, rs, p⟩ := t
  refine ⟨ρ, s, h, w, rs, (Post.bind (Rel := Rel) p).imp (fun v H1 q => ?_) fun _ _ _ q => q⟩
  obtain ⟨ρ1, h1, a, e, w1, rl, p1⟩ := q
  exact ⟨ρ1, s, h1, a, w1, rs.ext e, rl, p1⟩
theorem TF.mono {f : Sg → VH → R α} {Q Q' : β → Hp → Prop} (t : TF K RX W Rel f σ H Q) (h : ∀ v H', Q v H' → Q' v H') : TF K RX W Rel f σ H Q' := by
  obtain ⟨ρ, s, hh, w, rs, p⟩ := t
  exact ⟨ρ, s, hh, w, rs, p.imp h fun _ _ _ q => q⟩
end

/-! ### names and constants -/
def fVar (i : Nat) : FE := fun s h => match s[i]? with
  | some (some d) => .ok d h
  | _ => .bad
def fC (x : P) : FE := fun _ h => .ok (.p x) h
section
variable {X : Cx} {RX : RXT} {W : WX}
theorem tVar_of {K : PySem.W.Frag} {i : Nat} {σ : L2.St} {H : Hp} {Q : VK} (t : TV K RX W (fVar i) σ H Q) : tVar i σ H Q := by
  obtain ⟨ρ, s, h, w, rs, p⟩ := t
  cases e : s[i]? with
  | none => simp only [fVar, e] at p; exact p.elim
  | some o =>
    cases o with
    | none => simp only [fVar, e] at p; exact p.elim
    | some d =>
      simp only [fVar, e] at p
      obtain ⟨v, hv, r⟩ := rs.get e
      exact ⟨v, hv, Post.ok w r p⟩
theorem v_var (i : Nat) {x : Str} {pos : Pos} (hN : X.N[i]? = some x := by rfl) (hv : Vis X.env.scope x := by first | exact Or.inl rfl | exact Or.inr (Or.inl rfl) | exact Or.inr (Or.inr rfl)) (hd : (x == ("__debug__" : Str)) = false := by decide)
    (hcd : (x == ("__classdict__" : Str)) = false := by decide) : PE X (.Name x pos) (TV X.K RX W (fVar i)) := PE.imp (pe_var hN hv hd hcd) fun _ _ _ t => tVar_of t
theorem tC_of {K : PySem.W.Frag} {x : P} {v : V} (r : ∀ ρ H, RelP K ρ H x v) {σ : L2.St} {H : Hp} {Q : VK} (t : TV K RX W (fC x) σ H Q) : tC v σ H Q := by
  obtain ⟨ρ, s, h, w, rs, p⟩ := t
  exact Post.ok w (.p (r ρ H)) p
theorem v_int {i : Int} {j : Nat} {pos : Pos} : PE X (.Constant (.int i) j pos) (TV X.K RX W (fC (.int i))) := PE.imp pe_int fun _ _ _ t => tC_of (fun _ _ => .int i) t
theorem v_bl {b : Bool} {j : Nat} {pos : Pos} : PE X (.Constant (.bool b) j pos) (TV X.K RX W (fC (.bl b))) := PE.imp pe_bl fun _ _ _ t => tC_of (fun _ _ => .bl b) t
theorem v_non {j : Nat} {pos : Pos} : PE X (.Constant .none j pos) (TV X.K RX W (fC .non)) := PE.imp pe_non fun _ _ _ t => tC_of (fun _ _ => .non) t
theorem v_str {x : Str} {j : Nat} {pos : Pos} : PE X (.Constant (.str x) j pos) (TV X.K RX W (fC (.str x))) := PE.imp pe_str fun _ _ _ t => tC_of (fun _ _ => .str x) t
/-- a module's constant -/
theorem v_gint {x : Str} {i : Int} {u : Value} {pos : Pos} (hg : Gl X x) (hm : X.mg x = some u) (r : RelV (.int i) u) (hd : (x == ("__debug__" : Str)) = false := by decide) : PE X (.Name x pos) (TV X.K RX W (fC (.int i))) :=
  PE.imp (pe_glob hg hm r hd) fun _ _ _ t => tC_of (fun _ _ => .int i) t
theorem v_gstr {x : Str} {i : Str} {u : Value} {pos : Pos} (hg : Gl X x) (hm : X.mg x = some u) (r : RelV (.str i) u) (hd : (x == ("__debug__" : Str)) = false := by decide) : PE X (.Name x pos) (TV X.K RX W (fC (.str i))) :=
  PE.imp (pe_glob hg hm r hd) fun _ _ _ t => tC_of (fun _ _ => .str i) t
end

/-! ### two values, an operator by values -/
abbrev Op2 := D → D → VH → R D
abbrev Op1 := D → VH → R D
def f2 (g : Op2) (a b : FE) : FE := fun s h => (a s h).bind fun x h1 => (b s h1).bind fun y h2 => g x y h2
def f1 (g : Op1) (a : FE) : FE := fun s h => (a s h).bind fun x h1 => g x h1
def OpV (K : PySem.W.Frag) (RX : RXT) (r : R2) (g : Op2) : Prop := ∀ (ρ : Rho) (H : Hp) (h : VH) (a b : D) (v u : V) (Q : VK) (E : XK), RelW K ρ H h → RelD K ρ H a v → RelD K ρ H b u → Post K RX (RelD K) ρ H (g a b h) Q E → r v u H Q
def UnV (K : PySem.W.Frag) (RX : RXT) (r : V → Hp → VK → Prop) (g : Op1) : Prop := ∀ (ρ : Rho) (H : Hp) (h : VH) (a : D) (v : V) (Q : VK) (E : XK), RelW K ρ H h → RelD K ρ H a v → Post K RX (RelD K) ρ H (g a h) Q E → r v H Q
section
variable {X : Cx} {RX : RXT} {W : WX} {a b c : Expr} {fa fb fc : FE} {pos : Pos}
theorem tOp_of {K : PySem.W.Frag} {r : R2} {g : Op2} (hv : OpV K RX r g) {σ : L2.St} {H : Hp} {Q : VK} (t : TV K RX W (f2 g fa fb) σ H Q) : tOp r (TV K RX W fa) (TV K RX W fb) σ H Q := by
  refine (TF.bind (k := fun s x h1 => (fb s h1).bind fun y h2 => g x y h2) t).mono fun v H1 q => ?_
  obtain ⟨ρ1, s, h1, x, w1, rs, rl, p⟩ := q
  refine ⟨ρ1, s, h1, w1, rs, (Post.bind (Rel := RelD K) p).imp (fun u H2 q2 => ?_) fun _ _ _ q => q⟩
  obtain ⟨ρ2, h2, y, e2, w2, rl2, p2⟩ := q2
  exact hv ρ2 H2 h2 x y v u Q _ w2 (rl.ext e2) rl2 p2
theorem v_op {op : Operator} {r : R2} {g : Op2} (ho : OpR X (binaryOp op) r) (hv : OpV X.K RX r g) (ha : PE X a (TV X.K RX W fa)) (hb : PE X b (TV X.K RX W fb)) : PE X (.BinOp a op b pos) (TV X.K RX W (f2 g fa fb)) :=
  PE.imp (pe_op ho ha hb) fun _ _ _ t => tOp_of hv t
theorem v_cmp {op : CmpOp} {r : R2} {g : Op2} (ho : OpR X (compareOp op) r) (hv : OpV X.K RX r g) (ha : PE X a (TV X.K RX W fa)) (hb : PE X b (TV X.K RX W fb)) (hm : behindInMarks op b = false) : PE X (.Compare a [op] [b] pos) (TV X.K RX W (f2 g fa fb)) :=
  PE.imp (pe_cmpR ho ha hb hm) fun _ _ _ t => tOp_of hv t
theorem v_un {op : UnaryOp} {r : V → Hp → VK → Prop} {g : Op1} (ho : UnR X (unaryOp op) r) (hv : UnV X.K RX r g) (ha : PE X a (TV X.K RX W fa)) : PE X (.UnaryOp op a pos) (TV X.K RX W (f1 g fa)) :=
  PE.imp (pe_un ho ha) fun σ H Q t => by
    refine (TF.bind (k := fun s x h1 => g x h1) t).mono fun v H1 q => ?_
    obtain ⟨ρ1, s, h1, x, w1, rs, rl, p⟩ := q
    exact hv ρ1 H1 h1 x v Q _ w1 rl p
/-- a test from a comparison: its value is a bool -/
def asB (r : R D) : R Bool := r.bind fun x h => match x with
  | .p (.bl b) => .ok b h
  | _ => .bad
theorem Post.asB {K : PySem.W.Frag} {ρ : Rho} {H : Hp} {r : R D} {Q : Bool → Hp → Prop} {E : XK} (p : Post K RX RelB ρ H (MV.asB r) Q E) :
    Post K RX (RelD K) ρ H r (fun v H' => ∃ b, v = .bl b ∧ Q b H') E := by
  refine (Post.bind (Rel := RelD K) p).imp (fun v H1 q => ?_) fun _ _ _ q => q
  obtain ⟨ρ1, h1, x, e, w, rl, p⟩ := q
  cases rl with
  | ob => exact p.elim
  | p rl =>
    cases rl with
    | bl b => exact ⟨b, rfl, Post.ok w rfl p⟩
    | _ => exact p.elim
theorem vt_cmp {op : CmpOp} {r : R2} {g : Op2} (ho : OpR X (compareOp op) r) (hv : OpV X.K RX r g) (ha : PE X a (TV X.K RX W fa)) (hb : PE X b (TV X.K RX W fb)) (hm : behindInMarks op b = false) :
    PT X (.Compare a [op] [b] pos) (TB X.K RX W (fun s h => asB (f2 g fa fb s h))) :=
  PT.imp (pt_cmpR ho ha hb hm) fun σ H Q t => by
    obtain ⟨ρ, s, h, w, rs, p⟩ := t
    exact tOp_of hv ⟨ρ, s, h, w, rs, Post.asB p⟩
/-- a < b < c -/
def f3 (g g' : Op2) (a b c : FE) : FE := fun s h => (a s h).bind fun x h1 => (b s h1).bind fun y h2 => (asB (g x y h2)).bind fun k h3 => match k with
  | true => (c s h3).bind fun z h4 => g' y z h4
  | false => .ok (.p (.bl false)) h3
theorem tChain_of {K : PySem.W.Frag} {r r' : R2} {g g' : Op2} (hm : ∀ x y H Q Q', (∀ v H', Q v H' → Q' v H') → r x y H Q → r x y H Q') (hv : OpV K RX r g) (hv' : OpV K RX r' g') {σ : L2.St} {H : Hp} {Q : VK} (t : TV K RX W (f3 g g' fa fb fc) σ H Q) :
    tChain r r' (TV K RX W fa) (TV K RX W fb) (TV K RX W fc) σ H Q := by
  refine (TF.bind (k := fun s x h1 => (fb s h1).bind fun y h2 => (asB (g x y h2)).bind fun k h3 => match k with
    | true => (fc s h3).bind fun z h4 => g' y z h4
    | false => .ok (.p (.bl false)) h3) t).mono fun v H1 q => ?_
  obtain ⟨ρ1, s, h1, x, w1, rs, rl, p⟩ := q
  refine ⟨ρ1, s, h1, w1, rs, (Post.bind (Rel := RelD K) p).imp (fun u H2 q2 => ?_) fun _ _ _ q => q⟩
  obtain ⟨ρ2, h2, y, e2, w2, rl2, p2⟩ := q2
  have p3 := Post.asB (Post.bind (Rel := RelB) p2)
  refine hm _ _ _ _ _ (fun z H3 q3 => ?_) (hv ρ2 H2 h2 x y v u _ _ w2 (rl.ext e2) rl2 p3)
  obtain ⟨k, rfl, ρ3, h3, k', e3, w3, rfl, p4⟩ := q3
  refine ⟨k', rfl, ?_⟩
  cases k' with
  | false => exact iteF (Post.ok w3 (.p (.bl false)) p4)
  | true =>
    refine iteT ⟨ρ3, s, h3, w3, (rs.ext e2).ext e3, (Post.bind (Rel := RelD K) p4).imp (fun w' H4 q4 => ?_) fun _ _ _ q => q⟩
    obtain ⟨ρ4, h4, z, e4, w4, rl4, p5⟩ := q4
    exact hv' ρ4 H4 h4 y z u w' Q _ w4 ((rl2.ext e3).ext e4) rl4 p5
theorem v_chain {op op' : CmpOp} {r r' : R2} {g g' : Op2} (hm : ∀ x y H Q Q', (∀ v H', Q v H' → Q' v H') → r x y H Q → r x y H Q') (ho : OpR X (compareOp op) r) (ho' : OpR X (compareOp op') r') (hv : OpV X.K RX r g) (hv' : OpV X.K RX r' g')
    (ha : PE X a (TV X.K RX W fa)) (hb : PE X b (TV X.K RX W fb)) (hc : PE X c (TV X.K RX W fc)) (hl : lastMarks [op, op'] [b, c] = false := by with_unfolding_all rfl) : PE X (.Compare a [op, op'] [b, c] pos) (TV X.K RX W (f3 g g' fa fb fc)) :=
  PE.imp (pe_chain ho ho' ha hb hc hl) fun _ _ _ t => tChain_of hm hv hv' t
theorem vt_chain {op op' : CmpOp} {r r' : R2} {g g' : Op2} (hm : ∀ x y H Q Q', (∀ v H', Q v H' → Q' v H') → r x y H Q → r x y H Q') (ho : OpR X (compareOp op) r) (ho' : OpR X (compareOp op') r') (hv : OpV X.K RX r g) (hv' : OpV X.K RX r' g')
    (ha : PE X a (TV X.K RX W fa)) (hb : PE X b (TV X.K RX W fb)) (hc : PE X c (TV X.K RX W fc)) (hl : lastMarks [op, op'] [b, c] = false := by with_unfolding_all rfl) : PT X (.Compare a [op, op'] [b, c] pos) (TB X.K RX W (fun s h => asB (f3 g g' fa fb fc s h))) :=
  PT.imp (pt_chain ho ho' ha hb hc hl) fun σ H Q t => by
    obtain ⟨ρ, s, h, w, rs, p⟩ := t
    exact tChain_of hm hv hv' ⟨ρ, s, h, w, rs, Post.asB p⟩
end

/-! ### truth -/
def truth (x : D) (h : VH) : R Bool := match x with
  | .p .non => .ok false h
  | .p (.bl b) => .ok b h
  | .p (.int i) => .ok (i != 0) h
  | .p (.str y) => if y.length ≤ sizeLine then .ok ((y.length : Int) != 0) h else .bad
  | .p (.tup l) => .ok (!l.isEmpty) h
  | .p (.lst l) => .ok (!l.isEmpty) h
  | .p (.fn _) => .bad
  | .p (.rep _) => .bad
  | .p (.dct _) => .bad
  | .ob n => match h[n]? with
    | some (.lst l) => .ok (!l.isEmpty) h
    | some (.dK l) => .ok (!l.isEmpty) h
    | _ => .bad
section
variable {K : PySem.W.Frag} {ρ : Rho} {H : Hp} {h : VH} {RX : RXT}
theorem RelPs.emp {l : List P} {xs : List V} (r : RelPs K ρ H l xs) : (!l.isEmpty) = !xs.isEmpty := by
  cases r <;> rfl
theorem truth_ok {x : D} {v : V} (w : RelW K ρ H h) (r : RelD K ρ H x v) {Q : Bool → Hp → Prop} {E : XK} (p : Post K RX RelB ρ H (truth x h) Q E) : ∃ k, TruV K v H k ∧ Q k H := by
  cases r with
  | p r =>
    cases r with
    | non => exact ⟨_, rfl, Post.ok w rfl p⟩
    | bl b => exact ⟨_, rfl, Post.ok w rfl p⟩
    | int i => exact ⟨_, rfl, Post.ok w rfl p⟩
    | str y =>
      by_cases hy : y.length ≤ sizeLine
      · simp only [truth, hy, if_true] at p
        exact ⟨_, ⟨hy, rfl⟩, Post.ok w rfl p⟩
      · simp only [truth, hy, if_false] at p
        exact p.elim
    | fn a => exact p.elim
    | rep a => exact p.elim
    | dct q n r => exact p.elim
    | tup q r => exact ⟨_, .inr (.inl ⟨_, q.seq, RelPs.emp r⟩), Post.ok w rfl p⟩
    | lst q r => exact ⟨_, .inl ⟨_, q.seq, RelPs.emp r⟩, Post.ok w rfl p⟩
  | ob hn hb =>
    rename_i n a
    cases e : h[n]? with
    | none => simp only [truth, e] at p; exact p.elim
    | some o =>
      cases o with
      | dead => simp only [truth, e] at p; exact p.elim
      | tab _ _ => simp only [truth, e] at p; exact p.elim
      | lst l =>
        simp only [truth, e] at p
        obtain ⟨h1, xs, h2, h3⟩ := w.get e (by intro z; cases z) hb
        exact ⟨_, .inl ⟨xs, .inl (.inl h2), RelPs.emp h3⟩, Post.ok w rfl p⟩
      | dK l =>
        simp only [truth, e] at p
        obtain ⟨h1, xs, h2, h3⟩ := w.get e (by intro z; cases z) hb
        refine ⟨_, .inr (.inr ⟨xs, h2, ?_⟩), Post.ok w rfl p⟩
        cases h3 <;> rfl
end
def fTru (a : FE) : FB := fun s h => (a s h).bind truth
section
variable {X : Cx} {RX : RXT} {W : WX} {a b c : Expr} {rest : List Expr} {fa fb fc : FE} {ta tb : FB} {pos : Pos}
theorem vt_truth (ha : PE X a (TV X.K RX W fa)) (he : ∀ whole, isTrue a X.env whole = (do let v ← whole; standAt a.pos; holding [v] (truthy v)) := by intro _; rfl) : PT X a (TB X.K RX W (fTru fa)) :=
  PT.imp (pt_truth ha he) fun σ H Q t => by
    refine (TF.bind (k := fun s x h1 => truth x h1) t).mono fun v H1 q => ?_
    obtain ⟨ρ1, s, h1, x, w1, rs, rl, p⟩ := q
    exact truth_ok w1 rl p
/-! ### and, or, not: tests -/
def fAnd (a b : FB) : FB := fun s h => (a s h).bind fun k h1 => match k with
  | true => b s h1
  | false => .ok false h1
def fOr (a b : FB) : FB := fun s h => (a s h).bind fun k h1 => match k with
  | true => .ok true h1
  | false => b s h1
def fNot (a : FB) : FB := fun s h => (a s h).bind fun k h1 => .ok (!k) h1
theorem vw_and1 (ha : PT X a (TB X.K RX W ta)) : PW X (.BoolOp .And [a] pos) (TB X.K RX W ta) := pw_and1 ha
theorem vw_or1 (ha : PT X a (TB X.K RX W ta)) : PW X (.BoolOp .Or [a] pos) (TB X.K RX W ta) := pw_or1 ha
theorem vw_and (ha : PT X a (TB X.K RX W ta)) (hb : PW X (.BoolOp .And (b :: rest) pos) (TB X.K RX W tb)) : PW X (.BoolOp .And (a :: b :: rest) pos) (TB X.K RX W (fAnd ta tb)) :=
  PW.imp (pw_and ha hb) fun σ H Q t => by
    refine (TF.bind (k := fun s k h1 => match k with
      | true => tb s h1
      | false => .ok false h1) t).mono fun v H1 q => ?_
    obtain ⟨ρ1, s, h1, k, w1, rs, rfl, p⟩ := q
    cases k with
    | true => exact iteT ⟨ρ1, s, h1, w1, rs, p⟩
    | false => exact iteF (Post.ok w1 rfl p)
theorem vw_or (ha : PT X a (TB X.K RX W ta)) (hb : PW X (.BoolOp .Or (b :: rest) pos) (TB X.K RX W tb)) : PW X (.BoolOp .Or (a :: b :: rest) pos) (TB X.K RX W (fOr ta tb)) :=
  PW.imp (pw_or ha hb) fun σ H Q t => by
    refine (TF.bind (k := fun s k h1 => match k with
      | true => .ok true h1
      | false => tb s h1) t).mono fun v H1 q => ?_
    obtain ⟨ρ1, s, h1, k, w1, rs, rfl, p⟩ := q
    cases k with
    | true => exact iteT (Post.ok w1 rfl p)
    | false => exact iteF ⟨ρ1, s, h1, w1, rs, p⟩
theorem vt_w (h : PW X a (TB X.K RX W ta)) : PT X a (TB X.K RX W ta) := h.pt
theorem vt_not (ha : PT X a (TB X.K RX W ta)) : PT X (.UnaryOp .Not a pos) (TB X.K RX W (fNot ta)) :=
  PT.imp (pt_not ha) fun σ H Q t => by
    refine (TF.bind (k := fun s k h1 => .ok (!k) h1) t).mono fun v H1 q => ?_
    obtain ⟨ρ1, s, h1, k, w1, rs, rfl, p⟩ := q
    exact Post.ok w1 rfl p
/-! ### as values -/
def fAndV (a b : FE) : FE := fun s h => (a s h).bind fun x h1 => (truth x h1).bind fun k h2 => match k with
  | true => b s h2
  | false => .ok x h2
def fOrV (a b : FE) : FE := fun s h => (a s h).bind fun x h1 => (truth x h1).bind fun k h2 => match k with
  | true => .ok x h2
  | false => b s h2
def fNotV (a : FE) : FE := fun s h => (a s h).bind fun x h1 => (truth x h1).bind fun k h2 => .ok (.p (.bl (!k))) h2
theorem truth_heap {x : D} {h h' : VH} {k : Bool} (e : truth x h = .ok k h') : h' = h := by
  unfold truth at e
  split at e
  all_goals first
    | (cases e; rfl)
    | cases e
    | (split at e <;> first | (cases e; rfl) | cases e)
theorem truth_exc {x : D} {h h' : VH} {z : Ex} (e : truth x h = .exc z h') : False := by
  unfold truth at e
  split at e
  all_goals first
    | cases e
    | (split at e <;> cases e)
/-- the truth of a value as a Bool that is known -/
theorem truth_post {K : PySem.W.Frag} {ρ : Rho} {H : Hp} {h : VH} {x : D} {v : V} (w : RelW K ρ H h) (r : RelD K ρ H x v) {α β : Type} {Rel : RelT α β} {k : Bool → VH → R α} {Q : β → Hp → Prop} {E : XK} (p : Post K RX Rel ρ H ((truth x h).bind k) Q E) :
    ∃ b, TruV K v H b ∧ Post K RX Rel ρ H (k b h) Q E := by
  cases e : truth x h with
  | bad => rw [e] at p; exact p.elim
  | exc z h' => exact (truth_exc e).elim
  | ok b h' =>
    have eh := truth_heap e
    subst eh
    obtain ⟨k', h1, h2⟩ := truth_ok (RX := RX) (Q := fun b' _ => b' = b) (E := fun _ _ _ => True) w r (by rw [e]; exact fun _ _ v _ _ q => q.symm)
    subst h2
    refine ⟨k', h1, ?_⟩
    rw [e] at p
    exact p
theorem v_and (ha : PE X a (TV X.K RX W fa)) (hb : PE X (.BoolOp .And (b :: rest) pos) (TV X.K RX W fb)) : PE X (.BoolOp .And (a :: b :: rest) pos) (TV X.K RX W (fAndV fa fb)) :=
  PE.imp (pe_andT ha hb) fun σ H Q t => by
    refine (TF.bind (k := fun s x h1 => (truth x h1).bind fun k h2 => match k with
      | true => fb s h2
      | false => .ok x h2) t).mono fun v H1 q => ?_
    obtain ⟨ρ1, s, h1, x, w1, rs, rl, p⟩ := q
    obtain ⟨k, tk, p2⟩ := truth_post w1 rl p
    refine ⟨k, tk, ?_⟩
    cases k with
    | true => exact iteT ⟨ρ1, s, h1, w1, rs, p2⟩
    | false => exact iteF (Post.ok w1 rl p2)
theorem v_or (ha : PE X a (TV X.K RX W fa)) (hb : PE X (.BoolOp .Or (b :: rest) pos) (TV X.K RX W fb)) : PE X (.BoolOp .Or (a :: b :: rest) pos) (TV X.K RX W (fOrV fa fb)) :=
  PE.imp (pe_orT ha hb) fun σ H Q t => by
    refine (TF.bind (k := fun s x h1 => (truth x h1).bind fun k h2 => match k with
      | true => .ok x h2
      | false => fb s h2) t).mono fun v H1 q => ?_
    obtain ⟨ρ1, s, h1, x, w1, rs, rl, p⟩ := q
    obtain ⟨k, tk, p2⟩ := truth_post w1 rl p
    refine ⟨k, tk, ?_⟩
    cases k with
    | true => exact iteT (Post.ok w1 rl p2)
    | false => exact iteF ⟨ρ1, s, h1, w1, rs, p2⟩
theorem v_not (ha : PE X a (TV X.K RX W fa)) : PE X (.UnaryOp .Not a pos) (TV X.K RX W (fNotV fa)) :=
  PE.imp (pe_notT ha) fun σ H Q t => by
    refine (TF.bind (k := fun s x h1 => (truth x h1).bind fun k h2 => .ok (D.p (.bl (!k))) h2) t).mono fun v H1 q => ?_
    obtain ⟨ρ1, s, h1, x, w1, rs, rl, p⟩ := q
    obtain ⟨k, tk, p2⟩ := truth_post w1 rl p
    exact ⟨k, tk, Post.ok w1 (.p (.bl _)) p2⟩
theorem v_one {op : BoolOp} (ha : PE X a (TV X.K RX W fa)) : PE X (.BoolOp op [a] pos) (TV X.K RX W fa) := pe_one ha
def fIfE (c : FB) (a b : FE) : FE := fun s h => (c s h).bind fun k h1 => match k with
  | true => a s h1
  | false => b s h1
theorem v_if (hc : PT X c (TB X.K RX W ta)) (ha : PE X a (TV X.K RX W fa)) (hb : PE X b (TV X.K RX W fb)) : PE X (.IfExp c a b pos) (TV X.K RX W (fIfE ta fa fb)) :=
  PE.imp (pe_ifExp hc ha hb) fun σ H Q t => by
    refine (TF.bind (k := fun s k h1 => match k with
      | true => fa s h1
      | false => fb s h1) t).mono fun v H1 q => ?_
    obtain ⟨ρ1, s, h1, k, w1, rs, rfl, p⟩ := q
    cases k with
    | true => exact iteT ⟨ρ1, s, h1, w1, rs, p⟩
    | false => exact iteF ⟨ρ1, s, h1, w1, rs, p⟩
end

/-! ### argument lists, displays -/
def fNil : FA := fun _ h => .ok [] h
def fCons (a : FE) (r : FA) : FA := fun s h => (a s h).bind fun x h1 => (r s h1).bind fun xs h2 => .ok (x :: xs) h2
def allP : List D → Option (List P)
  | [] => some []
  | .p x :: r => match allP r with
    | some l => some (x :: l)
    | none => none
  | .ob _ :: _ => none
def fTup (a : FA) : FE := fun s h => (a s h).bind fun xs h1 => match allP xs with
  | some l => if l.length ≤ sizeLine then .ok (.p (.tup l)) h1 else .bad
  | none => .bad
def fLst (a : FA) : FE := fun s h => (a s h).bind fun xs h1 => match allP xs with
  | some l => if l.length ≤ sizeLine then .ok (.p (.lst l)) h1 else .bad
  | none => .bad
/-- a list that will be changed -/
def fLstM (a : FA) : FE := fun s h => (a s h).bind fun xs h1 => match allP xs with
  | some l => if l.length ≤ sizeLine then .ok (.ob h1.length) (h1 ++ [.lst l]) else .bad
  | none => .bad
section
variable {K : PySem.W.Frag} {ρ : Rho} {H : Hp}
theorem allP_ok : ∀ {ds : List D} {vs : List V} {l : List P}, RelDs K ρ H ds vs → allP ds = some l → RelPs K ρ H l vs
  | _, _, _, .nil, h => by cases h; exact .nil
  | _, _, _, .cons a b, h => by
    cases a with
    | ob => cases h
    | p r =>
      unfold allP at h
      split at h
      · rename_i l e
        cases h
        exact .cons r (allP_ok b e)
      · cases h
end
section
variable {X : Cx} {RX : RXT} {W : WX} {e : Expr} {es : List Expr} {kws : List Keyword} {fa : FE} {fr : FA} {pos kpos : Pos} {nm : Option Str}
theorem tCons_of {K : PySem.W.Frag} {σ : L2.St} {H : Hp} {Q : List V → Hp → Prop} (t : TL K RX W (fCons fa fr) σ H Q) : tCons (TV K RX W fa) (TL K RX W fr) σ H Q := by
  refine (TF.bind (k := fun s x h1 => (fr s h1).bind fun xs h2 => .ok (x :: xs) h2) t).mono fun v H1 q => ?_
  obtain ⟨ρ1, s, h1, x, w1, rs, rl, p⟩ := q
  refine ⟨ρ1, s, h1, w1, rs, (Post.bind (Rel := RelDs K) p).imp (fun u H2 q2 => ?_) fun _ _ _ q => q⟩
  obtain ⟨ρ2, h2, y, e2, w2, rl2, p2⟩ := q2
  exact Post.ok w2 (.cons (rl.ext e2) rl2) p2
theorem tNil_of {K : PySem.W.Frag} {σ : L2.St} {H : Hp} {Q : List V → Hp → Prop} (t : TL K RX W fNil σ H Q) : tNil σ H Q := by
  obtain ⟨ρ, s, h, w, rs, p⟩ := t
  exact Post.ok w .nil p
theorem va_nil : PA X [] (TL X.K RX W fNil) := PA.imp pa_nil fun _ _ _ t => tNil_of t
theorem va_cons (ha : PE X e (TV X.K RX W fa)) (hr : PA X es (TL X.K RX W fr)) (hs : starEach (e :: es) X.env = (false, eval e X.env) :: starEach es X.env := by rfl) : PA X (e :: es) (TL X.K RX W (fCons fa fr)) :=
  PA.imp (pa_cons ha hr hs) fun _ _ _ t => tCons_of t
theorem vk_nil : PK X [] (TL X.K RX W fNil) := PK.imp pk_nil fun _ _ _ t => tNil_of t
theorem vk_cons (ha : PE X e (TV X.K RX W fa)) (hr : PK X kws (TL X.K RX W fr)) : PK X (⟨nm, e, kpos⟩ :: kws) (TL X.K RX W (fCons fa fr)) := PK.imp (pk_cons ha hr) fun _ _ _ t => tCons_of t
theorem RelW.tupP {K : PySem.W.Frag} {ρ : Rho} {H : Hp} {h : VH} (w : RelW K ρ H h) {p : Addr} {xs : List V} {l : List P} (n : H p = none) (r : RelPs K ρ H l xs) : RelP K ρ (upd H p (.tup xs)) (.tup l) (.ref p) :=
  .tup (.inl ⟨.inl upd_same, w.notLive n⟩) (r.ext (.laid n))
theorem RelW.lstP {K : PySem.W.Frag} {ρ : Rho} {H : Hp} {h : VH} (w : RelW K ρ H h) {p : Addr} {xs : List V} {l : List P} (n : H p = none) (r : RelPs K ρ H l xs) : RelP K ρ (upd H p (.lst xs)) (.lst l) (.ref p) :=
  .lst (.inl ⟨.inl upd_same, w.notLive n⟩) (r.ext (.laid n))
theorem v_tup {x1 : Nat} (h : PA X es (TL X.K RX W fr)) : PE X (.Tuple es x1 pos) (TV X.K RX W (fTup fr)) :=
  PE.imp (pe_tup h) fun σ H Q t => by
    refine (TF.bind (k := fun s xs h1 => match allP xs with
      | some l => if l.length ≤ sizeLine then .ok (D.p (.tup l)) h1 else .bad
      | none => .bad) t).mono fun v H1 q => ?_
    obtain ⟨ρ1, s, h1, x, w1, rs, rl, p⟩ := q
    cases e : allP x with
    | none => simp only [e] at p; exact p.elim
    | some l =>
      simp only [e] at p
      have r := allP_ok rl e
      by_cases hl : l.length ≤ sizeLine
      · rw [if_pos hl] at p
        exact ⟨by rw [← r.len]; exact hl, fun a na => p ρ1 _ _ (.laid na) (w1.laid na) (.p (w1.tupP na r))⟩
      · rw [if_neg hl] at p; exact p.elim
theorem v_lst (h : PA X es (TL X.K RX W fr)) : PE X (.List es pos) (TV X.K RX W (fLst fr)) :=
  PE.imp (pe_lst h) fun σ H Q t => by
    refine (TF.bind (k := fun s xs h1 => match allP xs with
      | some l => if l.length ≤ sizeLine then .ok (D.p (.lst l)) h1 else .bad
      | none => .bad) t).mono fun v H1 q => ?_
    obtain ⟨ρ1, s, h1, x, w1, rs, rl, p⟩ := q
    cases e : allP x with
    | none => simp only [e] at p; exact p.elim
    | some l =>
      simp only [e] at p
      have r := allP_ok rl e
      by_cases hl : l.length ≤ sizeLine
      · rw [if_pos hl] at p
        exact ⟨by rw [← r.len]; exact hl, fun a na => p ρ1 _ _ (.laid na) (w1.laid na) (.p (w1.lstP na r))⟩
      · rw [if_neg hl] at p; exact p.elim
theorem RelW.newob {K : PySem.W.Frag} {ρ : Rho} {H : Hp} {h : VH} (w : RelW K ρ H h) {p : Addr} (u : HO) : RelD K (ρ ++ [some p]) (upd H p u) (.ob h.length) (.ref p) := by
  refine .ob (by rw [List.length_append, w.len]; simp) fun b hb => ?_
  rw [← w.len, List.getElem?_append_right (Nat.le_refl _)] at hb
  simpa using hb
theorem v_lstM (h : PA X es (TL X.K RX W fr)) : PE X (.List es pos) (TV X.K RX W (fLstM fr)) :=
  PE.imp (pe_lst h) fun σ H Q t => by
    refine (TF.bind (k := fun s xs h1 => match allP xs with
      | some l => if l.length ≤ sizeLine then .ok (D.ob h1.length) (h1 ++ [.lst l]) else .bad
      | none => .bad) t).mono fun v H1 q => ?_
    obtain ⟨ρ1, s, h1, x, w1, rs, rl, p⟩ := q
    cases e : allP x with
    | none => simp only [e] at p; exact p.elim
    | some l =>
      simp only [e] at p
      have r := allP_ok rl e
      by_cases hl : l.length ≤ sizeLine
      · rw [if_pos hl] at p
        exact ⟨by rw [← r.len]; exact hl, fun a na => p _ _ _ (.fresh na) (w1.fresh na ⟨_, upd_same, r.ext (.fresh na)⟩) (w1.newob _)⟩
      · rw [if_neg hl] at p; exact p.elim
end
end MV

/-! MV3: statements. -/
namespace MV
open PySem PySem.Spec PyProof.Rows L2

inductive O where
  | nx (s : Sg) (h : VH) | rt (d : D) (h : VH) | bk (s : Sg) (h : VH) | ct (s : Sg) (h : VH) | ex (x : Ex) (s : Sg) (h : VH) | bad
abbrev FS := Sg → VH → O

def PostS (K : PySem.W.Frag) (RX : RXT) (W : WX) (ρ : Rho) (H : Hp) (o : O) (D : Ends) : Prop := match o with
  | .nx s h' => ∀ ρ' H' σ', Ext ρ H ρ' H' → RelW K ρ' H' h' → RelS K ρ' H' s σ' → D.nx σ' H'
  | .rt d h' => ∀ ρ' H' v, Ext ρ H ρ' H' → RelW K ρ' H' h' → RelD K ρ' H' d v → D.rt v H'
  | .bk s h' => ∀ ρ' H' σ', Ext ρ H ρ' H' → RelW K ρ' H' h' → RelS K ρ' H' s σ' → D.bk σ' H'
  | .ct s h' => ∀ ρ' H' σ', Ext ρ H ρ' H' → RelW K ρ' H' h' → RelS K ρ' H' s σ' → D.ct σ' H'
  | .ex x s h' => ∀ ρ' H' σ' c d, Ext ρ H ρ' H' → RelW K ρ' H' h' → RelS K ρ' H' s σ' → RX ρ' H' x c d → W c d σ' H'
  | .bad => False

section
variable {K : PySem.W.Frag} {RX : RXT} {W : WX} {ρ ρ' : Rho} {H H' : Hp} {o : O} {D D' : Ends}
theorem PostS.ext (e : Ext ρ H ρ' H') (p : PostS K RX W ρ H o D) : PostS K RX W ρ' H' o D := by
  cases o with
  | nx => exact fun ρ2 H2 v f w rl => p ρ2 H2 v (e.trans f) w rl
  | rt => exact fun ρ2 H2 v f w rl => p ρ2 H2 v (e.trans f) w rl
  | bk => exact fun ρ2 H2 v f w rl => p ρ2 H2 v (e.trans f) w rl
  | ct => exact fun ρ2 H2 v f w rl => p ρ2 H2 v (e.trans f) w rl
  | ex => exact fun ρ2 H2 v c d f w rl => p ρ2 H2 v c d (e.trans f) w rl
  | bad => exact p
end

def TSV (K : PySem.W.Frag) (RX : RXT) (W : WX) (f : FS) : TS := fun D σ H => ∃ ρ s h, RelW K ρ H h ∧ RelS K ρ H s σ ∧ PostS K RX W ρ H (f s h) D
theorem PS.imp {X : Cx} {e : Stmt} {t t' : TS} (p : PS X e t) (h : ∀ D σ H, t' D σ H → t D σ H) : PS X e t' := ⟨fun pins s σ H Q I q => p.run pins s σ H Q I (h Q σ H q)⟩
theorem PSs.imp {X : Cx} {e : List Stmt} {t t' : TS} (p : PSs X e t) (h : ∀ D σ H, t' D σ H → t D σ H) : PSs X e t' := ⟨fun pins s σ H Q I q => p.run pins s σ H Q I (h Q σ H q)⟩

/-- an expression, then a statement by its value -/
def R.thenS {α : Type} (r : R α) (s : Sg) (k : α → VH → O) : O := match r with
  | .ok a h => k a h
  | .exc x h => .ex x s h
  | .bad => .bad
section
variable {K : PySem.W.Frag} {RX : RXT} {W : WX} {α β : Type} {Rel : RelT α β} {ρ : Rho} {H : Hp} {σ : L2.St}
theorem PostS.bind {r : R α} {s : Sg} {k : α → VH → O} {D : Ends} (rs : RelS K ρ H s σ) (p : PostS K RX W ρ H (r.thenS s k) D) :
    Post K RX Rel ρ H r (fun v H1 => ∃ ρ1 h1 a, Ext ρ H ρ1 H1 ∧ RelW K ρ1 H1 h1 ∧ Rel ρ1 H1 a v ∧ PostS K RX W ρ1 H1 (k a h1) D) (fun c d H' => W c d σ H') := by
  cases r with
  | ok d h' => exact fun ρ2 H2 v f w rl => ⟨ρ2, h', d, f, w, rl, PostS.ext f p⟩
  | exc x h' => exact fun ρ2 H2 c d f w rl => p ρ2 H2 σ c d f w (rs.ext f) rl
  | bad => exact p
theorem TSV.bind {f : Sg → VH → R α} {k : Sg → α → VH → O} {D : Ends} (t : TSV K RX W (fun s h => (f s h).thenS s (k s)) D σ H) :
    TF K RX W Rel f σ H fun v H1 => ∃ ρ1 s h1 a, RelW K ρ1 H1 h1 ∧ RelS K ρ1 H1 s σ ∧ Rel ρ1 H1 a v ∧ PostS K RX W ρ1 H1 (k s a h1) D := by
  obtain ⟨ρ, s, h, w, rs, p⟩ := t
  refine ⟨ρ, s, h, w, rs, (PostS.bind (Rel := Rel) rs p).imp (fun v H1 q => ?_) fun _ _ _ q => q⟩
  obtain ⟨ρ1, h1, a, e, w1, rl, p1⟩ := q
  exact ⟨ρ1, s, h1, a, w1, rs.ext e, rl, p1⟩
end

/-! ### blocks -/
def O.seq (o : O) (g : FS) : O := match o with
  | .nx s h => g s h
  | .rt d h => .rt d h
  | .bk s h => .bk s h
  | .ct s h => .ct s h
  | .ex x s h => .ex x s h
  | .bad => .bad
def sNext : FS := fun s h => .nx s h
def sSeq (f g : FS) : FS := fun s h => (f s h).seq g
section
variable {X : Cx} {RX : RXT} {W : WX} {st : Stmt} {rest : List Stmt} {f g : FS} {e : Expr} {fe : FE} {pos : Pos}
theorem PostS.seq {K : PySem.W.Frag} {ρ : Rho} {H : Hp} {o : O} {D : Ends} (p : PostS K RX W ρ H (o.seq g) D) : PostS K RX W ρ H o { D with nx := TSV K RX W g D } := by
  cases o with
  | nx s h => exact fun ρ2 H2 v e w rl => ⟨ρ2, s, h, w, rl, PostS.ext e p⟩
  | _ => exact p
theorem vs_nil : PSs X [] (TSV X.K RX W sNext) := PSs.imp pss_nil fun D σ H t => by
  obtain ⟨ρ, s, h, w, rs, p⟩ := t
  exact p ρ H σ (.refl _ _) w rs
theorem vs_cons (h1 : PS X st (TSV X.K RX W f)) (h2 : PSs X rest (TSV X.K RX W g)) : PSs X (st :: rest) (TSV X.K RX W (sSeq f g)) := PSs.imp (pss_cons h1 h2) fun D σ H t => by
  obtain ⟨ρ, s, h, w, rs, p⟩ := t
  exact ⟨ρ, s, h, w, rs, PostS.seq p⟩
theorem vs_one (h1 : PS X st (TSV X.K RX W f)) : PSs X [st] (TSV X.K RX W f) := pss_one h1
def sBreak : FS := fun s h => .bk s h
def sCont : FS := fun s h => .ct s h
theorem vs_pass : PS X (.Pass pos) (TSV X.K RX W sNext) := PS.imp ps_pass fun D σ H t => by
  obtain ⟨ρ, s, h, w, rs, p⟩ := t
  exact p ρ H σ (.refl _ _) w rs
theorem vs_break : PS X (.Break pos) (TSV X.K RX W sBreak) := PS.imp ps_break fun D σ H t => by
  obtain ⟨ρ, s, h, w, rs, p⟩ := t
  exact p ρ H σ (.refl _ _) w rs
theorem vs_cont : PS X (.Continue pos) (TSV X.K RX W sCont) := PS.imp ps_continue fun D σ H t => by
  obtain ⟨ρ, s, h, w, rs, p⟩ := t
  exact p ρ H σ (.refl _ _) w rs
def sDrop (a : FE) : FS := fun s h => (a s h).thenS s fun _ h1 => .nx s h1
def sRet (a : FE) : FS := fun s h => (a s h).thenS s fun d h1 => .rt d h1
def sRetN : FS := fun _ h => .rt (.p .non) h
theorem vs_expr (he : PE X e (TV X.K RX W fe)) (hs : swapsWith e none pos.line X.env = pure false := by rfl) : PS X (.Expr e pos) (TSV X.K RX W (sDrop fe)) := PS.imp (ps_expr he hs) fun D σ H t => by
  refine (TSV.bind (k := fun s _ h1 => .nx s h1) t).mono fun v H1 q => ?_
  obtain ⟨ρ1, s, h1, a, w1, rs, rl, p⟩ := q
  exact p ρ1 H1 σ (.refl _ _) w1 rs
theorem vs_ret (he : PE X e (TV X.K RX W fe)) : PS X (.Return (some e) pos) (TSV X.K RX W (sRet fe)) := PS.imp (ps_ret he) fun D σ H t => by
  refine (TSV.bind (k := fun _ d h1 => .rt d h1) t).mono fun v H1 q => ?_
  obtain ⟨ρ1, s, h1, a, w1, rs, rl, p⟩ := q
  exact p ρ1 H1 v (.refl _ _) w1 rl
theorem vs_retN : PS X (.Return none pos) (TSV X.K RX W sRetN) := PS.imp ps_retN fun D σ H t => by
  obtain ⟨ρ, s, h, w, rs, p⟩ := t
  exact p ρ H .non (.refl _ _) w (.p .non)
def sIf (c : FB) (f g : FS) : FS := fun s h => (c s h).thenS s fun k h1 => match k with
  | true => f s h1
  | false => g s h1
theorem vs_if {c : Expr} {fc : FB} {a b : List Stmt} (hc : PT X c (TB X.K RX W fc)) (ha : PSs X a (TSV X.K RX W f)) (hb : PSs X b (TSV X.K RX W g)) : PS X (.If c a b pos) (TSV X.K RX W (sIf fc f g)) := PS.imp (ps_if hc ha hb) fun D σ H t => by
  refine (TSV.bind (k := fun s k h1 => match k with
    | true => f s h1
    | false => g s h1) t).mono fun v H1 q => ?_
  obtain ⟨ρ1, s, h1, k, w1, rs, rfl, p⟩ := q
  cases k with
  | true => exact iteT ⟨ρ1, s, h1, w1, rs, p⟩
  | false => exact iteF ⟨ρ1, s, h1, w1, rs, p⟩
/-- code that is never reached -/
def sBad : FS := fun _ _ => .bad
theorem vs_never : PS X st (TSV X.K RX W sBad) := PS.imp ps_never fun D σ H t => by
  obtain ⟨ρ, s, h, w, rs, p⟩ := t
  exact p
/-- a mutable list of the slot i is data from here on -/
def frz (i : Nat) : FS := fun s h => match s[i]? with
  | some (some (.ob n)) => match h[n]? with
    | some (.lst l) => .nx (s.set i (some (.p (.lst l)))) (h.set n .dead)
    | some (.dK l) => .nx (s.set i (some (.p (.dct l)))) (h.set n .dead)
    | _ => .bad
  | _ => .bad
end

/-! ### a mutable list becomes data -/
def kill (ρ : Rho) (n : Nat) : Rho := ρ.set n none
section
variable {K : PySem.W.Frag} {ρ : Rho} {H : Hp} {h : VH} {n : Nat} {a : Addr}
theorem kill_get {m : Nat} {b : Addr} (h : (kill ρ n)[m]? = some (some b)) : ρ[m]? = some (some b) ∧ m ≠ n := by
  unfold kill at h
  by_cases e : m = n
  · subst e
    by_cases hl : m < ρ.length
    · rw [List.getElem?_set_self hl] at h; cases h
    · rw [List.getElem?_eq_none (by rw [List.length_set]; omega)] at h; cases h
  · rw [List.getElem?_set_ne (Ne.symm e)] at h
    exact ⟨h, e⟩
theorem kill_len : (kill ρ n).length = ρ.length := List.length_set ..
theorem Ext.killed : Ext ρ H (kill ρ n) H where
  len := Nat.le_of_eq kill_len.symm
  old := fun m a _ h => (kill_get h).1
  new := fun m a hm h => by
    have := (kill_get h).1
    rw [List.getElem?_eq_none hm] at this; cases this
  keep := fun _ _ h _ _ => h
  there := fun _ o h n => ⟨o, h, n⟩
theorem RelW.killed (w : RelW K ρ H h) : RelW K (kill ρ n) H (h.set n .dead) where
  len := by rw [kill_len, List.length_set]; exact w.len
  inj := fun i j b hi hj => w.inj i j b (kill_get hi).1 (kill_get hj).1
  at_ := fun i o ho => by
    by_cases e : i = n
    · subst e
      by_cases hl : i < h.length
      · rw [List.getElem?_set_self hl] at ho; cases ho; exact .inl rfl
      · rw [List.getElem?_eq_none (by rw [List.length_set]; omega)] at ho; cases ho
    · rw [List.getElem?_set_ne (Ne.symm e)] at ho
      rcases w.at_ i o ho with h1 | ⟨b, h1, h2⟩
      · exact .inl h1
      · exact .inr ⟨b, by unfold kill; rw [List.getElem?_set_ne (Ne.symm e)]; exact h1, h2.ext .killed rfl⟩
  live := fun i b hi => w.live i b (kill_get hi).1
theorem not_live_killed (w : RelW K ρ H h) (hn : ρ[n]? = some (some a)) : ¬ Live (kill ρ n) a := fun ⟨m, hm⟩ => by
  obtain ⟨h1, h2⟩ := kill_get hm
  exact h2 (w.inj m n a h1 hn)
theorem frz_ok {RX : RXT} {W : WX} {g : FS} {i : Nat} {D : Ends} {s : Sg} {σ : L2.St} (w : RelW K ρ H h) (rs : RelS K ρ H s σ) (p : PostS K RX W ρ H ((frz i s h).seq g) D) : TSV K RX W g D σ H := by
  unfold frz at p
  split at p
  · rename_i n e
    split at p
    · rename_i l e2
      obtain ⟨v, hv, r⟩ := rs.get e
      cases r with
      | ob hn hb =>
        obtain ⟨h1, xs, h2, h3⟩ := w.get e2 (by intro z; cases z) hb
        rename_i a
        have hs : σ = σ.set i (some (.ref a)) := by
          refine (List.ext_getElem? fun j => ?_)
          by_cases ej : i = j
          · subst ej
            rw [hv, List.getElem?_set_self (List.getElem?_eq_some_iff.mp hv).1]
          · rw [List.getElem?_set_ne ej]
        refine ⟨kill ρ n, s.set i (some (.p (.lst l))), h.set n .dead, w.killed, ?_, PostS.ext .killed p⟩
        rw [hs]
        exact (rs.ext .killed).set i (.p (.lst (.inl ⟨.inl h2, not_live_killed w h1⟩) (h3.ext .killed)))
    · rename_i l e2
      obtain ⟨v, hv, r⟩ := rs.get e
      cases r with
      | ob hn hb =>
        obtain ⟨h1, xs, h2, h3⟩ := w.get e2 (by intro z; cases z) hb
        rename_i a
        have hs : σ = σ.set i (some (.ref a)) := by
          refine (List.ext_getElem? fun j => ?_)
          by_cases ej : i = j
          · subst ej
            rw [hv, List.getElem?_set_self (List.getElem?_eq_some_iff.mp hv).1]
          · rw [List.getElem?_set_ne ej]
        refine ⟨kill ρ n, s.set i (some (.p (.dct l))), h.set n .dead, w.killed, ?_, PostS.ext .killed p⟩
        rw [hs]
        exact (rs.ext .killed).set i (.p (.dct (.inl h2) (not_live_killed w h1) (h3.ext .killed)))
    · exact p.elim
  · exact p.elim
end
section
variable {X : Cx} {RX : RXT} {W : WX} {st : Stmt} {rest : List Stmt} {f g : FS}
/-- the list in slot i is data in what follows -/
theorem vs_frz (i : Nat) (h : PSs X rest (TSV X.K RX W g)) : PSs X rest (TSV X.K RX W (sSeq (frz i) g)) := PSs.imp h fun D σ H t => by
  obtain ⟨ρ, s, h, w, rs, p⟩ := t
  exact frz_ok w rs p
end

/-! ### targets -/
abbrev GT := D → Sg → Option Sg
/-- only the slots os are written -/
def OnlyAt (os : List Nat) (σ σ' : L2.St) : Prop := σ'.length = σ.length ∧ ∀ j, j ∉ os → σ'[j]? = σ[j]?
def TGV (K : PySem.W.Frag) (os : List Nat) (g : GT) : L2.TG := fun v σ H Q => ∃ ρ s h d, RelW K ρ H h ∧ RelS K ρ H s σ ∧ RelD K ρ H d v ∧ ∃ s', g d s = some s' ∧ ∀ σ', RelS K ρ H s' σ' → OnlyAt os σ σ' → Q σ' H
abbrev GTs := List P → Sg → Option Sg
def TGVs (K : PySem.W.Frag) (os : List Nat) (g : GTs) : L2.TGs := fun vs σ H Q => ∃ ρ s h ds, RelW K ρ H h ∧ RelS K ρ H s σ ∧ RelPs K ρ H ds vs ∧ ∃ s', g ds s = some s' ∧ ∀ σ', RelS K ρ H s' σ' → OnlyAt os σ σ' → Q σ' H
theorem PG.imp {X : Cx} {e : Expr} {t t' : L2.TG} (p : PG X e t) (h : ∀ v σ H Q, t' v σ H Q → t v σ H Q) : PG X e t' := ⟨fun pins s σ H v u Q I r q => p.run pins s σ H v u Q I r (h v σ H Q q)⟩
theorem PGs.imp {X : Cx} {e : List Expr} {t t' : L2.TGs} (p : PGs X e t) (h : ∀ v σ H Q, t' v σ H Q → t v σ H Q) : PGs X e t' := ⟨fun pins s σ H v u Q I r q => p.run pins s σ H v u Q I r (h v σ H Q q)⟩
def gtName (i : Nat) : GT := fun d s => some (s.set i (some d))
def gtsNil : GTs := fun l s => match l with
  | [] => some s
  | _ => none
def gtsCons (g : GT) (r : GTs) : GTs := fun l s => match l with
  | x :: xs => match g (.p x) s with
    | some s1 => r xs s1
    | none => none
  | [] => none
/-- a tuple or a list of that length -/
def gtTup (n : Nat) (r : GTs) : GT := fun d s => match d with
  | .p (.tup l) => if l.length = n then r l s else none
  | .p (.lst l) => if l.length = n then r l s else none
  | _ => none
theorem OnlyAt.set (σ : L2.St) (i : Nat) (v : Option V) : OnlyAt [i] σ (σ.set i v) := ⟨by simp, fun j hj => by rw [List.getElem?_set_ne (by intro e; exact hj (by simp [e]))]⟩
theorem OnlyAt.refl (σ : L2.St) : OnlyAt [] σ σ := ⟨rfl, fun _ _ => rfl⟩
theorem OnlyAt.trans {os os' : List Nat} {σ σ' σ'' : L2.St} (a : OnlyAt os σ σ') (b : OnlyAt os' σ' σ'') : OnlyAt (os ++ os') σ σ'' :=
  ⟨b.1.trans a.1, fun j hj => (b.2 j (fun h => hj (by simp [h]))).trans (a.2 j (fun h => hj (by simp [h])))⟩
section
variable {X : Cx} {pos : Pos} {e : Expr} {es : List Expr} {g : GT} {r : GTs} {os os' : List Nat}
theorem vg_name (i : Nat) {x : Str} (hN : X.N.Nodup) (hi : X.N[i]? = some x := by rfl) (hx : Loc X.env.scope x := by first | exact Or.inl rfl | exact Or.inr rfl) (hf : X.fn x = true ∨ X.env.scope.names.lookup x = some .local := by first | exact .inl rfl | exact .inr rfl) : PG X (.Name x pos) (TGV X.K [i] (gtName i)) :=
  PG.imp (pg_name hN hi hx hf) fun v σ H Q t => by
    obtain ⟨ρ, s, h, d, w, rs, rd, s', e, k⟩ := t
    cases e
    exact k _ (rs.set i rd) (.set σ i _)
theorem vgs_nil : PGs X [] (TGVs X.K [] gtsNil) := PGs.imp pgs_nil fun v σ H Q t => by
  obtain ⟨ρ, s, h, d, w, rs, rd, s', e, k⟩ := t
  cases rd with
  | nil => cases e; exact ⟨rfl, k _ rs (.refl σ)⟩
  | cons a b => cases e
theorem vgs_cons (h1 : PG X e (TGV X.K os g)) (h2 : PGs X es (TGVs X.K os' r)) (hs : (assignEach (e :: es) X.env).map (·.2) = assign e X.env :: (assignEach es X.env).map (·.2) := by rfl) : PGs X (e :: es) (TGVs X.K (os ++ os') (gtsCons g r)) :=
  PGs.imp (pgs_cons h1 h2 hs) fun v σ H Q t => by
    obtain ⟨ρ, s, h, d, w, rs, rd, s', e, k⟩ := t
    cases rd with
    | nil => cases e
    | cons a b =>
      unfold gtsCons at e
      dsimp only at e
      split at e
      · rename_i s1 e1
        exact ⟨_, _, rfl, ρ, s, h, _, w, rs, .p a, s1, e1, fun σ1 rs1 o1 => ⟨ρ, s1, h, _, w, rs1, b, s', e, fun σ2 rs2 o2 => k σ2 rs2 (o1.trans o2)⟩⟩
      · cases e
theorem PG.or {t t' : L2.TG} (h : PG X e t) (h' : PG X e t') : PG X e (fun v σ H Q => t v σ H Q ∨ t' v σ H Q) := ⟨fun pins s σ H v u Q I r q => by
  rcases q with q | q
  · exact h.run pins s σ H v u Q I r q
  · exact h'.run pins s σ H v u Q I r q⟩
end
end MV

/-! MVW: what is walked: lists and tuples in any mix, zip and enumerate of them. -/
namespace MV
open PySem PySem.Spec PyProof.Rows L2

/-- a list (true) or a tuple at an address -/
abbrev Src := Bool × Addr
def SrcQ (K : PySem.W.Frag) (H : Hp) (z : Src) (xs : List V) : Prop := match z.1 with
  | true => SqL K H z.2 xs
  | false => SqT K H z.2 xs
def IterAt (h : Heap) (z : Src) (it : Addr) (i : Nat) : Prop := match z.1 with
  | true => h.IsListIter it z.2 i
  | false => h.IsTupleIter it z.2 i
def SrcAt (h : Heap) (z : Src) (items : Array Value) : Prop := match z.1 with
  | true => h.IsList z.2 items
  | false => h.IsTuple z.2 items
def iterO (z : Src) : Obj := match z.1 with
  | true => { cls := .type "list_iterator", data := .fields #[.ref z.2, .int 0 0] }
  | false => { cls := .type "tuple_iterator", data := .fields #[.ref z.2, .int 0 0] }
section
variable {X : Cx} {pins : List (Addr × Obj)} {σ : L2.St} {H : Hp} {s : Shared} {z : Src} {xs ys : List V}
theorem Inv.src (I : Inv X pins σ H s) (h : SrcQ X.K H z xs) : ∃ its : List Value, Vals xs its ∧ SrcAt s.heap z its.toArray ∧ z.2 < s.heap.objs.size := by
  obtain ⟨b, a⟩ := z
  cases b with
  | true =>
    obtain ⟨its, r, p, _⟩ := I.list h
    exact ⟨its, r, p.isList, p.lt⟩
  | false =>
    obtain ⟨its, r, p, _⟩ := I.tuple h
    obtain ⟨o, ho, q⟩ := p
    exact ⟨its, r, ⟨o, ho, q⟩, Heap.lt_size ho⟩
theorem Inv.src_inj (I : Inv X pins σ H s) (h : SrcQ X.K H z xs) (h' : SrcQ X.K H z ys) : xs = ys := by
  obtain ⟨b, a⟩ := z
  cases b with
  | true => exact I.list_inj h h'
  | false => exact I.tuple_inj h h'
end
theorem iterAt_obj {h : Heap} {z : Src} {it : Addr} {i : Nat} (st : IterAt h z it i) : ∃ o, h.get? it = some o ∧ ∀ v, o.data ≠ .cell v := by
  obtain ⟨b, a⟩ := z
  cases b with
  | true => obtain ⟨o, e, _, d⟩ := st; exact ⟨o, e, fun v q => by rw [d] at q; cases q⟩
  | false => obtain ⟨o, e, _, d⟩ := st; exact ⟨o, e, fun v q => by rw [d] at q; cases q⟩
theorem iterAt_at {h h' : Heap} {z : Src} {it : Addr} {i : Nat} (st : IterAt h z it i) (k : ∀ o, h.get? it = some o → h'.get? it = some o) : IterAt h' z it i := by
  obtain ⟨b, a⟩ := z
  cases b with
  | true => exact Heap.IsListIter.at st k
  | false => exact Heap.IsTupleIter.at st k
theorem draws_src {prog : Program} {w : World} {A : Around} (hh : A.handled = none) (it : Addr) (z : Src) (hne : z.2 ≠ it) (items : Array Value) :
    Draws prog w A it [it, z.2] items.size (fun i v => items[i]? = some v) (fun i h => IterAt h z it i ∧ SrcAt h z items) := by
  obtain ⟨b, a⟩ := z
  cases b with
  | true => exact Draws.list hh it a hne items
  | false => exact Draws.tuple hh it a hne items
theorem begins_src (z : Src) (items : Array Value) : Begins (.ref z.2) (iterO z) fun h => SrcAt h z items := by
  obtain ⟨b, a⟩ := z
  cases b with
  | true => exact begins_list a items
  | false => exact begins_tuple a items
theorem iterAt_new {h : Heap} {z : Src} {it : Addr} (e : h.get? it = some (iterO z)) : IterAt h z it 0 := by
  obtain ⟨b, a⟩ := z
  cases b with
  | true => exact ⟨_, e, rfl, rfl⟩
  | false => exact ⟨_, e, rfl, rfl⟩

/-! ### zip -/
def Itz2 (K : PySem.W.Frag) (z1 z2 : Src) : It :=
  ⟨fun i H => ∃ (xs ys : List V) (x y : V), SrcQ K H z1 xs ∧ SrcQ K H z2 ys ∧ xs[i]? = some x ∧ ys[i]? = some y,
    fun i H v H' => ∃ T x y, v = .ref T ∧ H T = none ∧ H' = upd H T (.tup [x, y]) ∧ (∀ xs, SrcQ K H z1 xs → xs[i]? = some x) ∧ ∀ ys, SrcQ K H z2 ys → ys[i]? = some y,
    fun i H => ∃ xs ys : List V, SrcQ K H z1 xs ∧ SrcQ K H z2 ys ∧ i = min xs.length ys.length⟩
structure Ap2 (z TI TO i1 i2 a b : Addr) : Prop where
  sep : ZipSep2 z TI TO i1 i2 [i1, a] [i2, b]
  an : a ≠ i1
  bn : b ≠ i2
theorem turn_zip2 {P : Program} {w : World} {K : PySem.W.Frag} {elts : List Expr} {kk : Nat} {tpos : Pos} {z1 z2 : Src} {z TI TO i1 i2 : Addr} (D : Ap2 z TI TO i1 i2 z1.2 z2.2) :
    Turn P w K (.Tuple elts kk tpos) (Itz2 K z1 z2) [z, TI, TO, i1, i2] z (fun i h => IsZip h z TI TO .none ∧ IsTupOf2 h TI (.ref i1) (.ref i2) ∧ (∃ x y, IsTupOf2 h TO x y) ∧ IterAt h z1 i1 i ∧ IterAt h z2 i2 i) where
  mem := by simp
  obj := fun i h st c hc => by
    obtain ⟨hz, hTI, ⟨x, y, hTO⟩, h1, h2⟩ := st
    have e' : c = z ∨ c = TI ∨ c = TO ∨ c = i1 ∨ c = i2 := by simpa using hc
    rcases e' with q | q | q | q | q
    · rw [q]; exact ⟨_, hz, fun v q => nomatch q⟩
    · rw [q]; exact ⟨_, hTI, fun v q => nomatch q⟩
    · rw [q]; exact ⟨_, hTO, fun v q => nomatch q⟩
    · rw [q]; exact iterAt_obj h1
    · rw [q]; exact iterAt_obj h2
  keep := fun i h h' st k => by
    obtain ⟨hz, hTI, ⟨x, y, hTO⟩, h1, h2⟩ := st
    exact ⟨k z (by simp) _ hz, k TI (by simp) _ hTI, ⟨x, y, k TO (by simp) _ hTO⟩, iterAt_at h1 fun o q => k i1 (by simp) o q, iterAt_at h2 fun o q => k i2 (by simp) o q⟩
  item := by
    intro X hP hw hK hc i pins s σ H E I hf st hg
    subst hP hw hK
    obtain ⟨hz, hTI, hTO, h1, h2⟩ := st
    obtain ⟨xs, ys, x, y, hqx, hqy, hx, hy⟩ := hg
    obtain ⟨its, rv, p, _⟩ := MV.Inv.src I hqx
    obtain ⟨its2, rv2, p2, _⟩ := MV.Inv.src I hqy
    obtain ⟨u, hu, ru⟩ := rv.get hx
    obtain ⟨u2, hu2, ru2⟩ := rv2.get hy
    have hh : X.A.in1.handled = none := I.ok.hd hc
    have W2 := WalksT.zipD2 (prog := X.prog) (w := X.w) (A := X.A) D.sep (draws_src hh i1 z1 D.an its.toArray) (draws_src hh i2 z2 D.bn its2.toArray)
    have l1 : i < its.toArray.size := by simpa using (List.getElem?_eq_some_iff.mp hu).1
    have l2 : i < its2.toArray.size := by simpa using (List.getElem?_eq_some_iff.mp hu2).1
    refine W2.item i s _ _ (by omega) ⟨hz, hTI, hTO, ⟨h1, p⟩, ⟨h2, p2⟩⟩ fun T vals h' tk hP hT hTup mid hk => ?_
    obtain ⟨x1, x2, e1, e2, rfl⟩ := hP
    refine ⟨_, rfl, W2.go elts kk tpos i T { s with heap := h', toks := tk } _ _ mid fun h'' st' hk' => ?_⟩
    have hwr : ∀ c, c ∉ [z, TI, TO, i1, i2] → c ∉ [z, TO, i1, i2] := fun c hc' hm => by
      have e' : c = z ∨ c = TO ∨ c = i1 ∨ c = i2 := by simpa using hm
      exact hc' (by simp; rcases e' with q | q | q | q <;> simp [q])
    have hTw : T ∉ [z, TO, i1, i2] := W2.apart i T h' mid
    obtain ⟨oT, hoT, hcT, nT, hdT⟩ := hTup
    have hT2 : h''.get? T = some oT := hk' T oT hTw hoT
    have ev1 : x1 = u := by simp at e1; rw [hu] at e1; exact (Option.some.inj e1).symm
    have ev2 : x2 = u2 := by simp at e2; rw [hu2] at e2; exact (Option.some.inj e2).symm
    subst ev1 ev2
    have new : ObjOk X.prog X.w (upd H T (.tup [x, y])) h'' T (.tup [x, y]) :=
      ⟨by show 2 ≤ sizeLine; decide, [x1, x2], .cons ru (.cons ru2 .nil), ⟨_, hT2, hcT, nT, hdT⟩⟩
    have I1 : Inv X pins σ (upd H T (.tup [x, y])) { s with heap := h'', toks := tk } :=
      I.turnedNew (ch := [z, TI, TO, i1, i2]) (fun c o hb q => hk' c o (hwr c hb) (hk c o (hwr c hb) q)) hf hT new
    refine ⟨.ref T, _, I1, rfl, ⟨_, x, y, rfl, I.hok.fresh hT, rfl, fun l hl => by rw [MV.Inv.src_inj I hl hqx]; exact hx, fun l hl => by rw [MV.Inv.src_inj I hl hqy]; exact hy⟩, ⟨st'.1, st'.2.1, st'.2.2.1, st'.2.2.2.1.1, st'.2.2.2.2.1⟩, fun c hcm => ?_⟩
    have hlt : c < s.heap.objs.size := by
      have e' : c = z ∨ c = TI ∨ c = TO ∨ c = i1 ∨ c = i2 := by simpa using hcm
      rcases e' with q | q | q | q | q
      · rw [q]; exact Heap.lt_size hz
      · rw [q]; exact Heap.lt_size hTI
      · rw [q]; obtain ⟨_, _, e⟩ := hTO; exact Heap.lt_size e
      · rw [q]; obtain ⟨_, e, _⟩ := iterAt_obj h1; exact Heap.lt_size e
      · rw [q]; obtain ⟨_, e, _⟩ := iterAt_obj h2; exact Heap.lt_size e
    rw [upd_ne (Nat.ne_of_lt (Nat.lt_of_lt_of_le hlt hT))]
    exact (hf c hcm).1
  done := by
    intro X hP hw hK hc i pins s σ H E I hf st hg
    subst hP hw hK
    obtain ⟨hz, hTI, hTO, h1, h2⟩ := st
    obtain ⟨xs, ys, hqx, hqy, hend⟩ := hg
    obtain ⟨its, rv, p, _⟩ := MV.Inv.src I hqx
    obtain ⟨its2, rv2, p2, _⟩ := MV.Inv.src I hqy
    have l1 := rv.length
    have l2 := rv2.length
    have hh : X.A.in1.handled = none := I.ok.hd hc
    have W2 := WalksT.zipD2 (prog := X.prog) (w := X.w) (A := X.A) D.sep (draws_src hh i1 z1 D.an its.toArray) (draws_src hh i2 z2 D.bn its2.toArray)
    have en : i = min its.toArray.size its2.toArray.size := by rw [hend, l1, l2]; simp
    subst en
    refine W2.done s _ _ ⟨hz, hTI, hTO, ⟨h1, p⟩, ⟨h2, p2⟩⟩ fun h' tk hk => ⟨rfl, I.turnedL (t' := tk) (ch := [z, TI, TO, i1, i2]) (fun c o hb q => hk c o (fun hm => hb ?_) q) hf⟩
    have e' : c = z ∨ c = TO ∨ c = i1 ∨ c = i2 := by simpa using hm
    rcases e' with q | q | q | q <;> simp [q]
  self := fun A i s Q E st h => wpAny_pyIter_zip st.1 h

/-! ### enumerate -/
def Ite2 (K : PySem.W.Frag) (z : Src) : It :=
  ⟨fun i H => ∃ (xs : List V) (x : V), SrcQ K H z xs ∧ xs[i]? = some x, fun i H v H' => ∃ T x, v = .ref T ∧ H T = none ∧ H' = upd H T (.tup [.int (i : Nat), x]) ∧ ∀ xs, SrcQ K H z xs → xs[i]? = some x, fun i H => ∃ xs : List V, SrcQ K H z xs ∧ i = xs.length⟩
theorem turn_enum2 {P : Program} {w : World} {K : PySem.W.Frag} {elts : List Expr} {kk : Nat} {tpos : Pos} {z : Src} {e it : Addr} (hei : e ≠ it) (hez : e ≠ z.2) (hiz : z.2 ≠ it) :
    Turn P w K (.Tuple elts kk tpos) (Ite2 K z) [e, it] e (fun i h => (∃ old, IsEnum h e it (0 + (i : Int)) old) ∧ IterAt h z it i) where
  mem := by simp
  obj := fun i h st b hb => by
    obtain ⟨⟨old, he⟩, hi⟩ := st
    have e' : b = e ∨ b = it := by simpa using hb
    rcases e' with q | q
    · rw [q]; exact ⟨_, he, fun v q => nomatch q⟩
    · rw [q]; exact iterAt_obj hi
  keep := fun i h h' st k => by
    obtain ⟨⟨old, he⟩, hi⟩ := st
    exact ⟨⟨old, k e (by simp) _ he⟩, iterAt_at hi fun o q => k it (by simp) o q⟩
  item := by
    intro X hP hw hK hc i pins s σ H E I hf st hg
    subst hP hw hK
    obtain ⟨he, hit⟩ := st
    obtain ⟨xs, x, hq, hx⟩ := hg
    obtain ⟨its, rv, p, _⟩ := MV.Inv.src I hq
    obtain ⟨u, hu, ru⟩ := rv.get hx
    have hh : X.A.in1.handled = none := I.ok.hd hc
    have W2 := WalksT.enumFrom (prog := X.prog) (w := X.w) (A := X.A) 0 (draws_src hh it z hiz its.toArray) e hei (by simp; exact ⟨hei, hez⟩) (by simp)
    have l1 : i < its.toArray.size := by simpa using (List.getElem?_eq_some_iff.mp hu).1
    refine W2.item i s _ _ l1 ⟨he, ⟨hit, p⟩⟩ fun T vals h' tk hP hT hTup mid hk => ?_
    obtain ⟨t, x1, e1, rfl⟩ := hP
    refine ⟨_, rfl, W2.go elts kk tpos i T { s with heap := h', toks := tk } _ _ mid fun h'' st' hk' => ?_⟩
    have hTw : T ∉ [e, it] := W2.apart i T h' mid
    obtain ⟨oT, hoT, hcT, nT, hdT⟩ := hTup
    have hT2 : h''.get? T = some oT := hk' T oT hTw hoT
    have ev1 : x1 = u := by simp at e1; rw [hu] at e1; exact (Option.some.inj e1).symm
    subst ev1
    have new : ObjOk X.prog X.w (upd H T (.tup [.int (i : Nat), x])) h'' T (.tup [.int (i : Nat), x]) :=
      ⟨by show 2 ≤ sizeLine; decide, [.int (0 + (i : Int)) t, x1], .cons ⟨t, by rw [Int.zero_add]⟩ (.cons ru .nil), ⟨_, hT2, hcT, nT, hdT⟩⟩
    have I1 : Inv X pins σ (upd H T (.tup [.int (i : Nat), x])) { s with heap := h'', toks := tk } :=
      I.turnedNew (ch := [e, it]) (fun c o hb q => hk' c o hb (hk c o hb q)) hf hT new
    refine ⟨.ref T, _, I1, rfl, ⟨_, x, rfl, I.hok.fresh hT, rfl, fun l hl => by rw [MV.Inv.src_inj I hl hq]; exact hx⟩, ⟨st'.1, st'.2.1⟩, fun c hcm => ?_⟩
    have hlt : c < s.heap.objs.size := by
      have e' : c = e ∨ c = it := by simpa using hcm
      rcases e' with q | q
      · rw [q]; obtain ⟨_, e⟩ := he; exact Heap.lt_size e
      · rw [q]; obtain ⟨_, e, _⟩ := iterAt_obj hit; exact Heap.lt_size e
    rw [upd_ne (Nat.ne_of_lt (Nat.lt_of_lt_of_le hlt hT))]
    exact (hf c hcm).1
  done := by
    intro X hP hw hK hc i pins s σ H E I hf st hg
    subst hP hw hK
    obtain ⟨he, hit⟩ := st
    obtain ⟨xs, hq, hend⟩ := hg
    obtain ⟨its, rv, p, _⟩ := MV.Inv.src I hq
    have l1 := rv.length
    have hh : X.A.in1.handled = none := I.ok.hd hc
    have W2 := WalksT.enumFrom (prog := X.prog) (w := X.w) (A := X.A) 0 (draws_src hh it z hiz its.toArray) e hei (by simp; exact ⟨hei, hez⟩) (by simp)
    have en : i = its.toArray.size := by rw [hend, l1]; simp
    subst en
    exact W2.done s _ _ ⟨he, ⟨hit, p⟩⟩ fun h' tk hk => ⟨rfl, I.turnedL (t' := tk) (ch := [e, it]) (fun c o hb q => hk c o hb q) hf⟩
  self := fun A i s Q E st h => let ⟨⟨_, he⟩, _⟩ := st; wpAny_pyIter_enum he h

theorem meets_enum1 {v : Value} {o : Obj} {H : Heap → Prop} (B : Begins v o H) :
    Meets (Builtin.«enumerate.__new__» ⟨[.type "enumerate", v], []⟩) (fun _ R s => H s.heap ∧
      R (.ok (.ret (.ref (s.heap.push o).objs.size))) { s with heap := (s.heap.push o).push { cls := .type "enumerate", data := .fields #[.none, .bool false, .ref s.heap.objs.size, rawInt 0, .none, .none] } }) :=
  .of_wp fun prog w A R s h => by
    obtain ⟨hp, g, d, tk, os⟩ := s; obtain ⟨h1, h⟩ := h
    have hsub := sub_enumerate
    have q1 : ∀ {A' : Around} {E : Value → Shared → Prop} {Q : Value → Shared → Prop}, Q (.ref hp.objs.size) ⟨hp.push o, g, d, tk, os⟩ → wpAny (model prog w) A' (pyIter v) Q E ⟨hp, g, d, tk, os⟩ :=
      fun q => B.iter prog w _ _ ⟨hp, g, d, tk, os⟩ _ h1 q
    wp_walk using q1
    refine wpAny_stack_any fun st => wpAny_pure ?_
    split
    · rename_i c _ _ _ _ _
      cases (c == Value.type "enumerate")
      · wp_walk using q1
        exact ⟨_, rfl, h⟩
      · wp_walk using q1
        exact ⟨_, rfl, h⟩
    · wp_walk using q1
      exact ⟨_, rfl, h⟩
theorem enum_begins1 {prog : Program} {w : World} {A : Around} {E : Value → Shared → Prop} {s : Shared} {v : Value} {o : Obj} {H : Heap → Prop} {Q : Value → Shared → Prop} (B : Begins v o H) (h1 : H s.heap)
    (h : ∀ h', IsEnum h' (s.heap.objs.size + 1) s.heap.objs.size 0 .none → h'.get? s.heap.objs.size = some o → (∀ b o, s.heap.get? b = some o → h'.get? b = some o) → Q (.ref (s.heap.objs.size + 1)) { s with heap := h' }) :
    wpAny (model prog w) A (call (.type "enumerate") [v]) Q E s := by
  refine callType_new F.called_enumerate (by decide) (F.typeCall_enumerate_1 _) (F.newCall_enumerate_1 _) (fun obj => F.args_object_init_2 obj _) F.entry_enumerate_new
    (meets_enum1 B) ⟨h1, ?_⟩
  have hz : (s.heap.push o).objs.size = s.heap.objs.size + 1 := Heap.size_push ..
  show _ ∧ _
  rw [hz]
  have he : IsEnum ((s.heap.push o).push { cls := .type "enumerate", data := .fields #[.none, .bool false, .ref s.heap.objs.size, rawInt 0, .none, .none] }) (s.heap.objs.size + 1) s.heap.objs.size 0 .none := by
    have := Heap.get?_push_size (s.heap.push o) (o := { cls := .type "enumerate", data := .fields #[.none, .bool false, .ref s.heap.objs.size, rawInt 0, .none, .none] }) rfl
    rw [hz] at this; exact this
  exact ⟨⟨_, he, rfl⟩, h _ he (Heap.get?_push_of_some _ (Heap.get?_push_size _ B.free)) fun b o x => Heap.get?_push_of_some _ (Heap.get?_push_of_some _ x)⟩

/-! ### the walks of a call -/
section
variable {X : Cx} {tg : Expr} {e e2 : Expr} {ta : TA} {tl : TE} {p pos tpos : Pos} {elts : List Expr} {kk : Nat}
def iSeq (K : PySem.W.Frag) (tl : TE) : TI := fun σ H R => tl σ H fun x H1 => ∃ a xs, x = .ref a ∧ ((SqL K H1 a xs ∧ R (Itl K a) H1) ∨ (SqT K H1 a xs ∧ R (Itt K a) H1))
theorem pi_seq {l : Expr} (hl : PE X l tl) : PI X tg l (iSeq X.K tl) := by
  refine ⟨fun pins s σ H R I h => ?_⟩
  refine thn (hl.run pins s σ H _ I h) fun v s1 ⟨x, H1, I1, r1, q1⟩ => ?_
  obtain ⟨a, xs, ex, q1⟩ := q1
  subst ex
  cases r1
  have fin : ∀ (z : Src) {tn : Nat → Heap → Prop} {J : It}, Turn X.prog X.w X.K tg J [s1.heap.objs.size] s1.heap.objs.size tn → tn 0 (s1.heap.push (iterO z)) → R J H1 → PIE X pins σ tg R (.ref s1.heap.objs.size) { s1 with heap := s1.heap.push (iterO z) } := fun z tn J T st q => by
    refine ⟨s1.heap.objs.size, [s1.heap.objs.size], tn, J, H1, rfl, I1.kept (t' := s1.toks) fun b o e => Heap.get?_push_of_some _ e, T, st, fun b hb => ?_, q⟩
    have eb : b = s1.heap.objs.size := by simpa using hb
    subst eb
    exact I1.fpOk (Nat.le_refl _) (I1.hok.fresh (Nat.le_refl _))
  rcases q1 with ⟨hq, q⟩ | ⟨hq, q⟩
  · obtain ⟨its, rv, p, hz⟩ := I1.list hq
    exact wpAny_pyIter_list p.isList (fin (true, a) (turn_list a _) ⟨_, Heap.get?_push_size _ rfl, rfl, rfl⟩ q)
  · obtain ⟨its, rv, p, hz⟩ := I1.tuple hq
    exact wpAny_pyIter_tuple (show s1.heap.IsTuple a its.toArray from p) (fin (false, a) (turn_tuple a _) ⟨_, Heap.get?_push_size _ rfl, rfl, rfl⟩ q)
def iZip2 (K : PySem.W.Frag) (ta : TA) : TI := fun σ H R => ta σ H fun vs H1 => ∃ (z1 z2 : Src) (xs ys : List V), vs = [.ref z1.2, .ref z2.2] ∧ SrcQ K H1 z1 xs ∧ SrcQ K H1 z2 ys ∧ R (Itz2 K z1 z2) H1
theorem pi_zip2 (hg : Gl X "zip") (hm : X.mg "zip" = none) (ha : PA X [e, e2] ta)
    (hs : starEach [e, e2] X.env = (false, eval e X.env) :: starEach [e2] X.env := by rfl) (hpl : (backTo pos (starEach [e2] X.env)).any (·.1) = false := by rfl) :
    PI X (.Tuple elts kk tpos) (.Call (.Name "zip" p) [e, e2] [] pos) (iZip2 X.K ta) := by
  refine ⟨fun pins s σ H R I h => ?_⟩
  refine Call_ (ld_blt I hg hm PyProof.Rows.boot_zip (PyProof.Rows.callWith_type1 (thn (ha.run pos pins s σ H _ I h) fun us s1 ⟨vs, H1, I1, r1, q1⟩ => ?_) hs hpl))
  obtain ⟨z1, z2, xs, ys, ex, hqx, hqy, q1⟩ := q1
  subst ex
  cases r1 with
  | cons r rr =>
    cases rr with
    | cons r' rr =>
      cases rr
      cases r
      cases r'
      obtain ⟨its, rv, p1, l1⟩ := MV.Inv.src I1 hqx
      obtain ⟨its2, rv2, p2, l2⟩ := MV.Inv.src I1 hqy
      refine zip_begins2 (begins_src z1 its.toArray) (begins_src z2 its2.toArray) p1 p2 fun h' hz hTI hTO h1 h2 hsz hk => wpAny_pyIter_zip hz ?_
      have I2 : Inv X pins σ H1 { s1 with heap := h' } := I1.kept (t' := s1.toks) hk
      have sp : Ap2 (s1.heap.objs.size + 4) (s1.heap.objs.size + 2) (s1.heap.objs.size + 3) s1.heap.objs.size (s1.heap.objs.size + 1) z1.2 z2.2 :=
        ⟨zip_sep2 (N := s1.heap.objs.size) (fp1 := [z1.2]) (fp2 := [z2.2]) (fun b hb => by rw [List.mem_singleton.mp hb]; exact l1) (fun b hb => by rw [List.mem_singleton.mp hb]; exact l2), Nat.ne_of_lt l1, Nat.ne_of_lt (Nat.lt_succ_of_lt l2)⟩
      refine ⟨s1.heap.objs.size + 4, [s1.heap.objs.size + 4, s1.heap.objs.size + 2, s1.heap.objs.size + 3, s1.heap.objs.size, s1.heap.objs.size + 1], _, _, H1, rfl, I2, turn_zip2 sp, ⟨hz, hTI, ⟨_, _, hTO⟩, iterAt_new h1, iterAt_new h2⟩, fun c hcm => ?_, q1⟩
      have e' : c = s1.heap.objs.size + 4 ∨ c = s1.heap.objs.size + 2 ∨ c = s1.heap.objs.size + 3 ∨ c = s1.heap.objs.size ∨ c = s1.heap.objs.size + 1 := by simpa using hcm
      have hle : s1.heap.objs.size ≤ c := by
        rcases e' with z | z | z | z | z
        · rw [z]; exact Nat.le_add_right _ _
        · rw [z]; exact Nat.le_add_right _ _
        · rw [z]; exact Nat.le_add_right _ _
        · rw [z]; exact Nat.le_refl _
        · rw [z]; exact Nat.le_add_right _ _
      exact I1.fpOk hle (I1.hok.fresh hle)
def iEnum2 (K : PySem.W.Frag) (ta : TA) : TI := fun σ H R => ta σ H fun vs H1 => ∃ (z : Src) (xs : List V), vs = [.ref z.2] ∧ SrcQ K H1 z xs ∧ R (Ite2 K z) H1
theorem pi_enum2 (hg : Gl X "enumerate") (hm : X.mg "enumerate" = none) (ha : PA X [e] ta) (hs : starEach [e] X.env = [(false, eval e X.env)] := by rfl) :
    PI X (.Tuple elts kk tpos) (.Call (.Name "enumerate" p) [e] [] pos) (iEnum2 X.K ta) := by
  refine ⟨fun pins s σ H R I h => ?_⟩
  refine Call_ (ld_blt I hg hm boot_enumerate (PyProof.Rows.callWith_type1 (thn (ha.run pos pins s σ H _ I h) fun us s1 ⟨vs, H1, I1, r1, q1⟩ => ?_) hs rfl))
  obtain ⟨z, xs, ex, hq, q⟩ := q1
  subst ex
  cases r1 with
  | cons r rr =>
    cases rr
    cases r
    obtain ⟨its, rv, p1, l1⟩ := MV.Inv.src I1 hq
    refine enum_begins1 (begins_src z its.toArray) p1 fun h' he hit hk => wpAny_pyIter_enum he ?_
    have I2 : Inv X pins σ H1 { s1 with heap := h' } := I1.kept (t' := s1.toks) hk
    refine ⟨s1.heap.objs.size + 1, [s1.heap.objs.size + 1, s1.heap.objs.size], _, _, H1, rfl, I2, turn_enum2 (z := z) (Nat.succ_ne_self _) (Nat.ne_of_gt (Nat.lt_succ_of_lt l1)) (Nat.ne_of_lt l1), ⟨⟨.none, he⟩, iterAt_new hit⟩, fun b hb => ?_, q⟩
    have e' : b = s1.heap.objs.size + 1 ∨ b = s1.heap.objs.size := by simpa using hb
    have hle : s1.heap.objs.size ≤ b := by
      rcases e' with z | z
      · rw [z]; exact Nat.le_add_right _ _
      · rw [z]; exact Nat.le_refl _
    exact I1.fpOk hle (I1.hok.fresh hle)
end
end MV

/-! MV4: targets, walks, for, while, comprehensions. -/
namespace MV
open PySem PySem.Spec PyProof.Rows L2

section
variable {X : Cx} {pos : Pos} {es : List Expr} {r : GTs} {n k : Nat} {os : List Nat}
theorem vg_tup (hc : X.calm = true) (h : PGs X es (TGVs X.K os r)) (hn : (assignEach es X.env).length = n := by rfl) (hst : (assignEach es X.env).findIdx? (·.1) = none := by rfl) : PG X (.Tuple es k pos) (TGV X.K os (gtTup n r)) :=
  PG.imp (PG.or (pg_tup hc h hn hst) (pg_unl hc h hn hst)) fun v σ H Q t => by
    obtain ⟨ρ, s, h, d, w, rs, rd, s', e, k⟩ := t
    cases rd with
    | ob => cases e
    | p rp =>
      cases rp with
      | tup q rl =>
        unfold gtTup at e
        dsimp only at e
        split at e
        · rename_i hl
          exact .inl ⟨_, _, rfl, q.seq, by rw [← rl.len]; exact hl, ρ, s, h, _, w, rs, rl, s', e, k⟩
        · cases e
      | lst q rl =>
        unfold gtTup at e
        dsimp only at e
        split at e
        · rename_i hl
          exact .inr ⟨_, _, rfl, q.seq, by rw [← rl.len]; exact hl, ρ, s, h, _, w, rs, rl, s', e, k⟩
        · cases e
      | _ => cases e
/-- target = e -/
def sAsg (a : FE) (g : GT) : FS := fun s h => (a s h).thenS s fun d h1 => match g d s with
  | some s' => .nx s' h1
  | none => .bad
variable {RX : RXT} {W : WX} {tg e : Expr} {fe : FE} {g : GT} {i : Nat} {x : Str} {pos' : Pos}
theorem vs_asg (he : PE X e (TV X.K RX W fe)) (hg : PG X tg (TGV X.K os g)) (hs : swapsWithSole [tg] e pos.line X.env = pure false := by rfl) (hw : swappedStores [tg] e X.env = pure none := by rfl)
    (h1 : (assignEach [tg] X.env).map (·.2) = [assign tg X.env] := by rfl) : PS X (.Assign [tg] e pos) (TSV X.K RX W (sAsg fe g)) := PS.imp (ps_asg he hg hs hw h1) fun D σ H t => by
  refine (TSV.bind (k := fun s d h1 => match g d s with
    | some s' => .nx s' h1
    | none => .bad) t).mono fun v H1 q => ?_
  obtain ⟨ρ1, s, h1, a, w1, rs, rl, p⟩ := q
  cases e : g a s with
  | none => simp only [e] at p; exact p.elim
  | some s' =>
    simp only [e] at p
    exact ⟨ρ1, s, h1, a, w1, rs, rl, s', e, fun σ' rs' _ => p ρ1 H1 σ' (.refl _ _) w1 rs'⟩
theorem vs_set (i : Nat) {x : Str} {pos' : Pos} (hN : X.N.Nodup) (he : PE X e (TV X.K RX W fe)) (hi : X.N[i]? = some x := by rfl) (hx : Loc X.env.scope x := by first | exact Or.inl rfl | exact Or.inr rfl) (hs : swapsWith e (some (.Name x pos')) pos.line X.env = pure false := by rfl)
    (hf : X.fn x = true ∨ X.env.scope.names.lookup x = some .local := by first | exact .inl rfl | exact .inr rfl) : PS X (.Assign [.Name x pos'] e pos) (TSV X.K RX W (sAsg fe (gtName i))) := PS.imp (ps_set hN hi hx he hs hf) fun D σ H t => by
  refine (TSV.bind (k := fun s d h1 => match gtName i d s with
    | some s' => .nx s' h1
    | none => .bad) t).mono fun v H1 q => ?_
  obtain ⟨ρ1, s, h1, a, w1, rs, rl, p⟩ := q
  exact p ρ1 H1 _ (.refl _ _) w1 (rs.set i rl)
/-- a, b = x, y with plain names (a tuple of both is not made); stored from the right -/
def sPar (i j : Nat) (a : FA) : FS := fun s h => (a s h).thenS s fun ds h1 => match ds with
  | [x, y] => .nx ((s.set i (some x)).set j (some y)) h1
  | _ => .bad
theorem vs_par (i j : Nat) {x y : Str} {a b : Expr} {fa : FA} {px py pt : Pos} {kt k2 : Nat} {pt2 : Pos} (hc : X.calm = true) (hN : X.N.Nodup) (ha : PA X [a, b] (TL X.K RX W fa)) (hi : X.N[i]? = some x := by rfl) (hj : X.N[j]? = some y := by rfl) (hij : i ≠ j := by decide)
    (hx : X.env.scope.names.lookup x = some .local := by rfl) (hy : X.env.scope.names.lookup y = some .local := by rfl)
    (hw : swappedStores [.Tuple [.Name x px, .Name y py] kt pt] (.Tuple [a, b] k2 pt2) X.env = pure (some [x, y]) := by rfl)
    (hs : swapsWithSole [.Tuple [.Name x px, .Name y py] kt pt] (.Tuple [a, b] k2 pt2) pos.line X.env = pure false := by rfl) :
    PS X (.Assign [.Tuple [.Name x px, .Name y py] kt pt] (.Tuple [a, b] k2 pt2) pos) (TSV X.K RX W (sPar i j fa)) := PS.imp (ps_par hc hN hi hj hij hx hy ha hw hs) fun D σ H t => by
  refine (TSV.bind (Rel := RelDs X.K) (k := fun s ds h1 => match ds with
    | [x, y] => .nx ((s.set i (some x)).set j (some y)) h1
    | _ => .bad) t).mono fun v H1 q => ?_
  obtain ⟨ρ1, s, h1, ds, w1, rs, rl, p⟩ := q
  match ds, v, rl with
  | [], _, .nil => exact p.elim
  | [_], _, .cons _ .nil => exact p.elim
  | [x, y], _, .cons ra (.cons rb .nil) => exact ⟨_, _, rfl, p ρ1 H1 _ (.refl _ _) w1 ((rs.set i ra).set j rb)⟩
  | _ :: _ :: _ :: _, _, .cons _ (.cons _ (.cons _ _)) => exact p.elim
end

/-! ### walks -/
/-- it walks these data, whatever has changed meanwhile -/
structure Wk (K : PySem.W.Frag) (ρ : Rho) (H : Hp) (J : It) (l : List P) : Prop where
  go : ∀ ρ' H', Ext ρ H ρ' H' → ∀ i, i < l.length → J.go i H'
  stop : ∀ ρ' H', Ext ρ H ρ' H' → J.stop l.length H'
  yld : ∀ ρ' H' h', Ext ρ H ρ' H' → RelW K ρ' H' h' → ∀ (i : Nat) (x : V) (d : P) (H'' : Hp), l[i]? = some d → J.yld i H' x H'' → Ext ρ' H' ρ' H'' ∧ Same H' H'' ∧ RelP K ρ' H'' d x
abbrev FI := Sg → VH → R (List P)
abbrev RelI (K : PySem.W.Frag) : RelT (List P) It := fun ρ H l J => Wk K ρ H J l
abbrev TIV (K : PySem.W.Frag) (RX : RXT) (W : WX) (f : FI) : TI := TF K RX W (RelI K) f
theorem PI.imp {X : Cx} {tg e : Expr} {t t' : TI} (p : PI X tg e t) (h : ∀ σ H Q, t' σ H Q → t σ H Q) : PI X tg e t' := ⟨fun pins s σ H Q I q => p.run pins s σ H Q I (h σ H Q q)⟩
section
variable {K : PySem.W.Frag} {ρ : Rho} {H : Hp} {h : VH} {l m : List P} {a : Addr} {xs ys : List V}
theorem wk_list (q : SL K ρ H a xs) (r : RelPs K ρ H l xs) : Wk K ρ H (Itl K a) l where
  go := fun ρ' H' e i hi => ⟨xs, xs[i]'(by rw [← r.len]; exact hi), (q.ext e).seq, by simp [r.len ▸ hi]⟩
  stop := fun ρ' H' e => ⟨xs, (q.ext e).seq, by rw [r.len]; exact Nat.le_refl _⟩
  yld := fun ρ' H' h' e w i x d H'' hd y => by
    obtain ⟨e1, y⟩ := y
    subst e1
    obtain ⟨u, hu, ru⟩ := r.get hd
    have := y xs (q.ext e).seq
    rw [hu] at this; cases this
    exact ⟨.refl _ _, .refl _, ru.ext e⟩
theorem wk_tup (q : ST K ρ H a xs) (r : RelPs K ρ H l xs) : Wk K ρ H (Itt K a) l where
  go := fun ρ' H' e i hi => ⟨xs, xs[i]'(by rw [← r.len]; exact hi), (q.ext e).seq, by simp [r.len ▸ hi]⟩
  stop := fun ρ' H' e => ⟨xs, (q.ext e).seq, by rw [r.len]; exact Nat.le_refl _⟩
  yld := fun ρ' H' h' e w i x d H'' hd y => by
    obtain ⟨e1, y⟩ := y
    subst e1
    obtain ⟨u, hu, ru⟩ := r.get hd
    have := y xs (q.ext e).seq
    rw [hu] at this; cases this
    exact ⟨.refl _ _, .refl _, ru.ext e⟩
def rngP (lo : Int) (n : Nat) : List P := (List.range n).map fun (i : Nat) => .int (lo + i)
theorem wk_range (lo : Int) (n : Nat) : Wk K ρ H (Itr lo n) (rngP lo n) where
  go := fun ρ' H' e i hi => by
    have hi' : i < n := by simpa [rngP] using hi
    exact hi'
  stop := fun ρ' H' e => by
    show n ≤ (rngP lo n).length
    simp [rngP]
  yld := fun ρ' H' h' e w i x d H'' hd y => by
    obtain ⟨e1, e2⟩ := y
    subst e1 e2
    simp only [rngP, List.getElem?_map] at hd
    cases q : (List.range n)[i]? with
    | none => rw [q] at hd; cases hd
    | some j =>
      rw [q] at hd
      have ej : i = j := by
        have h1 := (List.getElem?_eq_some_iff.mp q)
        obtain ⟨h2, h3⟩ := h1
        rw [List.getElem_range] at h3
        exact h3
      subst ej
      cases hd
      exact ⟨.refl _ _, .refl _, .int _⟩
def rngStepP (lo c : Int) (n : Nat) : List P := (List.range n).map fun (i : Nat) => .int (lo + (i : Int) * c)
theorem wk_rangeC (lo c : Int) (n : Nat) : Wk K ρ H (Itc lo c n) (rngStepP lo c n) where
  go := fun ρ' H' e i hi => by
    have hi' : i < n := by simpa [rngStepP] using hi
    exact hi'
  stop := fun ρ' H' e => by
    show n ≤ (rngStepP lo c n).length
    simp [rngStepP]
  yld := fun ρ' H' h' e w i x d H'' hd y => by
    obtain ⟨e1, e2⟩ := y
    subst e1 e2
    simp only [rngStepP, List.getElem?_map] at hd
    cases q : (List.range n)[i]? with
    | none => rw [q] at hd; cases hd
    | some j =>
      rw [q] at hd
      have ej : i = j := by
        have h1 := (List.getElem?_eq_some_iff.mp q)
        obtain ⟨h2, h3⟩ := h1
        rw [List.getElem_range] at h3
        exact h3
      subst ej
      cases hd
      exact ⟨.refl _ _, .refl _, .int _⟩
/-- a list or a tuple as data -/
def SQ (K : PySem.W.Frag) (ρ : Rho) (H : Hp) (z : Src) (xs : List V) : Prop := match z.1 with
  | true => SL K ρ H z.2 xs
  | false => ST K ρ H z.2 xs
theorem SQ.ext {ρ' : Rho} {H' : Hp} {z : Src} (e : Ext ρ H ρ' H') (q : SQ K ρ H z xs) : SQ K ρ' H' z xs := by
  obtain ⟨b, a⟩ := z
  cases b with
  | true => exact SL.ext e q
  | false => exact ST.ext e q
theorem SQ.seq {z : Src} (q : SQ K ρ H z xs) : SrcQ K H z xs := by
  obtain ⟨b, a⟩ := z
  cases b with
  | true => exact SL.seq q
  | false => exact ST.seq q
def zipP : List P → List P → List P
  | x :: xs, y :: ys => .tup [x, y] :: zipP xs ys
  | _, _ => []
theorem zipP_len : ∀ (l m : List P), (zipP l m).length = min l.length m.length
  | [], _ => by simp [zipP]
  | _ :: _, [] => by simp [zipP]
  | x :: xs, y :: ys => by simp only [zipP, List.length_cons, zipP_len xs ys]; omega
theorem zipP_get : ∀ (l m : List P) (i : Nat) (d : P), (zipP l m)[i]? = some d → ∃ x y, l[i]? = some x ∧ m[i]? = some y ∧ d = .tup [x, y]
  | [], _, _, _, h => by simp [zipP] at h
  | _ :: _, [], _, _, h => by simp [zipP] at h
  | x :: xs, y :: ys, 0, d, h => by simp [zipP] at h; exact ⟨x, y, rfl, rfl, h.symm⟩
  | x :: xs, y :: ys, i + 1, d, h => by
    simp only [zipP, List.getElem?_cons_succ] at h
    obtain ⟨x', y', h1, h2, h3⟩ := zipP_get xs ys i d h
    exact ⟨x', y', by simpa using h1, by simpa using h2, h3⟩
theorem wk_zip {z1 z2 : Src} (q1 : SQ K ρ H z1 xs) (q2 : SQ K ρ H z2 ys) (r1 : RelPs K ρ H l xs) (r2 : RelPs K ρ H m ys) : Wk K ρ H (Itz2 K z1 z2) (zipP l m) where
  go := fun ρ' H' e i hi => by
    rw [zipP_len] at hi
    have h1 : i < xs.length := by rw [← r1.len]; omega
    have h2 : i < ys.length := by rw [← r2.len]; omega
    exact ⟨xs, ys, xs[i], ys[i], (q1.ext e).seq, (q2.ext e).seq, by simp [h1], by simp [h2]⟩
  stop := fun ρ' H' e => ⟨xs, ys, (q1.ext e).seq, (q2.ext e).seq, by rw [zipP_len, r1.len, r2.len]⟩
  yld := fun ρ' H' h' e w i x d H'' hd y => by
    obtain ⟨T, x1, x2, rfl, nT, rfl, f1, f2⟩ := y
    obtain ⟨y1, y2, h1, h2, rfl⟩ := zipP_get l m i d hd
    obtain ⟨u1, hu1, ru1⟩ := r1.get h1
    obtain ⟨u2, hu2, ru2⟩ := r2.get h2
    have e1 := f1 xs (q1.ext e).seq
    have e2 := f2 ys (q2.ext e).seq
    rw [hu1] at e1; cases e1
    rw [hu2] at e2; cases e2
    refine ⟨.laid nT, same_laid nT, .tup (.inl ⟨.inl upd_same, w.notLive nT⟩) (.cons ((ru1.ext e).ext (.laid nT)) (.cons ((ru2.ext e).ext (.laid nT)) .nil))⟩
def numP (k : Nat) : List P → List P
  | [] => []
  | x :: xs => .tup [.int k, x] :: numP (k + 1) xs
theorem numP_len : ∀ (k : Nat) (l : List P), (numP k l).length = l.length
  | _, [] => rfl
  | k, x :: xs => by simp only [numP, List.length_cons, numP_len (k + 1) xs]
theorem numP_get : ∀ (k : Nat) (l : List P) (i : Nat) (d : P), (numP k l)[i]? = some d → ∃ x, l[i]? = some x ∧ d = .tup [.int ((k + i : Nat) : Int), x]
  | _, [], _, _, h => by simp [numP] at h
  | k, x :: xs, 0, d, h => by simp [numP] at h; exact ⟨x, rfl, h.symm⟩
  | k, x :: xs, i + 1, d, h => by
    simp only [numP, List.getElem?_cons_succ] at h
    obtain ⟨x', h1, h2⟩ := numP_get (k + 1) xs i d h
    exact ⟨x', by simpa using h1, by rw [h2]; congr 4; omega⟩
theorem wk_enum {z : Src} (q : SQ K ρ H z xs) (r : RelPs K ρ H l xs) : Wk K ρ H (Ite2 K z) (numP 0 l) where
  go := fun ρ' H' e i hi => by
    rw [numP_len] at hi
    have h1 : i < xs.length := by rw [← r.len]; omega
    exact ⟨xs, xs[i], (q.ext e).seq, by simp [h1]⟩
  stop := fun ρ' H' e => ⟨xs, (q.ext e).seq, by rw [numP_len, r.len]⟩
  yld := fun ρ' H' h' e w i x d H'' hd y => by
    obtain ⟨T, x1, rfl, nT, rfl, f1⟩ := y
    obtain ⟨y1, h1, rfl⟩ := numP_get 0 l i d hd
    obtain ⟨u1, hu1, ru1⟩ := r.get h1
    have e1 := f1 xs (q.ext e).seq
    rw [hu1] at e1; cases e1
    refine ⟨.laid nT, same_laid nT, .tup (.inl ⟨.inl upd_same, w.notLive nT⟩) ?_⟩
    rw [Nat.zero_add]
    exact .cons (.int _) (.cons ((ru1.ext e).ext (.laid nT)) .nil)
end
/-- the items of a list or a tuple -/
def itemsP (d : D) : Option (List P) := match d with
  | .p (.lst l) => some l
  | .p (.tup l) => some l
  | _ => none
def fSeq (a : FE) : FI := fun s h => (a s h).bind fun d h1 => match itemsP d with
  | some l => .ok l h1
  | none => .bad
def inR (i : Int) : Bool := decide (i.natAbs < 4611686018427387904)
def fRange1 (a : FA) : FI := fun s h => (a s h).bind fun ds h1 => match ds with
  | [.p (.int j)] => if inR j then .ok (rngP 0 j.toNat) h1 else .bad
  | _ => .bad
def fRange2 (a : FA) : FI := fun s h => (a s h).bind fun ds h1 => match ds with
  | [.p (.int i), .p (.int j)] => if inR i && inR j then .ok (rngP i (j - i).toNat) h1 else .bad
  | _ => .bad
def fZip (a : FA) : FI := fun s h => (a s h).bind fun ds h1 => match ds with
  | [x, y] => match itemsP x, itemsP y with
    | some l, some m => .ok (zipP l m) h1
    | _, _ => .bad
  | _ => .bad
def fEnum (a : FA) : FI := fun s h => (a s h).bind fun ds h1 => match ds with
  | [x] => match itemsP x with
    | some l => .ok (numP 0 l) h1
    | none => .bad
  | _ => .bad
theorem inR_ok {i : Int} (h : inR i = true) : -(2 ^ 62) ≤ i ∧ i < 2 ^ 62 := by
  unfold inR at h
  rw [decide_eq_true_eq] at h
  omega
theorem inR_of {i : Int} (h : -1000000000 ≤ i ∧ i ≤ 1000000000) : inR i = true := by
  unfold inR
  rw [decide_eq_true_eq]
  omega
section
variable {X : Cx} {RX : RXT} {W : WX} {tg e e2 : Expr} {es : List Expr} {fe : FE} {fa : FA} {pos p tpos : Pos} {elts : List Expr} {kk : Nat}
theorem itemsP_ok {K : PySem.W.Frag} {ρ : Rho} {H : Hp} {d : D} {v : V} {l : List P} (r : RelD K ρ H d v) (e : itemsP d = some l) : ∃ (z : Src) (xs : List V), v = .ref z.2 ∧ SQ K ρ H z xs ∧ RelPs K ρ H l xs := by
  cases r with
  | ob => cases e
  | p r =>
    cases r with
    | tup q r => cases e; exact ⟨(false, _), _, rfl, q, r⟩
    | lst q r => cases e; exact ⟨(true, _), _, rfl, q, r⟩
    | _ => cases e
theorem vi_seq (ha : PE X e (TV X.K RX W fe)) : PI X tg e (TIV X.K RX W (fSeq fe)) := PI.imp (pi_seq ha) fun σ H Q t => by
  refine (TF.bind (Rel := RelD X.K) (k := fun s d h1 => match itemsP d with
    | some l => .ok l h1
    | none => .bad) t).mono fun v H1 q => ?_
  obtain ⟨ρ1, s, h1, d, w1, rs, rl, p⟩ := q
  cases e : itemsP d with
  | none => simp only [e] at p; exact p.elim
  | some l =>
    simp only [e] at p
    obtain ⟨⟨b, a⟩, xs, ev, q, r⟩ := itemsP_ok rl e
    refine ⟨a, xs, ev, ?_⟩
    cases b with
    | true => exact .inl ⟨SL.seq q, Post.ok w1 (wk_list q r) p⟩
    | false => exact .inr ⟨ST.seq q, Post.ok w1 (wk_tup q r) p⟩
theorem vi_range1 {a : Expr} (hg : Gl X "range") (hm : X.mg "range" = none) (ha : PA X [a] (TL X.K RX W fa)) (hs : starEach [a] X.env = [(false, eval a X.env)] := by rfl) : PI X tg (.Call (.Name "range" p) [a] [] pos) (TIV X.K RX W (fRange1 fa)) :=
  PI.imp (pi_range1 hg hm ha hs) fun σ H Q t => by
    refine (TF.bind (Rel := RelDs X.K) (k := fun s ds h1 => match ds with
      | [.p (.int j)] => if inR j then .ok (rngP 0 j.toNat) h1 else .bad
      | _ => .bad) t).mono fun v H1 q => ?_
    obtain ⟨ρ1, s, h1, ds, w1, rs, rl, p⟩ := q
    split at p
    · rename_i j
      split at p
      · rename_i hj
        obtain ⟨b1, b2⟩ := inR_ok hj
        cases rl with
        | cons ra rr =>
          cases rr
          cases ra with
          | p ra =>
            cases ra
            exact ⟨j, rfl, b1, b2, Post.ok w1 (wk_range 0 _) p⟩
      · exact p.elim
    · exact p.elim
theorem vi_range2 {a b : Expr} (hg : Gl X "range") (hm : X.mg "range" = none) (ha : PA X [a, b] (TL X.K RX W fa)) (hs : starEach [a, b] X.env = [(false, eval a X.env), (false, eval b X.env)] := by rfl) (hs2 : starEach [b] X.env = [(false, eval b X.env)] := by rfl) :
    PI X tg (.Call (.Name "range" p) [a, b] [] pos) (TIV X.K RX W (fRange2 fa)) :=
  PI.imp (pi_range2 hg hm ha hs hs2) fun σ H Q t => by
    refine (TF.bind (Rel := RelDs X.K) (k := fun s ds h1 => match ds with
      | [.p (.int i), .p (.int j)] => if inR i && inR j then .ok (rngP i (j - i).toNat) h1 else .bad
      | _ => .bad) t).mono fun v H1 q => ?_
    obtain ⟨ρ1, s, h1, ds, w1, rs, rl, p⟩ := q
    split at p
    · rename_i i j
      split at p
      · rename_i hj
        rw [Bool.and_eq_true] at hj
        obtain ⟨b1, b2⟩ := inR_ok hj.1
        obtain ⟨b3, b4⟩ := inR_ok hj.2
        cases rl with
        | cons ra rr =>
          cases rr with
          | cons rb rr =>
            cases rr
            cases ra with
            | p ra =>
              cases rb with
              | p rb =>
                cases ra
                cases rb
                exact ⟨i, j, rfl, ⟨b1, b2, b3, b4⟩, Post.ok w1 (wk_range i _) p⟩
      · exact p.elim
    · exact p.elim
theorem vi_zip (hg : Gl X "zip") (hm : X.mg "zip" = none) (ha : PA X [e, e2] (TL X.K RX W fa))
    (hs : starEach [e, e2] X.env = (false, eval e X.env) :: starEach [e2] X.env := by rfl) (hpl : (backTo pos (starEach [e2] X.env)).any (·.1) = false := by rfl) :
    PI X (.Tuple elts kk tpos) (.Call (.Name "zip" p) [e, e2] [] pos) (TIV X.K RX W (fZip fa)) :=
  PI.imp (pi_zip2 hg hm ha hs hpl) fun σ H Q t => by
    refine (TF.bind (Rel := RelDs X.K) (k := fun s ds h1 => match ds with
      | [x, y] => match itemsP x, itemsP y with
        | some l, some m => .ok (zipP l m) h1
        | _, _ => .bad
      | _ => .bad) t).mono fun v H1 q => ?_
    obtain ⟨ρ1, s, h1, ds, w1, rs, rl, p⟩ := q
    split at p
    · split at p
      · rename_i e1 e2
        cases rl with
        | cons ra rr =>
          cases rr with
          | cons rb rr =>
            cases rr
            obtain ⟨z1, xs, ev1, q1, r1⟩ := itemsP_ok ra e1
            obtain ⟨z2, ys, ev2, q2, r2⟩ := itemsP_ok rb e2
            exact ⟨z1, z2, xs, ys, by rw [ev1, ev2], q1.seq, q2.seq, Post.ok w1 (wk_zip q1 q2 r1 r2) p⟩
      · exact p.elim
    · exact p.elim
theorem vi_enum (hg : Gl X "enumerate") (hm : X.mg "enumerate" = none) (ha : PA X [e] (TL X.K RX W fa)) (hs : starEach [e] X.env = [(false, eval e X.env)] := by rfl) :
    PI X (.Tuple elts kk tpos) (.Call (.Name "enumerate" p) [e] [] pos) (TIV X.K RX W (fEnum fa)) :=
  PI.imp (pi_enum2 hg hm ha hs) fun σ H Q t => by
    refine (TF.bind (Rel := RelDs X.K) (k := fun s ds h1 => match ds with
      | [x] => match itemsP x with
        | some l => .ok (numP 0 l) h1
        | none => .bad
      | _ => .bad) t).mono fun v H1 q => ?_
    obtain ⟨ρ1, s, h1, ds, w1, rs, rl, p⟩ := q
    split at p
    · split at p
      · rename_i e1
        cases rl with
        | cons ra rr =>
          cases rr
          obtain ⟨z1, xs, ev1, q1, r1⟩ := itemsP_ok ra e1
          exact ⟨z1, xs, by rw [ev1], q1.seq, Post.ok w1 (wk_enum q1 r1) p⟩
      · exact p.elim
    · exact p.elim
end

/-! ### for -/
/-- the turns, one by one -/
def forL (g : GT) (b : FS) : List P → Sg → VH → O
  | [], s, h => .nx s h
  | x :: xs, s, h => match g (.p x) s with
    | none => .bad
    | some s1 => match b s1 h with
      | .nx s2 h2 => forL g b xs s2 h2
      | .ct s2 h2 => forL g b xs s2 h2
      | .bk s2 h2 => .nx s2 h2
      | o => o
def sFor (i : FI) (g : GT) (b : FS) : FS := fun s h => (i s h).thenS s fun l h1 => forL g b l s h1
section
variable {X : Cx} {RX : RXT} {W : WX} {tg iter : Expr} {body : List Stmt} {fi : FI} {g : GT} {fb : FS} {pos : Pos} {os : List Nat}
theorem vs_for (hp : PassesOwn (model X.prog X.w) X.A X.env X.xe) (hc : X.calm = true) (hi : PI X tg iter (TIV X.K RX W fi)) (hg : PG X tg (TGV X.K os g)) (hb : PSs X body (TSV X.K RX W fb))
    (hs : ∀ x, foldedSetIterable iter X.env x = pure x := by intro _; rfl) : PS X (.For tg iter body [] pos) (TSV X.K RX W (sFor fi g fb)) := PS.imp (ps_for hp hc hi hg hb hs) fun D σ H t => by
  refine (TSV.bind (Rel := RelI X.K) (k := fun s l h1 => forL g fb l s h1) t).mono fun J H1 q => ?_
  obtain ⟨ρ1, s, h1, l, w1, rs, wk, p⟩ := q
  refine ⟨fun i m σ' H' => i + m = l.length ∧ ∃ ρ' s' h', Ext ρ1 H1 ρ' H' ∧ RelW X.K ρ' H' h' ∧ RelS X.K ρ' H' s' σ' ∧ PostS X.K RX W ρ' H' (forL g fb (l.drop i) s' h') D, ⟨l.length, by omega, ρ1, s, h1, .refl _ _, w1, rs, by simpa using p⟩, ?_⟩
  rintro i m σ2 H2 ⟨em, ρ2, s2, h2, e2, w2, rs2, p2⟩
  by_cases hi : i < l.length
  · refine .inr ⟨wk.go ρ2 H2 e2 i hi, fun σ' H' => ∃ ρ' s' h', Ext ρ1 H1 ρ' H' ∧ RelW X.K ρ' H' h' ∧ RelS X.K ρ' H' s' σ' ∧ PostS X.K RX W ρ' H' (forL g fb (l.drop (i + 1)) s' h') D, fun σ' H' n => ⟨m - 1, by omega, by omega, n⟩, fun x H3 y => ?_⟩
    obtain ⟨e3, sm3, rx⟩ := wk.yld ρ2 H2 h2 e2 w2 i x l[i] H3 (by simp [hi]) y
    have w3 := w2.same sm3 e3
    rw [List.drop_eq_getElem_cons hi] at p2
    unfold forL at p2
    cases eg : g (.p l[i]) s2 with
    | none => simp only [eg] at p2; exact p2.elim
    | some s3 =>
      simp only [eg] at p2
      refine ⟨ρ2, s2, h2, _, w3, rs2.ext e3, .p rx, s3, eg, fun σ4 rs4 _ => ⟨ρ2, s3, h2, w3, rs4, ?_⟩⟩
      have p3 := PostS.ext e3 p2
      cases eb : fb s3 h2 with
      | nx s5 h5 =>
        simp only [eb] at p3
        exact fun ρ6 H6 σ6 e6 w6 rs6 => ⟨ρ6, s5, h5, (e2.trans e3).trans e6, w6, rs6, PostS.ext e6 p3⟩
      | ct s5 h5 =>
        simp only [eb] at p3
        exact fun ρ6 H6 σ6 e6 w6 rs6 => ⟨ρ6, s5, h5, (e2.trans e3).trans e6, w6, rs6, PostS.ext e6 p3⟩
      | bk s5 h5 => simp only [eb] at p3; exact p3
      | rt d h5 => simp only [eb] at p3; exact p3
      | ex x s5 h5 => simp only [eb] at p3; exact p3
      | bad => simp only [eb] at p3; exact p3
  · have ei : i = l.length := by omega
    subst ei
    rw [List.drop_length] at p2
    exact .inl ⟨wk.stop ρ2 H2 e2, p2 ρ2 H2 σ2 (.refl _ _) w2 rs2⟩

/-! ### while: so many turns at most -/
def whileL (c : FB) (b : FS) : Nat → Sg → VH → O
  | 0, _, _ => .bad
  | n + 1, s, h => (c s h).thenS s fun k h1 => match k with
    | false => .nx s h1
    | true => match b s h1 with
      | .nx s2 h2 => whileL c b n s2 h2
      | .ct s2 h2 => whileL c b n s2 h2
      | .bk s2 h2 => .nx s2 h2
      | o => o
/-- a while whose turns are counted down from a number that the state tells -/
def sWhile (N : Sg → VH → Nat) (c : FB) (b : FS) : FS := fun s h => whileL c b (N s h) s h
theorem vs_while {c : Expr} {fc : FB} (N : Sg → VH → Nat) (hp : PassesOwn (model X.prog X.w) X.A X.env X.xe) (hc : PT X c (TB X.K RX W fc)) (hb : PSs X body (TSV X.K RX W fb)) : PS X (.While c body [] pos) (TSV X.K RX W (sWhile N fc fb)) := PS.imp (ps_while hp hc hb) fun D σ H t => by
  obtain ⟨ρ0, s0, h0, w0, rs0, p0⟩ := t
  refine ⟨fun m σ' H' => ∃ ρ' s' h', RelW X.K ρ' H' h' ∧ RelS X.K ρ' H' s' σ' ∧ PostS X.K RX W ρ' H' (whileL fc fb m s' h') D, ⟨_, ρ0, s0, h0, w0, rs0, p0⟩, ?_⟩
  rintro m σ2 H2 ⟨ρ2, s2, h2, w2, rs2, p2⟩
  cases m with
  | zero => exact p2.elim
  | succ m =>
    refine ⟨ρ2, s2, h2, w2, rs2, (PostS.bind (Rel := RelB) rs2 p2).imp (fun k H3 q => ?_) fun _ _ _ q => q⟩
    obtain ⟨ρ3, h3, k', e3, w3, rfl, p3⟩ := q
    cases k' with
    | false => exact iteF (p3 ρ3 H3 σ2 (.refl _ _) w3 (rs2.ext e3))
    | true =>
      refine iteT ⟨fun σ' H' => ∃ ρ' s' h', RelW X.K ρ' H' h' ∧ RelS X.K ρ' H' s' σ' ∧ PostS X.K RX W ρ' H' (whileL fc fb m s' h') D, fun σ' H' n => ⟨m, Nat.lt_succ_self _, n⟩, ρ3, s2, h3, w3, rs2.ext e3, ?_⟩
      cases eb : fb s2 h3 with
      | nx s5 h5 =>
        simp only [eb] at p3
        exact fun ρ6 H6 σ6 e6 w6 rs6 => ⟨ρ6, s5, h5, w6, rs6, PostS.ext e6 p3⟩
      | ct s5 h5 =>
        simp only [eb] at p3
        exact fun ρ6 H6 σ6 e6 w6 rs6 => ⟨ρ6, s5, h5, w6, rs6, PostS.ext e6 p3⟩
      | bk s5 h5 => simp only [eb] at p3; exact p3
      | rt d h5 => simp only [eb] at p3; exact p3
      | ex x s5 h5 => simp only [eb] at p3; exact p3
      | bad => simp only [eb] at p3; exact p3
end
end MV

/-! MV5: comprehensions. -/
namespace MV
open PySem PySem.Spec PyProof.Rows L2

/-! ### forgetting the newest mutable objects -/
section
variable {K : PySem.W.Frag} {ρ ρ' : Rho} {H H' : Hp} {h : VH} {n : Nat}
theorem take_get {a : Addr} {m : Nat} (h : (ρ.take n)[m]? = some (some a)) : ρ[m]? = some (some a) ∧ m < n := by
  by_cases hm : m < n
  · rw [List.getElem?_take_of_lt hm] at h; exact ⟨h, hm⟩
  · rw [List.getElem?_eq_none (by rw [List.length_take]; omega)] at h; cases h
theorem live_take {a : Addr} (l : Live (ρ.take n) a) : Live ρ a := let ⟨m, hm⟩ := l; ⟨m, (take_get hm).1⟩
theorem SL.less {a : Addr} {xs : List V} (q : SL K ρ H a xs) : SL K (ρ.take n) H a xs := by
  rcases q with ⟨q, nl⟩ | q
  · exact .inl ⟨q, fun l => nl (live_take l)⟩
  · exact .inr q
theorem ST.less {a : Addr} {xs : List V} (q : ST K ρ H a xs) : ST K (ρ.take n) H a xs := by
  rcases q with ⟨q, nl⟩ | q
  · exact .inl ⟨q, fun l => nl (live_take l)⟩
  · exact .inr q
mutual
theorem RelP.less : ∀ {d : P} {v : V}, RelP K ρ H d v → RelP K (ρ.take n) H d v
  | _, _, .non => .non
  | _, _, .bl b => .bl b
  | _, _, .int i => .int i
  | _, _, .str s => .str s
  | _, _, .fn a => .fn a
  | _, _, .rep a => .rep a
  | _, _, .dct q n r => .dct q (fun l => n (live_take l)) (RelKV.less r)
  | _, _, .tup q r => .tup q.less (RelPs.less r)
  | _, _, .lst q r => .lst q.less (RelPs.less r)
theorem RelPs.less : ∀ {d : List P} {v : List V}, RelPs K ρ H d v → RelPs K (ρ.take n) H d v
  | _, _, .nil => .nil
  | _, _, .cons a b => .cons (RelP.less a) (RelPs.less b)
theorem RelKV.less : ∀ {d : List (Key × P)} {v : List (Key × V)}, RelKV K ρ H d v → RelKV K (ρ.take n) H d v
  | _, _, .nil => .nil
  | _, _, .cons a b => .cons (RelP.less a) (RelKV.less b)
end
theorem RelVO.less {a : Addr} {o : VO} (h : RelVO K ρ H a o) : RelVO K (ρ.take n) H a o := by
  cases o with
  | dead => trivial
  | lst l => obtain ⟨xs, h1, h2⟩ := h; exact ⟨xs, h1, h2.less⟩
  | dK kvs => obtain ⟨xs, h1, h2⟩ := h; exact ⟨xs, h1, RelKV.less h2⟩
  | tab p q =>
    obtain ⟨h0, ps, h1, h2, h3⟩ := h
    refine ⟨h0, ps, h1, h2, fun pos cv hc => ?_⟩
    obtain ⟨c, e1, e2, e3⟩ := h3 pos cv hc
    exact ⟨c, e1, e2, fun ⟨i, hi⟩ => e3 ⟨i, (take_get hi).1⟩⟩
theorem RelW.take (w : RelW K ρ H h) (n : Nat) : RelW K (ρ.take n) H (h.take n) where
  len := by rw [List.length_take, List.length_take, w.len]
  inj := fun i j a hi hj => w.inj i j a (take_get hi).1 (take_get hj).1
  at_ := fun i o ho => by
    by_cases hi : i < n
    · rw [List.getElem?_take_of_lt hi] at ho
      rcases w.at_ i o ho with h1 | ⟨a, h1, h2⟩
      · exact .inl h1
      · exact .inr ⟨a, by rw [List.getElem?_take_of_lt hi]; exact h1, h2.less⟩
    · rw [List.getElem?_eq_none (by rw [List.length_take]; omega)] at ho; cases ho
  live := fun i a hi => w.live i a (take_get hi).1
theorem Ext.take (e : Ext ρ H ρ' H') (hn : ρ.length ≤ n) : Ext ρ H (ρ'.take n) H' where
  len := by have := e.len; rw [List.length_take]; omega
  old := fun i a hi h => e.old i a hi (take_get h).1
  new := fun i a hi h => e.new i a hi (take_get h).1
  keep := e.keep
  there := e.there
end

/-! ### a comprehension -/
def wipeS (s : Sg) : List Nat → Sg
  | [] => s
  | v :: vs => (wipeS s vs).set v none
theorem RelS.unset {K : PySem.W.Frag} {ρ : Rho} {H : Hp} : ∀ {s : Sg} {σ : L2.St} (i : Nat) (o : Option V), RelS K ρ H s σ → RelS K ρ H (s.set i none) (σ.set i o)
  | _, _, _, _, .nil => by simp; exact .nil
  | _, _, 0, o, .cons a b => by simp; exact .cons (by trivial) b
  | _, _, i + 1, o, .cons a b => by simp; exact .cons a (RelS.unset i o b)
theorem RelS.wiped {K : PySem.W.Frag} {ρ : Rho} {H : Hp} {s : Sg} {σ : L2.St} (r : RelS K ρ H s σ) : ∀ vs : List Nat, RelS K ρ H (wipeS s vs) (wipe σ vs)
  | [] => r
  | v :: vs => (RelS.wiped r vs).unset v none
theorem wipe_get (σ : L2.St) : ∀ (vs : List Nat) (j : Nat), (wipe σ vs)[j]? = if j ∈ vs then (if j < σ.length then some none else none) else σ[j]?
  | [], j => by simp [wipe]
  | v :: vs, j => by
    unfold wipe
    by_cases e : v = j
    · subst e
      by_cases hl : v < σ.length
      · rw [List.getElem?_set_self (by rw [wipe_length]; exact hl)]
        simp [hl]
      · rw [List.getElem?_eq_none (by rw [List.length_set, wipe_length]; omega)]
        simp [hl]
    · rw [List.getElem?_set_ne e, wipe_get σ vs j]
      by_cases h2 : j ∈ vs
      · simp [h2]
      · have h3 : j ∉ v :: vs := by
          intro hm
          rcases List.mem_cons.mp hm with q | q
          · exact e q.symm
          · exact h2 q
        rw [if_neg h2, if_neg h3]
theorem wipe_only {os vs : List Nat} {σ σ' : L2.St} (h : OnlyAt os (wipe σ vs) σ') (hs : ∀ j ∈ os, j ∈ vs) : wipe σ' vs = wipe σ vs := by
  refine List.ext_getElem? fun j => ?_
  have hl : σ'.length = σ.length := by rw [h.1, wipe_length]
  rw [wipe_get, wipe_get, hl]
  by_cases hj : j ∈ vs
  · rw [if_pos hj, if_pos hj]
  · rw [if_neg hj, if_neg hj, h.2 j (fun q => hj (hs j q)), wipe_get, if_neg hj]

def lcL (g : GT) (t : FB) (e : FE) (own : List Nat) (n : Nat) : List P → Sg → VH → Option VH
  | [], _, h => some h
  | x :: xs, s, h => match g (.p x) (wipeS s own) with
    | none => none
    | some s1 => match t s1 h with
      | .ok false h1 => lcL g t e own n xs s h1
      | .ok true h1 => match e s1 h1 with
        | .ok (.p y) h2 => match h2[n]? with
          | some (.lst acc) => if acc.length < sizeLine then lcL g t e own n xs s (h2.set n (.lst (acc ++ [y]))) else none
          | _ => none
        | _ => none
      | _ => none
/-- its end: the list is data, what was made meanwhile is forgotten -/
def lcEnd (n : Nat) (r : Option VH) : R D := match r with
  | some h => match h[n]? with
    | some (.lst acc) => .ok (.p (.lst acc)) (h.take n)
    | _ => .bad
  | none => .bad
def fLc (i : FI) (g : GT) (t : FB) (e : FE) (own : List Nat) : FE := fun s h => (i s h).bind fun l h1 => lcEnd h1.length (lcL g t e own h1.length l s (h1 ++ [.lst []]))
def bYes : FB := fun _ h => .ok true h
abbrev W0 : WX := fun _ _ _ _ => False
section
variable {X : Cx} {RX : RXT} {W : WX}
abbrev TBs (K : PySem.W.Frag) (RX : RXT) (f : FB) : TT := TB K RX W0 f
theorem vts_nil : PTs X [] (TB X.K RX W0 bYes) := ⟨fun pins s σ H Q I hw => pts_nil.run pins s σ H Q I (by
  obtain ⟨ρ, s, h, w, rs, p⟩ := hw
  exact Post.ok w rfl p)⟩
theorem vts_one {c : Expr} {f : FB} (h : PT X c (TB X.K RX W0 f)) : PTs X [c] (TB X.K RX W0 f) := pts_one h
theorem tLc_core {K : PySem.W.Frag} {g : GT} {t : FB} {e : FE} {own os : List Nat} (hos : ∀ j ∈ os, j ∈ own) {σ : L2.St} {H1 : Hp} {ρ1 : Rho} {s : Sg} {h1 : VH} {l : List P} {J : It} {Q : VK} (w1 : RelW K ρ1 H1 h1) (rs : RelS K ρ1 H1 s σ) (wk : Wk K ρ1 H1 J l)
    (p : Post K RX (RelD K) ρ1 H1 (lcEnd h1.length (lcL g t e own h1.length l s (h1 ++ [.lst []]))) Q (fun c d H' => W c d σ H')) :
    ∀ D, H1 D = none → ∃ W : Nat → Nat → Hp → Prop, (∃ m, W 0 m (upd H1 D (.lst []))) ∧ ∀ i m H, W i m H →
      (J.stop i H ∧ Q (.ref D) H) ∨ (J.go i H ∧ ∃ Nx : Hp → Prop, (∀ H', Nx H' → ∃ m', m' < m ∧ W (i + 1) m' H') ∧ ∀ x H', J.yld i H x H' → TGV K os g x (wipe σ own) H' fun σ2 H2 => wipe σ2 own = wipe σ own ∧ TB K RX W0 t σ2 H2 fun b H3 =>
        if b = true then TV K RX W0 e σ2 H3 fun y H4 => ∃ acc, H4 D = some (.lst acc) ∧ acc.length < sizeLine ∧ Nx (upd H4 D (.lst (acc ++ [y]))) else Nx H3) := by
  intro D nD
  have e0 : Ext ρ1 H1 (ρ1 ++ [some D]) (upd H1 D (.lst [])) := .fresh nD
  have w0 : RelW K (ρ1 ++ [some D]) (upd H1 D (.lst [])) (h1 ++ [.lst []]) := w1.fresh nD ⟨[], upd_same, .nil⟩
  -- the list under way: its address, what stands in it
  have atD : ∀ {ρ' : Rho} {H' : Hp} {h' : VH} {acc : List P}, Ext (ρ1 ++ [some D]) (upd H1 D (.lst [])) ρ' H' → RelW K ρ' H' h' → h'[h1.length]? = some (.lst acc) → ρ'[h1.length]? = some (some D) ∧ ∃ xs, H' D = some (.lst xs) ∧ RelPs K ρ' H' acc xs := fun {ρ' H' h' acc} ee ww hh => by
    rcases ww.at_ _ _ hh with z | ⟨a, h2, h3⟩
    · cases z
    · have hlen : h1.length < (ρ1 ++ [some D]).length := by rw [List.length_append, w1.len]; simp
      have h4 := ee.old _ a hlen h2
      rw [← w1.len, List.getElem?_append_right (Nat.le_refl _)] at h4
      have ea : a = D := by simpa using h4.symm
      subst ea
      exact ⟨h2, h3⟩
  refine ⟨fun k m H' => k + m = l.length ∧ ∃ ρ' h', Ext (ρ1 ++ [some D]) (upd H1 D (.lst [])) ρ' H' ∧ RelW K ρ' H' h' ∧ Post K RX (RelD K) ρ1 H1 (lcEnd h1.length (lcL g t e own h1.length (l.drop k) s h')) Q (fun c d H' => W c d σ H'),
    ⟨l.length, by omega, _, _, .refl _ _, w0, by simpa using p⟩, ?_⟩
  rintro k m H2 ⟨em, ρ2, h2, e2, w2, p2⟩
  have e12 : Ext ρ1 H1 ρ2 H2 := e0.trans e2
  by_cases hk : k < l.length
  · refine .inr ⟨wk.go ρ2 H2 e12 k hk, fun H' => ∃ ρ' h', Ext (ρ1 ++ [some D]) (upd H1 D (.lst [])) ρ' H' ∧ RelW K ρ' H' h' ∧ Post K RX (RelD K) ρ1 H1 (lcEnd h1.length (lcL g t e own h1.length (l.drop (k + 1)) s h')) Q (fun c d H' => W c d σ H'),
      fun H' n => ⟨m - 1, by omega, by omega, n⟩, fun x H3 y => ?_⟩
    obtain ⟨e3, sm3, rx⟩ := wk.yld ρ2 H2 h2 e12 w2 k x l[k] H3 (by simp [hk]) y
    have w3 := w2.same sm3 e3
    have e23 := e2.trans e3
    rw [List.drop_eq_getElem_cons hk] at p2
    unfold lcL at p2
    cases eg : g (.p l[k]) (wipeS s own) with
    | none => simp only [eg] at p2; exact p2.elim
    | some s3 =>
      simp only [eg] at p2
      refine ⟨ρ2, wipeS s own, h2, _, w3, ((rs.ext e12).ext e3).wiped own, .p rx, s3, eg, fun σ4 rs4 o4 => ⟨wipe_only o4 hos, ρ2, s3, h2, w3, rs4, ?_⟩⟩
      cases et : t s3 h2 with
      | bad => simp only [et] at p2; exact p2.elim
      | exc z h => simp only [et] at p2; exact p2.elim
      | ok b h5 =>
        intro ρ5 H5 b' e5 w5 eb
        subst eb
        cases b with
        | false =>
          simp only [et] at p2
          exact iteF ⟨ρ5, h5, e23.trans e5, w5, p2⟩
        | true =>
          simp only [et] at p2
          refine iteT ⟨ρ5, s3, h5, w5, rs4.ext e5, ?_⟩
          cases ee : e s3 h5 with
          | bad => simp only [ee] at p2; exact p2.elim
          | exc z h => simp only [ee] at p2; exact p2.elim
          | ok d h6 =>
            cases d with
            | ob n => simp only [ee] at p2; exact p2.elim
            | p y =>
              simp only [ee] at p2
              cases ea : h6[h1.length]? with
              | none => simp only [ea] at p2; exact p2.elim
              | some o =>
                cases o with
                | lst acc =>
                  simp only [ea] at p2
                  by_cases hz : acc.length < sizeLine
                  · rw [if_pos hz] at p2
                    intro ρ6 H6 v e6 w6 rv
                    have e06 := (e23.trans e5).trans e6
                    obtain ⟨hD, xs, hX, rX⟩ := atD e06 w6 ea
                    cases rv with
                    | p rv =>
                      have ew : Ext ρ6 H6 ρ6 (upd H6 D (.lst (xs ++ [v]))) := .wrote hD hX
                      exact ⟨xs, hX, by rw [← rX.len]; exact hz, ρ6, _, e06.trans ew, w6.wrote (o := .lst (acc ++ [y])) hD ⟨_, upd_same, (rX.ext ew).app (.cons (rv.ext ew) .nil)⟩, p2⟩
                  · rw [if_neg hz] at p2; exact p2.elim
                | _ => simp only [ea] at p2; exact p2.elim
  · have ek : k = l.length := by omega
    subst ek
    rw [List.drop_length] at p2
    refine .inl ⟨wk.stop ρ2 H2 e12, ?_⟩
    unfold lcL lcEnd at p2
    dsimp only at p2
    cases ea : h2[h1.length]? with
    | none => simp only [ea] at p2; exact p2.elim
    | some o =>
      cases o with
      | lst acc =>
        simp only [ea] at p2
        obtain ⟨hD, xs, hX, rX⟩ := atD e2 w2 ea
        refine p2 (ρ2.take h1.length) H2 (.ref D) (e12.take (by rw [w1.len]; exact Nat.le_refl _)) (w2.take _) (.p (.lst (.inl ⟨.inl hX, fun ⟨j, hj⟩ => ?_⟩) rX.less))
        obtain ⟨h3, h4⟩ := take_get hj
        have := w2.inj _ _ _ h3 hD
        omega
      | _ => simp only [ea] at p2; exact p2.elim
theorem tLc_of {K : PySem.W.Frag} {i : FI} {g : GT} {t : FB} {e : FE} {own os : List Nat} (hos : ∀ j ∈ os, j ∈ own) {σ : L2.St} {H : Hp} {Q : VK} (hT : TV K RX W (fLc i g t e own) σ H Q) :
    tLc (TIV K RX W i) (TGV K os g) (TB K RX W0 t) (TV K RX W0 e) own σ H Q := by
  refine (TF.bind (Rel := RelI K) (k := fun s l h1 => lcEnd h1.length (lcL g t e own h1.length l s (h1 ++ [.lst []]))) hT).mono fun J H1 q => ?_
  obtain ⟨ρ1, s, h1, l, w1, rs, wk, p⟩ := q
  exact tLc_core hos w1 rs wk p
end
section
variable {X : Cx} {RX : RXT} {W : WX} {elt tg iter : Expr} {ifs : List Expr} {scope : Scope} {own : List (Str × Nat)} {pos : Pos} {i : FI} {g : GT} {t : FB} {e : FE} {os : List Nat}
theorem v_lc (hc : X.calm = true) (hN : X.N.Nodup) (hi : PI X tg iter (TIV X.K RX W i)) (ok : BlkOk X.N X.env.scope scope own)
    (hg : ∀ (s : Shared) (H : Hp) (C : Addr) (cl : List (Str × Addr)) (fp : List Addr), PG (X.blk s H scope (compEnvC scope cl C X.env) fp) tg (TGV X.K os g))
    (ht : ∀ (s : Shared) (H : Hp) (C : Addr) (cl : List (Str × Addr)) (fp : List Addr), PTs (X.blk s H scope (compEnvC scope cl C X.env) fp) ifs (TB X.K RX W0 t))
    (he : ∀ (s : Shared) (H : Hp) (C : Addr) (cl : List (Str × Addr)) (fp : List Addr), PE (X.blk s H scope (compEnvC scope cl C X.env) fp) elt (TV X.K RX W0 e))
    (hos : (os.all fun j => (own.map (·.2)).contains j) = true := by rfl) (hs : ∀ x, foldedSetIterable iter X.env x = pure x := by intro _; rfl) :
    PE X (.ListComp elt [⟨tg, iter, ifs, 0⟩] scope pos) (TV X.K RX W (fLc i g t e (own.map (·.2)))) :=
  PE.imp (pe_lc hc hN hi ok hg ht he hs) fun σ H Q hT => tLc_of (fun j hj => by
    have := List.all_eq_true.mp hos j hj
    simpa using this) hT
/-- name = [..] -/
theorem vs_setLc (j : Nat) {y : Str} {py spos : Pos} (hc : X.calm = true) (hN : X.N.Nodup) (hi : PI X tg iter (TIV X.K RX W i)) (ok : BlkOk X.N X.env.scope scope own)
    (hg : ∀ (s : Shared) (H : Hp) (C : Addr) (cl : List (Str × Addr)) (fp : List Addr), PG (X.blk s H scope (compEnvC scope cl C X.env) fp) tg (TGV X.K os g))
    (ht : ∀ (s : Shared) (H : Hp) (C : Addr) (cl : List (Str × Addr)) (fp : List Addr), PTs (X.blk s H scope (compEnvC scope cl C X.env) fp) ifs (TB X.K RX W0 t))
    (he : ∀ (s : Shared) (H : Hp) (C : Addr) (cl : List (Str × Addr)) (fp : List Addr), PE (X.blk s H scope (compEnvC scope cl C X.env) fp) elt (TV X.K RX W0 e))
    (hsw : swapsWith (.ListComp elt [⟨tg, iter, ifs, 0⟩] scope pos) (some (.Name y py)) spos.line X.env = pure true)
    (hy : X.N[j]? = some y := by rfl) (hyl : X.env.scope.names.lookup y = some .local := by rfl)
    (hos : (os.all fun j => (own.map (·.2)).contains j) = true := by rfl) (hs : ∀ x, foldedSetIterable iter X.env x = pure x := by intro _; rfl) :
    PS X (.Assign [.Name y py] (.ListComp elt [⟨tg, iter, ifs, 0⟩] scope pos) spos) (TSV X.K RX W (sAsg (fLc i g t e (own.map (·.2))) (gtName j))) :=
  PS.imp (ps_setLc hc hN hy hyl hsw hi ok hg ht he hs) fun D σ H hT => by
    have h1 := TSV.bind (Rel := RelD X.K) (k := fun s d h1 => match gtName j d s with
      | some s' => .nx s' h1
      | none => .bad) hT
    obtain ⟨ρ, s, h, w, rs, p⟩ := h1
    show tLc _ _ _ _ _ σ H (fun x H1 => gName j x σ H1 D.nx)
    refine tLc_of (W := W) (fun j hj => by
      have := List.all_eq_true.mp hos j hj
      simpa using this) ⟨ρ, s, h, w, rs, p.imp (fun v H1 q => ?_) fun _ _ _ q => q⟩
    obtain ⟨ρ1, s, h1, a, w1, rs, rl, p⟩ := q
    exact p ρ1 H1 _ (.refl _ _) w1 (rs.set j rl)
end
end MV

/-! MV6: defs, calls, the end of a law. -/
namespace MV
open PySem PySem.Spec PyProof.Rows L2

/-! ### liveness that shrinks -/
section
variable {K : PySem.W.Frag} {ρ ρ' : Rho} {H : Hp}
theorem SL.sub {a : Addr} {xs : List V} (h : ∀ a, Live ρ' a → Live ρ a) (q : SL K ρ H a xs) : SL K ρ' H a xs := by
  rcases q with ⟨q, nl⟩ | q
  · exact .inl ⟨q, fun l => nl (h _ l)⟩
  · exact .inr q
theorem ST.sub {a : Addr} {xs : List V} (h : ∀ a, Live ρ' a → Live ρ a) (q : ST K ρ H a xs) : ST K ρ' H a xs := by
  rcases q with ⟨q, nl⟩ | q
  · exact .inl ⟨q, fun l => nl (h _ l)⟩
  · exact .inr q
mutual
theorem RelP.sub (h : ∀ a, Live ρ' a → Live ρ a) : ∀ {d : P} {v : V}, RelP K ρ H d v → RelP K ρ' H d v
  | _, _, .non => .non
  | _, _, .bl b => .bl b
  | _, _, .int i => .int i
  | _, _, .str s => .str s
  | _, _, .fn a => .fn a
  | _, _, .rep a => .rep a
  | _, _, .dct q n r => .dct q (fun l => n (h _ l)) (RelKV.sub h r)
  | _, _, .tup q r => .tup (q.sub h) (RelPs.sub h r)
  | _, _, .lst q r => .lst (q.sub h) (RelPs.sub h r)
theorem RelPs.sub (h : ∀ a, Live ρ' a → Live ρ a) : ∀ {d : List P} {v : List V}, RelPs K ρ H d v → RelPs K ρ' H d v
  | _, _, .nil => .nil
  | _, _, .cons a b => .cons (RelP.sub h a) (RelPs.sub h b)
theorem RelKV.sub (h : ∀ a, Live ρ' a → Live ρ a) : ∀ {d : List (Key × P)} {v : List (Key × V)}, RelKV K ρ H d v → RelKV K ρ' H d v
  | _, _, .nil => .nil
  | _, _, .cons a b => .cons (RelP.sub h a) (RelKV.sub h b)
end
theorem RelVO.sub (h : ∀ a, Live ρ' a → Live ρ a) {a : Addr} {o : VO} (r : RelVO K ρ H a o) : RelVO K ρ' H a o := by
  cases o with
  | dead => trivial
  | lst l => obtain ⟨xs, h1, h2⟩ := r; exact ⟨xs, h1, h2.sub h⟩
  | dK kvs => obtain ⟨xs, h1, h2⟩ := r; exact ⟨xs, h1, RelKV.sub h h2⟩
  | tab p q =>
    obtain ⟨h0, ps, h1, h2, h3⟩ := r
    refine ⟨h0, ps, h1, h2, fun pos cv hc => ?_⟩
    obtain ⟨c, e1, e2, e3⟩ := h3 pos cv hc
    exact ⟨c, e1, e2, fun l => e3 (h _ l)⟩
end

/-! ### a def as a function -/
abbrev Fn := List D → VH → R D
/-- what a body hands back: what it made meanwhile is forgotten; a mutable object of its own takes the first free number -/
def finF (n : Nat) (o : O) : R D := match o with
  | .nx _ h => .ok (.p .non) (h.take n)
  | .rt (.p x) h => .ok (.p x) (h.take n)
  | .rt (.ob m) h => if m < n then .ok (.ob m) (h.take n) else match h[m]? with
    | some o => .ok (.ob n) (h.take n ++ [o])
    | none => .bad
  | .ex x _ h => .exc x h
  | _ => .bad
def runF (np N : Nat) (b : FS) : Fn := fun ds h => if ds.length = np then finF h.length (b (ds.map some ++ List.replicate (N - np) none) h) else .bad
section
variable {K : PySem.W.Frag} {RX : RXT} {W : WX} {ρ : Rho} {H : Hp} {h : VH} {Q : VK} {E : XK} {o : O}
theorem RelP.toNone {K : PySem.W.Frag} {ρ : Rho} {H : Hp} : RelD K ρ H (.p .non) .non := .p .non
theorem finF_ok (w : RelW K ρ H h) (p : Post K RX (RelD K) ρ H (finF h.length o) Q E) : PostS K RX (fun c d _ H' => E c d H') ρ H o { nx := fun _ H' => Q .non H', rt := Q } := by
  have hl : ρ.length ≤ h.length := Nat.le_of_eq w.len
  cases o with
  | nx s h' => exact fun ρ' H' σ' e w' _ => p _ H' .non (e.take hl) (w'.take _) (.p .non)
  | rt d h' =>
    cases d with
    | p x =>
      intro ρ' H' v e w' r
      cases r with
      | p r => exact p _ H' v (e.take hl) (w'.take _) (.p r.less)
    | ob m =>
      intro ρ' H' v e w' r
      unfold finF at p
      dsimp only at p
      cases r with
      | ob hm hb =>
        by_cases hlt : m < h.length
        · rw [if_pos hlt] at p
          refine p _ H' _ (e.take hl) (w'.take _) (.ob ?_ fun b hb' => hb b (take_get hb').1)
          rw [List.length_take]; omega
        · rw [if_neg hlt] at p
          have hm' : m < h'.length := by rw [← w'.len]; exact hm
          cases eo : h'[m]? with
          | none => simp only [eo] at p; exact p.elim
          | some o =>
            simp only [eo] at p
            obtain ⟨r0, hr0⟩ : ∃ r0, ρ'[m]? = some r0 := ⟨ρ'[m], by simp [hm]⟩
            have le : h.length ≤ ρ'.length := by rw [← w.len]; exact e.len
            have tl : (ρ'.take h.length).length = h.length := by rw [List.length_take]; omega
            have key : ∀ {i : Nat} {a : Addr}, (ρ'.take h.length ++ [r0])[i]? = some (some a) → (i < h.length ∧ ρ'[i]? = some (some a)) ∨ (i = h.length ∧ r0 = some a) := fun {i a} hi => by
              by_cases hlt2 : i < h.length
              · rw [List.getElem?_append_left (by omega)] at hi
                exact .inl ⟨hlt2, (take_get hi).1⟩
              · rw [List.getElem?_append_right (by omega), tl] at hi
                cases q : i - h.length with
                | zero =>
                  rw [q] at hi
                  exact .inr ⟨by omega, by simpa using hi⟩
                | succ k => rw [q] at hi; simp at hi
            have lv : ∀ a, Live (ρ'.take h.length ++ [r0]) a → Live ρ' a := fun a ⟨i, hi⟩ => by
              rcases key hi with ⟨_, q⟩ | ⟨_, q⟩
              · exact ⟨i, q⟩
              · exact ⟨m, by rw [hr0, q]⟩
            refine p (ρ'.take h.length ++ [r0]) H' _ ?_ ?_ ?_
            · refine ⟨by rw [List.length_append, tl, w.len]; omega, fun i a hi q => ?_, fun i a hi q => ?_, e.keep, e.there⟩
              · rcases key q with ⟨_, q⟩ | ⟨q, _⟩
                · exact e.old i a hi q
                · rw [w.len] at hi; omega
              · rcases key q with ⟨q, _⟩ | ⟨_, q⟩
                · rw [w.len] at hi; omega
                · exact e.new m a (by rw [w.len]; omega) (by rw [hr0, q])
            · refine ⟨by rw [List.length_append, List.length_append, tl, List.length_take]; have := w'.len; simp; omega, fun i j a hi hj => ?_, fun i x hx => ?_, fun i a hi => ?_⟩
              · rcases key hi with ⟨h1, h2⟩ | ⟨h1, h2⟩ <;> rcases key hj with ⟨h3, h4⟩ | ⟨h3, h4⟩
                · exact w'.inj i j a h2 h4
                · have := w'.inj i m a h2 (by rw [hr0, h4]); omega
                · have := w'.inj m j a (by rw [hr0, h2]) h4; omega
                · omega
              · by_cases hlt2 : i < h.length
                · rw [List.getElem?_append_left (by rw [List.length_take]; omega), List.getElem?_take_of_lt hlt2] at hx
                  rcases w'.at_ i x hx with z | ⟨a, h1, h2⟩
                  · exact .inl z
                  · exact .inr ⟨a, by rw [List.getElem?_append_left (by omega), List.getElem?_take_of_lt hlt2]; exact h1, h2.sub lv⟩
                · rw [List.getElem?_append_right (by rw [List.length_take]; omega)] at hx
                  have tl2 : (h'.take h.length).length = h.length := by rw [List.length_take]; omega
                  rw [tl2] at hx
                  cases q : i - h.length with
                  | succ k => rw [q] at hx; simp at hx
                  | zero =>
                    rw [q] at hx
                    have ex : o = x := by simpa using hx
                    subst ex
                    have ei : i = h.length := by omega
                    subst ei
                    rcases w'.at_ m o eo with z | ⟨a, h1, h2⟩
                    · exact .inl z
                    · refine .inr ⟨a, ?_, h2.sub lv⟩
                      rw [List.getElem?_append_right (by omega), tl, Nat.sub_self]
                      rw [hr0] at h1
                      simpa using h1
              · rcases key hi with ⟨_, q⟩ | ⟨_, q⟩
                · exact w'.live i a q
                · exact w'.live m a (by rw [hr0, q])
            · refine .ob (by rw [List.length_append, tl]; simp) fun b hb' => ?_
              rcases key hb' with ⟨q, _⟩ | ⟨_, q⟩
              · omega
              · exact hb b (by rw [hr0, q])
  | bk => exact p.elim
  | ct => exact p.elim
  | ex x s h' => exact fun ρ' H' σ' c d e w' _ rx => p ρ' H' c d e w' rx
  | bad => exact p.elim
end

/-- a def's promise by a function -/
def spM (K : PySem.W.Frag) (RX : RXT) (F : Fn) : Sp := fun vs H Q E => ∃ ρ h ds, RelW K ρ H h ∧ RelDs K ρ H ds vs ∧ Post K RX (RelD K) ρ H (F ds h) Q E
/-- a def keeps the promise, called where no repr is under way -/
structure FnM (P : Program) (w : World) (K : PySem.W.Frag) (mg : Str → Option Value) (base : Heap) (RX : RXT) (k : Nat) (f : Addr) (fd : FuncData) (ps : List Str) (F : Fn) : Prop where
  ar : ∀ ds h, ds.length ≠ ps.length → F ds h = .bad
  run : ∀ (A : Around) (outer : List Env) (s : Shared) (H : Hp) (args : Args) (us : List Value) (vs : List V) (Q : VK) (E : XK), Room k A → A.guards = some [] → Env0 P w K mg base A outer s H → BindsTo s fd args (ps.zip us) → Vals vs us → spM K RX F vs H Q E →
    codeAny (model P w) A (.call (.ref f) args) (CR (L2.CX P w) outer P w H s Q E) s
theorem FnM.len {P : Program} {w : World} {K : PySem.W.Frag} {mg : Str → Option Value} {base : Heap} {RX : RXT} {k : Nat} {f : Addr} {fd : FuncData} {ps : List Str} {F : Fn} (M : FnM P w K mg base RX k f fd ps F) {vs : List V} {H : Hp} {Q : VK} {E : XK} (h : spM K RX F vs H Q E) : vs.length = ps.length := by
  obtain ⟨ρ, h, ds, _, r, p⟩ := h
  by_cases e : ds.length = ps.length
  · rw [← Paired.length r, e]
  · rw [M.ar ds h e] at p; exact p.elim

theorem RelDs.start {K : PySem.W.Frag} {ρ : Rho} {H : Hp} : ∀ {ds : List D} {vs : List V} (n : Nat), RelDs K ρ H ds vs → RelS K ρ H (ds.map some ++ List.replicate n none) (vs.map some ++ List.replicate n none)
  | _, _, 0, .nil => .nil
  | _, _, n + 1, .nil => .cons trivial (RelDs.start n .nil)
  | _, _, n, .cons a b => .cons a (RelDs.start n b)

section
variable {P : Program} {w : World} {K : PySem.W.Frag} {mg : Str → Option Value} {base : Heap} {RX : RXT}
/-- THE RULE: a def by its body -/
theorem fnM_of {k : Nat} {f : Addr} {name qual : Str} {params : Arguments} {body : List Stmt} {scope : Scope} {dvs : List V} {kws : List (Str × V)} {fd : FuncData} {N ps : List Str} {b : FS}
    (F : FunD K name qual params body scope dvs kws f fd) (S : FnScope N ps scope)
    (hbody : ∀ (cdv : Value) (A : Around) (outer : List Env) (s : Shared) (H : Hp) (E : XK), Room k (A.deeper (envOfC qual scope s.heap.objs.size f cdv)) → (A.deeper (envOfC qual scope s.heap.objs.size f cdv)).guards = some [] →
      PSs (cxOf (L2.CX P w) P w K mg base N qual scope f cdv A outer s H E) body (TSV K RX (fun c d _ H' => E c d H') b)) :
    FnM P w K mg base RX (k + 1) f fd ps (runF ps.length N.length b) := by
  obtain ⟨oc, od, dV, kV, doc, pm, an, cdv, ct, osl, rfl, lk, hcd, _, _⟩ := F.ex
  refine ⟨fun ds h hn => by unfold runF; rw [if_neg hn], fun A outer s H args us vs Q E hr hg e0 hb r hsp => ?_⟩
  obtain ⟨ρ, h, ds, rw_, rds, pp⟩ := hsp
  have hn : ds.length = ps.length := by
    by_cases hn : ds.length = ps.length
    · exact hn
    · unfold runF at pp; rw [if_neg hn] at pp; exact pp.elim
  have hl : vs.length = ps.length := by rw [← Paired.length rds, hn]
  unfold runF at pp
  rw [if_pos hn] at pp
  have KX : K.In s.heap := e0.mod.kin.keeps fun b o e => (e0.bs b o e).1
  have lim : s.heap.NoLimit := e0.mod.nolimit.keeps fun b o e => (e0.bs b o e).1
  have hkind : ∀ y ∈ ps.zip us, scope.names.lookup y.1 = some .local ∨ (scope.names.lookup y.1 = some .cell ∧ ((cellsFrom (s.heap.objs.size + 1) scope.names []).lookup y.1).isSome = true) := fun ⟨n, v⟩ hy => by
    rcases S.par n (List.of_mem_zip hy).1 with q | q
    · exact .inl q
    · exact .inr ⟨q, PySem.W.cellsFrom_some _ _ _ (.inl q)⟩
  refine codeAny_call_function hr.depth (KX _ _ lk) rfl S.co S.gen rfl (PySem.W.codeRec_of KX hcd) (hb _ _ _ _ ?_)
  refine wpAny_newFunctionEnv_cells S.kind hkind fun env he s1 x => ?_
  subst he
  refine ⟨lim.keeps x.toInCall.keep, codeAny_func ?_⟩
  have ht := hbody cdv A outer s H E (hr.deeper _) (by exact hg)
  have I : Inv (cxOf (L2.CX P w) P w K mg base N qual scope f cdv A outer s H E) [] (start N vs) H s1 := inv_start S hr.hd e0 hl r x
  have hq : TSV K RX (fun c d _ H' => E c d H') b { nx := fun _ H' => Q .non H', rt := Q } (start N vs) H := by
    refine ⟨ρ, _, h, rw_, ?_, finF_ok rw_ pp⟩
    unfold L2.start
    rw [hl]
    exact RelDs.start _ rds
  refine wpAny_mono (ht.run [] s1 (start N vs) H _ I hq) (fun fl s' hs => ?_) fun e s' hs => hs
  have fin : ∀ {σ' : L2.St} {H' : Hp} {v : V} {u : Value}, Inv (cxOf (L2.CX P w) P w K mg base N qual scope f cdv A outer s H E) [] σ' H' s' → RelV v u → Q v H' → CE outer P w H s Q u s' :=
    fun {σ' H' v u} J rv q => ⟨v, H', J.os, J.bare, J.base, J.hok, rv, q⟩
  cases fl with
  | ret u =>
    obtain ⟨v, σ', H', J, rv, q⟩ := hs
    exact fin J rv q
  | next =>
    obtain ⟨σ', H', J, q⟩ := hs
    exact fin (v := V.non) (u := Value.none) J rfl q
  | brk =>
    obtain ⟨_, _, _, q⟩ := hs
    exact False.elim q
  | cont =>
    obtain ⟨_, _, _, q⟩ := hs
    exact False.elim q
end

/-! ### where a body stands -/
structure Cok (X : Cx) (W : WX) : Prop where
  calm : X.calm = true
  gd : X.A.guards = some []
  tk : Takes X W
  po : PassesOwn (model X.prog X.w) X.A X.env X.xe
theorem cok_of {P : Program} {w : World} {K : PySem.W.Frag} {mg : Str → Option Value} {base : Heap} {N : List Str} {qual : Str} {scope : Scope} {f : Addr} {cdv : Value} {A : Around} {outer : List Env} {s : Shared} {H : Hp} {E : XK}
    (hg : (A.deeper (envOfC qual scope s.heap.objs.size f cdv)).guards = some []) : Cok (cxOf (L2.CX P w) P w K mg base N qual scope f cdv A outer s H E) (fun c d _ H' => E c d H') :=
  ⟨rfl, hg, takes_of rfl rfl rfl rfl, passes_of rfl⟩
theorem takes_no {X : Cx} : Takes X W0 := fun _ _ ⟨_, _, _, _, _, _, _, _, _, _, _, _, _, _, _, _, z⟩ => z.elim
theorem Cok.blk {X : Cx} {W : WX} (c : Cok X W) (s : Shared) (H : Hp) (scope : Scope) (cenv : Env) (fp : List Addr) : Cok (X.blk s H scope cenv fp) W0 := ⟨c.calm, c.gd, takes_no, PassesOwn.never⟩

/-! ### calls -/
section
variable {X : Cx} {RX : RXT} {W : WX} {k : Nat} {f : Addr} {fd : FuncData} {ps ks : List Str} {F : Fn} {dvs : List V} {ds : List Value} {dps : List P} {x : Str} {p pos : Pos} {e : Expr} {es : List Expr} {kws : List Keyword} {fa fk : FA}
abbrev FnX (X : Cx) (RX : RXT) (k : Nat) (f : Addr) (fd : FuncData) (ps : List Str) (F : Fn) : Prop := FnM X.prog X.w X.K X.mg X.base RX k f fd ps F
/-- the callee runs -/
theorem run_fnM {pins : List (Addr × Obj)} {σ : L2.St} {H : Hp} {s : Shared} {Q : VK} {args : Args} {us : List Value} {vs : List V} (M : FnX X RX k f fd ps F) (c : Cok X W) (hr : Room k X.A) (hb : BindsTo s fd args (ps.zip us))
    (I : Inv X pins σ H s) (r : Vals vs us) (h : spM X.K RX F vs H Q (fun c d H' => W c d σ H')) : wpAny (model X.prog X.w) X.A (call (.ref f) args.pos args.kw) (EP X pins σ Q) X.xe s := by
  refine wpAny_call (codeAny_mono (M.run X.A X.stack s H args us vs Q _ hr c.gd I.env0 hb r h) fun r s' hq => ?_)
  cases r with
  | error e => exact c.tk e s' (XE.of_call I (fun _ _ _ h => h) hq)
  | ok fl =>
    cases fl with
    | ret u => exact I.after hq
    | next => exact False.elim hq
    | brk => exact False.elim hq
    | cont => exact False.elim hq
def fCall (F : Fn) (dps : List P) (a : FA) : FE := fun s h => (a s h).bind fun xs h1 => F (xs ++ dps.map .p) h1
theorem relDs_dflt {K : PySem.W.Frag} {ρ : Rho} {H : Hp} : ∀ {dps : List P} {dvs : List V}, RelPs K ρ H dps dvs → RelDs K ρ H (dps.map .p) dvs
  | _, _, .nil => .nil
  | _, _, .cons a b => .cons (.p a) (relDs_dflt b)
theorem RelDs.app {K : PySem.W.Frag} {ρ : Rho} {H : Hp} : ∀ {d d' : List D} {v v' : List V}, RelDs K ρ H d v → RelDs K ρ H d' v' → RelDs K ρ H (d ++ d') (v ++ v')
  | _, _, _, _, .nil, s => s
  | _, _, _, _, .cons a b, s => .cons a (RelDs.app b s)
/-- f(e, ..), the defaults behind -/
theorem v_call (M : FnX X RX k f fd ps F) (c : Cok X W) (hr : Room k X.A) (hg : Gl X x) (hm : X.mg x = some (.ref f)) (hk : PySem.W.keepIn X.K (.ref f) = true) (hb : Binds X.K fd ps ds) (hd : Vals dvs ds) (hdp : ∀ ρ H, RelPs X.K ρ H dps dvs)
    (ha : PA X (e :: es) (TL X.K RX W fa)) (hdb : (x == ("__debug__" : Str)) = false := by decide) (he : starEach (e :: es) X.env = (false, eval e X.env) :: starEach es X.env := by rfl) (hpl : (backTo pos (starEach es X.env)).any (·.1) = false := by rfl) :
    PE X (.Call (.Name x p) (e :: es) [] pos) (TV X.K RX W (fCall F dps fa)) := by
  refine ⟨fun pins s σ H Q I h => ?_⟩
  have h1 := TF.bind (Rel := RelDs X.K) (k := fun s xs h1 => F (xs ++ dps.map .p) h1) h
  refine wpAny_Call_Name_kw (ld_glob I hg hm ?_ hdb)
  refine PySem.W.callWith_K (h₀ := X.base) I.ok.mod.kin hk (thn (ha.run pos pins s σ H _ I h1) fun us s1 ⟨vs, H1, I1, r, q⟩ => ⟨I1.kIn, ?_⟩) he hpl
  obtain ⟨ρ1, s0, h1, xs, w1, rs, rl, pp⟩ := q
  have hsp : spM X.K RX F (vs ++ dvs) H1 Q (fun c d H' => W c d σ H') := ⟨ρ1, h1, _, w1, RelDs.app rl (relDs_dflt (hdp _ _)), pp⟩
  have r2 : Vals (vs ++ dvs) (us ++ ds) := r.append hd
  have hl : (us ++ ds).length = ps.length := by rw [← r2.length]; exact M.len hsp
  exact run_fnM (args := ⟨us, []⟩) M c hr (hb s1 us I1.kIn hl) I1 r2 hsp
/-- f() -/
theorem v_call0 (M : FnX X RX k f fd ps F) (c : Cok X W) (hr : Room k X.A) (hg : Gl X x) (hm : X.mg x = some (.ref f)) (hk : PySem.W.keepIn X.K (.ref f) = true) (hb : Binds X.K fd ps ds) (hd : Vals dvs ds) (hdp : ∀ ρ H, RelPs X.K ρ H dps dvs)
    (hdb : (x == ("__debug__" : Str)) = false := by decide) : PE X (.Call (.Name x p) [] [] pos) (TV X.K RX W (fCall F dps fNil)) := by
  refine ⟨fun pins s σ H Q I h => ?_⟩
  have h1 := TF.bind (Rel := RelDs X.K) (k := fun s xs h1 => F (xs ++ dps.map .p) h1) h
  refine wpAny_Call_Name_kw (ld_glob I hg hm ?_ hdb)
  obtain ⟨ρ, s0, h0, w0, rs0, p0⟩ := h1
  obtain ⟨ρ1, s1, h1, xs, w1, rs, rl, pp⟩ := Post.ok (K := X.K) (RX := RX) (Rel := RelDs X.K) w0 .nil p0
  cases rl
  have hsp : spM X.K RX F ([] ++ dvs) H Q (fun c d H' => W c d σ H') := ⟨ρ1, h1, _, w1, RelDs.app .nil (relDs_dflt (hdp _ _)), pp⟩
  have r2 : Vals ([] ++ dvs) ([] ++ ds) := Vals.append .nil hd
  have hl : (([] : List Value) ++ ds).length = ps.length := by rw [← r2.length]; exact M.len hsp
  exact PySem.W.callWith_K0 I.kIn hk (run_fnM (args := ⟨[], []⟩) M c hr (hb s [] I.kIn hl) I r2 hsp)
/-! keywords: which of the given values (positional, then the keywords') comes to which parameter -/
def pickL {α : Type} (pm : List Nat) (l : List α) : List α := pm.filterMap fun i => l[i]?
def KB (K : PySem.W.Frag) (fd : FuncData) (ps : List Str) (n : Nat) (ks : List Str) (pm : List Nat) : Prop := ∀ (s : Shared) (us ws : List Value), us.length = n → ws.length = ks.length → BindsTo s fd ⟨us, ks.zip ws⟩ (ps.zip (pickL pm (us ++ ws)))
theorem vals_pick {vs : List V} {us : List Value} (r : Vals vs us) : ∀ pm : List Nat, Vals (pickL pm vs) (pickL pm us)
  | [] => .nil
  | i :: pm => by
    unfold pickL
    cases e : vs[i]? with
    | none =>
      rw [List.filterMap_cons_none e, List.filterMap_cons_none (r.none_of e)]
      exact vals_pick r pm
    | some v =>
      obtain ⟨u, hu, ru⟩ := r.get e
      rw [List.filterMap_cons_some e, List.filterMap_cons_some hu]
      exact .cons ru (vals_pick r pm)
theorem RelDs.get {K : PySem.W.Frag} {ρ : Rho} {H : Hp} : ∀ {d : List D} {v : List V} {i : Nat} {x : D}, RelDs K ρ H d v → d[i]? = some x → ∃ u, v[i]? = some u ∧ RelD K ρ H x u
  | _, _, _, _, .nil, h => by simp at h
  | _, _, 0, _, .cons a _, h => by simp at h; subst h; exact ⟨_, rfl, a⟩
  | _, _, i + 1, x, .cons _ b, h => by
    obtain ⟨u, h1, h2⟩ := RelDs.get (i := i) (x := x) b (by simpa using h)
    exact ⟨u, by simpa using h1, h2⟩
theorem relDs_pick {K : PySem.W.Frag} {ρ : Rho} {H : Hp} {dl : List D} {vs : List V} (r : RelDs K ρ H dl vs) : ∀ pm : List Nat, RelDs K ρ H (pickL pm dl) (pickL pm vs)
  | [] => .nil
  | i :: pm => by
    unfold pickL
    cases e : dl[i]? with
    | none =>
      have e2 : vs[i]? = none := by
        have h1 := Paired.length r
        have h2 : dl.length ≤ i := List.getElem?_eq_none_iff.mp e
        exact List.getElem?_eq_none_iff.mpr (by omega)
      rw [List.filterMap_cons_none e, List.filterMap_cons_none e2]
      exact relDs_pick r pm
    | some v =>
      obtain ⟨u, hu, ru⟩ := RelDs.get r e
      rw [List.filterMap_cons_some e, List.filterMap_cons_some hu]
      exact .cons ru (relDs_pick r pm)
def fCallK (F : Fn) (n m : Nat) (pm : List Nat) (a b : FA) : FE := fun s h => (a s h).bind fun xs h1 => (b s h1).bind fun ys h2 => if xs.length = n ∧ ys.length = m then F (pickL pm (xs ++ ys)) h2 else .bad
theorem v_callK {n : Nat} {pm : List Nat} (M : FnX X RX k f fd ps F) (c : Cok X W) (hr : Room k X.A) (hg : Gl X x) (hm : X.mg x = some (.ref f)) (hk : PySem.W.keepIn X.K (.ref f) = true) (hb : KB X.K fd ps n ks pm)
    (ha : PA X (e :: es) (TL X.K RX W fa)) (hkw : PK X kws (TL X.K RX W fk)) (hall : (backToKw pos (keywordEach kws X.env)).all (·.1.isSome) = true := by rfl) (hks : (backToKw pos (keywordEach kws X.env)).filterMap (·.1) = ks := by rfl)
    (hdb : (x == ("__debug__" : Str)) = false := by decide) (he : starEach (e :: es) X.env = (false, eval e X.env) :: starEach es X.env := by rfl)
    (hpl : ((backTo pos (starEach (e :: es) X.env)).any (·.1) || (backToKw pos (keywordEach kws X.env)).any (·.1.isNone)) = false := by rfl) :
    PE X (.Call (.Name x p) (e :: es) kws pos) (TV X.K RX W (fCallK F n ks.length pm fa fk)) := by
  refine ⟨fun pins s σ H Q I h => ?_⟩
  have h1 := TF.bind (Rel := RelDs X.K) (k := fun s xs h1 => (fk s h1).bind fun ys h2 => if xs.length = n ∧ ys.length = ks.length then F (pickL pm (xs ++ ys)) h2 else .bad) h
  refine wpAny_Call_Name_kw (ld_glob I hg hm ?_ hdb)
  refine PySem.W.callWith_KW (h₀ := X.base) I.ok.mod.kin hk hall (thn (ha.run pos pins s σ H _ I h1) fun us s1 ⟨vs, H1, I1, r, q⟩ => ?_) hpl he
  obtain ⟨ρ1, s0, h1, xs, w1, rs, rl, pp⟩ := q
  have h2 := Post.bind (Rel := RelDs X.K) pp
  refine thn (hkw.run pos pins s1 σ H1 _ I1 ⟨ρ1, s0, h1, w1, rs, h2⟩) fun ws s2 ⟨zs, H2, I2, rz, q2⟩ => ⟨I2.kIn, ?_⟩
  obtain ⟨ρ2, h2, ys, e2, w2, rl2, p2⟩ := q2
  rw [hks]
  split at p2
  · rename_i hl
    have rr := RelDs.app (rl.ext e2) rl2
    have hsp : spM X.K RX F (pickL pm (vs ++ zs)) H2 Q (fun c d H' => W c d σ H') := ⟨ρ2, h2, _, w2, relDs_pick rr pm, p2⟩
    have l1 : us.length = n := by rw [← r.length, ← Paired.length rl]; exact hl.1
    have l2 : ws.length = ks.length := by rw [← rz.length, ← Paired.length rl2]; exact hl.2
    exact run_fnM (args := ⟨us, ks.zip ws⟩) M c hr (hb s2 us ws l1 l2) I2 (vals_pick (r.append rz) pm) hsp
  · exact p2.elim
theorem v_callK0 {pm : List Nat} (M : FnX X RX k f fd ps F) (c : Cok X W) (hr : Room k X.A) (hg : Gl X x) (hm : X.mg x = some (.ref f)) (hk : PySem.W.keepIn X.K (.ref f) = true) (hb : KB X.K fd ps 0 ks pm)
    (hkw : PK X kws (TL X.K RX W fk)) (hall : (backToKw pos (keywordEach kws X.env)).all (·.1.isSome) = true := by rfl) (hks : (backToKw pos (keywordEach kws X.env)).filterMap (·.1) = ks := by rfl)
    (hdb : (x == ("__debug__" : Str)) = false := by decide) (hpl : ((backTo pos (starEach [] X.env)).any (·.1) || (backToKw pos (keywordEach kws X.env)).any (·.1.isNone)) = false := by rfl) :
    PE X (.Call (.Name x p) [] kws pos) (TV X.K RX W (fCallK F 0 ks.length pm fNil fk)) := by
  refine ⟨fun pins s σ H Q I h => ?_⟩
  have h1 := TF.bind (Rel := RelDs X.K) (k := fun s xs h1 => (fk s h1).bind fun ys h2 => if xs.length = 0 ∧ ys.length = ks.length then F (pickL pm (xs ++ ys)) h2 else .bad) h
  obtain ⟨ρ, s0, h0, w0, rs0, p0⟩ := h1
  obtain ⟨ρ1, s1, h1, xs, w1, rs, rl, pp⟩ := Post.ok (K := X.K) (RX := RX) (Rel := RelDs X.K) w0 .nil p0
  cases rl
  refine wpAny_Call_Name_kw (ld_glob I hg hm ?_ hdb)
  have h2 := Post.bind (Rel := RelDs X.K) pp
  refine PySem.W.callWith_KW0 (h₀ := X.base) I.ok.mod.kin hk hall (thn (hkw.run pos pins s σ H _ I ⟨ρ1, s1, h1, w1, rs, h2⟩) fun ws s2 ⟨zs, H2, I2, rz, q2⟩ => ⟨I2.kIn, ?_⟩) hpl
  obtain ⟨ρ2, h2, ys, e2, w2, rl2, p2⟩ := q2
  rw [hks]
  split at p2
  · rename_i hl
    have hsp : spM X.K RX F (pickL pm ([] ++ zs)) H2 Q (fun c d H' => W c d σ H') := ⟨ρ2, h2, _, w2, relDs_pick rl2 pm, p2⟩
    have l2 : ws.length = ks.length := by rw [← rz.length, ← Paired.length rl2]; exact hl.2
    exact run_fnM (args := ⟨[], ks.zip ws⟩) M c hr (hb s2 [] ws rfl l2) I2 (vals_pick rz pm) hsp
  · exact p2.elim
end
end MV

/-! MV7: the end of a law. -/
namespace MV
open PySem PySem.Spec PyProof.Rows L2

/-- the script as data -/
def scriptD (ns : List Int) : D := .p (.lst (ns.map .int))
theorem relPs_ints {K : PySem.W.Frag} {ρ : Rho} {H : Hp} : ∀ ns : List Int, RelPs K ρ H (ns.map .int) (ns.map V.int)
  | [] => .nil
  | n :: ns => .cons (.int n) (relPs_ints ns)
/-- the law's def, called at the heap behind the top -/
theorem lawM_call {P : Program} {w : World} {K : PySem.W.Frag} {mg mb : Str → Option Value} {RX : RXT} {k : Nat} {fa a : Addr} {fd : FuncData} {x : Str} {F : Fn} {s₁ : Shared} {vs : List Value} {ns : List Int}
    (KX : K.In s₁.heap) (hns : s₁.heap.Ns mainGlobals mg) (hb : s₁.heap.Ns builtinsNs mb) (hbb : ∀ x : Str, x ≠ "__name__" → mb x = bootBuiltins x) (hlim : s₁.heap.NoLimit) (hg : s₁.gens = #[])
    (ha : s₁.heap.get? a = some { cls := .type "list", data := .seq vs.toArray }) (hi : IntsAre vs ns) (hl : ns.length ≤ sizeLine) (hr : Room k callerA)
    (M : ∀ base : Heap, K.In base → base.Ns mainGlobals mg → FnM P w K mg base RX k fa fd [x] F) (hbind : ∀ (s : Shared) (u : Value), BindsTo s fd ⟨[u], []⟩ [(x, u)])
    (hF : ∃ h, F [scriptD ns] [] = .ok (.p (.bl true)) h) :
    codeAny (model P w) callerA (.call (.ref fa) ⟨[.ref a], []⟩) (fun r s' => r = .ok (.ret (.bool true)) ∧ OldK s₁.heap s'.heap ∧ s'.os = s₁.os ∧ AllBare s'.gens) s₁ := by
  have rv := vals_ints hi
  have lenV := hi.length
  obtain ⟨hF0, hF⟩ := hF
  have core : ∀ H : Hp, Only H → SL K [] H a (ns.map V.int) → HOk P w H s₁.heap → (∀ b, H b ≠ none → b = a) → (H a ≠ none → K.lookup a = none) →
      codeAny (model P w) callerA (.call (.ref fa) ⟨[.ref a], []⟩) (fun r s' => r = .ok (.ret (.bool true)) ∧ OldK s₁.heap s'.heap ∧ s'.os = s₁.os ∧ AllBare s'.gens) s₁ := by
    intro H hO hS hok hA hK
    have noA : ∀ {b : Addr} {o : Obj} {es : Array DictEntry} {ep : Nat}, s₁.heap.get? b = some o → o.data = .dict es ep → H b = none := fun {b o es ep} e d => by
      cases q : H b with
      | none => rfl
      | some u =>
        have eb : b = a := hA b (by rw [q]; simp)
        rw [eb, ha] at e
        cases e
        have d2 : Data.seq vs.toArray _ = Data.dict es ep := d
        cases d2
    have nsK : ∀ {b : Addr} {m : Str → Option Value}, s₁.heap.Ns b m → (hidT s₁.heap H).Ns b m := fun {b m} ⟨o, es, ep, e, d, r⟩ => ⟨o, es, ep, hidT_get e (noA e d), d, r⟩
    have hKb : K.In (hidT s₁.heap H) := fun b o e => hidT_get (KX b o e) (by
      cases q : H b with
      | none => rfl
      | some u =>
        have eb : b = a := hA b (by rw [q]; simp)
        rw [eb] at e q
        rw [hK (by rw [q]; simp)] at e
        cases e)
    have hM : Mod K mg (hidT s₁.heap H) := ⟨hKb, nsK hns, ⟨mb, nsK hb, hbb⟩, let ⟨mc, h1, h2⟩ := hlim; ⟨mc, nsK h1, h2⟩⟩
    have e0 : Env0 P w K mg (hidT s₁.heap H) callerA [] s₁ H := ⟨rfl, hM, fun b o e => of_hidT e, Nat.le_of_eq (hidT_size _ _), trivial, fun b hb => absurd (show b ∈ ([] : List Addr) from hb) (by simp), hok, .of_eq hg⟩
    have w0 : RelW K [] H [] := ⟨rfl, fun n m a h => by simp at h, fun n o h => by simp at h, fun n a h => by simp at h⟩
    have hsp : spM K RX F [.ref a] H (fun v _ => v = .bl true) (fun _ _ _ => False) := by
      refine ⟨[], [], [scriptD ns], w0, .cons (.p (.lst hS (relPs_ints ns))) .nil, ?_⟩
      rw [hF]
      intro ρ' H' v e w r
      cases r with
      | p r => cases r; rfl
    refine codeAny_mono ((M _ hKb (nsK hns)).run callerA [] s₁ H ⟨[.ref a], []⟩ [.ref a] [.ref a] _ _ hr rfl e0 (hbind s₁ (.ref a)) (.cons rfl .nil) hsp) fun r s' h => ?_
    cases r with
    | error e =>
      obtain ⟨_, _, _, _, _, _, _, _, _, _, _, _, z⟩ := (show L2.CX P w [] H s₁ (fun _ _ _ => False) e s' from h)
      exact z.elim
    | ok fl =>
      cases fl with
      | next => exact False.elim h
      | brk => exact False.elim h
      | cont => exact False.elim h
      | ret u =>
        obtain ⟨v, H', os, bare, un, hok', r', q⟩ := h
        have qv : v = .bl true := q
        rw [qv] at r'
        obtain rfl : u = Value.bool true := r'
        refine ⟨rfl, OldK.of_keep fun b o e => ?_, os, bare⟩
        cases qb : H b with
        | none => exact un.keep b o e qb (by intro z; exact absurd (show b ∈ ([] : List Addr) from z) (by simp)) (by simp)
        | some u =>
          rcases hO b with z | ⟨ob, xs, z⟩
          · rw [qb] at z; cases z
          · obtain ⟨e1, _⟩ := hok b _ z
            obtain ⟨e2, _⟩ := hok' b _ (un.frzs b ob _ z)
            rw [e] at e1; cases e1
            exact e2
  cases hk : K.lookup a with
  | some o =>
    have e := KX a o hk
    rw [ha] at e
    cases e
    refine core (fun _ => none) (fun _ => .inl rfl) (.inr (.inr ⟨_, vs.toArray, _, hk, rfl, rfl, rfl, by rw [List.size_toArray, lenV]; exact hl, by simpa using rv⟩)) (fun b u z => nomatch (show (none : Option HO) = some u from z)) (fun b z => absurd rfl z) fun z => absurd rfl z
  | none =>
    have nl : ¬ Live [] a := fun ⟨n, hn⟩ => by simp at hn
    refine core (fun b => if b = a then some (.frz { cls := .type "list", data := .seq vs.toArray } (.lst (ns.map V.int))) else none) (fun b => ?_) (.inl ⟨.inr ⟨{ cls := .type "list", data := .seq vs.toArray }, if_pos rfl⟩, nl⟩) (fun b u z => ?_) (fun b z => ?_) fun _ => hk
    · by_cases hb : b = a
      · exact .inr ⟨_, _, if_pos hb⟩
      · exact .inl (if_neg hb)
    · by_cases hb : b = a
      · have z2 := (if_pos hb).symm.trans z
        cases z2
        rw [hb]
        exact ⟨ha, by rw [List.length_map]; exact hl, vs, _, rv, ha⟩
      · have z2 := (if_neg hb).symm.trans z
        cases z2
    · by_cases hb : b = a
      · exact hb
      · exact absurd (if_neg hb) z
/-- the same with a bound on the script's bits -/
theorem walkM {l : PySem.W.OpenLaw} {n k : Nat} {q : Program} {loose : List Str} {XP : (Str → Option Value) → Heap → Prop} {YP : World → Heap → Prop} {d : DefRec} {x : Str}
    (hn : l.most = some n) (hn2 : n ≤ sizeLine) (hdf : d.params.defaults = []) (hr : Room k callerA)
    (F : ∀ (w : World) (mg : Str → Option Value) (fa : Addr) (h : Heap), YP w h → h.Ns mainGlobals mg → mg d.name = some (.ref fa) →
      ∃ (K : PySem.W.Frag) (fd : FuncData) (f : Fn) (RX : RXT), K.In h ∧ (∀ (s : Shared) (u : Value), BindsTo s fd ⟨[u], []⟩ [(x, u)]) ∧
        (∀ ns : List Int, ns.length ≤ n → ∃ h, f [scriptD ns] [] = .ok (.p (.bl true)) h) ∧
        ∀ base : Heap, K.In base → base.Ns mainGlobals mg → FnM l.prog w K mg base RX k fa fd [x] f) :
    PySem.W.WalkO q loose XP YP l.row.toRowW d [] (fun f vs => PySem.call f vs) := by
  refine Att.attach_call hn hdf fun w s₀ s₁ mg mb fa o pm cd doc a vs ns G Y ho hd hcd hmg hobj hints hlen hg => ?_
  obtain ⟨K, fd, f, RX, KX, hb, hf, hF⟩ := F w mg fa _ Y G.T.g hmg
  exact lawM_call KX G.T.g G.T.b G.T.builtins G.T.nolimit hg hobj hints (Nat.le_trans hlen hn2) hr hF hb (hf ns hlen)
end MV

/-! MV8: operations by values. -/
namespace MV
open PySem PySem.Spec PyProof.Rows L2

/-! ### helpers -/
theorem OpR.or {X : Cx} {f : Value → Value → Sem Value} {r r' : R2} (h : OpR X f r) (h' : OpR X f r') : OpR X f (fun x y H Q => r x y H Q ∨ r' x y H Q) := by
  intro pins s σ H x y v u Q I rx ry q
  rcases q with q | q
  · exact h pins s σ H x y v u Q I rx ry q
  · exact h' pins s σ H x y v u Q I rx ry q
theorem CallR.or {X : Cx} {f : Value} {r r' : List V → Hp → VK → Prop} (h : CallR X f r) (h' : CallR X f r') : CallR X f (fun xs H Q => r xs H Q ∨ r' xs H Q) := by
  intro pins s σ H x v Q I rx q
  rcases q with q | q
  · exact h pins s σ H x v Q I rx q
  · exact h' pins s σ H x v Q I rx q
theorem PE.or {X : Cx} {e : Expr} {t t' : TE} (h : PE X e t) (h' : PE X e t') : PE X e (fun σ H Q => t σ H Q ∨ t' σ H Q) := ⟨fun pins s σ H Q I q => by
  rcases q with q | q
  · exact h.run pins s σ H Q I q
  · exact h'.run pins s σ H Q I q⟩
theorem PS.or {X : Cx} {e : Stmt} {t t' : TS} (h : PS X e t) (h' : PS X e t') : PS X e (fun D σ H => t D σ H ∨ t' D σ H) := ⟨fun pins s σ H Q I q => by
  rcases q with q | q
  · exact h.run pins s σ H Q I q
  · exact h'.run pins s σ H Q I q⟩
theorem PC.or {X : Cx} {op : CmpOp} {a b : Expr} {t t' : TE} (h : PC X op a b t) (h' : PC X op a b t') : PC X op a b (fun σ H Q => t σ H Q ∨ t' σ H Q) := ⟨fun pins s σ H Q I q => by
  rcases q with q | q
  · exact h.run pins s σ H Q I q
  · exact h'.run pins s σ H Q I q⟩
theorem PC.imp {X : Cx} {op : CmpOp} {a b : Expr} {t t' : TE} (p : PC X op a b t) (h : ∀ σ H Q, t' σ H Q → t σ H Q) : PC X op a b t' := ⟨fun pins s σ H Q I q => p.run pins s σ H Q I (h σ H Q q)⟩
theorem PC.ofR {X : Cx} {op : CmpOp} {a b : Expr} {ta tb : TE} {r : R2} (ho : OpR X (compareOp op) r) (ha : PE X a ta) (hb : PE X b tb) : PC X op a b (tOp r ta tb) := ⟨fun pins s σ H Q I h => binT ha hb I h fun v u s2 x y H2 I2 rx ry q => ho pins s2 σ H2 x y v u Q I2 rx ry q⟩

def isInt64 (i : Int) : Bool := decide (i.natAbs < 18446744073709551616)
theorem isInt64_ok {i : Int} (h : isInt64 i = true) : -(2 ^ 64) < i ∧ i < 2 ^ 64 := by
  unfold isInt64 at h
  rw [decide_eq_true_eq] at h
  omega
theorem isInt64_of {i : Int} (h : -1000000000000000 ≤ i ∧ i ≤ 1000000000000000) : isInt64 i = true := by
  unfold isInt64
  rw [decide_eq_true_eq]
  omega
/-- the items of a list -/
def lstD (d : D) (h : VH) : Option (List P) := match d with
  | .p (.lst l) => some l
  | .ob n => match h[n]? with
    | some (.lst l) => some l
    | _ => none
  | _ => none
/-- the items of a tuple -/
def tupD (d : D) : Option (List P) := match d with
  | .p (.tup l) => some l
  | _ => none
/-- a dict -/
def dctD (d : D) (h : VH) : Option (List (Key × P)) := match d with
  | .p (.dct l) => some l
  | .ob n => match h[n]? with
    | some (.dK l) => some l
    | _ => none
  | _ => none
section
variable {K : PySem.W.Frag} {ρ : Rho} {H : Hp} {h : VH} {d : D} {v : V} {l : List P}
theorem lstD_ok (w : RelW K ρ H h) (r : RelD K ρ H d v) (e : lstD d h = some l) : ∃ a xs, v = .ref a ∧ SqL K H a xs ∧ RelPs K ρ H l xs := by
  cases r with
  | p r =>
    cases r with
    | lst q r => cases e; exact ⟨_, _, rfl, q.seq, r⟩
    | _ => cases e
  | ob hn hb =>
    unfold lstD at e
    dsimp only at e
    split at e
    · rename_i l' e2
      cases e
      obtain ⟨_, xs, h2, h3⟩ := w.get e2 (by intro z; cases z) hb
      exact ⟨_, xs, rfl, .inl (.inl h2), h3⟩
    · cases e
theorem tupD_ok (r : RelD K ρ H d v) (e : tupD d = some l) : ∃ a xs, v = .ref a ∧ SqT K H a xs ∧ RelPs K ρ H l xs := by
  cases r with
  | p r =>
    cases r with
    | tup q r => cases e; exact ⟨_, _, rfl, q.seq, r⟩
    | _ => cases e
  | ob hn hb => cases e
theorem dctD_ok {kvs : List (Key × P)} (w : RelW K ρ H h) (r : RelD K ρ H d v) (e : dctD d h = some kvs) : ∃ a vs, v = .ref a ∧ Rd H a (.dK vs) ∧ RelKV K ρ H kvs vs := by
  cases r with
  | p r =>
    cases r with
    | dct q n r => cases e; exact ⟨_, _, rfl, q, r⟩
    | _ => cases e
  | ob hn hb =>
    unfold dctD at e
    dsimp only at e
    split at e
    · rename_i l' e2
      cases e
      obtain ⟨_, xs, h2, h3⟩ := w.get e2 (by intro z; cases z) hb
      exact ⟨_, xs, rfl, .inl h2, h3⟩
    · cases e
end

/-! ### ints, texts, tuples, lists: + - * // % ** -/
def opAdd : Op2 := fun a b h => match a, b with
  | .p (.int i), .p (.int j) => .ok (.p (.int (i + j))) h
  | .p (.str i), .p (.str j) => if i.length + j.length ≤ sizeLine then .ok (.p (.str (i ++ j))) h else .bad
  | .p (.tup l), .p (.tup m) => if l.length + m.length ≤ sizeLine then .ok (.p (.tup (l ++ m))) h else .bad
  | a, b => match lstD a h, lstD b h with
    | some l, some m => if l.length + m.length ≤ sizeLine then .ok (.p (.lst (l ++ m))) h else .bad
    | _, _ => .bad
def rCatS (K : PySem.W.Frag) : R2 := fun x y H Q => ∃ a b xs ys, x = .ref a ∧ y = .ref b ∧ SqL K H a xs ∧ SqL K H b ys ∧ xs.length + ys.length ≤ sizeLine ∧ ∀ p, H p = none → Q (.ref p) (upd H p (.lst (xs ++ ys)))
def rAdd (K : PySem.W.Frag) : R2 := fun x y H Q => (rI0 (fun i j => .int (i + j)) x y H Q) ∨ (∃ i j, x = .str i ∧ y = .str j ∧ i.length + j.length ≤ sizeLine ∧ Q (.str (i ++ j)) H) ∨ rCatA K x y H Q ∨ rCatS K x y H Q
section
variable {X : Cx}
theorem op_catS : OpR X (binaryOp .Add) (rCatS X.K) := by
  intro pins s σ H x y v u Q I rx ry h
  obtain ⟨l, b, xs, zs, rfl, rfl, hH, hB, hz, q⟩ := h
  cases rx
  cases ry
  obtain ⟨its, r, ⟨o, n, ho, hc, hd0, hd⟩, hl⟩ := I.list hH
  obtain ⟨its2, r2, ⟨o2, n2, ho2, hc2, hd02, hd2⟩, hl2⟩ := I.list hB
  obtain ⟨oc, od, dt, sl⟩ := o
  obtain ⟨oc2, od2, dt2, sl2⟩ := o2
  simp only at hc hd hc2 hd2 hd0 hd02
  subst hc hd hc2 hd2 hd0 hd02
  have l1 := r.length
  have l2 := r2.length
  refine concat_meets ⟨_, ho, rfl⟩ ⟨_, ho2, rfl⟩ noFill_list_add seq_list_add PySem.F.slot_list_add PySem.F.entry_list_add (PySem.F.args_list_add_2 _ _) (list_addW l b its.toArray its2.toArray n n2 _ _ sl sl2 (by rw [List.size_toArray, List.size_toArray]; omega)) ⟨ho, ho2, ?_⟩
  have ea : its.toArray ++ its2.toArray = (its ++ its2).toArray := by simp
  rw [ea]
  exact ⟨.ref _, _, I.lnew (t' := s.toks) (r.append r2) (by rw [List.length_append]; omega), rfl, q _ I.fresh⟩
theorem o_add : OpR X (binaryOp .Add) (rAdd X.K) := OpR.or op_add (OpR.or op_add_str (OpR.or op_catA op_catS))
theorem ov_add {K : PySem.W.Frag} {RX : RXT} : OpV K RX (rAdd K) opAdd := fun ρ H h a b v u Q E w ra rb p => by
  unfold opAdd at p
  split at p
  · cases ra with | p ra => cases ra; cases rb with | p rb => cases rb; exact .inl ⟨_, _, rfl, rfl, Post.ok w (.p (.int _)) p⟩
  · split at p
    · rename_i hl
      cases ra with | p ra => cases ra; cases rb with | p rb => cases rb; exact .inr (.inl ⟨_, _, rfl, rfl, hl, Post.ok w (.p (.str _)) p⟩)
    · exact p.elim
  · split at p
    · rename_i hl
      cases ra with | p ra => cases ra with | tup qa la => cases rb with | p rb => cases rb with | tup qb lb =>
                  refine .inr (.inr (.inl ⟨_, _, _, _, rfl, rfl, qa.seq, qb.seq, by rw [← la.len, ← lb.len]; exact hl, fun e => ?_, fun _ e => ?_, fun _ _ z hz => p _ _ _ (.laid hz) (w.laid hz) (.p (w.tupP hz (la.app lb)))⟩))
                  · subst e
                    cases la
                    exact Post.ok w (.p (.tup qb lb)) p
                  · subst e
                    cases lb
                    rw [List.append_nil] at p
                    exact Post.ok w (.p (.tup qa la)) p
    · exact p.elim
  · split at p
    · rename_i l m el em
      split at p
      · rename_i hl
        obtain ⟨a', xs, rfl, qa, la⟩ := lstD_ok w ra el
        obtain ⟨b', ys, rfl, qb, lb⟩ := lstD_ok w rb em
        exact .inr (.inr (.inr ⟨_, _, _, _, rfl, rfl, qa, qb, by rw [← la.len, ← lb.len]; exact hl, fun z hz => p _ _ _ (.laid hz) (w.laid hz) (.p (w.lstP hz (la.app lb)))⟩))
      · exact p.elim
    · exact p.elim
/-- ints in, under a test, a value out -/
def opInt (c : Int → Int → Bool) (g : Int → Int → P) : Op2 := fun a b h => match a, b with
  | .p (.int i), .p (.int j) => if c i j = true then .ok (.p (g i j)) h else .bad
  | _, _ => .bad
theorem ov_int {K : PySem.W.Frag} {RX : RXT} {C : Int → Int → Prop} {c : Int → Int → Bool} {g : Int → Int → P} {gv : Int → Int → V} (hc : ∀ i j, c i j = true → C i j) (hg : ∀ ρ H i j, RelP K ρ H (g i j) (gv i j)) : OpV K RX (rI C gv) (opInt c g) := fun ρ H h a b v u Q E w ra rb p => by
  unfold opInt at p
  split at p
  · split at p
    · rename_i hk
      cases ra with | p ra => cases ra; cases rb with | p rb => cases rb; exact ⟨_, _, rfl, rfl, hc _ _ hk, Post.ok w (.p (hg _ _ _ _)) p⟩
    · exact p.elim
  · exact p.elim
def opInt0 (g : Int → Int → P) : Op2 := fun a b h => match a, b with
  | .p (.int i), .p (.int j) => .ok (.p (g i j)) h
  | _, _ => .bad
theorem ov_int0 {K : PySem.W.Frag} {RX : RXT} {g : Int → Int → P} {gv : Int → Int → V} (hg : ∀ ρ H i j, RelP K ρ H (g i j) (gv i j)) : OpV K RX (rI0 gv) (opInt0 g) := fun ρ H h a b v u Q E w ra rb p => by
  unfold opInt0 at p
  split at p
  · cases ra with | p ra => cases ra; cases rb with | p rb => cases rb; exact ⟨_, _, rfl, rfl, Post.ok w (.p (hg _ _ _ _)) p⟩
  · exact p.elim
def opSub : Op2 := opInt0 fun i j => .int (i - j)
theorem ov_sub {K : PySem.W.Frag} {RX : RXT} : OpV K RX (rI0 fun i j => .int (i - j)) opSub := ov_int0 fun _ _ _ _ => .int _
def opMulI : Op2 := opInt (fun i j => isInt64 i || isInt64 j) fun i j => .int (i * j)
theorem ov_mulI {K : PySem.W.Frag} {RX : RXT} : OpV K RX (rI CMul fun i j => .int (i * j)) opMulI := ov_int (fun i j h => by
  rcases Bool.or_eq_true_iff.mp h with h | h
  · exact .inl (isInt64_ok h)
  · exact .inr (isInt64_ok h)) fun _ _ _ _ => .int _
def opMod : Op2 := opInt (fun _ j => decide (0 < j)) fun i j => .int (i % j)
theorem ov_mod {K : PySem.W.Frag} {RX : RXT} : OpV K RX (rI (fun _ j => 0 < j) fun i j => .int (i % j)) opMod := ov_int (fun i j h => of_decide_eq_true h) fun _ _ _ _ => .int _
def opFdiv : Op2 := opInt (fun _ j => decide (0 < j) && decide (j < 1073741824)) fun i j => .int (i / j)
theorem ov_fdiv {K : PySem.W.Frag} {RX : RXT} : OpV K RX (rI CDiv fun i j => .int (i / j)) opFdiv := ov_int (fun i j h => by
  rw [Bool.and_eq_true, decide_eq_true_eq, decide_eq_true_eq] at h
  exact h) fun _ _ _ _ => .int _
def opPow : Op2 := opInt (fun i j => decide (0 ≤ j) && (decide (j ≤ 1000000) && decide (i.natAbs < 2 ^ 64))) fun i j => .int (i ^ j.toNat)
theorem ov_pow {K : PySem.W.Frag} {RX : RXT} : OpV K RX (rI CPow fun i j => .int (i ^ j.toNat)) opPow := ov_int (fun i j h => by
  rw [Bool.and_eq_true, Bool.and_eq_true, decide_eq_true_eq, decide_eq_true_eq, decide_eq_true_eq] at h
  exact h) fun _ _ _ _ => .int _
def opNeg : Op1 := fun a h => match a with
  | .p (.int i) => .ok (.p (.int (-i))) h
  | _ => .bad
theorem uv_neg {K : PySem.W.Frag} {RX : RXT} : UnV K RX (rU fun i => .int (-i)) opNeg := fun ρ H h a v Q E w ra p => by
  unfold opNeg at p
  split at p
  · cases ra with | p ra => cases ra; exact ⟨_, rfl, Post.ok w (.p (.int _)) p⟩
  · exact p.elim
/-! ### comparisons of ints -/
def opLt : Op2 := opInt0 fun i j => .bl (decide (i < j))
def opLe : Op2 := opInt0 fun i j => .bl (decide (i ≤ j))
def opGt : Op2 := opInt0 fun i j => .bl (decide (j < i))
def opGe : Op2 := opInt0 fun i j => .bl (decide (j ≤ i))
theorem ov_lt {K : PySem.W.Frag} {RX : RXT} : OpV K RX (rI0 fun i j => .bl (decide (i < j))) opLt := ov_int0 fun _ _ _ _ => .bl _
theorem ov_le {K : PySem.W.Frag} {RX : RXT} : OpV K RX (rI0 fun i j => .bl (decide (i ≤ j))) opLe := ov_int0 fun _ _ _ _ => .bl _
theorem ov_gt {K : PySem.W.Frag} {RX : RXT} : OpV K RX (rI0 fun i j => .bl (decide (j < i))) opGt := ov_int0 fun _ _ _ _ => .bl _
theorem ov_ge {K : PySem.W.Frag} {RX : RXT} : OpV K RX (rI0 fun i j => .bl (decide (j ≤ i))) opGe := ov_int0 fun _ _ _ _ => .bl _
theorem rI0_mono {gv : Int → Int → V} : ∀ x y H (Q Q' : VK), (∀ v H', Q v H' → Q' v H') → rI0 gv x y H Q → rI0 gv x y H Q' := fun x y H Q Q' hq ⟨i, j, e1, e2, q⟩ => ⟨i, j, e1, e2, hq _ _ q⟩
end
end MV

/-! MV9: ==, is, in, subscripts, slices, stores. -/
namespace MV
open PySem PySem.Spec PyProof.Rows L2

/-! ### data as the model's data -/
mutual
def P.same : P → P → Bool
  | .non, .non => true
  | .bl a, .bl b => a == b
  | .int a, .int b => decide (a = b)
  | .str a, .str b => decide (a = b)
  | .tup l, .tup m => sameL l m
  | .lst l, .lst m => sameL l m
  | .rep x, .rep y => P.same x y
  | _, _ => false
def sameL : List P → List P → Bool
  | [], [] => true
  | x :: l, y :: m => P.same x y && sameL l m
  | _, _ => false
end
mutual
theorem P.same_eq : ∀ (x y : P), P.same x y = true → x = y
  | .non, y, h => by cases y <;> first | rfl | (simp [P.same] at h)
  | .bl a, y, h => by cases y <;> simp [P.same] at h; rw [h]
  | .int a, y, h => by cases y <;> simp [P.same] at h; rw [h]
  | .str a, y, h => by cases y <;> simp [P.same] at h; rw [h]
  | .tup l, y, h => by cases y <;> simp [P.same] at h; rw [sameL_eq _ _ h]
  | .lst l, y, h => by cases y <;> simp [P.same] at h; rw [sameL_eq _ _ h]
  | .fn a, y, h => by simp [P.same] at h
  | .rep x, y, h => by cases y <;> simp [P.same] at h; rw [P.same_eq _ _ h]
  | .dct l, y, h => by simp [P.same] at h
theorem sameL_eq : ∀ (x y : List P), sameL x y = true → x = y
  | [], y, h => by cases y <;> first | rfl | (simp [sameL] at h)
  | x :: l, y, h => by
    cases y with
    | nil => simp [sameL] at h
    | cons y m =>
      simp [sameL] at h
      rw [P.same_eq _ _ h.1, sameL_eq _ _ h.2]
end
mutual
def P.isD : P → Bool
  | .non | .bl _ | .int _ | .str _ | .rep _ => true
  | .tup l => isDL l
  | .lst l => isDL l
  | .fn _ | .dct _ => false
def isDL : List P → Bool
  | [] => true
  | x :: l => x.isD && isDL l
end
section
variable {K : PySem.W.Frag} {ρ : Rho} {H : Hp} {h : VH}
mutual
theorem RelP.dp : ∀ {x : P} {v : V}, RelP K ρ H x v → x.isD = true → Dp K H v x.py
  | _, _, .non, _ => by unfold P.py; exact .non
  | _, _, .bl b, _ => by unfold P.py; exact .bl b
  | _, _, .int i, _ => by unfold P.py; exact .int i
  | _, _, .str s, _ => by unfold P.py; exact .str s
  | _, _, .rep x, _ => by simp only [P.py]; exact .str _
  | _, _, .tup q r, h => by unfold P.py; exact .tup q.seq (RelPs.dp r (by unfold P.isD at h; exact h))
  | _, _, .lst q r, h => by unfold P.py; exact .lst q.seq (RelPs.dp r (by unfold P.isD at h; exact h))
  | _, _, .fn a, h => by unfold P.isD at h; cases h
  | _, _, .dct _ _ _, h => by unfold P.isD at h; cases h
theorem RelPs.dp : ∀ {x : List P} {v : List V}, RelPs K ρ H x v → isDL x = true → DpAll K H v (pyL x)
  | _, _, .nil, _ => by unfold pyL; exact .nil
  | _, _, .cons a b, h => by
    unfold isDL at h
    rw [Bool.and_eq_true] at h
    unfold pyL
    exact .cons (RelP.dp a h.1) (RelPs.dp b h.2)
end
/-- a value as a datum: a mutable list as it is now -/
def datum (d : D) (h : VH) : Option P := match d with
  | .p x => some x
  | .ob n => match h[n]? with
    | some (.lst l) => some (.lst l)
    | _ => none
def okD (x : P) : Bool := x.isD && SeqAt.shaped x.py
theorem datum_dp {d : D} {v : V} {x : P} (w : RelW K ρ H h) (r : RelD K ρ H d v) (e : datum d h = some x) (i : x.isD = true) : Dp K H v x.py := by
  cases r with
  | p r => cases e; exact r.dp i
  | ob hn hb =>
    unfold datum at e
    dsimp only at e
    split at e
    · rename_i l e2
      cases e
      obtain ⟨_, xs, h2, h3⟩ := w.get e2 (by intro z; cases z) hb
      unfold P.py
      unfold P.isD at i
      exact .lst (.inl (.inl h2)) (h3.dp i)
    · cases e
/-- the text of a datum that is one -/
def txtP : P → Option Str
  | .str s => some s
  | .rep x => some x.py.shown
  | _ => none
theorem txtP_ok {x : P} {v : V} {s : Str} (r : RelP K ρ H x v) (e : txtP x = some s) : v = .str s := by
  cases r <;> first | (cases e; rfl) | cases e
def txtEq : P → P → Option Bool
  | .rep x, .rep y => some (P.same x y || decide (x.py.shown = y.py.shown))
  | x, y => match txtP x, txtP y with
    | some s, some t => some (decide (s = t))
    | _, _ => none
theorem txtEq_ok {x y : P} {v u : V} {k : Bool} (rx : RelP K ρ H x v) (ry : RelP K ρ H y u) (e : txtEq x y = some k) : scal v u = true ∧ decide (v = u) = k := by
  have key : ∀ s t : Str, (decide (V.str s = V.str t)) = decide (s = t) := fun s t => by
    by_cases h : s = t
    · subst h; simp
    · have : V.str s ≠ V.str t := fun e => h (by cases e; rfl)
      simp [h, this]
  unfold txtEq at e
  split at e
  · cases e
    cases rx
    cases ry
    refine ⟨rfl, ?_⟩
    rw [key]
    rename_i a b
    cases hs : P.same a b with
    | false => simp
    | true =>
      have := P.same_eq _ _ hs
      subst this
      simp
  · split at e
    · rename_i s t e1 e2
      cases e
      rw [txtP_ok rx e1, txtP_ok ry e2]
      exact ⟨rfl, key s t⟩
    · cases e
def eqB (a b : D) (h : VH) : Option Bool := match datum a h, datum b h with
  | some x, some y => match txtEq x y with
    | some k => some k
    | none => if okD x && okD y then some (PyData.eqv x.py y.py) else none
  | _, _ => none
def rEqA (K : PySem.W.Frag) : R2 := fun x y H Q => rEq x y H Q ∨ rEqD K x y H Q
def rNeA (K : PySem.W.Frag) : R2 := fun x y H Q => rNe x y H Q ∨ rNeD K x y H Q
theorem eqB_ok {a b : D} {v u : V} {k : Bool} (w : RelW K ρ H h) (ra : RelD K ρ H a v) (rb : RelD K ρ H b u) (e : eqB a b h = some k) :
    (scal v u = true ∧ decide (v = u) = k) ∨ ∃ d d', Dp K H v d ∧ Dp K H u d' ∧ SeqAt.shaped d = true ∧ SeqAt.shaped d' = true ∧ PyData.eqv d d' = k := by
  unfold eqB at e
  split at e
  · rename_i x y ex ey
    split at e
    · rename_i k' ek
      cases e
      cases ra with
      | p ra =>
        cases rb with
        | p rb => cases ex; cases ey; exact .inl (txtEq_ok ra rb ek)
        | ob hn hb =>
          cases ex
          exfalso
          unfold datum at ey
          dsimp only at ey
          split at ey
          · cases ey
            unfold txtEq at ek
            split at ek
            · contradiction
            · split at ek
              · rename_i h1 h2; cases h2
              · cases ek
          · cases ey
      | ob hn hb =>
        exfalso
        unfold datum at ex
        dsimp only at ex
        split at ex
        · cases ex
          unfold txtEq at ek
          split at ek
          · contradiction
          · split at ek
            · rename_i h1 h2; cases h1
            · cases ek
        · cases ex
    · split at e
      · rename_i hok
        cases e
        rw [Bool.and_eq_true] at hok
        obtain ⟨h1, h2⟩ := hok
        unfold okD at h1 h2
        rw [Bool.and_eq_true] at h1 h2
        exact .inr ⟨_, _, datum_dp w ra ex h1.1, datum_dp w rb ey h2.1, h1.2, h2.2, rfl⟩
      · cases e
  · cases e
def opEq : Op2 := fun a b h => match eqB a b h with
  | some k => .ok (.p (.bl k)) h
  | none => .bad
def opNe : Op2 := fun a b h => match eqB a b h with
  | some k => .ok (.p (.bl (!k))) h
  | none => .bad
theorem ov_eq {RX : RXT} : OpV K RX (rEqA K) opEq := fun ρ H h a b v u Q E w ra rb p => by
  unfold opEq at p
  split at p
  · rename_i k ek
    rcases eqB_ok w ra rb ek with ⟨h1, h2⟩ | ⟨d, d', h1, h2, h3, h4, h5⟩
    · exact .inl ⟨h1, by rw [h2]; exact Post.ok w (.p (.bl _)) p⟩
    · exact .inr ⟨d, d', h1, h2, h3, h4, by rw [h5]; exact Post.ok w (.p (.bl _)) p⟩
  · exact p.elim
theorem ov_ne {RX : RXT} : OpV K RX (rNeA K) opNe := fun ρ H h a b v u Q E w ra rb p => by
  unfold opNe at p
  split at p
  · rename_i k ek
    rcases eqB_ok w ra rb ek with ⟨h1, h2⟩ | ⟨d, d', h1, h2, h3, h4, h5⟩
    · exact .inl ⟨h1, by rw [h2]; exact Post.ok w (.p (.bl _)) p⟩
    · exact .inr ⟨d, d', h1, h2, h3, h4, by rw [h5]; exact Post.ok w (.p (.bl _)) p⟩
  · exact p.elim
end
theorem o_eq {X : Cx} (hu : X.A.units + 64 < cLine) : OpR X (compareOp .Eq) (rEqA X.K) := OpR.or op_eq (op_eqD hu)
theorem o_ne {X : Cx} (hu : X.A.units + 64 < cLine) : OpR X (compareOp .NotEq) (rNeA X.K) := OpR.or op_ne (op_neD hu)

/-! ### is -/
def isB (a b : D) : Option Bool := match b with
  | .p .non => match a with
    | .p .non => some true
    | _ => some false
  | .p (.bl k) => match a with
    | .p (.bl j) => some (decide (j = k))
    | _ => none
  | _ => none
def opIs : Op2 := fun a b h => match isB a b with
  | some k => .ok (.p (.bl k)) h
  | none => .bad
def opNotIs : Op2 := fun a b h => match isB a b with
  | some k => .ok (.p (.bl (!k))) h
  | none => .bad
def rIsA : R2 := fun x y H Q => (y = .non ∧ Q (.bl (decide (x = .non))) H) ∨ rIsB x y H Q
def rNotA : R2 := fun x y H Q => (y = .non ∧ Q (.bl (!decide (x = .non))) H) ∨ rNotB x y H Q
section
variable {K : PySem.W.Frag} {ρ : Rho} {H : Hp} {h : VH}
theorem isB_ok {a b : D} {v u : V} {k : Bool} (ra : RelD K ρ H a v) (rb : RelD K ρ H b u) (e : isB a b = some k) : (u = .non ∧ decide (v = .non) = k) ∨ ∃ i j : Bool, v = .bl i ∧ u = .bl j ∧ decide (i = j) = k := by
  unfold isB at e
  split at e
  · cases rb with | p rb => cases rb; refine .inl ⟨rfl, ?_⟩; split at e
                            · cases e; cases ra with | p ra => cases ra; rfl
                            · rename_i hne
                              cases e
                              refine decide_eq_false fun ev => ?_
                              subst ev
                              cases ra with
                              | p ra => cases ra; exact hne rfl
  · split at e
    · cases e; cases ra with | p ra => cases ra; cases rb with | p rb => cases rb; exact .inr ⟨_, _, rfl, rfl, rfl⟩
    · cases e
  · cases e
theorem ov_is {RX : RXT} : OpV K RX rIsA opIs := fun ρ H h a b v u Q E w ra rb p => by
  unfold opIs at p
  split at p
  · rename_i k ek
    rcases isB_ok ra rb ek with ⟨h1, h2⟩ | ⟨i, j, h1, h2, h3⟩
    · exact .inl ⟨h1, by rw [h2]; exact Post.ok w (.p (.bl _)) p⟩
    · exact .inr ⟨i, j, h1, h2, by rw [h3]; exact Post.ok w (.p (.bl _)) p⟩
  · exact p.elim
theorem ov_notIs {RX : RXT} : OpV K RX rNotA opNotIs := fun ρ H h a b v u Q E w ra rb p => by
  unfold opNotIs at p
  split at p
  · rename_i k ek
    rcases isB_ok ra rb ek with ⟨h1, h2⟩ | ⟨i, j, h1, h2, h3⟩
    · exact .inl ⟨h1, by rw [h2]; exact Post.ok w (.p (.bl _)) p⟩
    · exact .inr ⟨i, j, h1, h2, by rw [h3]; exact Post.ok w (.p (.bl _)) p⟩
  · exact p.elim
end
theorem o_is {X : Cx} : OpR X (compareOp .Is) rIsA := OpR.or op_isN op_isBl
theorem o_notIs {X : Cx} : OpR X (compareOp .IsNot) rNotA := OpR.or op_notN op_notBl

/-! ### dicts -/
def keyD : D → Option Key
  | .p (.int i) => some (.inl i)
  | .p (.str s) => some (.inr s)
  | _ => none
def valP : List (Key × P) → Key → Option P
  | [], _ => none
  | (j, x) :: r, k => if j = k then some x else valP r k
def putP (kvs : List (Key × P)) (k : Key) (v : P) : List (Key × P) := if (kvs.any fun kv => decide (kv.1 = k)) = true then kvs.map (fun kv => if kv.1 = k then (kv.1, v) else kv) else kvs ++ [(k, v)]
section
variable {K : PySem.W.Frag} {ρ : Rho} {H : Hp} {h : VH}
theorem keyD_ok {a : D} {v : V} {k : Key} (r : RelD K ρ H a v) (e : keyD a = some k) : v = kV k := by
  cases r with
  | p r => cases r <;> first | (cases e; rfl) | cases e
  | ob => cases e
theorem valP_ok : ∀ {kvs : List (Key × P)} {vs : List (Key × V)} (k : Key), RelKV K ρ H kvs vs → (valP kvs k = none ∧ valV vs k = none) ∨ ∃ x v, valP kvs k = some x ∧ valV vs k = some v ∧ RelP K ρ H x v
  | _, _, k, .nil => .inl ⟨rfl, rfl⟩
  | _, _, k, .cons (k := j) a b => by
    unfold valP
    by_cases e : j = k
    · rw [if_pos e, valV_pos e]
      exact .inr ⟨_, _, rfl, rfl, a⟩
    · rw [if_neg e, valV_neg e]
      exact valP_ok k b
theorem RelKV.len : ∀ {kvs : List (Key × P)} {vs : List (Key × V)}, RelKV K ρ H kvs vs → kvs.length = vs.length
  | _, _, .nil => rfl
  | _, _, .cons a b => by rw [List.length_cons, List.length_cons, RelKV.len b]
theorem RelKV.any (k : Key) : ∀ {kvs : List (Key × P)} {vs : List (Key × V)}, RelKV K ρ H kvs vs → (kvs.any fun kv => decide (kv.1 = k)) = (vs.any fun kv => decide (kv.1 = k))
  | _, _, .nil => rfl
  | _, _, .cons a b => by rw [List.any_cons, List.any_cons, RelKV.any k b]
theorem RelKV.map (k : Key) {x : P} {v : V} (r : RelP K ρ H x v) : ∀ {kvs : List (Key × P)} {vs : List (Key × V)}, RelKV K ρ H kvs vs → RelKV K ρ H (kvs.map fun kv => if kv.1 = k then (kv.1, x) else kv) (vs.map fun kv => if kv.1 = k then (kv.1, v) else kv)
  | _, _, .nil => .nil
  | _, _, .cons (k := j) a b => by
    rw [List.map_cons, List.map_cons]
    by_cases e : j = k
    · rw [if_pos e, if_pos e]; exact .cons r (RelKV.map k r b)
    · rw [if_neg e, if_neg e]; exact .cons a (RelKV.map k r b)
theorem RelKV.app : ∀ {d d' : List (Key × P)} {v v' : List (Key × V)}, RelKV K ρ H d v → RelKV K ρ H d' v' → RelKV K ρ H (d ++ d') (v ++ v')
  | _, _, _, _, .nil, s => s
  | _, _, _, _, .cons a b, s => .cons a (RelKV.app b s)
theorem RelKV.put (k : Key) {x : P} {v : V} {kvs : List (Key × P)} {vs : List (Key × V)} (rk : RelKV K ρ H kvs vs) (r : RelP K ρ H x v) : RelKV K ρ H (putP kvs k x) (putK vs k v) := by
  unfold putP putK
  rw [rk.any k]
  split
  · exact rk.map k r
  · exact rk.app (.cons r .nil)
end
end MV

/-! MV10: in, subscripts, slices, stores. -/
namespace MV
open PySem PySem.Spec PyProof.Rows L2

/-! ### two rules for one expression, chosen by the values -/
theorem f2_alt {g g1 g2 : Op2} (hg : ∀ x y h, g x y h = g1 x y h ∨ g x y h = g2 x y h) (fa fb : FE) (s : Sg) (h : VH) : f2 g fa fb s h = f2 g1 fa fb s h ∨ f2 g fa fb s h = f2 g2 fa fb s h := by
  unfold f2
  cases fa s h with
  | bad => exact .inl rfl
  | exc => exact .inl rfl
  | ok x h1 =>
    show (fb s h1).bind _ = (fb s h1).bind _ ∨ (fb s h1).bind _ = (fb s h1).bind _
    cases fb s h1 with
    | bad => exact .inl rfl
    | exc => exact .inl rfl
    | ok y h2 => exact hg x y h2
theorem TV_alt {K : PySem.W.Frag} {RX : RXT} {W : WX} {g g1 g2 : Op2} (hg : ∀ x y h, g x y h = g1 x y h ∨ g x y h = g2 x y h) {fa fb : FE} {σ : L2.St} {H : Hp} {Q : VK} (t : TV K RX W (f2 g fa fb) σ H Q) :
    TV K RX W (f2 g1 fa fb) σ H Q ∨ TV K RX W (f2 g2 fa fb) σ H Q := by
  obtain ⟨ρ, s, h, w, rs, p⟩ := t
  rcases f2_alt hg fa fb s h with e | e
  · exact .inl ⟨ρ, s, h, w, rs, by rw [← e]; exact p⟩
  · exact .inr ⟨ρ, s, h, w, rs, by rw [← e]; exact p⟩

/-! ### in -/
def flatP : P → Bool
  | .non | .bl _ | .int _ | .str _ | .rep _ => true
  | _ => false
def inL (x : P) (l : List P) : Option Bool := if flatP x && l.all flatP then some (l.any fun z => PyData.eqv z.py x.py) else if okD x && okD (.lst l) then some (l.any fun z => PyData.eqv z.py x.py) else none
def inT (x : P) (l : List P) : Option Bool := if flatP x && l.all flatP then some (l.any fun z => PyData.eqv z.py x.py) else none
section
variable {K : PySem.W.Frag} {ρ : Rho} {H : Hp} {h : VH}
theorem flat_ok {x : P} {v : V} (r : RelP K ρ H x v) (e : flatP x = true) : flatV v = true := by
  cases r <;> first | rfl | cases e
theorem flat_eqv {x y : P} {v u : V} (r : RelP K ρ H x v) (r' : RelP K ρ H y u) (e : flatP x = true) (e' : flatP y = true) : eqV v u = PyData.eqv x.py y.py := by
  cases r <;> first | (cases e; done) | (cases r' <;> first | (cases e'; done) | (simp only [P.py, PyData.eqv, eqV]))
theorem flat_all : ∀ {l : List P} {xs : List V}, RelPs K ρ H l xs → l.all flatP = true → xs.all flatV = true
  | _, _, .nil, _ => rfl
  | _, _, .cons a b, h => by
    rw [List.all_cons, Bool.and_eq_true] at h
    rw [List.all_cons, flat_ok a h.1, flat_all b h.2]
    rfl
theorem flat_any {x : P} {v : V} (r : RelP K ρ H x v) (e : flatP x = true) : ∀ {l : List P} {xs : List V}, RelPs K ρ H l xs → l.all flatP = true → inV v xs = l.any fun z => PyData.eqv z.py x.py
  | _, _, .nil, _ => rfl
  | _, _, .cons a b, h => by
    rw [List.all_cons, Bool.and_eq_true] at h
    have := flat_any r e b h.2
    unfold inV at this ⊢
    rw [List.any_cons, List.any_cons, this, flat_eqv a r h.1 e]
theorem any_py (x : PyData) : ∀ l : List P, ((pyL l).any fun z => PyData.eqv z x) = l.any fun z => PyData.eqv z.py x
  | [] => by simp [pyL]
  | y :: l => by simp only [pyL, List.any_cons, any_py x l]
end
/-- in a list or a tuple -/
def opInS : Op2 := fun a b h => match datum a h with
  | some x => match lstD b h with
    | some l => match inL x l with
      | some k => .ok (.p (.bl k)) h
      | none => .bad
    | none => match tupD b with
      | some l => match inT x l with
        | some k => .ok (.p (.bl k)) h
        | none => .bad
      | none => .bad
  | none => .bad
def opNotInS : Op2 := fun a b h => match datum a h with
  | some x => match lstD b h with
    | some l => match inL x l with
      | some k => .ok (.p (.bl (!k))) h
      | none => .bad
    | none => match tupD b with
      | some l => match inT x l with
        | some k => .ok (.p (.bl (!k))) h
        | none => .bad
      | none => .bad
  | none => .bad
/-- among a dict's keys -/
def opInK : Op2 := fun a b h => match dctD b h with
  | some kvs => match keyD a with
    | some k => .ok (.p (.bl (valP kvs k).isSome)) h
    | none => match a with
      | .p .non => .ok (.p (.bl false)) h
      | _ => .bad
  | none => .bad
def opNotInK : Op2 := fun a b h => match dctD b h with
  | some kvs => match keyD a with
    | some k => .ok (.p (.bl (!(valP kvs k).isSome))) h
    | none => match a with
      | .p .non => .ok (.p (.bl true)) h
      | _ => .bad
  | none => .bad
def opIn : Op2 := fun a b h => match dctD b h with
  | some _ => opInK a b h
  | none => opInS a b h
def opNotIn : Op2 := fun a b h => match dctD b h with
  | some _ => opNotInK a b h
  | none => opNotInS a b h
def rInA (K : PySem.W.Frag) : R2 := fun x y H Q => rIn K false x y H Q ∨ rInD K x y H Q
def rNotInA (K : PySem.W.Frag) : R2 := fun x y H Q => rIn K true x y H Q ∨ rNotInD K x y H Q
section
variable {K : PySem.W.Frag} {ρ : Rho} {H : Hp} {h : VH}
theorem datum_flat {d : D} {v : V} {x : P} (r : RelD K ρ H d v) (e : datum d h = some x) (f : flatP x = true) : RelP K ρ H x v := by
  cases r with
  | p r => cases e; exact r
  | ob hn hb =>
    unfold datum at e
    dsimp only at e
    split at e
    · cases e; cases f
    · cases e
theorem inL_ok {a b : D} {v u : V} {x : P} {l : List P} {k : Bool} (w : RelW K ρ H h) (ra : RelD K ρ H a v) (rb : RelD K ρ H b u) (ea : datum a h = some x) (eb : lstD b h = some l) (e : inL x l = some k) :
    (∃ p xs, u = .ref p ∧ SqL K H p xs ∧ flatV v = true ∧ xs.all flatV = true ∧ inV v xs = k) ∨ ∃ d ds, Dp K H v d ∧ Dp K H u (.list ds) ∧ SeqAt.shaped d = true ∧ SeqAt.shaped (.list ds) = true ∧ (ds.any fun z => PyData.eqv z d) = k := by
  obtain ⟨p, xs, eu, q, r⟩ := lstD_ok w rb eb
  unfold inL at e
  split at e
  · rename_i hf
    rw [Bool.and_eq_true] at hf
    cases e
    have ra' := datum_flat ra ea hf.1
    exact .inl ⟨p, xs, eu, q, flat_ok ra' hf.1, flat_all r hf.2, flat_any ra' hf.1 r hf.2⟩
  · split at e
    · rename_i hok
      cases e
      rw [Bool.and_eq_true] at hok
      obtain ⟨h1, h2⟩ := hok
      unfold okD at h1 h2
      rw [Bool.and_eq_true] at h1 h2
      have hd : Dp K H u (.list (pyL l)) := by
        rw [eu]
        refine .lst q (r.dp ?_)
        have := h2.1
        unfold P.isD at this
        exact this
      refine .inr ⟨_, pyL l, datum_dp w ra ea h1.1, hd, h1.2, ?_, any_py _ _⟩
      have := h2.2
      unfold P.py at this
      exact this
    · cases e
theorem ov_inS {RX : RXT} : OpV K RX (rInA K) opInS := fun ρ H h a b v u Q E w ra rb p => by
  unfold opInS at p
  split at p
  · rename_i x ex
    split at p
    · rename_i l el
      split at p
      · rename_i k ek
        rcases inL_ok w ra rb ex el ek with ⟨q, xs, h1, h2, h3, h4, h5⟩ | ⟨d, ds, h1, h2, h3, h4, h5⟩
        · exact .inl ⟨q, xs, h1, .inl h2, h3, h4, by rw [h5]; exact Post.ok w (.p (.bl _)) p⟩
        · exact .inr ⟨d, ds, h1, h2, h3, h4, by rw [h5]; exact Post.ok w (.p (.bl _)) p⟩
      · exact p.elim
    · split at p
      · rename_i l el
        split at p
        · rename_i k ek
          obtain ⟨q, xs, eu, sq, r⟩ := tupD_ok rb el
          unfold inT at ek
          split at ek
          · rename_i hf
            rw [Bool.and_eq_true] at hf
            cases ek
            have ra' := datum_flat ra ex hf.1
            exact .inl ⟨q, xs, eu, .inr sq, flat_ok ra' hf.1, flat_all r hf.2, by rw [flat_any ra' hf.1 r hf.2]; exact Post.ok w (.p (.bl _)) p⟩
          · cases ek
        · exact p.elim
      · exact p.elim
  · exact p.elim
theorem ov_notInS {RX : RXT} : OpV K RX (rNotInA K) opNotInS := fun ρ H h a b v u Q E w ra rb p => by
  unfold opNotInS at p
  split at p
  · rename_i x ex
    split at p
    · rename_i l el
      split at p
      · rename_i k ek
        rcases inL_ok w ra rb ex el ek with ⟨q, xs, h1, h2, h3, h4, h5⟩ | ⟨d, ds, h1, h2, h3, h4, h5⟩
        · exact .inl ⟨q, xs, h1, .inl h2, h3, h4, by rw [h5]; exact Post.ok w (.p (.bl _)) p⟩
        · exact .inr ⟨d, ds, h1, h2, h3, h4, by rw [h5]; exact Post.ok w (.p (.bl _)) p⟩
      · exact p.elim
    · split at p
      · rename_i l el
        split at p
        · rename_i k ek
          obtain ⟨q, xs, eu, sq, r⟩ := tupD_ok rb el
          unfold inT at ek
          split at ek
          · rename_i hf
            rw [Bool.and_eq_true] at hf
            cases ek
            have ra' := datum_flat ra ex hf.1
            exact .inl ⟨q, xs, eu, .inr sq, flat_ok ra' hf.1, flat_all r hf.2, by rw [flat_any ra' hf.1 r hf.2]; exact Post.ok w (.p (.bl _)) p⟩
          · cases ek
        · exact p.elim
      · exact p.elim
  · exact p.elim
end
section
variable {X : Cx} {RX : RXT} {W : WX} {a b : Expr} {fa fb : FE} {pos : Pos}
theorem tInK {K : PySem.W.Frag} {neg : Bool} {g : Op2} (hg : ∀ x y h, g x y h = match dctD y h with
    | some kvs => match keyD x with
      | some k => .ok (.p (.bl (neg.xor (valP kvs k).isSome))) h
      | none => match x with
        | .p .non => .ok (.p (.bl neg)) h
        | _ => .bad
    | none => .bad) {σ : L2.St} {H : Hp} {Q : VK} (t : TV K RX W (f2 g fa fb) σ H Q) :
    TV K RX W fa σ H fun y H1 => TV K RX W fb σ H1 fun x H2 => (∃ a o, x = .ref a ∧ DGet H2 a y o ∧ Q (.bl (neg.xor o.isSome)) H2) ∨ ∃ a kvs, x = .ref a ∧ y = .non ∧ Rd H2 a (.dK kvs) ∧ Q (.bl neg) H2 := by
  refine (TF.bind (k := fun s x h1 => (fb s h1).bind fun y h2 => g x y h2) t).mono fun v H1 q => ?_
  obtain ⟨ρ1, s, h1, x, w1, rs, rl, p⟩ := q
  refine ⟨ρ1, s, h1, w1, rs, (Post.bind (Rel := RelD K) p).imp (fun u H2 q2 => ?_) fun _ _ _ q => q⟩
  obtain ⟨ρ2, h2, y, e2, w2, rl2, p2⟩ := q2
  rw [hg] at p2
  split at p2
  · rename_i kvs ek
    obtain ⟨a, vs, ea, rd, rk⟩ := dctD_ok w2 rl2 ek
    split at p2
    · rename_i k hk
      have ev := keyD_ok (rl.ext e2) hk
      refine .inl ⟨a, valV vs k, ea, .inl ⟨vs, k, rd, ev, rfl⟩, ?_⟩
      rcases valP_ok k rk with ⟨h1, h2⟩ | ⟨x, v, h1, h2, _⟩
      · rw [h2]; rw [h1] at p2; exact Post.ok w2 (.p (.bl _)) p2
      · rw [h2]; rw [h1] at p2; exact Post.ok w2 (.p (.bl _)) p2
    · split at p2
      · have r' := rl.ext e2
        cases r' with | p r' => cases r'; exact .inr ⟨a, vs, ea, rfl, rd, Post.ok w2 (.p (.bl _)) p2⟩
      · exact p2.elim
  · exact p2.elim
theorem vc_in (hu : X.A.units + 65 < cLine) (ha : PE X a (TV X.K RX W fa)) (hb : PE X b (TV X.K RX W fb)) : PC X .In a b (TV X.K RX W (f2 opIn fa fb)) :=
  PC.imp (PC.or (PC.ofR (OpR.or op_in_seq (op_inD hu)) ha hb) (pc_dinN (by omega) ha hb)) fun σ H Q t => by
    rcases TV_alt (g1 := opInS) (g2 := opInK) (fun x y h => by unfold opIn; split <;> simp) t with t | t
    · exact .inl (tOp_of ov_inS t)
    · refine .inr ((tInK (neg := false) (fun x y h => ?_) t).mono fun y H1 q => q.mono fun x H2 q2 => ?_)
      · unfold opInK; simp
      · simpa using q2
theorem vc_notIn (hu : X.A.units + 65 < cLine) (ha : PE X a (TV X.K RX W fa)) (hb : PE X b (TV X.K RX W fb)) : PC X .NotIn a b (TV X.K RX W (f2 opNotIn fa fb)) :=
  PC.imp (PC.or (PC.ofR (OpR.or op_notIn_seq (op_notInD hu)) ha hb) (pc_dnotinN (by omega) ha hb)) fun σ H Q t => by
    rcases TV_alt (g1 := opNotInS) (g2 := opNotInK) (fun x y h => by unfold opNotIn; split <;> simp) t with t | t
    · exact .inl (tOp_of ov_notInS t)
    · refine .inr ((tInK (neg := true) (fun x y h => ?_) t).mono fun y H1 q => q.mono fun x H2 q2 => ?_)
      · unfold opNotInK; simp
      · simpa using q2
/-- from a comparison's walk: as a value, as a test -/
theorem v_pc {op : CmpOp} {f : FE} (h : PC X op a b (TV X.K RX W f)) (h1 : behindInMarks op b = false := by first | exact nobehind _ (by decide) (by decide) | rfl) : PE X (.Compare a [op] [b] pos) (TV X.K RX W f) := pe_cmp h h1
theorem vt_pc {op : CmpOp} {f : FE} (h : PC X op a b (TV X.K RX W f)) (h1 : behindInMarks op b = false := by first | exact nobehind _ (by decide) (by decide) | rfl) : PT X (.Compare a [op] [b] pos) (TB X.K RX W (fun s h => asB (f s h))) :=
  PT.imp (pt_cmp h h1) fun σ H Q t => by
    obtain ⟨ρ, s, h, w, rs, p⟩ := t
    exact ⟨ρ, s, h, w, rs, Post.asB p⟩
end
end MV

/-! MV11: subscripts, slices, stores. -/
namespace MV
open PySem PySem.Spec PyProof.Rows L2

/-! ### a[i] -/
def opIxS : Op2 := fun a b h => match b with
  | .p (.int i) => match lstD a h with
    | some l => match atI l i with
      | some x => .ok (.p x) h
      | none => .bad
    | none => match tupD a with
      | some l => match atI l i with
        | some x => .ok (.p x) h
        | none => .bad
      | none => match a with
        | .p (.str z) => if z.length ≤ sizeLine then match atI z.cps.toList i with
            | some c => .ok (.p (.str ⟨#[c]⟩)) h
            | none => .bad
          else .bad
        | _ => .bad
  | _ => .bad
def opIxK : Op2 := fun a b h => match dctD a h with
  | some kvs => match keyD b with
    | some k => match valP kvs k with
      | some x => .ok (.p x) h
      | none => .bad
    | none => .bad
  | none => .bad
def opIx : Op2 := fun a b h => match dctD a h with
  | some _ => opIxK a b h
  | none => opIxS a b h
section
variable {K : PySem.W.Frag} {ρ : Rho} {H : Hp} {h : VH}
theorem atI_rel {l : List P} {xs : List V} {i : Int} {x : P} (r : RelPs K ρ H l xs) (e : atI l i = some x) : ∃ v, atI xs i = some v ∧ RelP K ρ H x v := by
  unfold atI at e ⊢
  rw [r.len] at e
  cases hi : ixN xs.length i with
  | none => rw [hi] at e; cases e
  | some j =>
    rw [hi] at e
    exact r.get e
theorem ov_ixS {RX : RXT} : OpV K RX (L2.rIx K) opIxS := fun ρ H h a b v u Q E w ra rb p => by
  unfold opIxS at p
  split at p
  · rename_i i
    cases rb with | p rb => cases rb; split at p
                            · rename_i l el
                              split at p
                              · rename_i x ex
                                obtain ⟨q, xs, ev, sq, r⟩ := lstD_ok w ra el
                                obtain ⟨z, hz, rz⟩ := atI_rel r ex
                                exact .inl ⟨q, xs, i, z, ev, rfl, sq, hz, Post.ok w (.p rz) p⟩
                              · exact p.elim
                            · split at p
                              · rename_i l el
                                split at p
                                · rename_i x ex
                                  obtain ⟨q, xs, ev, sq, r⟩ := tupD_ok ra el
                                  obtain ⟨z, hz, rz⟩ := atI_rel r ex
                                  exact .inr (.inl ⟨q, xs, i, z, ev, rfl, sq, hz, Post.ok w (.p rz) p⟩)
                                · exact p.elim
                              · split at p
                                · split at p
                                  · split at p
                                    · rename_i hz _ c hc
                                      cases ra with | p ra => cases ra; exact .inr (.inr ⟨_, i, c, rfl, rfl, hz, hc, Post.ok w (.p (.str _)) p⟩)
                                    · exact p.elim
                                  · exact p.elim
                                · exact p.elim
  · exact p.elim
end
section
variable {X : Cx} {RX : RXT} {W : WX} {a b e : Expr} {fa fb fe : FE} {pos p2 : Pos}
theorem tIxK {K : PySem.W.Frag} {σ : L2.St} {H : Hp} {Q : VK} (t : TV K RX W (f2 opIxK fa fb) σ H Q) : tDGet (TV K RX W fa) (TV K RX W fb) σ H Q := by
  refine (TF.bind (k := fun s x h1 => (fb s h1).bind fun y h2 => opIxK x y h2) t).mono fun v H1 q => ?_
  obtain ⟨ρ1, s, h1, x, w1, rs, rl, p⟩ := q
  refine ⟨ρ1, s, h1, w1, rs, (Post.bind (Rel := RelD K) p).imp (fun u H2 q2 => ?_) fun _ _ _ q => q⟩
  obtain ⟨ρ2, h2, y, e2, w2, rl2, p2⟩ := q2
  unfold opIxK at p2
  split at p2
  · rename_i kvs ek
    obtain ⟨a, vs, ea, rd, rk⟩ := dctD_ok w2 (rl.ext e2) ek
    split at p2
    · rename_i k hk
      have ev := keyD_ok rl2 hk
      split at p2
      · rename_i x' hx
        rcases valP_ok k rk with ⟨h1, h2⟩ | ⟨x, v, h1, h2, h3⟩
        · rw [h1] at hx; cases hx
        · rw [h1] at hx; cases hx
          exact ⟨a, v, ea, .inl ⟨vs, k, rd, ev, h2.symm⟩, Post.ok w2 (.p h3) p2⟩
      · exact p2.elim
    · exact p2.elim
  · exact p2.elim
theorem v_ix (hu : X.A.units + 1 < cLine) (ha : PE X a (TV X.K RX W fa)) (hb : PE X b (TV X.K RX W fb)) (hs : PlainIx b := by exact fun _ _ => rfl) : PE X (.Subscript a b pos) (TV X.K RX W (f2 opIx fa fb)) :=
  PE.imp (PE.or (pe_ix ix_seq ha hb hs) (pe_dget hu ha hb hs)) fun σ H Q t => by
    rcases TV_alt (g1 := opIxS) (g2 := opIxK) (fun x y h => by unfold opIx; split <;> simp) t with t | t
    · exact .inl (tOp_of ov_ixS t)
    · exact .inr (tIxK t)
end

/-! ### slices -/
abbrev FO := Sg → VH → R (Option Int)
abbrev RelO : RelT (Option Int) (Option Int) := fun _ _ a b => a = b
abbrev TOV (K : PySem.W.Frag) (RX : RXT) (W : WX) (f : FO) : TO := TF K RX W RelO f
def oNone : FO := fun _ h => .ok none h
def oSome (a : FE) : FO := fun s h => (a s h).bind fun x h1 => match x with
  | .p (.int i) => .ok (some i) h1
  | _ => .bad
def cutP (l : List P) (lo hi : Option Int) : List P := (l.drop (HT.sIx l.length 0 lo)).take (HT.sIx l.length l.length hi - HT.sIx l.length 0 lo)
def fSl (a : FE) (lo hi : FO) : FE := fun s h => (a s h).bind fun d h1 => (lo s h1).bind fun i h2 => (hi s h2).bind fun j h3 => match lstD d h3 with
  | some l => .ok (.p (.lst (cutP l i j))) h3
  | none => match tupD d with
    | some l => .ok (.p (.tup (cutP l i j))) h3
    | none => .bad
section
variable {K : PySem.W.Frag} {ρ : Rho} {H : Hp} {h : VH}
theorem cutP_rel {l : List P} {xs : List V} (r : RelPs K ρ H l xs) (i j : Option Int) : RelPs K ρ H (cutP l i j) (cutV xs i j) := by
  unfold cutP cutV
  rw [r.len]
  exact (r.drop _).take _
theorem cutP_all {l : List P} {i j : Option Int} (h1 : HT.sIx l.length 0 i = 0) (h2 : HT.sIx l.length l.length j = l.length) : cutP l i j = l := by
  unfold cutP
  rw [h1, h2]
  simp
end
section
variable {X : Cx} {RX : RXT} {W : WX} {a b e : Expr} {fa fb fe : FE} {flo fhi : FO} {lo hi : Option Expr} {pos p2 : Pos}
theorem PO.imp {e : Option Expr} {t t' : TO} (p : PO X e t) (h : ∀ σ H Q, t' σ H Q → t σ H Q) : PO X e t' := ⟨fun pins s σ H Q I q => p.run pins s σ H Q I (h σ H Q q)⟩
theorem vo_none : PO X none (TOV X.K RX W oNone) := PO.imp po_none fun σ H Q t => by
  obtain ⟨ρ, s, h, w, rs, p⟩ := t
  exact Post.ok w rfl p
theorem vo_some (ha : PE X e (TV X.K RX W fe)) : PO X (some e) (TOV X.K RX W (oSome fe)) := PO.imp (po_some ha) fun σ H Q t => by
  refine (TF.bind (Rel := RelD X.K) (k := fun s x h1 => match x with
    | .p (.int i) => .ok (some i) h1
    | _ => .bad) t).mono fun v H1 q => ?_
  obtain ⟨ρ1, s, h1, x, w1, rs, rl, p⟩ := q
  split at p
  · cases rl with | p rl => cases rl; exact ⟨_, rfl, Post.ok w1 rfl p⟩
  · exact p.elim
theorem v_sl (he : PE X e (TV X.K RX W fe)) (hl : PO X lo (TOV X.K RX W flo)) (hh : PO X hi (TOV X.K RX W fhi)) : PE X (.Subscript e (.Slice lo hi none p2) pos) (TV X.K RX W (fSl fe flo fhi)) :=
  PE.imp (pe_slice (L2.SlR.or sl_list sl_tupA) he hl hh) fun σ H Q t => by
    refine (TF.bind (Rel := RelD X.K) (k := fun s d h1 => (flo s h1).bind fun i h2 => (fhi s h2).bind fun j h3 => match lstD d h3 with
      | some l => .ok (D.p (.lst (cutP l i j))) h3
      | none => match tupD d with
        | some l => .ok (.p (.tup (cutP l i j))) h3
        | none => .bad) t).mono fun v H1 q => ?_
    obtain ⟨ρ1, s, h1, d, w1, rs, rl, p⟩ := q
    refine ⟨ρ1, s, h1, w1, rs, (Post.bind (Rel := RelO) p).imp (fun i' H2 q2 => ?_) fun _ _ _ q => q⟩
    obtain ⟨ρ2, h2, i, e2, w2, ei, p2⟩ := q2
    have ei : i = i' := ei
    subst ei
    refine ⟨ρ2, s, h2, w2, rs.ext e2, (Post.bind (Rel := RelO) p2).imp (fun j' H3 q3 => ?_) fun _ _ _ q => q⟩
    obtain ⟨ρ3, h3, j, e3, w3, ej, p3⟩ := q3
    have ej : j = j' := ej
    subst ej
    have rl3 := (rl.ext e2).ext e3
    split at p3
    · rename_i l el
      obtain ⟨q, xs, ev, sq, r⟩ := lstD_ok w3 rl3 el
      exact .inl ⟨q, xs, ev, sq, fun z hz => p3 _ _ _ (.laid hz) (w3.laid hz) (.p (w3.lstP hz (cutP_rel r i j)))⟩
    · split at p3
      · rename_i l el
        cases rl3 with
        | p rl3 =>
          cases rl3 with
          | tup sq r =>
            cases el
            refine .inr ⟨_, _, rfl, sq.seq, fun hw => ?_, fun hw z hz => p3 _ _ _ (.laid hz) (w3.laid hz) (.p (w3.tupP hz (cutP_rel r i j)))⟩
            rw [cutP_all (by rw [r.len]; exact hw.1) (by rw [r.len]; exact hw.2)] at p3
            exact Post.ok w3 (.p (.tup sq r)) p3
          | _ => cases el
        | ob => cases el
      · exact p3.elim
/-- xs[::-1] of a list -/
def fRevL (a : FE) : FE := fun s h => (a s h).bind fun d h1 => match lstD d h1 with
  | some l => .ok (.p (.lst l.reverse)) h1
  | none => .bad
theorem v_revL {k : Nat} {p1 p2 p3 : Pos} (he : PE X e (TV X.K RX W fe)) : PE X (.Subscript e (.Slice none none (some (.UnaryOp .USub (.Constant (.int 1) k p1) p2)) p3) pos) (TV X.K RX W (fRevL fe)) :=
  PE.imp (pe_revL he) fun σ H Q t => by
    refine (TF.bind (Rel := RelD X.K) (k := fun s d h1 => match lstD d h1 with
      | some l => .ok (D.p (.lst l.reverse)) h1
      | none => .bad) t).mono fun v H1 q => ?_
    obtain ⟨ρ1, s, h1, d, w1, rs, rl, p⟩ := q
    split at p
    · rename_i l el
      obtain ⟨q, xs, ev, sq, r⟩ := lstD_ok w1 rl el
      exact ⟨q, xs, ev, sq, fun z hz => p _ _ _ (.laid hz) (w1.laid hz) (.p (w1.lstP hz r.rev))⟩
    · exact p.elim
end

/-! ### stores -/
def putD (o i : D) (v : D) (h : VH) : Option VH := match o, v with
  | .ob n, .p x => match h[n]? with
    | some (.lst l) => match i with
      | .p (.int k) => match ixN l.length k with
        | some j => some (h.set n (.lst (l.set j x)))
        | none => none
      | _ => none
    | some (.dK kvs) => match keyD i with
      | some k => if kvs.length < sizeLine then some (h.set n (.dK (putP kvs k x))) else none
      | none => none
    | _ => none
  | _, _ => none
/-- targets that may write objects -/
abbrev GH := D → Sg → VH → Option (Sg × VH)
def TGH (K : PySem.W.Frag) (g : GH) : L2.TG := fun v σ H Q => ∃ ρ s h d, RelW K ρ H h ∧ RelS K ρ H s σ ∧ RelD K ρ H d v ∧ ∃ s' h', g d s h = some (s', h') ∧ ∀ ρ' H' σ', Ext ρ H ρ' H' → RelW K ρ' H' h' → RelS K ρ' H' s' σ' → Q σ' H'
abbrev GHs := List P → Sg → VH → Option (Sg × VH)
def TGHs (K : PySem.W.Frag) (g : GHs) : L2.TGs := fun vs σ H Q => ∃ ρ s h ds, RelW K ρ H h ∧ RelS K ρ H s σ ∧ RelPs K ρ H ds vs ∧ ∃ s' h', g ds s h = some (s', h') ∧ ∀ ρ' H' σ', Ext ρ H ρ' H' → RelW K ρ' H' h' → RelS K ρ' H' s' σ' → Q σ' H'
def ghName (i : Nat) : GH := fun d s h => some (s.set i (some d), h)
def ghSub (fo fi : FE) : GH := fun d s h => match fo s h with
  | .ok o h1 => match fi s h1 with
    | .ok i h2 => match putD o i d h2 with
      | some h3 => some (s, h3)
      | none => none
    | _ => none
  | _ => none
def ghsNil : GHs := fun l s h => match l with
  | [] => some (s, h)
  | _ => none
def ghsCons (g : GH) (r : GHs) : GHs := fun l s h => match l with
  | x :: xs => match g (.p x) s h with
    | some (s1, h1) => r xs s1 h1
    | none => none
  | [] => none
def ghTup (n : Nat) (r : GHs) : GH := fun d s h => match d with
  | .p (.tup l) => if l.length = n then r l s h else none
  | .p (.lst l) => if l.length = n then r l s h else none
  | _ => none
section
variable {K : PySem.W.Frag} {ρ : Rho} {H : Hp} {h : VH}
theorem putD_ok {o i v : D} {ov iv vv : V} {h' : VH} (w : RelW K ρ H h) (ro : RelD K ρ H o ov) (ri : RelD K ρ H i iv) (rv : RelD K ρ H v vv) (e : putD o i v h = some h') {Q : Hp → Prop} (k : ∀ ρ' H', Ext ρ H ρ' H' → RelW K ρ' H' h' → Q H') :
    rSetL ov iv vv H Q ∨ rSetD ov iv vv H Q := by
  unfold putD at e
  split at e
  · rename_i n x
    cases ro with
    | ob hn hb =>
      rename_i a
      cases rv with
      | p rv =>
        split at e
        · rename_i l el
          obtain ⟨h1, xs, h2, h3⟩ := w.get el (by intro z; cases z) hb
          split at e
          · split at e
            · rename_i kk _ j hj
              cases e
              cases ri with | p ri => cases ri; exact .inl ⟨a, xs, kk, j, rfl, rfl, h2, by rw [← h3.len]; exact hj, k _ _ (.wrote h1 h2) (w.wrote (o := .lst (l.set j x)) h1 ⟨_, upd_same, (h3.ext (.wrote h1 h2)).set j (rv.ext (.wrote h1 h2))⟩)⟩
            · cases e
          · cases e
        · rename_i kvs ek
          obtain ⟨h1, vs, h2, h3⟩ := w.get ek (by intro z; cases z) hb
          split at e
          · split at e
            · rename_i kk hk hl
              cases e
              exact .inr ⟨a, _, rfl, .inl ⟨vs, kk, h2, keyD_ok ri hk, by rw [← h3.len]; exact hl, rfl⟩, k _ _ (.wrote h1 h2) (w.wrote (o := .dK (putP kvs kk x)) h1 ⟨_, upd_same, (h3.ext (.wrote h1 h2)).put kk (rv.ext (.wrote h1 h2))⟩)⟩
            · cases e
          · cases e
        · cases e
  · cases e
end
section
variable {X : Cx} {RX : RXT} {W : WX} {pos : Pos} {tg e o i : Expr} {es : List Expr} {g : GH} {r : GHs} {n kk : Nat} {fo fi fe : FE}
theorem PSet.or {t t' : L2.TSet} (h : PSet X t) (h' : PSet X t') : PSet X (fun o i v H Q => t o i v H Q ∨ t' o i v H Q) := by
  intro pins s σ H o i v ov iv u Q I ro ri rv q
  rcases q with q | q
  · exact h pins s σ H o i v ov iv u Q I ro ri rv q
  · exact h' pins s σ H o i v ov iv u Q I ro ri rv q
theorem hg_name (i : Nat) {x : Str} (hN : X.N.Nodup) (hi : X.N[i]? = some x := by rfl) (hx : Loc X.env.scope x := by first | exact Or.inl rfl | exact Or.inr rfl) (hf : X.fn x = true ∨ X.env.scope.names.lookup x = some .local := by first | exact .inl rfl | exact .inr rfl) : PG X (.Name x pos) (TGH X.K (ghName i)) :=
  PG.imp (pg_name hN hi hx hf) fun v σ H Q t => by
    obtain ⟨ρ, s, h, d, w, rs, rd, s', h', e, k⟩ := t
    cases e
    exact k _ _ _ (.refl _ _) w (rs.set i rd)
theorem hg_sub (hu : X.A.units + 1 < cLine) (ho : PE X o (TV X.K RX W fo)) (hi : PE X i (TV X.K RX W fi))
    (ha : ∀ v, assign (.Subscript o i pos) X.env v = (do
      let ov ← holding [v] (eval o X.env)
      let iv ← holding [v, ov] (eval i X.env)
      standAt pos
      holding [v, ov, iv] (setItem ov iv v)
      release [v, ov, iv] []) := by intro _; rfl) : PG X (.Subscript o i pos) (TGH X.K (ghSub fo fi)) :=
  PG.imp (pg_sub ho hi (PSet.or set_list (set_dict hu)) ha) fun v σ H Q t => by
    obtain ⟨ρ, s, h, d, w, rs, rd, s', h', e, k⟩ := t
    unfold ghSub at e
    split at e
    · rename_i o' h1 e1
      split at e
      · rename_i i' h2 e2
        split at e
        · rename_i h3 e3
          cases e
          refine ⟨ρ, s, h, w, rs, ?_⟩
          rw [e1]
          intro ρ1 H1 ov x1 w1 ro
          refine ⟨ρ1, s, h1, w1, rs.ext x1, ?_⟩
          rw [e2]
          intro ρ2 H2 iv x2 w2 ri
          exact putD_ok w2 (ro.ext x2) ri ((rd.ext x1).ext x2) e3 fun ρ3 H3 x3 w3 => k ρ3 H3 σ ((x1.trans x2).trans x3) w3 (((rs.ext x1).ext x2).ext x3)
        · cases e
      · cases e
    · cases e
theorem hgs_nil : PGs X [] (TGHs X.K ghsNil) := PGs.imp pgs_nil fun v σ H Q t => by
  obtain ⟨ρ, s, h, d, w, rs, rd, s', h', e, k⟩ := t
  cases rd with
  | nil => cases e; exact ⟨rfl, k _ _ _ (.refl _ _) w rs⟩
  | cons a b => cases e
theorem hgs_cons (h1 : PG X e (TGH X.K g)) (h2 : PGs X es (TGHs X.K r)) (hs : (assignEach (e :: es) X.env).map (·.2) = assign e X.env :: (assignEach es X.env).map (·.2) := by rfl) : PGs X (e :: es) (TGHs X.K (ghsCons g r)) :=
  PGs.imp (pgs_cons h1 h2 hs) fun v σ H Q t => by
    obtain ⟨ρ, s, h, d, w, rs, rd, s', h', e, k⟩ := t
    cases rd with
    | nil => cases e
    | cons a b =>
      unfold ghsCons at e
      dsimp only at e
      split at e
      · rename_i s1 h1 e1
        exact ⟨_, _, rfl, ρ, s, h, _, w, rs, .p a, s1, h1, e1, fun ρ1 H1 σ1 x1 w1 rs1 => ⟨ρ1, s1, h1, _, w1, rs1, b.ext x1, s', h', e, fun ρ2 H2 σ2 x2 w2 rs2 => k ρ2 H2 σ2 (x1.trans x2) w2 rs2⟩⟩
      · cases e
theorem hg_tup (hc : X.calm = true) (h : PGs X es (TGHs X.K r)) (hn : (assignEach es X.env).length = n := by rfl) (hst : (assignEach es X.env).findIdx? (·.1) = none := by rfl) : PG X (.Tuple es kk pos) (TGH X.K (ghTup n r)) :=
  PG.imp (PG.or (pg_tup hc h hn hst) (pg_unl hc h hn hst)) fun v σ H Q t => by
    obtain ⟨ρ, s, h, d, w, rs, rd, s', h', e, k⟩ := t
    cases rd with
    | ob => cases e
    | p rp =>
      cases rp with
      | tup q rl =>
        unfold ghTup at e
        dsimp only at e
        split at e
        · rename_i hl
          exact .inl ⟨_, _, rfl, q.seq, by rw [← rl.len]; exact hl, ρ, s, h, _, w, rs, rl, s', h', e, k⟩
        · cases e
      | lst q rl =>
        unfold ghTup at e
        dsimp only at e
        split at e
        · rename_i hl
          exact .inr ⟨_, _, rfl, q.seq, by rw [← rl.len]; exact hl, ρ, s, h, _, w, rs, rl, s', h', e, k⟩
        · cases e
      | _ => cases e
def sAsgH (a : FE) (g : GH) : FS := fun s h => (a s h).thenS s fun d h1 => match g d s h1 with
  | some (s', h') => .nx s' h'
  | none => .bad
theorem vs_asgH (he : PE X e (TV X.K RX W fe)) (hg : PG X tg (TGH X.K g)) (hs : swapsWithSole [tg] e pos.line X.env = pure false := by rfl) (hw : swappedStores [tg] e X.env = pure none := by rfl)
    (h1 : (assignEach [tg] X.env).map (·.2) = [assign tg X.env] := by rfl) : PS X (.Assign [tg] e pos) (TSV X.K RX W (sAsgH fe g)) := PS.imp (ps_asg he hg hs hw h1) fun D σ H t => by
  refine (TSV.bind (k := fun s d h1 => match g d s h1 with
    | some (s', h') => .nx s' h'
    | none => .bad) t).mono fun v H1 q => ?_
  obtain ⟨ρ1, s, h1, a, w1, rs, rl, p⟩ := q
  cases e : g a s h1 with
  | none => simp only [e] at p; exact p.elim
  | some z =>
    obtain ⟨s', h'⟩ := z
    simp only [e] at p
    exact ⟨ρ1, s, h1, a, w1, rs, rl, s', h', e, fun ρ2 H2 σ2 x2 w2 rs2 => p ρ2 H2 σ2 x2 w2 rs2⟩
end
end MV

/-! MV12: built-in functions, methods. -/
namespace MV
open PySem PySem.Spec PyProof.Rows L2

abbrev OpN := List D → VH → R D
def CallV (K : PySem.W.Frag) (RX : RXT) (r : List V → Hp → VK → Prop) (g : OpN) : Prop := ∀ (ρ : Rho) (H : Hp) (h : VH) (ds : List D) (vs : List V) (Q : VK) (E : XK), RelW K ρ H h → RelDs K ρ H ds vs → Post K RX (RelD K) ρ H (g ds h) Q E → r vs H Q
def fB (g : OpN) (a : FA) : FE := fun s h => (a s h).bind fun ds h1 => g ds h1
section
variable {X : Cx} {RX : RXT} {W : WX} {e : Expr} {es : List Expr} {fa : FA} {x : Str} {p pos : Pos} {id T : String} {r : List V → Hp → VK → Prop} {g : OpN}
theorem tCB_of {K : PySem.W.Frag} (hv : CallV K RX r g) {σ : L2.St} {H : Hp} {Q : VK} (t : TV K RX W (fB g fa) σ H Q) : tCB r (TL K RX W fa) σ H Q := by
  refine (TF.bind (Rel := RelDs K) (k := fun s ds h1 => g ds h1) t).mono fun vs H1 q => ?_
  obtain ⟨ρ1, s, h1, ds, w1, rs, rl, p⟩ := q
  exact hv ρ1 H1 h1 ds vs Q _ w1 rl p
theorem v_callB (hc : CallR X (.builtin id) r) (hvv : CallV X.K RX r g) (hg : Gl X x) (hm : X.mg x = none) (hv : bootBuiltins x = some (.builtin id)) (ha : PA X (e :: es) (TL X.K RX W fa)) (hn : x ≠ "__name__" := by decide) (hdb : (x == ("__debug__" : Str)) = false := by decide)
    (he : starEach (e :: es) X.env = (false, eval e X.env) :: starEach es X.env := by rfl) (hpl : (backTo pos (starEach es X.env)).any (·.1) = false := by rfl) : PE X (.Call (.Name x p) (e :: es) [] pos) (TV X.K RX W (fB g fa)) :=
  PE.imp (pe_callB hc hg hm hv ha hn hdb he hpl) fun _ _ _ t => tCB_of hvv t
theorem v_callTy (hc : CallR X (.type T) r) (hvv : CallV X.K RX r g) (hg : Gl X x) (hm : X.mg x = none) (hv : bootBuiltins x = some (.type T)) (ha : PA X (e :: es) (TL X.K RX W fa)) (hn : x ≠ "__name__" := by decide) (hdb : (x == ("__debug__" : Str)) = false := by decide)
    (he : starEach (e :: es) X.env = (false, eval e X.env) :: starEach es X.env := by rfl) (hpl : (backTo pos (starEach es X.env)).any (·.1) = false := by rfl) : PE X (.Call (.Name x p) (e :: es) [] pos) (TV X.K RX W (fB g fa)) :=
  PE.imp (pe_callTy hc hg hm hv ha hn hdb he hpl) fun _ _ _ t => tCB_of hvv t
end
/-- one, two values in -/
def b1 (f : D → VH → R D) : OpN := fun ds h => match ds with
  | [x] => f x h
  | _ => .bad
def b2 (f : D → D → VH → R D) : OpN := fun ds h => match ds with
  | [x, y] => f x y h
  | _ => .bad
section
variable {K : PySem.W.Frag} {RX : RXT} {r : List V → Hp → VK → Prop}
theorem cv1 {f : D → VH → R D} (hf : ∀ (ρ : Rho) (H : Hp) (h : VH) (d : D) (v : V) (Q : VK) (E : XK), RelW K ρ H h → RelD K ρ H d v → Post K RX (RelD K) ρ H (f d h) Q E → r [v] H Q) : CallV K RX r (b1 f) := fun ρ H h ds vs Q E w rd p => by
  unfold b1 at p
  split at p
  · cases rd with
    | cons a b => cases b; exact hf ρ H h _ _ Q E w a p
  · exact p.elim
theorem cv2 {f : D → D → VH → R D} (hf : ∀ (ρ : Rho) (H : Hp) (h : VH) (d d' : D) (v v' : V) (Q : VK) (E : XK), RelW K ρ H h → RelD K ρ H d v → RelD K ρ H d' v' → Post K RX (RelD K) ρ H (f d d' h) Q E → r [v, v'] H Q) : CallV K RX r (b2 f) := fun ρ H h ds vs Q E w rd p => by
  unfold b2 at p
  split at p
  · cases rd with
    | cons a b =>
      cases b with
      | cons b c => cases c; exact hf ρ H h _ _ _ _ Q E w a b p
  · exact p.elim
/-- all are ints, bools -/
def intsP : List P → Option (List Int)
  | [] => some []
  | .int i :: r => match intsP r with
    | some l => some (i :: l)
    | none => none
  | _ :: _ => none
def blsP : List P → Option (List Bool)
  | [] => some []
  | .bl i :: r => match blsP r with
    | some l => some (i :: l)
    | none => none
  | _ :: _ => none
theorem intsP_ok {ρ : Rho} {H : Hp} : ∀ {l : List P} {xs : List V} {ns : List Int}, RelPs K ρ H l xs → intsP l = some ns → xs = ns.map V.int
  | _, _, _, .nil, h => by cases h; rfl
  | _, _, _, .cons a b, h => by
    unfold intsP at h
    split at h
    · rename_i e; cases e
    · rename_i e
      cases e
      cases a
      split at h
      · rename_i e2
        cases h
        rw [intsP_ok b e2]
        rfl
      · cases h
    · cases h
theorem blsP_ok {ρ : Rho} {H : Hp} : ∀ {l : List P} {xs : List V} {ns : List Bool}, RelPs K ρ H l xs → blsP l = some ns → xs = ns.map V.bl
  | _, _, _, .nil, h => by cases h; rfl
  | _, _, _, .cons a b, h => by
    unfold blsP at h
    split at h
    · rename_i e; cases e
    · rename_i e
      cases e
      cases a
      split at h
      · rename_i e2
        cases h
        rw [blsP_ok b e2]
        rfl
      · cases h
    · cases h
/-! len -/
def gLen : OpN := b1 fun d h => match lstD d h with
  | some l => .ok (.p (.int l.length)) h
  | none => match d with
    | .p (.tup l) => .ok (.p (.int l.length)) h
    | .p (.str y) => if y.length ≤ sizeLine then .ok (.p (.int y.length)) h else .bad
    | _ => .bad
theorem cv_len : CallV K RX (fun xs H Q => ∃ x n, xs = [x] ∧ LenV K x H n ∧ Q (.int n) H) gLen := cv1 fun ρ H h d v Q E w r p => by
  split at p
  · rename_i l el
    obtain ⟨q, xs, ev, sq, rl⟩ := lstD_ok w r el
    subst ev
    exact ⟨_, l.length, rfl, .inl ⟨xs, sq, rl.len⟩, Post.ok w (.p (.int _)) p⟩
  · split at p
    · cases r with | p r => cases r with | tup sq rl => exact ⟨_, _, rfl, .inr ⟨_, sq.seq, rl.len⟩, Post.ok w (.p (.int _)) p⟩
    · split at p
      · rename_i hy
        cases r with | p r => cases r; exact ⟨_, _, rfl, ⟨hy, rfl⟩, Post.ok w (.p (.int _)) p⟩
      · exact p.elim
    · exact p.elim
/-! sum, max, min, any, all of a list -/
def gSum : OpN := b1 fun d h => match lstD d h with
  | some l => match intsP l with
    | some ns => .ok (.p (.int ns.sum)) h
    | none => .bad
  | none => .bad
theorem cv_sum : CallV K RX (rSum K) gSum := cv1 fun ρ H h d v Q E w r p => by
  split at p
  · rename_i l el
    obtain ⟨q, xs, ev, sq, rl⟩ := lstD_ok w r el
    split at p
    · rename_i ns en
      have := intsP_ok rl en
      subst ev this
      exact ⟨q, ns, rfl, sq, Post.ok w (.p (.int _)) p⟩
    · exact p.elim
  · exact p.elim
def maxL : Int → List Int → Int
  | m, [] => m
  | m, x :: r => maxL (if m < x then x else m) r
def minL : Int → List Int → Int
  | m, [] => m
  | m, x :: r => minL (if x < m then x else m) r
theorem maxL_ge : ∀ (l : List Int) (m : Int), m ≤ maxL m l ∧ ∀ y ∈ l, y ≤ maxL m l
  | [], m => ⟨Int.le_refl _, fun y h => by cases h⟩
  | x :: r, m => by
    obtain ⟨h1, h2⟩ := maxL_ge r (if m < x then x else m)
    unfold maxL
    by_cases hc : m < x
    · rw [if_pos hc] at h1 h2 ⊢
      exact ⟨by omega, fun y h => by
        rcases List.mem_cons.mp h with e | e
        · subst e; omega
        · exact h2 y e⟩
    · rw [if_neg hc] at h1 h2 ⊢
      exact ⟨by omega, fun y h => by
        rcases List.mem_cons.mp h with e | e
        · subst e; omega
        · exact h2 y e⟩
theorem maxL_mem : ∀ (l : List Int) (m : Int), maxL m l = m ∨ maxL m l ∈ l
  | [], m => .inl rfl
  | x :: r, m => by
    unfold maxL
    rcases maxL_mem r (if m < x then x else m) with e | e
    · rw [e]
      by_cases hc : m < x
      · rw [if_pos hc]; exact .inr (List.mem_cons_self ..)
      · rw [if_neg hc]; exact .inl rfl
    · exact .inr (List.mem_cons_of_mem _ e)
theorem minL_le : ∀ (l : List Int) (m : Int), minL m l ≤ m ∧ ∀ y ∈ l, minL m l ≤ y
  | [], m => ⟨Int.le_refl _, fun y h => by cases h⟩
  | x :: r, m => by
    obtain ⟨h1, h2⟩ := minL_le r (if x < m then x else m)
    unfold minL
    by_cases hc : x < m
    · rw [if_pos hc] at h1 h2 ⊢
      exact ⟨by omega, fun y h => by
        rcases List.mem_cons.mp h with e | e
        · subst e; omega
        · exact h2 y e⟩
    · rw [if_neg hc] at h1 h2 ⊢
      exact ⟨by omega, fun y h => by
        rcases List.mem_cons.mp h with e | e
        · subst e; omega
        · exact h2 y e⟩
theorem minL_mem : ∀ (l : List Int) (m : Int), minL m l = m ∨ minL m l ∈ l
  | [], m => .inl rfl
  | x :: r, m => by
    unfold minL
    rcases minL_mem r (if x < m then x else m) with e | e
    · rw [e]
      by_cases hc : x < m
      · rw [if_pos hc]; exact .inr (List.mem_cons_self ..)
      · rw [if_neg hc]; exact .inl rfl
    · exact .inr (List.mem_cons_of_mem _ e)
def gMax : OpN := fun ds h => match ds with
  | [.p (.int i), .p (.int j)] => .ok (.p (.int (if j > i then j else i))) h
  | [d] => match lstD d h with
    | some l => match intsP l with
      | some (n :: ns) => .ok (.p (.int (maxL n ns))) h
      | _ => .bad
    | none => .bad
  | _ => .bad
def gMin : OpN := fun ds h => match ds with
  | [.p (.int i), .p (.int j)] => .ok (.p (.int (if j < i then j else i))) h
  | [d] => match lstD d h with
    | some l => match intsP l with
      | some (n :: ns) => .ok (.p (.int (minL n ns))) h
      | _ => .bad
    | none => .bad
  | _ => .bad
theorem cv_max : CallV K RX (fun xs H Q => (∃ i j, xs = [.int i, .int j] ∧ Q (.int (if j > i then j else i)) H) ∨ rMax K xs H Q) gMax := fun ρ H h ds vs Q E w rd p => by
  unfold gMax at p
  split at p
  · cases rd with | cons a b => cases b with | cons b c => cases c; cases a with | p a => cases a; cases b with | p b => cases b; exact .inl ⟨_, _, rfl, Post.ok w (.p (.int _)) p⟩
  · cases rd with
    | cons r b =>
      cases b
      split at p
      · rename_i l el
        obtain ⟨q, xs, ev, sq, rl⟩ := lstD_ok w r el
        split at p
        · rename_i n ns en
          have := intsP_ok rl en
          subst ev this
          refine .inr ⟨q, n :: ns, rfl, sq, Nat.succ_pos _, fun m hm hy => ?_⟩
          have e1 : m = maxL n ns := by
            obtain ⟨g1, g2⟩ := maxL_ge ns n
            have h3 : m ≤ maxL n ns := by
              rcases List.mem_cons.mp hm with e | e
              · rw [e]; exact g1
              · exact g2 m e
            have h4 : maxL n ns ≤ m := by
              rcases maxL_mem ns n with e | e
              · rw [e]; exact hy n (List.mem_cons_self ..)
              · exact hy _ (List.mem_cons_of_mem _ e)
            omega
          rw [e1]
          exact Post.ok w (.p (.int _)) p
        · exact p.elim
      · exact p.elim
  · exact p.elim
theorem cv_min : CallV K RX (fun xs H Q => (∃ i j, xs = [.int i, .int j] ∧ Q (.int (if j < i then j else i)) H) ∨ rMin K xs H Q) gMin := fun ρ H h ds vs Q E w rd p => by
  unfold gMin at p
  split at p
  · cases rd with | cons a b => cases b with | cons b c => cases c; cases a with | p a => cases a; cases b with | p b => cases b; exact .inl ⟨_, _, rfl, Post.ok w (.p (.int _)) p⟩
  · cases rd with
    | cons r b =>
      cases b
      split at p
      · rename_i l el
        obtain ⟨q, xs, ev, sq, rl⟩ := lstD_ok w r el
        split at p
        · rename_i n ns en
          have := intsP_ok rl en
          subst ev this
          refine .inr ⟨q, n :: ns, rfl, sq, Nat.succ_pos _, fun m hm hy => ?_⟩
          have e1 : m = minL n ns := by
            obtain ⟨g1, g2⟩ := minL_le ns n
            have h3 : minL n ns ≤ m := by
              rcases List.mem_cons.mp hm with e | e
              · rw [e]; exact g1
              · exact g2 m e
            have h4 : m ≤ minL n ns := by
              rcases minL_mem ns n with e | e
              · rw [e]; exact hy n (List.mem_cons_self ..)
              · exact hy _ (List.mem_cons_of_mem _ e)
            omega
          rw [e1]
          exact Post.ok w (.p (.int _)) p
        · exact p.elim
      · exact p.elim
  · exact p.elim
def gAny : OpN := b1 fun d h => match lstD d h with
  | some l => match blsP l with
    | some ns => .ok (.p (.bl (ns.any id))) h
    | none => .bad
  | none => .bad
def gAll : OpN := b1 fun d h => match lstD d h with
  | some l => match blsP l with
    | some ns => .ok (.p (.bl (ns.all id))) h
    | none => .bad
  | none => .bad
theorem cv_any : CallV K RX (rAny K) gAny := cv1 fun ρ H h d v Q E w r p => by
  split at p
  · rename_i l el
    obtain ⟨q, xs, ev, sq, rl⟩ := lstD_ok w r el
    split at p
    · rename_i ns en
      have := blsP_ok rl en
      subst ev this
      exact ⟨q, ns, rfl, sq, Post.ok w (.p (.bl _)) p⟩
    · exact p.elim
  · exact p.elim
theorem cv_all : CallV K RX (rAll K) gAll := cv1 fun ρ H h d v Q E w r p => by
  split at p
  · rename_i l el
    obtain ⟨q, xs, ev, sq, rl⟩ := lstD_ok w r el
    split at p
    · rename_i ns en
      have := blsP_ok rl en
      subst ev this
      exact ⟨q, ns, rfl, sq, Post.ok w (.p (.bl _)) p⟩
    · exact p.elim
  · exact p.elim
def gAbs : OpN := b1 fun d h => match d with
  | .p (.int i) => .ok (.p (.int (if i < 0 then -i else i))) h
  | _ => .bad
theorem cv_abs : CallV K RX (fun xs H Q => ∃ i, xs = [.int i] ∧ Q (.int (if i < 0 then -i else i)) H) gAbs := cv1 fun ρ H h d v Q E w r p => by
  split at p
  · cases r with | p r => cases r; exact ⟨_, rfl, Post.ok w (.p (.int _)) p⟩
  · exact p.elim
def gInt : OpN := b1 fun d h => match d with
  | .p (.int i) => .ok (.p (.int i)) h
  | .p (.bl k) => .ok (.p (.int (if k then 1 else 0))) h
  | _ => .bad
theorem cv_int : CallV K RX (fun xs H Q => (∃ i, xs = [.int i] ∧ Q (.int i) H) ∨ ∃ k, xs = [.bl k] ∧ Q (.int (if k then 1 else 0)) H) gInt := cv1 fun ρ H h d v Q E w r p => by
  split at p
  · cases r with | p r => cases r; exact .inl ⟨_, rfl, Post.ok w (.p (.int _)) p⟩
  · cases r with | p r => cases r; exact .inr ⟨_, rfl, Post.ok w (.p (.int _)) p⟩
  · exact p.elim
def gDivmod : OpN := b2 fun d d' h => match d, d' with
  | .p (.int i), .p (.int j) => if decide (0 < j) && decide (j < 1073741824) then .ok (.p (.tup [.int (i / j), .int (i % j)])) h else .bad
  | _, _ => .bad
theorem cv_divmod : CallV K RX (fun xs H Q => ∃ i j, xs = [.int i, .int j] ∧ CDiv i j ∧ ∀ p, H p = none → Q (.ref p) (upd H p (.tup [.int (i / j), .int (i % j)]))) gDivmod := cv2 fun ρ H h d d' v v' Q E w r r' p => by
  split at p
  · split at p
    · rename_i hj
      rw [Bool.and_eq_true, decide_eq_true_eq, decide_eq_true_eq] at hj
      cases r with | p r => cases r; cases r' with | p r' => cases r'; exact ⟨_, _, rfl, hj, fun z hz => p _ _ _ (.laid hz) (w.laid hz) (.p (w.tupP hz (.cons (.int _) (.cons (.int _) .nil))))⟩
    · exact p.elim
  · exact p.elim
def gTuple : OpN := b1 fun d h => match lstD d h with
  | some l => .ok (.p (.tup l)) h
  | none => match d with
    | .p (.tup l) => .ok (.p (.tup l)) h
    | _ => .bad
theorem cv_tuple : CallV K RX (fun xs H Q => ∃ p ys, xs = [.ref p] ∧ ((SqL K H p ys ∧ ∀ l, H l = none → Q (.ref l) (upd H l (.tup ys))) ∨ (SqT K H p ys ∧ Q (.ref p) H))) gTuple := cv1 fun ρ H h d v Q E w r p => by
  split at p
  · rename_i l el
    obtain ⟨q, xs, ev, sq, rl⟩ := lstD_ok w r el
    subst ev
    exact ⟨q, xs, rfl, .inl ⟨sq, fun z hz => p _ _ _ (.laid hz) (w.laid hz) (.p (w.tupP hz rl))⟩⟩
  · split at p
    · cases r with | p r => cases r with | tup sq rl => exact ⟨_, _, rfl, .inr ⟨sq.seq, Post.ok w (.p (.tup sq rl)) p⟩⟩
    · exact p.elim
/-- list(..), as data -/
def gList : OpN := b1 fun d h => match lstD d h with
  | some l => .ok (.p (.lst l)) h
  | none => match tupD d with
    | some l => .ok (.p (.lst l)) h
    | none => .bad
def rListOf (K : PySem.W.Frag) : List V → Hp → VK → Prop := fun xs H Q => ∃ p ys, xs = [.ref p] ∧ (SqL K H p ys ∨ SqT K H p ys) ∧ ∀ l, H l = none → Q (.ref l) (upd H l (.lst ys))
theorem cv_list : CallV K RX (rListOf K) gList := cv1 fun ρ H h d v Q E w r p => by
  split at p
  · rename_i l el
    obtain ⟨q, xs, ev, sq, rl⟩ := lstD_ok w r el
    subst ev
    exact ⟨q, xs, rfl, .inl sq, fun z hz => p _ _ _ (.laid hz) (w.laid hz) (.p (w.lstP hz rl))⟩
  · split at p
    · rename_i l el
      obtain ⟨q, xs, ev, sq, rl⟩ := tupD_ok r el
      subst ev
      exact ⟨q, xs, rfl, .inr sq, fun z hz => p _ _ _ (.laid hz) (w.laid hz) (.p (w.lstP hz rl))⟩
    · exact p.elim
/-- list(..) that will be changed -/
def gListM : OpN := b1 fun d h => match lstD d h with
  | some l => .ok (.ob h.length) (h ++ [.lst l])
  | none => match tupD d with
    | some l => .ok (.ob h.length) (h ++ [.lst l])
    | none => .bad
theorem cv_listM : CallV K RX (rListOf K) gListM := cv1 fun ρ H h d v Q E w r p => by
  split at p
  · rename_i l el
    obtain ⟨q, xs, ev, sq, rl⟩ := lstD_ok w r el
    subst ev
    exact ⟨q, xs, rfl, .inl sq, fun z hz => p _ _ _ (.fresh hz) (w.fresh hz ⟨_, upd_same, rl.ext (.fresh hz)⟩) (w.newob _)⟩
  · split at p
    · rename_i l el
      obtain ⟨q, xs, ev, sq, rl⟩ := tupD_ok r el
      subst ev
      exact ⟨q, xs, rfl, .inr sq, fun z hz => p _ _ _ (.fresh hz) (w.fresh hz ⟨_, upd_same, rl.ext (.fresh hz)⟩) (w.newob _)⟩
    · exact p.elim
end

/-! repr of data -/
def okRep (x : P) : Bool := x.isD && (isDisplay x.py && (x.py.showable && (!x.py.hasDict && (decide (x.py.depth ≤ 64) && decide (x.py.shown.length ≤ sizeLine)))))
def int12 (i : Int) : Bool := decide (-999999999999 ≤ i) && decide (i ≤ 999999999999)
mutual
/-- whose text is told: small ints, texts, lists and tuples of them -/
def P.shw : P → Bool
  | .non | .bl _ | .str _ => true
  | .int i => int12 i
  | .tup l => shwL l
  | .lst l => shwL l
  | .fn _ | .rep _ | .dct _ => false
def shwL : List P → Bool
  | [] => true
  | x :: l => x.shw && shwL l
end
theorem int12_ok {i : Int} (h : int12 i = true) : (PyData.int i).showable = true ∧ (PyData.int i).intsShort 13 = true := by
  unfold int12 at h
  rw [Bool.and_eq_true, decide_eq_true_eq, decide_eq_true_eq] at h
  refine ⟨?_, ?_⟩
  · unfold PyData.showable
    refine decide_eq_true ?_
    by_cases h0 : i.natAbs = 0
    · rw [h0]; decide
    · refine Nat.lt_of_lt_of_le ((Nat.log2_lt h0).mpr (show i.natAbs < 2 ^ 40 from ?_)) (by decide)
      have e : (2 : Nat) ^ 40 = 1099511627776 := by decide
      omega
  · unfold PyData.intsShort
    exact decide_eq_true (PyData.shown_int_le2 h.1 h.2)
mutual
theorem P.shw_ok : ∀ x : P, x.shw = true → x.isD = true ∧ x.py.showable = true ∧ x.py.intsShort 13 = true
  | .non, _ => by simp [P.isD, P.py, PyData.showable, PyData.intsShort]
  | .bl _, _ => by simp [P.isD, P.py, PyData.showable, PyData.intsShort]
  | .str _, _ => by simp [P.isD, P.py, PyData.showable, PyData.intsShort]
  | .int i, h => by
    unfold P.shw at h
    have := int12_ok h
    simp only [P.isD, P.py]
    exact ⟨trivial, this⟩
  | .tup l, h => by
    unfold P.shw at h
    have := shwL_ok l h
    simp only [P.isD, P.py, PyData.showable, PyData.intsShort]
    exact this
  | .lst l, h => by
    unfold P.shw at h
    have := shwL_ok l h
    simp only [P.isD, P.py, PyData.showable, PyData.intsShort]
    exact this
  | .fn _, h => by simp [P.shw] at h
  | .rep _, h => by simp [P.shw] at h
  | .dct _, h => by simp [P.shw] at h
theorem shwL_ok : ∀ x : List P, shwL x = true → isDL x = true ∧ PyData.showableAll (pyL x) = true ∧ PyData.intsShortAll 13 (pyL x) = true
  | [], _ => by simp [isDL, pyL, PyData.showableAll, PyData.intsShortAll]
  | x :: l, h => by
    unfold shwL at h
    rw [Bool.and_eq_true] at h
    obtain ⟨h1, h2, h3⟩ := P.shw_ok x h.1
    obtain ⟨h4, h5, h6⟩ := shwL_ok l h.2
    simp [isDL, pyL, PyData.showableAll, PyData.intsShortAll, h1, h2, h3, h4, h5, h6]
end
def okRep2 (x : P) : Bool := x.shw && (isDisplay x.py && x.py.layable0)
theorem okRep_of2 {x : P} (h : okRep2 x = true) : okRep x = true := by
  unfold okRep2 at h
  unfold okRep
  simp only [Bool.and_eq_true] at h ⊢
  obtain ⟨h0, h2, h4⟩ := h
  obtain ⟨h1, h3, h5⟩ := P.shw_ok x h0
  have h6 := PyProof.Rows.shown_le13 h4 h5
  have h7 := PySem.SeqAt.depth_of_layable h4
  have h8 := PyData.hasDict_of_canLay _ (PySem.SeqAt.canLay_of_layable h4)
  refine ⟨h1, h2, h3, by rw [h8]; rfl, decide_eq_true h7, decide_eq_true ?_⟩
  have e : sizeLine = 16777216 := sizeLine_eq
  omega
def gRepr : OpN := b1 fun d h => match datum d h with
  | some x => if okRep2 x then .ok (.p (.rep x)) h else .bad
  | none => .bad
def rRepr (K : PySem.W.Frag) : List V → Hp → VK → Prop := fun xs H Q => ∃ a d, xs = [.ref a] ∧ Dp K H (.ref a) d ∧ d.showable = true ∧ d.hasDict = false ∧ d.depth ≤ 64 ∧ d.shown.length ≤ sizeLine ∧ Q (.str d.shown) H
theorem call_repr {X : Cx} (hg : X.A.guards = some []) (hu : X.A.units + 65 < cLine) : CallR X (.builtin "repr") (rRepr X.K) := by
  intro pins s σ H xs us Q I r h
  obtain ⟨a, d, rfl, hd, h1, h2, h3, h4, q⟩ := h
  rw [Vals.ref1 r]
  obtain ⟨as, r1⟩ := Dp.reads I d (.ref a) (.ref a) hd rfl
  exact repr_of_reads' r1 h1 (PyData.noDict_hsm h2) hg (by omega) (fun _ _ e => e) (fun h' u tk hk => ⟨.str d.shown, H, I.kept hk, ⟨u, rfl⟩, q⟩) h4
theorem cv_repr {K : PySem.W.Frag} {RX : RXT} : CallV K RX (rRepr K) gRepr := cv1 fun ρ H h d v Q E w r p => by
  split at p
  · rename_i x ex
    split at p
    · rename_i hok
      have hok2 := okRep_of2 hok
      unfold okRep at hok2
      simp only [Bool.and_eq_true, Bool.not_eq_true', decide_eq_true_eq] at hok2
      obtain ⟨h1, h2, h3, h4, h5, h6⟩ := hok2
      have hdp := datum_dp w r ex h1
      have hv : ∃ a, v = .ref a := by
        cases r with
        | ob => exact ⟨_, rfl⟩
        | p r =>
          cases ex
          cases r with
          | tup => exact ⟨_, rfl⟩
          | lst => exact ⟨_, rfl⟩
          | _ => simp only [P.py, isDisplay] at h2; cases h2
      obtain ⟨a, rfl⟩ := hv
      exact ⟨a, _, rfl, hdp, h3, h4, h5, h6, Post.ok w (.p (.rep _)) p⟩
    · exact p.elim
  · exact p.elim
end MV

/-! MV13: methods of lists and dicts, isinstance, walks over dicts, range with a step. -/
namespace MV
open PySem PySem.Spec PyProof.Rows L2

/-! ### methods of lists -/
abbrev OpM := D → List D → VH → R D
def MtV (K : PySem.W.Frag) (RX : RXT) (r : V → List V → Hp → VK → Prop) (g : OpM) : Prop := ∀ (ρ : Rho) (H : Hp) (h : VH) (d : D) (v : V) (ds : List D) (vs : List V) (Q : VK) (E : XK), RelW K ρ H h → RelD K ρ H d v → RelDs K ρ H ds vs → Post K RX (RelD K) ρ H (g d ds h) Q E → r v vs H Q
def fML (g : OpM) (o : FE) (a : FA) : FE := fun s h => (o s h).bind fun d h1 => match lstD d h1 with
  | some _ => (a s h1).bind fun ds h2 => g d ds h2
  | none => .bad
section
variable {X : Cx} {RX : RXT} {W : WX} {o e : Expr} {es : List Expr} {fo : FE} {fa : FA} {name : Str} {apos cpos : Pos} {id : String} {r : V → List V → Hp → VK → Prop} {g : OpM}
theorem v_ml (hm : MtR X id r) (hv : MtV X.K RX r g) (slot : Slot "list" name id) (hty : typeOf (.builtin id) = pure (.type "method_descriptor")) (ho : PE X o (TV X.K RX W fo)) (ha : PA X (e :: es) (TL X.K RX W fa))
    (hbase : attributeBase o name X.env (eval o X.env) = eval o X.env := by rfl)
    (hfew : ((backTo cpos (starEach (e :: es) X.env)).all (fun x => !x.1) && (backToKw cpos (keywordEach [] X.env)).all (fun x => x.1.isSome)
      && decide ((e :: es).length + ([] : List Keyword).length + (if ([] : List Keyword).isEmpty then 0 else 1) < 30)) = true := by rfl)
    (hline : (apos.endLine == cpos.line) = true := by rfl) (hs : starEach (e :: es) X.env = (false, eval e X.env) :: starEach es X.env := by rfl) (hplain : (backTo cpos (starEach es X.env)).any (·.1) = false := by rfl) :
    PE X (.Call (.Attribute o name apos) (e :: es) [] cpos) (TV X.K RX W (fML g fo fa)) :=
  PE.imp (pe_bm PySem.F.plainAttrs_list slot hty hm ho ha hbase hfew hline hs hplain) fun σ H Q t => by
    refine (TF.bind (Rel := RelD X.K) (k := fun s d h1 => match lstD d h1 with
      | some _ => (fa s h1).bind fun ds h2 => g d ds h2
      | none => .bad) t).mono fun v H1 q => ?_
    obtain ⟨ρ1, s, h1, d, w1, rs, rl, p⟩ := q
    split at p
    · rename_i l el
      obtain ⟨q, xs, ev, sq, _⟩ := lstD_ok w1 rl el
      refine ⟨by rw [ev]; exact .inl ⟨rfl, xs, sq⟩, ρ1, s, h1, w1, rs, (Post.bind (Rel := RelDs X.K) p).imp (fun vs H2 q2 => ?_) fun _ _ _ q => q⟩
      obtain ⟨ρ2, h2, ds, e2, w2, rl2, p2⟩ := q2
      exact hv ρ2 H2 h2 d v ds vs Q _ w2 (rl.ext e2) rl2 p2
    · exact p.elim
def fML0 (g : OpM) (o : FE) : FE := fun s h => (o s h).bind fun d h1 => match lstD d h1 with
  | some _ => g d [] h1
  | none => .bad
theorem v_ml0 (hm : MtR X id r) (hv : MtV X.K RX r g) (slot : Slot "list" name id) (hty : typeOf (.builtin id) = pure (.type "method_descriptor")) (ho : PE X o (TV X.K RX W fo))
    (hbase : attributeBase o name X.env (eval o X.env) = eval o X.env := by rfl) (hline : (apos.endLine == cpos.line) = true := by rfl) :
    PE X (.Call (.Attribute o name apos) [] [] cpos) (TV X.K RX W (fML0 g fo)) :=
  PE.imp (pe_bm0 PySem.F.plainAttrs_list slot hty hm ho hbase hline) fun σ H Q t => by
    refine (TF.bind (Rel := RelD X.K) (k := fun s d h1 => match lstD d h1 with
      | some _ => g d [] h1
      | none => .bad) t).mono fun v H1 q => ?_
    obtain ⟨ρ1, s, h1, d, w1, rs, rl, p⟩ := q
    split at p
    · rename_i l el
      obtain ⟨q, xs, ev, sq, _⟩ := lstD_ok w1 rl el
      exact ⟨by rw [ev]; exact .inl ⟨rfl, xs, sq⟩, hv ρ1 H1 h1 d v [] [] Q _ w1 rl .nil p⟩
    · exact p.elim
end
def mAppend : OpM := fun d ds h => match d, ds with
  | .ob n, [.p y] => match h[n]? with
    | some (.lst l) => if l.length < sizeLine then .ok (.p .non) (h.set n (.lst (l ++ [y]))) else .bad
    | _ => .bad
  | _, _ => .bad
def mPop : OpM := fun d ds h => match d, ds with
  | .ob n, [] => match h[n]? with
    | some (.lst l) => match l[l.length - 1]? with
      | some y => .ok (.p y) (h.set n (.lst l.dropLast))
      | none => .bad
    | _ => .bad
  | _, _ => .bad
section
variable {K : PySem.W.Frag} {RX : RXT}
theorem RelPs.dropLast {ρ : Rho} {H : Hp} : ∀ {l : List P} {xs : List V}, RelPs K ρ H l xs → RelPs K ρ H l.dropLast xs.dropLast
  | _, _, .nil => .nil
  | _, _, .cons a .nil => .nil
  | _, _, .cons a (.cons b c) => .cons a (RelPs.dropLast (.cons b c))
theorem mv_append : MtV K RX rAppend mAppend := fun ρ H h d v ds vs Q E w r rs p => by
  unfold mAppend at p
  split at p
  · split at p
    · rename_i l el
      split at p
      · rename_i hl
        cases r with
        | ob hn hb =>
          cases rs with
          | cons a b =>
            cases b
            cases a with
            | p a =>
              obtain ⟨h1, xs, h2, h3⟩ := w.get el (by intro z; cases z) hb
              exact ⟨_, xs, _, rfl, rfl, h2, by rw [← h3.len]; exact hl, p _ _ _ (.wrote h1 h2) (w.wrote h1 ⟨_, upd_same, (h3.ext (.wrote h1 h2)).app (.cons (a.ext (.wrote h1 h2)) .nil)⟩) (.p .non)⟩
      · exact p.elim
    · exact p.elim
  · exact p.elim
theorem mv_pop : MtV K RX rPop mPop := fun ρ H h d v ds vs Q E w r rs p => by
  unfold mPop at p
  split at p
  · split at p
    · rename_i l el
      split at p
      · rename_i y hy
        cases r with
        | ob hn hb =>
          cases rs
          obtain ⟨h1, xs, h2, h3⟩ := w.get el (by intro z; cases z) hb
          obtain ⟨u, hu, ru⟩ := h3.get hy
          exact ⟨_, xs, u, rfl, rfl, h2, by rw [← h3.len]; exact hu, p _ _ _ (.wrote h1 h2) (w.wrote h1 ⟨_, upd_same, (h3.ext (.wrote h1 h2)).dropLast⟩) (.p (ru.ext (.wrote h1 h2)))⟩
      · exact p.elim
    · exact p.elim
  · exact p.elim
end

/-! ### dicts: {}, get -/
def fDnew : FE := fun _ h => .ok (.ob h.length) (h ++ [.dK []])
def fDget1 (o k : FE) : FE := fun s h => (o s h).bind fun d h1 => match dctD d h1 with
  | some _ => (k s h1).bind fun y h2 => match dctD d h2 with
    | some kvs => match keyD y with
      | some j => .ok (.p ((valP kvs j).getD .non)) h2
      | none => .bad
    | none => .bad
  | none => .bad
def fDget2 (o k z : FE) : FE := fun s h => (o s h).bind fun d h1 => match dctD d h1 with
  | some _ => (k s h1).bind fun y h2 => (z s h2).bind fun u h3 => match dctD d h3 with
    | some kvs => match keyD y with
      | some j => match valP kvs j with
        | some x => .ok (.p x) h3
        | none => .ok u h3
      | none => .bad
    | none => .bad
  | none => .bad
section
variable {X : Cx} {RX : RXT} {W : WX} {o e f : Expr} {fo fe ff : FE} {pos apos cpos : Pos}
theorem v_dnew : PE X (.Dict [] [] pos) (TV X.K RX W fDnew) := PE.imp pe_dnewK fun σ H Q t => by
  obtain ⟨ρ, s, h, w, rs, p⟩ := t
  exact fun z hz => p _ _ _ (.fresh hz) (w.fresh hz ⟨[], upd_same, .nil⟩) (w.newob _)
theorem v_dget1 (hu : X.A.units + 1 < cLine) (ho : PE X o (TV X.K RX W fo)) (he : PE X e (TV X.K RX W fe)) (m : M1 X o "get" apos e cpos) : PE X (.Call (.Attribute o "get" apos) [e] [] cpos) (TV X.K RX W (fDget1 fo fe)) :=
  PE.imp (pe_dget1 hu ho he m) fun σ H Q t => by
    refine (TF.bind (Rel := RelD X.K) (k := fun s d h1 => match dctD d h1 with
      | some _ => (fe s h1).bind fun y h2 => match dctD d h2 with
        | some kvs => match keyD y with
          | some j => .ok (D.p ((valP kvs j).getD .non)) h2
          | none => .bad
        | none => .bad
      | none => .bad) t).mono fun v H1 q => ?_
    obtain ⟨ρ1, s, h1, d, w1, rs, rl, p⟩ := q
    split at p
    · rename_i kvs0 ek0
      obtain ⟨a, vs0, ea, rd0, _⟩ := dctD_ok w1 rl ek0
      refine ⟨a, ea, .inl ⟨vs0, rd0⟩, ρ1, s, h1, w1, rs, (Post.bind (Rel := RelD X.K) p).imp (fun y H2 q2 => ?_) fun _ _ _ q => q⟩
      obtain ⟨ρ2, h2, y', e2, w2, rl2, p2⟩ := q2
      split at p2
      · rename_i kvs ek
        obtain ⟨a', vs, ea', rd, rk⟩ := dctD_ok w2 (rl.ext e2) ek
        rw [ea] at ea'
        cases ea'
        split at p2
        · rename_i j hj
          refine ⟨valV vs j, .inl ⟨vs, j, rd, keyD_ok rl2 hj, rfl⟩, ?_⟩
          rcases valP_ok j rk with ⟨g1, g2⟩ | ⟨x, u, g1, g2, g3⟩
          · rw [g2]; rw [g1] at p2; exact Post.ok w2 (.p .non) p2
          · rw [g2]; rw [g1] at p2; exact Post.ok w2 (.p g3) p2
        · exact p2.elim
      · exact p2.elim
    · exact p.elim
theorem v_dget2 (hu : X.A.units + 1 < cLine) (ho : PE X o (TV X.K RX W fo)) (he : PE X e (TV X.K RX W fe)) (hf : PE X f (TV X.K RX W ff)) (m : M2 X o "get" apos e f cpos) : PE X (.Call (.Attribute o "get" apos) [e, f] [] cpos) (TV X.K RX W (fDget2 fo fe ff)) :=
  PE.imp (pe_dget2 hu ho he hf m) fun σ H Q t => by
    refine (TF.bind (Rel := RelD X.K) (k := fun s d h1 => match dctD d h1 with
      | some _ => (fe s h1).bind fun y h2 => (ff s h2).bind fun u h3 => match dctD d h3 with
        | some kvs => match keyD y with
          | some j => match valP kvs j with
            | some x => .ok (D.p x) h3
            | none => .ok u h3
          | none => .bad
        | none => .bad
      | none => .bad) t).mono fun v H1 q => ?_
    obtain ⟨ρ1, s, h1, d, w1, rs, rl, p⟩ := q
    split at p
    · rename_i kvs0 ek0
      obtain ⟨a, vs0, ea, rd0, _⟩ := dctD_ok w1 rl ek0
      refine ⟨a, ea, .inl ⟨vs0, rd0⟩, ρ1, s, h1, w1, rs, (Post.bind (Rel := RelD X.K) p).imp (fun y H2 q2 => ?_) fun _ _ _ q => q⟩
      obtain ⟨ρ2, h2, y', e2, w2, rl2, p2⟩ := q2
      refine ⟨ρ2, s, h2, w2, rs.ext e2, (Post.bind (Rel := RelD X.K) p2).imp (fun z H3 q3 => ?_) fun _ _ _ q => q⟩
      obtain ⟨ρ3, h3, z', e3, w3, rl3, p3⟩ := q3
      split at p3
      · rename_i kvs ek
        obtain ⟨a', vs, ea', rd, rk⟩ := dctD_ok w3 ((rl.ext e2).ext e3) ek
        rw [ea] at ea'
        cases ea'
        split at p3
        · rename_i j hj
          refine ⟨valV vs j, .inl ⟨vs, j, rd, keyD_ok (rl2.ext e3) hj, rfl⟩, ?_⟩
          rcases valP_ok j rk with ⟨g1, g2⟩ | ⟨x, u, g1, g2, g3⟩
          · rw [g2]; rw [g1] at p3; exact Post.ok w3 rl3 p3
          · rw [g2]; rw [g1] at p3; exact Post.ok w3 (.p g3) p3
        · exact p3.elim
      · exact p3.elim
    · exact p.elim
end

/-! ### isinstance -/
inductive Ty where
  | non | bl | int | str | tup | lst | dct
def Ty.name : Ty → String
  | .non => "NoneType"
  | .bl => "bool"
  | .int => "int"
  | .str => "str"
  | .tup => "tuple"
  | .lst => "list"
  | .dct => "dict"
def isiY : Ty → Ty → Bool
  | .non, .non => true
  | .bl, .bl => true
  | .bl, .int => true
  | .int, .int => true
  | .str, .str => true
  | .tup, .tup => true
  | .lst, .lst => true
  | .dct, .dct => true
  | _, _ => false
theorem kit_all : ∀ t c : Ty, kitB t.name c.name = some (isiY t c) := by
  intro t c
  cases t <;> cases c <;> decide +kernel
def tyD (d : D) (h : VH) : Option Ty := match d with
  | .p .non => some .non
  | .p (.bl _) => some .bl
  | .p (.int _) => some .int
  | .p (.str _) => some .str
  | .p (.rep _) => some .str
  | .p (.tup _) => some .tup
  | .p (.lst _) => some .lst
  | .p (.dct _) => some .dct
  | .p (.fn _) => none
  | .ob n => match h[n]? with
    | some (.lst _) => some .lst
    | some (.dK _) => some .dct
    | _ => none
section
variable {K : PySem.W.Frag} {ρ : Rho} {H : Hp} {h : VH}
theorem SqL.ty {a : Addr} {xs : List V} (q : SqL K H a xs) : TyX K H (.ref a) (.type "list") := by
  rcases q with (q | ⟨o, q⟩) | ⟨o, _, _, q, c, _⟩
  · exact .base (.lst q)
  · exact .base (.frz q)
  · exact .kList q c
theorem SqT.ty {a : Addr} {xs : List V} (q : SqT K H a xs) : TyX K H (.ref a) (.type "tuple") := by
  rcases q with (q | ⟨o, q⟩) | ⟨o, _, _, q, c, _⟩
  · exact .base (.tup q)
  · exact .fTuple q
  · exact .kTuple q c
theorem tyD_ok {d : D} {v : V} {t : Ty} (w : RelW K ρ H h) (r : RelD K ρ H d v) (e : tyD d h = some t) : TyX K H v (.type t.name) := by
  cases r with
  | p r =>
    cases r with
    | non => cases e; exact .base .non
    | bl b => cases e; exact .base (.bl b)
    | int i => cases e; exact .base (.int i)
    | str i => cases e; exact .base (.str i)
    | rep i => cases e; exact .base (.str _)
    | tup q _ => cases e; exact SqT.ty q.seq
    | lst q _ => cases e; exact SqL.ty q.seq
    | fn => cases e
    | dct q _ _ =>
      cases e
      rcases q with q | ⟨o, q⟩
      · exact .base (.dK q)
      · exact .fDict q
  | ob hn hb =>
    unfold tyD at e
    dsimp only at e
    split at e
    · rename_i l el
      cases e
      obtain ⟨_, xs, h2, _⟩ := w.get el (by intro z; cases z) hb
      exact .base (.lst h2)
    · rename_i l el
      cases e
      obtain ⟨_, xs, h2, _⟩ := w.get el (by intro z; cases z) hb
      exact .base (.dK h2)
    · cases e
end
def fIsi (c : Ty) (a : FE) : FE := fun s h => (a s h).bind fun d h1 => match tyD d h1 with
  | some t => .ok (.p (.bl (isiY t c))) h1
  | none => .bad
section
variable {X : Cx} {RX : RXT} {W : WX} {e : Expr} {fe : FE} {p q pos : Pos} {T : Str}
theorem v_isi (c : Ty) (hg : Gl X "isinstance") (hm : X.mg "isinstance" = none) (hgT : Gl X T) (hmT : X.mg T = none) (hvT : bootBuiltins T = some (.type c.name)) (ha : PE X e (TV X.K RX W fe)) (hn : T ≠ "__name__" := by decide) (hdb : (T == ("__debug__" : Str)) = false := by decide)
    (hv : bootBuiltins "isinstance" = some (.builtin "isinstance") := by decide +kernel)
    (hs : starEach (e :: [.Name T q]) X.env = (false, eval e X.env) :: starEach [.Name T q] X.env := by rfl) (hs2 : starEach [.Name T q] X.env = (false, eval (.Name T q) X.env) :: starEach [] X.env := by rfl)
    (hpl : (backTo pos (starEach [.Name T q] X.env)).any (·.1) = false := by rfl) : PE X (.Call (.Name "isinstance" p) [e, .Name T q] [] pos) (TV X.K RX W (fIsi c fe)) :=
  PE.imp (pe_callB call_isi hg hm hv (pa_cons ha (pa_cons (pe_bltn hgT hmT hvT (v := V.ty c.name) rfl hn hdb) pa_nil hs2) hs) (by decide) (by decide) hs hpl) fun σ H Q t => by
    refine (TF.bind (Rel := RelD X.K) (k := fun s d h1 => match tyD d h1 with
      | some t => .ok (D.p (.bl (isiY t c))) h1
      | none => .bad) t).mono fun v H1 q => ?_
    obtain ⟨ρ1, s, h1, d, w1, rs, rl, p⟩ := q
    split at p
    · rename_i t et
      exact ⟨v, V.ty c.name, .type t.name, .type c.name, _, rfl, .ty _, tyD_ok w1 rl et, kit_ty (kit_all t c), Post.ok w1 (.p (.bl _)) p⟩
    · exact p.elim
end
end MV

/-! MV14: range with step -1, comprehensions over a dict's keys. -/
namespace MV
open PySem PySem.Spec PyProof.Rows L2

def fRange3 (a : FA) : FI := fun s h => (a s h).bind fun ds h1 => match ds with
  | [.p (.int i), .p (.int j), .p (.int c)] => if (inR i && inR j) && decide (c = -1) then .ok (rngStepP i (-1) (i - j).toNat) h1 else .bad
  | _ => .bad
section
variable {X : Cx} {RX : RXT} {W : WX} {tg e e2 : Expr} {es : List Expr} {fe : FE} {fa : FA} {pos p tpos : Pos}
theorem vi_range3 {a b c : Expr} (hg : Gl X "range") (hm : X.mg "range" = none) (ha : PA X [a, b, c] (TL X.K RX W fa)) (hs : starEach [a, b, c] X.env = (false, eval a X.env) :: starEach [b, c] X.env := by rfl) (hpl : (backTo pos (starEach [b, c] X.env)).any (·.1) = false := by rfl) :
    PI X tg (.Call (.Name "range" p) [a, b, c] [] pos) (TIV X.K RX W (fRange3 fa)) :=
  PI.imp (pi_range3 hg hm ha hs hpl) fun σ H Q t => by
    refine (TF.bind (Rel := RelDs X.K) (k := fun s ds h1 => match ds with
      | [.p (.int i), .p (.int j), .p (.int c)] => if (inR i && inR j) && decide (c = -1) then .ok (rngStepP i (-1) (i - j).toNat) h1 else .bad
      | _ => .bad) t).mono fun v H1 q => ?_
    obtain ⟨ρ1, s, h1, ds, w1, rs, rl, p⟩ := q
    split at p
    · rename_i i j c
      split at p
      · rename_i hj
        rw [Bool.and_eq_true, Bool.and_eq_true, decide_eq_true_eq] at hj
        obtain ⟨⟨hi, hj⟩, hc⟩ := hj
        subst hc
        obtain ⟨b1, b2⟩ := inR_ok hi
        obtain ⟨b3, b4⟩ := inR_ok hj
        cases rl with
        | cons ra rr =>
          cases rr with
          | cons rb rr =>
            cases rr with
            | cons rc rr =>
              cases rr
              cases ra with
              | p ra =>
                cases rb with
                | p rb =>
                  cases rc with
                  | p rc =>
                    cases ra
                    cases rb
                    cases rc
                    exact ⟨i, j, -1, _, rfl, .neg b1 b2 b3 b4, Post.ok w1 (wk_rangeC i _ _) p⟩
      · exact p.elim
    · exact p.elim
end

/-! ### a dict that is read while it is walked over: locked -/
def pK : Key → P
  | .inl i => .int i
  | .inr s => .str s
def keysP (kvs : List (Key × P)) : List P := kvs.map fun kv => pK kv.1
section
variable {K : PySem.W.Frag} {ρ : Rho} {H H' : Hp} {h : VH}
/-- what stands there stays to be read -/
def Rds (H H' : Hp) : Prop := ∀ (b : Addr) (u : HO), (∀ o z, u ≠ .frz o z) → Rd H b u → Rd H' b u
mutual
theorem RelP.rd (k : Rds H H') : ∀ {x : P} {v : V}, RelP K ρ H x v → RelP K ρ H' x v
  | _, _, .non => .non
  | _, _, .bl b => .bl b
  | _, _, .int i => .int i
  | _, _, .str s => .str s
  | _, _, .fn a => .fn a
  | _, _, .rep a => .rep a
  | _, _, .tup q r => .tup (by
      rcases q with ⟨q, n⟩ | q
      · exact .inl ⟨k _ _ (fun _ _ z => by cases z) q, n⟩
      · exact .inr q) (RelPs.rd k r)
  | _, _, .lst q r => .lst (by
      rcases q with ⟨q, n⟩ | q
      · exact .inl ⟨k _ _ (fun _ _ z => by cases z) q, n⟩
      · exact .inr q) (RelPs.rd k r)
  | _, _, .dct q n r => .dct (k _ _ (fun _ _ z => by cases z) q) n (RelKV.rd k r)
theorem RelPs.rd (k : Rds H H') : ∀ {x : List P} {v : List V}, RelPs K ρ H x v → RelPs K ρ H' x v
  | _, _, .nil => .nil
  | _, _, .cons a b => .cons (RelP.rd k a) (RelPs.rd k b)
theorem RelKV.rd (k : Rds H H') : ∀ {x : List (Key × P)} {v : List (Key × V)}, RelKV K ρ H x v → RelKV K ρ H' x v
  | _, _, .nil => .nil
  | _, _, .cons a b => .cons (RelP.rd k a) (RelKV.rd k b)
end
theorem RelD.rd (k : Rds H H') {x : D} {v : V} (r : RelD K ρ H x v) : RelD K ρ H' x v := by
  cases r with
  | p r => exact .p (r.rd k)
  | ob a b => exact .ob a b
theorem RelS.rd (k : Rds H H') : ∀ {x : Sg} {v : L2.St}, RelS K ρ H x v → RelS K ρ H' x v
  | _, _, .nil => .nil
  | _, _, .cons (a := a) (b := b) q r => .cons (by
      cases a with
      | none => trivial
      | some d =>
        cases b with
        | none => exact q
        | some v => exact RelD.rd k q) (RelS.rd k r)
theorem RelW.rd (k : Rds H H') (kl : ∀ a, Live ρ a → H' a = H a) (kc : ∀ c q, H c = some (LamX.CodeO c q) → H' c = some (LamX.CodeO c q)) (w : RelW K ρ H h) : RelW K ρ H' h where
  len := w.len
  inj := w.inj
  at_ := fun n o ho => by
    rcases w.at_ n o ho with h1 | ⟨a, h1, h2⟩
    · exact .inl h1
    · refine .inr ⟨a, h1, ?_⟩
      have e := kl a ⟨n, h1⟩
      cases o with
      | dead => trivial
      | lst l => obtain ⟨xs, h3, h4⟩ := h2; exact ⟨xs, by rw [e]; exact h3, h4.rd k⟩
      | dK l => obtain ⟨xs, h3, h4⟩ := h2; exact ⟨xs, by rw [e]; exact h3, h4.rd k⟩
      | tab p q =>
        obtain ⟨h0, ps, h1, h2, h3⟩ := h2
        refine ⟨h0, ps, by rw [e]; exact h1, h2, fun pos cv hc => ?_⟩
        obtain ⟨c, e1, e2, e3⟩ := h3 pos cv hc
        exact ⟨c, e1, kc c q e2, e3⟩
  live := fun n a hn => by
    obtain ⟨o, ho⟩ := w.live n a hn
    exact ⟨o, by rw [kl a ⟨n, hn⟩]; exact ho⟩
theorem kc_upd {a : Addr} {o u : HO} (ha : H a = some o) (no : ∀ c q, o ≠ LamX.CodeO c q) : ∀ c q, H c = some (LamX.CodeO c q) → upd H a u c = some (LamX.CodeO c q) := fun c q hc => by
  rw [upd_ne]
  · exact hc
  · intro z
    subst z
    rw [ha] at hc
    exact no c q (Option.some.inj hc)
theorem rds_lock {a : Addr} {o : Obj} {vs : List (Key × V)} (ha : H a = some (.dK vs)) : Rds H (upd H a (.frz o (.dK vs))) := fun b u nf r => by
  by_cases e : b = a
  · subst e
    rcases r with r | ⟨o', r⟩
    · rw [ha] at r; cases r; exact .inr ⟨o, upd_same⟩
    · rw [ha] at r; cases r
  · rcases r with r | ⟨o', r⟩
    · exact .inl (by rw [upd_ne e]; exact r)
    · exact .inr ⟨o', by rw [upd_ne e]; exact r⟩
theorem rds_unlock {a : Addr} {o : Obj} {vs : List (Key × V)} (ha : H a = some (.frz o (.dK vs))) : Rds H (upd H a (.dK vs)) := fun b u nf r => by
  by_cases e : b = a
  · subst e
    rcases r with r | ⟨o', r⟩
    · rw [ha] at r; cases r; exact absurd rfl (nf _ _)
    · rw [ha] at r; cases r; exact .inl upd_same
  · rcases r with r | ⟨o', r⟩
    · exact .inl (by rw [upd_ne e]; exact r)
    · exact .inr ⟨o', by rw [upd_ne e]; exact r⟩
theorem ext_unlock {ρ' : Rho} {a : Addr} {o : Obj} {vs : List (Key × V)} (ha : H a = some (.dK vs)) (n : ¬ Live ρ a) (e : Ext ρ (upd H a (.frz o (.dK vs))) ρ' H') : Ext ρ H ρ' (upd H' a (.dK vs)) where
  len := e.len
  old := e.old
  new := fun m b hm hb => by
    intro o ho
    by_cases eb : b = a
    · subst eb
      obtain ⟨ps, z⟩ := e.new m b hm hb _ upd_same
      cases z
    · exact e.new m b hm hb o (by rw [upd_ne eb]; exact ho)
  keep := fun b u hb nb nt => by
    by_cases eb : b = a
    · subst eb; rw [ha] at hb; cases hb; exact upd_same
    · rw [upd_ne eb]
      exact e.keep b u (by rw [upd_ne eb]; exact hb) nb nt
  there := fun b u hb nt => by
    by_cases eb : b = a
    · subst eb; exact ⟨_, upd_same, by intro ps z; cases z⟩
    · obtain ⟨u', h1, h2⟩ := e.there b u (by rw [upd_ne eb]; exact hb) nt
      exact ⟨u', by rw [upd_ne eb]; exact h1, h2⟩
theorem RelKV.getV : ∀ {kvs : List (Key × P)} {vs : List (Key × V)} {i : Nat} {k : Key} {v : V}, RelKV K ρ H kvs vs → vs[i]? = some (k, v) → ∃ x, kvs[i]? = some (k, x) ∧ RelP K ρ H x v
  | _, _, _, _, _, .nil, h => by simp at h
  | _, _, 0, _, _, .cons a _, h => by simp at h; obtain ⟨rfl, rfl⟩ := h; exact ⟨_, rfl, a⟩
  | _, _, i + 1, k, v, .cons _ b, h => by
    obtain ⟨x, h1, h2⟩ := RelKV.getV (i := i) (k := k) (v := v) b (by simpa using h)
    exact ⟨x, by simpa using h1, h2⟩
theorem relK (k : Key) : RelP K ρ H (pK k) (kV k) := by
  cases k with
  | inl i => exact .int i
  | inr s => exact .str s
theorem wk_keys {a : Addr} {o : Obj} {vs : List (Key × V)} {kvs : List (Key × P)} (ha : H a = some (.frz o (.dK vs))) (n : ¬ Live ρ a) (r : RelKV K ρ H kvs vs) : Wk K ρ H (Itk a o vs) (keysP kvs) where
  go := fun ρ' H' e i hi => ⟨e.keep a _ ha n (by intro ps z; cases z), by rw [← r.len]; simpa [keysP] using hi⟩
  stop := fun ρ' H' e => ⟨e.keep a _ ha n (by intro ps z; cases z), by rw [← r.len]; simp [keysP]⟩
  yld := fun ρ' H' h' e w i x d H'' hd y => by
    obtain ⟨rfl, k, v, hk, rfl⟩ := y
    obtain ⟨z, hz, _⟩ := r.getV hk
    have : d = pK k := by
      simp only [keysP, List.getElem?_map, hz, Option.map_some] at hd
      exact (Option.some.inj hd).symm
    subst this
    exact ⟨.refl _ _, .refl _, relK k⟩
end
def fLcK (i : Nat) (g : GT) (t : FB) (e : FE) (own : List Nat) : FE := fun s h => match s[i]? with
  | some (some (.p (.dct kvs))) => lcEnd h.length (lcL g t e own h.length (keysP kvs) s (h ++ [.lst []]))
  | _ => .bad
theorem lcEnd_exc {n : Nat} {r : Option VH} {z : Ex} {h : VH} (e : lcEnd n r = .exc z h) : False := by
  unfold lcEnd at e
  split at e
  · split at e <;> cases e
  · cases e
section
variable {X : Cx} {RX : RXT} {W : WX} {elt tg : Expr} {ifs : List Expr} {scope : Scope} {own : List (Str × Nat)} {pos ipos : Pos} {g : GT} {t : FB} {e : FE} {os : List Nat}
theorem v_lcK (i : Nat) {x : Str} (hc : X.calm = true) (hN : X.N.Nodup) (ok : BlkOk X.N X.env.scope scope own)
    (hg : ∀ (s : Shared) (H : Hp) (C : Addr) (cl : List (Str × Addr)) (fp : List Addr), PG (X.blk s H scope (compEnvC scope cl C X.env) fp) tg (TGV X.K os g))
    (ht : ∀ (s : Shared) (H : Hp) (C : Addr) (cl : List (Str × Addr)) (fp : List Addr), PTs (X.blk s H scope (compEnvC scope cl C X.env) fp) ifs (TB X.K RX W0 t))
    (he : ∀ (s : Shared) (H : Hp) (C : Addr) (cl : List (Str × Addr)) (fp : List Addr), PE (X.blk s H scope (compEnvC scope cl C X.env) fp) elt (TV X.K RX W0 e))
    (hi : X.N[i]? = some x := by rfl) (hv : Vis X.env.scope x := by first | exact Or.inl rfl | exact Or.inr (Or.inl rfl) | exact Or.inr (Or.inr rfl)) (hd : (x == ("__debug__" : Str)) = false := by decide)
    (hcd : (x == ("__classdict__" : Str)) = false := by decide)
    (hos : (os.all fun j => (own.map (·.2)).contains j) = true := by rfl) (hs : ∀ y, foldedSetIterable (.Name x ipos) X.env y = pure y := by intro _; rfl) :
    PE X (.ListComp elt [⟨tg, .Name x ipos, ifs, 0⟩] scope pos) (TV X.K RX W (fLcK i g t e (own.map (·.2)))) := by
  have hlc := pe_lc (X := X) (pos := pos) hc hN (pi_keys (tg := tg) (pe_var (pos := ipos) hi hv hd hcd)) ok hg ht he hs
  have hos' : ∀ j ∈ os, j ∈ own.map (·.2) := fun j hj => by
    have := List.all_eq_true.mp hos j hj
    simpa using this
  refine PE.imp (PE.or hlc (pe_lock hlc)) fun σ H Q hT => ?_
  obtain ⟨ρ, s, h, w, rs, p⟩ := hT
  unfold fLcK at p
  split at p
  · rename_i kvs es
    obtain ⟨v, hv2, r⟩ := rs.get es
    cases r with
    | p r =>
      cases r with
      | dct rd nl rk =>
        rename_i a vs
        rcases rd with ha | ⟨o, ha⟩
        · refine .inr ⟨a, .dK vs, ha, by trivial, fun od => ?_⟩
          have kL := rds_lock (o := od) ha
          have wL : RelW X.K ρ (upd H a (.frz od (.dK vs))) h := w.rd kL (fun b hb => upd_ne fun z => nl (by rw [← z]; exact hb)) (kc_upd ha fun c q z => by unfold LamX.CodeO at z; cases z)
          refine ⟨_, hv2, a, od, rfl, .inl ⟨vs, upd_same, ?_⟩⟩
          have p' : Post X.K RX (RelD X.K) ρ (upd H a (.frz od (.dK vs))) (lcEnd h.length (lcL g t e (own.map (·.2)) h.length (keysP kvs) s (h ++ [.lst []]))) (fun v H' => H' a = some (.frz od (.dK vs)) ∧ Q v (upd H' a (.dK vs))) (fun c d H' => W c d σ H') := by
            cases eR : lcEnd h.length (lcL g t e (own.map (·.2)) h.length (keysP kvs) s (h ++ [.lst []])) with
            | bad => rw [eR] at p; exact p
            | exc z h' => exact (lcEnd_exc eR).elim
            | ok d h' =>
              rw [eR] at p
              intro ρ' H' v' x w' rl
              have hk : H' a = some (.frz od (.dK vs)) := x.keep a _ upd_same nl (by intro ps z; cases z)
              have nl' : ¬ Live ρ' a := x.notLive upd_same nl
              have kU := rds_unlock hk
              exact ⟨hk, p ρ' _ v' (ext_unlock ha nl x) (w'.rd kU (fun b hb => upd_ne fun z => nl' (by rw [← z]; exact hb)) (kc_upd hk fun c q z => by unfold LamX.CodeO at z; cases z)) (rl.rd kU)⟩
          exact tLc_core (W := W) (Q := fun v H' => H' a = some (.frz od (.dK vs)) ∧ Q v (upd H' a (.dK vs))) hos' wL (rs.rd kL) (wk_keys upd_same nl (rk.rd kL)) p'
        · exact .inl ⟨_, hv2, a, o, rfl, .inl ⟨vs, ha, tLc_core (W := W) hos' w rs (wk_keys ha nl rk) p⟩⟩
  · exact p.elim
end
end MV

/-! MV15: what the printed walks use. -/
namespace MV
open PySem PySem.Spec PyProof.Rows L2

def fT (f : FE) : FB := fun s h => asB (f s h)
theorem rEqA_mono {K : PySem.W.Frag} : ∀ x y H (Q Q' : VK), (∀ v H', Q v H' → Q' v H') → rEqA K x y H Q → rEqA K x y H Q' := fun x y H Q Q' hq q => by
  rcases q with ⟨h1, q⟩ | ⟨d, e, h1, h2, h3, h4, q⟩
  · exact .inl ⟨h1, hq _ _ q⟩
  · exact .inr ⟨d, e, h1, h2, h3, h4, hq _ _ q⟩
theorem hu65_of {A : Around} {k : Nat} (hr : Room k A) : A.units + 65 < cLine := by
  have := hr.un
  omega
/-- a def that may be called by its name -/
structure Cal (P : Program) (w : World) (K : PySem.W.Frag) (mg : Str → Option Value) (base : Heap) (RX : RXT) (k : Nat) (x : Str) (f : Addr) (fd : FuncData) (ps : List Str) (F : Fn) : Prop where
  m : FnM P w K mg base RX k f fd ps F
  g : mg x = some (.ref f)
  kp : PySem.W.keepIn K (.ref f) = true
  b : Binds K fd ps []
theorem kb_of {K : PySem.W.Frag} {x qual : Str} {params : Arguments} {body : List Stmt} {scope : Scope} {kws : List (Str × V)} {f : Addr} {fd : FuncData} {ps ks : List Str} {n : Nat} {pm : List Nat} (F : FunD K x qual params body scope [] kws f fd)
    (h : ∀ (kV doc pmv : Value) (an : Option Addr) (cdv ct : Value) (us ws : List Value), us.length = n → ws.length = ks.length → bindArgs (PySem.W.fnOf x qual params body scope .none kV doc pmv an cdv ct) ⟨us, ks.zip ws⟩ = pure (ps.zip (pickL pm (us ++ ws)))) : KB K fd ps n ks pm := by
  obtain ⟨oc, od, dV, kV, doc, pmv, an, cdv, ct, osl, rfl, lk, hcd, hD, hK⟩ := F.ex
  rcases hD with ⟨_, rfl⟩ | ⟨e, _⟩
  · exact fun s us ws hu hw => .of_eq (h kV doc pmv an cdv ct us ws hu hw)
  · exact absurd rfl e
end MV

/-! MV16: list * int, tuple * int. -/
namespace MV
open PySem PySem.Spec PyProof.Rows L2

theorem int_rmul_listW (a : Int) (t : Tok) (l : Addr) (items : Array Value) (n : Nat) (dd : Option Addr) (sl : Array (Option Value)) :
    Meets (Builtin.«int.__rmul__» ⟨[.int a t, .ref l], []⟩) (fun _ R s => s.heap.get? l = some { cls := .type "list", dict := dd, data := .seq items n, slots := sl } ∧ R (.ok (.ret Value.notImplemented)) s) :=
  .of_wp fun prog w A R s h => by obtain ⟨hp, g, d, tk, os⟩ := s; obtain ⟨hl, h⟩ := h; wp_walk using wpAny_loadPart' hl; exact ⟨_, rfl, h⟩
theorem list_mulW (l : Addr) (items : Array Value) (n : Nat) (dd : Option Addr) (sl : Array (Option Value)) (x : Int) (u : Tok) (hc0 : ¬(!Builtin.List.listFitsIndex x) = true) (hc1 : ¬items.size * x.toNat > (2 ^ 63 - 1) / 8) (hc2 : ¬Builtin.List.listTooLong (items.size * x.toNat) = true)
    (hsz : (List.foldl (fun x1 x2 => x1 ++ x2) #[] (List.replicate (if items.isEmpty = true then 0 else x.toNat) items)).size ≤ sizeLine) :
    Meets (Builtin.«list.__mul__» ⟨[.ref l, .int x u], []⟩) (fun _ R s => s.heap.get? l = some { cls := .type "list", dict := dd, data := .seq items n, slots := sl } ∧
      R (.ok (.ret (Value.ref s.heap.objs.size))) { s with heap := s.heap.push { cls := Value.type "list", data := Data.seq (List.foldl (fun x1 x2 => x1 ++ x2) #[] (List.replicate (if items.isEmpty = true then 0 else x.toNat) items)) }, toks := s.toks }) :=
  .of_wp fun prog w A R s h => by
    obtain ⟨hp, g, d, tk, os⟩ := s; obtain ⟨hl, h⟩ := h
    have f1 := AutoSeq1.idx_int
    wp_walk using wpAny_loadPart' hl
    refine wpAny_ite_false (decide_eq_false (Nat.not_lt.mpr hsz)) ?_
    wp_walk using wpAny_loadPart' hl
    exact ⟨_, rfl, h⟩
def rRepS (K : PySem.W.Frag) : R2 := fun x y H Q => ∃ l k xs, x = .ref l ∧ y = .int k ∧ SqL K H l xs ∧ 0 ≤ k ∧ k ≤ 1000 ∧ xs.length ≤ 1000 ∧ ∀ p, H p = none → Q (.ref p) (upd H p (.lst (List.replicate k.toNat xs).flatten))
section
variable {X : Cx}
theorem op_repS : OpR X (binaryOp .Mult) (rRepS X.K) := by
  intro pins s σ H x y v u Q I rx ry h
  obtain ⟨l, k, xs, rfl, rfl, hT, h1, h2, hz, q⟩ := h
  cases rx
  obtain ⟨t, rfl⟩ := ry
  obtain ⟨its, r, ⟨⟨cls, dd, data, sl⟩, n, ho, hc, hd0, hd⟩, hs⟩ := I.list hT
  simp only at hc hd hd0
  subst hc hd hd0
  have hle : its.length = xs.length := r.length.symm
  have hfl : (List.replicate k.toNat its).flatten.length ≤ 1000000 := by
    rw [PyProof.Rows.lm_len_rep_flat, hle]
    exact Nat.mul_le_mul (show k.toNat ≤ 1000 by omega) hz
  have hprod : its.toArray.size * k.toNat ≤ 1000000 := by
    rw [List.size_toArray, hle]
    exact Nat.mul_le_mul hz (show k.toNat ≤ 1000 by omega)
  have hnew : List.foldl (fun x1 x2 => x1 ++ x2) #[] (List.replicate (if its.toArray.isEmpty = true then 0 else k.toNat) its.toArray) = (List.replicate k.toNat its).flatten.toArray := by
    rw [size_rep]
    cases its with
    | nil => simp
    | cons a r' => rw [if_neg (by simp)]
  have e16 : sizeLine = 16777216 := sizeLine_eq
  have hfit : ¬ (!Builtin.List.listFitsIndex k) = true := by
    rw [fitsIndex_both (by omega) (by omega)]
    exact Bool.false_ne_true
  have hlong : ¬ Builtin.List.listTooLong (its.toArray.size * k.toNat) = true := by
    rw [notLongL (by omega)]
    exact Bool.false_ne_true
  refine wpAny_binaryOp_repeat_ref (T := "list") (U := "int") (by decide) ⟨_, ho, rfl⟩ (fun s' => typeIs_int s' k t) noFill_list_mul F.fills_int_mul F.slot_int_rmul repeat_list F.slot_int_index.lookup
    (call_meets F.slot_int_rmul (typeIs_int s k t) F.entry_int_rmul (F.args_int_rmul_2 _ _) (int_rmul_listW k t l its.toArray n _ sl)
      ⟨ho, rfl, ⟨_, ho, rfl⟩, call_meets F.slot_list_mul ⟨_, ho, rfl⟩ F.entry_list_mul (F.args_list_mul_2 _ _) (list_mulW l its.toArray n _ sl k t hfit (by omega) hlong (by rw [hnew, List.size_toArray]; omega)) ⟨ho, ?_⟩⟩)
  rw [hnew]
  exact ⟨.ref _, _, I.lnew (t' := s.toks) (r.rep k.toNat) (by rw [PyProof.Rows.lm_len_rep_flat, ← hle, ← PyProof.Rows.lm_len_rep_flat]; omega), rfl, q _ I.fresh⟩
theorem o_rep : OpR X (binaryOp .Mult) (fun x y H Q => rRepS X.K x y H Q ∨ rRepT X.K x y H Q) := OpR.or op_repS op_repT
end
def repP (k : Nat) (l : List P) : List P := (List.replicate k l).flatten
/-- list * int, tuple * int -/
def opRep : Op2 := fun a b h => match a, b with
  | .p (.lst l), .p (.int k) => if decide (0 ≤ k) && (decide (k ≤ 1000) && decide (l.length ≤ 1000)) then .ok (.p (.lst (repP k.toNat l))) h else .bad
  | .p (.tup l), .p (.int k) => if (!l.isEmpty) && (decide (2 ≤ k) && (decide (k ≤ 1000) && decide (l.length ≤ 1000))) then .ok (.p (.tup (repP k.toNat l))) h else .bad
  | _, _ => .bad
theorem rel_rep {K : PySem.W.Frag} {ρ : Rho} {H : Hp} {l : List P} {xs : List V} (r : RelPs K ρ H l xs) : ∀ k : Nat, RelPs K ρ H (repP k l) (List.replicate k xs).flatten
  | 0 => by simp [repP]; exact .nil
  | k + 1 => by
    have := rel_rep r k
    unfold repP at this ⊢
    simp only [List.replicate_succ, List.flatten_cons]
    exact r.app this
theorem ov_rep {K : PySem.W.Frag} {RX : RXT} : OpV K RX (fun x y H Q => rRepS K x y H Q ∨ rRepT K x y H Q) opRep := fun ρ H h a b v u Q E w ra rb p => by
  unfold opRep at p
  split at p
  · rename_i l k
    split at p
    · rename_i hc
      simp only [Bool.and_eq_true, decide_eq_true_eq] at hc
      cases rb with | p rb => cases rb; cases ra with | p ra => cases ra with | lst q r => exact .inl ⟨_, _, _, rfl, rfl, q.seq, hc.1, hc.2.1, by rw [← r.len]; exact hc.2.2, fun z hz => p _ _ _ (.laid hz) (w.laid hz) (.p (w.lstP hz (rel_rep r _)))⟩
    · exact p.elim
  · rename_i l k
    split at p
    · rename_i hc
      simp only [Bool.and_eq_true, decide_eq_true_eq] at hc
      cases rb with | p rb => cases rb; cases ra with | p ra => cases ra with | tup q r => exact .inr ⟨_, _, _, rfl, rfl, q.seq, (by
        intro e
        have hl := r.len
        rw [e] at hl
        have : l = [] := List.eq_nil_of_length_eq_zero hl
        rw [this] at hc
        simp at hc), hc.2.1, hc.2.2.1, by rw [← r.len]; exact hc.2.2.2, fun z hz => p _ _ _ (.laid hz) (w.laid hz) (.p (w.tupP hz (rel_rep r _)))⟩
    · exact p.elim
  · exact p.elim
end MV

/-! MVS: the functions evaluated by simp. -/
namespace MV
open PySem PySem.Spec PyProof.Rows L2

section
variable {α β : Type}
@[simp] theorem bind_ok (a : α) (h : VH) (k : α → VH → R β) : (R.ok a h).bind k = k a h := rfl
@[simp] theorem bind_bad (k : α → VH → R β) : (R.bad : R α).bind k = .bad := rfl
@[simp] theorem bind_exc (x : Ex) (h : VH) (k : α → VH → R β) : (R.exc x h : R α).bind k = .exc x h := rfl
@[simp] theorem thenS_ok (a : α) (h : VH) (s : Sg) (k : α → VH → O) : (R.ok a h).thenS s k = k a h := rfl
@[simp] theorem thenS_bad (s : Sg) (k : α → VH → O) : (R.bad : R α).thenS s k = .bad := rfl
@[simp] theorem seq_nx (s : Sg) (h : VH) (g : FS) : (O.nx s h).seq g = g s h := rfl
@[simp] theorem seq_rt (d : D) (h : VH) (g : FS) : (O.rt d h).seq g = .rt d h := rfl
@[simp] theorem seq_bk (s : Sg) (h : VH) (g : FS) : (O.bk s h).seq g = .bk s h := rfl
@[simp] theorem seq_ct (s : Sg) (h : VH) (g : FS) : (O.ct s h).seq g = .ct s h := rfl
@[simp] theorem seq_bad (g : FS) : O.bad.seq g = .bad := rfl
@[simp] theorem asB_bl (b : Bool) (h : VH) : asB (.ok (.p (.bl b)) h) = .ok b h := rfl
@[simp] theorem truth_bl (b : Bool) (h : VH) : truth (.p (.bl b)) h = .ok b h := rfl
end
theorem fVar_get {i : Nat} {s : Sg} {d : D} (e : s[i]? = some (some d)) (h : VH) : fVar i s h = .ok d h := by
  unfold fVar; rw [e]
@[simp] theorem fC_ev (x : P) (s : Sg) (h : VH) : fC x s h = .ok (.p x) h := rfl
@[simp] theorem fNil_ev (s : Sg) (h : VH) : fNil s h = .ok [] h := rfl
@[simp] theorem fCons_ev (a : FE) (r : FA) (s : Sg) (h : VH) : fCons a r s h = (a s h).bind fun x h1 => (r s h1).bind fun xs h2 => .ok (x :: xs) h2 := rfl
@[simp] theorem f2_ev (g : Op2) (a b : FE) (s : Sg) (h : VH) : f2 g a b s h = (a s h).bind fun x h1 => (b s h1).bind fun y h2 => g x y h2 := rfl
@[simp] theorem f1_ev (g : Op1) (a : FE) (s : Sg) (h : VH) : f1 g a s h = (a s h).bind fun x h1 => g x h1 := rfl
@[simp] theorem fT_ev (f : FE) (s : Sg) (h : VH) : fT f s h = asB (f s h) := rfl
@[simp] theorem fTru_ev (a : FE) (s : Sg) (h : VH) : fTru a s h = (a s h).bind truth := rfl
@[simp] theorem fB_ev (g : OpN) (a : FA) (s : Sg) (h : VH) : fB g a s h = (a s h).bind fun ds h1 => g ds h1 := rfl
@[simp] theorem fCall_ev (F : Fn) (a : FA) (s : Sg) (h : VH) : fCall F [] a s h = (a s h).bind fun xs h1 => F xs h1 := by
  unfold fCall; simp
@[simp] theorem fNot_ev (a : FB) (s : Sg) (h : VH) : fNot a s h = (a s h).bind fun k h1 => .ok (!k) h1 := rfl
@[simp] theorem fNotV_ev (a : FE) (s : Sg) (h : VH) : fNotV a s h = (a s h).bind fun x h1 => (truth x h1).bind fun k h2 => .ok (.p (.bl (!k))) h2 := rfl
theorem fAnd_ev (a b : FB) (s : Sg) (h : VH) : fAnd a b s h = (a s h).bind fun k h1 => bif k then b s h1 else .ok false h1 := by
  unfold fAnd; congr 1
theorem fOr_ev (a b : FB) (s : Sg) (h : VH) : fOr a b s h = (a s h).bind fun k h1 => bif k then .ok true h1 else b s h1 := by
  unfold fOr; congr 1
theorem fAndV_ev (a b : FE) (s : Sg) (h : VH) : fAndV a b s h = (a s h).bind fun x h1 => (truth x h1).bind fun k h2 => bif k then b s h2 else .ok x h2 := by
  unfold fAndV; congr 1
theorem fOrV_ev (a b : FE) (s : Sg) (h : VH) : fOrV a b s h = (a s h).bind fun x h1 => (truth x h1).bind fun k h2 => bif k then .ok x h2 else b s h2 := by
  unfold fOrV; congr 1
theorem fIfE_ev (c : FB) (a b : FE) (s : Sg) (h : VH) : fIfE c a b s h = (c s h).bind fun k h1 => bif k then a s h1 else b s h1 := by
  unfold fIfE; congr 1
theorem sIf_ev (c : FB) (f g : FS) (s : Sg) (h : VH) : sIf c f g s h = (c s h).thenS s fun k h1 => bif k then f s h1 else g s h1 := by
  unfold sIf; congr 1
@[simp] theorem sSeq_ev (f g : FS) (s : Sg) (h : VH) : sSeq f g s h = (f s h).seq g := rfl
@[simp] theorem sNext_ev (s : Sg) (h : VH) : sNext s h = .nx s h := rfl
@[simp] theorem sBreak_ev (s : Sg) (h : VH) : sBreak s h = .bk s h := rfl
@[simp] theorem sRet_ev (a : FE) (s : Sg) (h : VH) : sRet a s h = (a s h).thenS s fun d h1 => .rt d h1 := rfl
@[simp] theorem sDrop_ev (a : FE) (s : Sg) (h : VH) : sDrop a s h = (a s h).thenS s fun _ h1 => .nx s h1 := rfl
@[simp] theorem sAsgN_ev (a : FE) (i : Nat) (s : Sg) (h : VH) : sAsg a (gtName i) s h = (a s h).thenS s fun d h1 => .nx (s.set i (some d)) h1 := rfl
theorem sAsg_ev (a : FE) (g : GT) (s : Sg) (h : VH) : sAsg a g s h = (a s h).thenS s fun d h1 => match g d s with
  | some s' => .nx s' h1
  | none => .bad := rfl
theorem sFor_ev (i : FI) (g : GT) (b : FS) (s : Sg) (h : VH) : sFor i g b s h = (i s h).thenS s fun l h1 => forL g b l s h1 := rfl
/-- a call, its body's outcome known -/
theorem run_rt {np N : Nat} {b : FS} {ds : List D} {h h' : VH} {x : P} (hl : ds.length = np) (e : b (ds.map some ++ List.replicate (N - np) none) h = .rt (.p x) h') (ht : h'.take h.length = h) : runF np N b ds h = .ok (.p x) h := by
  unfold runF
  rw [if_pos hl, e]
  unfold finF
  dsimp only
  rw [ht]

/-! ### values -/
def optP : Option Int → P
  | none => .non
  | some i => .int i
def pairP (a b : P) : P := .tup [a, b]

/-! ### comprehensions without effects -/
theorem lcL_pure {g : GT} {t : FB} {e : FE} {own : List Nat} {s : Sg} {h : VH} (st : P → Sg) (c : P → Bool) (r : P → P) : ∀ (l : List P) (acc : List P), (∀ x ∈ l, g (.p x) (wipeS s own) = some (st x)) → (∀ x ∈ l, ∀ hh, t (st x) hh = .ok (c x) hh) → (∀ x ∈ l, c x = true → ∀ hh, e (st x) hh = .ok (.p (r x)) hh) → acc.length + l.length ≤ sizeLine →
    lcL g t e own h.length l s (h ++ [.lst acc]) = some (h ++ [.lst (acc ++ (l.filter c).map r)])
  | [], acc, _, _, _, _ => by simp [lcL]
  | x :: l, acc, hg, ht, he, hn => by
    unfold lcL
    rw [hg x (List.mem_cons_self ..)]
    dsimp only
    rw [ht x (List.mem_cons_self ..)]
    have ih := fun acc => lcL_pure (h := h) (g := g) (t := t) (e := e) (own := own) (s := s) st c r l acc (fun y hy => hg y (List.mem_cons_of_mem _ hy)) (fun y hy => ht y (List.mem_cons_of_mem _ hy)) (fun y hy => he y (List.mem_cons_of_mem _ hy))
    simp only [List.length_cons] at hn
    cases hc : c x with
    | false =>
      dsimp only
      rw [ih acc (by omega), List.filter_cons_of_neg (by simp [hc])]
    | true =>
      dsimp only
      rw [he x (List.mem_cons_self ..) hc]
      dsimp only
      have e1 : (h ++ [VO.lst acc])[h.length]? = some (.lst acc) := by simp
      rw [e1]
      dsimp only
      rw [if_pos (by omega)]
      have e2 : (h ++ [VO.lst acc]).set h.length (.lst (acc ++ [r x])) = h ++ [.lst (acc ++ [r x])] := by simp
      rw [e2, ih _ (by simp; omega), List.filter_cons_of_pos hc]
      simp
theorem lcEnd_pure {h : VH} {l : List P} : lcEnd h.length (some (h ++ [.lst l])) = .ok (.p (.lst l)) h := by
  unfold lcEnd
  simp
theorem fLc_pure {i : FI} {g : GT} {t : FB} {e : FE} {own : List Nat} {s : Sg} {h : VH} {l : List P} (st : P → Sg) (c : P → Bool) (r : P → P) (hi : i s h = .ok l h) (hg : ∀ x ∈ l, g (.p x) (wipeS s own) = some (st x)) (ht : ∀ x ∈ l, ∀ hh, t (st x) hh = .ok (c x) hh)
    (he : ∀ x ∈ l, c x = true → ∀ hh, e (st x) hh = .ok (.p (r x)) hh) (hn : l.length ≤ sizeLine) : fLc i g t e own s h = .ok (.p (.lst ((l.filter c).map r))) h := by
  unfold fLc
  rw [hi]
  dsimp only [bind_ok]
  rw [lcL_pure st c r l [] hg ht he (by simpa using hn), lcEnd_pure]
  simp
theorem fLcK_pure {i : Nat} {g : GT} {t : FB} {e : FE} {own : List Nat} {s : Sg} {h : VH} {kvs : List (Key × P)} (st : P → Sg) (c : P → Bool) (r : P → P) (hi : s[i]? = some (some (.p (.dct kvs)))) (hg : ∀ x ∈ keysP kvs, g (.p x) (wipeS s own) = some (st x)) (ht : ∀ x ∈ keysP kvs, ∀ hh, t (st x) hh = .ok (c x) hh)
    (he : ∀ x ∈ keysP kvs, c x = true → ∀ hh, e (st x) hh = .ok (.p (r x)) hh) (hn : kvs.length ≤ sizeLine) : fLcK i g t e own s h = .ok (.p (.lst (((keysP kvs).filter c).map r))) h := by
  unfold fLcK
  rw [hi]
  dsimp only
  rw [lcL_pure st c r _ [] hg ht he (by simpa [keysP] using hn), lcEnd_pure]
  simp
@[simp] theorem bYes_ev (s : Sg) (h : VH) : bYes s h = .ok true h := rfl
theorem filter_yes {α : Type} (l : List α) : l.filter (fun _ => true) = l := by simp
/-! ### loops -/
theorem forL_ix {g : GT} {b : FS} (I : Nat → Sg → VH → Prop) : ∀ (l : List P) (k : Nat), (∀ (i : Nat) (x : P), l[i]? = some x → ∀ s h, I (k + i) s h → ∃ s1, g (.p x) s = some s1 ∧ ∃ s2 h2, b s1 h = .nx s2 h2 ∧ I (k + i + 1) s2 h2) → ∀ s h, I k s h → ∃ s' h', forL g b l s h = .nx s' h' ∧ I (k + l.length) s' h'
  | [], k, _, s, h, hI => ⟨s, h, rfl, hI⟩
  | x :: l, k, hs, s, h, hI => by
    obtain ⟨s1, e1, s2, h2, e2, hI2⟩ := hs 0 x rfl s h hI
    obtain ⟨s', h', e3, hI3⟩ := forL_ix I l (k + 1) (fun i y hy s h hh => by
      have := hs (i + 1) y (by simpa using hy) s h (by rw [show k + (i + 1) = k + 1 + i by omega]; exact hh)
      rw [show k + (i + 1) = k + 1 + i by omega] at this
      exact this) s2 h2 hI2
    refine ⟨s', h', ?_, by rw [List.length_cons, show k + (l.length + 1) = k + 1 + l.length by omega]; exact hI3⟩
    unfold forL
    rw [e1]
    dsimp only
    rw [e2]
    exact e3
theorem forL_inv {g : GT} {b : FS} (I : Sg → VH → Prop) (l : List P) (hs : ∀ x ∈ l, ∀ s h, I s h → ∃ s1, g (.p x) s = some s1 ∧ ∃ s2 h2, b s1 h = .nx s2 h2 ∧ I s2 h2) (s : Sg) (h : VH) (hI : I s h) : ∃ s' h', forL g b l s h = .nx s' h' ∧ I s' h' := by
  obtain ⟨s', h', e, h1⟩ := forL_ix (g := g) (b := b) (fun _ => I) l 0 (fun i x hx s h hh => hs x (List.mem_of_getElem? hx) s h hh) s h hI
  exact ⟨s', h', e, h1⟩
/-! slices -/
theorem cut_from1 (l : List P) : cutP l (some 1) none = l.drop 1 := by
  unfold cutP HT.sIx
  cases l with
  | nil => rfl
  | cons x r => simp
theorem cut_to_m1 (l : List P) : cutP l none (some (-1)) = l.dropLast := by
  have e : HT.sIx l.length l.length (some (-1)) = l.length - 1 := by
    show (if (-1 : Int) < 0 then ((-1 : Int) + (l.length : Int)).toNat else min (-1 : Int).toNat l.length) = _
    rw [if_pos (by decide)]
    omega
  unfold cutP
  rw [e, List.dropLast_eq_take]
  simp [HT.sIx]
theorem cut_all (l : List P) : cutP l none none = l := by
  unfold cutP HT.sIx
  simp
theorem blsP_map {α : Type} (q : α → Bool) : ∀ l : List α, blsP (l.map fun x => P.bl (q x)) = some (l.map q)
  | [] => rfl
  | x :: l => by simp only [List.map_cons, blsP, blsP_map q l]
theorem gAll_map {α : Type} (q : α → Bool) (l : List α) (h : VH) : gAll [.p (.lst (l.map fun x => P.bl (q x)))] h = .ok (.p (.bl (l.all q))) h := by
  simp [gAll, b1, lstD, blsP_map, List.all_map]
theorem gAny_map {α : Type} (q : α → Bool) (l : List α) (h : VH) : gAny [.p (.lst (l.map fun x => P.bl (q x)))] h = .ok (.p (.bl (l.any q))) h := by
  simp [gAny, b1, lstD, blsP_map, List.any_map]
theorem intsP_map : ∀ l : List Int, intsP (l.map P.int) = some l
  | [] => rfl
  | x :: l => by simp only [List.map_cons, intsP, intsP_map l]
/-! a dict of ours under way: the newest object -/
theorem valP_app : ∀ (kvs : List (Key × P)) (k j : Key) (v : P), valP (kvs ++ [(k, v)]) j = match valP kvs j with
    | some x => some x
    | none => if k = j then some v else none
  | [], k, j, v => by simp [valP]
  | (i, x) :: r, k, j, v => by
    simp only [List.cons_append, valP]
    by_cases e : i = j
    · rw [if_pos e, if_pos e]
    · rw [if_neg e, if_neg e, valP_app r k j v]
theorem any_valP : ∀ (kvs : List (Key × P)) (k : Key), (kvs.any fun kv => decide (kv.1 = k)) = (valP kvs k).isSome
  | [], k => rfl
  | (i, x) :: r, k => by
    simp only [List.any_cons, valP]
    by_cases e : i = k
    · simp [e]
    · rw [if_neg e, any_valP r k]; simp [e]
theorem putP_new {kvs : List (Key × P)} {k : Key} (v : P) (h : valP kvs k = none) : putP kvs k v = kvs ++ [(k, v)] := by
  unfold putP
  rw [any_valP, h]
  rfl
theorem newest (h : VH) (o : VO) : (h ++ [o])[h.length]? = some o := by simp
theorem newest_set (h : VH) (o o' : VO) : (h ++ [o]).set h.length o' = h ++ [o'] := by simp
theorem opIn_dK (h : VH) (kvs : List (Key × P)) (i : Int) : opIn (.p (.int i)) (.ob h.length) (h ++ [.dK kvs]) = .ok (.p (.bl (valP kvs (.inl i)).isSome)) (h ++ [.dK kvs]) := by
  simp only [opIn, dctD, newest, opInK, keyD]
theorem opIx_dK {h : VH} {kvs : List (Key × P)} {i : Int} {x : P} (e : valP kvs (.inl i) = some x) : opIx (.ob h.length) (.p (.int i)) (h ++ [.dK kvs]) = .ok (.p x) (h ++ [.dK kvs]) := by
  simp only [opIx, dctD, newest, opIxK, keyD, e]
theorem putD_dK {h : VH} {kvs : List (Key × P)} {i : Int} {x : P} (hl : kvs.length < sizeLine) : putD (.ob h.length) (.p (.int i)) (.p x) (h ++ [.dK kvs]) = some (h ++ [.dK (putP kvs (.inl i) x)]) := by
  simp only [putD, newest, keyD, hl, if_true, newest_set]
theorem opIn_dct (h : VH) (kvs : List (Key × P)) (i : Int) : opIn (.p (.int i)) (.p (.dct kvs)) h = .ok (.p (.bl (valP kvs (.inl i)).isSome)) h := by
  simp only [opIn, dctD, opInK, keyD]
theorem opIx_dct {h : VH} {kvs : List (Key × P)} {i : Int} {x : P} (e : valP kvs (.inl i) = some x) : opIx (.p (.dct kvs)) (.p (.int i)) h = .ok (.p x) h := by
  simp only [opIx, dctD, opIxK, keyD, e]
end MV

/-! MVX: an own exception class, some own classes over a built-in one, whose __init__ stores one field. -/
namespace MV
open PySem PySem.Spec PyProof.Rows L2

/-- own classes, then the built-in tail -/
def OwnT (tl l : List Value) : Prop := ∃ cs : List Addr, l = cs.map Value.ref ++ tl
theorem ownT_by {tl : List Value} : ∀ {l : List Value}, (l.dropWhile isRf == tl) = true → OwnT tl l
  | [], h => ⟨[], by simpa using h⟩
  | v :: r, h => by
    by_cases e : isRf v = true
    · rw [List.dropWhile_cons_of_pos e] at h
      obtain ⟨cs, q⟩ := ownT_by h
      cases v with
      | ref c => exact ⟨c :: cs, by rw [q]; rfl⟩
      | _ => cases e
    · rw [List.dropWhile_cons_of_neg e] at h
      exact ⟨[], by simpa using h⟩
/-- a built-in class that such classes may stand over -/
structure Bt (B newId initId : String) (tl : List Value) : Prop where
  f : ExcBaseFacts B newId initId tl
  s : StoreFacts B tl "object.__setattr__" "object"
  ne : tl ≠ []
theorem OwnT.contains {tl l : List Value} (h : OwnT tl l) (x : String) : l.contains (.type x) = tl.contains (.type x) := by
  obtain ⟨cs, rfl⟩ := h
  induction cs with
  | nil => rfl
  | cons c cs ih =>
    rw [List.map_cons, List.cons_append, List.contains_cons, ih]
    rfl
theorem OwnT.pass {B newId initId : String} {tl l : List Value} (b : Bt B newId initId tl) (self : Value) (h : OwnT tl l) : refuseLoop self "__setattr__" l = pure () := by
  obtain ⟨cs, rfl⟩ := h
  induction cs with
  | nil => exact b.s.passes self
  | cons c cs ih =>
    rw [List.map_cons, List.cons_append, refuseLoop_ref]
    exact ih
theorem OwnT.ne {tl l : List Value} (h : OwnT tl l) (n : tl ≠ []) : l.isEmpty = false := by
  obtain ⟨cs, rfl⟩ := h
  cases cs with
  | nil =>
    cases tl with
    | nil => exact absurd rfl n
    | cons _ _ => rfl
  | cons _ _ => rfl
theorem OwnT.cons {tl l : List Value} (C : Addr) (h : OwnT tl l) : OwnT tl (.ref C :: l) := by
  obtain ⟨cs, rfl⟩ := h
  exact ⟨C :: cs, rfl⟩
theorem bt_RE : Bt "RuntimeError" "RuntimeError.__new__" "RuntimeError.__init__" [.type "RuntimeError", .type "Exception", .type "BaseException", .type "object"] := ⟨F.excBase_RuntimeError, F.store_RuntimeError, by simp⟩
theorem bt_VE : Bt "ValueError" "ValueError.__new__" "ValueError.__init__" [.type "ValueError", .type "Exception", .type "BaseException", .type "object"] := ⟨F.excBase_ValueError, F.store_ValueError, by simp⟩

section
open Builtin Builtin.ObjectAttr PySem.W PySem.Calls PySem.HandSPX
variable {prog : Program} {w : World} {A : Around} {E : Value → Shared → Prop} {R : Result → Shared → Prop} {hp : Heap} {g : Array GenState} {d : Drawn} {t : Nat} {os : OsState}
/-- the first field that is stored at an exception: it gets its dict -/
theorem exc_first {K : W.Frag} {name : Str} {tk : Tok} {v : Value} {x C : Addr} {fv : Array Value} {cd : ClassData} {B newId initId : String} {tl : List Value} (b : Bt B newId initId tl)
    (X : K.In hp) (hx : hp.get? x = some { cls := .ref C, data := .fields fv }) (hcd : W.clsIn K C = some cd) (hm : OwnT tl cd.mro) (hh : cd.hasDict = true) (ha : W.findIn K (.ref C) name = some none)
    (hq : ∀ h' tk' dx, (∀ b o, b ≠ x → hp.get? b = some o → h'.get? b = some o) → hp.objs.size ≤ dx → dx ≠ x → h'.get? x = some { cls := .ref C, dict := some dx, data := .fields fv } →
      h'.Ns1 dx (fun y => if y = name then some v else none) → R (.ok (.ret .none)) ⟨h', g, d, tk', os⟩) :
    codeAny (model prog w) A (.call (.builtin "object.__setattr__") ⟨[.ref x, .str name tk, v], []⟩) R ⟨hp, g, d, t, os⟩ := by
  have I : W.InstAt hp x { cls := .ref C, data := .fields fv } C none := ⟨hx, rfl, rfl, trivial⟩
  have SF := F.store_object
  have hob : cd.mro.contains (.type "object") = true := (hm.contains "object").trans b.s.hasOwner
  have hxs : x ≠ hp.objs.size := Nat.ne_of_lt (Heap.lt_size hx)
  have sub : W.Looks (model prog w) hp (isInstance (.ref x) (.type "object")) true := I.type.andThen (W.looks_mroIn X (by unfold W.mroIn; rw [hcd, Option.bind_some, if_neg (by rw [hm.ne b.ne]; decide), hob]))
  have hmr : W.Looks (model prog w) hp (mroOf (.ref C)) cd.mro := (W.looks_clsIn X hcd).andThen .now
  have L3 : W.Looks (model prog w) hp (storeTaker? none) none := .now
  have hcls : W.Looks (model prog w) hp (classData C) cd := W.looks_clsIn X hcd
  refine codeAny_call_builtin SF.slot.plain SF.entry (@W.check_slot (model prog w) _ _ ⟨hp, g, d, t, os⟩ "object.__setattr__" "object" "__setattr__" (.ref x) [.str name tk, v] [] _ SF.kind SF.split sub (SF.args (.ref x) (.str name tk) v) ?_)
  rw [W.osa_eq, refuse_eq]
  refine wpAny_bind (wpAny_bind (I.type.at (wpAny_bind (hmr.at ?_))))
  rw [hm.pass b]
  refine wpAny_pure (wpAny_bind (I.type.at (wpAny_bind ((W.looks_findIn X ha).at (wpAny_bind (L3.at ?_))))))
  show wpAny _ _ (storeInOwnDict (.ref x) (.ref C) (.str name tk) name v false) _ _ _
  obtain ⟨nm, bs, mro, ns, qn, hd, sn, sb, ab, col, del⟩ := cd
  dsimp only at hh
  subst hh
  unfold storeInOwnDict ownDictForStores
  repeat (first | with_reducible refine HandSPX.store_in_new ?_ ?_ | with_reducible refine wpAny_loadPart_at hx ?_ | with_reducible refine hcls.at ?_ | wp_step)
  · exact ⟨_, #[], _, (Heap.get?_update_ne _ _ _ _ hxs.symm).trans (Heap.get?_push_at rfl rfl), rfl, fun e he => absurd he (by simp), fun _ => rfl⟩
  · intro h' tk' hn' hs
    have hx₁ : (hp.push { cls := .type "dict", data := .dict #[] }).get? x = some { cls := .ref C, data := .fields fv } := Heap.get?_push_of_some _ hx
    refine hq h' tk' hp.objs.size (fun c o hb ho => ?_) (Nat.le_refl _) hxs.symm ?_ hn'
    · exact (hs.2 c (Nat.ne_of_lt (Heap.lt_size ho))).trans ((Heap.get?_update_ne _ _ _ _ hb).trans (Heap.get?_push_of_some _ ho))
    · exact (hs.2 x hxs).trans (Heap.get?_update_self _ hx₁ rfl)
end

/-- what must be known of the class at C -/
structure XcC (K : PySem.W.Frag) (C : Addr) : Prop where
  cls : ∃ B newId initId tl, Bt B newId initId tl ∧ ∃ nm q N bs bm sn sub ab col dd k0 k1 k2 k3 k5, K.lookup C = some (excClassObj nm q C N bs bm true sn sub ab col dd k0 k1 k2 k3 k5 newId) ∧ OwnT tl bm
  sa : PySem.W.findIn K (.ref C) "__setattr__" = some (some (.builtin "object.__setattr__"))
  exC : PySem.W.subIn K (.ref C) (.type "BaseException") = some true
  tyC : PySem.W.typeIn K (.ref C) = some (.type "type")
  kC : PySem.W.keepIn K (.ref C) = true
theorem clsB_ok {K : PySem.W.Frag} {C : Addr} {newId : String} {tl : List Value} (h : clsB K C newId tl = true) :
    ∃ nm q N bs bm sn sub ab col dd k0 k1 k2 k3 k5, K.lookup C = some (excClassObj nm q C N bs bm true sn sub ab col dd k0 k1 k2 k3 k5 newId) ∧ OwnT tl bm := by
  unfold clsB at h
  split at h
  · rename_i dd cd k0 k1 k2 k3 n k5 e
    obtain ⟨nm, bs, mro, ns, qn, hd, sn, sb, ab, col, del⟩ := cd
    split at h
    · rename_i C' bm em
      simp only [Bool.and_eq_true, decide_eq_true_eq, Bool.not_eq_true'] at h
      obtain ⟨h1, h2, h3, h4, h5⟩ := h
      dsimp only at em h3 h4
      subst em h1 h2 h3 h4
      exact ⟨nm, qn, ns, bs, bm, sn, sb, ab, col, dd, k0, k1, k2, k3, k5, e, ownT_by h5⟩
    · cases h
  · cases h
end MV

/-! MVX2: raise C(e), C's __init__ stores one field. -/
namespace MV
open PySem PySem.Spec PyProof.Rows L2

section
variable {X : Cx} {pins : List (Addr × Obj)} {σ : L2.St} {H : Hp} {s : Shared} {a C : Addr} {f : Str} {y : V} {u : Value} {Q : Unit → Shared → Prop} {E : Value → Shared → Prop} {A : Around}
/-- self.f = y at an exception without a dict -/
theorem ost_first (T : XcC X.K C) (I : Inv X pins σ H s) (e : H a = some (exo a C none)) (hno : PySem.W.findIn X.K (.ref C) f = some none) (ry : RelV y u)
    (h : ∀ dx s', H dx = none → dx ≠ a → Inv X pins σ (upd (upd H dx (exd dx [(f, y)])) a (exo a C (some dx))) s' → Q () s') : wpAny (model X.prog X.w) A (setAttr (.ref a) f u) Q E s := by
  obtain ⟨B, newId, initId, tl, b, nm, q, N, bs, bm, sn, sub, ab, col, dd, k0, k1, k2, k3, k5, hC, hbm⟩ := T.cls
  have hcl : PySem.W.clsIn X.K C = some { name := nm, bases := bs, mro := .ref C :: bm, ns := N, qualname := q, hasDict := true, slotNames := sn, subclasses := sub, abstract := ab, collection := col, hasDel := false } := by unfold PySem.W.clsIn; rw [hC] <;> rfl
  obtain ⟨t1, ho⟩ := exo_at I.hok e
  obtain ⟨hp, g, d, t, os⟩ := s
  refine PySem.W.set_plain I.kIn (ox := { cls := .ref C, dict := none, data := .fields #[.ref t1, .none, .none, .none, .bool false, .none] }) (od := none) ⟨ho, rfl, rfl, trivial⟩ T.sa ?_
  refine exc_first b I.kIn ho hcl (hbm.cons C) rfl hno fun h' tk' dx k dn dne hx hn => ?_
  have hnd : H dx = none := I.hok.fresh dn
  have nd : ∀ {c : Addr} {o : Obj}, hp.get? c = some o → c ≠ dx := fun q => Nat.ne_of_lt (Nat.lt_of_lt_of_le (Heap.lt_size q) dn)
  have na : ∀ {c : Addr}, H c = none → c ≠ a := fun n z => by
    rw [z, e] at n
    cases n
  have Un1 : Un X.fs [] H (upd (upd H dx (exd dx [(f, y)])) a (exo a C (some dx))) hp h' := {
    keep := fun c o q n _ _ => k c o (na n) q
    slot := fun c o q n _ _ => ⟨o.slots, k c o (na n) q⟩
    free := fun c o q n _ => by rw [upd_ne (na n), upd_ne (nd q)]; exact n
    there := fun c o q _ => by
      by_cases hb : c = a
      · exact ⟨_, by rw [hb]; exact hx⟩
      · exact ⟨o, k c o hb q⟩
    tups := fun c xs q => by rw [upd_ne (at_ne e q exo_tup), upd_ne (ne_of_none q hnd)]; exact q
    frzs := fun c o v q => by rw [upd_ne (at_ne e q exo_frz), upd_ne (ne_of_none q hnd)]; exact q
    tbls := fun c ps q => ⟨#[], by rw [upd_ne (at_ne e q exo_tbl), upd_ne (ne_of_none q hnd), q]; simp⟩ }
  refine h dx _ hnd dne (I.un (t' := tk') Un1 fun c o q => ?_)
  by_cases hb : c = a
  · subst hb
    rw [upd_same] at q
    cases q
    exact exo_ok hx
  · rw [upd_ne hb] at q
    by_cases hd : c = dx
    · subst hd
      rw [upd_same] at q
      cases q
      exact exd_ok hn (relO_put (fs := []) ry fun g => True.intro)
    · rw [upd_ne hd] at q
      exact (I.hok c o q).stay (fun c2 v hc z => k c2 v (by
          rcases hc with hc | hc
          · rw [hc]
            exact hb
          · exact at_ne e hc exo_own) z)
        (fun c2 hc => by rw [upd_ne (at_ne e hc exo_own), upd_ne (ne_of_none hc hnd)]; exact hc) (fun c2 xs hc => by rw [upd_ne (at_ne e hc exo_tup), upd_ne (ne_of_none hc hnd)]; exact hc)
end
/-- self.f = e -/
def tFirst (K : PySem.W.Frag) (f : Str) (to te : TE) : TS := fun D σ H => te σ H fun y H1 => to σ H1 fun x H2 => ∃ a C : Addr, x = .ref a ∧ XcC K C ∧ PySem.W.findIn K (.ref C) f = some none ∧ H2 a = some (exo a C none) ∧
  ∀ dx, H2 dx = none → dx ≠ a → D.nx σ (upd (upd H2 dx (exd dx [(f, y)])) a (exo a C (some dx)))
theorem ps_first {X : Cx} {o e : Expr} {to te : TE} {f : Str} {p' pos : Pos} (ho : PE X o to) (he : PE X e te) (hs : swapsWith e (some (.Attribute o f p')) pos.line X.env = pure false := by rfl) : PS X (.Assign [.Attribute o f p'] e pos) (tFirst X.K f to te) := by
  refine ⟨fun pins s σ H D I h => ?_⟩
  refine plainObj_wpAny_Assign_Attribute (thn (he.run pins s σ H _ I h) fun v s1 ⟨y, H1, I1, r1, q1⟩ => thn (ho.run pins s1 σ H1 _ I1 q1) fun u s2 ⟨x, H2, I2, r2, a, C, ex, T, hno, ea, q⟩ => ?_) hs
  subst ex
  obtain rfl : u = Value.ref a := r2
  exact ost_first T I2 ea hno r1 fun dx s' n ne J => ⟨σ, _, J, q dx n ne⟩
/-- what such an __init__ promises -/
def spIni (K : PySem.W.Frag) (C : Addr) (f : Str) : Sp := fun vs H Q E => ∃ a v, vs = [.ref a, v] ∧ XcC K C ∧ PySem.W.findIn K (.ref C) f = some none ∧ H a = some (exo a C none) ∧
  ∀ dx, H dx = none → dx ≠ a → Q .non (upd (upd H dx (exd dx [(f, v)])) a (exo a C (some dx)))
theorem ok_ini {CX : CXT} {P : Program} {w : World} {K : PySem.W.Frag} {mg : Str → Option Value} {base : Heap} {qual p f : Str} {pa : Arguments} {bd : List Stmt} {sc : Scope} {dvs : List V} {kws : List (Str × V)} {fI : Addr} {fd : FuncData} {p1 p2 p3 p4 : Pos} (C : Addr)
    (F : FunD K "__init__" qual pa bd sc dvs kws fI fd) (S : FnScope ["self", p] ["self", p] sc) (hb : bd = [.Assign [.Attribute (.Name "self" p1) f p2] (.Name p p3) p4]) (hd : (p == ("__debug__" : Str)) = false := by decide) (hcd : (p == ("__classdict__" : Str)) = false := by decide) :
    FnOk P w K mg base CX 1 fI fd ["self", p] (spIni K C f) := by
  refine F.ok (CX := CX) S (fun vs H Q E h => ?_) fun cdv A outer s H vs Q E hr h => ?_
  · obtain ⟨a, v, rfl, _⟩ := h
    rfl
  · obtain ⟨a, v, rfl, T, hno, ea, q⟩ := h
    refine ⟨tFirst K f (tVar 0) (tVar 1), ?_, ?_⟩
    · rw [hb]
      exact pss_one (ps_first (pe_var rfl (vis_par S List.mem_cons_self)) (pe_var rfl (vis_par S (List.mem_cons_of_mem _ List.mem_cons_self)) hd hcd))
    · exact ⟨v, rfl, _, rfl, a, C, rfl, T, hno, ea, fun dx n ne => q dx n ne⟩
/-- C(e) -/
def tMkF (C : Addr) (f : Str) (te : TE) : L2.St → Hp → XK → Prop := fun σ H Q => te σ H fun v H1 => ∀ dx, H1 dx = none → Q (.ref C) (some dx) (upd H1 dx (.xd [(f, v)]))
theorem pmk_ini {X : Cx} {e : Expr} {te : TE} {x f p : Str} {C fI : Addr} {fd : FuncData} {pp pos : Pos} (T : XcC X.K C) (iC : PySem.W.findIn X.K (.ref C) "__init__" = some (some (.ref fI))) (tI : PySem.W.typeIn X.K (.ref fI) = some (.type "function"))
    (F1 : FnOk X.prog X.w X.K X.mg X.base C8.CX0 1 fI fd ["self", p] (spIni X.K C f)) (hno : PySem.W.findIn X.K (.ref C) f = some none) (hr : Room 2 X.A) (hb : Binds X.K fd ["self", p] []) (hg : Gl X x) (hm : X.mg x = some (.ref C)) (he1 : PE X e te)
    (hdb : (x == ("__debug__" : Str)) = false := by decide) (he : starEach [e] X.env = (false, eval e X.env) :: starEach [] X.env := by rfl) :
    PMk X (.Call (.Name x pp) [e] [] pos) (tMkF C f te) := by
  intro pins s σ H Q I h
  obtain ⟨B, newId, initId, tl, b, nm, q, N, bs, bm, sn, sub, ab, col, dd, k0, k1, k2, k3, k5, hC, hbm⟩ := T.cls
  refine wpAny_Call_Name_kw (ld_glob I hg hm ?_ hdb)
  refine PySem.W.callWith_K (h₀ := X.base) I.ok.mod.kin T.kC (thn ((pa_cons he1 pa_nil he).run pos pins s σ H (fun vs H1 => match vs with
    | [v] => ∀ dx, H1 dx = none → Q (.ref C) (some dx) (upd H1 dx (.xd [(f, v)]))
    | _ => False) I h) fun us s1 ⟨vs, H1, I1, r1, q0⟩ => ⟨I1.kIn, ?_⟩) he (by rfl)
  obtain ⟨v, rfl, q1⟩ : ∃ v, vs = [v] ∧ ∀ dx, H1 dx = none → Q (.ref C) (some dx) (upd H1 dx (.xd [(f, v)])) := by
    match vs, q0 with
    | [v], q0 => exact ⟨v, rfl, q0⟩
  show wpAny _ _ (call (.ref C) us) _ _ _
  obtain ⟨hp, g, dr, tk, os⟩ := s1
  have hsz : hp.objs.size ≤ hp.objs.size + 1 := Nat.le_succ _
  have hn : H1 (hp.objs.size + 1) = none := I1.hok.fresh hsz
  have kk : ∀ b o, hp.get? b = some o → ((hp.push (PySem.W.kdv_tup us)).push (PySem.HandSPX.excO C hp.objs.size)).get? b = some o := fun b o e => Heap.get?_push_of_some _ (Heap.get?_push_of_some _ e)
  have hget : ((hp.push (PySem.W.kdv_tup us)).push (PySem.HandSPX.excO C hp.objs.size)).get? (hp.objs.size + 1) = some (PySem.HandSPX.excO C hp.objs.size) := by heap_get
  have I2 : Inv X pins σ (upd H1 (hp.objs.size + 1) (exo (hp.objs.size + 1) C none)) ⟨(hp.push (PySem.W.kdv_tup us)).push (PySem.HandSPX.excO C hp.objs.size), g, dr, tk, os⟩ :=
    I1.laid (t' := tk) (a := hp.objs.size + 1) (o := exo (hp.objs.size + 1) C none) (h' := (hp.push (PySem.W.kdv_tup us)).push (PySem.HandSPX.excO C hp.objs.size)) kk hsz (exo_ok hget)
  have hsp : spIni X.K C f [V.ref (hp.objs.size + 1), v] (upd H1 (hp.objs.size + 1) (exo (hp.objs.size + 1) C none))
      (fun w H2 => w = .non ∧ ∃ d, H2 (hp.objs.size + 1) = some (exo (hp.objs.size + 1) C (some d)) ∧ H2 d = some (exd d [(f, v)]) ∧ H1 d = none ∧ Q (.ref C) (some d) (upd (del H2 (hp.objs.size + 1)) d (.xd [(f, v)]))) (fun _ _ _ => False) := by
    refine ⟨_, v, rfl, T, hno, upd_same, fun dx n ne => ?_⟩
    have n1 : H1 dx = none := by rw [upd_ne ne] at n; exact n
    refine ⟨rfl, dx, upd_same, by rw [upd_ne ne, upd_same], n1, ?_⟩
    have eq : upd (del (upd (upd (upd H1 (hp.objs.size + 1) (exo (hp.objs.size + 1) C none)) dx (exd dx [(f, v)])) (hp.objs.size + 1) (exo (hp.objs.size + 1) C (some dx))) (hp.objs.size + 1)) dx (.xd [(f, v)]) = upd H1 dx (.xd [(f, v)]) := by
      funext c
      by_cases h1 : c = dx
      · rw [h1, upd_same, upd_same]
      · rw [upd_ne h1, upd_ne h1]
        by_cases h2 : c = hp.objs.size + 1
        · rw [h2, del_same, hn]
        · rw [del_ne h2, upd_ne h2, upd_ne h1, upd_ne h2]
    rw [eq]
    exact q1 dx n1
  have r2 : Vals [V.ref (hp.objs.size + 1), v] (Value.ref (hp.objs.size + 1) :: us) := .cons rfl r1
  have lu : us.length = 1 := by rw [← Paired.length r1]; rfl
  have hl : (Value.ref (hp.objs.size + 1) :: us).length = (["self", p] : List Str).length := by rw [List.length_cons, lu]; rfl
  have hbb := hb ⟨(hp.push (PySem.W.kdv_tup us)).push (PySem.HandSPX.excO C hp.objs.size), g, dr, tk, os⟩ (Value.ref (hp.objs.size + 1) :: us) I2.kIn (by simpa using hl)
  refine wpAny_call (PySem.HandSPX.call_own b.f (fun Y => hbm.contains Y) (I1.kIn _ _ hC) (PySem.W.looks_findIn I1.kIn iC) (fun self => PySem.W.bind_fn I1.kIn self tI) (by rw [lu, sizeLine_eq]; omega)
    (codeAny_mono (F1.run _ X.stack _ _ ⟨Value.ref (hp.objs.size + 1) :: us, []⟩ (Value.ref (hp.objs.size + 1) :: us) _ _ (fun _ _ _ => False) (hr.make C us []) (I2.env0.make C us []) (by simpa using hbb) r2 hsp) fun r s' hq' => ?_))
  cases r with
  | error er => exact (show False from hq').elim
  | ok fl =>
    cases fl with
    | ret u =>
      obtain ⟨w2, H2, os2, bare2, un2, hok2, rv, ev, d, ea, ed, hd1, q2⟩ := hq'
      subst ev
      obtain ⟨h2, g2, d2, t2, os'⟩ := s'
      exact ⟨rv, mk_end (raises_own T.exC T.tyC) I1 hsz kk un2 hok2 os2 bare2 ea ed hd1 q2⟩
    | next => exact False.elim hq'
    | brk => exact False.elim hq'
    | cont => exact False.elim hq'
end MV

/-! MVX3: isinstance of a caught exception that has a dict; raise; try .. except C as e: name = [..]. -/
namespace MV
open PySem PySem.Spec PyProof.Rows L2

section
open PySem.W PySem.Calls
variable {prog : Program} {w : World} {A : Around} {E : Value → Shared → Prop} {s : Shared} {K : Frag} {x D : Addr} {ox od : Obj}
theorem cls_asked {Q : Option Value → Shared → Prop} (C : ExcC K D) (X : K.In s.heap) (I : InstAt s.heap x ox D (some od)) (h : Q (some (.ref D)) { s with toks := s.toks + 1 }) : wpAny (model prog w) A (getAttr? (.ref x) "__class__") Q E s := by
  obtain ⟨hga, hgt, hsub, hdct, ha, hn, htk, hm⟩ := C
  have hf : findObj K D (some od) "__class__" = some (.bind (.builtin "getset_descriptor.__get__") (.builtin "object.__class__")) := findObj_data (by obtain ⟨cd, hc, _⟩ := any_some hdct; rw [hc]; rfl) ha hn htk
  obtain ⟨hp, g, d, t, os⟩ := s
  have L0 := I.type (M := model prog w)
  have L1 := looks_findIn (M := model prog w) X hga
  have L2 := looks_findIn (M := model prog w) X hgt
  have L3 := looks_find (M := model prog w) X I hf
  have sub : Looks (model prog w) hp (isInstance (.ref x) (.type "BaseException")) true := L0.andThen (looks_subIn X hsub)
  have hx0 : (false && onTheHeap (Value.builtin "BaseException.__getattribute__")) = false := rfl
  have hx1 : (onTheHeap (Value.ref D) && Value.builtin "BaseException.__getattribute__" == Value.builtin "object.__getattribute__") = false := by
    rw [show (Value.builtin "BaseException.__getattribute__" == Value.builtin "object.__getattribute__") = false by decide +kernel] <;> rfl
  unfold getAttr? getAttrBy? getAttrBy
  refine wpAny_bind (wpAny_mkText (wpAny_bind (wpAny_attempt (wpAny_holding (wpAny_bind (L0.at (wpAny_bind (L1.at ?_))))))))
  show wpAny _ _ (if (onTheHeap (Value.ref D) && Value.builtin "BaseException.__getattribute__" == Value.builtin "object.__getattribute__") = true then _ else _) _ _ _
  rw [hx1, if_neg Bool.false_ne_true]
  unfold getAttrByItsOwn hookBefore
  refine wpAny_bind ?_
  rw [if_pos (show onTheHeap (Value.ref D) = true from rfl)]
  refine L2.at ?_
  refine wpAny_bind (wpAny_attempt (wpAny_holding ?_))
  unfold callGetattribute
  rw [hx0, if_neg Bool.false_ne_true]
  unfold boundAndCalled
  rw [PySem.F.excAttr_ValueError.ga.bind (.ref x)]
  refine wpAny_bind (wpAny_pure ?_)
  show wpAny _ _ (call (.builtin "BaseException.__getattribute__") [.ref x, .str "__class__" t]) _ _ _
  refine wpAny_call (codeAny_call_builtin PySem.F.excAttr_ValueError.ga.plain PySem.F.entry_bexc_ga ?_)
  refine @check_slot (model prog w) _ _ ⟨hp, g, d, t + 1, os⟩ "BaseException.__getattribute__" "BaseException" "__getattribute__" (.ref x) [.str "__class__" t] [] _ (by decide +kernel) (by decide +kernel) sub (PySem.F.args_bexc_ga (.ref x) (.str "__class__" t)) ?_
  unfold Builtin.«object.__getattribute__»
  refine wpAny_bind (wpAny_of_eq (a := ((Value.ref x : Value), [Value.str "__class__" t])) (by first | rfl | (simp only [slotArgs]; rfl)) ?_)
  refine wpAny_bind (wpAny_pure (wpAny_bind (L0.at (wpAny_bind (L3.at ?_)))))
  show wpAny _ _ (holding [Value.builtin "object.__class__"] (call (.builtin "getset_descriptor.__get__") [.builtin "object.__class__", .ref x, .ref D]) >>= ret) _ _ _
  refine wpAny_bind (wpAny_holding (wpAny_call (class_get (s := ⟨hp, g, d, t + 1, os⟩) (ox := ox) (od := some od) X I hm ?_)))
  refine wpAny_pure ?_
  show wpAny _ _ (handedOut (.ref D)) _ _ _
  rw [handedOut_of (v := .ref D) rfl]
  first
    | exact wpAny_pure (wpAny_pure h)
    | exact wpAny_pure h
    | exact wpAny_pure (wpAny_bind (wpAny_pure (wpAny_pure h)))
theorem kitx_exd (C : ExcC K D) : KitX K (.ref x) (.ref D) (fun h => InstAt h x ox D (some od)) where
  ty := fun _ _ _ I => I.type
  it := fun _ _ X _ => by
    obtain ⟨cdD, hcD, _⟩ := any_some C.hd
    unfold clsIn at hcD
    split at hcD
    · rename_i c' d' cd' sl' ho
      intro A' Q' E' s' k q
      unfold isType loadHead
      exact wpAny_bind (wpAny_loadPart (k _ _ (X _ _ ho)) (wpAny_pure q))
    · cases hcD
  ne := fun h tp dd its n sl X htp => by
    obtain ⟨cdD, hcD, _⟩ := any_some C.hd
    refine Bool.eq_false_iff.mpr fun q => ?_
    have e : D = tp := Value.ref.inj (beq_iff_eq.mp q)
    subst e
    unfold clsIn at hcD
    split at hcD
    · rename_i c' d' cd' sl' ho
      have z := (X _ _ ho).symm.trans htp
      cases z
    · cases hcD
  ca := fun X I k => cls_asked C X I k
end
/-- isinstance(e, c), e the exception that the suite holds, its dict known -/
def rIsD (K : PySem.W.Frag) (D a : Addr) (d : Option Addr) : List V → Hp → VK → Prop := fun xs H Q => ∃ (c : V) (cv : Value) (b : Bool) (dd : Addr) (fs : List (Str × V)), xs = [.ref a, c] ∧ (∀ u, RelV c u → u = cv) ∧ PySem.W.kitOne K (.ref D) cv = some b ∧ d = some dd ∧ H dd = some (.xd fs) ∧ Q (.bl b) H
theorem call_isD {X : Cx} {a D : Addr} {oe : Obj} {d : Option Addr} {pn : List (Addr × Obj)} (C : ExcC X.K D) (hz : Zc (.ref D) d oe) (hf : ∃ vs, oe.data = .fields vs) : CallR (X.suite a ((a, oe) :: pn)) (.builtin "isinstance") (rIsD X.K D a d) := by
  intro pins s σ H xs us Q I r h
  obtain ⟨c, cv, b, dd, fs, rfl, hcv, e, rfl, hdd, q⟩ := h
  cases r with
  | cons rx rr =>
    cases rr with
    | cons rt rr =>
      cases rr
      cases rx
      have ec := hcv _ rt
      subst ec
      obtain ⟨hget, _⟩ := I.pin (a, oe) (List.mem_append.mpr (.inl List.mem_cons_self))
      obtain ⟨vs, hv⟩ := hf
      have hx : ObjOk X.prog X.w H s.heap dd (.xd fs) := I.hok dd _ hdd
      obtain ⟨mA, ⟨od, es, ep, ho, _⟩, _⟩ := hx
      have J : PySem.W.InstAt s.heap a oe D (some od) := by
        obtain ⟨oc, odd, oda, osl⟩ := oe
        obtain ⟨h1, h2⟩ := hz
        dsimp only at h1 h2 hv
        subst h1 h2 hv
        exact ⟨hget, rfl, rfl, ho⟩
      exact PySem.W.kia_one (kitx_exd C) I.kIn J e (fun z => nomatch z) fun tk => ⟨.bl b, H, I.kept (t' := tk) fun _ _ z => z, rfl, q⟩

/-! ### an exception as a datum -/
abbrev RelF (K : PySem.W.Frag) (ρ : Rho) (H : Hp) : List (Str × P) → List (Str × V) → Prop := Paired fun p v => p.1 = v.1 ∧ RelP K ρ H p.2 v.2
/-- its class by name, its dict -/
def RXK (K : PySem.W.Frag) : RXT := fun ρ H x c d => c = .ref (He.ga K x.cls) ∧ ∃ dd vs, d = some dd ∧ H dd = some (.xd vs) ∧ RelF K ρ H x.fs vs
theorem RelF.lookup {K : PySem.W.Frag} {ρ : Rho} {H : Hp} {f : Str} : ∀ {fs : List (Str × P)} {vs : List (Str × V)} {p : P}, RelF K ρ H fs vs → fs.lookup f = some p → ∃ v, vs.lookup f = some v ∧ RelP K ρ H p v
  | _, _, p, .nil, h => by cases h
  | _, _, p, .cons (a := (g, q)) (b := (g', v)) ⟨e1, e2⟩ r, h => by
    dsimp only at e1 e2
    subst e1
    by_cases hg : f = g
    · subst hg
      simp only [List.lookup, beq_self_eq_true] at h ⊢
      cases h
      exact ⟨v, rfl, e2⟩
    · have hb : (f == g) = false := by simpa using hg
      simp only [List.lookup, hb] at h ⊢
      exact RelF.lookup r h
def sRaise (n f : Str) (a : FE) : FS := fun s h => (a s h).thenS s fun d h1 => match d with
  | .p v => .ex ⟨n, [(f, v)]⟩ s h1
  | .ob _ => .bad
theorem vs_raise {X : Cx} {W : WX} {e : Expr} {fe : FE} {n f p : Str} {fI : Addr} {fd : FuncData} {pp pos pos' : Pos} (c : Cok X W) (T : XcC X.K (He.ga X.K n)) (iC : PySem.W.findIn X.K (.ref (He.ga X.K n)) "__init__" = some (some (.ref fI))) (tI : PySem.W.typeIn X.K (.ref fI) = some (.type "function"))
    (F1 : FnOk X.prog X.w X.K X.mg X.base C8.CX0 1 fI fd ["self", p] (spIni X.K (He.ga X.K n) f)) (hno : PySem.W.findIn X.K (.ref (He.ga X.K n)) f = some none) (hr : Room 2 X.A) (hb : Binds X.K fd ["self", p] []) (hg : Gl X n) (hm : X.mg n = some (.ref (He.ga X.K n))) (he1 : PE X e (TV X.K (RXK X.K) W fe))
    (hdb : (n == ("__debug__" : Str)) = false := by decide) (he : starEach [e] X.env = (false, eval e X.env) :: starEach [] X.env := by rfl) :
    PS X (.Raise (some (.Call (.Name n pp) [e] [] pos)) none pos') (TSV X.K (RXK X.K) W (sRaise n f fe)) :=
  PS.imp (ps_raise c.calm c.tk (pmk_ini T iC tI F1 hno hr hb hg hm he1 hdb he)) fun D σ H t => by
    refine (TSV.bind (k := fun s d h1 => match d with
      | .p v => .ex ⟨n, [(f, v)]⟩ s h1
      | .ob _ => .bad) t).mono fun v H1 q => ?_
    obtain ⟨ρ1, s, h1, a, w1, rs, rl, p⟩ := q
    intro dx hn
    cases a with
    | ob m => exact p.elim
    | p x =>
      cases rl with
      | p rl =>
        exact p ρ1 _ σ _ _ (.laid hn) (w1.laid hn) (rs.ext (.laid hn)) ⟨rfl, dx, _, rfl, upd_same, .cons ⟨rfl, rl.ext (.laid hn)⟩ .nil⟩

theorem pe_by {X : Cx} {e : Expr} {t : TE} {P : Prop} (h : P → PE X e t) (ht : ∀ σ H Q, t σ H Q → P) : PE X e t := ⟨fun pins s σ H Q I q => (h (ht σ H Q q)).run pins s σ H Q I q⟩
/-! ### what a suite may tell of the exception -/
def tKE (K : PySem.W.Frag) (i : Nat) (n : Str) (a : Addr) (cls : Value) (d : Option Addr) (g : List (Str × P) → Option P) : TE := fun σ H Q =>
  ∃ ρ x p, x.cls = n ∧ g x.fs = some p ∧ σ[i]? = some (some (.ref a)) ∧ RXK K ρ H x cls d ∧ ∀ v, RelP K ρ H p v → Q v H
def elsV (gs : List (List (Str × P) → Option P)) (fs : List (Str × P)) : Option (List P) := match gs with
  | [] => some []
  | g :: gs => match g fs, elsV gs fs with
    | some p, some ps => some (p :: ps)
    | _, _ => none
def tKs (K : PySem.W.Frag) (i : Nat) (n : Str) (a : Addr) (cls : Value) (d : Option Addr) (gs : List (List (Str × P) → Option P)) : TA := fun σ H Q =>
  ∃ ρ x ps, x.cls = n ∧ elsV gs x.fs = some ps ∧ σ[i]? = some (some (.ref a)) ∧ RXK K ρ H x cls d ∧ ∀ vs, RelPs K ρ H ps vs → Q vs H
section
variable {X : Cx} {i : Nat} {n : Str} {a : Addr} {cls : Value} {d : Option Addr} {gs : List (List (Str × P) → Option P)} {g : List (Str × P) → Option P} {e : Expr} {es : List Expr} {oe : Obj} {pn : List (Addr × Obj)}
theorem ke_str {z : Str} {j : Nat} {pos : Pos} : PE X (.Constant (.str z) j pos) (tKE X.K i n a cls d fun _ => some (.str z)) := PE.imp pe_str fun σ H Q t => by
  obtain ⟨ρ, x, p, _, hp, _, _, q⟩ := t
  cases hp
  exact q _ (.str z)
theorem ke_fld {f y : Str} {pos pos2 : Pos} (T : XfC X.K (He.ga X.K n)) (hno : PySem.W.findIn X.K (.ref (He.ga X.K n)) f = some none) (hz : Zc cls d oe) (hf : ∃ vs, oe.data = .fields vs)
    (hN : X.N[i]? = some y) (hv : Vis X.env.scope y) (hd : (y == ("__debug__" : Str)) = false := by decide) (hcd : (y == ("__classdict__" : Str)) = false := by decide) :
    PE (X.suite a ((a, oe) :: pn)) (.Attribute (.Name y pos2) f pos) (tKE X.K i n a cls d fun fs => fs.lookup f) := PE.imp (pe_xf (te := tVar i) T hno hz hf (pe_var (X := X.suite a ((a, oe) :: pn)) hN hv hd hcd)) fun σ H Q t => by
  obtain ⟨ρ, x, p, hx, hp, hs, ⟨hc, dd, vs, hdd, hH, rf⟩, q⟩ := t
  obtain ⟨v, hv, rv⟩ := rf.lookup hp
  subst hx
  exact ⟨_, hs, rfl, hc, dd, vs, v, hdd, hH, hv, q v rv⟩
theorem ke_isi {y c : Str} {p p2 p3 pos : Pos} {b : Bool} (C : ExcC X.K (He.ga X.K n)) (hz : Zc cls d oe) (hf : ∃ vs, oe.data = .fields vs) (hk : PySem.W.kitOne X.K (.ref (He.ga X.K n)) (.ref (He.ga X.K c)) = some b)
    (hg : Gl X "isinstance") (hm : X.mg "isinstance" = none) (hgc : Gl X c) (hmc : X.mg c = some (.ref (He.ga X.K c))) (hN : X.N[i]? = some y) (hv : Vis X.env.scope y) (hd : (y == ("__debug__" : Str)) = false := by decide) (hcd : (y == ("__classdict__" : Str)) = false := by decide)
    (hdc : (c == ("__debug__" : Str)) = false := by decide) :
    PE (X.suite a ((a, oe) :: pn)) (.Call (.Name "isinstance" p) [.Name y p2, .Name c p3] [] pos) (tKE X.K i n a cls d fun _ => some (.bl b)) := by
  refine pe_by (P := cls = .ref (He.ga X.K n)) (fun hne => ?_) fun σ H Q t => by
    obtain ⟨ρ, x, p, hx, _, _, ⟨hc, _⟩, _⟩ := t
    rw [← hx]
    exact hc
  subst hne
  refine PE.imp (pe_callB (X := X.suite a ((a, oe) :: pn)) (call_isD C hz hf) hg hm boot_isinstance (pa_cons (pe_var (X := X.suite a ((a, oe) :: pn)) (i := i) hN hv hd hcd) (pa_cons (pe_glob (X := X.suite a ((a, oe) :: pn)) (v := .ref (He.ga X.K c)) hgc hmc rfl hdc) pa_nil))) fun σ H Q t => ?_
  obtain ⟨ρ, x, p, hx, hp, hs, ⟨hc, dd, vs, hdd, hH, rf⟩, q⟩ := t
  cases hp
  exact ⟨_, hs, _, .ref (He.ga X.K c), b, dd, vs, rfl, fun u hu => hu, hk, hdd, hH, q _ (.bl b)⟩
theorem ks_nil : PA X [] (tKs X.K i n a cls d []) := PA.imp pa_nil fun σ H Q t => by
  obtain ⟨ρ, x, ps, _, hp, _, _, q⟩ := t
  cases hp
  exact q [] .nil
theorem ks_cons (he1 : PE X e (tKE X.K i n a cls d g)) (hr : PA X es (tKs X.K i n a cls d gs)) (hs : starEach (e :: es) X.env = (false, eval e X.env) :: starEach es X.env := by rfl) : PA X (e :: es) (tKs X.K i n a cls d (g :: gs)) := PA.imp (pa_cons he1 hr hs) fun σ H Q t => by
  obtain ⟨ρ, x, ps, hx, hp, hs, r, q⟩ := t
  unfold elsV at hp
  split at hp
  · rename_i p ps' e1 e2
    cases hp
    exact ⟨ρ, x, p, hx, e1, hs, r, fun v rv => ⟨ρ, x, ps', hx, e2, hs, r, fun vs rvs => q (v :: vs) (.cons rv rvs)⟩⟩
  · cases hp
end

/-! ### try: body / except C as e: name = [..] -/
def sTry (n : Str) (no : List Str) (i j : Nat) (gs : List (List (Str × P) → Option P)) (b : FS) : FS := fun s h => match b s h with
  | .ex x s1 h1 => if x.cls = n then (match elsV gs x.fs with
    | some ps => if ps.length ≤ sizeLine ∧ i < s1.length then .nx (((s1.set i none).set j (some (.ob h1.length))).set i none) (h1 ++ [.lst ps]) else .bad
    | none => .bad) else if x.cls ∈ no then .ex x s1 h1 else .bad
  | o => o
theorem vs_try {X : Cx} {W : WX} {body : List Stmt} {es : List Expr} {f : FS} {n x y z : Str} {no : List Str} {i j : Nat} {gs : List (List (Str × P) → Option P)} {np pos pos' p1 p2 p3 : Pos} (hs : X.stack = X.env :: X.outer) (hf : X.env.frame = some X.env.locals) (hN : X.N.Nodup) (tk : Takes X W)
    (hc : Names X x (.ref (He.ga X.K x)))
    (hb : ∀ (W : WX) (pn : List (Addr × Obj)) (xe : Value → Shared → Prop), Takes (X.tr pn xe) W → PassesOwn (model X.prog X.w) X.A X.env xe → PSs (X.tr pn xe) body (TSV X.K (RXK X.K) W f))
    (hyes : PySem.W.exmOne X.K (.ref (He.ga X.K n)) (.ref (He.ga X.K x)) = some true) (hno : ∀ m ∈ no, PySem.W.exmOne X.K (.ref (He.ga X.K m)) (.ref (He.ga X.K x)) = some false)
    (hes : ∀ (a : Addr) (oe : Obj) (cls : Value) (d : Option Addr) (pn : List (Addr × Obj)), Zc cls d oe → (∃ vs, oe.data = .fields vs) → PA (X.suite a ((a, oe) :: pn)) es (tKs X.K i n a cls d gs))
    (hi : X.N[i]? = some y := by rfl) (hln : X.env.kindOf y = some .local := by rfl) (hj : X.N[j]? = some z := by rfl) (hlz : X.env.scope.names.lookup z = some .local := by rfl)
    (hsw : swapsWith (.List es p2) (some (.Name z p1)) p3.line X.env = pure false := by rfl) :
    PS X (.Try body [.ExceptHandler (some (.Name x np)) (some y) [.Assign [.Name z p1] (.List es p2) p3] pos'] [] [] pos) (TSV X.K (RXK X.K) W (sTry n no i j gs f)) := by
  refine PS.imp (ps_try_as (i := i) (c := .ref (He.ga X.K x)) (tb := fun W => TSV X.K (RXK X.K) W f) (ts := fun a cls d => tAsg (tLst (tKs X.K i n a cls d gs)) (gName j)) hs hf hN hi hln hc tk hb fun a oe cls d pn hz hfv =>
    pss_one (ps_set (X := X.suite a ((a, oe) :: pn)) hN hj (.inl hlz) (pe_lst (hes a oe cls d pn hz hfv)) hsw (.inr hlz))) fun D σ H t => ?_
  obtain ⟨ρ, s, h, w, rs, p⟩ := t
  refine ⟨ρ, s, h, w, rs, ?_⟩
  unfold sTry at p
  cases e : f s h with
  | nx => rw [e] at p; exact p
  | rt => rw [e] at p; exact p
  | bk => rw [e] at p; exact p
  | ct => rw [e] at p; exact p
  | bad => rw [e] at p; exact p
  | ex xx s1 h1 =>
    rw [e] at p
    dsimp only at p
    intro ρ' H' σ' c d ex w' rs' rx
    have rx' := rx
    obtain ⟨hcls, dd, vs, hdd, hH, rf⟩ := rx
    subst hcls
    by_cases hn : xx.cls = n
    · rw [if_pos hn] at p
      split at p
      · rename_i ps eps
        split at p
        · rename_i hl
          subst hn
          refine ⟨true, hyes, fun _ a na => ?_, fun z => absurd z (by decide)⟩
          have hil : i < σ'.length := by rw [← Paired.length rs']; exact hl.2
          refine ⟨ρ', xx, ps, rfl, eps, by rw [List.getElem?_set_self hil], rx', fun us rus => ⟨by rw [← rus.len]; exact hl.1, fun q nq => ?_⟩⟩
          exact p _ _ _ (ex.trans (.fresh nq)) (w'.fresh nq ⟨us, upd_same, rus.ext (.fresh nq)⟩) (RelS.unset i none (((RelS.unset i (some (V.ref a)) rs').ext (.fresh nq)).set j (w'.newob _)))
        · exact p.elim
      · exact p.elim
    · rw [if_neg hn] at p
      split at p
      · rename_i hm
        exact ⟨false, hno _ hm, fun z => absurd z (by decide), fun _ => p ρ' H' σ' _ d ex w' rs' rx'⟩
      · exact p.elim
end MV

/-! MVX4: f(lambda: e), f's body: told = None; try: told = call() / except C as x: told = [..]; return told. -/
namespace MV
open PySem PySem.Spec PyProof.Rows L2 LamX

section
variable {X : Cx} {pins : List (Addr × Obj)} {σ : L2.St} {H : Hp} {s : Shared}
/-- x(), in the def that got the lambda, where no repr is under way -/
theorem act_of {CXg : CXT} {Eg : XK} {Ng : List Str} {qg : Str} {sg : Scope} {g f c' : Addr} {cdg pm ctv : Value} {params : Arguments} {body : Expr} {scope : Scope} {k i : Nat} {a : Str} {pn : List (Addr × Obj)} {xe : Value → Shared → Prop} {W : WX} {E : XK} {tb : TE} {p1 p2 : Pos}
    (I : Inv X pins σ H s) (L : LamS X.env.scope scope) (hf : s.heap.get? f = some (PySem.W.kla_obj "<lambda>" (X.env.qual ++ "<lambda>") params body scope (cloFrom X.env.cells scope.names []) pm c' ctv)) (hfn : H f = none) (hfr : f ∉ frs X.stack)
    (hbind : bindArgs (PySem.W.kla_fn "<lambda>" (X.env.qual ++ "<lambda>") params body scope (cloFrom X.env.cells scope.names []) pm (.ref c') ctv) ⟨[], []⟩ = pure [])
    (tk : Takes ((cxOf CXg X.prog X.w X.K X.mg X.base Ng qg sg g cdg X.A X.stack s H Eg).tr pn xe) W) (hW : ∀ cls d σ' H', σ'.length = Ng.length → E cls d H' → W cls d σ' H') (hr : Room (k + 1) (X.A.deeper (envOfC qg sg s.heap.objs.size g cdg)))
    (gd : (X.A.deeper (envOfC qg sg s.heap.objs.size g cdg)).guards = some [])
    (hbody : ∀ (A : Around) (outer : List Env) (s : Shared) (H : Hp), Room k (A.deeper (lamEnv X scope s.heap.objs.size f c')) → (A.deeper (lamEnv X scope s.heap.objs.size f c')).guards = some [] → PE (lamCx X A outer s H E scope f c') body tb)
    (hN : Ng[i]? = some a) (hv : Vis sg a) (hd : (a == ("__debug__" : Str)) = false := by decide) (hcd : (a == ("__classdict__" : Str)) = false := by decide) :
    PE ((cxOf CXg X.prog X.w X.K X.mg X.base Ng qg sg g cdg X.A X.stack s H Eg).tr pn xe) (.Call (.Name a p1) [] [] p2)
      (fun σZ HZ Q => σZ[i]? = some (some (.ref f)) ∧ HZ c' = some (CodeO c' (X.env.qual ++ "<lambda>")) ∧ tb σ HZ Q) := by
  refine ⟨fun pinsZ sZ σZ HZ Q IZ h => ?_⟩
  obtain ⟨hs, hc, ht⟩ := h
  refine wpAny_Call_Name_kw (thn ((pe_var (pos := p1) (i := i) hN hv hd hcd).run pinsZ sZ σZ HZ (fun v H1 => v = .ref f ∧ H1 = HZ) IZ ⟨.ref f, hs, rfl, rfl⟩) fun u s1 ⟨v, H1, I1, r1, q1⟩ => ?_)
  obtain ⟨ev, eH⟩ := q1
  subst ev
  rw [eH] at I1
  obtain rfl : u = Value.ref f := r1
  have of1 : s1.heap.get? f = some (PySem.W.kla_obj "<lambda>" (X.env.qual ++ "<lambda>") params body scope (cloFrom X.env.cells scope.names []) pm c' ctv) := I1.base.keep f _ hf hfn hfr (fun z => nomatch (show f ∈ ([] : List Addr) from z))
  refine PySem.W.callWith_F0 ⟨_, _, _, _, of1⟩ ?_
  have un : Un (frs X.stack) [] H HZ s.heap s1.heap := I1.base
  obtain ⟨⟨oc, vs, t, hoc, hdc, hvc⟩, _, _⟩ := I1.hok c' _ hc
  have rc : codeAny (model X.prog X.w) (X.A.deeper (envOfC qg sg s.heap.objs.size g cdg)) (.call (.ref f) ⟨[], []⟩) (CR (L2.CX X.prog X.w) (envOfC qg sg s.heap.objs.size g cdg :: X.stack) X.prog X.w HZ s1 Q E) s1 := by
    refine PySem.W.kla_callFunE hr.depth of1 rfl L.co L.gen rfl ⟨c', oc, vs, t, rfl, hoc, hdc, hvc⟩ ?_
    rw [hbind]
    refine wpAny_pure (wpAny_newFunctionEnv (fun y hy => (L.own y hy).2) (fun y hy => absurd hy (by simp)) (fun h₁ hns hsb => ⟨I1.nolimit.fresh _ hsb, ?_⟩) L.kind)
    show codeAny _ _ (.expr body (lamEnv X scope s1.heap.objs.size f c')) _ _
    have kp : ∀ b o, s1.heap.get? b = some o → h₁.get? b = some o := fun b o e => hsb.extBut b o (Nat.ne_of_lt (Heap.lt_size e)) (Heap.get?_push_of_some _ e)
    have J : Inv (lamCx X (X.A.deeper (envOfC qg sg s.heap.objs.size g cdg)) (envOfC qg sg s.heap.objs.size g cdg :: X.stack) s1 HZ E scope f c') [] σ HZ { s1 with heap := h₁, toks := s1.toks + ([] : List (Str × Value)).length } :=
      lam_start2 I L I1.env0 hr.hd un hns kp
    refine PySem.W.kla_codeExpr (wpAny_mono ((hbody _ _ s1 HZ (hr.deeper _) gd).run [] _ _ HZ Q J ht) (fun v s' hq => ?_) fun e s' hq => hq)
    obtain ⟨w', H', J', rv, q⟩ := hq
    exact ⟨w', H', J'.os, J'.bare, J'.base, J'.hok, rv, q⟩
  have hx : Passes (L2.CX X.prog X.w) ((cxOf CXg X.prog X.w X.K X.mg X.base Ng qg sg g cdg X.A X.stack s H Eg).tr pn xe) E := fun _ σ' _ _ e s' I c => tk e s' (XE.of_call I (fun cls d H' h => hW cls d σ' H' I.len h) c)
  refine wpAny_call (codeAny_mono rc fun r s' hq => ?_)
  cases r with
  | error e => exact hx pinsZ σZ HZ s1 e s' I1 hq
  | ok fl =>
    cases fl with
    | ret u => exact I1.after hq
    | next => exact False.elim hq
    | brk => exact False.elim hq
    | cont => exact False.elim hq
end
/-- what the lambda's call may end in, the told value's wish being Q -/
def TTh (K : PySem.W.Frag) (n : Str) (gs : List (List (Str × P) → Option P)) : (XK → Hp → VK → Prop) → Hp → VK → Prop := fun tl H Q =>
  tl (fun cls d H2 => ∃ ρ xx ps, xx.cls = n ∧ elsV gs xx.fs = some ps ∧ RXK K ρ H2 xx cls d ∧ ps.length ≤ sizeLine ∧ ∀ us p, RelPs K ρ H2 ps us → H2 p = none → Q (.ref p) (upd H2 p (.lst us))) H Q
theorem heard_gives {Z : Cx} {a e y x : Str} {q : Str} {n : Str} {gs : List (List (Str × P) → Option P)} {es : List Expr} {f c' : Addr} {H : Hp} {Q : VK} {tl : XK → Hp → VK → Prop} {q1 q2 q3 q4 q5 q6 q7 p1 p2 r1 r2 r3 np pos pos' : Pos} {j : Nat}
    (hs : Z.stack = Z.env :: Z.outer) (hfm : Z.env.frame = some Z.env.locals) (hNd : Z.N.Nodup)
    (hN : Z.N = [a, y, e]) (hlt : Z.env.scope.names.lookup y = some .local) (hle : Z.env.kindOf e = some .local)
    (hn : Names Z x (.ref (He.ga Z.K x))) (hyes : PySem.W.exmOne Z.K (.ref (He.ga Z.K n)) (.ref (He.ga Z.K x)) = some true)
    (hes : ∀ (a : Addr) (oe : Obj) (cls : Value) (d : Option Addr) (pn : List (Addr × Obj)), Zc cls d oe → (∃ vs, oe.data = .fields vs) → PA (Z.suite a ((a, oe) :: pn)) es (tKs Z.K 2 n a cls d gs))
    (act : ∀ (W : WX) (pn : List (Addr × Obj)) (xe : Value → Shared → Prop) (E : XK) (p1 p2 : Pos), Takes (Z.tr pn xe) W → (∀ cls d σ' H', σ'.length = Z.N.length → E cls d H' → W cls d σ' H') →
      PE (Z.tr pn xe) (.Call (.Name a p1) [] [] p2) (fun σZ HZ Q => σZ[0]? = some (some (.ref f)) ∧ HZ c' = some (CodeO c' q) ∧ tl E HZ Q))
    (hc : H c' = some (CodeO c' q)) (h : TTh Z.K n gs tl H Q) (hmo : ∀ E H (Q Q' : VK), (∀ v H', Q v H' → Q' v H') → tl E H Q → tl E H Q')
    (hsw1 : swapsWith (.Constant .none j q2) (some (.Name y q1)) q3.line Z.env = pure false := by rfl)
    (hsw2 : swapsWith (.Call (.Name a p1) [] [] p2) (some (.Name y q4)) q5.line Z.env = pure false := by rfl)
    (hsw3 : swapsWith (.List es r2) (some (.Name y r1)) r3.line Z.env = pure false := by rfl)
    (hd : (y == ("__debug__" : Str)) = false := by decide) (hcd : (y == ("__classdict__" : Str)) = false := by decide) :
    ∃ t, PSs Z [.Assign [.Name y q1] (.Constant .none j q2) q3,
      .Try [.Assign [.Name y q4] (.Call (.Name a p1) [] [] p2) q5] [.ExceptHandler (some (.Name x np)) (some e) [.Assign [.Name y r1] (.List es r2) r3] pos'] [] [] pos,
      .Return (some (.Name y q6)) q7] t ∧ t { nx := fun _ H' => Q .non H', rt := Q } (L2.start Z.N [.ref f]) H := by
  have h1 : Z.N[1]? = some y := by rw [hN]; rfl
  have h2 : Z.N[2]? = some e := by rw [hN]; rfl
  have tk0 : Takes Z (fun _ _ _ _ => False) := L2.takes0
  have T := ps_try_as (X := Z) (i := 2) (np := np) (pos := pos) (pos' := pos') (x := x) (n := e) (c := .ref (He.ga Z.K x)) (Wout := fun _ _ _ _ => False)
    (tb := fun W D σ H => ∃ Ech : XK, (∀ cls d σ' H', σ'.length = Z.N.length → Ech cls d H' → W cls d σ' H') ∧ σ[0]? = some (some (.ref f)) ∧ H c' = some (CodeO c' q) ∧ tl Ech H fun v H2 => D.nx (σ.set 1 (some v)) H2)
    (ts := fun a cls d => tAsg (tLst (tKs Z.K 2 n a cls d gs)) (gName 1)) (body := [.Assign [.Name y q4] (.Call (.Name a p1) [] [] p2) q5]) hs hfm hNd h2 hle hn tk0
    (fun W pn xe tk _ => ⟨fun pins s' σ H' D I h' => by
      obtain ⟨Ech, hW, e1, e2, e3⟩ := h'
      exact (pss_one (ps_set (X := Z.tr pn xe) (pos := q5) (pos' := q4) hNd h1 (.inl hlt) (act W pn xe Ech p1 p2 tk hW) hsw2 (.inr hlt))).run pins s' σ H' D I ⟨e1, e2, e3⟩⟩) fun a oe cls d pn hz hfv =>
    pss_one (ps_set (X := Z.suite a ((a, oe) :: pn)) (pos := r3) (pos' := r1) hNd h1 (.inl hlt) (pe_lst (pos := r2) (hes a oe cls d pn hz hfv)) hsw3 (.inr hlt))
  refine ⟨_, pss_cons (ps_set (X := Z) (pos := q3) (pos' := q1) hNd h1 (.inl hlt) (pe_non (j := j) (pos := q2)) hsw1 (.inr hlt)) (pss_cons T (pss_one (ps_ret (pos := q7) (pe_var (X := Z) (pos := q6) h1 (.inl hlt) hd hcd)))), ?_⟩
  have e0 : L2.start Z.N [V.ref f] = [some (V.ref f), none, none] := by rw [hN]; rfl
  rw [e0]
  refine ⟨fun cls d H2 => ∃ ρ xx ps, xx.cls = n ∧ elsV gs xx.fs = some ps ∧ RXK Z.K ρ H2 xx cls d ∧ ps.length ≤ sizeLine ∧ ∀ us p, RelPs Z.K ρ H2 ps us → H2 p = none → Q (.ref p) (upd H2 p (.lst us)), ?_, rfl, hc, ?_⟩
  · intro cls d σ' H' hl hE
    obtain ⟨ρ, xx, ps, hx, hp, rx, hz, hq⟩ := hE
    have hl3 : σ'.length = 3 := by rw [hl, hN]; rfl
    match σ', hl3 with
    | [s0, s1, s2], _ =>
      refine ⟨true, ?_, fun _ a na => ?_, fun z => absurd z (by decide)⟩
      · rw [rx.1, hx]; exact hyes
      · exact ⟨ρ, xx, ps, hx, hp, rfl, rx, fun us rus => ⟨by rw [← rus.len]; exact hz, fun p hp => ⟨_, rfl, hq us p rus hp⟩⟩⟩
  · exact hmo _ H _ _ (fun v H' hq => ⟨v, rfl, hq⟩) h
end MV

/-! MVX5: a lambda handed to such a def. -/
namespace MV
open PySem PySem.Spec PyProof.Rows L2 LamX

def wake (ρ : Rho) (h : VH) : Rho := (List.range ρ.length).map fun n => match h[n]? with
  | some .dead => none
  | _ => (ρ[n]?).join
theorem wake_len {ρ : Rho} {h : VH} : (wake ρ h).length = ρ.length := by unfold wake; rw [List.length_map, List.length_range]
theorem wake_get {ρ : Rho} {h : VH} {n : Nat} {a : Addr} (e : (wake ρ h)[n]? = some (some a)) : ρ[n]? = some (some a) ∧ h[n]? ≠ some .dead := by
  unfold wake at e
  rw [List.getElem?_map] at e
  by_cases hn : n < ρ.length
  · rw [List.getElem?_range hn] at e
    simp only [Option.map_some] at e
    have e2 := Option.some.inj e
    split at e2
    · cases e2
    · rename_i hd
      refine ⟨?_, fun z => hd z⟩
      cases q : ρ[n]? with
      | none => rw [q] at e2; cases e2
      | some o => rw [q] at e2; exact congrArg some e2
  · rw [List.getElem?_eq_none (by rw [List.length_range]; omega)] at e; cases e
theorem wake_of {ρ : Rho} {h : VH} {n : Nat} {a : Addr} (e : ρ[n]? = some (some a)) (hd : h[n]? ≠ some .dead) : (wake ρ h)[n]? = some (some a) := by
  have hn : n < ρ.length := (List.getElem?_eq_some_iff.mp e).1
  unfold wake
  rw [List.getElem?_map, List.getElem?_range hn]
  simp only [Option.map_some]
  rw [e]
  cases q : h[n]? with
  | none => rfl
  | some o =>
    cases o with
    | dead => exact absurd q hd
    | _ => rfl
def tabsOf (ρ : Rho) (h : VH) : List (Addr × Str) := (List.range h.length).filterMap fun (n : Nat) => (match (h[n]? : Option VO), (ρ[n]? : Option (Option Addr)) with
  | some (VO.tab _ q), some (some a) => (some (a, q) : Option (Addr × Str))
  | _, _ => none)
theorem mem_tabs {ρ : Rho} {h : VH} {a : Addr} {q : Str} : (a, q) ∈ tabsOf ρ h ↔ ∃ (n : Nat) (p : Str × Option Str), h[n]? = some (VO.tab p q) ∧ ρ[n]? = some (some a) := by
  unfold tabsOf
  rw [List.mem_filterMap]
  constructor
  · rintro ⟨n, _, e⟩
    split at e
    · rename_i p q' a' e1 e2
      cases e
      exact ⟨n, p, e1, e2⟩
    · cases e
  · rintro ⟨n, p, e1, e2⟩
    refine ⟨n, List.mem_range.mpr (List.getElem?_eq_some_iff.mp e1).1, ?_⟩
    rw [e1, e2]
section
variable {K : PySem.W.Frag} {ρ : Rho} {H H1 : Hp} {h : VH}
theorem RelW.atL (w : RelW K ρ H h) {n : Nat} {o : VO} (ho : h[n]? = some o) (nd : o ≠ .dead) : ∃ a, ρ[n]? = some (some a) ∧ RelVO K ρ H a o := by
  rcases w.at_ n o ho with z | z
  · exact absurd z nd
  · exact z
theorem tabs_of (w : RelW K ρ H h) : Tabs (tabsOf ρ h) H := fun ⟨a, q⟩ hp => by
  obtain ⟨n, p, e1, e2⟩ := mem_tabs.mp hp
  obtain ⟨a', e3, h0, ps, h1, h2, h3⟩ := w.atL e1 (by intro z; cases z)
  rw [e2] at e3
  cases e3
  refine ⟨ps, h1, h2, fun pos cv hc => ?_⟩
  obtain ⟨c, z1, z2, _⟩ := h3 pos cv hc
  exact ⟨c, z1, z2⟩
theorem lam_ext (w : RelW K ρ H h) (eN : ExtN H H1) : Ext ρ H (wake ρ h) H1 where
  len := Nat.le_of_eq wake_len.symm
  old := fun n a _ e => (wake_get e).1
  new := fun n a hn e => by
    have := (wake_get e).1
    rw [List.getElem?_eq_none hn] at this; cases this
  keep := fun a o ha _ nt => eN a o ha nt
  there := fun a o ha nt => ⟨o, eN a o ha nt, nt⟩
theorem lam_at (w : RelW K ρ H h) (eN : ExtN H H1) (T1 : Tabs (tabsOf ρ h) H1) {n : Nat} {a : Addr} {o : VO} (ho : h[n]? = some o) (nd : o ≠ .dead) (hr : ρ[n]? = some (some a)) :
    ∃ u, H1 a = some u ∧ ∀ c q, u ≠ CodeO c q := by
  obtain ⟨a', e, r⟩ := w.atL ho nd
  rw [hr] at e
  cases e
  cases o with
  | dead => exact absurd rfl nd
  | lst l =>
    obtain ⟨xs, h1, _⟩ := r
    exact ⟨_, eN _ _ h1 (by intro ps z; cases z), fun c q z => by unfold CodeO at z; cases z⟩
  | dK l =>
    obtain ⟨xs, h1, _⟩ := r
    exact ⟨_, eN _ _ h1 (by intro ps z; cases z), fun c q z => by unfold CodeO at z; cases z⟩
  | tab p q =>
    obtain ⟨ps, h1, _⟩ := T1 (a, q) (mem_tabs.mpr ⟨n, p, ho, hr⟩)
    exact ⟨_, h1, fun c q z => by unfold CodeO at z; cases z⟩
theorem lam_relW (w : RelW K ρ H h) (eN : ExtN H H1) (T1 : Tabs (tabsOf ρ h) H1) : RelW K (wake ρ h) H1 h where
  len := wake_len.trans w.len
  inj := fun n m a e1 e2 => w.inj n m a (wake_get e1).1 (wake_get e2).1
  at_ := fun n o ho => by
    by_cases nd : o = .dead
    · exact .inl nd
    · obtain ⟨a, e, r⟩ := w.atL ho nd
      refine .inr ⟨a, wake_of e (by rw [ho]; intro z; exact nd (Option.some.inj z)), ?_⟩
      have ex := lam_ext w eN
      cases o with
      | dead => trivial
      | lst l =>
        obtain ⟨xs, h1, h2⟩ := r
        exact ⟨xs, eN _ _ h1 (by intro ps z; cases z), h2.ext ex⟩
      | dK l =>
        obtain ⟨xs, h1, h2⟩ := r
        exact ⟨xs, eN _ _ h1 (by intro ps z; cases z), RelKV.ext ex h2⟩
      | tab p q =>
        obtain ⟨ps, h1, h2, h3⟩ := T1 (a, q) (mem_tabs.mpr ⟨n, p, ho, e⟩)
        refine ⟨r.1, ps, h1, h2, fun pos cv hc => ?_⟩
        obtain ⟨c, z1, z2⟩ := h3 pos cv hc
        refine ⟨c, z1, z2, fun ⟨m, hm⟩ => ?_⟩
        obtain ⟨m1, m2⟩ := wake_get hm
        have hml : m < h.length := by rw [← w.len]; exact (List.getElem?_eq_some_iff.mp m1).1
        obtain ⟨u, hu, no⟩ := lam_at w eN T1 (List.getElem?_eq_getElem hml) (fun z => m2 (by rw [List.getElem?_eq_getElem hml, z])) m1
        have hu' : H1 c = some u := hu
        rw [z2] at hu'
        exact no c q (Option.some.inj hu').symm
  live := fun n a e => by
    obtain ⟨e1, e2⟩ := wake_get e
    have hnl : n < h.length := by rw [← w.len]; exact (List.getElem?_eq_some_iff.mp e1).1
    obtain ⟨u, hu, _⟩ := lam_at w eN T1 (List.getElem?_eq_getElem hnl) (fun z => e2 (by rw [List.getElem?_eq_getElem hnl, z])) e1
    exact ⟨u, hu⟩
end
def fHeard (n : Str) (gs : List (List (Str × P) → Option P)) (call : VH → R D) : VH → R D := fun h => match call h with
  | .ok d h1 => .ok d h1
  | .exc x h1 => if x.cls = n then (match elsV gs x.fs with
    | some ps => if ps.length ≤ sizeLine then .ok (.p (.lst ps)) (h1.take h.length) else .bad
    | none => .bad) else .bad
  | .bad => .bad
/-- f(lambda: e); the i-th object is the code's table -/
def fLam (i : Nat) (pt : Str × Option Str) (q n : Str) (gs : List (List (Str × P) → Option P)) (fe : FE) : FE := fun s h => match h[i]? with
  | some (.tab p' q') => if p' = pt ∧ q' = q then fHeard n gs (fe s) h else .bad
  | _ => .bad
theorem heard_tl {K : PySem.W.Frag} {ρ : Rho} {H : Hp} {h : VH} {σ : L2.St} {n : Str} {gs : List (List (Str × P) → Option P)} {s : Sg} {fe : FE} {Q : VK} {E : XK} (w : RelW K ρ H h) (rs : RelS K ρ H s σ) (p : Post K (RXK K) (RelD K) ρ H (fHeard n gs (fe s) h) Q E) :
    TTh K n gs (fun E H' Q' => TV K (RXK K) (fun c d _ H2 => E c d H2) fe σ H' Q') H Q := by
  refine ⟨ρ, s, h, w, rs, ?_⟩
  unfold fHeard at p
  cases e : fe s h with
  | ok d h1 => rw [e] at p; exact p
  | bad => rw [e] at p; exact p.elim
  | exc x h1 =>
    rw [e] at p
    dsimp only at p
    split at p
    · rename_i hn
      split at p
      · rename_i ps hp
        split at p
        · rename_i hz
          intro ρ2 H2 c d ex w2 rx
          refine ⟨ρ2, x, ps, hn, hp, rx, hz, fun us q rus nq => ?_⟩
          exact p _ _ _ ((ex.trans (.laid nq)).take (Nat.le_of_eq w.len)) ((w2.laid nq).take _) (.p (w2.lstP nq rus).less)
        · exact p.elim
      · exact p.elim
    · exact p.elim
end MV

/-! MVX6: f(lambda: e) as an expression. -/
namespace MV
open PySem PySem.Spec PyProof.Rows L2 LamX
theorem cok_lam {X : Cx} {A : Around} {outer : List Env} {s : Shared} {H : Hp} {E : XK} {scope : Scope} {f c' : Addr} (hg : (A.deeper (lamEnv X scope s.heap.objs.size f c')).guards = some []) :
    Cok (lamCx X A outer s H E scope f c') (fun c d _ H' => E c d H') := ⟨rfl, hg, takes_of rfl rfl rfl rfl, passes_of rfl⟩
section
variable {X : Cx} {W : WX}
theorem v_lam {x a y ee xc : Str} {g : Addr} {k i : Nat} {pt : Str × Option Str} {q n : Str} {gs : List (List (Str × P) → Option P)} {fe : FE} {es : List Expr} {pg : Arguments} {bg : List Stmt} {sg : Scope} {fd : FuncData} {params : Arguments} {body : Expr} {scope : Scope}
    {p lpos pos : Pos} {q1 q2 q3 q4 q5 q6 q7 p1 p2 r1 r2 r3 np pos1 pos2 : Pos} {j : Nat} (c0 : Cok X W)
    (F : FunD X.K x x pg bg sg [] [] g fd) (hbg : bg = [.Assign [.Name y q1] (.Constant .none j q2) q3,
      .Try [.Assign [.Name y q4] (.Call (.Name a p1) [] [] p2) q5] [.ExceptHandler (some (.Name xc np)) (some ee) [.Assign [.Name y r1] (.List es r2) r3] pos2] [] [] pos1,
      .Return (some (.Name y q6)) q7]) (Sg : FnScope [a, y, ee] [a] sg) (hly : sg.names.lookup y = some .local) (hle : sg.names.lookup ee = some .local)
    (hg : Gl X x) (hm : X.mg x = some (.ref g)) (hk : PySem.W.keepIn X.K (.ref g) = true) (hb : Binds X.K fd [a] [])
    (hn : sg.names.lookup xc = some .globalImplicit) (hxd : (xc == ("__debug__" : Str)) = false) (hmx : X.mg xc = some (.ref (He.ga X.K xc)))
    (hyes : PySem.W.exmOne X.K (.ref (He.ga X.K n)) (.ref (He.ga X.K xc)) = some true)
    (hes : ∀ (cdv : Value) (A : Around) (outer : List Env) (s : Shared) (H : Hp) (a' : Addr) (oe : Obj) (cls : Value) (d : Option Addr) (pn : List (Addr × Obj)), Zc cls d oe → (∃ vs, oe.data = .fields vs) →
      PA ((cxOf C8.CX0 X.prog X.w X.K X.mg X.base [a, y, ee] x sg g cdv A outer s H C8.E0).nox.suite a' ((a', oe) :: pn)) es (tKs X.K 2 n a' cls d gs))
    (TB : TabB X.base X.mg (He.cT X.K pt).1 (He.cT X.K pt).2) (hcode : X.env.code = .ref (He.cT X.K pt).1) (hq : q = X.env.qual ++ "<lambda>") (hr : Room (k + 2) X.A) (L : LamS X.env.scope scope) (hdef : defaultsOf params X.env = ([], []))
    (hbind : ∀ (q : Str) (cl : List (Str × Addr)) (pm cv ctv : Value), bindArgs (PySem.W.kla_fn "<lambda>" q params body scope cl pm cv ctv) ⟨[], []⟩ = pure [])
    (hbody : ∀ (A : Around) (outer : List Env) (s : Shared) (H : Hp) (E : XK) (f c' : Addr), Room k (A.deeper (lamEnv X scope s.heap.objs.size f c')) → (A.deeper (lamEnv X scope s.heap.objs.size f c')).guards = some [] →
      PE (lamCx X A outer s H E scope f c') body (TV X.K (RXK X.K) (fun c d _ H2 => E c d H2) fe))
    (hsw1 : ∀ env, swapsWith (.Constant .none j q2) (some (.Name y q1)) q3.line env = pure false := by intro _; rfl)
    (hsw2 : ∀ env, swapsWith (.Call (.Name a p1) [] [] p2) (some (.Name y q4)) q5.line env = pure false := by intro _; rfl)
    (hsw3 : ∀ env, swapsWith (.List es r2) (some (.Name y r1)) r3.line env = pure false := by intro _; rfl)
    (hdb : (x == ("__debug__" : Str)) = false := by decide) (hd : (a == ("__debug__" : Str)) = false := by decide) (hcd : (a == ("__classdict__" : Str)) = false := by decide)
    (hyd : (y == ("__debug__" : Str)) = false := by decide) (hycd : (y == ("__classdict__" : Str)) = false := by decide) :
    PE X (.Call (.Name x p) [.Lambda params body scope lpos] [] pos) (TV X.K (RXK X.K) W (fLam i pt q n gs fe)) := by
  subst hq
  obtain ⟨oc, od, dV, kV, doc, pm, an, cdv, ct, osl, rfl, lk, hcg, _, _⟩ := F.ex
  refine ⟨fun pins s σ H Q I hh => ?_⟩
  obtain ⟨ρ, s0, h, w, rs, pp⟩ := hh
  unfold fLam at pp
  split at pp
  · rename_i p' q' hi
    split at pp
    · rename_i hpq
      obtain ⟨rfl, rfl⟩ := hpq
      obtain ⟨aT, e1, r1⟩ := w.atL hi (by intro z; cases z)
      have eT : aT = (He.cT X.K p').2 := r1.1
      have hmT : ((He.cT X.K p').2, X.env.qual ++ "<lambda>") ∈ tabsOf ρ h := mem_tabs.mpr ⟨i, p', hi, by rw [e1, eT]⟩
      have hu : ∀ z ∈ tabsOf ρ h, z.1 = (He.cT X.K p').2 → z.2 = X.env.qual ++ "<lambda>" := fun ⟨b, q2⟩ hz e => by
        obtain ⟨m, p2, z1, z2⟩ := mem_tabs.mp hz
        have e' : b = (He.cT X.K p').2 := e
        have em : m = i := w.inj m i _ (by rw [z2, e']) (by rw [e1, eT])
        rw [em, hi] at z1
        cases z1
        rfl
      refine wpAny_Call_Name_kw (ld_glob I hg hm ?_ hdb)
      refine PySem.W.callWith_K (h₀ := X.base) I.ok.mod.kin hk ?_ (by rfl) (by rfl)
      show wpAny _ _ (spliced ((false, eval (.Lambda params body scope lpos) X.env) :: backTo pos (starEach [] X.env))) _ _ s
      refine Calls.spliced_cons (lam_make2 I TB hcode hmT hu (tabs_of w) hdef (L.has I.ok) fun f c' pm' ctv H1 s' I1 eN T1 hf hfn hfr hco => ?_)
      refine Calls.spliced_nil ⟨I1.kIn, ?_⟩
      have ex := lam_ext w eN
      have w1 := lam_relW w eN T1
      have rs1 : RelS X.K (wake ρ h) H1 s0 σ := rs.ext ex
      have p1 := Post.ext ex pp
      have hT := heard_tl (E := fun c d H' => W c d σ H') w1 rs1 p1
      have rc : codeAny (model X.prog X.w) X.A (.call (.ref g) ⟨[.ref f], []⟩) (CR C8.CX0 X.stack X.prog X.w H1 s' Q C8.E0) s' := by
        refine run_ofS (N := [a, y, ee]) (ps := [a]) (us := [.ref f]) (vs := [.ref f]) lk hcg Sg hr I1.env0 (hb s' [.ref f] I1.kIn rfl) (.cons rfl .nil) rfl fun hr' => ?_
        obtain ⟨t', ht', hq'⟩ := heard_gives (Z := (cxOf C8.CX0 X.prog X.w X.K X.mg X.base [a, y, ee] x sg g cdv X.A X.stack s' H1 C8.E0).nox) (x := xc) (q := X.env.qual ++ "<lambda>") (n := n) (gs := gs) (es := es) (f := f) (c' := c') (H := H1) (Q := Q)
          (tl := fun E H' Q' => TV X.K (RXK X.K) (fun c d _ H2 => E c d H2) fe σ H' Q') rfl rfl Sg.nd rfl hly hle ⟨hn, hxd, .inl hmx⟩ hyes (hes cdv X.A X.stack s' H1)
          (fun W pn xe E p1 p2 tk hW => act_of (CXg := C8.CX0) (Eg := C8.E0) (i := 0) I1 L hf hfn hfr (hbind _ _ _ _ _) tk hW hr' c0.gd (fun A outer s H hr2 gd2 => hbody A outer s H E f c' hr2 gd2) rfl (vis_par Sg List.mem_cons_self) hd hcd) hco hT
          (fun E H Q Q' hQ t => TF.mono t hQ) (hsw1 _) (hsw2 _) (hsw3 _) hyd hycd
        rw [hbg]
        exact ⟨t', ht'.nox, hq'⟩
      refine wpAny_call (codeAny_mono rc fun r s2 hq => ?_)
      cases r with
      | error e => exact (show False from hq).elim
      | ok fl =>
        cases fl with
        | ret u => exact I1.after hq
        | next => exact False.elim hq
        | brk => exact False.elim hq
        | cont => exact False.elim hq
    · exact pp.elim
  · exact pp.elim
end
end MV

/-! MVX7: the end of a law with tables of code objects. -/
namespace MV
open PySem PySem.Spec PyProof.Rows L2 LamX

/-- the objects at a law's start: the tables -/
def tabsV (tf : List (He.Defn × Str)) : VH := tf.map fun p => .tab p.1 p.2
def tabA (K : PySem.W.Frag) (tf : List (He.Defn × Str)) : List Addr := tf.map fun p => (He.cT K p.1).2
theorem tabs_relW {K : PySem.W.Frag} {H : Hp} {tf : List (He.Defn × Str)} (nd : (tabA K tf).Nodup) (hH : ∀ b ∈ tabA K tf, H b = some (.tbl #[])) : RelW K ((tabA K tf).map some) H (tabsV tf) where
  len := by rw [List.length_map]; unfold tabA tabsV; rw [List.length_map, List.length_map]
  inj := fun n m a e1 e2 => by
    rw [List.getElem?_map] at e1 e2
    have f : ∀ {k : Nat}, Option.map some (tabA K tf)[k]? = some (some a) → (tabA K tf)[k]? = some a := fun {k} e => by
      cases q : (tabA K tf)[k]? with
      | none => rw [q] at e; cases e
      | some z => rw [q] at e; exact Option.some.inj e
    have h1 := f e1
    have h2 := f e2
    obtain ⟨l1, g1⟩ := List.getElem?_eq_some_iff.mp h1
    obtain ⟨l2, g2⟩ := List.getElem?_eq_some_iff.mp h2
    exact (List.getElem_inj nd).mp (g1.trans g2.symm)
  at_ := fun n o ho => by
    unfold tabsV at ho
    rw [List.getElem?_map] at ho
    cases q : tf[n]? with
    | none => rw [q] at ho; cases ho
    | some p =>
      rw [q] at ho
      cases ho
      have ea : (tabA K tf)[n]? = some (He.cT K p.1).2 := by unfold tabA; rw [List.getElem?_map, q]; rfl
      refine .inr ⟨(He.cT K p.1).2, by rw [List.getElem?_map, ea]; rfl, rfl, #[], hH _ (List.mem_of_getElem? ea), True.intro, fun pos cv hc => ?_⟩
      have z : codeAmong pos [] = some cv := hc
      simp [codeAmong] at z
  live := fun n a e => by
    rw [List.getElem?_map] at e
    cases q : (tabA K tf)[n]? with
    | none => rw [q] at e; cases e
    | some z =>
      rw [q] at e
      cases e
      exact ⟨_, hH _ (List.mem_of_getElem? q)⟩
theorem lawM_callT {P : Program} {w : World} {K : PySem.W.Frag} {mg mb : Str → Option Value} {RX : RXT} {k : Nat} {fa a : Addr} {tf : List (He.Defn × Str)} {fd : FuncData} {x : Str} {F : Fn} {s₁ : Shared} {vs : List Value} {ns : List Int}
    (KX : K.In s₁.heap) (hns : s₁.heap.Ns mainGlobals mg) (hb : s₁.heap.Ns builtinsNs mb) (hbb : ∀ x : Str, x ≠ "__name__" → mb x = bootBuiltins x) (hlim : s₁.heap.NoLimit) (hg : s₁.gens = #[])
    (nd : (tabA K tf).Nodup) (hT : ∀ b ∈ tabA K tf, s₁.heap.get? b = some { cls := .none, data := .fields #[] }) (nT : ∀ b ∈ tabA K tf, K.lookup b = none) (C : ∀ p ∈ tf, PySem.W.CodeHd s₁.heap (He.cT K p.1).1 (He.cT K p.1).2)
    (hbm : ∃ (bm : Addr) (ob : Obj), mg "__builtins__" = some (.ref bm) ∧ bm ≠ builtinsNs ∧ s₁.heap.get? bm = some ob ∧ ob.cls = .type "module" ∧ ob.dict = some builtinsNs ∧ ob.data = .plain)
    (ha : s₁.heap.get? a = some { cls := .type "list", data := .seq vs.toArray }) (hi : IntsAre vs ns) (hl : ns.length ≤ sizeLine) (hr : Room k callerA)
    (M : ∀ base : Heap, K.In base → base.Ns mainGlobals mg → (∀ p ∈ tf, TabB base mg (He.cT K p.1).1 (He.cT K p.1).2) → FnM P w K mg base RX k fa fd [x] F) (hbind : ∀ (s : Shared) (u : Value), BindsTo s fd ⟨[u], []⟩ [(x, u)])
    (hF : ∃ h, F [scriptD ns] (tabsV tf) = .ok (.p (.bl true)) h) :
    codeAny (model P w) callerA (.call (.ref fa) ⟨[.ref a], []⟩) (fun r s' => r = .ok (.ret (.bool true)) ∧ OldK s₁.heap s'.heap ∧ s'.os = s₁.os ∧ AllBare s'.gens) s₁ := by
  have rv := vals_ints hi
  have lenV := hi.length
  obtain ⟨hF0, hF⟩ := hF
  have aT : a ∉ tabA K tf := fun z => by
    have q := hT a z
    rw [ha] at q
    have z' : Data.seq vs.toArray _ = Data.fields #[] := congrArg Obj.data (Option.some.inj q)
    cases z'
  have core : ∀ H : Hp, (∀ b ∈ tabA K tf, H b = some (.tbl #[])) → (∀ b, H b = none ∨ b ∈ tabA K tf ∨ ∃ o xs, H b = some (.frz o (.lst xs))) → SL K ((tabA K tf).map some) H a (ns.map V.int) → HOk P w H s₁.heap →
      (∀ b, H b ≠ none → b = a ∨ b ∈ tabA K tf) → (H a ≠ none → K.lookup a = none) →
      codeAny (model P w) callerA (.call (.ref fa) ⟨[.ref a], []⟩) (fun r s' => r = .ok (.ret (.bool true)) ∧ OldK s₁.heap s'.heap ∧ s'.os = s₁.os ∧ AllBare s'.gens) s₁ := by
    intro H hH hO hS hok hA hK
    have base_of : ∀ {b : Addr} {o : Obj}, s₁.heap.get? b = some o → H b = none → (hidT s₁.heap H).get? b = some o := fun e n => hidT_get e n
    have noD : ∀ {b : Addr} {o : Obj}, s₁.heap.get? b = some o → (∀ vs n, o.data ≠ .seq vs n) → o.data ≠ .fields #[] → H b = none := fun {b o} e h1 h2 => by
      cases q : H b with
      | none => rfl
      | some u =>
        rcases hA b (by rw [q]; simp) with e' | e'
        · rw [e', ha] at e
          cases e
          exact (h1 _ _ rfl).elim
        · rw [hT b e'] at e
          cases e
          exact (h2 rfl).elim
    have noA : ∀ {b : Addr} {o : Obj} {es : Array DictEntry} {ep : Nat}, s₁.heap.get? b = some o → o.data = .dict es ep → H b = none := fun {b o es ep} e d =>
      noD e (fun vs n z => by rw [d] at z; cases z) fun z => by rw [d] at z; cases z
    have nsK : ∀ {b : Addr} {m : Str → Option Value}, s₁.heap.Ns b m → (hidT s₁.heap H).Ns b m := fun {b m} ⟨o, es, ep, e, d, r⟩ => ⟨o, es, ep, base_of e (noA e d), d, r⟩
    have hKb : K.In (hidT s₁.heap H) := fun b o e => base_of (KX b o e) (by
      cases q : H b with
      | none => rfl
      | some u =>
        rcases hA b (by rw [q]; simp) with e' | e'
        · rw [e'] at e q
          rw [hK (by rw [q]; simp)] at e
          cases e
        · rw [nT b e'] at e
          cases e)
    have hM : L2.Mod K mg (hidT s₁.heap H) := ⟨hKb, nsK hns, ⟨mb, nsK hb, hbb⟩, let ⟨mc, h1, h2⟩ := hlim; ⟨mc, nsK h1, h2⟩⟩
    have TB : ∀ p ∈ tf, TabB (hidT s₁.heap H) mg (He.cT K p.1).1 (He.cT K p.1).2 := fun p hp => by
      have hTp := hT _ (List.mem_map.mpr ⟨p, hp, rfl⟩ : (He.cT K p.1).2 ∈ tabA K tf)
      refine ⟨?_, ?_, fun z => ?_⟩
      · obtain ⟨o, us, file, t, flags, tg, inF, text, tt, e1, r1, r2, r3, r4, r5, r6, r7, r8, hne⟩ := C p hp
        refine ⟨o, us, file, t, flags, tg, inF, text, tt, base_of e1 (noD e1 (fun vs n z => ?_) fun z => ?_), r1, r2, r3, r4, r5, r6, r7, r8, hne⟩
        · rw [r2] at z
          cases z
        · rw [r2] at z
          cases z
          simp at r3
      · obtain ⟨bm, ob, b1, b2, b3, b4, b5, b6⟩ := hbm
        have nG : bm ≠ mainGlobals := fun q => by
          obtain ⟨o, es, ep, e, hd, _⟩ := hns
          rw [q, e] at b3
          cases b3
          rw [hd] at b6
          cases b6
        have nP : bm ≠ (He.cT K p.1).2 := fun q => by
          rw [q, hTp] at b3
          cases b3
          cases b6
        refine ⟨bm, ob, b1, b2, nG, nP, base_of b3 (noD b3 (fun vs n z => ?_) fun z => ?_), b4, b5, b6⟩
        · rw [b6] at z
          cases z
        · rw [b6] at z
          cases z
      · obtain ⟨o, es, ep, e, hd, _⟩ := hns
        rw [z, hTp] at e
        cases e
        cases hd
    have e0 : Env0 P w K mg (hidT s₁.heap H) callerA [] s₁ H := ⟨rfl, hM, fun b o e => of_hidT e, Nat.le_of_eq (hidT_size _ _), trivial, fun b hb => absurd (show b ∈ ([] : List Addr) from hb) (by simp), hok, .of_eq hg⟩
    have w0 := tabs_relW nd hH
    have hsp : spM K RX F [.ref a] H (fun v _ => v = .bl true) (fun _ _ _ => False) := by
      refine ⟨_, _, [scriptD ns], w0, .cons (.p (.lst hS (relPs_ints ns))) .nil, ?_⟩
      rw [hF]
      intro ρ' H' v e w r
      cases r with
      | p r => cases r; rfl
    refine codeAny_mono ((M _ hKb (nsK hns) TB).run callerA [] s₁ H ⟨[.ref a], []⟩ [.ref a] [.ref a] _ _ hr rfl e0 (hbind s₁ (.ref a)) (.cons rfl .nil) hsp) fun r s' h => ?_
    cases r with
    | error e =>
      obtain ⟨_, _, _, _, _, _, _, _, _, _, _, _, z⟩ := (show L2.CX P w [] H s₁ (fun _ _ _ => False) e s' from h)
      exact z.elim
    | ok fl =>
      cases fl with
      | next => exact False.elim h
      | brk => exact False.elim h
      | cont => exact False.elim h
      | ret u =>
        obtain ⟨v, H', os, bare, un, hok', r', q⟩ := h
        have qv : v = .bl true := q
        rw [qv] at r'
        obtain rfl : u = Value.bool true := r'
        have key : ∀ b o, b ∉ tabA K tf → s₁.heap.get? b = some o → s'.heap.get? b = some o := fun b o nb e => by
          cases q : H b with
          | none => exact un.keep b o e q (by intro z; exact absurd (show b ∈ ([] : List Addr) from z) (by simp)) (by simp)
          | some u =>
            rcases hO b with z | z | ⟨ob, xs, z⟩
            · rw [q] at z; cases z
            · exact absurd z nb
            · have z2 := un.frzs b ob _ z
              obtain ⟨e1, _⟩ := hok b _ z
              obtain ⟨e2, _⟩ := hok' b _ z2
              rw [e] at e1; cases e1
              exact e2
        have grown : ∀ b ∈ tabA K tf, ∃ more : Array Value, s'.heap.get? b = some { cls := .none, data := .fields more } := fun b hb => by
          obtain ⟨more, z⟩ := un.tbls b #[] (hH b hb)
          exact ⟨_, hok' b _ z⟩
        refine ⟨rfl, ⟨fun b o e => ?_, fun b o e => ?_⟩, os, bare⟩
        · by_cases hb : b ∈ tabA K tf
          · obtain ⟨p, hp, ep⟩ := List.mem_map.mp hb
            obtain ⟨more, hm⟩ := grown b hb
            have hTb := hT b hb
            rw [hTb] at e
            cases e
            subst ep
            exact .inr (.inl ⟨((C p hp).tab hTb).isCodeTable, rfl, #[], more, rfl, by rw [Array.empty_append]; exact hm⟩)
          · exact .inl (key b o hb e)
        · by_cases hb : b ∈ tabA K tf
          · obtain ⟨more, hm⟩ := grown b hb
            exact ⟨_, hm⟩
          · exact ⟨o, key b o hb e⟩
  have nl : ¬ Live ((tabA K tf).map some) a := fun ⟨n, hn⟩ => by
    rw [List.getElem?_map] at hn
    cases q : (tabA K tf)[n]? with
    | none => rw [q] at hn; cases hn
    | some z =>
      rw [q] at hn
      cases hn
      exact aT (List.mem_of_getElem? q)
  cases hk : K.lookup a with
  | some o =>
    have e := KX a o hk
    rw [ha] at e
    cases e
    refine core (fun b => if b ∈ tabA K tf then some (.tbl #[]) else none) (fun b hb => if_pos hb) (fun b => ?_) (.inr (.inr ⟨_, vs.toArray, _, hk, rfl, rfl, rfl, by rw [List.size_toArray, lenV]; exact hl, by simpa using rv⟩)) (fun b u z => ?_) (fun b z => ?_) fun z => absurd (show (if a ∈ tabA K tf then some (HO.tbl #[]) else none) = none from if_neg aT) z
    · by_cases hb : b ∈ tabA K tf
      · exact .inr (.inl hb)
      · exact .inl (if_neg hb)
    · by_cases hb : b ∈ tabA K tf
      · have z' := (if_pos hb).symm.trans z
        cases z'
        exact hT b hb
      · have z' := (if_neg hb).symm.trans z
        cases z'
    · by_cases hb : b ∈ tabA K tf
      · exact .inr hb
      · exact absurd (if_neg hb) z
  | none =>
    refine core (fun b => if b = a then some (.frz { cls := .type "list", data := .seq vs.toArray } (.lst (ns.map V.int))) else if b ∈ tabA K tf then some (.tbl #[]) else none) (fun b hb => (if_neg (show ¬ b = a from fun z => aT (by rw [← z]; exact hb))).trans (if_pos hb)) (fun b => ?_)
      (.inl ⟨.inr ⟨{ cls := .type "list", data := .seq vs.toArray }, if_pos rfl⟩, nl⟩) (fun b u z => ?_) (fun b z => ?_) fun _ => hk
    · by_cases hb : b = a
      · exact .inr (.inr ⟨_, _, if_pos hb⟩)
      · by_cases hb2 : b ∈ tabA K tf
        · exact .inr (.inl hb2)
        · exact .inl ((if_neg hb).trans (if_neg hb2))
    · by_cases hb : b = a
      · have z' := (if_pos hb).symm.trans z
        cases z'
        rw [hb]
        exact ⟨ha, by rw [List.length_map]; exact hl, vs, _, rv, ha⟩
      · have z1 := (if_neg hb).symm.trans z
        by_cases hb2 : b ∈ tabA K tf
        · have z' := (if_pos hb2).symm.trans z1
          cases z'
          exact hT b hb2
        · have z' := (if_neg hb2).symm.trans z1
          cases z'
    · by_cases hb : b = a
      · exact .inl hb
      · by_cases hb2 : b ∈ tabA K tf
        · exact .inr hb2
        · exact absurd ((if_neg hb).trans (if_neg hb2)) z
/-- a law with tables at its start -/
theorem walkMT {l : PySem.W.OpenLaw} {n k : Nat} {q : Program} {loose : List Str} {XP : (Str → Option Value) → Heap → Prop} {YP : World → Heap → Prop} {d : DefRec} {x : Str} (tf : List (He.Defn × Str))
    (hn : l.most = some n) (hn2 : n ≤ sizeLine) (hdf : d.params.defaults = []) (hr : Room k callerA)
    (F : ∀ (w : World) (mg : Str → Option Value) (fa : Addr) (h : Heap), YP w h → h.Ns mainGlobals mg → mg d.name = some (.ref fa) →
      ∃ (K : PySem.W.Frag) (fd : FuncData) (f : Fn) (RX : RXT), K.In h ∧ (tabA K tf).Nodup ∧ (∀ b ∈ tabA K tf, h.get? b = some { cls := .none, data := .fields #[] }) ∧ (∀ b ∈ tabA K tf, K.lookup b = none) ∧ (∀ p ∈ tf, PySem.W.CodeHd h (He.cT K p.1).1 (He.cT K p.1).2) ∧
        (∀ (s : Shared) (u : Value), BindsTo s fd ⟨[u], []⟩ [(x, u)]) ∧ (∀ ns : List Int, ns.length ≤ n → ∃ h, f [scriptD ns] (tabsV tf) = .ok (.p (.bl true)) h) ∧
        ∀ base : Heap, K.In base → base.Ns mainGlobals mg → (∀ p ∈ tf, TabB base mg (He.cT K p.1).1 (He.cT K p.1).2) → FnM l.prog w K mg base RX k fa fd [x] f) :
    PySem.W.WalkO q loose XP YP l.row.toRowW d [] (fun f vs => PySem.call f vs) := by
  refine Att.attach_call hn hdf fun w s₀ s₁ mg mb fa o pm cd doc a vs ns G Y ho hd hcd hmg hobj hints hlen hg => ?_
  obtain ⟨K, fd, f, RX, KX, nd, hT, nT, C, hb, hf, hF⟩ := F w mg fa _ Y G.T.g hmg
  exact lawM_callT KX G.T.g G.T.b G.T.builtins G.T.nolimit hg nd hT nT C G.T.bmain hobj hints (Nat.le_trans hlen hn2) hr hF hb (hf ns hlen)
end MV

/-! MVX8: what the printed walks use for raise, try, lambda. -/
namespace MV
open PySem PySem.Spec PyProof.Rows L2 LamX

/-- C(e) may be raised: C's __init__ stores its parameter p as the field f -/
structure RzC (P : Program) (w : World) (K : PySem.W.Frag) (mg : Str → Option Value) (base : Heap) (n f p : Str) : Prop where
  T : XcC K (He.ga K n)
  ini : ∃ (fI : Addr) (fd : FuncData), PySem.W.findIn K (.ref (He.ga K n)) "__init__" = some (some (.ref fI)) ∧ PySem.W.typeIn K (.ref fI) = some (.type "function") ∧
    FnOk P w K mg base C8.CX0 1 fI fd ["self", p] (spIni K (He.ga K n) f) ∧ Binds K fd ["self", p] []
  no : PySem.W.findIn K (.ref (He.ga K n)) f = some none
  m : mg n = some (.ref (He.ga K n))
theorem vs_raiseC {X : Cx} {W : WX} {e : Expr} {fe : FE} {n f p : Str} {pp pos pos' : Pos} (c : Cok X W) (Z : RzC X.prog X.w X.K X.mg X.base n f p) (hr : Room 2 X.A) (hg : Gl X n) (he1 : PE X e (TV X.K (RXK X.K) W fe))
    (hdb : (n == ("__debug__" : Str)) = false := by decide) (he : starEach [e] X.env = (false, eval e X.env) :: starEach [] X.env := by rfl) :
    PS X (.Raise (some (.Call (.Name n pp) [e] [] pos)) none pos') (TSV X.K (RXK X.K) W (sRaise n f fe)) := by
  obtain ⟨fI, fd, iC, tI, F1, hb⟩ := Z.ini
  exact vs_raise c Z.T iC tI F1 Z.no hr hb hg Z.m he1 hdb he
/-- what is asked of a class of which a suite tells -/
structure SuC (K : PySem.W.Frag) (n : Str) : Prop where
  x : XfC K (He.ga K n)
  e : ExcC K (He.ga K n)
section
variable {P : Program} {w : World} {K : PySem.W.Frag} {mg : Str → Option Value} {base : Heap} {RX : RXT}
/-- fnM_of, told which code object the def has -/
theorem fnM_ofC {k : Nat} {p : He.Defn} {name qual : Str} {params : Arguments} {body : List Stmt} {scope : Scope} {dvs : List V} {kws : List (Str × V)} {fd : FuncData} {N ps : List Str} {b : FS}
    (F : FunD K name qual params body scope dvs kws (He.fAd K p) fd) (S : FnScope N ps scope)
    (hbody : ∀ (A : Around) (outer : List Env) (s : Shared) (H : Hp) (E : XK), Room k (A.deeper (envOfC qual scope s.heap.objs.size (He.fAd K p) (.ref (He.cT K p).1))) → (A.deeper (envOfC qual scope s.heap.objs.size (He.fAd K p) (.ref (He.cT K p).1))).guards = some [] →
      PSs (cxOf (L2.CX P w) P w K mg base N qual scope (He.fAd K p) (.ref (He.cT K p).1) A outer s H E) body (TSV K RX (fun c d _ H' => E c d H') b)) :
    FnM P w K mg base RX (k + 1) (He.fAd K p) fd ps (runF ps.length N.length b) := by
  obtain ⟨oc, od, dV, kV, doc, pm, an, cdv, ct, osl, hfd, lk, hcd, hD, hK⟩ := F.ex
  obtain ⟨cc, hcc⟩ := He.codeIn_ref hcd
  have hc : (He.cT K p).1 = cc := He.codeOf_eq lk (by rw [hfd]; exact hcc)
  refine ⟨fun ds h hn => by unfold runF; rw [if_neg hn], fun A outer s H args us vs Q E hr hg e0 hb r hsp => ?_⟩
  obtain ⟨ρ, h, ds, rw_, rds, pp⟩ := hsp
  have hn : ds.length = ps.length := by
    by_cases hn : ds.length = ps.length
    · exact hn
    · unfold runF at pp; rw [if_neg hn] at pp; exact pp.elim
  have hl : vs.length = ps.length := by rw [← Paired.length rds, hn]
  unfold runF at pp
  rw [if_pos hn] at pp
  subst hfd
  have KX : K.In s.heap := e0.mod.kin.keeps fun b o e => (e0.bs b o e).1
  have lim : s.heap.NoLimit := e0.mod.nolimit.keeps fun b o e => (e0.bs b o e).1
  have hkind : ∀ y ∈ ps.zip us, scope.names.lookup y.1 = some .local ∨ (scope.names.lookup y.1 = some .cell ∧ ((cellsFrom (s.heap.objs.size + 1) scope.names []).lookup y.1).isSome = true) := fun ⟨n, v⟩ hy => by
    rcases S.par n (List.of_mem_zip hy).1 with q | q
    · exact .inl q
    · exact .inr ⟨q, PySem.W.cellsFrom_some _ _ _ (.inl q)⟩
  have hc2 : cdv = .ref (He.cT K p).1 := by rw [hc, hcc]
  subst hc2
  refine codeAny_call_function hr.depth (KX _ _ lk) rfl S.co S.gen rfl (PySem.W.codeRec_of KX hcd) (hb _ _ _ _ ?_)
  refine wpAny_newFunctionEnv_cells S.kind hkind fun env he s1 x => ?_
  subst he
  refine ⟨lim.keeps x.toInCall.keep, codeAny_func ?_⟩
  have ht := hbody A outer s H E (hr.deeper _) (by exact hg)
  have I : Inv (cxOf (L2.CX P w) P w K mg base N qual scope (He.fAd K p) (.ref (He.cT K p).1) A outer s H E) [] (start N vs) H s1 := inv_start S hr.hd e0 hl r x
  have hq : TSV K RX (fun c d _ H' => E c d H') b { nx := fun _ H' => Q .non H', rt := Q } (start N vs) H := by
    refine ⟨ρ, _, h, rw_, ?_, finF_ok rw_ pp⟩
    unfold L2.start
    rw [hl]
    exact RelDs.start _ rds
  refine wpAny_mono (ht.run [] s1 (start N vs) H _ I hq) (fun fl s' hs => ?_) fun e s' hs => hs
  have fin : ∀ {σ' : L2.St} {H' : Hp} {v : V} {u : Value}, Inv (cxOf (L2.CX P w) P w K mg base N qual scope (He.fAd K p) (.ref (He.cT K p).1) A outer s H E) [] σ' H' s' → RelV v u → Q v H' → CE outer P w H s Q u s' :=
    fun {σ' H' v u} J rv q => ⟨v, H', J.os, J.bare, J.base, J.hok, rv, q⟩
  cases fl with
  | ret u =>
    obtain ⟨v, σ', H', J, rv, q⟩ := hs
    exact fin J rv q
  | next =>
    obtain ⟨σ', H', J, q⟩ := hs
    exact fin (v := V.non) (u := Value.none) J rfl q
  | brk =>
    obtain ⟨_, _, _, q⟩ := hs
    exact False.elim q
  | cont =>
    obtain ⟨_, _, _, q⟩ := hs
    exact False.elim q
end
end MV

/-! MVX9: the Bools over K that a head asks for. -/
namespace MV
open PySem PySem.Spec PyProof.Rows L2 LamX

theorem excB_ok {K : PySem.W.Frag} {D : Addr} (h : excB K D = true) : ExcC K D := by
  unfold excB at h
  simp only [Bool.and_eq_true, decide_eq_true_eq] at h
  obtain ⟨h1, h2, h3, h4, h5, h6, h7, h8⟩ := h
  exact ⟨h1, h2, h3, h4, h5, h6, h7, h8⟩
theorem suB_ok {K : PySem.W.Frag} {n : Str} (h : suB K n = true) : SuC K n := by
  obtain ⟨h1, h2⟩ := Bool.and_eq_true_iff.mp h
  exact ⟨xfB_ok h1, excB_ok h2⟩
theorem rzB_ok {P : Program} {w : World} {K : PySem.W.Frag} {mg : Str → Option Value} {base : Heap} {n f p : Str} {m : Str × Option Str} {B newId initId : String} {tl : List Value} {fd : FuncData} (b : Bt B newId initId tl) (h : rzB K n f m newId tl = true)
    (F1 : FnOk P w K mg base C8.CX0 1 (He.fAd K m) fd ["self", p] (spIni K (He.ga K n) f)) (hb : Binds K fd ["self", p] []) (hm : mg n = some (.ref (He.ga K n))) : RzC P w K mg base n f p := by
  unfold rzB at h
  simp only [Bool.and_eq_true, decide_eq_true_eq] at h
  obtain ⟨h1, h2, h3, h4, h5, h6, h7, h8⟩ := h
  exact ⟨⟨⟨B, newId, initId, tl, b, clsB_ok h1⟩, h2, h3, h4, h5⟩, ⟨_, fd, h6, h7, F1, hb⟩, h8, hm⟩
end MV

/-! MVT: typed lists in comprehensions and loops. -/
namespace MV
open PySem PySem.Spec PyProof.Rows L2

section
variable {α β : Type}
/-- a comprehension without effects, over typed elements -/
theorem fLc_typ {i : FI} {g : GT} {t : FB} {e : FE} {own : List Nat} {s : Sg} {h : VH} {l : List α} (enc : α → P) (c : α → Bool) (r : α → P) (hi : i s h = .ok (l.map enc) h)
    (hs : ∀ x ∈ l, ∃ s1, g (.p (enc x)) (wipeS s own) = some s1 ∧ (∀ hh, t s1 hh = .ok (c x) hh) ∧ (c x = true → ∀ hh, e s1 hh = .ok (.p (r x)) hh))
    (hn : l.length ≤ sizeLine) : fLc i g t e own s h = .ok (.p (.lst ((l.filter c).map r))) h := by
  have key : ∀ (l : List α) (acc : List P), (∀ x ∈ l, ∃ s1, g (.p (enc x)) (wipeS s own) = some s1 ∧ (∀ hh, t s1 hh = .ok (c x) hh) ∧ (c x = true → ∀ hh, e s1 hh = .ok (.p (r x)) hh)) → acc.length + l.length ≤ sizeLine →
      lcL g t e own h.length (l.map enc) s (h ++ [.lst acc]) = some (h ++ [.lst (acc ++ (l.filter c).map r)]) := by
    intro l
    induction l with
    | nil => intro acc _ _; simp [lcL]
    | cons x l ih =>
      intro acc hs hn
      obtain ⟨s1, g1, t1, e1⟩ := hs x (List.mem_cons_self ..)
      rw [List.map_cons]
      unfold lcL
      rw [g1]
      dsimp only
      rw [t1]
      simp only [List.length_cons] at hn
      cases hc : c x with
      | false =>
        dsimp only
        rw [ih acc (fun y hy => hs y (List.mem_cons_of_mem _ hy)) (by omega), List.filter_cons_of_neg (by simp [hc])]
      | true =>
        dsimp only
        rw [e1 hc]
        dsimp only
        have q1 : (h ++ [VO.lst acc])[h.length]? = some (.lst acc) := by simp
        rw [q1]
        dsimp only
        rw [if_pos (by omega)]
        have q2 : (h ++ [VO.lst acc]).set h.length (.lst (acc ++ [r x])) = h ++ [.lst (acc ++ [r x])] := by simp
        rw [q2, ih _ (fun y hy => hs y (List.mem_cons_of_mem _ hy)) (by simp; omega), List.filter_cons_of_pos hc]
        simp
  unfold fLc
  rw [hi]
  dsimp only [bind_ok]
  rw [key l [] hs (by simpa using hn), lcEnd_pure]
  simp
/-- all elements -/
theorem fLc_all {i : FI} {g : GT} {e : FE} {own : List Nat} {s : Sg} {h : VH} {l : List α} (enc : α → P) (r : α → P) (hi : i s h = .ok (l.map enc) h)
    (hs : ∀ x ∈ l, ∃ s1, g (.p (enc x)) (wipeS s own) = some s1 ∧ ∀ hh, e s1 hh = .ok (.p (r x)) hh)
    (hn : l.length ≤ sizeLine) : fLc i g bYes e own s h = .ok (.p (.lst (l.map r))) h := by
  rw [fLc_typ enc (fun _ => true) r hi (fun x hx => by
    obtain ⟨s1, h1, h2⟩ := hs x hx
    exact ⟨s1, h1, fun _ => rfl, fun _ => h2⟩) hn, filter_yes]
/-- a loop with an account -/
theorem forL_acc {g : GT} {b : FS} (enc : α → P) (up : β → α → β) (I : β → Sg → VH → Prop) : ∀ (l : List α), (∀ acc, ∀ x ∈ l, ∀ s h, I acc s h → ∃ s1, g (.p (enc x)) s = some s1 ∧ ∃ s2 h2, b s1 h = .nx s2 h2 ∧ I (up acc x) s2 h2) →
    ∀ acc s h, I acc s h → ∃ s' h', forL g b (l.map enc) s h = .nx s' h' ∧ I (l.foldl up acc) s' h'
  | [], _, acc, s, h, hI => ⟨s, h, rfl, hI⟩
  | x :: l, hs, acc, s, h, hI => by
    obtain ⟨s1, e1, s2, h2, e2, hI2⟩ := hs acc x (List.mem_cons_self ..) s h hI
    obtain ⟨s', h', e3, hI3⟩ := forL_acc enc up I l (fun acc y hy => hs acc y (List.mem_cons_of_mem _ hy)) (up acc x) s2 h2 hI2
    refine ⟨s', h', ?_, hI3⟩
    rw [List.map_cons]
    unfold forL
    rw [e1]
    dsimp only
    rw [e2]
    exact e3
/-- a loop that hands back at the first element that is so -/
theorem forL_find {g : GT} {b : FS} {h : VH} (enc : α → P) (p : α → Bool) (r : α → D) (I : Sg → Prop) : ∀ (l : List α), (∀ x ∈ l, ∀ s, I s → ∃ s1, g (.p (enc x)) s = some s1 ∧ ((p x = true ∧ b s1 h = .rt (r x) h) ∨ (p x = false ∧ ∃ s2, b s1 h = .nx s2 h ∧ I s2))) →
    ∀ s, I s → (∃ x, l.find? p = some x ∧ forL g b (l.map enc) s h = .rt (r x) h) ∨ (l.find? p = none ∧ ∃ s', forL g b (l.map enc) s h = .nx s' h ∧ I s')
  | [], _, s, hI => .inr ⟨rfl, s, rfl, hI⟩
  | x :: l, hs, s, hI => by
    obtain ⟨s1, e1, q⟩ := hs x (List.mem_cons_self ..) s hI
    rw [List.map_cons]
    unfold forL
    rw [e1]
    dsimp only
    rcases q with ⟨q1, q2⟩ | ⟨q1, s2, q2, q3⟩
    · rw [q2, List.find?_cons_of_pos q1]
      exact .inl ⟨x, rfl, rfl⟩
    · rw [q2, List.find?_cons_of_neg (by simp [q1])]
      exact forL_find enc p r I l (fun y hy => hs y (List.mem_cons_of_mem _ hy)) s2 q3
end
theorem zipP_map {α β : Type} (f : α → P) (g : β → P) : ∀ (l : List α) (m : List β), zipP (l.map f) (m.map g) = (l.zip m).map fun x => .tup [f x.1, g x.2]
  | [], m => by simp [zipP]
  | x :: l, [] => by simp [zipP]
  | x :: l, y :: m => by simp only [List.map_cons, zipP, List.zip_cons_cons, zipP_map f g l m]
theorem numP_map {α : Type} (f : α → P) : ∀ (l : List α) (k : Nat), numP k (l.map f) = (l.zipIdx k).map fun x => .tup [.int x.2, f x.1]
  | [], k => by simp [numP]
  | x :: l, k => by simp only [List.map_cons, numP, List.zipIdx_cons, numP_map f l (k + 1)]
theorem rngP_map (n : Nat) : rngP 0 n = (List.range n).map fun i => .int (i : Nat) := by
  simp [rngP]
theorem opIx_lst (l : List P) (i : Int) (x : P) (h : VH) (e : atI l i = some x) : opIx (.p (.lst l)) (.p (.int i)) h = .ok (.p x) h := by
  simp [opIx, dctD, opIxS, lstD, e]
theorem opIx_tup (l : List P) (i : Int) (x : P) (h : VH) (e : atI l i = some x) : opIx (.p (.tup l)) (.p (.int i)) h = .ok (.p x) h := by
  simp [opIx, dctD, opIxS, lstD, tupD, e]
theorem atI_nat {α : Type} {l : List α} {j : Nat} {x : α} (e : l[j]? = some x) : atI l (j : Int) = some x := by
  have hj : j < l.length := (List.getElem?_eq_some_iff.mp e).1
  unfold atI ixN
  rw [if_pos (by omega), if_pos (by omega)]
  simpa using e
theorem atI_map {α β : Type} {l : List α} {f : α → β} {j : Nat} {x : α} (e : l[j]? = some x) : atI (l.map f) (j : Int) = some (f x) := atI_nat (by simp [e])
theorem opIx_tupM {α : Type} {l : List α} {f : α → P} {j : Nat} {x : α} (h : VH) (e : l[j]? = some x) : opIx (.p (.tup (l.map f))) (.p (.int (j : Int))) h = .ok (.p (f x)) h := opIx_tup _ _ _ _ (atI_map e)
theorem opIx_lstM {α : Type} {l : List α} {f : α → P} {j : Nat} {x : α} (h : VH) (e : l[j]? = some x) : opIx (.p (.lst (l.map f))) (.p (.int (j : Int))) h = .ok (.p (f x)) h := opIx_lst _ _ _ _ (atI_map e)
theorem gSum_ints (l : List Int) (h : VH) : gSum [.p (.lst (l.map P.int))] h = .ok (.p (.int l.sum)) h := by
  simp only [gSum, b1, lstD, intsP_map]
theorem gSum_map {α : Type} (f : α → Int) (l : List α) (h : VH) : gSum [.p (.lst (l.map fun x => P.int (f x)))] h = .ok (.p (.int (l.map f).sum)) h := by
  have := gSum_ints (l.map f) h
  rw [List.map_map] at this
  exact this
theorem gLen_tup {α : Type} (f : α → P) (l : List α) (h : VH) : gLen [.p (.tup (l.map f))] h = .ok (.p (.int l.length)) h := by simp [gLen, b1, lstD]
theorem gLen_lst {α : Type} (f : α → P) (l : List α) (h : VH) : gLen [.p (.lst (l.map f))] h = .ok (.p (.int l.length)) h := by simp [gLen, b1, lstD]
theorem gTuple_lst (l : List P) (h : VH) : gTuple [.p (.lst l)] h = .ok (.p (.tup l)) h := by simp [gTuple, b1, lstD]

theorem rngP_get {lo : Int} {n i : Nat} {x : P} (h : (rngP lo n)[i]? = some x) : x = .int (lo + i) ∧ i < n := by
  simp only [rngP, List.getElem?_map] at h
  cases q : (List.range n)[i]? with
  | none => rw [q] at h; cases h
  | some j =>
    rw [q] at h
    have h1 := List.getElem?_eq_some_iff.mp q
    obtain ⟨h2, h3⟩ := h1
    rw [List.getElem_range] at h3
    subst h3
    cases h
    exact ⟨rfl, by simpa using h2⟩
theorem rngStepP_get {lo c : Int} {n i : Nat} {x : P} (h : (rngStepP lo c n)[i]? = some x) : x = .int (lo + (i : Int) * c) ∧ i < n := by
  simp only [rngStepP, List.getElem?_map] at h
  cases q : (List.range n)[i]? with
  | none => rw [q] at h; cases h
  | some j =>
    rw [q] at h
    have h1 := List.getElem?_eq_some_iff.mp q
    obtain ⟨h2, h3⟩ := h1
    rw [List.getElem_range] at h3
    subst h3
    cases h
    exact ⟨rfl, by simpa using h2⟩
theorem rngP_len (lo : Int) (n : Nat) : (rngP lo n).length = n := by simp [rngP]
theorem rngStepP_len (lo c : Int) (n : Nat) : (rngStepP lo c n).length = n := by simp [rngStepP]
/-! displays -/
def tupV (xs : List D) (h1 : VH) : R D := match allP xs with
  | some l => if l.length ≤ sizeLine then .ok (.p (.tup l)) h1 else .bad
  | none => .bad
def lstV (xs : List D) (h1 : VH) : R D := match allP xs with
  | some l => if l.length ≤ sizeLine then .ok (.p (.lst l)) h1 else .bad
  | none => .bad
def lstMV (xs : List D) (h1 : VH) : R D := match allP xs with
  | some l => if l.length ≤ sizeLine then .ok (.ob h1.length) (h1 ++ [.lst l]) else .bad
  | none => .bad
theorem fTup_ev (a : FA) (s : Sg) (h : VH) : fTup a s h = (a s h).bind tupV := rfl
theorem fLst_ev (a : FA) (s : Sg) (h : VH) : fLst a s h = (a s h).bind lstV := rfl
theorem fLstM_ev (a : FA) (s : Sg) (h : VH) : fLstM a s h = (a s h).bind lstMV := rfl
theorem allP_map (l : List P) : allP (l.map D.p) = some l := by
  induction l with
  | nil => rfl
  | cons x l ih => simp only [List.map_cons, allP, ih]
theorem le_line {n : Nat} (h : n ≤ 1000) : n ≤ sizeLine := by rw [sizeLine_eq]; omega
theorem tupV_map (l : List P) (h : VH) (hn : l.length ≤ 1000 := by simp) : tupV (l.map D.p) h = .ok (.p (.tup l)) h := by
  unfold tupV; rw [allP_map]; exact if_pos (le_line hn)
theorem lstV_map (l : List P) (h : VH) (hn : l.length ≤ 1000 := by simp) : lstV (l.map D.p) h = .ok (.p (.lst l)) h := by
  unfold lstV; rw [allP_map]; exact if_pos (le_line hn)
theorem lstMV_map (l : List P) (h : VH) (hn : l.length ≤ 1000 := by simp) : lstMV (l.map D.p) h = .ok (.ob h.length) (h ++ [.lst l]) := by
  unfold lstMV; rw [allP_map]; exact if_pos (le_line hn)
theorem tupV0 (h : VH) : tupV [] h = .ok (.p (.tup [])) h := tupV_map [] h
theorem tupV1 (a : P) (h : VH) : tupV [.p a] h = .ok (.p (.tup [a])) h := tupV_map [a] h
theorem tupV2 (a b : P) (h : VH) : tupV [.p a, .p b] h = .ok (.p (.tup [a, b])) h := tupV_map [a, b] h
theorem tupV3 (a b c : P) (h : VH) : tupV [.p a, .p b, .p c] h = .ok (.p (.tup [a, b, c])) h := tupV_map [a, b, c] h
theorem tupV4 (a b c d : P) (h : VH) : tupV [.p a, .p b, .p c, .p d] h = .ok (.p (.tup [a, b, c, d])) h := tupV_map [a, b, c, d] h
theorem lstV0 (h : VH) : lstV [] h = .ok (.p (.lst [])) h := lstV_map [] h
theorem lstV1 (a : P) (h : VH) : lstV [.p a] h = .ok (.p (.lst [a])) h := lstV_map [a] h
theorem lstV2 (a b : P) (h : VH) : lstV [.p a, .p b] h = .ok (.p (.lst [a, b])) h := lstV_map [a, b] h
theorem lstV3 (a b c : P) (h : VH) : lstV [.p a, .p b, .p c] h = .ok (.p (.lst [a, b, c])) h := lstV_map [a, b, c] h
theorem lstV5 (a b c d e : P) (h : VH) : lstV [.p a, .p b, .p c, .p d, .p e] h = .ok (.p (.lst [a, b, c, d, e])) h := lstV_map [a, b, c, d, e] h
theorem lstMV0 (h : VH) : lstMV [] h = .ok (.ob h.length) (h ++ [.lst []]) := lstMV_map [] h
theorem lstMV1 (a : P) (h : VH) : lstMV [.p a] h = .ok (.ob h.length) (h ++ [.lst [a]]) := lstMV_map [a] h
theorem lstMV2 (a b : P) (h : VH) : lstMV [.p a, .p b] h = .ok (.ob h.length) (h ++ [.lst [a, b]]) := lstMV_map [a, b] h
theorem take_self (h : VH) : h.take h.length = h := List.take_of_length_le (Nat.le_refl _)
theorem fin_rt (h : VH) (x : P) : finF h.length (.rt (.p x) h) = .ok (.p x) h := by
  simp only [finF, take_self]
theorem fin_nx (h : VH) (s : Sg) : finF h.length (.nx s h) = .ok (.p .non) h := by
  simp only [finF, take_self]
theorem sRaise_ev (n f : Str) (a : FE) (s : Sg) (h : VH) : sRaise n f a s h = (a s h).thenS s fun d h1 => match d with
  | .p v => .ex ⟨n, [(f, v)]⟩ s h1
  | .ob _ => .bad := rfl
theorem fSeq_ev (a : FE) (s : Sg) (h : VH) : fSeq a s h = (a s h).bind fun d h1 => match itemsP d with
  | some l => .ok l h1
  | none => .bad := rfl
theorem fEnum_ev (a : FE) (s : Sg) (h : VH) : fEnum (fCons a fNil) s h = (a s h).bind fun x h1 => match itemsP x with
    | some l => .ok (numP 0 l) h1
    | none => .bad := by
  unfold fEnum
  simp only [fCons_ev, fNil_ev, bind_ok]
  cases a s h <;> rfl
theorem fZip_ev (a b : FE) (s : Sg) (h : VH) : fZip (fCons a (fCons b fNil)) s h = (a s h).bind fun x h1 => (b s h1).bind fun y h2 => match itemsP x, itemsP y with
    | some l, some m => .ok (zipP l m) h2
    | _, _ => .bad := by
  unfold fZip
  simp only [fCons_ev, fNil_ev, bind_ok]
  cases a s h with
  | ok x h1 => simp only [bind_ok]; cases b s h1 <;> rfl
  | exc => rfl
  | bad => rfl
theorem items_tup (l : List P) : itemsP (.p (.tup l)) = some l := rfl
theorem items_lst (l : List P) : itemsP (.p (.lst l)) = some l := rfl
@[simp] theorem seq_ex (x : Ex) (s : Sg) (h : VH) (g : FS) : (O.ex x s h).seq g = .ex x s h := rfl
@[simp] theorem thenS_exc (x : Ex) (s : Sg) (h : VH) (k : D → VH → O) : (R.exc x h : R D).thenS s k = .ex x s h := rfl
/-! the same steps, not by rfl: the kernel shall not look behind them -/
theorem qb_ok {α β : Type} (a : α) (h : VH) (k : α → VH → R β) : (R.ok a h).bind k = k a h := id rfl
theorem qt_ok {α : Type} (a : α) (h : VH) (s : Sg) (k : α → VH → O) : (R.ok a h).thenS s k = k a h := id rfl
theorem qs_nx (s : Sg) (h : VH) (g : FS) : (O.nx s h).seq g = g s h := id rfl
theorem qs_rt (d : D) (h : VH) (g : FS) : (O.rt d h).seq g = .rt d h := id rfl
theorem qs_ex (x : Ex) (s : Sg) (h : VH) (g : FS) : (O.ex x s h).seq g = .ex x s h := id rfl
theorem qt_exc (x : Ex) (s : Sg) (h : VH) (k : D → VH → O) : (R.exc x h : R D).thenS s k = .ex x s h := id rfl
theorem qc_t {α : Type} (a b : α) : (bif true then a else b) = a := id rfl
theorem qc_f {α : Type} (a b : α) : (bif false then a else b) = b := id rfl
theorem qa_bl (b : Bool) (h : VH) : asB (.ok (.p (.bl b)) h) = .ok b h := id rfl
theorem qtr_bl (b : Bool) (h : VH) : truth (.p (.bl b)) h = .ok b h := id rfl
theorem opLt_int (i j : Int) (h : VH) : opLt (.p (.int i)) (.p (.int j)) h = .ok (.p (.bl (decide (i < j)))) h := by unfold opLt; rfl
theorem opLe_int (i j : Int) (h : VH) : opLe (.p (.int i)) (.p (.int j)) h = .ok (.p (.bl (decide (i ≤ j)))) h := by unfold opLe; rfl
theorem opGt_int (i j : Int) (h : VH) : opGt (.p (.int i)) (.p (.int j)) h = .ok (.p (.bl (decide (j < i)))) h := by unfold opGt; rfl
theorem opGe_int (i j : Int) (h : VH) : opGe (.p (.int i)) (.p (.int j)) h = .ok (.p (.bl (decide (j ≤ i)))) h := by unfold opGe; rfl
theorem opSub_int (i j : Int) (h : VH) : opSub (.p (.int i)) (.p (.int j)) h = .ok (.p (.int (i - j))) h := by unfold opSub; rfl
theorem opAdd_int (i j : Int) (h : VH) : opAdd (.p (.int i)) (.p (.int j)) h = .ok (.p (.int (i + j))) h := by unfold opAdd; rfl
theorem opNeg_int (i : Int) (h : VH) : opNeg (.p (.int i)) h = .ok (.p (.int (-i))) h := by unfold opNeg; rfl
theorem opMul_int {i j : Int} (c : isInt64 i = true ∨ isInt64 j = true) (h : VH) : opMulI (.p (.int i)) (.p (.int j)) h = .ok (.p (.int (i * j))) h := by
  have e : (isInt64 i || isInt64 j) = true := by rw [Bool.or_eq_true]; exact c
  simp only [opMulI, opInt, e, if_true]
theorem f3_ev (g g' : Op2) (a b c : FE) (s : Sg) (h : VH) : f3 g g' a b c s h = (a s h).bind fun x h1 => (b s h1).bind fun y h2 => (asB (g x y h2)).bind fun k h3 => bif k then (c s h3).bind fun z h4 => g' y z h4 else .ok (.p (.bl false)) h3 := by
  unfold f3
  congr
theorem inR_nat {m : Nat} (h : m ≤ 1000000) : inR (m : Int) = true := inR_of (by omega)
theorem fRange1_int {a : FE} {s : Sg} {h : VH} {j : Int} (e : a s h = .ok (.p (.int j)) h) (hj : inR j = true) : fRange1 (fCons a fNil) s h = .ok (rngP 0 j.toNat) h := by
  have e2 : fCons a fNil s h = .ok [.p (.int j)] h := by
    simp only [fCons_ev, e, fNil_ev, bind_ok]
  unfold fRange1
  rw [e2]
  simp only [bind_ok, hj, if_true]
theorem fRange1_nat {a : FE} {s : Sg} {h : VH} {m : Nat} (e : a s h = .ok (.p (.int (m : Nat))) h) (hm : m ≤ 1000000) : fRange1 (fCons a fNil) s h = .ok ((List.range m).map fun i : Nat => .int i) h := by
  have e1 := fRange1_int e (inR_nat hm)
  have e2 : ((m : Int)).toNat = m := Int.toNat_natCast m
  rw [e2, rngP_map] at e1
  exact e1
end MV
local macro_rules | `(tactic| simp_arith [$ts,*]) => `(tactic| simp only [MV.runF, List.length_cons, List.length_nil, Nat.zero_add, Nat.reduceAdd, if_true, MV.sSeq_ev, MV.sDrop_ev, MV.sIf_ev, MV.sRet_ev, MV.sNext_ev, MV.sBreak_ev, MV.sAsgN_ev, MV.sAsg_ev, MV.sPar, MV.sFor_ev, MV.fIfE_ev, MV.fNot_ev, MV.fNotV_ev, MV.fTru_ev, MV.fT_ev, MV.fAnd_ev, MV.fOr_ev, MV.fAndV_ev, MV.fOrV_ev, MV.f1_ev, MV.f2_ev, MV.fVar, MV.fC_ev, MV.fB_ev, MV.fCall_ev, MV.fCons_ev, MV.fNil_ev, MV.fTup_ev, MV.fLst_ev, MV.fLstM_ev, MV.tupV0, MV.tupV1, MV.tupV2, MV.tupV3, MV.tupV4, MV.lstV0, MV.lstV1, MV.lstV2, MV.lstV3, MV.lstV5, MV.lstMV0, MV.lstMV1, MV.lstMV2, MV.gtTup, MV.gtsCons, MV.gtsNil, MV.gtName, MV.wipeS, List.foldl_cons, List.foldl_nil, MV.fSeq_ev, MV.fEnum_ev, MV.fZip_ev, MV.items_tup, MV.items_lst, List.map_cons, List.map_nil, List.cons_append, List.nil_append, List.replicate, List.getElem?_cons_zero, List.getElem?_cons_succ, List.set_cons_zero, List.set_cons_succ, MV.qb_ok, MV.qt_ok, MV.qs_nx, MV.qs_rt, MV.qtr_bl, MV.qa_bl, Bool.not_true, Bool.not_false, MV.qc_t, MV.qc_f, MV.opLt_int, MV.opLe_int, MV.opGt_int, MV.opGe_int, MV.opSub_int, MV.opNeg_int, MV.opAdd_int, MV.f3_ev, MV.fin_rt, MV.fin_nx, MV.qs_ex, MV.qt_exc, decide_true, decide_false, Bool.false_eq_true, if_false, $ts,*])
local macro_rules | `(tactic| simp_arith [$ts,*] at $h:ident) => `(tactic| simp only [MV.runF, List.length_cons, List.length_nil, Nat.zero_add, Nat.reduceAdd, if_true, MV.sSeq_ev, MV.sDrop_ev, MV.sIf_ev, MV.sRet_ev, MV.sNext_ev, MV.sBreak_ev, MV.sAsgN_ev, MV.sAsg_ev, MV.sPar, MV.sFor_ev, MV.fIfE_ev, MV.fNot_ev, MV.fNotV_ev, MV.fTru_ev, MV.fT_ev, MV.fAnd_ev, MV.fOr_ev, MV.fAndV_ev, MV.fOrV_ev, MV.f1_ev, MV.f2_ev, MV.fVar, MV.fC_ev, MV.fB_ev, MV.fCall_ev, MV.fCons_ev, MV.fNil_ev, MV.fTup_ev, MV.fLst_ev, MV.fLstM_ev, MV.tupV0, MV.tupV1, MV.tupV2, MV.tupV3, MV.tupV4, MV.lstV0, MV.lstV1, MV.lstV2, MV.lstV3, MV.lstV5, MV.lstMV0, MV.lstMV1, MV.lstMV2, MV.gtTup, MV.gtsCons, MV.gtsNil, MV.gtName, MV.wipeS, List.foldl_cons, List.foldl_nil, MV.fSeq_ev, MV.fEnum_ev, MV.fZip_ev, MV.items_tup, MV.items_lst, List.map_cons, List.map_nil, List.cons_append, List.nil_append, List.replicate, List.getElem?_cons_zero, List.getElem?_cons_succ, List.set_cons_zero, List.set_cons_succ, MV.qb_ok, MV.qt_ok, MV.qs_nx, MV.qs_rt, MV.qtr_bl, MV.qa_bl, Bool.not_true, Bool.not_false, MV.qc_t, MV.qc_f, MV.opLt_int, MV.opLe_int, MV.opGt_int, MV.opGe_int, MV.opSub_int, MV.opNeg_int, MV.opAdd_int, MV.f3_ev, MV.fin_rt, MV.fin_nx, MV.qs_ex, MV.qt_exc, decide_true, decide_false, Bool.false_eq_true, if_false, $ts,*] at $h:ident)

/-! TW_A: stairs by themselves, plain. -/
namespace TW
abbrev Stp := Int × Option Int
def lastM (a : Option Int) (l : List Stp) : Option Int := match l.getLast? with
  | none => a
  | some x => x.2
def okLo (a : Option Int) (v : Int) : Bool := match a with
  | none => true
  | some i => decide (i ≤ v)
def okHi (b : Option Int) (v : Int) : Bool := match b with
  | none => true
  | some i => decide (v ≤ i)
def isLet (e : Option Int × Option Int) (v : Int) : Bool := okLo e.1 v && okHi e.2 v
def nearHi (b : Option Int) : Int := match b with
  | none => 0
  | some j => if j < 0 then j else 0
def nearT (a b : Option Int) : Int := match a with
  | none => nearHi b
  | some i => if 0 < i then i else nearHi b
def maxO (lo : Int) (a : Option Int) : Int := match a with
  | none => lo
  | some x => if x > lo then x else lo
def minO (hi : Int) (m : Option Int) : Int := match m with
  | none => hi
  | some x => if x < hi then x else hi
def pos0 (x : Int) : Int := if x > 0 then x else 0
def under (lo hi : Int) : Option Int → List Stp → Int
  | _, [] => 0
  | a, (d, m) :: r => d * pos0 (minO hi m - maxO lo a) + under lo hi m r
def begin' (a : Option Int) (l : List Stp) : Int := nearT a (lastM a l)
def energy (a : Option Int) (l : List Stp) (f : Int) : Int := if begin' a l ≤ f then under (begin' a l) f a l else - under f (begin' a l) a l
def dropEnds (a : Option Int) (l : List Stp) : Option Int × Option Int := ((match a with
  | none => l.head?.map (·.1)
  | some _ => none), match l.getLast? with
  | some (d, none) => some d
  | _ => none)
def goF (d : Int) : Option Int → List Stp → Option Int × Option Int
  | a, [] => (a, a)
  | a, (s, m) :: r => if d < s then (a, a) else if d = s then (a, m) else goF d m r
def ltHi (m : Option Int) (f : Int) : Bool := match m with
  | none => true
  | some i => decide (f < i)
def upT (f : Int) : Option Int → List Stp → Option Int
  | _, [] => none
  | a, (d, m) :: r => if okLo a f && ltHi m f then some d else upT f m r
theorem snoc (l : List Stp) : l = [] ∨ ∃ r x, l = r ++ [x] := by
  rcases List.eq_nil_or_concat l with h | ⟨r, x, h⟩
  · exact .inl h
  · exact .inr ⟨r, x, by simpa using h⟩
theorem lastM_cons (a : Option Int) (x : Stp) (r : List Stp) : lastM a (x :: r) = lastM x.2 r := by
  rcases snoc r with rfl | ⟨q, y, rfl⟩
  · simp [lastM]
  · have : x :: (q ++ [y]) = (x :: q) ++ [y] := rfl
    have h1 : ((x :: q) ++ [y]).getLast? = some y := List.getLast?_concat
    unfold lastM
    rw [this, h1, List.getLast?_concat]
def starF (a : Option Int) (l : List Stp) (d : Int) : Int := nearT (goF d a l).1 (goF d a l).2
def worth (a : Option Int) (l : List Stp) (d : Int) : Int := d * starF a l d - energy a l (starF a l d)
/-- drops ascend, mosts ascend, only the last may be open; all small -/
def Wf : Int → Int → List Stp → Prop
  | _, _, [] => True
  | pd, _, [(d, none)] => pd < d ∧ d ≤ 999
  | _, _, (_, none) :: _ :: _ => False
  | pd, pm, (d, some m) :: r => pd < d ∧ d ≤ 999 ∧ pm < m ∧ m ≤ 999 ∧ Wf d m r
structure Good (a : Option Int) (l : List Stp) : Prop where
  ne : a = none → l ≠ []
  lo : ∀ i, a = some i → -999 ≤ i ∧ i ≤ 999
  wf : Wf (-1000) (a.getD (-1000)) l
  len : l.length ≤ 40
/-! facts of good stairs -/
theorem wf_drops : ∀ (l : List Stp) (pd pm : Int), -1000 ≤ pd → Wf pd pm l → ∀ x ∈ l, pd < x.1 ∧ x.1 ≤ 999
  | [], _, _, _, _, x, hx => by cases hx
  | [(d, none)], pd, pm, hp, h, x, hx => by
    simp only [List.mem_singleton] at hx
    subst hx
    exact h
  | (d, none) :: _ :: _, pd, pm, hp, h, x, hx => by simp only [Wf] at h
  | (d, some m) :: r, pd, pm, hp, h, x, hx => by
    simp only [Wf] at h
    obtain ⟨h1, h2, h3, h4, h5⟩ := h
    rcases List.mem_cons.mp hx with e | e
    · subst e; exact ⟨h1, h2⟩
    · have := wf_drops r d m (by omega) h5 x e
      exact ⟨by omega, this.2⟩
def Sm (l : List Stp) : Prop := ∀ x ∈ l, -1000 ≤ x.1 ∧ x.1 ≤ 1000
theorem Good.sm {a : Option Int} {l : List Stp} (g : Good a l) : Sm l := fun x hx => by
  have := wf_drops l _ _ (by decide) g.wf x hx
  omega
/-- the flows' ends that are told, from the left -/
def told (a : Option Int) (l : List Stp) : List Int := (a :: l.map (·.2)).filterMap id
def Asc : Int → List Int → Prop
  | _, [] => True
  | p, x :: r => p < x ∧ x ≤ 999 ∧ Asc x r
theorem wf_told : ∀ (l : List Stp) (pd pm : Int), Wf pd pm l → Asc pm ((l.map (·.2)).filterMap id)
  | [], _, _, _ => by simp [Asc]
  | [(d, none)], _, _, _ => by simp [Asc]
  | (d, none) :: _ :: _, pd, pm, h => by simp only [Wf] at h
  | (d, some m) :: r, pd, pm, h => by
    simp only [Wf] at h
    obtain ⟨h1, h2, h3, h4, h5⟩ := h
    have := wf_told r d m h5
    simp only [List.map_cons, List.filterMap_cons, id]
    exact ⟨h3, h4, this⟩
theorem Good.told {a : Option Int} {l : List Stp} (g : Good a l) : Asc (-1000) (told a l) := by
  have := wf_told l _ _ g.wf
  unfold TW.told
  cases a with
  | none => exact this
  | some i =>
    obtain ⟨h1, h2⟩ := g.lo i rfl
    simp only [List.filterMap_cons, id]
    exact ⟨by omega, h2, this⟩
theorem asc_all : ∀ (l : List Int) (p : Int), -1000 ≤ p → Asc p l → ∀ x ∈ l, p < x ∧ x ≤ 999
  | [], _, _, _, x, hx => by cases hx
  | y :: r, p, hp, ⟨h1, h2, h3⟩, x, hx => by
    rcases List.mem_cons.mp hx with e | e
    · subst e; exact ⟨h1, h2⟩
    · have := asc_all r y (by omega) h3 x e
      exact ⟨by omega, this.2⟩
/-! ### the plain law -/
theorem pos0_nonpos {x : Int} (h : x ≤ 0) : pos0 x = 0 := by unfold pos0; rw [if_neg (by omega)]
theorem pos0_pos {x : Int} (h : 0 ≤ x) : pos0 x = x := by unfold pos0; split <;> omega
theorem maxO_some (lo x : Int) : lo ≤ maxO lo (some x) ∧ x ≤ maxO lo (some x) ∧ (maxO lo (some x) = lo ∨ maxO lo (some x) = x) := by
  unfold maxO; dsimp only; split <;> omega
theorem minO_some (hi x : Int) : minO hi (some x) ≤ hi ∧ minO hi (some x) ≤ x ∧ (minO hi (some x) = hi ∨ minO hi (some x) = x) := by
  unfold minO; dsimp only; split <;> omega
theorem maxO_ge (lo : Int) (a : Option Int) : lo ≤ maxO lo a := by
  cases a with
  | none => exact Int.le_refl _
  | some x => exact (maxO_some lo x).1
theorem minO_le (hi : Int) (a : Option Int) : minO hi a ≤ hi := by
  cases a with
  | none => exact Int.le_refl _
  | some x => exact (minO_some hi x).1
theorem under_same (x : Int) : ∀ (a : Option Int) (l : List Stp), under x x a l = 0
  | _, [] => rfl
  | a, (d, m) :: r => by
    unfold under
    have h1 := maxO_ge x a
    have h2 := minO_le x m
    rw [pos0_nonpos (by omega), under_same x m r]
    omega
theorem under_zero : ∀ (r : List Stp) (lo hi pd m : Int), hi ≤ m → Wf pd m r → under lo hi (some m) r = 0
  | [], _, _, _, _, _, _ => rfl
  | [(d, none)], lo, hi, pd, m, h, w => by
    simp only [under]
    have h1 := (maxO_some lo m).2.1
    rw [pos0_nonpos (by simp only [minO]; omega)]
    omega
  | (d, none) :: _ :: _, _, _, _, _, _, w => by simp only [Wf] at w
  | (d, some m') :: r, lo, hi, pd, m, h, w => by
    simp only [Wf] at w
    obtain ⟨w1, w2, w3, w4, w5⟩ := w
    unfold under
    have h1 := (maxO_some lo m).2.1
    have h2 := (minO_some hi m').1
    rw [pos0_nonpos (by omega), under_zero r lo hi d m' (by omega) w5]
    omega
theorem under_lo_above : ∀ (r : List Stp) (f hi pd m : Int), f < m → Wf pd m r → under f hi (some m) r = under (f + 1) hi (some m) r
  | [], _, _, _, _, _, _ => rfl
  | [(d, none)], f, hi, pd, m, h, w => by
    simp only [under]
    have e : maxO f (some m) = maxO (f + 1) (some m) := by unfold maxO; dsimp only; split <;> split <;> omega
    rw [e]
  | (d, none) :: _ :: _, _, _, _, _, _, w => by simp only [Wf] at w
  | (d, some m') :: r, f, hi, pd, m, h, w => by
    simp only [Wf] at w
    obtain ⟨w1, w2, w3, w4, w5⟩ := w
    unfold under
    have e : maxO f (some m) = maxO (f + 1) (some m) := by unfold maxO; dsimp only; split <;> split <;> omega
    rw [e, under_lo_above r f hi d m' (by omega) w5]
theorem up_above : ∀ (r : List Stp) (f pd m : Int), f < m → Wf pd m r → upT f (some m) r = none
  | [], _, _, _, _, _ => rfl
  | [(d, none)], f, pd, m, h, w => by
    have : okLo (some m) f = false := by simp [okLo]; omega
    simp [upT, this]
  | (d, none) :: _ :: _, _, _, _, _, w => by simp only [Wf] at w
  | (d, some m') :: r, f, pd, m, h, w => by
    simp only [Wf] at w
    obtain ⟨w1, w2, w3, w4, w5⟩ := w
    have : okLo (some m) f = false := by simp [okLo]; omega
    simp [upT, this, up_above r f d m' (by omega) w5]
/-- what stands ahead of the steps: nothing, or the bound itself -/
def Ah (a : Option Int) (pm : Int) : Prop := a = none ∨ a = some pm
theorem okLo_max {a : Option Int} {lo f : Int} (h : okLo a f = true) (hl : lo ≤ f) : maxO lo a ≤ f := by
  cases a with
  | none => exact hl
  | some x =>
    have : x ≤ f := by simpa [okLo] using h
    rcases (maxO_some lo x).2.2 with e | e <;> omega
theorem under_high : ∀ (l : List Stp) (lo f pd pm : Int) (a : Option Int), Ah a pm → lo ≤ f → Wf pd pm l → under lo (f + 1) a l = under lo f a l + (upT f a l).getD 0
  | [], _, _, _, _, _, _, _, _ => by simp [under, upT]
  | [(d, none)], lo, f, pd, pm, a, ha, hl, w => by
    simp only [under, upT, ltHi, Bool.and_true, minO]
    cases ho : okLo a f with
    | true =>
      have := okLo_max ho hl
      rw [pos0_pos (by omega), pos0_pos (by omega)]
      simp only [if_true, Option.getD_some]
      rw [show f + 1 - maxO lo a = (f - maxO lo a) + 1 by omega, Int.mul_add]
      omega
    | false =>
      cases a with
      | none => simp [okLo] at ho
      | some x =>
        have hx : f < x := by simpa [okLo] using ho
        have := (maxO_some lo x).2.1
        rw [pos0_nonpos (by omega), pos0_nonpos (by omega)]
        simp
  | (d, none) :: _ :: _, _, _, _, _, _, _, _, w => by simp only [Wf] at w
  | (d, some m) :: r, lo, f, pd, pm, a, ha, hl, w => by
    simp only [Wf] at w
    obtain ⟨w1, w2, w3, w4, w5⟩ := w
    unfold under
    have ih := under_high r lo f d m (some m) (.inr rfl) hl w5
    obtain ⟨n1, n2, n3⟩ := minO_some (f + 1) m
    obtain ⟨k1, k2, k3⟩ := minO_some f m
    cases ho : okLo a f with
    | true =>
      have hx := okLo_max ho hl
      by_cases hm : f < m
      · have e1 : minO (f + 1) (some m) = f + 1 := by unfold minO; dsimp only; split <;> omega
        have e2 : minO f (some m) = f := by unfold minO; dsimp only; split <;> omega
        have eu : upT f a ((d, some m) :: r) = some d := by simp [upT, ho, ltHi, hm]
        rw [eu, e1, e2, pos0_pos (by omega), pos0_pos (by omega), under_zero r lo (f + 1) d m (by omega) w5, under_zero r lo f d m (by omega) w5, show f + 1 - maxO lo a = (f - maxO lo a) + 1 by omega, Int.mul_add]
        simp
      · have e1 : minO (f + 1) (some m) = m := by unfold minO; dsimp only; split <;> omega
        have e2 : minO f (some m) = m := by unfold minO; dsimp only; split <;> omega
        have eu : upT f a ((d, some m) :: r) = upT f (some m) r := by simp [upT, ltHi, hm]
        rw [eu, e1, e2, ih]
        omega
    | false =>
      cases a with
      | none => simp [okLo] at ho
      | some x =>
        have hx : f < x := by simpa [okLo] using ho
        have hmx := (maxO_some lo x).2.1
        have exp : x = pm := by
          rcases ha with e | e
          · cases e
          · exact Option.some.inj e
        have eu : upT f (some x) ((d, some m) :: r) = upT f (some m) r := by simp [upT, ho]
        rw [eu, pos0_nonpos (by omega), pos0_nonpos (by omega), ih]
        omega
theorem under_low : ∀ (l : List Stp) (f hi pd pm : Int) (a : Option Int), Ah a pm → f < hi → Wf pd pm l → under f hi a l = under (f + 1) hi a l + (upT f a l).getD 0
  | [], _, _, _, _, _, _, _, _ => by simp [under, upT]
  | [(d, none)], f, hi, pd, pm, a, ha, hl, w => by
    simp only [under, upT, ltHi, Bool.and_true, minO]
    cases a with
    | none =>
      simp only [okLo, maxO, if_true, Option.getD_some]
      rw [pos0_pos (by omega), pos0_pos (by omega), show hi - f = (hi - (f + 1)) + 1 by omega, Int.mul_add]
      omega
    | some x =>
      by_cases hx : x ≤ f
      · have e1 : maxO f (some x) = f := by unfold maxO; dsimp only; split <;> omega
        have e2 : maxO (f + 1) (some x) = f + 1 := by unfold maxO; dsimp only; split <;> omega
        rw [e1, e2, pos0_pos (by omega), pos0_pos (by omega), show hi - f = (hi - (f + 1)) + 1 by omega, Int.mul_add]
        simp [okLo, hx]
      · have e1 : maxO f (some x) = maxO (f + 1) (some x) := by unfold maxO; dsimp only; split <;> split <;> omega
        rw [e1]
        simp [okLo, hx]
  | (d, none) :: _ :: _, _, _, _, _, _, _, _, w => by simp only [Wf] at w
  | (d, some m) :: r, f, hi, pd, pm, a, ha, hl, w => by
    simp only [Wf] at w
    obtain ⟨w1, w2, w3, w4, w5⟩ := w
    unfold under
    have ih := under_low r f hi d m (some m) (.inr rfl) hl w5
    obtain ⟨n1, n2, n3⟩ := minO_some hi m
    cases ho : okLo a f with
    | true =>
      have e1 : maxO f a = f := by
        have := okLo_max ho (Int.le_refl f)
        have := maxO_ge f a
        omega
      have e2 : maxO (f + 1) a = f + 1 := by
        have h1 : okLo a (f + 1) = true := by
          cases a with
          | none => rfl
          | some x =>
            have : x ≤ f := by simpa [okLo] using ho
            simp [okLo]; omega
        have := okLo_max h1 (Int.le_refl (f + 1))
        have := maxO_ge (f + 1) a
        omega
      by_cases hm : f < m
      · have eu : upT f a ((d, some m) :: r) = some d := by simp [upT, ho, ltHi, hm]
        have e3 : f + 1 ≤ minO hi (some m) := by rcases n3 with e | e <;> omega
        rw [eu, e1, e2, pos0_pos (by omega), pos0_pos (by omega), under_lo_above r f hi d m hm w5, show minO hi (some m) - f = (minO hi (some m) - (f + 1)) + 1 by omega, Int.mul_add]
        simp
        omega
      · have eu : upT f a ((d, some m) :: r) = upT f (some m) r := by simp [upT, ltHi, hm]
        rw [eu, e1, e2, pos0_nonpos (by omega), pos0_nonpos (by omega), ih]
        omega
    | false =>
      cases a with
      | none => simp [okLo] at ho
      | some x =>
        have hx : f < x := by simpa [okLo] using ho
        have e1 : maxO f (some x) = maxO (f + 1) (some x) := by unfold maxO; dsimp only; split <;> split <;> omega
        have eu : upT f (some x) ((d, some m) :: r) = upT f (some m) r := by simp [upT, ho]
        rw [eu, e1, ih]
        omega
section
variable {a : Option Int} {l : List Stp}
theorem Good.ah (g : Good a l) : Ah a (a.getD (-1000)) := by
  cases a with
  | none => exact .inl rfl
  | some i => exact .inr rfl
def upD (a : Option Int) (l : List Stp) (f : Int) : Int := (upT f a l).getD 0
theorem energy_succ (g : Good a l) (f : Int) : energy a l (f + 1) = energy a l f + upD a l f := by
  unfold energy upD
  by_cases h1 : begin' a l ≤ f
  · rw [if_pos (by omega), if_pos h1]
    exact under_high l _ f _ _ a g.ah h1 g.wf
  · rw [if_neg h1]
    have h := under_low l f (begin' a l) _ _ a g.ah (by omega) g.wf
    by_cases h2 : begin' a l ≤ f + 1
    · have e : begin' a l = f + 1 := by omega
      rw [if_pos h2]
      rw [e] at h ⊢
      rw [under_same] at h ⊢
      omega
    · rw [if_neg h2]
      omega
theorem energy_begin : energy a l (begin' a l) = 0 := by
  unfold energy
  rw [if_pos (Int.le_refl _), under_same]
end
theorem okLo_some {x f : Int} : okLo (some x) f = decide (x ≤ f) := rfl
theorem okHi_some {x f : Int} : okHi (some x) f = decide (f ≤ x) := rfl
theorem up_exists : ∀ (l : List Stp) (f pd pm : Int) (a : Option Int), (a = none → l ≠ []) → Wf pd pm l → okLo a f = true → okHi (lastM a l) (f + 1) = true → ∃ d, upT f a l = some d
  | [], f, pd, pm, a, hn, w, h1, h2 => by
    cases a with
    | none => exact absurd rfl (hn rfl)
    | some x =>
      simp only [lastM, List.getLast?_nil, okLo_some, okHi_some, decide_eq_true_eq] at h1 h2
      omega
  | [(d, none)], f, pd, pm, a, hn, w, h1, h2 => ⟨d, by simp [upT, h1, ltHi]⟩
  | (d, none) :: _ :: _, _, _, _, _, _, w, _, _ => by simp only [Wf] at w
  | (d, some m) :: r, f, pd, pm, a, hn, w, h1, h2 => by
    simp only [Wf] at w
    by_cases hm : f < m
    · exact ⟨d, by simp [upT, h1, ltHi, hm]⟩
    · have eu : upT f a ((d, some m) :: r) = upT f (some m) r := by simp [upT, ltHi, hm]
      rw [eu]
      rw [lastM_cons] at h2
      exact up_exists r f d m (some m) (fun z => by cases z) w.2.2.2.2 (by rw [okLo_some]; exact decide_eq_true (by omega)) h2
theorem up_mem : ∀ (l : List Stp) (f : Int) (a : Option Int) (d : Int), upT f a l = some d → ∃ x ∈ l, x.1 = d
  | [], _, _, _, h => by cases h
  | (s, m) :: r, f, a, d, h => by
    unfold upT at h
    split at h
    · cases h; exact ⟨_, List.mem_cons_self .., rfl⟩
    · obtain ⟨x, h1, h2⟩ := up_mem r f m d h
      exact ⟨x, List.mem_cons_of_mem _ h1, h2⟩
theorem up_ge : ∀ (l : List Stp) (f pd pm : Int) (a : Option Int) (u : Int), -1000 ≤ pd → Wf pd pm l → upT f a l = some u → pd < u := fun l f pd pm a u hp w h => by
  obtain ⟨x, h1, h2⟩ := up_mem l f a u h
  have := wf_drops l pd pm hp w x h1
  omega
theorem up_lo : ∀ (l : List Stp) (f pd pm m : Int) (u : Int), Wf pd m l → upT f (some m) l = some u → m ≤ f := fun l f pd pm m u w h => by
  by_cases hm : m ≤ f
  · exact hm
  · rw [up_above l f pd m (by omega) w] at h; cases h

/-- what the flows at a drop are -/
structure Fl (d : Int) (a : Option Int) (l : List Stp) (L U : Option Int) : Prop where
  ge : ∀ f u, upT f a l = some u → okLo L f = true → d ≤ u
  lt : ∀ f u, upT f a l = some u → okLo L f = false → u < d
  le : ∀ f u, upT f a l = some u → ltHi U f = true → u ≤ d
  gt : ∀ f u, upT f a l = some u → ltHi U f = false → d < u
  lu : ∀ x y, L = some x → U = some y → x ≤ y
  al : ∀ x, a = some x → (∃ y, L = some y ∧ x ≤ y) ∧ ∀ z, U = some z → x ≤ z
  ul : ∀ z, lastM a l = some z → (∃ y, U = some y ∧ y ≤ z) ∧ ∀ x, L = some x → x ≤ z
theorem wf_last : ∀ (l : List Stp) (pd pm : Int), Wf pd pm l → ∀ z, lastM (some pm) l = some z → pm ≤ z
  | [], pd, pm, w, z, h => by simp only [lastM, List.getLast?_nil] at h; cases h; exact Int.le_refl _
  | [(d, none)], pd, pm, w, z, h => by simp [lastM] at h
  | (d, none) :: _ :: _, _, _, w, _, _ => by simp only [Wf] at w
  | (d, some m) :: r, pd, pm, w, z, h => by
    simp only [Wf] at w
    rw [lastM_cons] at h
    have := wf_last r d m w.2.2.2.2 z h
    omega
theorem flows_facts (d : Int) : ∀ (l : List Stp) (pd pm : Int) (a : Option Int), -1000 ≤ pd → Ah a pm → Wf pd pm l → (a = none → ∀ x, l.head? = some x → x.1 ≤ d) → (∀ x, l.getLast? = some (x, none) → d ≤ x) → (a = none → l ≠ []) →
    Fl d a l (goF d a l).1 (goF d a l).2
  | [], pd, pm, a, hp, ha, w, hf, hl, hn => by
    cases a with
    | none => exact absurd rfl (hn rfl)
    | some x =>
      refine ⟨fun f u h => (by cases h), fun f u h => (by cases h), fun f u h => (by cases h), fun f u h => (by cases h), fun x y h1 h2 => ?_, fun y h => ⟨⟨y, h, Int.le_refl _⟩, fun z hz => ?_⟩, fun z h => ⟨⟨z, h, Int.le_refl _⟩, fun x hx => ?_⟩⟩
      · simp only [goF] at h1 h2; cases h1; cases h2; exact Int.le_refl _
      · simp only [goF] at hz; cases h; cases hz; exact Int.le_refl _
      · simp only [goF] at hx; simp only [lastM, List.getLast?_nil] at h; cases h; cases hx; exact Int.le_refl _
  | [(s, none)], pd, pm, a, hp, ha, w, hf, hl, hn => by
    have hle : d ≤ s := hl s rfl
    by_cases h1 : d < s
    · cases a with
      | none => have : s ≤ d := hf rfl (s, none) rfl; omega
      | some x =>
        have e : goF d (some x) [(s, none)] = (some x, some x) := by simp [goF, h1]
        rw [e]
        have hu : ∀ f u, upT f (some x) [(s, none)] = some u → u = s ∧ x ≤ f := fun f u h => by
          simp only [upT, ltHi, Bool.and_true] at h
          split at h
          · rename_i ho
            cases h
            exact ⟨rfl, by simpa [okLo] using ho⟩
          · cases h
        refine ⟨fun f u h _ => by have := hu f u h; omega, fun f u h ho => ?_, fun f u h ho => ?_, fun f u h _ => by have := hu f u h; omega, fun x' y' e1 e2 => by cases e1; cases e2; exact Int.le_refl _,
          fun y h => ⟨⟨x, rfl, by cases h; exact Int.le_refl _⟩, fun z hz => by cases h; cases hz; exact Int.le_refl _⟩, fun z h => (by simp [lastM] at h)⟩
        · have := hu f u h
          simp only [okLo_some, decide_eq_false_iff_not] at ho
          omega
        · have := hu f u h
          simp only [ltHi, decide_eq_true_eq] at ho
          omega
    · have hs : d = s := by omega
      subst hs
      have e : goF d a [(d, none)] = (a, none) := by simp [goF]
      rw [e]
      have hu : ∀ f u, upT f a [(d, none)] = some u → u = d ∧ okLo a f = true := fun f u h => by
        simp only [upT, ltHi, Bool.and_true] at h
        split at h
        · rename_i ho; cases h; exact ⟨rfl, ho⟩
        · cases h
      refine ⟨fun f u h _ => by have := hu f u h; omega, fun f u h ho => ?_, fun f u h _ => by have := hu f u h; omega, fun f u h ho => (by simp [ltHi] at ho), fun x' y' e1 e2 => (by cases e2),
        fun y h => ⟨⟨y, h, Int.le_refl _⟩, fun z hz => by cases hz⟩, fun z h => (by simp [lastM] at h)⟩
      have := (hu f u h).2
      rw [ho] at this; cases this
  | (s, none) :: _ :: _, _, _, _, _, _, w, _, _, _ => by simp only [Wf] at w
  | (s, some m) :: r, pd, pm, a, hp, ha, w, hf, hl, hn => by
    simp only [Wf] at w
    obtain ⟨w1, w2, w3, w4, w5⟩ := w
    have hrd : ∀ f u, upT f (some m) r = some u → s < u ∧ m ≤ f := fun f u h => ⟨up_ge r f s m (some m) u (by omega) w5 h, up_lo r f s m m u w5 h⟩
    have hup : ∀ f u, upT f a ((s, some m) :: r) = some u → (u = s ∧ okLo a f = true ∧ f < m) ∨ (upT f (some m) r = some u) := fun f u h => by
      unfold upT at h
      split at h
      · rename_i ho
        cases h
        rw [Bool.and_eq_true] at ho
        exact .inl ⟨rfl, ho.1, by simpa [ltHi] using ho.2⟩
      · exact .inr h
    have hlast : ∀ z, lastM a ((s, some m) :: r) = some z → m ≤ z := fun z h => by rw [lastM_cons] at h; exact wf_last r s m w5 z h
    by_cases h1 : d < s
    · cases a with
      | none => have : s ≤ d := hf rfl _ rfl; omega
      | some x =>
        have exp : x = pm := by
          rcases ha with e | e
          · cases e
          · exact Option.some.inj e
        have e : goF d (some x) ((s, some m) :: r) = (some x, some x) := by simp [goF, h1]
        rw [e]
        have hu : ∀ f u, upT f (some x) ((s, some m) :: r) = some u → s ≤ u ∧ x ≤ f := fun f u h => by
          rcases hup f u h with ⟨q1, q2, q3⟩ | q
          · exact ⟨by omega, by simpa [okLo] using q2⟩
          · have := hrd f u q; omega
        refine ⟨fun f u h _ => by have := hu f u h; omega, fun f u h ho => ?_, fun f u h ho => ?_, fun f u h _ => by have := hu f u h; omega, fun x' y' e1 e2 => by cases e1; cases e2; exact Int.le_refl _,
          fun y h => ⟨⟨x, rfl, by cases h; exact Int.le_refl _⟩, fun z hz => by cases h; cases hz; exact Int.le_refl _⟩, fun z h => ?_⟩
        · have := hu f u h
          simp only [okLo_some, decide_eq_false_iff_not] at ho
          omega
        · have := hu f u h
          simp only [ltHi, decide_eq_true_eq] at ho
          omega
        · have := hlast z h
          exact ⟨⟨x, rfl, by omega⟩, fun y hy => by cases hy; omega⟩
    · by_cases h2 : d = s
      · subst h2
        have e : goF d a ((d, some m) :: r) = (a, some m) := by simp [goF]
        rw [e]
        refine ⟨fun f u h _ => ?_, fun f u h ho => ?_, fun f u h ho => ?_, fun f u h ho => ?_, fun x y e1 e2 => ?_, fun y h => ⟨⟨y, h, Int.le_refl _⟩, fun z hz => ?_⟩, fun z h => ?_⟩
        · rcases hup f u h with ⟨q1, q2, q3⟩ | q
          · omega
          · have := hrd f u q; omega
        · rcases hup f u h with ⟨q1, q2, q3⟩ | q
          · rw [ho] at q2; cases q2
          · have h3 := hrd f u q
            rcases ha with e1 | e1
            · subst e1; simp [okLo] at ho
            · subst e1
              simp only [okLo_some, decide_eq_false_iff_not] at ho
              omega
        · rcases hup f u h with ⟨q1, q2, q3⟩ | q
          · omega
          · have h3 := hrd f u q
            simp only [ltHi, decide_eq_true_eq] at ho
            omega
        · rcases hup f u h with ⟨q1, q2, q3⟩ | q
          · simp only [ltHi, decide_eq_false_iff_not] at ho
            omega
          · have h3 := hrd f u q; omega
        · rcases ha with e3 | e3
          · rw [e3] at e1; cases e1
          · rw [e3] at e1; cases e1; cases e2; omega
        · rcases ha with e3 | e3
          · rw [e3] at h; cases h
          · rw [e3] at h; cases h; cases hz; omega
        · have := hlast z h
          refine ⟨⟨m, rfl, this⟩, fun y hy => ?_⟩
          rcases ha with e3 | e3
          · rw [e3] at hy; cases hy
          · rw [e3] at hy; cases hy; omega
      · have e : goF d a ((s, some m) :: r) = goF d (some m) r := by simp [goF, h1, h2]
        rw [e]
        have ih := flows_facts d r s m (some m) (by omega) (.inr rfl) w5 (fun z => by cases z) (fun x hx => hl x (by
          cases r with
          | nil => cases hx
          | cons y z => rw [List.getLast?_cons_cons]; exact hx)) (fun z => by cases z)
        obtain ⟨⟨y0, hy0, hmy⟩, hU⟩ := ih.al m rfl
        have hLo : ∀ f, f < m → okLo (goF d (some m) r).1 f = false := fun f hfm => by rw [hy0, okLo_some]; exact decide_eq_false (by omega)
        have hHi : ∀ f, f < m → ltHi (goF d (some m) r).2 f = true := fun f hfm => by
          cases hz : (goF d (some m) r).2 with
          | none => rfl
          | some z => have := hU z hz; simp only [ltHi]; exact decide_eq_true (by omega)
        refine ⟨fun f u h ho => ?_, fun f u h ho => ?_, fun f u h ho => ?_, fun f u h ho => ?_, ih.lu, fun y h => ⟨⟨y0, hy0, ?_⟩, fun z hz => ?_⟩, fun z h => ?_⟩
        · rcases hup f u h with ⟨q1, q2, q3⟩ | q
          · rw [hLo f q3] at ho; cases ho
          · exact ih.ge f u q ho
        · rcases hup f u h with ⟨q1, q2, q3⟩ | q
          · omega
          · exact ih.lt f u q ho
        · rcases hup f u h with ⟨q1, q2, q3⟩ | q
          · omega
          · exact ih.le f u q ho
        · rcases hup f u h with ⟨q1, q2, q3⟩ | q
          · rw [hHi f q3] at ho; cases ho
          · exact ih.gt f u q ho
        · rcases ha with e3 | e3
          · rw [e3] at h; cases h
          · rw [e3] at h; cases h; omega
        · have := hU z hz
          rcases ha with e3 | e3
          · rw [e3] at h; cases h
          · rw [e3] at h; cases h; omega
        · rw [lastM_cons] at h; exact ih.ul z h
theorem Good.fl {a : Option Int} {l : List Stp} (g : Good a l) {d : Int} (hd : isLet (dropEnds a l) d = true) : Fl d a l (goF d a l).1 (goF d a l).2 := by
  unfold isLet dropEnds at hd
  rw [Bool.and_eq_true] at hd
  obtain ⟨h1, h2⟩ := hd
  refine flows_facts d l _ _ a (by decide) g.ah g.wf (fun ha x hx => ?_) (fun x hx => ?_) g.ne
  · subst ha
    rw [hx] at h1
    simpa [okLo] using h1
  · rw [hx] at h2
    simpa [okHi] using h2
theorem near_in {L U : Option Int} (h : ∀ x y, L = some x → U = some y → x ≤ y) : okLo L (nearT L U) = true ∧ okHi U (nearT L U) = true := by
  cases L with
  | none =>
    cases U with
    | none => exact ⟨rfl, rfl⟩
    | some u => refine ⟨rfl, ?_⟩; simp only [nearT, nearHi, okHi_some]; split <;> exact decide_eq_true (by omega)
  | some x =>
    cases U with
    | none => refine ⟨?_, rfl⟩; simp only [nearT, nearHi, okLo_some]; split <;> exact decide_eq_true (by omega)
    | some u =>
      have := h x u rfl rfl
      simp only [nearT, nearHi, okLo_some, okHi_some, decide_eq_true_eq]
      split
      · omega
      · split <;> omega
theorem goF_bd (d : Int) : ∀ (l : List Stp) (pd pm : Int) (a : Option Int), -1000 ≤ pm → pm ≤ 999 → Ah a pm → Wf pd pm l → (∀ x, (goF d a l).1 = some x → -1000 ≤ x ∧ x ≤ 999) ∧ (∀ x, (goF d a l).2 = some x → -1000 ≤ x ∧ x ≤ 999)
  | [], pd, pm, a, h1, h2, ha, w => by
    have : ∀ x, a = some x → -1000 ≤ x ∧ x ≤ 999 := fun x h => by
      rcases ha with e | e <;> rw [e] at h <;> cases h
      omega
    exact ⟨this, this⟩
  | [(s, none)], pd, pm, a, h1, h2, ha, w => by
    have : ∀ x, a = some x → -1000 ≤ x ∧ x ≤ 999 := fun x h => by
      rcases ha with e | e <;> rw [e] at h <;> cases h
      omega
    unfold goF
    split
    · exact ⟨this, this⟩
    · split
      · exact ⟨this, fun x h => by cases h⟩
      · simp only [goF]; exact ⟨fun x h => (by cases h), fun x h => by cases h⟩
  | (s, none) :: _ :: _, _, _, _, _, _, _, w => by simp only [Wf] at w
  | (s, some m) :: r, pd, pm, a, h1, h2, ha, w => by
    simp only [Wf] at w
    obtain ⟨w1, w2, w3, w4, w5⟩ := w
    have : ∀ x, a = some x → -1000 ≤ x ∧ x ≤ 999 := fun x h => by
      rcases ha with e | e <;> rw [e] at h <;> cases h
      omega
    unfold goF
    split
    · exact ⟨this, this⟩
    · split
      · exact ⟨this, fun x h => by cases h; omega⟩
      · exact goF_bd d r s m (some m) (by omega) w4 (.inr rfl) w5
section
variable {a : Option Int} {l : List Stp}
theorem Good.pm (g : Good a l) : -1000 ≤ a.getD (-1000) ∧ a.getD (-1000) ≤ 999 := by
  cases a with
  | none => decide
  | some i => have := g.lo i rfl; simp; omega
theorem Good.bd (g : Good a l) (d : Int) : (∀ x, (goF d a l).1 = some x → -1000 ≤ x ∧ x ≤ 999) ∧ (∀ x, (goF d a l).2 = some x → -1000 ≤ x ∧ x ≤ 999) := goF_bd d l _ _ a g.pm.1 g.pm.2 g.ah g.wf
theorem near_bd {L U : Option Int} (h1 : ∀ x, L = some x → -1000 ≤ x ∧ x ≤ 999) (h2 : ∀ x, U = some x → -1000 ≤ x ∧ x ≤ 999) : -1000 ≤ nearT L U ∧ nearT L U ≤ 999 := by
  have hU : -1000 ≤ nearHi U ∧ nearHi U ≤ 999 := by
    cases U with
    | none => decide
    | some u => have := h2 u rfl; simp only [nearHi]; split <;> omega
  cases L with
  | none => exact hU
  | some x => have := h1 x rfl; simp only [nearT]; split <;> omega
/-- the last bound is small -/
theorem last_bd : ∀ (l : List Stp) (pd pm : Int) (a : Option Int), -1000 ≤ pm → pm ≤ 999 → Ah a pm → Wf pd pm l → ∀ x, lastM a l = some x → -1000 ≤ x ∧ x ≤ 999
  | [], pd, pm, a, h1, h2, ha, w, x, h => by
    simp only [lastM, List.getLast?_nil] at h
    rcases ha with e | e <;> rw [e] at h <;> cases h
    omega
  | [(d, none)], pd, pm, a, h1, h2, ha, w, x, h => by simp [lastM] at h
  | (d, none) :: _ :: _, _, _, _, _, _, _, w, _, _ => by simp only [Wf] at w
  | (d, some m) :: r, pd, pm, a, h1, h2, ha, w, x, h => by
    simp only [Wf] at w
    rw [lastM_cons] at h
    exact last_bd r d m (some m) (by omega) w.2.2.2.1 (.inr rfl) w.2.2.2.2 x h
theorem Good.last (g : Good a l) : ∀ x, lastM a l = some x → -1000 ≤ x ∧ x ≤ 999 := last_bd l _ _ a g.pm.1 g.pm.2 g.ah g.wf
theorem Good.alo (g : Good a l) : ∀ x, a = some x → -1000 ≤ x ∧ x ≤ 999 := fun x h => by have := g.lo x h; omega
theorem Good.ends (g : Good a l) : ∀ x y, a = some x → lastM a l = some y → x ≤ y := fun x y h1 h2 => by
  subst h1
  exact wf_last l _ _ g.wf y h2
theorem begin_let (g : Good a l) : isLet (a, lastM a l) (begin' a l) = true := by
  obtain ⟨h1, h2⟩ := near_in g.ends
  unfold isLet begin'
  rw [h1, h2]
  rfl
theorem begin_bd (g : Good a l) : -1000 ≤ begin' a l ∧ begin' a l ≤ 999 := near_bd g.alo g.last
theorem let_iff {e : Option Int × Option Int} {f : Int} : isLet e f = true ↔ okLo e.1 f = true ∧ okHi e.2 f = true := by unfold isLet; rw [Bool.and_eq_true]
theorem star_in (g : Good a l) {d : Int} (hd : isLet (dropEnds a l) d = true) : okLo (goF d a l).1 (starF a l d) = true ∧ okHi (goF d a l).2 (starF a l d) = true := near_in (g.fl hd).lu
theorem okLo_of {b : Option Int} {f : Int} (h : ∀ x, b = some x → x ≤ f) : okLo b f = true := by
  cases b with
  | none => rfl
  | some x => exact decide_eq_true (h x rfl)
theorem okHi_of {b : Option Int} {f : Int} (h : ∀ x, b = some x → f ≤ x) : okHi b f = true := by
  cases b with
  | none => rfl
  | some x => exact decide_eq_true (h x rfl)
theorem star_let (g : Good a l) {d : Int} (hd : isLet (dropEnds a l) d = true) : isLet (a, lastM a l) (starF a l d) = true := by
  obtain ⟨h1, h2⟩ := star_in g hd
  have F := g.fl hd
  refine let_iff.mpr ⟨okLo_of fun x ha => ?_, okHi_of fun z hz => ?_⟩
  · obtain ⟨⟨y, hy, hxy⟩, _⟩ := F.al x ha
    rw [hy, okLo_some, decide_eq_true_eq] at h1
    omega
  · obtain ⟨⟨y, hy, hyz⟩, _⟩ := F.ul z hz
    rw [hy, okHi_some, decide_eq_true_eq] at h2
    omega
theorem star_bd (g : Good a l) (d : Int) : -1000 ≤ starF a l d ∧ starF a l d ≤ 999 := near_bd (g.bd d).1 (g.bd d).2
/-- the gain of a flow at a drop -/
def gain (a : Option Int) (l : List Stp) (d f : Int) : Int := d * f - energy a l f
theorem gain_succ (g : Good a l) (d f : Int) : gain a l d (f + 1) = gain a l d f + (d - upD a l f) := by
  unfold gain
  rw [energy_succ g, Int.mul_add]
  omega
theorem okLo_mono {b : Option Int} {f f' : Int} (h : okLo b f = true) (hf : f ≤ f') : okLo b f' = true := by
  cases b with
  | none => rfl
  | some x => rw [okLo_some, decide_eq_true_eq] at h ⊢; omega
theorem okHi_mono {b : Option Int} {f f' : Int} (h : okHi b f = true) (hf : f' ≤ f) : okHi b f' = true := by
  cases b with
  | none => rfl
  | some x => rw [okHi_some, decide_eq_true_eq] at h ⊢; omega
theorem hi_lt (b : Option Int) (f : Int) : okHi b (f + 1) = ltHi b f := by
  cases b with
  | none => rfl
  | some x => simp only [okHi, ltHi]; congr 1
theorem gain_up (g : Good a l) {d : Int} (hd : isLet (dropEnds a l) d = true) : ∀ n : Nat, isLet (a, lastM a l) (starF a l d + n) = true →
    gain a l d (starF a l d + n) ≤ gain a l d (starF a l d) ∧ (gain a l d (starF a l d + n) = gain a l d (starF a l d) ↔ okHi (goF d a l).2 (starF a l d + n) = true)
  | 0, _ => by
    have := (star_in g hd).2
    simp [this]
  | n + 1, h => by
    have F := g.fl hd
    obtain ⟨h1, h2⟩ := let_iff.mp h
    have e : starF a l d + ((n + 1 : Nat) : Int) = (starF a l d + n) + 1 := by omega
    rw [e] at h1 h2 ⊢
    have hs := let_iff.mp (star_let g hd)
    have hl : isLet (a, lastM a l) (starF a l d + n) = true := let_iff.mpr ⟨okLo_mono hs.1 (by omega), okHi_mono h2 (by omega)⟩
    obtain ⟨i1, i2⟩ := gain_up g hd n hl
    obtain ⟨u, hu⟩ := up_exists l (starF a l d + n) _ _ a g.ne g.wf (let_iff.mp hl).1 h2
    have hud : upD a l (starF a l d + n) = u := by unfold upD; rw [hu]; rfl
    have hge := F.ge _ u hu (okLo_mono (star_in g hd).1 (by omega))
    rw [gain_succ g, hud, hi_lt]
    cases hlt : ltHi (goF d a l).2 (starF a l d + n) with
    | true =>
      have := F.le _ u hu hlt
      have e2 : okHi (goF d a l).2 (starF a l d + n) = true := by rw [← hi_lt] at hlt; exact okHi_mono hlt (by omega)
      have := i2.mpr e2
      exact ⟨by omega, ⟨fun _ => rfl, fun _ => by omega⟩⟩
    | false =>
      have := F.gt _ u hu hlt
      exact ⟨by omega, ⟨fun _ => by omega, fun z => by cases z⟩⟩
theorem gain_down (g : Good a l) {d : Int} (hd : isLet (dropEnds a l) d = true) : ∀ n : Nat, isLet (a, lastM a l) (starF a l d - n) = true →
    gain a l d (starF a l d - n) ≤ gain a l d (starF a l d) ∧ (gain a l d (starF a l d - n) = gain a l d (starF a l d) ↔ okLo (goF d a l).1 (starF a l d - n) = true)
  | 0, _ => by
    have := (star_in g hd).1
    simp [this]
  | n + 1, h => by
    have F := g.fl hd
    obtain ⟨h1, h2⟩ := let_iff.mp h
    have e : starF a l d - ((n + 1 : Nat) : Int) = (starF a l d - n) - 1 := by omega
    rw [e] at h1 h2 ⊢
    have hs := let_iff.mp (star_let g hd)
    have hl : isLet (a, lastM a l) (starF a l d - n) = true := let_iff.mpr ⟨okLo_mono h1 (by omega), okHi_mono hs.2 (by omega)⟩
    obtain ⟨i1, i2⟩ := gain_down g hd n hl
    have e3 : (starF a l d - n) - 1 + 1 = starF a l d - n := by omega
    obtain ⟨u, hu⟩ := up_exists l (starF a l d - n - 1) _ _ a g.ne g.wf h1 (by rw [e3]; exact (let_iff.mp hl).2)
    have hud : upD a l (starF a l d - n - 1) = u := by unfold upD; rw [hu]; rfl
    have hgs := gain_succ g d (starF a l d - n - 1)
    rw [e3, hud] at hgs
    have hlt : ltHi (goF d a l).2 (starF a l d - n - 1) = true := by
      rw [← hi_lt, e3]
      exact okHi_mono (star_in g hd).2 (by omega)
    have hle := F.le _ u hu hlt
    cases ho : okLo (goF d a l).1 (starF a l d - n - 1) with
    | true =>
      have := F.ge _ u hu ho
      have e2 : okLo (goF d a l).1 (starF a l d - n) = true := okLo_mono ho (by omega)
      have := i2.mpr e2
      exact ⟨by omega, ⟨fun _ => rfl, fun _ => by omega⟩⟩
    | false =>
      have := F.lt _ u hu ho
      exact ⟨by omega, ⟨fun _ => by omega, fun z => by cases z⟩⟩
theorem gain_le (g : Good a l) {d : Int} (hd : isLet (dropEnds a l) d = true) (f : Int) (hf : isLet (a, lastM a l) f = true) : gain a l d f ≤ worth a l d ∧ (gain a l d f = worth a l d ↔ isLet (goF d a l) f = true) := by
  have ew : worth a l d = gain a l d (starF a l d) := rfl
  rw [ew]
  by_cases h : starF a l d ≤ f
  · have e : f = starF a l d + ((f - starF a l d).toNat : Nat) := by omega
    have := gain_up g hd (f - starF a l d).toNat (by rw [← e]; exact hf)
    rw [← e] at this
    refine ⟨this.1, this.2.trans ?_⟩
    have hlo : okLo (goF d a l).1 f = true := okLo_mono (star_in g hd).1 h
    unfold isLet
    rw [hlo]
    simp
  · have e : f = starF a l d - ((starF a l d - f).toNat : Nat) := by omega
    have := gain_down g hd (starF a l d - f).toNat (by rw [← e]; exact hf)
    rw [← e] at this
    refine ⟨this.1, this.2.trans ?_⟩
    have hhi : okHi (goF d a l).2 f = true := okHi_mono (star_in g hd).2 (by omega)
    unfold isLet
    rw [hhi]
    simp
end
section
variable {a : Option Int} {l : List Stp}
theorem upD_bd (g : Good a l) (f : Int) : -1000 ≤ upD a l f ∧ upD a l f ≤ 1000 := by
  unfold upD
  cases h : upT f a l with
  | none => simp
  | some u =>
    obtain ⟨x, h1, h2⟩ := up_mem l f a u h
    have := wf_drops l _ _ (by decide) g.wf x h1
    simp
    omega
theorem energy_bd_up (g : Good a l) : ∀ n : Nat, -1000 * n ≤ energy a l (begin' a l + n) ∧ energy a l (begin' a l + n) ≤ 1000 * n
  | 0 => by simp [energy_begin]
  | n + 1 => by
    have ih := energy_bd_up g n
    have := upD_bd g (begin' a l + n)
    have e : begin' a l + ((n + 1 : Nat) : Int) = begin' a l + n + 1 := by omega
    rw [e, energy_succ g]
    omega
theorem energy_bd_down (g : Good a l) : ∀ n : Nat, -1000 * n ≤ energy a l (begin' a l - n) ∧ energy a l (begin' a l - n) ≤ 1000 * n
  | 0 => by simp [energy_begin]
  | n + 1 => by
    have ih := energy_bd_down g n
    have hb := upD_bd g (begin' a l - n - 1)
    have e : begin' a l - ((n + 1 : Nat) : Int) = begin' a l - n - 1 := by omega
    have hs := energy_succ g (begin' a l - n - 1)
    have e1 : begin' a l - (n : Int) - 1 + 1 = begin' a l - n := by omega
    rw [e1] at hs
    rw [e]
    omega
end
end TW

/-! TW_N: nets, plain: what comes, costs and worths. -/
namespace TW

abbrev Stair := Option Int × List Stp
structure Pipe where
  near : Nat
  far : Nat
  st : Stair
structure Net where
  hs : List (Option Int)
  ps : List Pipe
def GoodS (s : Stair) : Prop := Good s.1 s.2
structure GoodN (n : Net) : Prop where
  hs : ∀ x ∈ n.hs, ∀ i, x = some i → -999 ≤ i ∧ i ≤ 999
  len1 : 1 ≤ n.hs.length
  len2 : n.hs.length ≤ 12
  pl : n.ps.length ≤ 24
  near : ∀ p ∈ n.ps, p.near < n.hs.length
  far : ∀ p ∈ n.ps, p.far < n.hs.length
  ne : ∀ p ∈ n.ps, p.near ≠ p.far
  st : ∀ p ∈ n.ps, GoodS p.st
/-- what comes to a place -/
def comesT : List Pipe → List Int → Nat → Int
  | p :: ps, f :: fs, i => (if p.far = i then f else 0) - (if p.near = i then f else 0) + comesT ps fs i
  | _, _, _ => 0
def flowEnds (s : Stair) : Option Int × Option Int := (s.1, lastM s.1 s.2)
def dropE (s : Stair) : Option Int × Option Int := dropEnds s.1 s.2
def hgt (hs : List Int) (i : Nat) : Int := hs[i]?.getD 0
def dropP (hs : List Int) (p : Pipe) : Int := hgt hs p.near - hgt hs p.far
def enF (s : Stair) (f : Int) : Int := energy s.1 s.2 f
def woD (s : Stair) (d : Int) : Int := worth s.1 s.2 d
def flIn (s : Stair) (d : Int) : Option Int × Option Int := goF d s.1 s.2
/-- whether a drop and a flow are on a stair -/
def onSt (s : Stair) (d f : Int) : Bool := isLet (dropE s) d && isLet (flIn s d) f
def eSum : List Pipe → List Int → Int
  | p :: ps, f :: fs => enF p.st f + eSum ps fs
  | _, _ => 0
def sprSum (g : Nat → Int) : List (Option Int) → Nat → Int
  | [], _ => 0
  | none :: r, k => sprSum g r (k + 1)
  | some H :: r, k => H * g k + sprSum g r (k + 1)
def wSum (hs : List Int) : List Pipe → Int
  | [] => 0
  | p :: ps => woD p.st (dropP hs p) + wSum hs ps
def dotD : List Int → List Int → Int
  | q :: qs, h :: hs => q * h + dotD qs hs
  | _, _ => 0
def cost (n : Net) (fs : List Int) : Int := eSum n.ps fs + sprSum (comesT n.ps fs) n.hs 0
def value (n : Net) (qs hs : List Int) : Int := - dotD qs hs - wSum hs n.ps
/-- draws of flows: 0 at springs -/
def drawsF (g : Nat → Int) : List (Option Int) → Nat → List Int
  | [], _ => []
  | none :: r, k => g k :: drawsF g r (k + 1)
  | some _ :: r, k => 0 :: drawsF g r (k + 1)
/-- heights that agree with springs -/
def Agree : List (Option Int) → List Int → Prop
  | [], [] => True
  | none :: r, _ :: hs => Agree r hs
  | some H :: r, h :: hs => h = H ∧ Agree r hs
  | _, _ => False
def dot (g : Nat → Int) : List Int → Nat → Int
  | [], _ => 0
  | h :: hs, k => h * g k + dot g hs (k + 1)
theorem dot_add (g g' : Nat → Int) : ∀ (hs : List Int) (k : Nat), dot (fun i => g i + g' i) hs k = dot g hs k + dot g' hs k
  | [], _ => rfl
  | h :: hs, k => by simp only [dot, dot_add g g' hs (k + 1), Int.mul_add]; omega
theorem dot_sub (g g' : Nat → Int) : ∀ (hs : List Int) (k : Nat), dot (fun i => g i - g' i) hs k = dot g hs k - dot g' hs k
  | [], _ => rfl
  | h :: hs, k => by simp only [dot, dot_sub g g' hs (k + 1), Int.mul_sub]; omega
theorem dot_zero : ∀ (hs : List Int) (k : Nat), dot (fun _ => 0) hs k = 0
  | [], _ => rfl
  | h :: hs, k => by simp only [dot, dot_zero hs (k + 1)]; omega
theorem dot_low (j : Nat) (f : Int) : ∀ (hs : List Int) (k : Nat), j < k → dot (fun i => if j = i then f else 0) hs k = 0
  | [], _, _ => rfl
  | h :: hs, k, hk => by simp only [dot, dot_low j f hs (k + 1) (by omega)]; rw [if_neg (by omega)]; omega
theorem dot_delta (f : Int) : ∀ (hs : List Int) (k j : Nat), dot (fun i => if k + j = i then f else 0) hs k = f * hgt hs j
  | [], _, _ => by simp [dot, hgt]
  | h :: hs, k, 0 => by
    simp only [dot]
    rw [if_pos (by omega), dot_low (k + 0) f hs (k + 1) (by omega)]
    simp [hgt, Int.mul_comm]
  | h :: hs, k, j + 1 => by
    have := dot_delta f hs (k + 1) j
    simp only [dot]
    rw [if_neg (by omega)]
    rw [show k + (j + 1) = k + 1 + j by omega, this]
    simp [hgt]
theorem dot_delta0 (f : Int) (hs : List Int) (j : Nat) : dot (fun i => if j = i then f else 0) hs 0 = f * hgt hs j := by
  have := dot_delta f hs 0 j
  rw [Nat.zero_add] at this
  exact this
/-- drops times flows -/
def fdSum (hs : List Int) : List Pipe → List Int → Int
  | p :: ps, f :: fs => f * dropP hs p + fdSum hs ps fs
  | _, _ => 0
theorem dot_comes (hs : List Int) : ∀ (ps : List Pipe) (fs : List Int), dot (comesT ps fs) hs 0 = - fdSum hs ps fs
  | [], fs => by
    have e : comesT [] fs = fun _ => 0 := by funext i; cases fs <;> rfl
    rw [e, dot_zero]; cases fs <;> rfl
  | p :: ps, [] => by
    have e : comesT (p :: ps) [] = fun _ => 0 := by funext i; rfl
    rw [e, dot_zero]; rfl
  | p :: ps, f :: fs => by
    have e : comesT (p :: ps) (f :: fs) = fun i => (fun i => (fun i => if p.far = i then f else 0) i - (fun i => if p.near = i then f else 0) i) i + comesT ps fs i := by funext i; rfl
    rw [e, dot_add, dot_sub, dot_delta0, dot_delta0, dot_comes hs ps fs]
    simp only [fdSum, dropP, Int.mul_sub]
    omega
theorem spr_dot (g : Nat → Int) : ∀ (ho : List (Option Int)) (hs : List Int) (k : Nat), Agree ho hs → sprSum g ho k + dotD (drawsF g ho k) hs = dot g hs k
  | [], [], _, _ => rfl
  | none :: r, h :: hs, k, ag => by
    have := spr_dot g r hs (k + 1) ag
    simp only [sprSum, drawsF, dotD, dot]
    have e : g k * h = h * g k := Int.mul_comm _ _
    omega
  | some H :: r, h :: hs, k, ag => by
    have := spr_dot g r hs (k + 1) ag.2
    simp only [sprSum, drawsF, dotD, dot]
    rw [ag.1]
    omega
/-- what each pipe's energy and worth are above the drop times the flow -/
def slack (hs : List Int) : List Pipe → List Int → Int
  | p :: ps, f :: fs => (woD p.st (dropP hs p) + enF p.st f - f * dropP hs p) + slack hs ps fs
  | _, _ => 0
theorem slack_eq (hs : List Int) : ∀ (ps : List Pipe) (fs : List Int), ps.length = fs.length → slack hs ps fs = eSum ps fs + wSum hs ps - fdSum hs ps fs
  | [], [], _ => rfl
  | p :: ps, f :: fs, h => by
    have := slack_eq hs ps fs (by simpa using h)
    simp only [slack, eSum, wSum, fdSum]
    omega
theorem cost_value (n : Net) (fs hs : List Int) (hl : n.ps.length = fs.length) (ag : Agree n.hs hs) : cost n fs - value n (drawsF (comesT n.ps fs) n.hs 0) hs = slack hs n.ps fs := by
  have h1 := spr_dot (comesT n.ps fs) n.hs hs 0 ag
  rw [dot_comes] at h1
  rw [slack_eq hs n.ps fs hl]
  unfold cost value
  omega
/-- all flows are let, all drops -/
def LetF : List Pipe → List Int → Prop
  | p :: ps, f :: fs => isLet (flowEnds p.st) f = true ∧ LetF ps fs
  | _, _ => True
def LetD (hs : List Int) : List Pipe → Prop
  | [] => True
  | p :: ps => isLet (dropE p.st) (dropP hs p) = true ∧ LetD hs ps
/-- all pipes' drops and flows go together -/
def onAll (hs : List Int) : List Pipe → List Int → Bool
  | p :: ps, f :: fs => onSt p.st (dropP hs p) f && onAll hs ps fs
  | _, _ => true
theorem slack_le (hs : List Int) : ∀ (ps : List Pipe) (fs : List Int), (∀ p ∈ ps, GoodS p.st) → LetF ps fs → LetD hs ps → 0 ≤ slack hs ps fs ∧ (slack hs ps fs = 0 ↔ onAll hs ps fs = true)
  | [], fs, _, _, _ => by cases fs <;> simp [slack, onAll]
  | p :: ps, [], _, _, _ => by simp [slack, onAll]
  | p :: ps, f :: fs, hg, hf, hd => by
    obtain ⟨i1, i2⟩ := slack_le hs ps fs (fun q hq => hg q (List.mem_cons_of_mem _ hq)) hf.2 hd.2
    obtain ⟨g1, g2⟩ := gain_le (hg p (List.mem_cons_self ..)) hd.1 f hf.1
    have e : gain p.st.1 p.st.2 (dropP hs p) f = f * dropP hs p - enF p.st f := by unfold gain enF; rw [Int.mul_comm]
    rw [e] at g1 g2
    have ew : worth p.st.1 p.st.2 (dropP hs p) = woD p.st (dropP hs p) := rfl
    rw [ew] at g1 g2
    have hon : onSt p.st (dropP hs p) f = isLet (flIn p.st (dropP hs p)) f := by
      unfold onSt; rw [hd.1]; rfl
    simp only [slack, onAll, hon, Bool.and_eq_true]
    refine ⟨by omega, ?_⟩
    have g2' : (f * dropP hs p - enF p.st f = woD p.st (dropP hs p)) ↔ isLet (flIn p.st (dropP hs p)) f = true := g2
    rw [← i2, ← g2']
    omega
end TW
namespace TW
def tapsN (n : Net) : List Nat := ((n.hs.zipIdx).filter (·.1.isNone)).map (·.2)
def keptB (n : Net) (qs fs : List Int) : Bool := (tapsN n).all fun i => decide (comesT n.ps fs i = hgt qs i)
def onAt (n : Net) (hs : List Int) (x : Int × Nat) : Bool := match n.ps[x.2]? with
  | some p => onSt p.st (dropP hs p) x.1
  | none => true
theorem zipIdx_lt {α : Type} {l : List α} {x : α × Nat} (h : x ∈ l.zipIdx) : x.2 < l.length ∧ l[x.2]? = some x.1 := by
  obtain ⟨a, i⟩ := x
  have h1 := List.mem_zipIdx_iff_getElem?.mp h
  exact ⟨(List.getElem?_eq_some_iff.mp h1).1, h1⟩
theorem taps_lt {n : Net} {i : Nat} (h : i ∈ tapsN n) : i < n.hs.length ∧ n.hs[i]? = some none := by
  unfold tapsN at h
  obtain ⟨x, hx, rfl⟩ := List.mem_map.mp h
  obtain ⟨h1, h2⟩ := List.mem_filter.mp hx
  obtain ⟨h3, h4⟩ := zipIdx_lt h1
  refine ⟨h3, ?_⟩
  rw [h4]
  cases hx1 : x.1 with
  | none => rfl
  | some i => rw [hx1] at h2; cases h2
theorem taps_len (n : Net) : (tapsN n).length ≤ n.hs.length := by
  unfold tapsN
  rw [List.length_map]
  have := List.length_filter_le (fun x : Option Int × Nat => x.1.isNone) n.hs.zipIdx
  rw [List.length_zipIdx] at this
  exact this
theorem comes_fold : ∀ (ps : List Pipe) (fs : List Int) (i : Nat) (acc : Int), (ps.zip fs).foldl (fun a x => a + (if x.1.far = i then x.2 else 0) - (if x.1.near = i then x.2 else 0)) acc = acc + comesT ps fs i
  | [], fs, i, acc => by cases fs <;> simp [comesT]
  | p :: ps, [], i, acc => by simp [comesT]
  | p :: ps, f :: fs, i, acc => by
    simp only [List.zip_cons_cons, List.foldl_cons, comesT]
    rw [comes_fold ps fs i]
    omega
theorem onAll_ix (n : Net) (hs : List Int) : ∀ (ps : List Pipe) (fs : List Int) (k : Nat), n.ps.drop k = ps → ps.length = fs.length → ((fs.zipIdx k).all fun x => onAt n hs x) = onAll hs ps fs
  | [], [], k, _, _ => rfl
  | p :: ps, f :: fs, k, hd, hl => by
    have h1 : n.ps[k]? = some p := by
      have := congrArg (·[0]?) hd
      simpa using this
    have h2 : n.ps.drop (k + 1) = ps := by
      have := congrArg (·.drop 1) hd
      simpa using this
    have ih := onAll_ix n hs ps fs (k + 1) h2 (by simpa using hl)
    simp only [List.zipIdx_cons, List.all_cons, ih, onAll]
    unfold onAt
    dsimp only
    rw [h1]
end TW
namespace TW
/-- the first flow that isn't let -/
def letAt (n : Net) (x : Int × Nat) : Bool := match n.ps[x.2]? with
  | some p => isLet (flowEnds p.st) x.1
  | none => true
def badF (n : Net) (fs : List Int) : Option Nat := (fs.zipIdx.find? fun x => !letAt n x).map (·.2)
def badD (n : Net) (hs : List Int) : Option Nat := (n.ps.zipIdx.find? fun x => !isLet (dropE x.1.st) (dropP hs x.1)).map (·.2)
theorem letAll_ix (n : Net) : ∀ (ps : List Pipe) (fs : List Int) (k : Nat), n.ps.drop k = ps → ps.length = fs.length → (∀ x ∈ fs.zipIdx k, letAt n x = true) → LetF ps fs
  | [], [], k, _, _, _ => trivial
  | p :: ps, f :: fs, k, hd, hl, hx => by
    have h1 : n.ps[k]? = some p := by
      have := congrArg (·[0]?) hd
      simpa using this
    have h2 : n.ps.drop (k + 1) = ps := by
      have := congrArg (·.drop 1) hd
      simpa using this
    rw [List.zipIdx_cons] at hx
    refine ⟨?_, letAll_ix n ps fs (k + 1) h2 (by simpa using hl) fun x hx2 => hx x (List.mem_cons_of_mem _ hx2)⟩
    have := hx _ (List.mem_cons_self ..)
    unfold letAt at this
    dsimp only at this
    rw [h1] at this
    exact this
theorem badF_none {n : Net} {fs : List Int} (hl : n.ps.length = fs.length) (h : badF n fs = none) : LetF n.ps fs := by
  refine letAll_ix n n.ps fs 0 rfl hl fun x hx => ?_
  unfold badF at h
  have h1 := List.find?_eq_none.mp (Option.map_eq_none_iff.mp h) x hx
  simpa using h1
theorem letD_of {hs : List Int} : ∀ {ps : List Pipe}, (∀ p ∈ ps, isLet (dropE p.st) (dropP hs p) = true) → LetD hs ps
  | [], _ => trivial
  | p :: ps, h => ⟨h p (List.mem_cons_self ..), letD_of fun q hq => h q (List.mem_cons_of_mem _ hq)⟩
theorem badD_none {n : Net} {hs : List Int} (h : badD n hs = none) : LetD hs n.ps := by
  refine letD_of fun p hp => ?_
  obtain ⟨k, hk⟩ := List.mem_iff_getElem?.mp hp
  unfold badD at h
  have h1 := List.find?_eq_none.mp (Option.map_eq_none_iff.mp h) (p, k) (List.mem_zipIdx_iff_getElem?.mpr hk)
  simpa using h1
/-- the springs' places -/
def sprN (n : Net) : List Nat := ((n.hs.zipIdx).filter (·.1.isSome)).map (·.2)
theorem spr_lt {n : Net} {i : Nat} (h : i ∈ sprN n) : i < n.hs.length ∧ ∃ H, n.hs[i]? = some (some H) := by
  unfold sprN at h
  obtain ⟨x, hx, rfl⟩ := List.mem_map.mp h
  obtain ⟨h1, h2⟩ := List.mem_filter.mp hx
  obtain ⟨h3, h4⟩ := zipIdx_lt h1
  refine ⟨h3, ?_⟩
  rw [h4]
  cases hx1 : x.1 with
  | none => rw [hx1] at h2; cases h2
  | some H => exact ⟨H, rfl⟩
theorem spr_len (n : Net) : (sprN n).length ≤ n.hs.length := by
  unfold sprN
  rw [List.length_map]
  have := List.length_filter_le (fun x : Option Int × Nat => x.1.isSome) n.hs.zipIdx
  rw [List.length_zipIdx] at this
  exact this
def hOf (n : Net) (i : Nat) : Int := (n.hs[i]?.bind id).getD 0
theorem spr_sum (n : Net) (g : Nat → Int) : ∀ (hs : List (Option Int)) (k : Nat), n.hs.drop k = hs → ((((hs.zipIdx k).filter (·.1.isSome)).map (·.2)).map fun i => hOf n i * g i).sum = sprSum g hs k
  | [], k, _ => rfl
  | x :: r, k, hd => by
    have h1 : n.hs[k]? = some x := by
      have := congrArg (·[0]?) hd
      simpa using this
    have h2 : n.hs.drop (k + 1) = r := by
      have := congrArg (·.drop 1) hd
      simpa using this
    have ih := spr_sum n g r (k + 1) h2
    rw [List.zipIdx_cons]
    cases x with
    | none => rw [List.filter_cons_of_neg (by simp)]; exact ih
    | some H =>
      rw [List.filter_cons_of_pos (by rfl)]
      simp only [List.map_cons, List.sum_cons, ih, sprSum]
      have : hOf n k = H := by unfold hOf; rw [h1]; rfl
      rw [this]
theorem eSum_map : ∀ (ps : List Pipe) (fs : List Int), ((ps.zip fs).map fun x => enF x.1.st x.2).sum = eSum ps fs
  | [], fs => by cases fs <;> rfl
  | p :: ps, [] => rfl
  | p :: ps, f :: fs => by simp only [List.zip_cons_cons, List.map_cons, List.sum_cons, eSum_map ps fs, eSum]
theorem wSum_map (hs : List Int) : ∀ ps : List Pipe, (ps.map fun p => woD p.st (dropP hs p)).sum = wSum hs ps
  | [] => rfl
  | p :: ps => by simp only [List.map_cons, List.sum_cons, wSum_map hs ps, wSum]
def woAt (n : Net) (hs : List Int) (k : Nat) : Int := match n.ps[k]? with
  | some p => woD p.st (dropP hs p)
  | none => 0
theorem wSum_range (n : Net) (hs : List Int) : ((List.range n.ps.length).map fun k => woAt n hs k).sum = wSum hs n.ps := by
  rw [← wSum_map]
  congr 1
  apply List.ext_getElem?
  intro i
  simp only [List.getElem?_map]
  by_cases h : i < n.ps.length
  · rw [List.getElem?_range h, List.getElem?_eq_getElem h]
    simp [h, woAt]
  · rw [List.getElem?_eq_none (by simp; omega), List.getElem?_eq_none (by omega)]
    rfl
theorem dotD_map : ∀ (qs hs : List Int), ((qs.zip hs).map fun x => x.1 * x.2).sum = dotD qs hs
  | [], hs => by cases hs <;> rfl
  | q :: qs, [] => rfl
  | q :: qs, h :: hs => by simp only [List.zip_cons_cons, List.map_cons, List.sum_cons, dotD_map qs hs, dotD]
theorem agree_len : ∀ {ho : List (Option Int)} {hs : List Int}, Agree ho hs → hs.length = ho.length
  | [], [], _ => rfl
  | none :: r, _ :: hs, h => by simp only [List.length_cons, agree_len (ho := r) (hs := hs) h]
  | some H :: r, _ :: hs, h => by simp only [List.length_cons, agree_len (ho := r) (hs := hs) h.2]
theorem agree_zip : ∀ {ho : List (Option Int)} {hs : List Int}, Agree ho hs → ∀ x ∈ hs.zip ho, x.2 = none ∨ x.2 = some x.1
  | [], [], _, x, hx => by cases hx
  | none :: r, h :: hs, ag, x, hx => by
    rcases List.mem_cons.mp hx with e | e
    · subst e; exact .inl rfl
    · exact agree_zip (ho := r) ag x e
  | some H :: r, h :: hs, ag, x, hx => by
    rcases List.mem_cons.mp hx with e | e
    · subst e; exact .inr (by rw [ag.1])
    · exact agree_zip (ho := r) ag.2 x e
/-- draws: numbers, 0 at springs -/
structure DrawsN (n : Net) (qs : List Int) : Prop where
  len : qs.length = n.hs.length
  num : ∀ q ∈ qs, -999 ≤ q ∧ q ≤ 999
  spr : ∀ x ∈ qs.zip n.hs, x.2 = none ∨ x.1 = 0
theorem drawsF_len (g : Nat → Int) : ∀ (ho : List (Option Int)) (k : Nat), (drawsF g ho k).length = ho.length
  | [], _ => rfl
  | none :: r, k => by simp only [drawsF, List.length_cons, drawsF_len g r]
  | some _ :: r, k => by simp only [drawsF, List.length_cons, drawsF_len g r]
theorem drawsF_spr (g : Nat → Int) : ∀ (ho : List (Option Int)) (k : Nat), ∀ x ∈ (drawsF g ho k).zip ho, x.2 = none ∨ x.1 = 0
  | [], _, x, hx => by cases hx
  | none :: r, k, x, hx => by
    rcases List.mem_cons.mp hx with e | e
    · subst e; exact .inl rfl
    · exact drawsF_spr g r (k + 1) x e
  | some _ :: r, k, x, hx => by
    rcases List.mem_cons.mp hx with e | e
    · subst e; exact .inr rfl
    · exact drawsF_spr g r (k + 1) x e
theorem drawsF_mem (g : Nat → Int) (P : Int → Prop) (h0 : P 0) : ∀ (ho : List (Option Int)) (k : Nat), (∀ i, k ≤ i → i < k + ho.length → P (g i)) → ∀ q ∈ drawsF g ho k, P q
  | [], _, _, q, hq => by cases hq
  | none :: r, k, h, q, hq => by
    rcases List.mem_cons.mp hq with e | e
    · subst e; exact h k (Nat.le_refl _) (by simp)
    · exact drawsF_mem g P h0 r (k + 1) (fun i h1 h2 => h i (by omega) (by simp only [List.length_cons]; omega)) q e
  | some _ :: r, k, h, q, hq => by
    rcases List.mem_cons.mp hq with e | e
    · subst e; exact h0
    · exact drawsF_mem g P h0 r (k + 1) (fun i h1 h2 => h i (by omega) (by simp only [List.length_cons]; omega)) q e
theorem drawsF_get (g : Nat → Int) : ∀ (ho : List (Option Int)) (k i : Nat), ho[i]? = some none → hgt (drawsF g ho k) i = g (k + i)
  | none :: r, k, 0, _ => rfl
  | none :: r, k, i + 1, h => by
    have := drawsF_get g r (k + 1) i (by simpa using h)
    unfold hgt at this ⊢
    simp only [drawsF, List.getElem?_cons_succ]
    rw [this]; congr 1; omega
  | some _ :: r, k, 0, h => by simp at h
  | some _ :: r, k, i + 1, h => by
    have := drawsF_get g r (k + 1) i (by simpa using h)
    unfold hgt at this ⊢
    simp only [drawsF, List.getElem?_cons_succ]
    rw [this]; congr 1; omega
theorem kept_own (n : Net) (fs : List Int) : keptB n (drawsF (comesT n.ps fs) n.hs 0) fs = true := by
  unfold keptB
  rw [List.all_eq_true]
  intro i hi
  rw [drawsF_get _ _ _ _ (taps_lt hi).2, Nat.zero_add]
  exact decide_eq_true rfl
theorem drawsF_map (g : Nat → Int) : ∀ (ho : List (Option Int)) (k : Nat), ((ho.zipIdx k).map fun x => if x.1.isSome then 0 else g x.2) = drawsF g ho k
  | [], _ => rfl
  | none :: r, k => by simp only [List.zipIdx_cons, List.map_cons, drawsF_map g r (k + 1), drawsF]; rfl
  | some _ :: r, k => by simp only [List.zipIdx_cons, List.map_cons, drawsF_map g r (k + 1), drawsF]; rfl
end TW
namespace TW
theorem comes_filter (n : Net) (fs : List Int) (i : Nat) : (((n.ps.zip fs).filter fun x => decide (x.1.far = i)).map fun x => x.2).sum - (((n.ps.zip fs).filter fun x => decide (x.1.near = i)).map fun x => x.2).sum = comesT n.ps fs i := by
  have key : ∀ (ps : List Pipe) (fs : List Int), (((ps.zip fs).filter fun x => decide (x.1.far = i)).map fun x => x.2).sum - (((ps.zip fs).filter fun x => decide (x.1.near = i)).map fun x => x.2).sum = comesT ps fs i := by
    intro ps
    induction ps with
    | nil => intro fs; cases fs <;> rfl
    | cons p ps ih =>
      intro fs
      cases fs with
      | nil => rfl
      | cons f fs =>
        have := ih fs
        simp only [List.zip_cons_cons, comesT]
        by_cases h1 : p.far = i <;> by_cases h2 : p.near = i <;> simp [h1, h2, List.filter_cons] at this ⊢ <;> omega
  exact key n.ps fs
theorem under_fold (lo hi : Int) : ∀ (l : List Stp) (c : Int × Option Int), l.foldl (fun (c : Int × Option Int) x => (c.1 + x.1 * pos0 (minO hi x.2 - maxO lo c.2), x.2)) c = (c.1 + under lo hi c.2 l, lastM c.2 l)
  | [], c => by simp [under, lastM]
  | (d, m) :: r, c => by
    rw [List.foldl_cons, under_fold lo hi r]
    simp only [under, lastM_cons]
    rw [Int.add_assoc]
def sprT (g : Nat → Int) : Option Int × Nat → Int
  | (none, _) => 0
  | (some H, k) => H * g k
theorem spr_fold (g : Nat → Int) : ∀ (hs : List (Option Int)) (k : Nat) (a : Int), (hs.zipIdx k).foldl (fun a x => a + sprT g x) a = a + sprSum g hs k
  | [], _, a => by simp [sprSum]
  | none :: r, k, a => by
    rw [List.zipIdx_cons, List.foldl_cons, spr_fold g r (k + 1)]
    simp [sprSum, sprT]
  | some H :: r, k, a => by
    rw [List.zipIdx_cons, List.foldl_cons, spr_fold g r (k + 1)]
    simp only [sprSum, sprT]
    omega
end TW
namespace TW
/-- stairs whose ends are near 0 -/
structure Small (s : Stair) : Prop where
  lo : ∀ i, s.1 = some i → -40 ≤ i ∧ i ≤ 40
  hi : ∀ i, lastM s.1 s.2 = some i → -40 ≤ i ∧ i ≤ 40
theorem near_bd40 {L U : Option Int} (h1 : ∀ x, L = some x → -40 ≤ x ∧ x ≤ 40) (h2 : ∀ x, U = some x → -40 ≤ x ∧ x ≤ 40) : -40 ≤ nearT L U ∧ nearT L U ≤ 40 := by
  have hU : -40 ≤ nearHi U ∧ nearHi U ≤ 40 := by
    cases U with
    | none => decide
    | some u => have := h2 u rfl; simp only [nearHi]; split <;> omega
  cases L with
  | none => exact hU
  | some x => have := h1 x rfl; simp only [nearT]; split <;> omega
theorem Small.near {s : Stair} (h : Small s) : -40 ≤ begin' s.1 s.2 ∧ begin' s.1 s.2 ≤ 40 := near_bd40 h.lo h.hi
theorem enF_bd {s : Stair} (g : GoodS s) (f : Int) (hf : -100000 ≤ f ∧ f ≤ 100000) : -200000000 ≤ enF s f ∧ enF s f ≤ 200000000 := by
  have hb := begin_bd g
  unfold enF
  by_cases h : begin' s.1 s.2 ≤ f
  · have := energy_bd_up g (f - begin' s.1 s.2).toNat
    rw [show begin' s.1 s.2 + ((f - begin' s.1 s.2).toNat : Int) = f by omega] at this
    omega
  · have := energy_bd_down g (begin' s.1 s.2 - f).toNat
    rw [show begin' s.1 s.2 - ((begin' s.1 s.2 - f).toNat : Int) = f by omega] at this
    omega
theorem mul_bd {x y : Int} {a b : Nat} (hx : -(a : Int) ≤ x ∧ x ≤ a) (hy : -(b : Int) ≤ y ∧ y ≤ b) : -((a * b : Nat) : Int) ≤ x * y ∧ x * y ≤ ((a * b : Nat) : Int) := by
  have h : (x * y).natAbs ≤ a * b := by rw [Int.natAbs_mul]; exact Nat.mul_le_mul (by omega) (by omega)
  omega
theorem woD_bd {s : Stair} (g : GoodS s) (d : Int) (hd : -100000 ≤ d ∧ d ≤ 100000) : -400000000 ≤ woD s d ∧ woD s d ≤ 400000000 := by
  have h1 := star_bd g d
  have h2 := enF_bd g (starF s.1 s.2 d) (by omega)
  have h3 := mul_bd (x := d) (y := starF s.1 s.2 d) (a := 100000) (b := 1000) (by omega) (by omega)
  unfold woD worth
  unfold enF at h2
  omega
theorem eSum_bd : ∀ (ps : List Pipe) (fs : List Int), (∀ p ∈ ps, GoodS p.st) → (∀ f ∈ fs, -100000 ≤ f ∧ f ≤ 100000) → -(200000000 * ps.length : Int) ≤ eSum ps fs ∧ eSum ps fs ≤ 200000000 * ps.length
  | [], fs, _, _ => by cases fs <;> simp [eSum]
  | p :: ps, [], _, _ => by simp [eSum]; omega
  | p :: ps, f :: fs, hg, hf => by
    have h1 := enF_bd (hg p (List.mem_cons_self ..)) f (hf f (List.mem_cons_self ..))
    have h2 := eSum_bd ps fs (fun q hq => hg q (List.mem_cons_of_mem _ hq)) (fun q hq => hf q (List.mem_cons_of_mem _ hq))
    simp only [eSum, List.length_cons]
    omega
theorem comes_bd (B : Int) (hB : 0 ≤ B) : ∀ (ps : List Pipe) (fs : List Int) (i : Nat), (∀ p ∈ ps, p.near ≠ p.far) → (∀ f ∈ fs, -B ≤ f ∧ f ≤ B) → -(B * ps.length) ≤ comesT ps fs i ∧ comesT ps fs i ≤ B * ps.length
  | [], fs, i, _, _ => by cases fs <;> simp [comesT]
  | p :: ps, [], i, _, _ => by
    have h1 : 0 ≤ B * ((p :: ps).length : Int) := Int.mul_nonneg hB (by omega)
    simp only [comesT]
    omega
  | p :: ps, f :: fs, i, hn, hf => by
    have h1 := hf f (List.mem_cons_self ..)
    have h2 := comes_bd B hB ps fs i (fun q hq => hn q (List.mem_cons_of_mem _ hq)) (fun q hq => hf q (List.mem_cons_of_mem _ hq))
    have h3 := hn p (List.mem_cons_self ..)
    have e : B * ((p :: ps).length : Int) = B * (ps.length : Int) + B := by rw [List.length_cons]; rw [show ((ps.length + 1 : Nat) : Int) = (ps.length : Int) + 1 by omega, Int.mul_add, Int.mul_one]
    simp only [comesT]
    rw [e]
    by_cases q1 : p.far = i <;> by_cases q2 : p.near = i
    · exact absurd (q2.trans q1.symm) h3
    all_goals simp only [q1, q2, if_true, if_false]; omega
theorem spr_bd (g : Nat → Int) (hg : ∀ i, -2400000 ≤ g i ∧ g i ≤ 2400000) : ∀ (hs : List (Option Int)) (k : Nat), (∀ x ∈ hs, ∀ i, x = some i → -999 ≤ i ∧ i ≤ 999) → -(2397600000 * hs.length : Int) ≤ sprSum g hs k ∧ sprSum g hs k ≤ 2397600000 * hs.length
  | [], _, _ => by simp [sprSum]
  | none :: r, k, h => by
    have := spr_bd g hg r (k + 1) fun x hx => h x (List.mem_cons_of_mem _ hx)
    simp only [sprSum, List.length_cons]
    omega
  | some H :: r, k, h => by
    have h1 := spr_bd g hg r (k + 1) fun x hx => h x (List.mem_cons_of_mem _ hx)
    have h2 := h _ (List.mem_cons_self ..) H rfl
    have h3 := hg k
    have h4 := mul_bd (x := H) (y := g k) (a := 999) (b := 2400000) (by omega) (by omega)
    simp only [sprSum, List.length_cons]
    omega
theorem cost_bd {n : Net} (g : GoodN n) {fs : List Int} (hf : ∀ f ∈ fs, -100000 ≤ f ∧ f ≤ 100000) : -100000000000 ≤ cost n fs ∧ cost n fs ≤ 100000000000 := by
  have h1 := eSum_bd n.ps fs g.st hf
  have h2 := spr_bd (comesT n.ps fs) (fun i => by
    have := comes_bd 100000 (by decide) n.ps fs i g.ne hf
    have := g.pl
    omega) n.hs 0 g.hs
  have := g.pl
  have := g.len2
  unfold cost
  omega
theorem dot_bd : ∀ (qs hs : List Int), (∀ q ∈ qs, -999 ≤ q ∧ q ≤ 999) → (∀ h ∈ hs, -50000 ≤ h ∧ h ≤ 50000) → -(49950000 * qs.length : Int) ≤ dotD qs hs ∧ dotD qs hs ≤ 49950000 * qs.length
  | [], hs, _, _ => by cases hs <;> simp [dotD]
  | q :: qs, [], _, _ => by simp [dotD]; omega
  | q :: qs, h :: hs, h1, h2 => by
    have h3 := dot_bd qs hs (fun x hx => h1 x (List.mem_cons_of_mem _ hx)) (fun x hx => h2 x (List.mem_cons_of_mem _ hx))
    have h4 := mul_bd (x := q) (y := h) (a := 999) (b := 50000) (by have := h1 q (List.mem_cons_self ..); omega) (by have := h2 h (List.mem_cons_self ..); omega)
    simp only [dotD, List.length_cons]
    omega
theorem hgt_bd {hs : List Int} (h : ∀ x ∈ hs, -50000 ≤ x ∧ x ≤ 50000) (i : Nat) : -50000 ≤ hgt hs i ∧ hgt hs i ≤ 50000 := by
  unfold hgt
  cases e : hs[i]? with
  | none => simp
  | some x => exact h x (List.mem_of_getElem? e)
theorem wSum_bd {hs : List Int} (h : ∀ x ∈ hs, -50000 ≤ x ∧ x ≤ 50000) : ∀ (ps : List Pipe), (∀ p ∈ ps, GoodS p.st) → -(400000000 * ps.length : Int) ≤ wSum hs ps ∧ wSum hs ps ≤ 400000000 * ps.length
  | [], _ => by simp [wSum]
  | p :: ps, hg => by
    have h1 := wSum_bd h ps fun q hq => hg q (List.mem_cons_of_mem _ hq)
    have h2 := hgt_bd h p.near
    have h3 := hgt_bd h p.far
    have h4 := woD_bd (hg p (List.mem_cons_self ..)) (dropP hs p) (by unfold dropP; omega)
    simp only [wSum, List.length_cons]
    omega
theorem value_bd {n : Net} (g : GoodN n) {qs hs : List Int} (d : DrawsN n qs) (h : ∀ x ∈ hs, -50000 ≤ x ∧ x ≤ 50000) : -100000000000 ≤ value n qs hs ∧ value n qs hs ≤ 100000000000 := by
  have h1 := dot_bd qs hs d.num h
  have h2 := wSum_bd h n.ps g.st
  have := g.pl
  have := g.len2
  have := d.len
  unfold value
  omega
/-- a flow at a let drop is let -/
theorem on_let {s : Stair} (g : GoodS s) {d f : Int} (h : onSt s d f = true) : isLet (dropE s) d = true ∧ isLet (flowEnds s) f = true := by
  unfold onSt at h
  rw [Bool.and_eq_true] at h
  obtain ⟨h1, h2⟩ := h
  refine ⟨h1, ?_⟩
  have F := Good.fl (a := s.1) (l := s.2) g h1
  obtain ⟨h3, h4⟩ := let_iff.mp h2
  refine let_iff.mpr ⟨okLo_of fun x ha => ?_, okHi_of fun z hz => ?_⟩
  · obtain ⟨⟨y, hy, hxy⟩, _⟩ := F.al x ha
    unfold flIn at h3
    rw [hy, okLo_some, decide_eq_true_eq] at h3
    omega
  · obtain ⟨⟨y, hy, hyz⟩, _⟩ := F.ul z hz
    unfold flIn at h4
    rw [hy, okHi_some, decide_eq_true_eq] at h4
    omega
theorem onAll_get {hs : List Int} : ∀ {ps : List Pipe} {fs : List Int}, onAll hs ps fs = true → ∀ (k : Nat) (p : Pipe) (f : Int), ps[k]? = some p → fs[k]? = some f → onSt p.st (dropP hs p) f = true
  | p :: ps, f :: fs, h, 0, q, e, h1, h2 => by
    simp at h1 h2; subst h1 h2
    simp only [onAll, Bool.and_eq_true] at h
    exact h.1
  | p :: ps, f :: fs, h, k + 1, q, e, h1, h2 => by
    simp only [onAll, Bool.and_eq_true] at h
    exact onAll_get h.2 k q e (by simpa using h1) (by simpa using h2)
  | [], _, _, k, q, e, h1, _ => by simp at h1
  | _ :: _, [], _, k, q, e, _, h2 => by simp at h2
end TW
namespace TW
def farL (n : Net) (fs : List Int) : List Nat := ((n.ps.zipIdx.filter fun x => !isLet (flowEnds x.1.st) (hgt fs x.2)).map (·.2))
def oddL (n : Net) (hs : List Int) : List Nat := ((n.ps.zipIdx.filter fun x => !isLet (dropE x.1.st) (dropP hs x.1)).map (·.2))
theorem odd_head (n : Net) (hs : List Int) : (oddL n hs).head? = badD n hs := by
  unfold oddL badD
  rw [List.head?_map, List.head?_filter]
theorem far_find (n : Net) (fs0 : List Int) : ∀ (ps : List Pipe) (fs : List Int) (k : Nat), n.ps.drop k = ps → fs0.drop k = fs → ps.length = fs.length →
    ((ps.zipIdx k).find? fun x => !isLet (flowEnds x.1.st) (hgt fs0 x.2)).map (·.2) = ((fs.zipIdx k).find? fun x => !letAt n x).map (·.2)
  | [], [], k, _, _, _ => rfl
  | p :: ps, f :: fs, k, hd, hf, hl => by
    have h1 : n.ps[k]? = some p := by
      have := congrArg (·[0]?) hd
      simpa using this
    have h2 : n.ps.drop (k + 1) = ps := by
      have := congrArg (·.drop 1) hd
      simpa using this
    have h3 : fs0[k]? = some f := by
      have := congrArg (·[0]?) hf
      simpa using this
    have h4 : fs0.drop (k + 1) = fs := by
      have := congrArg (·.drop 1) hf
      simpa using this
    have ih := far_find n fs0 ps fs (k + 1) h2 h4 (by simpa using hl)
    have e1 : hgt fs0 k = f := by unfold hgt; rw [h3]; rfl
    have e2 : letAt n (f, k) = isLet (flowEnds p.st) f := by unfold letAt; dsimp only; rw [h1]
    rw [List.zipIdx_cons, List.zipIdx_cons]
    cases hc : isLet (flowEnds p.st) f with
    | true =>
      rw [List.find?_cons_of_neg (by simp [e1, hc]), List.find?_cons_of_neg (by simp [e2, hc])]
      exact ih
    | false =>
      rw [List.find?_cons_of_pos (by simp [e1, hc]), List.find?_cons_of_pos (by simp [e2, hc])]
      rfl
theorem far_head {n : Net} {fs : List Int} (hl : n.ps.length = fs.length) : (farL n fs).head? = badF n fs := by
  unfold farL badF
  rw [List.head?_map, List.head?_filter]
  exact far_find n fs n.ps fs 0 rfl rfl hl
theorem badF_on {n : Net} (g : GoodN n) {fs hs : List Int} (h : badF n fs ≠ none) (hl : n.ps.length = fs.length) : onAll hs n.ps fs = false := by
  cases ho : onAll hs n.ps fs with
  | false => rfl
  | true =>
    exfalso
    apply h
    unfold badF
    rw [Option.map_eq_none_iff, List.find?_eq_none]
    intro x hx
    obtain ⟨h1, h2⟩ := zipIdx_lt hx
    obtain ⟨p, hp⟩ : ∃ p, n.ps[x.2]? = some p := ⟨n.ps[x.2]'(by omega), by simp⟩
    have h3 := (on_let (g.st p (List.mem_of_getElem? hp)) (onAll_get ho x.2 p x.1 hp h2)).2
    have e : letAt n x = true := by unfold letAt; rw [hp]; exact h3
    rw [e]
    simp
theorem badD_on {n : Net} (g : GoodN n) {fs hs : List Int} (h : badD n hs ≠ none) (hl : n.ps.length = fs.length) : onAll hs n.ps fs = false := by
  cases ho : onAll hs n.ps fs with
  | false => rfl
  | true =>
    exfalso
    apply h
    unfold badD
    rw [Option.map_eq_none_iff, List.find?_eq_none]
    intro x hx
    obtain ⟨h1, h2⟩ := zipIdx_lt hx
    obtain ⟨f, hf⟩ : ∃ f, fs[x.2]? = some f := ⟨fs[x.2]'(by omega), by simp⟩
    have h3 := (on_let (g.st x.1 (List.mem_of_getElem? h2)) (onAll_get ho x.2 x.1 f h2 hf)).1
    rw [h3]
    simp
theorem law82 {n : Net} (g : GoodN n) {fs hs : List Int} (hl : n.ps.length = fs.length) (ag : Agree n.hs hs) (hf : badF n fs = none) (hd : badD n hs = none) :
    value n (drawsF (comesT n.ps fs) n.hs 0) hs ≤ cost n fs ∧ (cost n fs = value n (drawsF (comesT n.ps fs) n.hs 0) hs ↔ onAll hs n.ps fs = true) := by
  have h1 := cost_value n fs hs hl ag
  obtain ⟨h2, h3⟩ := slack_le hs n.ps fs g.st (badF_none hl hf) (badD_none hd)
  rw [← h3]
  omega
end TW

/-! TW_B: stairs as data. -/
namespace TW
open PySem PySem.Spec PyProof.Rows L2 MV

def stepP (x : Stp) : P := .tup [.int x.1, optP x.2]
def stepsP (l : List Stp) : List P := l.map stepP
def stP (a : Option Int) (l : List Stp) : P := .tup [.str "stair", optP a, .tup (stepsP l)]
def ends2 (e : Option Int × Option Int) : P := .tup [optP e.1, optP e.2]
/-! ### the defs -/
theorem eqB_int (i j : Int) (h : VH) : eqB (.p (.int i)) (.p (.int j)) h = some (decide (i = j)) := by
  simp [eqB, datum, txtEq, txtP, okD, P.isD, P.py, SeqAt.shaped, PyData.canLay0, PyData.depth, PyData.eqv, Bool.beq_eq_decide_eq]
/-- index -1 of a tuple that isn't empty -/
theorem atI_last {α : Type} (l : List α) (x : α) : atI (l ++ [x]) (-1) = some x := by
  have e : ((-1 : Int) + (((l ++ [x]).length : Nat) : Int)).toNat = l.length := by simp; omega
  unfold atI ixN
  rw [if_neg (by decide), if_pos (by simp; omega), e]
  simp
theorem tupEmpty (l : List P) (hl : (P.tup l).isD = true) (hs : SeqAt.shaped (P.tup l).py = true) (h : VH) : eqB (.p (.tup l)) (.p (.tup [])) h = some l.isEmpty := by
  cases l with
  | nil => simp [eqB, datum, txtEq, txtP, okD, P.isD, isDL, P.py, pyL, SeqAt.shaped, PyData.canLay0, PyData.canLayAll0, PyData.depth, PyData.depthAll, PyData.eqv, PyData.eqvAll]
  | cons x r =>
    have h1 : okD (P.tup (x :: r)) = true := by unfold okD; rw [hl, hs]; rfl
    have h2 : okD (P.tup []) = true := by simp [okD, P.isD, isDL, P.py, pyL, SeqAt.shaped, PyData.canLay0, PyData.canLayAll0, PyData.depth, PyData.depthAll]
    simp only [eqB, datum, txtEq, txtP, h1, h2, Bool.and_self, if_true]
    simp [P.py, pyL, PyData.eqv, PyData.eqvAll]
theorem stepsP_ok : ∀ l : List Stp, isDL (stepsP l) = true ∧ PyData.canLayAll0 (pyL (stepsP l)) = true ∧ PyData.depthAll (pyL (stepsP l)) ≤ 1
  | [] => by simp [stepsP, isDL, pyL, PyData.canLayAll0, PyData.depthAll]
  | (d, m) :: l => by
    obtain ⟨h1, h2, h3⟩ := stepsP_ok l
    simp only [stepsP] at h1 h2 h3
    cases m <;> simp [stepsP, stepP, isDL, P.isD, pyL, P.py, optP, PyData.canLayAll0, PyData.canLay0, PyData.depthAll, PyData.depth, h1, h2] <;> omega
theorem steps_isD (l : List Stp) : (P.tup (stepsP l)).isD = true := by unfold P.isD; exact (stepsP_ok l).1
theorem steps_shaped (l : List Stp) : SeqAt.shaped (P.tup (stepsP l)).py = true := by
  obtain ⟨_, h2, h3⟩ := stepsP_ok l
  unfold SeqAt.shaped P.py PyData.canLay0 PyData.depth
  rw [h2]
  simp
  omega
theorem steps_empty (l : List Stp) (h : VH) : eqB (.p (.tup (stepsP l))) (.p (.tup [])) h = some l.isEmpty := by
  rw [tupEmpty _ (steps_isD l) (steps_shaped l)]
  cases l <;> rfl

theorem isE (l : List Stp) (x : Stp) : (l ++ [x]).isEmpty = false := by cases l <;> rfl
theorem stepsP_snoc (l : List Stp) (x : Stp) : stepsP (l ++ [x]) = stepsP l ++ [stepP x] := by simp [stepsP]
theorem atI_2 (x y z : P) : atI [x, y, z] 2 = some z := by simp [atI, ixN]
theorem atI_1 (x y z : P) : atI [x, y, z] 1 = some y := by simp [atI, ixN]
theorem atI_0 (x y z : P) : atI [x, y, z] 0 = some x := by simp [atI, ixN]
theorem atI_p1 (x y : P) : atI [x, y] 1 = some y := by simp [atI, ixN]
theorem atI_p0 (x y : P) : atI [x, y] 0 = some x := by simp [atI, ixN]
theorem isB_opt (a : Option Int) : isB (.p (optP a)) (.p .non) = some (a.isNone) := by cases a <;> rfl
theorem atI_head (x : P) (l : List P) : atI (x :: l) 0 = some x := by simp [atI, ixN]
theorem i64 {i : Int} (h : -1000 ≤ i ∧ i ≤ 1000) : isInt64 i = true := isInt64_of (by omega)
def AheadAt (a0 : Option Int) (l0 : List Stp) (k : Nat) (a : Option Int) : Prop := (k = 0 ∧ a = a0) ∨ ∃ j x, k = j + 1 ∧ l0[j]? = some x ∧ a = x.2
theorem AheadAt.next {a0 : Option Int} {pre : List Stp} {x : Stp} {r : List Stp} : AheadAt a0 (pre ++ x :: r) (pre.length + 1) x.2 := .inr ⟨pre.length, x, rfl, by simp, rfl⟩
/-! the law's own flows at a drop -/
/-! ### is_stair_any -/
theorem wf_pairs : ∀ (l : List Stp) (pd pm : Int), Wf pd pm l → ∀ p ∈ zipP (stepsP l) ((stepsP l).drop 1), ∃ x y : Stp, p = .tup [stepP x, stepP y] ∧ x.1 < y.1
  | [], _, _, _, p, hp => by simp [stepsP, zipP] at hp
  | [x], _, _, _, p, hp => by simp [stepsP, zipP] at hp
  | (d, none) :: _ :: _, pd, pm, h, p, hp => by simp only [Wf] at h
  | (d, some m) :: y :: r, pd, pm, h, p, hp => by
    simp only [Wf] at h
    obtain ⟨h1, h2, h3, h4, h5⟩ := h
    have e : zipP (stepsP ((d, some m) :: y :: r)) ((stepsP ((d, some m) :: y :: r)).drop 1) = .tup [stepP (d, some m), stepP y] :: zipP (stepsP (y :: r)) ((stepsP (y :: r)).drop 1) := rfl
    rw [e] at hp
    rcases List.mem_cons.mp hp with e | e
    · refine ⟨_, _, e, ?_⟩
      obtain ⟨y1, y2⟩ := y
      cases y2 with
      | none =>
        cases r with
        | nil => exact h5.1
        | cons z r => simp only [Wf] at h5
      | some y2 => simp only [Wf] at h5; exact h5.1
    · exact wf_pairs (y :: r) d m h5 p e
theorem asc_pairs : ∀ (l : List Int) (p : Int), Asc p l → ∀ q ∈ zipP (l.map P.int) ((l.map P.int).drop 1), ∃ x y : Int, q = .tup [.int x, .int y] ∧ x < y
  | [], _, _, p, hp => by simp [zipP] at hp
  | [x], _, _, p, hp => by simp [zipP] at hp
  | x :: y :: r, _, ⟨h1, h2, h3⟩, p, hp => by
    have e : zipP ((x :: y :: r).map P.int) (((x :: y :: r).map P.int).drop 1) = .tup [.int x, .int y] :: zipP ((y :: r).map P.int) (((y :: r).map P.int).drop 1) := rfl
    rw [e] at hp
    rcases List.mem_cons.mp hp with e | e
    · exact ⟨x, y, e, h3.1⟩
    · exact asc_pairs (y :: r) x h3 p e
theorem wf_init : ∀ (l : List Stp) (pd pm : Int), Wf pd pm l → ∀ p ∈ ((l.map fun x => optP x.2).dropLast), ∃ i, p = .int i
  | [], _, _, _, p, hp => by simp at hp
  | [x], _, _, _, p, hp => by simp at hp
  | (d, none) :: _ :: _, pd, pm, h, p, hp => by simp only [Wf] at h
  | (d, some m) :: y :: r, pd, pm, h, p, hp => by
    simp only [Wf] at h
    have e : (((d, some m) :: y :: r).map fun x => optP x.2).dropLast = optP (some m) :: ((y :: r).map fun x => optP x.2).dropLast := rfl
    rw [e] at hp
    rcases List.mem_cons.mp hp with e | e
    · exact ⟨m, e⟩
    · exact wf_init (y :: r) d m h.2.2.2.2 p e
def isNon : P → Bool
  | .non => true
  | _ => false
theorem told_filter : ∀ l : List (Option Int), (l.map optP).filter (fun x => !isNon x) = (l.filterMap id).map P.int
  | [] => rfl
  | none :: l => by
    rw [List.map_cons, List.filter_cons_of_neg (by simp [optP, isNon]), told_filter l]
    rfl
  | some i :: l => by
    rw [List.map_cons, List.filter_cons_of_pos (by simp [optP, isNon]), told_filter l]
    rfl
theorem isB_non (x : P) : isB (.p x) (.p .non) = some (isNon x) := by cases x <;> rfl
theorem Good.short {a : Option Int} {l : List Stp} (g : Good a l) : l.length ≤ sizeLine := by
  have := g.len
  have e : sizeLine = 16777216 := sizeLine_eq
  omega
theorem eq_nil_list (x : List P) (hx : isDL x = true) (hc : PyData.canLayAll0 (pyL x) = true) (hd : PyData.depthAll (pyL x) ≤ 60) (h : VH) : eqB (.p (.lst x)) (.p (.lst [])) h = some x.isEmpty := by
  have h1 : okD (P.lst x) = true := by
    unfold okD P.isD SeqAt.shaped P.py PyData.canLay0 PyData.depth
    rw [hx, hc]
    simp
    omega
  have h2 : okD (P.lst []) = true := by simp [okD, P.isD, isDL, P.py, pyL, SeqAt.shaped, PyData.canLay0, PyData.canLayAll0, PyData.depth, PyData.depthAll]
  simp only [eqB, datum, txtEq, txtP, h1, h2, Bool.and_self, if_true]
  cases x <;> simp [P.py, pyL, PyData.eqv, PyData.eqvAll]
theorem optL_ok : ∀ l : List (Option Int), isDL (l.map optP) = true ∧ PyData.canLayAll0 (pyL (l.map optP)) = true ∧ PyData.depthAll (pyL (l.map optP)) = 0
  | [] => by simp [isDL, pyL, PyData.canLayAll0, PyData.depthAll]
  | m :: l => by
    obtain ⟨h1, h2, h3⟩ := optL_ok l
    cases m <;> simp [isDL, P.isD, pyL, P.py, optP, PyData.canLayAll0, PyData.canLay0, PyData.depthAll, PyData.depth, h1, h2, h3]
theorem str_self (h : VH) : eqB (.p (.str "stair")) (.p (.str "stair")) h = some true := by
  simp [eqB, datum, txtEq, txtP]
theorem zip_len_le (l m : List P) : (zipP l m).length ≤ l.length := by rw [zipP_len]; exact Nat.min_le_left _ _

/-! ### texts of small data -/
mutual
def fine : P → Bool
  | .non | .bl _ => true
  | .int i => int12 i
  | .str s => PyData.canLay0 (.str s) && decide (s.cps.size ≤ 40)
  | .tup l => fineL l
  | .lst l => fineL l
  | .fn _ | .rep _ | .dct _ => false
def fineL : List P → Bool
  | [] => true
  | x :: l => fine x && fineL l
end
mutual
def nodes : P → Nat
  | .tup l => nodesL l
  | .lst l => nodesL l
  | _ => 1
def nodesL : List P → Nat
  | [] => 0
  | x :: l => nodes x + 1 + nodesL l
end
theorem weight_int12 {i : Int} (h : int12 i = true) : (PyData.int i).weight ≤ 41 := by
  unfold int12 at h
  rw [Bool.and_eq_true, decide_eq_true_eq, decide_eq_true_eq] at h
  unfold PyData.weight
  by_cases h0 : i = 0
  · simp [h0]
  · have h1 : i.natAbs < 2 ^ 40 := by
      have e : (2 : Nat) ^ 40 = 1099511627776 := by decide
      omega
    have h2 := (Nat.log2_lt (show i.natAbs ≠ 0 by omega)).mpr h1
    split <;> omega
mutual
theorem fine_ok : ∀ x : P, fine x = true → x.shw = true ∧ x.isD = true ∧ PyData.canLay0 x.py = true ∧ PyData.weight x.py ≤ 41 * nodes x
  | .non, _ => by simp [P.shw, P.isD, P.py, PyData.canLay0, PyData.weight]
  | .bl _, _ => by simp [P.shw, P.isD, P.py, PyData.canLay0, PyData.weight]
  | .int i, h => by
    unfold fine at h
    have := weight_int12 h
    simp [P.shw, P.isD, P.py, PyData.canLay0, nodes, h]
    exact this
  | .str s, h => by
    unfold fine at h
    rw [Bool.and_eq_true, decide_eq_true_eq] at h
    simp [P.shw, P.isD, P.py, nodes, h.1, PyData.weight]
    omega
  | .tup l, h => by
    unfold fine at h
    have := fineL_ok l h
    simp only [P.shw, P.isD, P.py, PyData.canLay0, PyData.weight, nodes]
    exact this
  | .lst l, h => by
    unfold fine at h
    have := fineL_ok l h
    simp only [P.shw, P.isD, P.py, PyData.canLay0, PyData.weight, nodes]
    exact this
  | .fn _, h => by simp [fine] at h
  | .rep _, h => by simp [fine] at h
  | .dct _, h => by simp [fine] at h
theorem fineL_ok : ∀ l : List P, fineL l = true → shwL l = true ∧ isDL l = true ∧ PyData.canLayAll0 (pyL l) = true ∧ PyData.weightAll (pyL l) ≤ 41 * nodesL l
  | [], _ => by simp [shwL, isDL, pyL, PyData.canLayAll0, PyData.weightAll]
  | x :: l, h => by
    unfold fineL at h
    rw [Bool.and_eq_true] at h
    obtain ⟨h1, h2, h3, h4⟩ := fine_ok x h.1
    obtain ⟨h5, h6, h7, h8⟩ := fineL_ok l h.2
    refine ⟨by simp [shwL, h1, h5], by simp [isDL, h2, h6], by simp [pyL, PyData.canLayAll0, h3, h7], ?_⟩
    simp only [pyL, PyData.weightAll, nodesL]
    omega
end
theorem rep_fine {x : P} (hd : isDisplay x.py = true) (hf : fine x = true) (h1 : PyData.depth x.py ≤ 64) (h2 : nodes x ≤ 25000) (h : VH) : gRepr [.p x] h = .ok (.p (.rep x)) h := by
  obtain ⟨a, b, c, d⟩ := fine_ok x hf
  have hok : okRep2 x = true := by
    unfold okRep2 PyData.layable0
    rw [a, hd, c]
    have : (2 : Nat) ^ 20 = 1048576 := by decide
    simp only [Bool.true_and, Bool.and_eq_true, decide_eq_true_eq]
    omega
  simp [gRepr, b1, datum, hok]
theorem okD_fine {x : P} (hf : fine x = true) (h1 : PyData.depth x.py ≤ 60) : okD x = true := by
  obtain ⟨a, b, c, d⟩ := fine_ok x hf
  unfold okD SeqAt.shaped
  rw [b, c]
  simp
  omega
theorem fineL_map {α : Type} (f : α → P) : ∀ l : List α, (∀ x ∈ l, fine (f x) = true) → fineL (l.map f) = true
  | [], _ => rfl
  | x :: l, h => by
    simp only [List.map_cons, fineL, h x (List.mem_cons_self ..), fineL_map f l fun y hy => h y (List.mem_cons_of_mem _ hy), Bool.and_self]
theorem nodesL_map {α : Type} (f : α → P) (c : Nat) : ∀ l : List α, (∀ x ∈ l, nodes (f x) ≤ c) → nodesL (l.map f) ≤ (c + 1) * l.length
  | [], _ => by simp [nodesL]
  | x :: l, h => by
    have h1 := h x (List.mem_cons_self ..)
    have h2 := nodesL_map f c l fun y hy => h y (List.mem_cons_of_mem _ hy)
    simp only [List.map_cons, nodesL, List.length_cons, Nat.mul_add, Nat.mul_one]
    omega
theorem depthL_map {α : Type} (f : α → P) (c : Nat) : ∀ l : List α, (∀ x ∈ l, PyData.depth (f x).py ≤ c) → PyData.depthAll (pyL (l.map f)) ≤ c
  | [], _ => by simp [pyL, PyData.depthAll]
  | x :: l, h => by
    have h1 := h x (List.mem_cons_self ..)
    have h2 := depthL_map f c l fun y hy => h y (List.mem_cons_of_mem _ hy)
    simp only [List.map_cons, pyL, PyData.depthAll]
    omega
theorem int12_of {i : Int} (h : -999999999999 ≤ i ∧ i ≤ 999999999999) : int12 i = true := by
  unfold int12; rw [Bool.and_eq_true, decide_eq_true_eq, decide_eq_true_eq]; exact h
theorem fine_opt {a : Option Int} (h : ∀ i, a = some i → -999999999999 ≤ i ∧ i ≤ 999999999999) : fine (optP a) = true := by
  cases a with
  | none => rfl
  | some i => exact int12_of (h i rfl)
/-! ### nets as data -/
def stairP (s : Stair) : P := stP s.1 s.2
def pipeP (p : Pipe) : P := .tup [.int p.near, .int p.far, stairP p.st]
def netP (n : Net) : P := .tup [.str "net", .tup (n.hs.map optP), .tup (n.ps.map pipeP)]
def intsT (l : List Int) : P := .tup (l.map P.int)
theorem Good.mosts {a : Option Int} {l : List Stp} (g : Good a l) : ∀ x ∈ l, ∀ i, x.2 = some i → -1000 ≤ i ∧ i ≤ 999 := by
  have key : ∀ (l : List Stp) (pd pm : Int), -1000 ≤ pm → Wf pd pm l → ∀ x ∈ l, ∀ i, x.2 = some i → -1000 ≤ i ∧ i ≤ 999 := by
    intro l
    induction l with
    | nil => intro pd pm _ _ x hx; cases hx
    | cons y r ih =>
      obtain ⟨d, m⟩ := y
      intro pd pm hp w x hx i hi
      cases m with
      | none =>
        cases r with
        | nil =>
          simp only [List.mem_singleton] at hx
          subst hx; cases hi
        | cons z r => simp only [Wf] at w
      | some m =>
        simp only [Wf] at w
        rcases List.mem_cons.mp hx with e | e
        · subst e; cases hi; omega
        · exact ih d m (by omega) w.2.2.2.2 x e i hi
  exact key l _ _ g.pm.1 g.wf
theorem stair_fine {s : Stair} (g : GoodS s) : fine (stairP s) = true ∧ nodes (stairP s) ≤ 210 ∧ PyData.depth (stairP s).py ≤ 3 := by
  obtain ⟨a, l⟩ := s
  have g : Good a l := g
  have hstr : fine (.str "stair") = true := by decide +kernel
  have f1 : fineL (stepsP l) = true := fineL_map _ _ fun x hx => by
    have h1 := wf_drops l _ _ (by decide) g.wf x hx
    have h2 := fine_opt (a := x.2) fun i hi => by have := g.mosts x hx i hi; omega
    simp [stepP, fine, fineL, h2, int12_of (i := x.1) (by omega)]
  have n1 : nodesL (stepsP l) ≤ 5 * l.length := nodesL_map stepP 4 l fun x hx => by
    cases hx2 : x.2 <;> simp [stepP, nodes, nodesL, optP, hx2]
  have d1 : PyData.depthAll (pyL (stepsP l)) ≤ 1 := depthL_map stepP 1 l fun x hx => by
    cases hx2 : x.2 <;> simp [stepP, P.py, pyL, PyData.depth, PyData.depthAll, optP, hx2]
  have f2 := fine_opt (a := a) fun i hi => by have := g.lo i hi; omega
  have hl := g.len
  have na : nodes (optP a) = 1 := by cases a <;> rfl
  have da : PyData.depth (optP a).py = 0 := by cases a <;> rfl
  refine ⟨by simp [stairP, stP, fine, fineL, hstr, f1, f2] at hstr ⊢; exact hstr, ?_, ?_⟩
  · simp only [stairP, stP, nodes, nodesL, na]
    omega
  · simp only [stairP, stP, P.py, pyL, PyData.depth, PyData.depthAll, da]
    omega
theorem net_fine {n : Net} (g : GoodN n) : fine (netP n) = true ∧ nodes (netP n) ≤ 6000 ∧ PyData.depth (netP n).py ≤ 6 := by
  have hstr : fine (.str "net") = true := by decide +kernel
  have f1 : fineL (n.ps.map pipeP) = true := fineL_map _ _ fun p hp => by
    have h1 := g.near p hp
    have h2 := g.far p hp
    have h3 := g.len2
    have h4 := (stair_fine (g.st p hp)).1
    simp [pipeP, fine, fineL, h4, int12_of (i := (p.near : Int)) (by omega), int12_of (i := (p.far : Int)) (by omega)]
  have f2 : fineL (n.hs.map optP) = true := fineL_map _ _ fun x hx => fine_opt fun i hi => by have := g.hs x hx i hi; omega
  have n1 := nodesL_map pipeP 220 n.ps fun p hp => by
    have := (stair_fine (g.st p hp)).2.1
    simp only [pipeP, nodes, nodesL]
    omega
  have n2 := nodesL_map optP 1 n.hs fun x hx => by cases x <;> simp [optP, nodes]
  have d1 := depthL_map pipeP 4 n.ps fun p hp => by
    have := (stair_fine (g.st p hp)).2.2
    simp only [pipeP, P.py, pyL, PyData.depth, PyData.depthAll]
    omega
  have d2 := depthL_map optP 0 n.hs fun x hx => by cases x <;> simp [optP, P.py, PyData.depth]
  have l1 := g.pl
  have l2 := g.len2
  refine ⟨by simp [netP, fine, fineL, f1, f2] at hstr ⊢; exact hstr, ?_, ?_⟩
  · simp only [netP, nodes, nodesL]
    omega
  · simp only [netP, P.py, pyL, PyData.depth, PyData.depthAll]
    omega
theorem rep_net {n : Net} (g : GoodN n) (h : VH) : gRepr [.p (netP n)] h = .ok (.p (.rep (netP n))) h := by
  obtain ⟨h1, h2, h3⟩ := net_fine g
  exact rep_fine (by simp [netP, P.py, isDisplay]) h1 (by omega) (by omega) h
theorem eqB_bl (x y : Bool) (h : VH) : eqB (.p (.bl x)) (.p (.bl y)) h = some (x == y) := by
  simp [eqB, datum, txtEq, txtP, okD, P.isD, P.py, SeqAt.shaped, PyData.canLay0, PyData.depth, PyData.eqv]
theorem ne_rep (x : P) (h : VH) : opNe (.p (.rep x)) (.p (.rep x)) h = .ok (.p (.bl false)) h := by
  simp [opNe, eqB, datum, txtEq]
theorem eq_rep (x : P) (h : VH) : opEq (.p (.rep x)) (.p (.rep x)) h = .ok (.p (.bl true)) h := by
  simp [opEq, eqB, datum, txtEq]
theorem net_ix1 (n : Net) (h : VH) : opIx (.p (netP n)) (.p (.int 1)) h = .ok (.p (.tup (n.hs.map optP))) h := opIx_tup _ _ _ _ (atI_1 _ _ _)
theorem net_ix2 (n : Net) (h : VH) : opIx (.p (netP n)) (.p (.int 2)) h = .ok (.p (.tup (n.ps.map pipeP))) h := opIx_tup _ _ _ _ (atI_2 _ _ _)
theorem net_ix0 (n : Net) (h : VH) : opIx (.p (netP n)) (.p (.int 0)) h = .ok (.p (.str "net")) h := opIx_tup _ _ _ _ (atI_0 _ _ _)
theorem pipe_ix0 (p : Pipe) (h : VH) : opIx (.p (pipeP p)) (.p (.int 0)) h = .ok (.p (.int p.near)) h := opIx_tup _ _ _ _ (atI_0 _ _ _)
theorem pipe_ix1 (p : Pipe) (h : VH) : opIx (.p (pipeP p)) (.p (.int 1)) h = .ok (.p (.int p.far)) h := opIx_tup _ _ _ _ (atI_1 _ _ _)
theorem pipe_ix2 (p : Pipe) (h : VH) : opIx (.p (pipeP p)) (.p (.int 2)) h = .ok (.p (stairP p.st)) h := opIx_tup _ _ _ _ (atI_2 _ _ _)
theorem hgt_get {hs : List Int} {i : Nat} (h : i < hs.length) : hs[i]? = some (hgt hs i) := by
  unfold hgt; rw [List.getElem?_eq_getElem h]; rfl
theorem ints_ix {hs : List Int} {i : Nat} (hi : i < hs.length) (h : VH) : opIx (.p (intsT hs)) (.p (.int (i : Nat))) h = .ok (.p (.int (hgt hs i))) h := opIx_tupM (f := P.int) h (hgt_get hi)
theorem st_ix1 (a : Option Int) (l : List Stp) (h : VH) : opIx (.p (stP a l)) (.p (.int 1)) h = .ok (.p (optP a)) h := opIx_tup _ _ _ _ (atI_1 _ _ _)
theorem st_ix2 (a : Option Int) (l : List Stp) (h : VH) : opIx (.p (stP a l)) (.p (.int 2)) h = .ok (.p (.tup (stepsP l))) h := opIx_tup _ _ _ _ (atI_2 _ _ _)
theorem st_ix0 (a : Option Int) (l : List Stp) (h : VH) : opIx (.p (stP a l)) (.p (.int 0)) h = .ok (.p (.str "stair")) h := opIx_tup _ _ _ _ (atI_0 _ _ _)
end TW

/-! the defs as functions, printed by gen.py from the law's T.py -/
namespace K82
open PySem PySem.Spec PyProof.Rows L2 MV

def gs__law_heard : List (List (Str × P) → Option P) := [fun _ => some (.str "not let"), fun fs => fs.lookup ("pipe" : Str), fun _ => some (.bl true)]
/-- _law_pot(script, k); slots script, k, cell -/
def f__law_pot : FS := (sSeq (sAsg (fIfE (fT (f2 opLt (fVar 1) (fB gLen (fCons (fVar 0) fNil)))) (fB gAbs (fCons (f2 opIx (fVar 0) (fVar 1)) fNil)) (f2 opAdd (f2 opAdd (f2 opMulI (fC (.int 1979)) (fVar 1)) (fC (.int 1237))) (f2 opMod (fB gInt (fCons (fB gSum (fCons (fSl (fVar 0) oNone (oSome (fC (.int 1)))) fNil)) fNil)) (fC (.int 1000003))))) (gtName 2)) (sRet (fLstM (fCons (fB gMax (fCons (fC (.int 0)) (fCons (f2 opSub (fVar 2) (f2 opPow (fC (.int 10)) (fC (.int 18)))) fNil))) (fCons (f2 opAdd (f2 opMod (fB gInt (fCons (f2 opAdd (f2 opAdd (f2 opMulI (f2 opMod (fB gInt (fCons (fVar 2) fNil)) (fC (.int 2147483549))) (fC (.int 40237))) (f2 opMulI (fC (.int 8191)) (fVar 1))) (fC (.int 67))) fNil)) (fC (.int 2147483563))) (fC (.int 1))) fNil)))))
def F__law_pot : Fn := runF 2 3 f__law_pot
/-- _law_draw(pot, size); slots pot, size, digit -/
def f__law_draw : FS := (sSeq (sIf (fT (f2 opGt (f2 opIx (fVar 0) (fC (.int 0))) (fC (.int 0)))) (sSeq (sAsgH (fB gDivmod (fCons (f2 opIx (fVar 0) (fC (.int 0))) (fCons (fVar 1) fNil))) (ghTup 2 (ghsCons (ghSub (fVar 0) (fC (.int 0))) (ghsCons (ghName 2) ghsNil)))) (sRet (fVar 2))) sNext) (sSeq (sAsgH (f2 opMod (fB gInt (fCons (f2 opAdd (f2 opMulI (f2 opIx (fVar 0) (fC (.int 1))) (fC (.int 40692))) (fC (.int 8191))) fNil)) (fC (.int 2147483587))) (ghSub (fVar 0) (fC (.int 1)))) (sRet (f2 opMod (fB gInt (fCons (f2 opFdiv (f2 opMod (fB gInt (fCons (f2 opMulI (f2 opIx (fVar 0) (fC (.int 1))) (f2 opIx (fVar 0) (fC (.int 1)))) fNil)) (fC (.int 2147483549))) (fC (.int 47))) fNil)) (fVar 1)))))
def F__law_draw : Fn := runF 2 3 f__law_draw
/-- _law_pick(pot, some); slots pot, some -/
def f__law_pick : FS := (sRet (f2 opIx (fVar 1) (fCall F__law_draw [] (fCons (fVar 0) (fCons (fB gLen (fCons (fVar 1) fNil)) fNil)))))
def F__law_pick : Fn := runF 2 2 f__law_pick
def b1__law_stair : FS := (sSeq (sPar 3 4 (fCons (f2 opAdd (f2 opAdd (fVar 3) (fC (.int 1))) (fCall F__law_draw [] (fCons (fVar 0) (fCons (fC (.int 3)) fNil)))) (fCons (f2 opAdd (f2 opAdd (fVar 4) (fC (.int 1))) (fCall F__law_draw [] (fCons (fVar 0) (fCons (fC (.int 3)) fNil)))) fNil))) (sDrop (fML mAppend (fVar 6) (fCons (fTup (fCons (fVar 3) (fCons (fVar 4) fNil))) fNil))))
/-- _law_stair(pot); slots pot, way, rise, drop, most, least, steps, turn -/
def f__law_stair : FS := (sSeq (sAsg (fCall F__law_draw [] (fCons (fVar 0) (fCons (fC (.int 10)) fNil))) (gtName 1)) (sSeq (sIf (fT (f2 opLt (fVar 1) (fC (.int 4)))) (sSeq (sAsg (f2 opSub (fCall F__law_draw [] (fCons (fVar 0) (fCons (fC (.int 7)) fNil))) (fC (.int 3))) (gtName 2)) (sRet (fCall F__law_pick [] (fCons (fVar 0) (fCons (fLst (fCons (fTup (fCons (fC (.str "stair")) (fCons (fC (.int 0)) (fCons (fTup (fCons (fTup (fCons (fC (.int 0)) (fCons (fC (.int 3)) fNil))) fNil)) fNil)))) (fCons (fTup (fCons (fC (.str "stair")) (fCons (fC (.int 0)) (fCons (fTup (fCons (fTup (fCons (fVar 2) (fCons (fC (.int 3)) fNil))) fNil)) fNil)))) (fCons (fTup (fCons (fC (.str "stair")) (fCons (fC (.int 0)) (fCons (fTup fNil) fNil)))) (fCons (fTup (fCons (fC (.str "stair")) (fCons (fCall F__law_draw [] (fCons (fVar 0) (fCons (fC (.int 3)) fNil))) (fCons (fTup (fCons (fTup (fCons (f2 opAdd (fC (.int 5)) (fVar 2)) (fCons (fC .non) fNil))) fNil)) fNil)))) (fCons (fTup (fCons (fC (.str "stair")) (fCons (fC .non) (fCons (fTup (fCons (fTup (fCons (fVar 2) (fCons (fC .non) fNil))) fNil)) fNil)))) fNil)))))) fNil))))) sNext) (sSeq (sPar 3 4 (fCons (f2 opSub (fCall F__law_draw [] (fCons (fVar 0) (fCons (fC (.int 6)) fNil))) (fC (.int 6))) (fCons (f2 opSub (fCall F__law_draw [] (fCons (fVar 0) (fCons (fC (.int 5)) fNil))) (fC (.int 4))) fNil))) (sSeq (sPar 5 6 (fCons (fIfE (fT (f2 opEq (fCall F__law_draw [] (fCons (fVar 0) (fCons (fC (.int 6)) fNil))) (fC (.int 0)))) (fC .non) (fVar 4)) (fCons (fLstM fNil) fNil))) (sSeq (sFor (fRange1 (fCons (f2 opAdd (fC (.int 1)) (fCall F__law_draw [] (fCons (fVar 0) (fCons (fC (.int 4)) fNil)))) fNil)) (gtName 7) b1__law_stair) (sSeq (sIf (fT (f2 opEq (fCall F__law_draw [] (fCons (fVar 0) (fCons (fC (.int 6)) fNil))) (fC (.int 0)))) (sAsgH (fTup (fCons (f2 opIx (f2 opIx (fVar 6) (f1 opNeg (fC (.int 1)))) (fC (.int 0))) (fCons (fC .non) fNil))) (ghSub (fVar 6) (f1 opNeg (fC (.int 1))))) sNext) (sRet (fTup (fCons (fC (.str "stair")) (fCons (fVar 5) (fCons (fB gTuple (fCons (fVar 6) fNil)) fNil)))))))))))
def F__law_stair : Fn := runF 1 8 f__law_stair
def b1__law_net : FS := (sSeq (sAsg (fCall F__law_draw [] (fCons (fVar 0) (fCons (f2 opAdd (fB gLen (fCons (fVar 5) fNil)) (fC (.int 1))) fNil))) (gtName 7)) (sAsg (f2 opAdd (f2 opAdd (fSl (fVar 5) oNone (oSome (fVar 7))) (fLst (fCons (f2 opSub (fCall F__law_draw [] (fCons (fVar 0) (fCons (fC (.int 13)) fNil))) (fC (.int 4))) fNil))) (fSl (fVar 5) (oSome (fVar 7)) oNone)) (gtName 5)))
def b2__law_net : FS := (sIf (fT (f2 opGt (fCall F__law_draw [] (fCons (fVar 0) (fCons (fC (.int 6)) fNil))) (fC (.int 0)))) (sSeq (sAsg (fLst (fCons (fVar 9) (fCons (fCall F__law_draw [] (fCons (fVar 0) (fCons (fVar 9) fNil))) fNil))) (gtName 10)) (sSeq (sAsg (fIfE (fT (f2 opEq (fCall F__law_draw [] (fCons (fVar 0) (fCons (fC (.int 2)) fNil))) (fC (.int 0)))) (fRevL (fVar 10)) (fVar 10)) (gtTup 2 (gtsCons (gtName 11) (gtsCons (gtName 12) gtsNil)))) (sDrop (fML mAppend (fVar 8) (fCons (fTup (fCons (fVar 11) (fCons (fVar 12) (fCons (fCall F__law_stair [] (fCons (fVar 0) fNil)) fNil)))) fNil))))) sNext)
def b3__law_net : FS := (sSeq (sAsg (fCall F__law_draw [] (fCons (fVar 0) (fCons (fB gLen (fCons (fVar 5) fNil)) fNil))) (gtName 11)) (sSeq (sAsg (f2 opMod (fB gInt (fCons (f2 opAdd (f2 opAdd (fVar 11) (fC (.int 1))) (fCall F__law_draw [] (fCons (fVar 0) (fCons (f2 opSub (fB gLen (fCons (fVar 5) fNil)) (fC (.int 1))) fNil)))) fNil)) (fB gLen (fCons (fVar 5) fNil))) (gtName 12)) (sDrop (fML mAppend (fVar 8) (fCons (fTup (fCons (fVar 11) (fCons (fVar 12) (fCons (fCall F__law_stair [] (fCons (fVar 0) fNil)) fNil)))) fNil)))))
/-- _law_net(pot, most, pipes); slots pot, most, pipes, taps, springs, heights, turn, at, found, place, pair, near, far -/
def f__law_net : FS := (sSeq (sPar 3 4 (fCons (f2 opAdd (fC (.int 1)) (fCall F__law_draw [] (fCons (fVar 0) (fCons (fVar 1) fNil)))) (fCons (f2 opAdd (fC (.int 1)) (fCall F__law_draw [] (fCons (fVar 0) (fCons (fC (.int 2)) fNil)))) fNil))) (sSeq (sAsg (f2 opRep (fLst (fCons (fC .non) fNil)) (fVar 3)) (gtName 5)) (sSeq (sFor (fRange1 (fCons (fVar 4) fNil)) (gtName 6) b1__law_net) (sSeq (sAsg (fLstM fNil) (gtName 8)) (sSeq (sFor (fRange2 (fCons (fC (.int 1)) (fCons (fB gLen (fCons (fVar 5) fNil)) fNil))) (gtName 9) b2__law_net) (sSeq (sFor (fRange1 (fCons (fCall F__law_draw [] (fCons (fVar 0) (fCons (fVar 2) fNil))) fNil)) (gtName 6) b3__law_net) (sRet (fTup (fCons (fC (.str "net")) (fCons (fB gTuple (fCons (fVar 5) fNil)) (fCons (fB gTuple (fCons (fVar 8) fNil)) fNil)))))))))))
def F__law_net : Fn := runF 3 13 f__law_net
/-- is_tuple(value, many); slots value, many -/
def f_is_tuple : FS := (sRet (fAndV (fIsi .tup (fVar 0)) (f2 opEq (fB gLen (fCons (fVar 0) fNil)) (fVar 1))))
def F_is_tuple : Fn := runF 2 2 f_is_tuple
/-- is_integer(value); slots value -/
def f_is_integer : FS := (sRet (fAndV (fIsi .int (fVar 0)) (fNotV (fIsi .bl (fVar 0)))))
def F_is_integer : Fn := runF 1 1 f_is_integer
/-- are_heights(net, value); slots net, value, one, height -/
def f_are_heights : FS := (sSeq (sIf (fOr (fNot (fTru (fCall F_is_tuple [] (fCons (fVar 1) (fCons (fB gLen (fCons (f2 opIx (fVar 0) (fC (.int 1))) fNil)) fNil))))) (fNot (fTru (fB gAll (fCons (fLc (fSeq (fVar 1)) (gtName 2) bYes (fCall F_is_integer [] (fCons (fVar 2) fNil)) [2]) fNil))))) (sRet (fC (.bl false))) sNext) (sRet (fB gAll (fCons (fLc (fZip (fCons (fVar 1) (fCons (f2 opIx (fVar 0) (fC (.int 1))) fNil))) (gtTup 2 (gtsCons (gtName 2) (gtsCons (gtName 3) gtsNil))) bYes (fOrV (f2 opIs (fVar 3) (fC .non)) (f2 opEq (fVar 2) (fVar 3))) [2, 3]) fNil))))
def F_are_heights : Fn := runF 2 4 f_are_heights
/-- are_flows(net, value); slots net, value, one -/
def f_are_flows : FS := (sRet (fAndV (fCall F_is_tuple [] (fCons (fVar 1) (fCons (fB gLen (fCons (f2 opIx (fVar 0) (fC (.int 2))) fNil)) fNil))) (fB gAll (fCons (fLc (fSeq (fVar 1)) (gtName 2) bYes (fCall F_is_integer [] (fCons (fVar 2) fNil)) [2]) fNil))))
def F_are_flows : Fn := runF 2 3 f_are_flows
/-- is_let(ends, value); slots ends, value -/
def f_is_let : FS := (sRet (fAndV (fOrV (f2 opIs (f2 opIx (fVar 0) (fC (.int 0))) (fC .non)) (f2 opGe (fVar 1) (f2 opIx (fVar 0) (fC (.int 0))))) (fOrV (f2 opIs (f2 opIx (fVar 0) (fC (.int 1))) (fC .non)) (f2 opLe (fVar 1) (f2 opIx (fVar 0) (fC (.int 1)))))))
def F_is_let : Fn := runF 2 2 f_is_let
/-- ahead_of(stair, at); slots stair, at -/
def f_ahead_of : FS := (sRet (fIfE (fT (f2 opEq (fVar 1) (fC (.int 0)))) (f2 opIx (fVar 0) (fC (.int 1))) (f2 opIx (f2 opIx (f2 opIx (fVar 0) (fC (.int 2))) (f2 opSub (fVar 1) (fC (.int 1)))) (fC (.int 1)))))
def F_ahead_of : Fn := runF 2 2 f_ahead_of
/-- drop_ends(stair); slots stair, steps, near, far -/
def f_drop_ends : FS := (sSeq (sAsg (f2 opIx (fVar 0) (fC (.int 2))) (gtName 1)) (sSeq (sAsg (fIfE (fT (f2 opIs (f2 opIx (fVar 0) (fC (.int 1))) (fC .non))) (f2 opIx (f2 opIx (fVar 1) (fC (.int 0))) (fC (.int 0))) (fC .non)) (gtName 2)) (sSeq (sAsg (fIfE (fAnd (fT (f2 opNe (fVar 1) (fTup fNil))) (fT (f2 opIs (f2 opIx (f2 opIx (fVar 1) (f1 opNeg (fC (.int 1)))) (fC (.int 1))) (fC .non)))) (f2 opIx (f2 opIx (fVar 1) (f1 opNeg (fC (.int 1)))) (fC (.int 0))) (fC .non)) (gtName 3)) (sRet (fTup (fCons (fVar 2) (fCons (fVar 3) fNil)))))))
def F_drop_ends : Fn := runF 1 4 f_drop_ends
/-- flow_ends(stair); slots stair -/
def f_flow_ends : FS := (sRet (fTup (fCons (f2 opIx (fVar 0) (fC (.int 1))) (fCons (fIfE (fT (f2 opEq (f2 opIx (fVar 0) (fC (.int 2))) (fTup fNil))) (f2 opIx (fVar 0) (fC (.int 1))) (f2 opIx (f2 opIx (f2 opIx (fVar 0) (fC (.int 2))) (f1 opNeg (fC (.int 1)))) (fC (.int 1)))) fNil))))
def F_flow_ends : Fn := runF 1 1 f_flow_ends
def b1_flows_in : FS := (sSeq (sIf (fT (f2 opLt (fVar 1) (fVar 3))) (sRet (fTup (fCons (fCall F_ahead_of [] (fCons (fVar 0) (fCons (fVar 2) fNil))) (fCons (fCall F_ahead_of [] (fCons (fVar 0) (fCons (fVar 2) fNil))) fNil)))) sNext) (sIf (fT (f2 opEq (fVar 1) (fVar 3))) (sRet (fTup (fCons (fCall F_ahead_of [] (fCons (fVar 0) (fCons (fVar 2) fNil))) (fCons (fVar 4) fNil)))) sNext))
/-- flows_in(stair, drop); slots stair, drop, at, step, most -/
def f_flows_in : FS := (sSeq (sIf (fNot (fTru (fCall F_is_let [] (fCons (fCall F_drop_ends [] (fCons (fVar 0) fNil)) (fCons (fVar 1) fNil))))) (sRet (fC .non)) sNext) (sSeq (sFor (fEnum (fCons (f2 opIx (fVar 0) (fC (.int 2))) fNil)) (gtTup 2 (gtsCons (gtName 2) (gtsCons (gtTup 2 (gtsCons (gtName 3) (gtsCons (gtName 4) gtsNil))) gtsNil))) b1_flows_in) (sRet (fTup (fCons (f2 opIx (fCall F_flow_ends [] (fCons (fVar 0) fNil)) (fC (.int 1))) (fCons (f2 opIx (fCall F_flow_ends [] (fCons (fVar 0) fNil)) (fC (.int 1))) fNil))))))
def F_flows_in : Fn := runF 2 5 f_flows_in
/-- is_on(stair, drop, flow); slots stair, drop, flow, ends -/
def f_is_on : FS := (sSeq (sAsg (fCall F_flows_in [] (fCons (fVar 0) (fCons (fVar 1) fNil))) (gtName 3)) (sRet (fAndV (f2 opNotIs (fVar 3) (fC .non)) (fCall F_is_let [] (fCons (fVar 3) (fCons (fVar 2) fNil))))))
def F_is_on : Fn := runF 3 4 f_is_on
/-- drop_of(net, heights, pipe); slots net, heights, pipe, near, far, stair -/
def f_drop_of : FS := (sSeq (sAsg (f2 opIx (f2 opIx (fVar 0) (fC (.int 2))) (fVar 2)) (gtTup 3 (gtsCons (gtName 3) (gtsCons (gtName 4) (gtsCons (gtName 5) gtsNil))))) (sRet (f2 opSub (f2 opIx (fVar 1) (fVar 3)) (f2 opIx (fVar 1) (fVar 4)))))
def F_drop_of : Fn := runF 3 6 f_drop_of
/-- taps_of(net); slots net, place, height -/
def f_taps_of : FS := (sRet (fLc (fEnum (fCons (f2 opIx (fVar 0) (fC (.int 1))) fNil)) (gtTup 2 (gtsCons (gtName 1) (gtsCons (gtName 2) gtsNil))) (fT (f2 opIs (fVar 2) (fC .non))) (fVar 1) [1, 2]))
def F_taps_of : Fn := runF 1 3 f_taps_of
def b1_comes_to : FS := (sAsg (f2 opSub (f2 opAdd (fVar 3) (fIfE (fT (f2 opEq (fVar 5) (fVar 2))) (fVar 7) (fC (.int 0)))) (fIfE (fT (f2 opEq (fVar 4) (fVar 2))) (fVar 7) (fC (.int 0)))) (gtName 3))
/-- comes_to(net, flows, place); slots net, flows, place, found, near, far, stair, flow -/
def f_comes_to : FS := (sSeq (sAsg (fC (.int 0)) (gtName 3)) (sSeq (sFor (fZip (fCons (f2 opIx (fVar 0) (fC (.int 2))) (fCons (fVar 1) fNil))) (gtTup 2 (gtsCons (gtTup 3 (gtsCons (gtName 4) (gtsCons (gtName 5) (gtsCons (gtName 6) gtsNil)))) (gtsCons (gtName 7) gtsNil))) b1_comes_to) (sRet (fVar 3))))
def F_comes_to : Fn := runF 3 8 f_comes_to
/-- are_kept(net, draws, flows); slots net, draws, flows, place -/
def f_are_kept : FS := (sRet (fB gAll (fCons (fLc (fSeq (fCall F_taps_of [] (fCons (fVar 0) fNil))) (gtName 3) bYes (f2 opEq (fCall F_comes_to [] (fCons (fVar 0) (fCons (fVar 2) (fCons (fVar 3) fNil)))) (f2 opIx (fVar 1) (fVar 3))) [3]) fNil)))
def F_are_kept : Fn := runF 3 4 f_are_kept
def b1_is_stand_of : FS := (sIf (fNot (fTru (fCall F_is_on [] (fCons (f2 opIx (f2 opIx (f2 opIx (fVar 0) (fC (.int 2))) (fVar 4)) (fC (.int 2))) (fCons (fCall F_drop_of [] (fCons (fVar 0) (fCons (fVar 2) (fCons (fVar 4) fNil)))) (fCons (fVar 5) fNil)))))) (sRet (fC (.bl false))) sNext)
/-- is_stand_of(net, draws, heights, flows); slots net, draws, heights, flows, pipe, flow -/
def f_is_stand_of : FS := (sSeq (sFor (fEnum (fCons (fVar 3) fNil)) (gtTup 2 (gtsCons (gtName 4) (gtsCons (gtName 5) gtsNil))) b1_is_stand_of) (sRet (fCall F_are_kept [] (fCons (fVar 0) (fCons (fVar 1) (fCons (fVar 3) fNil))))))
def F_is_stand_of : Fn := runF 4 6 f_is_stand_of
/-- is_stand_any(net, draws, value); slots net, draws, value -/
def f_is_stand_any : FS := (sSeq (sIf (fOr (fNot (fTru (fCall F_is_tuple [] (fCons (fVar 2) (fCons (fC (.int 2)) fNil))))) (fOr (fNot (fTru (fCall F_are_heights [] (fCons (fVar 0) (fCons (f2 opIx (fVar 2) (fC (.int 0))) fNil))))) (fNot (fTru (fCall F_are_flows [] (fCons (fVar 0) (fCons (f2 opIx (fVar 2) (fC (.int 1))) fNil))))))) (sRet (fC (.bl false))) sNext) (sRet (fCall F_is_stand_of [] (fCons (fVar 0) (fCons (fVar 1) (fCons (f2 opIx (fVar 2) (fC (.int 0))) (fCons (f2 opIx (fVar 2) (fC (.int 1))) fNil)))))))
def F_is_stand_any : Fn := runF 3 3 f_is_stand_any
/-- is_within(value, least, most); slots value, least, most -/
def f_is_within : FS := (sRet (fAndV (fCall F_is_integer [] (fCons (fVar 0) fNil)) (f3 opLe opLe (fVar 1) (fVar 0) (fVar 2))))
def F_is_within : Fn := runF 3 3 f_is_within
/-- is_number(value); slots value -/
def f_is_number : FS := (sRet (fCall F_is_within [] (fCons (fVar 0) (fCons (f1 opNeg (fC (.int 999))) (fCons (fC (.int 999)) fNil)))))
def F_is_number : Fn := runF 1 1 f_is_number
/-- are_mosts(least, mosts); slots least, mosts, told, most, one, near, far -/
def f_are_mosts : FS := (sSeq (sIf (fAnd (fT (f2 opIs (fVar 0) (fC .non))) (fT (f2 opEq (fVar 1) (fLst fNil)))) (sRet (fC (.bl false))) sNext) (sSeq (sIf (fTru (fB gAny (fCons (fLc (fSeq (fSl (fVar 1) oNone (oSome (f1 opNeg (fC (.int 1)))))) (gtName 3) bYes (f2 opIs (fVar 3) (fC .non)) [3]) fNil))) (sRet (fC (.bl false))) sNext) (sSeq (sAsg (fLc (fSeq (f2 opAdd (fLst (fCons (fVar 0) fNil)) (fVar 1))) (gtName 4) (fT (f2 opNotIs (fVar 4) (fC .non))) (fVar 4) [4]) (gtName 2)) (sRet (fAndV (fB gAll (fCons (fLc (fSeq (fVar 2)) (gtName 4) bYes (fCall F_is_number [] (fCons (fVar 4) fNil)) [4]) fNil)) (fB gAll (fCons (fLc (fZip (fCons (fVar 2) (fCons (fSl (fVar 2) (oSome (fC (.int 1))) oNone) fNil))) (gtTup 2 (gtsCons (gtName 5) (gtsCons (gtName 6) gtsNil))) bYes (f2 opLt (fVar 5) (fVar 6)) [5, 6]) fNil)))))))
def F_are_mosts : Fn := runF 2 7 f_are_mosts
/-- is_stair_any(value); slots value, steps, one, drop, most, near, far -/
def f_is_stair_any : FS := (sSeq (sIf (fOr (fNot (fTru (fCall F_is_tuple [] (fCons (fVar 0) (fCons (fC (.int 3)) fNil))))) (fOr (fNot (fTru (fIsi .str (f2 opIx (fVar 0) (fC (.int 0)))))) (fT (f2 opNe (f2 opIx (fVar 0) (fC (.int 0))) (fC (.str "stair")))))) (sRet (fC (.bl false))) sNext) (sSeq (sAsg (f2 opIx (fVar 0) (fC (.int 2))) (gtName 1)) (sSeq (sIf (fOr (fNot (fTru (fIsi .tup (fVar 1)))) (fOr (fT (f2 opGt (fB gLen (fCons (fVar 1) fNil)) (fC (.int 40)))) (fNot (fTru (fB gAll (fCons (fLc (fSeq (fVar 1)) (gtName 2) bYes (fCall F_is_tuple [] (fCons (fVar 2) (fCons (fC (.int 2)) fNil))) [2]) fNil)))))) (sRet (fC (.bl false))) sNext) (sSeq (sIf (fNot (fTru (fB gAll (fCons (fLc (fSeq (fVar 1)) (gtTup 2 (gtsCons (gtName 3) (gtsCons (gtName 4) gtsNil))) bYes (fCall F_is_number [] (fCons (fVar 3) fNil)) [3, 4]) fNil)))) (sRet (fC (.bl false))) sNext) (sSeq (sIf (fNot (fTru (fB gAll (fCons (fLc (fZip (fCons (fVar 1) (fCons (fSl (fVar 1) (oSome (fC (.int 1))) oNone) fNil))) (gtTup 2 (gtsCons (gtName 5) (gtsCons (gtName 6) gtsNil))) bYes (f2 opLt (f2 opIx (fVar 5) (fC (.int 0))) (f2 opIx (fVar 6) (fC (.int 0)))) [5, 6]) fNil)))) (sRet (fC (.bl false))) sNext) (sRet (fCall F_are_mosts [] (fCons (f2 opIx (fVar 0) (fC (.int 1))) (fCons (fLc (fSeq (fVar 1)) (gtTup 2 (gtsCons (gtName 3) (gtsCons (gtName 4) gtsNil))) bYes (fVar 4) [3, 4]) fNil)))))))))
def F_is_stair_any : Fn := runF 1 7 f_is_stair_any
/-- is_pipe_of(value, many); slots value, many -/
def f_is_pipe_of : FS := (sSeq (sIf (fOr (fNot (fTru (fCall F_is_tuple [] (fCons (fVar 0) (fCons (fC (.int 3)) fNil))))) (fOr (fNot (fTru (fCall F_is_within [] (fCons (f2 opIx (fVar 0) (fC (.int 0))) (fCons (fC (.int 0)) (fCons (f2 opSub (fVar 1) (fC (.int 1))) fNil)))))) (fNot (fTru (fCall F_is_within [] (fCons (f2 opIx (fVar 0) (fC (.int 1))) (fCons (fC (.int 0)) (fCons (f2 opSub (fVar 1) (fC (.int 1))) fNil)))))))) (sRet (fC (.bl false))) sNext) (sRet (fAndV (f2 opNe (f2 opIx (fVar 0) (fC (.int 0))) (f2 opIx (fVar 0) (fC (.int 1)))) (fCall F_is_stair_any [] (fCons (f2 opIx (fVar 0) (fC (.int 2))) fNil)))))
def F_is_pipe_of : Fn := runF 2 2 f_is_pipe_of
/-- is_net_any(value); slots value, heights, pipes, one -/
def f_is_net_any : FS := (sSeq (sIf (fOr (fNot (fTru (fCall F_is_tuple [] (fCons (fVar 0) (fCons (fC (.int 3)) fNil))))) (fOr (fNot (fTru (fIsi .str (f2 opIx (fVar 0) (fC (.int 0)))))) (fT (f2 opNe (f2 opIx (fVar 0) (fC (.int 0))) (fC (.str "net")))))) (sRet (fC (.bl false))) sNext) (sSeq (sAsg (fTup (fCons (f2 opIx (fVar 0) (fC (.int 1))) (fCons (f2 opIx (fVar 0) (fC (.int 2))) fNil))) (gtTup 2 (gtsCons (gtName 1) (gtsCons (gtName 2) gtsNil)))) (sSeq (sIf (fOr (fNot (fTru (fIsi .tup (fVar 1)))) (fNot (fT (f3 opLe opLe (fC (.int 1)) (fB gLen (fCons (fVar 1) fNil)) (fC (.int 12)))))) (sRet (fC (.bl false))) sNext) (sSeq (sIf (fNot (fTru (fB gAll (fCons (fLc (fSeq (fVar 1)) (gtName 3) bYes (fOrV (f2 opIs (fVar 3) (fC .non)) (fCall F_is_number [] (fCons (fVar 3) fNil))) [3]) fNil)))) (sRet (fC (.bl false))) sNext) (sSeq (sIf (fOr (fNot (fTru (fIsi .tup (fVar 2)))) (fT (f2 opGt (fB gLen (fCons (fVar 2) fNil)) (fC (.int 24))))) (sRet (fC (.bl false))) sNext) (sRet (fB gAll (fCons (fLc (fSeq (fVar 2)) (gtName 3) bYes (fCall F_is_pipe_of [] (fCons (fVar 3) (fCons (fB gLen (fCons (fVar 1) fNil)) fNil))) [3]) fNil))))))))
def F_is_net_any : Fn := runF 1 4 f_is_net_any
/-- want_net(net); slots net -/
def f_want_net : FS := (sIf (fNot (fTru (fCall F_is_net_any [] (fCons (fVar 0) fNil)))) sBad sNext)
def F_want_net : Fn := runF 1 1 f_want_net
/-- are_draws(net, value); slots net, value, one, height -/
def f_are_draws : FS := (sSeq (sIf (fOr (fNot (fTru (fCall F_is_tuple [] (fCons (fVar 1) (fCons (fB gLen (fCons (f2 opIx (fVar 0) (fC (.int 1))) fNil)) fNil))))) (fNot (fTru (fB gAll (fCons (fLc (fSeq (fVar 1)) (gtName 2) bYes (fCall F_is_number [] (fCons (fVar 2) fNil)) [2]) fNil))))) (sRet (fC (.bl false))) sNext) (sRet (fB gAll (fCons (fLc (fZip (fCons (fVar 1) (fCons (f2 opIx (fVar 0) (fC (.int 1))) fNil))) (gtTup 2 (gtsCons (gtName 2) (gtsCons (gtName 3) gtsNil))) bYes (fOrV (f2 opIs (fVar 3) (fC .non)) (f2 opEq (fVar 2) (fC (.int 0)))) [2, 3]) fNil))))
def F_are_draws : Fn := runF 2 4 f_are_draws
/-- want_draws(net, draws); slots net, draws -/
def f_want_draws : FS := (sIf (fNot (fTru (fCall F_are_draws [] (fCons (fVar 0) (fCons (fVar 1) fNil))))) sBad sNext)
def F_want_draws : Fn := runF 2 2 f_want_draws
/-- want_asked(net, draws); slots net, draws -/
def f_want_asked : FS := (sSeq (sDrop (fCall F_want_net [] (fCons (fVar 0) fNil))) (sDrop (fCall F_want_draws [] (fCons (fVar 0) (fCons (fVar 1) fNil)))))
def F_want_asked : Fn := runF 2 2 f_want_asked
/-- is_stand(net, draws, value); slots net, draws, value -/
def f_is_stand : FS := (sSeq (sDrop (fCall F_want_asked [] (fCons (fVar 0) (fCons (fVar 1) fNil)))) (sRet (fCall F_is_stand_any [] (fCons (fVar 0) (fCons (fVar 1) (fCons (fVar 2) fNil))))))
def F_is_stand : Fn := runF 3 3 f_is_stand
/-- want_flows(net, flows); slots net, flows -/
def f_want_flows : FS := (sIf (fNot (fTru (fCall F_are_flows [] (fCons (fVar 0) (fCons (fVar 1) fNil))))) sBad sNext)
def F_want_flows : Fn := runF 2 2 f_want_flows
def b1_not_let_flow : FS := (sIf (fNot (fTru (fCall F_is_let [] (fCons (fCall F_flow_ends [] (fCons (f2 opIx (f2 opIx (f2 opIx (fVar 0) (fC (.int 2))) (fVar 2)) (fC (.int 2))) fNil)) (fCons (fVar 3) fNil))))) (sRet (fVar 2)) sNext)
/-- not_let_flow(net, flows); slots net, flows, pipe, flow -/
def f_not_let_flow : FS := (sSeq (sFor (fEnum (fCons (fVar 1) fNil)) (gtTup 2 (gtsCons (gtName 2) (gtsCons (gtName 3) gtsNil))) b1_not_let_flow) (sRet (fC .non)))
def F_not_let_flow : Fn := runF 2 4 f_not_let_flow
/-- nearest(low, high); slots low, high -/
def f_nearest : FS := (sSeq (sIf (fAnd (fT (f2 opNotIs (fVar 0) (fC .non))) (fT (f2 opGt (fVar 0) (fC (.int 0))))) (sRet (fVar 0)) sNext) (sRet (fIfE (fAnd (fT (f2 opNotIs (fVar 1) (fC .non))) (fT (f2 opLt (fVar 1) (fC (.int 0))))) (fVar 1) (fC (.int 0)))))
def F_nearest : Fn := runF 2 2 f_nearest
def b1_under_steps : FS := (sSeq (sAsg (fIfE (fT (f2 opIs (fVar 4) (fC .non))) (fVar 1) (fB gMax (fCons (fVar 1) (fCons (fVar 4) fNil)))) (gtName 7)) (sSeq (sAsg (fIfE (fT (f2 opIs (fVar 6) (fC .non))) (fVar 2) (fB gMin (fCons (fVar 2) (fCons (fVar 6) fNil)))) (gtName 8)) (sSeq (sAsg (f2 opAdd (fVar 3) (f2 opMulI (fVar 5) (fB gMax (fCons (fC (.int 0)) (fCons (f2 opSub (fVar 8) (fVar 7)) fNil))))) (gtName 3)) (sAsg (fVar 6) (gtName 4)))))
/-- under_steps(stair, low, high); slots stair, low, high, found, ahead, drop, most, begin, end -/
def f_under_steps : FS := (sSeq (sPar 3 4 (fCons (fC (.int 0)) (fCons (f2 opIx (fVar 0) (fC (.int 1))) fNil))) (sSeq (sFor (fSeq (f2 opIx (fVar 0) (fC (.int 2)))) (gtTup 2 (gtsCons (gtName 5) (gtsCons (gtName 6) gtsNil))) b1_under_steps) (sRet (fVar 3))))
def F_under_steps : Fn := runF 3 9 f_under_steps
/-- energy_of(stair, flow); slots stair, flow, least, most, begin -/
def f_energy_of : FS := (sSeq (sAsg (fCall F_flow_ends [] (fCons (fVar 0) fNil)) (gtTup 2 (gtsCons (gtName 2) (gtsCons (gtName 3) gtsNil)))) (sSeq (sAsg (fCall F_nearest [] (fCons (fVar 2) (fCons (fVar 3) fNil))) (gtName 4)) (sRet (fIfE (fT (f2 opGe (fVar 1) (fVar 4))) (fCall F_under_steps [] (fCons (fVar 0) (fCons (fVar 4) (fCons (fVar 1) fNil)))) (f1 opNeg (fCall F_under_steps [] (fCons (fVar 0) (fCons (fVar 1) (fCons (fVar 4) fNil)))))))))
def F_energy_of : Fn := runF 2 5 f_energy_of
/-- flows_cost(net, flows); slots net, flows, found, springs, pipe, flow, place, height -/
def f_flows_cost : FS := (sSeq (sAsg (fB gSum (fCons (fLc (fZip (fCons (f2 opIx (fVar 0) (fC (.int 2))) (fCons (fVar 1) fNil))) (gtTup 2 (gtsCons (gtName 4) (gtsCons (gtName 5) gtsNil))) bYes (fCall F_energy_of [] (fCons (f2 opIx (fVar 4) (fC (.int 2))) (fCons (fVar 5) fNil))) [4, 5]) fNil)) (gtName 2)) (sSeq (sAsg (fLc (fEnum (fCons (f2 opIx (fVar 0) (fC (.int 1))) fNil)) (gtTup 2 (gtsCons (gtName 6) (gtsCons (gtName 7) gtsNil))) (fT (f2 opNotIs (fVar 7) (fC .non))) (fVar 6) [6, 7]) (gtName 3)) (sRet (f2 opAdd (fVar 2) (fB gSum (fCons (fLc (fSeq (fVar 3)) (gtName 6) bYes (f2 opMulI (f2 opIx (f2 opIx (fVar 0) (fC (.int 1))) (fVar 6)) (fCall F_comes_to [] (fCons (fVar 0) (fCons (fVar 1) (fCons (fVar 6) fNil))))) [6]) fNil))))))
def F_flows_cost : Fn := runF 2 8 f_flows_cost
/-- want_let(pipe); slots pipe -/
def f_want_let : FS := (sIf (fT (f2 opNotIs (fVar 0) (fC .non))) (sRaise "NotLet" "pipe" (fVar 0)) sNext)
def F_want_let : Fn := runF 1 1 f_want_let
/-- flows_energy(net, flows); slots net, flows -/
def f_flows_energy : FS := (sSeq (sDrop (fCall F_want_net [] (fCons (fVar 0) fNil))) (sSeq (sDrop (fCall F_want_flows [] (fCons (fVar 0) (fCons (fVar 1) fNil)))) (sSeq (sDrop (fCall F_want_let [] (fCons (fCall F_not_let_flow [] (fCons (fVar 0) (fCons (fVar 1) fNil))) fNil))) (sRet (fCall F_flows_cost [] (fCons (fVar 0) (fCons (fVar 1) fNil)))))))
def F_flows_energy : Fn := runF 2 2 f_flows_energy
/-- want_heights(net, heights); slots net, heights -/
def f_want_heights : FS := (sIf (fNot (fTru (fCall F_are_heights [] (fCons (fVar 0) (fCons (fVar 1) fNil))))) sBad sNext)
def F_want_heights : Fn := runF 2 2 f_want_heights
def b1_not_let_drop : FS := (sIf (fNot (fTru (fCall F_is_let [] (fCons (fCall F_drop_ends [] (fCons (fVar 5) fNil)) (fCons (f2 opSub (f2 opIx (fVar 1) (fVar 3)) (f2 opIx (fVar 1) (fVar 4))) fNil))))) (sRet (fVar 2)) sNext)
/-- not_let_drop(net, heights); slots net, heights, pipe, near, far, stair -/
def f_not_let_drop : FS := (sSeq (sFor (fEnum (fCons (f2 opIx (fVar 0) (fC (.int 2))) fNil)) (gtTup 2 (gtsCons (gtName 2) (gtsCons (gtTup 3 (gtsCons (gtName 3) (gtsCons (gtName 4) (gtsCons (gtName 5) gtsNil)))) gtsNil))) b1_not_let_drop) (sRet (fC .non)))
def F_not_let_drop : Fn := runF 2 6 f_not_let_drop
/-- worth_of(stair, drop); slots stair, drop, least, most, flow -/
def f_worth_of : FS := (sSeq (sAsg (fCall F_flows_in [] (fCons (fVar 0) (fCons (fVar 1) fNil))) (gtTup 2 (gtsCons (gtName 2) (gtsCons (gtName 3) gtsNil)))) (sSeq (sAsg (fCall F_nearest [] (fCons (fVar 2) (fCons (fVar 3) fNil))) (gtName 4)) (sRet (f2 opSub (f2 opMulI (fVar 1) (fVar 4)) (fCall F_energy_of [] (fCons (fVar 0) (fCons (fVar 4) fNil)))))))
def F_worth_of : Fn := runF 2 5 f_worth_of
/-- heights_worth_of(net, draws, heights); slots net, draws, heights, found, much, height, pipe -/
def f_heights_worth_of : FS := (sSeq (sAsg (f1 opNeg (fB gSum (fCons (fLc (fZip (fCons (fVar 1) (fCons (fVar 2) fNil))) (gtTup 2 (gtsCons (gtName 4) (gtsCons (gtName 5) gtsNil))) bYes (f2 opMulI (fVar 4) (fVar 5)) [4, 5]) fNil))) (gtName 3)) (sRet (f2 opSub (fVar 3) (fB gSum (fCons (fLc (fRange1 (fCons (fB gLen (fCons (f2 opIx (fVar 0) (fC (.int 2))) fNil)) fNil)) (gtName 6) bYes (fCall F_worth_of [] (fCons (f2 opIx (f2 opIx (f2 opIx (fVar 0) (fC (.int 2))) (fVar 6)) (fC (.int 2))) (fCons (fCall F_drop_of [] (fCons (fVar 0) (fCons (fVar 2) (fCons (fVar 6) fNil)))) fNil))) [6]) fNil)))))
def F_heights_worth_of : Fn := runF 3 7 f_heights_worth_of
/-- heights_worth(net, draws, heights); slots net, draws, heights -/
def f_heights_worth : FS := (sSeq (sDrop (fCall F_want_asked [] (fCons (fVar 0) (fCons (fVar 1) fNil)))) (sSeq (sDrop (fCall F_want_heights [] (fCons (fVar 0) (fCons (fVar 2) fNil)))) (sSeq (sDrop (fCall F_want_let [] (fCons (fCall F_not_let_drop [] (fCons (fVar 0) (fCons (fVar 2) fNil))) fNil))) (sRet (fCall F_heights_worth_of [] (fCons (fVar 0) (fCons (fVar 1) (fCons (fVar 2) fNil))))))))
def F_heights_worth : Fn := runF 3 3 f_heights_worth
/-- _law_flow_ends(stair); slots stair -/
def f__law_flow_ends : FS := (sRet (fTup (fCons (f2 opIx (fVar 0) (fC (.int 1))) (fCons (fIfE (fT (f2 opNe (f2 opIx (fVar 0) (fC (.int 2))) (fTup fNil))) (f2 opIx (f2 opIx (f2 opIx (fVar 0) (fC (.int 2))) (f1 opNeg (fC (.int 1)))) (fC (.int 1))) (f2 opIx (fVar 0) (fC (.int 1)))) fNil))))
def F__law_flow_ends : Fn := runF 1 1 f__law_flow_ends
/-- _law_is_between(value, ends); slots value, ends -/
def f__law_is_between : FS := (sRet (fAndV (fOrV (f2 opIs (f2 opIx (fVar 1) (fC (.int 0))) (fC .non)) (f2 opLe (f2 opIx (fVar 1) (fC (.int 0))) (fVar 0))) (fOrV (f2 opIs (f2 opIx (fVar 1) (fC (.int 1))) (fC .non)) (f2 opLe (fVar 0) (f2 opIx (fVar 1) (fC (.int 1)))))))
def F__law_is_between : Fn := runF 2 2 f__law_is_between
/-- _law_drop_ends(stair); slots stair, low -/
def f__law_drop_ends : FS := (sSeq (sAsg (fIfE (fT (f2 opIs (f2 opIx (fVar 0) (fC (.int 1))) (fC .non))) (f2 opIx (f2 opIx (f2 opIx (fVar 0) (fC (.int 2))) (fC (.int 0))) (fC (.int 0))) (fC .non)) (gtName 1)) (sRet (fTup (fCons (fVar 1) (fCons (fIfE (fAnd (fT (f2 opNe (f2 opIx (fVar 0) (fC (.int 2))) (fTup fNil))) (fT (f2 opIs (f2 opIx (f2 opIx (f2 opIx (fVar 0) (fC (.int 2))) (f1 opNeg (fC (.int 1)))) (fC (.int 1))) (fC .non)))) (f2 opIx (f2 opIx (f2 opIx (fVar 0) (fC (.int 2))) (f1 opNeg (fC (.int 1)))) (fC (.int 0))) (fC .non)) fNil)))))
def F__law_drop_ends : Fn := runF 1 2 f__law_drop_ends
def b1__law_flows_at : FS := (sSeq (sIf (fT (f2 opEq (fVar 1) (fVar 3))) (sRet (fTup (fCons (fVar 2) (fCons (fVar 4) fNil)))) sNext) (sSeq (sIf (fT (f2 opLt (fVar 1) (fVar 3))) (sRet (fTup (fCons (fVar 2) (fCons (fVar 2) fNil)))) sNext) (sAsg (fVar 4) (gtName 2))))
/-- _law_flows_at(stair, drop); slots stair, drop, low, step, most -/
def f__law_flows_at : FS := (sSeq (sIf (fNot (fTru (fCall F__law_is_between [] (fCons (fVar 1) (fCons (fCall F__law_drop_ends [] (fCons (fVar 0) fNil)) fNil))))) (sRet (fC .non)) sNext) (sSeq (sAsg (f2 opIx (fVar 0) (fC (.int 1))) (gtName 2)) (sSeq (sFor (fSeq (f2 opIx (fVar 0) (fC (.int 2)))) (gtTup 2 (gtsCons (gtName 3) (gtsCons (gtName 4) gtsNil))) b1__law_flows_at) (sRet (fTup (fCons (fVar 2) (fCons (fVar 2) fNil)))))))
def F__law_flows_at : Fn := runF 2 5 f__law_flows_at
/-- _law_comes(net, flows, place); slots net, flows, place, flow, near, far, stair -/
def f__law_comes : FS := (sRet (f2 opSub (fB gSum (fCons (fLc (fZip (fCons (f2 opIx (fVar 0) (fC (.int 2))) (fCons (fVar 1) fNil))) (gtTup 2 (gtsCons (gtTup 3 (gtsCons (gtName 4) (gtsCons (gtName 5) (gtsCons (gtName 6) gtsNil)))) (gtsCons (gtName 3) gtsNil))) (fT (f2 opEq (fVar 5) (fVar 2))) (fVar 3) [3, 4, 5, 6]) fNil)) (fB gSum (fCons (fLc (fZip (fCons (f2 opIx (fVar 0) (fC (.int 2))) (fCons (fVar 1) fNil))) (gtTup 2 (gtsCons (gtTup 3 (gtsCons (gtName 4) (gtsCons (gtName 5) (gtsCons (gtName 6) gtsNil)))) (gtsCons (gtName 3) gtsNil))) (fT (f2 opEq (fVar 4) (fVar 2))) (fVar 3) [3, 4, 5, 6]) fNil))))
def F__law_comes : Fn := runF 3 7 f__law_comes
/-- _law_near_nought(ends); slots ends -/
def f__law_near_nought : FS := (sSeq (sIf (fAnd (fT (f2 opNotIs (f2 opIx (fVar 0) (fC (.int 0))) (fC .non))) (fT (f2 opGt (f2 opIx (fVar 0) (fC (.int 0))) (fC (.int 0))))) (sRet (f2 opIx (fVar 0) (fC (.int 0)))) sNext) (sRet (fIfE (fAnd (fT (f2 opNotIs (f2 opIx (fVar 0) (fC (.int 1))) (fC .non))) (fT (f2 opLt (f2 opIx (fVar 0) (fC (.int 1))) (fC (.int 0))))) (f2 opIx (fVar 0) (fC (.int 1))) (fC (.int 0)))))
def F__law_near_nought : Fn := runF 1 1 f__law_near_nought
def b1__law_under : FS := (sSeq (sPar 7 8 (fCons (fIfE (fOr (fT (f2 opIs (fVar 4) (fC .non))) (fT (f2 opLt (fVar 4) (fVar 1)))) (fVar 1) (fVar 4)) (fCons (fIfE (fOr (fT (f2 opIs (fVar 6) (fC .non))) (fT (f2 opGt (fVar 6) (fVar 2)))) (fVar 2) (fVar 6)) fNil))) (sSeq (sAsg (f2 opAdd (fVar 3) (fIfE (fT (f2 opGt (fVar 8) (fVar 7))) (f2 opMulI (fVar 5) (f2 opSub (fVar 8) (fVar 7))) (fC (.int 0)))) (gtName 3)) (sAsg (fVar 6) (gtName 4))))
/-- _law_under(stair, low, high); slots stair, low, high, found, ahead, drop, most, begin, end -/
def f__law_under : FS := (sSeq (sPar 3 4 (fCons (fC (.int 0)) (fCons (f2 opIx (fVar 0) (fC (.int 1))) fNil))) (sSeq (sFor (fSeq (f2 opIx (fVar 0) (fC (.int 2)))) (gtTup 2 (gtsCons (gtName 5) (gtsCons (gtName 6) gtsNil))) b1__law_under) (sRet (fVar 3))))
def F__law_under : Fn := runF 3 9 f__law_under
/-- _law_energy(stair, flow); slots stair, flow, begin -/
def f__law_energy : FS := (sSeq (sAsg (fCall F__law_near_nought [] (fCons (fCall F__law_flow_ends [] (fCons (fVar 0) fNil)) fNil)) (gtName 2)) (sRet (fIfE (fT (f2 opGe (fVar 1) (fVar 2))) (fCall F__law_under [] (fCons (fVar 0) (fCons (fVar 2) (fCons (fVar 1) fNil)))) (f2 opSub (fC (.int 0)) (fCall F__law_under [] (fCons (fVar 0) (fCons (fVar 1) (fCons (fVar 2) fNil))))))))
def F__law_energy : Fn := runF 2 3 f__law_energy
def b1__law_cost : FS := (sAsg (f2 opAdd (fVar 2) (fIfE (fT (f2 opIs (fVar 4) (fC .non))) (fC (.int 0)) (f2 opMulI (fVar 4) (fCall F__law_comes [] (fCons (fVar 0) (fCons (fVar 1) (fCons (fVar 3) fNil))))))) (gtName 2))
/-- _law_cost(net, flows); slots net, flows, found, place, height, flow, near, far, stair -/
def f__law_cost : FS := (sSeq (sAsg (fB gSum (fCons (fLc (fZip (fCons (f2 opIx (fVar 0) (fC (.int 2))) (fCons (fVar 1) fNil))) (gtTup 2 (gtsCons (gtTup 3 (gtsCons (gtName 6) (gtsCons (gtName 7) (gtsCons (gtName 8) gtsNil)))) (gtsCons (gtName 5) gtsNil))) bYes (fCall F__law_energy [] (fCons (fVar 8) (fCons (fVar 5) fNil))) [5, 6, 7, 8]) fNil)) (gtName 2)) (sSeq (sFor (fEnum (fCons (f2 opIx (fVar 0) (fC (.int 1))) fNil)) (gtTup 2 (gtsCons (gtName 3) (gtsCons (gtName 4) gtsNil))) b1__law_cost) (sRet (fVar 2))))
def F__law_cost : Fn := runF 2 9 f__law_cost
/-- _law_worth(stair, drop); slots stair, drop, flow -/
def f__law_worth : FS := (sSeq (sAsg (fCall F__law_near_nought [] (fCons (fCall F__law_flows_at [] (fCons (fVar 0) (fCons (fVar 1) fNil))) fNil)) (gtName 2)) (sRet (f2 opSub (f2 opMulI (fVar 1) (fVar 2)) (fCall F__law_energy [] (fCons (fVar 0) (fCons (fVar 2) fNil))))))
def F__law_worth : Fn := runF 2 3 f__law_worth
/-- _law_value(net, draws, heights); slots net, draws, heights, found, much, height, near, far, stair -/
def f__law_value : FS := (sSeq (sAsg (f2 opSub (fC (.int 0)) (fB gSum (fCons (fLc (fZip (fCons (fVar 1) (fCons (fVar 2) fNil))) (gtTup 2 (gtsCons (gtName 4) (gtsCons (gtName 5) gtsNil))) bYes (f2 opMulI (fVar 4) (fVar 5)) [4, 5]) fNil))) (gtName 3)) (sRet (f2 opSub (fVar 3) (fB gSum (fCons (fLc (fSeq (f2 opIx (fVar 0) (fC (.int 2)))) (gtTup 3 (gtsCons (gtName 6) (gtsCons (gtName 7) (gtsCons (gtName 8) gtsNil)))) bYes (fCall F__law_worth [] (fCons (fVar 8) (fCons (f2 opSub (f2 opIx (fVar 2) (fVar 6)) (f2 opIx (fVar 2) (fVar 7))) fNil))) [6, 7, 8]) fNil)))))
def F__law_value : Fn := runF 3 9 f__law_value
def b1__law_some_flows : FS := (sSeq (sAsg (fCall F__law_flow_ends [] (fCons (fVar 5) fNil)) (gtName 6)) (sSeq (sAsg (f2 opSub (f2 opAdd (fCall F__law_near_nought [] (fCons (fVar 6) fNil)) (fCall F__law_draw [] (fCons (fVar 0) (fCons (fC (.int 9)) fNil)))) (fC (.int 4))) (gtName 7)) (sSeq (sAsg (f2 opEq (fCall F__law_draw [] (fCons (fVar 0) (fCons (fC (.int 20)) fNil))) (fC (.int 0))) (gtName 8)) (sDrop (fML mAppend (fVar 2) (fCons (fIfE (fOr (fTru (fVar 8)) (fTru (fCall F__law_is_between [] (fCons (fVar 7) (fCons (fVar 6) fNil))))) (fVar 7) (fCall F__law_near_nought [] (fCons (fVar 6) fNil))) fNil))))))
/-- _law_some_flows(pot, net); slots pot, net, found, near, far, stair, ends, flow, is_free -/
def f__law_some_flows : FS := (sSeq (sAsg (fLstM fNil) (gtName 2)) (sSeq (sFor (fSeq (f2 opIx (fVar 1) (fC (.int 2)))) (gtTup 3 (gtsCons (gtName 3) (gtsCons (gtName 4) (gtsCons (gtName 5) gtsNil)))) b1__law_some_flows) (sRet (fB gTuple (fCons (fVar 2) fNil)))))
def F__law_some_flows : Fn := runF 2 9 f__law_some_flows
/-- _law_some_heights(pot, net); slots pot, net, base, height -/
def f__law_some_heights : FS := (sSeq (sAsg (f2 opSub (fCall F__law_draw [] (fCons (fVar 0) (fCons (fC (.int 13)) fNil))) (fC (.int 6))) (gtName 2)) (sRet (fB gTuple (fCons (fLc (fSeq (f2 opIx (fVar 1) (fC (.int 1)))) (gtName 3) bYes (fIfE (fT (f2 opIs (fVar 3) (fC .non))) (f2 opSub (f2 opAdd (fVar 2) (fCall F__law_draw [] (fCons (fVar 0) (fCons (fC (.int 7)) fNil)))) (fC (.int 3))) (fVar 3)) [3]) fNil))))
def F__law_some_heights : Fn := runF 2 4 f__law_some_heights
/-- _law_two_right(pot, net); slots pot, net, flows, heights, draws, far, odd, cost, value, told, place, height, at, one, other, stair -/
def f__law_two_right : FS := (sSeq (sAsg (fTup (fCons (fCall F__law_some_flows [] (fCons (fVar 0) (fCons (fVar 1) fNil))) (fCons (fCall F__law_some_heights [] (fCons (fVar 0) (fCons (fVar 1) fNil))) fNil))) (gtTup 2 (gtsCons (gtName 2) (gtsCons (gtName 3) gtsNil)))) (sSeq (sAsg (fB gTuple (fCons (fLc (fEnum (fCons (f2 opIx (fVar 1) (fC (.int 1))) fNil)) (gtTup 2 (gtsCons (gtName 10) (gtsCons (gtName 11) gtsNil))) bYes (fIfE (fT (f2 opNotIs (fVar 11) (fC .non))) (fC (.int 0)) (fCall F__law_comes [] (fCons (fVar 1) (fCons (fVar 2) (fCons (fVar 10) fNil))))) [10, 11]) fNil)) (gtName 4)) (sSeq (sAsg (fLc (fEnum (fCons (f2 opIx (fVar 1) (fC (.int 2))) fNil)) (gtTup 2 (gtsCons (gtName 12) (gtsCons (gtTup 3 (gtsCons (gtName 13) (gtsCons (gtName 14) (gtsCons (gtName 15) gtsNil)))) gtsNil))) (fNot (fTru (fCall F__law_is_between [] (fCons (f2 opIx (fVar 2) (fVar 12)) (fCons (fCall F__law_flow_ends [] (fCons (fVar 15) fNil)) fNil))))) (fVar 12) [12, 13, 14, 15]) (gtName 5)) (sSeq (sAsg (fLc (fEnum (fCons (f2 opIx (fVar 1) (fC (.int 2))) fNil)) (gtTup 2 (gtsCons (gtName 12) (gtsCons (gtTup 3 (gtsCons (gtName 13) (gtsCons (gtName 14) (gtsCons (gtName 15) gtsNil)))) gtsNil))) (fT (f2 opIs (fCall F__law_flows_at [] (fCons (fVar 15) (fCons (f2 opSub (f2 opIx (fVar 3) (fVar 13)) (f2 opIx (fVar 3) (fVar 14))) fNil))) (fC .non))) (fVar 12) [12, 13, 14, 15]) (gtName 6)) (sSeq (sAsg (fIfE (fT (f2 opNe (fVar 5) (fLst fNil))) (fLst (fCons (fC (.str "not let")) (fCons (f2 opIx (fVar 5) (fC (.int 0))) (fCons (fC (.bl true)) fNil)))) (fCall F__law_cost [] (fCons (fVar 1) (fCons (fVar 2) fNil)))) (gtName 7)) (sSeq (sAsg (fIfE (fT (f2 opNe (fVar 6) (fLst fNil))) (fLst (fCons (fC (.str "not let")) (fCons (f2 opIx (fVar 6) (fC (.int 0))) (fCons (fC (.bl true)) fNil)))) (fCall F__law_value [] (fCons (fVar 1) (fCons (fVar 4) (fCons (fVar 3) fNil))))) (gtName 8)) (sSeq (sAsg (fLstM (fCons (fLam 0 ("_law_two_right", none) "_law_two_right.<locals>.<lambda>" "NotLet" gs__law_heard (fCall F_flows_energy [] (fCons (fVar 1) (fCons (fVar 2) fNil)))) fNil)) (gtName 9)) (sSeq (sDrop (fML mAppend (fVar 9) (fCons (fLam 0 ("_law_two_right", none) "_law_two_right.<locals>.<lambda>" "NotLet" gs__law_heard (fCallK F_flows_energy 0 2 [1, 0] fNil (fCons (fVar 2) (fCons (fVar 1) fNil)))) fNil))) (sSeq (frz 9) (sSeq (sIf (fT (f2 opNe (fB gRepr (fCons (fVar 9) fNil)) (fB gRepr (fCons (fLst (fCons (fVar 7) (fCons (fVar 7) fNil))) fNil)))) (sRet (fC (.bl false))) sNext) (sSeq (sAsg (fLstM (fCons (fLam 0 ("_law_two_right", none) "_law_two_right.<locals>.<lambda>" "NotLet" gs__law_heard (fCall F_heights_worth [] (fCons (fVar 1) (fCons (fVar 4) (fCons (fVar 3) fNil))))) fNil)) (gtName 9)) (sSeq (sDrop (fML mAppend (fVar 9) (fCons (fLam 0 ("_law_two_right", none) "_law_two_right.<locals>.<lambda>" "NotLet" gs__law_heard (fCallK F_heights_worth 0 3 [2, 1, 0] fNil (fCons (fVar 3) (fCons (fVar 4) (fCons (fVar 1) fNil))))) fNil))) (sSeq (frz 9) (sSeq (sIf (fT (f2 opNe (fB gRepr (fCons (fVar 9) fNil)) (fB gRepr (fCons (fLst (fCons (fVar 8) (fCons (fVar 8) fNil))) fNil)))) (sRet (fC (.bl false))) sNext) (sSeq (sIf (fOr (fT (f2 opNe (fVar 5) (fLst fNil))) (fT (f2 opNe (fVar 6) (fLst fNil)))) (sRet (f2 opIs (fCall F_is_stand [] (fCons (fVar 1) (fCons (fVar 4) (fCons (fTup (fCons (fVar 3) (fCons (fVar 2) fNil))) fNil)))) (fC (.bl false)))) sNext) (sRet (fAndV (f2 opGe (fVar 7) (fVar 8)) (f2 opEq (f2 opEq (fVar 7) (fVar 8)) (fCall F_is_stand [] (fCons (fVar 1) (fCons (fVar 4) (fCons (fTup (fCons (fVar 3) (fCons (fVar 2) fNil))) fNil))))))))))))))))))))))
def F__law_two_right : Fn := runF 2 16 f__law_two_right
/-- _law_right(pot); slots pot, net, shown, turn -/
def f__law_right : FS := (sSeq (sAsg (fCall F__law_net [] (fCons (fVar 0) (fCons (fC (.int 4)) (fCons (fC (.int 4)) fNil)))) (gtName 1)) (sSeq (sAsg (fB gRepr (fCons (fVar 1) fNil)) (gtName 2)) (sRet (fAndV (fB gAll (fCons (fLc (fRange1 (fCons (fC (.int 8)) fNil)) (gtName 3) bYes (fCall F__law_two_right [] (fCons (fVar 0) (fCons (fVar 1) fNil))) [3]) fNil)) (f2 opEq (fB gRepr (fCons (fVar 1) fNil)) (fVar 2))))))
def F__law_right : Fn := runF 1 4 f__law_right
/-- law(script); slots script -/
def f_law : FS := (sRet (fAndV (fCall F__law_right [] (fCons (fCall F__law_pot [] (fCons (fVar 0) (fCons (fC (.int 0)) fNil))) fNil)) (fCall F__law_right [] (fCons (fCall F__law_pot [] (fCons (fVar 0) (fCons (fC (.int 1)) fNil))) fNil))))
def F_law : Fn := runF 1 1 f_law
end K82

/-! their walks, printed by gen.py -/
namespace K82
open PySem PySem.Spec PyProof.Rows L2 MV
open LamX

abbrev FnP (K : PySem.W.Frag) (x : Str) (st : Stmt) (f : Addr) (fd : FuncData) : Prop := FunD K x x (defArgs st) (defBody st) (defScope st) [] [] f fd
section
variable {P : Program} {w : World} {K : PySem.W.Frag} {mg : Str → Option Value} {base : Heap} {RX : RXT} {f : Addr} {fd : FuncData}
theorem sc__law_heard : FnScope ["call", "told", "e"] ["call"] (defScope (top 85)) := ⟨rfl, rfl, rfl, by decide +kernel, rfl, by decide +kernel, by decide +kernel⟩
abbrev N__law_pot : List Str := ["script", "k", "cell"]
theorem sc__law_pot : FnScope ["script", "k", "cell"] ["script", "k"] (defScope (top 61)) := ⟨rfl, rfl, rfl, by decide +kernel, rfl, by decide +kernel, by decide +kernel⟩
set_option maxHeartbeats 4000000 in
theorem ok__law_pot  (F : FnP K "_law_pot" (top 61) f fd) (b_abs : mg "abs" = none) (b_int : mg "int" = none) (b_len : mg "len" = none) (b_max : mg "max" = none) (b_sum : mg "sum" = none) : FnM P w K mg base (RXK K) 1 f fd ["script", "k"] F__law_pot := by
  have sc := sc__law_pot
  refine fnM_of F sc (fun cdv A outer s H E hr hgd => ?_)
  have c := cok_of (P := P) (w := w) (K := K) (mg := mg) (base := base) (N := ["script", "k", "cell"]) (outer := outer) (H := H) (E := E) hgd
  have hu64 := hr.units
  have hu65 := hu65_of hr
  have hu1 := hu_of hr
  exact (vs_cons (vs_set 2 sc.nd (v_if (vt_cmp op_lt ov_lt (v_var 1) (v_callB call_len cv_len rfl b_len (by decide +kernel) (va_cons (v_var 0) va_nil)) (nobehind _ (by decide) (by decide))) (v_callB call_abs cv_abs rfl b_abs (by decide +kernel) (va_cons (v_ix hu1 (v_var 0) (v_var 1)) va_nil)) (v_op o_add ov_add (v_op o_add ov_add (v_op op_mul ov_mulI v_int (v_var 1)) v_int) (v_op op_mod ov_mod (v_callTy call_int1 cv_int rfl b_int (by decide +kernel) (va_cons (v_callB (cr_sum c.calm) cv_sum rfl b_sum (by decide +kernel) (va_cons (v_sl (v_var 0) vo_none (vo_some v_int)) va_nil)) va_nil)) v_int)))) (vs_one (vs_ret (v_lstM (va_cons (v_callB (MV.CallR.or (call_max2 c.calm) (cr_max c.calm)) cv_max rfl b_max (by decide +kernel) (va_cons v_int (va_cons (v_op op_sub ov_sub (v_var 2) (v_op op_pow ov_pow v_int v_int)) va_nil))) (va_cons (v_op o_add ov_add (v_op op_mod ov_mod (v_callTy call_int1 cv_int rfl b_int (by decide +kernel) (va_cons (v_op o_add ov_add (v_op o_add ov_add (v_op op_mul ov_mulI (v_op op_mod ov_mod (v_callTy call_int1 cv_int rfl b_int (by decide +kernel) (va_cons (v_var 2) va_nil)) v_int) v_int) (v_op op_mul ov_mulI v_int (v_var 1))) v_int) va_nil)) v_int) v_int) va_nil))))))
abbrev N__law_draw : List Str := ["pot", "size", "digit"]
theorem sc__law_draw : FnScope ["pot", "size", "digit"] ["pot", "size"] (defScope (top 62)) := ⟨rfl, rfl, rfl, by decide +kernel, rfl, by decide +kernel, by decide +kernel⟩
set_option maxHeartbeats 4000000 in
theorem ok__law_draw  (F : FnP K "_law_draw" (top 62) f fd) (b_divmod : mg "divmod" = none) (b_int : mg "int" = none) : FnM P w K mg base (RXK K) 1 f fd ["pot", "size"] F__law_draw := by
  have sc := sc__law_draw
  refine fnM_of F sc (fun cdv A outer s H E hr hgd => ?_)
  have c := cok_of (P := P) (w := w) (K := K) (mg := mg) (base := base) (N := ["pot", "size", "digit"]) (outer := outer) (H := H) (E := E) hgd
  have hu64 := hr.units
  have hu65 := hu65_of hr
  have hu1 := hu_of hr
  exact (vs_cons (vs_if (vt_cmp op_gt ov_gt (v_ix hu1 (v_var 0) v_int) v_int (nobehind _ (by decide) (by decide))) (vs_cons (vs_asgH (v_callB call_divmod cv_divmod rfl b_divmod (by decide +kernel) (va_cons (v_ix hu1 (v_var 0) v_int) (va_cons (v_var 1) va_nil))) (hg_tup c.calm (hgs_cons (hg_sub (RX := RXK K) (W := W0) hu1 (v_var 0) v_int) (hgs_cons (hg_name 2 sc.nd) hgs_nil)))) (vs_one (vs_ret (v_var 2)))) vs_nil) (vs_cons (vs_asgH (v_op op_mod ov_mod (v_callTy call_int1 cv_int rfl b_int (by decide +kernel) (va_cons (v_op o_add ov_add (v_op op_mul ov_mulI (v_ix hu1 (v_var 0) v_int) v_int) v_int) va_nil)) v_int) (hg_sub (RX := RXK K) (W := W0) hu1 (v_var 0) v_int)) (vs_one (vs_ret (v_op op_mod ov_mod (v_callTy call_int1 cv_int rfl b_int (by decide +kernel) (va_cons (v_op op_fdiv ov_fdiv (v_op op_mod ov_mod (v_callTy call_int1 cv_int rfl b_int (by decide +kernel) (va_cons (v_op op_mul ov_mulI (v_ix hu1 (v_var 0) v_int) (v_ix hu1 (v_var 0) v_int)) va_nil)) v_int) v_int) va_nil)) (v_var 1))))))
abbrev N__law_pick : List Str := ["pot", "some"]
theorem sc__law_pick : FnScope ["pot", "some"] ["pot", "some"] (defScope (top 63)) := ⟨rfl, rfl, rfl, by decide +kernel, rfl, by decide +kernel, by decide +kernel⟩
set_option maxHeartbeats 4000000 in
theorem ok__law_pick {f__law_draw_a : Addr} {d__law_draw : FuncData} (F : FnP K "_law_pick" (top 63) f fd) (C__law_draw : Cal P w K mg base (RXK K) 1 "_law_draw" f__law_draw_a d__law_draw ["pot", "size"] F__law_draw) (b_len : mg "len" = none) : FnM P w K mg base (RXK K) 2 f fd ["pot", "some"] F__law_pick := by
  have sc := sc__law_pick
  refine fnM_of F sc (fun cdv A outer s H E hr hgd => ?_)
  have c := cok_of (P := P) (w := w) (K := K) (mg := mg) (base := base) (N := ["pot", "some"]) (outer := outer) (H := H) (E := E) hgd
  have hu64 := hr.units
  have hu65 := hu65_of hr
  have hu1 := hu_of hr
  exact (vs_one (vs_ret (v_ix hu1 (v_var 1) (v_call C__law_draw.m c (hr.mono (by decide)) rfl C__law_draw.g C__law_draw.kp C__law_draw.b .nil (fun _ _ => .nil) (va_cons (v_var 0) (va_cons (v_callB call_len cv_len rfl b_len (by decide +kernel) (va_cons (v_var 1) va_nil)) va_nil))))))
abbrev N__law_stair : List Str := ["pot", "way", "rise", "drop", "most", "least", "steps", "turn"]
theorem sc__law_stair : FnScope ["pot", "way", "rise", "drop", "most", "least", "steps", "turn"] ["pot"] (defScope (top 64)) := ⟨rfl, rfl, rfl, by decide +kernel, rfl, by decide +kernel, by decide +kernel⟩
set_option maxHeartbeats 4000000 in
theorem ok__law_stair {f__law_draw_a : Addr} {d__law_draw : FuncData} {f__law_pick_a : Addr} {d__law_pick : FuncData} (F : FnP K "_law_stair" (top 64) f fd) (C__law_draw : Cal P w K mg base (RXK K) 1 "_law_draw" f__law_draw_a d__law_draw ["pot", "size"] F__law_draw) (C__law_pick : Cal P w K mg base (RXK K) 2 "_law_pick" f__law_pick_a d__law_pick ["pot", "some"] F__law_pick) (b_range : mg "range" = none) (b_tuple : mg "tuple" = none) : FnM P w K mg base (RXK K) 3 f fd ["pot"] F__law_stair := by
  have sc := sc__law_stair
  refine fnM_of F sc (fun cdv A outer s H E hr hgd => ?_)
  have c := cok_of (P := P) (w := w) (K := K) (mg := mg) (base := base) (N := ["pot", "way", "rise", "drop", "most", "least", "steps", "turn"]) (outer := outer) (H := H) (E := E) hgd
  have hu64 := hr.units
  have hu65 := hu65_of hr
  have hu1 := hu_of hr
  exact (vs_cons (vs_set 1 sc.nd (v_call C__law_draw.m c (hr.mono (by decide)) rfl C__law_draw.g C__law_draw.kp C__law_draw.b .nil (fun _ _ => .nil) (va_cons (v_var 0) (va_cons v_int va_nil)))) (vs_cons (vs_if (vt_cmp op_lt ov_lt (v_var 1) v_int (nobehind _ (by decide) (by decide))) (vs_cons (vs_set 2 sc.nd (v_op op_sub ov_sub (v_call C__law_draw.m c (hr.mono (by decide)) rfl C__law_draw.g C__law_draw.kp C__law_draw.b .nil (fun _ _ => .nil) (va_cons (v_var 0) (va_cons v_int va_nil))) v_int)) (vs_one (vs_ret (v_call C__law_pick.m c (hr.mono (by decide)) rfl C__law_pick.g C__law_pick.kp C__law_pick.b .nil (fun _ _ => .nil) (va_cons (v_var 0) (va_cons (v_lst (va_cons (v_tup (va_cons v_str (va_cons v_int (va_cons (v_tup (va_cons (v_tup (va_cons v_int (va_cons v_int va_nil))) va_nil)) va_nil)))) (va_cons (v_tup (va_cons v_str (va_cons v_int (va_cons (v_tup (va_cons (v_tup (va_cons (v_var 2) (va_cons v_int va_nil))) va_nil)) va_nil)))) (va_cons (v_tup (va_cons v_str (va_cons v_int (va_cons (v_tup va_nil) va_nil)))) (va_cons (v_tup (va_cons v_str (va_cons (v_call C__law_draw.m c (hr.mono (by decide)) rfl C__law_draw.g C__law_draw.kp C__law_draw.b .nil (fun _ _ => .nil) (va_cons (v_var 0) (va_cons v_int va_nil))) (va_cons (v_tup (va_cons (v_tup (va_cons (v_op o_add ov_add v_int (v_var 2)) (va_cons v_non va_nil))) va_nil)) va_nil)))) (va_cons (v_tup (va_cons v_str (va_cons v_non (va_cons (v_tup (va_cons (v_tup (va_cons (v_var 2) (va_cons v_non va_nil))) va_nil)) va_nil)))) va_nil)))))) va_nil)))))) vs_nil) (vs_cons (vs_par 3 4 c.calm sc.nd (va_cons (v_op op_sub ov_sub (v_call C__law_draw.m c (hr.mono (by decide)) rfl C__law_draw.g C__law_draw.kp C__law_draw.b .nil (fun _ _ => .nil) (va_cons (v_var 0) (va_cons v_int va_nil))) v_int) (va_cons (v_op op_sub ov_sub (v_call C__law_draw.m c (hr.mono (by decide)) rfl C__law_draw.g C__law_draw.kp C__law_draw.b .nil (fun _ _ => .nil) (va_cons (v_var 0) (va_cons v_int va_nil))) v_int) va_nil))) (vs_cons (vs_par 5 6 c.calm sc.nd (va_cons (v_if (vt_cmp (o_eq hu64) ov_eq (v_call C__law_draw.m c (hr.mono (by decide)) rfl C__law_draw.g C__law_draw.kp C__law_draw.b .nil (fun _ _ => .nil) (va_cons (v_var 0) (va_cons v_int va_nil))) v_int (nobehind _ (by decide) (by decide))) v_non (v_var 4)) (va_cons (v_lstM va_nil) va_nil))) (vs_cons (vs_for c.po c.calm (vi_range1 rfl b_range (va_cons (v_op o_add ov_add v_int (v_call C__law_draw.m c (hr.mono (by decide)) rfl C__law_draw.g C__law_draw.kp C__law_draw.b .nil (fun _ _ => .nil) (va_cons (v_var 0) (va_cons v_int va_nil)))) va_nil)) (vg_name 7 sc.nd) (vs_cons (vs_par 3 4 c.calm sc.nd (va_cons (v_op o_add ov_add (v_op o_add ov_add (v_var 3) v_int) (v_call C__law_draw.m c (hr.mono (by decide)) rfl C__law_draw.g C__law_draw.kp C__law_draw.b .nil (fun _ _ => .nil) (va_cons (v_var 0) (va_cons v_int va_nil)))) (va_cons (v_op o_add ov_add (v_op o_add ov_add (v_var 4) v_int) (v_call C__law_draw.m c (hr.mono (by decide)) rfl C__law_draw.g C__law_draw.kp C__law_draw.b .nil (fun _ _ => .nil) (va_cons (v_var 0) (va_cons v_int va_nil)))) va_nil))) (vs_one (vs_expr (v_ml mt_append mv_append PySem.F.slot_list_append PySem.F.type_list_append (v_var 6) (va_cons (v_tup (va_cons (v_var 3) (va_cons (v_var 4) va_nil))) va_nil)))))) (vs_cons (vs_if (vt_cmp (o_eq hu64) ov_eq (v_call C__law_draw.m c (hr.mono (by decide)) rfl C__law_draw.g C__law_draw.kp C__law_draw.b .nil (fun _ _ => .nil) (va_cons (v_var 0) (va_cons v_int va_nil))) v_int (nobehind _ (by decide) (by decide))) (vs_one (vs_asgH (v_tup (va_cons (v_ix hu1 (v_ix hu1 (v_var 6) (v_un un_neg uv_neg v_int)) v_int) (va_cons v_non va_nil))) (hg_sub (RX := RXK K) (W := W0) hu1 (v_var 6) (v_un un_neg uv_neg v_int)))) vs_nil) (vs_one (vs_ret (v_tup (va_cons v_str (va_cons (v_var 5) (va_cons (v_callTy call_tuple_of cv_tuple rfl b_tuple (by decide +kernel) (va_cons (v_var 6) va_nil)) va_nil))))))))))))
abbrev N__law_net : List Str := ["pot", "most", "pipes", "taps", "springs", "heights", "turn", "at", "found", "place", "pair", "near", "far"]
theorem sc__law_net : FnScope ["pot", "most", "pipes", "taps", "springs", "heights", "turn", "at", "found", "place", "pair", "near", "far"] ["pot", "most", "pipes"] (defScope (top 65)) := ⟨rfl, rfl, rfl, by decide +kernel, rfl, by decide +kernel, by decide +kernel⟩
set_option maxHeartbeats 4000000 in
theorem ok__law_net {f__law_draw_a : Addr} {d__law_draw : FuncData} {f__law_stair_a : Addr} {d__law_stair : FuncData} (F : FnP K "_law_net" (top 65) f fd) (C__law_draw : Cal P w K mg base (RXK K) 1 "_law_draw" f__law_draw_a d__law_draw ["pot", "size"] F__law_draw) (C__law_stair : Cal P w K mg base (RXK K) 3 "_law_stair" f__law_stair_a d__law_stair ["pot"] F__law_stair) (b_int : mg "int" = none) (b_len : mg "len" = none) (b_range : mg "range" = none) (b_tuple : mg "tuple" = none) : FnM P w K mg base (RXK K) 4 f fd ["pot", "most", "pipes"] F__law_net := by
  have sc := sc__law_net
  refine fnM_of F sc (fun cdv A outer s H E hr hgd => ?_)
  have c := cok_of (P := P) (w := w) (K := K) (mg := mg) (base := base) (N := ["pot", "most", "pipes", "taps", "springs", "heights", "turn", "at", "found", "place", "pair", "near", "far"]) (outer := outer) (H := H) (E := E) hgd
  have hu64 := hr.units
  have hu65 := hu65_of hr
  have hu1 := hu_of hr
  exact (vs_cons (vs_par 3 4 c.calm sc.nd (va_cons (v_op o_add ov_add v_int (v_call C__law_draw.m c (hr.mono (by decide)) rfl C__law_draw.g C__law_draw.kp C__law_draw.b .nil (fun _ _ => .nil) (va_cons (v_var 0) (va_cons (v_var 1) va_nil)))) (va_cons (v_op o_add ov_add v_int (v_call C__law_draw.m c (hr.mono (by decide)) rfl C__law_draw.g C__law_draw.kp C__law_draw.b .nil (fun _ _ => .nil) (va_cons (v_var 0) (va_cons v_int va_nil)))) va_nil))) (vs_cons (vs_set 5 sc.nd (v_op o_rep ov_rep (v_lst (va_cons v_non va_nil)) (v_var 3))) (vs_cons (vs_for c.po c.calm (vi_range1 rfl b_range (va_cons (v_var 4) va_nil)) (vg_name 6 sc.nd) (vs_cons (vs_set 7 sc.nd (v_call C__law_draw.m c (hr.mono (by decide)) rfl C__law_draw.g C__law_draw.kp C__law_draw.b .nil (fun _ _ => .nil) (va_cons (v_var 0) (va_cons (v_op o_add ov_add (v_callB call_len cv_len rfl b_len (by decide +kernel) (va_cons (v_var 5) va_nil)) v_int) va_nil)))) (vs_one (vs_set 5 sc.nd (v_op o_add ov_add (v_op o_add ov_add (v_sl (v_var 5) vo_none (vo_some (v_var 7))) (v_lst (va_cons (v_op op_sub ov_sub (v_call C__law_draw.m c (hr.mono (by decide)) rfl C__law_draw.g C__law_draw.kp C__law_draw.b .nil (fun _ _ => .nil) (va_cons (v_var 0) (va_cons v_int va_nil))) v_int) va_nil))) (v_sl (v_var 5) (vo_some (v_var 7)) vo_none)))))) (vs_cons (vs_set 8 sc.nd (v_lstM va_nil)) (vs_cons (vs_for c.po c.calm (vi_range2 rfl b_range (va_cons v_int (va_cons (v_callB call_len cv_len rfl b_len (by decide +kernel) (va_cons (v_var 5) va_nil)) va_nil))) (vg_name 9 sc.nd) (vs_one (vs_if (vt_cmp op_gt ov_gt (v_call C__law_draw.m c (hr.mono (by decide)) rfl C__law_draw.g C__law_draw.kp C__law_draw.b .nil (fun _ _ => .nil) (va_cons (v_var 0) (va_cons v_int va_nil))) v_int (nobehind _ (by decide) (by decide))) (vs_cons (vs_set 10 sc.nd (v_lst (va_cons (v_var 9) (va_cons (v_call C__law_draw.m c (hr.mono (by decide)) rfl C__law_draw.g C__law_draw.kp C__law_draw.b .nil (fun _ _ => .nil) (va_cons (v_var 0) (va_cons (v_var 9) va_nil))) va_nil)))) (vs_cons (vs_asg (v_if (vt_cmp (o_eq hu64) ov_eq (v_call C__law_draw.m c (hr.mono (by decide)) rfl C__law_draw.g C__law_draw.kp C__law_draw.b .nil (fun _ _ => .nil) (va_cons (v_var 0) (va_cons v_int va_nil))) v_int (nobehind _ (by decide) (by decide))) (v_revL (v_var 10)) (v_var 10)) (vg_tup c.calm (vgs_cons (vg_name 11 sc.nd) (vgs_cons (vg_name 12 sc.nd) vgs_nil)))) (vs_one (vs_expr (v_ml mt_append mv_append PySem.F.slot_list_append PySem.F.type_list_append (v_var 8) (va_cons (v_tup (va_cons (v_var 11) (va_cons (v_var 12) (va_cons (v_call C__law_stair.m c (hr.mono (by decide)) rfl C__law_stair.g C__law_stair.kp C__law_stair.b .nil (fun _ _ => .nil) (va_cons (v_var 0) va_nil)) va_nil)))) va_nil)))))) vs_nil))) (vs_cons (vs_for c.po c.calm (vi_range1 rfl b_range (va_cons (v_call C__law_draw.m c (hr.mono (by decide)) rfl C__law_draw.g C__law_draw.kp C__law_draw.b .nil (fun _ _ => .nil) (va_cons (v_var 0) (va_cons (v_var 2) va_nil))) va_nil)) (vg_name 6 sc.nd) (vs_cons (vs_set 11 sc.nd (v_call C__law_draw.m c (hr.mono (by decide)) rfl C__law_draw.g C__law_draw.kp C__law_draw.b .nil (fun _ _ => .nil) (va_cons (v_var 0) (va_cons (v_callB call_len cv_len rfl b_len (by decide +kernel) (va_cons (v_var 5) va_nil)) va_nil)))) (vs_cons (vs_set 12 sc.nd (v_op op_mod ov_mod (v_callTy call_int1 cv_int rfl b_int (by decide +kernel) (va_cons (v_op o_add ov_add (v_op o_add ov_add (v_var 11) v_int) (v_call C__law_draw.m c (hr.mono (by decide)) rfl C__law_draw.g C__law_draw.kp C__law_draw.b .nil (fun _ _ => .nil) (va_cons (v_var 0) (va_cons (v_op op_sub ov_sub (v_callB call_len cv_len rfl b_len (by decide +kernel) (va_cons (v_var 5) va_nil)) v_int) va_nil)))) va_nil)) (v_callB call_len cv_len rfl b_len (by decide +kernel) (va_cons (v_var 5) va_nil)))) (vs_one (vs_expr (v_ml mt_append mv_append PySem.F.slot_list_append PySem.F.type_list_append (v_var 8) (va_cons (v_tup (va_cons (v_var 11) (va_cons (v_var 12) (va_cons (v_call C__law_stair.m c (hr.mono (by decide)) rfl C__law_stair.g C__law_stair.kp C__law_stair.b .nil (fun _ _ => .nil) (va_cons (v_var 0) va_nil)) va_nil)))) va_nil))))))) (vs_one (vs_ret (v_tup (va_cons v_str (va_cons (v_callTy call_tuple_of cv_tuple rfl b_tuple (by decide +kernel) (va_cons (v_var 5) va_nil)) (va_cons (v_callTy call_tuple_of cv_tuple rfl b_tuple (by decide +kernel) (va_cons (v_var 8) va_nil)) va_nil))))))))))))
abbrev N_is_tuple : List Str := ["value", "many"]
theorem sc_is_tuple : FnScope ["value", "many"] ["value", "many"] (defScope (top 3)) := ⟨rfl, rfl, rfl, by decide +kernel, rfl, by decide +kernel, by decide +kernel⟩
set_option maxHeartbeats 4000000 in
theorem ok_is_tuple  (F : FnP K "is_tuple" (top 3) f fd) (b_isinstance : mg "isinstance" = none) (b_len : mg "len" = none) (b_tuple : mg "tuple" = none) : FnM P w K mg base (RXK K) 1 f fd ["value", "many"] F_is_tuple := by
  have sc := sc_is_tuple
  refine fnM_of F sc (fun cdv A outer s H E hr hgd => ?_)
  have c := cok_of (P := P) (w := w) (K := K) (mg := mg) (base := base) (N := ["value", "many"]) (outer := outer) (H := H) (E := E) hgd
  have hu64 := hr.units
  have hu65 := hu65_of hr
  have hu1 := hu_of hr
  exact (vs_one (vs_ret (v_and (v_isi .tup rfl b_isinstance rfl b_tuple (by decide +kernel) (v_var 0)) (v_one (v_cmp (o_eq hu64) ov_eq (v_callB call_len cv_len rfl b_len (by decide +kernel) (va_cons (v_var 0) va_nil)) (v_var 1) (nobehind _ (by decide) (by decide)))))))
abbrev N_is_integer : List Str := ["value"]
theorem sc_is_integer : FnScope ["value"] ["value"] (defScope (top 1)) := ⟨rfl, rfl, rfl, by decide +kernel, rfl, by decide +kernel, by decide +kernel⟩
set_option maxHeartbeats 4000000 in
theorem ok_is_integer  (F : FnP K "is_integer" (top 1) f fd) (b_bool : mg "bool" = none) (b_int : mg "int" = none) (b_isinstance : mg "isinstance" = none) : FnM P w K mg base (RXK K) 1 f fd ["value"] F_is_integer := by
  have sc := sc_is_integer
  refine fnM_of F sc (fun cdv A outer s H E hr hgd => ?_)
  have c := cok_of (P := P) (w := w) (K := K) (mg := mg) (base := base) (N := ["value"]) (outer := outer) (H := H) (E := E) hgd
  have hu64 := hr.units
  have hu65 := hu65_of hr
  have hu1 := hu_of hr
  exact (vs_one (vs_ret (v_and (v_isi .int rfl b_isinstance rfl b_int (by decide +kernel) (v_var 0)) (v_one (v_not (v_isi .bl rfl b_isinstance rfl b_bool (by decide +kernel) (v_var 0)))))))
abbrev N_are_heights : List Str := ["net", "value", "one", "height"]
theorem sc_are_heights : FnScope ["net", "value", "one", "height"] ["net", "value"] (defScope (top 35)) := ⟨rfl, rfl, rfl, by decide +kernel, rfl, by decide +kernel, by decide +kernel⟩
set_option maxHeartbeats 4000000 in
theorem ok_are_heights {f_is_tuple_a : Addr} {d_is_tuple : FuncData} {f_is_integer_a : Addr} {d_is_integer : FuncData} (F : FnP K "are_heights" (top 35) f fd) (C_is_tuple : Cal P w K mg base (RXK K) 1 "is_tuple" f_is_tuple_a d_is_tuple ["value", "many"] F_is_tuple) (C_is_integer : Cal P w K mg base (RXK K) 1 "is_integer" f_is_integer_a d_is_integer ["value"] F_is_integer) (b_all : mg "all" = none) (b_len : mg "len" = none) (b_zip : mg "zip" = none) : FnM P w K mg base (RXK K) 2 f fd ["net", "value"] F_are_heights := by
  have sc := sc_are_heights
  refine fnM_of F sc (fun cdv A outer s H E hr hgd => ?_)
  have c := cok_of (P := P) (w := w) (K := K) (mg := mg) (base := base) (N := ["net", "value", "one", "height"]) (outer := outer) (H := H) (E := E) hgd
  have hu64 := hr.units
  have hu65 := hu65_of hr
  have hu1 := hu_of hr
  exact (vs_cons (vs_if (vt_w (vw_or (vt_not (vt_truth (v_call C_is_tuple.m c (hr.mono (by decide)) rfl C_is_tuple.g C_is_tuple.kp C_is_tuple.b .nil (fun _ _ => .nil) (va_cons (v_var 1) (va_cons (v_callB call_len cv_len rfl b_len (by decide +kernel) (va_cons (v_ix hu1 (v_var 0) v_int) va_nil)) va_nil))))) (vw_or1 (vt_not (vt_truth (v_callB (cr_all c.calm) cv_all rfl b_all (by decide +kernel) (va_cons (v_lc c.calm sc.nd (vi_seq (v_var 1)) (own := [("one", 2)]) (blkOk_by (N := N_are_heights) (sc := defScope (top 35)) (by decide +kernel)) (fun s1 H1 C1 cl1 fp1 => (vg_name 2 sc.nd)) (fun s1 H1 C1 cl1 fp1 => vts_nil) (fun s1 H1 C1 cl1 fp1 => (v_call C_is_integer.m (c.blk s1 H1 _ _ fp1) (hr.mono (by decide)) rfl C_is_integer.g C_is_integer.kp C_is_integer.b .nil (fun _ _ => .nil) (va_cons (v_var 2) va_nil)))) va_nil))))))) (vs_one (vs_ret v_bl)) vs_nil) (vs_one (vs_ret (v_callB (cr_all c.calm) cv_all rfl b_all (by decide +kernel) (va_cons (v_lc c.calm sc.nd (vi_zip rfl b_zip (va_cons (v_var 1) (va_cons (v_ix hu1 (v_var 0) v_int) va_nil))) (own := [("one", 2), ("height", 3)]) (blkOk_by (N := N_are_heights) (sc := defScope (top 35)) (by decide +kernel)) (fun s1 H1 C1 cl1 fp1 => (vg_tup (c.blk s1 H1 _ _ fp1).calm (vgs_cons (vg_name 2 sc.nd) (vgs_cons (vg_name 3 sc.nd) vgs_nil)))) (fun s1 H1 C1 cl1 fp1 => vts_nil) (fun s1 H1 C1 cl1 fp1 => (v_or (v_cmp o_is ov_is (v_var 3) v_non (nobehind _ (by decide) (by decide))) (v_one (v_cmp (o_eq hu64) ov_eq (v_var 2) (v_var 3) (nobehind _ (by decide) (by decide))))))) va_nil)))))
abbrev N_are_flows : List Str := ["net", "value", "one"]
theorem sc_are_flows : FnScope ["net", "value", "one"] ["net", "value"] (defScope (top 36)) := ⟨rfl, rfl, rfl, by decide +kernel, rfl, by decide +kernel, by decide +kernel⟩
set_option maxHeartbeats 4000000 in
theorem ok_are_flows {f_is_tuple_a : Addr} {d_is_tuple : FuncData} {f_is_integer_a : Addr} {d_is_integer : FuncData} (F : FnP K "are_flows" (top 36) f fd) (C_is_tuple : Cal P w K mg base (RXK K) 1 "is_tuple" f_is_tuple_a d_is_tuple ["value", "many"] F_is_tuple) (C_is_integer : Cal P w K mg base (RXK K) 1 "is_integer" f_is_integer_a d_is_integer ["value"] F_is_integer) (b_all : mg "all" = none) (b_len : mg "len" = none) : FnM P w K mg base (RXK K) 2 f fd ["net", "value"] F_are_flows := by
  have sc := sc_are_flows
  refine fnM_of F sc (fun cdv A outer s H E hr hgd => ?_)
  have c := cok_of (P := P) (w := w) (K := K) (mg := mg) (base := base) (N := ["net", "value", "one"]) (outer := outer) (H := H) (E := E) hgd
  have hu64 := hr.units
  have hu65 := hu65_of hr
  have hu1 := hu_of hr
  exact (vs_one (vs_ret (v_and (v_call C_is_tuple.m c (hr.mono (by decide)) rfl C_is_tuple.g C_is_tuple.kp C_is_tuple.b .nil (fun _ _ => .nil) (va_cons (v_var 1) (va_cons (v_callB call_len cv_len rfl b_len (by decide +kernel) (va_cons (v_ix hu1 (v_var 0) v_int) va_nil)) va_nil))) (v_one (v_callB (cr_all c.calm) cv_all rfl b_all (by decide +kernel) (va_cons (v_lc c.calm sc.nd (vi_seq (v_var 1)) (own := [("one", 2)]) (blkOk_by (N := N_are_flows) (sc := defScope (top 36)) (by decide +kernel)) (fun s1 H1 C1 cl1 fp1 => (vg_name 2 sc.nd)) (fun s1 H1 C1 cl1 fp1 => vts_nil) (fun s1 H1 C1 cl1 fp1 => (v_call C_is_integer.m (c.blk s1 H1 _ _ fp1) (hr.mono (by decide)) rfl C_is_integer.g C_is_integer.kp C_is_integer.b .nil (fun _ _ => .nil) (va_cons (v_var 2) va_nil)))) va_nil))))))
abbrev N_is_let : List Str := ["ends", "value"]
theorem sc_is_let : FnScope ["ends", "value"] ["ends", "value"] (defScope (top 22)) := ⟨rfl, rfl, rfl, by decide +kernel, rfl, by decide +kernel, by decide +kernel⟩
set_option maxHeartbeats 4000000 in
theorem ok_is_let  (F : FnP K "is_let" (top 22) f fd)  : FnM P w K mg base (RXK K) 1 f fd ["ends", "value"] F_is_let := by
  have sc := sc_is_let
  refine fnM_of F sc (fun cdv A outer s H E hr hgd => ?_)
  have c := cok_of (P := P) (w := w) (K := K) (mg := mg) (base := base) (N := ["ends", "value"]) (outer := outer) (H := H) (E := E) hgd
  have hu64 := hr.units
  have hu65 := hu65_of hr
  have hu1 := hu_of hr
  exact (vs_one (vs_ret (v_and (v_or (v_cmp o_is ov_is (v_ix hu1 (v_var 0) v_int) v_non (nobehind _ (by decide) (by decide))) (v_one (v_cmp op_ge ov_ge (v_var 1) (v_ix hu1 (v_var 0) v_int) (nobehind _ (by decide) (by decide))))) (v_one (v_or (v_cmp o_is ov_is (v_ix hu1 (v_var 0) v_int) v_non (nobehind _ (by decide) (by decide))) (v_one (v_cmp op_le ov_le (v_var 1) (v_ix hu1 (v_var 0) v_int) (nobehind _ (by decide) (by decide)))))))))
abbrev N_ahead_of : List Str := ["stair", "at"]
theorem sc_ahead_of : FnScope ["stair", "at"] ["stair", "at"] (defScope (top 19)) := ⟨rfl, rfl, rfl, by decide +kernel, rfl, by decide +kernel, by decide +kernel⟩
set_option maxHeartbeats 4000000 in
theorem ok_ahead_of  (F : FnP K "ahead_of" (top 19) f fd)  : FnM P w K mg base (RXK K) 1 f fd ["stair", "at"] F_ahead_of := by
  have sc := sc_ahead_of
  refine fnM_of F sc (fun cdv A outer s H E hr hgd => ?_)
  have c := cok_of (P := P) (w := w) (K := K) (mg := mg) (base := base) (N := ["stair", "at"]) (outer := outer) (H := H) (E := E) hgd
  have hu64 := hr.units
  have hu65 := hu65_of hr
  have hu1 := hu_of hr
  exact (vs_one (vs_ret (v_if (vt_cmp (o_eq hu64) ov_eq (v_var 1) v_int (nobehind _ (by decide) (by decide))) (v_ix hu1 (v_var 0) v_int) (v_ix hu1 (v_ix hu1 (v_ix hu1 (v_var 0) v_int) (v_op op_sub ov_sub (v_var 1) v_int)) v_int))))
abbrev N_drop_ends : List Str := ["stair", "steps", "near", "far"]
theorem sc_drop_ends : FnScope ["stair", "steps", "near", "far"] ["stair"] (defScope (top 20)) := ⟨rfl, rfl, rfl, by decide +kernel, rfl, by decide +kernel, by decide +kernel⟩
set_option maxHeartbeats 4000000 in
theorem ok_drop_ends  (F : FnP K "drop_ends" (top 20) f fd)  : FnM P w K mg base (RXK K) 1 f fd ["stair"] F_drop_ends := by
  have sc := sc_drop_ends
  refine fnM_of F sc (fun cdv A outer s H E hr hgd => ?_)
  have c := cok_of (P := P) (w := w) (K := K) (mg := mg) (base := base) (N := ["stair", "steps", "near", "far"]) (outer := outer) (H := H) (E := E) hgd
  have hu64 := hr.units
  have hu65 := hu65_of hr
  have hu1 := hu_of hr
  exact (vs_cons (vs_set 1 sc.nd (v_ix hu1 (v_var 0) v_int)) (vs_cons (vs_set 2 sc.nd (v_if (vt_cmp o_is ov_is (v_ix hu1 (v_var 0) v_int) v_non (nobehind _ (by decide) (by decide))) (v_ix hu1 (v_ix hu1 (v_var 1) v_int) v_int) v_non)) (vs_cons (vs_set 3 sc.nd (v_if (vt_w (vw_and (vt_cmp (o_ne hu64) ov_ne (v_var 1) (v_tup va_nil) (nobehind _ (by decide) (by decide))) (vw_and1 (vt_cmp o_is ov_is (v_ix hu1 (v_ix hu1 (v_var 1) (v_un un_neg uv_neg v_int)) v_int) v_non (nobehind _ (by decide) (by decide)))))) (v_ix hu1 (v_ix hu1 (v_var 1) (v_un un_neg uv_neg v_int)) v_int) v_non)) (vs_one (vs_ret (v_tup (va_cons (v_var 2) (va_cons (v_var 3) va_nil))))))))
abbrev N_flow_ends : List Str := ["stair"]
theorem sc_flow_ends : FnScope ["stair"] ["stair"] (defScope (top 21)) := ⟨rfl, rfl, rfl, by decide +kernel, rfl, by decide +kernel, by decide +kernel⟩
set_option maxHeartbeats 4000000 in
theorem ok_flow_ends  (F : FnP K "flow_ends" (top 21) f fd)  : FnM P w K mg base (RXK K) 1 f fd ["stair"] F_flow_ends := by
  have sc := sc_flow_ends
  refine fnM_of F sc (fun cdv A outer s H E hr hgd => ?_)
  have c := cok_of (P := P) (w := w) (K := K) (mg := mg) (base := base) (N := ["stair"]) (outer := outer) (H := H) (E := E) hgd
  have hu64 := hr.units
  have hu65 := hu65_of hr
  have hu1 := hu_of hr
  exact (vs_one (vs_ret (v_tup (va_cons (v_ix hu1 (v_var 0) v_int) (va_cons (v_if (vt_cmp (o_eq hu64) ov_eq (v_ix hu1 (v_var 0) v_int) (v_tup va_nil) (nobehind _ (by decide) (by decide))) (v_ix hu1 (v_var 0) v_int) (v_ix hu1 (v_ix hu1 (v_ix hu1 (v_var 0) v_int) (v_un un_neg uv_neg v_int)) v_int)) va_nil)))))
abbrev N_flows_in : List Str := ["stair", "drop", "at", "step", "most"]
theorem sc_flows_in : FnScope ["stair", "drop", "at", "step", "most"] ["stair", "drop"] (defScope (top 23)) := ⟨rfl, rfl, rfl, by decide +kernel, rfl, by decide +kernel, by decide +kernel⟩
set_option maxHeartbeats 4000000 in
theorem ok_flows_in {f_is_let_a : Addr} {d_is_let : FuncData} {f_ahead_of_a : Addr} {d_ahead_of : FuncData} {f_drop_ends_a : Addr} {d_drop_ends : FuncData} {f_flow_ends_a : Addr} {d_flow_ends : FuncData} (F : FnP K "flows_in" (top 23) f fd) (C_is_let : Cal P w K mg base (RXK K) 1 "is_let" f_is_let_a d_is_let ["ends", "value"] F_is_let) (C_ahead_of : Cal P w K mg base (RXK K) 1 "ahead_of" f_ahead_of_a d_ahead_of ["stair", "at"] F_ahead_of) (C_drop_ends : Cal P w K mg base (RXK K) 1 "drop_ends" f_drop_ends_a d_drop_ends ["stair"] F_drop_ends) (C_flow_ends : Cal P w K mg base (RXK K) 1 "flow_ends" f_flow_ends_a d_flow_ends ["stair"] F_flow_ends) (b_enumerate : mg "enumerate" = none) : FnM P w K mg base (RXK K) 2 f fd ["stair", "drop"] F_flows_in := by
  have sc := sc_flows_in
  refine fnM_of F sc (fun cdv A outer s H E hr hgd => ?_)
  have c := cok_of (P := P) (w := w) (K := K) (mg := mg) (base := base) (N := ["stair", "drop", "at", "step", "most"]) (outer := outer) (H := H) (E := E) hgd
  have hu64 := hr.units
  have hu65 := hu65_of hr
  have hu1 := hu_of hr
  exact (vs_cons (vs_if (vt_not (vt_truth (v_call C_is_let.m c (hr.mono (by decide)) rfl C_is_let.g C_is_let.kp C_is_let.b .nil (fun _ _ => .nil) (va_cons (v_call C_drop_ends.m c (hr.mono (by decide)) rfl C_drop_ends.g C_drop_ends.kp C_drop_ends.b .nil (fun _ _ => .nil) (va_cons (v_var 0) va_nil)) (va_cons (v_var 1) va_nil))))) (vs_one (vs_ret v_non)) vs_nil) (vs_cons (vs_for c.po c.calm (vi_enum rfl b_enumerate (va_cons (v_ix hu1 (v_var 0) v_int) va_nil)) (vg_tup c.calm (vgs_cons (vg_name 2 sc.nd) (vgs_cons (vg_tup c.calm (vgs_cons (vg_name 3 sc.nd) (vgs_cons (vg_name 4 sc.nd) vgs_nil))) vgs_nil))) (vs_cons (vs_if (vt_cmp op_lt ov_lt (v_var 1) (v_var 3) (nobehind _ (by decide) (by decide))) (vs_one (vs_ret (v_tup (va_cons (v_call C_ahead_of.m c (hr.mono (by decide)) rfl C_ahead_of.g C_ahead_of.kp C_ahead_of.b .nil (fun _ _ => .nil) (va_cons (v_var 0) (va_cons (v_var 2) va_nil))) (va_cons (v_call C_ahead_of.m c (hr.mono (by decide)) rfl C_ahead_of.g C_ahead_of.kp C_ahead_of.b .nil (fun _ _ => .nil) (va_cons (v_var 0) (va_cons (v_var 2) va_nil))) va_nil))))) vs_nil) (vs_one (vs_if (vt_cmp (o_eq hu64) ov_eq (v_var 1) (v_var 3) (nobehind _ (by decide) (by decide))) (vs_one (vs_ret (v_tup (va_cons (v_call C_ahead_of.m c (hr.mono (by decide)) rfl C_ahead_of.g C_ahead_of.kp C_ahead_of.b .nil (fun _ _ => .nil) (va_cons (v_var 0) (va_cons (v_var 2) va_nil))) (va_cons (v_var 4) va_nil))))) vs_nil)))) (vs_one (vs_ret (v_tup (va_cons (v_ix hu1 (v_call C_flow_ends.m c (hr.mono (by decide)) rfl C_flow_ends.g C_flow_ends.kp C_flow_ends.b .nil (fun _ _ => .nil) (va_cons (v_var 0) va_nil)) v_int) (va_cons (v_ix hu1 (v_call C_flow_ends.m c (hr.mono (by decide)) rfl C_flow_ends.g C_flow_ends.kp C_flow_ends.b .nil (fun _ _ => .nil) (va_cons (v_var 0) va_nil)) v_int) va_nil)))))))
abbrev N_is_on : List Str := ["stair", "drop", "flow", "ends"]
theorem sc_is_on : FnScope ["stair", "drop", "flow", "ends"] ["stair", "drop", "flow"] (defScope (top 24)) := ⟨rfl, rfl, rfl, by decide +kernel, rfl, by decide +kernel, by decide +kernel⟩
set_option maxHeartbeats 4000000 in
theorem ok_is_on {f_is_let_a : Addr} {d_is_let : FuncData} {f_flows_in_a : Addr} {d_flows_in : FuncData} (F : FnP K "is_on" (top 24) f fd) (C_is_let : Cal P w K mg base (RXK K) 1 "is_let" f_is_let_a d_is_let ["ends", "value"] F_is_let) (C_flows_in : Cal P w K mg base (RXK K) 2 "flows_in" f_flows_in_a d_flows_in ["stair", "drop"] F_flows_in) : FnM P w K mg base (RXK K) 3 f fd ["stair", "drop", "flow"] F_is_on := by
  have sc := sc_is_on
  refine fnM_of F sc (fun cdv A outer s H E hr hgd => ?_)
  have c := cok_of (P := P) (w := w) (K := K) (mg := mg) (base := base) (N := ["stair", "drop", "flow", "ends"]) (outer := outer) (H := H) (E := E) hgd
  have hu64 := hr.units
  have hu65 := hu65_of hr
  have hu1 := hu_of hr
  exact (vs_cons (vs_set 3 sc.nd (v_call C_flows_in.m c (hr.mono (by decide)) rfl C_flows_in.g C_flows_in.kp C_flows_in.b .nil (fun _ _ => .nil) (va_cons (v_var 0) (va_cons (v_var 1) va_nil)))) (vs_one (vs_ret (v_and (v_cmp o_notIs ov_notIs (v_var 3) v_non (nobehind _ (by decide) (by decide))) (v_one (v_call C_is_let.m c (hr.mono (by decide)) rfl C_is_let.g C_is_let.kp C_is_let.b .nil (fun _ _ => .nil) (va_cons (v_var 3) (va_cons (v_var 2) va_nil))))))))
abbrev N_drop_of : List Str := ["net", "heights", "pipe", "near", "far", "stair"]
theorem sc_drop_of : FnScope ["net", "heights", "pipe", "near", "far", "stair"] ["net", "heights", "pipe"] (defScope (top 39)) := ⟨rfl, rfl, rfl, by decide +kernel, rfl, by decide +kernel, by decide +kernel⟩
set_option maxHeartbeats 4000000 in
theorem ok_drop_of  (F : FnP K "drop_of" (top 39) f fd)  : FnM P w K mg base (RXK K) 1 f fd ["net", "heights", "pipe"] F_drop_of := by
  have sc := sc_drop_of
  refine fnM_of F sc (fun cdv A outer s H E hr hgd => ?_)
  have c := cok_of (P := P) (w := w) (K := K) (mg := mg) (base := base) (N := ["net", "heights", "pipe", "near", "far", "stair"]) (outer := outer) (H := H) (E := E) hgd
  have hu64 := hr.units
  have hu65 := hu65_of hr
  have hu1 := hu_of hr
  exact (vs_cons (vs_asg (v_ix hu1 (v_ix hu1 (v_var 0) v_int) (v_var 2)) (vg_tup c.calm (vgs_cons (vg_name 3 sc.nd) (vgs_cons (vg_name 4 sc.nd) (vgs_cons (vg_name 5 sc.nd) vgs_nil))))) (vs_one (vs_ret (v_op op_sub ov_sub (v_ix hu1 (v_var 1) (v_var 3)) (v_ix hu1 (v_var 1) (v_var 4))))))
abbrev N_taps_of : List Str := ["net", "place", "height"]
theorem sc_taps_of : FnScope ["net", "place", "height"] ["net"] (defScope (top 32)) := ⟨rfl, rfl, rfl, by decide +kernel, rfl, by decide +kernel, by decide +kernel⟩
set_option maxHeartbeats 4000000 in
theorem ok_taps_of  (F : FnP K "taps_of" (top 32) f fd) (b_enumerate : mg "enumerate" = none) : FnM P w K mg base (RXK K) 1 f fd ["net"] F_taps_of := by
  have sc := sc_taps_of
  refine fnM_of F sc (fun cdv A outer s H E hr hgd => ?_)
  have c := cok_of (P := P) (w := w) (K := K) (mg := mg) (base := base) (N := ["net", "place", "height"]) (outer := outer) (H := H) (E := E) hgd
  have hu64 := hr.units
  have hu65 := hu65_of hr
  have hu1 := hu_of hr
  exact (vs_one (vs_ret (v_lc c.calm sc.nd (vi_enum rfl b_enumerate (va_cons (v_ix hu1 (v_var 0) v_int) va_nil)) (own := [("place", 1), ("height", 2)]) (blkOk_by (N := N_taps_of) (sc := defScope (top 32)) (by decide +kernel)) (fun s1 H1 C1 cl1 fp1 => (vg_tup (c.blk s1 H1 _ _ fp1).calm (vgs_cons (vg_name 1 sc.nd) (vgs_cons (vg_name 2 sc.nd) vgs_nil)))) (fun s1 H1 C1 cl1 fp1 => (vts_one (vt_cmp o_is ov_is (v_var 2) v_non (nobehind _ (by decide) (by decide))))) (fun s1 H1 C1 cl1 fp1 => (v_var 1)))))
abbrev N_comes_to : List Str := ["net", "flows", "place", "found", "near", "far", "stair", "flow"]
theorem sc_comes_to : FnScope ["net", "flows", "place", "found", "near", "far", "stair", "flow"] ["net", "flows", "place"] (defScope (top 40)) := ⟨rfl, rfl, rfl, by decide +kernel, rfl, by decide +kernel, by decide +kernel⟩
set_option maxHeartbeats 4000000 in
theorem ok_comes_to  (F : FnP K "comes_to" (top 40) f fd) (b_zip : mg "zip" = none) : FnM P w K mg base (RXK K) 1 f fd ["net", "flows", "place"] F_comes_to := by
  have sc := sc_comes_to
  refine fnM_of F sc (fun cdv A outer s H E hr hgd => ?_)
  have c := cok_of (P := P) (w := w) (K := K) (mg := mg) (base := base) (N := ["net", "flows", "place", "found", "near", "far", "stair", "flow"]) (outer := outer) (H := H) (E := E) hgd
  have hu64 := hr.units
  have hu65 := hu65_of hr
  have hu1 := hu_of hr
  exact (vs_cons (vs_set 3 sc.nd v_int) (vs_cons (vs_for c.po c.calm (vi_zip rfl b_zip (va_cons (v_ix hu1 (v_var 0) v_int) (va_cons (v_var 1) va_nil))) (vg_tup c.calm (vgs_cons (vg_tup c.calm (vgs_cons (vg_name 4 sc.nd) (vgs_cons (vg_name 5 sc.nd) (vgs_cons (vg_name 6 sc.nd) vgs_nil)))) (vgs_cons (vg_name 7 sc.nd) vgs_nil))) (vs_one (vs_set 3 sc.nd (v_op op_sub ov_sub (v_op o_add ov_add (v_var 3) (v_if (vt_cmp (o_eq hu64) ov_eq (v_var 5) (v_var 2) (nobehind _ (by decide) (by decide))) (v_var 7) v_int)) (v_if (vt_cmp (o_eq hu64) ov_eq (v_var 4) (v_var 2) (nobehind _ (by decide) (by decide))) (v_var 7) v_int))))) (vs_one (vs_ret (v_var 3)))))
abbrev N_are_kept : List Str := ["net", "draws", "flows", "place"]
theorem sc_are_kept : FnScope ["net", "draws", "flows", "place"] ["net", "draws", "flows"] (defScope (top 41)) := ⟨rfl, rfl, rfl, by decide +kernel, rfl, by decide +kernel, by decide +kernel⟩
set_option maxHeartbeats 4000000 in
theorem ok_are_kept {f_taps_of_a : Addr} {d_taps_of : FuncData} {f_comes_to_a : Addr} {d_comes_to : FuncData} (F : FnP K "are_kept" (top 41) f fd) (C_taps_of : Cal P w K mg base (RXK K) 1 "taps_of" f_taps_of_a d_taps_of ["net"] F_taps_of) (C_comes_to : Cal P w K mg base (RXK K) 1 "comes_to" f_comes_to_a d_comes_to ["net", "flows", "place"] F_comes_to) (b_all : mg "all" = none) : FnM P w K mg base (RXK K) 2 f fd ["net", "draws", "flows"] F_are_kept := by
  have sc := sc_are_kept
  refine fnM_of F sc (fun cdv A outer s H E hr hgd => ?_)
  have c := cok_of (P := P) (w := w) (K := K) (mg := mg) (base := base) (N := ["net", "draws", "flows", "place"]) (outer := outer) (H := H) (E := E) hgd
  have hu64 := hr.units
  have hu65 := hu65_of hr
  have hu1 := hu_of hr
  exact (vs_one (vs_ret (v_callB (cr_all c.calm) cv_all rfl b_all (by decide +kernel) (va_cons (v_lc c.calm sc.nd (vi_seq (v_call C_taps_of.m c (hr.mono (by decide)) rfl C_taps_of.g C_taps_of.kp C_taps_of.b .nil (fun _ _ => .nil) (va_cons (v_var 0) va_nil))) (own := [("place", 3)]) (blkOk_by (N := N_are_kept) (sc := defScope (top 41)) (by decide +kernel)) (fun s1 H1 C1 cl1 fp1 => (vg_name 3 sc.nd)) (fun s1 H1 C1 cl1 fp1 => vts_nil) (fun s1 H1 C1 cl1 fp1 => (v_cmp (o_eq hu64) ov_eq (v_call C_comes_to.m (c.blk s1 H1 _ _ fp1) (hr.mono (by decide)) rfl C_comes_to.g C_comes_to.kp C_comes_to.b .nil (fun _ _ => .nil) (va_cons (v_var 0) (va_cons (v_var 2) (va_cons (v_var 3) va_nil)))) (v_ix hu1 (v_var 1) (v_var 3)) (nobehind _ (by decide) (by decide))))) va_nil))))
abbrev N_is_stand_of : List Str := ["net", "draws", "heights", "flows", "pipe", "flow"]
theorem sc_is_stand_of : FnScope ["net", "draws", "heights", "flows", "pipe", "flow"] ["net", "draws", "heights", "flows"] (defScope (top 42)) := ⟨rfl, rfl, rfl, by decide +kernel, rfl, by decide +kernel, by decide +kernel⟩
set_option maxHeartbeats 4000000 in
theorem ok_is_stand_of {f_is_on_a : Addr} {d_is_on : FuncData} {f_drop_of_a : Addr} {d_drop_of : FuncData} {f_are_kept_a : Addr} {d_are_kept : FuncData} (F : FnP K "is_stand_of" (top 42) f fd) (C_is_on : Cal P w K mg base (RXK K) 3 "is_on" f_is_on_a d_is_on ["stair", "drop", "flow"] F_is_on) (C_drop_of : Cal P w K mg base (RXK K) 1 "drop_of" f_drop_of_a d_drop_of ["net", "heights", "pipe"] F_drop_of) (C_are_kept : Cal P w K mg base (RXK K) 2 "are_kept" f_are_kept_a d_are_kept ["net", "draws", "flows"] F_are_kept) (b_enumerate : mg "enumerate" = none) : FnM P w K mg base (RXK K) 4 f fd ["net", "draws", "heights", "flows"] F_is_stand_of := by
  have sc := sc_is_stand_of
  refine fnM_of F sc (fun cdv A outer s H E hr hgd => ?_)
  have c := cok_of (P := P) (w := w) (K := K) (mg := mg) (base := base) (N := ["net", "draws", "heights", "flows", "pipe", "flow"]) (outer := outer) (H := H) (E := E) hgd
  have hu64 := hr.units
  have hu65 := hu65_of hr
  have hu1 := hu_of hr
  exact (vs_cons (vs_for c.po c.calm (vi_enum rfl b_enumerate (va_cons (v_var 3) va_nil)) (vg_tup c.calm (vgs_cons (vg_name 4 sc.nd) (vgs_cons (vg_name 5 sc.nd) vgs_nil))) (vs_one (vs_if (vt_not (vt_truth (v_call C_is_on.m c (hr.mono (by decide)) rfl C_is_on.g C_is_on.kp C_is_on.b .nil (fun _ _ => .nil) (va_cons (v_ix hu1 (v_ix hu1 (v_ix hu1 (v_var 0) v_int) (v_var 4)) v_int) (va_cons (v_call C_drop_of.m c (hr.mono (by decide)) rfl C_drop_of.g C_drop_of.kp C_drop_of.b .nil (fun _ _ => .nil) (va_cons (v_var 0) (va_cons (v_var 2) (va_cons (v_var 4) va_nil)))) (va_cons (v_var 5) va_nil)))))) (vs_one (vs_ret v_bl)) vs_nil))) (vs_one (vs_ret (v_call C_are_kept.m c (hr.mono (by decide)) rfl C_are_kept.g C_are_kept.kp C_are_kept.b .nil (fun _ _ => .nil) (va_cons (v_var 0) (va_cons (v_var 1) (va_cons (v_var 3) va_nil)))))))
abbrev N_is_stand_any : List Str := ["net", "draws", "value"]
theorem sc_is_stand_any : FnScope ["net", "draws", "value"] ["net", "draws", "value"] (defScope (top 43)) := ⟨rfl, rfl, rfl, by decide +kernel, rfl, by decide +kernel, by decide +kernel⟩
set_option maxHeartbeats 4000000 in
theorem ok_is_stand_any {f_is_tuple_a : Addr} {d_is_tuple : FuncData} {f_are_heights_a : Addr} {d_are_heights : FuncData} {f_are_flows_a : Addr} {d_are_flows : FuncData} {f_is_stand_of_a : Addr} {d_is_stand_of : FuncData} (F : FnP K "is_stand_any" (top 43) f fd) (C_is_tuple : Cal P w K mg base (RXK K) 1 "is_tuple" f_is_tuple_a d_is_tuple ["value", "many"] F_is_tuple) (C_are_heights : Cal P w K mg base (RXK K) 2 "are_heights" f_are_heights_a d_are_heights ["net", "value"] F_are_heights) (C_are_flows : Cal P w K mg base (RXK K) 2 "are_flows" f_are_flows_a d_are_flows ["net", "value"] F_are_flows) (C_is_stand_of : Cal P w K mg base (RXK K) 4 "is_stand_of" f_is_stand_of_a d_is_stand_of ["net", "draws", "heights", "flows"] F_is_stand_of) : FnM P w K mg base (RXK K) 5 f fd ["net", "draws", "value"] F_is_stand_any := by
  have sc := sc_is_stand_any
  refine fnM_of F sc (fun cdv A outer s H E hr hgd => ?_)
  have c := cok_of (P := P) (w := w) (K := K) (mg := mg) (base := base) (N := ["net", "draws", "value"]) (outer := outer) (H := H) (E := E) hgd
  have hu64 := hr.units
  have hu65 := hu65_of hr
  have hu1 := hu_of hr
  exact (vs_cons (vs_if (vt_w (vw_or (vt_not (vt_truth (v_call C_is_tuple.m c (hr.mono (by decide)) rfl C_is_tuple.g C_is_tuple.kp C_is_tuple.b .nil (fun _ _ => .nil) (va_cons (v_var 2) (va_cons v_int va_nil))))) (vw_or (vt_not (vt_truth (v_call C_are_heights.m c (hr.mono (by decide)) rfl C_are_heights.g C_are_heights.kp C_are_heights.b .nil (fun _ _ => .nil) (va_cons (v_var 0) (va_cons (v_ix hu1 (v_var 2) v_int) va_nil))))) (vw_or1 (vt_not (vt_truth (v_call C_are_flows.m c (hr.mono (by decide)) rfl C_are_flows.g C_are_flows.kp C_are_flows.b .nil (fun _ _ => .nil) (va_cons (v_var 0) (va_cons (v_ix hu1 (v_var 2) v_int) va_nil))))))))) (vs_one (vs_ret v_bl)) vs_nil) (vs_one (vs_ret (v_call C_is_stand_of.m c (hr.mono (by decide)) rfl C_is_stand_of.g C_is_stand_of.kp C_is_stand_of.b .nil (fun _ _ => .nil) (va_cons (v_var 0) (va_cons (v_var 1) (va_cons (v_ix hu1 (v_var 2) v_int) (va_cons (v_ix hu1 (v_var 2) v_int) va_nil))))))))
abbrev N_is_within : List Str := ["value", "least", "most"]
theorem sc_is_within : FnScope ["value", "least", "most"] ["value", "least", "most"] (defScope (top 2)) := ⟨rfl, rfl, rfl, by decide +kernel, rfl, by decide +kernel, by decide +kernel⟩
set_option maxHeartbeats 4000000 in
theorem ok_is_within {f_is_integer_a : Addr} {d_is_integer : FuncData} (F : FnP K "is_within" (top 2) f fd) (C_is_integer : Cal P w K mg base (RXK K) 1 "is_integer" f_is_integer_a d_is_integer ["value"] F_is_integer) : FnM P w K mg base (RXK K) 2 f fd ["value", "least", "most"] F_is_within := by
  have sc := sc_is_within
  refine fnM_of F sc (fun cdv A outer s H E hr hgd => ?_)
  have c := cok_of (P := P) (w := w) (K := K) (mg := mg) (base := base) (N := ["value", "least", "most"]) (outer := outer) (H := H) (E := E) hgd
  have hu64 := hr.units
  have hu65 := hu65_of hr
  have hu1 := hu_of hr
  exact (vs_one (vs_ret (v_and (v_call C_is_integer.m c (hr.mono (by decide)) rfl C_is_integer.g C_is_integer.kp C_is_integer.b .nil (fun _ _ => .nil) (va_cons (v_var 0) va_nil)) (v_one (v_chain rI0_mono op_le op_le ov_le ov_le (v_var 1) (v_var 0) (v_var 2))))))
abbrev N_is_number : List Str := ["value"]
theorem sc_is_number : FnScope ["value"] ["value"] (defScope (top 16)) := ⟨rfl, rfl, rfl, by decide +kernel, rfl, by decide +kernel, by decide +kernel⟩
set_option maxHeartbeats 4000000 in
theorem ok_is_number {f_is_within_a : Addr} {d_is_within : FuncData} (F : FnP K "is_number" (top 16) f fd) (C_is_within : Cal P w K mg base (RXK K) 2 "is_within" f_is_within_a d_is_within ["value", "least", "most"] F_is_within) (g_MOST_NUMBER : ∃ t, mg "MOST_NUMBER" = some (.int 999 t)) : FnM P w K mg base (RXK K) 3 f fd ["value"] F_is_number := by
  obtain ⟨t_MOST_NUMBER, g_MOST_NUMBER⟩ := g_MOST_NUMBER
  have sc := sc_is_number
  refine fnM_of F sc (fun cdv A outer s H E hr hgd => ?_)
  have c := cok_of (P := P) (w := w) (K := K) (mg := mg) (base := base) (N := ["value"]) (outer := outer) (H := H) (E := E) hgd
  have hu64 := hr.units
  have hu65 := hu65_of hr
  have hu1 := hu_of hr
  exact (vs_one (vs_ret (v_call C_is_within.m c (hr.mono (by decide)) rfl C_is_within.g C_is_within.kp C_is_within.b .nil (fun _ _ => .nil) (va_cons (v_var 0) (va_cons (v_un un_neg uv_neg (v_gint rfl g_MOST_NUMBER ⟨_, rfl⟩)) (va_cons (v_gint rfl g_MOST_NUMBER ⟨_, rfl⟩) va_nil))))))
abbrev N_are_mosts : List Str := ["least", "mosts", "told", "most", "one", "near", "far"]
theorem sc_are_mosts : FnScope ["least", "mosts", "told", "most", "one", "near", "far"] ["least", "mosts"] (defScope (top 17)) := ⟨rfl, rfl, rfl, by decide +kernel, rfl, by decide +kernel, by decide +kernel⟩
set_option maxHeartbeats 4000000 in
theorem ok_are_mosts {f_is_number_a : Addr} {d_is_number : FuncData} (F : FnP K "are_mosts" (top 17) f fd) (C_is_number : Cal P w K mg base (RXK K) 3 "is_number" f_is_number_a d_is_number ["value"] F_is_number) (b_all : mg "all" = none) (b_any : mg "any" = none) (b_zip : mg "zip" = none) : FnM P w K mg base (RXK K) 4 f fd ["least", "mosts"] F_are_mosts := by
  have sc := sc_are_mosts
  refine fnM_of F sc (fun cdv A outer s H E hr hgd => ?_)
  have c := cok_of (P := P) (w := w) (K := K) (mg := mg) (base := base) (N := ["least", "mosts", "told", "most", "one", "near", "far"]) (outer := outer) (H := H) (E := E) hgd
  have hu64 := hr.units
  have hu65 := hu65_of hr
  have hu1 := hu_of hr
  exact (vs_cons (vs_if (vt_w (vw_and (vt_cmp o_is ov_is (v_var 0) v_non (nobehind _ (by decide) (by decide))) (vw_and1 (vt_cmp (o_eq hu64) ov_eq (v_var 1) (v_lst va_nil) (nobehind _ (by decide) (by decide)))))) (vs_one (vs_ret v_bl)) vs_nil) (vs_cons (vs_if (vt_truth (v_callB (cr_any c.calm) cv_any rfl b_any (by decide +kernel) (va_cons (v_lc c.calm sc.nd (vi_seq (v_sl (v_var 1) vo_none (vo_some (v_un un_neg uv_neg v_int)))) (own := [("most", 3)]) (blkOk_by (N := N_are_mosts) (sc := defScope (top 17)) (by decide +kernel)) (fun s1 H1 C1 cl1 fp1 => (vg_name 3 sc.nd)) (fun s1 H1 C1 cl1 fp1 => vts_nil) (fun s1 H1 C1 cl1 fp1 => (v_cmp o_is ov_is (v_var 3) v_non (nobehind _ (by decide) (by decide))))) va_nil))) (vs_one (vs_ret v_bl)) vs_nil) (vs_cons (vs_setLc 2 c.calm sc.nd (vi_seq (v_op o_add ov_add (v_lst (va_cons (v_var 0) va_nil)) (v_var 1))) (own := [("one", 4)]) (blkOk_by (N := N_are_mosts) (sc := defScope (top 17)) (by decide +kernel)) (fun s1 H1 C1 cl1 fp1 => (vg_name 4 sc.nd)) (fun s1 H1 C1 cl1 fp1 => (vts_one (vt_cmp o_notIs ov_notIs (v_var 4) v_non (nobehind _ (by decide) (by decide))))) (fun s1 H1 C1 cl1 fp1 => (v_var 4)) (by rfl)) (vs_one (vs_ret (v_and (v_callB (cr_all c.calm) cv_all rfl b_all (by decide +kernel) (va_cons (v_lc c.calm sc.nd (vi_seq (v_var 2)) (own := [("one", 4)]) (blkOk_by (N := N_are_mosts) (sc := defScope (top 17)) (by decide +kernel)) (fun s1 H1 C1 cl1 fp1 => (vg_name 4 sc.nd)) (fun s1 H1 C1 cl1 fp1 => vts_nil) (fun s1 H1 C1 cl1 fp1 => (v_call C_is_number.m (c.blk s1 H1 _ _ fp1) (hr.mono (by decide)) rfl C_is_number.g C_is_number.kp C_is_number.b .nil (fun _ _ => .nil) (va_cons (v_var 4) va_nil)))) va_nil)) (v_one (v_callB (cr_all c.calm) cv_all rfl b_all (by decide +kernel) (va_cons (v_lc c.calm sc.nd (vi_zip rfl b_zip (va_cons (v_var 2) (va_cons (v_sl (v_var 2) (vo_some v_int) vo_none) va_nil))) (own := [("near", 5), ("far", 6)]) (blkOk_by (N := N_are_mosts) (sc := defScope (top 17)) (by decide +kernel)) (fun s1 H1 C1 cl1 fp1 => (vg_tup (c.blk s1 H1 _ _ fp1).calm (vgs_cons (vg_name 5 sc.nd) (vgs_cons (vg_name 6 sc.nd) vgs_nil)))) (fun s1 H1 C1 cl1 fp1 => vts_nil) (fun s1 H1 C1 cl1 fp1 => (v_cmp op_lt ov_lt (v_var 5) (v_var 6) (nobehind _ (by decide) (by decide))))) va_nil)))))))))
abbrev N_is_stair_any : List Str := ["value", "steps", "one", "drop", "most", "near", "far"]
theorem sc_is_stair_any : FnScope ["value", "steps", "one", "drop", "most", "near", "far"] ["value"] (defScope (top 18)) := ⟨rfl, rfl, rfl, by decide +kernel, rfl, by decide +kernel, by decide +kernel⟩
set_option maxHeartbeats 4000000 in
theorem ok_is_stair_any {f_is_tuple_a : Addr} {d_is_tuple : FuncData} {f_is_number_a : Addr} {d_is_number : FuncData} {f_are_mosts_a : Addr} {d_are_mosts : FuncData} (F : FnP K "is_stair_any" (top 18) f fd) (C_is_tuple : Cal P w K mg base (RXK K) 1 "is_tuple" f_is_tuple_a d_is_tuple ["value", "many"] F_is_tuple) (C_is_number : Cal P w K mg base (RXK K) 3 "is_number" f_is_number_a d_is_number ["value"] F_is_number) (C_are_mosts : Cal P w K mg base (RXK K) 4 "are_mosts" f_are_mosts_a d_are_mosts ["least", "mosts"] F_are_mosts) (b_all : mg "all" = none) (b_isinstance : mg "isinstance" = none) (b_len : mg "len" = none) (b_str : mg "str" = none) (b_tuple : mg "tuple" = none) (b_zip : mg "zip" = none) (g_MOST_STEPS : ∃ t, mg "MOST_STEPS" = some (.int 40 t)) (g_STAIR : ∃ t, mg "STAIR" = some (.str "stair" t)) : FnM P w K mg base (RXK K) 5 f fd ["value"] F_is_stair_any := by
  obtain ⟨t_MOST_STEPS, g_MOST_STEPS⟩ := g_MOST_STEPS
  obtain ⟨t_STAIR, g_STAIR⟩ := g_STAIR
  have sc := sc_is_stair_any
  refine fnM_of F sc (fun cdv A outer s H E hr hgd => ?_)
  have c := cok_of (P := P) (w := w) (K := K) (mg := mg) (base := base) (N := ["value", "steps", "one", "drop", "most", "near", "far"]) (outer := outer) (H := H) (E := E) hgd
  have hu64 := hr.units
  have hu65 := hu65_of hr
  have hu1 := hu_of hr
  exact (vs_cons (vs_if (vt_w (vw_or (vt_not (vt_truth (v_call C_is_tuple.m c (hr.mono (by decide)) rfl C_is_tuple.g C_is_tuple.kp C_is_tuple.b .nil (fun _ _ => .nil) (va_cons (v_var 0) (va_cons v_int va_nil))))) (vw_or (vt_not (vt_truth (v_isi .str rfl b_isinstance rfl b_str (by decide +kernel) (v_ix hu1 (v_var 0) v_int)))) (vw_or1 (vt_cmp (o_ne hu64) ov_ne (v_ix hu1 (v_var 0) v_int) (v_gstr rfl g_STAIR ⟨_, rfl⟩) (nobehind _ (by decide) (by decide))))))) (vs_one (vs_ret v_bl)) vs_nil) (vs_cons (vs_set 1 sc.nd (v_ix hu1 (v_var 0) v_int)) (vs_cons (vs_if (vt_w (vw_or (vt_not (vt_truth (v_isi .tup rfl b_isinstance rfl b_tuple (by decide +kernel) (v_var 1)))) (vw_or (vt_cmp op_gt ov_gt (v_callB call_len cv_len rfl b_len (by decide +kernel) (va_cons (v_var 1) va_nil)) (v_gint rfl g_MOST_STEPS ⟨_, rfl⟩) (nobehind _ (by decide) (by decide))) (vw_or1 (vt_not (vt_truth (v_callB (cr_all c.calm) cv_all rfl b_all (by decide +kernel) (va_cons (v_lc c.calm sc.nd (vi_seq (v_var 1)) (own := [("one", 2)]) (blkOk_by (N := N_is_stair_any) (sc := defScope (top 18)) (by decide +kernel)) (fun s1 H1 C1 cl1 fp1 => (vg_name 2 sc.nd)) (fun s1 H1 C1 cl1 fp1 => vts_nil) (fun s1 H1 C1 cl1 fp1 => (v_call C_is_tuple.m (c.blk s1 H1 _ _ fp1) (hr.mono (by decide)) rfl C_is_tuple.g C_is_tuple.kp C_is_tuple.b .nil (fun _ _ => .nil) (va_cons (v_var 2) (va_cons v_int va_nil))))) va_nil)))))))) (vs_one (vs_ret v_bl)) vs_nil) (vs_cons (vs_if (vt_not (vt_truth (v_callB (cr_all c.calm) cv_all rfl b_all (by decide +kernel) (va_cons (v_lc c.calm sc.nd (vi_seq (v_var 1)) (own := [("drop", 3), ("most", 4)]) (blkOk_by (N := N_is_stair_any) (sc := defScope (top 18)) (by decide +kernel)) (fun s1 H1 C1 cl1 fp1 => (vg_tup (c.blk s1 H1 _ _ fp1).calm (vgs_cons (vg_name 3 sc.nd) (vgs_cons (vg_name 4 sc.nd) vgs_nil)))) (fun s1 H1 C1 cl1 fp1 => vts_nil) (fun s1 H1 C1 cl1 fp1 => (v_call C_is_number.m (c.blk s1 H1 _ _ fp1) (hr.mono (by decide)) rfl C_is_number.g C_is_number.kp C_is_number.b .nil (fun _ _ => .nil) (va_cons (v_var 3) va_nil)))) va_nil)))) (vs_one (vs_ret v_bl)) vs_nil) (vs_cons (vs_if (vt_not (vt_truth (v_callB (cr_all c.calm) cv_all rfl b_all (by decide +kernel) (va_cons (v_lc c.calm sc.nd (vi_zip rfl b_zip (va_cons (v_var 1) (va_cons (v_sl (v_var 1) (vo_some v_int) vo_none) va_nil))) (own := [("near", 5), ("far", 6)]) (blkOk_by (N := N_is_stair_any) (sc := defScope (top 18)) (by decide +kernel)) (fun s1 H1 C1 cl1 fp1 => (vg_tup (c.blk s1 H1 _ _ fp1).calm (vgs_cons (vg_name 5 sc.nd) (vgs_cons (vg_name 6 sc.nd) vgs_nil)))) (fun s1 H1 C1 cl1 fp1 => vts_nil) (fun s1 H1 C1 cl1 fp1 => (v_cmp op_lt ov_lt (v_ix hu1 (v_var 5) v_int) (v_ix hu1 (v_var 6) v_int) (nobehind _ (by decide) (by decide))))) va_nil)))) (vs_one (vs_ret v_bl)) vs_nil) (vs_one (vs_ret (v_call C_are_mosts.m c (hr.mono (by decide)) rfl C_are_mosts.g C_are_mosts.kp C_are_mosts.b .nil (fun _ _ => .nil) (va_cons (v_ix hu1 (v_var 0) v_int) (va_cons (v_lc c.calm sc.nd (vi_seq (v_var 1)) (own := [("drop", 3), ("most", 4)]) (blkOk_by (N := N_is_stair_any) (sc := defScope (top 18)) (by decide +kernel)) (fun s1 H1 C1 cl1 fp1 => (vg_tup (c.blk s1 H1 _ _ fp1).calm (vgs_cons (vg_name 3 sc.nd) (vgs_cons (vg_name 4 sc.nd) vgs_nil)))) (fun s1 H1 C1 cl1 fp1 => vts_nil) (fun s1 H1 C1 cl1 fp1 => (v_var 4))) va_nil))))))))))
abbrev N_is_pipe_of : List Str := ["value", "many"]
theorem sc_is_pipe_of : FnScope ["value", "many"] ["value", "many"] (defScope (top 29)) := ⟨rfl, rfl, rfl, by decide +kernel, rfl, by decide +kernel, by decide +kernel⟩
set_option maxHeartbeats 4000000 in
theorem ok_is_pipe_of {f_is_tuple_a : Addr} {d_is_tuple : FuncData} {f_is_within_a : Addr} {d_is_within : FuncData} {f_is_stair_any_a : Addr} {d_is_stair_any : FuncData} (F : FnP K "is_pipe_of" (top 29) f fd) (C_is_tuple : Cal P w K mg base (RXK K) 1 "is_tuple" f_is_tuple_a d_is_tuple ["value", "many"] F_is_tuple) (C_is_within : Cal P w K mg base (RXK K) 2 "is_within" f_is_within_a d_is_within ["value", "least", "most"] F_is_within) (C_is_stair_any : Cal P w K mg base (RXK K) 5 "is_stair_any" f_is_stair_any_a d_is_stair_any ["value"] F_is_stair_any) : FnM P w K mg base (RXK K) 6 f fd ["value", "many"] F_is_pipe_of := by
  have sc := sc_is_pipe_of
  refine fnM_of F sc (fun cdv A outer s H E hr hgd => ?_)
  have c := cok_of (P := P) (w := w) (K := K) (mg := mg) (base := base) (N := ["value", "many"]) (outer := outer) (H := H) (E := E) hgd
  have hu64 := hr.units
  have hu65 := hu65_of hr
  have hu1 := hu_of hr
  exact (vs_cons (vs_if (vt_w (vw_or (vt_not (vt_truth (v_call C_is_tuple.m c (hr.mono (by decide)) rfl C_is_tuple.g C_is_tuple.kp C_is_tuple.b .nil (fun _ _ => .nil) (va_cons (v_var 0) (va_cons v_int va_nil))))) (vw_or (vt_not (vt_truth (v_call C_is_within.m c (hr.mono (by decide)) rfl C_is_within.g C_is_within.kp C_is_within.b .nil (fun _ _ => .nil) (va_cons (v_ix hu1 (v_var 0) v_int) (va_cons v_int (va_cons (v_op op_sub ov_sub (v_var 1) v_int) va_nil)))))) (vw_or1 (vt_not (vt_truth (v_call C_is_within.m c (hr.mono (by decide)) rfl C_is_within.g C_is_within.kp C_is_within.b .nil (fun _ _ => .nil) (va_cons (v_ix hu1 (v_var 0) v_int) (va_cons v_int (va_cons (v_op op_sub ov_sub (v_var 1) v_int) va_nil)))))))))) (vs_one (vs_ret v_bl)) vs_nil) (vs_one (vs_ret (v_and (v_cmp (o_ne hu64) ov_ne (v_ix hu1 (v_var 0) v_int) (v_ix hu1 (v_var 0) v_int) (nobehind _ (by decide) (by decide))) (v_one (v_call C_is_stair_any.m c (hr.mono (by decide)) rfl C_is_stair_any.g C_is_stair_any.kp C_is_stair_any.b .nil (fun _ _ => .nil) (va_cons (v_ix hu1 (v_var 0) v_int) va_nil)))))))
abbrev N_is_net_any : List Str := ["value", "heights", "pipes", "one"]
theorem sc_is_net_any : FnScope ["value", "heights", "pipes", "one"] ["value"] (defScope (top 30)) := ⟨rfl, rfl, rfl, by decide +kernel, rfl, by decide +kernel, by decide +kernel⟩
set_option maxHeartbeats 4000000 in
theorem ok_is_net_any {f_is_tuple_a : Addr} {d_is_tuple : FuncData} {f_is_number_a : Addr} {d_is_number : FuncData} {f_is_pipe_of_a : Addr} {d_is_pipe_of : FuncData} (F : FnP K "is_net_any" (top 30) f fd) (C_is_tuple : Cal P w K mg base (RXK K) 1 "is_tuple" f_is_tuple_a d_is_tuple ["value", "many"] F_is_tuple) (C_is_number : Cal P w K mg base (RXK K) 3 "is_number" f_is_number_a d_is_number ["value"] F_is_number) (C_is_pipe_of : Cal P w K mg base (RXK K) 6 "is_pipe_of" f_is_pipe_of_a d_is_pipe_of ["value", "many"] F_is_pipe_of) (b_all : mg "all" = none) (b_isinstance : mg "isinstance" = none) (b_len : mg "len" = none) (b_str : mg "str" = none) (b_tuple : mg "tuple" = none) (g_MOST_PIPES : ∃ t, mg "MOST_PIPES" = some (.int 24 t)) (g_MOST_PLACES : ∃ t, mg "MOST_PLACES" = some (.int 12 t)) (g_NET : ∃ t, mg "NET" = some (.str "net" t)) : FnM P w K mg base (RXK K) 7 f fd ["value"] F_is_net_any := by
  obtain ⟨t_MOST_PIPES, g_MOST_PIPES⟩ := g_MOST_PIPES
  obtain ⟨t_MOST_PLACES, g_MOST_PLACES⟩ := g_MOST_PLACES
  obtain ⟨t_NET, g_NET⟩ := g_NET
  have sc := sc_is_net_any
  refine fnM_of F sc (fun cdv A outer s H E hr hgd => ?_)
  have c := cok_of (P := P) (w := w) (K := K) (mg := mg) (base := base) (N := ["value", "heights", "pipes", "one"]) (outer := outer) (H := H) (E := E) hgd
  have hu64 := hr.units
  have hu65 := hu65_of hr
  have hu1 := hu_of hr
  exact (vs_cons (vs_if (vt_w (vw_or (vt_not (vt_truth (v_call C_is_tuple.m c (hr.mono (by decide)) rfl C_is_tuple.g C_is_tuple.kp C_is_tuple.b .nil (fun _ _ => .nil) (va_cons (v_var 0) (va_cons v_int va_nil))))) (vw_or (vt_not (vt_truth (v_isi .str rfl b_isinstance rfl b_str (by decide +kernel) (v_ix hu1 (v_var 0) v_int)))) (vw_or1 (vt_cmp (o_ne hu64) ov_ne (v_ix hu1 (v_var 0) v_int) (v_gstr rfl g_NET ⟨_, rfl⟩) (nobehind _ (by decide) (by decide))))))) (vs_one (vs_ret v_bl)) vs_nil) (vs_cons (vs_asg (v_tup (va_cons (v_ix hu1 (v_var 0) v_int) (va_cons (v_ix hu1 (v_var 0) v_int) va_nil))) (vg_tup c.calm (vgs_cons (vg_name 1 sc.nd) (vgs_cons (vg_name 2 sc.nd) vgs_nil)))) (vs_cons (vs_if (vt_w (vw_or (vt_not (vt_truth (v_isi .tup rfl b_isinstance rfl b_tuple (by decide +kernel) (v_var 1)))) (vw_or1 (vt_not (vt_chain rI0_mono op_le op_le ov_le ov_le v_int (v_callB call_len cv_len rfl b_len (by decide +kernel) (va_cons (v_var 1) va_nil)) (v_gint rfl g_MOST_PLACES ⟨_, rfl⟩)))))) (vs_one (vs_ret v_bl)) vs_nil) (vs_cons (vs_if (vt_not (vt_truth (v_callB (cr_all c.calm) cv_all rfl b_all (by decide +kernel) (va_cons (v_lc c.calm sc.nd (vi_seq (v_var 1)) (own := [("one", 3)]) (blkOk_by (N := N_is_net_any) (sc := defScope (top 30)) (by decide +kernel)) (fun s1 H1 C1 cl1 fp1 => (vg_name 3 sc.nd)) (fun s1 H1 C1 cl1 fp1 => vts_nil) (fun s1 H1 C1 cl1 fp1 => (v_or (v_cmp o_is ov_is (v_var 3) v_non (nobehind _ (by decide) (by decide))) (v_one (v_call C_is_number.m (c.blk s1 H1 _ _ fp1) (hr.mono (by decide)) rfl C_is_number.g C_is_number.kp C_is_number.b .nil (fun _ _ => .nil) (va_cons (v_var 3) va_nil)))))) va_nil)))) (vs_one (vs_ret v_bl)) vs_nil) (vs_cons (vs_if (vt_w (vw_or (vt_not (vt_truth (v_isi .tup rfl b_isinstance rfl b_tuple (by decide +kernel) (v_var 2)))) (vw_or1 (vt_cmp op_gt ov_gt (v_callB call_len cv_len rfl b_len (by decide +kernel) (va_cons (v_var 2) va_nil)) (v_gint rfl g_MOST_PIPES ⟨_, rfl⟩) (nobehind _ (by decide) (by decide)))))) (vs_one (vs_ret v_bl)) vs_nil) (vs_one (vs_ret (v_callB (cr_all c.calm) cv_all rfl b_all (by decide +kernel) (va_cons (v_lc c.calm sc.nd (vi_seq (v_var 2)) (own := [("one", 3)]) (blkOk_by (N := N_is_net_any) (sc := defScope (top 30)) (by decide +kernel)) (fun s1 H1 C1 cl1 fp1 => (vg_name 3 sc.nd)) (fun s1 H1 C1 cl1 fp1 => vts_nil) (fun s1 H1 C1 cl1 fp1 => (v_call C_is_pipe_of.m (c.blk s1 H1 _ _ fp1) (hr.mono (by decide)) rfl C_is_pipe_of.g C_is_pipe_of.kp C_is_pipe_of.b .nil (fun _ _ => .nil) (va_cons (v_var 3) (va_cons (v_callB call_len cv_len rfl b_len (by decide +kernel) (va_cons (v_var 1) va_nil)) va_nil))))) va_nil)))))))))
abbrev N_want_net : List Str := ["net"]
theorem sc_want_net : FnScope ["net"] ["net"] (defScope (top 31)) := ⟨rfl, rfl, rfl, by decide +kernel, rfl, by decide +kernel, by decide +kernel⟩
set_option maxHeartbeats 4000000 in
theorem ok_want_net {f_is_net_any_a : Addr} {d_is_net_any : FuncData} (F : FnP K "want_net" (top 31) f fd) (C_is_net_any : Cal P w K mg base (RXK K) 7 "is_net_any" f_is_net_any_a d_is_net_any ["value"] F_is_net_any) : FnM P w K mg base (RXK K) 8 f fd ["net"] F_want_net := by
  have sc := sc_want_net
  refine fnM_of F sc (fun cdv A outer s H E hr hgd => ?_)
  have c := cok_of (P := P) (w := w) (K := K) (mg := mg) (base := base) (N := ["net"]) (outer := outer) (H := H) (E := E) hgd
  have hu64 := hr.units
  have hu65 := hu65_of hr
  have hu1 := hu_of hr
  exact (vs_one (vs_if (vt_not (vt_truth (v_call C_is_net_any.m c (hr.mono (by decide)) rfl C_is_net_any.g C_is_net_any.kp C_is_net_any.b .nil (fun _ _ => .nil) (va_cons (v_var 0) va_nil)))) (vs_one vs_never) vs_nil))
abbrev N_are_draws : List Str := ["net", "value", "one", "height"]
theorem sc_are_draws : FnScope ["net", "value", "one", "height"] ["net", "value"] (defScope (top 33)) := ⟨rfl, rfl, rfl, by decide +kernel, rfl, by decide +kernel, by decide +kernel⟩
set_option maxHeartbeats 4000000 in
theorem ok_are_draws {f_is_tuple_a : Addr} {d_is_tuple : FuncData} {f_is_number_a : Addr} {d_is_number : FuncData} (F : FnP K "are_draws" (top 33) f fd) (C_is_tuple : Cal P w K mg base (RXK K) 1 "is_tuple" f_is_tuple_a d_is_tuple ["value", "many"] F_is_tuple) (C_is_number : Cal P w K mg base (RXK K) 3 "is_number" f_is_number_a d_is_number ["value"] F_is_number) (b_all : mg "all" = none) (b_len : mg "len" = none) (b_zip : mg "zip" = none) : FnM P w K mg base (RXK K) 4 f fd ["net", "value"] F_are_draws := by
  have sc := sc_are_draws
  refine fnM_of F sc (fun cdv A outer s H E hr hgd => ?_)
  have c := cok_of (P := P) (w := w) (K := K) (mg := mg) (base := base) (N := ["net", "value", "one", "height"]) (outer := outer) (H := H) (E := E) hgd
  have hu64 := hr.units
  have hu65 := hu65_of hr
  have hu1 := hu_of hr
  exact (vs_cons (vs_if (vt_w (vw_or (vt_not (vt_truth (v_call C_is_tuple.m c (hr.mono (by decide)) rfl C_is_tuple.g C_is_tuple.kp C_is_tuple.b .nil (fun _ _ => .nil) (va_cons (v_var 1) (va_cons (v_callB call_len cv_len rfl b_len (by decide +kernel) (va_cons (v_ix hu1 (v_var 0) v_int) va_nil)) va_nil))))) (vw_or1 (vt_not (vt_truth (v_callB (cr_all c.calm) cv_all rfl b_all (by decide +kernel) (va_cons (v_lc c.calm sc.nd (vi_seq (v_var 1)) (own := [("one", 2)]) (blkOk_by (N := N_are_draws) (sc := defScope (top 33)) (by decide +kernel)) (fun s1 H1 C1 cl1 fp1 => (vg_name 2 sc.nd)) (fun s1 H1 C1 cl1 fp1 => vts_nil) (fun s1 H1 C1 cl1 fp1 => (v_call C_is_number.m (c.blk s1 H1 _ _ fp1) (hr.mono (by decide)) rfl C_is_number.g C_is_number.kp C_is_number.b .nil (fun _ _ => .nil) (va_cons (v_var 2) va_nil)))) va_nil))))))) (vs_one (vs_ret v_bl)) vs_nil) (vs_one (vs_ret (v_callB (cr_all c.calm) cv_all rfl b_all (by decide +kernel) (va_cons (v_lc c.calm sc.nd (vi_zip rfl b_zip (va_cons (v_var 1) (va_cons (v_ix hu1 (v_var 0) v_int) va_nil))) (own := [("one", 2), ("height", 3)]) (blkOk_by (N := N_are_draws) (sc := defScope (top 33)) (by decide +kernel)) (fun s1 H1 C1 cl1 fp1 => (vg_tup (c.blk s1 H1 _ _ fp1).calm (vgs_cons (vg_name 2 sc.nd) (vgs_cons (vg_name 3 sc.nd) vgs_nil)))) (fun s1 H1 C1 cl1 fp1 => vts_nil) (fun s1 H1 C1 cl1 fp1 => (v_or (v_cmp o_is ov_is (v_var 3) v_non (nobehind _ (by decide) (by decide))) (v_one (v_cmp (o_eq hu64) ov_eq (v_var 2) v_int (nobehind _ (by decide) (by decide))))))) va_nil)))))
abbrev N_want_draws : List Str := ["net", "draws"]
theorem sc_want_draws : FnScope ["net", "draws"] ["net", "draws"] (defScope (top 34)) := ⟨rfl, rfl, rfl, by decide +kernel, rfl, by decide +kernel, by decide +kernel⟩
set_option maxHeartbeats 4000000 in
theorem ok_want_draws {f_are_draws_a : Addr} {d_are_draws : FuncData} (F : FnP K "want_draws" (top 34) f fd) (C_are_draws : Cal P w K mg base (RXK K) 4 "are_draws" f_are_draws_a d_are_draws ["net", "value"] F_are_draws) : FnM P w K mg base (RXK K) 5 f fd ["net", "draws"] F_want_draws := by
  have sc := sc_want_draws
  refine fnM_of F sc (fun cdv A outer s H E hr hgd => ?_)
  have c := cok_of (P := P) (w := w) (K := K) (mg := mg) (base := base) (N := ["net", "draws"]) (outer := outer) (H := H) (E := E) hgd
  have hu64 := hr.units
  have hu65 := hu65_of hr
  have hu1 := hu_of hr
  exact (vs_one (vs_if (vt_not (vt_truth (v_call C_are_draws.m c (hr.mono (by decide)) rfl C_are_draws.g C_are_draws.kp C_are_draws.b .nil (fun _ _ => .nil) (va_cons (v_var 0) (va_cons (v_var 1) va_nil))))) (vs_one vs_never) vs_nil))
abbrev N_want_asked : List Str := ["net", "draws"]
theorem sc_want_asked : FnScope ["net", "draws"] ["net", "draws"] (defScope (top 47)) := ⟨rfl, rfl, rfl, by decide +kernel, rfl, by decide +kernel, by decide +kernel⟩
set_option maxHeartbeats 4000000 in
theorem ok_want_asked {f_want_net_a : Addr} {d_want_net : FuncData} {f_want_draws_a : Addr} {d_want_draws : FuncData} (F : FnP K "want_asked" (top 47) f fd) (C_want_net : Cal P w K mg base (RXK K) 8 "want_net" f_want_net_a d_want_net ["net"] F_want_net) (C_want_draws : Cal P w K mg base (RXK K) 5 "want_draws" f_want_draws_a d_want_draws ["net", "draws"] F_want_draws) : FnM P w K mg base (RXK K) 9 f fd ["net", "draws"] F_want_asked := by
  have sc := sc_want_asked
  refine fnM_of F sc (fun cdv A outer s H E hr hgd => ?_)
  have c := cok_of (P := P) (w := w) (K := K) (mg := mg) (base := base) (N := ["net", "draws"]) (outer := outer) (H := H) (E := E) hgd
  have hu64 := hr.units
  have hu65 := hu65_of hr
  have hu1 := hu_of hr
  exact (vs_cons (vs_expr (v_call C_want_net.m c (hr.mono (by decide)) rfl C_want_net.g C_want_net.kp C_want_net.b .nil (fun _ _ => .nil) (va_cons (v_var 0) va_nil))) (vs_one (vs_expr (v_call C_want_draws.m c (hr.mono (by decide)) rfl C_want_draws.g C_want_draws.kp C_want_draws.b .nil (fun _ _ => .nil) (va_cons (v_var 0) (va_cons (v_var 1) va_nil))))))
abbrev N_is_stand : List Str := ["net", "draws", "value"]
theorem sc_is_stand : FnScope ["net", "draws", "value"] ["net", "draws", "value"] (defScope (top 48)) := ⟨rfl, rfl, rfl, by decide +kernel, rfl, by decide +kernel, by decide +kernel⟩
set_option maxHeartbeats 4000000 in
theorem ok_is_stand {f_is_stand_any_a : Addr} {d_is_stand_any : FuncData} {f_want_asked_a : Addr} {d_want_asked : FuncData} (F : FnP K "is_stand" (top 48) f fd) (C_is_stand_any : Cal P w K mg base (RXK K) 5 "is_stand_any" f_is_stand_any_a d_is_stand_any ["net", "draws", "value"] F_is_stand_any) (C_want_asked : Cal P w K mg base (RXK K) 9 "want_asked" f_want_asked_a d_want_asked ["net", "draws"] F_want_asked) : FnM P w K mg base (RXK K) 10 f fd ["net", "draws", "value"] F_is_stand := by
  have sc := sc_is_stand
  refine fnM_of F sc (fun cdv A outer s H E hr hgd => ?_)
  have c := cok_of (P := P) (w := w) (K := K) (mg := mg) (base := base) (N := ["net", "draws", "value"]) (outer := outer) (H := H) (E := E) hgd
  have hu64 := hr.units
  have hu65 := hu65_of hr
  have hu1 := hu_of hr
  exact (vs_cons (vs_expr (v_call C_want_asked.m c (hr.mono (by decide)) rfl C_want_asked.g C_want_asked.kp C_want_asked.b .nil (fun _ _ => .nil) (va_cons (v_var 0) (va_cons (v_var 1) va_nil)))) (vs_one (vs_ret (v_call C_is_stand_any.m c (hr.mono (by decide)) rfl C_is_stand_any.g C_is_stand_any.kp C_is_stand_any.b .nil (fun _ _ => .nil) (va_cons (v_var 0) (va_cons (v_var 1) (va_cons (v_var 2) va_nil)))))))
abbrev N_want_flows : List Str := ["net", "flows"]
theorem sc_want_flows : FnScope ["net", "flows"] ["net", "flows"] (defScope (top 38)) := ⟨rfl, rfl, rfl, by decide +kernel, rfl, by decide +kernel, by decide +kernel⟩
set_option maxHeartbeats 4000000 in
theorem ok_want_flows {f_are_flows_a : Addr} {d_are_flows : FuncData} (F : FnP K "want_flows" (top 38) f fd) (C_are_flows : Cal P w K mg base (RXK K) 2 "are_flows" f_are_flows_a d_are_flows ["net", "value"] F_are_flows) : FnM P w K mg base (RXK K) 3 f fd ["net", "flows"] F_want_flows := by
  have sc := sc_want_flows
  refine fnM_of F sc (fun cdv A outer s H E hr hgd => ?_)
  have c := cok_of (P := P) (w := w) (K := K) (mg := mg) (base := base) (N := ["net", "flows"]) (outer := outer) (H := H) (E := E) hgd
  have hu64 := hr.units
  have hu65 := hu65_of hr
  have hu1 := hu_of hr
  exact (vs_one (vs_if (vt_not (vt_truth (v_call C_are_flows.m c (hr.mono (by decide)) rfl C_are_flows.g C_are_flows.kp C_are_flows.b .nil (fun _ _ => .nil) (va_cons (v_var 0) (va_cons (v_var 1) va_nil))))) (vs_one vs_never) vs_nil))
abbrev N_not_let_flow : List Str := ["net", "flows", "pipe", "flow"]
theorem sc_not_let_flow : FnScope ["net", "flows", "pipe", "flow"] ["net", "flows"] (defScope (top 53)) := ⟨rfl, rfl, rfl, by decide +kernel, rfl, by decide +kernel, by decide +kernel⟩
set_option maxHeartbeats 4000000 in
theorem ok_not_let_flow {f_is_let_a : Addr} {d_is_let : FuncData} {f_flow_ends_a : Addr} {d_flow_ends : FuncData} (F : FnP K "not_let_flow" (top 53) f fd) (C_is_let : Cal P w K mg base (RXK K) 1 "is_let" f_is_let_a d_is_let ["ends", "value"] F_is_let) (C_flow_ends : Cal P w K mg base (RXK K) 1 "flow_ends" f_flow_ends_a d_flow_ends ["stair"] F_flow_ends) (b_enumerate : mg "enumerate" = none) : FnM P w K mg base (RXK K) 2 f fd ["net", "flows"] F_not_let_flow := by
  have sc := sc_not_let_flow
  refine fnM_of F sc (fun cdv A outer s H E hr hgd => ?_)
  have c := cok_of (P := P) (w := w) (K := K) (mg := mg) (base := base) (N := ["net", "flows", "pipe", "flow"]) (outer := outer) (H := H) (E := E) hgd
  have hu64 := hr.units
  have hu65 := hu65_of hr
  have hu1 := hu_of hr
  exact (vs_cons (vs_for c.po c.calm (vi_enum rfl b_enumerate (va_cons (v_var 1) va_nil)) (vg_tup c.calm (vgs_cons (vg_name 2 sc.nd) (vgs_cons (vg_name 3 sc.nd) vgs_nil))) (vs_one (vs_if (vt_not (vt_truth (v_call C_is_let.m c (hr.mono (by decide)) rfl C_is_let.g C_is_let.kp C_is_let.b .nil (fun _ _ => .nil) (va_cons (v_call C_flow_ends.m c (hr.mono (by decide)) rfl C_flow_ends.g C_flow_ends.kp C_flow_ends.b .nil (fun _ _ => .nil) (va_cons (v_ix hu1 (v_ix hu1 (v_ix hu1 (v_var 0) v_int) (v_var 2)) v_int) va_nil)) (va_cons (v_var 3) va_nil))))) (vs_one (vs_ret (v_var 2))) vs_nil))) (vs_one (vs_ret v_non)))
abbrev N_nearest : List Str := ["low", "high"]
theorem sc_nearest : FnScope ["low", "high"] ["low", "high"] (defScope (top 45)) := ⟨rfl, rfl, rfl, by decide +kernel, rfl, by decide +kernel, by decide +kernel⟩
set_option maxHeartbeats 4000000 in
theorem ok_nearest  (F : FnP K "nearest" (top 45) f fd)  : FnM P w K mg base (RXK K) 1 f fd ["low", "high"] F_nearest := by
  have sc := sc_nearest
  refine fnM_of F sc (fun cdv A outer s H E hr hgd => ?_)
  have c := cok_of (P := P) (w := w) (K := K) (mg := mg) (base := base) (N := ["low", "high"]) (outer := outer) (H := H) (E := E) hgd
  have hu64 := hr.units
  have hu65 := hu65_of hr
  have hu1 := hu_of hr
  exact (vs_cons (vs_if (vt_w (vw_and (vt_cmp o_notIs ov_notIs (v_var 0) v_non (nobehind _ (by decide) (by decide))) (vw_and1 (vt_cmp op_gt ov_gt (v_var 0) v_int (nobehind _ (by decide) (by decide)))))) (vs_one (vs_ret (v_var 0))) vs_nil) (vs_one (vs_ret (v_if (vt_w (vw_and (vt_cmp o_notIs ov_notIs (v_var 1) v_non (nobehind _ (by decide) (by decide))) (vw_and1 (vt_cmp op_lt ov_lt (v_var 1) v_int (nobehind _ (by decide) (by decide)))))) (v_var 1) v_int))))
abbrev N_under_steps : List Str := ["stair", "low", "high", "found", "ahead", "drop", "most", "begin", "end"]
theorem sc_under_steps : FnScope ["stair", "low", "high", "found", "ahead", "drop", "most", "begin", "end"] ["stair", "low", "high"] (defScope (top 50)) := ⟨rfl, rfl, rfl, by decide +kernel, rfl, by decide +kernel, by decide +kernel⟩
set_option maxHeartbeats 4000000 in
theorem ok_under_steps  (F : FnP K "under_steps" (top 50) f fd) (b_max : mg "max" = none) (b_min : mg "min" = none) : FnM P w K mg base (RXK K) 1 f fd ["stair", "low", "high"] F_under_steps := by
  have sc := sc_under_steps
  refine fnM_of F sc (fun cdv A outer s H E hr hgd => ?_)
  have c := cok_of (P := P) (w := w) (K := K) (mg := mg) (base := base) (N := ["stair", "low", "high", "found", "ahead", "drop", "most", "begin", "end"]) (outer := outer) (H := H) (E := E) hgd
  have hu64 := hr.units
  have hu65 := hu65_of hr
  have hu1 := hu_of hr
  exact (vs_cons (vs_par 3 4 c.calm sc.nd (va_cons v_int (va_cons (v_ix hu1 (v_var 0) v_int) va_nil))) (vs_cons (vs_for c.po c.calm (vi_seq (v_ix hu1 (v_var 0) v_int)) (vg_tup c.calm (vgs_cons (vg_name 5 sc.nd) (vgs_cons (vg_name 6 sc.nd) vgs_nil))) (vs_cons (vs_set 7 sc.nd (v_if (vt_cmp o_is ov_is (v_var 4) v_non (nobehind _ (by decide) (by decide))) (v_var 1) (v_callB (MV.CallR.or (call_max2 c.calm) (cr_max c.calm)) cv_max rfl b_max (by decide +kernel) (va_cons (v_var 1) (va_cons (v_var 4) va_nil))))) (vs_cons (vs_set 8 sc.nd (v_if (vt_cmp o_is ov_is (v_var 6) v_non (nobehind _ (by decide) (by decide))) (v_var 2) (v_callB (MV.CallR.or (call_min2 c.calm) (cr_min c.calm)) cv_min rfl b_min (by decide +kernel) (va_cons (v_var 2) (va_cons (v_var 6) va_nil))))) (vs_cons (vs_set 3 sc.nd (v_op o_add ov_add (v_var 3) (v_op op_mul ov_mulI (v_var 5) (v_callB (MV.CallR.or (call_max2 c.calm) (cr_max c.calm)) cv_max rfl b_max (by decide +kernel) (va_cons v_int (va_cons (v_op op_sub ov_sub (v_var 8) (v_var 7)) va_nil)))))) (vs_one (vs_set 4 sc.nd (v_var 6))))))) (vs_one (vs_ret (v_var 3)))))
abbrev N_energy_of : List Str := ["stair", "flow", "least", "most", "begin"]
theorem sc_energy_of : FnScope ["stair", "flow", "least", "most", "begin"] ["stair", "flow"] (defScope (top 51)) := ⟨rfl, rfl, rfl, by decide +kernel, rfl, by decide +kernel, by decide +kernel⟩
set_option maxHeartbeats 4000000 in
theorem ok_energy_of {f_flow_ends_a : Addr} {d_flow_ends : FuncData} {f_nearest_a : Addr} {d_nearest : FuncData} {f_under_steps_a : Addr} {d_under_steps : FuncData} (F : FnP K "energy_of" (top 51) f fd) (C_flow_ends : Cal P w K mg base (RXK K) 1 "flow_ends" f_flow_ends_a d_flow_ends ["stair"] F_flow_ends) (C_nearest : Cal P w K mg base (RXK K) 1 "nearest" f_nearest_a d_nearest ["low", "high"] F_nearest) (C_under_steps : Cal P w K mg base (RXK K) 1 "under_steps" f_under_steps_a d_under_steps ["stair", "low", "high"] F_under_steps) : FnM P w K mg base (RXK K) 2 f fd ["stair", "flow"] F_energy_of := by
  have sc := sc_energy_of
  refine fnM_of F sc (fun cdv A outer s H E hr hgd => ?_)
  have c := cok_of (P := P) (w := w) (K := K) (mg := mg) (base := base) (N := ["stair", "flow", "least", "most", "begin"]) (outer := outer) (H := H) (E := E) hgd
  have hu64 := hr.units
  have hu65 := hu65_of hr
  have hu1 := hu_of hr
  exact (vs_cons (vs_asg (v_call C_flow_ends.m c (hr.mono (by decide)) rfl C_flow_ends.g C_flow_ends.kp C_flow_ends.b .nil (fun _ _ => .nil) (va_cons (v_var 0) va_nil)) (vg_tup c.calm (vgs_cons (vg_name 2 sc.nd) (vgs_cons (vg_name 3 sc.nd) vgs_nil)))) (vs_cons (vs_set 4 sc.nd (v_call C_nearest.m c (hr.mono (by decide)) rfl C_nearest.g C_nearest.kp C_nearest.b .nil (fun _ _ => .nil) (va_cons (v_var 2) (va_cons (v_var 3) va_nil)))) (vs_one (vs_ret (v_if (vt_cmp op_ge ov_ge (v_var 1) (v_var 4) (nobehind _ (by decide) (by decide))) (v_call C_under_steps.m c (hr.mono (by decide)) rfl C_under_steps.g C_under_steps.kp C_under_steps.b .nil (fun _ _ => .nil) (va_cons (v_var 0) (va_cons (v_var 4) (va_cons (v_var 1) va_nil)))) (v_un un_neg uv_neg (v_call C_under_steps.m c (hr.mono (by decide)) rfl C_under_steps.g C_under_steps.kp C_under_steps.b .nil (fun _ _ => .nil) (va_cons (v_var 0) (va_cons (v_var 1) (va_cons (v_var 4) va_nil))))))))))
abbrev N_flows_cost : List Str := ["net", "flows", "found", "springs", "pipe", "flow", "place", "height"]
theorem sc_flows_cost : FnScope ["net", "flows", "found", "springs", "pipe", "flow", "place", "height"] ["net", "flows"] (defScope (top 55)) := ⟨rfl, rfl, rfl, by decide +kernel, rfl, by decide +kernel, by decide +kernel⟩
set_option maxHeartbeats 4000000 in
theorem ok_flows_cost {f_comes_to_a : Addr} {d_comes_to : FuncData} {f_energy_of_a : Addr} {d_energy_of : FuncData} (F : FnP K "flows_cost" (top 55) f fd) (C_comes_to : Cal P w K mg base (RXK K) 1 "comes_to" f_comes_to_a d_comes_to ["net", "flows", "place"] F_comes_to) (C_energy_of : Cal P w K mg base (RXK K) 2 "energy_of" f_energy_of_a d_energy_of ["stair", "flow"] F_energy_of) (b_enumerate : mg "enumerate" = none) (b_sum : mg "sum" = none) (b_zip : mg "zip" = none) : FnM P w K mg base (RXK K) 3 f fd ["net", "flows"] F_flows_cost := by
  have sc := sc_flows_cost
  refine fnM_of F sc (fun cdv A outer s H E hr hgd => ?_)
  have c := cok_of (P := P) (w := w) (K := K) (mg := mg) (base := base) (N := ["net", "flows", "found", "springs", "pipe", "flow", "place", "height"]) (outer := outer) (H := H) (E := E) hgd
  have hu64 := hr.units
  have hu65 := hu65_of hr
  have hu1 := hu_of hr
  exact (vs_cons (vs_set 2 sc.nd (v_callB (cr_sum c.calm) cv_sum rfl b_sum (by decide +kernel) (va_cons (v_lc c.calm sc.nd (vi_zip rfl b_zip (va_cons (v_ix hu1 (v_var 0) v_int) (va_cons (v_var 1) va_nil))) (own := [("pipe", 4), ("flow", 5)]) (blkOk_by (N := N_flows_cost) (sc := defScope (top 55)) (by decide +kernel)) (fun s1 H1 C1 cl1 fp1 => (vg_tup (c.blk s1 H1 _ _ fp1).calm (vgs_cons (vg_name 4 sc.nd) (vgs_cons (vg_name 5 sc.nd) vgs_nil)))) (fun s1 H1 C1 cl1 fp1 => vts_nil) (fun s1 H1 C1 cl1 fp1 => (v_call C_energy_of.m (c.blk s1 H1 _ _ fp1) (hr.mono (by decide)) rfl C_energy_of.g C_energy_of.kp C_energy_of.b .nil (fun _ _ => .nil) (va_cons (v_ix hu1 (v_var 4) v_int) (va_cons (v_var 5) va_nil))))) va_nil))) (vs_cons (vs_setLc 3 c.calm sc.nd (vi_enum rfl b_enumerate (va_cons (v_ix hu1 (v_var 0) v_int) va_nil)) (own := [("place", 6), ("height", 7)]) (blkOk_by (N := N_flows_cost) (sc := defScope (top 55)) (by decide +kernel)) (fun s1 H1 C1 cl1 fp1 => (vg_tup (c.blk s1 H1 _ _ fp1).calm (vgs_cons (vg_name 6 sc.nd) (vgs_cons (vg_name 7 sc.nd) vgs_nil)))) (fun s1 H1 C1 cl1 fp1 => (vts_one (vt_cmp o_notIs ov_notIs (v_var 7) v_non (nobehind _ (by decide) (by decide))))) (fun s1 H1 C1 cl1 fp1 => (v_var 6)) (by rfl)) (vs_one (vs_ret (v_op o_add ov_add (v_var 2) (v_callB (cr_sum c.calm) cv_sum rfl b_sum (by decide +kernel) (va_cons (v_lc c.calm sc.nd (vi_seq (v_var 3)) (own := [("place", 6)]) (blkOk_by (N := N_flows_cost) (sc := defScope (top 55)) (by decide +kernel)) (fun s1 H1 C1 cl1 fp1 => (vg_name 6 sc.nd)) (fun s1 H1 C1 cl1 fp1 => vts_nil) (fun s1 H1 C1 cl1 fp1 => (v_op op_mul ov_mulI (v_ix hu1 (v_ix hu1 (v_var 0) v_int) (v_var 6)) (v_call C_comes_to.m (c.blk s1 H1 _ _ fp1) (hr.mono (by decide)) rfl C_comes_to.g C_comes_to.kp C_comes_to.b .nil (fun _ _ => .nil) (va_cons (v_var 0) (va_cons (v_var 1) (va_cons (v_var 6) va_nil))))))) va_nil)))))))
abbrev N_want_let : List Str := ["pipe"]
theorem sc_want_let : FnScope ["pipe"] ["pipe"] (defScope (top 57)) := ⟨rfl, rfl, rfl, by decide +kernel, rfl, by decide +kernel, by decide +kernel⟩
set_option maxHeartbeats 4000000 in
theorem ok_want_let  (F : FnP K "want_let" (top 57) f fd) (rz_NotLet : RzC P w K mg base "NotLet" "pipe" "pipe") : FnM P w K mg base (RXK K) 3 f fd ["pipe"] F_want_let := by
  have sc := sc_want_let
  refine fnM_of F sc (fun cdv A outer s H E hr hgd => ?_)
  have c := cok_of (P := P) (w := w) (K := K) (mg := mg) (base := base) (N := ["pipe"]) (outer := outer) (H := H) (E := E) hgd
  have hu64 := hr.units
  have hu65 := hu65_of hr
  have hu1 := hu_of hr
  exact (vs_one (vs_if (vt_cmp o_notIs ov_notIs (v_var 0) v_non (nobehind _ (by decide) (by decide))) (vs_one (vs_raiseC c rz_NotLet (hr.mono (by decide)) rfl (v_var 0))) vs_nil))
abbrev N_flows_energy : List Str := ["net", "flows"]
theorem sc_flows_energy : FnScope ["net", "flows"] ["net", "flows"] (defScope (top 58)) := ⟨rfl, rfl, rfl, by decide +kernel, rfl, by decide +kernel, by decide +kernel⟩
set_option maxHeartbeats 4000000 in
theorem ok_flows_energy {f_want_net_a : Addr} {d_want_net : FuncData} {f_want_flows_a : Addr} {d_want_flows : FuncData} {f_not_let_flow_a : Addr} {d_not_let_flow : FuncData} {f_flows_cost_a : Addr} {d_flows_cost : FuncData} {f_want_let_a : Addr} {d_want_let : FuncData} (F : FnP K "flows_energy" (top 58) f fd) (C_want_net : Cal P w K mg base (RXK K) 8 "want_net" f_want_net_a d_want_net ["net"] F_want_net) (C_want_flows : Cal P w K mg base (RXK K) 3 "want_flows" f_want_flows_a d_want_flows ["net", "flows"] F_want_flows) (C_not_let_flow : Cal P w K mg base (RXK K) 2 "not_let_flow" f_not_let_flow_a d_not_let_flow ["net", "flows"] F_not_let_flow) (C_flows_cost : Cal P w K mg base (RXK K) 3 "flows_cost" f_flows_cost_a d_flows_cost ["net", "flows"] F_flows_cost) (C_want_let : Cal P w K mg base (RXK K) 3 "want_let" f_want_let_a d_want_let ["pipe"] F_want_let) : FnM P w K mg base (RXK K) 9 f fd ["net", "flows"] F_flows_energy := by
  have sc := sc_flows_energy
  refine fnM_of F sc (fun cdv A outer s H E hr hgd => ?_)
  have c := cok_of (P := P) (w := w) (K := K) (mg := mg) (base := base) (N := ["net", "flows"]) (outer := outer) (H := H) (E := E) hgd
  have hu64 := hr.units
  have hu65 := hu65_of hr
  have hu1 := hu_of hr
  exact (vs_cons (vs_expr (v_call C_want_net.m c (hr.mono (by decide)) rfl C_want_net.g C_want_net.kp C_want_net.b .nil (fun _ _ => .nil) (va_cons (v_var 0) va_nil))) (vs_cons (vs_expr (v_call C_want_flows.m c (hr.mono (by decide)) rfl C_want_flows.g C_want_flows.kp C_want_flows.b .nil (fun _ _ => .nil) (va_cons (v_var 0) (va_cons (v_var 1) va_nil)))) (vs_cons (vs_expr (v_call C_want_let.m c (hr.mono (by decide)) rfl C_want_let.g C_want_let.kp C_want_let.b .nil (fun _ _ => .nil) (va_cons (v_call C_not_let_flow.m c (hr.mono (by decide)) rfl C_not_let_flow.g C_not_let_flow.kp C_not_let_flow.b .nil (fun _ _ => .nil) (va_cons (v_var 0) (va_cons (v_var 1) va_nil))) va_nil))) (vs_one (vs_ret (v_call C_flows_cost.m c (hr.mono (by decide)) rfl C_flows_cost.g C_flows_cost.kp C_flows_cost.b .nil (fun _ _ => .nil) (va_cons (v_var 0) (va_cons (v_var 1) va_nil))))))))
abbrev N_want_heights : List Str := ["net", "heights"]
theorem sc_want_heights : FnScope ["net", "heights"] ["net", "heights"] (defScope (top 37)) := ⟨rfl, rfl, rfl, by decide +kernel, rfl, by decide +kernel, by decide +kernel⟩
set_option maxHeartbeats 4000000 in
theorem ok_want_heights {f_are_heights_a : Addr} {d_are_heights : FuncData} (F : FnP K "want_heights" (top 37) f fd) (C_are_heights : Cal P w K mg base (RXK K) 2 "are_heights" f_are_heights_a d_are_heights ["net", "value"] F_are_heights) : FnM P w K mg base (RXK K) 3 f fd ["net", "heights"] F_want_heights := by
  have sc := sc_want_heights
  refine fnM_of F sc (fun cdv A outer s H E hr hgd => ?_)
  have c := cok_of (P := P) (w := w) (K := K) (mg := mg) (base := base) (N := ["net", "heights"]) (outer := outer) (H := H) (E := E) hgd
  have hu64 := hr.units
  have hu65 := hu65_of hr
  have hu1 := hu_of hr
  exact (vs_one (vs_if (vt_not (vt_truth (v_call C_are_heights.m c (hr.mono (by decide)) rfl C_are_heights.g C_are_heights.kp C_are_heights.b .nil (fun _ _ => .nil) (va_cons (v_var 0) (va_cons (v_var 1) va_nil))))) (vs_one vs_never) vs_nil))
abbrev N_not_let_drop : List Str := ["net", "heights", "pipe", "near", "far", "stair"]
theorem sc_not_let_drop : FnScope ["net", "heights", "pipe", "near", "far", "stair"] ["net", "heights"] (defScope (top 54)) := ⟨rfl, rfl, rfl, by decide +kernel, rfl, by decide +kernel, by decide +kernel⟩
set_option maxHeartbeats 4000000 in
theorem ok_not_let_drop {f_is_let_a : Addr} {d_is_let : FuncData} {f_drop_ends_a : Addr} {d_drop_ends : FuncData} (F : FnP K "not_let_drop" (top 54) f fd) (C_is_let : Cal P w K mg base (RXK K) 1 "is_let" f_is_let_a d_is_let ["ends", "value"] F_is_let) (C_drop_ends : Cal P w K mg base (RXK K) 1 "drop_ends" f_drop_ends_a d_drop_ends ["stair"] F_drop_ends) (b_enumerate : mg "enumerate" = none) : FnM P w K mg base (RXK K) 2 f fd ["net", "heights"] F_not_let_drop := by
  have sc := sc_not_let_drop
  refine fnM_of F sc (fun cdv A outer s H E hr hgd => ?_)
  have c := cok_of (P := P) (w := w) (K := K) (mg := mg) (base := base) (N := ["net", "heights", "pipe", "near", "far", "stair"]) (outer := outer) (H := H) (E := E) hgd
  have hu64 := hr.units
  have hu65 := hu65_of hr
  have hu1 := hu_of hr
  exact (vs_cons (vs_for c.po c.calm (vi_enum rfl b_enumerate (va_cons (v_ix hu1 (v_var 0) v_int) va_nil)) (vg_tup c.calm (vgs_cons (vg_name 2 sc.nd) (vgs_cons (vg_tup c.calm (vgs_cons (vg_name 3 sc.nd) (vgs_cons (vg_name 4 sc.nd) (vgs_cons (vg_name 5 sc.nd) vgs_nil)))) vgs_nil))) (vs_one (vs_if (vt_not (vt_truth (v_call C_is_let.m c (hr.mono (by decide)) rfl C_is_let.g C_is_let.kp C_is_let.b .nil (fun _ _ => .nil) (va_cons (v_call C_drop_ends.m c (hr.mono (by decide)) rfl C_drop_ends.g C_drop_ends.kp C_drop_ends.b .nil (fun _ _ => .nil) (va_cons (v_var 5) va_nil)) (va_cons (v_op op_sub ov_sub (v_ix hu1 (v_var 1) (v_var 3)) (v_ix hu1 (v_var 1) (v_var 4))) va_nil))))) (vs_one (vs_ret (v_var 2))) vs_nil))) (vs_one (vs_ret v_non)))
abbrev N_worth_of : List Str := ["stair", "drop", "least", "most", "flow"]
theorem sc_worth_of : FnScope ["stair", "drop", "least", "most", "flow"] ["stair", "drop"] (defScope (top 52)) := ⟨rfl, rfl, rfl, by decide +kernel, rfl, by decide +kernel, by decide +kernel⟩
set_option maxHeartbeats 4000000 in
theorem ok_worth_of {f_flows_in_a : Addr} {d_flows_in : FuncData} {f_nearest_a : Addr} {d_nearest : FuncData} {f_energy_of_a : Addr} {d_energy_of : FuncData} (F : FnP K "worth_of" (top 52) f fd) (C_flows_in : Cal P w K mg base (RXK K) 2 "flows_in" f_flows_in_a d_flows_in ["stair", "drop"] F_flows_in) (C_nearest : Cal P w K mg base (RXK K) 1 "nearest" f_nearest_a d_nearest ["low", "high"] F_nearest) (C_energy_of : Cal P w K mg base (RXK K) 2 "energy_of" f_energy_of_a d_energy_of ["stair", "flow"] F_energy_of) : FnM P w K mg base (RXK K) 3 f fd ["stair", "drop"] F_worth_of := by
  have sc := sc_worth_of
  refine fnM_of F sc (fun cdv A outer s H E hr hgd => ?_)
  have c := cok_of (P := P) (w := w) (K := K) (mg := mg) (base := base) (N := ["stair", "drop", "least", "most", "flow"]) (outer := outer) (H := H) (E := E) hgd
  have hu64 := hr.units
  have hu65 := hu65_of hr
  have hu1 := hu_of hr
  exact (vs_cons (vs_asg (v_call C_flows_in.m c (hr.mono (by decide)) rfl C_flows_in.g C_flows_in.kp C_flows_in.b .nil (fun _ _ => .nil) (va_cons (v_var 0) (va_cons (v_var 1) va_nil))) (vg_tup c.calm (vgs_cons (vg_name 2 sc.nd) (vgs_cons (vg_name 3 sc.nd) vgs_nil)))) (vs_cons (vs_set 4 sc.nd (v_call C_nearest.m c (hr.mono (by decide)) rfl C_nearest.g C_nearest.kp C_nearest.b .nil (fun _ _ => .nil) (va_cons (v_var 2) (va_cons (v_var 3) va_nil)))) (vs_one (vs_ret (v_op op_sub ov_sub (v_op op_mul ov_mulI (v_var 1) (v_var 4)) (v_call C_energy_of.m c (hr.mono (by decide)) rfl C_energy_of.g C_energy_of.kp C_energy_of.b .nil (fun _ _ => .nil) (va_cons (v_var 0) (va_cons (v_var 4) va_nil))))))))
abbrev N_heights_worth_of : List Str := ["net", "draws", "heights", "found", "much", "height", "pipe"]
theorem sc_heights_worth_of : FnScope ["net", "draws", "heights", "found", "much", "height", "pipe"] ["net", "draws", "heights"] (defScope (top 56)) := ⟨rfl, rfl, rfl, by decide +kernel, rfl, by decide +kernel, by decide +kernel⟩
set_option maxHeartbeats 4000000 in
theorem ok_heights_worth_of {f_drop_of_a : Addr} {d_drop_of : FuncData} {f_worth_of_a : Addr} {d_worth_of : FuncData} (F : FnP K "heights_worth_of" (top 56) f fd) (C_drop_of : Cal P w K mg base (RXK K) 1 "drop_of" f_drop_of_a d_drop_of ["net", "heights", "pipe"] F_drop_of) (C_worth_of : Cal P w K mg base (RXK K) 3 "worth_of" f_worth_of_a d_worth_of ["stair", "drop"] F_worth_of) (b_len : mg "len" = none) (b_range : mg "range" = none) (b_sum : mg "sum" = none) (b_zip : mg "zip" = none) : FnM P w K mg base (RXK K) 4 f fd ["net", "draws", "heights"] F_heights_worth_of := by
  have sc := sc_heights_worth_of
  refine fnM_of F sc (fun cdv A outer s H E hr hgd => ?_)
  have c := cok_of (P := P) (w := w) (K := K) (mg := mg) (base := base) (N := ["net", "draws", "heights", "found", "much", "height", "pipe"]) (outer := outer) (H := H) (E := E) hgd
  have hu64 := hr.units
  have hu65 := hu65_of hr
  have hu1 := hu_of hr
  exact (vs_cons (vs_set 3 sc.nd (v_un un_neg uv_neg (v_callB (cr_sum c.calm) cv_sum rfl b_sum (by decide +kernel) (va_cons (v_lc c.calm sc.nd (vi_zip rfl b_zip (va_cons (v_var 1) (va_cons (v_var 2) va_nil))) (own := [("much", 4), ("height", 5)]) (blkOk_by (N := N_heights_worth_of) (sc := defScope (top 56)) (by decide +kernel)) (fun s1 H1 C1 cl1 fp1 => (vg_tup (c.blk s1 H1 _ _ fp1).calm (vgs_cons (vg_name 4 sc.nd) (vgs_cons (vg_name 5 sc.nd) vgs_nil)))) (fun s1 H1 C1 cl1 fp1 => vts_nil) (fun s1 H1 C1 cl1 fp1 => (v_op op_mul ov_mulI (v_var 4) (v_var 5)))) va_nil)))) (vs_one (vs_ret (v_op op_sub ov_sub (v_var 3) (v_callB (cr_sum c.calm) cv_sum rfl b_sum (by decide +kernel) (va_cons (v_lc c.calm sc.nd (vi_range1 rfl b_range (va_cons (v_callB call_len cv_len rfl b_len (by decide +kernel) (va_cons (v_ix hu1 (v_var 0) v_int) va_nil)) va_nil)) (own := [("pipe", 6)]) (blkOk_by (N := N_heights_worth_of) (sc := defScope (top 56)) (by decide +kernel)) (fun s1 H1 C1 cl1 fp1 => (vg_name 6 sc.nd)) (fun s1 H1 C1 cl1 fp1 => vts_nil) (fun s1 H1 C1 cl1 fp1 => (v_call C_worth_of.m (c.blk s1 H1 _ _ fp1) (hr.mono (by decide)) rfl C_worth_of.g C_worth_of.kp C_worth_of.b .nil (fun _ _ => .nil) (va_cons (v_ix hu1 (v_ix hu1 (v_ix hu1 (v_var 0) v_int) (v_var 6)) v_int) (va_cons (v_call C_drop_of.m (c.blk s1 H1 _ _ fp1) (hr.mono (by decide)) rfl C_drop_of.g C_drop_of.kp C_drop_of.b .nil (fun _ _ => .nil) (va_cons (v_var 0) (va_cons (v_var 2) (va_cons (v_var 6) va_nil)))) va_nil))))) va_nil))))))
abbrev N_heights_worth : List Str := ["net", "draws", "heights"]
theorem sc_heights_worth : FnScope ["net", "draws", "heights"] ["net", "draws", "heights"] (defScope (top 59)) := ⟨rfl, rfl, rfl, by decide +kernel, rfl, by decide +kernel, by decide +kernel⟩
set_option maxHeartbeats 4000000 in
theorem ok_heights_worth {f_want_asked_a : Addr} {d_want_asked : FuncData} {f_want_let_a : Addr} {d_want_let : FuncData} {f_want_heights_a : Addr} {d_want_heights : FuncData} {f_not_let_drop_a : Addr} {d_not_let_drop : FuncData} {f_heights_worth_of_a : Addr} {d_heights_worth_of : FuncData} (F : FnP K "heights_worth" (top 59) f fd) (C_want_asked : Cal P w K mg base (RXK K) 9 "want_asked" f_want_asked_a d_want_asked ["net", "draws"] F_want_asked) (C_want_let : Cal P w K mg base (RXK K) 3 "want_let" f_want_let_a d_want_let ["pipe"] F_want_let) (C_want_heights : Cal P w K mg base (RXK K) 3 "want_heights" f_want_heights_a d_want_heights ["net", "heights"] F_want_heights) (C_not_let_drop : Cal P w K mg base (RXK K) 2 "not_let_drop" f_not_let_drop_a d_not_let_drop ["net", "heights"] F_not_let_drop) (C_heights_worth_of : Cal P w K mg base (RXK K) 4 "heights_worth_of" f_heights_worth_of_a d_heights_worth_of ["net", "draws", "heights"] F_heights_worth_of) : FnM P w K mg base (RXK K) 10 f fd ["net", "draws", "heights"] F_heights_worth := by
  have sc := sc_heights_worth
  refine fnM_of F sc (fun cdv A outer s H E hr hgd => ?_)
  have c := cok_of (P := P) (w := w) (K := K) (mg := mg) (base := base) (N := ["net", "draws", "heights"]) (outer := outer) (H := H) (E := E) hgd
  have hu64 := hr.units
  have hu65 := hu65_of hr
  have hu1 := hu_of hr
  exact (vs_cons (vs_expr (v_call C_want_asked.m c (hr.mono (by decide)) rfl C_want_asked.g C_want_asked.kp C_want_asked.b .nil (fun _ _ => .nil) (va_cons (v_var 0) (va_cons (v_var 1) va_nil)))) (vs_cons (vs_expr (v_call C_want_heights.m c (hr.mono (by decide)) rfl C_want_heights.g C_want_heights.kp C_want_heights.b .nil (fun _ _ => .nil) (va_cons (v_var 0) (va_cons (v_var 2) va_nil)))) (vs_cons (vs_expr (v_call C_want_let.m c (hr.mono (by decide)) rfl C_want_let.g C_want_let.kp C_want_let.b .nil (fun _ _ => .nil) (va_cons (v_call C_not_let_drop.m c (hr.mono (by decide)) rfl C_not_let_drop.g C_not_let_drop.kp C_not_let_drop.b .nil (fun _ _ => .nil) (va_cons (v_var 0) (va_cons (v_var 2) va_nil))) va_nil))) (vs_one (vs_ret (v_call C_heights_worth_of.m c (hr.mono (by decide)) rfl C_heights_worth_of.g C_heights_worth_of.kp C_heights_worth_of.b .nil (fun _ _ => .nil) (va_cons (v_var 0) (va_cons (v_var 1) (va_cons (v_var 2) va_nil)))))))))
abbrev N__law_flow_ends : List Str := ["stair"]
theorem sc__law_flow_ends : FnScope ["stair"] ["stair"] (defScope (top 66)) := ⟨rfl, rfl, rfl, by decide +kernel, rfl, by decide +kernel, by decide +kernel⟩
set_option maxHeartbeats 4000000 in
theorem ok__law_flow_ends  (F : FnP K "_law_flow_ends" (top 66) f fd)  : FnM P w K mg base (RXK K) 1 f fd ["stair"] F__law_flow_ends := by
  have sc := sc__law_flow_ends
  refine fnM_of F sc (fun cdv A outer s H E hr hgd => ?_)
  have c := cok_of (P := P) (w := w) (K := K) (mg := mg) (base := base) (N := ["stair"]) (outer := outer) (H := H) (E := E) hgd
  have hu64 := hr.units
  have hu65 := hu65_of hr
  have hu1 := hu_of hr
  exact (vs_one (vs_ret (v_tup (va_cons (v_ix hu1 (v_var 0) v_int) (va_cons (v_if (vt_cmp (o_ne hu64) ov_ne (v_ix hu1 (v_var 0) v_int) (v_tup va_nil) (nobehind _ (by decide) (by decide))) (v_ix hu1 (v_ix hu1 (v_ix hu1 (v_var 0) v_int) (v_un un_neg uv_neg v_int)) v_int) (v_ix hu1 (v_var 0) v_int)) va_nil)))))
abbrev N__law_is_between : List Str := ["value", "ends"]
theorem sc__law_is_between : FnScope ["value", "ends"] ["value", "ends"] (defScope (top 68)) := ⟨rfl, rfl, rfl, by decide +kernel, rfl, by decide +kernel, by decide +kernel⟩
set_option maxHeartbeats 4000000 in
theorem ok__law_is_between  (F : FnP K "_law_is_between" (top 68) f fd)  : FnM P w K mg base (RXK K) 1 f fd ["value", "ends"] F__law_is_between := by
  have sc := sc__law_is_between
  refine fnM_of F sc (fun cdv A outer s H E hr hgd => ?_)
  have c := cok_of (P := P) (w := w) (K := K) (mg := mg) (base := base) (N := ["value", "ends"]) (outer := outer) (H := H) (E := E) hgd
  have hu64 := hr.units
  have hu65 := hu65_of hr
  have hu1 := hu_of hr
  exact (vs_one (vs_ret (v_and (v_or (v_cmp o_is ov_is (v_ix hu1 (v_var 1) v_int) v_non (nobehind _ (by decide) (by decide))) (v_one (v_cmp op_le ov_le (v_ix hu1 (v_var 1) v_int) (v_var 0) (nobehind _ (by decide) (by decide))))) (v_one (v_or (v_cmp o_is ov_is (v_ix hu1 (v_var 1) v_int) v_non (nobehind _ (by decide) (by decide))) (v_one (v_cmp op_le ov_le (v_var 0) (v_ix hu1 (v_var 1) v_int) (nobehind _ (by decide) (by decide)))))))))
abbrev N__law_drop_ends : List Str := ["stair", "low"]
theorem sc__law_drop_ends : FnScope ["stair", "low"] ["stair"] (defScope (top 67)) := ⟨rfl, rfl, rfl, by decide +kernel, rfl, by decide +kernel, by decide +kernel⟩
set_option maxHeartbeats 4000000 in
theorem ok__law_drop_ends  (F : FnP K "_law_drop_ends" (top 67) f fd)  : FnM P w K mg base (RXK K) 1 f fd ["stair"] F__law_drop_ends := by
  have sc := sc__law_drop_ends
  refine fnM_of F sc (fun cdv A outer s H E hr hgd => ?_)
  have c := cok_of (P := P) (w := w) (K := K) (mg := mg) (base := base) (N := ["stair", "low"]) (outer := outer) (H := H) (E := E) hgd
  have hu64 := hr.units
  have hu65 := hu65_of hr
  have hu1 := hu_of hr
  exact (vs_cons (vs_set 1 sc.nd (v_if (vt_cmp o_is ov_is (v_ix hu1 (v_var 0) v_int) v_non (nobehind _ (by decide) (by decide))) (v_ix hu1 (v_ix hu1 (v_ix hu1 (v_var 0) v_int) v_int) v_int) v_non)) (vs_one (vs_ret (v_tup (va_cons (v_var 1) (va_cons (v_if (vt_w (vw_and (vt_cmp (o_ne hu64) ov_ne (v_ix hu1 (v_var 0) v_int) (v_tup va_nil) (nobehind _ (by decide) (by decide))) (vw_and1 (vt_cmp o_is ov_is (v_ix hu1 (v_ix hu1 (v_ix hu1 (v_var 0) v_int) (v_un un_neg uv_neg v_int)) v_int) v_non (nobehind _ (by decide) (by decide)))))) (v_ix hu1 (v_ix hu1 (v_ix hu1 (v_var 0) v_int) (v_un un_neg uv_neg v_int)) v_int) v_non) va_nil))))))
abbrev N__law_flows_at : List Str := ["stair", "drop", "low", "step", "most"]
theorem sc__law_flows_at : FnScope ["stair", "drop", "low", "step", "most"] ["stair", "drop"] (defScope (top 69)) := ⟨rfl, rfl, rfl, by decide +kernel, rfl, by decide +kernel, by decide +kernel⟩
set_option maxHeartbeats 4000000 in
theorem ok__law_flows_at {f__law_is_between_a : Addr} {d__law_is_between : FuncData} {f__law_drop_ends_a : Addr} {d__law_drop_ends : FuncData} (F : FnP K "_law_flows_at" (top 69) f fd) (C__law_is_between : Cal P w K mg base (RXK K) 1 "_law_is_between" f__law_is_between_a d__law_is_between ["value", "ends"] F__law_is_between) (C__law_drop_ends : Cal P w K mg base (RXK K) 1 "_law_drop_ends" f__law_drop_ends_a d__law_drop_ends ["stair"] F__law_drop_ends) : FnM P w K mg base (RXK K) 2 f fd ["stair", "drop"] F__law_flows_at := by
  have sc := sc__law_flows_at
  refine fnM_of F sc (fun cdv A outer s H E hr hgd => ?_)
  have c := cok_of (P := P) (w := w) (K := K) (mg := mg) (base := base) (N := ["stair", "drop", "low", "step", "most"]) (outer := outer) (H := H) (E := E) hgd
  have hu64 := hr.units
  have hu65 := hu65_of hr
  have hu1 := hu_of hr
  exact (vs_cons (vs_if (vt_not (vt_truth (v_call C__law_is_between.m c (hr.mono (by decide)) rfl C__law_is_between.g C__law_is_between.kp C__law_is_between.b .nil (fun _ _ => .nil) (va_cons (v_var 1) (va_cons (v_call C__law_drop_ends.m c (hr.mono (by decide)) rfl C__law_drop_ends.g C__law_drop_ends.kp C__law_drop_ends.b .nil (fun _ _ => .nil) (va_cons (v_var 0) va_nil)) va_nil))))) (vs_one (vs_ret v_non)) vs_nil) (vs_cons (vs_set 2 sc.nd (v_ix hu1 (v_var 0) v_int)) (vs_cons (vs_for c.po c.calm (vi_seq (v_ix hu1 (v_var 0) v_int)) (vg_tup c.calm (vgs_cons (vg_name 3 sc.nd) (vgs_cons (vg_name 4 sc.nd) vgs_nil))) (vs_cons (vs_if (vt_cmp (o_eq hu64) ov_eq (v_var 1) (v_var 3) (nobehind _ (by decide) (by decide))) (vs_one (vs_ret (v_tup (va_cons (v_var 2) (va_cons (v_var 4) va_nil))))) vs_nil) (vs_cons (vs_if (vt_cmp op_lt ov_lt (v_var 1) (v_var 3) (nobehind _ (by decide) (by decide))) (vs_one (vs_ret (v_tup (va_cons (v_var 2) (va_cons (v_var 2) va_nil))))) vs_nil) (vs_one (vs_set 2 sc.nd (v_var 4)))))) (vs_one (vs_ret (v_tup (va_cons (v_var 2) (va_cons (v_var 2) va_nil))))))))
abbrev N__law_comes : List Str := ["net", "flows", "place", "flow", "near", "far", "stair"]
theorem sc__law_comes : FnScope ["net", "flows", "place", "flow", "near", "far", "stair"] ["net", "flows", "place"] (defScope (top 71)) := ⟨rfl, rfl, rfl, by decide +kernel, rfl, by decide +kernel, by decide +kernel⟩
set_option maxHeartbeats 4000000 in
theorem ok__law_comes  (F : FnP K "_law_comes" (top 71) f fd) (b_sum : mg "sum" = none) (b_zip : mg "zip" = none) : FnM P w K mg base (RXK K) 1 f fd ["net", "flows", "place"] F__law_comes := by
  have sc := sc__law_comes
  refine fnM_of F sc (fun cdv A outer s H E hr hgd => ?_)
  have c := cok_of (P := P) (w := w) (K := K) (mg := mg) (base := base) (N := ["net", "flows", "place", "flow", "near", "far", "stair"]) (outer := outer) (H := H) (E := E) hgd
  have hu64 := hr.units
  have hu65 := hu65_of hr
  have hu1 := hu_of hr
  exact (vs_one (vs_ret (v_op op_sub ov_sub (v_callB (cr_sum c.calm) cv_sum rfl b_sum (by decide +kernel) (va_cons (v_lc c.calm sc.nd (vi_zip rfl b_zip (va_cons (v_ix hu1 (v_var 0) v_int) (va_cons (v_var 1) va_nil))) (own := [("flow", 3), ("near", 4), ("far", 5), ("stair", 6)]) (blkOk_by (N := N__law_comes) (sc := defScope (top 71)) (by decide +kernel)) (fun s1 H1 C1 cl1 fp1 => (vg_tup (c.blk s1 H1 _ _ fp1).calm (vgs_cons (vg_tup (c.blk s1 H1 _ _ fp1).calm (vgs_cons (vg_name 4 sc.nd) (vgs_cons (vg_name 5 sc.nd) (vgs_cons (vg_name 6 sc.nd) vgs_nil)))) (vgs_cons (vg_name 3 sc.nd) vgs_nil)))) (fun s1 H1 C1 cl1 fp1 => (vts_one (vt_cmp (o_eq hu64) ov_eq (v_var 5) (v_var 2) (nobehind _ (by decide) (by decide))))) (fun s1 H1 C1 cl1 fp1 => (v_var 3))) va_nil)) (v_callB (cr_sum c.calm) cv_sum rfl b_sum (by decide +kernel) (va_cons (v_lc c.calm sc.nd (vi_zip rfl b_zip (va_cons (v_ix hu1 (v_var 0) v_int) (va_cons (v_var 1) va_nil))) (own := [("flow", 3), ("near", 4), ("far", 5), ("stair", 6)]) (blkOk_by (N := N__law_comes) (sc := defScope (top 71)) (by decide +kernel)) (fun s1 H1 C1 cl1 fp1 => (vg_tup (c.blk s1 H1 _ _ fp1).calm (vgs_cons (vg_tup (c.blk s1 H1 _ _ fp1).calm (vgs_cons (vg_name 4 sc.nd) (vgs_cons (vg_name 5 sc.nd) (vgs_cons (vg_name 6 sc.nd) vgs_nil)))) (vgs_cons (vg_name 3 sc.nd) vgs_nil)))) (fun s1 H1 C1 cl1 fp1 => (vts_one (vt_cmp (o_eq hu64) ov_eq (v_var 4) (v_var 2) (nobehind _ (by decide) (by decide))))) (fun s1 H1 C1 cl1 fp1 => (v_var 3))) va_nil)))))
abbrev N__law_near_nought : List Str := ["ends"]
theorem sc__law_near_nought : FnScope ["ends"] ["ends"] (defScope (top 70)) := ⟨rfl, rfl, rfl, by decide +kernel, rfl, by decide +kernel, by decide +kernel⟩
set_option maxHeartbeats 4000000 in
theorem ok__law_near_nought  (F : FnP K "_law_near_nought" (top 70) f fd)  : FnM P w K mg base (RXK K) 1 f fd ["ends"] F__law_near_nought := by
  have sc := sc__law_near_nought
  refine fnM_of F sc (fun cdv A outer s H E hr hgd => ?_)
  have c := cok_of (P := P) (w := w) (K := K) (mg := mg) (base := base) (N := ["ends"]) (outer := outer) (H := H) (E := E) hgd
  have hu64 := hr.units
  have hu65 := hu65_of hr
  have hu1 := hu_of hr
  exact (vs_cons (vs_if (vt_w (vw_and (vt_cmp o_notIs ov_notIs (v_ix hu1 (v_var 0) v_int) v_non (nobehind _ (by decide) (by decide))) (vw_and1 (vt_cmp op_gt ov_gt (v_ix hu1 (v_var 0) v_int) v_int (nobehind _ (by decide) (by decide)))))) (vs_one (vs_ret (v_ix hu1 (v_var 0) v_int))) vs_nil) (vs_one (vs_ret (v_if (vt_w (vw_and (vt_cmp o_notIs ov_notIs (v_ix hu1 (v_var 0) v_int) v_non (nobehind _ (by decide) (by decide))) (vw_and1 (vt_cmp op_lt ov_lt (v_ix hu1 (v_var 0) v_int) v_int (nobehind _ (by decide) (by decide)))))) (v_ix hu1 (v_var 0) v_int) v_int))))
abbrev N__law_under : List Str := ["stair", "low", "high", "found", "ahead", "drop", "most", "begin", "end"]
theorem sc__law_under : FnScope ["stair", "low", "high", "found", "ahead", "drop", "most", "begin", "end"] ["stair", "low", "high"] (defScope (top 80)) := ⟨rfl, rfl, rfl, by decide +kernel, rfl, by decide +kernel, by decide +kernel⟩
set_option maxHeartbeats 4000000 in
theorem ok__law_under  (F : FnP K "_law_under" (top 80) f fd)  : FnM P w K mg base (RXK K) 1 f fd ["stair", "low", "high"] F__law_under := by
  have sc := sc__law_under
  refine fnM_of F sc (fun cdv A outer s H E hr hgd => ?_)
  have c := cok_of (P := P) (w := w) (K := K) (mg := mg) (base := base) (N := ["stair", "low", "high", "found", "ahead", "drop", "most", "begin", "end"]) (outer := outer) (H := H) (E := E) hgd
  have hu64 := hr.units
  have hu65 := hu65_of hr
  have hu1 := hu_of hr
  exact (vs_cons (vs_par 3 4 c.calm sc.nd (va_cons v_int (va_cons (v_ix hu1 (v_var 0) v_int) va_nil))) (vs_cons (vs_for c.po c.calm (vi_seq (v_ix hu1 (v_var 0) v_int)) (vg_tup c.calm (vgs_cons (vg_name 5 sc.nd) (vgs_cons (vg_name 6 sc.nd) vgs_nil))) (vs_cons (vs_par 7 8 c.calm sc.nd (va_cons (v_if (vt_w (vw_or (vt_cmp o_is ov_is (v_var 4) v_non (nobehind _ (by decide) (by decide))) (vw_or1 (vt_cmp op_lt ov_lt (v_var 4) (v_var 1) (nobehind _ (by decide) (by decide)))))) (v_var 1) (v_var 4)) (va_cons (v_if (vt_w (vw_or (vt_cmp o_is ov_is (v_var 6) v_non (nobehind _ (by decide) (by decide))) (vw_or1 (vt_cmp op_gt ov_gt (v_var 6) (v_var 2) (nobehind _ (by decide) (by decide)))))) (v_var 2) (v_var 6)) va_nil))) (vs_cons (vs_set 3 sc.nd (v_op o_add ov_add (v_var 3) (v_if (vt_cmp op_gt ov_gt (v_var 8) (v_var 7) (nobehind _ (by decide) (by decide))) (v_op op_mul ov_mulI (v_var 5) (v_op op_sub ov_sub (v_var 8) (v_var 7))) v_int))) (vs_one (vs_set 4 sc.nd (v_var 6)))))) (vs_one (vs_ret (v_var 3)))))
abbrev N__law_energy : List Str := ["stair", "flow", "begin"]
theorem sc__law_energy : FnScope ["stair", "flow", "begin"] ["stair", "flow"] (defScope (top 81)) := ⟨rfl, rfl, rfl, by decide +kernel, rfl, by decide +kernel, by decide +kernel⟩
set_option maxHeartbeats 4000000 in
theorem ok__law_energy {f__law_flow_ends_a : Addr} {d__law_flow_ends : FuncData} {f__law_near_nought_a : Addr} {d__law_near_nought : FuncData} {f__law_under_a : Addr} {d__law_under : FuncData} (F : FnP K "_law_energy" (top 81) f fd) (C__law_flow_ends : Cal P w K mg base (RXK K) 1 "_law_flow_ends" f__law_flow_ends_a d__law_flow_ends ["stair"] F__law_flow_ends) (C__law_near_nought : Cal P w K mg base (RXK K) 1 "_law_near_nought" f__law_near_nought_a d__law_near_nought ["ends"] F__law_near_nought) (C__law_under : Cal P w K mg base (RXK K) 1 "_law_under" f__law_under_a d__law_under ["stair", "low", "high"] F__law_under) : FnM P w K mg base (RXK K) 2 f fd ["stair", "flow"] F__law_energy := by
  have sc := sc__law_energy
  refine fnM_of F sc (fun cdv A outer s H E hr hgd => ?_)
  have c := cok_of (P := P) (w := w) (K := K) (mg := mg) (base := base) (N := ["stair", "flow", "begin"]) (outer := outer) (H := H) (E := E) hgd
  have hu64 := hr.units
  have hu65 := hu65_of hr
  have hu1 := hu_of hr
  exact (vs_cons (vs_set 2 sc.nd (v_call C__law_near_nought.m c (hr.mono (by decide)) rfl C__law_near_nought.g C__law_near_nought.kp C__law_near_nought.b .nil (fun _ _ => .nil) (va_cons (v_call C__law_flow_ends.m c (hr.mono (by decide)) rfl C__law_flow_ends.g C__law_flow_ends.kp C__law_flow_ends.b .nil (fun _ _ => .nil) (va_cons (v_var 0) va_nil)) va_nil))) (vs_one (vs_ret (v_if (vt_cmp op_ge ov_ge (v_var 1) (v_var 2) (nobehind _ (by decide) (by decide))) (v_call C__law_under.m c (hr.mono (by decide)) rfl C__law_under.g C__law_under.kp C__law_under.b .nil (fun _ _ => .nil) (va_cons (v_var 0) (va_cons (v_var 2) (va_cons (v_var 1) va_nil)))) (v_op op_sub ov_sub v_int (v_call C__law_under.m c (hr.mono (by decide)) rfl C__law_under.g C__law_under.kp C__law_under.b .nil (fun _ _ => .nil) (va_cons (v_var 0) (va_cons (v_var 1) (va_cons (v_var 2) va_nil)))))))))
abbrev N__law_cost : List Str := ["net", "flows", "found", "place", "height", "flow", "near", "far", "stair"]
theorem sc__law_cost : FnScope ["net", "flows", "found", "place", "height", "flow", "near", "far", "stair"] ["net", "flows"] (defScope (top 83)) := ⟨rfl, rfl, rfl, by decide +kernel, rfl, by decide +kernel, by decide +kernel⟩
set_option maxHeartbeats 4000000 in
theorem ok__law_cost {f__law_comes_a : Addr} {d__law_comes : FuncData} {f__law_energy_a : Addr} {d__law_energy : FuncData} (F : FnP K "_law_cost" (top 83) f fd) (C__law_comes : Cal P w K mg base (RXK K) 1 "_law_comes" f__law_comes_a d__law_comes ["net", "flows", "place"] F__law_comes) (C__law_energy : Cal P w K mg base (RXK K) 2 "_law_energy" f__law_energy_a d__law_energy ["stair", "flow"] F__law_energy) (b_enumerate : mg "enumerate" = none) (b_sum : mg "sum" = none) (b_zip : mg "zip" = none) : FnM P w K mg base (RXK K) 3 f fd ["net", "flows"] F__law_cost := by
  have sc := sc__law_cost
  refine fnM_of F sc (fun cdv A outer s H E hr hgd => ?_)
  have c := cok_of (P := P) (w := w) (K := K) (mg := mg) (base := base) (N := ["net", "flows", "found", "place", "height", "flow", "near", "far", "stair"]) (outer := outer) (H := H) (E := E) hgd
  have hu64 := hr.units
  have hu65 := hu65_of hr
  have hu1 := hu_of hr
  exact (vs_cons (vs_set 2 sc.nd (v_callB (cr_sum c.calm) cv_sum rfl b_sum (by decide +kernel) (va_cons (v_lc c.calm sc.nd (vi_zip rfl b_zip (va_cons (v_ix hu1 (v_var 0) v_int) (va_cons (v_var 1) va_nil))) (own := [("flow", 5), ("near", 6), ("far", 7), ("stair", 8)]) (blkOk_by (N := N__law_cost) (sc := defScope (top 83)) (by decide +kernel)) (fun s1 H1 C1 cl1 fp1 => (vg_tup (c.blk s1 H1 _ _ fp1).calm (vgs_cons (vg_tup (c.blk s1 H1 _ _ fp1).calm (vgs_cons (vg_name 6 sc.nd) (vgs_cons (vg_name 7 sc.nd) (vgs_cons (vg_name 8 sc.nd) vgs_nil)))) (vgs_cons (vg_name 5 sc.nd) vgs_nil)))) (fun s1 H1 C1 cl1 fp1 => vts_nil) (fun s1 H1 C1 cl1 fp1 => (v_call C__law_energy.m (c.blk s1 H1 _ _ fp1) (hr.mono (by decide)) rfl C__law_energy.g C__law_energy.kp C__law_energy.b .nil (fun _ _ => .nil) (va_cons (v_var 8) (va_cons (v_var 5) va_nil))))) va_nil))) (vs_cons (vs_for c.po c.calm (vi_enum rfl b_enumerate (va_cons (v_ix hu1 (v_var 0) v_int) va_nil)) (vg_tup c.calm (vgs_cons (vg_name 3 sc.nd) (vgs_cons (vg_name 4 sc.nd) vgs_nil))) (vs_one (vs_set 2 sc.nd (v_op o_add ov_add (v_var 2) (v_if (vt_cmp o_is ov_is (v_var 4) v_non (nobehind _ (by decide) (by decide))) v_int (v_op op_mul ov_mulI (v_var 4) (v_call C__law_comes.m c (hr.mono (by decide)) rfl C__law_comes.g C__law_comes.kp C__law_comes.b .nil (fun _ _ => .nil) (va_cons (v_var 0) (va_cons (v_var 1) (va_cons (v_var 3) va_nil)))))))))) (vs_one (vs_ret (v_var 2)))))
abbrev N__law_worth : List Str := ["stair", "drop", "flow"]
theorem sc__law_worth : FnScope ["stair", "drop", "flow"] ["stair", "drop"] (defScope (top 82)) := ⟨rfl, rfl, rfl, by decide +kernel, rfl, by decide +kernel, by decide +kernel⟩
set_option maxHeartbeats 4000000 in
theorem ok__law_worth {f__law_flows_at_a : Addr} {d__law_flows_at : FuncData} {f__law_near_nought_a : Addr} {d__law_near_nought : FuncData} {f__law_energy_a : Addr} {d__law_energy : FuncData} (F : FnP K "_law_worth" (top 82) f fd) (C__law_flows_at : Cal P w K mg base (RXK K) 2 "_law_flows_at" f__law_flows_at_a d__law_flows_at ["stair", "drop"] F__law_flows_at) (C__law_near_nought : Cal P w K mg base (RXK K) 1 "_law_near_nought" f__law_near_nought_a d__law_near_nought ["ends"] F__law_near_nought) (C__law_energy : Cal P w K mg base (RXK K) 2 "_law_energy" f__law_energy_a d__law_energy ["stair", "flow"] F__law_energy) : FnM P w K mg base (RXK K) 3 f fd ["stair", "drop"] F__law_worth := by
  have sc := sc__law_worth
  refine fnM_of F sc (fun cdv A outer s H E hr hgd => ?_)
  have c := cok_of (P := P) (w := w) (K := K) (mg := mg) (base := base) (N := ["stair", "drop", "flow"]) (outer := outer) (H := H) (E := E) hgd
  have hu64 := hr.units
  have hu65 := hu65_of hr
  have hu1 := hu_of hr
  exact (vs_cons (vs_set 2 sc.nd (v_call C__law_near_nought.m c (hr.mono (by decide)) rfl C__law_near_nought.g C__law_near_nought.kp C__law_near_nought.b .nil (fun _ _ => .nil) (va_cons (v_call C__law_flows_at.m c (hr.mono (by decide)) rfl C__law_flows_at.g C__law_flows_at.kp C__law_flows_at.b .nil (fun _ _ => .nil) (va_cons (v_var 0) (va_cons (v_var 1) va_nil))) va_nil))) (vs_one (vs_ret (v_op op_sub ov_sub (v_op op_mul ov_mulI (v_var 1) (v_var 2)) (v_call C__law_energy.m c (hr.mono (by decide)) rfl C__law_energy.g C__law_energy.kp C__law_energy.b .nil (fun _ _ => .nil) (va_cons (v_var 0) (va_cons (v_var 2) va_nil)))))))
abbrev N__law_value : List Str := ["net", "draws", "heights", "found", "much", "height", "near", "far", "stair"]
theorem sc__law_value : FnScope ["net", "draws", "heights", "found", "much", "height", "near", "far", "stair"] ["net", "draws", "heights"] (defScope (top 84)) := ⟨rfl, rfl, rfl, by decide +kernel, rfl, by decide +kernel, by decide +kernel⟩
set_option maxHeartbeats 4000000 in
theorem ok__law_value {f__law_worth_a : Addr} {d__law_worth : FuncData} (F : FnP K "_law_value" (top 84) f fd) (C__law_worth : Cal P w K mg base (RXK K) 3 "_law_worth" f__law_worth_a d__law_worth ["stair", "drop"] F__law_worth) (b_sum : mg "sum" = none) (b_zip : mg "zip" = none) : FnM P w K mg base (RXK K) 4 f fd ["net", "draws", "heights"] F__law_value := by
  have sc := sc__law_value
  refine fnM_of F sc (fun cdv A outer s H E hr hgd => ?_)
  have c := cok_of (P := P) (w := w) (K := K) (mg := mg) (base := base) (N := ["net", "draws", "heights", "found", "much", "height", "near", "far", "stair"]) (outer := outer) (H := H) (E := E) hgd
  have hu64 := hr.units
  have hu65 := hu65_of hr
  have hu1 := hu_of hr
  exact (vs_cons (vs_set 3 sc.nd (v_op op_sub ov_sub v_int (v_callB (cr_sum c.calm) cv_sum rfl b_sum (by decide +kernel) (va_cons (v_lc c.calm sc.nd (vi_zip rfl b_zip (va_cons (v_var 1) (va_cons (v_var 2) va_nil))) (own := [("much", 4), ("height", 5)]) (blkOk_by (N := N__law_value) (sc := defScope (top 84)) (by decide +kernel)) (fun s1 H1 C1 cl1 fp1 => (vg_tup (c.blk s1 H1 _ _ fp1).calm (vgs_cons (vg_name 4 sc.nd) (vgs_cons (vg_name 5 sc.nd) vgs_nil)))) (fun s1 H1 C1 cl1 fp1 => vts_nil) (fun s1 H1 C1 cl1 fp1 => (v_op op_mul ov_mulI (v_var 4) (v_var 5)))) va_nil)))) (vs_one (vs_ret (v_op op_sub ov_sub (v_var 3) (v_callB (cr_sum c.calm) cv_sum rfl b_sum (by decide +kernel) (va_cons (v_lc c.calm sc.nd (vi_seq (v_ix hu1 (v_var 0) v_int)) (own := [("near", 6), ("far", 7), ("stair", 8)]) (blkOk_by (N := N__law_value) (sc := defScope (top 84)) (by decide +kernel)) (fun s1 H1 C1 cl1 fp1 => (vg_tup (c.blk s1 H1 _ _ fp1).calm (vgs_cons (vg_name 6 sc.nd) (vgs_cons (vg_name 7 sc.nd) (vgs_cons (vg_name 8 sc.nd) vgs_nil))))) (fun s1 H1 C1 cl1 fp1 => vts_nil) (fun s1 H1 C1 cl1 fp1 => (v_call C__law_worth.m (c.blk s1 H1 _ _ fp1) (hr.mono (by decide)) rfl C__law_worth.g C__law_worth.kp C__law_worth.b .nil (fun _ _ => .nil) (va_cons (v_var 8) (va_cons (v_op op_sub ov_sub (v_ix hu1 (v_var 2) (v_var 6)) (v_ix hu1 (v_var 2) (v_var 7))) va_nil))))) va_nil))))))
abbrev N__law_some_flows : List Str := ["pot", "net", "found", "near", "far", "stair", "ends", "flow", "is_free"]
theorem sc__law_some_flows : FnScope ["pot", "net", "found", "near", "far", "stair", "ends", "flow", "is_free"] ["pot", "net"] (defScope (top 86)) := ⟨rfl, rfl, rfl, by decide +kernel, rfl, by decide +kernel, by decide +kernel⟩
set_option maxHeartbeats 4000000 in
theorem ok__law_some_flows {f__law_draw_a : Addr} {d__law_draw : FuncData} {f__law_flow_ends_a : Addr} {d__law_flow_ends : FuncData} {f__law_is_between_a : Addr} {d__law_is_between : FuncData} {f__law_near_nought_a : Addr} {d__law_near_nought : FuncData} (F : FnP K "_law_some_flows" (top 86) f fd) (C__law_draw : Cal P w K mg base (RXK K) 1 "_law_draw" f__law_draw_a d__law_draw ["pot", "size"] F__law_draw) (C__law_flow_ends : Cal P w K mg base (RXK K) 1 "_law_flow_ends" f__law_flow_ends_a d__law_flow_ends ["stair"] F__law_flow_ends) (C__law_is_between : Cal P w K mg base (RXK K) 1 "_law_is_between" f__law_is_between_a d__law_is_between ["value", "ends"] F__law_is_between) (C__law_near_nought : Cal P w K mg base (RXK K) 1 "_law_near_nought" f__law_near_nought_a d__law_near_nought ["ends"] F__law_near_nought) (b_tuple : mg "tuple" = none) : FnM P w K mg base (RXK K) 2 f fd ["pot", "net"] F__law_some_flows := by
  have sc := sc__law_some_flows
  refine fnM_of F sc (fun cdv A outer s H E hr hgd => ?_)
  have c := cok_of (P := P) (w := w) (K := K) (mg := mg) (base := base) (N := ["pot", "net", "found", "near", "far", "stair", "ends", "flow", "is_free"]) (outer := outer) (H := H) (E := E) hgd
  have hu64 := hr.units
  have hu65 := hu65_of hr
  have hu1 := hu_of hr
  exact (vs_cons (vs_set 2 sc.nd (v_lstM va_nil)) (vs_cons (vs_for c.po c.calm (vi_seq (v_ix hu1 (v_var 1) v_int)) (vg_tup c.calm (vgs_cons (vg_name 3 sc.nd) (vgs_cons (vg_name 4 sc.nd) (vgs_cons (vg_name 5 sc.nd) vgs_nil)))) (vs_cons (vs_set 6 sc.nd (v_call C__law_flow_ends.m c (hr.mono (by decide)) rfl C__law_flow_ends.g C__law_flow_ends.kp C__law_flow_ends.b .nil (fun _ _ => .nil) (va_cons (v_var 5) va_nil))) (vs_cons (vs_set 7 sc.nd (v_op op_sub ov_sub (v_op o_add ov_add (v_call C__law_near_nought.m c (hr.mono (by decide)) rfl C__law_near_nought.g C__law_near_nought.kp C__law_near_nought.b .nil (fun _ _ => .nil) (va_cons (v_var 6) va_nil)) (v_call C__law_draw.m c (hr.mono (by decide)) rfl C__law_draw.g C__law_draw.kp C__law_draw.b .nil (fun _ _ => .nil) (va_cons (v_var 0) (va_cons v_int va_nil)))) v_int)) (vs_cons (vs_set 8 sc.nd (v_cmp (o_eq hu64) ov_eq (v_call C__law_draw.m c (hr.mono (by decide)) rfl C__law_draw.g C__law_draw.kp C__law_draw.b .nil (fun _ _ => .nil) (va_cons (v_var 0) (va_cons v_int va_nil))) v_int (nobehind _ (by decide) (by decide)))) (vs_one (vs_expr (v_ml mt_append mv_append PySem.F.slot_list_append PySem.F.type_list_append (v_var 2) (va_cons (v_if (vt_w (vw_or (vt_truth (v_var 8)) (vw_or1 (vt_truth (v_call C__law_is_between.m c (hr.mono (by decide)) rfl C__law_is_between.g C__law_is_between.kp C__law_is_between.b .nil (fun _ _ => .nil) (va_cons (v_var 7) (va_cons (v_var 6) va_nil))))))) (v_var 7) (v_call C__law_near_nought.m c (hr.mono (by decide)) rfl C__law_near_nought.g C__law_near_nought.kp C__law_near_nought.b .nil (fun _ _ => .nil) (va_cons (v_var 6) va_nil))) va_nil)))))))) (vs_one (vs_ret (v_callTy call_tuple_of cv_tuple rfl b_tuple (by decide +kernel) (va_cons (v_var 2) va_nil))))))
abbrev N__law_some_heights : List Str := ["pot", "net", "base", "height"]
theorem sc__law_some_heights : FnScope ["pot", "net", "base", "height"] ["pot", "net"] (defScope (top 87)) := ⟨rfl, rfl, rfl, by decide +kernel, rfl, by decide +kernel, by decide +kernel⟩
set_option maxHeartbeats 4000000 in
theorem ok__law_some_heights {f__law_draw_a : Addr} {d__law_draw : FuncData} (F : FnP K "_law_some_heights" (top 87) f fd) (C__law_draw : Cal P w K mg base (RXK K) 1 "_law_draw" f__law_draw_a d__law_draw ["pot", "size"] F__law_draw) (b_tuple : mg "tuple" = none) : FnM P w K mg base (RXK K) 2 f fd ["pot", "net"] F__law_some_heights := by
  have sc := sc__law_some_heights
  refine fnM_of F sc (fun cdv A outer s H E hr hgd => ?_)
  have c := cok_of (P := P) (w := w) (K := K) (mg := mg) (base := base) (N := ["pot", "net", "base", "height"]) (outer := outer) (H := H) (E := E) hgd
  have hu64 := hr.units
  have hu65 := hu65_of hr
  have hu1 := hu_of hr
  exact (vs_cons (vs_set 2 sc.nd (v_op op_sub ov_sub (v_call C__law_draw.m c (hr.mono (by decide)) rfl C__law_draw.g C__law_draw.kp C__law_draw.b .nil (fun _ _ => .nil) (va_cons (v_var 0) (va_cons v_int va_nil))) v_int)) (vs_one (vs_ret (v_callTy call_tuple_of cv_tuple rfl b_tuple (by decide +kernel) (va_cons (v_lc c.calm sc.nd (vi_seq (v_ix hu1 (v_var 1) v_int)) (own := [("height", 3)]) (blkOk_by (N := N__law_some_heights) (sc := defScope (top 87)) (by decide +kernel)) (fun s1 H1 C1 cl1 fp1 => (vg_name 3 sc.nd)) (fun s1 H1 C1 cl1 fp1 => vts_nil) (fun s1 H1 C1 cl1 fp1 => (v_if (vt_cmp o_is ov_is (v_var 3) v_non (nobehind _ (by decide) (by decide))) (v_op op_sub ov_sub (v_op o_add ov_add (v_var 2) (v_call C__law_draw.m (c.blk s1 H1 _ _ fp1) (hr.mono (by decide)) rfl C__law_draw.g C__law_draw.kp C__law_draw.b .nil (fun _ _ => .nil) (va_cons (v_var 0) (va_cons v_int va_nil)))) v_int) (v_var 3)))) va_nil)))))
abbrev N__law_two_right : List Str := ["pot", "net", "flows", "heights", "draws", "far", "odd", "cost", "value", "told", "place", "height", "at", "one", "other", "stair"]
theorem sc__law_two_right : FnScope ["pot", "net", "flows", "heights", "draws", "far", "odd", "cost", "value", "told", "place", "height", "at", "one", "other", "stair"] ["pot", "net"] (defScope (top 88)) := ⟨rfl, rfl, rfl, by decide +kernel, rfl, by decide +kernel, by decide +kernel⟩
set_option maxHeartbeats 4000000 in
theorem ok__law_two_right {f_is_stand_a : Addr} {d_is_stand : FuncData} {f_flows_energy_a : Addr} {d_flows_energy : FuncData} {f_heights_worth_a : Addr} {d_heights_worth : FuncData} {f__law_flow_ends_a : Addr} {d__law_flow_ends : FuncData} {f__law_is_between_a : Addr} {d__law_is_between : FuncData} {f__law_flows_at_a : Addr} {d__law_flows_at : FuncData} {f__law_comes_a : Addr} {d__law_comes : FuncData} {f__law_cost_a : Addr} {d__law_cost : FuncData} {f__law_value_a : Addr} {d__law_value : FuncData} {f__law_some_flows_a : Addr} {d__law_some_flows : FuncData} {f__law_some_heights_a : Addr} {d__law_some_heights : FuncData} {g__law_heard : Addr} {e__law_heard : FuncData} (F : FnP K "_law_two_right" (top 88) (He.fAd K ("_law_two_right", none)) fd) (C_is_stand : Cal P w K mg base (RXK K) 10 "is_stand" f_is_stand_a d_is_stand ["net", "draws", "value"] F_is_stand) (C_flows_energy : Cal P w K mg base (RXK K) 9 "flows_energy" f_flows_energy_a d_flows_energy ["net", "flows"] F_flows_energy) (C_heights_worth : Cal P w K mg base (RXK K) 10 "heights_worth" f_heights_worth_a d_heights_worth ["net", "draws", "heights"] F_heights_worth) (C__law_flow_ends : Cal P w K mg base (RXK K) 1 "_law_flow_ends" f__law_flow_ends_a d__law_flow_ends ["stair"] F__law_flow_ends) (C__law_is_between : Cal P w K mg base (RXK K) 1 "_law_is_between" f__law_is_between_a d__law_is_between ["value", "ends"] F__law_is_between) (C__law_flows_at : Cal P w K mg base (RXK K) 2 "_law_flows_at" f__law_flows_at_a d__law_flows_at ["stair", "drop"] F__law_flows_at) (C__law_comes : Cal P w K mg base (RXK K) 1 "_law_comes" f__law_comes_a d__law_comes ["net", "flows", "place"] F__law_comes) (C__law_cost : Cal P w K mg base (RXK K) 3 "_law_cost" f__law_cost_a d__law_cost ["net", "flows"] F__law_cost) (C__law_value : Cal P w K mg base (RXK K) 4 "_law_value" f__law_value_a d__law_value ["net", "draws", "heights"] F__law_value) (C__law_some_flows : Cal P w K mg base (RXK K) 2 "_law_some_flows" f__law_some_flows_a d__law_some_flows ["pot", "net"] F__law_some_flows) (C__law_some_heights : Cal P w K mg base (RXK K) 2 "_law_some_heights" f__law_some_heights_a d__law_some_heights ["pot", "net"] F__law_some_heights) (kb_flows_energy_0_flows_net : KB K d_flows_energy ["net", "flows"] 0 ["flows", "net"] [1, 0]) (kb_heights_worth_0_heights_draws_net : KB K d_heights_worth ["net", "draws", "heights"] 0 ["heights", "draws", "net"] [2, 1, 0]) (b_enumerate : mg "enumerate" = none) (b_isinstance : mg "isinstance" = none) (b_repr : mg "repr" = none) (b_tuple : mg "tuple" = none) (H__law_heard : FnP K "_law_heard" (top 85) g__law_heard e__law_heard) (m__law_heard : mg "_law_heard" = some (.ref g__law_heard)) (k__law_heard : PySem.W.keepIn K (.ref g__law_heard) = true) (bd__law_heard : Binds K e__law_heard ["call"] []) (tb : TabB base mg (He.cT K ("_law_two_right", none)).1 (He.cT K ("_law_two_right", none)).2) (su_NotLet : SuC K "NotLet") (nf_NotLet_pipe : PySem.W.findIn K (.ref (He.ga K "NotLet")) "pipe" = some none) (ki_NotLet_StateError : PySem.W.kitOne K (.ref (He.ga K "NotLet")) (.ref (He.ga K "StateError")) = some true) (ex_NotLet_NotLet : PySem.W.exmOne K (.ref (He.ga K "NotLet")) (.ref (He.ga K "NotLet")) = some true) (o_NotLet : mg "NotLet" = some (.ref (He.ga K "NotLet"))) (o_StateError : mg "StateError" = some (.ref (He.ga K "StateError"))) : FnM P w K mg base (RXK K) 13 (He.fAd K ("_law_two_right", none)) fd ["pot", "net"] F__law_two_right := by
  have sc := sc__law_two_right
  refine fnM_ofC (p := ("_law_two_right", none)) F sc (fun A outer s H E hr hgd => ?_)
  have c := cok_of (P := P) (w := w) (K := K) (mg := mg) (base := base) (N := ["pot", "net", "flows", "heights", "draws", "far", "odd", "cost", "value", "told", "place", "height", "at", "one", "other", "stair"]) (outer := outer) (H := H) (E := E) hgd
  have hu64 := hr.units
  have hu65 := hu65_of hr
  have hu1 := hu_of hr
  exact (vs_cons (vs_asg (v_tup (va_cons (v_call C__law_some_flows.m c (hr.mono (by decide)) rfl C__law_some_flows.g C__law_some_flows.kp C__law_some_flows.b .nil (fun _ _ => .nil) (va_cons (v_var 0) (va_cons (v_var 1) va_nil))) (va_cons (v_call C__law_some_heights.m c (hr.mono (by decide)) rfl C__law_some_heights.g C__law_some_heights.kp C__law_some_heights.b .nil (fun _ _ => .nil) (va_cons (v_var 0) (va_cons (v_var 1) va_nil))) va_nil))) (vg_tup c.calm (vgs_cons (vg_name 2 sc.nd) (vgs_cons (vg_name 3 sc.nd) vgs_nil)))) (vs_cons (vs_set 4 sc.nd (v_callTy call_tuple_of cv_tuple rfl b_tuple (by decide +kernel) (va_cons (v_lc c.calm sc.nd (vi_enum rfl b_enumerate (va_cons (v_ix hu1 (v_var 1) v_int) va_nil)) (own := [("place", 10), ("height", 11)]) (blkOk_by (N := N__law_two_right) (sc := defScope (top 88)) (by decide +kernel)) (fun s1 H1 C1 cl1 fp1 => (vg_tup (c.blk s1 H1 _ _ fp1).calm (vgs_cons (vg_name 10 sc.nd) (vgs_cons (vg_name 11 sc.nd) vgs_nil)))) (fun s1 H1 C1 cl1 fp1 => vts_nil) (fun s1 H1 C1 cl1 fp1 => (v_if (vt_cmp o_notIs ov_notIs (v_var 11) v_non (nobehind _ (by decide) (by decide))) v_int (v_call C__law_comes.m (c.blk s1 H1 _ _ fp1) (hr.mono (by decide)) rfl C__law_comes.g C__law_comes.kp C__law_comes.b .nil (fun _ _ => .nil) (va_cons (v_var 1) (va_cons (v_var 2) (va_cons (v_var 10) va_nil))))))) va_nil))) (vs_cons (vs_setLc 5 c.calm sc.nd (vi_enum rfl b_enumerate (va_cons (v_ix hu1 (v_var 1) v_int) va_nil)) (own := [("at", 12), ("one", 13), ("other", 14), ("stair", 15)]) (blkOk_by (N := N__law_two_right) (sc := defScope (top 88)) (by decide +kernel)) (fun s1 H1 C1 cl1 fp1 => (vg_tup (c.blk s1 H1 _ _ fp1).calm (vgs_cons (vg_name 12 sc.nd) (vgs_cons (vg_tup (c.blk s1 H1 _ _ fp1).calm (vgs_cons (vg_name 13 sc.nd) (vgs_cons (vg_name 14 sc.nd) (vgs_cons (vg_name 15 sc.nd) vgs_nil)))) vgs_nil)))) (fun s1 H1 C1 cl1 fp1 => (vts_one (vt_not (vt_truth (v_call C__law_is_between.m (c.blk s1 H1 _ _ fp1) (hr.mono (by decide)) rfl C__law_is_between.g C__law_is_between.kp C__law_is_between.b .nil (fun _ _ => .nil) (va_cons (v_ix hu1 (v_var 2) (v_var 12)) (va_cons (v_call C__law_flow_ends.m (c.blk s1 H1 _ _ fp1) (hr.mono (by decide)) rfl C__law_flow_ends.g C__law_flow_ends.kp C__law_flow_ends.b .nil (fun _ _ => .nil) (va_cons (v_var 15) va_nil)) va_nil))))))) (fun s1 H1 C1 cl1 fp1 => (v_var 12)) (by rfl)) (vs_cons (vs_setLc 6 c.calm sc.nd (vi_enum rfl b_enumerate (va_cons (v_ix hu1 (v_var 1) v_int) va_nil)) (own := [("at", 12), ("one", 13), ("other", 14), ("stair", 15)]) (blkOk_by (N := N__law_two_right) (sc := defScope (top 88)) (by decide +kernel)) (fun s1 H1 C1 cl1 fp1 => (vg_tup (c.blk s1 H1 _ _ fp1).calm (vgs_cons (vg_name 12 sc.nd) (vgs_cons (vg_tup (c.blk s1 H1 _ _ fp1).calm (vgs_cons (vg_name 13 sc.nd) (vgs_cons (vg_name 14 sc.nd) (vgs_cons (vg_name 15 sc.nd) vgs_nil)))) vgs_nil)))) (fun s1 H1 C1 cl1 fp1 => (vts_one (vt_cmp o_is ov_is (v_call C__law_flows_at.m (c.blk s1 H1 _ _ fp1) (hr.mono (by decide)) rfl C__law_flows_at.g C__law_flows_at.kp C__law_flows_at.b .nil (fun _ _ => .nil) (va_cons (v_var 15) (va_cons (v_op op_sub ov_sub (v_ix hu1 (v_var 3) (v_var 13)) (v_ix hu1 (v_var 3) (v_var 14))) va_nil))) v_non (nobehind _ (by decide) (by decide))))) (fun s1 H1 C1 cl1 fp1 => (v_var 12)) (by rfl)) (vs_cons (vs_set 7 sc.nd (v_if (vt_cmp (o_ne hu64) ov_ne (v_var 5) (v_lst va_nil) (nobehind _ (by decide) (by decide))) (v_lst (va_cons v_str (va_cons (v_ix hu1 (v_var 5) v_int) (va_cons v_bl va_nil)))) (v_call C__law_cost.m c (hr.mono (by decide)) rfl C__law_cost.g C__law_cost.kp C__law_cost.b .nil (fun _ _ => .nil) (va_cons (v_var 1) (va_cons (v_var 2) va_nil))))) (vs_cons (vs_set 8 sc.nd (v_if (vt_cmp (o_ne hu64) ov_ne (v_var 6) (v_lst va_nil) (nobehind _ (by decide) (by decide))) (v_lst (va_cons v_str (va_cons (v_ix hu1 (v_var 6) v_int) (va_cons v_bl va_nil)))) (v_call C__law_value.m c (hr.mono (by decide)) rfl C__law_value.g C__law_value.kp C__law_value.b .nil (fun _ _ => .nil) (va_cons (v_var 1) (va_cons (v_var 4) (va_cons (v_var 3) va_nil)))))) (vs_cons (vs_set 9 sc.nd (v_lstM (va_cons (v_lam (k := 10) (gs := gs__law_heard) c H__law_heard (by rfl) sc__law_heard rfl rfl rfl m__law_heard k__law_heard bd__law_heard rfl (by decide) o_NotLet ex_NotLet_NotLet (fun cdv A outer s H a oe cls d pn hz hf => (ks_cons ke_str (ks_cons (ke_fld su_NotLet.x nf_NotLet_pipe hz hf rfl (Or.inl rfl)) (ks_cons (ke_isi su_NotLet.e hz hf ki_NotLet_StateError rfl b_isinstance rfl o_StateError rfl (Or.inl rfl)) ks_nil)))) tb rfl (by rfl) (hr.mono (by decide)) (lamS_by (sc := defScope (top 88)) (by decide +kernel)) rfl (fun _ _ _ _ _ => rfl) (fun A outer s H E f c' hr hgd => have c := cok_lam (E := E) (H := H) (outer := outer) hgd; (v_call C_flows_energy.m c (hr.mono (by decide)) rfl C_flows_energy.g C_flows_energy.kp C_flows_energy.b .nil (fun _ _ => .nil) (va_cons (v_var 1) (va_cons (v_var 2) va_nil))))) va_nil))) (vs_cons (vs_expr (v_ml mt_append mv_append PySem.F.slot_list_append PySem.F.type_list_append (v_var 9) (va_cons (v_lam (k := 10) (gs := gs__law_heard) c H__law_heard (by rfl) sc__law_heard rfl rfl rfl m__law_heard k__law_heard bd__law_heard rfl (by decide) o_NotLet ex_NotLet_NotLet (fun cdv A outer s H a oe cls d pn hz hf => (ks_cons ke_str (ks_cons (ke_fld su_NotLet.x nf_NotLet_pipe hz hf rfl (Or.inl rfl)) (ks_cons (ke_isi su_NotLet.e hz hf ki_NotLet_StateError rfl b_isinstance rfl o_StateError rfl (Or.inl rfl)) ks_nil)))) tb rfl (by rfl) (hr.mono (by decide)) (lamS_by (sc := defScope (top 88)) (by decide +kernel)) rfl (fun _ _ _ _ _ => rfl) (fun A outer s H E f c' hr hgd => have c := cok_lam (E := E) (H := H) (outer := outer) hgd; (v_callK0 C_flows_energy.m c (hr.mono (by decide)) (by rfl) C_flows_energy.g C_flows_energy.kp kb_flows_energy_0_flows_net (vk_cons (v_var 2) (vk_cons (v_var 1) vk_nil))))) va_nil))) (vs_frz 9 (vs_cons (vs_if (vt_cmp (o_ne hu64) ov_ne (v_callB (call_repr c.gd hu65) cv_repr rfl b_repr (by decide +kernel) (va_cons (v_var 9) va_nil)) (v_callB (call_repr c.gd hu65) cv_repr rfl b_repr (by decide +kernel) (va_cons (v_lst (va_cons (v_var 7) (va_cons (v_var 7) va_nil))) va_nil)) (nobehind _ (by decide) (by decide))) (vs_one (vs_ret v_bl)) vs_nil) (vs_cons (vs_set 9 sc.nd (v_lstM (va_cons (v_lam (k := 10) (gs := gs__law_heard) c H__law_heard (by rfl) sc__law_heard rfl rfl rfl m__law_heard k__law_heard bd__law_heard rfl (by decide) o_NotLet ex_NotLet_NotLet (fun cdv A outer s H a oe cls d pn hz hf => (ks_cons ke_str (ks_cons (ke_fld su_NotLet.x nf_NotLet_pipe hz hf rfl (Or.inl rfl)) (ks_cons (ke_isi su_NotLet.e hz hf ki_NotLet_StateError rfl b_isinstance rfl o_StateError rfl (Or.inl rfl)) ks_nil)))) tb rfl (by rfl) (hr.mono (by decide)) (lamS_by (sc := defScope (top 88)) (by decide +kernel)) rfl (fun _ _ _ _ _ => rfl) (fun A outer s H E f c' hr hgd => have c := cok_lam (E := E) (H := H) (outer := outer) hgd; (v_call C_heights_worth.m c (hr.mono (by decide)) rfl C_heights_worth.g C_heights_worth.kp C_heights_worth.b .nil (fun _ _ => .nil) (va_cons (v_var 1) (va_cons (v_var 4) (va_cons (v_var 3) va_nil)))))) va_nil))) (vs_cons (vs_expr (v_ml mt_append mv_append PySem.F.slot_list_append PySem.F.type_list_append (v_var 9) (va_cons (v_lam (k := 10) (gs := gs__law_heard) c H__law_heard (by rfl) sc__law_heard rfl rfl rfl m__law_heard k__law_heard bd__law_heard rfl (by decide) o_NotLet ex_NotLet_NotLet (fun cdv A outer s H a oe cls d pn hz hf => (ks_cons ke_str (ks_cons (ke_fld su_NotLet.x nf_NotLet_pipe hz hf rfl (Or.inl rfl)) (ks_cons (ke_isi su_NotLet.e hz hf ki_NotLet_StateError rfl b_isinstance rfl o_StateError rfl (Or.inl rfl)) ks_nil)))) tb rfl (by rfl) (hr.mono (by decide)) (lamS_by (sc := defScope (top 88)) (by decide +kernel)) rfl (fun _ _ _ _ _ => rfl) (fun A outer s H E f c' hr hgd => have c := cok_lam (E := E) (H := H) (outer := outer) hgd; (v_callK0 C_heights_worth.m c (hr.mono (by decide)) (by rfl) C_heights_worth.g C_heights_worth.kp kb_heights_worth_0_heights_draws_net (vk_cons (v_var 3) (vk_cons (v_var 4) (vk_cons (v_var 1) vk_nil)))))) va_nil))) (vs_frz 9 (vs_cons (vs_if (vt_cmp (o_ne hu64) ov_ne (v_callB (call_repr c.gd hu65) cv_repr rfl b_repr (by decide +kernel) (va_cons (v_var 9) va_nil)) (v_callB (call_repr c.gd hu65) cv_repr rfl b_repr (by decide +kernel) (va_cons (v_lst (va_cons (v_var 8) (va_cons (v_var 8) va_nil))) va_nil)) (nobehind _ (by decide) (by decide))) (vs_one (vs_ret v_bl)) vs_nil) (vs_cons (vs_if (vt_w (vw_or (vt_cmp (o_ne hu64) ov_ne (v_var 5) (v_lst va_nil) (nobehind _ (by decide) (by decide))) (vw_or1 (vt_cmp (o_ne hu64) ov_ne (v_var 6) (v_lst va_nil) (nobehind _ (by decide) (by decide)))))) (vs_one (vs_ret (v_cmp o_is ov_is (v_call C_is_stand.m c (hr.mono (by decide)) rfl C_is_stand.g C_is_stand.kp C_is_stand.b .nil (fun _ _ => .nil) (va_cons (v_var 1) (va_cons (v_var 4) (va_cons (v_tup (va_cons (v_var 3) (va_cons (v_var 2) va_nil))) va_nil)))) v_bl (nobehind _ (by decide) (by decide))))) vs_nil) (vs_one (vs_ret (v_and (v_cmp op_ge ov_ge (v_var 7) (v_var 8) (nobehind _ (by decide) (by decide))) (v_one (v_cmp (o_eq hu64) ov_eq (v_cmp (o_eq hu64) ov_eq (v_var 7) (v_var 8) (nobehind _ (by decide) (by decide))) (v_call C_is_stand.m c (hr.mono (by decide)) rfl C_is_stand.g C_is_stand.kp C_is_stand.b .nil (fun _ _ => .nil) (va_cons (v_var 1) (va_cons (v_var 4) (va_cons (v_tup (va_cons (v_var 3) (va_cons (v_var 2) va_nil))) va_nil)))) (nobehind _ (by decide) (by decide))))))))))))))))))))))
abbrev N__law_right : List Str := ["pot", "net", "shown", "turn"]
theorem sc__law_right : FnScope ["pot", "net", "shown", "turn"] ["pot"] (defScope (top 89)) := ⟨rfl, rfl, rfl, by decide +kernel, rfl, by decide +kernel, by decide +kernel⟩
set_option maxHeartbeats 4000000 in
theorem ok__law_right {f__law_net_a : Addr} {d__law_net : FuncData} {f__law_two_right_a : Addr} {d__law_two_right : FuncData} (F : FnP K "_law_right" (top 89) f fd) (C__law_net : Cal P w K mg base (RXK K) 4 "_law_net" f__law_net_a d__law_net ["pot", "most", "pipes"] F__law_net) (C__law_two_right : Cal P w K mg base (RXK K) 13 "_law_two_right" f__law_two_right_a d__law_two_right ["pot", "net"] F__law_two_right) (b_all : mg "all" = none) (b_range : mg "range" = none) (b_repr : mg "repr" = none) : FnM P w K mg base (RXK K) 14 f fd ["pot"] F__law_right := by
  have sc := sc__law_right
  refine fnM_of F sc (fun cdv A outer s H E hr hgd => ?_)
  have c := cok_of (P := P) (w := w) (K := K) (mg := mg) (base := base) (N := ["pot", "net", "shown", "turn"]) (outer := outer) (H := H) (E := E) hgd
  have hu64 := hr.units
  have hu65 := hu65_of hr
  have hu1 := hu_of hr
  exact (vs_cons (vs_set 1 sc.nd (v_call C__law_net.m c (hr.mono (by decide)) rfl C__law_net.g C__law_net.kp C__law_net.b .nil (fun _ _ => .nil) (va_cons (v_var 0) (va_cons v_int (va_cons v_int va_nil))))) (vs_cons (vs_set 2 sc.nd (v_callB (call_repr c.gd hu65) cv_repr rfl b_repr (by decide +kernel) (va_cons (v_var 1) va_nil))) (vs_one (vs_ret (v_and (v_callB (cr_all c.calm) cv_all rfl b_all (by decide +kernel) (va_cons (v_lc c.calm sc.nd (vi_range1 rfl b_range (va_cons v_int va_nil)) (own := [("turn", 3)]) (blkOk_by (N := N__law_right) (sc := defScope (top 89)) (by decide +kernel)) (fun s1 H1 C1 cl1 fp1 => (vg_name 3 sc.nd)) (fun s1 H1 C1 cl1 fp1 => vts_nil) (fun s1 H1 C1 cl1 fp1 => (v_call C__law_two_right.m (c.blk s1 H1 _ _ fp1) (hr.mono (by decide)) rfl C__law_two_right.g C__law_two_right.kp C__law_two_right.b .nil (fun _ _ => .nil) (va_cons (v_var 0) (va_cons (v_var 1) va_nil))))) va_nil)) (v_one (v_cmp (o_eq hu64) ov_eq (v_callB (call_repr c.gd hu65) cv_repr rfl b_repr (by decide +kernel) (va_cons (v_var 1) va_nil)) (v_var 2) (nobehind _ (by decide) (by decide)))))))))
abbrev N_law : List Str := ["script"]
theorem sc_law : FnScope ["script"] ["script"] (defScope (top 90)) := ⟨rfl, rfl, rfl, by decide +kernel, rfl, by decide +kernel, by decide +kernel⟩
set_option maxHeartbeats 4000000 in
theorem ok_law {f__law_pot_a : Addr} {d__law_pot : FuncData} {f__law_right_a : Addr} {d__law_right : FuncData} (F : FnP K "law" (top 90) f fd) (C__law_pot : Cal P w K mg base (RXK K) 1 "_law_pot" f__law_pot_a d__law_pot ["script", "k"] F__law_pot) (C__law_right : Cal P w K mg base (RXK K) 14 "_law_right" f__law_right_a d__law_right ["pot"] F__law_right) : FnM P w K mg base (RXK K) 15 f fd ["script"] F_law := by
  have sc := sc_law
  refine fnM_of F sc (fun cdv A outer s H E hr hgd => ?_)
  have c := cok_of (P := P) (w := w) (K := K) (mg := mg) (base := base) (N := ["script"]) (outer := outer) (H := H) (E := E) hgd
  have hu64 := hr.units
  have hu65 := hu65_of hr
  have hu1 := hu_of hr
  exact (vs_one (vs_ret (v_and (v_call C__law_right.m c (hr.mono (by decide)) rfl C__law_right.g C__law_right.kp C__law_right.b .nil (fun _ _ => .nil) (va_cons (v_call C__law_pot.m c (hr.mono (by decide)) rfl C__law_pot.g C__law_pot.kp C__law_pot.b .nil (fun _ _ => .nil) (va_cons (v_var 0) (va_cons v_int va_nil))) va_nil)) (v_one (v_call C__law_right.m c (hr.mono (by decide)) rfl C__law_right.g C__law_right.kp C__law_right.b .nil (fun _ _ => .nil) (va_cons (v_call C__law_pot.m c (hr.mono (by decide)) rfl C__law_pot.g C__law_pot.kp C__law_pot.b .nil (fun _ _ => .nil) (va_cons (v_var 0) (va_cons v_int va_nil))) va_nil))))))
end
end K82

/-! the head: what it tells of the defs, printed by gen.py -/
namespace K82
open PySem PySem.Spec PyProof.Rows L2 MV LamX

theorem facts {P : Program} {w : World} {K : PySem.W.Frag} {h : Heap} {mg : Str → Option Value} {f : Addr} (X : K.In h) (G : h.Ns mainGlobals mg) (hfa : mg ("law" : Str) = some (.ref f)) (c : He.SaysD fa fn K) (cx : ex K = true) :
    ∃ fd : FuncData, (∀ (s : Shared) (v : Value), BindsTo s fd ⟨[v], []⟩ [("script", v)]) ∧ ∀ base : Heap, K.In base → base.Ns mainGlobals mg → (∀ p ∈ tfq, TabB base mg (He.cT K p.1).1 (He.cT K p.1).2) → FnM P w K mg base (RXK K) 15 f fd ["script"] F_law := by
  obtain ⟨q__law_pot, Q__law_pot⟩ := c.def_ 0 (d := d__law_pot) rfl
  obtain ⟨q__law_draw, Q__law_draw⟩ := c.def_ 1 (d := d__law_draw) rfl
  obtain ⟨q__law_pick, Q__law_pick⟩ := c.def_ 2 (d := d__law_pick) rfl
  obtain ⟨q__law_stair, Q__law_stair⟩ := c.def_ 3 (d := d__law_stair) rfl
  obtain ⟨q__law_net, Q__law_net⟩ := c.def_ 4 (d := d__law_net) rfl
  obtain ⟨q_is_tuple, Q_is_tuple⟩ := c.def_ 5 (d := d_is_tuple) rfl
  obtain ⟨q_is_integer, Q_is_integer⟩ := c.def_ 6 (d := d_is_integer) rfl
  obtain ⟨q_are_heights, Q_are_heights⟩ := c.def_ 7 (d := d_are_heights) rfl
  obtain ⟨q_are_flows, Q_are_flows⟩ := c.def_ 8 (d := d_are_flows) rfl
  obtain ⟨q_is_let, Q_is_let⟩ := c.def_ 9 (d := d_is_let) rfl
  obtain ⟨q_ahead_of, Q_ahead_of⟩ := c.def_ 10 (d := d_ahead_of) rfl
  obtain ⟨q_drop_ends, Q_drop_ends⟩ := c.def_ 11 (d := d_drop_ends) rfl
  obtain ⟨q_flow_ends, Q_flow_ends⟩ := c.def_ 12 (d := d_flow_ends) rfl
  obtain ⟨q_flows_in, Q_flows_in⟩ := c.def_ 13 (d := d_flows_in) rfl
  obtain ⟨q_is_on, Q_is_on⟩ := c.def_ 14 (d := d_is_on) rfl
  obtain ⟨q_drop_of, Q_drop_of⟩ := c.def_ 15 (d := d_drop_of) rfl
  obtain ⟨q_taps_of, Q_taps_of⟩ := c.def_ 16 (d := d_taps_of) rfl
  obtain ⟨q_comes_to, Q_comes_to⟩ := c.def_ 17 (d := d_comes_to) rfl
  obtain ⟨q_are_kept, Q_are_kept⟩ := c.def_ 18 (d := d_are_kept) rfl
  obtain ⟨q_is_stand_of, Q_is_stand_of⟩ := c.def_ 19 (d := d_is_stand_of) rfl
  obtain ⟨q_is_stand_any, Q_is_stand_any⟩ := c.def_ 20 (d := d_is_stand_any) rfl
  obtain ⟨q_is_within, Q_is_within⟩ := c.def_ 21 (d := d_is_within) rfl
  obtain ⟨q_is_number, Q_is_number⟩ := c.def_ 22 (d := d_is_number) rfl
  obtain ⟨q_are_mosts, Q_are_mosts⟩ := c.def_ 23 (d := d_are_mosts) rfl
  obtain ⟨q_is_stair_any, Q_is_stair_any⟩ := c.def_ 24 (d := d_is_stair_any) rfl
  obtain ⟨q_is_pipe_of, Q_is_pipe_of⟩ := c.def_ 25 (d := d_is_pipe_of) rfl
  obtain ⟨q_is_net_any, Q_is_net_any⟩ := c.def_ 26 (d := d_is_net_any) rfl
  obtain ⟨q_want_net, Q_want_net⟩ := c.def_ 27 (d := d_want_net) rfl
  obtain ⟨q_are_draws, Q_are_draws⟩ := c.def_ 28 (d := d_are_draws) rfl
  obtain ⟨q_want_draws, Q_want_draws⟩ := c.def_ 29 (d := d_want_draws) rfl
  obtain ⟨q_want_asked, Q_want_asked⟩ := c.def_ 30 (d := d_want_asked) rfl
  obtain ⟨q_is_stand, Q_is_stand⟩ := c.def_ 31 (d := d_is_stand) rfl
  obtain ⟨q_want_flows, Q_want_flows⟩ := c.def_ 32 (d := d_want_flows) rfl
  obtain ⟨q_not_let_flow, Q_not_let_flow⟩ := c.def_ 33 (d := d_not_let_flow) rfl
  obtain ⟨q_nearest, Q_nearest⟩ := c.def_ 34 (d := d_nearest) rfl
  obtain ⟨q_under_steps, Q_under_steps⟩ := c.def_ 35 (d := d_under_steps) rfl
  obtain ⟨q_energy_of, Q_energy_of⟩ := c.def_ 36 (d := d_energy_of) rfl
  obtain ⟨q_flows_cost, Q_flows_cost⟩ := c.def_ 37 (d := d_flows_cost) rfl
  obtain ⟨q_want_let, Q_want_let⟩ := c.def_ 38 (d := d_want_let) rfl
  obtain ⟨q_flows_energy, Q_flows_energy⟩ := c.def_ 39 (d := d_flows_energy) rfl
  obtain ⟨q_want_heights, Q_want_heights⟩ := c.def_ 40 (d := d_want_heights) rfl
  obtain ⟨q_not_let_drop, Q_not_let_drop⟩ := c.def_ 41 (d := d_not_let_drop) rfl
  obtain ⟨q_worth_of, Q_worth_of⟩ := c.def_ 42 (d := d_worth_of) rfl
  obtain ⟨q_heights_worth_of, Q_heights_worth_of⟩ := c.def_ 43 (d := d_heights_worth_of) rfl
  obtain ⟨q_heights_worth, Q_heights_worth⟩ := c.def_ 44 (d := d_heights_worth) rfl
  obtain ⟨q__law_flow_ends, Q__law_flow_ends⟩ := c.def_ 45 (d := d__law_flow_ends) rfl
  obtain ⟨q__law_is_between, Q__law_is_between⟩ := c.def_ 46 (d := d__law_is_between) rfl
  obtain ⟨q__law_drop_ends, Q__law_drop_ends⟩ := c.def_ 47 (d := d__law_drop_ends) rfl
  obtain ⟨q__law_flows_at, Q__law_flows_at⟩ := c.def_ 48 (d := d__law_flows_at) rfl
  obtain ⟨q__law_comes, Q__law_comes⟩ := c.def_ 49 (d := d__law_comes) rfl
  obtain ⟨q__law_near_nought, Q__law_near_nought⟩ := c.def_ 50 (d := d__law_near_nought) rfl
  obtain ⟨q__law_under, Q__law_under⟩ := c.def_ 51 (d := d__law_under) rfl
  obtain ⟨q__law_energy, Q__law_energy⟩ := c.def_ 52 (d := d__law_energy) rfl
  obtain ⟨q__law_cost, Q__law_cost⟩ := c.def_ 53 (d := d__law_cost) rfl
  obtain ⟨q__law_worth, Q__law_worth⟩ := c.def_ 54 (d := d__law_worth) rfl
  obtain ⟨q__law_value, Q__law_value⟩ := c.def_ 55 (d := d__law_value) rfl
  obtain ⟨q__law_some_flows, Q__law_some_flows⟩ := c.def_ 56 (d := d__law_some_flows) rfl
  obtain ⟨q__law_some_heights, Q__law_some_heights⟩ := c.def_ 57 (d := d__law_some_heights) rfl
  obtain ⟨q__law_two_right, Q__law_two_right⟩ := c.def_ 58 (d := d__law_two_right) rfl
  obtain ⟨q__law_right, Q__law_right⟩ := c.def_ 59 (d := d__law_right) rfl
  obtain ⟨q_law, Q_law⟩ := c.def_ 60 (d := d_law) rfl
  obtain ⟨q__law_heard, Q__law_heard⟩ := c.def_ 61 (d := d__law_heard) rfl
  obtain ⟨qi_NotLet, QI_NotLet⟩ := c.def_ 62 (d := d_NotLet_init) rfl
  have e := hfa.symm.trans (He.glo_ok X G (c.fact 60 (f := .glo "law") rfl))
  cases e
  have bl := FunD.bindsA (ps := ["script"]) Q_law fun _ _ _ _ _ _ us hl => match us, hl with | [_], _ => rfl
  have b_abs : mg "abs" = none := He.free_ok X G (c.fact 64 (f := .free "abs") rfl)
  have b_all : mg "all" = none := He.free_ok X G (c.fact 65 (f := .free "all") rfl)
  have b_any : mg "any" = none := He.free_ok X G (c.fact 66 (f := .free "any") rfl)
  have b_bool : mg "bool" = none := He.free_ok X G (c.fact 67 (f := .free "bool") rfl)
  have b_divmod : mg "divmod" = none := He.free_ok X G (c.fact 68 (f := .free "divmod") rfl)
  have b_enumerate : mg "enumerate" = none := He.free_ok X G (c.fact 69 (f := .free "enumerate") rfl)
  have b_int : mg "int" = none := He.free_ok X G (c.fact 70 (f := .free "int") rfl)
  have b_isinstance : mg "isinstance" = none := He.free_ok X G (c.fact 71 (f := .free "isinstance") rfl)
  have b_len : mg "len" = none := He.free_ok X G (c.fact 72 (f := .free "len") rfl)
  have b_max : mg "max" = none := He.free_ok X G (c.fact 73 (f := .free "max") rfl)
  have b_min : mg "min" = none := He.free_ok X G (c.fact 74 (f := .free "min") rfl)
  have b_range : mg "range" = none := He.free_ok X G (c.fact 75 (f := .free "range") rfl)
  have b_repr : mg "repr" = none := He.free_ok X G (c.fact 76 (f := .free "repr") rfl)
  have b_str : mg "str" = none := He.free_ok X G (c.fact 77 (f := .free "str") rfl)
  have b_sum : mg "sum" = none := He.free_ok X G (c.fact 78 (f := .free "sum") rfl)
  have b_tuple : mg "tuple" = none := He.free_ok X G (c.fact 79 (f := .free "tuple") rfl)
  have b_zip : mg "zip" = none := He.free_ok X G (c.fact 80 (f := .free "zip") rfl)
  have g_MOST_NUMBER := He.int_ok X G (c.fact 81 (f := .int "MOST_NUMBER" 999) rfl)
  have g_MOST_PIPES := He.int_ok X G (c.fact 82 (f := .int "MOST_PIPES" 24) rfl)
  have g_MOST_PLACES := He.int_ok X G (c.fact 83 (f := .int "MOST_PLACES" 12) rfl)
  have g_MOST_STEPS := He.int_ok X G (c.fact 84 (f := .int "MOST_STEPS" 40) rfl)
  have g_NET := He.str_ok X G (c.fact 85 (f := .str "NET" "net") rfl)
  have g_STAIR := He.str_ok X G (c.fact 86 (f := .str "STAIR" "stair") rfl)
  have o_NotLet : mg "NotLet" = some (.ref (He.ga K "NotLet")) := He.glo_ok X G (c.fact 62 (f := .glo "NotLet") rfl)
  have o_StateError : mg "StateError" = some (.ref (He.ga K "StateError")) := He.glo_ok X G (c.fact 63 (f := .glo "StateError") rfl)
  have H__law_heard := Q__law_heard
  have m__law_heard := He.glo_ok X G (c.fact 61 (f := .glo "_law_heard") rfl)
  have k__law_heard := Q__law_heard.kp
  have bd__law_heard : Binds K q__law_heard ["call"] [] := Q__law_heard.bindsN fun _ _ _ _ _ _ us hl => match us, hl with | [_], _ => rfl
  have su_NotLet : SuC K "NotLet" := suB_ok (ex_get cx 1 rfl)
  have nf_NotLet_pipe := of_decide_eq_true (ex_get cx 2 (b := fun K => decide (PySem.W.findIn K (.ref (He.ga K "NotLet")) "pipe" = some none)) rfl)
  have ki_NotLet_StateError := of_decide_eq_true (ex_get cx 3 (b := fun K => decide (PySem.W.kitOne K (.ref (He.ga K "NotLet")) (.ref (He.ga K "StateError")) = some true)) rfl)
  have ex_NotLet_NotLet := of_decide_eq_true (ex_get cx 4 (b := fun K => decide (PySem.W.exmOne K (.ref (He.ga K "NotLet")) (.ref (He.ga K "NotLet")) = some true)) rfl)
  have kb_flows_energy_0_flows_net : KB K q_flows_energy ["net", "flows"] 0 ["flows", "net"] [1, 0] := kb_of Q_flows_energy (fun _ _ _ _ _ _ us ws hl hw => match us, ws, hl, hw with | [], [_, _], _, _ => rfl)
  have kb_heights_worth_0_heights_draws_net : KB K q_heights_worth ["net", "draws", "heights"] 0 ["heights", "draws", "net"] [2, 1, 0] := kb_of Q_heights_worth (fun _ _ _ _ _ _ us ws hl hw => match us, ws, hl, hw with | [], [_, _, _], _, _ => rfl)
  refine ⟨q_law, fun s v => bl s [v] rfl, fun base _ _ hTB => ?_⟩
  have rz_NotLet : RzC P w K mg base "NotLet" "pipe" "pipe" := rzB_ok bt_RE (ex_get cx 0 rfl) (ok_ini (p := "pipe") (f := "pipe") (He.ga K "NotLet") QI_NotLet ⟨rfl, rfl, rfl, by decide +kernel, rfl, by decide +kernel, by decide +kernel⟩ (by rfl)) (QI_NotLet.bindsN fun _ _ _ _ _ _ us hl => match us, hl with | [_, _], _ => rfl) o_NotLet
  have tb__law_two_right := hTB ((("_law_two_right", none) : He.Defn), "_law_two_right.<locals>.<lambda>") (List.mem_of_getElem? (i := 0) rfl)
  have C__law_pot : Cal P w K mg base (RXK K) 1 "_law_pot" _ q__law_pot ["script", "k"] F__law_pot := ⟨ok__law_pot Q__law_pot b_abs b_int b_len b_max b_sum, He.glo_ok X G (c.fact 0 (f := .glo "_law_pot") rfl), Q__law_pot.kp, Q__law_pot.bindsN fun _ _ _ _ _ _ us hl => match us, hl with | [_, _], _ => rfl⟩
  have C__law_draw : Cal P w K mg base (RXK K) 1 "_law_draw" _ q__law_draw ["pot", "size"] F__law_draw := ⟨ok__law_draw Q__law_draw b_divmod b_int, He.glo_ok X G (c.fact 1 (f := .glo "_law_draw") rfl), Q__law_draw.kp, Q__law_draw.bindsN fun _ _ _ _ _ _ us hl => match us, hl with | [_, _], _ => rfl⟩
  have C__law_pick : Cal P w K mg base (RXK K) 2 "_law_pick" _ q__law_pick ["pot", "some"] F__law_pick := ⟨ok__law_pick Q__law_pick C__law_draw b_len, He.glo_ok X G (c.fact 2 (f := .glo "_law_pick") rfl), Q__law_pick.kp, Q__law_pick.bindsN fun _ _ _ _ _ _ us hl => match us, hl with | [_, _], _ => rfl⟩
  have C__law_stair : Cal P w K mg base (RXK K) 3 "_law_stair" _ q__law_stair ["pot"] F__law_stair := ⟨ok__law_stair Q__law_stair C__law_draw C__law_pick b_range b_tuple, He.glo_ok X G (c.fact 3 (f := .glo "_law_stair") rfl), Q__law_stair.kp, Q__law_stair.bindsN fun _ _ _ _ _ _ us hl => match us, hl with | [_], _ => rfl⟩
  have C__law_net : Cal P w K mg base (RXK K) 4 "_law_net" _ q__law_net ["pot", "most", "pipes"] F__law_net := ⟨ok__law_net Q__law_net C__law_draw C__law_stair b_int b_len b_range b_tuple, He.glo_ok X G (c.fact 4 (f := .glo "_law_net") rfl), Q__law_net.kp, Q__law_net.bindsN fun _ _ _ _ _ _ us hl => match us, hl with | [_, _, _], _ => rfl⟩
  have C_is_tuple : Cal P w K mg base (RXK K) 1 "is_tuple" _ q_is_tuple ["value", "many"] F_is_tuple := ⟨ok_is_tuple Q_is_tuple b_isinstance b_len b_tuple, He.glo_ok X G (c.fact 5 (f := .glo "is_tuple") rfl), Q_is_tuple.kp, Q_is_tuple.bindsN fun _ _ _ _ _ _ us hl => match us, hl with | [_, _], _ => rfl⟩
  have C_is_integer : Cal P w K mg base (RXK K) 1 "is_integer" _ q_is_integer ["value"] F_is_integer := ⟨ok_is_integer Q_is_integer b_bool b_int b_isinstance, He.glo_ok X G (c.fact 6 (f := .glo "is_integer") rfl), Q_is_integer.kp, Q_is_integer.bindsN fun _ _ _ _ _ _ us hl => match us, hl with | [_], _ => rfl⟩
  have C_are_heights : Cal P w K mg base (RXK K) 2 "are_heights" _ q_are_heights ["net", "value"] F_are_heights := ⟨ok_are_heights Q_are_heights C_is_tuple C_is_integer b_all b_len b_zip, He.glo_ok X G (c.fact 7 (f := .glo "are_heights") rfl), Q_are_heights.kp, Q_are_heights.bindsN fun _ _ _ _ _ _ us hl => match us, hl with | [_, _], _ => rfl⟩
  have C_are_flows : Cal P w K mg base (RXK K) 2 "are_flows" _ q_are_flows ["net", "value"] F_are_flows := ⟨ok_are_flows Q_are_flows C_is_tuple C_is_integer b_all b_len, He.glo_ok X G (c.fact 8 (f := .glo "are_flows") rfl), Q_are_flows.kp, Q_are_flows.bindsN fun _ _ _ _ _ _ us hl => match us, hl with | [_, _], _ => rfl⟩
  have C_is_let : Cal P w K mg base (RXK K) 1 "is_let" _ q_is_let ["ends", "value"] F_is_let := ⟨ok_is_let Q_is_let , He.glo_ok X G (c.fact 9 (f := .glo "is_let") rfl), Q_is_let.kp, Q_is_let.bindsN fun _ _ _ _ _ _ us hl => match us, hl with | [_, _], _ => rfl⟩
  have C_ahead_of : Cal P w K mg base (RXK K) 1 "ahead_of" _ q_ahead_of ["stair", "at"] F_ahead_of := ⟨ok_ahead_of Q_ahead_of , He.glo_ok X G (c.fact 10 (f := .glo "ahead_of") rfl), Q_ahead_of.kp, Q_ahead_of.bindsN fun _ _ _ _ _ _ us hl => match us, hl with | [_, _], _ => rfl⟩
  have C_drop_ends : Cal P w K mg base (RXK K) 1 "drop_ends" _ q_drop_ends ["stair"] F_drop_ends := ⟨ok_drop_ends Q_drop_ends , He.glo_ok X G (c.fact 11 (f := .glo "drop_ends") rfl), Q_drop_ends.kp, Q_drop_ends.bindsN fun _ _ _ _ _ _ us hl => match us, hl with | [_], _ => rfl⟩
  have C_flow_ends : Cal P w K mg base (RXK K) 1 "flow_ends" _ q_flow_ends ["stair"] F_flow_ends := ⟨ok_flow_ends Q_flow_ends , He.glo_ok X G (c.fact 12 (f := .glo "flow_ends") rfl), Q_flow_ends.kp, Q_flow_ends.bindsN fun _ _ _ _ _ _ us hl => match us, hl with | [_], _ => rfl⟩
  have C_flows_in : Cal P w K mg base (RXK K) 2 "flows_in" _ q_flows_in ["stair", "drop"] F_flows_in := ⟨ok_flows_in Q_flows_in C_is_let C_ahead_of C_drop_ends C_flow_ends b_enumerate, He.glo_ok X G (c.fact 13 (f := .glo "flows_in") rfl), Q_flows_in.kp, Q_flows_in.bindsN fun _ _ _ _ _ _ us hl => match us, hl with | [_, _], _ => rfl⟩
  have C_is_on : Cal P w K mg base (RXK K) 3 "is_on" _ q_is_on ["stair", "drop", "flow"] F_is_on := ⟨ok_is_on Q_is_on C_is_let C_flows_in, He.glo_ok X G (c.fact 14 (f := .glo "is_on") rfl), Q_is_on.kp, Q_is_on.bindsN fun _ _ _ _ _ _ us hl => match us, hl with | [_, _, _], _ => rfl⟩
  have C_drop_of : Cal P w K mg base (RXK K) 1 "drop_of" _ q_drop_of ["net", "heights", "pipe"] F_drop_of := ⟨ok_drop_of Q_drop_of , He.glo_ok X G (c.fact 15 (f := .glo "drop_of") rfl), Q_drop_of.kp, Q_drop_of.bindsN fun _ _ _ _ _ _ us hl => match us, hl with | [_, _, _], _ => rfl⟩
  have C_taps_of : Cal P w K mg base (RXK K) 1 "taps_of" _ q_taps_of ["net"] F_taps_of := ⟨ok_taps_of Q_taps_of b_enumerate, He.glo_ok X G (c.fact 16 (f := .glo "taps_of") rfl), Q_taps_of.kp, Q_taps_of.bindsN fun _ _ _ _ _ _ us hl => match us, hl with | [_], _ => rfl⟩
  have C_comes_to : Cal P w K mg base (RXK K) 1 "comes_to" _ q_comes_to ["net", "flows", "place"] F_comes_to := ⟨ok_comes_to Q_comes_to b_zip, He.glo_ok X G (c.fact 17 (f := .glo "comes_to") rfl), Q_comes_to.kp, Q_comes_to.bindsN fun _ _ _ _ _ _ us hl => match us, hl with | [_, _, _], _ => rfl⟩
  have C_are_kept : Cal P w K mg base (RXK K) 2 "are_kept" _ q_are_kept ["net", "draws", "flows"] F_are_kept := ⟨ok_are_kept Q_are_kept C_taps_of C_comes_to b_all, He.glo_ok X G (c.fact 18 (f := .glo "are_kept") rfl), Q_are_kept.kp, Q_are_kept.bindsN fun _ _ _ _ _ _ us hl => match us, hl with | [_, _, _], _ => rfl⟩
  have C_is_stand_of : Cal P w K mg base (RXK K) 4 "is_stand_of" _ q_is_stand_of ["net", "draws", "heights", "flows"] F_is_stand_of := ⟨ok_is_stand_of Q_is_stand_of C_is_on C_drop_of C_are_kept b_enumerate, He.glo_ok X G (c.fact 19 (f := .glo "is_stand_of") rfl), Q_is_stand_of.kp, Q_is_stand_of.bindsN fun _ _ _ _ _ _ us hl => match us, hl with | [_, _, _, _], _ => rfl⟩
  have C_is_stand_any : Cal P w K mg base (RXK K) 5 "is_stand_any" _ q_is_stand_any ["net", "draws", "value"] F_is_stand_any := ⟨ok_is_stand_any Q_is_stand_any C_is_tuple C_are_heights C_are_flows C_is_stand_of, He.glo_ok X G (c.fact 20 (f := .glo "is_stand_any") rfl), Q_is_stand_any.kp, Q_is_stand_any.bindsN fun _ _ _ _ _ _ us hl => match us, hl with | [_, _, _], _ => rfl⟩
  have C_is_within : Cal P w K mg base (RXK K) 2 "is_within" _ q_is_within ["value", "least", "most"] F_is_within := ⟨ok_is_within Q_is_within C_is_integer, He.glo_ok X G (c.fact 21 (f := .glo "is_within") rfl), Q_is_within.kp, Q_is_within.bindsN fun _ _ _ _ _ _ us hl => match us, hl with | [_, _, _], _ => rfl⟩
  have C_is_number : Cal P w K mg base (RXK K) 3 "is_number" _ q_is_number ["value"] F_is_number := ⟨ok_is_number Q_is_number C_is_within g_MOST_NUMBER, He.glo_ok X G (c.fact 22 (f := .glo "is_number") rfl), Q_is_number.kp, Q_is_number.bindsN fun _ _ _ _ _ _ us hl => match us, hl with | [_], _ => rfl⟩
  have C_are_mosts : Cal P w K mg base (RXK K) 4 "are_mosts" _ q_are_mosts ["least", "mosts"] F_are_mosts := ⟨ok_are_mosts Q_are_mosts C_is_number b_all b_any b_zip, He.glo_ok X G (c.fact 23 (f := .glo "are_mosts") rfl), Q_are_mosts.kp, Q_are_mosts.bindsN fun _ _ _ _ _ _ us hl => match us, hl with | [_, _], _ => rfl⟩
  have C_is_stair_any : Cal P w K mg base (RXK K) 5 "is_stair_any" _ q_is_stair_any ["value"] F_is_stair_any := ⟨ok_is_stair_any Q_is_stair_any C_is_tuple C_is_number C_are_mosts b_all b_isinstance b_len b_str b_tuple b_zip g_MOST_STEPS g_STAIR, He.glo_ok X G (c.fact 24 (f := .glo "is_stair_any") rfl), Q_is_stair_any.kp, Q_is_stair_any.bindsN fun _ _ _ _ _ _ us hl => match us, hl with | [_], _ => rfl⟩
  have C_is_pipe_of : Cal P w K mg base (RXK K) 6 "is_pipe_of" _ q_is_pipe_of ["value", "many"] F_is_pipe_of := ⟨ok_is_pipe_of Q_is_pipe_of C_is_tuple C_is_within C_is_stair_any, He.glo_ok X G (c.fact 25 (f := .glo "is_pipe_of") rfl), Q_is_pipe_of.kp, Q_is_pipe_of.bindsN fun _ _ _ _ _ _ us hl => match us, hl with | [_, _], _ => rfl⟩
  have C_is_net_any : Cal P w K mg base (RXK K) 7 "is_net_any" _ q_is_net_any ["value"] F_is_net_any := ⟨ok_is_net_any Q_is_net_any C_is_tuple C_is_number C_is_pipe_of b_all b_isinstance b_len b_str b_tuple g_MOST_PIPES g_MOST_PLACES g_NET, He.glo_ok X G (c.fact 26 (f := .glo "is_net_any") rfl), Q_is_net_any.kp, Q_is_net_any.bindsN fun _ _ _ _ _ _ us hl => match us, hl with | [_], _ => rfl⟩
  have C_want_net : Cal P w K mg base (RXK K) 8 "want_net" _ q_want_net ["net"] F_want_net := ⟨ok_want_net Q_want_net C_is_net_any, He.glo_ok X G (c.fact 27 (f := .glo "want_net") rfl), Q_want_net.kp, Q_want_net.bindsN fun _ _ _ _ _ _ us hl => match us, hl with | [_], _ => rfl⟩
  have C_are_draws : Cal P w K mg base (RXK K) 4 "are_draws" _ q_are_draws ["net", "value"] F_are_draws := ⟨ok_are_draws Q_are_draws C_is_tuple C_is_number b_all b_len b_zip, He.glo_ok X G (c.fact 28 (f := .glo "are_draws") rfl), Q_are_draws.kp, Q_are_draws.bindsN fun _ _ _ _ _ _ us hl => match us, hl with | [_, _], _ => rfl⟩
  have C_want_draws : Cal P w K mg base (RXK K) 5 "want_draws" _ q_want_draws ["net", "draws"] F_want_draws := ⟨ok_want_draws Q_want_draws C_are_draws, He.glo_ok X G (c.fact 29 (f := .glo "want_draws") rfl), Q_want_draws.kp, Q_want_draws.bindsN fun _ _ _ _ _ _ us hl => match us, hl with | [_, _], _ => rfl⟩
  have C_want_asked : Cal P w K mg base (RXK K) 9 "want_asked" _ q_want_asked ["net", "draws"] F_want_asked := ⟨ok_want_asked Q_want_asked C_want_net C_want_draws, He.glo_ok X G (c.fact 30 (f := .glo "want_asked") rfl), Q_want_asked.kp, Q_want_asked.bindsN fun _ _ _ _ _ _ us hl => match us, hl with | [_, _], _ => rfl⟩
  have C_is_stand : Cal P w K mg base (RXK K) 10 "is_stand" _ q_is_stand ["net", "draws", "value"] F_is_stand := ⟨ok_is_stand Q_is_stand C_is_stand_any C_want_asked, He.glo_ok X G (c.fact 31 (f := .glo "is_stand") rfl), Q_is_stand.kp, Q_is_stand.bindsN fun _ _ _ _ _ _ us hl => match us, hl with | [_, _, _], _ => rfl⟩
  have C_want_flows : Cal P w K mg base (RXK K) 3 "want_flows" _ q_want_flows ["net", "flows"] F_want_flows := ⟨ok_want_flows Q_want_flows C_are_flows, He.glo_ok X G (c.fact 32 (f := .glo "want_flows") rfl), Q_want_flows.kp, Q_want_flows.bindsN fun _ _ _ _ _ _ us hl => match us, hl with | [_, _], _ => rfl⟩
  have C_not_let_flow : Cal P w K mg base (RXK K) 2 "not_let_flow" _ q_not_let_flow ["net", "flows"] F_not_let_flow := ⟨ok_not_let_flow Q_not_let_flow C_is_let C_flow_ends b_enumerate, He.glo_ok X G (c.fact 33 (f := .glo "not_let_flow") rfl), Q_not_let_flow.kp, Q_not_let_flow.bindsN fun _ _ _ _ _ _ us hl => match us, hl with | [_, _], _ => rfl⟩
  have C_nearest : Cal P w K mg base (RXK K) 1 "nearest" _ q_nearest ["low", "high"] F_nearest := ⟨ok_nearest Q_nearest , He.glo_ok X G (c.fact 34 (f := .glo "nearest") rfl), Q_nearest.kp, Q_nearest.bindsN fun _ _ _ _ _ _ us hl => match us, hl with | [_, _], _ => rfl⟩
  have C_under_steps : Cal P w K mg base (RXK K) 1 "under_steps" _ q_under_steps ["stair", "low", "high"] F_under_steps := ⟨ok_under_steps Q_under_steps b_max b_min, He.glo_ok X G (c.fact 35 (f := .glo "under_steps") rfl), Q_under_steps.kp, Q_under_steps.bindsN fun _ _ _ _ _ _ us hl => match us, hl with | [_, _, _], _ => rfl⟩
  have C_energy_of : Cal P w K mg base (RXK K) 2 "energy_of" _ q_energy_of ["stair", "flow"] F_energy_of := ⟨ok_energy_of Q_energy_of C_flow_ends C_nearest C_under_steps, He.glo_ok X G (c.fact 36 (f := .glo "energy_of") rfl), Q_energy_of.kp, Q_energy_of.bindsN fun _ _ _ _ _ _ us hl => match us, hl with | [_, _], _ => rfl⟩
  have C_flows_cost : Cal P w K mg base (RXK K) 3 "flows_cost" _ q_flows_cost ["net", "flows"] F_flows_cost := ⟨ok_flows_cost Q_flows_cost C_comes_to C_energy_of b_enumerate b_sum b_zip, He.glo_ok X G (c.fact 37 (f := .glo "flows_cost") rfl), Q_flows_cost.kp, Q_flows_cost.bindsN fun _ _ _ _ _ _ us hl => match us, hl with | [_, _], _ => rfl⟩
  have C_want_let : Cal P w K mg base (RXK K) 3 "want_let" _ q_want_let ["pipe"] F_want_let := ⟨ok_want_let Q_want_let rz_NotLet, He.glo_ok X G (c.fact 38 (f := .glo "want_let") rfl), Q_want_let.kp, Q_want_let.bindsN fun _ _ _ _ _ _ us hl => match us, hl with | [_], _ => rfl⟩
  have C_flows_energy : Cal P w K mg base (RXK K) 9 "flows_energy" _ q_flows_energy ["net", "flows"] F_flows_energy := ⟨ok_flows_energy Q_flows_energy C_want_net C_want_flows C_not_let_flow C_flows_cost C_want_let, He.glo_ok X G (c.fact 39 (f := .glo "flows_energy") rfl), Q_flows_energy.kp, Q_flows_energy.bindsN fun _ _ _ _ _ _ us hl => match us, hl with | [_, _], _ => rfl⟩
  have C_want_heights : Cal P w K mg base (RXK K) 3 "want_heights" _ q_want_heights ["net", "heights"] F_want_heights := ⟨ok_want_heights Q_want_heights C_are_heights, He.glo_ok X G (c.fact 40 (f := .glo "want_heights") rfl), Q_want_heights.kp, Q_want_heights.bindsN fun _ _ _ _ _ _ us hl => match us, hl with | [_, _], _ => rfl⟩
  have C_not_let_drop : Cal P w K mg base (RXK K) 2 "not_let_drop" _ q_not_let_drop ["net", "heights"] F_not_let_drop := ⟨ok_not_let_drop Q_not_let_drop C_is_let C_drop_ends b_enumerate, He.glo_ok X G (c.fact 41 (f := .glo "not_let_drop") rfl), Q_not_let_drop.kp, Q_not_let_drop.bindsN fun _ _ _ _ _ _ us hl => match us, hl with | [_, _], _ => rfl⟩
  have C_worth_of : Cal P w K mg base (RXK K) 3 "worth_of" _ q_worth_of ["stair", "drop"] F_worth_of := ⟨ok_worth_of Q_worth_of C_flows_in C_nearest C_energy_of, He.glo_ok X G (c.fact 42 (f := .glo "worth_of") rfl), Q_worth_of.kp, Q_worth_of.bindsN fun _ _ _ _ _ _ us hl => match us, hl with | [_, _], _ => rfl⟩
  have C_heights_worth_of : Cal P w K mg base (RXK K) 4 "heights_worth_of" _ q_heights_worth_of ["net", "draws", "heights"] F_heights_worth_of := ⟨ok_heights_worth_of Q_heights_worth_of C_drop_of C_worth_of b_len b_range b_sum b_zip, He.glo_ok X G (c.fact 43 (f := .glo "heights_worth_of") rfl), Q_heights_worth_of.kp, Q_heights_worth_of.bindsN fun _ _ _ _ _ _ us hl => match us, hl with | [_, _, _], _ => rfl⟩
  have C_heights_worth : Cal P w K mg base (RXK K) 10 "heights_worth" _ q_heights_worth ["net", "draws", "heights"] F_heights_worth := ⟨ok_heights_worth Q_heights_worth C_want_asked C_want_let C_want_heights C_not_let_drop C_heights_worth_of, He.glo_ok X G (c.fact 44 (f := .glo "heights_worth") rfl), Q_heights_worth.kp, Q_heights_worth.bindsN fun _ _ _ _ _ _ us hl => match us, hl with | [_, _, _], _ => rfl⟩
  have C__law_flow_ends : Cal P w K mg base (RXK K) 1 "_law_flow_ends" _ q__law_flow_ends ["stair"] F__law_flow_ends := ⟨ok__law_flow_ends Q__law_flow_ends , He.glo_ok X G (c.fact 45 (f := .glo "_law_flow_ends") rfl), Q__law_flow_ends.kp, Q__law_flow_ends.bindsN fun _ _ _ _ _ _ us hl => match us, hl with | [_], _ => rfl⟩
  have C__law_is_between : Cal P w K mg base (RXK K) 1 "_law_is_between" _ q__law_is_between ["value", "ends"] F__law_is_between := ⟨ok__law_is_between Q__law_is_between , He.glo_ok X G (c.fact 46 (f := .glo "_law_is_between") rfl), Q__law_is_between.kp, Q__law_is_between.bindsN fun _ _ _ _ _ _ us hl => match us, hl with | [_, _], _ => rfl⟩
  have C__law_drop_ends : Cal P w K mg base (RXK K) 1 "_law_drop_ends" _ q__law_drop_ends ["stair"] F__law_drop_ends := ⟨ok__law_drop_ends Q__law_drop_ends , He.glo_ok X G (c.fact 47 (f := .glo "_law_drop_ends") rfl), Q__law_drop_ends.kp, Q__law_drop_ends.bindsN fun _ _ _ _ _ _ us hl => match us, hl with | [_], _ => rfl⟩
  have C__law_flows_at : Cal P w K mg base (RXK K) 2 "_law_flows_at" _ q__law_flows_at ["stair", "drop"] F__law_flows_at := ⟨ok__law_flows_at Q__law_flows_at C__law_is_between C__law_drop_ends, He.glo_ok X G (c.fact 48 (f := .glo "_law_flows_at") rfl), Q__law_flows_at.kp, Q__law_flows_at.bindsN fun _ _ _ _ _ _ us hl => match us, hl with | [_, _], _ => rfl⟩
  have C__law_comes : Cal P w K mg base (RXK K) 1 "_law_comes" _ q__law_comes ["net", "flows", "place"] F__law_comes := ⟨ok__law_comes Q__law_comes b_sum b_zip, He.glo_ok X G (c.fact 49 (f := .glo "_law_comes") rfl), Q__law_comes.kp, Q__law_comes.bindsN fun _ _ _ _ _ _ us hl => match us, hl with | [_, _, _], _ => rfl⟩
  have C__law_near_nought : Cal P w K mg base (RXK K) 1 "_law_near_nought" _ q__law_near_nought ["ends"] F__law_near_nought := ⟨ok__law_near_nought Q__law_near_nought , He.glo_ok X G (c.fact 50 (f := .glo "_law_near_nought") rfl), Q__law_near_nought.kp, Q__law_near_nought.bindsN fun _ _ _ _ _ _ us hl => match us, hl with | [_], _ => rfl⟩
  have C__law_under : Cal P w K mg base (RXK K) 1 "_law_under" _ q__law_under ["stair", "low", "high"] F__law_under := ⟨ok__law_under Q__law_under , He.glo_ok X G (c.fact 51 (f := .glo "_law_under") rfl), Q__law_under.kp, Q__law_under.bindsN fun _ _ _ _ _ _ us hl => match us, hl with | [_, _, _], _ => rfl⟩
  have C__law_energy : Cal P w K mg base (RXK K) 2 "_law_energy" _ q__law_energy ["stair", "flow"] F__law_energy := ⟨ok__law_energy Q__law_energy C__law_flow_ends C__law_near_nought C__law_under, He.glo_ok X G (c.fact 52 (f := .glo "_law_energy") rfl), Q__law_energy.kp, Q__law_energy.bindsN fun _ _ _ _ _ _ us hl => match us, hl with | [_, _], _ => rfl⟩
  have C__law_cost : Cal P w K mg base (RXK K) 3 "_law_cost" _ q__law_cost ["net", "flows"] F__law_cost := ⟨ok__law_cost Q__law_cost C__law_comes C__law_energy b_enumerate b_sum b_zip, He.glo_ok X G (c.fact 53 (f := .glo "_law_cost") rfl), Q__law_cost.kp, Q__law_cost.bindsN fun _ _ _ _ _ _ us hl => match us, hl with | [_, _], _ => rfl⟩
  have C__law_worth : Cal P w K mg base (RXK K) 3 "_law_worth" _ q__law_worth ["stair", "drop"] F__law_worth := ⟨ok__law_worth Q__law_worth C__law_flows_at C__law_near_nought C__law_energy, He.glo_ok X G (c.fact 54 (f := .glo "_law_worth") rfl), Q__law_worth.kp, Q__law_worth.bindsN fun _ _ _ _ _ _ us hl => match us, hl with | [_, _], _ => rfl⟩
  have C__law_value : Cal P w K mg base (RXK K) 4 "_law_value" _ q__law_value ["net", "draws", "heights"] F__law_value := ⟨ok__law_value Q__law_value C__law_worth b_sum b_zip, He.glo_ok X G (c.fact 55 (f := .glo "_law_value") rfl), Q__law_value.kp, Q__law_value.bindsN fun _ _ _ _ _ _ us hl => match us, hl with | [_, _, _], _ => rfl⟩
  have C__law_some_flows : Cal P w K mg base (RXK K) 2 "_law_some_flows" _ q__law_some_flows ["pot", "net"] F__law_some_flows := ⟨ok__law_some_flows Q__law_some_flows C__law_draw C__law_flow_ends C__law_is_between C__law_near_nought b_tuple, He.glo_ok X G (c.fact 56 (f := .glo "_law_some_flows") rfl), Q__law_some_flows.kp, Q__law_some_flows.bindsN fun _ _ _ _ _ _ us hl => match us, hl with | [_, _], _ => rfl⟩
  have C__law_some_heights : Cal P w K mg base (RXK K) 2 "_law_some_heights" _ q__law_some_heights ["pot", "net"] F__law_some_heights := ⟨ok__law_some_heights Q__law_some_heights C__law_draw b_tuple, He.glo_ok X G (c.fact 57 (f := .glo "_law_some_heights") rfl), Q__law_some_heights.kp, Q__law_some_heights.bindsN fun _ _ _ _ _ _ us hl => match us, hl with | [_, _], _ => rfl⟩
  have C__law_two_right : Cal P w K mg base (RXK K) 13 "_law_two_right" _ q__law_two_right ["pot", "net"] F__law_two_right := ⟨ok__law_two_right Q__law_two_right C_is_stand C_flows_energy C_heights_worth C__law_flow_ends C__law_is_between C__law_flows_at C__law_comes C__law_cost C__law_value C__law_some_flows C__law_some_heights kb_flows_energy_0_flows_net kb_heights_worth_0_heights_draws_net b_enumerate b_isinstance b_repr b_tuple H__law_heard m__law_heard k__law_heard bd__law_heard tb__law_two_right su_NotLet nf_NotLet_pipe ki_NotLet_StateError ex_NotLet_NotLet o_NotLet o_StateError, He.glo_ok X G (c.fact 58 (f := .glo "_law_two_right") rfl), Q__law_two_right.kp, Q__law_two_right.bindsN fun _ _ _ _ _ _ us hl => match us, hl with | [_, _], _ => rfl⟩
  have C__law_right : Cal P w K mg base (RXK K) 14 "_law_right" _ q__law_right ["pot"] F__law_right := ⟨ok__law_right Q__law_right C__law_net C__law_two_right b_all b_range b_repr, He.glo_ok X G (c.fact 59 (f := .glo "_law_right") rfl), Q__law_right.kp, Q__law_right.bindsN fun _ _ _ _ _ _ us hl => match us, hl with | [_], _ => rfl⟩
  exact ok_law Q_law C__law_pot C__law_right
end K82

/-! F1: the defs about stairs. -/
namespace K82
open PySem PySem.Spec PyProof.Rows L2 MV TW

theorem isi_int (i : Int) (h : VH) : F_is_integer [.p (.int i)] h = .ok (.p (.bl true)) h := by
  simp [F_is_integer, f_is_integer, runF, finF, fAndV_ev, fIsi, fVar, tyD, isiY]
theorem within_int (i a b : Int) (h : VH) : F_is_within [.p (.int i), .p (.int a), .p (.int b)] h = .ok (.p (.bl (decide (a ≤ i) && decide (i ≤ b)))) h := by
  simp [F_is_within, f_is_within, runF, finF, fAndV_ev, fVar, isi_int, f3, opLe, opInt0]
  by_cases h1 : a ≤ i <;> simp [h1]
theorem number_int (i : Int) (h : VH) : F_is_number [.p (.int i)] h = .ok (.p (.bl (decide (-999 ≤ i) && decide (i ≤ 999)))) h := by
  simp [F_is_number, f_is_number, runF, finF, fVar, opNeg, within_int]
theorem tuple_ok (l : List P) (n : Int) (h : VH) : F_is_tuple [.p (.tup l), .p (.int n)] h = .ok (.p (.bl (decide ((l.length : Int) = n)))) h := by
  simp [F_is_tuple, f_is_tuple, runF, finF, fVar, fAndV_ev, fIsi, tyD, isiY, gLen, b1, lstD, opEq, eqB_int]
theorem nearest_ok (a b : Option Int) (h : VH) : F_nearest [.p (optP a), .p (optP b)] h = .ok (.p (.int (nearT a b))) h := by
  rcases a with _ | a
  · rcases b with _ | b
    · simp [F_nearest, f_nearest, runF, finF, fVar, sIf_ev, fAnd_ev, fIfE_ev, optP, opNotIs, isB, opGt, opLt, opInt0, nearT, nearHi]
    · by_cases h2 : b < 0 <;> simp [F_nearest, f_nearest, runF, finF, fVar, sIf_ev, fAnd_ev, fIfE_ev, optP, opNotIs, isB, opGt, opLt, opInt0, nearT, nearHi, h2]
  · by_cases h1 : 0 < a
    · simp [F_nearest, f_nearest, runF, finF, fVar, sIf_ev, fAnd_ev, fIfE_ev, optP, opNotIs, isB, opGt, opLt, opInt0, nearT, nearHi, h1]
    · rcases b with _ | b
      · simp [F_nearest, f_nearest, runF, finF, fVar, sIf_ev, fAnd_ev, fIfE_ev, optP, opNotIs, isB, opGt, opLt, opInt0, nearT, nearHi, h1]
      · by_cases h2 : b < 0 <;> simp [F_nearest, f_nearest, runF, finF, fVar, sIf_ev, fAnd_ev, fIfE_ev, optP, opNotIs, isB, opGt, opLt, opInt0, nearT, nearHi, h1, h2]
theorem is_let_ok (a b : Option Int) (v : Int) (h : VH) : F_is_let [.p (.tup [optP a, optP b]), .p (.int v)] h = .ok (.p (.bl (isLet (a, b) v))) h := by
  rcases a with _ | a <;> rcases b with _ | b <;> simp [F_is_let, f_is_let, runF, finF, fVar, fAndV_ev, fOrV_ev, optP, opIs, isB, opGe, opLe, opInt0, opIx, opIxS, dctD, lstD, tupD, atI, ixN, isLet, okLo, okHi]
  · by_cases h1 : a ≤ v <;> simp [h1]
  · by_cases h1 : a ≤ v <;> simp [h1]
theorem between_ok (a b : Option Int) (v : Int) (h : VH) : F__law_is_between [.p (.int v), .p (.tup [optP a, optP b])] h = .ok (.p (.bl (isLet (a, b) v))) h := by
  rcases a with _ | a <;> rcases b with _ | b <;> simp [F__law_is_between, f__law_is_between, runF, finF, fVar, fAndV_ev, fOrV_ev, optP, opIs, isB, opGe, opLe, opInt0, opIx, opIxS, dctD, lstD, tupD, atI, ixN, isLet, okLo, okHi]
  · by_cases h1 : a ≤ v <;> simp [h1]
  · by_cases h1 : a ≤ v <;> simp [h1]
theorem flow_ends_ok (a : Option Int) (l : List Stp) (h : VH) : F_flow_ends [.p (stP a l)] h = .ok (.p (ends2 (a, lastM a l))) h := by
  rcases snoc l with rfl | ⟨r, x, rfl⟩
  · simp [F_flow_ends, f_flow_ends, runF, finF, fVar, fTup, fIfE_ev, stP, opEq, opIx_tup _ _ _ _ (atI_2 _ _ _), opIx_tup _ _ _ _ (atI_1 _ _ _), allP, steps_empty, ends2, lastM, sizeLine]
  · simp [F_flow_ends, f_flow_ends, runF, finF, fVar, fTup, fIfE_ev, stP, opEq, opIx_tup _ _ _ _ (atI_2 _ _ _), opIx_tup _ _ _ _ (atI_1 _ _ _), allP, steps_empty, ends2, lastM, sizeLine, isE, opNeg, opIx_tup _ _ _ _ (show atI (stepsP (r ++ [x])) (-1) = some (stepP x) by rw [stepsP_snoc]; exact TW.atI_last _ _), stepP, opIx_tup _ _ _ _ (atI_p1 _ _)]
theorem law_flow_ends_ok (a : Option Int) (l : List Stp) (h : VH) : F__law_flow_ends [.p (stP a l)] h = .ok (.p (ends2 (a, lastM a l))) h := by
  rcases snoc l with rfl | ⟨r, x, rfl⟩
  · simp [F__law_flow_ends, f__law_flow_ends, runF, finF, fVar, fTup, fIfE_ev, stP, opNe, opIx_tup _ _ _ _ (atI_2 _ _ _), opIx_tup _ _ _ _ (atI_1 _ _ _), allP, steps_empty, ends2, lastM, sizeLine]
  · simp [F__law_flow_ends, f__law_flow_ends, runF, finF, fVar, fTup, fIfE_ev, stP, opNe, opIx_tup _ _ _ _ (atI_2 _ _ _), opIx_tup _ _ _ _ (atI_1 _ _ _), allP, steps_empty, ends2, lastM, sizeLine, isE, opNeg, opIx_tup _ _ _ _ (show atI (stepsP (r ++ [x])) (-1) = some (stepP x) by rw [stepsP_snoc]; exact TW.atI_last _ _), stepP, opIx_tup _ _ _ _ (atI_p1 _ _)]
theorem drop_ends_ok (a : Option Int) (l : List Stp) (hl : a = none → l ≠ []) (h : VH) : F_drop_ends [.p (stP a l)] h = .ok (.p (ends2 (dropEnds a l))) h := by
  rcases snoc l with rfl | ⟨r, ⟨d, m⟩, rfl⟩
  · cases a with
    | none => exact absurd rfl (hl rfl)
    | some a => simp [F_drop_ends, f_drop_ends, runF, finF, fVar, fTup, fIfE_ev, fAnd_ev, stP, opNe, opIs, isB_opt, opIx_tup _ _ _ _ (atI_2 _ _ _), opIx_tup _ _ _ _ (atI_1 _ _ _), allP, steps_empty, ends2, dropEnds, sizeLine, optP, isB]
  · obtain ⟨d0, m0, r0, e0⟩ : ∃ d0 m0 r0, r ++ [(d, m)] = (d0, m0) :: r0 := by
      cases r with
      | nil => exact ⟨d, m, [], rfl⟩
      | cons y z => exact ⟨y.1, y.2, z ++ [(d, m)], rfl⟩
    have e1 : stepsP (r ++ [(d, m)]) = stepP (d0, m0) :: stepsP r0 := by rw [e0]; rfl
    have hh : atI (stepsP (r ++ [(d, m)])) 0 = some (stepP (d0, m0)) := by rw [e1]; exact atI_head _ _
    have hz : atI (stepsP (r ++ [(d, m)])) (-1) = some (stepP (d, m)) := by rw [stepsP_snoc]; exact TW.atI_last _ _
    have hd : (r ++ [(d, m)]).head?.map (·.1) = some d0 := by rw [e0]; rfl
    cases a <;> cases m <;>
    simp [F_drop_ends, f_drop_ends, runF, finF, fVar, fTup, fIfE_ev, fAnd_ev, stP, opNe, opIs, isB, opIx_tup _ _ _ _ (atI_2 _ _ _), opIx_tup _ _ _ _ (atI_1 _ _ _), allP, steps_empty, ends2, dropEnds, sizeLine, isE, opNeg, opIx_tup _ _ _ _ hh, opIx_tup _ _ _ _ hz, stepP, opIx_tup _ _ _ _ (atI_p1 _ _), opIx_tup _ _ _ _ (atI_p0 _ _), optP, hd]
    all_goals (cases r <;> simp_all)
theorem law_drop_ends_ok (a : Option Int) (l : List Stp) (hl : a = none → l ≠ []) (h : VH) : F__law_drop_ends [.p (stP a l)] h = .ok (.p (ends2 (dropEnds a l))) h := by
  rcases snoc l with rfl | ⟨r, ⟨d, m⟩, rfl⟩
  · cases a with
    | none => exact absurd rfl (hl rfl)
    | some a => simp [F__law_drop_ends, f__law_drop_ends, runF, finF, fVar, fTup, fIfE_ev, fAnd_ev, stP, opNe, opIs, isB_opt, opIx_tup _ _ _ _ (atI_2 _ _ _), opIx_tup _ _ _ _ (atI_1 _ _ _), allP, steps_empty, ends2, dropEnds, sizeLine, optP, isB]
  · obtain ⟨d0, m0, r0, e0⟩ : ∃ d0 m0 r0, r ++ [(d, m)] = (d0, m0) :: r0 := by
      cases r with
      | nil => exact ⟨d, m, [], rfl⟩
      | cons y z => exact ⟨y.1, y.2, z ++ [(d, m)], rfl⟩
    have e1 : stepsP (r ++ [(d, m)]) = stepP (d0, m0) :: stepsP r0 := by rw [e0]; rfl
    have hh : atI (stepsP (r ++ [(d, m)])) 0 = some (stepP (d0, m0)) := by rw [e1]; exact atI_head _ _
    have hz : atI (stepsP (r ++ [(d, m)])) (-1) = some (stepP (d, m)) := by rw [stepsP_snoc]; exact TW.atI_last _ _
    have hd : (r ++ [(d, m)]).head?.map (·.1) = some d0 := by rw [e0]; rfl
    cases a <;> cases m <;>
    simp [F__law_drop_ends, f__law_drop_ends, runF, finF, fVar, fTup, fIfE_ev, fAnd_ev, stP, opNe, opIs, isB, opIx_tup _ _ _ _ (atI_2 _ _ _), opIx_tup _ _ _ _ (atI_1 _ _ _), allP, steps_empty, ends2, dropEnds, sizeLine, isE, opNeg, opIx_tup _ _ _ _ hh, opIx_tup _ _ _ _ hz, stepP, opIx_tup _ _ _ _ (atI_p1 _ _), opIx_tup _ _ _ _ (atI_p0 _ _), optP, hd]
    all_goals (cases r <;> simp_all)
theorem under_step (st : Option D) (lo hi fd : Int) (a : Option Int) (d : Int) (m : Option Int) (hd : -1000 ≤ d ∧ d ≤ 1000) (x7 x8 : Option D) (h : VH) :
    ∃ y7 y8, b1_under_steps [st, some (.p (.int lo)), some (.p (.int hi)), some (.p (.int fd)), some (.p (optP a)), some (.p (.int d)), some (.p (optP m)), x7, x8] h =
      .nx [st, some (.p (.int lo)), some (.p (.int hi)), some (.p (.int (fd + d * pos0 (minO hi m - maxO lo a)))), some (.p (optP m)), some (.p (.int d)), some (.p (optP m)), y7, y8] h := by
  have hi64 := i64 hd
  refine ⟨some (.p (.int (maxO lo a))), some (.p (.int (minO hi m))), ?_⟩
  cases a <;> cases m <;> simp [b1_under_steps, fIfE_ev, fVar, opIs, isB, optP, gMax, gMin, opSub, opInt0, opMulI, opInt, opAdd, hi64, pos0, maxO, minO]
theorem under_loop (st : Option D) (lo hi : Int) : ∀ (l : List Stp) (fd : Int) (a : Option Int) (x5 x6 x7 x8 : Option D) (h : VH), Sm l →
    ∃ y4 y5 y6 y7 y8, forL (gtTup 2 (gtsCons (gtName 5) (gtsCons (gtName 6) gtsNil))) b1_under_steps (stepsP l) [st, some (.p (.int lo)), some (.p (.int hi)), some (.p (.int fd)), some (.p (optP a)), x5, x6, x7, x8] h =
      .nx [st, some (.p (.int lo)), some (.p (.int hi)), some (.p (.int (fd + TW.under lo hi a l))), y4, y5, y6, y7, y8] h
  | [], fd, a, x5, x6, x7, x8, h, _ => ⟨some (.p (optP a)), x5, x6, x7, x8, by simp [stepsP, forL, TW.under]⟩
  | (d, m) :: r, fd, a, x5, x6, x7, x8, h, hs => by
    obtain ⟨y7, y8, e⟩ := under_step st lo hi fd a d m (hs _ (List.mem_cons_self ..)) x7 x8 h
    obtain ⟨z4, z5, z6, z7, z8, e2⟩ := under_loop st lo hi r (fd + d * pos0 (minO hi m - maxO lo a)) m (some (.p (.int d))) (some (.p (optP m))) y7 y8 h (fun x hx => hs x (List.mem_cons_of_mem _ hx))
    refine ⟨z4, z5, z6, z7, z8, ?_⟩
    have e0 : stepsP ((d, m) :: r) = stepP (d, m) :: stepsP r := rfl
    rw [e0]
    unfold forL
    simp only [gtTup, stepP, gtsCons, gtName, gtsNil, List.length_cons, List.length_nil, List.set_cons_succ, List.set_cons_zero, if_true]
    rw [e]
    dsimp only
    rw [e2]
    simp only [TW.under]
    rw [Int.add_assoc]
theorem under_ok (a : Option Int) (l : List Stp) (lo hi : Int) (hs : Sm l) (h : VH) : F_under_steps [.p (stP a l), .p (.int lo), .p (.int hi)] h = .ok (.p (.int (TW.under lo hi a l))) h := by
  obtain ⟨y4, y5, y6, y7, y8, e⟩ := under_loop (some (.p (stP a l))) lo hi l 0 a none none none none h hs
  simp only [F_under_steps, f_under_steps, runF, List.length_cons, List.length_nil, if_true, sSeq_ev, sPar, fCons_ev, fC_ev, bind_ok, f2_ev, fNil_ev, fVar, List.map_cons, List.map_nil, List.cons_append, List.nil_append, List.getElem?_cons_zero, List.replicate, stP, opIx_tup _ _ _ _ (atI_1 _ _ _), thenS_ok, List.set_cons_succ, List.set_cons_zero, seq_nx, sFor_ev, fSeq, opIx_tup _ _ _ _ (atI_2 _ _ _), itemsP]
  simp only [stP] at e
  rw [e]
  simp [fVar, finF]
theorem energy_ok (a : Option Int) (l : List Stp) (f : Int) (hs : Sm l) (h : VH) : F_energy_of [.p (stP a l), .p (.int f)] h = .ok (.p (.int (energy a l f))) h := by
  simp [F_energy_of, f_energy_of, runF, finF, sAsg_ev, fVar, flow_ends_ok, ends2, gtTup, gtsCons, gtName, gtsNil, nearest_ok, fIfE_ev, opGe, opInt0]
  by_cases hc : begin' a l ≤ f
  · have hc' : nearT a (lastM a l) ≤ f := hc
    simp [hc', under_ok _ _ _ _ hs, energy, hc, begin']
  · have hc' : ¬ nearT a (lastM a l) ≤ f := hc
    simp [hc', under_ok _ _ _ _ hs, energy, hc, begin', opNeg]

theorem ahead_ok {a0 : Option Int} {l0 : List Stp} {k : Nat} {a : Option Int} (ha : AheadAt a0 l0 k a) (h : VH) : F_ahead_of [.p (stP a0 l0), .p (.int k)] h = .ok (.p (optP a)) h := by
  rcases ha with ⟨rfl, rfl⟩ | ⟨j, x, rfl, hx, rfl⟩
  · simp [F_ahead_of, f_ahead_of, runF, finF, fVar, fIfE_ev, opEq, eqB_int, stP, opIx_tup _ _ _ _ (atI_1 _ _ _)]
  · have hs : (stepsP l0)[j]? = some (stepP x) := by simp [stepsP, hx]
    have e : (((j + 1 : Nat) : Int) - 1) = (j : Int) := by omega
    have e0 : ¬ ((j + 1 : Nat) : Int) = 0 := by omega
    simp only [F_ahead_of, f_ahead_of, runF, List.length_cons, List.length_nil, if_true, sRet_ev, fIfE_ev, fT_ev, f2_ev, fVar, List.map_cons, List.map_nil, List.cons_append, List.nil_append, List.getElem?_cons_zero, List.getElem?_cons_succ, bind_ok, fC_ev, opEq, eqB_int, e0, asB_bl, decide_false, cond_false, stP, opIx_tup _ _ _ _ (atI_2 _ _ _), opSub, opInt0, e, opIx_tup _ _ _ _ (MV.atI_nat hs), stepP, opIx_tup _ _ _ _ (atI_p1 _ _), thenS_ok]
    simp [finF]
theorem flows_loop (a0 : Option Int) (l0 : List Stp) (dr : Int) : ∀ (r pre : List Stp) (a : Option Int) (x2 x3 x4 : Option D) (h : VH), l0 = pre ++ r → AheadAt a0 l0 pre.length a →
    (∃ y2 y3 y4, forL (gtTup 2 (gtsCons (gtName 2) (gtsCons (gtTup 2 (gtsCons (gtName 3) (gtsCons (gtName 4) gtsNil))) gtsNil))) b1_flows_in (numP pre.length (stepsP r)) [some (.p (stP a0 l0)), some (.p (.int dr)), x2, x3, x4] h = .nx [some (.p (stP a0 l0)), some (.p (.int dr)), y2, y3, y4] h ∧ goF dr a r = (lastM a r, lastM a r)) ∨
    ∃ s', forL (gtTup 2 (gtsCons (gtName 2) (gtsCons (gtTup 2 (gtsCons (gtName 3) (gtsCons (gtName 4) gtsNil))) gtsNil))) b1_flows_in (numP pre.length (stepsP r)) [some (.p (stP a0 l0)), some (.p (.int dr)), x2, x3, x4] h = .rt (.p (ends2 (goF dr a r))) h ∧ s' = pre
  | [], pre, a, x2, x3, x4, h, e, ha => .inl ⟨x2, x3, x4, by simp [stepsP, numP, forL], by simp [goF, lastM]⟩
  | (s, m) :: r, pre, a, x2, x3, x4, h, e, ha => by
    have e0 : numP pre.length (stepsP ((s, m) :: r)) = .tup [.int pre.length, stepP (s, m)] :: numP (pre.length + 1) (stepsP r) := rfl
    have hah := ahead_ok ha h
    have ih := flows_loop a0 l0 dr r (pre ++ [(s, m)]) m (some (.p (.int pre.length))) (some (.p (.int s))) (some (.p (optP m))) h (by rw [e]; simp) (by
      rw [List.length_append]
      rw [e]
      exact AheadAt.next)
    have elen : (pre ++ [(s, m)]).length = pre.length + 1 := by simp
    rw [elen] at ih
    by_cases h1 : dr < s
    · refine .inr ⟨pre, ?_, rfl⟩
      rw [e0]
      unfold forL
      simp [gtTup, stepP, gtsCons, gtName, gtsNil, b1_flows_in, sIf_ev, fVar, opLt, opInt0, h1, hah, fTup, allP, sizeLine, ends2, goF]
    · by_cases h2 : dr = s
      · subst h2
        refine .inr ⟨pre, ?_, rfl⟩
        rw [e0]
        unfold forL
        simp [gtTup, stepP, gtsCons, gtName, gtsNil, b1_flows_in, sIf_ev, fVar, opLt, opInt0, h1, hah, fTup, allP, sizeLine, ends2, goF, opEq, eqB_int]
      · have eb : b1_flows_in [some (.p (stP a0 l0)), some (.p (.int dr)), some (.p (.int pre.length)), some (.p (.int s)), some (.p (optP m))] h = .nx [some (.p (stP a0 l0)), some (.p (.int dr)), some (.p (.int pre.length)), some (.p (.int s)), some (.p (optP m))] h := by
          simp [b1_flows_in, sIf_ev, fVar, opLt, opInt0, h1, opEq, eqB_int, h2]
        have eg : goF dr a ((s, m) :: r) = goF dr m r := by simp [goF, h1, h2]
        have el : lastM a ((s, m) :: r) = lastM m r := lastM_cons _ _ _
        rw [e0, eg, el]
        unfold forL
        simp only [gtTup, stepP, gtsCons, gtName, gtsNil, List.length_cons, List.length_nil, List.set_cons_succ, List.set_cons_zero, if_true]
        rw [eb]
        rcases ih with ⟨y2, y3, y4, q, q2⟩ | ⟨s', q, _⟩
        · exact .inl ⟨y2, y3, y4, q, q2⟩
        · exact .inr ⟨pre, q, rfl⟩
theorem flows_in_ok (a : Option Int) (l : List Stp) (d : Int) (hl : a = none → l ≠ []) (h : VH) :
    F_flows_in [.p (stP a l), .p (.int d)] h = .ok (.p (if isLet (dropEnds a l) d then ends2 (goF d a l) else .non)) h := by
  have hlet : F_is_let [.p (ends2 (dropEnds a l)), .p (.int d)] h = .ok (.p (.bl (isLet (dropEnds a l) d))) h := is_let_ok _ _ _ _
  cases hc : isLet (dropEnds a l) d with
  | false =>
    simp [F_flows_in, f_flows_in, runF, finF, sIf_ev, fVar, drop_ends_ok a l hl, hlet, hc]
  | true =>
    have e2 : opIx (.p (stP a l)) (.p (.int 2)) h = .ok (.p (.tup (stepsP l))) h := opIx_tup _ _ _ _ (atI_2 _ _ _)
    have e1 : opIx (.p (ends2 (a, lastM a l))) (.p (.int 1)) h = .ok (.p (optP (lastM a l))) h := opIx_tup _ _ _ _ (atI_p1 _ _)
    rcases flows_loop a l d l [] a none none none h rfl (.inl ⟨rfl, rfl⟩) with ⟨y2, y3, y4, q, q2⟩ | ⟨s', q, _⟩
    · simp only [List.length_nil] at q
      simp only [F_flows_in, f_flows_in, runF, List.length_cons, List.length_nil, if_true, sSeq_ev, sIf_ev, fNot_ev, fTru_ev, fCall_ev, fCons_ev, fVar, fNil_ev, List.map_cons, List.map_nil, List.cons_append, List.nil_append, List.replicate, List.getElem?_cons_zero, List.getElem?_cons_succ, bind_ok, drop_ends_ok a l hl, hlet, hc, truth_bl, Bool.not_true, thenS_ok, cond_false, sNext_ev, seq_nx, sFor_ev, fEnum, f2_ev, fC_ev, e2, itemsP]
      rw [q]
      have e3 : opIx (.p (.tup [optP a, optP (lastM a l)])) (.p (.int 1)) h = .ok (.p (optP (lastM a l))) h := e1
      simp [fTup, fVar, flow_ends_ok, e3, allP, sizeLine, finF, q2, ends2]
    · simp only [List.length_nil] at q
      simp only [F_flows_in, f_flows_in, runF, List.length_cons, List.length_nil, if_true, sSeq_ev, sIf_ev, fNot_ev, fTru_ev, fCall_ev, fCons_ev, fVar, fNil_ev, List.map_cons, List.map_nil, List.cons_append, List.nil_append, List.replicate, List.getElem?_cons_zero, List.getElem?_cons_succ, bind_ok, drop_ends_ok a l hl, hlet, hc, truth_bl, Bool.not_true, thenS_ok, cond_false, sNext_ev, seq_nx, sFor_ev, fEnum, f2_ev, fC_ev, e2, itemsP]
      rw [q]
      simp [finF]
theorem worth_ok {a : Option Int} {l : List Stp} (g : Good a l) (d : Int) (hc : isLet (dropEnds a l) d = true) (h : VH) : F_worth_of [.p (stP a l), .p (.int d)] h = .ok (.p (.int (worth a l d))) h := by
  have hb := star_bd g d
  have i2 : isInt64 (nearT (goF d a l).1 (goF d a l).2) = true := i64 (by unfold starF at hb; omega)
  simp [F_worth_of, f_worth_of, runF, finF, sAsg_ev, fVar, flows_in_ok a l d g.ne, hc, ends2, gtTup, gtsCons, gtName, gtsNil, nearest_ok, opMulI, opInt, i2, energy_ok a l _ g.sm, opSub, opInt0, worth, starF]
theorem near_nought_ok (a b : Option Int) (h : VH) : F__law_near_nought [.p (ends2 (a, b))] h = .ok (.p (.int (nearT a b))) h := by
  rcases a with _ | a
  · rcases b with _ | b
    · simp [F__law_near_nought, f__law_near_nought, runF, finF, fVar, sIf_ev, fAnd_ev, fIfE_ev, ends2, optP, opIx, opIxS, dctD, lstD, tupD, atI, ixN, opNotIs, isB, opGt, opLt, opInt0, nearT, nearHi]
    · by_cases h2 : b < 0 <;> simp [F__law_near_nought, f__law_near_nought, runF, finF, fVar, sIf_ev, fAnd_ev, fIfE_ev, ends2, optP, opIx, opIxS, dctD, lstD, tupD, atI, ixN, opNotIs, isB, opGt, opLt, opInt0, nearT, nearHi, h2]
  · by_cases h1 : 0 < a
    · simp [F__law_near_nought, f__law_near_nought, runF, finF, fVar, sIf_ev, fAnd_ev, fIfE_ev, ends2, optP, opIx, opIxS, dctD, lstD, tupD, atI, ixN, opNotIs, isB, opGt, opLt, opInt0, nearT, nearHi, h1]
    · rcases b with _ | b
      · simp [F__law_near_nought, f__law_near_nought, runF, finF, fVar, sIf_ev, fAnd_ev, fIfE_ev, ends2, optP, opIx, opIxS, dctD, lstD, tupD, atI, ixN, opNotIs, isB, opGt, opLt, opInt0, nearT, nearHi, h1]
      · by_cases h2 : b < 0 <;> simp [F__law_near_nought, f__law_near_nought, runF, finF, fVar, sIf_ev, fAnd_ev, fIfE_ev, ends2, optP, opIx, opIxS, dctD, lstD, tupD, atI, ixN, opNotIs, isB, opGt, opLt, opInt0, nearT, nearHi, h1, h2]
theorem flows_at_loop (st : Option D) (d : Int) : ∀ (l : List Stp) (a : Option Int) (x3 x4 : Option D) (h : VH),
    (∃ y3 y4, forL (gtTup 2 (gtsCons (gtName 3) (gtsCons (gtName 4) gtsNil))) b1__law_flows_at (stepsP l) [st, some (.p (.int d)), some (.p (optP a)), x3, x4] h = .nx [st, some (.p (.int d)), some (.p (optP (lastM a l))), y3, y4] h ∧ goF d a l = (lastM a l, lastM a l)) ∨
    forL (gtTup 2 (gtsCons (gtName 3) (gtsCons (gtName 4) gtsNil))) b1__law_flows_at (stepsP l) [st, some (.p (.int d)), some (.p (optP a)), x3, x4] h = .rt (.p (ends2 (goF d a l))) h
  | [], a, x3, x4, h => .inl ⟨x3, x4, by simp [stepsP, forL, lastM], by simp [goF, lastM]⟩
  | (s, m) :: r, a, x3, x4, h => by
    have e0 : stepsP ((s, m) :: r) = stepP (s, m) :: stepsP r := rfl
    have ih := flows_at_loop st d r m (some (.p (.int s))) (some (.p (optP m))) h
    rw [e0]
    unfold forL
    simp only [gtTup, stepP, gtsCons, gtName, gtsNil, List.length_cons, List.length_nil, List.set_cons_succ, List.set_cons_zero, if_true]
    by_cases h2 : d = s
    · subst h2
      refine .inr ?_
      simp [b1__law_flows_at, sIf_ev, fVar, opEq, eqB_int, fTup, allP, sizeLine, ends2, goF]
    · by_cases h1 : d < s
      · refine .inr ?_
        simp [b1__law_flows_at, sIf_ev, fVar, opEq, eqB_int, h2, opLt, opInt0, h1, fTup, allP, sizeLine, ends2, goF]
      · have eb : b1__law_flows_at [st, some (.p (.int d)), some (.p (optP a)), some (.p (.int s)), some (.p (optP m))] h = .nx [st, some (.p (.int d)), some (.p (optP m)), some (.p (.int s)), some (.p (optP m))] h := by
          simp [b1__law_flows_at, sIf_ev, fVar, opEq, eqB_int, h2, opLt, opInt0, h1]
        rw [eb]
        have eg : goF d a ((s, m) :: r) = goF d m r := by simp [goF, h1, h2]
        rw [eg, lastM_cons]
        exact ih
theorem flows_at_ok (a : Option Int) (l : List Stp) (d : Int) (hl : a = none → l ≠ []) (h : VH) :
    F__law_flows_at [.p (stP a l), .p (.int d)] h = .ok (.p (if isLet (dropEnds a l) d then ends2 (goF d a l) else .non)) h := by
  have hlet : F__law_is_between [.p (.int d), .p (ends2 (dropEnds a l))] h = .ok (.p (.bl (isLet (dropEnds a l) d))) h := between_ok _ _ _ _
  cases hc : isLet (dropEnds a l) d with
  | false => simp [F__law_flows_at, f__law_flows_at, runF, finF, sIf_ev, fVar, law_drop_ends_ok a l hl, hlet, hc]
  | true =>
    have e2 : opIx (.p (stP a l)) (.p (.int 2)) h = .ok (.p (.tup (stepsP l))) h := opIx_tup _ _ _ _ (atI_2 _ _ _)
    have e1 : opIx (.p (stP a l)) (.p (.int 1)) h = .ok (.p (optP a)) h := opIx_tup _ _ _ _ (atI_1 _ _ _)
    rcases flows_at_loop (some (.p (stP a l))) d l a none none h with ⟨y3, y4, q, q2⟩ | q
    · simp [F__law_flows_at, f__law_flows_at, runF, sIf_ev, fVar, law_drop_ends_ok a l hl, hlet, hc, e1, e2, sFor_ev, fSeq, itemsP, q, fTup, allP, sizeLine, finF, q2]
      rfl
    · simp [F__law_flows_at, f__law_flows_at, runF, sIf_ev, fVar, law_drop_ends_ok a l hl, hlet, hc, e1, e2, sFor_ev, fSeq, itemsP, q, finF]
theorem are_mosts_ok {a : Option Int} {l : List Stp} (g : Good a l) (h : VH) : F_are_mosts [.p (optP a), .p (.lst (l.map fun x => optP x.2))] h = .ok (.p (.bl true)) h := by
  have em : (l.map fun x => optP x.2) = (l.map (·.2)).map optP := by simp
  obtain ⟨o1, o2, o3⟩ := optL_ok (l.map (·.2))
  have eE : eqB (.p (.lst (l.map fun x => optP x.2))) (.p (.lst [])) h = some l.isEmpty := by
    rw [em, eq_nil_list _ o1 o2 (by omega)]
    cases l <;> rfl
  have hsz := g.short
  have e16 : sizeLine = 16777216 := sizeLine_eq
  have c1 : ∀ s : Sg, s = [some (.p (optP a)), some (.p (.lst (l.map fun x => optP x.2))), none, none, none, none, none] →
      fLc (fSeq (fSl (fVar 1) oNone (oSome (f1 opNeg (fC (.int 1)))))) (gtName 3) bYes (f2 opIs (fVar 3) (fC .non)) [3] s h = .ok (.p (.lst (((l.map fun x => optP x.2).dropLast).map fun _ => .bl false))) h := fun s hs => by
    subst hs
    rw [fLc_pure (l := ((l.map fun x => optP x.2).dropLast)) (fun x => [some (.p (optP a)), some (.p (.lst (l.map fun x => optP x.2))), none, some (.p x), none, none, none]) (fun _ => true) (fun _ => .bl false)
      (by simp [fSeq, fSl, fVar, oNone, oSome, opNeg, lstD, cut_to_m1, itemsP]) (fun x hx => rfl) (fun x hx hh => rfl) (fun x hx _ hh => by
        obtain ⟨i, rfl⟩ := wf_init l _ _ g.wf x hx
        simp [fVar, opIs, isB]) (by rw [List.length_dropLast, List.length_map]; omega), filter_yes]
  have c2 : ∀ s : Sg, s = [some (.p (optP a)), some (.p (.lst (l.map fun x => optP x.2))), none, none, none, none, none] →
      fLc (fSeq (f2 opAdd (fLst (fCons (fVar 0) fNil)) (fVar 1))) (gtName 4) (fT (f2 opNotIs (fVar 4) (fC .non))) (fVar 4) [4] s h = .ok (.p (.lst ((told a l).map P.int))) h := fun s hs => by
    subst hs
    rw [fLc_pure (l := optP a :: (l.map fun x => optP x.2)) (fun x => [some (.p (optP a)), some (.p (.lst (l.map fun x => optP x.2))), none, none, some (.p x), none, none]) (fun x => !isNon x) (fun x => x)
      (by simp [fSeq, fLst, fVar, allP, sizeLine, opAdd, lstD, itemsP]; rw [if_pos (by have := g.len; omega)]; rfl) (fun x hx => rfl) (fun x hx hh => by simp [fVar, opNotIs, isB_non]) (fun x hx _ hh => by simp [fVar]) (by simp; have := g.len; omega)]
    have := told_filter (a :: l.map (·.2))
    simp only [List.map_cons] at this
    rw [em, this]
    simp [TW.told]
  have hasc := g.told
  have c3 : ∀ s : Sg, s = [some (.p (optP a)), some (.p (.lst (l.map fun x => optP x.2))), some (.p (.lst ((told a l).map P.int))), none, none, none, none] →
      fLc (fSeq (fVar 2)) (gtName 4) bYes (fCall F_is_number [] (fCons (fVar 4) fNil)) [4] s h = .ok (.p (.lst (((told a l).map P.int).map fun _ => .bl true))) h := fun s hs => by
    subst hs
    rw [fLc_pure (l := (told a l).map P.int) (fun x => [some (.p (optP a)), some (.p (.lst (l.map fun x => optP x.2))), some (.p (.lst ((told a l).map P.int))), none, some (.p x), none, none]) (fun _ => true) (fun _ => .bl true)
      (by simp [fSeq, fVar, itemsP]) (fun x hx => rfl) (fun x hx hh => rfl) (fun x hx _ hh => by
        obtain ⟨i, hi, rfl⟩ := List.mem_map.mp hx
        have := asc_all _ _ (by decide) hasc i hi
        simp [fVar, number_int]
        omega) (by
        rw [List.length_map]
        have : (told a l).length ≤ (a :: l.map (·.2)).length := List.length_filterMap_le _ _
        simp at this
        have := g.len
        omega), filter_yes]
  have c4 : ∀ s : Sg, s = [some (.p (optP a)), some (.p (.lst (l.map fun x => optP x.2))), some (.p (.lst ((told a l).map P.int))), none, none, none, none] →
      fLc (fZip (fCons (fVar 2) (fCons (fSl (fVar 2) (oSome (fC (.int 1))) oNone) fNil))) (gtTup 2 (gtsCons (gtName 5) (gtsCons (gtName 6) gtsNil))) bYes (f2 opLt (fVar 5) (fVar 6)) [5, 6] s h =
        .ok (.p (.lst ((zipP ((told a l).map P.int) (((told a l).map P.int).drop 1)).map fun _ => .bl true))) h := fun s hs => by
    subst hs
    rw [fLc_pure (l := zipP ((told a l).map P.int) (((told a l).map P.int).drop 1)) (fun x => match x with
        | .tup [u, v] => [some (.p (optP a)), some (.p (.lst (l.map fun x => optP x.2))), some (.p (.lst ((told a l).map P.int))), none, none, some (.p u), some (.p v)]
        | _ => []) (fun _ => true) (fun _ => .bl true)
      (by simp [fZip, fSl, fVar, oNone, oSome, lstD, cut_from1, itemsP]) (fun x hx => by
        obtain ⟨u, v, rfl, _⟩ := asc_pairs _ _ hasc x hx
        rfl) (fun x hx hh => rfl) (fun x hx _ hh => by
        obtain ⟨u, v, rfl, huv⟩ := asc_pairs _ _ hasc x hx
        simp [fVar, opLt, opInt0, huv]) (by
        rw [zipP_len, List.length_map]
        have : (told a l).length ≤ (a :: l.map (·.2)).length := List.length_filterMap_le _ _
        simp at this
        have := g.len
        omega), filter_yes]
  have hne : ∀ hh : VH, opIs (.p (optP a)) (.p .non) hh = .ok (.p (.bl a.isNone)) hh := fun hh => by cases a <;> rfl
  have n1 : fLst fNil [some (.p (optP a)), some (.p (.lst (l.map fun x => optP x.2))), none, none, none, none, none] h = .ok (.p (.lst [])) h := by simp [fLst, allP]
  have hnn : (a.isNone && l.isEmpty) = false := by
    cases a with
    | some i => rfl
    | none =>
      have := g.ne rfl
      cases l with
      | nil => exact absurd rfl this
      | cons x r => rfl
  have g1 := gAny_map (fun _ : P => false) ((l.map fun x => optP x.2).dropLast) h
  have g3 := gAll_map (fun _ : P => true) ((told a l).map P.int) h
  have g4 := gAll_map (fun _ : P => true) (zipP ((told a l).map P.int) (((told a l).map P.int).drop 1)) h
  have ha : ∀ l : List P, (l.any fun _ => false) = false := fun l => by simp
  have hb : ∀ l : List P, (l.all fun _ => true) = true := fun l => by simp
  rw [ha] at g1
  rw [hb] at g3 g4
  have hc : (bif a.isNone then R.ok l.isEmpty h else R.ok false h) = R.ok false h := by
    cases a with
    | some i => rfl
    | none => simpa using hnn
  simp only [F_are_mosts, f_are_mosts, runF, List.length_cons, List.length_nil, if_true, sSeq_ev, sIf_ev, fAnd_ev, fT_ev, f2_ev, fVar, fC_ev, List.map_cons, List.map_nil, List.cons_append, List.nil_append, List.replicate, List.getElem?_cons_zero, List.getElem?_cons_succ, bind_ok, hne, asB_bl, n1, opEq, eE, hc, thenS_ok, cond_false, sNext_ev, seq_nx, fTru_ev, fB_ev, fCons_ev, fNil_ev, c1 _ rfl, g1, truth_bl, sAsgN_ev, c2 _ rfl, List.set_cons_succ, List.set_cons_zero, sRet_ev, fAndV_ev, c3 _ rfl, g3, cond_true, c4 _ rfl, g4]
  simp [finF]

theorem stair_any_ok {a : Option Int} {l : List Stp} (g : Good a l) (h : VH) : F_is_stair_any [.p (stP a l)] h = .ok (.p (.bl true)) h := by
  have hsz := g.short
  have hln := g.len
  have e2 : opIx (.p (stP a l)) (.p (.int 2)) h = .ok (.p (.tup (stepsP l))) h := opIx_tup _ _ _ _ (atI_2 _ _ _)
  have e1 : opIx (.p (stP a l)) (.p (.int 1)) h = .ok (.p (optP a)) h := opIx_tup _ _ _ _ (atI_1 _ _ _)
  have e0 : opIx (.p (stP a l)) (.p (.int 0)) h = .ok (.p (.str "stair")) h := opIx_tup _ _ _ _ (atI_0 _ _ _)
  have i0 : ∀ s : Sg, fIsi .str (f2 opIx (fVar 0) (fC (.int 0))) (some (.p (stP a l)) :: s) h = .ok (.p (.bl true)) h := fun s => by
    simp [fIsi, fVar, e0, tyD, isiY]
  have i1 : ∀ s : Sg, fIsi .tup (fVar 1) (some (.p (stP a l)) :: some (.p (.tup (stepsP l))) :: s) h = .ok (.p (.bl true)) h := fun s => by
    simp [fIsi, fVar, tyD, isiY]
  have hlen : gLen [.p (.tup (stepsP l))] h = .ok (.p (.int l.length)) h := by simp [gLen, b1, lstD, stepsP]
  have t3 : F_is_tuple [.p (stP a l), .p (.int 3)] h = .ok (.p (.bl true)) h := by
    unfold stP; rw [tuple_ok]; simp
  have c1 : ∀ s : Sg, s = [some (.p (stP a l)), some (.p (.tup (stepsP l))), none, none, none, none, none] →
      fLc (fSeq (fVar 1)) (gtName 2) bYes (fCall F_is_tuple [] (fCons (fVar 2) (fCons (fC (.int 2)) fNil))) [2] s h = .ok (.p (.lst ((stepsP l).map fun _ => .bl true))) h := fun s hs => by
    subst hs
    rw [fLc_pure (l := stepsP l) (fun x => [some (.p (stP a l)), some (.p (.tup (stepsP l))), some (.p x), none, none, none, none]) (fun _ => true) (fun _ => .bl true)
      (by simp [fSeq, fVar, itemsP]) (fun x hx => rfl) (fun x hx hh => rfl) (fun x hx _ hh => by
        obtain ⟨y, _, rfl⟩ := List.mem_map.mp hx
        simp only [fCall_ev, fCons_ev, fNil_ev, fC_ev, fVar, List.getElem?_cons_succ, List.getElem?_cons_zero, bind_ok, stepP, tuple_ok]
        simp) (by simpa [stepsP] using hsz), filter_yes]
  have c2 : ∀ s : Sg, s = [some (.p (stP a l)), some (.p (.tup (stepsP l))), none, none, none, none, none] →
      fLc (fSeq (fVar 1)) (gtTup 2 (gtsCons (gtName 3) (gtsCons (gtName 4) gtsNil))) bYes (fCall F_is_number [] (fCons (fVar 3) fNil)) [3, 4] s h = .ok (.p (.lst ((stepsP l).map fun _ => .bl true))) h := fun s hs => by
    subst hs
    rw [fLc_pure (l := stepsP l) (fun x => match x with
        | .tup [u, v] => [some (.p (stP a l)), some (.p (.tup (stepsP l))), none, some (.p u), some (.p v), none, none]
        | _ => []) (fun _ => true) (fun _ => .bl true)
      (by simp [fSeq, fVar, itemsP]) (fun x hx => by
        obtain ⟨y, _, rfl⟩ := List.mem_map.mp hx
        rfl) (fun x hx hh => rfl) (fun x hx _ hh => by
        obtain ⟨y, hy, rfl⟩ := List.mem_map.mp hx
        have := wf_drops l _ _ (by decide) g.wf y hy
        simp [fVar, stepP, number_int]
        omega) (by simpa [stepsP] using hsz), filter_yes]
  have c3 : ∀ s : Sg, s = [some (.p (stP a l)), some (.p (.tup (stepsP l))), none, none, none, none, none] →
      fLc (fZip (fCons (fVar 1) (fCons (fSl (fVar 1) (oSome (fC (.int 1))) oNone) fNil))) (gtTup 2 (gtsCons (gtName 5) (gtsCons (gtName 6) gtsNil))) bYes (f2 opLt (f2 opIx (fVar 5) (fC (.int 0))) (f2 opIx (fVar 6) (fC (.int 0)))) [5, 6] s h =
        .ok (.p (.lst ((zipP (stepsP l) ((stepsP l).drop 1)).map fun _ => .bl true))) h := fun s hs => by
    subst hs
    rw [fLc_pure (l := zipP (stepsP l) ((stepsP l).drop 1)) (fun x => match x with
        | .tup [u, v] => [some (.p (stP a l)), some (.p (.tup (stepsP l))), none, none, none, some (.p u), some (.p v)]
        | _ => []) (fun _ => true) (fun _ => .bl true)
      (by simp [fZip, fSl, fVar, oNone, oSome, lstD, tupD, cut_from1, itemsP]) (fun x hx => by
        obtain ⟨u, v, rfl, _⟩ := wf_pairs _ _ _ g.wf x hx
        rfl) (fun x hx hh => rfl) (fun x hx _ hh => by
        obtain ⟨u, v, rfl, huv⟩ := wf_pairs _ _ _ g.wf x hx
        have u0 : opIx (.p (stepP u)) (.p (.int 0)) hh = .ok (.p (.int u.1)) hh := opIx_tup _ _ _ _ (atI_p0 _ _)
        have v0 : opIx (.p (stepP v)) (.p (.int 0)) hh = .ok (.p (.int v.1)) hh := opIx_tup _ _ _ _ (atI_p0 _ _)
        simp [fVar, u0, v0, opLt, opInt0, huv]) (by
        have := zip_len_le (stepsP l) ((stepsP l).drop 1)
        have e : (stepsP l).length = l.length := by simp [stepsP]
        omega), filter_yes]
  have c4 : ∀ s : Sg, s = [some (.p (stP a l)), some (.p (.tup (stepsP l))), none, none, none, none, none] →
      fLc (fSeq (fVar 1)) (gtTup 2 (gtsCons (gtName 3) (gtsCons (gtName 4) gtsNil))) bYes (fVar 4) [3, 4] s h = .ok (.p (.lst (l.map fun x => optP x.2))) h := fun s hs => by
    subst hs
    rw [fLc_pure (l := stepsP l) (fun x => match x with
        | .tup [u, v] => [some (.p (stP a l)), some (.p (.tup (stepsP l))), none, some (.p u), some (.p v), none, none]
        | _ => []) (fun _ => true) (fun x => match x with
        | .tup [u, v] => v
        | _ => .non)
      (by simp [fSeq, fVar, itemsP]) (fun x hx => by
        obtain ⟨y, _, rfl⟩ := List.mem_map.mp hx
        rfl) (fun x hx hh => rfl) (fun x hx _ hh => by
        obtain ⟨y, hy, rfl⟩ := List.mem_map.mp hx
        simp [fVar, stepP]) (by simpa [stepsP] using hsz), filter_yes]
    unfold stepsP
    rw [List.map_map]
    rfl
  have hb : ∀ l : List P, (l.all fun _ => true) = true := fun l => by simp
  have g1 := gAll_map (fun _ : P => true) (stepsP l) h
  have g3 := gAll_map (fun _ : P => true) (zipP (stepsP l) ((stepsP l).drop 1)) h
  rw [hb] at g1 g3
  have h40 : decide ((40 : Int) < (l.length : Int)) = false := decide_eq_false (by omega)
  simp only [F_is_stair_any, f_is_stair_any, runF, List.length_cons, List.length_nil, if_true, sSeq_ev, sIf_ev, fOr_ev, fNot_ev, fTru_ev, fT_ev, f2_ev, fVar, fC_ev, List.map_cons, List.map_nil, List.cons_append, List.nil_append, List.replicate, List.getElem?_cons_zero, List.getElem?_cons_succ, bind_ok, fCall_ev, fCons_ev, fNil_ev, t3, truth_bl, Bool.not_true, cond_false, i0, e0, opNe, str_self, asB_bl, thenS_ok, sNext_ev, seq_nx, sAsgN_ev, e2, List.set_cons_succ, List.set_cons_zero, i1, fB_ev, hlen, opGt, opInt0, h40, c1 _ rfl, g1, c2 _ rfl, c3 _ rfl, g3, sRet_ev, e1, c4 _ rfl, are_mosts_ok g]
  simp [finF]
end K82

/-! F2: the defs about nets. -/
namespace K82
open PySem PySem.Spec PyProof.Rows L2 MV TW

theorem castEq (a b : Nat) : ((a : Int) = (b : Int)) = (a = b) := propext Int.ofNat_inj
theorem drop_of_ok {n : Net} {hs : List Int} {k : Nat} {p : Pipe} (g : GoodN n) (hl : hs.length = n.hs.length) (hp : n.ps[k]? = some p) (h : VH) : F_drop_of [.p (netP n), .p (intsT hs), .p (.int (k : Nat))] h = .ok (.p (.int (dropP hs p))) h := by
  have hm := List.mem_of_getElem? hp
  have i1 := opIx_tupM (f := pipeP) h hp
  have i2 := ints_ix (hs := hs) (i := p.near) (by rw [hl]; exact g.near p hm) h
  have i3 := ints_ix (hs := hs) (i := p.far) (by rw [hl]; exact g.far p hm) h
  simp_arith [F_drop_of, f_drop_of, net_ix2, i1, pipeP, i2, i3, dropP]
theorem taps_of_ok {n : Net} (g : GoodN n) (h : VH) : F_taps_of [.p (netP n)] h = .ok (.p (.lst ((tapsN n).map fun i : Nat => .int i))) h := by
  have hc : ∀ s : Sg, s = [some (.p (netP n)), none, none] → fLc (fEnum (fCons (f2 opIx (fVar 0) (fC (.int 1))) fNil)) (gtTup 2 (gtsCons (gtName 1) (gtsCons (gtName 2) gtsNil))) (fT (f2 opIs (fVar 2) (fC .non))) (fVar 1) [1, 2] s h = .ok (.p (.lst ((tapsN n).map fun i : Nat => .int i))) h := fun s hs => by
    subst hs
    rw [fLc_typ (l := n.hs.zipIdx) (fun x : Option Int × Nat => .tup [.int x.2, optP x.1]) (fun x => x.1.isNone) (fun x => .int x.2) (by
      simp_arith [net_ix1, numP_map]) (fun x hx => ⟨_, rfl, fun hh => by simp_arith [opIs, isB_opt], fun _ hh => by simp_arith []⟩) (by rw [List.length_zipIdx]; exact le_line (by have := g.len2; omega))]
    unfold tapsN
    rw [List.map_map]
    rfl
  simp_arith [F_taps_of, f_taps_of]
  rw [hc _ rfl]
  simp_arith []
theorem comes_to_ok (n : Net) (fs : List Int) (i : Nat) (h : VH) : F_comes_to [.p (netP n), .p (intsT fs), .p (.int (i : Nat))] h = .ok (.p (.int (comesT n.ps fs i))) h := by
  obtain ⟨s', h', e, y4, y5, y6, y7, rfl, rfl⟩ := forL_acc (g := gtTup 2 (gtsCons (gtTup 3 (gtsCons (gtName 4) (gtsCons (gtName 5) (gtsCons (gtName 6) gtsNil)))) (gtsCons (gtName 7) gtsNil))) (b := b1_comes_to) (fun x : Pipe × Int => .tup [pipeP x.1, .int x.2]) (fun a x => a + (if x.1.far = i then x.2 else 0) - (if x.1.near = i then x.2 else 0))
    (fun a s hh => ∃ y4 y5 y6 y7, s = [some (.p (netP n)), some (.p (intsT fs)), some (.p (.int (i : Nat))), some (.p (.int a)), y4, y5, y6, y7] ∧ hh = h) (n.ps.zip fs) (fun a x hx s hh hI => by
      obtain ⟨y4, y5, y6, y7, rfl, rfl⟩ := hI
      refine ⟨_, rfl, _, _, ?_, some (.p (.int x.1.near)), some (.p (.int x.1.far)), some (.p (stairP x.1.st)), some (.p (.int x.2)), rfl, rfl⟩
      by_cases h1 : x.1.far = i <;> by_cases h2 : x.1.near = i <;> simp_arith [b1_comes_to, opEq, eqB_int, castEq, h1, h2, decide_true, decide_false, if_false]) 0 [some (.p (netP n)), some (.p (intsT fs)), some (.p (.int (i : Nat))), some (.p (.int 0)), none, none, none, none] h ⟨_, _, _, _, rfl, rfl⟩
  rw [comes_fold, Int.zero_add] at e
  simp_arith [F_comes_to, f_comes_to, net_ix2, intsT, zipP_map]
  simp only [intsT] at e
  rw [e]
  simp_arith []
theorem are_kept_ok {n : Net} (g : GoodN n) {qs : List Int} (hl : qs.length = n.hs.length) (fs : List Int) (h : VH) : F_are_kept [.p (netP n), .p (intsT qs), .p (intsT fs)] h = .ok (.p (.bl (keptB n qs fs))) h := by
  have hc : ∀ s : Sg, s = [some (.p (netP n)), some (.p (intsT qs)), some (.p (intsT fs)), none] → fLc (fSeq (fCall F_taps_of [] (fCons (fVar 0) fNil))) (gtName 3) bYes (f2 opEq (fCall F_comes_to [] (fCons (fVar 0) (fCons (fVar 2) (fCons (fVar 3) fNil)))) (f2 opIx (fVar 1) (fVar 3))) [3] s h =
      .ok (.p (.lst ((tapsN n).map fun i => .bl (decide (comesT n.ps fs i = hgt qs i))))) h := fun s hs => by
    subst hs
    exact fLc_all (l := tapsN n) (fun i : Nat => .int i) _ (by simp_arith [taps_of_ok g]) (fun i hi => ⟨_, rfl, fun hh => by
      have hi2 := (taps_lt hi).1
      have i1 := ints_ix (hs := qs) (i := i) (by omega) hh
      simp_arith [comes_to_ok, i1, opEq, eqB_int]⟩) (le_line (by have := taps_len n; have := g.len2; omega))
  simp_arith [F_are_kept, f_are_kept]
  rw [hc _ rfl]
  simp_arith [gAll_map, keptB]
theorem is_on_ok {s : Stair} (g : GoodS s) (d f : Int) (h : VH) : F_is_on [.p (stairP s), .p (.int d), .p (.int f)] h = .ok (.p (.bl (onSt s d f))) h := by
  obtain ⟨a, l⟩ := s
  have g : Good a l := g
  have h1 := flows_in_ok a l d g.ne h
  have h2 : ∀ hh, F_is_let [.p (ends2 (goF d a l)), .p (.int f)] hh = .ok (.p (.bl (isLet (goF d a l) f))) hh := fun hh => is_let_ok _ _ _ _
  cases hc : isLet (dropEnds a l) d with
  | true =>
    rw [hc] at h1
    have i1 : isB (.p (ends2 (goF d a l))) (.p .non) = some false := rfl
    simp_arith [F_is_on, f_is_on, stairP, h1, h2, opNotIs, i1, onSt, flIn, dropE, hc, Bool.true_and]
  | false =>
    rw [hc] at h1
    have i1 : isB (.p P.non) (.p .non) = some true := rfl
    simp_arith [F_is_on, f_is_on, stairP, h1, opNotIs, i1, onSt, flIn, dropE, hc, Bool.false_and, Bool.false_eq_true, if_false]
theorem is_stand_of_ok {n : Net} (g : GoodN n) {qs hs fs : List Int} (hq : qs.length = n.hs.length) (hl : hs.length = n.hs.length) (hf : fs.length = n.ps.length) (h : VH) : F_is_stand_of [.p (netP n), .p (intsT qs), .p (intsT hs), .p (intsT fs)] h = .ok (.p (.bl (onAll hs n.ps fs && keptB n qs fs))) h := by
  have key := forL_find (h := h) (g := gtTup 2 (gtsCons (gtName 4) (gtsCons (gtName 5) gtsNil))) (b := b1_is_stand_of) (fun x : Int × Nat => .tup [.int x.2, .int x.1]) (fun x => !onAt n hs x) (fun _ => .p (.bl false))
    (fun s => ∃ y4 y5, s = [some (.p (netP n)), some (.p (intsT qs)), some (.p (intsT hs)), some (.p (intsT fs)), y4, y5]) fs.zipIdx (fun x hx s hI => by
      obtain ⟨y4, y5, rfl⟩ := hI
      obtain ⟨hx1, hx2⟩ := zipIdx_lt hx
      obtain ⟨p, hp⟩ : ∃ p, n.ps[x.2]? = some p := ⟨n.ps[x.2]'(by omega), by simp⟩
      have g1 := drop_of_ok g hl hp h
      have g2 := is_on_ok (g.st p (List.mem_of_getElem? hp)) (dropP hs p) x.1 h
      have i1 := opIx_tupM (f := pipeP) h hp
      have e0 : onAt n hs x = onSt p.st (dropP hs p) x.1 := by unfold onAt; rw [hp]
      refine ⟨_, rfl, ?_⟩
      rw [e0]
      cases hc : onSt p.st (dropP hs p) x.1 with
      | true =>
        rw [hc] at g2
        refine .inr ⟨rfl, _, ?_, some (.p (.int x.2)), some (.p (.int x.1)), rfl⟩
        simp_arith [b1_is_stand_of, net_ix2, i1, pipe_ix2, g1, g2]
      | false =>
        rw [hc] at g2
        refine .inl ⟨rfl, ?_⟩
        simp_arith [b1_is_stand_of, net_ix2, i1, pipe_ix2, g1, g2]) [some (.p (netP n)), some (.p (intsT qs)), some (.p (intsT hs)), some (.p (intsT fs)), none, none] ⟨_, _, rfl⟩
  have hall : onAll hs n.ps fs = (fs.zipIdx.all fun x => onAt n hs x) := (onAll_ix n hs n.ps fs 0 rfl hf.symm).symm
  have e2 : itemsP (.p (intsT fs)) = some (fs.map P.int) := rfl
  rcases key with ⟨x, k1, k2⟩ | ⟨k1, s', k2, y4, y5, rfl⟩
  · have hfalse : onAll hs n.ps fs = false := by
      rw [hall]
      cases hz : (fs.zipIdx.all fun x => onAt n hs x) with
      | false => rfl
      | true =>
        rw [List.all_eq_true] at hz
        have h1 := List.find?_some k1
        have h2 := hz x (List.mem_of_find?_eq_some k1)
        rw [h2] at h1; cases h1
    simp_arith [F_is_stand_of, f_is_stand_of, e2, numP_map]
    rw [k2]
    simp_arith [hfalse, Bool.false_and]
  · have htrue : onAll hs n.ps fs = true := by
      rw [hall, List.all_eq_true]
      intro x hx
      have := List.find?_eq_none.mp k1 x hx
      simpa using this
    simp_arith [F_is_stand_of, f_is_stand_of, e2, numP_map]
    rw [k2]
    simp_arith [htrue, Bool.true_and, are_kept_ok g hq]
end K82

/-! F3: what is asked ahead: nets, draws, heights, flows. -/
namespace K82
open PySem PySem.Spec PyProof.Rows L2 MV TW

theorem strEq (s : Str) (h : VH) : eqB (.p (.str s)) (.p (.str s)) h = some true := by
  simp [eqB, datum, txtEq, txtP]
theorem isB_int (i : Int) : isB (.p (.int i)) (.p .non) = some false := rfl
theorem all_true {α : Type} (l : List α) : (l.all fun _ => true) = true := by simp
theorem is_pipe_of_ok {n : Net} (g : GoodN n) {p : Pipe} (hp : p ∈ n.ps) (h : VH) : F_is_pipe_of [.p (pipeP p), .p (.int n.hs.length)] h = .ok (.p (.bl true)) h := by
  have h1 := g.near p hp
  have h2 := g.far p hp
  have h3 := g.ne p hp
  have h4 := stair_any_ok (a := p.st.1) (l := p.st.2) (g.st p hp) h
  have t3 : F_is_tuple [.p (pipeP p), .p (.int 3)] h = .ok (.p (.bl true)) h := by unfold pipeP; rw [tuple_ok]; simp
  have w1 : (decide ((0 : Int) ≤ p.near) && decide ((p.near : Int) ≤ (n.hs.length : Int) - 1)) = true := by simp; omega
  have w2 : (decide ((0 : Int) ≤ p.far) && decide ((p.far : Int) ≤ (n.hs.length : Int) - 1)) = true := by simp; omega
  simp_arith [F_is_pipe_of, f_is_pipe_of, t3, pipe_ix0, pipe_ix1, pipe_ix2, within_int, w1, w2, opNe, eqB_int, castEq, h3, decide_false, stairP, h4]
theorem net_any_ok {n : Net} (g : GoodN n) (h : VH) : F_is_net_any [.p (netP n)] h = .ok (.p (.bl true)) h := by
  have t3 : F_is_tuple [.p (netP n), .p (.int 3)] h = .ok (.p (.bl true)) h := by unfold netP; rw [tuple_ok]; simp
  have l1 := g.len1
  have l2 := g.len2
  have l3 := g.pl
  have i0 : ∀ s : Sg, fIsi .str (f2 opIx (fVar 0) (fC (.int 0))) (some (.p (netP n)) :: s) h = .ok (.p (.bl true)) h := fun s => by
    simp [fIsi, fVar, net_ix0, tyD, isiY]
  have i1 : ∀ (x : D) (l : List P) (s : Sg), fIsi .tup (fVar 1) (some x :: some (.p (.tup l)) :: s) h = .ok (.p (.bl true)) h := fun x l s => by
    simp [fIsi, fVar, tyD, isiY]
  have i2 : ∀ (x y : D) (l : List P) (s : Sg), fIsi .tup (fVar 2) (some x :: some y :: some (.p (.tup l)) :: s) h = .ok (.p (.bl true)) h := fun x y l s => by
    simp [fIsi, fVar, tyD, isiY]
  have d1 : decide ((1 : Int) ≤ n.hs.length) = true := decide_eq_true (by omega)
  have d2 : decide ((n.hs.length : Int) ≤ 12) = true := decide_eq_true (by omega)
  have c24 : decide ((24 : Int) < n.ps.length) = false := decide_eq_false (by omega)
  have a1 : ∀ s : Sg, s = [some (.p (netP n)), some (.p (.tup (n.hs.map optP))), some (.p (.tup (n.ps.map pipeP))), none] → fLc (fSeq (fVar 1)) (gtName 3) bYes (fOrV (f2 opIs (fVar 3) (fC .non)) (fCall F_is_number [] (fCons (fVar 3) fNil))) [3] s h = .ok (.p (.lst (n.hs.map fun _ => .bl true))) h := fun s hs => by
    subst hs
    exact fLc_all (l := n.hs) optP (fun _ => .bl true) (by simp_arith []) (fun x hx => ⟨_, rfl, fun hh => by
      cases hx2 : x with
      | none => simp_arith [opIs, isB_opt, Option.isNone_none]
      | some i =>
        have hi := g.hs x hx i hx2
        have d1 : (decide (-999 ≤ i) && decide (i ≤ 999)) = true := by simp [hi]
        simp_arith [opIs, isB_opt, Option.isNone_some, optP, isB_int, number_int, d1]⟩) (le_line (by omega))
  have a2 : ∀ s : Sg, s = [some (.p (netP n)), some (.p (.tup (n.hs.map optP))), some (.p (.tup (n.ps.map pipeP))), none] → fLc (fSeq (fVar 2)) (gtName 3) bYes (fCall F_is_pipe_of [] (fCons (fVar 3) (fCons (fB gLen (fCons (fVar 1) fNil)) fNil))) [3] s h = .ok (.p (.lst (n.ps.map fun _ => .bl true))) h := fun s hs => by
    subst hs
    exact fLc_all (l := n.ps) pipeP (fun _ => .bl true) (by simp_arith []) (fun x hx => ⟨_, rfl, fun hh => by simp_arith [gLen_tup, is_pipe_of_ok g hx]⟩) (le_line (by omega))
  simp_arith [F_is_net_any, f_is_net_any, t3, i0, net_ix0, net_ix1, net_ix2, opNe, strEq, i1, i2, gLen_tup, d1, d2, gAll_map]
  rw [a1 _ rfl]
  simp_arith [gAll_map, all_true, i2, gLen_tup, c24]
  rw [a2 _ rfl]
  simp_arith [gAll_map, all_true]
theorem want_net_ok {n : Net} (g : GoodN n) (h : VH) : F_want_net [.p (netP n)] h = .ok (.p .non) h := by
  simp_arith [F_want_net, f_want_net, net_any_ok g]
theorem tuple_ints (l : List Int) (m : Nat) (h : VH) : F_is_tuple [.p (intsT l), .p (.int m)] h = .ok (.p (.bl (decide (l.length = m)))) h := by
  unfold intsT
  rw [tuple_ok]
  simp only [List.length_map, castEq]
theorem are_draws_ok {n : Net} (g : GoodN n) {qs : List Int} (d : DrawsN n qs) (h : VH) : F_are_draws [.p (netP n), .p (intsT qs)] h = .ok (.p (.bl true)) h := by
  have hl := d.len
  have l2 := g.len2
  have e2 : itemsP (.p (intsT qs)) = some (qs.map P.int) := rfl
  have a1 : ∀ s : Sg, s = [some (.p (netP n)), some (.p (intsT qs)), none, none] → fLc (fSeq (fVar 1)) (gtName 2) bYes (fCall F_is_number [] (fCons (fVar 2) fNil)) [2] s h = .ok (.p (.lst (qs.map fun _ => .bl true))) h := fun s hs => by
    subst hs
    exact fLc_all (l := qs) P.int (fun _ => .bl true) (by simp_arith [e2]) (fun x hx => ⟨_, rfl, fun hh => by
      have d1 : (decide (-999 ≤ x) && decide (x ≤ 999)) = true := by simp [d.num x hx]
      simp_arith [number_int, d1]⟩) (le_line (by omega))
  have a2 : ∀ s : Sg, s = [some (.p (netP n)), some (.p (intsT qs)), none, none] → fLc (fZip (fCons (fVar 1) (fCons (f2 opIx (fVar 0) (fC (.int 1))) fNil))) (gtTup 2 (gtsCons (gtName 2) (gtsCons (gtName 3) gtsNil))) bYes (fOrV (f2 opIs (fVar 3) (fC .non)) (f2 opEq (fVar 2) (fC (.int 0)))) [2, 3] s h = .ok (.p (.lst ((qs.zip n.hs).map fun _ => .bl true))) h := fun s hs => by
    subst hs
    exact fLc_all (l := qs.zip n.hs) (fun x => .tup [.int x.1, optP x.2]) (fun _ => .bl true) (by simp_arith [net_ix1, e2, zipP_map]) (fun x hx => ⟨_, rfl, fun hh => by
      obtain ⟨q, o⟩ := x
      rcases d.spr _ hx with e | e
      · dsimp only at e
        subst e
        simp_arith [opIs, isB_opt, Option.isNone_none]
      · dsimp only at e
        subst e
        cases o <;> simp_arith [opIs, isB_opt, Option.isNone_none, Option.isNone_some, opEq, eqB_int, decide_true]⟩) (le_line (by rw [List.length_zip]; omega))
  simp_arith [F_are_draws, f_are_draws, net_ix1, gLen_tup, tuple_ints, hl, decide_true]
  rw [a1 _ rfl]
  simp_arith [gAll_map, all_true]
  rw [a2 _ rfl]
  simp_arith [gAll_map, all_true]
theorem want_draws_ok {n : Net} (g : GoodN n) {qs : List Int} (d : DrawsN n qs) (h : VH) : F_want_draws [.p (netP n), .p (intsT qs)] h = .ok (.p .non) h := by
  simp_arith [F_want_draws, f_want_draws, are_draws_ok g d]
theorem want_asked_ok {n : Net} (g : GoodN n) {qs : List Int} (d : DrawsN n qs) (h : VH) : F_want_asked [.p (netP n), .p (intsT qs)] h = .ok (.p .non) h := by
  simp_arith [F_want_asked, f_want_asked, want_net_ok g, want_draws_ok g d]
theorem are_heights_ok {n : Net} (g : GoodN n) {hs : List Int} (ag : Agree n.hs hs) (h : VH) : F_are_heights [.p (netP n), .p (intsT hs)] h = .ok (.p (.bl true)) h := by
  have hl := agree_len ag
  have l2 := g.len2
  have e2 : itemsP (.p (intsT hs)) = some (hs.map P.int) := rfl
  have a1 : ∀ s : Sg, s = [some (.p (netP n)), some (.p (intsT hs)), none, none] → fLc (fSeq (fVar 1)) (gtName 2) bYes (fCall F_is_integer [] (fCons (fVar 2) fNil)) [2] s h = .ok (.p (.lst (hs.map fun _ => .bl true))) h := fun s hs' => by
    subst hs'
    exact fLc_all (l := hs) P.int (fun _ => .bl true) (by simp_arith [e2]) (fun x hx => ⟨_, rfl, fun hh => by simp_arith [isi_int]⟩) (le_line (by omega))
  have a2 : ∀ s : Sg, s = [some (.p (netP n)), some (.p (intsT hs)), none, none] → fLc (fZip (fCons (fVar 1) (fCons (f2 opIx (fVar 0) (fC (.int 1))) fNil))) (gtTup 2 (gtsCons (gtName 2) (gtsCons (gtName 3) gtsNil))) bYes (fOrV (f2 opIs (fVar 3) (fC .non)) (f2 opEq (fVar 2) (fVar 3))) [2, 3] s h = .ok (.p (.lst ((hs.zip n.hs).map fun _ => .bl true))) h := fun s hs' => by
    subst hs'
    exact fLc_all (l := hs.zip n.hs) (fun x => .tup [.int x.1, optP x.2]) (fun _ => .bl true) (by simp_arith [net_ix1, e2, zipP_map]) (fun x hx => ⟨_, rfl, fun hh => by
      obtain ⟨q, o⟩ := x
      rcases agree_zip ag _ hx with e | e
      · dsimp only at e
        subst e
        simp_arith [opIs, isB_opt, Option.isNone_none]
      · dsimp only at e
        subst e
        simp_arith [opIs, isB_opt, Option.isNone_some, optP, isB_int, opEq, eqB_int, decide_true]⟩) (le_line (by rw [List.length_zip]; omega))
  simp_arith [F_are_heights, f_are_heights, net_ix1, gLen_tup, tuple_ints, hl, decide_true]
  rw [a1 _ rfl]
  simp_arith [gAll_map, all_true]
  rw [a2 _ rfl]
  simp_arith [gAll_map, all_true]
theorem want_heights_ok {n : Net} (g : GoodN n) {hs : List Int} (ag : Agree n.hs hs) (h : VH) : F_want_heights [.p (netP n), .p (intsT hs)] h = .ok (.p .non) h := by
  simp_arith [F_want_heights, f_want_heights, are_heights_ok g ag]
theorem are_flows_ok {n : Net} (g : GoodN n) {fs : List Int} (hl : fs.length = n.ps.length) (h : VH) : F_are_flows [.p (netP n), .p (intsT fs)] h = .ok (.p (.bl true)) h := by
  have l2 := g.pl
  have e2 : itemsP (.p (intsT fs)) = some (fs.map P.int) := rfl
  have a1 : ∀ s : Sg, s = [some (.p (netP n)), some (.p (intsT fs)), none] → fLc (fSeq (fVar 1)) (gtName 2) bYes (fCall F_is_integer [] (fCons (fVar 2) fNil)) [2] s h = .ok (.p (.lst (fs.map fun _ => .bl true))) h := fun s hs' => by
    subst hs'
    exact fLc_all (l := fs) P.int (fun _ => .bl true) (by simp_arith [e2]) (fun x hx => ⟨_, rfl, fun hh => by simp_arith [isi_int]⟩) (le_line (by omega))
  simp_arith [F_are_flows, f_are_flows, net_ix2, gLen_tup, tuple_ints, hl, decide_true]
  rw [a1 _ rfl]
  simp_arith [gAll_map, all_true]
theorem want_flows_ok {n : Net} (g : GoodN n) {fs : List Int} (hl : fs.length = n.ps.length) (h : VH) : F_want_flows [.p (netP n), .p (intsT fs)] h = .ok (.p .non) h := by
  simp_arith [F_want_flows, f_want_flows, are_flows_ok g hl]
theorem is_stand_any_ok {n : Net} (g : GoodN n) {qs hs fs : List Int} (hq : qs.length = n.hs.length) (ag : Agree n.hs hs) (hf : fs.length = n.ps.length) (h : VH) : F_is_stand_any [.p (netP n), .p (intsT qs), .p (.tup [intsT hs, intsT fs])] h = .ok (.p (.bl (onAll hs n.ps fs && keptB n qs fs))) h := by
  have t2 : F_is_tuple [.p (.tup [intsT hs, intsT fs]), .p (.int 2)] h = .ok (.p (.bl true)) h := by rw [tuple_ok]; simp
  have i0 := opIx_tup [intsT hs, intsT fs] 0 _ h (atI_p0 _ _)
  have i1 := opIx_tup [intsT hs, intsT fs] 1 _ h (atI_p1 _ _)
  simp_arith [F_is_stand_any, f_is_stand_any, t2, i0, i1, are_heights_ok g ag, are_flows_ok g hf, is_stand_of_ok g hq (agree_len ag) hf]
theorem is_stand_ok {n : Net} (g : GoodN n) {qs hs fs : List Int} (d : DrawsN n qs) (ag : Agree n.hs hs) (hf : fs.length = n.ps.length) (h : VH) : F_is_stand [.p (netP n), .p (intsT qs), .p (.tup [intsT hs, intsT fs])] h = .ok (.p (.bl (onAll hs n.ps fs && keptB n qs fs))) h := by
  simp_arith [F_is_stand, f_is_stand, want_asked_ok g d, is_stand_any_ok g d.len ag hf]
end K82

/-! F4: energies and worths of nets. -/
namespace K82
open PySem PySem.Spec PyProof.Rows L2 MV TW

def optN : Option Nat → P
  | none => .non
  | some k => .int k
theorem not_let_flow_ok {n : Net} (g : GoodN n) {fs : List Int} (hl : fs.length = n.ps.length) (h : VH) : F_not_let_flow [.p (netP n), .p (intsT fs)] h = .ok (.p (optN (badF n fs))) h := by
  have e2 : itemsP (.p (intsT fs)) = some (fs.map P.int) := rfl
  have key := forL_find (h := h) (g := gtTup 2 (gtsCons (gtName 2) (gtsCons (gtName 3) gtsNil))) (b := b1_not_let_flow) (fun x : Int × Nat => .tup [.int x.2, .int x.1]) (fun x => !letAt n x) (fun x => .p (.int x.2))
    (fun s => ∃ y4 y5, s = [some (.p (netP n)), some (.p (intsT fs)), y4, y5]) fs.zipIdx (fun x hx s hI => by
      obtain ⟨y4, y5, rfl⟩ := hI
      obtain ⟨hx1, hx2⟩ := zipIdx_lt hx
      obtain ⟨p, hp⟩ : ∃ p, n.ps[x.2]? = some p := ⟨n.ps[x.2]'(by omega), by simp⟩
      have i1 := opIx_tupM (f := pipeP) h hp
      have e0 : letAt n x = isLet (flowEnds p.st) x.1 := by unfold letAt; rw [hp]
      have l1 := flow_ends_ok p.st.1 p.st.2 h
      have l2 : F_is_let [.p (ends2 (flowEnds p.st)), .p (.int x.1)] h = .ok (.p (.bl (isLet (flowEnds p.st) x.1))) h := is_let_ok _ _ _ _
      unfold flowEnds at l2
      refine ⟨_, rfl, ?_⟩
      rw [e0]
      unfold flowEnds
      cases hc : isLet (p.st.1, lastM p.st.1 p.st.2) x.1 with
      | true =>
        rw [hc] at l2
        refine .inr ⟨rfl, _, ?_, some (.p (.int x.2)), some (.p (.int x.1)), rfl⟩
        simp_arith [b1_not_let_flow, net_ix2, i1, pipe_ix2, stairP, l1, l2]
      | false =>
        rw [hc] at l2
        refine .inl ⟨rfl, ?_⟩
        simp_arith [b1_not_let_flow, net_ix2, i1, pipe_ix2, stairP, l1, l2]) [some (.p (netP n)), some (.p (intsT fs)), none, none] ⟨_, _, rfl⟩
  rcases key with ⟨x, k1, k2⟩ | ⟨k1, s', k2, y4, y5, rfl⟩
  · have hb : badF n fs = some x.2 := by unfold badF; rw [k1]; rfl
    simp_arith [F_not_let_flow, f_not_let_flow, e2, numP_map]
    rw [k2]
    simp_arith [hb, optN]
  · have hb : badF n fs = none := by unfold badF; rw [k1]; rfl
    simp_arith [F_not_let_flow, f_not_let_flow, e2, numP_map]
    rw [k2]
    simp_arith [hb, optN]
theorem not_let_drop_ok {n : Net} (g : GoodN n) {hs : List Int} (hl : hs.length = n.hs.length) (h : VH) : F_not_let_drop [.p (netP n), .p (intsT hs)] h = .ok (.p (optN (badD n hs))) h := by
  have key := forL_find (h := h) (g := gtTup 2 (gtsCons (gtName 2) (gtsCons (gtTup 3 (gtsCons (gtName 3) (gtsCons (gtName 4) (gtsCons (gtName 5) gtsNil)))) gtsNil))) (b := b1_not_let_drop) (fun x : Pipe × Nat => .tup [.int x.2, pipeP x.1]) (fun x => !isLet (dropE x.1.st) (dropP hs x.1)) (fun x => .p (.int x.2))
    (fun s => ∃ y2 y3 y4 y5, s = [some (.p (netP n)), some (.p (intsT hs)), y2, y3, y4, y5]) n.ps.zipIdx (fun x hx s hI => by
      obtain ⟨y2, y3, y4, y5, rfl⟩ := hI
      obtain ⟨hx1, hx2⟩ := zipIdx_lt hx
      obtain ⟨p, k⟩ := x
      have hm := List.mem_of_getElem? hx2
      have i2 := ints_ix (hs := hs) (i := p.near) (by rw [hl]; exact g.near p hm) h
      have i3 := ints_ix (hs := hs) (i := p.far) (by rw [hl]; exact g.far p hm) h
      have l1 := drop_ends_ok p.st.1 p.st.2 (g.st p hm).ne h
      have l2 : F_is_let [.p (ends2 (dropE p.st)), .p (.int (dropP hs p))] h = .ok (.p (.bl (isLet (dropE p.st) (dropP hs p)))) h := is_let_ok _ _ _ _
      refine ⟨_, rfl, ?_⟩
      unfold dropE dropP at l2 ⊢
      dsimp only
      cases hc : isLet (dropEnds p.st.1 p.st.2) (hgt hs p.near - hgt hs p.far) with
      | true =>
        rw [hc] at l2
        refine .inr ⟨rfl, _, ?_, some (.p (.int k)), some (.p (.int p.near)), some (.p (.int p.far)), some (.p (stairP p.st)), rfl⟩
        simp_arith [b1_not_let_drop, stairP, l1, i2, i3, l2]
      | false =>
        rw [hc] at l2
        refine .inl ⟨rfl, ?_⟩
        simp_arith [b1_not_let_drop, stairP, l1, i2, i3, l2]) [some (.p (netP n)), some (.p (intsT hs)), none, none, none, none] ⟨_, _, _, _, rfl⟩
  rcases key with ⟨x, k1, k2⟩ | ⟨k1, s', k2, y2, y3, y4, y5, rfl⟩
  · have hb : badD n hs = some x.2 := by unfold badD; rw [k1]; rfl
    simp_arith [F_not_let_drop, f_not_let_drop, net_ix2, numP_map]
    rw [k2]
    simp_arith [hb, optN]
  · have hb : badD n hs = none := by unfold badD; rw [k1]; rfl
    simp_arith [F_not_let_drop, f_not_let_drop, net_ix2, numP_map]
    rw [k2]
    simp_arith [hb, optN]
theorem flows_cost_ok {n : Net} (g : GoodN n) {fs : List Int} (hl : fs.length = n.ps.length) (h : VH) : F_flows_cost [.p (netP n), .p (intsT fs)] h = .ok (.p (.int (cost n fs))) h := by
  have l1 := g.pl
  have l2 := g.len2
  have e2 : itemsP (.p (intsT fs)) = some (fs.map P.int) := rfl
  have a1 : ∀ s : Sg, s = [some (.p (netP n)), some (.p (intsT fs)), none, none, none, none, none, none] → fLc (fZip (fCons (f2 opIx (fVar 0) (fC (.int 2))) (fCons (fVar 1) fNil))) (gtTup 2 (gtsCons (gtName 4) (gtsCons (gtName 5) gtsNil))) bYes (fCall F_energy_of [] (fCons (f2 opIx (fVar 4) (fC (.int 2))) (fCons (fVar 5) fNil))) [4, 5] s h = .ok (.p (.lst ((n.ps.zip fs).map fun x => .int (enF x.1.st x.2)))) h := fun s hs => by
    subst hs
    exact fLc_all (l := n.ps.zip fs) (fun x => .tup [pipeP x.1, .int x.2]) _ (by simp_arith [net_ix2, e2, zipP_map]) (fun x hx => ⟨_, rfl, fun hh => by
      have hm := (List.of_mem_zip hx).1
      simp_arith [pipe_ix2, stairP, energy_ok _ _ _ (Good.sm (g.st x.1 hm)), enF]⟩) (le_line (by rw [List.length_zip]; omega))
  have a2 : ∀ (z : D) (s : Sg), s = [some (.p (netP n)), some (.p (intsT fs)), some z, none, none, none, none, none] → fLc (fEnum (fCons (f2 opIx (fVar 0) (fC (.int 1))) fNil)) (gtTup 2 (gtsCons (gtName 6) (gtsCons (gtName 7) gtsNil))) (fT (f2 opNotIs (fVar 7) (fC .non))) (fVar 6) [6, 7] s h = .ok (.p (.lst ((sprN n).map fun i : Nat => .int i))) h := fun z s hs => by
    subst hs
    rw [fLc_typ (l := n.hs.zipIdx) (fun x : Option Int × Nat => .tup [.int x.2, optP x.1]) (fun x => x.1.isSome) (fun x => .int x.2) (by
      simp_arith [net_ix1, numP_map]) (fun x hx => ⟨_, rfl, fun hh => by cases hx1 : x.1 <;> simp_arith [opNotIs, isB_opt, Option.isNone_none, Option.isNone_some, Option.isSome_none, Option.isSome_some], fun _ hh => by simp_arith []⟩) (by rw [List.length_zipIdx]; exact le_line (by omega))]
    unfold sprN
    rw [List.map_map]
    rfl
  have a3 : ∀ (z : D) (s : Sg), s = [some (.p (netP n)), some (.p (intsT fs)), some z, some (.p (.lst ((sprN n).map fun i : Nat => .int i))), none, none, none, none] → fLc (fSeq (fVar 3)) (gtName 6) bYes (f2 opMulI (f2 opIx (f2 opIx (fVar 0) (fC (.int 1))) (fVar 6)) (fCall F_comes_to [] (fCons (fVar 0) (fCons (fVar 1) (fCons (fVar 6) fNil))))) [6] s h = .ok (.p (.lst ((sprN n).map fun i => .int (hOf n i * comesT n.ps fs i)))) h := fun z s hs => by
    subst hs
    exact fLc_all (l := sprN n) (fun i : Nat => .int i) _ (by simp_arith []) (fun i hi => ⟨_, rfl, fun hh => by
      obtain ⟨_, H, hH⟩ := spr_lt hi
      have i1 := opIx_tupM (f := optP) hh hH
      have eH : hOf n i = H := by unfold hOf; rw [hH]; rfl
      have hb := g.hs _ (List.mem_of_getElem? hH) H rfl
      have m := fun j hh => opMul_int (i := H) (j := j) (.inl (isInt64_of (by omega))) hh
      simp_arith [net_ix1, i1, optP, comes_to_ok, m, eH]⟩) (le_line (by have := spr_len n; omega))
  have s1 := eSum_map n.ps fs
  have s2 := spr_sum n (comesT n.ps fs) n.hs 0 rfl
  simp_arith [F_flows_cost, f_flows_cost]
  rw [a1 _ rfl]
  simp_arith [gSum_map, s1]
  rw [a2 _ _ rfl]
  simp_arith []
  rw [a3 _ _ rfl]
  have s2' : ((sprN n).map fun i => hOf n i * comesT n.ps fs i).sum = sprSum (comesT n.ps fs) n.hs 0 := s2
  simp_arith [gSum_map, s2', cost]
theorem want_let_none (h : VH) : F_want_let [.p .non] h = .ok (.p .non) h := by
  have i1 : isB (.p P.non) (.p .non) = some true := rfl
  simp_arith [F_want_let, f_want_let, opNotIs, i1]
def notLet (k : Nat) : Ex := ⟨"NotLet", [("pipe", .int k)]⟩
theorem want_let_some (k : Nat) (h : VH) : F_want_let [.p (.int k)] h = .exc (notLet k) h := by
  simp_arith [F_want_let, f_want_let, opNotIs, isB_int, sRaise_ev]
  rfl
/-- a number, or the first pipe that isn't let -/
def numR (o : Option Nat) (v : Int) (h : VH) : MV.R D := match o with
  | none => .ok (.p (.int v)) h
  | some k => .exc (notLet k) h
theorem flows_energy_ok {n : Net} (g : GoodN n) {fs : List Int} (hl : fs.length = n.ps.length) (h : VH) : F_flows_energy [.p (netP n), .p (intsT fs)] h = numR (badF n fs) (cost n fs) h := by
  cases hb : badF n fs with
  | none =>
    simp_arith [F_flows_energy, f_flows_energy, want_net_ok g, want_flows_ok g hl, not_let_flow_ok g hl, hb, optN, want_let_none, flows_cost_ok g hl, numR]
  | some k =>
    simp_arith [F_flows_energy, f_flows_energy, want_net_ok g, want_flows_ok g hl, not_let_flow_ok g hl, hb, optN, want_let_some]
    rfl
theorem heights_worth_of_ok {n : Net} (g : GoodN n) {qs hs : List Int} (d : DrawsN n qs) (ag : Agree n.hs hs) (hb : badD n hs = none) (h : VH) : F_heights_worth_of [.p (netP n), .p (intsT qs), .p (intsT hs)] h = .ok (.p (.int (value n qs hs))) h := by
  have l1 := g.pl
  have l2 := g.len2
  have hl := agree_len ag
  have ql := d.len
  have e1 : itemsP (.p (intsT qs)) = some (qs.map P.int) := rfl
  have e2 : itemsP (.p (intsT hs)) = some (hs.map P.int) := rfl
  have a1 : ∀ s : Sg, s = [some (.p (netP n)), some (.p (intsT qs)), some (.p (intsT hs)), none, none, none, none] → fLc (fZip (fCons (fVar 1) (fCons (fVar 2) fNil))) (gtTup 2 (gtsCons (gtName 4) (gtsCons (gtName 5) gtsNil))) bYes (f2 opMulI (fVar 4) (fVar 5)) [4, 5] s h = .ok (.p (.lst ((qs.zip hs).map fun x => .int (x.1 * x.2)))) h := fun s hs' => by
    subst hs'
    exact fLc_all (l := qs.zip hs) (fun x => .tup [.int x.1, .int x.2]) _ (by simp_arith [e1, e2, zipP_map]) (fun x hx => ⟨_, rfl, fun hh => by
      have hm := d.num _ (List.of_mem_zip hx).1
      have m := fun j hh => opMul_int (i := x.1) (j := j) (.inl (isInt64_of (by omega))) hh
      simp_arith [m]⟩) (le_line (by rw [List.length_zip]; omega))
  have a2 : ∀ (z : D) (s : Sg), s = [some (.p (netP n)), some (.p (intsT qs)), some (.p (intsT hs)), some z, none, none, none] → fLc (fRange1 (fCons (fB gLen (fCons (f2 opIx (fVar 0) (fC (.int 2))) fNil)) fNil)) (gtName 6) bYes (fCall F_worth_of [] (fCons (f2 opIx (f2 opIx (f2 opIx (fVar 0) (fC (.int 2))) (fVar 6)) (fC (.int 2))) (fCons (fCall F_drop_of [] (fCons (fVar 0) (fCons (fVar 2) (fCons (fVar 6) fNil)))) fNil))) [6] s h =
      .ok (.p (.lst ((List.range n.ps.length).map fun k => .int (woAt n hs k)))) h := fun z s hs' => by
    subst hs'
    exact fLc_all (l := List.range n.ps.length) (fun i : Nat => .int i) _ (fRange1_nat (by simp_arith [net_ix2, gLen_tup]) (by omega)) (fun k hk => ⟨_, rfl, fun hh => by
      obtain ⟨p, hp⟩ : ∃ p, n.ps[k]? = some p := ⟨n.ps[k]'(by simpa using hk), by simp at hk ⊢⟩
      have hm := List.mem_of_getElem? hp
      have i1 := opIx_tupM (f := pipeP) hh hp
      have hlet : isLet (dropEnds p.st.1 p.st.2) (dropP hs p) = true := by
        have hk2 : (p, k) ∈ n.ps.zipIdx := List.mem_zipIdx_iff_getElem?.mpr hp
        unfold badD at hb
        have h1 := List.find?_eq_none.mp (Option.map_eq_none_iff.mp hb) (p, k) hk2
        have h2 : isLet (dropE p.st) (dropP hs p) = true := by simpa using h1
        exact h2
      have eW : woAt n hs k = woD p.st (dropP hs p) := by unfold woAt; rw [hp]
      have w := worth_ok (g.st p hm) (dropP hs p) hlet hh
      simp_arith [net_ix2, i1, pipe_ix2, drop_of_ok g hl hp, stairP, w, eW, woD]⟩) (le_line (by rw [List.length_range]; omega))
  have s1 := dotD_map qs hs
  have s2 := wSum_range n hs
  simp_arith [F_heights_worth_of, f_heights_worth_of]
  rw [a1 _ rfl]
  simp_arith [gSum_map, s1]
  rw [a2 _ _ rfl]
  simp_arith [gSum_map, s2, value]
theorem heights_worth_ok {n : Net} (g : GoodN n) {qs hs : List Int} (d : DrawsN n qs) (ag : Agree n.hs hs) (h : VH) : F_heights_worth [.p (netP n), .p (intsT qs), .p (intsT hs)] h = numR (badD n hs) (value n qs hs) h := by
  have nl := not_let_drop_ok g (agree_len ag) h
  cases hb : badD n hs with
  | none =>
    rw [hb] at nl
    simp_arith [F_heights_worth, f_heights_worth, want_asked_ok g d, want_heights_ok g ag, nl, optN, want_let_none, heights_worth_of_ok g d ag hb, numR]
  | some k =>
    rw [hb] at nl
    simp_arith [F_heights_worth, f_heights_worth, want_asked_ok g d, want_heights_ok g ag, nl, optN, want_let_some]
    rfl
end K82

/-! F5: the law's own sums. -/
namespace K82
open PySem PySem.Spec PyProof.Rows L2 MV TW

theorem law_comes_ok (n : Net) (hn : n.ps.length ≤ 24) (fs : List Int) (i : Nat) (h : VH) : F__law_comes [.p (netP n), .p (intsT fs), .p (.int (i : Nat))] h = .ok (.p (.int (comesT n.ps fs i))) h := by
  have e2 : itemsP (.p (intsT fs)) = some (fs.map P.int) := rfl
  have a1 : ∀ s : Sg, s = [some (.p (netP n)), some (.p (intsT fs)), some (.p (.int (i : Nat))), none, none, none, none] → fLc (fZip (fCons (f2 opIx (fVar 0) (fC (.int 2))) (fCons (fVar 1) fNil))) (gtTup 2 (gtsCons (gtTup 3 (gtsCons (gtName 4) (gtsCons (gtName 5) (gtsCons (gtName 6) gtsNil)))) (gtsCons (gtName 3) gtsNil))) (fT (f2 opEq (fVar 5) (fVar 2))) (fVar 3) [3, 4, 5, 6] s h =
      .ok (.p (.lst (((n.ps.zip fs).filter fun x => decide (x.1.far = i)).map fun x => .int x.2))) h := fun s hs => by
    subst hs
    exact fLc_typ (l := n.ps.zip fs) (fun x => .tup [pipeP x.1, .int x.2]) _ _ (by simp_arith [net_ix2, e2, zipP_map]) (fun x hx => ⟨_, rfl, fun hh => by simp_arith [opEq, eqB_int, castEq], fun _ hh => by simp_arith []⟩) (le_line (by rw [List.length_zip]; omega))
  have a2 : ∀ s : Sg, s = [some (.p (netP n)), some (.p (intsT fs)), some (.p (.int (i : Nat))), none, none, none, none] → fLc (fZip (fCons (f2 opIx (fVar 0) (fC (.int 2))) (fCons (fVar 1) fNil))) (gtTup 2 (gtsCons (gtTup 3 (gtsCons (gtName 4) (gtsCons (gtName 5) (gtsCons (gtName 6) gtsNil)))) (gtsCons (gtName 3) gtsNil))) (fT (f2 opEq (fVar 4) (fVar 2))) (fVar 3) [3, 4, 5, 6] s h =
      .ok (.p (.lst (((n.ps.zip fs).filter fun x => decide (x.1.near = i)).map fun x => .int x.2))) h := fun s hs => by
    subst hs
    exact fLc_typ (l := n.ps.zip fs) (fun x => .tup [pipeP x.1, .int x.2]) _ _ (by simp_arith [net_ix2, e2, zipP_map]) (fun x hx => ⟨_, rfl, fun hh => by simp_arith [opEq, eqB_int, castEq], fun _ hh => by simp_arith []⟩) (le_line (by rw [List.length_zip]; omega))
  simp_arith [F__law_comes, f__law_comes]
  rw [a1 _ rfl]
  simp_arith [gSum_map]
  rw [a2 _ rfl]
  simp_arith [gSum_map, comes_filter]
theorem law_under_step (st : Option D) (lo hi fd : Int) (a : Option Int) (d : Int) (m : Option Int) (hd : -1000 ≤ d ∧ d ≤ 1000) (x7 x8 : Option D) (h : VH) :
    ∃ y7 y8, b1__law_under [st, some (.p (.int lo)), some (.p (.int hi)), some (.p (.int fd)), some (.p (optP a)), some (.p (.int d)), some (.p (optP m)), x7, x8] h =
      .nx [st, some (.p (.int lo)), some (.p (.int hi)), some (.p (.int (fd + d * pos0 (minO hi m - maxO lo a)))), some (.p (optP m)), some (.p (.int d)), some (.p (optP m)), y7, y8] h := by
  refine ⟨some (.p (.int (maxO lo a))), some (.p (.int (minO hi m))), ?_⟩
  have e1 : ∀ s : Sg, s[1]? = some (some (.p (.int lo))) → s[4]? = some (some (.p (optP a))) → fIfE (fOr (fT (f2 opIs (fVar 4) (fC .non))) (fT (f2 opLt (fVar 4) (fVar 1)))) (fVar 1) (fVar 4) s h = .ok (.p (.int (maxO lo a))) h := fun s h1 h4 => by
    cases a with
    | none => simp only [fIfE_ev, fOr_ev, fT_ev, f2_ev, fVar, h1, h4, fC_ev, bind_ok, opIs, isB_opt, Option.isNone_none, asB_bl, cond_true, maxO]
    | some a =>
      by_cases hc : a < lo
      · have : maxO lo (some a) = lo := by unfold maxO; dsimp only; split <;> omega
        simp only [fIfE_ev, fOr_ev, fT_ev, f2_ev, fVar, h1, h4, fC_ev, bind_ok, opIs, isB_opt, Option.isNone_some, asB_bl, cond_true, cond_false, optP, isB_int, opLt_int, decide_eq_true hc, this]
      · have : maxO lo (some a) = a := by unfold maxO; dsimp only; split <;> omega
        simp only [fIfE_ev, fOr_ev, fT_ev, f2_ev, fVar, h1, h4, fC_ev, bind_ok, opIs, isB_opt, Option.isNone_some, asB_bl, cond_true, cond_false, optP, isB_int, opLt_int, decide_eq_false hc, this]
  have e2 : ∀ s : Sg, s[2]? = some (some (.p (.int hi))) → s[6]? = some (some (.p (optP m))) → fIfE (fOr (fT (f2 opIs (fVar 6) (fC .non))) (fT (f2 opGt (fVar 6) (fVar 2)))) (fVar 2) (fVar 6) s h = .ok (.p (.int (minO hi m))) h := fun s h1 h4 => by
    cases m with
    | none => simp only [fIfE_ev, fOr_ev, fT_ev, f2_ev, fVar, h1, h4, fC_ev, bind_ok, opIs, isB_opt, Option.isNone_none, asB_bl, cond_true, minO]
    | some a =>
      by_cases hc : hi < a
      · have : minO hi (some a) = hi := by unfold minO; dsimp only; split <;> omega
        simp only [fIfE_ev, fOr_ev, fT_ev, f2_ev, fVar, h1, h4, fC_ev, bind_ok, opIs, isB_opt, Option.isNone_some, asB_bl, cond_true, cond_false, optP, isB_int, opGt_int, decide_eq_true hc, this]
      · have : minO hi (some a) = a := by unfold minO; dsimp only; split <;> omega
        simp only [fIfE_ev, fOr_ev, fT_ev, f2_ev, fVar, h1, h4, fC_ev, bind_ok, opIs, isB_opt, Option.isNone_some, asB_bl, cond_true, cond_false, optP, isB_int, opGt_int, decide_eq_false hc, this]
  have m1 := fun j hh => opMul_int (i := d) (j := j) (.inl (isInt64_of (by omega))) hh
  unfold b1__law_under
  rw [sSeq_ev]
  unfold sPar
  rw [fCons_ev, e1 _ rfl rfl, bind_ok, fCons_ev, e2 _ rfl rfl]
  by_cases hc : maxO lo a < minO hi m
  · have : pos0 (minO hi m - maxO lo a) = minO hi m - maxO lo a := pos0_pos (by omega)
    simp_arith [decide_eq_true hc, m1, this]
  · have : pos0 (minO hi m - maxO lo a) = 0 := pos0_nonpos (by omega)
    simp_arith [decide_eq_false hc, m1, this, Int.mul_zero]
theorem law_under_ok (a : Option Int) (l : List Stp) (lo hi : Int) (hs : Sm l) (h : VH) : F__law_under [.p (stP a l), .p (.int lo), .p (.int hi)] h = .ok (.p (.int (TW.under lo hi a l))) h := by
  obtain ⟨s', h', e, y5, y6, y7, y8, rfl, rfl⟩ := forL_acc (g := gtTup 2 (gtsCons (gtName 5) (gtsCons (gtName 6) gtsNil))) (b := b1__law_under) stepP (fun (c : Int × Option Int) x => (c.1 + x.1 * pos0 (minO hi x.2 - maxO lo c.2), x.2))
    (fun c s hh => ∃ y5 y6 y7 y8, s = [some (.p (stP a l)), some (.p (.int lo)), some (.p (.int hi)), some (.p (.int c.1)), some (.p (optP c.2)), y5, y6, y7, y8] ∧ hh = h) l (fun c x hx s hh hI => by
      obtain ⟨y5, y6, y7, y8, rfl, rfl⟩ := hI
      obtain ⟨z7, z8, q⟩ := law_under_step (some (.p (stP a l))) lo hi c.1 c.2 x.1 x.2 (hs x hx) y7 y8 hh
      exact ⟨_, rfl, _, _, q, _, _, _, _, rfl, rfl⟩) (0, a) [some (.p (stP a l)), some (.p (.int lo)), some (.p (.int hi)), some (.p (.int 0)), some (.p (optP a)), none, none, none, none] h ⟨_, _, _, _, rfl, rfl⟩
  rw [under_fold] at e
  rw [Int.zero_add] at e
  simp_arith [F__law_under, f__law_under, st_ix1, st_ix2, stepsP]
  rw [e]
  simp_arith []
theorem law_energy_ok (a : Option Int) (l : List Stp) (f : Int) (hs : Sm l) (h : VH) : F__law_energy [.p (stP a l), .p (.int f)] h = .ok (.p (.int (energy a l f))) h := by
  have hn : F__law_near_nought [.p (ends2 (a, lastM a l))] h = .ok (.p (.int (begin' a l))) h := near_nought_ok _ _ _
  by_cases hc : begin' a l ≤ f
  · simp_arith [F__law_energy, f__law_energy, law_flow_ends_ok, hn, decide_eq_true hc, law_under_ok _ _ _ _ hs, energy, hc]
  · simp_arith [F__law_energy, f__law_energy, law_flow_ends_ok, hn, decide_eq_false hc, law_under_ok _ _ _ _ hs, energy, hc, Int.zero_sub, if_false]
theorem law_worth_ok {a : Option Int} {l : List Stp} (g : Good a l) (d : Int) (hc : isLet (dropEnds a l) d = true) (h : VH) : F__law_worth [.p (stP a l), .p (.int d)] h = .ok (.p (.int (worth a l d))) h := by
  have h1 := flows_at_ok a l d g.ne h
  rw [hc] at h1
  simp only [if_true] at h1
  have hn : F__law_near_nought [.p (ends2 (goF d a l))] h = .ok (.p (.int (starF a l d))) h := near_nought_ok _ _ _
  have hb := star_bd g d
  have m1 := fun i hh => opMul_int (i := i) (j := starF a l d) (.inr (isInt64_of (by omega))) hh
  simp_arith [F__law_worth, f__law_worth, h1, hn, m1, law_energy_ok _ _ _ g.sm, worth]
theorem law_cost_ok {n : Net} (g : GoodN n) {fs : List Int} (hl : fs.length = n.ps.length) (h : VH) : F__law_cost [.p (netP n), .p (intsT fs)] h = .ok (.p (.int (cost n fs))) h := by
  have l1 := g.pl
  have l2 := g.len2
  have e2 : itemsP (.p (intsT fs)) = some (fs.map P.int) := rfl
  have a1 : ∀ s : Sg, s = [some (.p (netP n)), some (.p (intsT fs)), none, none, none, none, none, none, none] → fLc (fZip (fCons (f2 opIx (fVar 0) (fC (.int 2))) (fCons (fVar 1) fNil))) (gtTup 2 (gtsCons (gtTup 3 (gtsCons (gtName 6) (gtsCons (gtName 7) (gtsCons (gtName 8) gtsNil)))) (gtsCons (gtName 5) gtsNil))) bYes (fCall F__law_energy [] (fCons (fVar 8) (fCons (fVar 5) fNil))) [5, 6, 7, 8] s h = .ok (.p (.lst ((n.ps.zip fs).map fun x => .int (enF x.1.st x.2)))) h := fun s hs => by
    subst hs
    exact fLc_all (l := n.ps.zip fs) (fun x => .tup [pipeP x.1, .int x.2]) _ (by simp_arith [net_ix2, e2, zipP_map]) (fun x hx => ⟨_, rfl, fun hh => by
      have hm := (List.of_mem_zip hx).1
      simp_arith [stairP, law_energy_ok _ _ _ (Good.sm (g.st x.1 hm)), enF]⟩) (le_line (by rw [List.length_zip]; omega))
  obtain ⟨s', h', e, y3, y4, rfl, rfl⟩ := forL_acc (g := gtTup 2 (gtsCons (gtName 3) (gtsCons (gtName 4) gtsNil))) (b := b1__law_cost) (fun x : Option Int × Nat => .tup [.int x.2, optP x.1]) (fun a x => a + sprT (comesT n.ps fs) x)
    (fun a s hh => ∃ y3 y4, s = [some (.p (netP n)), some (.p (intsT fs)), some (.p (.int a)), y3, y4, none, none, none, none] ∧ hh = h) n.hs.zipIdx (fun a x hx s hh hI => by
      obtain ⟨y3, y4, rfl, rfl⟩ := hI
      obtain ⟨o, k⟩ := x
      obtain ⟨_, hx2⟩ := zipIdx_lt hx
      refine ⟨_, rfl, _, _, ?_, some (.p (.int k)), some (.p (optP o)), rfl, rfl⟩
      cases o with
      | none => simp_arith [b1__law_cost, opIs, isB_opt, Option.isNone_none, sprT]
      | some H =>
        have hb := g.hs _ (List.mem_of_getElem? hx2) H rfl
        have m := fun j hh => opMul_int (i := H) (j := j) (.inl (isInt64_of (by omega))) hh
        simp_arith [b1__law_cost, opIs, isB_opt, Option.isNone_some, optP, isB_int, law_comes_ok n l1, m, sprT]) (eSum n.ps fs) [some (.p (netP n)), some (.p (intsT fs)), some (.p (.int (eSum n.ps fs))), none, none, none, none, none, none] h ⟨_, _, rfl, rfl⟩
  have s1 := eSum_map n.ps fs
  rw [spr_fold] at e
  simp_arith [F__law_cost, f__law_cost]
  rw [a1 _ rfl]
  simp_arith [gSum_map, s1, net_ix1, numP_map]
  rw [e]
  simp_arith [cost]
theorem law_value_ok {n : Net} (g : GoodN n) {qs hs : List Int} (d : DrawsN n qs) (hl : hs.length = n.hs.length) (hb : badD n hs = none) (h : VH) : F__law_value [.p (netP n), .p (intsT qs), .p (intsT hs)] h = .ok (.p (.int (value n qs hs))) h := by
  have l1 := g.pl
  have l2 := g.len2
  have ql := d.len
  have e1 : itemsP (.p (intsT qs)) = some (qs.map P.int) := rfl
  have e2 : itemsP (.p (intsT hs)) = some (hs.map P.int) := rfl
  have a1 : ∀ s : Sg, s = [some (.p (netP n)), some (.p (intsT qs)), some (.p (intsT hs)), none, none, none, none, none, none] → fLc (fZip (fCons (fVar 1) (fCons (fVar 2) fNil))) (gtTup 2 (gtsCons (gtName 4) (gtsCons (gtName 5) gtsNil))) bYes (f2 opMulI (fVar 4) (fVar 5)) [4, 5] s h = .ok (.p (.lst ((qs.zip hs).map fun x => .int (x.1 * x.2)))) h := fun s hs' => by
    subst hs'
    exact fLc_all (l := qs.zip hs) (fun x => .tup [.int x.1, .int x.2]) _ (by simp_arith [e1, e2, zipP_map]) (fun x hx => ⟨_, rfl, fun hh => by
      have hm := d.num _ (List.of_mem_zip hx).1
      have m := fun j hh => opMul_int (i := x.1) (j := j) (.inl (isInt64_of (by omega))) hh
      simp_arith [m]⟩) (le_line (by rw [List.length_zip]; omega))
  have a2 : ∀ (z : D) (s : Sg), s = [some (.p (netP n)), some (.p (intsT qs)), some (.p (intsT hs)), some z, none, none, none, none, none] → fLc (fSeq (f2 opIx (fVar 0) (fC (.int 2)))) (gtTup 3 (gtsCons (gtName 6) (gtsCons (gtName 7) (gtsCons (gtName 8) gtsNil)))) bYes (fCall F__law_worth [] (fCons (fVar 8) (fCons (f2 opSub (f2 opIx (fVar 2) (fVar 6)) (f2 opIx (fVar 2) (fVar 7))) fNil))) [6, 7, 8] s h =
      .ok (.p (.lst (n.ps.map fun p => .int (woD p.st (dropP hs p))))) h := fun z s hs' => by
    subst hs'
    exact fLc_all (l := n.ps) pipeP _ (by simp_arith [net_ix2]) (fun p hm => ⟨_, rfl, fun hh => by
      have i2 := ints_ix (hs := hs) (i := p.near) (by rw [hl]; exact g.near p hm) hh
      have i3 := ints_ix (hs := hs) (i := p.far) (by rw [hl]; exact g.far p hm) hh
      have hlet : isLet (dropEnds p.st.1 p.st.2) (dropP hs p) = true := by
        obtain ⟨k, hk⟩ := List.mem_iff_getElem?.mp hm
        unfold badD at hb
        have h1 := List.find?_eq_none.mp (Option.map_eq_none_iff.mp hb) (p, k) (List.mem_zipIdx_iff_getElem?.mpr hk)
        have h2 : isLet (dropE p.st) (dropP hs p) = true := by simpa using h1
        exact h2
      have w := law_worth_ok (g.st p hm) (dropP hs p) hlet hh
      unfold dropP at w
      simp_arith [i2, i3, stairP, w, woD, dropP]⟩) (le_line (by omega))
  have s1 := dotD_map qs hs
  have s2 := wSum_map hs n.ps
  simp_arith [F__law_value, f__law_value]
  rw [a1 _ rfl]
  simp_arith [gSum_map, s1]
  rw [a2 _ _ rfl]
  simp_arith [gSum_map, s2, value, Int.zero_sub]
end K82

/-! G1: drawing. -/
namespace K82
open PySem PySem.Spec PyProof.Rows L2 MV TW

/-! ### drawing -/
def Pot (n : Nat) (h : VH) : Prop := ∃ p q : Int, h[n]? = some (.lst [.int p, .int q]) ∧ 0 ≤ p ∧ 0 ≤ q ∧ q < 4294967296
/-- only the pot is another one -/
def PotOnly (n : Nat) (h h' : VH) : Prop := h'.length = h.length ∧ ∀ i, i ≠ n → h'[i]? = h[i]?
theorem PotOnly.refl (n : Nat) (h : VH) : PotOnly n h h := ⟨rfl, fun _ _ => rfl⟩
theorem PotOnly.trans {n : Nat} {h h' h'' : VH} (a : PotOnly n h h') (b : PotOnly n h' h'') : PotOnly n h h'' := ⟨b.1.trans a.1, fun i hi => (b.2 i hi).trans (a.2 i hi)⟩
theorem potOnly_set (n : Nat) (h : VH) (o : VO) : PotOnly n h (h.set n o) := ⟨by simp, fun i hi => by rw [List.getElem?_set_ne (Ne.symm hi)]⟩
theorem draw_ok {n : Nat} {h : VH} (hp : Pot n h) (k : Int) (hk : 0 < k ∧ k < 1000) : ∃ d h', F__law_draw [.ob n, .p (.int k)] h = .ok (.p (.int d)) h' ∧ 0 ≤ d ∧ d < k ∧ Pot n h' ∧ PotOnly n h h' := by
  obtain ⟨p, q, e, h1, h2, h3⟩ := hp
  have hn : n < h.length := (List.getElem?_eq_some_iff.mp e).1
  have ix0 : ∀ (x y : Int) (hh : VH), hh[n]? = some (.lst [.int x, .int y]) → opIx (.ob n) (.p (.int 0)) hh = .ok (.p (.int x)) hh := fun x y hh hx => by
    simp [opIx, dctD, hx, opIxS, lstD, atI, ixN]
  have ix1 : ∀ (x y : Int) (hh : VH), hh[n]? = some (.lst [.int x, .int y]) → opIx (.ob n) (.p (.int 1)) hh = .ok (.p (.int y)) hh := fun x y hh hx => by
    simp [opIx, dctD, hx, opIxS, lstD, atI, ixN]
  have put0 : ∀ (z : Int), putD (.ob n) (.p (.int 0)) (.p (.int z)) h = some (h.set n (.lst [.int z, .int q])) := fun z => by
    simp [putD, e, ixN]
  have put1 : ∀ (z : Int), putD (.ob n) (.p (.int 1)) (.p (.int z)) h = some (h.set n (.lst [.int p, .int z])) := fun z => by
    simp [putD, e, ixN]
  have sel : ∀ o : VO, (h.set n o)[n]? = some o := fun o => by simp [hn]
  have tk : ∀ o : VO, (h.set n o).take h.length = h.set n o := fun o => List.take_of_length_le (by simp)
  by_cases hc : 0 < p
  · refine ⟨p % k, h.set n (.lst [.int (p / k), .int q]), ?_, Int.emod_nonneg _ (by omega), Int.emod_lt_of_pos _ (by omega), ⟨p / k, q, sel _, Int.ediv_nonneg h1 (by omega), h2, h3⟩, potOnly_set _ _ _⟩
    have hj : (decide (0 < k) && decide (k < 1073741824)) = true := by simp; omega
    simp only [F__law_draw, f__law_draw, runF, List.length_cons, List.length_nil, if_true, sSeq_ev, sIf_ev, fT_ev, f2_ev, fVar, fC_ev, List.map_cons, List.map_nil, List.cons_append, List.nil_append, List.replicate, List.getElem?_cons_zero, List.getElem?_cons_succ, bind_ok, ix0 _ _ _ e, opGt, opInt0, asB_bl, thenS_ok, decide_eq_true hc, cond_true, sAsgH, fB_ev, fCons_ev, fNil_ev, gDivmod, b2, hj, ghTup, ghsCons, ghSub, put0, ghName, ghsNil, List.set_cons_succ, List.set_cons_zero, seq_nx, sRet_ev, seq_rt]
    simp [finF, tk]
  · have hc' : decide (0 < p) = false := decide_eq_false hc
    have i1 : (isInt64 q || isInt64 40692) = true := by simp [isInt64]
    have b0 : 0 ≤ (q * 40692 + 8191) % 2147483587 := Int.emod_nonneg _ (by decide)
    have b1' : (q * 40692 + 8191) % 2147483587 < 2147483587 := Int.emod_lt_of_pos _ (by decide)
    have i2 : (isInt64 ((q * 40692 + 8191) % 2147483587) || isInt64 ((q * 40692 + 8191) % 2147483587)) = true := by simp [isInt64]; omega
    have m1 : decide ((0 : Int) < 2147483587) = true := by decide
    have m2 : decide ((0 : Int) < 2147483549) = true := by decide
    have m3 : (decide ((0 : Int) < 47) && decide ((47 : Int) < 1073741824)) = true := by decide
    have m4 : decide (0 < k) = true := decide_eq_true hk.1
    refine ⟨((q * 40692 + 8191) % 2147483587 * ((q * 40692 + 8191) % 2147483587)) % 2147483549 / 47 % k, h.set n (.lst [.int p, .int ((q * 40692 + 8191) % 2147483587)]), ?_, Int.emod_nonneg _ (by omega), Int.emod_lt_of_pos _ hk.1, ⟨p, _, sel _, h1, b0, by omega⟩, potOnly_set _ _ _⟩
    simp only [F__law_draw, f__law_draw, runF, List.length_cons, List.length_nil, if_true, sSeq_ev, sIf_ev, fT_ev, f2_ev, fVar, fC_ev, List.map_cons, List.map_nil, List.cons_append, List.nil_append, List.replicate, List.getElem?_cons_zero, List.getElem?_cons_succ, bind_ok, ix0 _ _ _ e, ix1 _ _ _ e, opGt, opInt0, asB_bl, thenS_ok, hc', cond_false, sNext_ev, seq_nx, sAsgH, fB_ev, fCons_ev, fNil_ev, gInt, b1, opAdd, opMulI, opInt, i1, opMod, m1, ghSub, put1, sRet_ev, ix1 _ _ _ (sel _), i2, m2, opFdiv, m3, m4]
    simp [finF, tk]

theorem cutP_map (ns : List Int) (i j : Option Int) : ∃ ms : List Int, cutP (ns.map P.int) i j = ms.map P.int := by
  refine ⟨(ns.drop (HT.sIx ns.length 0 i)).take (HT.sIx ns.length ns.length j - HT.sIx ns.length 0 i), ?_⟩
  unfold cutP
  rw [List.length_map, List.map_take, List.map_drop]
theorem pot_ok (ns : List Int) (k : Int) (hk : k = 0 ∨ k = 1) (h : VH) : ∃ p q : Int, F__law_pot [scriptD ns, .p (.int k)] h = .ok (.ob h.length) (h ++ [.lst [.int p, .int q]]) ∧ 0 ≤ p ∧ 0 ≤ q ∧ q < 4294967296 := by
  have hlen : gLen [scriptD ns] h = .ok (.p (.int ns.length)) h := by simp [gLen, b1, scriptD, lstD]
  obtain ⟨c, hc⟩ : ∃ c : Int, fIfE (fT (f2 opLt (fVar 1) (fB gLen (fCons (fVar 0) fNil)))) (fB gAbs (fCons (f2 opIx (fVar 0) (fVar 1)) fNil)) (f2 opAdd (f2 opAdd (f2 opMulI (fC (.int 1979)) (fVar 1)) (fC (.int 1237))) (f2 opMod (fB gInt (fCons (fB gSum (fCons (fSl (fVar 0) oNone (oSome (fC (.int 1)))) fNil)) fNil)) (fC (.int 1000003)))) [some (scriptD ns), some (.p (.int k)), none] h = .ok (.p (.int c)) h := by
    by_cases hlt : k < ns.length
    · obtain ⟨x, hx⟩ : ∃ x, ns[k.toNat]? = some x := ⟨ns[k.toNat]'(by omega), by simp⟩
      have e : atI (ns.map P.int) k = some (.int x) := by
        unfold atI ixN
        rw [if_pos (by omega), if_pos (by simpa using hlt)]
        simp [hx]
      have hix : opIx (scriptD ns) (.p (.int k)) h = .ok (.p (.int x)) h := by simp [opIx, scriptD, dctD, opIxS, lstD, e]
      refine ⟨if x < 0 then -x else x, ?_⟩
      simp only [fIfE_ev, fT_ev, f2_ev, fVar, List.getElem?_cons_zero, List.getElem?_cons_succ, fB_ev, fCons_ev, fNil_ev, bind_ok, hlen, opLt, opInt0, decide_eq_true hlt, asB_bl, cond_true, hix, gAbs, b1]
    · obtain ⟨ms, hms⟩ := cutP_map ns none (some 1)
      have i1 : (isInt64 1979 || isInt64 k) = true := by simp [isInt64]
      have m1 : decide ((0 : Int) < 1000003) = true := by decide
      refine ⟨1979 * k + 1237 + ms.sum % 1000003, ?_⟩
      have hsl : fSl (fVar 0) oNone (oSome (fC (.int 1))) [some (scriptD ns), some (.p (.int k)), none] h = .ok (.p (.lst (ms.map P.int))) h := by
        simp only [fSl, fVar, List.getElem?_cons_zero, bind_ok, oNone, oSome, fC_ev, scriptD, lstD, hms]
      simp only [fIfE_ev, fT_ev, f2_ev, fVar, List.getElem?_cons_zero, List.getElem?_cons_succ, fB_ev, fCons_ev, fNil_ev, bind_ok, hlen, opLt, opInt0, decide_eq_false hlt, asB_bl, cond_false, fC_ev, opMulI, opInt, i1, if_true, opAdd]
      rw [hsl]
      simp only [bind_ok, gSum, b1, lstD, intsP_map, gInt, opMod, opInt, m1, if_true]
  have pw : (decide ((0 : Int) ≤ 18) && (decide ((18 : Int) ≤ 1000000) && decide ((10 : Int).natAbs < 2 ^ 64))) = true := by decide
  have m1 : decide ((0 : Int) < 2147483549) = true := by decide
  have m2 : decide ((0 : Int) < 2147483563) = true := by decide
  have i1 : ∀ x : Int, (isInt64 x || isInt64 40237) = true := fun x => by simp [isInt64]
  have i2 : ∀ x : Int, (isInt64 8191 || isInt64 x) = true := fun x => by simp [isInt64]
  refine ⟨if c - (10 : Int) ^ (18 : Int).toNat > 0 then c - (10 : Int) ^ (18 : Int).toNat else 0, (c % 2147483549 * 40237 + 8191 * k + 67) % 2147483563 + 1, ?_, ?_, ?_, ?_⟩
  · simp only [F__law_pot, f__law_pot, runF, List.length_cons, List.length_nil, if_true, sSeq_ev, sAsgN_ev, List.map_cons, List.map_nil, List.cons_append, List.nil_append, List.replicate]
    rw [hc]
    simp only [thenS_ok, List.set_cons_succ, List.set_cons_zero, seq_nx, sRet_ev, fLstM, fCons_ev, fNil_ev, fB_ev, f2_ev, fC_ev, fVar, List.getElem?_cons_zero, List.getElem?_cons_succ, bind_ok, opPow, opInt, pw, if_true, opSub, opInt0, gMax, gInt, b1, opMod, m1, opMulI, i1, i2, opAdd, m2, allP, List.length_cons, List.length_nil, sizeLine]
    simp [finF]
  · split <;> omega
  · have := Int.emod_nonneg (c % 2147483549 * 40237 + 8191 * k + 67) (show (2147483563 : Int) ≠ 0 by decide); omega
  · have := Int.emod_lt_of_pos (c % 2147483549 * 40237 + 8191 * k + 67) (show (0 : Int) < 2147483563 by decide); omega
/-! ### drawn stairs are good -/
theorem wf_weak : ∀ (l : List Stp) (pd pm pd' pm' : Int), pd' ≤ pd → pm' ≤ pm → Wf pd pm l → Wf pd' pm' l
  | [], _, _, _, _, _, _, _ => trivial
  | [(d, none)], pd, pm, pd', pm', h1, h2, w => by
    have w' : pd < d ∧ d ≤ 999 := w
    exact ⟨by omega, w'.2⟩
  | (d, none) :: _ :: _, _, _, _, _, _, _, w => by simp only [Wf] at w
  | (d, some m) :: r, pd, pm, pd', pm', h1, h2, w => by
    simp only [Wf] at w ⊢
    exact ⟨by omega, w.2.1, by omega, w.2.2.2⟩
inductive Up (pd pm : Int) : List Stp → Int → Int → Prop
  | nil : Up pd pm [] pd pm
  | snoc {st : List Stp} {d m d' m' : Int} : Up pd pm st d m → d < d' → m < m' → Up pd pm (st ++ [(d', some m')]) d' m'
theorem Up.wf {pd pm : Int} {st : List Stp} {d m : Int} (u : Up pd pm st d m) (hd : d ≤ 999) (hm : m ≤ 999) : ∀ rest, Wf d m rest → Wf pd pm (st ++ rest) := by
  induction u with
  | nil => exact fun rest w => w
  | snoc u h1 h2 ih =>
    intro rest w
    rw [List.append_assoc]
    exact ih (by omega) (by omega) _ (by simp only [List.cons_append, List.nil_append, Wf]; exact ⟨h1, hd, h2, hm, w⟩)
theorem Up.last {pd pm : Int} {st : List Stp} {d m : Int} (u : Up pd pm st d m) (hne : st ≠ []) : ∃ st0 d0 m0, st = st0 ++ [(d, some m)] ∧ Up pd pm st0 d0 m0 ∧ d0 < d ∧ m0 < m := by
  cases u with
  | nil => exact absurd rfl hne
  | snoc u h1 h2 => exact ⟨_, _, _, rfl, u, h1, h2⟩
theorem good1 (r : Int) (hr : -10 ≤ r ∧ r ≤ 10) : Good (some 0) [(r, some 3)] := ⟨fun z => (by cases z), fun i hi => (by cases hi; omega), by simp [Wf]; omega, by simp⟩
theorem good2 : Good (some 0) [] := ⟨fun z => (by cases z), fun i hi => (by cases hi; omega), by simp [Wf], by simp⟩
theorem good3 (m r : Int) (hm : 0 ≤ m ∧ m ≤ 5) (hr : -10 ≤ r ∧ r ≤ 10) : Good (some m) [(r, none)] := ⟨fun z => (by cases z), fun i hi => (by cases hi; omega), by simp [Wf]; omega, by simp⟩
theorem good4 (r : Int) (hr : -10 ≤ r ∧ r ≤ 10) : Good none [(r, none)] := ⟨fun _ => (by simp), fun i hi => (by cases hi), by simp [Wf]; omega, by simp⟩
theorem good5 (a : Option Int) (ms dr d m : Int) (st : List Stp) (ha : a = none ∨ a = some ms) (hms : -4 ≤ ms ∧ ms ≤ 0) (hdr : -6 ≤ dr) (u : Up dr ms st d m) (hd : d ≤ 999) (hm : m ≤ 999) (hne : st ≠ []) (hl : st.length ≤ 5) : Good a st :=
  ⟨fun _ => hne, fun i hi => (by rcases ha with e | e <;> rw [e] at hi <;> cases hi; omega), (by
    have := u.wf hd hm [] trivial
    rw [List.append_nil] at this
    rcases ha with e | e <;> subst e
    · exact wf_weak _ _ _ _ _ (by omega) (by simp; omega) this
    · exact wf_weak _ _ _ _ _ (by omega) (by simp) this), by omega⟩
theorem good6 (a : Option Int) (ms dr d m d' : Int) (st : List Stp) (ha : a = none ∨ a = some ms) (hms : -4 ≤ ms ∧ ms ≤ 0) (hdr : -6 ≤ dr) (u : Up dr ms st d m) (hd : d < d') (hd' : d' ≤ 999) (hm : m ≤ 999) (hl : st.length ≤ 4) : Good a (st ++ [(d', none)]) :=
  ⟨fun _ => (by simp), fun i hi => (by rcases ha with e | e <;> rw [e] at hi <;> cases hi; omega), (by
    have := u.wf (by omega) hm [(d', none)] ⟨hd, hd'⟩
    rcases ha with e | e <;> subst e
    · exact wf_weak _ _ _ _ _ (by omega) (by simp; omega) this
    · exact wf_weak _ _ _ _ _ (by omega) (by simp) this), by simp; omega⟩

/-- drawn stairs are good, with ends near 0 -/
def GoodSm (a : Option Int) (l : List Stp) : Prop := Good a l ∧ Small (a, l)
theorem Up.ge {pd pm : Int} {st : List Stp} {d m : Int} (u : Up pd pm st d m) : pm ≤ m := by
  induction u with
  | nil => exact Int.le_refl _
  | snoc u h1 h2 ih => omega
theorem gs1 (r : Int) (hr : -10 ≤ r ∧ r ≤ 10) : GoodSm (some 0) [(r, some 3)] := ⟨good1 r hr, ⟨fun i h => (by cases h; omega), fun i h => (by simp [lastM] at h; omega)⟩⟩
theorem gs2 : GoodSm (some 0) [] := ⟨good2, ⟨fun i h => (by cases h; omega), fun i h => (by simp [lastM] at h; omega)⟩⟩
theorem gs3 (m r : Int) (hm : 0 ≤ m ∧ m ≤ 5) (hr : -10 ≤ r ∧ r ≤ 10) : GoodSm (some m) [(r, none)] := ⟨good3 m r hm hr, ⟨fun i h => (by cases h; omega), fun i h => (by simp [lastM] at h)⟩⟩
theorem gs4 (r : Int) (hr : -10 ≤ r ∧ r ≤ 10) : GoodSm none [(r, none)] := ⟨good4 r hr, ⟨fun i h => (by cases h), fun i h => (by simp [lastM] at h)⟩⟩
theorem gs5 (a : Option Int) (ms dr d m : Int) (st : List Stp) (ha : a = none ∨ a = some ms) (hms : -4 ≤ ms ∧ ms ≤ 0) (hdr : -6 ≤ dr) (u : Up dr ms st d m) (hd : d ≤ 999) (hm : m ≤ 40) (hne : st ≠ []) (hl : st.length ≤ 5) : GoodSm a st :=
  ⟨good5 a ms dr d m st ha hms hdr u hd (by omega) hne hl, ⟨fun i hi => (by rcases ha with e | e <;> rw [e] at hi <;> cases hi; omega), fun i hi => by
    have hge := u.ge
    obtain ⟨st0, d0, m0, e, _⟩ := u.last hne
    subst e
    simp [lastM] at hi
    omega⟩⟩
theorem gs6 (a : Option Int) (ms dr d m d' : Int) (st : List Stp) (ha : a = none ∨ a = some ms) (hms : -4 ≤ ms ∧ ms ≤ 0) (hdr : -6 ≤ dr) (u : Up dr ms st d m) (hd : d < d') (hd' : d' ≤ 999) (hm : m ≤ 999) (hl : st.length ≤ 4) : GoodSm a (st ++ [(d', none)]) :=
  ⟨good6 a ms dr d m d' st ha hms hdr u hd hd' hm hl, ⟨fun i hi => (by rcases ha with e | e <;> rw [e] at hi <;> cases hi; omega), fun i hi => (by simp [lastM] at hi)⟩⟩
section
variable {n : Nat}
/-- the loop of a drawn stair -/
def IS (n m : Nat) (h0 : VH) (a : Option Int) (dr ms : Int) (w : Int) (x2 : Option D) (i : Nat) (s : Sg) (hh : VH) : Prop := ∃ (d q : Int) (st : List Stp) (x7 : Option D), s = [some (.ob n), some (.p (.int w)), x2, some (.p (.int d)), some (.p (.int q)), some (.p (optP a)), some (.ob m), x7] ∧
  Pot n hh ∧ hh.length = m + 1 ∧ hh[m]? = some (.lst (stepsP st)) ∧ (∀ j, j < m → j ≠ n → hh[j]? = h0[j]?) ∧ Up dr ms st d q ∧ d ≤ dr + 3 * i ∧ q ≤ ms + 3 * i ∧ st.length = i
theorem stair_step (m : Nat) (hnm : n < m) (h0 : VH) (a : Option Int) (dr ms w : Int) (x2 : Option D) (i : Nat) (hi : i < 10) (x : P) (s : Sg) (hh : VH) (hI : IS n m h0 a dr ms w x2 i s hh) :
    ∃ s1, gtName 7 (.p x) s = some s1 ∧ ∃ s2 h2, b1__law_stair s1 hh = .nx s2 h2 ∧ IS n m h0 a dr ms w x2 (i + 1) s2 h2 := by
  obtain ⟨d, q, st, x7, rfl, hp, hl, hm, ho, hu, hd, hq, hs⟩ := hI
  obtain ⟨e1, h1, q1, q2, q3, p1, o1⟩ := draw_ok hp 3 (by decide)
  obtain ⟨e2, h2, r1, r2, r3, p2, o2⟩ := draw_ok p1 3 (by decide)
  have hm2 : h2[m]? = some (.lst (stepsP st)) := by rw [o2.2 m (by omega), o1.2 m (by omega)]; exact hm
  have hl2 : h2.length = m + 1 := by rw [o2.1, o1.1]; exact hl
  have hsz : (stepsP st).length < sizeLine := by
    have e16 : sizeLine = 16777216 := sizeLine_eq
    simp [stepsP]; omega
  refine ⟨_, rfl, _, h2.set m (.lst (stepsP (st ++ [(d + 1 + e1, some (q + 1 + e2))]))), ?_, d + 1 + e1, q + 1 + e2, st ++ [(d + 1 + e1, some (q + 1 + e2))], some (.p x), rfl, ?_, by simp [hl2], by simp [hl2], fun j hj hjn => ?_, .snoc hu (by omega) (by omega), by omega, by omega, by simp [hs]⟩
  · have es : stepsP (st ++ [(d + 1 + e1, some (q + 1 + e2))]) = stepsP st ++ [.tup [.int (d + 1 + e1), .int (q + 1 + e2)]] := by simp [stepsP, stepP, optP]
    rw [es]
    simp only [b1__law_stair, gtName, List.set_cons_succ, List.set_cons_zero, sSeq_ev, sPar, fCons_ev, f2_ev, fVar, List.getElem?_cons_zero, List.getElem?_cons_succ, fC_ev, bind_ok, opAdd, fCall_ev, fNil_ev, q1, r1, thenS_ok, seq_nx, sDrop_ev, fML, lstD, hm2, fTup, allP, List.length_cons, List.length_nil, Nat.zero_add, Nat.reduceAdd, show (2 : Nat) ≤ sizeLine from by decide, if_true, mAppend, hsz]
  · obtain ⟨u, v, g1, g2⟩ := p2
    exact ⟨u, v, by rw [List.getElem?_set_ne (by omega)]; exact g1, g2⟩
  · rw [List.getElem?_set_ne (by omega), o2.2 j hjn, o1.2 j hjn]
    exact ho j hj hjn
theorem pick_ok {h : VH} (hp : Pot n h) (x0 x1 x2 x3 x4 : P) : ∃ x h', F__law_pick [.ob n, .p (.lst [x0, x1, x2, x3, x4])] h = .ok (.p x) h' ∧ (x = x0 ∨ x = x1 ∨ x = x2 ∨ x = x3 ∨ x = x4) ∧ Pot n h' ∧ PotOnly n h h' := by
  obtain ⟨e1, h1, q1, q2, q3, p1, o1⟩ := draw_ok hp 5 (by decide)
  have hl : gLen [.p (.lst [x0, x1, x2, x3, x4])] h = .ok (.p (.int 5)) h := by simp [gLen, b1, lstD]
  have tk : h1.take h.length = h1 := List.take_of_length_le (by rw [o1.1]; exact Nat.le_refl _)
  obtain ⟨x, hx, hx2⟩ : ∃ x, atI [x0, x1, x2, x3, x4] e1 = some x ∧ (x = x0 ∨ x = x1 ∨ x = x2 ∨ x = x3 ∨ x = x4) := by
    have : e1 = 0 ∨ e1 = 1 ∨ e1 = 2 ∨ e1 = 3 ∨ e1 = 4 := by omega
    rcases this with e | e | e | e | e <;> subst e
    · exact ⟨x0, by simp [atI, ixN], .inl rfl⟩
    · exact ⟨x1, by simp [atI, ixN], .inr (.inl rfl)⟩
    · exact ⟨x2, by simp [atI, ixN], .inr (.inr (.inl rfl))⟩
    · exact ⟨x3, by simp [atI, ixN], .inr (.inr (.inr (.inl rfl)))⟩
    · exact ⟨x4, by simp [atI, ixN], .inr (.inr (.inr (.inr rfl)))⟩
  refine ⟨x, h1, ?_, hx2, p1, o1⟩
  have hix : opIx (.p (.lst [x0, x1, x2, x3, x4])) (.p (.int e1)) h1 = .ok (.p x) h1 := by simp [opIx, dctD, opIxS, lstD, hx]
  simp only [F__law_pick, f__law_pick, runF, List.length_cons, List.length_nil, if_true, sRet_ev, f2_ev, fVar, List.map_cons, List.map_nil, List.cons_append, List.nil_append, List.getElem?_cons_zero, List.getElem?_cons_succ, bind_ok, fCall_ev, fCons_ev, fNil_ev, fB_ev, hl, q1, hix, thenS_ok]
  simp [finF, tk]
theorem Pot.take {h : VH} (hp : Pot n h) (k : Nat) (hk : n < k) : Pot n (h.take k) := by
  obtain ⟨u, v, g1, g2⟩ := hp
  exact ⟨u, v, by rw [List.getElem?_take_of_lt hk]; exact g1, g2⟩
theorem Pot.app {h : VH} (hp : Pot n h) (o : VO) : Pot n (h ++ [o]) := by
  obtain ⟨u, v, g1, g2⟩ := hp
  exact ⟨u, v, by rw [List.getElem?_append_left (List.getElem?_eq_some_iff.mp g1).1]; exact g1, g2⟩
theorem Pot.lt {h : VH} (hp : Pot n h) : n < h.length := by
  obtain ⟨u, v, g1, g2⟩ := hp
  exact (List.getElem?_eq_some_iff.mp g1).1
theorem stair_ok {h : VH} (hp : Pot n h) : ∃ a l h', F__law_stair [.ob n] h = .ok (.p (stP a l)) h' ∧ GoodSm a l ∧ Pot n h' ∧ PotOnly n h h' := by
  obtain ⟨way, h1, a1, a2, a3, p1, o1⟩ := draw_ok hp 10 (by decide)
  by_cases hw : way < 4
  · obtain ⟨r, h2, bb1, bb2, bb3, p2, o2⟩ := draw_ok p1 7 (by decide)
    obtain ⟨c, h3, c1, c2, c3, p3, o3⟩ := draw_ok p2 3 (by decide)
    obtain ⟨x, h4, d1, d2, p4, o4⟩ := pick_ok p3 (stP (some 0) [(0, some 3)]) (stP (some 0) [(r - 3, some 3)]) (stP (some 0) []) (stP (some c) [(5 + (r - 3), none)]) (stP none [(r - 3, none)])
    have oo := ((o1.trans o2).trans o3).trans o4
    have tk : h4.take h.length = h4 := List.take_of_length_le (by rw [oo.1]; exact Nat.le_refl _)
    have hx : ∃ a l, x = stP a l ∧ GoodSm a l := by
      rcases d2 with e | e | e | e | e
      · exact ⟨_, _, e, gs1 0 (by decide)⟩
      · exact ⟨_, _, e, gs1 (r - 3) (by omega)⟩
      · exact ⟨_, _, e, gs2⟩
      · exact ⟨_, _, e, gs3 c (5 + (r - 3)) (by omega) (by omega)⟩
      · exact ⟨_, _, e, gs4 (r - 3) (by omega)⟩
    obtain ⟨a, l, rfl, hg⟩ := hx
    refine ⟨a, l, h4, ?_, hg, p4, oo⟩
    simp only [stP, stepsP, stepP, optP, List.map_cons, List.map_nil] at d1 ⊢
    simp only [F__law_stair, f__law_stair, runF, List.length_cons, List.length_nil, if_true, sSeq_ev, sAsgN_ev, fCall_ev, fCons_ev, fNil_ev, fVar, fC_ev, List.map_cons, List.map_nil, List.cons_append, List.nil_append, List.replicate, List.getElem?_cons_zero, List.getElem?_cons_succ, bind_ok, a1, thenS_ok, List.set_cons_succ, List.set_cons_zero, seq_nx, sIf_ev, fT_ev, f2_ev, opLt, opInt0, decide_eq_true hw, asB_bl, cond_true, bb1, opSub, sRet_ev, fLst, fTup, allP, sizeLine]
    simp only [show (0 : Nat) ≤ 16777216 from by decide, show (1 : Nat) ≤ 16777216 from by decide, show (2 : Nat) ≤ 16777216 from by decide, show (3 : Nat) ≤ 16777216 from by decide, show (5 : Nat) ≤ 16777216 from by decide, if_true, bind_ok, List.length_cons, List.length_nil, Nat.zero_add, c1, opAdd, allP, Nat.reduceAdd]
    rw [d1]
    simp [finF, tk]
  · obtain ⟨d0, h2, bb1, bb2, bb3, p2, o2⟩ := draw_ok p1 6 (by decide)
    obtain ⟨m0, h3, c1, c2, c3, p3, o3⟩ := draw_ok p2 5 (by decide)
    obtain ⟨z, h4, d1, d2, d3, p4, o4⟩ := draw_ok p3 6 (by decide)
    have oo := ((o1.trans o2).trans o3).trans o4
    obtain ⟨t, h5, ft1, ft2, ft3, p5, o5⟩ := draw_ok (p4.app (.lst [])) 4 (by decide)
    have hn4 := p4.lt
    have hl5 : h5.length = h4.length + 1 := by rw [o5.1]; simp
    have hm5 : h5[h4.length]? = some (.lst []) := by rw [o5.2 h4.length (by omega)]; simp
    obtain ⟨s6, h6, e6, d, q, st, x7, rfl, p6, l6, m6, k6, u6, dd, qq, ls⟩ := forL_ix (g := gtName 7) (b := b1__law_stair) (IS n h4.length h4 (if z = 0 then none else some (m0 - 4)) (d0 - 6) (m0 - 4) way none) (rngP 0 (1 + t).toNat) 0 (fun i x hx s hh hI => by
        obtain ⟨_, hi2⟩ := rngP_get hx
        rw [Nat.zero_add] at hI ⊢
        exact stair_step h4.length hn4 h4 _ _ _ _ _ i (by omega) x s hh hI)
      [some (.ob n), some (.p (.int way)), none, some (.p (.int (d0 - 6))), some (.p (.int (m0 - 4))), some (.p (optP (if z = 0 then none else some (m0 - 4)))), some (.ob h4.length), none] h5
      ⟨d0 - 6, m0 - 4, [], none, rfl, p5, hl5, hm5, fun j hj hjn => by rw [o5.2 j hjn, List.getElem?_append_left hj], .nil, by simp, by simp, rfl⟩
    rw [Nat.zero_add, rngP_len] at dd qq ls
    have hne : st ≠ [] := by intro e; rw [e] at ls; simp at ls; omega
    obtain ⟨y, h7, g1, g2, g3, p7, o7⟩ := draw_ok p6 6 (by decide)
    have hm7 : h7[h4.length]? = some (.lst (stepsP st)) := by rw [o7.2 h4.length (by omega)]; exact m6
    have hl7 : h7.length = h4.length + 1 := by rw [o7.1]; exact l6
    have hlh : h.length = h4.length := oo.1.symm
    have ha : (if z = 0 then none else some (m0 - 4)) = none ∨ (if z = 0 then none else some (m0 - 4)) = some (m0 - 4) := by split <;> simp
    have hinr : MV.inR (1 + t) = true := by unfold MV.inR; simp; omega
    -- the least, drawn
    have hleast : ∀ s : Sg, s[0]? = some (some (.ob n)) → s[4]? = some (some (.p (.int (m0 - 4)))) → fIfE (fT (f2 opEq (fCall F__law_draw [] (fCons (fVar 0) (fCons (fC (.int 6)) fNil))) (fC (.int 0)))) (fC .non) (fVar 4) s h3 = .ok (.p (optP (if z = 0 then none else some (m0 - 4)))) h4 := fun s e1 e2 => by
      by_cases hz : z = 0
      · simp [fIfE_ev, fVar, e1, d1, opEq, eqB_int, hz, optP]
      · simp [fIfE_ev, fVar, e1, e2, d1, opEq, eqB_int, hz, optP]
    have tkE : ∀ (h8 : VH), h8.length = h4.length + 1 → Pot n h8 → (∀ j, j < h4.length → j ≠ n → h8[j]? = h4[j]?) → Pot n (h8.take h.length) ∧ PotOnly n h (h8.take h.length) := fun h8 w1 w2 w3 => by
      refine ⟨w2.take _ (by omega), by rw [List.length_take]; omega, fun j hj => ?_⟩
      by_cases hjl : j < h.length
      · rw [List.getElem?_take_of_lt hjl, w3 j (by omega) hj, oo.2 j hj]
      · rw [List.getElem?_eq_none (by rw [List.length_take]; omega), List.getElem?_eq_none (by omega)]
    by_cases hy : y = 0
    · -- the last one is open
      obtain ⟨st0, dd0, mm0, rfl, u0, v1, v2⟩ := u6.last hne
      have hsl : (stepsP (st0 ++ [(d, some q)])).length = st0.length + 1 := by simp [stepsP]
      have ixm : atI (stepsP (st0 ++ [(d, some q)])) (-1) = some (stepP (d, some q)) := by rw [stepsP_snoc]; exact TW.atI_last _ _
      have ixn : ixN (stepsP (st0 ++ [(d, some q)])).length (-1) = some st0.length := by
        rw [hsl]; unfold ixN
        rw [if_neg (by decide), if_pos (by omega)]
        congr 1; omega
      have hset : (stepsP (st0 ++ [(d, some q)])).set st0.length (.tup [.int d, .non]) = stepsP (st0 ++ [(d, none)]) := by
        rw [stepsP_snoc, stepsP_snoc]
        have : st0.length = (stepsP st0).length := by simp [stepsP]
        rw [this, List.set_append_right _ _ (Nat.le_refl _)]
        simp [stepP, optP]
      have hl8 : (h7.set h4.length (.lst (stepsP (st0 ++ [(d, none)])))).length = h4.length + 1 := by simp [hl7]
      have hm8 : (h7.set h4.length (.lst (stepsP (st0 ++ [(d, none)]))))[h4.length]? = some (.lst (stepsP (st0 ++ [(d, none)]))) := by simp [hl7]
      have p8 : Pot n (h7.set h4.length (.lst (stepsP (st0 ++ [(d, none)])))) := by
        obtain ⟨u, v, w1, w2⟩ := p7
        exact ⟨u, v, by rw [List.getElem?_set_ne (by omega)]; exact w1, w2⟩
      obtain ⟨r1, r2⟩ := tkE _ hl8 p8 (fun j hj hjn => by rw [List.getElem?_set_ne (by omega), o7.2 j hjn]; exact k6 j hj hjn)
      refine ⟨_, st0 ++ [(d, none)], _, ?_, gs6 _ (m0 - 4) (d0 - 6) dd0 mm0 d st0 ha (by omega) (by omega) u0 v1 (by omega) (by omega) (by simp at ls; omega), r1, r2⟩
      simp only [F__law_stair, f__law_stair, runF, List.length_cons, List.length_nil, if_true, sSeq_ev, sAsgN_ev, fCall_ev, fCons_ev, fNil_ev, fVar, fC_ev, List.map_cons, List.map_nil, List.cons_append, List.nil_append, List.replicate, List.getElem?_cons_zero, List.getElem?_cons_succ, bind_ok, a1, thenS_ok, List.set_cons_succ, List.set_cons_zero, seq_nx, sIf_ev, fT_ev, f2_ev, opLt, opInt0, decide_eq_false hw, asB_bl, cond_false, sNext_ev, sPar, bb1, c1, opSub]
      rw [hleast _ rfl rfl]
      simp only [bind_ok, fLstM, fNil_ev, allP, sizeLine, List.length_nil, show (0 : Nat) ≤ 16777216 from by decide, if_true, thenS_ok, List.set_cons_succ, List.set_cons_zero, seq_nx, sSeq_ev, sFor_ev, fRange1, fCons_ev, f2_ev, fC_ev, fCall_ev, fVar, List.getElem?_cons_zero, List.getElem?_cons_succ, ft1, opAdd, hinr]
      rw [e6]
      simp only [seq_nx, sSeq_ev, sIf_ev, fT_ev, f2_ev, fCall_ev, fCons_ev, fNil_ev, fVar, fC_ev, List.getElem?_cons_zero, List.getElem?_cons_succ, bind_ok, g1, opEq, eqB_int, hy, decide_true, asB_bl, thenS_ok, cond_true, sAsgH, fTup, f1_ev, opNeg, opIx, dctD, hm7, opIxS, lstD, ixm, stepP, tupD, atI_p0, allP, List.length_cons, List.length_nil, sizeLine, show (2 : Nat) ≤ 16777216 from by decide, if_true, ghSub, putD, ixn, hset, sRet_ev, fB_ev, gTuple, MV.b1, hm8, show (3 : Nat) ≤ 16777216 from by decide]
      simp [finF, stP]
    · have hy' : decide (y = 0) = false := decide_eq_false hy
      obtain ⟨r1, r2⟩ := tkE _ hl7 p7 (fun j hj hjn => by rw [o7.2 j hjn]; exact k6 j hj hjn)
      refine ⟨_, st, _, ?_, gs5 _ (m0 - 4) (d0 - 6) d q st ha (by omega) (by omega) u6 (by omega) (by omega) hne (by omega), r1, r2⟩
      simp only [F__law_stair, f__law_stair, runF, List.length_cons, List.length_nil, if_true, sSeq_ev, sAsgN_ev, fCall_ev, fCons_ev, fNil_ev, fVar, fC_ev, List.map_cons, List.map_nil, List.cons_append, List.nil_append, List.replicate, List.getElem?_cons_zero, List.getElem?_cons_succ, bind_ok, a1, thenS_ok, List.set_cons_succ, List.set_cons_zero, seq_nx, sIf_ev, fT_ev, f2_ev, opLt, opInt0, decide_eq_false hw, asB_bl, cond_false, sNext_ev, sPar, bb1, c1, opSub]
      rw [hleast _ rfl rfl]
      simp only [bind_ok, fLstM, fNil_ev, allP, sizeLine, List.length_nil, show (0 : Nat) ≤ 16777216 from by decide, if_true, thenS_ok, List.set_cons_succ, List.set_cons_zero, seq_nx, sSeq_ev, sFor_ev, fRange1, fCons_ev, f2_ev, fC_ev, fCall_ev, fVar, List.getElem?_cons_zero, List.getElem?_cons_succ, ft1, opAdd, hinr]
      rw [e6]
      simp only [seq_nx, sSeq_ev, sIf_ev, fT_ev, f2_ev, fCall_ev, fCons_ev, fNil_ev, fVar, fC_ev, List.getElem?_cons_zero, List.getElem?_cons_succ, bind_ok, g1, opEq, eqB_int, hy', asB_bl, thenS_ok, cond_false, sNext_ev, fTup, allP, List.length_cons, List.length_nil, sizeLine, if_true, sRet_ev, fB_ev, gTuple, MV.b1, lstD, hm7, show (3 : Nat) ≤ 16777216 from by decide]
      simp [finF, stP]
end
end K82

/-! G2: drawn nets. -/
namespace K82
open PySem PySem.Spec PyProof.Rows L2 MV TW

theorem sIx_nat (n k : Nat) (d : Nat) (hk : k ≤ n) : HT.sIx n d (some (k : Int)) = k := by
  show (if (k : Int) < 0 then ((k : Int) + (n : Int)).toNat else min (k : Int).toNat n) = k
  rw [if_neg (by omega)]
  omega
theorem cut_to {α : Type} (f : α → P) (l : List α) (k : Nat) (hk : k ≤ l.length) : cutP (l.map f) none (some (k : Int)) = (l.take k).map f := by
  unfold cutP
  rw [sIx_nat _ _ _ (by simpa using hk)]
  have e : HT.sIx (l.map f).length 0 none = 0 := rfl
  rw [e]
  simp
theorem cut_from {α : Type} (f : α → P) (l : List α) (k : Nat) (hk : k ≤ l.length) : cutP (l.map f) (some (k : Int)) none = (l.drop k).map f := by
  unfold cutP
  rw [sIx_nat _ _ _ (by simpa using hk)]
  have e : HT.sIx (l.map f).length (l.map f).length none = (l.map f).length := rfl
  rw [e, List.map_drop]
  exact List.take_of_length_le (by simp)
theorem opAdd_lst (l m : List P) (h : VH) (hl : l.length + m.length ≤ 1000) : opAdd (.p (.lst l)) (.p (.lst m)) h = .ok (.p (.lst (l ++ m))) h := by
  have e : l.length + m.length ≤ sizeLine := le_line hl
  simp only [opAdd, lstD, e, if_true]
theorem fSl_to {a b : FE} {s : Sg} {h : VH} {l : List P} {i : Int} (e : a s h = .ok (.p (.lst l)) h) (e2 : b s h = .ok (.p (.int i)) h) : fSl a oNone (oSome b) s h = .ok (.p (.lst (cutP l none (some i)))) h := by
  simp only [fSl, e, bind_ok, oNone, oSome, e2, lstD]
theorem fSl_from {a b : FE} {s : Sg} {h : VH} {l : List P} {i : Int} (e : a s h = .ok (.p (.lst l)) h) (e2 : b s h = .ok (.p (.int i)) h) : fSl a (oSome b) oNone s h = .ok (.p (.lst (cutP l (some i) none))) h := by
  simp only [fSl, e, bind_ok, oNone, oSome, e2, lstD]
section
variable {n : Nat}
def HsOk (hs : List (Option Int)) : Prop := ∀ x ∈ hs, ∀ i, x = some i → -10 ≤ i ∧ i ≤ 10
/-- places are put in -/
def IN1 (n : Nat) (h0 : VH) (mo pi t sp : D) (k : Nat) (i : Nat) (s : Sg) (hh : VH) : Prop := ∃ (hs : List (Option Int)) (x6 x7 : Option D), s = [some (.ob n), some mo, some pi, some t, some sp, some (.p (.lst (hs.map optP))), x6, x7, none, none, none, none, none] ∧ HsOk hs ∧ hs.length = k + i ∧ Pot n hh ∧ PotOnly n h0 hh
theorem net_step1 {h0 : VH} {mo pi t sp : D} {k i : Nat} (hk : k + i ≤ 900) (x : P) (s : Sg) (hh : VH) (hI : IN1 n h0 mo pi t sp k i s hh) : ∃ s1, gtName 6 (.p x) s = some s1 ∧ ∃ s2 h2, b1__law_net s1 hh = .nx s2 h2 ∧ IN1 n h0 mo pi t sp k (i + 1) s2 h2 := by
  obtain ⟨hs, x6, x7, rfl, ho, hl, hp, hpo⟩ := hI
  obtain ⟨d, h1, q1, q2, q3, p1, o1⟩ := draw_ok hp ((hs.length : Int) + 1) (by omega)
  obtain ⟨e, h2, r1, r2, r3, p2, o2⟩ := draw_ok p1 13 (by decide)
  obtain ⟨d', rfl⟩ : ∃ d' : Nat, d = (d' : Int) := ⟨d.toNat, by omega⟩
  have hd : d' ≤ hs.length := by omega
  have c1 := cut_to optP hs d' hd
  have c2 := cut_from optP hs d' hd
  refine ⟨_, rfl, _, h2, ?_, hs.take d' ++ [some (e - 4)] ++ hs.drop d', some (.p x), some (.p (.int (d' : Nat))), rfl, ?_, ?_, p2, (hpo.trans o1).trans o2⟩
  · have s1 : ∀ (y : D) (z : Option D) (hh : VH), fSl (fVar 5) oNone (oSome (fVar 7)) [some (.ob n), some mo, some pi, some t, some sp, some (.p (.lst (hs.map optP))), some y, some (.p (.int (d' : Nat))), z, none, none, none, none] hh = .ok (.p (.lst ((hs.take d').map optP))) hh := fun y z hh => by
      rw [← c1]; exact fSl_to rfl rfl
    have s2 : ∀ (y : D) (z : Option D) (hh : VH), fSl (fVar 5) (oSome (fVar 7)) oNone [some (.ob n), some mo, some pi, some t, some sp, some (.p (.lst (hs.map optP))), some y, some (.p (.int (d' : Nat))), z, none, none, none, none] hh = .ok (.p (.lst ((hs.drop d').map optP))) hh := fun y z hh => by
      rw [← c2]; exact fSl_from rfl rfl
    simp_arith [b1__law_net, gLen_lst, q1, s1, s2, r1]
    rw [opAdd_lst _ _ _ (by simp; omega)]
    simp_arith []
    rw [opAdd_lst _ _ _ (by simp; omega)]
    simp_arith [List.map_append, optP]
  · intro y hy j hj
    simp only [List.mem_append, List.mem_singleton] at hy
    rcases hy with (hy | hy) | hy
    · exact ho y (List.mem_of_mem_take hy) j hj
    · subst hy; cases hj; omega
    · exact ho y (List.mem_of_mem_drop hy) j hj
  · simp; omega
/-- heaps with one more object on top -/
structure Top (n m : Nat) (h0 hh : VH) : Prop where
  len : hh.length = m + 1
  pot : Pot n hh
  old : ∀ j, j < m → j ≠ n → hh[j]? = h0[j]?
theorem Top.only {m : Nat} {h0 hh hh' : VH} (t : Top n m h0 hh) (p : Pot n hh') (o : PotOnly n hh hh') : Top n m h0 hh' := ⟨by rw [o.1]; exact t.len, p, fun j hj hn => by rw [o.2 j hn]; exact t.old j hj hn⟩
theorem Pot.set {m : Nat} {h : VH} (p : Pot n h) (hm : m ≠ n) (o : VO) : Pot n (h.set m o) := by
  obtain ⟨u, v, g1, g2⟩ := p
  exact ⟨u, v, by rw [List.getElem?_set_ne hm]; exact g1, g2⟩
theorem Top.set {m : Nat} {h0 hh : VH} (t : Top n m h0 hh) (hm : n < m) (o : VO) : Top n m h0 (hh.set m o) := ⟨by rw [List.length_set]; exact t.len, t.pot.set (by omega) o, fun j hj hn => by rw [List.getElem?_set_ne (by omega)]; exact t.old j hj hn⟩
theorem Top.take {m : Nat} {h0 hh : VH} (t : Top n m h0 hh) (hm : n < m) (h0l : h0.length = m) : Pot n (hh.take m) ∧ PotOnly n h0 (hh.take m) := by
  refine ⟨t.pot.take _ hm, by rw [List.length_take, t.len]; omega, fun j hj => ?_⟩
  by_cases hjl : j < m
  · rw [List.getElem?_take_of_lt hjl, t.old j hjl hj]
  · rw [List.getElem?_eq_none (by rw [List.length_take]; omega), List.getElem?_eq_none (by omega)]
theorem Top.new {h : VH} (p : Pot n h) (o : VO) : Top n h.length h (h ++ [o]) := ⟨by simp, p.app o, fun j hj _ => List.getElem?_append_left hj⟩
/-- pipes are drawn -/
structure PipesOk (N : Nat) (ps : List Pipe) : Prop where
  near : ∀ p ∈ ps, p.near < N
  far : ∀ p ∈ ps, p.far < N
  ne : ∀ p ∈ ps, p.near ≠ p.far
  st : ∀ p ∈ ps, GoodSm p.st.1 p.st.2
theorem PipesOk.snoc {N : Nat} {ps : List Pipe} (h : PipesOk N ps) {p : Pipe} (h1 : p.near < N) (h2 : p.far < N) (h3 : p.near ≠ p.far) (h4 : GoodSm p.st.1 p.st.2) : PipesOk N (ps ++ [p]) := by
  refine ⟨fun q hq => ?_, fun q hq => ?_, fun q hq => ?_, fun q hq => ?_⟩ <;> rcases List.mem_append.mp hq with e | e
  · exact h.near q e
  · rw [List.mem_singleton.mp e]; exact h1
  · exact h.far q e
  · rw [List.mem_singleton.mp e]; exact h2
  · exact h.ne q e
  · rw [List.mem_singleton.mp e]; exact h3
  · exact h.st q e
  · rw [List.mem_singleton.mp e]; exact h4
def IN2 (n m : Nat) (h0 : VH) (mo pi t sp : D) (hs : List (Option Int)) (c : Nat) (i : Nat) (s : Sg) (hh : VH) : Prop := ∃ (ps : List Pipe) (x6 x7 x9 x10 x11 x12 : Option D), s = [some (.ob n), some mo, some pi, some t, some sp, some (.p (.lst (hs.map optP))), x6, x7, some (.ob m), x9, x10, x11, x12] ∧
  Top n m h0 hh ∧ hh[m]? = some (.lst (ps.map pipeP)) ∧ PipesOk hs.length ps ∧ ps.length ≤ c + i
theorem append_ok {m : Nat} {l : List P} {x : P} {hh : VH} (hm : hh[m]? = some (.lst l)) (hl : l.length ≤ 1000) : mAppend (.ob m) [.p x] hh = .ok (.p .non) (hh.set m (.lst (l ++ [x]))) := by
  have e : l.length < sizeLine := by rw [sizeLine_eq]; omega
  simp only [mAppend, hm, e, if_true]
theorem revL_ok {a : FE} {s : Sg} {h : VH} {l : List P} (e : a s h = .ok (.p (.lst l)) h) : fRevL a s h = .ok (.p (.lst l.reverse)) h := by
  simp only [fRevL, e, bind_ok, lstD]
theorem fML_ev (g : OpM) (o : FE) (a : FA) (s : Sg) (h : VH) : fML g o a s h = (o s h).bind fun d h1 => match lstD d h1 with
  | some _ => (a s h1).bind fun ds h2 => g d ds h2
  | none => .bad := rfl
theorem net_step2 {m : Nat} (hnm : n < m) {h0 : VH} {mo pi t sp : D} {hs : List (Option Int)} {c i : Nat} (hc : c + i ≤ 900) (hN : hs.length ≤ 900) {pl : Nat} (hp1 : 1 ≤ pl) (hp2 : pl < hs.length) (s : Sg) (hh : VH) (hI : IN2 n m h0 mo pi t sp hs c i s hh) :
    ∃ s1, gtName 9 (.p (.int (pl : Nat))) s = some s1 ∧ ∃ s2 h2, b2__law_net s1 hh = .nx s2 h2 ∧ IN2 n m h0 mo pi t sp hs c (i + 1) s2 h2 := by
  obtain ⟨ps, x6, x7, x9, x10, x11, x12, rfl, tp, hm, hps, hl⟩ := hI
  obtain ⟨d, h1, q1, q2, q3, p1, o1⟩ := draw_ok tp.pot 6 (by decide)
  have t1 := tp.only p1 o1
  refine ⟨_, rfl, ?_⟩
  by_cases hd : 0 < d
  · obtain ⟨e, h2, r1, r2, r3, p2, o2⟩ := draw_ok p1 (pl : Int) (by omega)
    obtain ⟨e', rfl⟩ : ∃ e' : Nat, e = (e' : Int) := ⟨e.toNat, by omega⟩
    have t2 := t1.only p2 o2
    obtain ⟨b, h3, bb1, bb2, bb3, p3, o3⟩ := draw_ok p2 2 (by decide)
    have t3 := t2.only p3 o3
    obtain ⟨a, l, h4, st1, hg, p4, o4⟩ := stair_ok p3
    have t4 := t3.only p4 o4
    have m3 : h3[m]? = some (.lst (ps.map pipeP)) := by rw [o3.2 m (by omega), o2.2 m (by omega), o1.2 m (by omega)]; exact hm
    have m4 : h4[m]? = some (.lst (ps.map pipeP)) := by rw [o4.2 m (by omega)]; exact m3
    have l4 : m < h4.length := by rw [t4.len]; omega
    have hl1000 : (ps.map pipeP).length ≤ 1000 := by simp; omega
    have d1 : decide (0 < d) = true := decide_eq_true hd
    by_cases hb : b = 0
    · refine ⟨_, h4.set m (.lst ((ps ++ [Pipe.mk e' pl (a, l)]).map pipeP)), ?_, ps ++ [Pipe.mk e' pl (a, l)], x6, x7, some (.p (.int (pl : Nat))), some (.p (.lst [.int (pl : Nat), .int (e' : Nat)])), some (.p (.int (e' : Nat))), some (.p (.int (pl : Nat))), rfl, t4.set hnm _, by simp [l4], hps.snoc (show e' < hs.length by omega) hp2 (show e' ≠ pl by omega) hg, by simp; omega⟩
      have rv : ∀ s : Sg, s[10]? = some (some (.p (.lst [.int (pl : Nat), .int (e' : Nat)]))) → fRevL (fVar 10) s h3 = .ok (.p (.lst [.int (e' : Nat), .int (pl : Nat)])) h3 := fun s hs => revL_ok (l := [.int (pl : Nat), .int (e' : Nat)]) (fVar_get hs _)
      have ap := append_ok (x := .tup [.int (e' : Nat), .int (pl : Nat), stP a l]) m4 hl1000
      simp_arith [b2__law_net, q1, d1, r1, bb1, hb, opEq, eqB_int]
      rw [rv _ rfl]
      simp_arith [fML_ev, lstD, m3, st1, ap, List.map_append, pipeP, stairP]
    · have hb' : decide (b = 0) = false := decide_eq_false hb
      refine ⟨_, h4.set m (.lst ((ps ++ [Pipe.mk pl e' (a, l)]).map pipeP)), ?_, ps ++ [Pipe.mk pl e' (a, l)], x6, x7, some (.p (.int (pl : Nat))), some (.p (.lst [.int (pl : Nat), .int (e' : Nat)])), some (.p (.int (pl : Nat))), some (.p (.int (e' : Nat))), rfl, t4.set hnm _, by simp [l4], hps.snoc hp2 (show e' < hs.length by omega) (show pl ≠ e' by omega) hg, by simp; omega⟩
      have ap := append_ok (x := .tup [.int (pl : Nat), .int (e' : Nat), stP a l]) m4 hl1000
      simp_arith [b2__law_net, q1, d1, r1, bb1, hb', opEq, eqB_int, fML_ev, lstD, m3, st1, ap, List.map_append, pipeP, stairP]
  · have d1 : decide (0 < d) = false := decide_eq_false hd
    refine ⟨_, h1, ?_, ps, x6, x7, some (.p (.int (pl : Nat))), x10, x11, x12, rfl, t1, by rw [o1.2 m (by omega)]; exact hm, hps, by omega⟩
    simp_arith [b2__law_net, q1, d1]
theorem net_step3 {m : Nat} (hnm : n < m) {h0 : VH} {mo pi t sp : D} {hs : List (Option Int)} {c i : Nat} (hc : c + i ≤ 900) (hN : 2 ≤ hs.length ∧ hs.length ≤ 900) (x : P) (s : Sg) (hh : VH) (hI : IN2 n m h0 mo pi t sp hs c i s hh) :
    ∃ s1, gtName 6 (.p x) s = some s1 ∧ ∃ s2 h2, b3__law_net s1 hh = .nx s2 h2 ∧ IN2 n m h0 mo pi t sp hs c (i + 1) s2 h2 := by
  obtain ⟨ps, x6, x7, x9, x10, x11, x12, rfl, tp, hm, hps, hl⟩ := hI
  obtain ⟨d, h1, q1, q2, q3, p1, o1⟩ := draw_ok tp.pot (hs.length : Int) (by omega)
  have t1 := tp.only p1 o1
  obtain ⟨e, h2, r1, r2, r3, p2, o2⟩ := draw_ok p1 ((hs.length : Int) - 1) (by omega)
  have t2 := t1.only p2 o2
  obtain ⟨a, l, h4, st1, hg, p4, o4⟩ := stair_ok p2
  have t4 := t2.only p4 o4
  have m2 : h2[m]? = some (.lst (ps.map pipeP)) := by rw [o2.2 m (by omega), o1.2 m (by omega)]; exact hm
  have m4 : h4[m]? = some (.lst (ps.map pipeP)) := by rw [o4.2 m (by omega)]; exact m2
  have l4 : m < h4.length := by rw [t4.len]; omega
  obtain ⟨d', rfl⟩ : ∃ d' : Nat, d = (d' : Int) := ⟨d.toNat, by omega⟩
  obtain ⟨f', hf1, hf2, hf3⟩ : ∃ f' : Nat, ((d' : Int) + 1 + e) % (hs.length : Int) = (f' : Int) ∧ f' < hs.length ∧ d' ≠ f' := by
    by_cases hlt : (d' : Int) + 1 + e < hs.length
    · refine ⟨((d' : Int) + 1 + e).toNat, ?_, by omega, by omega⟩
      rw [Int.emod_eq_of_lt (by omega) hlt]; omega
    · refine ⟨((d' : Int) + 1 + e - hs.length).toNat, ?_, by omega, by omega⟩
      have e1 : (d' : Int) + 1 + e = ((d' : Int) + 1 + e - hs.length) + hs.length := by omega
      rw [e1, Int.add_emod_right, Int.emod_eq_of_lt (by omega) (by omega)]; omega
  have m1 : decide ((0 : Int) < hs.length) = true := decide_eq_true (by omega)
  have ap := append_ok (x := .tup [.int (d' : Nat), .int (f' : Nat), stP a l]) m4 (by simp; omega)
  refine ⟨_, rfl, _, h4.set m (.lst ((ps ++ [Pipe.mk d' f' (a, l)]).map pipeP)), ?_, ps ++ [Pipe.mk d' f' (a, l)], some (.p x), x7, x9, x10, some (.p (.int (d' : Nat))), some (.p (.int (f' : Nat))), rfl, t4.set hnm _, by simp [l4], hps.snoc (show d' < hs.length by omega) hf2 hf3 hg, by simp; omega⟩
  simp_arith [b3__law_net, gLen_lst, q1, r1, gInt, MV.b1, opMod, opInt, m1, hf1, fML_ev, lstD, m2, st1, ap, List.map_append, pipeP, stairP]
/-- nets that the law draws -/
structure GoodL (net : Net) : Prop where
  good : GoodN net
  few : net.ps.length ≤ 8
  small : ∀ p ∈ net.ps, Small p.st
  hs : HsOk net.hs
theorem net_ok {h : VH} (hp : Pot n h) : ∃ net h', F__law_net [.ob n, .p (.int 4), .p (.int 4)] h = .ok (.p (netP net)) h' ∧ GoodL net ∧ Pot n h' ∧ PotOnly n h h' := by
  obtain ⟨t, h1, q1, q2, q3, p1, o1⟩ := draw_ok hp 4 (by decide)
  obtain ⟨sp, h2, r1, r2, r3, p2, o2⟩ := draw_ok p1 2 (by decide)
  obtain ⟨k, hk⟩ : ∃ k : Nat, 1 + t = (k : Int) := ⟨(1 + t).toNat, by omega⟩
  have hrep : repP k [P.non] = (List.replicate k (none : Option Int)).map optP := by
    unfold repP
    clear hk
    induction k with
    | zero => rfl
    | succ k ih => simp only [List.replicate_succ, List.flatten_cons, ih, List.map_cons]; rfl
  obtain ⟨s3, h3, e3, hs, x6, x7, rfl, ho, hl, p3, o3⟩ := forL_ix (g := gtName 6) (b := b1__law_net) (IN1 n h2 (.p (.int 4)) (.p (.int 4)) (.p (.int (1 + t))) (.p (.int (1 + sp))) k) (rngP 0 (1 + sp).toNat) 0 (fun i x hx s hh hI => by
      obtain ⟨_, hi2⟩ := rngP_get hx
      rw [Nat.zero_add] at hI ⊢
      exact net_step1 (by omega) x s hh hI)
    [some (.ob n), some (.p (.int 4)), some (.p (.int 4)), some (.p (.int (1 + t))), some (.p (.int (1 + sp))), some (.p (.lst ((List.replicate k (none : Option Int)).map optP))), none, none, none, none, none, none, none] h2
    ⟨List.replicate k none, none, none, rfl, (by intro x hx i hi; rw [List.eq_of_mem_replicate hx] at hi; cases hi), by simp, p2, .refl _ _⟩
  rw [Nat.zero_add, rngP_len] at hl
  have hN : 2 ≤ hs.length ∧ hs.length ≤ 6 := by omega
  have hn3 := p3.lt
  have hlen3 : h3.length = h.length := by rw [o3.1, o2.1, o1.1]
  have tp0 := Top.new p3 (.lst [])
  obtain ⟨s4, h4, e4, ps4, y6, y7, y9, y10, y11, y12, rfl, t4, m4, hps4, hl4⟩ := forL_ix (g := gtName 9) (b := b2__law_net) (IN2 n h3.length h3 (.p (.int 4)) (.p (.int 4)) (.p (.int (1 + t))) (.p (.int (1 + sp))) hs 0) (rngP 1 ((hs.length : Int) - 1).toNat) 0 (fun i x hx s hh hI => by
      obtain ⟨rfl, hi2⟩ := rngP_get hx
      rw [Nat.zero_add] at hI ⊢
      have := net_step2 hn3 (by omega) (by omega) (pl := 1 + i) (by omega) (by omega) s hh hI
      exact this)
    [some (.ob n), some (.p (.int 4)), some (.p (.int 4)), some (.p (.int (1 + t))), some (.p (.int (1 + sp))), some (.p (.lst (hs.map optP))), x6, x7, some (.ob h3.length), none, none, none, none] (h3 ++ [.lst []])
    ⟨[], x6, x7, none, none, none, none, rfl, tp0, by simp, ⟨fun _ h => (by cases h), fun _ h => (by cases h), fun _ h => (by cases h), fun _ h => (by cases h)⟩, by simp⟩
  rw [Nat.zero_add, rngP_len, Nat.zero_add] at hl4
  obtain ⟨c, h5, c1, c2, c3, p5, o5⟩ := draw_ok t4.pot 4 (by decide)
  have t5 := t4.only p5 o5
  obtain ⟨s6, h6, e6, ps6, z6, z7, z9, z10, z11, z12, rfl, t6, m6, hps6, hl6⟩ := forL_ix (g := gtName 6) (b := b3__law_net) (IN2 n h3.length h3 (.p (.int 4)) (.p (.int 4)) (.p (.int (1 + t))) (.p (.int (1 + sp))) hs 5) (rngP 0 c.toNat) 0 (fun i x hx s hh hI => by
      obtain ⟨_, hi2⟩ := rngP_get hx
      rw [Nat.zero_add] at hI ⊢
      exact net_step3 hn3 (by omega) (by omega) x s hh hI)
    [some (.ob n), some (.p (.int 4)), some (.p (.int 4)), some (.p (.int (1 + t))), some (.p (.int (1 + sp))), some (.p (.lst (hs.map optP))), y6, y7, some (.ob h3.length), y9, y10, y11, y12] h5
    ⟨ps4, y6, y7, y9, y10, y11, y12, rfl, t5, by rw [o5.2 _ (by omega)]; exact m4, hps4, by omega⟩
  rw [Nat.zero_add, rngP_len] at hl6
  obtain ⟨pp, oo⟩ := t6.take hn3 rfl
  refine ⟨⟨hs, ps6⟩, h6.take h3.length, ?_, ⟨⟨fun x hx i hi => by have := ho x hx i hi; omega, by show 1 ≤ hs.length; omega, by show hs.length ≤ 12; omega, by show ps6.length ≤ 24; omega, hps6.near, hps6.far, hps6.ne, fun p hp => (hps6.st p hp).1⟩, by show ps6.length ≤ 8; omega, fun p hp => (hps6.st p hp).2, ho⟩, pp, ((o1.trans o2).trans o3).trans oo⟩
  have rr1 : MV.inR (1 + sp) = true := inR_of (by omega)
  have rr2 : (MV.inR 1 && MV.inR (hs.length : Int)) = true := by rw [inR_of (i := (hs.length : Int)) (by omega)]; rfl
  have rr3 : MV.inR c = true := inR_of (by omega)
  have oprep : opRep (.p (.lst [.non])) (.p (.int (1 + t))) h2 = .ok (.p (.lst ((List.replicate k (none : Option Int)).map optP))) h2 := by
    have e1 : (decide (0 ≤ (k : Int)) && (decide ((k : Int) ≤ 1000) && decide (([P.non] : List P).length ≤ 1000))) = true := by simp; omega
    simp only [opRep, hk, e1, if_true, Int.toNat_natCast, hrep]
  have f1 : ∀ s : Sg, s[4]? = some (some (.p (.int (1 + sp)))) → fRange1 (fCons (fVar 4) fNil) s h2 = .ok (rngP 0 (1 + sp).toNat) h2 := fun s hs => fRange1_int (fVar_get hs _) rr1
  have f2 : ∀ s : Sg, s[5]? = some (some (.p (.lst (hs.map optP)))) → fRange2 (fCons (fC (.int 1)) (fCons (fB gLen (fCons (fVar 5) fNil)) fNil)) s (h3 ++ [.lst []]) = .ok (rngP 1 ((hs.length : Int) - 1).toNat) (h3 ++ [.lst []]) := fun s hs' => by
    unfold fRange2
    simp only [fCons_ev, fC_ev, fB_ev, fNil_ev, fVar_get hs', bind_ok, gLen_lst, rr2, if_true]
  have f3' : ∀ s : Sg, s[0]? = some (some (.ob n)) → s[2]? = some (some (.p (.int 4))) → fRange1 (fCons (fCall F__law_draw [] (fCons (fVar 0) (fCons (fVar 2) fNil))) fNil) s h4 = .ok (rngP 0 c.toNat) h5 := fun s hs1 hs2 => by
    unfold fRange1
    simp only [fCons_ev, fCall_ev, fNil_ev, fVar_get hs1, fVar_get hs2, bind_ok, c1, rr3, if_true]
  simp_arith [F__law_net, f__law_net, q1, r1, oprep]
  rw [f1 _ rfl]
  simp_arith []
  rw [e3]
  simp_arith []
  rw [f2 _ rfl]
  simp_arith []
  rw [e4]
  simp_arith []
  rw [f3' _ rfl rfl]
  simp_arith []
  rw [e6]
  have g1 : gTuple [.ob h3.length] h6 = .ok (.p (.tup (ps6.map pipeP))) h6 := by simp [gTuple, MV.b1, lstD, m6]
  simp_arith [gTuple_lst, g1]
  simp only [finF, netP, hlen3]
end
end K82

/-! G3: drawn flows and heights. -/
namespace K82
open PySem PySem.Spec PyProof.Rows L2 MV TW

inductive All2 {α β : Type} (R : α → β → Prop) : List α → List β → Prop
  | nil : All2 R [] []
  | cons {a : α} {b : β} {l : List α} {m : List β} : R a b → All2 R l m → All2 R (a :: l) (b :: m)
section
variable {n : Nat}
/-- a comprehension that draws -/
theorem fLc_pot {α β : Type} {i : FI} {g : GT} {e : FE} {own : List Nat} {s : Sg} {h : VH} {l : List α} (enc : α → P) (dec : β → P) (C : α → β → Prop) (hp : Pot n h) (hi : i s h = .ok (l.map enc) h)
    (hs : ∀ x ∈ l, ∀ hh, Pot n hh → ∃ s1, g (.p (enc x)) (wipeS s own) = some s1 ∧ ∃ y hh', e s1 hh = .ok (.p (dec y)) hh' ∧ C x y ∧ Pot n hh' ∧ PotOnly n hh hh') (hn : l.length ≤ 1000) :
    ∃ ys h', fLc i g bYes e own s h = .ok (.p (.lst (ys.map dec))) h' ∧ All2 C l ys ∧ Pot n h' ∧ PotOnly n h h' := by
  have key : ∀ (l : List α) (acc : List P) (hh : VH), (∀ x ∈ l, ∀ hh, Pot n hh → ∃ s1, g (.p (enc x)) (wipeS s own) = some s1 ∧ ∃ y hh', e s1 hh = .ok (.p (dec y)) hh' ∧ C x y ∧ Pot n hh' ∧ PotOnly n hh hh') → acc.length + l.length ≤ 1000 → Top n h.length h hh → hh[h.length]? = some (.lst acc) →
      ∃ ys hh', lcL g bYes e own h.length (l.map enc) s hh = some hh' ∧ All2 C l ys ∧ Top n h.length h hh' ∧ hh'[h.length]? = some (.lst (acc ++ ys.map dec)) := by
    intro l
    induction l with
    | nil => intro acc hh _ _ tp ha; exact ⟨[], hh, rfl, .nil, tp, by simpa using ha⟩
    | cons x l ih =>
      intro acc hh hs hn tp ha
      obtain ⟨s1, g1, y, h2, e1, c1, p2, o2⟩ := hs x (List.mem_cons_self ..) hh tp.pot
      have t2 := tp.only p2 o2
      have hlt := hp.lt
      have ha2 : h2[h.length]? = some (.lst acc) := by rw [o2.2 _ (by omega)]; exact ha
      simp only [List.length_cons] at hn
      have l2 : h.length < h2.length := by rw [t2.len]; omega
      obtain ⟨ys, hh', q1, q2, q3, q4⟩ := ih (acc ++ [dec y]) (h2.set h.length (.lst (acc ++ [dec y]))) (fun z hz => hs z (List.mem_cons_of_mem _ hz)) (by simp; omega) (t2.set hlt _) (by simp [l2])
      refine ⟨y :: ys, hh', ?_, .cons c1 q2, q3, by rw [q4]; simp⟩
      rw [List.map_cons]
      unfold lcL
      rw [g1]
      dsimp only
      rw [bYes_ev]
      dsimp only
      rw [e1]
      dsimp only
      rw [ha2]
      dsimp only
      rw [if_pos (by have := le_line (n := acc.length + 1) (by omega); omega)]
      exact q1
  obtain ⟨ys, hh', q1, q2, q3, q4⟩ := key l [] (h ++ [.lst []]) hs (by simpa using hn) (Top.new hp _) (by simp)
  obtain ⟨r1, r2⟩ := q3.take hp.lt rfl
  refine ⟨ys, hh'.take h.length, ?_, q2, r1, r2⟩
  unfold fLc
  rw [hi]
  dsimp only [bind_ok]
  rw [q1]
  unfold lcEnd
  simp only [q4, List.nil_append]
def hC (o : Option Int) (x : Int) : Prop := match o with
  | some H => x = H
  | none => -100 ≤ x ∧ x ≤ 100
theorem hC_agree : ∀ {ho : List (Option Int)} {hs : List Int}, All2 hC ho hs → Agree ho hs
  | _, _, .nil => trivial
  | none :: _, _, .cons _ r => by have q := hC_agree r; exact q
  | some _ :: _, _, .cons h r => ⟨h, hC_agree r⟩
theorem hC_bd : ∀ {ho : List (Option Int)} {hs : List Int}, HsOk ho → All2 hC ho hs → ∀ x ∈ hs, -100 ≤ x ∧ x ≤ 100
  | _, _, _, .nil, x, hx => by cases hx
  | none :: _, _, ok, .cons h r, x, hx => by
    rcases List.mem_cons.mp hx with e | e
    · subst e; exact h
    · exact hC_bd (fun y hy => ok y (List.mem_cons_of_mem _ hy)) r x e
  | some H :: _, _, ok, .cons h r, x, hx => by
    rcases List.mem_cons.mp hx with e | e
    · subst e
      have := ok _ (List.mem_cons_self ..) H rfl
      have h' : x = H := h
      omega
    · exact hC_bd (fun y hy => ok y (List.mem_cons_of_mem _ hy)) r x e
theorem some_heights_ok {net : Net} (g : GoodL net) {h : VH} (hp : Pot n h) : ∃ hs h', F__law_some_heights [.ob n, .p (netP net)] h = .ok (.p (intsT hs)) h' ∧ Agree net.hs hs ∧ (∀ x ∈ hs, -100 ≤ x ∧ x ≤ 100) ∧ Pot n h' ∧ PotOnly n h h' := by
  obtain ⟨b, h1, q1, q2, q3, p1, o1⟩ := draw_ok hp 13 (by decide)
  have l2 := g.good.len2
  obtain ⟨ys, h2, e2, c2, p2, o2⟩ := fLc_pot (n := n) (i := fSeq (f2 opIx (fVar 1) (fC (.int 1)))) (g := gtName 3) (e := fIfE (fT (f2 opIs (fVar 3) (fC .non))) (f2 opSub (f2 opAdd (fVar 2) (fCall F__law_draw [] (fCons (fVar 0) (fCons (fC (.int 7)) fNil)))) (fC (.int 3))) (fVar 3)) (own := [3]) (s := [some (.ob n), some (.p (netP net)), some (.p (.int (b - 6))), none]) (l := net.hs) optP P.int hC p1 (by simp_arith [net_ix1]) (fun x hx hh ph => by
      refine ⟨_, rfl, ?_⟩
      cases x with
      | none =>
        obtain ⟨d, h3, r1, r2, r3, p3, o3⟩ := draw_ok ph 7 (by decide)
        exact ⟨b - 6 + d - 3, h3, by simp_arith [opIs, isB_opt, Option.isNone_none, r1], ⟨by omega, by omega⟩, p3, o3⟩
      | some H => exact ⟨H, hh, by simp_arith [opIs, isB_opt, Option.isNone_some, optP, isB_int], rfl, ph, .refl _ _⟩) (by omega)
  refine ⟨ys, h2, ?_, hC_agree c2, hC_bd g.hs c2, p2, o1.trans o2⟩
  have tk : finF h.length (.rt (.p (.tup (ys.map P.int))) h2) = .ok (.p (.tup (ys.map P.int))) h2 := by
    have e : h2.take h.length = h2 := List.take_of_length_le (by rw [o2.1, o1.1]; exact Nat.le_refl _)
    simp only [finF, e]
  simp_arith [F__law_some_heights, f__law_some_heights, q1]
  rw [e2]
  simp_arith [gTuple_lst, tk, intsT]
def FsOk (fs : List Int) : Prop := ∀ f ∈ fs, -100 ≤ f ∧ f ≤ 100
def IFl (n m : Nat) (h0 : VH) (net : Net) (i : Nat) (s : Sg) (hh : VH) : Prop := ∃ (fs : List Int) (x3 x4 x5 x6 x7 x8 : Option D), s = [some (.ob n), some (.p (netP net)), some (.ob m), x3, x4, x5, x6, x7, x8] ∧ Top n m h0 hh ∧ hh[m]? = some (.lst (fs.map P.int)) ∧ FsOk fs ∧ fs.length = i
theorem some_flows_ok {net : Net} (g : GoodL net) {h : VH} (hp : Pot n h) : ∃ fs h', F__law_some_flows [.ob n, .p (netP net)] h = .ok (.p (intsT fs)) h' ∧ fs.length = net.ps.length ∧ FsOk fs ∧ Pot n h' ∧ PotOnly n h h' := by
  have hn := hp.lt
  have few := g.few
  obtain ⟨s1, h1, e1, fs, y3, y4, y5, y6, y7, y8, rfl, tp, hm, hf, hl⟩ := forL_ix (g := gtTup 3 (gtsCons (gtName 3) (gtsCons (gtName 4) (gtsCons (gtName 5) gtsNil)))) (b := b1__law_some_flows) (IFl n h.length h net) (net.ps.map pipeP) 0 (fun i x hx s hh hI => by
      rw [Nat.zero_add] at hI ⊢
      obtain ⟨fs, y3, y4, y5, y6, y7, y8, rfl, tp, hm, hf, hl⟩ := hI
      rw [List.getElem?_map] at hx
      obtain ⟨p, hp2, rfl⟩ := Option.map_eq_some_iff.mp hx
      have hi : i < net.ps.length := (List.getElem?_eq_some_iff.mp hp2).1
      have hpm := List.mem_of_getElem? hp2
      have gs := g.good.st p hpm
      have sm := (g.small p hpm).near
      have en := law_flow_ends_ok p.st.1 p.st.2 hh
      have nn : ∀ hh, F__law_near_nought [.p (ends2 (p.st.1, lastM p.st.1 p.st.2))] hh = .ok (.p (.int (begin' p.st.1 p.st.2))) hh := fun hh => near_nought_ok _ _ _
      obtain ⟨d, h2, q1, q2, q3, p2, o2⟩ := draw_ok tp.pot 9 (by decide)
      obtain ⟨z, h3, r1, r2, r3, p3, o3⟩ := draw_ok p2 20 (by decide)
      have bt : F__law_is_between [.p (.int (begin' p.st.1 p.st.2 + d - 4)), .p (ends2 (p.st.1, lastM p.st.1 p.st.2))] h3 = .ok (.p (.bl (isLet (p.st.1, lastM p.st.1 p.st.2) (begin' p.st.1 p.st.2 + d - 4)))) h3 := between_ok _ _ _ _
      have t3 := (tp.only p2 o2).only p3 o3
      have m3 : h3[h.length]? = some (.lst (fs.map P.int)) := by rw [o3.2 _ (by omega), o2.2 _ (by omega)]; exact hm
      have l3 : h.length < h3.length := by rw [t3.len]; omega
      obtain ⟨f, hf1, hf2⟩ : ∃ f : Int, (-100 ≤ f ∧ f ≤ 100) ∧ ∀ s : Sg, s[5]? = some (some (.p (stairP p.st))) → s[6]? = some (some (.p (ends2 (p.st.1, lastM p.st.1 p.st.2)))) → s[7]? = some (some (.p (.int (begin' p.st.1 p.st.2 + d - 4)))) → s[8]? = some (some (.p (.bl (decide (z = 0))))) →
          fIfE (fOr (fTru (fVar 8)) (fTru (fCall F__law_is_between [] (fCons (fVar 7) (fCons (fVar 6) fNil))))) (fVar 7) (fCall F__law_near_nought [] (fCons (fVar 6) fNil)) s h3 = .ok (.p (.int f)) h3 := by
        by_cases hz : z = 0
        · refine ⟨begin' p.st.1 p.st.2 + d - 4, by omega, fun s e5 e6 e7 e8 => ?_⟩
          have dz : decide (z = 0) = true := decide_eq_true hz
          rw [dz] at e8
          simp only [fIfE_ev, fOr_ev, fTru_ev, fVar_get e8, bind_ok, truth_bl, cond_true, fVar_get e7]
        · have dz : decide (z = 0) = false := decide_eq_false hz
          cases hlet : isLet (p.st.1, lastM p.st.1 p.st.2) (begin' p.st.1 p.st.2 + d - 4) with
          | true =>
            refine ⟨begin' p.st.1 p.st.2 + d - 4, by omega, fun s e5 e6 e7 e8 => ?_⟩
            rw [dz] at e8
            rw [hlet] at bt
            simp only [fIfE_ev, fOr_ev, fTru_ev, fVar_get e8, bind_ok, truth_bl, cond_false, fCall_ev, fCons_ev, fNil_ev, fVar_get e7, fVar_get e6, bt, cond_true]
          | false =>
            refine ⟨begin' p.st.1 p.st.2, by omega, fun s e5 e6 e7 e8 => ?_⟩
            rw [dz] at e8
            rw [hlet] at bt
            simp only [fIfE_ev, fOr_ev, fTru_ev, fVar_get e8, bind_ok, truth_bl, cond_false, fCall_ev, fCons_ev, fNil_ev, fVar_get e7, fVar_get e6, bt, nn]
      have ap := append_ok (x := .int f) m3 (by simp; omega)
      refine ⟨_, rfl, _, h3.set h.length (.lst ((fs ++ [f]).map P.int)), ?_, fs ++ [f], some (.p (.int p.near)), some (.p (.int p.far)), some (.p (stairP p.st)), some (.p (ends2 (p.st.1, lastM p.st.1 p.st.2))), some (.p (.int (begin' p.st.1 p.st.2 + d - 4))), some (.p (.bl (decide (z = 0)))), rfl, t3.set hn _, by simp [l3], fun y hy => ?_, by simp; omega⟩
      · have en' : F__law_flow_ends [.p (stairP p.st)] hh = .ok (.p (ends2 (p.st.1, lastM p.st.1 p.st.2))) hh := en
        unfold b1__law_some_flows
        rw [sSeq_ev]
        simp_arith [en']
        simp_arith [nn, q1, r1, opEq, eqB_int, fML_ev, lstD, m3]
        have hf3 := hf2 [some (.ob n), some (.p (netP net)), some (.ob h.length), some (.p (.int p.near)), some (.p (.int p.far)), some (.p (stairP p.st)), some (.p (ends2 (p.st.1, lastM p.st.1 p.st.2))), some (.p (.int (begin' p.st.1 p.st.2 + d - 4))), some (.p (.bl (decide (z = 0))))] rfl rfl rfl rfl
        simp only [fIfE_ev, fOr_ev, fTru_ev, fVar, List.getElem?_cons_succ, List.getElem?_cons_zero, bind_ok, truth_bl, fCall_ev, fCons_ev, fNil_ev, nn] at hf3
        rw [hf3]
        simp_arith [ap, List.map_append]
      · rcases List.mem_append.mp hy with e | e
        · exact hf y e
        · rw [List.mem_singleton.mp e]; exact hf1)
    [some (.ob n), some (.p (netP net)), some (.ob h.length), none, none, none, none, none, none] (h ++ [.lst []]) ⟨[], none, none, none, none, none, none, rfl, Top.new hp _, by simp, fun y hy => (by cases hy), rfl⟩
  rw [Nat.zero_add, List.length_map] at hl
  obtain ⟨pp, oo⟩ := tp.take hn rfl
  refine ⟨fs, h1.take h.length, ?_, hl, hf, pp, oo⟩
  have g1 : gTuple [.ob h.length] h1 = .ok (.p (.tup (fs.map P.int))) h1 := by simp [gTuple, MV.b1, lstD, hm]
  simp_arith [F__law_some_flows, f__law_some_flows, net_ix2]
  rw [e1]
  simp_arith [g1]
  simp only [finF, intsT]
end
end K82

/-! G4: the law. -/
namespace K82
open PySem PySem.Spec PyProof.Rows L2 MV TW

def nlP (k : Nat) : P := .lst [.str "not let", .int k, .bl true]
def numO (o : Option Nat) (v : Int) : P := match o with
  | none => .int v
  | some k => nlP k
theorem fLam_ev {i : Nat} {pt : Str × Option Str} {q n : Str} {gs : List (List (Str × P) → Option P)} {fe : FE} {s : Sg} {h : VH} (e : h[i]? = some (.tab pt q)) : fLam i pt q n gs fe s h = fHeard n gs (fe s) h := by
  unfold fLam
  rw [e]
  simp
theorem heard_num {call : VH → MV.R D} {h : VH} {o : Option Nat} {v : Int} (e : call h = numR o v h) : fHeard "NotLet" gs__law_heard call h = .ok (.p (numO o v)) h := by
  unfold fHeard
  cases o with
  | none => rw [e]; rfl
  | some k =>
    rw [e]
    have e1 : elsV gs__law_heard (notLet k).fs = some [.str "not let", .int k, .bl true] := by
      simp [gs__law_heard, elsV, notLet, List.lookup]
    have e2 : (notLet k).cls = "NotLet" := rfl
    unfold numR
    simp only [e1, e2]
    simp only [if_true, List.length_cons, List.length_nil, take_self, numO, nlP]
    rw [if_pos (le_line (by decide))]
theorem rep_num {o : Option Nat} {v : Int} (ho : ∀ k, o = some k → k ≤ 1000) (hv : -100000000000 ≤ v ∧ v ≤ 100000000000) (h : VH) : gRepr [.p (.lst [numO o v, numO o v])] h = .ok (.p (.rep (.lst [numO o v, numO o v]))) h := by
  have hs : fine (.str "not let") = true := by decide +kernel
  cases o with
  | none =>
    refine rep_fine (by simp [numO, P.py, isDisplay]) ?_ ?_ ?_ h
    · simp [numO, fine, fineL, int12_of (i := v) (by omega)]
    · simp [numO, P.py, pyL, PyData.depth, PyData.depthAll]
    · simp [numO, nodes, nodesL]
  | some k =>
    have hk := ho k rfl
    refine rep_fine (by simp [numO, P.py, isDisplay]) ?_ ?_ ?_ h
    · have e : int12 (k : Int) = true := int12_of (by omega)
      simp only [numO, nlP, fine, fineL, e, Bool.and_true, Bool.true_and] at hs ⊢
      rw [hs]; rfl
    · simp [numO, nlP, P.py, pyL, PyData.depth, PyData.depthAll]
    · simp [numO, nlP, nodes, nodesL]
theorem ints_nil {l : List Nat} (h : VH) : eqB (.p (.lst (l.map fun i : Nat => P.int i))) (.p (.lst [])) h = some l.isEmpty := by
  have e : (l.map fun i : Nat => P.int i) = ((l.map fun i : Nat => some (i : Int)).map optP) := by simp [optP]
  obtain ⟨o1, o2, o3⟩ := optL_ok (l.map fun i : Nat => some (i : Int))
  rw [e, eq_nil_list _ o1 o2 (by omega)]
  cases l <;> rfl
theorem ints_ne {l : List Nat} (h : VH) : opNe (.p (.lst (l.map fun i : Nat => P.int i))) (.p (.lst [])) h = .ok (.p (.bl (!l.isEmpty))) h := by
  unfold opNe
  rw [ints_nil]
section
variable {n : Nat} {net : Net} {fs hs : List Int}
theorem drw (g : GoodL net) (hl : fs.length = net.ps.length) (hf : FsOk fs) : DrawsN net (drawsF (comesT net.ps fs) net.hs 0) where
  len := drawsF_len _ _ _
  num := drawsF_mem _ (fun q => -999 ≤ q ∧ q ≤ 999) (by decide) _ _ fun i _ _ => by
    have := comes_bd 100 (by decide) net.ps fs i g.good.ne hf
    have := g.few
    omega
  spr := drawsF_spr _ _ _
theorem fCallK_ev (F : Fn) (n m : Nat) (pm : List Nat) (a b : FA) (s : Sg) (h : VH) : fCallK F n m pm a b s h = (a s h).bind fun xs h1 => (b s h1).bind fun ys h2 => if xs.length = n ∧ ys.length = m then F (pickL pm (xs ++ ys)) h2 else .bad := rfl
theorem frz_ok {i m : Nat} {s : Sg} {h : VH} {l : List P} (e1 : s[i]? = some (some (.ob m))) (e2 : h[m]? = some (.lst l)) : frz i s h = .nx (s.set i (some (.p (.lst l)))) (h.set m .dead) := by
  unfold frz
  rw [e1]
  dsimp only
  rw [e2]
abbrev S9 (n : Nat) (net : Net) (fs hs : List Int) (cs vs : P) (x9 : Option D) : Sg := [some (.ob n), some (.p (netP net)), some (.p (intsT fs)), some (.p (intsT hs)), some (.p (intsT (drawsF (comesT net.ps fs) net.hs 0))), some (.p (.lst ((farL net fs).map fun i : Nat => .int i))), some (.p (.lst ((oddL net hs).map fun i : Nat => .int i))), some (.p cs), some (.p vs), x9, none, none, none, none, none, none]
def tfq0 : List (He.Defn × Str) := [(("_law_two_right", none), "_law_two_right.<locals>.<lambda>")]
def tabO : VO := .tab ("_law_two_right", none) "_law_two_right.<locals>.<lambda>"
theorem two_right_ok (g : GoodL net) {h : VH} (h0 : h[0]? = some tabO) (hn : n ≠ 0) (hp : Pot n h) : ∃ h', F__law_two_right [.ob n, .p (netP net)] h = .ok (.p (.bl true)) h' ∧ Pot n h' ∧ PotOnly n h h' := by
  obtain ⟨fs, h1, a1, a2, a3, p1, o1⟩ := some_flows_ok g hp
  obtain ⟨hs, h2, b1, b2, b3, p2, o2⟩ := some_heights_ok g p1
  have gg := g.good
  have few := g.few
  have l2 := gg.len2
  have dr := drw g a2 a3
  have hl := agree_len b2
  have oo := o1.trans o2
  have ht : h2[0]? = some tabO := by rw [oo.2 0 (Ne.symm hn)]; exact h0
  refine ⟨h2, ?_, p2, oo⟩
  -- comprehensions
  have c1 : ∀ s : Sg, s = [some (.ob n), some (.p (netP net)), some (.p (intsT fs)), some (.p (intsT hs)), none, none, none, none, none, none, none, none, none, none, none, none] → fLc (fEnum (fCons (f2 opIx (fVar 1) (fC (.int 1))) fNil)) (gtTup 2 (gtsCons (gtName 10) (gtsCons (gtName 11) gtsNil))) bYes (fIfE (fT (f2 opNotIs (fVar 11) (fC .non))) (fC (.int 0)) (fCall F__law_comes [] (fCons (fVar 1) (fCons (fVar 2) (fCons (fVar 10) fNil))))) [10, 11] s h2 =
      .ok (.p (.lst ((drawsF (comesT net.ps fs) net.hs 0).map P.int))) h2 := fun s hs' => by
    subst hs'
    rw [← drawsF_map, List.map_map]
    exact fLc_all (l := net.hs.zipIdx) (fun x : Option Int × Nat => .tup [.int x.2, optP x.1]) _ (by simp_arith [net_ix1, numP_map]) (fun x hx => ⟨_, rfl, fun hh => by
      obtain ⟨o, k⟩ := x
      cases o with
      | none => simp_arith [opNotIs, isB_opt, Option.isNone_none, Function.comp, Option.isSome_none, law_comes_ok net gg.pl]
      | some H => simp_arith [opNotIs, isB_opt, Option.isNone_some, Function.comp, Option.isSome_some, optP, isB_int]⟩) (le_line (by rw [List.length_zipIdx]; omega))
  have c2 : ∀ (z : D) (s : Sg), s = [some (.ob n), some (.p (netP net)), some (.p (intsT fs)), some (.p (intsT hs)), some z, none, none, none, none, none, none, none, none, none, none, none] → fLc (fEnum (fCons (f2 opIx (fVar 1) (fC (.int 2))) fNil)) (gtTup 2 (gtsCons (gtName 12) (gtsCons (gtTup 3 (gtsCons (gtName 13) (gtsCons (gtName 14) (gtsCons (gtName 15) gtsNil)))) gtsNil))) (fNot (fTru (fCall F__law_is_between [] (fCons (f2 opIx (fVar 2) (fVar 12)) (fCons (fCall F__law_flow_ends [] (fCons (fVar 15) fNil)) fNil))))) (fVar 12) [12, 13, 14, 15] s h2 =
      .ok (.p (.lst ((farL net fs).map fun i : Nat => .int i))) h2 := fun z s hs' => by
    subst hs'
    unfold farL
    rw [List.map_map]
    exact fLc_typ (l := net.ps.zipIdx) (fun x : Pipe × Nat => .tup [.int x.2, pipeP x.1]) _ _ (by simp_arith [net_ix2, numP_map]) (fun x hx => ⟨_, rfl, fun hh => by
      obtain ⟨hx1, hx2⟩ := zipIdx_lt hx
      have i1 := ints_ix (hs := fs) (i := x.2) (by omega) hh
      have bt : F__law_is_between [.p (.int (hgt fs x.2)), .p (ends2 (x.1.st.1, lastM x.1.st.1 x.1.st.2))] hh = .ok (.p (.bl (isLet (flowEnds x.1.st) (hgt fs x.2)))) hh := between_ok _ _ _ _
      simp_arith [i1, stairP, law_flow_ends_ok, bt], fun _ hh => by simp_arith [Function.comp]⟩) (le_line (by rw [List.length_zipIdx]; omega))
  have c3 : ∀ (z y : D) (s : Sg), s = [some (.ob n), some (.p (netP net)), some (.p (intsT fs)), some (.p (intsT hs)), some z, some y, none, none, none, none, none, none, none, none, none, none] → fLc (fEnum (fCons (f2 opIx (fVar 1) (fC (.int 2))) fNil)) (gtTup 2 (gtsCons (gtName 12) (gtsCons (gtTup 3 (gtsCons (gtName 13) (gtsCons (gtName 14) (gtsCons (gtName 15) gtsNil)))) gtsNil))) (fT (f2 opIs (fCall F__law_flows_at [] (fCons (fVar 15) (fCons (f2 opSub (f2 opIx (fVar 3) (fVar 13)) (f2 opIx (fVar 3) (fVar 14))) fNil))) (fC .non))) (fVar 12) [12, 13, 14, 15] s h2 =
      .ok (.p (.lst ((oddL net hs).map fun i : Nat => .int i))) h2 := fun z y s hs' => by
    subst hs'
    unfold oddL
    rw [List.map_map]
    exact fLc_typ (l := net.ps.zipIdx) (fun x : Pipe × Nat => .tup [.int x.2, pipeP x.1]) _ _ (by simp_arith [net_ix2, numP_map]) (fun x hx => ⟨_, rfl, fun hh => by
      obtain ⟨hx1, hx2⟩ := zipIdx_lt hx
      have hm := List.mem_of_getElem? hx2
      have i2 := ints_ix (hs := hs) (i := x.1.near) (by rw [hl]; exact gg.near x.1 hm) hh
      have i3 := ints_ix (hs := hs) (i := x.1.far) (by rw [hl]; exact gg.far x.1 hm) hh
      have fa := flows_at_ok x.1.st.1 x.1.st.2 (hgt hs x.1.near - hgt hs x.1.far) (gg.st x.1 hm).ne hh
      have e1 : isB (.p (if isLet (dropEnds x.1.st.1 x.1.st.2) (hgt hs x.1.near - hgt hs x.1.far) = true then ends2 (goF (hgt hs x.1.near - hgt hs x.1.far) x.1.st.1 x.1.st.2) else .non)) (.p .non) = some (!isLet (dropEnds x.1.st.1 x.1.st.2) (hgt hs x.1.near - hgt hs x.1.far)) := by
        cases isLet (dropEnds x.1.st.1 x.1.st.2) (hgt hs x.1.near - hgt hs x.1.far) <;> rfl
      simp_arith [i2, i3, stairP, fa, opIs, e1, dropE, dropP], fun _ hh => by simp_arith [Function.comp]⟩) (le_line (by rw [List.length_zipIdx]; omega))
  -- energies and worths, own and told
  have cs : ∀ (y z : D) (s : Sg), s = [some (.ob n), some (.p (netP net)), some (.p (intsT fs)), some (.p (intsT hs)), some z, some (.p (.lst ((farL net fs).map fun i : Nat => .int i))), some y, none, none, none, none, none, none, none, none, none] → fIfE (fT (f2 opNe (fVar 5) (fLst fNil))) (fLst (fCons (fC (.str "not let")) (fCons (f2 opIx (fVar 5) (fC (.int 0))) (fCons (fC (.bl true)) fNil)))) (fCall F__law_cost [] (fCons (fVar 1) (fCons (fVar 2) fNil))) s h2 = .ok (.p (numO (badF net fs) (cost net fs))) h2 := fun y z s hs' => by
    subst hs'
    have hh := far_head a2.symm
    cases hb : badF net fs with
    | none =>
      rw [hb] at hh
      have e : (farL net fs).isEmpty = true := by rw [List.head?_eq_none_iff.mp hh]; rfl
      simp_arith [opNe, ints_nil, e, law_cost_ok gg a2, numO]
    | some k =>
      rw [hb] at hh
      obtain ⟨r, e⟩ : ∃ r, farL net fs = k :: r := by
        cases hq : farL net fs with
        | nil => rw [hq] at hh; cases hh
        | cons a r => rw [hq] at hh; cases hh; exact ⟨r, rfl⟩
      have ix : opIx (.p (.lst ((farL net fs).map fun i : Nat => P.int i))) (.p (.int 0)) h2 = .ok (.p (.int k)) h2 := by rw [e]; exact opIx_lst _ _ _ _ (atI_head _ _)
      have ie : (farL net fs).isEmpty = false := by rw [e]; rfl
      simp_arith [opNe, ints_nil, ie, ix, numO, nlP]
  have vs : ∀ (y z : D) (s : Sg), s = [some (.ob n), some (.p (netP net)), some (.p (intsT fs)), some (.p (intsT hs)), some (.p (intsT (drawsF (comesT net.ps fs) net.hs 0))), some y, some (.p (.lst ((oddL net hs).map fun i : Nat => .int i))), some z, none, none, none, none, none, none, none, none] → fIfE (fT (f2 opNe (fVar 6) (fLst fNil))) (fLst (fCons (fC (.str "not let")) (fCons (f2 opIx (fVar 6) (fC (.int 0))) (fCons (fC (.bl true)) fNil)))) (fCall F__law_value [] (fCons (fVar 1) (fCons (fVar 4) (fCons (fVar 3) fNil)))) s h2 = .ok (.p (numO (badD net hs) (value net (drawsF (comesT net.ps fs) net.hs 0) hs))) h2 := fun y z s hs' => by
    subst hs'
    have hh := odd_head net hs
    cases hb : badD net hs with
    | none =>
      rw [hb] at hh
      have e : (oddL net hs).isEmpty = true := by rw [List.head?_eq_none_iff.mp hh]; rfl
      simp_arith [opNe, ints_nil, e, law_value_ok gg dr hl hb, numO]
    | some k =>
      rw [hb] at hh
      obtain ⟨r, e⟩ : ∃ r, oddL net hs = k :: r := by
        cases hq : oddL net hs with
        | nil => rw [hq] at hh; cases hh
        | cons a r => rw [hq] at hh; cases hh; exact ⟨r, rfl⟩
      have ix : opIx (.p (.lst ((oddL net hs).map fun i : Nat => P.int i))) (.p (.int 0)) h2 = .ok (.p (.int k)) h2 := by rw [e]; exact opIx_lst _ _ _ _ (atI_head _ _)
      have ie : (oddL net hs).isEmpty = false := by rw [e]; rfl
      simp_arith [opNe, ints_nil, ie, ix, numO, nlP]
  have kbF : ∀ k, badF net fs = some k → k ≤ 1000 := fun k hk => by
    unfold badF at hk
    obtain ⟨x, hx, rfl⟩ := Option.map_eq_some_iff.mp hk
    have := (zipIdx_lt (List.mem_of_find?_eq_some hx)).1
    omega
  have kbD : ∀ k, badD net hs = some k → k ≤ 1000 := fun k hk => by
    unfold badD at hk
    obtain ⟨x, hx, rfl⟩ := Option.map_eq_some_iff.mp hk
    have := (zipIdx_lt (List.mem_of_find?_eq_some hx)).1
    omega
  have cb := cost_bd gg (fs := fs) (fun f hf => by have := a3 f hf; omega)
  have vb := value_bd gg dr (hs := hs) (fun x hx => by have := b3 x hx; omega)
  have rC := fun hh => rep_num (v := cost net fs) kbF cb hh
  have rV := fun hh => rep_num (v := value net (drawsF (comesT net.ps fs) net.hs 0) hs) kbD vb hh
  have fE := fun hh => flows_energy_ok gg a2 hh
  have hE := fun hh => heights_worth_ok gg dr b2 hh
  -- lambdas
  have tab : ∀ l : VH, (h2 ++ l)[0]? = some tabO := fun l => by rw [List.getElem?_append_left (by have := p2.lt; omega)]; exact ht
  have k1 : ∀ (l : VH) (x9 : Option D), fLam 0 ("_law_two_right", none) "_law_two_right.<locals>.<lambda>" "NotLet" gs__law_heard (fCall F_flows_energy [] (fCons (fVar 1) (fCons (fVar 2) fNil))) (S9 n net fs hs (numO (badF net fs) (cost net fs)) (numO (badD net hs) (value net (drawsF (comesT net.ps fs) net.hs 0) hs)) x9) (h2 ++ l) = .ok (.p (numO (badF net fs) (cost net fs))) (h2 ++ l) := fun l x9 => by
    rw [fLam_ev (tab l)]
    exact heard_num (by simp_arith [fE])
  have k2 : ∀ (l : VH) (x9 : Option D), fLam 0 ("_law_two_right", none) "_law_two_right.<locals>.<lambda>" "NotLet" gs__law_heard (fCallK F_flows_energy 0 2 [1, 0] fNil (fCons (fVar 2) (fCons (fVar 1) fNil))) (S9 n net fs hs (numO (badF net fs) (cost net fs)) (numO (badD net hs) (value net (drawsF (comesT net.ps fs) net.hs 0) hs)) x9) (h2 ++ l) = .ok (.p (numO (badF net fs) (cost net fs))) (h2 ++ l) := fun l x9 => by
    rw [fLam_ev (tab l)]
    exact heard_num (by
      simp_arith [fCallK_ev, pickL, List.filterMap_cons, List.filterMap_nil, and_self, fE])
  have k3 : ∀ (l : VH) (x9 : Option D), fLam 0 ("_law_two_right", none) "_law_two_right.<locals>.<lambda>" "NotLet" gs__law_heard (fCall F_heights_worth [] (fCons (fVar 1) (fCons (fVar 4) (fCons (fVar 3) fNil)))) (S9 n net fs hs (numO (badF net fs) (cost net fs)) (numO (badD net hs) (value net (drawsF (comesT net.ps fs) net.hs 0) hs)) x9) (h2 ++ l) = .ok (.p (numO (badD net hs) (value net (drawsF (comesT net.ps fs) net.hs 0) hs))) (h2 ++ l) := fun l x9 => by
    rw [fLam_ev (tab l)]
    exact heard_num (by simp_arith [hE])
  have k4 : ∀ (l : VH) (x9 : Option D), fLam 0 ("_law_two_right", none) "_law_two_right.<locals>.<lambda>" "NotLet" gs__law_heard (fCallK F_heights_worth 0 3 [2, 1, 0] fNil (fCons (fVar 3) (fCons (fVar 4) (fCons (fVar 1) fNil)))) (S9 n net fs hs (numO (badF net fs) (cost net fs)) (numO (badD net hs) (value net (drawsF (comesT net.ps fs) net.hs 0) hs)) x9) (h2 ++ l) = .ok (.p (numO (badD net hs) (value net (drawsF (comesT net.ps fs) net.hs 0) hs))) (h2 ++ l) := fun l x9 => by
    rw [fLam_ev (tab l)]
    exact heard_num (by
      simp_arith [fCallK_ev, pickL, List.filterMap_cons, List.filterMap_nil, and_self, hE])
  have st : ∀ hh, F_is_stand [.p (netP net), .p (intsT (drawsF (comesT net.ps fs) net.hs 0)), .p (.tup [intsT hs, intsT fs])] hh = .ok (.p (.bl (onAll hs net.ps fs))) hh := fun hh => by
    rw [is_stand_ok gg dr b2 a2, kept_own, Bool.and_true]
  generalize hC : numO (badF net fs) (cost net fs) = C at *
  generalize hV : numO (badD net hs) (value net (drawsF (comesT net.ps fs) net.hs 0) hs) = V at *
  -- the first half
  have first : f__law_two_right [some (.ob n), some (.p (netP net)), none, none, none, none, none, none, none, none, none, none, none, none, none, none] h = .rt (.p (.bl true)) (h2 ++ [.dead, .dead]) := by
    unfold f__law_two_right
    simp_arith [a1, b1]
    rw [c1 _ rfl]
    simp_arith [gTuple_lst]
    rw [c2 _ _ rfl]
    simp_arith []
    rw [c3 _ _ _ rfl]
    simp_arith []
    have cs' := cs (.p (.lst ((oddL net hs).map fun i : Nat => .int i))) (.p (intsT (drawsF (comesT net.ps fs) net.hs 0))) _ rfl
    unfold intsT at cs'
    simp_arith [] at cs'
    unfold intsT
    rw [cs']
    simp_arith []
    have vs' := vs (.p (.lst ((farL net fs).map fun i : Nat => .int i))) (.p C) _ rfl
    unfold intsT at vs'
    simp_arith [] at vs'
    rw [vs']
    simp_arith []
    have len1 : (h2 ++ [VO.dead]).length = h2.length + 1 := by simp
    have asc1 : (h2 ++ [VO.dead]) ++ [VO.lst [V]] = h2 ++ [VO.dead, VO.lst [V]] := by simp
    have g1 : (h2 ++ [VO.lst [C]])[h2.length]? = some (.lst [C]) := by simp
    have ap1 : mAppend (.ob h2.length) [.p C] (h2 ++ [.lst [C]]) = .ok (.p .non) (h2 ++ [.lst [C, C]]) := by
      rw [append_ok g1 (by simp)]; simp
    have g3 : (h2 ++ [VO.dead, VO.lst [V]])[h2.length + 1]? = some (.lst [V]) := by simp
    have ap2 : mAppend (.ob (h2.length + 1)) [.p V] (h2 ++ [.dead, .lst [V]]) = .ok (.p .non) (h2 ++ [.dead, .lst [V, V]]) := by
      rw [append_ok g3 (by simp)]; simp
    have fz1 : ∀ s : Sg, s[9]? = some (some (.ob h2.length)) → frz 9 s (h2 ++ [.lst [C, C]]) = .nx (s.set 9 (some (.p (.lst [C, C])))) (h2 ++ [.dead]) := fun s hs' => by
      rw [frz_ok hs' (l := [C, C]) (by simp)]; simp
    have fz2 : ∀ s : Sg, s[9]? = some (some (.ob (h2.length + 1))) → frz 9 s (h2 ++ [.dead, .lst [V, V]]) = .nx (s.set 9 (some (.p (.lst [V, V])))) (h2 ++ [.dead, .dead]) := fun s hs' => by
      rw [frz_ok hs' (l := [V, V]) (by simp)]; simp
    have k1' := k1 [] none
    simp only [S9, intsT, List.append_nil] at k1 k2 k3 k4 k1'
    rw [k1']
    simp_arith [fML_ev, lstD, g1, k2, ap1]
    rw [fz1 _ rfl]
    simp_arith [rC, ne_rep, k3, len1, asc1]
    simp_arith [fML_ev, lstD, g3, k4, ap2]
    rw [fz2 _ rfl]
    simp_arith [rV, ne_rep, ints_ne]
    have st' := fun hh => st hh
    simp only [intsT] at st'
    have isF : ∀ hh, opIs (.p (.bl false)) (.p (.bl false)) hh = .ok (.p (.bl true)) hh := fun _ => rfl
    have hF := far_head a2.symm
    have hD := odd_head net hs
    have hfe : (farL net fs).isEmpty = (badF net fs).isNone := by rw [← hF]; cases farL net fs <;> rfl
    have hde : (oddL net hs).isEmpty = (badD net hs).isNone := by rw [← hD]; cases oddL net hs <;> rfl
    cases hbF : badF net fs with
    | some k =>
      have hon : onAll hs net.ps fs = false := badF_on gg (by rw [hbF]; exact fun z => by cases z) a2.symm
      simp_arith [hfe, hbF, Option.isNone_some, st', isF, hon]
    | none =>
      cases hbD : badD net hs with
      | some k =>
        have hon : onAll hs net.ps fs = false := badD_on gg (by rw [hbD]; exact fun z => by cases z) a2.symm
        simp_arith [hfe, hbF, Option.isNone_none, hde, hbD, Option.isNone_some, st', isF, hon]
      | none =>
        obtain ⟨q1, q2⟩ := law82 gg a2.symm b2 hbF hbD
        have eC : C = .int (cost net fs) := by rw [← hC, hbF]; rfl
        have eV : V = .int (value net (drawsF (comesT net.ps fs) net.hs 0) hs) := by rw [← hV, hbD]; rfl
        subst eC eV
        have ebl : (decide (cost net fs = value net (drawsF (comesT net.ps fs) net.hs 0) hs) == onAll hs net.ps fs) = true := by
          rw [beq_iff_eq]
          cases ho : onAll hs net.ps fs with
          | true => exact decide_eq_true (q2.mpr ho)
          | false => exact decide_eq_false (fun z => by rw [q2.mp z] at ho; cases ho)
        simp_arith [hfe, hbF, Option.isNone_none, hde, hbD, decide_eq_true q1, opEq, eqB_int, st', eqB_bl, ebl]
  simp_arith [F__law_two_right]
  rw [first]
  have tk : (h2 ++ [VO.dead, VO.dead]).take h.length = h2 := by rw [← oo.1]; simp
  simp only [finF, tk]
theorem law_right_ok {h : VH} (h0 : h[0]? = some tabO) (hn : n ≠ 0) (hp : Pot n h) : ∃ h', F__law_right [.ob n] h = .ok (.p (.bl true)) h' ∧ Pot n h' ∧ PotOnly n h h' := by
  obtain ⟨net, h1, a1, g, p1, o1⟩ := net_ok hp
  have ht : h1[0]? = some tabO := by rw [o1.2 0 (Ne.symm hn)]; exact h0
  have key : ∀ (l : List Nat) (acc : List P) (hh : VH), acc.length + l.length ≤ 1000 → hh[0]? = some tabO → Top n h1.length h1 hh → hh[h1.length]? = some (.lst acc) →
      ∃ hh', lcL (gtName 3) bYes (fCall F__law_two_right [] (fCons (fVar 0) (fCons (fVar 1) fNil))) [3] h1.length (l.map fun i : Nat => .int i) [some (.ob n), some (.p (netP net)), some (.p (.rep (netP net))), none] hh = some hh' ∧ Top n h1.length h1 hh' ∧ hh'[h1.length]? = some (.lst (acc ++ l.map fun _ => .bl true)) := by
    intro l
    induction l with
    | nil => intro acc hh _ _ tp ha; exact ⟨hh, rfl, tp, by simpa using ha⟩
    | cons x l ih =>
      intro acc hh hl h00 tp ha
      obtain ⟨h2, e2, p2, o2⟩ := two_right_ok g h00 hn tp.pot
      have t2 := tp.only p2 o2
      have hlt := p1.lt
      have ha2 : h2[h1.length]? = some (.lst acc) := by rw [o2.2 _ (by omega)]; exact ha
      simp only [List.length_cons] at hl
      have l2 : h1.length < h2.length := by rw [t2.len]; omega
      have h02 : (h2.set h1.length (.lst (acc ++ [.bl true])))[0]? = some tabO := by
        rw [List.getElem?_set_ne (by omega), o2.2 0 (Ne.symm hn)]; exact h00
      obtain ⟨hh', q1, q2, q3⟩ := ih (acc ++ [.bl true]) (h2.set h1.length (.lst (acc ++ [.bl true]))) (by simp; omega) h02 (t2.set hlt _) (by simp [l2])
      refine ⟨hh', ?_, q2, by rw [q3]; simp⟩
      rw [List.map_cons]
      unfold lcL
      have ee : (fCall F__law_two_right [] (fCons (fVar 0) (fCons (fVar 1) fNil))) [some (.ob n), some (.p (netP net)), some (.p (.rep (netP net))), some (.p (.int x))] hh = .ok (.p (.bl true)) h2 := by
        simp_arith [e2]
      have eg : gtName 3 (.p (.int x)) (wipeS [some (.ob n), some (.p (netP net)), some (.p (.rep (netP net))), none] [3]) = some [some (.ob n), some (.p (netP net)), some (.p (.rep (netP net))), some (.p (.int x))] := rfl
      rw [eg]
      dsimp only
      rw [bYes_ev]
      dsimp only
      rw [ee]
      dsimp only
      rw [ha2]
      dsimp only
      rw [if_pos (by have := le_line (n := acc.length + 1) (by omega); omega)]
      exact q1
  have hlt := p1.lt
  obtain ⟨hh', q1, q2, q3⟩ := key (List.range 8) [] (h1 ++ [.lst []]) (by simp) (by rw [List.getElem?_append_left (by omega)]; exact ht) (Top.new p1 _) (by simp)
  obtain ⟨r1, r2⟩ := q2.take hlt rfl
  refine ⟨hh'.take h1.length, ?_, r1, o1.trans r2⟩
  have hlc : fLc (fRange1 (fCons (fC (.int 8)) fNil)) (gtName 3) bYes (fCall F__law_two_right [] (fCons (fVar 0) (fCons (fVar 1) fNil))) [3] [some (.ob n), some (.p (netP net)), some (.p (.rep (netP net))), none] h1 = .ok (.p (.lst ((List.range 8).map fun _ => .bl true))) (hh'.take h1.length) := by
    have e8 : fRange1 (fCons (fC (.int 8)) fNil) [some (.ob n), some (.p (netP net)), some (.p (.rep (netP net))), none] h1 = .ok ((List.range 8).map fun i : Nat => .int i) h1 := fRange1_nat (m := 8) rfl (by decide)
    unfold fLc
    rw [e8]
    dsimp only [bind_ok]
    rw [q1]
    unfold lcEnd
    simp only [q3, List.nil_append]
  have tk : ∀ x : P, finF h.length (.rt (.p x) (hh'.take h1.length)) = .ok (.p x) (hh'.take h1.length) := fun x => by
    have e : (hh'.take h1.length).take h.length = hh'.take h1.length := List.take_of_length_le (by rw [r2.1, o1.1]; exact Nat.le_refl _)
    simp only [finF, e]
  simp_arith [F__law_right, f__law_right, a1, rep_net g.good]
  rw [hlc]
  simp_arith [gAll_map, all_true, rep_net g.good, eq_rep, tk]
end
theorem law_true0 : ∀ ns : List Int, ns.length ≤ 63 → ∃ h, F_law [scriptD ns] (tabsV tfq0) = .ok (.p (.bl true)) h := fun ns _ => by
  obtain ⟨p, q, e, h1, h2, h3⟩ := pot_ok ns 0 (.inl rfl) (tabsV tfq0)
  obtain ⟨h', e2, p2, o2⟩ := law_right_ok (n := 1) (h := tabsV tfq0 ++ [.lst [.int p, .int q]]) rfl (by decide) ⟨p, q, rfl, h1, h2, h3⟩
  obtain ⟨p', q', e3, h4, h5, h6⟩ := pot_ok ns 1 (.inr rfl) h'
  have l' : h'.length = 2 := by rw [o2.1]; rfl
  have t' : h'[0]? = some tabO := by rw [o2.2 0 (by decide)]; rfl
  obtain ⟨h'', e4, p4, o4⟩ := law_right_ok (n := 2) (h := h' ++ [.lst [.int p', .int q']]) (by rw [List.getElem?_append_left (by omega)]; exact t') (by decide) ⟨p', q', by rw [List.getElem?_append_right (by omega)]; simp [l'], h4, h5, h6⟩
  have ln : (tabsV tfq0).length = 1 := rfl
  refine ⟨h''.take 1, ?_⟩
  rw [ln] at e
  rw [l'] at e3
  simp_arith [F_law, f_law, e, e2, e3, e4]
  simp only [finF, ln]
end K82

namespace K82
open MV
theorem law_true : ∀ ns : List Int, ns.length ≤ 63 → ∃ h, F_law [scriptD ns] (tabsV tfq) = .ok (.p (.bl true)) h := law_true0
end K82

open PySem PySem.W PySem.Calls PyProof.Rows
theorem PySem.Challenge.cw_tapworks_k82_whole_flows_against_heights_holds : PySem.Challenge.rw_tapworks_k82_whole_flows_against_heights.Holds := by
  w_on; o_law
  refine HandSHeadRun.head_any (r := OpenLaw.row PySem.Challenge.rw_tapworks_k82_whole_flows_against_heights) (q := view (OpenLaw.row PySem.Challenge.rw_tapworks_k82_whole_flows_against_heights).prog [90]) (H := K82.hk) (ob := K82.ob) (M := 4000) (loose := K82.loose) (d := HandSHeadRun.topDef (OpenLaw.row PySem.Challenge.rw_tapworks_k82_whole_flows_against_heights).prog 90) (kwd := []) K82.ob_eq
    (by kernel_rfl) (fun s => by kernel_rfl) K82.run (by kernel_rfl) (by kernel_rfl) (by kernel_rfl) (by rfl) (by first | assumption | decide +kernel) (by decide +kernel) ⟨rfl, rfl, rfl, rfl, rfl, by decide +kernel⟩ ?hw ?hc
  case hw => w_witness2
  case hc =>
    refine MV.walkMT (l := PySem.Challenge.rw_tapworks_k82_whole_flows_against_heights) (n := 63) (k := 15) (x := "script") K82.tfq rfl (by decide) (by kernel_rfl) ⟨rfl, by decide, by decide⟩ ?F
    intro w mg fa h Y G hmg0
    obtain ⟨K, KX, c⟩ := Y
    have hmg : mg ("law" : PySem.Str) = some (.ref fa) := by
      have e : (HandSHeadRun.topDef (OpenLaw.row PySem.Challenge.rw_tapworks_k82_whole_flows_against_heights).prog 90).name = ("law" : PySem.Str) := by kernel_rfl
      rw [← e]
      exact hmg0
    obtain ⟨fd, hb, hF⟩ := K82.facts (P := (PySem.Challenge.rw_tapworks_k82_whole_flows_against_heights).prog) (w := w) KX G hmg c.t.d c.more
    have hmem : ∀ p ∈ K82.tfq, p.1 ∈ K82.tfn := by decide
    refine ⟨K, fd, K82.F_law, MV.RXK K, KX, by show List.Nodup [_]; simp, fun b hb => ?_, fun b hb => ?_, fun p hp => PySem.W.codeHd_of_K KX (c.hd p.1 (hmem p hp)), hb, K82.law_true, hF⟩
    · obtain ⟨p, hp, rfl⟩ := List.mem_map.mp hb
      exact c.empty p.1 (hmem p hp)
    · obtain ⟨p, hp, rfl⟩ := List.mem_map.mp hb
      exact c.out p.1 (hmem p hp)

